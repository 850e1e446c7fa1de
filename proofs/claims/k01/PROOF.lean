import PyProof.Rows.All
import Wide.All
import OpenK.AllK
import Wide.FinOn
import HandS.ForMost
import HandS.Exc
import HandS.ExcOwn
import HandS.WordsExc
import KE.KeyNested
import HandS.TupAny
import HandS.TupMul
import HandS.Wide
import HandS.Flow
import HandS.Deep
import HandS.IsInst
import KE.SortData
import HandS.Conv
import HandS.Text
import HandS.Zip
import HandS.Style
import HandS.SetFor
import HandS.Remove
import HandS.Defaults
import HandS.SortInts
import HandS.Set
import HandS.Strs
import KE.GoesMore
import HandS.TupSets
import HandS.TupLen
import KE.KEqDict
import PyProof.Rows.TupDisplay
import HandS.TryMany
import HandS.HeadHook4
import PyProof.Rows.WhileStrip
import KE.KRevSl
import KE.KStateDown
import HandS.More
import HandS.Head0
import HandS.Head1
import HandS.Head2
import HandS.HeadEnd
import HandS.HeadHook1
import HandS.HeadHook2
import HandS.HeadHook3
import HandS.HeadWalk
import PySem.Challenge.RW_hatnames_k01_rules_kinds_and_outcomes_re
set_option Elab.async false
set_option linter.all false
set_option maxRecDepth 100000
set_option maxHeartbeats 0
namespace DL
open PySem PySem.Spec PyProof.Rows L2
/-- the world, for hashes -/
class WC where
  w : World
/-! ### data -/
/-- a value as data; arg: a list that is only read (the script); dct: a dict that is only read, its keys, its values; ptr: a thing of the store (one that changes); raw: a def, a class -/
inductive D where
  | non | bl (b : Bool) | int (i : Int) | str (s : Str)
  | tup (xs : List D) | lst (xs : List D) | arg (xs : List D) | dct (ks vs : List D) | ptr (n : Nat) | raw (v : V)
mutual
def D.beq : D → D → Bool
  | .non, .non => true
  | .bl a, .bl b => a == b
  | .int a, .int b => a == b
  | .str a, .str b => decide (a = b)
  | .tup a, .tup b => D.beqL a b
  | .lst a, .lst b => D.beqL a b
  | .arg a, .arg b => D.beqL a b
  | .dct a b, .dct c d => D.beqL a c && D.beqL b d
  | .ptr a, .ptr b => a == b
  | .raw a, .raw b => decide (a = b)
  | _, _ => false
def D.beqL : List D → List D → Bool
  | [], [] => true
  | x :: xs, y :: ys => D.beq x y && D.beqL xs ys
  | _, _ => false
end
mutual
theorem D.beq_eq : ∀ (a b : D), D.beq a b = true ↔ a = b
  | .non, b => by cases b <;> simp [D.beq]
  | .bl _, b => by cases b <;> simp [D.beq]
  | .int _, b => by cases b <;> simp [D.beq]
  | .str _, b => by cases b <;> simp [D.beq]
  | .tup xs, b => by cases b <;> simp [D.beq, D.beqL_eq xs]
  | .lst xs, b => by cases b <;> simp [D.beq, D.beqL_eq xs]
  | .arg xs, b => by cases b <;> simp [D.beq, D.beqL_eq xs]
  | .dct xs ys, b => by cases b <;> simp [D.beq, D.beqL_eq xs, D.beqL_eq ys]
  | .ptr _, b => by cases b <;> simp [D.beq]
  | .raw _, b => by cases b <;> simp [D.beq]
theorem D.beqL_eq : ∀ (a b : List D), D.beqL a b = true ↔ a = b
  | [], b => by cases b <;> simp [D.beqL]
  | x :: xs, b => by cases b <;> simp [D.beqL, D.beq_eq x, D.beqL_eq xs]
end
instance : DecidableEq D := fun a b => decidable_of_iff _ (D.beq_eq a b)
instance : Inhabited D := ⟨.non⟩
abbrev Env := List (Option D)
/-- a thing that changes -/
inductive Ob where
  | lst (xs : List D)
  | dct (n : Nat) (ks vs : List D)
  | kd (fs : List (Key × D))
  deriving DecidableEq
abbrev Store := List Ob
/-- an error of the program's own: its class's name, its fields -/
structure Ex where
  c : Str
  fs : List (Str × D) := []
inductive Res (α : Type) where
  | ok (a : α) (μ : Store)
  | ex (e : Ex) (μ : Store)
  | bad
def M (α : Type) := Store → Res α
def Mret {α : Type} (a : α) : M α := fun μ => .ok a μ
def Mbind {α β : Type} (x : M α) (f : α → M β) : M β := fun μ => match x μ with
  | .ok a μ' => f a μ'
  | .ex e μ' => .ex e μ'
  | .bad => .bad
def Mbad {α : Type} : M α := fun _ => .bad
def Mraise {α : Type} (e : Ex) : M α := fun μ => .ex e μ
instance : Monad M where
  pure := Mret
  bind := Mbind
theorem pure_at {α : Type} (a : α) (μ : Store) : (pure a : M α) μ = .ok a μ := rfl
theorem bind_at {α β : Type} (x : M α) (f : α → M β) (μ : Store) : (x >>= f) μ = match x μ with
  | .ok a μ' => f a μ'
  | .ex e μ' => .ex e μ'
  | .bad => .bad := rfl
/-! ### dicts: keys of any depth -/
mutual
def keyOf : D → Option NestedKey
  | .non => some .none
  | .int i => some (.num i)
  | .str s => some (.text s)
  | .tup xs => (keyOfL xs).map .tup
  | _ => none
def keyOfL : List D → Option (List NestedKey)
  | [] => some []
  | x :: xs => match keyOf x, keyOfL xs with
    | some k, some ks => some (k :: ks)
    | _, _ => none
end
/-- a row of a dict: its key, the key's address, the value -/
structure Row where
  k : NestedKey
  b : Addr
  v : V
/-- what a dict's object holds: its rows, their values, its epoch -/
structure Tbl where
  rows : List Row
  us : List Value
  ep : Nat
def Tbl.es (w : World) (T : Tbl) : List DictEntry := (T.rows.zip T.us).map fun p => ⟨p.1.k.hash w, .ref p.1.b, p.2⟩
/-- the dict at a, without its keys -/
structure DictN0 (w : World) (h : Heap) (a : Addr) (T : Tbl) : Prop where
  ob : ∃ o es, h.get? a = some o ∧ o.ExactDict ∧ o.data = .dict es T.ep ∧ es.toList = T.es w
  vals : Vals (T.rows.map (·.v)) T.us
  sm : (a == sysModules) = false
  nd : (T.rows.map (·.k)).Nodup
  dep : ∀ r ∈ T.rows, r.k.depth ≤ 8
def dctO (w : World) (a : Addr) (T : Tbl) : HO := .ext fun h => DictN0 w h a T
/-! ### how data lies in the heap -/
section
variable [WC]
mutual
inductive Rep (K : PySem.W.Frag) (F : Hp) (θ : List Addr) : V → D → Prop where
  | non : Rep K F θ .non .non
  | bl (b : Bool) : Rep K F θ (.bl b) (.bl b)
  | int (i : Int) : Rep K F θ (.int i) (.int i)
  | str (x : Str) : Rep K F θ (.str x) (.str x)
  | tup {a : Addr} {vs : List V} {ds : List D} : SqT K F a vs → RepL K F θ vs ds → Rep K F θ (.ref a) (.tup ds)
  | lst {a : Addr} {vs : List V} {ds : List D} : F a = some (.lst vs) → RepL K F θ vs ds → Rep K F θ (.ref a) (.lst ds)
  | arg {a : Addr} {vs : List V} {ds : List D} : SqL K F a vs → RepL K F θ vs ds → Rep K F θ (.ref a) (.arg ds)
  | dct {a : Addr} {T : Tbl} {ks vs : List D} : F a = some (dctO WC.w a T) → keyOfL ks = some (T.rows.map (·.k)) → RepL K F θ (T.rows.map fun r => .ref r.b) ks → RepL K F θ (T.rows.map (·.v)) vs → Rep K F θ (.ref a) (.dct ks vs)
  | ptr {a : Addr} {n : Nat} : θ[n]? = some a → Rep K F θ (.ref a) (.ptr n)
  | raw (v : V) : Rep K F θ v (.raw v)
inductive RepL (K : PySem.W.Frag) (F : Hp) (θ : List Addr) : List V → List D → Prop where
  | nil : RepL K F θ [] []
  | cons {v : V} {vs : List V} {d : D} {ds : List D} : Rep K F θ v d → RepL K F θ vs ds → RepL K F θ (v :: vs) (d :: ds)
end
end
section
variable [WC]
variable {K : PySem.W.Frag} {F F' : Hp} {θ θ' : List Addr}
theorem same_rd {H H' : Hp} {a : Addr} {u : HO} (e : Same H H') (h : Rd H a u) : Rd H' a u := by
  rcases h with h | ⟨o, h⟩
  · exact .inl (e _ _ h)
  · exact .inr ⟨o, e _ _ h⟩
theorem same_sqt {H H' : Hp} {a : Addr} {xs : List V} (e : Same H H') (h : SqT K H a xs) : SqT K H' a xs := by
  rcases h with h | h
  · exact .inl (same_rd e h)
  · exact .inr h
mutual
theorem Rep.mono (e : Same F F') (p : θ <+: θ') : ∀ {v : V} (d : D), Rep K F θ v d → Rep K F' θ' v d
  | _, .non, h => by cases h; exact .non
  | _, .bl _, h => by cases h; exact .bl _
  | _, .int _, h => by cases h; exact .int _
  | _, .str _, h => by cases h; exact .str _
  | _, .tup ds, h => by
    cases h with
    | tup h1 h2 => exact .tup (same_sqt e h1) (RepL.mono e p ds h2)
  | _, .lst ds, h => by
    cases h with
    | lst h1 h2 => exact .lst (e _ _ h1) (RepL.mono e p ds h2)
  | _, .arg ds, h => by
    cases h with
    | arg h1 h2 => exact .arg (Same.seq e h1) (RepL.mono e p ds h2)
  | _, .dct ks vs, h => by
    cases h with
    | dct h1 h2 h3 h4 => exact .dct (e _ _ h1) h2 (RepL.mono e p ks h3) (RepL.mono e p vs h4)
  | _, .ptr n, h => by
    cases h with
    | ptr h1 =>
      refine .ptr ?_
      obtain ⟨r, rfl⟩ := p
      rw [List.getElem?_append_left (List.getElem?_eq_some_iff.mp h1).1]
      exact h1
  | _, .raw _, h => by cases h; exact .raw _
theorem RepL.mono (e : Same F F') (p : θ <+: θ') : ∀ {vs : List V} (ds : List D), RepL K F θ vs ds → RepL K F' θ' vs ds
  | _, [], h => by cases h; exact .nil
  | _, d :: ds, h => by
    cases h with
    | cons h1 h2 => exact .cons (Rep.mono e p d h1) (RepL.mono e p ds h2)
end
theorem RepL.length : ∀ {vs : List V} {ds : List D}, RepL K F θ vs ds → vs.length = ds.length
  | _, [], h => by cases h; rfl
  | _, d :: ds, h => by
    cases h with
    | cons h1 h2 => simp [RepL.length h2]
theorem RepL.append : ∀ {vs ws : List V} {ds es : List D}, RepL K F θ vs ds → RepL K F θ ws es → RepL K F θ (vs ++ ws) (ds ++ es)
  | _, _, [], _, h, h' => by cases h; exact h'
  | _, _, d :: ds, _, h, h' => by
    cases h with
    | cons h1 h2 => exact .cons h1 (RepL.append h2 h')
theorem RepL.at : ∀ {vs : List V} {ds : List D} {i : Nat} {d : D}, RepL K F θ vs ds → ds[i]? = some d → ∃ v, vs[i]? = some v ∧ Rep K F θ v d
  | _, [], i, d, h, e => by simp at e
  | _, x :: ds, 0, d, h, e => by
    cases h with
    | cons h1 h2 => simp at e; subst e; exact ⟨_, rfl, h1⟩
  | _, x :: ds, i + 1, d, h, e => by
    cases h with
    | cons h1 h2 =>
      obtain ⟨v, h3, h4⟩ := RepL.at (i := i) h2 (by simpa using e)
      exact ⟨v, by simpa using h3, h4⟩
theorem RepL.take : ∀ {vs : List V} {ds : List D} (n : Nat), RepL K F θ vs ds → RepL K F θ (vs.take n) (ds.take n)
  | _, ds, 0, h => by simp; exact .nil
  | _, [], n + 1, h => by cases h; exact .nil
  | _, d :: ds, n + 1, h => by
    cases h with
    | cons h1 h2 => exact .cons h1 (RepL.take n h2)
theorem RepL.drop : ∀ {vs : List V} {ds : List D} (n : Nat), RepL K F θ vs ds → RepL K F θ (vs.drop n) (ds.drop n)
  | _, ds, 0, h => by simpa using h
  | _, [], n + 1, h => by cases h; exact .nil
  | _, d :: ds, n + 1, h => by
    cases h with
    | cons h1 h2 => exact RepL.drop n h2
theorem RepL.set {v : V} {d : D} (r : Rep K F θ v d) : ∀ {vs : List V} {ds : List D} (i : Nat), RepL K F θ vs ds → RepL K F θ (vs.set i v) (ds.set i d)
  | _, [], i, h => by cases h; exact .nil
  | _, x :: ds, 0, h => by
    cases h with
    | cons h1 h2 => exact .cons r h2
  | _, x :: ds, i + 1, h => by
    cases h with
    | cons h1 h2 => exact .cons h1 (RepL.set r i h2)
theorem RepL.rev : ∀ {vs : List V} {ds : List D}, RepL K F θ vs ds → RepL K F θ vs.reverse ds.reverse
  | _, [], h => by cases h; exact .nil
  | _, d :: ds, h => by
    cases h with
    | cons h1 h2 => simp only [List.reverse_cons]; exact (RepL.rev h2).append (.cons h1 .nil)
end
/-! ### the world: what is frozen, the store -/
structure Wd where
  F : Hp
  θ : List Addr
  μ : Store
variable [WC]
def ObR (K : PySem.W.Frag) (w : Wd) (H : Hp) (a : Addr) : Ob → Prop
  | .dct _ ks xs => ∃ T, H a = some (dctO WC.w a T) ∧ keyOfL ks = some (T.rows.map (·.k)) ∧ RepL K w.F w.θ (T.rows.map fun r => .ref r.b) ks ∧ RepL K w.F w.θ (T.rows.map (·.v)) xs
  | .lst xs => ∃ vs, H a = some (.lst vs) ∧ RepL K w.F w.θ vs xs
  | .kd fs => ∃ gs, H a = some (.dK gs) ∧ gs.map (·.1) = fs.map (·.1) ∧ RepL K w.F w.θ (gs.map (·.2)) (fs.map (·.2))
structure Wf (K : PySem.W.Frag) (H : Hp) (w : Wd) : Prop where
  same : Same w.F H
  len : w.θ.length = w.μ.length
  nd : w.θ.Nodup
  out : ∀ (i : Nat) (a : Addr), w.θ[i]? = some a → w.F a = none
  ob : ∀ (i : Nat) (a : Addr) (o : Ob), w.θ[i]? = some a → w.μ[i]? = some o → ObR K w H a o
/-- a dict of the store stays one; as long as its number is the same, it holds the same -/
def Kept (H : Hp) (w : Wd) (H' : Hp) (w' : Wd) : Prop := ∀ (n : Nat) (a : Addr) (v : Nat) (ks vs : List D), w.θ[n]? = some a → w.μ[n]? = some (.dct v ks vs) →
  ∃ v' ks' vs', w'.μ[n]? = some (.dct v' ks' vs') ∧ v ≤ v' ∧ (v = v' → H' a = H a)
structure Ext (H : Hp) (w : Wd) (H' : Hp) (w' : Wd) : Prop where
  frz : Same w.F w'.F
  ids : w.θ <+: w'.θ
  old : ∀ a, H a ≠ none → w'.F a = w.F a
  keep : ∀ a o, H a = some o → a ∉ w.θ → H' a = some o
  live : ∀ a, H a ≠ none → H' a ≠ none
  new : ∀ a, a ∈ w'.θ → a ∉ w.θ → H a = none
  kept : Kept H w H' w'
section
variable {K : PySem.W.Frag} {H H' H'' : Hp} {w w' w'' : Wd}
theorem Ext.refl (H : Hp) (w : Wd) : Ext H w H w := ⟨Same.refl _, List.prefix_refl _, fun _ _ => rfl, fun _ _ h _ => h, fun _ h => h, fun _ h h' => absurd h h', fun n a v ks vs _ h => ⟨v, ks, vs, h, Nat.le_refl _, fun _ => rfl⟩⟩
theorem Ext.trans (a : Ext H w H' w') (b : Ext H' w' H'' w'') : Ext H w H'' w'' := by
  refine ⟨a.frz.trans b.frz, a.ids.trans b.ids, fun c h => (b.old c (a.live c h)).trans (a.old c h), fun c o h hc => ?_, fun c h => b.live c (a.live c h), fun c h hc => ?_, fun n c v ks vs h1 h2 => ?_⟩
  · refine b.keep c o (a.keep c o h hc) fun hm => ?_
    have := a.new c hm hc
    rw [h] at this
    cases this
  · by_cases h' : c ∈ w'.θ
    · exact a.new c h' hc
    · have := b.new c h h'
      by_cases q : H c = none
      · exact q
      · exact absurd this (a.live c q)
  · obtain ⟨v1, ks1, vs1, e1, l1, k1⟩ := a.kept n c v ks vs h1 h2
    have h3 : w'.θ[n]? = some c := by
      obtain ⟨r, hr⟩ := a.ids
      rw [← hr, List.getElem?_append_left (List.getElem?_eq_some_iff.mp h1).1]
      exact h1
    obtain ⟨v2, ks2, vs2, e2, l2, k2⟩ := b.kept n c v1 ks1 vs1 h3 e1
    exact ⟨v2, ks2, vs2, e2, Nat.le_trans l1 l2, fun e => (k2 (by omega)).trans (k1 (by omega))⟩
theorem Ext.rep {v : V} {d : D} (e : Ext H w H' w') (r : Rep K w.F w.θ v d) : Rep K w'.F w'.θ v d := r.mono e.frz e.ids
theorem Ext.repL {vs : List V} {ds : List D} (e : Ext H w H' w') (r : RepL K w.F w.θ vs ds) : RepL K w'.F w'.θ vs ds := r.mono e.frz e.ids
theorem Wf.some_of (wf : Wf K H w) {i : Nat} {a : Addr} (h : w.θ[i]? = some a) : ∃ o, w.μ[i]? = some o ∧ ObR K w H a o := by
  have hi := (List.getElem?_eq_some_iff.mp h).1
  rw [wf.len] at hi
  exact ⟨w.μ[i], List.getElem?_eq_getElem hi, wf.ob i a _ h (List.getElem?_eq_getElem hi)⟩
theorem ObR.there {a : Addr} : ∀ {o : Ob}, ObR K w H a o → H a ≠ none
  | .lst xs, ⟨vs, h, _⟩ => by rw [h]; simp
  | .dct _ ks xs, ⟨rows, h, _⟩ => by rw [h]; simp
  | .kd fs, ⟨gs, h, _⟩ => by rw [h]; simp
theorem Wf.live (wf : Wf K H w) {a : Addr} (h : a ∈ w.θ) : H a ≠ none := by
  obtain ⟨i, hi⟩ := List.mem_iff_getElem?.mp h
  obtain ⟨o, _, q⟩ := wf.some_of hi
  exact q.there
/-- a new frozen object -/
def Wd.frz (w : Wd) (p : Addr) (o : HO) : Wd := { w with F := upd w.F p o }
theorem same_upd {F H : Hp} {p : Addr} {o : HO} (s : Same F H) : Same (upd F p o) (upd H p o) := by
  intro a u h
  by_cases e : a = p
  · subst e; rw [upd_same] at h ⊢; exact h
  · rw [upd_ne e] at h ⊢; exact s _ _ h
theorem same_upd_new {H : Hp} {p : Addr} {o : HO} (hp : H p = none) : Same H (upd H p o) := by
  intro a u h
  rw [upd_ne (ne_of_none h hp)]
  exact h
theorem Wf.frz_new (wf : Wf K H w) {p : Addr} (hp : H p = none) : w.F p = none := Same.free wf.same hp
theorem Ext.frz_ (wf : Wf K H w) {p : Addr} {o : HO} (hp : H p = none) : Ext H w (upd H p o) (w.frz p o) := by
  refine ⟨same_upd_new (wf.frz_new hp), List.prefix_refl _, fun a h => ?_, fun a u h _ => same_upd_new hp a u h, fun a h => ?_, fun _ h h' => absurd h h', fun n a v ks vs h1 h2 => ⟨v, ks, vs, h2, Nat.le_refl _, fun _ => upd_ne fun e => wf.live (List.mem_of_getElem? h1) (by rw [e]; exact hp)⟩⟩
  · exact upd_ne (fun e => h (by rw [e]; exact hp))
  · rw [upd_ne (fun e => h (by rw [e]; exact hp))]; exact h
theorem ObR.mono {a : Addr} (h1 : Same w.F w'.F) (h2 : w.θ <+: w'.θ) (h3 : H' a = H a) : ∀ {o : Ob}, ObR K w H a o → ObR K w' H' a o
  | .lst xs, ⟨vs, h, r⟩ => ⟨vs, h3.trans h, r.mono h1 h2⟩
  | .dct _ ks xs, ⟨rows, h, k, r, q⟩ => ⟨rows, h3.trans h, k, r.mono h1 h2, q.mono h1 h2⟩
  | .kd fs, ⟨gs, h, e, r⟩ => ⟨gs, h3.trans h, e, r.mono h1 h2⟩
theorem Wf.frz (wf : Wf K H w) {p : Addr} {o : HO} (hp : H p = none) : Wf K (upd H p o) (w.frz p o) := by
  have ne : ∀ a, a ∈ w.θ → a ≠ p := fun a h e => wf.live h (e ▸ hp)
  refine ⟨same_upd wf.same, wf.len, wf.nd, fun i a h => ?_, fun i a u h h' => ?_⟩
  · show upd w.F p o a = none
    rw [upd_ne (ne a (List.mem_of_getElem? h))]; exact wf.out i a h
  · exact (wf.ob i a u h h').mono (w' := w.frz p o) (same_upd_new (wf.frz_new hp)) (List.prefix_refl _) (upd_ne (ne a (List.mem_of_getElem? h)))
/-- a new thing of the store -/
def Wd.mk_ (w : Wd) (p : Addr) (o : Ob) : Wd := { w with θ := w.θ ++ [p], μ := w.μ ++ [o] }
theorem Ext.mk_ (wf : Wf K H w) {p : Addr} {o : HO} {u : Ob} (hp : H p = none) : Ext H w (upd H p o) (w.mk_ p u) := by
  refine ⟨Same.refl _, List.prefix_append _ _, fun a h => rfl, fun a u h _ => same_upd_new hp a u h, fun a h => ?_, fun a h h' => ?_, fun n a v ks vs h1 h2 => ⟨v, ks, vs, ?_, Nat.le_refl _, fun _ => upd_ne fun e => wf.live (List.mem_of_getElem? h1) (by rw [e]; exact hp)⟩⟩
  · rw [upd_ne (fun e => h (by rw [e]; exact hp))]; exact h
  · rcases List.mem_append.mp h with h | h
    · exact absurd h h'
    · rw [List.mem_singleton.mp h]; exact hp
  · show (w.μ ++ [u])[n]? = _
    rw [List.getElem?_append_left (List.getElem?_eq_some_iff.mp h2).1]; exact h2
theorem Wf.mk_lst (wf : Wf K H w) {p : Addr} {vs : List V} {xs : List D} (hp : H p = none) (r : RepL K w.F w.θ vs xs) : Wf K (upd H p (.lst vs)) (w.mk_ p (.lst xs)) := by
  have ne : ∀ a, a ∈ w.θ → a ≠ p := fun a h e => wf.live h (e ▸ hp)
  have Fp := wf.frz_new hp
  refine ⟨fun a u h => ?_, ?_, ?_, fun i a h => ?_, fun i a u h h' => ?_⟩
  · have q := wf.same a u h
    rw [upd_ne (ne_of_none q hp)]; exact q
  · show (w.θ ++ [p]).length = (w.μ ++ [_]).length
    simp [wf.len]
  · show (w.θ ++ [p]).Nodup
    exact List.nodup_append.mpr ⟨wf.nd, by simp, fun a ha b hb e => ne a ha (e.trans (List.mem_singleton.mp hb))⟩
  · have h1 : (w.θ ++ [p])[i]? = some a := h
    rcases Nat.lt_or_ge i w.θ.length with hi | hi
    · rw [List.getElem?_append_left hi] at h1
      exact wf.out i a h1
    · rw [List.getElem?_append_right hi] at h1
      have : a = p := by
        have := List.mem_of_getElem? h1
        simpa using this
      rw [this]; exact Fp
  · have h1 : (w.θ ++ [p])[i]? = some a := h
    have h2 : (w.μ ++ [Ob.lst xs])[i]? = some u := h'
    rcases Nat.lt_or_ge i w.θ.length with hi | hi
    · rw [List.getElem?_append_left hi] at h1
      rw [List.getElem?_append_left (by rw [← wf.len]; exact hi)] at h2
      exact (wf.ob i a u h1 h2).mono (w := w) (w' := w.mk_ p (.lst xs)) (Same.refl _) (List.prefix_append _ _) (upd_ne (ne a (List.mem_of_getElem? h1)))
    · rw [List.getElem?_append_right hi] at h1
      rw [List.getElem?_append_right (by rw [← wf.len]; exact hi)] at h2
      have e1 : a = p := by
        have := List.mem_of_getElem? h1
        simpa using this
      have e2 : u = Ob.lst xs := by
        have := List.mem_of_getElem? h2
        simpa using this
      subst e1 e2
      exact ⟨vs, upd_same, r.mono (Same.refl _) (List.prefix_append _ _)⟩
/-- a list of the store is changed -/
theorem Wf.set_lst (wf : Wf K H w) {n : Nat} {a : Addr} {vs : List V} {xs : List D} (hn : w.θ[n]? = some a) (r : RepL K w.F w.θ vs xs) : Wf K (upd H a (.lst vs)) { w with μ := w.μ.set n (.lst xs) } := by
  refine ⟨fun b u h => ?_, ?_, wf.nd, wf.out, fun i b u h h' => ?_⟩
  · have q := wf.same b u h
    have : b ≠ a := fun e => by
      have := wf.out n a hn
      subst e
      rw [show w.F b = none from this] at h
      cases h
    rw [upd_ne this]; exact q
  · show w.θ.length = (w.μ.set n _).length
    rw [List.length_set]; exact wf.len
  · have h1 : w.θ[i]? = some b := h
    have h2 : (w.μ.set n (Ob.lst xs))[i]? = some u := h'
    by_cases e : i = n
    · subst e
      have hb : b = a := by rw [hn] at h1; exact (Option.some.inj h1).symm
      subst hb
      have hi : i < w.μ.length := by rw [← wf.len]; exact (List.getElem?_eq_some_iff.mp hn).1
      rw [List.getElem?_set_self hi] at h2
      cases h2
      exact ⟨vs, upd_same, r⟩
    · rw [List.getElem?_set_ne (Ne.symm e)] at h2
      have hb : b ≠ a := fun q => by
        subst q
        have h3 := List.getElem?_eq_some_iff.mp h1
        have h4 := List.getElem?_eq_some_iff.mp hn
        exact e ((List.getElem_inj wf.nd).mp (h3.2.trans h4.2.symm))
      exact (wf.ob i b u h1 h2).mono (Same.refl _) (List.prefix_refl _) (upd_ne hb)
theorem Ext.set_lst (wf : Wf K H w) {n : Nat} {a : Addr} {o : HO} {u : Ob} (hn : w.θ[n]? = some a) (hv : ∀ v ks vs, w.μ[n]? = some (.dct v ks vs) → ∃ v' ks' vs', u = .dct v' ks' vs' ∧ v < v') : Ext H w (upd H a o) { w with μ := w.μ.set n u } := by
  refine ⟨Same.refl _, List.prefix_refl _, fun _ _ => rfl, fun b u h hb => ?_, fun b h => ?_, fun _ h h' => absurd h h', fun m c v ks vs h1 h2 => ?_⟩
  · rw [upd_ne (fun e => hb (by rw [e]; exact List.mem_of_getElem? hn))]; exact h
  · by_cases e : b = a
    · subst e; rw [upd_same]; simp
    · rw [upd_ne e]; exact h
  · by_cases e : m = n
    · subst e
      obtain ⟨v', ks', vs', e1, e2⟩ := hv v ks vs h2
      refine ⟨v', ks', vs', ?_, Nat.le_of_lt e2, fun e3 => absurd e3 (Nat.ne_of_lt e2)⟩
      show (w.μ.set m u)[m]? = _
      rw [List.getElem?_set_self (List.getElem?_eq_some_iff.mp h2).1, e1]
    · refine ⟨v, ks, vs, ?_, Nat.le_refl _, fun _ => upd_ne fun e3 => e ?_⟩
      · show (w.μ.set n u)[m]? = _
        rw [List.getElem?_set_ne (Ne.symm e)]; exact h2
      · subst e3
        have h3 := List.getElem?_eq_some_iff.mp h1
        have h4 := List.getElem?_eq_some_iff.mp hn
        exact (List.getElem_inj wf.nd).mp (h3.2.trans h4.2.symm)
end
/-! ### what is wanted behind a piece -/
def Post {α : Type} (K : PySem.W.Frag) (H : Hp) (w : Wd) (r : Res α) (Q : α → Hp → Wd → Prop) (E : Ex → Hp → Wd → Prop) : Prop :=
  match r with
  | .ok a μ' => ∀ H' w', w'.μ = μ' → Ext H w H' w' → Wf K H' w' → Q a H' w'
  | .ex e μ' => ∀ H' w', w'.μ = μ' → Ext H w H' w' → Wf K H' w' → E e H' w'
  | .bad => False
section
variable {α β : Type} {K : PySem.W.Frag} {H H' : Hp} {w w' : Wd} {r : Res α} {Q Q' : α → Hp → Wd → Prop} {E E' : Ex → Hp → Wd → Prop}
theorem Post.imp (h : Post K H w r Q E) (hq : ∀ a H' w', Ext H w H' w' → Wf K H' w' → Q a H' w' → Q' a H' w') (he : ∀ e H' w', Ext H w H' w' → Wf K H' w' → E e H' w' → E' e H' w') : Post K H w r Q' E' := by
  cases r with
  | ok a μ' => exact fun H' w' e x wf => hq a H' w' x wf (h H' w' e x wf)
  | ex a μ' => exact fun H' w' e x wf => he a H' w' x wf (h H' w' e x wf)
  | bad => exact h
theorem Post.ext (h : Post K H w r Q E) (x : Ext H w H' w') : Post K H' w' r Q E := by
  cases r with
  | ok a μ' => exact fun H2 w2 e x2 wf => h H2 w2 e (x.trans x2) wf
  | ex a μ' => exact fun H2 w2 e x2 wf => h H2 w2 e (x.trans x2) wf
  | bad => exact h
theorem Post.bind {m : M α} {f : α → M β} {μ : Store} {Q : β → Hp → Wd → Prop} (h : Post K H w ((m >>= f) μ) Q E) : Post K H w (m μ) (fun a H1 w1 => Post K H1 w1 (f a w1.μ) Q E) E := by
  rw [bind_at] at h
  cases e : m μ with
  | ok a μ' =>
    rw [e] at h
    exact fun H1 w1 e1 x wf => by
      show Post K H1 w1 (f a w1.μ) Q E
      rw [e1]; exact h.ext x
  | ex a μ' =>
    rw [e] at h
    exact h
  | bad => rw [e] at h; exact h
theorem Post.pure {a : α} {μ : Store} (h : Post K H w ((pure a : M α) μ) Q E) (e : w.μ = μ) (wf : Wf K H w) : Q a H w := h H w e (Ext.refl _ _) wf
end
/-! ### the state -/
structure SR (K : PySem.W.Frag) (σ : L2.St) (H : Hp) (ρ : Env) (w : Wd) : Prop where
  wf : Wf K H w
  len : ρ.length = σ.length
  val : ∀ (i : Nat) (d : D), ρ[i]? = some (some d) → ∃ v, σ[i]? = some (some v) ∧ Rep K w.F w.θ v d
section
variable {K : PySem.W.Frag} {σ : L2.St} {H H' : Hp} {ρ : Env} {w w' : Wd}
theorem SR.ext (s : SR K σ H ρ w) (x : Ext H w H' w') (wf : Wf K H' w') : SR K σ H' ρ w' := ⟨wf, s.len, fun i d h => let ⟨v, h1, h2⟩ := s.val i d h; ⟨v, h1, x.rep h2⟩⟩
theorem SR.set (s : SR K σ H ρ w) {i : Nat} {v : V} {d : D} (r : Rep K w.F w.θ v d) : SR K (σ.set i (some v)) H (ρ.set i (some d)) w := by
  refine ⟨s.wf, by simp [s.len], fun j e h => ?_⟩
  by_cases hj : j = i
  · subst hj
    by_cases hl : j < ρ.length
    · rw [List.getElem?_set_self hl] at h
      cases h
      exact ⟨v, List.getElem?_set_self (by rw [← s.len]; exact hl), r⟩
    · rw [List.getElem?_eq_none (by simpa using hl)] at h; cases h
  · rw [List.getElem?_set_ne (Ne.symm hj)] at h
    obtain ⟨u, h1, h2⟩ := s.val j e h
    exact ⟨u, by rw [List.getElem?_set_ne (Ne.symm hj)]; exact h1, h2⟩
end
/-! ### errors -/
/-- an error lies so: its class, its own dict (where it has fields) -/
def ExR (K : PySem.W.Frag) (mg : Str → Option Value) (H : Hp) (w : Wd) (e : Ex) (c : Value) (dd : Option Addr) : Prop :=
  mg e.c = some c ∧ (match e.fs with
    | [] => dd = none
    | fs => ∃ d gs, dd = some d ∧ H d = some (.xd gs) ∧ gs.map (·.1) = fs.map (·.1) ∧ RepL K w.F w.θ (gs.map (·.2)) (fs.map (·.2)))
/-! ### expressions -/
def tE (K : PySem.W.Frag) (mg : Str → Option Value) (W : WX) (f : Env → M D) : TE := fun σ H Q => ∃ ρ w, SR K σ H ρ w ∧
  Post K H w (f ρ w.μ) (fun d H' w' => ∀ v, Rep K w'.F w'.θ v d → Q v H') (fun e H' w' => ∀ c dd, ExR K mg H' w' e c dd → W c dd σ H')
def tT (K : PySem.W.Frag) (mg : Str → Option Value) (W : WX) (f : Env → M Bool) : TT := fun σ H Q => ∃ ρ w, SR K σ H ρ w ∧
  Post K H w (f ρ w.μ) (fun b H' w' => Q b H') (fun e H' w' => ∀ c dd, ExR K mg H' w' e c dd → W c dd σ H')
def tA (K : PySem.W.Frag) (mg : Str → Option Value) (W : WX) (f : Env → M (List D)) : TA := fun σ H Q => ∃ ρ w, SR K σ H ρ w ∧
  Post K H w (f ρ w.μ) (fun ds H' w' => ∀ vs, RepL K w'.F w'.θ vs ds → Q vs H') (fun e H' w' => ∀ c dd, ExR K mg H' w' e c dd → W c dd σ H')
abbrev ED (X : Cx) (W : WX) (e : Expr) (f : Env → M D) : Prop := PE X e (tE X.K X.mg W f)
abbrev TD (X : Cx) (W : WX) (e : Expr) (f : Env → M Bool) : Prop := PT X e (tT X.K X.mg W f)
abbrev AD (X : Cx) (W : WX) (es : List Expr) (f : Env → M (List D)) : Prop := PA X es (tA X.K X.mg W f)
theorem PE_imp {X : Cx} {e : Expr} {t t' : TE} (h : PE X e t) (hi : ∀ σ H Q, t' σ H Q → t σ H Q) : PE X e t' := ⟨fun pins s σ H Q I q => h.run pins s σ H Q I (hi _ _ _ q)⟩
theorem PT_imp {X : Cx} {e : Expr} {t t' : TT} (h : PT X e t) (hi : ∀ σ H Q, t' σ H Q → t σ H Q) : PT X e t' := ⟨fun pins s σ H Q I q => h.run pins s σ H Q I (hi _ _ _ q)⟩
theorem PA_imp {X : Cx} {e : List Expr} {t t' : TA} (h : PA X e t) (hi : ∀ σ H Q, t' σ H Q → t σ H Q) : PA X e t' := ⟨fun pos pins s σ H Q I q => h.run pos pins s σ H Q I (hi _ _ _ q)⟩
end DL
namespace DL
open PySem PySem.Spec PyProof.Rows L2
variable [WC]
/-! ### reading through the store -/
def asLst (μ : Store) : D → Option (List D)
  | .lst xs => some xs
  | .ptr n => match μ[n]? with
    | some (.lst xs) => some xs
    | _ => none
  | _ => none
def asTup : D → Option (List D)
  | .tup xs => some xs
  | _ => none
section
variable {K : PySem.W.Frag} {H : Hp} {w : Wd} {x : V} {d : D}
theorem asLst_ok (wf : Wf K H w) (r : Rep K w.F w.θ x d) {xs : List D} (h : asLst w.μ d = some xs) : ∃ a vs, x = .ref a ∧ H a = some (.lst vs) ∧ RepL K w.F w.θ vs xs := by
  cases r with
  | lst h1 h2 => cases h; exact ⟨_, _, rfl, wf.same _ _ h1, h2⟩
  | @ptr a n h1 =>
    obtain ⟨o, h3, h4⟩ := wf.some_of h1
    simp only [asLst, h3] at h
    cases o with
    | lst ys =>
      cases h
      obtain ⟨vs, h5, h6⟩ := h4
      exact ⟨a, vs, rfl, h5, h6⟩
    | dct ks vs => cases h
    | kd fs => cases h
  | _ => cases h
theorem asTup_ok (wf : Wf K H w) (r : Rep K w.F w.θ x d) {xs : List D} (h : asTup d = some xs) : ∃ a vs, x = .ref a ∧ SqT K H a vs ∧ RepL K w.F w.θ vs xs := by
  cases r with
  | tup h1 h2 => cases h; exact ⟨_, _, rfl, same_sqt wf.same h1, h2⟩
  | _ => cases h
end
/-! ### results -/
section
variable {K : PySem.W.Frag} {H : Hp} {w : Wd} {Q : VK} {E : Ex → Hp → Wd → Prop}
abbrev QV (K : PySem.W.Frag) (Q : VK) : D → Hp → Wd → Prop := fun z H' w' => ∀ v, Rep K w'.F w'.θ v z → Q v H'
theorem post_here {z : D} (h : Post K H w (.ok z w.μ) (QV K Q) E) (wf : Wf K H w) {v : V} (r : Rep K w.F w.θ v z) : Q v H := h H w rfl (Ext.refl _ _) wf v r
theorem post_new {z : D} {o : HO} (h : Post K H w (.ok z w.μ) (QV K Q) E) (wf : Wf K H w) {p : Addr} (hp : H p = none) (r : Rep K (upd w.F p o) w.θ (.ref p) z) : Q (.ref p) (upd H p o) :=
  h (upd H p o) (w.frz p o) rfl (Ext.frz_ wf hp) (wf.frz hp) (.ref p) r
theorem post_lst {zs : List D} {vs : List V} (h : Post K H w (.ok (.lst zs) w.μ) (QV K Q) E) (wf : Wf K H w) {p : Addr} (hp : H p = none) (r : RepL K w.F w.θ vs zs) : Q (.ref p) (upd H p (.lst vs)) :=
  post_new h wf hp (.lst upd_same (r.mono (same_upd_new (wf.frz_new hp)) (List.prefix_refl _)))
theorem post_tup {zs : List D} {vs : List V} (h : Post K H w (.ok (.tup zs) w.μ) (QV K Q) E) (wf : Wf K H w) {p : Addr} (hp : H p = none) (r : RepL K w.F w.θ vs zs) : Q (.ref p) (upd H p (.tup vs)) :=
  post_new h wf hp (.tup (SqT.of upd_same) (r.mono (same_upd_new (wf.frz_new hp)) (List.prefix_refl _)))
/-- a new list that may change -/
theorem post_mut {zs : List D} {vs : List V} (h : Post K H w (.ok (.ptr w.μ.length) (w.μ ++ [.lst zs])) (QV K Q) E) (wf : Wf K H w) {p : Addr} (hp : H p = none) (r : RepL K w.F w.θ vs zs) : Q (.ref p) (upd H p (.lst vs)) := by
  refine h (upd H p (.lst vs)) (w.mk_ p (.lst zs)) rfl (Ext.mk_ wf hp) (wf.mk_lst hp r) (.ref p) (.ptr ?_)
  show (w.θ ++ [p])[w.μ.length]? = some p
  rw [← wf.len]; simp
end
/-- an operation on two values does what g says -/
def VOp (K : PySem.W.Frag) (r : R2) (g : D → D → M D) : Prop := ∀ (H : Hp) (w : Wd) (x y : V) (d e : D) (Q : VK) (E : Ex → Hp → Wd → Prop), Wf K H w → Rep K w.F w.θ x d → Rep K w.F w.θ y e →
  Post K H w (g d e w.μ) (QV K Q) E → r x y H Q
def VUn (K : PySem.W.Frag) (r : V → Hp → VK → Prop) (g : D → M D) : Prop := ∀ (H : Hp) (w : Wd) (x : V) (d : D) (Q : VK) (E : Ex → Hp → Wd → Prop), Wf K H w → Rep K w.F w.θ x d →
  Post K H w (g d w.μ) (QV K Q) E → r x H Q
def VCall (K : PySem.W.Frag) (r : List V → Hp → VK → Prop) (g : List D → M D) : Prop := ∀ (H : Hp) (w : Wd) (xs : List V) (ds : List D) (Q : VK) (E : Ex → Hp → Wd → Prop), Wf K H w → RepL K w.F w.θ xs ds →
  Post K H w (g ds w.μ) (QV K Q) E → r xs H Q
/-! ### + - * // % -/
def bool2 : Bool → Int
  | true => 1
  | false => 0
/-- where m says whether the list is to change -/
def retL (mu : Bool) (xs : List D) : M D := fun μ => if mu = true then .ok (.ptr μ.length) (μ ++ [.lst xs]) else .ok (.lst xs) μ
def gAdd (mu : Bool) : D → D → M D := fun x y μ => match x, y with
  | .int i, .int j => .ok (.int (i + j)) μ
  | .str i, .str j => if i.length + j.length ≤ sizeLine then .ok (.str (i ++ j)) μ else .bad
  | .tup xs, .tup ys => if xs.length + ys.length ≤ sizeLine then .ok (.tup (xs ++ ys)) μ else .bad
  | x, y => match asLst μ x, asLst μ y with
    | some xs, some ys => if xs.length + ys.length ≤ sizeLine then retL mu (xs ++ ys) μ else .bad
    | _, _ => .bad
def rAddD (K : PySem.W.Frag) : R2 := fun x y H Q => rI0 (fun i j => .int (i + j)) x y H Q ∨
  (∃ i j, x = .str i ∧ y = .str j ∧ i.length + j.length ≤ sizeLine ∧ Q (.str (i ++ j)) H) ∨ rCatA K x y H Q ∨ rCat x y H Q
theorem op_addD {X : Cx} : OpR X (binaryOp .Add) (rAddD X.K) := op_add.or (op_add_str.or (op_catA.or op_cat))
theorem v_add (K : PySem.W.Frag) (mu : Bool) : VOp K (rAddD K) (gAdd mu) := by
  intro H w x y d e Q E wf rx ry h
  have lists : (match asLst w.μ d, asLst w.μ e with
      | some xs, some ys => if xs.length + ys.length ≤ sizeLine then retL mu (xs ++ ys) w.μ else .bad
      | _, _ => .bad) = gAdd mu d e w.μ → rAddD K x y H Q := fun he => by
    rw [← he] at h
    cases h1 : asLst w.μ d with
    | none => rw [h1] at h; exact h.elim
    | some xs =>
      cases h2 : asLst w.μ e with
      | none => rw [h1, h2] at h; exact h.elim
      | some ys =>
        rw [h1, h2] at h
        simp only at h
        obtain ⟨a, vs, rfl, ha, ra⟩ := asLst_ok wf rx h1
        obtain ⟨b, us, rfl, hb, rb⟩ := asLst_ok wf ry h2
        split at h
        · rename_i hz
          refine .inr (.inr (.inr ⟨a, b, vs, us, rfl, rfl, ha, hb, by rw [ra.length, rb.length]; exact hz, fun p hp => ?_⟩))
          unfold retL at h
          cases mu with
          | true => exact post_mut h wf hp (ra.append rb)
          | false => exact post_lst h wf hp (ra.append rb)
        · exact h.elim
  cases d with
  | int i =>
    cases e with
    | int j => cases rx; cases ry; exact .inl ⟨i, j, rfl, rfl, post_here h wf (.int _)⟩
    | _ => exact lists rfl
  | str i =>
    cases e with
    | str j =>
      cases rx; cases ry
      simp only [gAdd] at h
      split at h
      · rename_i hz
        exact .inr (.inl ⟨i, j, rfl, rfl, hz, post_here h wf (.str _)⟩)
      · exact h.elim
    | _ => exact lists rfl
  | tup xs =>
    cases e with
    | tup ys =>
      simp only [gAdd] at h
      split at h
      · rename_i hz
        obtain ⟨a, vs, rfl, ha, ra⟩ := asTup_ok wf rx rfl
        obtain ⟨b, us, rfl, hb, rb⟩ := asTup_ok wf ry rfl
        refine .inr (.inr (.inl ⟨a, b, vs, us, rfl, rfl, ha, hb, by rw [ra.length, rb.length]; exact hz, fun e0 => ?_, fun _ e0 => ?_, fun _ _ p hp => post_tup h wf hp (ra.append rb)⟩))
        · subst e0
          cases ra
          exact post_here h wf (by simpa using ry)
        · subst e0
          cases rb
          exact post_here h wf (by simpa using rx)
      · exact h.elim
    | _ => exact lists rfl
  | _ => exact lists rfl
def gInt2 (c : Int → Int → Bool) (f : Int → Int → Int) : D → D → M D := fun x y μ => match x, y with
  | .int i, .int j => if c i j = true then .ok (.int (f i j)) μ else .bad
  | _, _ => .bad
theorem v_int2 {K : PySem.W.Frag} {C : Int → Int → Prop} {c : Int → Int → Bool} {f : Int → Int → Int} (hc : ∀ i j, c i j = true → C i j) : VOp K (rI C fun i j => .int (f i j)) (gInt2 c f) := by
  intro H w x y d e Q E wf rx ry h
  cases d with
  | int i =>
    cases e with
    | int j =>
      simp only [gInt2] at h
      split at h
      · rename_i hz
        cases rx; cases ry
        exact ⟨i, j, rfl, rfl, hc _ _ hz, post_here h wf (.int _)⟩
      · exact h.elim
    | _ => exact h.elim
  | _ => exact h.elim
def gSub : D → D → M D := gInt2 (fun _ _ => true) fun i j => i - j
theorem op_subD {X : Cx} : OpR X (binaryOp .Sub) (rI (fun _ _ => True) fun i j => .int (i - j)) := opI fun _ _ _ _ _ _ _ _ q => sub_int q
theorem v_sub (K : PySem.W.Frag) : VOp K (rI (fun _ _ => True) fun i j => .int (i - j)) gSub := v_int2 fun _ _ _ => trivial
/-- below 2 ^ 400000 -/
def wideI (i : Int) : Bool := Nat.blt i.natAbs.log2 400000
def gMulI : D → D → M D := gInt2 (fun i j => wideI i && wideI j) fun i j => i * j
theorem wide_of {i : Int} (h : wideI i = true) : i.natAbs < 2 ^ 400000 := by
  have h1 : i.natAbs.log2 < 400000 := by simpa [wideI, Nat.blt_eq] using h
  exact Nat.lt_of_lt_of_le (Nat.lt_log2_self) (Nat.pow_le_pow_right (by decide) h1)
theorem v_mulI (K : PySem.W.Frag) : VOp K (rI CMulW fun i j => .int (i * j)) gMulI := v_int2 fun i j h => by
  simp only [Bool.and_eq_true] at h
  exact wide_mul (wide_of h.1) (wide_of h.2) (by decide) (by decide) (by decide)
def gMod : D → D → M D := gInt2 (fun _ j => j != 0) fun i j => i.fmod j
theorem v_mod (K : PySem.W.Frag) : VOp K (rI (fun _ j => j ≠ 0) fun i j => .int (i.fmod j)) gMod := v_int2 fun i j h => by simpa using h
/-- // by a small divisor, or by a positive one below 2 ^ 9000 -/
def smallI (j : Int) : Bool := (j != 0 && Nat.blt j.natAbs 1073741824) || (decide (0 < j) && Nat.blt j.natAbs.log2 8000)
def gDiv : D → D → M D := gInt2 (fun _ j => smallI j) fun i j => i.fdiv j
def rDivD : R2 := fun x y H Q => rI CDivN (fun i j => .int (i.fdiv j)) x y H Q ∨ rI CDivW (fun i j => .int (i / j)) x y H Q
theorem op_divD {X : Cx} : OpR X (binaryOp .FloorDiv) rDivD := op_fdivN.or op_fdivW
theorem v_div (K : PySem.W.Frag) : VOp K rDivD gDiv := by
  intro H w x y d e Q E wf rx ry h
  cases d with
  | int i =>
    cases e with
    | int j =>
      simp only [gDiv, gInt2] at h
      split at h
      · rename_i hz
        cases rx; cases ry
        have q := post_here h wf (.int _)
        simp only [smallI, Bool.or_eq_true, Bool.and_eq_true, bne_iff_ne, ne_eq, decide_eq_true_eq, Nat.blt_eq] at hz
        rcases hz with hz | hz
        · exact .inl ⟨i, j, rfl, rfl, ⟨hz.1, hz.2⟩, q⟩
        · refine .inr ⟨i, j, rfl, rfl, ⟨hz.1, by omega⟩, ?_⟩
          show Q (.int (i / j)) H
          rw [← show i.fdiv j = i / j from Int.fdiv_eq_ediv_of_nonneg i (Int.le_of_lt hz.1)]
          exact q
      · exact h.elim
    | _ => exact h.elim
  | _ => exact h.elim
def gPow : D → D → M D := gInt2 (fun i j => decide (0 ≤ j) && decide (j ≤ 1000000) && Nat.blt i.natAbs (2 ^ 64)) fun i j => i ^ j.toNat
theorem v_pow (K : PySem.W.Frag) : VOp K (rI CPow fun i j => .int (i ^ j.toNat)) gPow := v_int2 fun i j h => by
  simp only [Bool.and_eq_true, decide_eq_true_eq, Nat.blt_eq] at h
  exact ⟨h.1.1, h.1.2, h.2⟩
end DL
namespace DL
open PySem PySem.Spec PyProof.Rows L2
variable [WC]
/-! ### data as the library's data -/
mutual
def toPy : D → Option PyData
  | .non => some .none
  | .bl b => some (.bool b)
  | .int i => some (.int i)
  | .str s => some (.str s)
  | .tup xs => (toPyL xs).map .tuple
  | .lst xs => (toPyL xs).map .list
  | .arg xs => (toPyL xs).map .list
  | .dct _ _ => none
  | .ptr _ => none
  | .raw _ => none
def toPyL : List D → Option (List PyData)
  | [] => some []
  | x :: xs => match toPy x, toPyL xs with
    | some p, some ps => some (p :: ps)
    | _, _ => none
end
def view (μ : Store) : D → D
  | .ptr n => match μ[n]? with
    | some (.lst xs) => .lst xs
    | _ => .ptr n
  | d => d
def pyV (μ : Store) (d : D) : Option PyData := toPy (view μ d)
section
variable {K : PySem.W.Frag} {F F' H : Hp} {θ : List Addr} {w : Wd}
mutual
theorem rep_dp (e : Same F H) : ∀ {v : V} (d : D) {p : PyData}, Rep K F θ v d → toPy d = some p → Dp K H v p
  | _, .non, _, h, q => by cases h; cases q; exact .non
  | _, .bl _, _, h, q => by cases h; cases q; exact .bl _
  | _, .int _, _, h, q => by cases h; cases q; exact .int _
  | _, .str _, _, h, q => by cases h; cases q; exact .str _
  | _, .tup ds, _, h, q => by
    cases h with
    | tup h1 h2 =>
      simp only [toPy, Option.map_eq_some_iff] at q
      obtain ⟨ps, q1, rfl⟩ := q
      exact .tup (same_sqt e h1) (rep_dpL e ds h2 q1)
  | _, .lst ds, _, h, q => by
    cases h with
    | lst h1 h2 =>
      simp only [toPy, Option.map_eq_some_iff] at q
      obtain ⟨ps, q1, rfl⟩ := q
      exact .lst (SqL.of (e _ _ h1)) (rep_dpL e ds h2 q1)
  | _, .arg ds, _, h, q => by
    cases h with
    | arg h1 h2 =>
      simp only [toPy, Option.map_eq_some_iff] at q
      obtain ⟨ps, q1, rfl⟩ := q
      exact .lst (Same.seq e h1) (rep_dpL e ds h2 q1)
  | _, .dct _ _, _, _, q => by cases q
  | _, .ptr _, _, h, q => by cases q
  | _, .raw _, _, h, q => by cases q
theorem rep_dpL (e : Same F H) : ∀ {vs : List V} (ds : List D) {ps : List PyData}, RepL K F θ vs ds → toPyL ds = some ps → DpAll K H vs ps
  | _, [], _, h, q => by cases h; cases q; exact .nil
  | _, d :: ds, _, h, q => by
    cases h with
    | cons h1 h2 =>
      simp only [toPyL] at q
      cases e1 : toPy d with
      | none => rw [e1] at q; cases q
      | some p =>
        cases e2 : toPyL ds with
        | none => rw [e1, e2] at q; cases q
        | some ps =>
          rw [e1, e2] at q
          cases q
          exact .cons (rep_dp e d h1 e1) (rep_dpL e ds h2 e2)
end
theorem pyV_dp (wf : Wf K H w) {x : V} {d : D} (r : Rep K w.F w.θ x d) {p : PyData} (q : pyV w.μ d = some p) : Dp K H x p := by
  cases r with
  | @ptr a n h1 =>
    obtain ⟨o, h3, h4⟩ := wf.some_of h1
    cases o with
    | lst ys =>
      simp only [pyV, view, h3] at q
      obtain ⟨vs, h5, h6⟩ := h4
      simp only [toPy, Option.map_eq_some_iff] at q
      obtain ⟨ps, q1, rfl⟩ := q
      exact .lst (SqL.of h5) (rep_dpL wf.same ys h6 q1)
    | dct ks vs =>
      simp only [pyV, view, h3] at q
      cases q
    | kd fs =>
      simp only [pyV, view, h3] at q
      cases q
  | non => exact rep_dp (θ := w.θ) wf.same .non .non q
  | bl b => exact rep_dp (θ := w.θ) wf.same (.bl b) (.bl b) q
  | int b => exact rep_dp (θ := w.θ) wf.same (.int b) (.int b) q
  | str b => exact rep_dp (θ := w.θ) wf.same (.str b) (.str b) q
  | tup h1 h2 => exact rep_dp wf.same (.tup _) (.tup h1 h2) q
  | lst h1 h2 => exact rep_dp wf.same (.lst _) (.lst h1 h2) q
  | arg h1 h2 => exact rep_dp wf.same (.arg _) (.arg h1 h2) q
  | dct => cases q
  | raw => exact rep_dp (θ := w.θ) wf.same (.raw _) (.raw _) q
end
/-! ### == != in < -/
def eqB (μ : Store) (x y : D) : Option Bool := match pyV μ x, pyV μ y with
  | some p, some q => if SeqAt.shaped p && SeqAt.shaped q then some (PyData.eqv p q) else none
  | _, _ => none
def gEq (neg : Bool) : D → D → M D := fun x y μ => match eqB μ x y with
  | some b => .ok (.bl (if neg then !b else b)) μ
  | none => .bad
theorem v_eq (K : PySem.W.Frag) : VOp K (rEqD K) (gEq false) := by
  intro H w x y d e Q E wf rx ry h
  simp only [gEq, eqB] at h
  cases e1 : pyV w.μ d with
  | none => rw [e1] at h; exact h.elim
  | some p =>
    cases e2 : pyV w.μ e with
    | none => rw [e1, e2] at h; exact h.elim
    | some q =>
      rw [e1, e2] at h
      simp only at h
      by_cases hs : (SeqAt.shaped p && SeqAt.shaped q) = true
      · rw [if_pos hs] at h
        rw [Bool.and_eq_true] at hs
        exact ⟨p, q, pyV_dp wf rx e1, pyV_dp wf ry e2, hs.1, hs.2, post_here h wf (.bl _)⟩
      · rw [if_neg hs] at h; exact h.elim
theorem v_ne (K : PySem.W.Frag) : VOp K (rNeD K) (gEq true) := by
  intro H w x y d e Q E wf rx ry h
  simp only [gEq, eqB] at h
  cases e1 : pyV w.μ d with
  | none => rw [e1] at h; exact h.elim
  | some p =>
    cases e2 : pyV w.μ e with
    | none => rw [e1, e2] at h; exact h.elim
    | some q =>
      rw [e1, e2] at h
      simp only at h
      by_cases hs : (SeqAt.shaped p && SeqAt.shaped q) = true
      · rw [if_pos hs] at h
        rw [Bool.and_eq_true] at hs
        exact ⟨p, q, pyV_dp wf rx e1, pyV_dp wf ry e2, hs.1, hs.2, post_here h wf (.bl _)⟩
      · rw [if_neg hs] at h; exact h.elim
/-- x in a list, a tuple; in a text -/
def inB (μ : Store) (x y : D) : Option Bool := match y with
  | .str j => match x with
    | .str i => some (!(Builtin.Str.occurrences j i 0 j.length 1).isEmpty)
    | _ => none
  | y => match pyV μ x, pyV μ y with
    | some p, some (.list qs) => if SeqAt.shaped p && SeqAt.shaped (.list qs) then some (qs.any fun z => PyData.eqv z p) else none
    | some p, some (.tuple qs) => if SeqAt.shaped p && SeqAt.shaped (.tuple qs) then some (qs.any fun z => PyData.eqv z p) else none
    | _, _ => none
def gIn (neg : Bool) : D → D → M D := fun x y μ => match inB μ x y with
  | some b => .ok (.bl (if neg then !b else b)) μ
  | none => .bad
def rInT (K : PySem.W.Frag) (neg : Bool) : R2 := fun x y H Q => ∃ d ds, Dp K H x d ∧ Dp K H y (.tuple ds) ∧ SeqAt.shaped d = true ∧ SeqAt.shaped (.tuple ds) = true ∧ Q (.bl (if neg then !(ds.any fun z => PyData.eqv z d) else ds.any fun z => PyData.eqv z d)) H
theorem room_in_tup {A : Around} {d : PyData} {ds : List PyData} (h : SeqAt.shaped d = true) (hu : A.units + 65 < cLine) : A.units + 1 + min (PyData.depthAll ds) d.depth < cLine := by
  have h1 := SeqAt.depth_of_shaped h
  have h2 : min (PyData.depthAll ds) d.depth ≤ d.depth := Nat.min_le_right _ _
  omega
theorem op_inT {X : Cx} (hu : X.A.units + 65 < cLine) : OpR X (compareOp .In) (rInT X.K false) := by
  intro pins s σ H x y v u Q I rx ry h
  obtain ⟨d, ds, hd, he, sd, se, q⟩ := h
  obtain ⟨as, r1⟩ := Dp.reads I d x v hd rx
  obtain ⟨bs, r2⟩ := Dp.reads I (.tuple ds) y u he ry
  exact SeqAt.in_tuple_reads r2 r1 (SeqAt.canLay_of_shaped se) (SeqAt.canLay_of_shaped sd) (room_in_tup sd hu) ⟨.bl _, H, I, rfl, q⟩
theorem op_notInT {X : Cx} (hu : X.A.units + 65 < cLine) : OpR X (compareOp .NotIn) (rInT X.K true) := by
  intro pins s σ H x y v u Q I rx ry h
  obtain ⟨d, ds, hd, he, sd, se, q⟩ := h
  obtain ⟨as, r1⟩ := Dp.reads I d x v hd rx
  obtain ⟨bs, r2⟩ := Dp.reads I (.tuple ds) y u he ry
  exact SeqAt.notIn_tuple_reads r2 r1 (SeqAt.canLay_of_shaped se) (SeqAt.canLay_of_shaped sd) (room_in_tup sd hu) ⟨.bl _, H, I, rfl, q⟩
def rInA (K : PySem.W.Frag) : R2 := fun x y H Q => (∃ i j, x = .str i ∧ y = .str j ∧ Q (.bl (!(Builtin.Str.occurrences j i 0 j.length 1).isEmpty)) H) ∨ rInD K x y H Q ∨ rInT K false x y H Q
def rNotInA (K : PySem.W.Frag) : R2 := fun x y H Q => (∃ i j, x = .str i ∧ y = .str j ∧ Q (.bl (!(!(Builtin.Str.occurrences j i 0 j.length 1).isEmpty))) H) ∨ rNotInD K x y H Q ∨ rInT K true x y H Q
theorem op_inA {X : Cx} (hu : X.A.units + 65 < cLine) : OpR X (compareOp .In) (rInA X.K) := op_in_str.or ((op_inD hu).or (op_inT hu))
theorem op_notInA {X : Cx} (hu : X.A.units + 65 < cLine) : OpR X (compareOp .NotIn) (rNotInA X.K) := op_notIn_str.or ((op_notInD hu).or (op_notInT hu))
theorem inB_seq {K : PySem.W.Frag} {H : Hp} {w : Wd} {x y : V} {d e : D} {b : Bool} (wf : Wf K H w) (rx : Rep K w.F w.θ x d) (ry : Rep K w.F w.θ y e) (h : inB w.μ d e = some b) :
    (∃ i j, x = .str i ∧ y = .str j ∧ b = (!(Builtin.Str.occurrences j i 0 j.length 1).isEmpty)) ∨ (∃ p qs, Dp K H x p ∧ Dp K H y (.list qs) ∧ SeqAt.shaped p = true ∧ SeqAt.shaped (.list qs) = true ∧ b = qs.any fun z => PyData.eqv z p) ∨
      ∃ p qs, Dp K H x p ∧ Dp K H y (.tuple qs) ∧ SeqAt.shaped p = true ∧ SeqAt.shaped (.tuple qs) = true ∧ b = qs.any fun z => PyData.eqv z p := by
  have main : (match pyV w.μ d, pyV w.μ e with
    | some p, some (.list qs) => if SeqAt.shaped p && SeqAt.shaped (.list qs) then some (qs.any fun z => PyData.eqv z p) else none
    | some p, some (.tuple qs) => if SeqAt.shaped p && SeqAt.shaped (.tuple qs) then some (qs.any fun z => PyData.eqv z p) else none
    | _, _ => none) = some b → (∃ p qs, Dp K H x p ∧ Dp K H y (.list qs) ∧ SeqAt.shaped p = true ∧ SeqAt.shaped (.list qs) = true ∧ b = qs.any fun z => PyData.eqv z p) ∨
      ∃ p qs, Dp K H x p ∧ Dp K H y (.tuple qs) ∧ SeqAt.shaped p = true ∧ SeqAt.shaped (.tuple qs) = true ∧ b = qs.any fun z => PyData.eqv z p := fun q => by
    split at q
    · rename_i p qs e1 e2
      by_cases hs : (SeqAt.shaped p && SeqAt.shaped (.list qs)) = true
      · rw [if_pos hs] at q
        rw [Bool.and_eq_true] at hs
        exact .inl ⟨p, qs, pyV_dp wf rx e1, pyV_dp wf ry e2, hs.1, hs.2, (Option.some.inj q).symm⟩
      · rw [if_neg hs] at q; cases q
    · rename_i p qs e1 e2
      by_cases hs : (SeqAt.shaped p && SeqAt.shaped (.tuple qs)) = true
      · rw [if_pos hs] at q
        rw [Bool.and_eq_true] at hs
        exact .inr ⟨p, qs, pyV_dp wf rx e1, pyV_dp wf ry e2, hs.1, hs.2, (Option.some.inj q).symm⟩
      · rw [if_neg hs] at q; cases q
    · cases q
  cases e with
  | str j =>
    cases d with
    | str i =>
      cases rx; cases ry
      exact .inl ⟨i, j, rfl, rfl, (Option.some.inj h).symm⟩
    | _ => cases h
  | _ => exact .inr (main h)
theorem v_in (K : PySem.W.Frag) : VOp K (rInA K) (gIn false) := by
  intro H w x y d e Q E wf rx ry h
  simp only [gIn] at h
  cases e1 : inB w.μ d e with
  | none => rw [e1] at h; exact h.elim
  | some b =>
    rw [e1] at h
    have q := post_here h wf (.bl _)
    rcases inB_seq wf rx ry e1 with ⟨i, j, h1, h2, rfl⟩ | ⟨p, qs, h1, h2, h3, h4, rfl⟩ | ⟨p, qs, h1, h2, h3, h4, rfl⟩
    · exact .inl ⟨i, j, h1, h2, q⟩
    · exact .inr (.inl ⟨p, qs, h1, h2, h3, h4, q⟩)
    · exact .inr (.inr ⟨p, qs, h1, h2, h3, h4, q⟩)
theorem v_notIn (K : PySem.W.Frag) : VOp K (rNotInA K) (gIn true) := by
  intro H w x y d e Q E wf rx ry h
  simp only [gIn] at h
  cases e1 : inB w.μ d e with
  | none => rw [e1] at h; exact h.elim
  | some b =>
    rw [e1] at h
    have q := post_here h wf (.bl _)
    rcases inB_seq wf rx ry e1 with ⟨i, j, h1, h2, rfl⟩ | ⟨p, qs, h1, h2, h3, h4, rfl⟩ | ⟨p, qs, h1, h2, h3, h4, rfl⟩
    · exact .inl ⟨i, j, h1, h2, q⟩
    · exact .inr (.inl ⟨p, qs, h1, h2, h3, h4, q⟩)
    · exact .inr (.inr ⟨p, qs, h1, h2, h3, h4, q⟩)
def notNone : PyData → Bool
  | .none => false
  | _ => true
/-- < of ints; of alike data -/
def ltB (μ : Store) (x y : D) : Option Bool := match x, y with
  | .int i, .int j => some (decide (i < j))
  | x, y => match pyV μ x, pyV μ y with
    | some p, some q => if SeqAt.shaped p && SeqAt.shaped q && PySem.W.alike p q && notNone p then some (PySem.W.dataLt p q) else none
    | _, _ => none
def gLt : D → D → M D := fun x y μ => match ltB μ x y with
  | some b => .ok (.bl b) μ
  | none => .bad
def rLtD (K : PySem.W.Frag) : R2 := fun x y H Q => rI0 (fun i j => .bl (decide (i < j))) x y H Q ∨ ∃ p q, Dp K H x p ∧ Dp K H y q ∧ SeqAt.shaped p = true ∧ PySem.W.alike p q = true ∧ p ≠ .none ∧ Q (.bl (PySem.W.dataLt p q)) H
theorem op_ltD {X : Cx} (hu : X.A.units + 64 < cLine) : OpR X (compareOp .Lt) (rLtD X.K) := by
  intro pins s σ H x y v u Q I rx ry h
  rcases h with h | ⟨p, q, hd, he, sp, al, ne, q0⟩
  · exact op_lt pins s σ H x y v u Q I rx ry h
  · obtain ⟨as, r1⟩ := Dp.reads I p x v hd rx
    obtain ⟨bs, r2⟩ := Dp.reads I q y u he ry
    exact PySem.W.rcLt_alike p q X.A s v u as bs r1 r2 al ne (SeqAt.room_of_shaped sp hu) _ _ _ _ ⟨.bl _, H, I, rfl, q0⟩
def gCmpI (f : Int → Int → Bool) : D → D → M D := fun x y μ => match x, y with
  | .int i, .int j => .ok (.bl (f i j)) μ
  | _, _ => .bad
theorem v_cmpI {K : PySem.W.Frag} {f : Int → Int → Bool} : VOp K (rI0 fun i j => .bl (f i j)) (gCmpI f) := by
  intro H w x y d e Q E wf rx ry h
  cases d with
  | int i =>
    cases e with
    | int j => cases rx; cases ry; exact ⟨i, j, rfl, rfl, post_here h wf (.bl _)⟩
    | _ => exact h.elim
  | _ => exact h.elim
def gLe : D → D → M D := gCmpI fun i j => decide (i ≤ j)
def gGt : D → D → M D := gCmpI fun i j => decide (j < i)
def gGe : D → D → M D := gCmpI fun i j => decide (j ≤ i)
theorem v_lt (K : PySem.W.Frag) : VOp K (rLtD K) gLt := by
  intro H w x y d e Q E wf rx ry h
  simp only [gLt] at h
  cases e1 : ltB w.μ d e with
  | none => rw [e1] at h; exact h.elim
  | some b =>
    rw [e1] at h
    have q := post_here h wf (.bl _)
    have main : (match pyV w.μ d, pyV w.μ e with
      | some p, some q => if SeqAt.shaped p && SeqAt.shaped q && PySem.W.alike p q && notNone p then some (PySem.W.dataLt p q) else none
      | _, _ => none) = some b → rLtD K x y H Q := fun z => by
      split at z
      · rename_i p p' e2 e3
        by_cases hs : (SeqAt.shaped p && SeqAt.shaped p' && PySem.W.alike p p' && notNone p) = true
        · rw [if_pos hs] at z
          simp only [Bool.and_eq_true] at hs
          cases z
          refine .inr ⟨p, p', pyV_dp wf rx e2, pyV_dp wf ry e3, hs.1.1.1, hs.1.2, fun e0 => ?_, q⟩
          subst e0
          exact Bool.noConfusion hs.2
        · rw [if_neg hs] at z; cases z
      · cases z
    cases d with
    | int i =>
      cases e with
      | int j =>
        cases rx; cases ry
        cases e1
        exact .inl ⟨i, j, rfl, rfl, q⟩
      | _ => exact main e1
    | _ => exact main e1
/-- is None -/
def isNon : D → Option Bool
  | .non => some true
  | .raw _ => none
  | _ => some false
def gIsN (neg : Bool) : D → D → M D := fun x y μ => match y, isNon x with
  | .non, some b => .ok (.bl (if neg then !b else b)) μ
  | _, _ => .bad
theorem isNon_ok {K : PySem.W.Frag} {F : Hp} {θ : List Addr} {x : V} {d : D} {b : Bool} (r : Rep K F θ x d) (h : isNon d = some b) : decide (x = .non) = b := by
  cases r <;> first | (cases h; rfl) | cases h
theorem v_isN (K : PySem.W.Frag) : VOp K (fun x y H Q => y = .non ∧ Q (.bl (decide (x = .non))) H) (gIsN false) := by
  intro H w x y d e Q E wf rx ry h
  cases e with
  | non =>
    cases ry
    cases e1 : isNon d with
    | none => simp only [gIsN, e1] at h; exact h.elim
    | some b =>
      simp only [gIsN, e1] at h
      refine ⟨rfl, ?_⟩
      rw [isNon_ok rx e1]
      exact post_here h wf (.bl _)
  | _ => exact h.elim
theorem v_notN (K : PySem.W.Frag) : VOp K (fun x y H Q => y = .non ∧ Q (.bl (!decide (x = .non))) H) (gIsN true) := by
  intro H w x y d e Q E wf rx ry h
  cases e with
  | non =>
    cases ry
    cases e1 : isNon d with
    | none => simp only [gIsN, e1] at h; exact h.elim
    | some b =>
      simp only [gIsN, e1] at h
      refine ⟨rfl, ?_⟩
      rw [isNon_ok rx e1]
      exact post_here h wf (.bl _)
  | _ => exact h.elim
end DL
namespace DL
open PySem PySem.Spec PyProof.Rows L2
variable [WC]
/-! ### items, slices, lengths -/
def asSeq (μ : Store) : D → Option (List D)
  | .tup xs => some xs
  | .arg xs => some xs
  | d => asLst μ d
theorem asSeq_ok {K : PySem.W.Frag} {H : Hp} {w : Wd} {x : V} {d : D} (wf : Wf K H w) (r : Rep K w.F w.θ x d) {xs : List D} (h : asSeq w.μ d = some xs) :
    ∃ a vs, x = .ref a ∧ (SqL K H a vs ∨ SqT K H a vs) ∧ RepL K w.F w.θ vs xs := by
  have main : asLst w.μ d = some xs → ∃ a vs, x = .ref a ∧ (SqL K H a vs ∨ SqT K H a vs) ∧ RepL K w.F w.θ vs xs := fun q => by
    obtain ⟨a, vs, h1, h2, h3⟩ := asLst_ok wf r q
    exact ⟨a, vs, h1, .inl (SqL.of h2), h3⟩
  cases d with
  | tup ys =>
    cases h
    obtain ⟨a, vs, h1, h2, h3⟩ := asTup_ok wf r rfl
    exact ⟨a, vs, h1, .inr h2, h3⟩
  | arg ys =>
    cases h
    cases r with
    | arg h1 h2 => exact ⟨_, _, rfl, .inl (Same.seq wf.same h1), h2⟩
  | _ => exact main h
def gIx : D → D → M D := fun x y μ => match asSeq μ x, y with
  | some xs, .int i => match atI xs i with
    | some d => .ok d μ
    | none => .bad
  | _, _ => .bad
theorem atI_rep {K : PySem.W.Frag} {F : Hp} {θ : List Addr} {vs : List V} {xs : List D} {i : Int} {d : D} (r : RepL K F θ vs xs) (h : atI xs i = some d) : ∃ v, atI vs i = some v ∧ Rep K F θ v d := by
  unfold atI at h ⊢
  rw [r.length]
  cases e : ixN xs.length i with
  | none => rw [e] at h; cases h
  | some j =>
    rw [e] at h
    exact r.at h
theorem v_ix (K : PySem.W.Frag) : VOp K (rIx K) gIx := by
  intro H w x y d e Q E wf rx ry h
  simp only [gIx] at h
  cases e1 : asSeq w.μ d with
  | none => rw [e1] at h; exact h.elim
  | some xs =>
    rw [e1] at h
    cases e with
    | int i =>
      simp only at h
      cases e2 : atI xs i with
      | none => rw [e2] at h; exact h.elim
      | some z =>
        rw [e2] at h
        obtain ⟨a, vs, rfl, hs, r⟩ := asSeq_ok wf rx e1
        obtain ⟨v, h2, h3⟩ := atI_rep r e2
        cases ry
        have q := post_here h wf h3
        rcases hs with hs | hs
        · exact .inl ⟨a, vs, i, v, rfl, rfl, hs, h2, q⟩
        · exact .inr (.inl ⟨a, vs, i, v, rfl, rfl, hs, h2, q⟩)
    | _ => exact h.elim
/-- x[lo:hi] -/
def cutD (xs : List D) (lo hi : Option Int) : List D := (xs.drop (HT.sIx xs.length 0 lo)).take (HT.sIx xs.length xs.length hi - HT.sIx xs.length 0 lo)
def gSl (x : D) (lo hi : Option Int) : M D := fun μ => match x with
  | .tup xs => .ok (.tup (cutD xs lo hi)) μ
  | .str z => if z.length ≤ sizeLine then .ok (.str (cutS z lo hi)) μ else .bad
  | x => match asSeq μ x with
    | some xs => .ok (.lst (cutD xs lo hi)) μ
    | none => .bad
def rSlD (K : PySem.W.Frag) : V → Option Int → Option Int → Hp → VK → Prop := fun x lo hi H Q => rSlA K x lo hi H Q ∨ rSlL K x lo hi H Q ∨ rSlS x lo hi H Q
theorem sl_D {X : Cx} : SlR X (rSlD X.K) := sl_tupA.or (sl_list.or sl_str)
theorem cut_rep {K : PySem.W.Frag} {F : Hp} {θ : List Addr} {vs : List V} {xs : List D} {lo hi : Option Int} (r : RepL K F θ vs xs) : RepL K F θ (cutV vs lo hi) (cutD xs lo hi) := by
  unfold cutV cutD
  rw [r.length]
  exact (r.drop _).take _
theorem v_sl (K : PySem.W.Frag) {H : Hp} {w : Wd} {x : V} {d : D} {lo hi : Option Int} {Q : VK} {E : Ex → Hp → Wd → Prop} (wf : Wf K H w) (rx : Rep K w.F w.θ x d) (h : Post K H w (gSl d lo hi w.μ) (QV K Q) E) : rSlD K x lo hi H Q := by
  have lists : (match asSeq w.μ d with
    | some xs => Res.ok (.lst (cutD xs lo hi)) w.μ
    | none => .bad) = gSl d lo hi w.μ → (∀ xs, d ≠ .tup xs) → rSlD K x lo hi H Q := fun he hn => by
    rw [← he] at h
    cases e1 : asSeq w.μ d with
    | none => rw [e1] at h; exact h.elim
    | some xs =>
      rw [e1] at h
      have e2 : ∃ a vs, x = .ref a ∧ SqL K H a vs ∧ RepL K w.F w.θ vs xs := by
        cases d with
        | tup ys => exact absurd rfl (hn ys)
        | arg ys =>
          cases e1
          cases rx with
          | arg h1 h2 => exact ⟨_, _, rfl, Same.seq wf.same h1, h2⟩
        | lst ys =>
          obtain ⟨a, vs, h1, h2, h3⟩ := asLst_ok wf rx e1
          exact ⟨a, vs, h1, SqL.of h2, h3⟩
        | ptr n =>
          obtain ⟨a, vs, h1, h2, h3⟩ := asLst_ok wf rx e1
          exact ⟨a, vs, h1, SqL.of h2, h3⟩
        | _ => cases e1
      obtain ⟨a, vs, rfl, hs, r⟩ := e2
      exact .inr (.inl ⟨a, vs, rfl, hs, fun p hp => post_lst h wf hp (cut_rep r)⟩)
  cases d with
  | tup xs =>
    obtain ⟨a, vs, rfl, ha, ra⟩ := asTup_ok wf rx rfl
    refine .inl ⟨a, vs, rfl, ha, fun hw => ?_, fun _ p hp => post_tup h wf hp (cut_rep ra)⟩
    have e : cutD xs lo hi = xs := by
      unfold cutD
      rw [ra.length] at hw
      rw [hw.1, hw.2]; simp
    simp only [gSl, e] at h
    exact post_here h wf rx
  | str z =>
    cases rx
    simp only [gSl] at h
    split at h
    · rename_i hz
      exact .inr (.inr ⟨z, rfl, hz, post_here h wf (.str _)⟩)
    · exact h.elim
  | _ => exact lists rfl fun _ => nofun
def gLen : List D → M D := fun ds μ => match ds with
  | [.str z] => if z.length ≤ sizeLine then .ok (.int z.length) μ else .bad
  | [x] => match asSeq μ x with
    | some xs => .ok (.int xs.length) μ
    | none => .bad
  | _ => .bad
def rLenD (K : PySem.W.Frag) : List V → Hp → VK → Prop := fun xs H Q => ∃ x n, xs = [x] ∧ LenV K x H n ∧ Q (.int n) H
theorem v_len (K : PySem.W.Frag) : VCall K (rLenD K) gLen := by
  intro H w xs ds Q E wf r h
  cases r with
  | nil => exact h.elim
  | cons r1 r2 =>
    rename_i v vs d ds
    cases r2 with
    | cons _ _ => cases d <;> exact h.elim
    | nil =>
      have main : (match asSeq w.μ d with
        | some xs => Res.ok (D.int xs.length) w.μ
        | none => .bad) = gLen [d] w.μ → rLenD K [v] H Q := fun he => by
        rw [← he] at h
        cases e1 : asSeq w.μ d with
        | none => rw [e1] at h; exact h.elim
        | some xs =>
          rw [e1] at h
          obtain ⟨a, us, rfl, hs, rr⟩ := asSeq_ok wf r1 e1
          have q := post_here h wf (.int _)
          rw [← rr.length] at q
          rcases hs with hs | hs
          · exact ⟨_, _, rfl, .inl ⟨us, hs, rfl⟩, q⟩
          · exact ⟨_, _, rfl, .inr ⟨us, hs, rfl⟩, q⟩
      cases d with
      | str z =>
        cases r1
        simp only [gLen] at h
        split at h
        · rename_i hz
          exact ⟨_, _, rfl, ⟨hz, rfl⟩, post_here h wf (.int _)⟩
        · exact h.elim
      | _ => exact main rfl
/-! ### list(x), tuple(x), int(x), abs, max, min, str of an int -/
def gList (mu : Bool) : List D → M D := fun ds μ => match ds with
  | [x] => match asSeq μ x with
    | some xs => retL mu xs μ
    | none => .bad
  | _ => .bad
def rListD (K : PySem.W.Frag) : List V → Hp → VK → Prop := fun xs H Q => ∃ p ys, xs = [.ref p] ∧ (SqL K H p ys ∨ SqT K H p ys) ∧ ∀ l, H l = none → Q (.ref l) (upd H l (.lst ys))
theorem v_list (K : PySem.W.Frag) (mu : Bool) : VCall K (rListD K) (gList mu) := by
  intro H w xs ds Q E wf r h
  cases r with
  | nil => exact h.elim
  | cons r1 r2 =>
    rename_i v vs d ds
    cases r2 with
    | cons _ _ => exact h.elim
    | nil =>
      simp only [gList] at h
      cases e1 : asSeq w.μ d with
      | none => rw [e1] at h; exact h.elim
      | some xs =>
        rw [e1] at h
        obtain ⟨a, us, rfl, hs, rr⟩ := asSeq_ok wf r1 e1
        refine ⟨a, us, rfl, hs, fun p hp => ?_⟩
        simp only [retL] at h
        cases mu with
        | true => exact post_mut h wf hp rr
        | false => exact post_lst h wf hp rr
def gTuple : List D → M D := fun ds μ => match ds with
  | [x] => match asSeq μ x with
    | some xs => .ok (.tup xs) μ
    | none => .bad
  | _ => .bad
def rTupleD (K : PySem.W.Frag) : List V → Hp → VK → Prop := fun xs H Q => ∃ p ys, xs = [.ref p] ∧ ((SqL K H p ys ∧ ∀ l, H l = none → Q (.ref l) (upd H l (.tup ys))) ∨ (SqT K H p ys ∧ Q (.ref p) H))
theorem v_tuple (K : PySem.W.Frag) : VCall K (rTupleD K) gTuple := by
  intro H w xs ds Q E wf r h
  cases r with
  | nil => exact h.elim
  | cons r1 r2 =>
    rename_i v vs d ds
    cases r2 with
    | cons _ _ => exact h.elim
    | nil =>
      simp only [gTuple] at h
      cases e1 : asSeq w.μ d with
      | none => rw [e1] at h; exact h.elim
      | some xs =>
        rw [e1] at h
        by_cases ht : ∃ ys, d = .tup ys
        · obtain ⟨ys, rfl⟩ := ht
          cases e1
          obtain ⟨a, us, rfl, hs, rr⟩ := asTup_ok wf r1 rfl
          exact ⟨a, us, rfl, .inr ⟨hs, post_here h wf r1⟩⟩
        · have e2 : ∃ a vs, v = .ref a ∧ SqL K H a vs ∧ RepL K w.F w.θ vs xs := by
            cases d with
            | tup ys => exact absurd ⟨ys, rfl⟩ ht
            | arg ys =>
              cases e1
              cases r1 with
              | arg h1 h2 => exact ⟨_, _, rfl, Same.seq wf.same h1, h2⟩
            | lst ys =>
              obtain ⟨a, vs, h1, h2, h3⟩ := asLst_ok wf r1 e1
              exact ⟨a, vs, h1, SqL.of h2, h3⟩
            | ptr n =>
              obtain ⟨a, vs, h1, h2, h3⟩ := asLst_ok wf r1 e1
              exact ⟨a, vs, h1, SqL.of h2, h3⟩
            | _ => cases e1
          obtain ⟨a, us, rfl, hs, rr⟩ := e2
          exact ⟨a, us, rfl, .inl ⟨hs, fun p hp => post_tup h wf hp rr⟩⟩
def gInt1 : List D → M D := fun ds μ => match ds with
  | [.int i] => .ok (.int i) μ
  | [.bl b] => .ok (.int (if b then 1 else 0)) μ
  | _ => .bad
theorem v_int1 (K : PySem.W.Frag) : VCall K (fun xs H Q => (∃ i, xs = [.int i] ∧ Q (.int i) H) ∨ ∃ k, xs = [.bl k] ∧ Q (.int (if k then 1 else 0)) H) gInt1 := by
  intro H w xs ds Q E wf r h
  cases r with
  | nil => exact h.elim
  | cons r1 r2 =>
    rename_i v vs d ds
    cases r2 with
    | cons _ _ => cases d <;> exact h.elim
    | nil =>
      cases d with
      | int i => cases r1; exact .inl ⟨i, rfl, post_here h wf (.int _)⟩
      | bl b => cases r1; exact .inr ⟨b, rfl, post_here h wf (.int _)⟩
      | _ => exact h.elim
def gFun1 (c : Int → Bool) (f : Int → D) : List D → M D := fun ds μ => match ds with
  | [.int i] => if c i = true then .ok (f i) μ else .bad
  | _ => .bad
def gAbs : List D → M D := gFun1 (fun _ => true) fun i => .int (if i < 0 then -i else i)
theorem v_abs (K : PySem.W.Frag) : VCall K (fun xs H Q => ∃ i, xs = [.int i] ∧ Q (.int (if i < 0 then -i else i)) H) gAbs := by
  intro H w xs ds Q E wf r h
  cases r with
  | nil => exact h.elim
  | cons r1 r2 =>
    rename_i v vs d ds
    cases r2 with
    | cons _ _ => cases d <;> exact h.elim
    | nil =>
      cases d with
      | int i => cases r1; exact ⟨i, rfl, post_here h wf (.int _)⟩
      | _ => exact h.elim
def gStrI : List D → M D := gFun1 (fun i => Nat.blt i.natAbs.log2 1920) fun i => .str (toString i)
theorem v_strI (K : PySem.W.Frag) : VCall K (fun xs H Q => ∃ i, xs = [.int i] ∧ i.natAbs.log2 < 1920 ∧ Q (.str (toString i)) H) gStrI := by
  intro H w xs ds Q E wf r h
  cases r with
  | nil => exact h.elim
  | cons r1 r2 =>
    rename_i v vs d ds
    cases r2 with
    | cons _ _ => cases d <;> exact h.elim
    | nil =>
      cases d with
      | int i =>
        cases r1
        simp only [gStrI, gFun1] at h
        split at h
        · rename_i hz
          exact ⟨i, rfl, by simpa [Nat.blt_eq] using hz, post_here h wf (.str _)⟩
        · exact h.elim
      | _ => exact h.elim
def gFun2 (f : Int → Int → Int) : List D → M D := fun ds μ => match ds with
  | [.int i, .int j] => .ok (.int (f i j)) μ
  | _ => .bad
theorem v_fun2 {K : PySem.W.Frag} {f : Int → Int → Int} : VCall K (fun xs H Q => ∃ i j, xs = [.int i, .int j] ∧ Q (.int (f i j)) H) (gFun2 f) := by
  intro H w xs ds Q E wf r h
  cases r with
  | nil => exact h.elim
  | cons r1 r2 =>
    rename_i v vs d ds
    cases r2 with
    | nil => cases d <;> exact h.elim
    | cons r2 r3 =>
      rename_i v2 vs2 d2 ds2
      cases r3 with
      | cons _ _ => cases d <;> cases d2 <;> exact h.elim
      | nil =>
        cases d with
        | int i =>
          cases d2 with
          | int j => cases r1; cases r2; exact ⟨i, j, rfl, post_here h wf (.int _)⟩
          | _ => exact h.elim
        | _ => cases d2 <;> exact h.elim
def gMax2 : List D → M D := gFun2 fun i j => if j > i then j else i
def gMin2 : List D → M D := gFun2 fun i j => if j < i then j else i
/-! ### all, any, sum -/
def blsOf : List D → Option (List Bool)
  | [] => some []
  | .bl b :: r => (blsOf r).map (b :: ·)
  | _ => none
def intsOf : List D → Option (List Int)
  | [] => some []
  | .int b :: r => (intsOf r).map (b :: ·)
  | _ => none
theorem blsOf_rep {K : PySem.W.Frag} {F : Hp} {θ : List Addr} : ∀ {vs : List V} {xs : List D} {bs : List Bool}, RepL K F θ vs xs → blsOf xs = some bs → vs = bs.map V.bl
  | _, [], _, r, h => by cases r; cases h; rfl
  | _, d :: ds, _, r, h => by
    cases r with
    | cons r1 r2 =>
      cases d with
      | bl b =>
        simp only [blsOf, Option.map_eq_some_iff] at h
        obtain ⟨bs, h1, rfl⟩ := h
        cases r1
        rw [blsOf_rep r2 h1]; rfl
      | _ => cases h
theorem intsOf_rep {K : PySem.W.Frag} {F : Hp} {θ : List Addr} : ∀ {vs : List V} {xs : List D} {bs : List Int}, RepL K F θ vs xs → intsOf xs = some bs → vs = bs.map V.int
  | _, [], _, r, h => by cases r; cases h; rfl
  | _, d :: ds, _, r, h => by
    cases r with
    | cons r1 r2 =>
      cases d with
      | int b =>
        simp only [intsOf, Option.map_eq_some_iff] at h
        obtain ⟨bs, h1, rfl⟩ := h
        cases r1
        rw [intsOf_rep r2 h1]; rfl
      | _ => cases h
def gBls (f : List Bool → Bool) : List D → M D := fun ds μ => match ds with
  | [x] => match (asLst μ x).bind blsOf with
    | some bs => .ok (.bl (f bs)) μ
    | none => .bad
  | _ => .bad
theorem v_bls {K : PySem.W.Frag} {f : List Bool → Bool} : VCall K (fun vs H Q => ∃ (a : Addr) (bs : List Bool), vs = [V.ref a] ∧ SqL K H a (bs.map V.bl) ∧ Q (.bl (f bs)) H) (gBls f) := by
  intro H w xs ds Q E wf r h
  cases r with
  | nil => exact h.elim
  | cons r1 r2 =>
    rename_i v vs d ds
    cases r2 with
    | cons _ _ => exact h.elim
    | nil =>
      simp only [gBls] at h
      cases e1 : (asLst w.μ d).bind blsOf with
      | none => rw [e1] at h; exact h.elim
      | some bs =>
        rw [e1] at h
        obtain ⟨ys, h1, h2⟩ := Option.bind_eq_some_iff.mp e1
        obtain ⟨a, us, rfl, hs, rr⟩ := asLst_ok wf r1 h1
        have e := blsOf_rep rr h2
        subst e
        exact ⟨a, bs, rfl, SqL.of hs, post_here h wf (.bl _)⟩
def gAll : List D → M D := gBls fun bs => bs.all id
def gAny : List D → M D := gBls fun bs => bs.any id
def gSum : List D → M D := fun ds μ => match ds with
  | [x] => match (asLst μ x).bind intsOf with
    | some bs => .ok (.int bs.sum) μ
    | none => .bad
  | _ => .bad
theorem v_sum (K : PySem.W.Frag) : VCall K (rSum K) gSum := by
  intro H w xs ds Q E wf r h
  cases r with
  | nil => exact h.elim
  | cons r1 r2 =>
    rename_i v vs d ds
    cases r2 with
    | cons _ _ => exact h.elim
    | nil =>
      simp only [gSum] at h
      cases e1 : (asLst w.μ d).bind intsOf with
      | none => rw [e1] at h; exact h.elim
      | some bs =>
        rw [e1] at h
        obtain ⟨ys, h1, h2⟩ := Option.bind_eq_some_iff.mp e1
        obtain ⟨a, us, rfl, hs, rr⟩ := asLst_ok wf r1 h1
        have e := intsOf_rep rr h2
        subst e
        exact ⟨a, bs, rfl, SqL.of hs, post_here h wf (.int _)⟩
/-! ### isinstance -/
def tyName (μ : Store) : D → Option String
  | .non => some "NoneType"
  | .bl _ => some "bool"
  | .int _ => some "int"
  | .str _ => some "str"
  | .tup _ => some "tuple"
  | .lst _ => some "list"
  | .arg _ => some "list"
  | .dct _ _ => none
  | .ptr n => match μ[n]? with
    | some (.lst _) => some "list"
    | _ => none
  | .raw _ => none
theorem tyName_ok {K : PySem.W.Frag} {H : Hp} {w : Wd} {x : V} {d : D} {t : String} (wf : Wf K H w) (r : Rep K w.F w.θ x d) (h : tyName w.μ d = some t) : TyX K H x (.type t) := by
  cases r with
  | non => cases h; exact .base .non
  | bl b => cases h; exact .base (.bl _)
  | int b => cases h; exact .base (.int _)
  | str b => cases h; exact .base (.str _)
  | tup h1 h2 =>
    cases h
    rcases same_sqt wf.same h1 with (h1 | ⟨o, h1⟩) | ⟨o, its, n, h1, h3, _⟩
    · exact .base (.tup h1)
    · exact .fTuple h1
    · exact .kTuple h1 h3
  | lst h1 h2 => cases h; exact .base (.lst (wf.same _ _ h1))
  | arg h1 h2 =>
    cases h
    rcases Same.seq wf.same h1 with (h1 | ⟨o, h1⟩) | ⟨o, its, n, h1, h3, _⟩
    · exact .base (.lst h1)
    · exact .base (.frz h1)
    · exact .kList h1 h3
  | @ptr a n h1 =>
    obtain ⟨o, h3, h4⟩ := wf.some_of h1
    simp only [tyName, h3] at h
    cases o with
    | lst ys =>
      cases h
      obtain ⟨vs, h5, _⟩ := h4
      exact .base (.lst h5)
    | dct ks vs => cases h
    | kd fs => cases h
  | dct h1 => cases h
  | raw => cases h
/-- isinstance(x, T), T a built-in class -/
def gIsi : List D → M D := fun ds μ => match ds with
  | [x, .raw (.ty n)] => match tyName μ x with
    | some t => match kitB t n with
      | some b => .ok (.bl b) μ
      | none => .bad
    | none => .bad
  | _ => .bad
theorem v_isi (K : PySem.W.Frag) : VCall K (rIsi K) gIsi := by
  intro H w xs ds Q E wf r h
  cases r with
  | nil => exact h.elim
  | cons r1 r2 =>
    rename_i v vs d ds
    cases r2 with
    | nil => cases d <;> exact h.elim
    | cons r2 r3 =>
      rename_i v2 vs2 d2 ds2
      cases r3 with
      | cons _ _ => cases d2 <;> (try rename_i u; cases u) <;> exact h.elim
      | nil =>
        cases d2 with
        | raw u =>
          cases u with
          | ty n =>
            simp only [gIsi] at h
            cases e1 : tyName w.μ d with
            | none => rw [e1] at h; exact h.elim
            | some t =>
              rw [e1] at h
              simp only at h
              cases e2 : kitB t n with
              | none => rw [e2] at h; exact h.elim
              | some b =>
                rw [e2] at h
                cases r2
                exact ⟨v, _, .type t, .type n, b, rfl, .ty n, tyName_ok wf r1 e1, kit_ty e2, post_here h wf (.bl _)⟩
          | _ => exact h.elim
        | _ => exact h.elim
end DL
namespace DL
open PySem PySem.Spec PyProof.Rows L2
variable [WC]
/-! ### the words of the mirror: expressions -/
def eVar (i : Nat) : Env → M D := fun ρ => match ρ[i]? with
  | some (some d) => Mret d
  | _ => Mbad
def eC (d : D) : Env → M D := fun _ => Mret d
def eBin (g : D → D → M D) (f h : Env → M D) : Env → M D := fun ρ => Mbind (f ρ) fun x => Mbind (h ρ) fun y => g x y
def eUn (g : D → M D) (f : Env → M D) : Env → M D := fun ρ => Mbind (f ρ) g
def aNil : Env → M (List D) := fun _ => Mret []
def aCons (f : Env → M D) (h : Env → M (List D)) : Env → M (List D) := fun ρ => Mbind (f ρ) fun x => Mbind (h ρ) fun xs => Mret (x :: xs)
def eCall (g : List D → M D) (h : Env → M (List D)) : Env → M D := fun ρ => Mbind (h ρ) g
def eTup (h : Env → M (List D)) : Env → M D := fun ρ => Mbind (h ρ) fun xs => if xs.length ≤ sizeLine then Mret (.tup xs) else Mbad
def eLst (mu : Bool) (h : Env → M (List D)) : Env → M D := fun ρ => Mbind (h ρ) fun xs => if xs.length ≤ sizeLine then retL mu xs else Mbad
def eIf (c : Env → M Bool) (f h : Env → M D) : Env → M D := fun ρ => Mbind (c ρ) fun b => if b = true then f ρ else h ρ
def asB : D → M Bool
  | .bl b => Mret b
  | _ => Mbad
/-- and, or, not as values: all but the last one True or False -/
def eAnd (f h : Env → M D) : Env → M D := fun ρ => Mbind (f ρ) fun x => Mbind (asB x) fun b => if b = true then h ρ else Mret (.bl false)
def eOr (f h : Env → M D) : Env → M D := fun ρ => Mbind (f ρ) fun x => Mbind (asB x) fun b => if b = true then Mret (.bl true) else h ρ
def eNot (f : Env → M D) : Env → M D := fun ρ => Mbind (f ρ) fun x => Mbind (asB x) fun b => Mret (.bl (!b))
/-- a < b < c -/
def eChain (g g' : D → D → M D) (f h k : Env → M D) : Env → M D := fun ρ => Mbind (f ρ) fun x => Mbind (h ρ) fun y => Mbind (g x y) fun z => Mbind (asB z) fun b =>
  if b = true then Mbind (k ρ) fun u => g' y u else Mret (.bl false)
def asI : D → M Int
  | .int i => Mret i
  | _ => Mbad
def oNone : Env → M (Option Int) := fun _ => Mret none
def oSome (f : Env → M D) : Env → M (Option Int) := fun ρ => Mbind (f ρ) fun x => Mbind (asI x) fun i => Mret (some i)
def eSl (f : Env → M D) (lo hi : Env → M (Option Int)) : Env → M D := fun ρ => Mbind (f ρ) fun x => Mbind (lo ρ) fun l => Mbind (hi ρ) fun u => gSl x l u
/-! tests -/
def tOf (f : Env → M D) : Env → M Bool := fun ρ => Mbind (f ρ) asB
def tAndM (c d : Env → M Bool) : Env → M Bool := fun ρ => Mbind (c ρ) fun b => if b = true then d ρ else Mret false
def tOrM (c d : Env → M Bool) : Env → M Bool := fun ρ => Mbind (c ρ) fun b => if b = true then Mret true else d ρ
def tNotM (c : Env → M Bool) : Env → M Bool := fun ρ => Mbind (c ρ) fun b => Mret (!b)
/-- truth of a value -/
def truD (μ : Store) : D → Option Bool
  | .non => some false
  | .bl b => some b
  | .int i => some (i != 0)
  | .str y => if y.length ≤ sizeLine then some ((y.length : Int) != 0) else none
  | d => (asSeq μ d).map fun xs => !xs.isEmpty
def gTru (d : D) : M Bool := fun μ => match truD μ d with
  | some b => .ok b μ
  | none => .bad
def tTru (f : Env → M D) : Env → M Bool := fun ρ => Mbind (f ρ) gTru
section
variable {K : PySem.W.Frag} {mg : Str → Option Value} {W : WX} {σ : L2.St} {H : Hp} {w : Wd} {α β : Type}
abbrev EW (K : PySem.W.Frag) (mg : Str → Option Value) (W : WX) (σ : L2.St) : Ex → Hp → Wd → Prop := fun e H' w' => ∀ c dd, ExR K mg H' w' e c dd → W c dd σ H'
theorem post_bind {m : M α} {f : α → M β} {μ : Store} {Q : β → Hp → Wd → Prop} {E : Ex → Hp → Wd → Prop} (h : Post K H w (Mbind m f μ) Q E) : Post K H w (m μ) (fun a H1 w1 => Post K H1 w1 (f a w1.μ) Q E) E := Post.bind h
theorem post_ret {a : α} {Q : α → Hp → Wd → Prop} {E : Ex → Hp → Wd → Prop} (h : Post K H w (Mret a w.μ) Q E) (wf : Wf K H w) : Q a H w := h H w rfl (Ext.refl _ _) wf
/-- a piece, then what follows -/
theorem tE_bind {f : Env → M D} {k : D → M α} {Q : α → Hp → Wd → Prop} {Q' : VK} {ρ : Env} (S : SR K σ H ρ w) (h : Post K H w (Mbind (f ρ) k w.μ) Q (EW K mg W σ))
    (hk : ∀ d v H1 w1, Ext H w H1 w1 → SR K σ H1 ρ w1 → Rep K w1.F w1.θ v d → Post K H1 w1 (k d w1.μ) Q (EW K mg W σ) → Q' v H1) : tE K mg W f σ H Q' :=
  ⟨ρ, w, S, (post_bind h).imp (fun d H1 w1 x wf q v r => hk d v H1 w1 x (S.ext x wf) r q) fun _ _ _ _ _ q => q⟩
theorem tA_bind {f : Env → M (List D)} {k : List D → M α} {Q : α → Hp → Wd → Prop} {Q' : List V → Hp → Prop} {ρ : Env} (S : SR K σ H ρ w) (h : Post K H w (Mbind (f ρ) k w.μ) Q (EW K mg W σ))
    (hk : ∀ d v H1 w1, Ext H w H1 w1 → SR K σ H1 ρ w1 → RepL K w1.F w1.θ v d → Post K H1 w1 (k d w1.μ) Q (EW K mg W σ) → Q' v H1) : tA K mg W f σ H Q' :=
  ⟨ρ, w, S, (post_bind h).imp (fun d H1 w1 x wf q v r => hk d v H1 w1 x (S.ext x wf) r q) fun _ _ _ _ _ q => q⟩
theorem tT_bind {f : Env → M Bool} {k : Bool → M α} {Q : α → Hp → Wd → Prop} {Q' : Bool → Hp → Prop} {ρ : Env} (S : SR K σ H ρ w) (h : Post K H w (Mbind (f ρ) k w.μ) Q (EW K mg W σ))
    (hk : ∀ b H1 w1, Ext H w H1 w1 → SR K σ H1 ρ w1 → Post K H1 w1 (k b w1.μ) Q (EW K mg W σ) → Q' b H1) : tT K mg W f σ H Q' :=
  ⟨ρ, w, S, (post_bind h).imp (fun d H1 w1 x wf q => hk d H1 w1 x (S.ext x wf) q) fun _ _ _ _ _ q => q⟩
/-- the last piece -/
theorem tE_last {f : Env → M D} {Q : VK} {ρ : Env} (S : SR K σ H ρ w) (h : Post K H w (f ρ w.μ) (QV K Q) (EW K mg W σ)) : tE K mg W f σ H Q := ⟨ρ, w, S, h⟩
end
section
variable {X : Cx} {W : WX} {a b c : Expr} {es : List Expr} {f h k : Env → M D} {pos : Pos}
theorem ed_var {i : Nat} {x : Str} (hN : X.N[i]? = some x) (hv : Vis X.env.scope x) (hd : (x == ("__debug__" : Str)) = false := by decide) (hcd : (x == ("__classdict__" : Str)) = false := by decide) : ED X W (.Name x pos) (eVar i) :=
  PE_imp (pe_var hN hv hd hcd) fun σ H Q ⟨ρ, w, S, P⟩ => by
    unfold eVar at P
    cases hi : ρ[i]? with
    | none => rw [hi] at P; exact P.elim
    | some o =>
      rw [hi] at P
      cases o with
      | none => exact P.elim
      | some d =>
        obtain ⟨v, h1, h2⟩ := S.val i d hi
        exact ⟨v, h1, post_ret P S.wf v h2⟩
theorem ed_c {e : Expr} {v : V} {d : D} (h : PE X e (tC v)) (r : ∀ F θ, Rep X.K F θ v d) : ED X W e (eC d) :=
  PE_imp h fun σ H Q ⟨ρ, w, S, P⟩ => post_ret P S.wf v (r _ _)
theorem ed_int {i : Int} {j} : ED X W (.Constant (.int i) j pos) (eC (.int i)) := ed_c pe_int fun _ _ => .int _
theorem ed_bl {i : Bool} {j} : ED X W (.Constant (.bool i) j pos) (eC (.bl i)) := ed_c pe_bl fun _ _ => .bl _
theorem ed_non {j} : ED X W (.Constant .none j pos) (eC .non) := ed_c pe_non fun _ _ => .non
theorem ed_str {x : Str} {j} : ED X W (.Constant (.str x) j pos) (eC (.str x)) := ed_c pe_str fun _ _ => .str _
/-- a constant of the module; a def or class of it as a value -/
theorem ed_glob {x : Str} {v : V} {u : Value} {d : D} (hg : Gl X x) (hm : X.mg x = some u) (r : RelV v u) (rd : ∀ F θ, Rep X.K F θ v d) (hd : (x == ("__debug__" : Str)) = false := by decide) : ED X W (.Name x pos) (eC d) := ed_c (pe_glob hg hm r hd) rd
/-- the name of a built-in type -/
theorem ed_ty {x : Str} {n : String} (hg : Gl X x) (hm : X.mg x = none) (hv : bootBuiltins x = some (.type n)) (hn : x ≠ "__name__" := by decide) (hd : (x == ("__debug__" : Str)) = false := by decide) : ED X W (.Name x pos) (eC (.raw (.ty n))) :=
  ed_c (pe_bltn (v := .ty n) hg hm hv rfl hn hd) fun _ _ => .raw _
theorem ed_bin {op : Operator} {r : R2} {g : D → D → M D} (ho : OpR X (binaryOp op) r) (hv : VOp X.K r g) (ha : ED X W a f) (hb : ED X W b h) : ED X W (.BinOp a op b pos) (eBin g f h) :=
  PE_imp (pe_op ho ha hb) fun σ H Q ⟨ρ, w, S, P⟩ => tE_bind S P fun d v H1 w1 _ S1 r1 P1 => tE_bind S1 P1 fun e u H2 w2 x2 S2 r2 P2 => hv H2 w2 v u d e Q _ S2.wf (x2.rep r1) r2 P2
theorem ed_cmp {op : CmpOp} {r : R2} {g : D → D → M D} (ho : OpR X (compareOp op) r) (hv : VOp X.K r g) (ha : ED X W a f) (hb : ED X W b h) (hm : behindInMarks op b = false) : ED X W (.Compare a [op] [b] pos) (eBin g f h) :=
  PE_imp (pe_cmpR ho ha hb hm) fun σ H Q ⟨ρ, w, S, P⟩ => tE_bind S P fun d v H1 w1 _ S1 r1 P1 => tE_bind S1 P1 fun e u H2 w2 x2 S2 r2 P2 => hv H2 w2 v u d e Q _ S2.wf (x2.rep r1) r2 P2
theorem td_cmp {op : CmpOp} {r : R2} {g : D → D → M D} (ho : OpR X (compareOp op) r) (hv : VOp X.K r g) (ha : ED X W a f) (hb : ED X W b h) (hm : behindInMarks op b = false) : TD X W (.Compare a [op] [b] pos) (tOf (eBin g f h)) :=
  PT_imp (pt_cmpR ho ha hb hm) fun σ H Q ⟨ρ, w, S, P⟩ => by
    have P0 : Post X.K H w (Mbind (f ρ) (fun x => Mbind (h ρ) fun y => Mbind (g x y) asB) w.μ) (fun b H' w' => Q b H') (EW X.K X.mg W σ) := by
      have e : Mbind (f ρ) (fun x => Mbind (h ρ) fun y => Mbind (g x y) asB) w.μ = tOf (eBin g f h) ρ w.μ := by
        simp only [tOf, eBin, Mbind]
        cases f ρ w.μ with
        | ok a μ1 => simp only; cases h ρ μ1 with
          | ok b μ2 => simp only
          | _ => simp only
        | _ => simp only
      rw [e]; exact P
    refine tE_bind S P0 fun d v H1 w1 _ S1 r1 P1 => tE_bind S1 P1 fun e u H2 w2 x2 S2 r2 P2 => ?_
    refine hv H2 w2 v u d e _ (EW X.K X.mg W σ) S2.wf (x2.rep r1) r2 ((post_bind P2).imp (fun z H3 w3 _ wf3 q y ry => ?_) fun _ _ _ _ _ q => q)
    cases z with
    | bl bb => cases ry; exact ⟨bb, rfl, post_ret q wf3⟩
    | _ => exact q.elim
theorem mbind_assoc {α β γ : Type} (m : M α) (f : α → M β) (g : β → M γ) : Mbind (Mbind m f) g = Mbind m fun a => Mbind (f a) g := by
  funext μ
  simp only [Mbind]
  cases m μ <;> rfl
theorem mbind_ret {α β : Type} (a : α) (f : α → M β) : Mbind (Mret a) f = f a := rfl
theorem ed_not (ha : ED X W a f) : ED X W (.UnaryOp .Not a pos) (eNot f) :=
  PE_imp (pe_not ha) fun σ H Q ⟨ρ, w, S, P⟩ => tE_bind S P fun d v H1 w1 _ S1 r1 P1 => by
    cases d with
    | bl bb => cases r1; exact ⟨bb, rfl, post_ret P1 S1.wf _ (.bl _)⟩
    | _ => exact P1.elim
theorem ed_and {rest : List Expr} (ha : ED X W a f) (hb : ED X W (.BoolOp .And (b :: rest) pos) h) : ED X W (.BoolOp .And (a :: b :: rest) pos) (eAnd f h) :=
  PE_imp (pe_and ha hb) fun σ H Q ⟨ρ, w, S, P⟩ => tE_bind S P fun d v H1 w1 _ S1 r1 P1 => by
    cases d with
    | bl bb =>
      cases r1
      refine ⟨bb, rfl, ?_⟩
      cases bb with
      | true => exact tE_last S1 P1
      | false => exact post_ret P1 S1.wf _ (.bl _)
    | _ => exact P1.elim
theorem ed_or {rest : List Expr} (ha : ED X W a f) (hb : ED X W (.BoolOp .Or (b :: rest) pos) h) : ED X W (.BoolOp .Or (a :: b :: rest) pos) (eOr f h) :=
  PE_imp (pe_or ha hb) fun σ H Q ⟨ρ, w, S, P⟩ => tE_bind S P fun d v H1 w1 _ S1 r1 P1 => by
    cases d with
    | bl bb =>
      cases r1
      refine ⟨bb, rfl, ?_⟩
      cases bb with
      | false => exact tE_last S1 P1
      | true => exact post_ret P1 S1.wf _ (.bl _)
    | _ => exact P1.elim
theorem ed_one {op : BoolOp} (ha : ED X W a f) : ED X W (.BoolOp op [a] pos) f := pe_one ha
theorem ed_if {t : Env → M Bool} (hc : TD X W c t) (ha : ED X W a f) (hb : ED X W b h) : ED X W (.IfExp c a b pos) (eIf t f h) :=
  PE_imp (pe_ifExp hc ha hb) fun σ H Q ⟨ρ, w, S, P⟩ => tT_bind S P fun bb H1 w1 _ S1 P1 => by
    cases bb with
    | true => exact tE_last S1 P1
    | false => exact tE_last S1 P1
theorem ad_nil : AD X W [] aNil := PA_imp pa_nil fun σ H Q ⟨ρ, w, S, P⟩ => post_ret P S.wf [] .nil
theorem ad_cons {t : Env → M (List D)} (ha : ED X W a f) (hr : AD X W es t) (hs : starEach (a :: es) X.env = (false, eval a X.env) :: starEach es X.env := by rfl) : AD X W (a :: es) (aCons f t) :=
  PA_imp (pa_cons ha hr hs) fun σ H Q ⟨ρ, w, S, P⟩ => tE_bind S P fun d v H1 w1 _ S1 r1 P1 => tA_bind S1 P1 fun ds vs H2 w2 x2 S2 r2 P2 => post_ret P2 S2.wf _ (.cons (x2.rep r1) r2)
theorem ed_tup {t : Env → M (List D)} {x1} (ha : AD X W es t) : ED X W (.Tuple es x1 pos) (eTup t) :=
  PE_imp (pe_tup ha) fun σ H Q ⟨ρ, w, S, P⟩ => tA_bind S P fun ds vs H1 w1 x1 S1 r1 P1 => by
    split at P1
    · rename_i hz
      exact ⟨by rw [r1.length]; exact hz, fun p hp => post_tup P1 S1.wf hp r1⟩
    · exact P1.elim
theorem ed_lst {t : Env → M (List D)} (mu : Bool) (ha : AD X W es t) : ED X W (.List es pos) (eLst mu t) :=
  PE_imp (pe_lst ha) fun σ H Q ⟨ρ, w, S, P⟩ => tA_bind S P fun ds vs H1 w1 x1 S1 r1 P1 => by
    split at P1
    · rename_i hz
      refine ⟨by rw [r1.length]; exact hz, fun p hp => ?_⟩
      simp only [retL] at P1
      cases mu with
      | true => exact post_mut P1 S1.wf hp r1
      | false => exact post_lst P1 S1.wf hp r1
    · exact P1.elim
theorem ed_ix (ha : ED X W a f) (hb : ED X W b h) (hs : PlainIx b) : ED X W (.Subscript a b pos) (eBin gIx f h) :=
  PE_imp (pe_ix ix_seq ha hb hs) fun σ H Q ⟨ρ, w, S, P⟩ => tE_bind S P fun d v H1 w1 _ S1 r1 P1 => tE_bind S1 P1 fun e u H2 w2 x2 S2 r2 P2 => v_ix X.K H2 w2 v u d e Q _ S2.wf (x2.rep r1) r2 P2
/-- an optional part of a slice -/
def tO (K : PySem.W.Frag) (mg : Str → Option Value) (W : WX) (f : Env → M (Option Int)) : TO := fun σ H Q => ∃ ρ w, SR K σ H ρ w ∧ Post K H w (f ρ w.μ) (fun o H' w' => Q o H') (EW K mg W σ)
abbrev OD (X : Cx) (W : WX) (o : Option Expr) (f : Env → M (Option Int)) : Prop := PO X o (tO X.K X.mg W f)
theorem PO_imp {X : Cx} {e : Option Expr} {t t' : TO} (h : PO X e t) (hi : ∀ σ H Q, t' σ H Q → t σ H Q) : PO X e t' := ⟨fun pins s σ H Q I q => h.run pins s σ H Q I (hi _ _ _ q)⟩
theorem od_none : OD X W none oNone := PO_imp po_none fun σ H Q ⟨ρ, w, S, P⟩ => post_ret P S.wf
theorem od_some (ha : ED X W a f) : OD X W (some a) (oSome f) := PO_imp (po_some ha) fun σ H Q ⟨ρ, w, S, P⟩ => tE_bind S P fun d v H1 w1 _ S1 r1 P1 => by
  cases d with
  | int i => cases r1; exact ⟨i, rfl, post_ret P1 S1.wf⟩
  | _ => exact P1.elim
theorem ed_sl {lo hi : Option Expr} {l u : Env → M (Option Int)} {p2 : Pos} (ha : ED X W a f) (hl : OD X W lo l) (hu : OD X W hi u) : ED X W (.Subscript a (.Slice lo hi none p2) pos) (eSl f l u) :=
  PE_imp (pe_slice sl_D ha hl hu) fun σ H Q ⟨ρ, w, S, P⟩ => tE_bind S P fun d v H1 w1 _ S1 r1 P1 =>
    ⟨ρ, w1, S1, (post_bind P1).imp (fun o H2 w2 x2 wf2 P2 => ⟨ρ, w2, S1.ext x2 wf2, (post_bind P2).imp (fun o2 H3 w3 x3 wf3 P3 => v_sl X.K wf3 (x3.rep (x2.rep r1)) P3) fun _ _ _ _ _ q => q⟩) fun _ _ _ _ _ q => q⟩
theorem ed_chain {op op' : CmpOp} {r r' : R2} {g g' : D → D → M D} (ho : OpR X (compareOp op) r) (ho' : OpR X (compareOp op') r') (hv : VOp X.K r g) (hv' : VOp X.K r' g') (ha : ED X W a f) (hb : ED X W b h) (hc : ED X W c k)
    (hm : lastMarks [op, op'] [b, c] = false := by rfl) : ED X W (.Compare a [op, op'] [b, c] pos) (eChain g g' f h k) :=
  PE_imp (pe_chain ho ho' ha hb hc hm) fun σ H Q ⟨ρ, w, S, P⟩ => tE_bind S P fun d v H1 w1 _ S1 r1 P1 => tE_bind S1 P1 fun e u H2 w2 x2 S2 r2 P2 => by
    refine hv H2 w2 v u d e _ (EW X.K X.mg W σ) S2.wf (x2.rep r1) r2 ((post_bind P2).imp (fun z H3 w3 x3 wf3 q y ry => ?_) fun _ _ _ _ _ q => q)
    cases z with
    | bl bb =>
      cases ry
      refine ⟨bb, rfl, ?_⟩
      cases bb with
      | true =>
        have S3 := S2.ext x3 wf3
        exact tE_bind S3 (show Post X.K H3 w3 (Mbind (k ρ) (fun u => g' e u) w3.μ) _ _ from q) fun e3 u3 H4 w4 x4 S4 r4 P4 => hv' H4 w4 u u3 e e3 Q _ S4.wf (x4.rep (x3.rep r2)) r4 P4
      | false => exact post_ret q wf3 _ (.bl _)
    | _ => exact q.elim
/-! tests -/
theorem td_val {t : Expr} (ht : ED X W t f) (he : ∀ whole, isTrue t X.env whole = (do let v ← whole; standAt t.pos; holding [v] (truthy v)) := by intro _; rfl) : TD X W t (tOf f) :=
  PT_imp (pt_val ht he) fun σ H Q ⟨ρ, w, S, P⟩ => tE_bind S P fun d v H1 w1 _ S1 r1 P1 => by
    cases d with
    | bl bb => cases r1; exact ⟨bb, rfl, post_ret P1 S1.wf⟩
    | _ => exact P1.elim
theorem td_chain {op op' : CmpOp} {r r' : R2} {g g' : D → D → M D} (ho : OpR X (compareOp op) r) (ho' : OpR X (compareOp op') r') (hv : VOp X.K r g) (hv' : VOp X.K r' g') (ha : ED X W a f) (hb : ED X W b h) (hc : ED X W c k)
    (hm : lastMarks [op, op'] [b, c] = false := by rfl) : TD X W (.Compare a [op, op'] [b, c] pos) (tOf (eChain g g' f h k)) :=
  PT_imp (pt_chain ho ho' ha hb hc hm) fun σ H Q ⟨ρ, w, S, P⟩ => by
    have P0 : Post X.K H w (Mbind (f ρ) (fun x => Mbind (h ρ) fun y => Mbind (g x y) fun z => Mbind (asB z) fun b => if b = true then Mbind (k ρ) fun u => Mbind (g' y u) asB else Mret false) w.μ) (fun b H' w' => Q b H') (EW X.K X.mg W σ) := by
      have e : (Mbind (f ρ) fun x => Mbind (h ρ) fun y => Mbind (g x y) fun z => Mbind (asB z) fun b => if b = true then Mbind (k ρ) fun u => Mbind (g' y u) asB else Mret false) = tOf (eChain g g' f h k) ρ := by
        simp only [tOf, eChain, mbind_assoc]
        congr 1; funext x; congr 1; funext y; congr 1; funext z; congr 1; funext b
        cases b
        · rfl
        · simp only [if_true, mbind_assoc]
      rw [e]; exact P
    refine tE_bind S P0 fun d v H1 w1 _ S1 r1 P1 => tE_bind S1 P1 fun e u H2 w2 x2 S2 r2 P2 => ?_
    refine hv H2 w2 v u d e _ (EW X.K X.mg W σ) S2.wf (x2.rep r1) r2 ((post_bind P2).imp (fun z H3 w3 x3 wf3 q y ry => ?_) fun _ _ _ _ _ q => q)
    cases z with
    | bl bb =>
      cases ry
      refine ⟨bb, rfl, ?_⟩
      cases bb with
      | true =>
        have S3 := S2.ext x3 wf3
        refine tE_bind S3 (show Post X.K H3 w3 (Mbind (k ρ) (fun u => Mbind (g' e u) asB) w3.μ) _ _ from q) fun e3 u3 H4 w4 x4 S4 r4 P4 => ?_
        refine hv' H4 w4 u u3 e e3 _ (EW X.K X.mg W σ) S4.wf (x4.rep (x3.rep r2)) r4 ((post_bind P4).imp (fun z H5 w5 x5 wf5 q5 y ry => ?_) fun _ _ _ _ _ q => q)
        cases z with
        | bl b2 => cases ry; exact ⟨b2, rfl, post_ret q5 wf5⟩
        | _ => exact q5.elim
      | false => exact ⟨false, rfl, post_ret q wf3⟩
    | _ => exact q.elim
theorem td_not {t : Env → M Bool} (ha : TD X W a t) : TD X W (.UnaryOp .Not a pos) (tNotM t) :=
  PT_imp (pt_not ha) fun σ H Q ⟨ρ, w, S, P⟩ => tT_bind S P fun bb H1 w1 _ S1 P1 => post_ret P1 S1.wf
/-- and, or as tests -/
structure WD (X : Cx) (W : WX) (e : Expr) (t : Env → M Bool) : Prop where
  pw : PW X e (tT X.K X.mg W t)
theorem PW_imp {X : Cx} {e : Expr} {t t' : TT} (h : PW X e t) (hi : ∀ σ H Q, t' σ H Q → t σ H Q) : PW X e t' := ⟨fun wh pins s σ H Q I q => h.run wh pins s σ H Q I (hi _ _ _ q)⟩
theorem wd_and1 {t : Env → M Bool} (ha : TD X W a t) : WD X W (.BoolOp .And [a] pos) t := ⟨pw_and1 ha⟩
theorem wd_or1 {t : Env → M Bool} (ha : TD X W a t) : WD X W (.BoolOp .Or [a] pos) t := ⟨pw_or1 ha⟩
theorem wd_and {t u : Env → M Bool} {rest : List Expr} (ha : TD X W a t) (hb : WD X W (.BoolOp .And (b :: rest) pos) u) : WD X W (.BoolOp .And (a :: b :: rest) pos) (tAndM t u) :=
  ⟨PW_imp (pw_and ha hb.pw) fun σ H Q ⟨ρ, w, S, P⟩ => tT_bind S P fun bb H1 w1 _ S1 P1 => by
    cases bb with
    | true => exact ⟨ρ, w1, S1, P1⟩
    | false => exact post_ret P1 S1.wf⟩
theorem wd_or {t u : Env → M Bool} {rest : List Expr} (ha : TD X W a t) (hb : WD X W (.BoolOp .Or (b :: rest) pos) u) : WD X W (.BoolOp .Or (a :: b :: rest) pos) (tOrM t u) :=
  ⟨PW_imp (pw_or ha hb.pw) fun σ H Q ⟨ρ, w, S, P⟩ => tT_bind S P fun bb H1 w1 _ S1 P1 => by
    cases bb with
    | false => exact ⟨ρ, w1, S1, P1⟩
    | true => exact post_ret P1 S1.wf⟩
theorem td_bool {t : Env → M Bool} {e : Expr} (h : WD X W e t) : TD X W e t := h.pw.pt
theorem truD_ok {K : PySem.W.Frag} {H : Hp} {w : Wd} {x : V} {d : D} {bb : Bool} (wf : Wf K H w) (r : Rep K w.F w.θ x d) (e : truD w.μ d = some bb) : TruV K x H bb := by
  have seqs : (asSeq w.μ d).map (fun xs => !xs.isEmpty) = some bb → TruV K x H bb := fun q => by
    obtain ⟨xs, h1, h2⟩ := Option.map_eq_some_iff.mp q
    obtain ⟨p, vs, rfl, hs, rr⟩ := asSeq_ok wf r h1
    have e3 : (!vs.isEmpty) = bb := by
      rw [← h2]
      cases rr <;> rfl
    rcases hs with hs | hs
    · exact .inl ⟨vs, hs, e3.symm⟩
    · exact .inr (.inl ⟨vs, hs, e3.symm⟩)
  cases d with
  | non => cases r; cases e; rfl
  | bl b => cases r; cases e; rfl
  | int i => cases r; cases e; rfl
  | str y =>
    cases r
    simp only [truD] at e
    split at e
    · rename_i hz; cases e; exact ⟨hz, rfl⟩
    · cases e
  | _ => exact seqs e
theorem td_tru {t : Expr} (ht : ED X W t f) (he : ∀ whole, isTrue t X.env whole = (do let v ← whole; standAt t.pos; holding [v] (truthy v)) := by intro _; rfl) : TD X W t (tTru f) :=
  PT_imp (pt_truth ht he) fun σ H Q ⟨ρ, w, S, P⟩ => tE_bind S P fun d v H1 w1 _ S1 r1 P1 => by
    simp only [gTru] at P1
    cases e : truD w1.μ d with
    | none => rw [e] at P1; exact P1.elim
    | some bb =>
      rw [e] at P1
      exact ⟨bb, truD_ok S1.wf r1 e, P1 H1 w1 rfl (Ext.refl _ _) S1.wf⟩
/-! calls of built-ins -/
theorem ed_blt {x : Str} {id : String} {r : List V → Hp → VK → Prop} {g : List D → M D} {t : Env → M (List D)} {p : Pos} (hc : CallR X (.builtin id) r) (hv : VCall X.K r g) (hg : Gl X x) (hm : X.mg x = none) (hb : bootBuiltins x = some (.builtin id)) (ha : AD X W (a :: es) t)
    (hn : x ≠ "__name__" := by decide) (hdb : (x == ("__debug__" : Str)) = false := by decide) (he : starEach (a :: es) X.env = (false, eval a X.env) :: starEach es X.env := by rfl) (hpl : (backTo pos (starEach es X.env)).any (·.1) = false := by rfl) :
    ED X W (.Call (.Name x p) (a :: es) [] pos) (eCall g t) :=
  PE_imp (pe_callB hc hg hm hb ha hn hdb he hpl) fun σ H Q ⟨ρ, w, S, P⟩ => tA_bind S P fun ds vs H1 w1 x1 S1 r1 P1 => hv H1 w1 vs ds Q _ S1.wf r1 P1
theorem ed_bty {x : Str} {T : String} {r : List V → Hp → VK → Prop} {g : List D → M D} {t : Env → M (List D)} {p : Pos} (hc : CallR X (.type T) r) (hv : VCall X.K r g) (hg : Gl X x) (hm : X.mg x = none) (hb : bootBuiltins x = some (.type T)) (ha : AD X W (a :: es) t)
    (hn : x ≠ "__name__" := by decide) (hdb : (x == ("__debug__" : Str)) = false := by decide) (he : starEach (a :: es) X.env = (false, eval a X.env) :: starEach es X.env := by rfl) (hpl : (backTo pos (starEach es X.env)).any (·.1) = false := by rfl) :
    ED X W (.Call (.Name x p) (a :: es) [] pos) (eCall g t) :=
  PE_imp (pe_callTy hc hg hm hb ha hn hdb he hpl) fun σ H Q ⟨ρ, w, S, P⟩ => tA_bind S P fun ds vs H1 w1 x1 S1 r1 P1 => hv H1 w1 vs ds Q _ S1.wf r1 P1
end
end DL
namespace DL
open PySem PySem.Spec PyProof.Rows L2
variable [WC]
/-! ### the words of the mirror: statements -/
inductive Fl where
  | nx (ρ : Env) | ret (d : D) | bk (ρ : Env) | ct (ρ : Env)
abbrev SM := Env → M Fl
def sNil : SM := fun ρ => Mret (.nx ρ)
def sSeq (s t : SM) : SM := fun ρ => Mbind (s ρ) fun f => match f with
  | .nx ρ' => t ρ'
  | f => Mret f
def sRet (f : Env → M D) : SM := fun ρ => Mbind (f ρ) fun d => Mret (.ret d)
def sSet (i : Nat) (f : Env → M D) : SM := fun ρ => Mbind (f ρ) fun d => Mret (.nx (ρ.set i (some d)))
def sExp (f : Env → M D) : SM := fun ρ => Mbind (f ρ) fun _ => Mret (.nx ρ)
def sIf (c : Env → M Bool) (s t : SM) : SM := fun ρ => Mbind (c ρ) fun b => if b = true then s ρ else t ρ
/-- a target takes a value -/
abbrev GM := D → Env → M Env
def gVar (i : Nat) : GM := fun d ρ => Mret (ρ.set i (some d))
def gsNil : List D → Env → M Env := fun ds ρ => match ds with
  | [] => Mret ρ
  | _ => Mbad
def gsCons (g : GM) (h : List D → Env → M Env) : List D → Env → M Env := fun ds ρ => match ds with
  | [] => Mbad
  | d :: ds => Mbind (g d ρ) fun ρ' => h ds ρ'
def gTupl (n : Nat) (h : List D → Env → M Env) : GM := fun d ρ => match asTup d with
  | some xs => if xs.length = n then h xs ρ else Mbad
  | none => Mbad
def sAsg (g : GM) (f : Env → M D) : SM := fun ρ => Mbind (f ρ) fun d => Mbind (g d ρ) fun ρ' => Mret (.nx ρ')
def sPar (i j : Nat) (f h : Env → M D) : SM := fun ρ => Mbind (f ρ) fun x => Mbind (h ρ) fun y => Mret (.nx ((ρ.set i (some x)).set j (some y)))
/-- x[k] = e, x a list that may change -/
def putL (x k d : D) : M Unit := fun μ => match x, k with
  | .ptr n, .int i => match μ[n]? with
    | some (.lst xs) => match ixN xs.length i with
      | some j => .ok () (μ.set n (.lst (xs.set j d)))
      | none => .bad
    | _ => .bad
  | _, _ => .bad
def sPut (o k f : Env → M D) : SM := fun ρ => Mbind (f ρ) fun d => Mbind (o ρ) fun x => Mbind (k ρ) fun y => Mbind (putL x y d) fun _ => Mret (.nx ρ)
/-- what is walked: the items; what must stay true of the store meanwhile -/
abbrev IM := Env → M (List D × (Store → Bool))
def forL (c : Store → Bool) (g : GM) (body : SM) : List D → SM
  | [], ρ => fun μ => if c μ = true then .ok (.nx ρ) μ else .bad
  | d :: ds, ρ => fun μ => if c μ = true then Mbind (g d ρ) (fun ρ1 => Mbind (body ρ1) fun fl => match fl with
    | .nx ρ2 => forL c g body ds ρ2
    | .ct ρ2 => forL c g body ds ρ2
    | .bk ρ2 => Mret (.nx ρ2)
    | .ret d => Mret (.ret d)) μ else .bad
def sFor (it : IM) (g : GM) (body : SM) : SM := fun ρ => Mbind (it ρ) fun p => forL p.2 g body p.1 ρ
def whileF (c : Env → M Bool) (body : SM) : Nat → SM
  | 0, _ => Mbad
  | n + 1, ρ => Mbind (c ρ) fun b => if b = true then Mbind (body ρ) (fun fl => match fl with
    | .nx ρ2 => whileF c body n ρ2
    | .ct ρ2 => whileF c body n ρ2
    | .bk ρ2 => Mret (.nx ρ2)
    | .ret d => Mret (.ret d)) else Mret (.nx ρ)
def sWhile (fuel : Env → Store → Nat) (c : Env → M Bool) (body : SM) : SM := fun ρ μ => whileF c body (fuel ρ μ) ρ μ
def sRaise (e : Env → M Ex) : SM := fun ρ => Mbind (e ρ) fun e => Mraise e
def xOwn (c : Str) : Env → M Ex := fun _ => Mret ⟨c, []⟩
abbrev EWs (K : PySem.W.Frag) (mg : Str → Option Value) (W : WX) : Ex → Hp → Wd → Prop := fun e H' w' => ∀ σ c dd, ExR K mg H' w' e c dd → W c dd σ H'
def FlR (K : PySem.W.Frag) (D : Ends) : Fl → Hp → Wd → Prop
  | .nx ρ, H, w => ∀ σ, SR K σ H ρ w → D.nx σ H
  | .bk ρ, H, w => ∀ σ, SR K σ H ρ w → D.bk σ H
  | .ct ρ, H, w => ∀ σ, SR K σ H ρ w → D.ct σ H
  | .ret d, H, w => ∀ v, Rep K w.F w.θ v d → D.rt v H
def tS (K : PySem.W.Frag) (mg : Str → Option Value) (W : WX) (g : SM) : TS := fun D σ H => ∃ ρ w, SR K σ H ρ w ∧ Post K H w (g ρ w.μ) (FlR K D) (EWs K mg W)
abbrev SD (X : Cx) (W : WX) (st : Stmt) (g : SM) : Prop := PS X st (tS X.K X.mg W g)
abbrev SDs (X : Cx) (W : WX) (st : List Stmt) (g : SM) : Prop := PSs X st (tS X.K X.mg W g)
theorem PS_imp {X : Cx} {e : Stmt} {t t' : TS} (h : PS X e t) (hi : ∀ D σ H, t' D σ H → t D σ H) : PS X e t' := ⟨fun pins s σ H D I q => h.run pins s σ H D I (hi _ _ _ q)⟩
theorem PSs_imp {X : Cx} {e : List Stmt} {t t' : TS} (h : PSs X e t) (hi : ∀ D σ H, t' D σ H → t D σ H) : PSs X e t' := ⟨fun pins s σ H D I q => h.run pins s σ H D I (hi _ _ _ q)⟩
section
variable {K : PySem.W.Frag} {mg : Str → Option Value} {W : WX} {σ : L2.St} {H : Hp} {w : Wd} {α : Type}
theorem tE_bindS {f : Env → M D} {k : D → M α} {Q : α → Hp → Wd → Prop} {Q' : VK} {ρ : Env} (S : SR K σ H ρ w) (h : Post K H w (Mbind (f ρ) k w.μ) Q (EWs K mg W))
    (hk : ∀ d v H1 w1, Ext H w H1 w1 → SR K σ H1 ρ w1 → Rep K w1.F w1.θ v d → Post K H1 w1 (k d w1.μ) Q (EWs K mg W) → Q' v H1) : tE K mg W f σ H Q' :=
  ⟨ρ, w, S, (post_bind h).imp (fun d H1 w1 x wf q v r => hk d v H1 w1 x (S.ext x wf) r q) fun _ _ _ _ _ q => q σ⟩
theorem tA_bindS {f : Env → M (List D)} {k : List D → M α} {Q : α → Hp → Wd → Prop} {Q' : List V → Hp → Prop} {ρ : Env} (S : SR K σ H ρ w) (h : Post K H w (Mbind (f ρ) k w.μ) Q (EWs K mg W))
    (hk : ∀ d v H1 w1, Ext H w H1 w1 → SR K σ H1 ρ w1 → RepL K w1.F w1.θ v d → Post K H1 w1 (k d w1.μ) Q (EWs K mg W) → Q' v H1) : tA K mg W f σ H Q' :=
  ⟨ρ, w, S, (post_bind h).imp (fun d H1 w1 x wf q v r => hk d v H1 w1 x (S.ext x wf) r q) fun _ _ _ _ _ q => q σ⟩
theorem tT_bindS {f : Env → M Bool} {k : Bool → M α} {Q : α → Hp → Wd → Prop} {Q' : Bool → Hp → Prop} {ρ : Env} (S : SR K σ H ρ w) (h : Post K H w (Mbind (f ρ) k w.μ) Q (EWs K mg W))
    (hk : ∀ b H1 w1, Ext H w H1 w1 → SR K σ H1 ρ w1 → Post K H1 w1 (k b w1.μ) Q (EWs K mg W) → Q' b H1) : tT K mg W f σ H Q' :=
  ⟨ρ, w, S, (post_bind h).imp (fun d H1 w1 x wf q => hk d H1 w1 x (S.ext x wf) q) fun _ _ _ _ _ q => q σ⟩
/-- nothing but the places in ix changed -/
def Ag (ix : List Nat) (σ σ' : L2.St) : Prop := σ'.length = σ.length ∧ ∀ j : Nat, j ∉ ix → σ'[j]? = σ[j]?
theorem Ag.refl (ix : List Nat) (σ : L2.St) : Ag ix σ σ := ⟨rfl, fun _ _ => rfl⟩
theorem Ag.trans {ix : List Nat} {σ σ' σ'' : L2.St} (a : Ag ix σ σ') (b : Ag ix σ' σ'') : Ag ix σ σ'' := ⟨b.1.trans a.1, fun j h => (b.2 j h).trans (a.2 j h)⟩
theorem Ag.set {ix : List Nat} {i : Nat} (h : i ∈ ix) (σ : L2.St) (v : Option V) : Ag ix σ (σ.set i v) := ⟨by simp, fun j hj => List.getElem?_set_ne (fun e => hj (by rw [← e]; exact h))⟩
def tG (K : PySem.W.Frag) (ix : List Nat) (g : GM) : TG := fun v σ H Q => ∃ d ρ w E, SR K σ H ρ w ∧ Rep K w.F w.θ v d ∧ Post K H w (g d ρ w.μ) (fun ρ' H' w' => ∀ σ', SR K σ' H' ρ' w' → Ag ix σ σ' → Q σ' H') E
def tGs (K : PySem.W.Frag) (ix : List Nat) (g : List D → Env → M Env) : TGs := fun vs σ H Q => ∃ ds ρ w E, SR K σ H ρ w ∧ RepL K w.F w.θ vs ds ∧ Post K H w (g ds ρ w.μ) (fun ρ' H' w' => ∀ σ', SR K σ' H' ρ' w' → Ag ix σ σ' → Q σ' H') E
end
abbrev GD (X : Cx) (ix : List Nat) (tg : Expr) (g : GM) : Prop := PG X tg (tG X.K ix g)
abbrev GDs (X : Cx) (ix : List Nat) (tg : List Expr) (g : List D → Env → M Env) : Prop := PGs X tg (tGs X.K ix g)
theorem PG_imp {X : Cx} {e : Expr} {t t' : TG} (h : PG X e t) (hi : ∀ v σ H Q, t' v σ H Q → t v σ H Q) : PG X e t' := ⟨fun pins s σ H v u Q I r q => h.run pins s σ H v u Q I r (hi _ _ _ _ q)⟩
theorem PGs_imp {X : Cx} {e : List Expr} {t t' : TGs} (h : PGs X e t) (hi : ∀ v σ H Q, t' v σ H Q → t v σ H Q) : PGs X e t' := ⟨fun pins s σ H v u Q I r q => h.run pins s σ H v u Q I r (hi _ _ _ _ q)⟩
section
variable {X : Cx} {W : WX} {a b c e : Expr} {es : List Expr} {f h k : Env → M D} {pos : Pos} {st : Stmt} {sts : List Stmt} {s t : SM}
theorem sd_nil : SDs X W [] sNil := PSs_imp pss_nil fun D σ H ⟨ρ, w, S, P⟩ => post_ret P S.wf σ S
theorem seq_ok {D : Ends} {σ : L2.St} {H : Hp} (q : tS X.K X.mg W (sSeq s t) D σ H) : tSeq (tS X.K X.mg W s) (tS X.K X.mg W t) D σ H := by
  obtain ⟨ρ, w, S, P⟩ := q
  refine ⟨ρ, w, S, (post_bind P).imp (fun fl H1 w1 x1 wf1 q => ?_) fun _ _ _ _ _ q => q⟩
  cases fl with
  | nx ρ' => exact fun σ' S' => ⟨ρ', w1, S', q⟩
  | ret d =>
    have q' : Post X.K H1 w1 (Mret (Fl.ret d) w1.μ) (FlR X.K D) (EWs X.K X.mg W) := q
    exact fun v r => post_ret q' wf1 v r
  | bk ρ' =>
    have q' : Post X.K H1 w1 (Mret (Fl.bk ρ') w1.μ) (FlR X.K D) (EWs X.K X.mg W) := q
    exact fun v r => post_ret q' wf1 v r
  | ct ρ' =>
    have q' : Post X.K H1 w1 (Mret (Fl.ct ρ') w1.μ) (FlR X.K D) (EWs X.K X.mg W) := q
    exact fun v r => post_ret q' wf1 v r
theorem sd_cons (h1 : SD X W st s) (h2 : SDs X W sts t) : SDs X W (st :: sts) (sSeq s t) := PSs_imp (pss_cons h1 h2) fun D σ H q => seq_ok q
theorem sd_one (h1 : SD X W st s) : SDs X W [st] s := pss_one h1
theorem sd_ret (ha : ED X W a f) : SD X W (.Return (some a) pos) (sRet f) :=
  PS_imp (ps_ret ha) fun D σ H ⟨ρ, w, S, P⟩ => tE_bindS S P fun d v H1 w1 _ S1 r1 P1 => post_ret P1 S1.wf v r1
theorem sd_retN : SD X W (.Return none pos) (fun _ => Mret (.ret .non)) := PS_imp ps_retN fun D σ H ⟨ρ, w, S, P⟩ => post_ret P S.wf _ .non
theorem sd_set {i : Nat} {x : Str} {pos' : Pos} (hN : X.N.Nodup) (hi : X.N[i]? = some x) (hx : Loc X.env.scope x) (ha : ED X W a f) (hs : swapsWith a (some (.Name x pos')) pos.line X.env = pure false := by rfl)
    (hf : X.fn x = true ∨ X.env.scope.names.lookup x = some .local := by first | exact .inl rfl | exact .inr rfl | assumption) : SD X W (.Assign [.Name x pos'] a pos) (sSet i f) :=
  PS_imp (ps_set hN hi hx ha hs hf) fun D σ H ⟨ρ, w, S, P⟩ => tE_bindS S P fun d v H1 w1 _ S1 r1 P1 => post_ret P1 S1.wf _ (S1.set r1)
theorem sd_exp (ha : ED X W a f) (hs : swapsWith a none pos.line X.env = pure false := by rfl) : SD X W (.Expr a pos) (sExp f) :=
  PS_imp (ps_expr ha hs) fun D σ H ⟨ρ, w, S, P⟩ => tE_bindS S P fun d v H1 w1 _ S1 r1 P1 => post_ret P1 S1.wf _ S1
theorem sd_if {c : Expr} {p q : List Stmt} {t1 : Env → M Bool} (hc : TD X W c t1) (ha : SDs X W p s) (hb : SDs X W q t) : SD X W (.If c p q pos) (sIf t1 s t) :=
  PS_imp (ps_if hc ha hb) fun D σ H ⟨ρ, w, S, P⟩ => tT_bindS S P fun bb H1 w1 _ S1 P1 => by
    cases bb with
    | true => exact ⟨ρ, w1, S1, P1⟩
    | false => exact ⟨ρ, w1, S1, P1⟩
theorem sd_doc {x j pos pos'} : SD X W (.Expr (.Constant (.str x) j pos) pos') sNil := PS_imp ps_doc fun D σ H ⟨ρ, w, S, P⟩ => post_ret P S.wf σ S
theorem sd_pass : SD X W (.Pass pos) sNil := PS_imp ps_pass fun D σ H ⟨ρ, w, S, P⟩ => post_ret P S.wf σ S
/-! targets -/
theorem gd_var {ix : List Nat} {i : Nat} {x : Str} (hm : i ∈ ix) (hN : X.N.Nodup) (hi : X.N[i]? = some x) (hx : Loc X.env.scope x) (hf : X.fn x = true ∨ X.env.scope.names.lookup x = some .local := by first | exact .inl rfl | exact .inr rfl | assumption) :
    GD X ix (.Name x pos) (gVar i) := PG_imp (pg_name hN hi hx hf) fun v σ H Q ⟨d, ρ, w, E, S, r, P⟩ => post_ret P S.wf _ (S.set r) (Ag.set hm _ _)
theorem gds_nil {ix : List Nat} : GDs X ix [] gsNil := PGs_imp pgs_nil fun vs σ H Q ⟨ds, ρ, w, E, S, r, P⟩ => by
  cases r with
  | nil => exact ⟨rfl, post_ret P S.wf σ S (Ag.refl _ _)⟩
  | cons _ _ => exact P.elim
theorem gds_cons {ix : List Nat} {g : GM} {h : List D → Env → M Env} (h1 : GD X ix e g) (h2 : GDs X ix es h) (hs : (assignEach (e :: es) X.env).map (·.2) = assign e X.env :: (assignEach es X.env).map (·.2) := by rfl) : GDs X ix (e :: es) (gsCons g h) :=
  PGs_imp (pgs_cons h1 h2 hs) fun vs σ H Q ⟨ds, ρ, w, E, S, r, P⟩ => by
    cases r with
    | nil => exact P.elim
    | cons r1 r2 =>
      refine ⟨_, _, rfl, _, ρ, w, E, S, r1, (post_bind P).imp (fun ρ' H1 w1 x1 wf1 q σ' S' ag => ⟨_, ρ', w1, E, S', x1.repL r2, q.imp (fun ρ2 H2 w2 x2 wf2 q2 σ2 S2 ag2 => q2 σ2 S2 (ag.trans ag2)) fun _ _ _ _ _ q => q⟩) fun _ _ _ _ _ q => q⟩
theorem gd_tup {ix : List Nat} {kk n : Nat} {h : List D → Env → M Env} (hc : X.calm = true) (h1 : GDs X ix es h) (hn : (assignEach es X.env).length = n := by rfl) (hst : (assignEach es X.env).findIdx? (·.1) = none := by rfl) : GD X ix (.Tuple es kk pos) (gTupl n h) :=
  PG_imp (pg_tup hc h1 hn hst) fun v σ H Q ⟨d, ρ, w, E, S, r, P⟩ => by
    simp only [gTupl] at P
    cases e1 : asTup d with
    | none => rw [e1] at P; exact P.elim
    | some xs =>
      rw [e1] at P
      simp only at P
      obtain ⟨p, vs, rfl, hs, rr⟩ := asTup_ok S.wf r e1
      split at P
      · rename_i hl
        exact ⟨p, vs, rfl, hs, by rw [rr.length]; exact hl, xs, ρ, w, E, S, rr, P⟩
      · exact P.elim
theorem sd_asg {tg : Expr} {ix : List Nat} {g : GM} (ha : ED X W a f) (hg : GD X ix tg g) (hs : swapsWithSole [tg] a pos.line X.env = pure false := by rfl) (hw : swappedStores [tg] a X.env = pure none := by rfl)
    (h1 : (assignEach [tg] X.env).map (·.2) = [assign tg X.env] := by rfl) : SD X W (.Assign [tg] a pos) (sAsg g f) :=
  PS_imp (ps_asg ha hg hs hw h1) fun D σ H ⟨ρ, w, S, P⟩ => tE_bindS S P fun d v H1 w1 _ S1 r1 P1 => ⟨d, ρ, w1, _, S1, r1, (post_bind P1).imp (fun ρ' H2 w2 x2 wf2 q σ' S' _ => post_ret q wf2 σ' S') fun _ _ _ _ _ q => q⟩
end
end DL
namespace DL
open PySem PySem.Spec PyProof.Rows L2
variable [WC]
section
variable {K : PySem.W.Frag} {H : Hp} {w : Wd} {Q : VK} {E : Ex → Hp → Wd → Prop}
/-- a list of the store was changed -/
theorem post_set {α : Type} {z : α} {n : Nat} {a : Addr} {vs : List V} {ys : List D} {Q : α → Hp → Wd → Prop} (h : Post K H w (.ok z (w.μ.set n (.lst ys))) Q E) (wf : Wf K H w) (hn : w.θ[n]? = some a) {xs : List D} (ho : w.μ[n]? = some (.lst xs)) (r : RepL K w.F w.θ vs ys) :
    Q z (upd H a (.lst vs)) { w with μ := w.μ.set n (.lst ys) } := h _ _ rfl (Ext.set_lst wf hn fun _ _ _ h => by rw [ho] at h; cases h) (wf.set_lst hn r)
theorem ptr_ok (wf : Wf K H w) {x : V} {n : Nat} {xs : List D} (r : Rep K w.F w.θ x (.ptr n)) (h : w.μ[n]? = some (.lst xs)) : ∃ a vs, x = .ref a ∧ w.θ[n]? = some a ∧ H a = some (.lst vs) ∧ RepL K w.F w.θ vs xs := by
  cases r with
  | ptr h1 =>
    obtain ⟨o, h3, h4⟩ := wf.some_of h1
    rw [h] at h3
    cases h3
    obtain ⟨vs, h5, h6⟩ := h4
    exact ⟨_, vs, rfl, h1, h5, h6⟩
end
/-! ### methods of a list that may change -/
def chkL (x : D) : M Unit := fun μ => match asLst μ x with
  | some _ => .ok () μ
  | none => .bad
def eMth (g : D → List D → M D) (f : Env → M D) (t : Env → M (List D)) : Env → M D := fun ρ => Mbind (f ρ) fun x => Mbind (chkL x) fun _ => Mbind (t ρ) fun ds => g x ds
/-- g changes the list at n from xs to h xs ds -/
def gMut (h : List D → List D → Option (List D)) : D → List D → M D := fun x ds μ => match x with
  | .ptr n => match μ[n]? with
    | some (.lst xs) => match h xs ds with
      | some ys => .ok .non (μ.set n (.lst ys))
      | none => .bad
    | _ => .bad
  | _ => .bad
def hAppend : List D → List D → Option (List D) := fun xs ds => match ds with
  | [d] => if xs.length < sizeLine then some (xs ++ [d]) else none
  | _ => none
def hRemove : List D → List D → Option (List D) := fun xs ds => match ds with
  | [.int k] => match intsOf xs with
    | some ns => if k ∈ ns then some ((ns.erase k).map .int) else none
    | none => none
  | _ => none
def hReverse : List D → List D → Option (List D) := fun xs ds => match ds with
  | [] => some xs.reverse
  | _ => none
def VMt (K : PySem.W.Frag) (r : V → List V → Hp → VK → Prop) (g : D → List D → M D) : Prop := ∀ (H : Hp) (w : Wd) (x : V) (d : D) (xs : List V) (ds : List D) (Q : VK) (E : Ex → Hp → Wd → Prop), Wf K H w → Rep K w.F w.θ x d → RepL K w.F w.θ xs ds →
  Post K H w (g d ds w.μ) (QV K Q) E → r x xs H Q
theorem gMut_ok {K : PySem.W.Frag} {H : Hp} {w : Wd} {x : V} {d : D} {ds : List D} {Q : VK} {E : Ex → Hp → Wd → Prop} {h : List D → List D → Option (List D)} (wf : Wf K H w) (r : Rep K w.F w.θ x d) (P : Post K H w (gMut h d ds w.μ) (QV K Q) E) :
    ∃ a vs xs ys, x = .ref a ∧ H a = some (.lst vs) ∧ RepL K w.F w.θ vs xs ∧ h xs ds = some ys ∧ ∀ us, RepL K w.F w.θ us ys → Q .non (upd H a (.lst us)) := by
  cases d with
  | ptr n =>
    simp only [gMut] at P
    cases e1 : w.μ[n]? with
    | none => rw [e1] at P; exact P.elim
    | some o =>
      rw [e1] at P
      cases o with
      | dct v ks vs => exact P.elim
      | kd fs => exact P.elim
      | lst xs =>
        simp only at P
        cases e2 : h xs ds with
        | none => rw [e2] at P; exact P.elim
        | some ys =>
          rw [e2] at P
          obtain ⟨a, vs, rfl, h1, h2, h3⟩ := ptr_ok wf r e1
          exact ⟨a, vs, xs, ys, rfl, h2, h3, e2, fun us ru => post_set P wf h1 e1 ru _ .non⟩
  | _ => exact P.elim
theorem v_append (K : PySem.W.Frag) : VMt K rAppend (gMut hAppend) := by
  intro H w x d xs ds Q E wf r rs P
  obtain ⟨a, vs, ys, zs, rfl, ha, ra, he, q⟩ := gMut_ok wf r P
  cases rs with
  | nil => cases he
  | cons r1 r2 =>
    cases r2 with
    | cons _ _ => cases he
    | nil =>
      simp only [hAppend] at he
      split at he
      · rename_i hz
        cases he
        exact ⟨a, vs, _, rfl, rfl, ha, by rw [ra.length]; exact hz, q _ (ra.append (.cons r1 .nil))⟩
      · cases he
theorem repL_ints {K : PySem.W.Frag} {F : Hp} {θ : List Addr} : ∀ ns : List Int, RepL K F θ (ns.map V.int) (ns.map D.int)
  | [] => .nil
  | n :: ns => .cons (.int n) (repL_ints ns)
theorem v_remove (K : PySem.W.Frag) : VMt K rRemI (gMut hRemove) := by
  intro H w x d xs ds Q E wf r rs P
  obtain ⟨a, vs, ys, zs, rfl, ha, ra, he, q⟩ := gMut_ok wf r P
  cases rs with
  | nil => cases he
  | cons r1 r2 =>
    cases r2 with
    | cons _ _ => cases r1 <;> cases he
    | nil =>
      rename_i e
      revert he
      cases r1 with
      | int k =>
        simp only [hRemove]
        cases e1 : intsOf ys with
        | none => intro he; cases he
        | some ns =>
          simp only
          split
          · rename_i hk
            intro he
            cases he
            have ev := intsOf_rep ra e1
            subst ev
            obtain ⟨j, hj, h1, h2, h3⟩ := L2.first_at hk
            refine ⟨a, ns, k, j, rfl, rfl, ha, h1, h2, ?_⟩
            rw [h3]
            exact q _ (repL_ints _)
          · intro he; cases he
      | _ => intro he; cases he
theorem v_reverse (K : PySem.W.Frag) : VMt K rReverse (gMut hReverse) := by
  intro H w x d xs ds Q E wf r rs P
  obtain ⟨a, vs, ys, zs, rfl, ha, ra, he, q⟩ := gMut_ok wf r P
  cases rs with
  | cons _ _ => cases he
  | nil =>
    cases he
    exact ⟨a, vs, rfl, rfl, ha, q _ ra.rev⟩
theorem chkL_ty {K : PySem.W.Frag} {H : Hp} {w : Wd} {x : V} {d : D} {xs : List D} (wf : Wf K H w) (r : Rep K w.F w.θ x d) (e : asLst w.μ d = some xs) : tyV K "list" x H := by
  obtain ⟨a, vs, rfl, ha, _⟩ := asLst_ok wf r e
  exact .inl ⟨rfl, _, SqL.of ha⟩
section
variable {X : Cx} {W : WX} {a b c e o : Expr} {es : List Expr} {f h k : Env → M D} {pos : Pos} {st : Stmt} {sts : List Stmt} {s t : SM}
theorem chkL_post {K : PySem.W.Frag} {H : Hp} {w : Wd} {d : D} {α : Type} {m : M α} {Q : α → Hp → Wd → Prop} {E : Ex → Hp → Wd → Prop} (P : Post K H w (Mbind (chkL d) (fun _ => m) w.μ) Q E) : ∃ xs, asLst w.μ d = some xs ∧ Post K H w (m w.μ) Q E := by
  simp only [Mbind, chkL] at P
  cases e1 : asLst w.μ d with
  | none => rw [e1] at P; exact P.elim
  | some xs => rw [e1] at P; exact ⟨xs, rfl, P⟩
theorem ed_mth {g : D → List D → M D} {r : V → List V → Hp → VK → Prop} {t : Env → M (List D)} {name : Str} {id : String} {apos : Pos} (slot : Slot "list" name id) (hty : typeOf (.builtin id) = pure (.type "method_descriptor")) (hm : MtR X id r) (hv : VMt X.K r g)
    (ho : ED X W o f) (ha : AD X W (e :: es) t) (hbase : attributeBase o name X.env (eval o X.env) = eval o X.env := by rfl)
    (hfew : ((backTo pos (starEach (e :: es) X.env)).all (fun x => !x.1) && (backToKw pos (keywordEach [] X.env)).all (fun x => x.1.isSome)
      && decide ((e :: es).length + ([] : List Keyword).length + (if ([] : List Keyword).isEmpty then 0 else 1) < 30)) = true := by rfl)
    (hline : (apos.endLine == pos.line) = true := by rfl) (hs : starEach (e :: es) X.env = (false, eval e X.env) :: starEach es X.env := by rfl) (hplain : (backTo pos (starEach es X.env)).any (·.1) = false := by rfl) :
    ED X W (.Call (.Attribute o name apos) (e :: es) [] pos) (eMth g f t) :=
  PE_imp (pe_bm PySem.F.plainAttrs_list slot hty hm ho ha hbase hfew hline hs hplain) fun σ H Q ⟨ρ, w, S, P⟩ => tE_bind S P fun d v H1 w1 _ S1 r1 P1 => by
    obtain ⟨xs, e1, P2⟩ := chkL_post P1
    exact ⟨chkL_ty S1.wf r1 e1, tA_bind S1 P2 fun ds vs H2 w2 x2 S2 r2 P3 => hv H2 w2 v d vs ds Q _ S2.wf (x2.rep r1) r2 P3⟩
theorem ed_mth0 {g : D → List D → M D} {r : V → List V → Hp → VK → Prop} {name : Str} {id : String} {apos : Pos} (slot : Slot "list" name id) (hty : typeOf (.builtin id) = pure (.type "method_descriptor")) (hm : MtR X id r) (hv : VMt X.K r g)
    (ho : ED X W o f) (hbase : attributeBase o name X.env (eval o X.env) = eval o X.env := by rfl) (hline : (apos.endLine == pos.line) = true := by rfl) :
    ED X W (.Call (.Attribute o name apos) [] [] pos) (eMth g f aNil) :=
  PE_imp (pe_bm0 PySem.F.plainAttrs_list slot hty hm ho hbase hline) fun σ H Q ⟨ρ, w, S, P⟩ => tE_bind S P fun d v H1 w1 _ S1 r1 P1 => by
    obtain ⟨xs, e1, P2⟩ := chkL_post P1
    exact ⟨chkL_ty S1.wf r1 e1, hv H1 w1 v d [] [] Q _ S1.wf r1 .nil P2⟩
theorem ed_append {t : Env → M (List D)} {apos : Pos} (ho : ED X W o f) (ha : AD X W (e :: es) t) (hbase : attributeBase o "append" X.env (eval o X.env) = eval o X.env := by rfl)
    (hfew : ((backTo pos (starEach (e :: es) X.env)).all (fun x => !x.1) && (backToKw pos (keywordEach [] X.env)).all (fun x => x.1.isSome)
      && decide ((e :: es).length + ([] : List Keyword).length + (if ([] : List Keyword).isEmpty then 0 else 1) < 30)) = true := by rfl)
    (hline : (apos.endLine == pos.line) = true := by rfl) (hs : starEach (e :: es) X.env = (false, eval e X.env) :: starEach es X.env := by rfl) (hplain : (backTo pos (starEach es X.env)).any (·.1) = false := by rfl) :
    ED X W (.Call (.Attribute o "append" apos) (e :: es) [] pos) (eMth (gMut hAppend) f t) :=
  ed_mth PySem.F.slot_list_append PySem.F.type_list_append mt_append (v_append _) ho ha hbase hfew hline hs hplain
theorem ed_remove {t : Env → M (List D)} {apos : Pos} (ho : ED X W o f) (ha : AD X W (e :: es) t) (hbase : attributeBase o "remove" X.env (eval o X.env) = eval o X.env := by rfl)
    (hfew : ((backTo pos (starEach (e :: es) X.env)).all (fun x => !x.1) && (backToKw pos (keywordEach [] X.env)).all (fun x => x.1.isSome)
      && decide ((e :: es).length + ([] : List Keyword).length + (if ([] : List Keyword).isEmpty then 0 else 1) < 30)) = true := by rfl)
    (hline : (apos.endLine == pos.line) = true := by rfl) (hs : starEach (e :: es) X.env = (false, eval e X.env) :: starEach es X.env := by rfl) (hplain : (backTo pos (starEach es X.env)).any (·.1) = false := by rfl) :
    ED X W (.Call (.Attribute o "remove" apos) (e :: es) [] pos) (eMth (gMut hRemove) f t) :=
  ed_mth PySem.F.slot_list_remove PySem.F.type_list_remove mt_remove (v_remove _) ho ha hbase hfew hline hs hplain
theorem ed_reverse {apos : Pos} (ho : ED X W o f) (hbase : attributeBase o "reverse" X.env (eval o X.env) = eval o X.env := by rfl) (hline : (apos.endLine == pos.line) = true := by rfl) :
    ED X W (.Call (.Attribute o "reverse" apos) [] [] pos) (eMth (gMut hReverse) f aNil) :=
  ed_mth0 PySem.F.slot_list_reverse PySem.F.type_list_reverse mt_reverse (v_reverse _) ho hbase hline
/-! ### a, b = x, y;  x[k] = e -/
theorem sd_par {i j : Nat} {x y : Str} {px py pt : Pos} {kt k2 pt2} (hc : X.calm = true) (hN : X.N.Nodup) (hi : X.N[i]? = some x) (hj : X.N[j]? = some y) (hij : i ≠ j) (hx : X.env.scope.names.lookup x = some .local) (hy : X.env.scope.names.lookup y = some .local)
    (ha : AD X W [a, b] (aCons f (aCons h aNil))) (hw : swappedStores [.Tuple [.Name x px, .Name y py] kt pt] (.Tuple [a, b] k2 pt2) X.env = pure (some [x, y]))
    (hs : swapsWithSole [.Tuple [.Name x px, .Name y py] kt pt] (.Tuple [a, b] k2 pt2) pos.line X.env = pure false := by rfl) :
    SD X W (.Assign [.Tuple [.Name x px, .Name y py] kt pt] (.Tuple [a, b] k2 pt2) pos) (sPar i j f h) :=
  PS_imp (ps_par hc hN hi hj hij hx hy ha hw hs) fun D σ H ⟨ρ, w, S, P⟩ => by
    have e : sPar i j f h ρ = Mbind (aCons f (aCons h aNil) ρ) fun ds => match ds with
      | [x, y] => Mret (.nx ((ρ.set i (some x)).set j (some y)))
      | _ => Mbad := by
      simp only [sPar, aCons, aNil, mbind_assoc, mbind_ret]
    rw [e] at P
    refine tA_bindS S P fun ds vs H1 w1 x1 S1 r1 P1 => ?_
    cases r1 with
    | nil => exact P1.elim
    | cons r1 r2 =>
      cases r2 with
      | nil => exact P1.elim
      | cons r2 r3 =>
        cases r3 with
        | cons _ _ => exact P1.elim
        | nil => exact ⟨_, _, rfl, post_ret P1 S1.wf _ ((S1.set r1).set r2)⟩
def sPar3 (i j l : Nat) (f h k : Env → M D) : SM := fun ρ => Mbind (f ρ) fun x => Mbind (h ρ) fun y => Mbind (k ρ) fun z => Mret (.nx (((ρ.set i (some x)).set j (some y)).set l (some z)))
theorem sd_par3 {i j l : Nat} {x y z : Str} {px py pz pt : Pos} {kt k2 pt2} (hc : X.calm = true) (hN : X.N.Nodup) (hi : X.N[i]? = some x) (hj : X.N[j]? = some y) (hl : X.N[l]? = some z) (hij : i ≠ j) (hil : i ≠ l) (hjl : j ≠ l)
    (hx : X.env.scope.names.lookup x = some .local) (hy : X.env.scope.names.lookup y = some .local) (hz : X.env.scope.names.lookup z = some .local)
    (ha : AD X W [a, b, c] (aCons f (aCons h (aCons k aNil)))) (hw : swappedStores [.Tuple [.Name x px, .Name y py, .Name z pz] kt pt] (.Tuple [a, b, c] k2 pt2) X.env = pure (some [x, y, z]))
    (hs : swapsWithSole [.Tuple [.Name x px, .Name y py, .Name z pz] kt pt] (.Tuple [a, b, c] k2 pt2) pos.line X.env = pure false := by rfl) :
    SD X W (.Assign [.Tuple [.Name x px, .Name y py, .Name z pz] kt pt] (.Tuple [a, b, c] k2 pt2) pos) (sPar3 i j l f h k) :=
  PS_imp (ps_par3 hc hN hi hj hl hij hil hjl hx hy hz ha hw hs) fun D σ H ⟨ρ, w, S, P⟩ => by
    have e : sPar3 i j l f h k ρ = Mbind (aCons f (aCons h (aCons k aNil)) ρ) fun ds => match ds with
      | [x, y, z] => Mret (.nx (((ρ.set i (some x)).set j (some y)).set l (some z)))
      | _ => Mbad := by
      simp only [sPar3, aCons, aNil, mbind_assoc, mbind_ret]
    rw [e] at P
    refine tA_bindS S P fun ds vs H1 w1 x1 S1 r1 P1 => ?_
    cases r1 with
    | nil => exact P1.elim
    | cons r1 r2 =>
      cases r2 with
      | nil => exact P1.elim
      | cons r2 r3 =>
        cases r3 with
        | nil => exact P1.elim
        | cons r3 r4 =>
          cases r4 with
          | cons _ _ => exact P1.elim
          | nil => exact ⟨_, _, _, rfl, post_ret P1 S1.wf _ (((S1.set r1).set r2).set r3)⟩
theorem sd_put {i : Expr} {p2 : Pos} (hv : ED X W a f) (ho : ED X W o h) (hi : ED X W i k)
    (ha : ∀ v, assign (.Subscript o i p2) X.env v = (do
      let ov ← holding [v] (eval o X.env)
      let iv ← holding [v, ov] (eval i X.env)
      standAt p2
      holding [v, ov, iv] (setItem ov iv v)
      release [v, ov, iv] []) := by intro _; rfl) (hs : swapsWithSole [.Subscript o i p2] a pos.line X.env = pure false := by rfl) (hw : swappedStores [.Subscript o i p2] a X.env = pure none := by rfl)
    (h1 : (assignEach [.Subscript o i p2] X.env).map (·.2) = [assign (.Subscript o i p2) X.env] := by rfl) : SD X W (.Assign [.Subscript o i p2] a pos) (sPut h k f) :=
  PS_imp (ps_asg hv (pg_sub ho hi set_list ha) hs hw h1) fun D σ H ⟨ρ, w, S, P⟩ => tE_bindS S P fun d v H1 w1 x1 S1 r1 P1 => tE_bindS S1 P1 fun d2 v2 H2 w2 x2 S2 r2 P2 => tE_bindS S2 P2 fun d3 v3 H3 w3 x3 S3 r3 P3 => by
    have r1' := x3.rep (x2.rep r1)
    have r2' := x3.rep r2
    have P4 := post_bind P3
    simp only [putL] at P4
    cases d2 with
    | ptr n =>
      cases d3 with
      | int j =>
        simp only at P4
        cases e1 : w3.μ[n]? with
        | none => rw [e1] at P4; exact P4.elim
        | some ob =>
          rw [e1] at P4
          cases ob with
          | dct v ks vs => exact P4.elim
          | kd fs => exact P4.elim
          | lst xs =>
            simp only at P4
            cases e2 : ixN xs.length j with
            | none => rw [e2] at P4; exact P4.elim
            | some q =>
              rw [e2] at P4
              obtain ⟨l, vs, rfl, h1, h2, h3⟩ := ptr_ok S3.wf r2' e1
              cases r3
              have rr := h3.set r1' q
              have P5 := post_set P4 S3.wf h1 e1 rr
              refine ⟨l, vs, j, q, rfl, rfl, h2, by rw [h3.length]; exact e2, ?_⟩
              exact post_ret P5 (S3.wf.set_lst h1 rr) _ (S3.ext (Ext.set_lst S3.wf h1 fun _ _ _ h => by rw [e1] at h; cases h) (S3.wf.set_lst h1 rr))
      | _ => exact P4.elim
    | _ => exact P4.elim
end
end DL
namespace DL
open PySem PySem.Spec PyProof.Rows L2
variable [WC]
/-! ### what is walked -/
/-- J, begun at the world w, gives the items ds as long as c holds of the store -/
structure Walk (K : PySem.W.Frag) (H0 : Hp) (w : Wd) (J : It) (ds : List D) (c : Store → Bool) : Prop where
  go : ∀ (i : Nat) (d : D) (H : Hp) (w' : Wd), Same w.F w'.F → w.θ <+: w'.θ → Kept H0 w H w' → Wf K H w' → c w'.μ = true → ds[i]? = some d →
    J.go i H ∧ ∀ x H', J.yld i H x H' → ∃ w'', w''.μ = w'.μ ∧ Ext H w' H' w'' ∧ Wf K H' w'' ∧ Rep K w''.F w''.θ x d
  stop : ∀ (H : Hp) (w' : Wd), Same w.F w'.F → w.θ <+: w'.θ → Kept H0 w H w' → Wf K H w' → c w'.μ = true → J.stop ds.length H
def tI (K : PySem.W.Frag) (mg : Str → Option Value) (W : WX) (f : IM) : TI := fun σ H R => ∃ ρ w, SR K σ H ρ w ∧
  Post K H w (f ρ w.μ) (fun p H' w' => ∀ J, Walk K H' w' J p.1 p.2 → R J H') (EW K mg W σ)
abbrev ID (X : Cx) (W : WX) (tg e : Expr) (f : IM) : Prop := PI X tg e (tI X.K X.mg W f)
theorem PI_imp {X : Cx} {tg e : Expr} {t t' : TI} (h : PI X tg e t) (hi : ∀ σ H R, t' σ H R → t σ H R) : PI X tg e t' := ⟨fun pins s σ H R I q => h.run pins s σ H R I (hi _ _ _ q)⟩
def always : Store → Bool := fun _ => true
/-- the list at n of the store still holds xs -/
def holds (n : Nat) (xs : List D) : Store → Bool := fun μ => decide (μ[n]? = some (.lst xs))
/-- a list or tuple as it stands -/
def gSeq (d : D) : M (List D × (Store → Bool)) := fun μ => match d with
  | .tup xs => .ok (xs, always) μ
  | .lst xs => .ok (xs, always) μ
  | .arg xs => .ok (xs, always) μ
  | .ptr n => match μ[n]? with
    | some (.lst xs) => .ok (xs, holds n xs) μ
    | _ => .bad
  | _ => .bad
def iSeq (f : Env → M D) : IM := fun ρ => Mbind (f ρ) gSeq
section
variable {X : Cx} {W : WX} {tg a b : Expr} {f h : Env → M D} {pos : Pos}
/-- a list or a tuple, by what comes -/
def wSeq (K : PySem.W.Frag) (tl : TE) : TI := fun σ H R => tl σ H fun x H1 => ∃ p, x = .ref p ∧ (((∃ xs, SqL K H1 p xs) ∧ R (Itl K p) H1) ∨ ((∃ xs, SqT K H1 p xs) ∧ R (Itt K p) H1))
theorem pi_seq {tl : TE} (hl : PE X a tl) : PI X tg a (wSeq X.K tl) := by
  constructor
  intro pins s σ H R I q0
  refine thn (hl.run pins s σ H _ I q0) fun v s1 ⟨x, H1, I1, r1, p, e, q1⟩ => ?_
  subst e
  cases r1
  have nw : ∀ b ∈ [s1.heap.objs.size], FpOk X pins H1 b := fun b hb => by
    rw [List.mem_singleton.mp hb]
    exact I1.fpOk (Nat.le_refl _) (I1.hok.fresh (Nat.le_refl _))
  rcases q1 with ⟨⟨xs, hq⟩, q⟩ | ⟨⟨xs, hq⟩, q⟩
  · obtain ⟨its, rv, pl, hz⟩ := I1.list hq
    exact wpAny_pyIter_list pl.isList ⟨_, [s1.heap.objs.size], _, _, H1, rfl, I1.kept (t' := s1.toks) fun b o e => Heap.get?_push_of_some _ e, turn_list p _, ⟨_, Heap.get?_push_size _ rfl, rfl, rfl⟩, nw, q⟩
  · obtain ⟨its, rv, pl, hz⟩ := I1.tuple hq
    exact wpAny_pyIter_tuple (show s1.heap.IsTuple p its.toArray from pl) ⟨_, [s1.heap.objs.size], _, _, H1, rfl, I1.kept (t' := s1.toks) fun b o e => Heap.get?_push_of_some _ e, turn_tuple p _, ⟨_, Heap.get?_push_size _ rfl, rfl, rfl⟩, nw, q⟩
theorem walk_lst {K : PySem.W.Frag} {w : Wd} {p : Addr} {xs : List D} {c : Store → Bool} {H0 : Hp} (h : ∀ (H : Hp) (w' : Wd), Same w.F w'.F → w.θ <+: w'.θ → Wf K H w' → c w'.μ = true → ∃ vs, SqL K H p vs ∧ RepL K w'.F w'.θ vs xs) : Walk K H0 w (Itl K p) xs c where
  go := fun i d H w' h1 h2 _ wf hc hd => by
    obtain ⟨vs, hs, r⟩ := h H w' h1 h2 wf hc
    obtain ⟨v, hv, rv⟩ := r.at hd
    refine ⟨⟨vs, v, hs, hv⟩, fun x H' ⟨e, y⟩ => ⟨w', rfl, by rw [e]; exact Ext.refl _ _, by rw [e]; exact wf, ?_⟩⟩
    have := y vs hs
    rw [hv] at this
    cases this
    exact rv
  stop := fun H w' h1 h2 _ wf hc => by
    obtain ⟨vs, hs, r⟩ := h H w' h1 h2 wf hc
    exact ⟨vs, hs, by rw [r.length]; exact Nat.le_refl _⟩
theorem walk_tup {K : PySem.W.Frag} {w : Wd} {p : Addr} {vs : List V} {xs : List D} {c : Store → Bool} {H0 : Hp} (hs : SqT K w.F p vs) (r : RepL K w.F w.θ vs xs) : Walk K H0 w (Itt K p) xs c where
  go := fun i d H w' h1 h2 _ wf hc hd => by
    have r' := r.mono h1 h2
    have hs' := same_sqt wf.same (same_sqt h1 hs)
    obtain ⟨v, hv, rv⟩ := r'.at hd
    refine ⟨⟨vs, v, hs', hv⟩, fun x H' ⟨e, y⟩ => ⟨w', rfl, by rw [e]; exact Ext.refl _ _, by rw [e]; exact wf, ?_⟩⟩
    have := y vs hs'
    rw [hv] at this
    cases this
    exact rv
  stop := fun H w' h1 h2 _ wf hc => ⟨vs, same_sqt wf.same (same_sqt h1 hs), by rw [r.length]; exact Nat.le_refl _⟩
/-- for x in e, e a list or a tuple -/
theorem id_seq (ha : ED X W a f) : ID X W tg a (iSeq f) :=
  PI_imp (pi_seq ha) fun σ H R ⟨ρ, w, S, P⟩ => tE_bind S P fun d v H1 w1 _ S1 r1 P1 => by
    cases d with
    | tup xs =>
      cases r1 with
      | tup h1 h2 => exact ⟨_, rfl, .inr ⟨⟨_, same_sqt S1.wf.same h1⟩, post_ret (show Post X.K H1 w1 (Mret (xs, always) w1.μ) _ _ from P1) S1.wf _ (walk_tup h1 h2)⟩⟩
    | lst xs =>
      cases r1 with
      | lst h1 h2 => exact ⟨_, rfl, .inl ⟨⟨_, SqL.of (S1.wf.same _ _ h1)⟩, post_ret (show Post X.K H1 w1 (Mret (xs, always) w1.μ) _ _ from P1) S1.wf _ (walk_lst fun H w' h3 h4 wf _ => ⟨_, SqL.of (wf.same _ _ (h3 _ _ h1)), h2.mono h3 h4⟩)⟩⟩
    | arg xs =>
      cases r1 with
      | arg h1 h2 => exact ⟨_, rfl, .inl ⟨⟨_, Same.seq S1.wf.same h1⟩, post_ret (show Post X.K H1 w1 (Mret (xs, always) w1.μ) _ _ from P1) S1.wf _ (walk_lst fun H w' h3 h4 wf _ => ⟨_, Same.seq wf.same (Same.seq h3 h1), h2.mono h3 h4⟩)⟩⟩
    | ptr n =>
      simp only [gSeq] at P1
      cases e1 : w1.μ[n]? with
      | none => rw [e1] at P1; exact P1.elim
      | some o =>
        rw [e1] at P1
        cases o with
        | dct v ks vs => exact P1.elim
        | kd fs => exact P1.elim
        | lst xs =>
          obtain ⟨p, vs, rfl, h1, h2, h3⟩ := ptr_ok S1.wf r1 e1
          refine ⟨_, rfl, .inl ⟨⟨_, SqL.of h2⟩, post_ret (show Post X.K H1 w1 (Mret (xs, holds n xs) w1.μ) _ _ from P1) S1.wf _ (walk_lst fun H w' h4 h5 wf hc => ?_)⟩⟩
          have e2 : w'.μ[n]? = some (.lst xs) := of_decide_eq_true hc
          have e3 : w'.θ[n]? = some p := by
            obtain ⟨r, hr⟩ := h5
            rw [← hr, List.getElem?_append_left (List.getElem?_eq_some_iff.mp h1).1]
            exact h1
          obtain ⟨vs', h6, h7⟩ := wf.ob n p _ e3 e2
          exact ⟨vs', SqL.of h6, h7⟩
    | _ => exact P1.elim
/-! ### range -/
def rngD (lo : Int) (n : Nat) : List D := (List.range n).map fun i => .int (lo + (i : Nat))
def okR (i : Int) : Bool := decide (-(2 ^ 62) ≤ i) && decide (i < 2 ^ 62)
theorem okR_ok {i : Int} (h : okR i = true) : -(2 ^ 62) ≤ i ∧ i < 2 ^ 62 := by simpa [okR] using h
def kR1 : D → M (List D × (Store → Bool))
  | .int j => if okR j = true then Mret (rngD 0 j.toNat, always) else Mbad
  | _ => Mbad
def kR2 : D → D → M (List D × (Store → Bool))
  | .int i, .int j => if (okR i && okR j) = true then Mret (rngD i (j - i).toNat, always) else Mbad
  | _, _ => Mbad
def iRange1 (f : Env → M D) : IM := fun ρ => Mbind (f ρ) kR1
def iRange2 (f h : Env → M D) : IM := fun ρ => Mbind (f ρ) fun x => Mbind (h ρ) fun y => kR2 x y
theorem walk_range {K : PySem.W.Frag} {H0 : Hp} {w : Wd} {lo : Int} {n : Nat} {c : Store → Bool} : Walk K H0 w (Itr lo n) (rngD lo n) c where
  go := fun i d H w' h1 h2 _ wf hc hd => by
    simp only [rngD, List.getElem?_map, Option.map_eq_some_iff] at hd
    obtain ⟨j, hj, rfl⟩ := hd
    have hl : i < n := by
      have := (List.getElem?_eq_some_iff.mp hj).1
      simpa using this
    have e : j = i := by
      have := (List.getElem?_eq_some_iff.mp hj).2
      simpa using this.symm
    subst e
    refine ⟨hl, fun x H' ⟨e1, e2⟩ => ⟨w', rfl, by rw [e1]; exact Ext.refl _ _, by rw [e1]; exact wf, ?_⟩⟩
    subst e2
    exact .int _
  stop := fun H w' h1 h2 _ wf hc => by
    show n ≤ (rngD lo n).length
    simp [rngD]
theorem id_range1 {p : Pos} (hg : Gl X "range") (hm : X.mg "range" = none) (ha : ED X W a f) (hs : starEach [a] X.env = (false, eval a X.env) :: starEach [] X.env := by rfl) : ID X W tg (.Call (.Name "range" p) [a] [] pos) (iRange1 f) :=
  PI_imp (pi_range1 hg hm (ad_cons ha ad_nil hs) hs) fun σ H R ⟨ρ, w, S, P⟩ => by
    have e : iRange1 f ρ = Mbind (aCons f aNil ρ) fun ds => match ds with
      | [d] => kR1 d
      | _ => Mbad := by simp only [iRange1, aCons, aNil, mbind_assoc, mbind_ret]
    rw [e] at P
    refine tA_bind S P fun ds vs H1 w1 x1 S1 r1 P1 => ?_
    cases r1 with
    | nil => exact P1.elim
    | cons r1 r2 =>
      cases r2 with
      | cons r2 r3 => exact P1.elim
      | nil =>
        cases r1 with
        | int j =>
          simp only [kR1] at P1
          split at P1
          · rename_i hz
            exact ⟨j, rfl, (okR_ok hz).1, (okR_ok hz).2, post_ret P1 S1.wf _ walk_range⟩
          · exact P1.elim
        | _ => exact P1.elim
theorem id_range2 {p : Pos} (hg : Gl X "range") (hm : X.mg "range" = none) (ha : ED X W a f) (hb : ED X W b h) (hs : starEach [a, b] X.env = (false, eval a X.env) :: starEach [b] X.env := by rfl) (hs2 : starEach [b] X.env = (false, eval b X.env) :: starEach [] X.env := by rfl) :
    ID X W tg (.Call (.Name "range" p) [a, b] [] pos) (iRange2 f h) :=
  PI_imp (pi_range2 hg hm (ad_cons ha (ad_cons hb ad_nil hs2) hs) (by rw [hs, hs2]; rfl) hs2) fun σ H R ⟨ρ, w, S, P⟩ => by
    have e : iRange2 f h ρ = Mbind (aCons f (aCons h aNil) ρ) fun ds => match ds with
      | [d, d2] => kR2 d d2
      | _ => Mbad := by simp only [iRange2, aCons, aNil, mbind_assoc, mbind_ret]
    rw [e] at P
    refine tA_bind S P fun ds vs H1 w1 x1 S1 r1 P1 => ?_
    cases r1 with
    | nil => exact P1.elim
    | cons r1 r2 =>
      cases r2 with
      | nil => exact P1.elim
      | cons r2 r3 =>
        cases r3 with
        | cons r2 r3 => exact P1.elim
        | nil =>
          cases r1 with
          | int i =>
            cases r2 with
            | int j =>
              simp only [kR2] at P1
              split at P1
              · rename_i hz
                rw [Bool.and_eq_true] at hz
                exact ⟨i, j, rfl, ⟨(okR_ok hz.1).1, (okR_ok hz.1).2, (okR_ok hz.2).1, (okR_ok hz.2).2⟩, post_ret P1 S1.wf _ walk_range⟩
              · exact P1.elim
            | _ => exact P1.elim
          | _ => exact P1.elim
/-! ### for, while -/
theorem for_ok {K : PySem.W.Frag} {mg : Str → Option Value} {c : Store → Bool} {g : GM} {body : SM} {ix : List Nat} {De : Ends} {σ : L2.St} {H : Hp} {w : Wd} {J : It} {ds : List D} {ρ : Env} (wk : Walk K H w J ds c) (S : SR K σ H ρ w)
    (P : Post K H w (forL c g body ds ρ w.μ) (FlR K De) (EWs K mg W)) :
    ∃ V : Nat → Nat → L2.St → Hp → Prop, (∃ m, V 0 m σ H) ∧ ∀ i m σ H, V i m σ H →
      (J.stop i H ∧ De.nx σ H) ∨ (J.go i H ∧ ∃ N : L2.St → Hp → Prop, (∀ σ' H', N σ' H' → ∃ m', m' < m ∧ V (i + 1) m' σ' H') ∧ ∀ x H', J.yld i H x H' → tG K ix g x σ H' fun σ2 H2 => tS K mg W body { De with nx := N, ct := N, bk := De.nx } σ2 H2) := by
  refine ⟨fun i m σ' H' => m = ds.length - i ∧ i ≤ ds.length ∧ ∃ ρ' w', SR K σ' H' ρ' w' ∧ Ext H w H' w' ∧ Post K H' w' (forL c g body (ds.drop i) ρ' w'.μ) (FlR K De) (EWs K mg W), ⟨ds.length, by simp, Nat.zero_le _, ρ, w, S, Ext.refl _ _, P⟩, ?_⟩
  rintro i m σ' H' ⟨rfl, hi, ρ', w', S', x', P'⟩
  by_cases hlt : i < ds.length
  · have e1 : ds.drop i = ds[i] :: ds.drop (i + 1) := List.drop_eq_getElem_cons hlt
    rw [e1] at P'
    simp only [forL] at P'
    by_cases hc : c w'.μ = true
    · rw [if_pos hc] at P'
      obtain ⟨h1, h2⟩ := wk.go i ds[i] H' w' x'.frz x'.ids x'.kept S'.wf hc (List.getElem?_eq_getElem hlt)
      refine .inr ⟨h1, fun σ2 H2 => ∃ ρ2 w2, SR K σ2 H2 ρ2 w2 ∧ Ext H w H2 w2 ∧ Post K H2 w2 (forL c g body (ds.drop (i + 1)) ρ2 w2.μ) (FlR K De) (EWs K mg W), fun σ2 H2 ⟨ρ2, w2, S2, x2, P2⟩ => ⟨ds.length - (i + 1), by omega, rfl, by omega, ρ2, w2, S2, x2, P2⟩, fun x H2 hy => ?_⟩
      obtain ⟨w2, em, x2, wf2, r2⟩ := h2 x H2 hy
      have P2 := P'.ext x2
      rw [← em] at P2
      refine ⟨ds[i], ρ', w2, _, S'.ext x2 wf2, r2, (post_bind P2).imp (fun ρ3 H3 w3 x3 wf3 q σ3 S3 _ => ?_) fun _ _ _ _ _ q => q⟩
      refine ⟨ρ3, w3, S3, (post_bind q).imp (fun fl H4 w4 x4 wf4 q4 => ?_) fun _ _ _ _ _ q => q⟩
      have xx : Ext H w H4 w4 := ((x'.trans x2).trans x3).trans x4
      cases fl with
      | nx ρ4 => exact fun σ4 S4 => ⟨ρ4, w4, S4, xx, q4⟩
      | ct ρ4 => exact fun σ4 S4 => ⟨ρ4, w4, S4, xx, q4⟩
      | bk ρ4 => exact fun σ4 S4 => post_ret (show Post K H4 w4 (Mret (Fl.nx ρ4) w4.μ) (FlR K De) (EWs K mg W) from q4) wf4 σ4 S4
      | ret d => exact fun v r => post_ret (show Post K H4 w4 (Mret (Fl.ret d) w4.μ) (FlR K De) (EWs K mg W) from q4) wf4 v r
    · rw [if_neg hc] at P'
      exact P'.elim
  · have e : i = ds.length := by omega
    subst e
    rw [List.drop_length] at P'
    simp only [forL] at P'
    by_cases hc : c w'.μ = true
    · rw [if_pos hc] at P'
      exact .inl ⟨wk.stop H' w' x'.frz x'.ids x'.kept S'.wf hc, P' H' w' rfl (Ext.refl _ _) S'.wf σ' S'⟩
    · rw [if_neg hc] at P'
      exact P'.elim
theorem sd_for {it : IM} {ix : List Nat} {g : GM} {body : SM} {bs : List Stmt} (hp : PassesOwn (model X.prog X.w) X.A X.env X.xe) (hc : X.calm = true) (hi : ID X W tg a it) (hg : GD X ix tg g) (hb : SDs X W bs body)
    (hs : ∀ x, foldedSetIterable a X.env x = pure x := by intro _; rfl) : SD X W (.For tg a bs [] pos) (sFor it g body) :=
  PS_imp (ps_for hp hc hi hg hb hs) fun D σ H ⟨ρ, w, S, P⟩ => ⟨ρ, w, S, (post_bind P).imp (fun p H1 w1 x1 wf1 q J wk => for_ok wk (S.ext x1 wf1) q) fun _ _ _ _ _ q => q σ⟩
theorem while_ok {K : PySem.W.Frag} {mg : Str → Option Value} {c : Env → M Bool} {body : SM} {D : Ends} : ∀ (n : Nat) {σ : L2.St} {H : Hp} {w : Wd} {ρ : Env} (S : SR K σ H ρ w)
    (P : Post K H w (whileF c body n ρ w.μ) (FlR K D) (EWs K mg W)), tWhile (tT K mg W c) (tS K mg W body) D σ H := fun n {σ H w ρ} S P => by
  refine ⟨fun m σ H => ∃ ρ w, SR K σ H ρ w ∧ Post K H w (whileF c body m ρ w.μ) (FlR K D) (EWs K mg W), ⟨n, ρ, w, S, P⟩, ?_⟩
  rintro m σ H ⟨ρ, w, S, P⟩
  cases m with
  | zero => exact P.elim
  | succ m =>
    refine tT_bindS S P fun bb H1 w1 x1 S1 P1 => ?_
    cases bb with
    | true =>
      refine ⟨fun σ2 H2 => ∃ ρ w, SR K σ2 H2 ρ w ∧ Post K H2 w (whileF c body m ρ w.μ) (FlR K D) (EWs K mg W), fun σ2 H2 h => ⟨m, Nat.lt_succ_self _, h⟩, ρ, w1, S1, (post_bind P1).imp (fun fl H4 w4 x4 wf4 q4 => ?_) fun _ _ _ _ _ q => q⟩
      cases fl with
      | nx ρ4 => exact fun σ4 S4 => ⟨ρ4, w4, S4, q4⟩
      | ct ρ4 => exact fun σ4 S4 => ⟨ρ4, w4, S4, q4⟩
      | bk ρ4 => exact fun σ4 S4 => post_ret (show Post K H4 w4 (Mret (Fl.nx ρ4) w4.μ) (FlR K D) (EWs K mg W) from q4) wf4 σ4 S4
      | ret d => exact fun v r => post_ret (show Post K H4 w4 (Mret (Fl.ret d) w4.μ) (FlR K D) (EWs K mg W) from q4) wf4 v r
    | false => exact post_ret P1 S1.wf σ S1
theorem sd_while {c : Env → M Bool} {e : Expr} {body : SM} {bs : List Stmt} (fuel : Env → Store → Nat) (hp : PassesOwn (model X.prog X.w) X.A X.env X.xe) (hc : TD X W e c) (hb : SDs X W bs body) : SD X W (.While e bs [] pos) (sWhile fuel c body) :=
  PS_imp (ps_while hp hc hb) fun D σ H ⟨ρ, w, S, P⟩ => while_ok _ S P
end
end DL
namespace DL
open PySem PySem.Spec PyProof.Rows L2
variable [WC]
/-! ### comprehensions: nothing that is raised leaves them -/
def Mno {α : Type} (m : M α) : M α := fun μ => match m μ with
  | .ex _ _ => .bad
  | r => r
def compL (c : Store → Bool) (g : GM) (t : Env → M Bool) (f : Env → M D) (ρ : Env) : List D → List D → M (List D)
  | [], acc => fun μ => if c μ = true then .ok acc μ else .bad
  | d :: ds, acc => fun μ => if c μ = true then Mbind (Mno (g d ρ)) (fun ρ1 => Mbind (Mno (t ρ1)) fun b => if b = true then
      Mbind (Mno (f ρ1)) fun y => if acc.length < sizeLine then compL c g t f ρ ds (acc ++ [y]) else Mbad
    else compL c g t f ρ ds acc) μ else .bad
def wipeE (ρ : Env) : List Nat → Env
  | [] => ρ
  | v :: vs => (wipeE ρ vs).set v none
def eLc (mu : Bool) (it : IM) (g : GM) (t : Env → M Bool) (f : Env → M D) (vs : List Nat) : Env → M D := fun ρ => Mbind (it ρ) fun p => Mbind (compL p.2 g t f (wipeE ρ vs) p.1 []) (retL mu)
def tYesM : Env → M Bool := fun _ => Mret true
abbrev W0 : WX := fun _ _ _ _ => False
/-! ### a heap but for one thing -/
def del (H : Hp) (a : Addr) : Hp := fun b => if b = a then none else H b
theorem del_self {H : Hp} {a : Addr} : del H a a = none := by simp [del]
theorem del_ne {H : Hp} {a b : Addr} (h : b ≠ a) : del H a b = H b := by simp [del, h]
theorem upd_del {H : Hp} {a : Addr} {o : HO} (h : H a = some o) : upd (del H a) a o = H := by
  funext b
  by_cases e : b = a
  · subst e; rw [upd_same]; exact h.symm
  · rw [upd_ne e, del_ne e]
theorem del_upd {H : Hp} {a : Addr} {o : HO} (h : H a = none) : del (upd H a o) a = H := by
  funext b
  by_cases e : b = a
  · subst e; rw [del_self]; exact h.symm
  · rw [del_ne e, upd_ne e]
section
variable {K : PySem.W.Frag} {H H' : Hp} {w w' : Wd} {a : Addr} {o : HO} {α : Type}
theorem Ext.del (x : Ext H w H' w') : Ext (del H a) w (del H' a) w' := by
  refine ⟨x.frz, x.ids, fun b h => x.old b fun e => h ?_, fun b u h hb => ?_, fun b h => ?_, fun b h hb => ?_, fun n b v ks vs h1 h2 => ?_⟩
  · by_cases q : b = a
    · subst q; exact del_self
    · rw [del_ne q]; exact e
  · by_cases q : b = a
    · subst q; rw [del_self] at h; cases h
    · rw [del_ne q] at h ⊢; exact x.keep b u h hb
  · by_cases q : b = a
    · subst q; exact absurd del_self h
    · rw [del_ne q] at h ⊢; exact x.live b h
  · by_cases q : b = a
    · subst q; exact del_self
    · rw [del_ne q]; exact x.new b h hb
  · obtain ⟨v', ks', vs', h3, h4, h5⟩ := x.kept n b v ks vs h1 h2
    refine ⟨v', ks', vs', h3, h4, fun e => ?_⟩
    by_cases q : b = a
    · subst q; rw [del_self, del_self]
    · rw [del_ne q, del_ne q]; exact h5 e
theorem Wf.del (wf : Wf K H w) (h1 : w.F a = none) (h2 : a ∉ w.θ) : Wf K (del H a) w := by
  refine ⟨fun b u h => ?_, wf.len, wf.nd, wf.out, fun i b u h h' => ?_⟩
  · have : b ≠ a := fun e => by subst e; rw [h1] at h; cases h
    rw [del_ne this]; exact wf.same b u h
  · have : b ≠ a := fun e => h2 (by rw [← e]; exact List.mem_of_getElem? h)
    exact (wf.ob i b u h h').mono (Same.refl _) (List.prefix_refl _) (del_ne this)
/-- beside a thing that nobody knows -/
theorem Wf.beside (wf : Wf K H w) (ha : H a = none) : Wf K (upd H a o) w := by
  refine ⟨fun b u h => ?_, wf.len, wf.nd, wf.out, fun i b u h h' => ?_⟩
  · exact same_upd_new ha b u (wf.same b u h)
  · have : b ≠ a := fun e => wf.live (List.mem_of_getElem? h) (by rw [e]; exact ha)
    exact (wf.ob i b u h h').mono (Same.refl _) (List.prefix_refl _) (upd_ne this)
theorem kept_beside (wf : Wf K H w) (x : Ext H w H' w') (h : H a = none) (h' : H' a = none) : Kept H w (upd H' a o) w' := fun n b v ks vs h1 h2 => by
  obtain ⟨v', ks', vs', h3, h4, h5⟩ := x.kept n b v ks vs h1 h2
  exact ⟨v', ks', vs', h3, h4, fun e => (upd_ne fun q => wf.live (List.mem_of_getElem? h1) (by rw [q]; exact h)).trans (h5 e)⟩
/-- beside the thing at a -/
structure Bes (H : Hp) (w : Wd) (a : Addr) (o : HO) : Prop where
  h : H a = some o
  f : w.F a = none
  t : a ∉ w.θ
theorem Bes.ext (b : Bes H w a o) (x : Ext H w H' w') : Bes H' w' a o :=
  ⟨x.keep a o b.h b.t, by rw [x.old a (by rw [b.h]; simp)]; exact b.f, fun hm => by
    have := x.new a hm b.t
    rw [b.h] at this; cases this⟩
theorem Wf.bes (wf : Wf K H w) (ha : H a = none) : Bes (upd H a o) w a o := ⟨upd_same, wf.frz_new ha, fun h => wf.live h ha⟩
theorem post_under {r : Res α} {Q : α → Hp → Wd → Prop} {E E' : Ex → Hp → Wd → Prop} {m : M α} {μ : Store} (b : Bes H w a o) (P : Post K (del H a) w (Mno m μ) Q E) :
    Post K H w (m μ) (fun z H' w' => Q z (DL.del H' a) w') E' := by
  simp only [Mno] at P
  cases e : m μ with
  | ok z μ' =>
    rw [e] at P
    intro H' w' e1 x wf
    have b' := b.ext x
    exact P _ w' e1 x.del (wf.del b'.f b'.t)
  | ex e μ' => rw [e] at P; exact P.elim
  | bad => rw [e] at P; exact P.elim
end
theorem wipeE_length (ρ : Env) : ∀ vs : List Nat, (wipeE ρ vs).length = ρ.length
  | [] => rfl
  | v :: vs => by unfold wipeE; rw [List.length_set, wipeE_length ρ vs]
theorem SR.wipe {K : PySem.W.Frag} {σ : L2.St} {H : Hp} {ρ : Env} {w : Wd} (S : SR K σ H ρ w) : ∀ vs : List Nat, SR K (L2.wipe σ vs) H (wipeE ρ vs) w
  | [] => S
  | v :: vs => by
    have S' := S.wipe vs
    refine ⟨S'.wf, ?_, fun j e h => ?_⟩
    · unfold wipeE L2.wipe
      rw [List.length_set, List.length_set]; exact S'.len
    · unfold wipeE at h
      unfold L2.wipe
      by_cases hj : v = j
      · subst hj
        by_cases hl : v < (wipeE ρ vs).length
        · rw [List.getElem?_set_self hl] at h; cases h
        · rw [List.getElem?_eq_none (by simpa using hl)] at h; cases h
      · rw [List.getElem?_set_ne hj] at h ⊢
        exact S'.val j e h
theorem wipe_ag {σ σ' : L2.St} : ∀ {vs : List Nat}, Ag vs σ σ' → L2.wipe σ' vs = L2.wipe σ vs := fun {vs} a => by
  have main : ∀ (vs us : List Nat), (∀ v ∈ us, v ∈ vs) → Ag vs σ σ' → ∀ j : Nat, (j ∈ us ∨ j ∉ vs) → (L2.wipe σ' us)[j]? = (L2.wipe σ us)[j]? := by
    intro vs us
    induction us with
    | nil =>
      intro _ a j hj
      rcases hj with hj | hj
      · cases hj
      · exact a.2 j hj
    | cons u us ih =>
      intro hs a j hj
      unfold L2.wipe
      by_cases e : u = j
      · subst e
        by_cases hl : u < (L2.wipe σ us).length
        · have hl' : u < (L2.wipe σ' us).length := by rw [wipe_length] at hl ⊢; rw [a.1]; exact hl
          rw [List.getElem?_set_self hl, List.getElem?_set_self hl']
        · have hl' : ¬ u < (L2.wipe σ' us).length := by rw [wipe_length] at hl ⊢; rw [a.1]; exact hl
          rw [List.getElem?_eq_none (by simpa using hl'), List.getElem?_eq_none (by simpa using hl)]
      · rw [List.getElem?_set_ne e, List.getElem?_set_ne e]
        refine ih (fun v hv => hs v (List.mem_cons_of_mem _ hv)) a j ?_
        rcases hj with hj | hj
        · rcases List.mem_cons.mp hj with q | q
          · exact absurd q.symm e
          · exact .inl q
        · exact .inr hj
  apply List.ext_getElem?
  intro j
  by_cases h : j ∈ vs
  · exact main vs vs (fun _ h => h) a j (.inl h)
  · exact main vs vs (fun _ h => h) a j (.inr h)
theorem ag_wipe (σ : L2.St) (vs : List Nat) : ∀ us : List Nat, (∀ v ∈ us, v ∈ vs) → Ag vs σ (L2.wipe σ us)
  | [], _ => Ag.refl _ _
  | u :: us, h => by
    have a := ag_wipe σ vs us fun v hv => h v (List.mem_cons_of_mem _ hv)
    exact a.trans (Ag.set (h u List.mem_cons_self) _ _)
theorem lc_ok {K : PySem.W.Frag} {mg : Str → Option Value} {W : WX} {mu : Bool} {it : IM} {g : GM} {t : Env → M Bool} {f : Env → M D} {vs : List Nat} {σ : L2.St} {H : Hp} {Q : VK} (q : tE K mg W (eLc mu it g t f vs) σ H Q) :
    tLc (tI K mg W it) (tG K vs g) (tT K mg W0 t) (tE K mg W0 f) vs σ H Q := by
  obtain ⟨ρ, w, S, P⟩ := q
  refine ⟨ρ, w, S, (post_bind P).imp (fun p H1 w1 x1 wf1 q J wk a ha => ?_) fun _ _ _ _ _ q => q⟩
  have S1 := S.ext x1 wf1
  let Wv : Nat → Nat → Hp → Prop := fun i m Hc => m = p.1.length - i ∧ i ≤ p.1.length ∧ ∃ acc us Ho w', Hc = upd Ho a (.lst us) ∧ Ho a = none ∧ RepL K w'.F w'.θ us acc ∧ Wf K Ho w' ∧ Ext H1 w1 Ho w' ∧
    Post K Ho w' (compL p.2 g t f (wipeE ρ vs) (p.1.drop i) acc w'.μ) (fun ys H2 w2 => Post K H2 w2 (retL mu ys w2.μ) (QV K Q) (EW K mg W σ)) (EW K mg W σ)
  refine ⟨Wv, ⟨p.1.length, by simp, Nat.zero_le _, [], [], H1, w1, rfl, ha, .nil, wf1, Ext.refl _ _, post_bind q⟩, ?_⟩
  rintro i m Hc ⟨rfl, hi, acc, us, Ho, w', rfl, hoa, ra, wfo, xo, P'⟩
  have wfc : Wf K (upd Ho a (.lst us)) w' := wfo.beside hoa
  have bes : Bes (upd Ho a (.lst us)) w' a (.lst us) := wfo.bes hoa
  by_cases hlt : i < p.1.length
  · have e1 : p.1.drop i = p.1[i] :: p.1.drop (i + 1) := List.drop_eq_getElem_cons hlt
    rw [e1] at P'
    simp only [compL] at P'
    by_cases hc : p.2 w'.μ = true
    · rw [if_pos hc] at P'
      obtain ⟨h1, h2⟩ := wk.go i p.1[i] _ w' xo.frz xo.ids (kept_beside wf1 xo ha hoa) wfc hc (List.getElem?_eq_getElem hlt)
      refine .inr ⟨h1, fun Hn => ∃ m', m' < p.1.length - i ∧ Wv (i + 1) m' Hn, fun H' h => h, fun x H2 hy => ?_⟩
      obtain ⟨w2, em, x2, wf2, r2⟩ := h2 x H2 hy
      have bes2 := bes.ext x2
      have hx2 : Ext Ho w' (del H2 a) w2 := by
        have := x2.del (a := a)
        rw [del_upd hoa] at this
        exact this
      have P2 := P'.ext hx2
      rw [← em] at P2
      have Sw : SR K (L2.wipe σ vs) H2 (wipeE ρ vs) w2 := by
        have := (S1.wipe vs)
        refine ⟨wf2, this.len, fun j d h => ?_⟩
        obtain ⟨v, h3, h4⟩ := this.val j d h
        exact ⟨v, h3, (xo.trans hx2).rep h4⟩
      have next : ∀ {acc' : List D} {us' : List V} {H5 : Hp} {w5 : Wd}, Ext H2 w2 H5 w5 → Wf K H5 w5 → RepL K w5.F w5.θ us' acc' → Post K (del H5 a) w5 (compL p.2 g t f (wipeE ρ vs) (p.1.drop (i + 1)) acc' w5.μ) (fun ys H2 w2 => Post K H2 w2 (retL mu ys w2.μ) (QV K Q) (EW K mg W σ)) (EW K mg W σ) →
          ∃ m', m' < p.1.length - i ∧ Wv (i + 1) m' (upd H5 a (.lst us')) := fun {acc' us' H5 w5} x5 wf5 r5 P5 => by
        have b5 := bes2.ext x5
        refine ⟨p.1.length - (i + 1), by omega, rfl, by omega, acc', us', del H5 a, w5, ?_, del_self, r5, wf5.del b5.f b5.t, (xo.trans hx2).trans x5.del, P5⟩
        funext b
        by_cases e : b = a
        · subst e; rw [upd_same, upd_same]
        · rw [upd_ne e, upd_ne e, del_ne e]
      refine ⟨p.1[i], wipeE ρ vs, w2, (fun _ _ _ => False), Sw, r2, (post_under (r := .bad) (E' := fun _ _ _ => False) bes2 (post_bind P2)).imp (fun ρ3 H3 w3 x3 wf3 q3 σ3 S3 ag => ⟨wipe_ag ag |>.trans (wipe_ag (ag_wipe σ vs vs fun _ h => h)), ?_⟩) fun _ _ _ _ _ q => q⟩
      have bes3 := bes2.ext x3
      refine ⟨ρ3, w3, S3, (post_under (r := .bad) bes3 (post_bind q3)).imp (fun b H4 w4 x4 wf4 q4 => ?_) fun _ _ _ _ _ q => q⟩
      have bes4 := bes3.ext x4
      cases b with
      | false =>
        have := next (us' := us) (x3.trans x4) wf4 ((((x2.trans x3).trans x4)).repL ra) q4
        rw [show upd H4 a (.lst us) = H4 from by
          funext b
          by_cases e : b = a
          · subst e; rw [upd_same]; exact bes4.h.symm
          · rw [upd_ne e]] at this
        exact this
      | true =>
        refine ⟨ρ3, w4, S3.ext x4 wf4, (post_under (r := .bad) bes4 (post_bind q4)).imp (fun y H5 w5 x5 wf5 q5 v rv => ?_) fun _ _ _ _ _ q => q⟩
        have bes5 := bes4.ext x5
        by_cases hz : acc.length < sizeLine
        · rw [if_pos hz] at q5
          refine ⟨us, bes5.h, by rw [ra.length]; exact hz, ?_⟩
          exact next ((x3.trans x4).trans x5) wf5 (((((x2.trans x3).trans x4).trans x5).repL ra).append (.cons rv .nil)) q5
        · rw [if_neg hz] at q5; exact q5.elim
    · rw [if_neg hc] at P'; exact P'.elim
  · have e : i = p.1.length := by omega
    subst e
    rw [List.drop_length] at P'
    simp only [compL] at P'
    by_cases hc : p.2 w'.μ = true
    · rw [if_pos hc] at P'
      have P2 := P' Ho w' rfl (Ext.refl _ _) wfo
      refine .inl ⟨wk.stop _ w' xo.frz xo.ids (kept_beside wf1 xo ha hoa) wfc hc, ?_⟩
      simp only [retL] at P2
      cases mu with
      | true => exact post_mut P2 wfo hoa ra
      | false => exact post_lst P2 wfo hoa ra
    · rw [if_neg hc] at P'; exact P'.elim
end DL
namespace DL
open PySem PySem.Spec PyProof.Rows L2
variable [WC]
section
variable {X : Cx} {W : WX} {tg iter elt : Expr} {ifs : List Expr} {scope : Scope} {own : List (Str × Nat)} {it : IM} {g : GM} {t : Env → M Bool} {f : Env → M D} {pos : Pos}
theorem ed_lc (mu : Bool) (hc : X.calm = true) (hN : X.N.Nodup) (hi : ID X W tg iter it) (ok : BlkOk X.N X.env.scope scope own)
    (hg : ∀ (s : Shared) (H : Hp) (C : Addr) (cl : List (Str × Addr)) (fp : List Addr), GD (X.blk s H scope (compEnvC scope cl C X.env) fp) (own.map (·.2)) tg g)
    (ht : ∀ (s : Shared) (H : Hp) (C : Addr) (cl : List (Str × Addr)) (fp : List Addr), PTs (X.blk s H scope (compEnvC scope cl C X.env) fp) ifs (tT X.K X.mg W0 t))
    (he : ∀ (s : Shared) (H : Hp) (C : Addr) (cl : List (Str × Addr)) (fp : List Addr), ED (X.blk s H scope (compEnvC scope cl C X.env) fp) W0 elt f)
    (hs : ∀ x, foldedSetIterable iter X.env x = pure x := by intro _; rfl) : ED X W (.ListComp elt [⟨tg, iter, ifs, 0⟩] scope pos) (eLc mu it g t f (own.map (·.2))) :=
  PE_imp (pe_lc hc hN hi ok hg ht he hs) fun σ H Q q => lc_ok q
theorem pts_nilD : PTs X [] (tT X.K X.mg W tYesM) := ⟨fun pins s σ H Q I ⟨ρ, w, S, P⟩ => pts_nil.run pins s σ H Q I (post_ret P S.wf)⟩
theorem pts_oneD {c : Expr} (h : TD X W c t) : PTs X [c] (tT X.K X.mg W t) := pts_one h
theorem sd_setLc {i : Nat} {y : Str} {py spos : Pos} (mu : Bool) (hc : X.calm = true) (hN : X.N.Nodup) (hy : X.N[i]? = some y) (hyl : X.env.scope.names.lookup y = some .local)
    (hsw : swapsWith (.ListComp elt [⟨tg, iter, ifs, 0⟩] scope pos) (some (.Name y py)) spos.line X.env = pure true) (hi : ID X W tg iter it) (ok : BlkOk X.N X.env.scope scope own)
    (hg : ∀ (s : Shared) (H : Hp) (C : Addr) (cl : List (Str × Addr)) (fp : List Addr), GD (X.blk s H scope (compEnvC scope cl C X.env) fp) (own.map (·.2)) tg g)
    (ht : ∀ (s : Shared) (H : Hp) (C : Addr) (cl : List (Str × Addr)) (fp : List Addr), PTs (X.blk s H scope (compEnvC scope cl C X.env) fp) ifs (tT X.K X.mg W0 t))
    (he : ∀ (s : Shared) (H : Hp) (C : Addr) (cl : List (Str × Addr)) (fp : List Addr), ED (X.blk s H scope (compEnvC scope cl C X.env) fp) W0 elt f)
    (hs : ∀ x, foldedSetIterable iter X.env x = pure x := by intro _; rfl) : SD X W (.Assign [.Name y py] (.ListComp elt [⟨tg, iter, ifs, 0⟩] scope pos) spos) (sSet i (eLc mu it g t f (own.map (·.2)))) :=
  PS_imp (ps_setLc hc hN hy hyl hsw hi ok hg ht he hs) fun De σ H ⟨ρ, w, S, P⟩ => lc_ok (W := W) (show tE X.K X.mg W _ σ H _ from tE_bindS S P fun d v H1 w1 x1 S1 r1 P1 => post_ret P1 S1.wf _ (S1.set r1))
end
/-! ### defs -/
def tag (n : Nat) (F : List D → M D) : Prop := ∀ ds μ, ds.length ≠ n → F ds μ = .bad
def spM (K : PySem.W.Frag) (mg : Str → Option Value) (F : List D → M D) : Sp := fun vs H Q E => ∃ ds w, Wf K H w ∧ RepL K w.F w.θ vs ds ∧
  Post K H w (F ds w.μ) (QV K Q) (fun e H' w' => ∀ c dd, ExR K mg H' w' e c dd → E c dd H')
/-- a def's mirror by its body's: n parameters, m names -/
def defM (n m : Nat) (body : SM) : List D → M D := fun ds => if ds.length = n then Mbind (body (ds.map some ++ List.replicate (m - n) none)) fun fl => match fl with
  | .ret d => Mret d
  | .nx _ => Mret .non
  | _ => Mbad
  else Mbad
theorem defM_tag (n m : Nat) (body : SM) : tag n (defM n m body) := fun ds μ h => by unfold defM; rw [if_neg h]; rfl
abbrev WE0 (E : XK) : WX := fun c d _ H => E c d H
section
variable {P : Program} {w : World} {K : PySem.W.Frag} {mg : Str → Option Value} {base : Heap} {x qual : Str} {params : Arguments} {body : List Stmt} {scope : Scope} {f : Addr} {fd : FuncData}
theorem repL_start {F : Hp} {θ : List Addr} {m : Nat} : ∀ {vs : List V} {ds : List D}, RepL K F θ vs ds → ∀ (i : Nat) (d : D), (ds.map some ++ List.replicate m none)[i]? = some (some d) → ∃ v, (vs.map some ++ List.replicate m none)[i]? = some (some v) ∧ Rep K F θ v d := by
  intro vs ds r i d h
  have hl := r.length
  rcases Nat.lt_or_ge i ds.length with hi | hi
  · rw [List.getElem?_append_left (by simpa using hi)] at h
    rw [List.getElem?_append_left (by simpa [hl] using hi)]
    rw [List.getElem?_map] at h
    cases e : ds[i]? with
    | none => rw [e] at h; cases h
    | some z =>
      rw [e] at h
      cases h
      obtain ⟨v, h1, h2⟩ := r.at e
      exact ⟨v, by rw [List.getElem?_map, h1]; rfl, h2⟩
  · rw [List.getElem?_append_right (by simpa using hi)] at h
    have := List.mem_of_getElem? h
    rw [List.mem_replicate] at this
    exact nomatch this.2
theorem fn_okD {N ps : List Str} {k : Nat} {s : SM} (F : FunD K x qual params body scope [] [] f fd) (S : FnScope N ps scope) (hn : ps.length ≤ N.length)
    (hb : ∀ (cdv : Value) (A : Around) (outer : List PySem.Env) (s0 : Shared) (H : Hp) (E : XK), Room k (A.deeper (envOfC qual scope s0.heap.objs.size f cdv)) →
      SDs (cxOf (L2.CX P w) P w K mg base N qual scope f cdv A outer s0 H E) (WE0 E) body s) : FnOk P w K mg base (L2.CX P w) (k + 1) f fd ps (spM K mg (defM ps.length N.length s)) := by
  refine F.ok S (fun vs H Q E ⟨ds, w, wf, r, P⟩ => ?_) fun cdv A outer s0 H vs Q E hr ⟨ds, w, wf, r, P⟩ => ⟨_, hb cdv A outer s0 H E hr, ?_⟩
  · rw [r.length]
    refine Decidable.byContradiction fun h => ?_
    rw [defM_tag _ _ _ ds w.μ h] at P
    exact P
  · have hl : ds.length = ps.length := Decidable.byContradiction fun h => by
      rw [defM_tag _ _ _ ds w.μ h] at P
      exact P
    have hv : vs.length = ps.length := r.length.trans hl
    unfold defM at P
    rw [if_pos hl] at P
    refine ⟨ds.map some ++ List.replicate (N.length - ps.length) none, w, ⟨wf, ?_, ?_⟩, (post_bind P).imp (fun fl H1 w1 x1 wf1 q => ?_) fun e H1 w1 x1 wf1 q σ c dd r => q c dd r⟩
    · unfold L2.start
      simp only [List.length_append, List.length_map, List.length_replicate, hl, hv]
    · unfold L2.start
      rw [hv]
      exact repL_start r
    · cases fl with
      | ret d => exact fun v r => post_ret (show Post K H1 w1 (Mret d w1.μ) (QV K Q) _ from q) wf1 v r
      | nx ρ => exact fun σ S => post_ret (show Post K H1 w1 (Mret D.non w1.μ) (QV K Q) _ from q) wf1 _ .non
      | bk ρ => exact q.elim
      | ct ρ => exact q.elim
end
section
variable {X : Cx} {W : WX} {e : Expr} {es : List Expr} {t : Env → M (List D)} {x : Str} {k : Nat} {f : Addr} {fd : FuncData} {ps : List Str} {p pos : Pos} {G : List D → M D}
theorem ed_call (F : FnOk X.prog X.w X.K X.mg X.base (L2.CX X.prog X.w) k f fd ps (spM X.K X.mg G)) (hr : Room k X.A) (hg : Gl X x) (hm : X.mg x = some (.ref f)) (hk : PySem.W.keepIn X.K (.ref f) = true) (hb : Binds X.K fd ps []) (tk : Takes X W)
    (ha : AD X W (e :: es) t) (hdb : (x == ("__debug__" : Str)) = false := by decide) (he : starEach (e :: es) X.env = (false, eval e X.env) :: starEach es X.env := by rfl) (hpl : (backTo pos (starEach es X.env)).any (·.1) = false := by rfl) :
    ED X W (.Call (.Name x p) (e :: es) [] pos) (eCall G t) :=
  PE_imp (pe_callS F hr hg hm hk hb (fun σ => passAt tk σ) ha hdb he hpl) fun σ H Q ⟨ρ, w, S, P⟩ => tA_bind S P fun ds vs H1 w1 x1 S1 r1 P1 => ⟨ds, w1, S1.wf, r1, P1⟩
end
/-! ### a def that shows nothing of its store -/
mutual
def noPtr : D → Bool
  | .tup xs => noPtrL xs
  | .lst xs => noPtrL xs
  | .arg xs => noPtrL xs
  | .dct ks vs => noPtrL ks && noPtrL vs
  | .ptr _ => false
  | _ => true
def noPtrL : List D → Bool
  | [] => true
  | x :: xs => noPtr x && noPtrL xs
end
mutual
theorem Rep.any {K : PySem.W.Frag} {F : Hp} {θ θ' : List Addr} : ∀ {v : V} (d : D), noPtr d = true → Rep K F θ v d → Rep K F θ' v d
  | _, .non, _, h => by cases h; exact .non
  | _, .bl _, _, h => by cases h; exact .bl _
  | _, .int _, _, h => by cases h; exact .int _
  | _, .str _, _, h => by cases h; exact .str _
  | _, .tup ds, e, h => by
    cases h with
    | tup h1 h2 => exact .tup h1 (RepL.any ds (by simpa [noPtr] using e) h2)
  | _, .lst ds, e, h => by
    cases h with
    | lst h1 h2 => exact .lst h1 (RepL.any ds (by simpa [noPtr] using e) h2)
  | _, .arg ds, e, h => by
    cases h with
    | arg h1 h2 => exact .arg h1 (RepL.any ds (by simpa [noPtr] using e) h2)
  | _, .dct ks vs, e, h => by
    cases h with
    | dct h1 h2 h3 h4 =>
      rw [noPtr, Bool.and_eq_true] at e
      exact .dct h1 h2 (RepL.any ks e.1 h3) (RepL.any vs e.2 h4)
  | _, .ptr n, e, h => by cases e
  | _, .raw _, _, h => by cases h; exact .raw _
theorem RepL.any {K : PySem.W.Frag} {F : Hp} {θ θ' : List Addr} : ∀ {vs : List V} (ds : List D), noPtrL ds = true → RepL K F θ vs ds → RepL K F θ' vs ds
  | _, [], _, h => by cases h; exact .nil
  | _, d :: ds, e, h => by
    rw [noPtrL, Bool.and_eq_true] at e
    cases h with
    | cons h1 h2 => exact .cons (Rep.any d e.1 h1) (RepL.any ds e.2 h2)
end
/-- what is handed out: a list that was changed is handed out as it stands -/
def frzD (μ : Store) : D → Option D
  | .ptr n => match μ[n]? with
    | some (.lst xs) => if noPtrL xs = true then some (.lst xs) else none
    | _ => none
  | d => if noPtr d = true then some d else none
def pureM (F : List D → M D) : List D → M D := fun ds μ => if noPtrL ds = true then match F ds [] with
  | .ok d μ' => match frzD μ' d with
    | some d' => .ok d' μ
    | none => .bad
  | .ex e _ => if noPtrL (e.fs.map (·.2)) = true then .ex e μ else .bad
  | .bad => .bad
  else .bad
theorem pure_ok {K : PySem.W.Frag} {mg : Str → Option Value} {F : List D → M D} {vs : List V} {H : Hp} {Q : VK} {E : XK} (h : spM K mg (pureM F) vs H Q E) : spM K mg F vs H Q E := by
  obtain ⟨ds, w, wf, r, P⟩ := h
  unfold pureM at P
  by_cases hn : noPtrL ds = true
  · rw [if_pos hn] at P
    have back : ∀ {H' : Hp} {w' : Wd} (F2 : Hp), Ext H ⟨w.F, [], []⟩ H' w' → Same w'.F F2 → Same F2 H' → (∀ a, H a ≠ none → F2 a = w'.F a) → Ext H w H' ⟨F2, w.θ, w.μ⟩ ∧ Wf K H' ⟨F2, w.θ, w.μ⟩ := fun {H' w'} F2 x s1 s2 s3 => by
      have x1 : Same w.F w'.F := x.frz
      have x3 : ∀ a, H a ≠ none → w'.F a = w.F a := x.old
      have x4 : ∀ a o, H a = some o → H' a = some o := fun a o h => x.keep a o h (by simp)
      refine ⟨⟨x1.trans s1, List.prefix_refl _, fun a h => (s3 a h).trans (x3 a h), fun a o h _ => x4 a o h, x.live, fun a h h' => absurd h h', fun n a v ks vs h1 h2 => ⟨v, ks, vs, h2, Nat.le_refl _, fun _ => by
        cases e : H a with
        | none => exact absurd e (wf.live (List.mem_of_getElem? h1))
        | some u => exact x4 a u e⟩⟩, s2, wf.len, wf.nd, fun i a h => ?_, fun i a o h h' => ?_⟩
      · show F2 a = none
        rw [s3 a (wf.live (List.mem_of_getElem? h)), x3 a (wf.live (List.mem_of_getElem? h))]
        exact wf.out i a h
      · have q := wf.live (List.mem_of_getElem? h)
        refine (wf.ob i a o h h').mono (w' := ⟨F2, w.θ, w.μ⟩) (x1.trans s1) (List.prefix_refl _) ?_
        cases e : H a with
        | none => exact absurd e q
        | some u => exact x4 a u e
    refine ⟨ds, ⟨w.F, [], []⟩, ⟨wf.same, rfl, List.nodup_nil, fun i a h => by simp at h, fun i a o h => by simp at h⟩, r.any ds hn, ?_⟩
    cases e : F ds [] with
    | bad => rw [e] at P; exact P.elim
    | ex ex μ' =>
      rw [e] at P
      simp only at P
      split at P
      · rename_i hf
        intro H' w' e1 x wf' c dd hx
        obtain ⟨x2, wf2⟩ := back w'.F x (Same.refl _) wf'.same (fun _ _ => rfl)
        refine P H' ⟨w'.F, w.θ, w.μ⟩ rfl x2 wf2 c dd ⟨hx.1, ?_⟩
        have h2 := hx.2
        revert h2 hf
        cases ex.fs with
        | nil => exact fun _ h => h
        | cons q qs => exact fun hf ⟨d, gs, h1, h3, h4, h5⟩ => ⟨d, gs, h1, h3, h4, h5.any _ hf⟩
      · exact P.elim
    | ok d μ' =>
      rw [e] at P
      simp only at P
      cases e2 : frzD μ' d with
      | none => rw [e2] at P; exact P.elim
      | some d' =>
        rw [e2] at P
        intro H' w' e1 x wf' v rv
        have plain : ∀ {d0 : D}, (if noPtr d0 = true then some d0 else none) = some d' → d0 = d → Q v H' := fun {d0} h hd => by
          split at h
          · rename_i hp
            cases h
            subst hd
            obtain ⟨x2, wf2⟩ := back w'.F x (Same.refl _) wf'.same (fun _ _ => rfl)
            exact P H' ⟨w'.F, w.θ, w.μ⟩ rfl x2 wf2 v (rv.any _ hp)
          · cases h
        cases d with
        | ptr n =>
          simp only [frzD] at e2
          rw [← e1] at e2
          cases e3 : w'.μ[n]? with
          | none => rw [e3] at e2; cases e2
          | some o =>
            rw [e3] at e2
            cases o with
            | dct v ks vs => cases e2
            | kd fs => cases e2
            | lst xs =>
              simp only at e2
              split at e2
              · rename_i hp
                cases e2
                obtain ⟨a, us, rfl, h1, h2, h3⟩ := ptr_ok wf' rv e3
                have hFa : w'.F a = none := wf'.out n a h1
                have hHa : H a = none := x.new a (List.mem_of_getElem? h1) (by simp)
                have s1 : Same w'.F (upd w'.F a (.lst us)) := same_upd_new hFa
                obtain ⟨x2, wf2⟩ := back (upd w'.F a (.lst us)) x s1 (fun b u hb => by
                  by_cases q : b = a
                  · subst q; rw [upd_same] at hb; cases hb; exact h2
                  · rw [upd_ne q] at hb; exact wf'.same b u hb) (fun b hb => upd_ne fun q => hb (by rw [q]; exact hHa))
                exact P H' ⟨upd w'.F a (.lst us), w.θ, w.μ⟩ rfl x2 wf2 _ (.lst upd_same ((h3.mono s1 (List.prefix_refl _)).any _ hp))
              · cases e2
        | non => exact plain (d0 := .non) e2 rfl
        | bl y => exact plain (d0 := .bl y) e2 rfl
        | int y => exact plain (d0 := .int y) e2 rfl
        | str y => exact plain (d0 := .str y) e2 rfl
        | tup y => exact plain (d0 := .tup y) e2 rfl
        | lst y => exact plain (d0 := .lst y) e2 rfl
        | arg y => exact plain (d0 := .arg y) e2 rfl
        | dct y z => exact plain (d0 := .dct y z) e2 rfl
        | raw y => exact plain (d0 := .raw y) e2 rfl
  · rw [if_neg hn] at P; exact P.elim
/-! ### a def that shows nothing of its store, what it hands out frozen to any depth -/
def allSome (f : D → Option D) : List D → Option (List D)
  | [] => some []
  | x :: xs => match f x, allSome f xs with
    | some y, some ys => some (y :: ys)
    | _, _ => none
def atomD : D → Option D
  | .non => some .non
  | .bl b => some (.bl b)
  | .int i => some (.int i)
  | .str s => some (.str s)
  | .raw v => some (.raw v)
  | _ => none
def thaw (μ : Store) : Nat → D → Option D
  | 0, d => atomD d
  | n + 1, d => match d with
    | .tup xs => (allSome (thaw μ n) xs).map .tup
    | .lst xs => (allSome (thaw μ n) xs).map .lst
    | .arg xs => (allSome (thaw μ n) xs).map .arg
    | .dct ks vs => match allSome (thaw μ n) vs with
      | some vs => if noPtrL ks = true then some (.dct ks vs) else none
      | none => none
    | .ptr i => match μ[i]? with
      | some (.lst xs) => (allSome (thaw μ n) xs).map .lst
      | some (.dct _ ks vs) => match allSome (thaw μ n) vs with
        | some vs => if noPtrL ks = true then some (.dct ks vs) else none
        | none => none
      | _ => none
    | d => atomD d
/-- the heap of what is frozen and of the store as it stands -/
def allF (H : Hp) (w : Wd) : Hp := open Classical in fun b => if b ∈ w.θ then H b else w.F b
section
variable {K : PySem.W.Frag} {H : Hp} {w : Wd}
theorem allF_in {a : Addr} (h : a ∈ w.θ) : allF H w a = H a := by unfold allF; rw [if_pos h]
theorem allF_out {a : Addr} (h : a ∉ w.θ) : allF H w a = w.F a := by unfold allF; rw [if_neg h]
theorem allF_same (wf : Wf K H w) : Same (allF H w) H := fun b u e => by
  by_cases h : b ∈ w.θ
  · rw [allF_in h] at e; exact e
  · rw [allF_out h] at e; exact wf.same b u e
theorem same_allF (wf : Wf K H w) : Same w.F (allF H w) := fun b u e => by
  by_cases h : b ∈ w.θ
  · obtain ⟨i, hi⟩ := List.mem_iff_getElem?.mp h
    rw [wf.out i b hi] at e; cases e
  · rw [allF_out h]; exact e
theorem atom_rep {F F' : Hp} {θ θ' : List Addr} {v : V} {d d' : D} (r : Rep K F θ v d) (h : atomD d = some d') : Rep K F' θ' v d' := by
  cases r <;> first | (cases h; done) | (cases h; constructor)
theorem allSome_rep {F F' : Hp} {θ θ' : List Addr} {f : D → Option D} (hf : ∀ (v : V) (d d' : D), Rep K F θ v d → f d = some d' → Rep K F' θ' v d') : ∀ {vs : List V} {ds es : List D}, RepL K F θ vs ds → allSome f ds = some es → RepL K F' θ' vs es
  | _, [], es, r, h => by cases r; cases h; exact .nil
  | _, d :: ds, es, r, h => by
    cases r with
    | cons r1 r2 =>
      simp only [allSome] at h
      cases e1 : f d with
      | none => rw [e1] at h; cases h
      | some y =>
        cases e2 : allSome f ds with
        | none => rw [e1, e2] at h; cases h
        | some ys =>
          rw [e1, e2] at h
          cases h
          exact .cons (hf _ _ _ r1 e1) (allSome_rep hf r2 e2)
theorem thaw_rep (wf : Wf K H w) : ∀ (n : Nat) (v : V) (d d' : D), Rep K w.F w.θ v d → thaw w.μ n d = some d' → Rep K (allF H w) [] v d'
  | 0, v, d, d', r, h => atom_rep r h
  | n + 1, v, d, d', r, h => by
    have ih := fun {vs : List V} {ds es : List D} => allSome_rep (K := K) (F := w.F) (θ := w.θ) (F' := allF H w) (θ' := []) (thaw_rep wf n) (vs := vs) (ds := ds) (es := es)
    have s := same_allF wf
    cases r with
    | tup h1 h2 =>
      simp only [thaw, Option.map_eq_some_iff] at h
      obtain ⟨es, e, rfl⟩ := h
      exact .tup (same_sqt s h1) (ih h2 e)
    | lst h1 h2 =>
      simp only [thaw, Option.map_eq_some_iff] at h
      obtain ⟨es, e, rfl⟩ := h
      exact .lst (s _ _ h1) (ih h2 e)
    | arg h1 h2 =>
      simp only [thaw, Option.map_eq_some_iff] at h
      obtain ⟨es, e, rfl⟩ := h
      exact .arg (Same.seq s h1) (ih h2 e)
    | @dct a rows ks vs h1 h2 h3 h4 =>
      simp only [thaw] at h
      cases e : allSome (thaw w.μ n) vs with
      | none => rw [e] at h; cases h
      | some es =>
        rw [e] at h
        simp only at h
        split at h
        · rename_i hk
          cases h
          exact .dct (s _ _ h1) h2 ((h3.mono s (List.prefix_refl _)).any _ hk) (ih h4 e)
        · cases h
    | @ptr a i h1 =>
      obtain ⟨o, h3, h4⟩ := wf.some_of h1
      have hin : a ∈ w.θ := List.mem_of_getElem? h1
      simp only [thaw, h3] at h
      cases o with
      | lst xs =>
        simp only [Option.map_eq_some_iff] at h
        obtain ⟨es, e, rfl⟩ := h
        obtain ⟨us, h5, h6⟩ := h4
        exact .lst ((allF_in hin).trans h5) (ih h6 e)
      | dct ver ks vs =>
        simp only at h
        cases e : allSome (thaw w.μ n) vs with
        | none => rw [e] at h; cases h
        | some es =>
          rw [e] at h
          simp only at h
          split at h
          · rename_i hk
            cases h
            obtain ⟨rows, h5, h6, h7, h8⟩ := h4
            exact .dct ((allF_in hin).trans h5) h6 ((h7.mono s (List.prefix_refl _)).any _ hk) (ih h8 e)
          · cases h
      | kd fs => cases h
    | non => exact atom_rep (d := .non) (F := w.F) (θ := w.θ) .non h
    | bl b => exact atom_rep (d := .bl b) (F := w.F) (θ := w.θ) (.bl b) h
    | int b => exact atom_rep (d := .int b) (F := w.F) (θ := w.θ) (.int b) h
    | str b => exact atom_rep (d := .str b) (F := w.F) (θ := w.θ) (.str b) h
    | raw => exact atom_rep (F := w.F) (θ := w.θ) (.raw _) h
end
/-- as pureM, but what is handed out is frozen to any depth -/
def pureX (F : List D → M D) : List D → M D := fun ds μ => if noPtrL ds = true then match F ds [] with
  | .ok d μ' => match thaw μ' 8 d with
    | some d' => .ok d' μ
    | none => .bad
  | .ex e _ => if noPtrL (e.fs.map (·.2)) = true then .ex e μ else .bad
  | .bad => .bad
  else .bad
theorem pureX_ok {K : PySem.W.Frag} {mg : Str → Option Value} {F : List D → M D} {vs : List V} {H : Hp} {Q : VK} {E : XK} (h : spM K mg (pureX F) vs H Q E) : spM K mg F vs H Q E := by
  obtain ⟨ds, w, wf, r, P⟩ := h
  unfold pureX at P
  by_cases hn : noPtrL ds = true
  · rw [if_pos hn] at P
    have back : ∀ {H' : Hp} {w' : Wd} (F2 : Hp), Ext H ⟨w.F, [], []⟩ H' w' → Same w'.F F2 → Same F2 H' → (∀ a, H a ≠ none → F2 a = w'.F a) → Ext H w H' ⟨F2, w.θ, w.μ⟩ ∧ Wf K H' ⟨F2, w.θ, w.μ⟩ := fun {H' w'} F2 x s1 s2 s3 => by
      have x1 : Same w.F w'.F := x.frz
      have x3 : ∀ a, H a ≠ none → w'.F a = w.F a := x.old
      have x4 : ∀ a o, H a = some o → H' a = some o := fun a o h => x.keep a o h (by simp)
      refine ⟨⟨x1.trans s1, List.prefix_refl _, fun a h => (s3 a h).trans (x3 a h), fun a o h _ => x4 a o h, x.live, fun a h h' => absurd h h', fun n a v ks vs h1 h2 => ⟨v, ks, vs, h2, Nat.le_refl _, fun _ => by
        cases e : H a with
        | none => exact absurd e (wf.live (List.mem_of_getElem? h1))
        | some u => exact x4 a u e⟩⟩, s2, wf.len, wf.nd, fun i a h => ?_, fun i a o h h' => ?_⟩
      · show F2 a = none
        rw [s3 a (wf.live (List.mem_of_getElem? h)), x3 a (wf.live (List.mem_of_getElem? h))]
        exact wf.out i a h
      · have q := wf.live (List.mem_of_getElem? h)
        refine (wf.ob i a o h h').mono (w' := ⟨F2, w.θ, w.μ⟩) (x1.trans s1) (List.prefix_refl _) ?_
        cases e : H a with
        | none => exact absurd e q
        | some u => exact x4 a u e
    refine ⟨ds, ⟨w.F, [], []⟩, ⟨wf.same, rfl, List.nodup_nil, fun i a h => by simp at h, fun i a o h => by simp at h⟩, r.any ds hn, ?_⟩
    cases e : F ds [] with
    | bad => rw [e] at P; exact P.elim
    | ex ex μ' =>
      rw [e] at P
      simp only at P
      split at P
      · rename_i hf
        intro H' w' e1 x wf' c dd hx
        obtain ⟨x2, wf2⟩ := back w'.F x (Same.refl _) wf'.same (fun _ _ => rfl)
        refine P H' ⟨w'.F, w.θ, w.μ⟩ rfl x2 wf2 c dd ⟨hx.1, ?_⟩
        have h2 := hx.2
        revert h2 hf
        cases ex.fs with
        | nil => exact fun _ h => h
        | cons q qs => exact fun hf ⟨d, gs, h1, h3, h4, h5⟩ => ⟨d, gs, h1, h3, h4, h5.any _ hf⟩
      · exact P.elim
    | ok d μ' =>
      rw [e] at P
      simp only at P
      cases e2 : thaw μ' 8 d with
      | none => rw [e2] at P; exact P.elim
      | some d' =>
        rw [e2] at P
        intro H' w' e1 x wf' v rv
        have hnew : ∀ a, H a ≠ none → a ∉ w'.θ := fun a ha hm => ha (x.new a hm (by simp))
        obtain ⟨x2, wf2⟩ := back (allF H' w') x (same_allF wf') (allF_same wf') (fun a ha => allF_out (hnew a ha))
        rw [← e1] at e2
        have rr : Rep K (allF H' w') [] v d' := thaw_rep wf' 8 v d d' rv e2
        exact P H' ⟨allF H' w', w.θ, w.μ⟩ rfl x2 wf2 v (rr.mono (Same.refl _) (List.nil_prefix))
  · rw [if_neg hn] at P; exact P.elim
end DL
namespace DL
open PySem PySem.Spec PyProof.Rows L2
variable [WC]
section
variable {X : Cx} {W : WX} {a b e tg : Expr} {es : List Expr} {f h : Env → M D} {pos : Pos}
/-! ### raise X('..') -/
theorem sd_raise {x m : Str} {j : Nat} {p p2 pos2 : Pos} {C : Addr} {B : String} {newId initId : String} {bmB : List Value} (F : ExcBaseFacts B newId initId bmB) (hc : X.calm = true) (q : PySem.W.excIn X.K C bmB newId = true) (gC : X.mg x = some (.ref C)) (kC : PySem.W.keepIn X.K (.ref C) = true)
    (r : Raises X (.ref C)) (hg : Gl X x) (tk : Takes X W) (hdb : (x == ("__debug__" : Str)) = false := by decide) : SD X W (.Raise (some (.Call (.Name x p) [.Constant (.str m) j p2] [] pos)) none pos2) (sRaise (xOwn x)) :=
  PS_imp (ps_raise hc tk (pmk_own F q gC kC r hg hdb)) fun De σ H ⟨ρ, w, S, P⟩ => P H w rfl (Ext.refl _ _) S.wf σ _ _ ⟨gC, rfl⟩
/-! ### list(range(..)), tuple(range(..)) -/
theorem rgV_rep {K : PySem.W.Frag} {F : Hp} {θ : List Addr} (i j : Int) : RepL K F θ (rgV i j) (rngD i (j - i).toNat) := by
  unfold rgV rngD
  generalize (j - i).toNat = n
  have main : ∀ l : List Nat, RepL K F θ (l.map fun k => V.int (i + (k : Nat))) (l.map fun k => D.int (i + (k : Nat))) := by
    intro l
    induction l with
    | nil => exact .nil
    | cons k l ih => exact .cons (.int _) ih
  exact main _
def kLR (mu : Bool) (i j : Int) : M D := if (okR i && okR j && Nat.ble (j - i).toNat 16777216) = true then retL mu (rngD i (j - i).toNat) else Mbad
theorem okL_ok {i j : Int} (h : (okR i && okR j && Nat.ble (j - i).toNat 16777216) = true) : RgOk i j := by
  simp only [Bool.and_eq_true, Nat.ble_eq] at h
  exact ⟨(okR_ok h.1.1).1, (okR_ok h.1.1).2, (okR_ok h.1.2).1, (okR_ok h.1.2).2, h.2⟩
def eLR1 (mu : Bool) (f : Env → M D) : Env → M D := fun ρ => Mbind (f ρ) fun x => Mbind (asI x) fun j => kLR mu 0 j
def eLR2 (mu : Bool) (f h : Env → M D) : Env → M D := fun ρ => Mbind (f ρ) fun x => Mbind (h ρ) fun y => Mbind (asI x) fun i => Mbind (asI y) fun j => kLR mu i j
theorem kLR_ok {K : PySem.W.Frag} {H : Hp} {w : Wd} {mu : Bool} {i j : Int} {Q : VK} {E : Ex → Hp → Wd → Prop} (P : Post K H w (kLR mu i j w.μ) (QV K Q) E) (wf : Wf K H w) : RgOk i j ∧ ∀ q, H q = none → Q (.ref q) (upd H q (.lst (rgV i j))) := by
  unfold kLR at P
  split at P
  · rename_i hz
    refine ⟨okL_ok hz, fun q hq => ?_⟩
    simp only [retL] at P
    cases mu with
    | true => exact post_mut P wf hq (rgV_rep i j)
    | false => exact post_lst P wf hq (rgV_rep i j)
  · exact P.elim
theorem ed_listR1 {p p2 pos2 : Pos} (mu : Bool) (hc : X.calm = true) (hg : Gl X "list") (hm : X.mg "list" = none) (hg2 : Gl X "range") (hm2 : X.mg "range" = none) (ha : ED X W a f) (na : starEach [a] X.env = (false, eval a X.env) :: starEach [] X.env := by rfl)
    (na2 : starEach [.Call (.Name "range" p) [a] [] pos] X.env = (false, eval (.Call (.Name "range" p) [a] [] pos) X.env) :: starEach [] X.env := by rfl) : ED X W (.Call (.Name "list" p2) [.Call (.Name "range" p) [a] [] pos] [] pos2) (eLR1 mu f) :=
  PE_imp (pe_listRg hc hg hm (prg_1 hg2 hm2 ha na) na2) fun σ H Q ⟨ρ, w, S, P⟩ => tE_bind S P fun d v H1 w1 _ S1 r1 P1 => by
    cases d with
    | int j => cases r1; exact ⟨j, rfl, kLR_ok (i := 0) P1 S1.wf⟩
    | _ => exact P1.elim
theorem ed_listR2 {p p2 pos2 : Pos} (mu : Bool) (hc : X.calm = true) (hg : Gl X "list") (hm : X.mg "list" = none) (hg2 : Gl X "range") (hm2 : X.mg "range" = none) (ha : ED X W a f) (hb : ED X W b h) (na : starEach [a, b] X.env = (false, eval a X.env) :: starEach [b] X.env := by rfl)
    (nb : starEach [b] X.env = (false, eval b X.env) :: starEach [] X.env := by rfl) (hp : (backTo pos (starEach [b] X.env)).any (·.1) = false := by rfl)
    (na2 : starEach [.Call (.Name "range" p) [a, b] [] pos] X.env = (false, eval (.Call (.Name "range" p) [a, b] [] pos) X.env) :: starEach [] X.env := by rfl) : ED X W (.Call (.Name "list" p2) [.Call (.Name "range" p) [a, b] [] pos] [] pos2) (eLR2 mu f h) :=
  PE_imp (pe_listRg hc hg hm (prg_2 hg2 hm2 ha hb na nb hp) na2) fun σ H Q ⟨ρ, w, S, P⟩ => tE_bind S P fun d v H1 w1 _ S1 r1 P1 => tE_bind S1 P1 fun d2 v2 H2 w2 x2 S2 r2 P2 => by
    have r1' := x2.rep r1
    cases d with
    | int i =>
      cases d2 with
      | int j => cases r1'; cases r2; exact ⟨i, j, rfl, rfl, kLR_ok P2 S2.wf⟩
      | _ => exact P2.elim
    | _ => exact P2.elim
def kTR (i j : Int) : M D := if (okR i && okR j && Nat.ble (j - i).toNat 16777216) = true then Mret (.tup (rngD i (j - i).toNat)) else Mbad
def eTR1 (f : Env → M D) : Env → M D := fun ρ => Mbind (f ρ) fun x => Mbind (asI x) fun j => kTR 0 j
theorem ed_tupR1 {p p2 pos2 : Pos} (hc : X.calm = true) (hg : Gl X "tuple") (hm : X.mg "tuple" = none) (hg2 : Gl X "range") (hm2 : X.mg "range" = none) (ha : ED X W a f) (na : starEach [a] X.env = (false, eval a X.env) :: starEach [] X.env := by rfl)
    (na2 : starEach [.Call (.Name "range" p) [a] [] pos] X.env = (false, eval (.Call (.Name "range" p) [a] [] pos) X.env) :: starEach [] X.env := by rfl) : ED X W (.Call (.Name "tuple" p2) [.Call (.Name "range" p) [a] [] pos] [] pos2) (eTR1 f) :=
  PE_imp (pe_tupRg hc hg hm (prg_1 hg2 hm2 ha na) na2) fun σ H Q ⟨ρ, w, S, P⟩ => tE_bind S P fun d v H1 w1 _ S1 r1 P1 => by
    cases d with
    | int j =>
      cases r1
      have P2 : Post X.K H1 w1 (kTR 0 j w1.μ) (QV X.K Q) (EW X.K X.mg W σ) := P1
      unfold kTR at P2
      split at P2
      · rename_i hz
        exact ⟨j, rfl, okL_ok hz, fun q hq => post_tup P2 S1.wf hq (rgV_rep 0 j)⟩
      · exact P2.elim
    | _ => exact P1.elim
/-! ### sorted, of alike data -/
def encD (d : D) : PyData := (toPy d).getD .none
def leD (a b : D) : Bool := PySem.W.dataLe false encD a b
def alikeB (xs : List D) : Bool := xs.all fun x => (toPy x).isSome && SeqAt.shaped (encD x) && Nat.ble (encD x).depth 50 && xs.all fun y => PySem.W.alike (encD x) (encD y)
def tupB1 : PyData → Bool
  | .tuple (_ :: _) => true
  | _ => false
def atomB1 : PyData → Bool
  | .none => false
  | .tuple _ => false
  | _ => true
def sortB (xs : List D) : Bool := alikeB xs && ((xs.all fun x => tupB1 (encD x)) || xs.all fun x => atomB1 (encD x))
def gSorted : List D → M D := fun ds μ => match ds with
  | [x] => match asLst μ x with
    | some xs => if sortB xs = true then .ok (.lst (xs.mergeSort leD)) μ else .bad
    | none => .bad
  | _ => .bad
def rSortD (K : PySem.W.Frag) : List V → Hp → VK → Prop := fun vs H Q => ∃ (a : Addr) (ps : List (V × D)), vs = [.ref a] ∧ SqL K H a (ps.map (·.1)) ∧ (∀ p ∈ ps, Dp K H p.1 (encD p.2)) ∧ sortB (ps.map (·.2)) = true ∧
  ∀ q, H q = none → Q (.ref q) (upd H q (.lst ((ps.mergeSort fun a b => leD a.2 b.2).map (·.1))))
theorem each_vals : ∀ {ps : List (V × D)} {us : List Value}, Vals (ps.map (·.1)) us → PySem.W.EachIs (fun u p => RelV p.1 u) us ps
  | [], us, r => by cases r; exact .nil
  | p :: ps, us, r => by
    cases r with
    | cons r1 r2 => exact .cons r1 (each_vals r2)
theorem vals_each : ∀ {ps : List (V × D)} {us : List Value}, PySem.W.EachIs (fun u (p : V × D) => RelV p.1 u) us ps → Vals (ps.map (·.1)) us
  | [], us, r => by cases r; exact .nil
  | p :: ps, us, r => by
    cases r with
    | cons r1 r2 => exact .cons r1 (vals_each r2)
theorem each_reads {pins : List (Addr × Obj)} {σ : L2.St} {H : Hp} {s : Shared} (I : Inv X pins σ H s) : ∀ {ps : List (V × D)} {us : List Value}, Vals (ps.map (·.1)) us → (∀ p ∈ ps, Dp X.K H p.1 (encD p.2)) → PySem.W.EachIs (fun u p => ∃ as, Reads s.heap u (encD p.2) as) us ps
  | [], us, r, _ => by cases r; exact .nil
  | p :: ps, us, r, hd => by
    cases r with
    | cons r1 r2 => exact .cons (Dp.reads I _ _ _ (hd p List.mem_cons_self) r1) (each_reads I r2 fun q hq => hd q (List.mem_cons_of_mem _ hq))
theorem sortB_ok {xs : List D} (h : sortB xs = true) : PySem.W.AllAlike (xs.map encD) ∧ PySem.W.Sortable (xs.map encD) ∧ ∀ d ∈ xs, (encD d).depth ≤ 50 := by
  unfold sortB alikeB at h
  simp only [Bool.and_eq_true, Bool.or_eq_true, List.all_eq_true, Nat.ble_eq] at h
  refine ⟨fun d hd d' hd' => ?_, ?_, fun d hd => (h.1 d hd).1.2⟩
  · obtain ⟨x, hx, rfl⟩ := List.mem_map.mp hd
    obtain ⟨y, hy, rfl⟩ := List.mem_map.mp hd'
    exact (h.1 x hx).2 y hy
  · rcases h.2 with h2 | h2
    · refine .inl fun d hd => ?_
      obtain ⟨x, hx, rfl⟩ := List.mem_map.mp hd
      have := h2 x hx
      revert this
      cases encD x with
      | tuple ys => cases ys with
        | nil => exact fun q => nomatch q
        | cons y ys => exact fun _ => ⟨y, ys, rfl⟩
      | _ => exact fun q => nomatch q
    · refine .inr fun d hd => ?_
      obtain ⟨x, hx, rfl⟩ := List.mem_map.mp hd
      have := h2 x hx
      revert this
      cases encD x with
      | tuple ys => exact fun q => nomatch q
      | none => exact fun q => nomatch q
      | _ => exact fun _ => ⟨fun q => (nomatch q), fun _ q => (nomatch q)⟩
theorem call_sortD (hu : X.A.units + 64 < cLine) : CallR X (.builtin "sorted") (rSortD X.K) := by
  intro pins s σ H vs us Q I r h
  obtain ⟨a, ps, rfl, hs, hd, hb, q⟩ := h
  obtain ⟨its, rv, pl, hz⟩ := I.list hs
  rw [Vals.ref1 r]
  obtain ⟨h1, h2, h3⟩ := sortB_ok hb
  have em : (ps.map (·.2)).map encD = ps.map fun p => encD p.2 := by rw [List.map_map]; rfl
  rw [em] at h1 h2
  refine PySem.W.sorted_data (R := fun u (p : V × D) => RelV p.1 u) (enc := fun p : V × D => encD p.2) pl.isList (each_vals rv) (each_reads I rv hd) h1 h2 (by simpa using hz) (fun p hp => ?_) fun out ho he => ?_
  · have := h3 p.2 (List.mem_map.mpr ⟨p, hp, rfl⟩)
    omega
  · obtain ⟨ep, he'⟩ := PyProof.Rows.sortedAll_at s.heap its out.toArray
    have rv2 := vals_each he
    have e1 : (ps.mergeSort (PySem.W.dataLe false fun p : V × D => encD p.2)) = ps.mergeSort fun a b => leD a.2 b.2 := rfl
    rw [e1] at rv2
    refine ⟨.ref _, upd H (s.heap.objs.size + 1) (.lst ((ps.mergeSort fun a b => leD a.2 b.2).map (·.1))), I.laid (t' := s.toks) (fun _ _ => PyProof.Rows.sortedAll_old) (Nat.le_succ _) ⟨?_, out, ep, rv2, he'⟩, rfl, q _ (I.hok.fresh (Nat.le_succ _))⟩
    rw [List.length_map, List.length_mergeSort]
    simpa using hz
theorem repL_zip {K : PySem.W.Frag} {F : Hp} {θ : List Addr} : ∀ {vs : List V} {xs : List D}, RepL K F θ vs xs → ∃ ps : List (V × D), ps.map (·.1) = vs ∧ ps.map (·.2) = xs ∧ ∀ p ∈ ps, Rep K F θ p.1 p.2
  | _, [], r => by cases r; exact ⟨[], rfl, rfl, fun _ h => nomatch h⟩
  | _, x :: xs, r => by
    cases r with
    | @cons v vs _ _ r1 r2 =>
      obtain ⟨ps, h1, h2, h3⟩ := repL_zip r2
      refine ⟨(v, x) :: ps, by simp [h1], by simp [h2], fun p hp => ?_⟩
      rcases List.mem_cons.mp hp with e | hp
      · rw [e]; exact r1
      · exact h3 p hp
theorem repL_of {K : PySem.W.Frag} {F : Hp} {θ : List Addr} : ∀ {ps : List (V × D)}, (∀ p ∈ ps, Rep K F θ p.1 p.2) → RepL K F θ (ps.map (·.1)) (ps.map (·.2))
  | [], _ => .nil
  | p :: ps, h => .cons (h p List.mem_cons_self) (repL_of fun q hq => h q (List.mem_cons_of_mem _ hq))
theorem sort_snd (ps : List (V × D)) : (ps.mergeSort fun a b => leD a.2 b.2).map (·.2) = (ps.map (·.2)).mergeSort leD :=
  (List.map_mergeSort (r := fun a b : V × D => leD a.2 b.2) (s := leD) (f := fun p : V × D => p.2) (fun _ _ _ _ => rfl))
theorem v_sorted (K : PySem.W.Frag) : VCall K (rSortD K) gSorted := by
  intro H w xs ds Q E wf r P
  cases r with
  | nil => exact P.elim
  | cons r1 r2 =>
    cases r2 with
    | cons _ _ => exact P.elim
    | nil =>
      rename_i d
      simp only [gSorted] at P
      cases e1 : asLst w.μ d with
      | none => rw [e1] at P; exact P.elim
      | some ys =>
        rw [e1] at P
        simp only at P
        split at P
        · rename_i hb
          obtain ⟨a, us, rfl, hs, rr⟩ := asLst_ok wf r1 e1
          obtain ⟨ps, h1, h2, h3⟩ := repL_zip rr
          subst h1 h2
          refine ⟨a, ps, rfl, SqL.of hs, fun p hp => ?_, hb, fun q hq => ?_⟩
          · have : (toPy p.2).isSome = true := by
              unfold sortB alikeB at hb
              simp only [Bool.and_eq_true, List.all_eq_true] at hb
              exact (hb.1 p.2 (List.mem_map.mpr ⟨p, hp, rfl⟩)).1.1.1
            obtain ⟨z, hz⟩ := Option.isSome_iff_exists.mp this
            have : encD p.2 = z := by unfold encD; rw [hz]; rfl
            rw [this]
            exact rep_dp wf.same _ (h3 p hp) hz
          · refine post_lst (zs := (ps.map (·.2)).mergeSort leD) P wf hq ?_
            rw [← sort_snd]
            exact repL_of fun p hp => h3 p (by simpa using hp)
        · exact P.elim
end
end DL
/-! ### enumerate(t), t a tuple: how it begins -/
namespace PySem
open Sem (wp)
open AutoSeq1 (wpAny_loadPart')
theorem dl_enum_newT (l : Addr) (items : Array Value) (n : Nat) (dct : Option Addr) (sl : Array (Option Value)) :
    Meets (Builtin.«enumerate.__new__» ⟨[.type "enumerate", .ref l], []⟩) (fun _ R s => s.heap.get? l = some { cls := .type "tuple", dict := dct, data := .seq items n, slots := sl } ∧
      R (.ok (.ret (.ref (s.heap.push { cls := .type "tuple_iterator", data := .fields #[.ref l, .int 0 0] }).objs.size)))
        { s with heap := (s.heap.push { cls := .type "tuple_iterator", data := .fields #[.ref l, .int 0 0] }).push { cls := .type "enumerate", data := .fields #[.none, .bool false, .ref s.heap.objs.size, rawInt 0, .none, .none] } }) := by
  apply Meets.of_wp
  rintro prog w A R ⟨hp, g, d, tk, os⟩ ⟨hl, h⟩
  have hsub := sub_enumerate
  have hT : Heap.IsTuple (Shared.heap ⟨hp, g, d, tk, os⟩) l items := ⟨_, hl, rfl, n, rfl⟩
  wp_walk using wpAny_loadPart' hl
  refine wpAny_stack_any fun st => wpAny_pure ?_
  split
  · rename_i c _ _ _ _ _
    cases (c == Value.type "enumerate") <;> (wp_walk using wpAny_loadPart' hl, wpAny_pyIter_tuple hT; exact ⟨_, rfl, h⟩)
  · wp_walk using wpAny_loadPart' hl, wpAny_pyIter_tuple hT
    exact ⟨_, rfl, h⟩
section
variable {prog : Program} {w : World} {A : Around} {E : Value → Shared → Prop} {s : Shared}
theorem dl_call_enumT {l : Addr} {items : Array Value} {Q : Value → Shared → Prop} (hL : s.heap.IsTuple l items)
    (h : ∀ h', IsEnum h' (s.heap.objs.size + 1) s.heap.objs.size 0 .none → h'.IsTupleIter s.heap.objs.size l 0 → (∀ b o, s.heap.get? b = some o → h'.get? b = some o) → Q (.ref (s.heap.objs.size + 1)) { s with heap := h' }) :
    wpAny (model prog w) A (call (.type "enumerate") [.ref l]) Q E s := by
  obtain ⟨⟨c, dct, dt, sl⟩, hl, rfl, n, rfl⟩ := hL
  refine callType_new F.called_enumerate (by decide) (F.typeCall_enumerate_1 _) (F.newCall_enumerate_1 _) (fun obj => F.args_object_init_2 obj _) F.entry_enumerate_new (dl_enum_newT l items n dct sl) ⟨hl, ?_⟩
  have hz : (s.heap.push { cls := .type "tuple_iterator", data := .fields #[.ref l, .int 0 0] }).objs.size = s.heap.objs.size + 1 := Heap.size_push ..
  show _ ∧ _
  rw [hz]
  have he : IsEnum ((s.heap.push { cls := .type "tuple_iterator", data := .fields #[.ref l, .int 0 0] }).push { cls := .type "enumerate", data := .fields #[.none, .bool false, .ref s.heap.objs.size, rawInt 0, .none, .none] }) (s.heap.objs.size + 1) s.heap.objs.size 0 .none := by
    have q := Heap.get?_push_size (s.heap.push { cls := .type "tuple_iterator", data := .fields #[.ref l, .int 0 0] }) (o := { cls := .type "enumerate", data := .fields #[.none, .bool false, .ref s.heap.objs.size, rawInt 0, .none, .none] }) rfl
    rw [hz] at q
    exact q
  exact ⟨⟨_, he, rfl⟩, h _ he ⟨_, Heap.get?_push_of_some _ (Heap.get?_push_size _ rfl), rfl, rfl⟩ fun b o x => Heap.get?_push_of_some _ (Heap.get?_push_of_some _ x)⟩
end
end PySem
namespace DL
open PySem PySem.Spec PyProof.Rows L2
variable [WC]
def ItEt (K : PySem.W.Frag) (a : Addr) : It :=
  ⟨fun i H => ∃ (xs : List V) (x : V), SqT K H a xs ∧ xs[i]? = some x, fun i H v H' => ∃ T x, v = .ref T ∧ H T = none ∧ H' = upd H T (.tup [.int (i : Nat), x]) ∧ ∀ xs, SqT K H a xs → xs[i]? = some x, fun i H => ∃ xs : List V, SqT K H a xs ∧ xs.length ≤ i⟩
theorem turn_enumT {P : Program} {w : World} {K : PySem.W.Frag} {elts : List Expr} {kk : Nat} {tpos : Pos} (a e it : Addr) (hae : a ≠ e) (hai : a ≠ it) :
    Turn P w K (.Tuple elts kk tpos) (ItEt K a) [e, it] e (fun i h => (∃ old, IsEnum h e it ((i : Nat) : Int) old) ∧ h.IsTupleIter it a i ∧ e ≠ it) where
  mem := by simp
  obj := fun i h st b hb => by
    obtain ⟨⟨old, he⟩, ⟨o, ho, hc, hd⟩, _⟩ := st
    rcases List.mem_cons.mp hb with z | z
    · rw [z]; exact ⟨_, he, fun v q => nomatch q⟩
    · rw [List.mem_singleton.mp z]; exact ⟨o, ho, fun v q => by rw [hd] at q; cases q⟩
  keep := fun i h h' ⟨⟨old, he⟩, hi, hne⟩ k => ⟨⟨old, k e (by simp) _ he⟩, hi.at fun o q => k it (by simp) o q, hne⟩
  item := by
    intro X hP hw hK hc i pins s σ H E I hf st hg
    subst hP hw hK
    obtain ⟨⟨old, he⟩, hit, hne⟩ := st
    obtain ⟨xs, x, hq, hx⟩ := hg
    obtain ⟨its, rv, p, hz⟩ := I.tuple hq
    obtain ⟨u, hu, ru⟩ := rv.get hx
    have hil : i < its.toArray.size := by
      have := (List.getElem?_eq_some_iff.mp hu).1
      simpa using this
    have hel : e < s.heap.objs.size := Heap.lt_size he
    have hitl : it < s.heap.objs.size := by obtain ⟨_, q, _⟩ := hit; exact Heap.lt_size q
    have D := Draws.tuple (prog := X.prog) (w := X.w) (A := X.A.in1) (show X.A.in1.handled = none from I.ok.hd hc) it a hai its.toArray
    refine wpAny_pyNext_enum_itemD D he (i := i) ⟨hit, show s.heap.IsTuple a its.toArray from p⟩ hil hne (by simp [Ne.symm hae, hne]) fun y h' tk hy ho hst hT hsz hk => ?_
    have ey : y = u := by
      have : its.toArray[i]? = some u := by simpa using hu
      rw [this] at hy
      exact (Option.some.inj hy).symm
    subst ey
    refine ⟨_, rfl, wpAny_letOwnedTupleGo_enum (s := { s with heap := h', toks := tk + 1 }) ho fun h'' he' sb => ?_⟩
    have hT2 : h''.get? s.heap.objs.size = some { cls := .type "tuple", data := .seq #[.int i tk, y] } := (sb.2 _ (Nat.ne_of_gt hel)).trans hT
    have new : ObjOk X.prog X.w (upd H s.heap.objs.size (.tup [.int (i : Nat), x])) h'' s.heap.objs.size (.tup [.int (i : Nat), x]) :=
      ⟨by show 2 ≤ sizeLine; decide, [.int i tk, y], .cons ⟨_, rfl⟩ (.cons ru .nil), ⟨_, hT2, rfl, _, rfl⟩⟩
    have I1 : Inv X pins σ (upd H s.heap.objs.size (.tup [.int (i : Nat), x])) { s with heap := h'', toks := tk + 1 } :=
      I.turnedNew (ch := [e, it]) (fun b ob hb q => (sb.2 b (fun z => hb (by simp [z]))).trans (hk b ob (fun z => hb (by simp [z])) (fun z => hb (by simp [z])) q)) hf (Nat.le_refl _) new
    refine ⟨.ref s.heap.objs.size, _, I1, rfl, ⟨_, x, rfl, I.hok.fresh (Nat.le_refl _), rfl, fun ys hy => by rw [I.tuple_inj hy hq]; exact hx⟩, ⟨⟨y, by
      have e1 : ((i + 1 : Nat) : Int) = (i : Int) + 1 := by omega
      rw [e1]; exact he'⟩, hst.1.at fun o q => (sb.2 it (Ne.symm hne)).trans q, hne⟩, fun b hb => ?_⟩
    have hb' : b < s.heap.objs.size := by
      rcases List.mem_cons.mp hb with z | z
      · rw [z]; exact hel
      · rw [List.mem_singleton.mp z]; exact hitl
    rw [upd_ne (Nat.ne_of_lt hb')]
    exact (hf b hb).1
  done := by
    intro X hP hw hK hc i pins s σ H E I hf st hg
    subst hP hw hK
    obtain ⟨⟨old, he⟩, hit, hne⟩ := st
    obtain ⟨xs, hq, hx⟩ := hg
    obtain ⟨its, rv, p, hz⟩ := I.tuple hq
    obtain ⟨f0, f1, f2, f3, f4, f5⟩ := hf it (by simp)
    have hl := rv.length
    have hT : s.TypeIs (.ref e) "enumerate" := ⟨_, he, rfl⟩
    unfold pyNext
    refine wpAny_bind (wpAny_attempt (wpAny_callSpecial?_slot (name := Str.ofString "__next__") hT F.slot_enumerate_next (wpAny_call_entry F.slot_enumerate_next hT F.entry_enumerate_next ?_ (F.args_enumerate_next_1 _))))
    show wpAny _ _ (field (.ref e) 2 >>= _) _ _ _
    refine wpAny_bind (wpAny_field he rfl (x := .ref it) rfl ?_)
    refine wpAny_bind (wpAny_nextOf_tuple_end (show X.A.in1.handled = none from I.ok.hd hc) hit (show s.heap.IsTuple a its.toArray from p) (by simp; omega) fun h' y he' hx' => ?_)
    obtain ⟨o, ho, hc'⟩ := hx'
    refine wpAny_bind (wpAny_isInstance (T := "StopIteration") (b := true) ⟨o, ho, hc'⟩ isSubtype_stop ?_)
    exact wpAny_pure ⟨rfl, I.turned (t' := s.toks) (fun b o hb q => he' b o hb q) f0 f1 f3 f4 f5⟩
  self := fun A i s Q E ⟨⟨_, he⟩, _⟩ h => wpAny_pyIter_enum he h
section
variable {X : Cx} {W : WX} {a b e tg : Expr} {es elts : List Expr} {f h : Env → M D} {p pos tpos : Pos} {kk : Nat}
def wEnum (K : PySem.W.Frag) (ta : TE) : TI := fun σ H R => ta σ H fun x H1 => ∃ q xs, x = .ref q ∧ ((SqL K H1 q xs ∧ R (Ite K q) H1) ∨ (SqT K H1 q xs ∧ R (ItEt K q) H1))
theorem pi_enumA {ta : TE} (hg : Gl X "enumerate") (hm : X.mg "enumerate" = none) (ha : PE X e ta) (hs : starEach [e] X.env = (false, eval e X.env) :: starEach [] X.env := by rfl) : PI X (.Tuple elts kk tpos) (.Call (.Name "enumerate" p) [e] [] pos) (wEnum X.K ta) := by
  constructor
  intro pins s σ H R I q0
  refine Call_ (ld_blt I hg hm boot_enumerate (PyProof.Rows.callWith_type1 (PyProof.Rows.args_cons (thn (ha.run pins s σ H _ I q0) fun v s1 ⟨x, H1, I1, r1, q, xs, ex, q1⟩ => PyProof.Rows.args_nil ?_) hs) hs rfl))
  subst ex
  cases r1
  have nw : ∀ b ∈ [s1.heap.objs.size + 1, s1.heap.objs.size], FpOk X pins H1 b := fun b hb => by
    have hle : s1.heap.objs.size ≤ b := by
      rcases List.mem_cons.mp hb with z | z
      · rw [z]; exact Nat.le_add_right _ _
      · rw [List.mem_singleton.mp z]; exact Nat.le_refl _
    exact I1.fpOk hle (I1.hok.fresh hle)
  rcases q1 with ⟨hq, q1⟩ | ⟨hq, q1⟩
  · obtain ⟨its, rv, pl, hz⟩ := I1.list hq
    refine call_enumerate_list pl.isList fun h' he hit hsz hk => wpAny_pyIter_enum he ?_
    exact ⟨s1.heap.objs.size + 1, _, _, _, H1, rfl, I1.kept (t' := s1.toks) hk, turn_enum q (s1.heap.objs.size + 1) s1.heap.objs.size, ⟨⟨.none, he⟩, hit, Nat.succ_ne_self _⟩, nw, q1⟩
  · obtain ⟨its, rv, pl, hz⟩ := I1.tuple hq
    have hlt : q < s1.heap.objs.size := pl.lt
    refine dl_call_enumT (show s1.heap.IsTuple q its.toArray from pl) fun h' he hit hk => wpAny_pyIter_enum he ?_
    exact ⟨s1.heap.objs.size + 1, _, _, _, H1, rfl, I1.kept (t' := s1.toks) hk, turn_enumT q (s1.heap.objs.size + 1) s1.heap.objs.size (Nat.ne_of_lt (Nat.lt_succ_of_lt hlt)) (Nat.ne_of_lt hlt), ⟨⟨.none, he⟩, hit, Nat.succ_ne_self _⟩, nw, q1⟩
def enumD (xs : List D) : List D := (List.range xs.length).zipWith (fun i d => .tup [.int (i : Nat), d]) xs
def iEnum1 (f : Env → M D) : IM := fun ρ => Mbind (f ρ) fun d => Mbind (gSeq d) fun p => Mret (enumD p.1, p.2)
theorem enumD_at {xs : List D} {i : Nat} {d : D} (h : (enumD xs)[i]? = some d) : ∃ x, xs[i]? = some x ∧ d = .tup [.int (i : Nat), x] := by
  unfold enumD at h
  rw [List.getElem?_zipWith] at h
  cases e1 : (List.range xs.length)[i]? with
  | none => rw [e1] at h; cases xs[i]? <;> cases h
  | some j =>
    have ej : j = i := by
      have := List.getElem?_eq_some_iff.mp e1
      simpa using this.2.symm
    cases e2 : xs[i]? with
    | none => rw [e1, e2] at h; cases h
    | some x =>
      rw [e1, e2] at h
      cases h
      subst ej
      exact ⟨x, rfl, rfl⟩
theorem enumD_length (xs : List D) : (enumD xs).length = xs.length := by simp [enumD]
/-- a new pair -/
theorem pair_new {K : PySem.W.Frag} {H : Hp} {w : Wd} {T : Addr} {u v : V} {d e : D} (wf : Wf K H w) (hT : H T = none) (r1 : Rep K w.F w.θ u d) (r2 : Rep K w.F w.θ v e) :
    ∃ w', w'.μ = w.μ ∧ Ext H w (upd H T (.tup [u, v])) w' ∧ Wf K (upd H T (.tup [u, v])) w' ∧ Rep K w'.F w'.θ (.ref T) (.tup [d, e]) := by
  have s := same_upd_new (o := HO.tup [u, v]) (wf.frz_new hT)
  exact ⟨w.frz T (.tup [u, v]), rfl, Ext.frz_ wf hT, wf.frz hT, .tup (SqT.of upd_same) (.cons (r1.mono s (List.prefix_refl _)) (.cons (r2.mono s (List.prefix_refl _)) .nil))⟩
theorem walk_enumL {K : PySem.W.Frag} {w : Wd} {q : Addr} {xs : List D} {c : Store → Bool} {H0 : Hp} (h : ∀ (H : Hp) (w' : Wd), Same w.F w'.F → w.θ <+: w'.θ → Wf K H w' → c w'.μ = true → ∃ vs, SqL K H q vs ∧ RepL K w'.F w'.θ vs xs) : Walk K H0 w (Ite K q) (enumD xs) c where
  go := fun i d H w' h1 h2 _ wf hc hd => by
    obtain ⟨x, hx, rfl⟩ := enumD_at hd
    obtain ⟨vs, hs, r⟩ := h H w' h1 h2 wf hc
    obtain ⟨v, hv, rv⟩ := r.at hx
    refine ⟨⟨vs, v, hs, hv⟩, fun y H' ⟨T, z, e1, hT, e2, hz⟩ => ?_⟩
    have ez := hz vs hs
    rw [hv] at ez
    cases ez
    subst e1 e2
    exact pair_new wf hT (.int _) rv
  stop := fun H w' h1 h2 _ wf hc => by
    obtain ⟨vs, hs, r⟩ := h H w' h1 h2 wf hc
    exact ⟨vs, hs, by rw [r.length, enumD_length]; exact Nat.le_refl _⟩
theorem walk_enumT {K : PySem.W.Frag} {w : Wd} {q : Addr} {vs : List V} {xs : List D} {c : Store → Bool} {H0 : Hp} (hs : SqT K w.F q vs) (r : RepL K w.F w.θ vs xs) : Walk K H0 w (ItEt K q) (enumD xs) c where
  go := fun i d H w' h1 h2 _ wf hc hd => by
    obtain ⟨x, hx, rfl⟩ := enumD_at hd
    have hs' := same_sqt wf.same (same_sqt h1 hs)
    obtain ⟨v, hv, rv⟩ := (r.mono h1 h2).at hx
    refine ⟨⟨vs, v, hs', hv⟩, fun y H' ⟨T, z, e1, hT, e2, hz⟩ => ?_⟩
    have ez := hz vs hs'
    rw [hv] at ez
    cases ez
    subst e1 e2
    exact pair_new wf hT (.int _) rv
  stop := fun H w' h1 h2 _ wf hc => ⟨vs, same_sqt wf.same (same_sqt h1 hs), by rw [r.length, enumD_length]; exact Nat.le_refl _⟩
theorem id_enum (hg : Gl X "enumerate") (hm : X.mg "enumerate" = none) (ha : ED X W e f) (hs : starEach [e] X.env = (false, eval e X.env) :: starEach [] X.env := by rfl) : ID X W (.Tuple elts kk tpos) (.Call (.Name "enumerate" p) [e] [] pos) (iEnum1 f) :=
  PI_imp (pi_enumA hg hm ha hs) fun σ H R ⟨ρ, w, S, P⟩ => tE_bind S P fun d v H1 w1 _ S1 r1 P1 => by
    cases d with
    | tup xs =>
      cases r1 with
      | tup h1 h2 => exact ⟨_, _, rfl, .inr ⟨same_sqt S1.wf.same h1, post_ret (show Post X.K H1 w1 (Mret (enumD xs, always) w1.μ) _ _ from P1) S1.wf _ (walk_enumT h1 h2)⟩⟩
    | lst xs =>
      cases r1 with
      | lst h1 h2 => exact ⟨_, _, rfl, .inl ⟨SqL.of (S1.wf.same _ _ h1), post_ret (show Post X.K H1 w1 (Mret (enumD xs, always) w1.μ) _ _ from P1) S1.wf _ (walk_enumL fun H w' h3 h4 wf _ => ⟨_, SqL.of (wf.same _ _ (h3 _ _ h1)), h2.mono h3 h4⟩)⟩⟩
    | arg xs =>
      cases r1 with
      | arg h1 h2 => exact ⟨_, _, rfl, .inl ⟨Same.seq S1.wf.same h1, post_ret (show Post X.K H1 w1 (Mret (enumD xs, always) w1.μ) _ _ from P1) S1.wf _ (walk_enumL fun H w' h3 h4 wf _ => ⟨_, Same.seq wf.same (Same.seq h3 h1), h2.mono h3 h4⟩)⟩⟩
    | ptr n =>
      simp only [gSeq, Mbind] at P1
      cases e1 : w1.μ[n]? with
      | none => rw [e1] at P1; exact P1.elim
      | some o =>
        rw [e1] at P1
        cases o with
        | dct ks vs => exact P1.elim
        | kd fs => exact P1.elim
        | lst xs =>
          obtain ⟨q, vs, rfl, h1, h2, h3⟩ := ptr_ok S1.wf r1 e1
          refine ⟨_, _, rfl, .inl ⟨SqL.of h2, post_ret (show Post X.K H1 w1 (Mret (enumD xs, holds n xs) w1.μ) _ _ from P1) S1.wf _ (walk_enumL fun H w' h4 h5 wf hc => ?_)⟩⟩
          have e2 : w'.μ[n]? = some (.lst xs) := of_decide_eq_true hc
          have e3 : w'.θ[n]? = some q := by
            obtain ⟨r, hr⟩ := h5
            rw [← hr, List.getElem?_append_left (List.getElem?_eq_some_iff.mp h1).1]
            exact h1
          obtain ⟨vs', h6, h7⟩ := wf.ob n q _ e3 e2
          exact ⟨vs', SqL.of h6, h7⟩
    | _ => exact P1.elim
/-! ### zip of two lists, of two tuples (frozen ones) -/
def zipD (xs ys : List D) : List D := xs.zipWith (fun x y => .tup [x, y]) ys
def kZip : D → D → M (List D × (Store → Bool)) := fun x y => match x, y with
  | .tup xs, .tup ys => Mret (zipD xs ys, always)
  | .lst xs, .lst ys => Mret (zipD xs ys, always)
  | _, _ => Mbad
def iZip (f h : Env → M D) : IM := fun ρ => Mbind (f ρ) fun x => Mbind (h ρ) fun y => kZip x y
theorem zipD_at {xs ys : List D} {i : Nat} {d : D} (h : (zipD xs ys)[i]? = some d) : ∃ x y, xs[i]? = some x ∧ ys[i]? = some y ∧ d = .tup [x, y] := by
  unfold zipD at h
  rw [List.getElem?_zipWith] at h
  cases e1 : xs[i]? with
  | none => rw [e1] at h; cases ys[i]? <;> cases h
  | some x =>
    cases e2 : ys[i]? with
    | none => rw [e1, e2] at h; cases h
    | some y => rw [e1, e2] at h; cases h; exact ⟨x, y, rfl, rfl, rfl⟩
theorem id_zip (hg : Gl X "zip") (hm : X.mg "zip" = none) (ha : ED X W a f) (hb : ED X W b h) (hs : starEach [a, b] X.env = (false, eval a X.env) :: starEach [b] X.env := by rfl) (hs2 : starEach [b] X.env = (false, eval b X.env) :: starEach [] X.env := by rfl)
    (hpl : (backTo pos (starEach [b] X.env)).any (·.1) = false := by rfl) : ID X W (.Tuple elts kk tpos) (.Call (.Name "zip" p) [a, b] [] pos) (iZip f h) :=
  PI_imp (RZ.pi_zipA hg hm (ad_cons ha (ad_cons hb ad_nil hs2) hs) hs hpl) fun σ H R ⟨ρ, w, S, P⟩ => by
    have e : iZip f h ρ = Mbind (aCons f (aCons h aNil) ρ) fun ds => match ds with
      | [d, d2] => kZip d d2
      | _ => Mbad := by simp only [iZip, aCons, aNil, mbind_assoc, mbind_ret]
    rw [e] at P
    refine tA_bind S P fun ds vs H1 w1 x1 S1 r1 P1 => ?_
    cases r1 with
    | nil => exact P1.elim
    | cons r1 r2 =>
      cases r2 with
      | nil => exact P1.elim
      | cons r2 r3 =>
        cases r3 with
        | cons _ _ => exact P1.elim
        | nil =>
          cases r1 with
          | @tup a1 us xs h1 h2 =>
            cases r2 with
            | @tup a2 us2 ys h3 h4 =>
              refine ⟨_, _, _, _, rfl, .inr ⟨same_sqt S1.wf.same h1, same_sqt S1.wf.same h3, post_ret (show Post X.K H1 w1 (Mret (zipD xs ys, always) w1.μ) _ _ from P1) S1.wf _ ⟨fun i d Hc w' g1 g2 _ wf hc hd => ?_, fun Hc w' g1 g2 _ wf hc => ?_⟩⟩⟩
              · obtain ⟨x, y, hx, hy, rfl⟩ := zipD_at hd
                obtain ⟨v, hv, rv⟩ := (h2.mono g1 g2).at hx
                obtain ⟨v2, hv2, rv2⟩ := (h4.mono g1 g2).at hy
                have s1 := same_sqt wf.same (same_sqt g1 h1)
                have s2 := same_sqt wf.same (same_sqt g1 h3)
                refine ⟨⟨us, us2, v, v2, s1, s2, hv, hv2⟩, fun z H' ⟨T, z1, z2, q1, hT, q2, q3, q4⟩ => ?_⟩
                have m1 := q3 us s1
                have m2 := q4 us2 s2
                rw [hv] at m1
                rw [hv2] at m2
                cases m1; cases m2
                subst q1 q2
                exact pair_new wf hT rv rv2
              · refine ⟨us, us2, same_sqt wf.same (same_sqt g1 h1), same_sqt wf.same (same_sqt g1 h3), ?_⟩
                rw [h2.length, h4.length]
                simp only [zipD, List.length_zipWith]
                omega
            | _ => exact P1.elim
          | @lst a1 us xs h1 h2 =>
            cases r2 with
            | @lst a2 us2 ys h3 h4 =>
              refine ⟨_, _, _, _, rfl, .inl ⟨SqL.of (S1.wf.same _ _ h1), SqL.of (S1.wf.same _ _ h3), post_ret (show Post X.K H1 w1 (Mret (zipD xs ys, always) w1.μ) _ _ from P1) S1.wf _ ⟨fun i d Hc w' g1 g2 _ wf hc hd => ?_, fun Hc w' g1 g2 _ wf hc => ?_⟩⟩⟩
              · obtain ⟨x, y, hx, hy, rfl⟩ := zipD_at hd
                obtain ⟨v, hv, rv⟩ := (h2.mono g1 g2).at hx
                obtain ⟨v2, hv2, rv2⟩ := (h4.mono g1 g2).at hy
                have s1 : SqL X.K Hc a1 us := SqL.of (wf.same _ _ (g1 _ _ h1))
                have s2 : SqL X.K Hc a2 us2 := SqL.of (wf.same _ _ (g1 _ _ h3))
                refine ⟨⟨us, us2, v, v2, s1, s2, hv, hv2⟩, fun z H' ⟨T, z1, z2, q1, hT, q2, q3, q4⟩ => ?_⟩
                have m1 := q3 us s1
                have m2 := q4 us2 s2
                rw [hv] at m1
                rw [hv2] at m2
                cases m1; cases m2
                subst q1 q2
                exact pair_new wf hT rv rv2
              · refine ⟨us, us2, SqL.of (wf.same _ _ (g1 _ _ h1)), SqL.of (wf.same _ _ (g1 _ _ h3)), ?_⟩
                rw [h2.length, h4.length]
                simp only [zipD, List.length_zipWith]
                omega
            | _ => exact P1.elim
          | _ => exact P1.elim
end
end DL
namespace DL
open PySem PySem.Spec PyProof.Rows L2
variable [WC]
def dd {α : Type} [DecidableEq α] : List α → List α
  | [] => []
  | x :: xs => if x ∈ xs then dd xs else x :: dd xs
theorem mem_dd {α : Type} [DecidableEq α] {a : α} : ∀ {l : List α}, a ∈ dd l ↔ a ∈ l
  | [] => by simp [dd]
  | x :: xs => by
    unfold dd
    split
    · rename_i h
      rw [mem_dd, List.mem_cons]
      exact ⟨.inr, fun q => q.elim (fun e => by rw [e]; exact h) id⟩
    · rw [List.mem_cons, List.mem_cons, mem_dd]
theorem dd_nodup {α : Type} [DecidableEq α] : ∀ (l : List α), (dd l).Nodup
  | [] => by simp [dd]
  | x :: xs => by
    unfold dd
    split
    · exact dd_nodup xs
    · rename_i h
      exact List.nodup_cons.mpr ⟨fun q => h (mem_dd.mp q), dd_nodup xs⟩
theorem dd_length {α : Type} [DecidableEq α] {l m : List α} (h : m.Nodup) (e : ∀ a, a ∈ m ↔ a ∈ l) : m.length = (dd l).length :=
  ((List.perm_ext_iff_of_nodup h (dd_nodup l)).mpr fun a => (e a).trans mem_dd.symm).length_eq
section
variable {X : Cx} {W : WX} {a : Expr} {f : Env → M D} {p p2 q pos : Pos}
def tLenSetT (K : PySem.W.Frag) (ta : TE) : TE := fun σ H Q => ta σ H fun x H1 => ∃ (l : Addr) (ns : List Int), x = .ref l ∧ SqT K H1 l (ns.map V.int) ∧ ns.length ≤ 4000 ∧ Q (.int ((dd ns).length : Nat)) H1
theorem pe_lenSetT {ta : TE} (hg : Gl X "len") (hm : X.mg "len" = none) (hg2 : Gl X "set") (hm2 : X.mg "set" = none) (ha : PE X a ta) (hc : X.calm = true)
    (na : starEach [a] X.env = (false, eval a X.env) :: starEach [] X.env) (na2 : starEach [.Call (.Name "set" p2) [a] [] q] X.env = (false, eval (.Call (.Name "set" p2) [a] [] q) X.env) :: starEach [] X.env := by rfl) :
    PE X (.Call (.Name "len" p) [.Call (.Name "set" p2) [a] [] q] [] pos) (tLenSetT X.K ta) := by
  constructor
  intro pins s σ H Q I q0
  refine Call_ (ld_blt I hg hm boot_len (PyProof.Rows.callWith_builtin1 (PyProof.Rows.args_cons ?_ na2) na2 rfl))
  refine Call_ (ld_blt I hg2 hm2 PyProof.Rows.boot_set (PyProof.Rows.callWith_type1 (PyProof.Rows.args_cons (thn (ha.run pins s σ H _ I q0) fun v s1 ⟨x, H1, I1, r1, q1⟩ => PyProof.Rows.args_nil ?_) na) na rfl))
  obtain ⟨l, ns, rfl, hq, hl, q1⟩ := q1
  cases r1
  obtain ⟨its, rv, pt, hz⟩ := I1.tuple hq
  have hi : IntsAre its.toArray.toList ns := ints_of_vals rv
  refine call_set_tupI ns (I1.ok.hd hc) (show s1.heap.IsTuple l its.toArray from pt) hi (by unfold scanBound; omega) fun h' tk c R1 hcn k => ?_
  obtain ⟨o, es, ep, t, ho, hex, hdt, g, nd, hm2, hb, hf, hn, hr, hl2⟩ := R1
  refine PyProof.Rows.args_nil ?_
  have I2 : Inv X pins σ H1 { s1 with heap := h', toks := tk } := I1.kept k
  have ec : es.size = (dd ns).length := by
    have e1 := dd_length (l := ns) nd fun z => by rw [← hm2 z]; simp
    rw [List.length_map, Array.length_toList] at e1
    exact e1
  exact call_len_set ho hex hdt hf (by omega) ⟨.int ((dd ns).length : Nat), H1, I2.tok _, ⟨_, by rw [ec]⟩, q1⟩
def kLenSet (d : D) : M D := match (asTup d).bind intsOf with
  | some ns => if ns.length ≤ 4000 then Mret (.int ((dd ns).length : Nat)) else Mbad
  | none => Mbad
def eLenSet (f : Env → M D) : Env → M D := fun ρ => Mbind (f ρ) kLenSet
theorem ed_lenSetT (hg : Gl X "len") (hm : X.mg "len" = none) (hg2 : Gl X "set") (hm2 : X.mg "set" = none) (hc : X.calm = true) (ha : ED X W a f) (na : starEach [a] X.env = (false, eval a X.env) :: starEach [] X.env := by rfl) :
    ED X W (.Call (.Name "len" p) [.Call (.Name "set" p2) [a] [] q] [] pos) (eLenSet f) :=
  PE_imp (pe_lenSetT hg hm hg2 hm2 ha hc na) fun σ H Q ⟨ρ, w, S, P⟩ => tE_bind S P fun d v H1 w1 _ S1 r1 P1 => by
    unfold kLenSet at P1
    cases e1 : (asTup d).bind intsOf with
    | none => rw [e1] at P1; exact P1.elim
    | some ns =>
      rw [e1] at P1
      simp only at P1
      obtain ⟨xs, h1, h2⟩ := Option.bind_eq_some_iff.mp e1
      obtain ⟨l, vs, rfl, hs, rr⟩ := asTup_ok S1.wf r1 h1
      have ev := intsOf_rep rr h2
      subst ev
      split at P1
      · rename_i hz
        exact ⟨l, ns, rfl, hs, hz, post_ret P1 S1.wf _ (.int _)⟩
      · exact P1.elim
end
end DL
namespace DL
open PySem PySem.Spec PyProof.Rows L2
variable [WC]
/-! ### short words -/
theorem bb_len : bootBuiltins "len" = some (.builtin "len") := by decide +kernel
theorem bb_abs : bootBuiltins "abs" = some (.builtin "abs") := by decide +kernel
theorem bb_max : bootBuiltins "max" = some (.builtin "max") := by decide +kernel
theorem bb_min : bootBuiltins "min" = some (.builtin "min") := by decide +kernel
theorem bb_sum : bootBuiltins "sum" = some (.builtin "sum") := by decide +kernel
theorem bb_all : bootBuiltins "all" = some (.builtin "all") := by decide +kernel
theorem bb_any : bootBuiltins "any" = some (.builtin "any") := by decide +kernel
theorem bb_sorted : bootBuiltins "sorted" = some (.builtin "sorted") := by decide +kernel
theorem bb_isinstance : bootBuiltins "isinstance" = some (.builtin "isinstance") := by decide +kernel
theorem bb_int : bootBuiltins "int" = some (.type "int") := by decide +kernel
theorem bb_str : bootBuiltins "str" = some (.type "str") := by decide +kernel
theorem bb_bool : bootBuiltins "bool" = some (.type "bool") := by decide +kernel
theorem bb_list : bootBuiltins "list" = some (.type "list") := by decide +kernel
theorem bb_tuple : bootBuiltins "tuple" = some (.type "tuple") := by decide +kernel
section
variable {X : Cx} {W : WX} {a b c e : Expr} {es : List Expr} {f h k : Env → M D} {t : Env → M (List D)} {pos p : Pos}
theorem xv (i : Nat) {x : Str} (hN : X.N[i]? = some x := by rfl) (hv : Vis X.env.scope x := by first | exact Or.inl rfl | exact Or.inr (Or.inl rfl) | exact Or.inr (Or.inr rfl)) (hd : (x == ("__debug__" : Str)) = false := by decide)
    (hcd : (x == ("__classdict__" : Str)) = false := by decide) : ED X W (.Name x pos) (eVar i) := ed_var hN hv hd hcd
theorem xAdd (mu : Bool) (ha : ED X W a f) (hb : ED X W b h) : ED X W (.BinOp a .Add b pos) (eBin (gAdd mu) f h) := ed_bin op_addD (v_add _ mu) ha hb
theorem xSub (ha : ED X W a f) (hb : ED X W b h) : ED X W (.BinOp a .Sub b pos) (eBin gSub f h) := ed_bin op_subD (v_sub _) ha hb
theorem xMul (ha : ED X W a f) (hb : ED X W b h) : ED X W (.BinOp a .Mult b pos) (eBin gMulI f h) := ed_bin op_mulW (v_mulI _) ha hb
theorem xMod (ha : ED X W a f) (hb : ED X W b h) : ED X W (.BinOp a .Mod b pos) (eBin gMod f h) := ed_bin op_modN (v_mod _) ha hb
theorem xDiv (ha : ED X W a f) (hb : ED X W b h) : ED X W (.BinOp a .FloorDiv b pos) (eBin gDiv f h) := ed_bin op_divD (v_div _) ha hb
theorem xPow (ha : ED X W a f) (hb : ED X W b h) : ED X W (.BinOp a .Pow b pos) (eBin gPow f h) := ed_bin op_pow (v_pow _) ha hb
/-- comparisons: the operator's rule -/
structure CmpW (X : Cx) (op : CmpOp) (g : D → D → M D) : Prop where
  ex : ∃ r, OpR X (compareOp op) r ∧ VOp X.K r g
theorem cEq (hu : X.A.units + 64 < cLine) : CmpW X .Eq (gEq false) := ⟨_, op_eqD hu, v_eq _⟩
theorem cNe (hu : X.A.units + 64 < cLine) : CmpW X .NotEq (gEq true) := ⟨_, op_neD hu, v_ne _⟩
theorem cLt (hu : X.A.units + 64 < cLine) : CmpW X .Lt gLt := ⟨_, op_ltD hu, v_lt _⟩
theorem cLe : CmpW X .LtE gLe := ⟨_, op_le, v_cmpI⟩
theorem cGt : CmpW X .Gt gGt := ⟨_, op_gt, v_cmpI⟩
theorem cGe : CmpW X .GtE gGe := ⟨_, op_ge, v_cmpI⟩
theorem cIn (hu : X.A.units + 65 < cLine) : CmpW X .In (gIn false) := ⟨_, op_inA hu, v_in _⟩
theorem cNi (hu : X.A.units + 65 < cLine) : CmpW X .NotIn (gIn true) := ⟨_, op_notInA hu, v_notIn _⟩
theorem cIs : CmpW X .Is (gIsN false) := ⟨_, op_isN, v_isN _⟩
theorem cIsNot : CmpW X .IsNot (gIsN true) := ⟨_, op_notN, v_notN _⟩
theorem xCmp {op : CmpOp} {g : D → D → M D} (q : CmpW X op g) (ha : ED X W a f) (hb : ED X W b h) (hm : behindInMarks op b = false := by first | exact nomark _ (by decide) (by decide) | rfl) : ED X W (.Compare a [op] [b] pos) (eBin g f h) := by
  obtain ⟨r, h1, h2⟩ := q.ex
  exact ed_cmp h1 h2 ha hb hm
theorem tCmpW {op : CmpOp} {g : D → D → M D} (q : CmpW X op g) (ha : ED X W a f) (hb : ED X W b h) (hm : behindInMarks op b = false := by first | exact nomark _ (by decide) (by decide) | rfl) : TD X W (.Compare a [op] [b] pos) (tOf (eBin g f h)) := by
  obtain ⟨r, h1, h2⟩ := q.ex
  exact td_cmp h1 h2 ha hb hm
theorem xCh {op op' : CmpOp} {g g' : D → D → M D} (q : CmpW X op g) (q' : CmpW X op' g') (ha : ED X W a f) (hb : ED X W b h) (hc : ED X W c k) (hm : lastMarks [op, op'] [b, c] = false := by with_unfolding_all rfl) : ED X W (.Compare a [op, op'] [b, c] pos) (eChain g g' f h k) := by
  obtain ⟨r, h1, h2⟩ := q.ex
  obtain ⟨r', h1', h2'⟩ := q'.ex
  exact ed_chain h1 h1' h2 h2' ha hb hc hm
theorem tCh {op op' : CmpOp} {g g' : D → D → M D} (q : CmpW X op g) (q' : CmpW X op' g') (ha : ED X W a f) (hb : ED X W b h) (hc : ED X W c k) (hm : lastMarks [op, op'] [b, c] = false := by with_unfolding_all rfl) : TD X W (.Compare a [op, op'] [b, c] pos) (tOf (eChain g g' f h k)) := by
  obtain ⟨r, h1, h2⟩ := q.ex
  obtain ⟨r', h1', h2'⟩ := q'.ex
  exact td_chain h1 h1' h2 h2' ha hb hc hm
/-- built-ins of one or more arguments -/
structure BltW (X : Cx) (x : Str) (g : List D → M D) : Prop where
  ex : (∃ id r, CallR X (.builtin id) r ∧ VCall X.K r g ∧ bootBuiltins x = some (.builtin id)) ∨ ∃ T r, CallR X (.type T) r ∧ VCall X.K r g ∧ bootBuiltins x = some (.type T)
theorem wLen : BltW X "len" gLen := ⟨.inl ⟨_, _, call_len, v_len _, bb_len⟩⟩
theorem wList (mu : Bool) : BltW X "list" (gList mu) := ⟨.inr ⟨_, _, call_list_of, v_list _ mu, bb_list⟩⟩
theorem wTuple : BltW X "tuple" gTuple := ⟨.inr ⟨_, _, call_tuple_of, v_tuple _, bb_tuple⟩⟩
theorem wInt : BltW X "int" gInt1 := ⟨.inr ⟨_, _, call_int1, v_int1 _, bb_int⟩⟩
theorem wStr : BltW X "str" gStrI := ⟨.inr ⟨_, _, call_str_int, v_strI _, bb_str⟩⟩
theorem wAbs : BltW X "abs" gAbs := ⟨.inl ⟨_, _, call_abs, v_abs _, bb_abs⟩⟩
theorem wMax2 (hc : X.calm = true) : BltW X "max" gMax2 := ⟨.inl ⟨_, _, call_max2 hc, v_fun2, bb_max⟩⟩
theorem wMin2 (hc : X.calm = true) : BltW X "min" gMin2 := ⟨.inl ⟨_, _, call_min2 hc, v_fun2, bb_min⟩⟩
theorem wAll (hc : X.calm = true) : BltW X "all" gAll := ⟨.inl ⟨_, _, cr_all hc, v_bls, bb_all⟩⟩
theorem wAny (hc : X.calm = true) : BltW X "any" gAny := ⟨.inl ⟨_, _, cr_any hc, v_bls, bb_any⟩⟩
theorem wSum (hc : X.calm = true) : BltW X "sum" gSum := ⟨.inl ⟨_, _, cr_sum hc, v_sum _, bb_sum⟩⟩
theorem wIsi : BltW X "isinstance" gIsi := ⟨.inl ⟨_, _, call_isi, v_isi _, bb_isinstance⟩⟩
theorem wSorted (hu : X.A.units + 64 < cLine) : BltW X "sorted" gSorted := ⟨.inl ⟨_, _, call_sortD hu, v_sorted _, bb_sorted⟩⟩
theorem xBlt {x : Str} {g : List D → M D} (q : BltW X x g) (hm : X.mg x = none) (ha : AD X W (a :: es) t) (hg : Gl X x := by rfl) (hn : x ≠ "__name__" := by decide) (hdb : (x == ("__debug__" : Str)) = false := by decide)
    (he : starEach (a :: es) X.env = (false, eval a X.env) :: starEach es X.env := by rfl) (hpl : (backTo pos (starEach es X.env)).any (·.1) = false := by rfl) : ED X W (.Call (.Name x p) (a :: es) [] pos) (eCall g t) := by
  rcases q.ex with ⟨id, r, h1, h2, h3⟩ | ⟨id, r, h1, h2, h3⟩
  · exact ed_blt h1 h2 hg hm h3 ha hn hdb he hpl
  · exact ed_bty h1 h2 hg hm h3 ha hn hdb he hpl
end
/-- a def that keeps its promise G -/
def Good (P : Program) (w : World) (K : PySem.W.Frag) (mg : Str → Option Value) (base : Heap) (k : Nat) (x : Str) (ps : List Str) (G : List D → M D) : Prop :=
  ∃ f fd, mg x = some (.ref f) ∧ PySem.W.keepIn K (.ref f) = true ∧ Binds K fd ps [] ∧ FnOk P w K mg base (L2.CX P w) k f fd ps (spM K mg G)
theorem Good.mono {P : Program} {w : World} {K : PySem.W.Frag} {mg : Str → Option Value} {base : Heap} {j k : Nat} {x : Str} {ps : List Str} {G : List D → M D} (g : Good P w K mg base j x ps G) (h : j ≤ k) : Good P w K mg base k x ps G := by
  obtain ⟨f, fd, h1, h2, h3, F⟩ := g
  exact ⟨f, fd, h1, h2, h3, F.mono h⟩
theorem Good.pure {P : Program} {w : World} {K : PySem.W.Frag} {mg : Str → Option Value} {base : Heap} {k : Nat} {x : Str} {ps : List Str} {G : List D → M D} (g : Good P w K mg base k x ps G) : Good P w K mg base k x ps (pureM G) := by
  obtain ⟨f, fd, h1, h2, h3, F⟩ := g
  exact ⟨f, fd, h1, h2, h3, F.imp fun _ _ _ _ h => pure_ok h⟩
theorem xCall {X : Cx} {W : WX} {e : Expr} {es : List Expr} {t : Env → M (List D)} {x : Str} {k j : Nat} {ps : List Str} {p pos : Pos} {G : List D → M D} (g : Good X.prog X.w X.K X.mg X.base k x ps G) (hr : Room j X.A) (hj : k ≤ j) (tk : Takes X W)
    (ha : AD X W (e :: es) t) (hg : Gl X x := by rfl) (hdb : (x == ("__debug__" : Str)) = false := by decide) (he : starEach (e :: es) X.env = (false, eval e X.env) :: starEach es X.env := by rfl) (hpl : (backTo pos (starEach es X.env)).any (·.1) = false := by rfl) :
    ED X W (.Call (.Name x p) (e :: es) [] pos) (eCall G t) := by
  obtain ⟨f, fd, h1, h2, h3, F⟩ := g
  exact ed_call F (hr.mono hj) hg h1 h2 h3 tk ha hdb he hpl
theorem good_mk {P : Program} {w : World} {K : PySem.W.Frag} {mg : Str → Option Value} {base : Heap} {x : Str} {params : Arguments} {body : List Stmt} {scope : Scope} {f : Addr} {N ps : List Str} {k : Nat} {s : SM} (hm : mg x = some (.ref f))
    (F : ∃ fd, FunD K x x params body scope [] [] f fd) (S : FnScope N ps scope) (hn : ps.length ≤ N.length)
    (hb : ∀ (kV doc pm : Value) (an : Option Addr) (cdv ct : Value) (us : List Value), us.length = ps.length → bindArgs (PySem.W.fnOf x x params body scope .none kV doc pm an cdv ct) ⟨us, []⟩ = pure (ps.zip us))
    (h : ∀ (f : Addr) (cdv : Value) (A : Around) (outer : List PySem.Env) (s0 : Shared) (H : Hp) (E : XK), Room k (A.deeper (envOfC x scope s0.heap.objs.size f cdv)) →
      SDs (cxOf (L2.CX P w) P w K mg base N x scope f cdv A outer s0 H E) (WE0 E) body s) : Good P w K mg base (k + 1) x ps (defM ps.length N.length s) := by
  obtain ⟨fd, F⟩ := F
  exact ⟨f, fd, hm, F.kp, FunD.bindsN F hb, fn_okD F S hn (h f)⟩
end DL
namespace L2
open PySem PySem.Spec PyProof.Rows
theorem Room.u65 {k : Nat} {A : Around} (r : Room k A) : A.units + 65 < cLine := by have := r.un; omega
end L2
namespace DL
open PySem PySem.Spec PyProof.Rows L2
variable [WC]
/-! ### words for the printed texts -/
theorem bb_range : bootBuiltins "range" = some (.type "range") := by decide +kernel
def sBad : SM := fun _ => Mbad
theorem sd_bad {X : Cx} {W : WX} {s : Stmt} : SD X W s sBad := ⟨fun pins s σ H De I ⟨ρ, w, S, P⟩ => P.elim⟩
theorem ed_bad {X : Cx} {W : WX} {e : Expr} : ED X W e (fun _ => Mbad) := ⟨fun pins s σ H De I ⟨ρ, w, S, P⟩ => P.elim⟩
def sRetN : SM := fun _ => Mret (.ret .non)
section
variable {X : Cx} {W : WX} {x : Str} {pos : Pos}
theorem xgI {i : Int} (h : ∃ t, X.mg x = some (.int i t)) (hg : Gl X x := by rfl) (hd : (x == ("__debug__" : Str)) = false := by decide) : ED X W (.Name x pos) (eC (.int i)) := by
  obtain ⟨t, h⟩ := h
  exact ed_glob (v := .int i) hg h ⟨t, rfl⟩ (fun _ _ => .int _) hd
theorem xgS {i : Str} (h : ∃ t, X.mg x = some (.str i t)) (hg : Gl X x := by rfl) (hd : (x == ("__debug__" : Str)) = false := by decide) : ED X W (.Name x pos) (eC (.str i)) := by
  obtain ⟨t, h⟩ := h
  exact ed_glob (v := .str i) hg h ⟨t, rfl⟩ (fun _ _ => .str _) hd
theorem xgV {d : D} (h : ∃ a, X.mg x = some (.ref a) ∧ ∀ F θ, Rep X.K F θ (.ref a) d) (hg : Gl X x := by rfl) (hd : (x == ("__debug__" : Str)) = false := by decide) : ED X W (.Name x pos) (eC d) := by
  obtain ⟨a, h, r⟩ := h
  exact ed_glob (v := .ref a) hg h rfl r hd
end
end DL
namespace DL
open PySem PySem.Spec PyProof.Rows L2
variable [WC]
/-- the law itself -/
theorem law_mk {P : Program} {w : World} {K : PySem.W.Frag} {mg : Str → Option Value} {x y : Str} {params : Arguments} {body : List Stmt} {scope : Scope} {f : Addr} {N : List Str} {k : Nat} {s : SM}
    (F : ∃ fd, FunD K x x params body scope [] [] f fd) (S : FnScope N [y] scope) (hn : ([y] : List Str).length ≤ N.length)
    (hb : ∀ (kV doc pm : Value) (an : Option Addr) (cdv ct : Value) (us : List Value), us.length = ([y] : List Str).length → bindArgs (PySem.W.fnOf x x params body scope .none kV doc pm an cdv ct) ⟨us, []⟩ = pure (([y] : List Str).zip us))
    (h : ∀ (base : Heap) (f : Addr) (cdv : Value) (A : Around) (outer : List PySem.Env) (s0 : Shared) (H : Hp) (E : XK), Room k (A.deeper (envOfC x scope s0.heap.objs.size f cdv)) →
      SDs (cxOf (L2.CX P w) P w K mg base N x scope f cdv A outer s0 H E) (WE0 E) body s) :
    ∃ fd, (∀ (s : Shared) (u : Value), BindsTo s fd ⟨[u], []⟩ [(y, u)]) ∧ ∀ base : Heap, FnOk P w K mg base (L2.CX P w) (k + 1) f fd [y] (spM K mg (pureM (defM 1 N.length s))) := by
  obtain ⟨fd, F⟩ := F
  have b := FunD.bindsA (ps := [y]) F hb
  exact ⟨fd, fun s v => b s [v] rfl, fun base => (fn_okD F S hn (h base f)).imp fun _ _ _ _ h => pure_ok h⟩
/-- what is asked of the law -/
theorem law_sp {K : PySem.W.Frag} {mg : Str → Option Value} {G : List D → M D} {H : Hp} {a : Addr} {ns : List Int} (hS : SqL K H a (ns.map V.int)) (hG : G [.arg (ns.map .int)] [] = .ok (.bl true) []) : spM K mg G [.ref a] H (fun v _ => v = .bl true) fun _ _ _ => False := by
  have rr : ∀ l : List Int, RepL K H [] (l.map V.int) (l.map D.int) := fun l => by
    induction l with
    | nil => exact .nil
    | cons x l ih => exact .cons (.int x) ih
  refine ⟨[.arg (ns.map .int)], ⟨H, [], []⟩, ⟨Same.refl H, rfl, List.nodup_nil, fun i a h => by simp at h, fun i a o h => by simp at h⟩, .cons (.arg hS (rr ns)) .nil, ?_⟩
  rw [hG]
  exact fun H' w' _ _ _ v r => by cases r; rfl
end DL
namespace DL
open PySem PySem.Spec PyProof.Rows L2
/-! ### how the mirror's words are reckoned -/
def Res.and {α β : Type} (r : Res α) (f : α → M β) : Res β := match r with
  | .ok a μ => f a μ
  | .ex e μ => .ex e μ
  | .bad => .bad
section
variable {α β : Type} {μ : Store} {ρ : Env} {f h k : Env → M D} {t : Env → M (List D)} {c d : Env → M Bool} {x y z : D} {xs ys : List D} {i j : Int} {b : Bool} {r : Res α} {s s' : SM}
@[simp] theorem and_ok (a : α) (g : α → M β) : (Res.ok a μ).and g = g a μ := Eq.trans rfl rfl
@[simp] theorem and_ex (e : Ex) (g : α → M β) : (Res.ex e μ).and g = .ex e μ := Eq.trans rfl rfl
@[simp] theorem and_bad (g : α → M β) : (Res.bad).and g = .bad := Eq.trans rfl rfl
@[simp] theorem and_ite (p : Prop) [Decidable p] (r r' : Res α) (g : α → M β) : (if p then r else r').and g = if p then r.and g else r'.and g := by split <;> rfl
@[simp] theorem Mbind_at (m : M α) (g : α → M β) : Mbind m g μ = (m μ).and g := Eq.trans rfl rfl
@[simp] theorem Mret_at (a : α) : Mret a μ = .ok a μ := Eq.trans rfl rfl
@[simp] theorem Mbad_at : (Mbad : M α) μ = .bad := Eq.trans rfl rfl
@[simp] theorem ite_at (p : Prop) [Decidable p] (m m' : M α) : (if p then m else m') μ = if p then m μ else m' μ := by split <;> rfl
/-! expressions -/
def vr : Option (Option D) → M D
  | some (some d) => Mret d
  | _ => Mbad
@[simp] theorem vr_some (d : D) : vr (some (some d)) μ = .ok d μ := Eq.trans rfl rfl
@[simp] theorem eVar_at (i : Nat) : eVar i ρ μ = vr ρ[i]? μ := by
  unfold eVar vr
  cases ρ[i]? with
  | none => rfl
  | some o => cases o <;> rfl
@[simp] theorem eC_at (d : D) : eC d ρ μ = .ok d μ := Eq.trans rfl rfl
@[simp] theorem eBin_at (g : D → D → M D) : eBin g f h ρ μ = (f ρ μ).and fun x => Mbind (h ρ) fun y => g x y := Eq.trans rfl rfl
@[simp] theorem eUn_at (g : D → M D) : eUn g f ρ μ = (f ρ μ).and g := Eq.trans rfl rfl
@[simp] theorem aNil_at : aNil ρ μ = .ok [] μ := Eq.trans rfl rfl
@[simp] theorem aCons_at : aCons f t ρ μ = (f ρ μ).and fun x => Mbind (t ρ) fun xs => Mret (x :: xs) := Eq.trans rfl rfl
@[simp] theorem eCall_at (g : List D → M D) : eCall g t ρ μ = (t ρ μ).and g := Eq.trans rfl rfl
def kTup : List D → M D := fun xs => if xs.length ≤ sizeLine then Mret (.tup xs) else Mbad
def kLst (mu : Bool) : List D → M D := fun xs => if xs.length ≤ sizeLine then retL mu xs else Mbad
@[simp] theorem eTup_at : eTup t ρ μ = (t ρ μ).and kTup := Eq.trans rfl rfl
@[simp] theorem eLst_at (mu : Bool) : eLst mu t ρ μ = (t ρ μ).and (kLst mu) := Eq.trans rfl rfl
theorem line16 : sizeLine = 16777216 := by decide
@[simp] theorem kTup_0 : kTup [] μ = .ok (.tup []) μ := Eq.trans rfl rfl
@[simp] theorem kTup_1 : kTup [x] μ = .ok (.tup [x]) μ := by unfold kTup; rw [if_pos (by rw [line16]; simp)]; rfl
@[simp] theorem kTup_2 : kTup [x, y] μ = .ok (.tup [x, y]) μ := by unfold kTup; rw [if_pos (by rw [line16]; simp)]; rfl
@[simp] theorem kTup_3 : kTup [x, y, z] μ = .ok (.tup [x, y, z]) μ := by unfold kTup; rw [if_pos (by rw [line16]; simp)]; rfl
@[simp] theorem kLst_at (mu : Bool) (h : xs.length ≤ 16777216) : kLst mu xs μ = retL mu xs μ := by unfold kLst; rw [if_pos (by rw [line16]; exact h)]
@[simp] theorem retL_f : retL false xs μ = .ok (.lst xs) μ := Eq.trans rfl rfl
@[simp] theorem retL_t : retL true xs μ = .ok (.ptr μ.length) (μ ++ [.lst xs]) := Eq.trans rfl rfl
def kIf (m m' : M α) : Bool → M α := fun b => if b = true then m else m'
@[simp] theorem kIf_t (m m' : M α) : kIf m m' true μ = m μ := Eq.trans rfl rfl
@[simp] theorem kIf_f (m m' : M α) : kIf m m' false μ = m' μ := Eq.trans rfl rfl
theorem kIf_b (m m' : M α) (b : Bool) : kIf m m' b μ = if b = true then m μ else m' μ := by cases b <;> rfl
@[simp] theorem eIf_at : eIf c f h ρ μ = (c ρ μ).and (kIf (f ρ) (h ρ)) := Eq.trans rfl rfl
@[simp] theorem asB_bl : asB (.bl b) μ = .ok b μ := Eq.trans rfl rfl
@[simp] theorem asI_int : asI (.int i) μ = .ok i μ := Eq.trans rfl rfl
@[simp] theorem eAnd_at : eAnd f h ρ μ = (f ρ μ).and fun x => Mbind (asB x) (kIf (h ρ) (Mret (.bl false))) := Eq.trans rfl rfl
@[simp] theorem eOr_at : eOr f h ρ μ = (f ρ μ).and fun x => Mbind (asB x) (kIf (Mret (.bl true)) (h ρ)) := Eq.trans rfl rfl
@[simp] theorem eNot_at : eNot f ρ μ = (f ρ μ).and fun x => Mbind (asB x) fun b => Mret (.bl (!b)) := Eq.trans rfl rfl
@[simp] theorem eChain_at (g g' : D → D → M D) : eChain g g' f h k ρ μ = (f ρ μ).and fun x => Mbind (h ρ) fun y => Mbind (g x y) fun z => Mbind (asB z) (kIf (Mbind (k ρ) fun u => g' y u) (Mret (.bl false))) := Eq.trans rfl rfl
@[simp] theorem oNone_at : oNone ρ μ = .ok none μ := Eq.trans rfl rfl
@[simp] theorem oSome_at : oSome f ρ μ = (f ρ μ).and fun x => Mbind (asI x) fun i => Mret (some i) := Eq.trans rfl rfl
@[simp] theorem eSl_at (lo hi : Env → M (Option Int)) : eSl f lo hi ρ μ = (f ρ μ).and fun x => Mbind (lo ρ) fun l => Mbind (hi ρ) fun u => gSl x l u := Eq.trans rfl rfl
@[simp] theorem tOf_at : tOf f ρ μ = (f ρ μ).and asB := Eq.trans rfl rfl
@[simp] theorem tAndM_at : tAndM c d ρ μ = (c ρ μ).and (kIf (d ρ) (Mret false)) := Eq.trans rfl rfl
@[simp] theorem tOrM_at : tOrM c d ρ μ = (c ρ μ).and (kIf (Mret true) (d ρ)) := Eq.trans rfl rfl
@[simp] theorem tNotM_at : tNotM c ρ μ = (c ρ μ).and fun b => Mret (!b) := Eq.trans rfl rfl
@[simp] theorem tTru_at : tTru f ρ μ = (f ρ μ).and gTru := Eq.trans rfl rfl
@[simp] theorem gTru_lst : gTru (.lst xs) μ = .ok (!xs.isEmpty) μ := Eq.trans rfl rfl
@[simp] theorem gTru_tup : gTru (.tup xs) μ = .ok (!xs.isEmpty) μ := Eq.trans rfl rfl
@[simp] theorem gTru_int : gTru (.int i) μ = .ok (i != 0) μ := Eq.trans rfl rfl
@[simp] theorem gTru_bl : gTru (.bl b) μ = .ok b μ := Eq.trans rfl rfl
@[simp] theorem gTru_non : gTru .non μ = .ok false μ := Eq.trans rfl rfl
@[simp] theorem eMth_at (g : D → List D → M D) : eMth g f t ρ μ = (f ρ μ).and fun x => Mbind (chkL x) fun _ => Mbind (t ρ) fun ds => g x ds := Eq.trans rfl rfl
theorem chkL_ptr {n : Nat} (h : μ[n]? = some (.lst xs)) : chkL (.ptr n) μ = .ok () μ := by
  have e : asLst μ (.ptr n) = some xs := by unfold asLst; simp only [h]
  unfold chkL; rw [e]
theorem gMut_ptr {n : Nat} {q : List D → List D → Option (List D)} (h : μ[n]? = some (.lst xs)) {zs : List D} (hq : q xs ys = some zs) : gMut q (.ptr n) ys μ = .ok .non (μ.set n (.lst zs)) := by
  unfold gMut; simp only [h, hq]
/-! statements -/
@[simp] theorem sNil_at : sNil ρ μ = .ok (.nx ρ) μ := Eq.trans rfl rfl
@[simp] theorem sBad_at : sBad ρ μ = .bad := Eq.trans rfl rfl
def kSeq (t : SM) : Fl → M Fl := fun fl => match fl with
  | .nx ρ' => t ρ'
  | f => Mret f
@[simp] theorem sSeq_at : sSeq s s' ρ μ = (s ρ μ).and (kSeq s') := Eq.trans rfl rfl
@[simp] theorem kSeq_nx : kSeq s (.nx ρ) μ = s ρ μ := Eq.trans rfl rfl
@[simp] theorem kSeq_ret : kSeq s (.ret x) μ = .ok (.ret x) μ := Eq.trans rfl rfl
@[simp] theorem kSeq_bk : kSeq s (.bk ρ) μ = .ok (.bk ρ) μ := Eq.trans rfl rfl
@[simp] theorem kSeq_ct : kSeq s (.ct ρ) μ = .ok (.ct ρ) μ := Eq.trans rfl rfl
@[simp] theorem sRet_at : sRet f ρ μ = (f ρ μ).and fun d => Mret (.ret d) := Eq.trans rfl rfl
@[simp] theorem sRetN_at : sRetN ρ μ = .ok (.ret .non) μ := Eq.trans rfl rfl
@[simp] theorem sSet_at (i : Nat) : sSet i f ρ μ = (f ρ μ).and fun d => Mret (.nx (ρ.set i (some d))) := Eq.trans rfl rfl
@[simp] theorem sExp_at : sExp f ρ μ = (f ρ μ).and fun _ => Mret (.nx ρ) := Eq.trans rfl rfl
@[simp] theorem sIf_at : sIf c s s' ρ μ = (c ρ μ).and (kIf (s ρ) (s' ρ)) := Eq.trans rfl rfl
@[simp] theorem gVar_at (i : Nat) : gVar i x ρ μ = .ok (ρ.set i (some x)) μ := Eq.trans rfl rfl
@[simp] theorem gsNil_at : gsNil [] ρ μ = .ok ρ μ := Eq.trans rfl rfl
@[simp] theorem gsCons_at (g : GM) (q : List D → Env → M Env) : gsCons g q (x :: xs) ρ μ = (g x ρ μ).and fun ρ' => q xs ρ' := Eq.trans rfl rfl
@[simp] theorem gTupl_at (n : Nat) (q : List D → Env → M Env) (h : xs.length = n) : gTupl n q (.tup xs) ρ μ = q xs ρ μ := by
  unfold gTupl; simp only [asTup, if_pos h]
@[simp] theorem sAsg_at (g : GM) : sAsg g f ρ μ = (f ρ μ).and fun d => Mbind (g d ρ) fun ρ' => Mret (.nx ρ') := Eq.trans rfl rfl
@[simp] theorem sPar_at (i j : Nat) : sPar i j f h ρ μ = (f ρ μ).and fun x => Mbind (h ρ) fun y => Mret (.nx ((ρ.set i (some x)).set j (some y))) := Eq.trans rfl rfl
@[simp] theorem sPar3_at (i j l : Nat) : sPar3 i j l f h k ρ μ = (f ρ μ).and fun x => Mbind (h ρ) fun y => Mbind (k ρ) fun z => Mret (.nx (((ρ.set i (some x)).set j (some y)).set l (some z))) := Eq.trans rfl rfl
@[simp] theorem sPut_at : sPut f h k ρ μ = (k ρ μ).and fun d => Mbind (f ρ) fun x => Mbind (h ρ) fun y => Mbind (putL x y d) fun _ => Mret (.nx ρ) := Eq.trans rfl rfl
theorem putL_ptr {n : Nat} {q : Nat} (h : μ[n]? = some (.lst xs)) (hi : ixN xs.length i = some q) : putL (.ptr n) (.int i) x μ = .ok () (μ.set n (.lst (xs.set q x))) := by
  unfold putL; simp only [h, hi]
@[simp] theorem sFor_at (it : IM) (g : GM) : sFor it g s ρ μ = (it ρ μ).and fun p => forL p.2 g s p.1 ρ := Eq.trans rfl rfl
@[simp] theorem sWhile_at (fu : Env → Store → Nat) : sWhile fu c s ρ μ = whileF c s (fu ρ μ) ρ μ := Eq.trans rfl rfl
/-! iterations -/
@[simp] theorem iSeq_at : iSeq f ρ μ = (f ρ μ).and gSeq := Eq.trans rfl rfl
@[simp] theorem gSeq_tup : gSeq (.tup xs) μ = .ok (xs, always) μ := Eq.trans rfl rfl
@[simp] theorem gSeq_lst : gSeq (.lst xs) μ = .ok (xs, always) μ := Eq.trans rfl rfl
@[simp] theorem gSeq_arg : gSeq (.arg xs) μ = .ok (xs, always) μ := Eq.trans rfl rfl
theorem gSeq_ptr {n : Nat} (h : μ[n]? = some (.lst xs)) : gSeq (.ptr n) μ = .ok (xs, holds n xs) μ := by unfold gSeq; simp only [h]
@[simp] theorem iRange1_at : iRange1 f ρ μ = (f ρ μ).and kR1 := Eq.trans rfl rfl
@[simp] theorem iRange2_at : iRange2 f h ρ μ = (f ρ μ).and fun x => Mbind (h ρ) fun y => kR2 x y := Eq.trans rfl rfl
@[simp] theorem iEnum1_at : iEnum1 f ρ μ = (f ρ μ).and fun d => Mbind (gSeq d) fun p => Mret (enumD p.1, p.2) := Eq.trans rfl rfl
@[simp] theorem iZip_at : iZip f h ρ μ = (f ρ μ).and fun x => Mbind (h ρ) fun y => kZip x y := Eq.trans rfl rfl
@[simp] theorem kZip_tup : kZip (.tup xs) (.tup ys) μ = .ok (zipD xs ys, always) μ := Eq.trans rfl rfl
@[simp] theorem kZip_lst : kZip (.lst xs) (.lst ys) μ = .ok (zipD xs ys, always) μ := Eq.trans rfl rfl
theorem okR_of (h1 : -1000000000 ≤ i) (h2 : i ≤ 1000000000) : okR i = true := by unfold okR; simp only [Bool.and_eq_true, decide_eq_true_eq]; omega
theorem kR1_at (h1 : -1000000000 ≤ i) (h2 : i ≤ 1000000000) : kR1 (.int i) μ = .ok (rngD 0 i.toNat, always) μ := by unfold kR1; simp only [okR_of h1 h2, if_true]; rfl
theorem kR2_at (h1 : -1000000000 ≤ i) (h2 : i ≤ 1000000000) (h3 : -1000000000 ≤ j) (h4 : j ≤ 1000000000) : kR2 (.int i) (.int j) μ = .ok (rngD i (j - i).toNat, always) μ := by unfold kR2; simp only [okR_of h1 h2, okR_of h3 h4, Bool.and_self, if_true]; rfl
@[simp] theorem eLR1_at (mu : Bool) : eLR1 mu f ρ μ = (f ρ μ).and fun x => Mbind (asI x) fun j => kLR mu 0 j := Eq.trans rfl rfl
@[simp] theorem eLR2_at (mu : Bool) : eLR2 mu f h ρ μ = (f ρ μ).and fun x => Mbind (h ρ) fun y => Mbind (asI x) fun i => Mbind (asI y) fun j => kLR mu i j := Eq.trans rfl rfl
@[simp] theorem eTR1_at : eTR1 f ρ μ = (f ρ μ).and fun x => Mbind (asI x) fun j => kTR 0 j := Eq.trans rfl rfl
theorem kLR_at (mu : Bool) (h1 : -1000000 ≤ i) (h2 : i ≤ 1000000) (h3 : -1000000 ≤ j) (h4 : j ≤ 1000000) : kLR mu i j μ = retL mu (rngD i (j - i).toNat) μ := by
  unfold kLR
  rw [if_pos]
  simp only [okR_of (show -1000000000 ≤ i by omega) (by omega), okR_of (show -1000000000 ≤ j by omega) (by omega), Bool.and_self, Bool.true_and, Nat.ble_eq]
  omega
theorem kTR_at (h1 : -1000000 ≤ i) (h2 : i ≤ 1000000) (h3 : -1000000 ≤ j) (h4 : j ≤ 1000000) : kTR i j μ = .ok (.tup (rngD i (j - i).toNat)) μ := by
  unfold kTR
  rw [if_pos]
  · rfl
  simp only [okR_of (show -1000000000 ≤ i by omega) (by omega), okR_of (show -1000000000 ≤ j by omega) (by omega), Bool.and_self, Bool.true_and, Nat.ble_eq]
  omega
/-! operations -/
@[simp] theorem gAdd_int (mu : Bool) : gAdd mu (.int i) (.int j) μ = .ok (.int (i + j)) μ := Eq.trans rfl rfl
theorem gAdd_tup (mu : Bool) (h : xs.length + ys.length ≤ 16777216) : gAdd mu (.tup xs) (.tup ys) μ = .ok (.tup (xs ++ ys)) μ := by unfold gAdd; simp only; rw [if_pos (by rw [line16]; exact h)]
theorem gAdd_lst (mu : Bool) (h : xs.length + ys.length ≤ 16777216) : gAdd mu (.lst xs) (.lst ys) μ = retL mu (xs ++ ys) μ := by unfold gAdd; simp only [asLst]; rw [if_pos (by rw [line16]; exact h)]
@[simp] theorem gSub_int : gSub (.int i) (.int j) μ = .ok (.int (i - j)) μ := Eq.trans rfl rfl
theorem gMulI_int (h1 : i.natAbs < 2 ^ 400) (h2 : j.natAbs < 2 ^ 400) : gMulI (.int i) (.int j) μ = .ok (.int (i * j)) μ := by
  have w : ∀ k : Int, k.natAbs < 2 ^ 400 → wideI k = true := fun k hk => by
    unfold wideI
    rw [Nat.blt_eq]
    by_cases z : k.natAbs = 0
    · rw [z]; decide
    · have := (Nat.log2_lt z).mpr hk
      omega
  unfold gMulI gInt2
  simp only [w i h1, w j h2, Bool.and_self, if_true]
theorem gMod_int (h : j ≠ 0) : gMod (.int i) (.int j) μ = .ok (.int (i.fmod j)) μ := by unfold gMod gInt2; simp [h]
theorem gMod_pos (h : 0 < j) : gMod (.int i) (.int j) μ = .ok (.int (i % j)) μ := by rw [gMod_int (by omega), Int.fmod_eq_emod_of_nonneg _ (by omega)]
theorem gDiv_pos (h : 0 < j) (h2 : j < 1073741824) : gDiv (.int i) (.int j) μ = .ok (.int (i / j)) μ := by
  unfold gDiv gInt2
  have : smallI j = true := by unfold smallI; simp only [Bool.or_eq_true, Bool.and_eq_true, Nat.blt_eq, bne_iff_ne]; left; omega
  simp only [this, if_true, Int.fdiv_eq_ediv_of_nonneg _ (show 0 ≤ j by omega)]
@[simp] theorem gLt_int : gLt (.int i) (.int j) μ = .ok (.bl (decide (i < j))) μ := Eq.trans rfl rfl
@[simp] theorem gLe_int : gLe (.int i) (.int j) μ = .ok (.bl (decide (i ≤ j))) μ := Eq.trans rfl rfl
@[simp] theorem gGt_int : gGt (.int i) (.int j) μ = .ok (.bl (decide (j < i))) μ := Eq.trans rfl rfl
@[simp] theorem gGe_int : gGe (.int i) (.int j) μ = .ok (.bl (decide (j ≤ i))) μ := Eq.trans rfl rfl
@[simp] theorem gIsN_non (neg : Bool) : gIsN neg .non .non μ = .ok (.bl (!neg)) μ := by cases neg <;> rfl
def gIxL (xs : List D) (i : Int) : M D := match atI xs i with
  | some d => Mret d
  | none => Mbad
@[simp] theorem gIx_tup : gIx (.tup xs) (.int i) μ = gIxL xs i μ := by unfold gIx gIxL asSeq; simp only; cases atI xs i <;> rfl
@[simp] theorem gIx_lst : gIx (.lst xs) (.int i) μ = gIxL xs i μ := by unfold gIx gIxL asSeq asLst; simp only; cases atI xs i <;> rfl
@[simp] theorem gIx_arg : gIx (.arg xs) (.int i) μ = gIxL xs i μ := by unfold gIx gIxL asSeq; simp only; cases atI xs i <;> rfl
theorem gIx_ptr {n : Nat} (h : μ[n]? = some (.lst xs)) : gIx (.ptr n) (.int i) μ = gIxL xs i μ := by unfold gIx gIxL asSeq asLst; simp only [h]; cases atI xs i <;> rfl
theorem gIxL_at (h : atI xs i = some x) : gIxL xs i μ = .ok x μ := by unfold gIxL; rw [h]; rfl
@[simp] theorem gIxL_0 : gIxL (x :: xs) 0 μ = .ok x μ := by
  refine gIxL_at ?_
  unfold atI ixN
  rw [if_pos (by omega), if_pos (by simp only [List.length_cons]; omega)]; rfl
@[simp] theorem gIxL_1 : gIxL (x :: y :: xs) 1 μ = .ok y μ := by
  refine gIxL_at ?_
  unfold atI ixN
  rw [if_pos (by omega), if_pos (by simp only [List.length_cons]; omega)]; rfl
@[simp] theorem gIxL_2 : gIxL (x :: y :: z :: xs) 2 μ = .ok z μ := by
  refine gIxL_at ?_
  unfold atI ixN
  rw [if_pos (by omega), if_pos (by simp only [List.length_cons]; omega)]; rfl
theorem atI_nn {α : Type} {l : List α} {i : Int} (h : 0 ≤ i) : atI l i = l[i.toNat]? := by
  unfold atI ixN
  rw [if_pos h]
  by_cases q : i < l.length
  · rw [if_pos q]; rfl
  · rw [if_neg q]
    symm
    simp only [Option.bind_none]
    exact List.getElem?_eq_none (by omega)
theorem gIxL_nn (h0 : 0 ≤ i) (h : xs[i.toNat]? = some x) : gIxL xs i μ = .ok x μ := gIxL_at (by rw [atI_nn h0]; exact h)
@[simp] theorem gLen_tup : gLen [.tup xs] μ = .ok (.int xs.length) μ := Eq.trans rfl rfl
@[simp] theorem gLen_lst : gLen [.lst xs] μ = .ok (.int xs.length) μ := Eq.trans rfl rfl
@[simp] theorem gLen_arg : gLen [.arg xs] μ = .ok (.int xs.length) μ := Eq.trans rfl rfl
theorem gLen_ptr {n : Nat} (h : μ[n]? = some (.lst xs)) : gLen [.ptr n] μ = .ok (.int xs.length) μ := by unfold gLen asSeq asLst; simp only [h]
@[simp] theorem gList_tup (mu : Bool) : gList mu [.tup xs] μ = retL mu xs μ := Eq.trans rfl rfl
@[simp] theorem gList_lst (mu : Bool) : gList mu [.lst xs] μ = retL mu xs μ := Eq.trans rfl rfl
@[simp] theorem gTuple_lst : gTuple [.lst xs] μ = .ok (.tup xs) μ := Eq.trans rfl rfl
@[simp] theorem gTuple_tup : gTuple [.tup xs] μ = .ok (.tup xs) μ := Eq.trans rfl rfl
@[simp] theorem gInt1_int : gInt1 [.int i] μ = .ok (.int i) μ := Eq.trans rfl rfl
@[simp] theorem gAbs_int : gAbs [.int i] μ = .ok (.int (if i < 0 then -i else i)) μ := Eq.trans rfl rfl
@[simp] theorem gMax2_int : gMax2 [.int i, .int j] μ = .ok (.int (if j > i then j else i)) μ := Eq.trans rfl rfl
@[simp] theorem gMin2_int : gMin2 [.int i, .int j] μ = .ok (.int (if j < i then j else i)) μ := Eq.trans rfl rfl
theorem blsOf_map (l : List Bool) : blsOf (l.map .bl) = some l := by induction l with
  | nil => rfl
  | cons b l ih => simp only [List.map_cons, blsOf, ih, Option.map_some]
theorem intsOf_map (l : List Int) : intsOf (l.map .int) = some l := by induction l with
  | nil => rfl
  | cons b l ih => simp only [List.map_cons, intsOf, ih, Option.map_some]
@[simp] theorem gAll_map (l : List Bool) : gAll [.lst (l.map .bl)] μ = .ok (.bl (l.all id)) μ := by unfold gAll gBls; simp only [asLst, Option.bind_some, blsOf_map]
@[simp] theorem gAny_map (l : List Bool) : gAny [.lst (l.map .bl)] μ = .ok (.bl (l.any id)) μ := by unfold gAny gBls; simp only [asLst, Option.bind_some, blsOf_map]
@[simp] theorem gSum_map (l : List Int) : gSum [.lst (l.map .int)] μ = .ok (.int l.sum) μ := by unfold gSum; simp only [asLst, Option.bind_some, intsOf_map]
/-! isinstance -/
theorem gIsi_at {t n : String} (h : tyName μ x = some t) (hb : kitB t n = some b) : gIsi [x, .raw (.ty n)] μ = .ok (.bl b) μ := by unfold gIsi; simp only [h, hb]
@[simp] theorem isi_tup_tuple : gIsi [.tup xs, .raw (.ty "tuple")] μ = .ok (.bl true) μ := gIsi_at (t := "tuple") rfl (by decide +kernel)
@[simp] theorem isi_int_int : gIsi [.int i, .raw (.ty "int")] μ = .ok (.bl true) μ := gIsi_at (t := "int") rfl (by decide +kernel)
@[simp] theorem isi_int_bool : gIsi [.int i, .raw (.ty "bool")] μ = .ok (.bl false) μ := gIsi_at (t := "int") rfl (by decide +kernel)
@[simp] theorem isi_bl_bool : gIsi [.bl b, .raw (.ty "bool")] μ = .ok (.bl true) μ := gIsi_at (t := "bool") rfl (by decide +kernel)
@[simp] theorem isi_bl_int : gIsi [.bl b, .raw (.ty "int")] μ = .ok (.bl true) μ := gIsi_at (t := "bool") rfl (by decide +kernel)
@[simp] theorem isi_str_str {v : Str} : gIsi [.str v, .raw (.ty "str")] μ = .ok (.bl true) μ := gIsi_at (t := "str") rfl (by decide +kernel)
end
/-! ### defs -/
theorem defM_at {n m : Nat} {body : SM} {ds : List D} {μ : Store} (h : ds.length = n) : defM n m body ds μ = (body (ds.map some ++ List.replicate (m - n) none) μ).and fun fl => match fl with
  | .ret d => Mret d
  | .nx _ => Mret .non
  | _ => Mbad := by unfold defM; rw [if_pos h]; rfl
theorem defM_ret {n m : Nat} {body : SM} {ds : List D} {μ μ' : Store} {d : D} (h : ds.length = n) (e : body (ds.map some ++ List.replicate (m - n) none) μ = .ok (.ret d) μ') : defM n m body ds μ = .ok d μ' := by
  rw [defM_at h, e]; rfl
theorem defM_nx {n m : Nat} {body : SM} {ds : List D} {μ μ' : Store} {ρ : Env} (h : ds.length = n) (e : body (ds.map some ++ List.replicate (m - n) none) μ = .ok (.nx ρ) μ') : defM n m body ds μ = .ok .non μ' := by
  rw [defM_at h, e]; rfl
theorem pureM_at {F : List D → M D} {ds : List D} {μ μ' : Store} {d d' : D} (hd : noPtrL ds = true) (e : F ds [] = .ok d μ') (hf : frzD μ' d = some d') : pureM F ds μ = .ok d' μ := by
  unfold pureM; rw [if_pos hd, e]; simp only [hf]
/-! ### loops -/
theorem for_inv {α : Type} {g : GM} {body : SM} {c : Store → Bool} (R : α → Env → Store → Prop) (step : α → D → α) : ∀ (ds : List D) (a : α) (ρ : Env) (μ : Store), (∀ a ρ μ, R a ρ μ → c μ = true) →
    (∀ a d ρ μ, d ∈ ds → R a ρ μ → ∃ ρ' μ', Mbind (g d ρ) body μ = .ok (.nx ρ') μ' ∧ R (step a d) ρ' μ') → R a ρ μ → ∃ ρ' μ', forL c g body ds ρ μ = .ok (.nx ρ') μ' ∧ R (ds.foldl step a) ρ' μ'
  | [], a, ρ, μ, hc, h, r => ⟨ρ, μ, by unfold forL; rw [if_pos (hc a ρ μ r)], r⟩
  | d :: ds, a, ρ, μ, hc, h, r => by
    obtain ⟨ρ1, μ1, e, r1⟩ := h a d ρ μ List.mem_cons_self r
    obtain ⟨ρ2, μ2, e2, r2⟩ := for_inv R step ds (step a d) ρ1 μ1 hc (fun a d ρ μ hd => h a d ρ μ (List.mem_cons_of_mem _ hd)) r1
    refine ⟨ρ2, μ2, ?_, r2⟩
    unfold forL
    rw [if_pos (hc a ρ μ r)]
    simp only [Mbind_at] at e ⊢
    cases e3 : g d ρ μ with
    | ok ρ3 μ3 =>
      rw [e3] at e
      simp only [and_ok, Mbind_at] at e ⊢
      rw [e]
      exact e2
    | _ => rw [e3] at e; cases e
/-- what is returned at the first item with p -/
theorem for_find {g : GM} {body : SM} {c : Store → Bool} (R : Env → Store → Prop) (p : D → Bool) (v : D → D) : ∀ (ds : List D) (ρ : Env) (μ : Store), (∀ ρ μ, R ρ μ → c μ = true) →
    (∀ d ρ μ, d ∈ ds → R ρ μ → if p d = true then Mbind (g d ρ) body μ = .ok (.ret (v d)) μ else ∃ ρ' μ', Mbind (g d ρ) body μ = .ok (.nx ρ') μ' ∧ R ρ' μ') → R ρ μ →
    match ds.find? p with
    | some d => ∃ μ', forL c g body ds ρ μ = .ok (.ret (v d)) μ'
    | none => ∃ ρ' μ', forL c g body ds ρ μ = .ok (.nx ρ') μ' ∧ R ρ' μ'
  | [], ρ, μ, hc, h, r => ⟨ρ, μ, by unfold forL; rw [if_pos (hc ρ μ r)], r⟩
  | d :: ds, ρ, μ, hc, h, r => by
    have q := h d ρ μ List.mem_cons_self r
    by_cases hp : p d = true
    · rw [if_pos hp] at q
      rw [List.find?_cons_of_pos hp]
      refine ⟨μ, ?_⟩
      unfold forL
      rw [if_pos (hc ρ μ r)]
      simp only [Mbind_at] at q ⊢
      cases e3 : g d ρ μ with
      | ok ρ3 μ3 =>
        rw [e3] at q
        simp only [and_ok, Mbind_at] at q ⊢
        rw [q]; rfl
      | _ => rw [e3] at q; cases q
    · rw [if_neg hp] at q
      obtain ⟨ρ1, μ1, e, r1⟩ := q
      rw [List.find?_cons_of_neg hp]
      have k := for_find R p v ds ρ1 μ1 hc (fun d ρ μ hd => h d ρ μ (List.mem_cons_of_mem _ hd)) r1
      have e4 : forL c g body (d :: ds) ρ μ = forL c g body ds ρ1 μ1 := by
        conv => lhs; unfold forL
        rw [if_pos (hc ρ μ r)]
        simp only [Mbind_at] at e ⊢
        cases e3 : g d ρ μ with
        | ok ρ3 μ3 =>
          rw [e3] at e
          simp only [and_ok, Mbind_at] at e ⊢
          rw [e]; rfl
        | _ => rw [e3] at e; cases e
      rw [e4]
      exact k
/-! ### comprehensions -/
theorem compL_at {c : Store → Bool} {g : GM} {t : Env → M Bool} {f : Env → M D} {ρ : Env} {μ : Store} {p : D → Bool} {q : D → D} (hc : c μ = true) : ∀ (ds acc : List D),
    (∀ d ∈ ds, ∃ ρ1, g d ρ μ = .ok ρ1 μ ∧ t ρ1 μ = .ok (p d) μ ∧ (p d = true → f ρ1 μ = .ok (q d) μ)) → acc.length + ds.length < 16777216 → compL c g t f ρ ds acc μ = .ok (acc ++ (ds.filter p).map q) μ
  | [], acc, h, hl => by unfold compL; rw [if_pos hc]; simp
  | d :: ds, acc, h, hl => by
    obtain ⟨ρ1, e1, e2, e3⟩ := h d List.mem_cons_self
    simp only [List.length_cons] at hl
    unfold compL
    rw [if_pos hc]
    simp only [Mbind_at, Mno, e1, and_ok, e2]
    cases hp : p d with
    | true =>
      have el : acc.length < sizeLine := by rw [line16]; omega
      simp only [if_true, Mbind_at, Mno, e3 hp, and_ok, el]
      rw [compL_at hc ds (acc ++ [q d]) (fun d hd => h d (List.mem_cons_of_mem _ hd)) (by simp only [List.length_append, List.length_cons, List.length_nil]; omega), List.filter_cons_of_pos hp]
      simp
    | false =>
      simp only [Bool.false_eq_true, if_false]
      rw [compL_at hc ds acc (fun d hd => h d (List.mem_cons_of_mem _ hd)) (by omega), List.filter_cons_of_neg (by simp [hp])]
theorem lc_at {mu : Bool} {it : IM} {g : GM} {t : Env → M Bool} {f : Env → M D} {vs : List Nat} {ρ : Env} {μ μ1 : Store} {c : Store → Bool} {ds : List D} (p : D → Bool) (q : D → D) (hi : it ρ μ = .ok (ds, c) μ1) (hc : c μ1 = true)
    (h : ∀ d ∈ ds, ∃ ρ1, g d (wipeE ρ vs) μ1 = .ok ρ1 μ1 ∧ t ρ1 μ1 = .ok (p d) μ1 ∧ (p d = true → f ρ1 μ1 = .ok (q d) μ1)) (hl : ds.length < 16777216) : eLc mu it g t f vs ρ μ = retL mu ((ds.filter p).map q) μ1 := by
  unfold eLc
  simp only [Mbind_at, hi, and_ok]
  rw [compL_at hc ds [] h (by simpa using hl)]
  simp
theorem lc_all {mu : Bool} {it : IM} {g : GM} {f : Env → M D} {vs : List Nat} {ρ : Env} {μ μ1 : Store} {c : Store → Bool} {ds : List D} (q : D → D) (hi : it ρ μ = .ok (ds, c) μ1) (hc : c μ1 = true)
    (h : ∀ d ∈ ds, ∃ ρ1, g d (wipeE ρ vs) μ1 = .ok ρ1 μ1 ∧ f ρ1 μ1 = .ok (q d) μ1) (hl : ds.length < 16777216) : eLc mu it g tYesM f vs ρ μ = retL mu (ds.map q) μ1 := by
  rw [lc_at (fun _ => true) q hi hc (fun d hd => by obtain ⟨ρ1, h1, h2⟩ := h d hd; exact ⟨ρ1, h1, rfl, fun _ => h2⟩) hl, List.filter_eq_self.mpr (fun _ _ => rfl)]
end DL
namespace DL
open PySem PySem.Spec PyProof.Rows L2
section
variable {μ : Store} {xs : List D}
@[simp] theorem gSl_tup (lo hi : Option Int) : gSl (.tup xs) lo hi μ = .ok (.tup (cutD xs lo hi)) μ := Eq.trans rfl rfl
@[simp] theorem gSl_lst (lo hi : Option Int) : gSl (.lst xs) lo hi μ = .ok (.lst (cutD xs lo hi)) μ := Eq.trans rfl rfl
theorem cut_from {k : Int} (h : 0 ≤ k) : cutD xs (some k) none = xs.drop k.toNat := by
  unfold cutD HT.sIx
  simp only [if_neg (show ¬ k < 0 by omega)]
  by_cases q : k.toNat ≤ xs.length
  · rw [Nat.min_eq_left q, List.take_of_length_le (by simp)]
  · rw [Nat.min_eq_right (by omega), List.drop_of_length_le (Nat.le_refl _), List.drop_of_length_le (by omega)]; simp
theorem cut_to {k : Int} (h : 0 ≤ k) : cutD xs none (some k) = xs.take k.toNat := by
  unfold cutD HT.sIx
  simp only [if_neg (show ¬ k < 0 by omega), List.drop_zero, Nat.sub_zero]
  by_cases q : k.toNat ≤ xs.length
  · rw [Nat.min_eq_left q]
  · rw [Nat.min_eq_right (by omega), List.take_of_length_le (Nat.le_refl _), List.take_of_length_le (by omega)]
/-- a comprehension of truths -/
def bls (l : List Bool) : List D := l.map .bl
@[simp] theorem gAll_bls (l : List Bool) : gAll [.lst (bls l)] μ = .ok (.bl (l.all id)) μ := gAll_map l
@[simp] theorem gAny_bls (l : List Bool) : gAny [.lst (bls l)] μ = .ok (.bl (l.any id)) μ := gAny_map l
theorem lc_bl {it : IM} {g : GM} {f : Env → M D} {vs : List Nat} {ρ : Env} {μ μ1 : Store} {c : Store → Bool} {ds : List D} (p : D → Bool) (hi : it ρ μ = .ok (ds, c) μ1) (hc : c μ1 = true)
    (h : ∀ d ∈ ds, ∃ ρ1, g d (wipeE ρ vs) μ1 = .ok ρ1 μ1 ∧ f ρ1 μ1 = .ok (.bl (p d)) μ1) (hl : ds.length < 16777216) : eLc false it g tYesM f vs ρ μ = .ok (.lst (bls (ds.map p))) μ1 := by
  rw [lc_all (fun d => .bl (p d)) hi hc h hl, retL_f, bls, List.map_map]; rfl
end
end DL
namespace DL
open PySem PySem.Spec PyProof.Rows L2
theorem kLR_nat {μ : Store} (mu : Bool) {n : Nat} (h : n ≤ 1000) : kLR mu 0 (n : Int) μ = retL mu (rngD 0 n) μ := by
  rw [kLR_at mu (by omega) (by omega) (by omega) (by omega), Int.sub_zero, Int.toNat_natCast]
theorem kR1_nat {μ : Store} {n : Nat} (h : n ≤ 1000) : kR1 (.int (n : Int)) μ = .ok (rngD 0 n, always) μ := by
  rw [kR1_at (by omega) (by omega), Int.toNat_natCast]
theorem kTR_nat {μ : Store} {n : Nat} (h : n ≤ 1000) : kTR 0 (n : Int) μ = .ok (.tup (rngD 0 n)) μ := by
  rw [kTR_at (by omega) (by omega) (by omega) (by omega), Int.sub_zero, Int.toNat_natCast]
end DL
namespace DL
open PySem PySem.Spec PyProof.Rows L2
/-- a loop, by what holds behind the first items -/
theorem for_pre {α : Type} {f : α → D} {g : GM} {body : SM} {c : Store → Bool} (R : List α → Env → Store → Prop) (l : List α) {ρ : Env} {μ : Store} (hc : ∀ p ρ μ, R p ρ μ → c μ = true)
    (h : ∀ p a s ρ μ, l = p ++ a :: s → R p ρ μ → ∃ ρ' μ', Mbind (g (f a) ρ) body μ = .ok (.nx ρ') μ' ∧ R (p ++ [a]) ρ' μ') (r : R [] ρ μ) : ∃ ρ' μ', forL c g body (l.map f) ρ μ = .ok (.nx ρ') μ' ∧ R l ρ' μ' := by
  have main : ∀ (s p : List α) (ρ : Env) (μ : Store), l = p ++ s → R p ρ μ → ∃ ρ' μ', forL c g body (s.map f) ρ μ = .ok (.nx ρ') μ' ∧ R l ρ' μ' := by
    intro s
    induction s with
    | nil =>
      intro p ρ μ e r
      refine ⟨ρ, μ, ?_, by rw [e, List.append_nil]; exact r⟩
      rw [List.map_nil]; unfold forL; rw [if_pos (hc p ρ μ r)]
    | cons a s ih =>
      intro p ρ μ e r
      obtain ⟨ρ1, μ1, e1, r1⟩ := h p a s ρ μ e r
      obtain ⟨ρ2, μ2, e2, r2⟩ := ih (p ++ [a]) ρ1 μ1 (by rw [e]; simp) r1
      refine ⟨ρ2, μ2, ?_, r2⟩
      rw [List.map_cons]
      unfold forL
      rw [if_pos (hc p ρ μ r)]
      simp only [Mbind_at] at e1 ⊢
      cases e3 : g (f a) ρ μ with
      | ok ρ3 μ3 =>
        rw [e3] at e1
        simp only [and_ok, Mbind_at] at e1 ⊢
        rw [e1]
        exact e2
      | _ => rw [e3] at e1; cases e1
  exact main l [] ρ μ rfl r
/-- a loop that returns v at the first item with p -/
theorem for_any {α : Type} {f : α → D} {g : GM} {body : SM} {c : Store → Bool} (R : Env → Store → Prop) (p : α → Bool) (v : D) (l : List α) {ρ : Env} {μ : Store} (hc : ∀ ρ μ, R ρ μ → c μ = true)
    (h : ∀ a ρ μ, a ∈ l → R ρ μ → (p a = true ∧ Mbind (g (f a) ρ) body μ = .ok (.ret v) μ) ∨ (p a = false ∧ ∃ ρ' μ', Mbind (g (f a) ρ) body μ = .ok (.nx ρ') μ' ∧ R ρ' μ')) (r : R ρ μ) :
    (l.any p = true ∧ ∃ ρ' μ', forL c g body (l.map f) ρ μ = .ok (.ret v) μ' ∧ R ρ' μ') ∨ (l.any p = false ∧ ∃ ρ' μ', forL c g body (l.map f) ρ μ = .ok (.nx ρ') μ' ∧ R ρ' μ') := by
  induction l generalizing ρ μ with
  | nil => exact .inr ⟨rfl, ρ, μ, by rw [List.map_nil]; unfold forL; rw [if_pos (hc ρ μ r)], r⟩
  | cons a l ih =>
    rcases h a ρ μ List.mem_cons_self r with ⟨hp, e⟩ | ⟨hp, ρ1, μ1, e, r1⟩
    · refine .inl ⟨by simp [hp], ρ, μ, ?_, r⟩
      rw [List.map_cons]
      unfold forL
      rw [if_pos (hc ρ μ r)]
      simp only [Mbind_at] at e ⊢
      cases e3 : g (f a) ρ μ with
      | ok ρ3 μ3 =>
        rw [e3] at e
        simp only [and_ok, Mbind_at] at e ⊢
        rw [e]; rfl
      | _ => rw [e3] at e; cases e
    · have e4 : forL c g body ((a :: l).map f) ρ μ = forL c g body (l.map f) ρ1 μ1 := by
        rw [List.map_cons]
        conv => lhs; unfold forL
        rw [if_pos (hc ρ μ r)]
        simp only [Mbind_at] at e ⊢
        cases e3 : g (f a) ρ μ with
        | ok ρ3 μ3 =>
          rw [e3] at e
          simp only [and_ok, Mbind_at] at e ⊢
          rw [e]; rfl
        | _ => rw [e3] at e; cases e
      rw [e4]
      rcases ih (fun a ρ μ ha => h a ρ μ (List.mem_cons_of_mem _ ha)) r1 with ⟨h1, h2⟩ | ⟨h1, h2⟩
      · exact .inl ⟨by rw [List.any_cons, hp, h1]; rfl, h2⟩
      · exact .inr ⟨by rw [List.any_cons, hp, h1]; rfl, h2⟩
@[simp] theorem set_concat {α : Type} (l : List α) (x y : α) : (l ++ [x]).set l.length y = l ++ [y] := by
  induction l with
  | nil => rfl
  | cons a l ih => simp only [List.cons_append, List.length_cons, List.set_cons_succ, ih]
theorem ixN_nn {n : Nat} {i : Int} (h : 0 ≤ i) (h2 : i < n) : ixN n i = some i.toNat := by unfold ixN; rw [if_pos h, if_pos h2]
theorem always_at {μ : Store} : always μ = true := rfl
end DL
namespace DL
theorem sSeq_assoc {a b c : SM} {ρ : Env} {μ : Store} : sSeq a (sSeq b c) ρ μ = (sSeq a b ρ μ).and (kSeq c) := by
  rw [sSeq_at, sSeq_at]
  cases a ρ μ with
  | ok fl μ1 =>
    simp only [and_ok]
    cases fl <;> rfl
  | _ => rfl
theorem seq_at {a b : SM} {ρ ρ1 : Env} {μ μ1 : Store} (h : a ρ μ = .ok (.nx ρ1) μ1) : sSeq a b ρ μ = b ρ1 μ1 := by rw [sSeq_at, h]; rfl
end DL
namespace DL
open PySem PySem.Spec PyProof.Rows L2
/-! ### == and in, of clean data: no True, False among them -/
def cl : Nat → D → Bool
  | _, .non => true
  | _, .int _ => true
  | _, .str s => PyData.strOk s
  | n + 1, .tup xs => xs.all (cl n)
  | n + 1, .lst xs => xs.all (cl n)
  | _, _ => false
theorem toPyL_all {xs : List D} : (∀ x ∈ xs, ∃ p, toPy x = some p) → ∃ ps, toPyL xs = some ps ∧ ps.length = xs.length := by
  induction xs with
  | nil => exact fun _ => ⟨[], rfl, rfl⟩
  | cons x xs ih =>
    intro h
    obtain ⟨p, hp⟩ := h x List.mem_cons_self
    obtain ⟨ps, h1, h2⟩ := ih fun y hy => h y (List.mem_cons_of_mem _ hy)
    exact ⟨p :: ps, by simp only [toPyL, hp, h1], by simp [h2]⟩
/-- what is known of clean data -/
structure Cl (n : Nat) (d : D) (p : PyData) : Prop where
  py : toPy d = some p
  lay : p.canLay0 = true
  dep : p.depth ≤ n
theorem clL {n : Nat} : ∀ {xs : List D}, (∀ x ∈ xs, ∃ p, Cl n x p) → ∃ ps, toPyL xs = some ps ∧ PyData.canLayAll0 ps = true ∧ PyData.depthAll ps ≤ n
  | [], _ => ⟨[], rfl, by simp [PyData.canLayAll0], by simp [PyData.depthAll]⟩
  | x :: xs, h => by
    obtain ⟨p, hp⟩ := h x List.mem_cons_self
    obtain ⟨ps, h1, h2, h3⟩ := clL fun y hy => h y (List.mem_cons_of_mem _ hy)
    refine ⟨p :: ps, by simp only [toPyL, hp.py, h1], by simp [PyData.canLayAll0, hp.lay, h2], ?_⟩
    simp only [PyData.depthAll]
    exact Nat.max_le.mpr ⟨hp.dep, h3⟩
theorem cl_py : ∀ (n : Nat) (d : D), cl n d = true → ∃ p, Cl n d p
  | n, .non, _ => ⟨.none, rfl, by simp [PyData.canLay0], by simp [PyData.depth]⟩
  | n, .int i, _ => ⟨.int i, rfl, by simp [PyData.canLay0], by simp [PyData.depth]⟩
  | n, .str s, h => ⟨.str s, rfl, by simpa [PyData.canLay0, cl] using h, by simp [PyData.depth]⟩
  | n + 1, .tup xs, h => by
    have h' : ∀ x ∈ xs, cl n x = true := by simpa [cl] using h
    obtain ⟨ps, h1, h2, h3⟩ := clL (n := n) fun x hx => cl_py n x (h' x hx)
    exact ⟨.tuple ps, by simp only [toPy, h1, Option.map_some], by simpa [PyData.canLay0] using h2, by simp only [PyData.depth]; omega⟩
  | n + 1, .lst xs, h => by
    have h' : ∀ x ∈ xs, cl n x = true := by simpa [cl] using h
    obtain ⟨ps, h1, h2, h3⟩ := clL (n := n) fun x hx => cl_py n x (h' x hx)
    exact ⟨.list ps, by simp only [toPy, h1, Option.map_some], by simpa [PyData.canLay0] using h2, by simp only [PyData.depth]; omega⟩
  | 0, .tup xs, h => by simp [cl] at h
  | 0, .lst xs, h => by simp [cl] at h
  | _, .bl _, h => by simp [cl] at h
  | _, .arg _, h => by simp [cl] at h
  | _, .dct _ _, h => by simp [cl] at h
  | _, .ptr _, h => by simp [cl] at h
  | _, .raw _, h => by simp [cl] at h
theorem eqvL {n : Nat} (ih : ∀ (x y : D) (p q : PyData), cl n x = true → cl n y = true → toPy x = some p → toPy y = some q → PyData.eqv p q = decide (x = y)) : ∀ (xs ys : List D) (ps qs : List PyData), (∀ x ∈ xs, cl n x = true) → (∀ x ∈ ys, cl n x = true) →
    toPyL xs = some ps → toPyL ys = some qs → PyData.eqvAll ps qs = decide (xs = ys)
  | [], [], ps, qs, _, _, h1, h2 => by cases h1; cases h2; simp [PyData.eqvAll]
  | [], y :: ys, ps, qs, _, hy, h1, h2 => by
    obtain ⟨q, hq⟩ := cl_py n y (hy y List.mem_cons_self)
    obtain ⟨qs', e, _⟩ := toPyL_all (xs := ys) fun z hz => (cl_py n z (hy z (List.mem_cons_of_mem _ hz))).imp fun p c => c.py
    simp only [toPyL, hq.py, e] at h2
    cases h1; cases h2; simp [PyData.eqvAll]
  | x :: xs, [], ps, qs, hx, _, h1, h2 => by
    obtain ⟨q, hq⟩ := cl_py n x (hx x List.mem_cons_self)
    obtain ⟨qs', e, _⟩ := toPyL_all (xs := xs) fun z hz => (cl_py n z (hx z (List.mem_cons_of_mem _ hz))).imp fun p c => c.py
    simp only [toPyL, hq.py, e] at h1
    cases h1; cases h2; simp [PyData.eqvAll]
  | x :: xs, y :: ys, ps, qs, hx, hy, h1, h2 => by
    obtain ⟨p, hp⟩ := cl_py n x (hx x List.mem_cons_self)
    obtain ⟨ps', e, _⟩ := toPyL_all (xs := xs) fun z hz => (cl_py n z (hx z (List.mem_cons_of_mem _ hz))).imp fun p c => c.py
    obtain ⟨q, hq⟩ := cl_py n y (hy y List.mem_cons_self)
    obtain ⟨qs', e', _⟩ := toPyL_all (xs := ys) fun z hz => (cl_py n z (hy z (List.mem_cons_of_mem _ hz))).imp fun p c => c.py
    simp only [toPyL, hp.py, e] at h1
    simp only [toPyL, hq.py, e'] at h2
    cases h1; cases h2
    rw [PyData.eqvAll, ih x y p q (hx x List.mem_cons_self) (hy y List.mem_cons_self) hp.py hq.py, eqvL ih xs ys ps' qs' (fun z hz => hx z (List.mem_cons_of_mem _ hz)) (fun z hz => hy z (List.mem_cons_of_mem _ hz)) e e']
    simp
theorem cl_eqv : ∀ (n : Nat) (x y : D) (p q : PyData), cl n x = true → cl n y = true → toPy x = some p → toPy y = some q → PyData.eqv p q = decide (x = y) := by
  intro n
  induction n with
  | zero =>
    intro x y p q hx hy h1 h2
    cases x with
    | non => cases h1; cases y <;> first | (cases h2; simp [PyData.eqv]) | (simp [cl] at hy)
    | int i => cases h1; cases y <;> first | (simp [cl] at hy; done) | (cases h2; simp [PyData.eqv]; try rfl)
    | str i => cases h1; cases y <;> first | (simp [cl] at hy; done) | (cases h2; simp [PyData.eqv]; try rfl)
    | _ => simp [cl] at hx
  | succ n ih =>
    have py : ∀ xs : List D, (∀ x ∈ xs, cl n x = true) → ∃ ps, toPyL xs = some ps := fun xs h => by
      obtain ⟨ps, e, _⟩ := toPyL_all (xs := xs) fun z hz => (cl_py n z (h z hz)).imp fun p c => c.py
      exact ⟨ps, e⟩
    intro x y p q hx hy h1 h2
    cases x with
    | non =>
      cases h1
      cases y with
      | tup ys => obtain ⟨qs, e⟩ := py ys (by simpa [cl] using hy); simp only [toPy, e, Option.map_some] at h2; cases h2; simp [PyData.eqv]
      | lst ys => obtain ⟨qs, e⟩ := py ys (by simpa [cl] using hy); simp only [toPy, e, Option.map_some] at h2; cases h2; simp [PyData.eqv]
      | non => cases h2; simp [PyData.eqv]
      | int j => cases h2; simp [PyData.eqv]
      | str j => cases h2; simp [PyData.eqv]
      | _ => simp [cl] at hy
    | int i =>
      cases h1
      cases y with
      | tup ys => obtain ⟨qs, e⟩ := py ys (by simpa [cl] using hy); simp only [toPy, e, Option.map_some] at h2; cases h2; simp [PyData.eqv]
      | lst ys => obtain ⟨qs, e⟩ := py ys (by simpa [cl] using hy); simp only [toPy, e, Option.map_some] at h2; cases h2; simp [PyData.eqv]
      | non => cases h2; simp [PyData.eqv]
      | int j => cases h2; simp [PyData.eqv]; rfl
      | str j => cases h2; simp [PyData.eqv]
      | _ => simp [cl] at hy
    | str i =>
      cases h1
      cases y with
      | tup ys => obtain ⟨qs, e⟩ := py ys (by simpa [cl] using hy); simp only [toPy, e, Option.map_some] at h2; cases h2; simp [PyData.eqv]
      | lst ys => obtain ⟨qs, e⟩ := py ys (by simpa [cl] using hy); simp only [toPy, e, Option.map_some] at h2; cases h2; simp [PyData.eqv]
      | non => cases h2; simp [PyData.eqv]
      | int j => cases h2; simp [PyData.eqv]
      | str j => cases h2; simp [PyData.eqv]; rfl
      | _ => simp [cl] at hy
    | tup xs =>
      have hx' : ∀ x ∈ xs, cl n x = true := by simpa [cl] using hx
      obtain ⟨ps, e1⟩ := py xs hx'
      simp only [toPy, e1, Option.map_some] at h1
      cases h1
      cases y with
      | tup ys =>
        have hy' : ∀ x ∈ ys, cl n x = true := by simpa [cl] using hy
        obtain ⟨qs, e⟩ := py ys hy'
        simp only [toPy, e, Option.map_some] at h2
        cases h2
        rw [PyData.eqv, eqvL ih xs ys ps qs hx' hy' e1 e]
        simp
      | lst ys => obtain ⟨qs, e⟩ := py ys (by simpa [cl] using hy); simp only [toPy, e, Option.map_some] at h2; cases h2; simp [PyData.eqv]
      | non => cases h2; simp [PyData.eqv]
      | int j => cases h2; simp [PyData.eqv]
      | str j => cases h2; simp [PyData.eqv]
      | _ => simp [cl] at hy
    | lst xs =>
      have hx' : ∀ x ∈ xs, cl n x = true := by simpa [cl] using hx
      obtain ⟨ps, e1⟩ := py xs hx'
      simp only [toPy, e1, Option.map_some] at h1
      cases h1
      cases y with
      | lst ys =>
        have hy' : ∀ x ∈ ys, cl n x = true := by simpa [cl] using hy
        obtain ⟨qs, e⟩ := py ys hy'
        simp only [toPy, e, Option.map_some] at h2
        cases h2
        rw [PyData.eqv, eqvL ih xs ys ps qs hx' hy' e1 e]
        simp
      | tup ys => obtain ⟨qs, e⟩ := py ys (by simpa [cl] using hy); simp only [toPy, e, Option.map_some] at h2; cases h2; simp [PyData.eqv]
      | non => cases h2; simp [PyData.eqv]
      | int j => cases h2; simp [PyData.eqv]
      | str j => cases h2; simp [PyData.eqv]
      | _ => simp [cl] at hy
    | _ => simp [cl] at hx
theorem cl_shaped {n : Nat} {d : D} {p : PyData} (c : Cl n d p) (h : n ≤ 64) : SeqAt.shaped p = true := by
  unfold SeqAt.shaped
  rw [Bool.and_eq_true]
  exact ⟨c.lay, decide_eq_true (Nat.le_trans c.dep h)⟩
/-- how a list that changes is seen -/
theorem view_of {n : Nat} {d : D} (μ : Store) (h : cl n d = true) : view μ d = d := by
  cases d <;> first | rfl | (simp [cl] at h)
theorem gEq_cl {n : Nat} {x y : D} {μ : Store} (neg : Bool) (hx : cl n (view μ x) = true) (hy : cl n (view μ y) = true) (hn : n ≤ 64 := by decide) : gEq neg x y μ = .ok (.bl (if neg then !decide (view μ x = view μ y) else decide (view μ x = view μ y))) μ := by
  obtain ⟨p, hp⟩ := cl_py n _ hx
  obtain ⟨q, hq⟩ := cl_py n _ hy
  have e : eqB μ x y = some (decide (view μ x = view μ y)) := by
    unfold eqB pyV
    simp only [hp.py, hq.py, cl_shaped hp hn, cl_shaped hq hn, Bool.and_self, if_true, cl_eqv n _ _ p q hx hy hp.py hq.py]
  unfold gEq
  rw [e]
theorem any_cl {n : Nat} {x : D} {p : PyData} (hx : cl n x = true) (hp : toPy x = some p) : ∀ (ys : List D) (qs : List PyData), (∀ y ∈ ys, cl n y = true) → toPyL ys = some qs → (qs.any fun z => PyData.eqv z p) = decide (x ∈ ys)
  | [], qs, _, h => by cases h; simp
  | y :: ys, qs, hy, h => by
    obtain ⟨q, hq⟩ := cl_py n y (hy y List.mem_cons_self)
    obtain ⟨qs', e, _⟩ := toPyL_all (xs := ys) fun z hz => (cl_py n z (hy z (List.mem_cons_of_mem _ hz))).imp fun p c => c.py
    simp only [toPyL, hq.py, e] at h
    cases h
    rw [List.any_cons, any_cl hx hp ys qs' (fun z hz => hy z (List.mem_cons_of_mem _ hz)) e, cl_eqv n y x q p (hy y List.mem_cons_self) hx hq.py hp]
    by_cases h1 : x = y
    · subst h1; simp
    · have : y ≠ x := fun e => h1 e.symm
      simp [h1, this]
theorem gIn_seq {n : Nat} {x y : D} {ys : List D} {μ : Store} (neg : Bool) (hx : cl n x = true) (hy : ∀ z ∈ ys, cl n z = true) (hv : view μ y = .tup ys ∨ view μ y = .lst ys) (hn : n + 1 ≤ 64 := by decide) :
    gIn neg x y μ = .ok (.bl (if neg then !decide (x ∈ ys) else decide (x ∈ ys))) μ := by
  obtain ⟨p, hp⟩ := cl_py n _ hx
  obtain ⟨qs, h1, h2, h3⟩ := clL (n := n) fun z hz => cl_py n z (hy z hz)
  have sh : SeqAt.shaped (.tuple qs) = true ∧ SeqAt.shaped (.list qs) = true := by
    unfold SeqAt.shaped
    constructor
    · rw [Bool.and_eq_true]
      exact ⟨by simpa [PyData.canLay0] using h2, decide_eq_true (by simp only [PyData.depth]; omega)⟩
    · rw [Bool.and_eq_true]
      exact ⟨by simpa [PyData.canLay0] using h2, decide_eq_true (by simp only [PyData.depth]; omega)⟩
  have px : pyV μ x = some p := by unfold pyV; rw [view_of μ hx]; exact hp.py
  have e : inB μ x y = some (decide (x ∈ ys)) := by
    have es := any_cl hx hp.py ys qs hy h1
    have s1 := cl_shaped hp (by omega)
    rcases hv with hv | hv
    · have py : pyV μ y = some (.tuple qs) := by unfold pyV; rw [hv]; simp only [toPy, h1, Option.map_some]
      cases y with
      | str j => cases hv
      | _ => simp only [inB, px, py, s1, sh.1, Bool.and_self, if_true, es]
    · have py : pyV μ y = some (.list qs) := by unfold pyV; rw [hv]; simp only [toPy, h1, Option.map_some]
      cases y with
      | str j => cases hv
      | _ => simp only [inB, px, py, s1, sh.2, Bool.and_self, if_true, es]
  unfold gIn
  rw [e]
/-! ints -/
theorem cl_ints {n : Nat} (l : List Int) : ∀ z ∈ l.map D.int, cl n z = true := fun z hz => by
  obtain ⟨i, _, rfl⟩ := List.mem_map.mp hz
  cases n <;> rfl
theorem cl_tupI (l : List Int) (n : Nat) : cl (n + 1) (.tup (l.map D.int)) = true := by
  simp only [cl, List.all_eq_true]; exact cl_ints l
theorem cl_lstI (l : List Int) (n : Nat) : cl (n + 1) (.lst (l.map D.int)) = true := by
  simp only [cl, List.all_eq_true]; exact cl_ints l
theorem cl_tup {n : Nat} {l : List D} (h : ∀ z ∈ l, cl n z = true) : cl (n + 1) (.tup l) = true := by simpa only [cl, List.all_eq_true] using h
theorem cl_lst {n : Nat} {l : List D} (h : ∀ z ∈ l, cl n z = true) : cl (n + 1) (.lst l) = true := by simpa only [cl, List.all_eq_true] using h
section
variable {μ : Store} {i j : Int} {l m : List Int} (neg : Bool)
@[simp] theorem gEq_int : gEq neg (.int i) (.int j) μ = .ok (.bl (if neg then !decide (i = j) else decide (i = j))) μ := by
  rw [gEq_cl (n := 0) neg rfl rfl]
  have : (view μ (.int i) = view μ (.int j)) ↔ i = j := by show D.int i = D.int j ↔ _; simp
  simp only [this]
theorem dec_tupI {a b : List Int} : (D.tup (a.map D.int) = D.tup (b.map D.int)) ↔ a = b := by
  rw [D.tup.injEq]
  exact ⟨fun h => List.map_inj_right (fun _ _ e => D.int.inj e) |>.mp h, fun h => by rw [h]⟩
theorem dec_lstI {a b : List Int} : (D.lst (a.map D.int) = D.lst (b.map D.int)) ↔ a = b := by
  rw [D.lst.injEq]
  exact ⟨fun h => List.map_inj_right (fun _ _ e => D.int.inj e) |>.mp h, fun h => by rw [h]⟩
@[simp] theorem gEq_tupI : gEq neg (.tup (l.map D.int)) (.tup (m.map D.int)) μ = .ok (.bl (if neg then !decide (l = m) else decide (l = m))) μ := by
  rw [gEq_cl (x := .tup (l.map D.int)) (y := .tup (m.map D.int)) (n := 1) neg (cl_tupI l 0) (cl_tupI m 0)]
  simp only [view, dec_tupI]
@[simp] theorem gEq_lstI : gEq neg (.lst (l.map D.int)) (.lst (m.map D.int)) μ = .ok (.bl (if neg then !decide (l = m) else decide (l = m))) μ := by
  rw [gEq_cl (x := .lst (l.map D.int)) (y := .lst (m.map D.int)) (n := 1) neg (cl_lstI l 0) (cl_lstI m 0)]
  simp only [view, dec_lstI]
theorem mem_ints : D.int i ∈ l.map D.int ↔ i ∈ l := by simp
@[simp] theorem gIn_tupI : gIn neg (.int i) (.tup (l.map D.int)) μ = .ok (.bl (if neg then !decide (i ∈ l) else decide (i ∈ l))) μ := by
  rw [gIn_seq (n := 0) neg rfl (cl_ints l) (.inl rfl)]
  simp only [mem_ints]
@[simp] theorem gIn_lstI : gIn neg (.int i) (.lst (l.map D.int)) μ = .ok (.bl (if neg then !decide (i ∈ l) else decide (i ∈ l))) μ := by
  rw [gIn_seq (n := 0) neg rfl (cl_ints l) (.inr rfl)]
  simp only [mem_ints]
end
end DL
namespace DL
open PySem PySem.Spec PyProof.Rows L2
variable [WC]
/-! ### join, split -/
def strsOf : List D → Option (List Str)
  | [] => some []
  | .str b :: r => (strsOf r).map (b :: ·)
  | _ => none
theorem strsOf_rep {K : PySem.W.Frag} {F : Hp} {θ : List Addr} : ∀ {vs : List V} {xs : List D} {bs : List Str}, RepL K F θ vs xs → strsOf xs = some bs → vs = bs.map V.str
  | _, [], _, r, h => by cases r; cases h; rfl
  | _, d :: ds, _, r, h => by
    cases r with
    | cons r1 r2 =>
      cases d with
      | str b =>
        simp only [strsOf, Option.map_eq_some_iff] at h
        obtain ⟨bs, h1, rfl⟩ := h
        cases r1
        rw [strsOf_rep r2 h1]; rfl
      | _ => cases h
theorem strsOf_map (l : List Str) : strsOf (l.map .str) = some l := by induction l with
  | nil => rfl
  | cons b l ih => simp only [List.map_cons, strsOf, ih, Option.map_some]
theorem repL_strs {K : PySem.W.Frag} {F : Hp} {θ : List Addr} : ∀ ns : List Str, RepL K F θ (ns.map V.str) (ns.map D.str)
  | [] => .nil
  | n :: ns => .cons (.str n) (repL_strs ns)
def chkS (x : D) : M Unit := match x with
  | .str _ => Mret ()
  | _ => Mbad
def gJoin : D → D → M D := fun x y μ => match x, (asSeq μ y).bind strsOf with
  | .str a, some ys => if (ys.map (·.length)).sum + ys.length * a.length ≤ 16777216 then .ok (.str (Txt.join a ys)) μ else .bad
  | _, _ => .bad
def gSplit (mu : Bool) : D → D → M D := fun x y μ => match x, y with
  | .str a, .str b => if (!(b.length == 0) && decide (a.length + 2 ≤ sizeLine)) = true then retL mu ((Txt.split a b).map .str) μ else .bad
  | _, _ => .bad
def eStrM (g : D → D → M D) (f h : Env → M D) : Env → M D := fun ρ => Mbind (f ρ) fun x => Mbind (chkS x) fun _ => Mbind (h ρ) fun y => g x y
section
variable {X : Cx} {W : WX} {o e : Expr} {f h : Env → M D} {apos pos : Pos}
theorem chkS_post {K : PySem.W.Frag} {F : Hp} {θ : List Addr} {H : Hp} {w : Wd} {v : V} {d : D} {α : Type} {m : M α} {Q : α → Hp → Wd → Prop} {E : Ex → Hp → Wd → Prop} (r : Rep K F θ v d) (P : Post K H w (Mbind (chkS d) (fun _ => m) w.μ) Q E) : ∃ a, d = .str a ∧ v = .str a ∧ Post K H w (m w.μ) Q E := by
  cases d with
  | str a => cases r; exact ⟨a, rfl, rfl, P⟩
  | _ => exact P.elim
theorem ed_join (ho : ED X W o f) (he : ED X W e h) (hs : starEach [e] X.env = [(false, eval e X.env)] := by rfl) (hbase : attributeBase o "join" X.env (eval o X.env) = eval o X.env := by rfl) (hline : (apos.endLine == pos.line) = true := by rfl) :
    ED X W (.Call (.Attribute o "join" apos) [e] [] pos) (eStrM gJoin f h) :=
  PE_imp (pe_join ho he hs hbase hline) fun σ H Q ⟨ρ, w, S, P⟩ => tE_bind S P fun d v H1 w1 _ S1 r1 P1 => by
    obtain ⟨a, rfl, rfl, P2⟩ := chkS_post r1 P1
    refine ⟨⟨a, rfl⟩, tE_bind S1 P2 fun d2 v2 H2 w2 x2 S2 r2 P3 => ?_⟩
    simp only [gJoin] at P3
    cases e1 : (asSeq w2.μ d2).bind strsOf with
    | none => rw [e1] at P3; exact P3.elim
    | some ys =>
      rw [e1] at P3
      simp only at P3
      obtain ⟨xs, h1, h2⟩ := Option.bind_eq_some_iff.mp e1
      obtain ⟨p, us, rfl, hs, rr⟩ := asSeq_ok S2.wf r2 h1
      have ev := strsOf_rep rr h2
      subst ev
      split at P3
      · rename_i hz
        exact ⟨a, p, ys, rfl, rfl, hs, hz, post_here P3 S2.wf (.str _)⟩
      · exact P3.elim
theorem ed_split (mu : Bool) (ho : ED X W o f) (he : ED X W e h) (hs : starEach [e] X.env = [(false, eval e X.env)] := by rfl) (hbase : attributeBase o "split" X.env (eval o X.env) = eval o X.env := by rfl) (hline : (apos.endLine == pos.line) = true := by rfl) :
    ED X W (.Call (.Attribute o "split" apos) [e] [] pos) (eStrM (gSplit mu) f h) :=
  PE_imp (pe_split ho he hs hbase hline) fun σ H Q ⟨ρ, w, S, P⟩ => tE_bind S P fun d v H1 w1 _ S1 r1 P1 => by
    obtain ⟨a, rfl, rfl, P2⟩ := chkS_post r1 P1
    refine ⟨⟨a, rfl⟩, tE_bind S1 P2 fun d2 v2 H2 w2 x2 S2 r2 P3 => ?_⟩
    cases d2 with
    | str b =>
      cases r2
      simp only [gSplit] at P3
      split at P3
      · rename_i hz
        simp only [Bool.and_eq_true, decide_eq_true_eq, Bool.not_eq_true'] at hz
        refine ⟨a, b, rfl, rfl, hz.1, hz.2, fun p hp => ?_⟩
        simp only [retL] at P3
        cases mu with
        | true => exact post_mut P3 S2.wf hp (repL_strs _)
        | false => exact post_lst P3 S2.wf hp (repL_strs _)
      · exact P3.elim
    | _ => exact P3.elim
end
section
variable {μ : Store} {ρ : Env} {f h : Env → M D} {x : D} {a b : Str} {l : List Str}
@[simp] theorem eStrM_at (g : D → D → M D) : eStrM g f h ρ μ = (f ρ μ).and fun x => Mbind (chkS x) fun _ => Mbind (h ρ) fun y => g x y := Eq.trans rfl rfl
@[simp] theorem chkS_at : chkS (.str a) μ = .ok () μ := Eq.trans rfl rfl
theorem gJoin_lst (h : (l.map (·.length)).sum + l.length * a.length ≤ 16777216) : gJoin (.str a) (.lst (l.map .str)) μ = .ok (.str (Txt.join a l)) μ := by
  unfold gJoin; simp only [asSeq, asLst, Option.bind_some, strsOf_map, if_pos h]
theorem gJoin_ptr {n : Nat} (hn : μ[n]? = some (.lst (l.map .str))) (h : (l.map (·.length)).sum + l.length * a.length ≤ 16777216) : gJoin (.str a) (.ptr n) μ = .ok (.str (Txt.join a l)) μ := by
  unfold gJoin; simp only [asSeq, asLst, hn, Option.bind_some, strsOf_map, if_pos h]
theorem gSplit_str (mu : Bool) (hb : b.length ≠ 0) (h : a.length ≤ 1000000) : gSplit mu (.str a) (.str b) μ = retL mu ((Txt.split a b).map .str) μ := by
  unfold gSplit
  have : (!(b.length == 0) && decide (a.length + 2 ≤ sizeLine)) = true := by
    simp only [Bool.and_eq_true, decide_eq_true_eq, Bool.not_eq_true', beq_eq_false_iff_ne]
    exact ⟨hb, by rw [line16]; omega⟩
  simp only [this, if_true]
end
end DL
namespace DL
open PySem PySem.Spec PyProof.Rows L2
variable [WC]
def gNeg : D → M D := fun x => match x with
  | .int i => Mret (.int (-i))
  | _ => Mbad
@[simp] theorem gNeg_int {μ : Store} {i : Int} : gNeg (.int i) μ = .ok (.int (-i)) μ := Eq.trans rfl rfl
theorem xNeg {X : Cx} {W : WX} {e : Expr} {f : Env → M D} {pos : Pos} (he : ED X W e f) : ED X W (.UnaryOp .USub e pos) (eUn gNeg f) :=
  PE_imp (pe_un un_neg he) fun σ H Q ⟨ρ, w, S, P⟩ => tE_bind S P fun d v H1 w1 _ S1 r1 P1 => by
    cases d with
    | int i => cases r1; exact ⟨i, rfl, post_ret P1 S1.wf _ (.int _)⟩
    | _ => exact P1.elim
end DL
namespace DL
open PySem PySem.Spec PyProof.Rows L2
variable [WC]
/-! ### sorted(set(xs)), xs a list of tuples of ints -/
def rowD (l : List Int) : D := .tup (l.map .int)
def rowsI : List D → Option (List (List Int))
  | [] => some []
  | .tup b :: r => match intsOf b, rowsI r with
    | some l, some ls => some (l :: ls)
    | _, _ => none
  | _ => none
theorem rowsI_map (l : List (List Int)) : rowsI (l.map rowD) = some l := by
  induction l with
  | nil => rfl
  | cons b l ih =>
    have : intsOf (b.map D.int) = some b := by
      induction b with
      | nil => rfl
      | cons x b ih2 => simp only [List.map_cons, intsOf, ih2, Option.map_some]
    simp only [List.map_cons, rowD, rowsI, this]
    rw [ih]
/-- the different ones, in order -/
def ssort (rows : List (List Int)) : List (List Int) := (dd rows).mergeSort fun a b => decide (a ≤ b)
def rowsOk (rows : List (List Int)) : Bool := decide (rows.length < 64) && rows.all fun r => decide (r.length = (rows.headD []).length) && (!r.isEmpty && r.all fun i => decide (0 ≤ i) && decide (i < 1000))
def gSortSet : D → M D := fun x μ => match (asLst μ x).bind rowsI with
  | some rows => if rowsOk rows = true then .ok (.lst ((ssort rows).map rowD)) μ else .bad
  | none => .bad
def eSortSet (f : Env → M D) : Env → M D := fun ρ => Mbind (f ρ) gSortSet
theorem code_lex {B : Int} : ∀ (a b : List Int), a.length = b.length → TS.Bd B a → TS.Bd B b → (TS.code B a < TS.code B b ↔ a < b)
  | [], [], _, _, _ => by simp [TS.code]
  | [], _ :: _, h, _, _ => by simp at h
  | _ :: _, [], h, _, _ => by simp at h
  | x :: a, y :: b, h, ha, hb => by
    have hl : a.length = b.length := by simpa using h
    rw [List.cons_lt_cons_iff]
    by_cases h1 : x < y
    · exact ⟨fun _ => .inl h1, fun _ => TS.code_lt hl ha.tail hb.tail h1⟩
    · by_cases h2 : x = y
      · subst h2
        rw [TS.code_same hl, code_lex a b hl ha.tail hb.tail]
        simp
      · have h3 : y < x := by omega
        have := TS.code_lt hl.symm hb.tail ha.tail h3
        constructor
        · intro q; omega
        · rintro (q | ⟨q, _⟩)
          · omega
          · omega
theorem code_le {B : Int} {a b : List Int} (h : a.length = b.length) (ha : TS.Bd B a) (hb : TS.Bd B b) : TS.code B a ≤ TS.code B b ↔ a ≤ b := by
  rw [← Int.not_lt, code_lex b a h.symm hb ha, List.not_lt]
theorem pairs_out {ks L L' : List (Addr × List Int)} {rows : List (List Int)} {d : Nat} (hks : ks.map (·.2) = rows) (h1 : ∀ p ∈ L, p ∈ ks) (h2 : ∀ p ∈ ks, p.2 ∈ L.map (·.2)) (hr : ∀ r ∈ rows, r.length = d ∧ TS.Bd 1000 r)
    (pm : L'.Perm L) (nd : (L'.map (·.2)).Nodup) (pw : L'.Pairwise fun q r => TS.code 1000 q.2 ≤ TS.code 1000 r.2) : L'.map (·.2) = ssort rows := by
  have mem : ∀ r, r ∈ L'.map (·.2) ↔ r ∈ rows := fun r => by
    rw [(pm.map (·.2)).mem_iff, ← hks]
    constructor
    · intro h
      obtain ⟨p, hp, rfl⟩ := List.mem_map.mp h
      exact List.mem_map.mpr ⟨p, h1 p hp, rfl⟩
    · intro h
      obtain ⟨p, hp, rfl⟩ := List.mem_map.mp h
      exact h2 p hp
  unfold ssort
  have p1 : (L'.map (·.2)).Perm ((dd rows).mergeSort fun a b => decide (a ≤ b)) :=
    ((List.perm_ext_iff_of_nodup nd (dd_nodup rows)).mpr fun a => (mem a).trans mem_dd.symm).trans (List.mergeSort_perm _ _).symm
  refine List.Perm.eq_of_pairwise (le := fun a b => a ≤ b) (fun a b _ _ h1 h2 => List.le_antisymm h1 h2) ?_ ?_ p1
  · rw [List.pairwise_map]
    refine List.Pairwise.imp_of_mem (fun {q r} hq hr' h => ?_) pw
    have a1 := hr q.2 ((mem q.2).mp (List.mem_map.mpr ⟨q, hq, rfl⟩))
    have a2 := hr r.2 ((mem r.2).mp (List.mem_map.mpr ⟨r, hr', rfl⟩))
    exact (code_le (a1.1.trans a2.1.symm) a1.2 a2.2).mp h
  · have := List.pairwise_mergeSort (le := fun a b : List Int => decide (a ≤ b)) (fun a b c h1 h2 => by simp only [decide_eq_true_eq] at *; exact List.le_trans h1 h2) (fun a b => by
      simp only [Bool.or_eq_true, decide_eq_true_eq]; exact List.le_total a b) (dd rows)
    exact this.imp fun h => by simpa using h
theorem repL_rows {K : PySem.W.Frag} {F : Hp} {θ : List Addr} : ∀ {vs : List V} {xs : List D} {rows : List (List Int)}, RepL K F θ vs xs → rowsI xs = some rows →
    ∃ ks : List (Addr × List Int), vs = ks.map (fun p => V.ref p.1) ∧ ks.map (·.2) = rows ∧ ∀ p ∈ ks, SqT K F p.1 (p.2.map V.int) ∧ Rep K F θ (.ref p.1) (rowD p.2)
  | _, [], _, r, h => by cases r; cases h; exact ⟨[], rfl, rfl, fun _ h => (nomatch h)⟩
  | _, d :: ds, _, r, h => by
    cases r with
    | cons r1 r2 =>
      cases d with
      | tup b =>
        simp only [rowsI] at h
        cases e1 : intsOf b with
        | none => rw [e1] at h; cases h
        | some l =>
          cases e2 : rowsI ds with
          | none => rw [e1, e2] at h; cases h
          | some ls =>
            rw [e1, e2] at h
            cases h
            obtain ⟨ks, k1, k2, k3⟩ := repL_rows r2 e2
            cases r1 with
            | @tup a vs _ h1 h2 =>
              have ev := intsOf_rep h2 e1
              subst ev
              have eb : b = l.map .int := by
                clear h1 h2 k1 k2 k3
                induction b generalizing l with
                | nil => cases e1; rfl
                | cons x b ih =>
                  cases x with
                  | int i =>
                    simp only [intsOf, Option.map_eq_some_iff] at e1
                    obtain ⟨l', h, rfl⟩ := e1
                    rw [ih l' h]; rfl
                  | _ => cases e1
              subst eb
              exact ⟨(a, l) :: ks, by rw [k1]; rfl, by rw [List.map_cons, k2], fun p hp => by
                rcases List.mem_cons.mp hp with e | hp
                · rw [e]; exact ⟨h1, .tup h1 h2⟩
                · exact k3 p hp⟩
      | _ => cases h
section
variable {X : Cx} {W : WX} {a : Expr} {f : Env → M D} {p p2 q pos : Pos}
theorem ed_sortSet (hu : X.A.units + 64 < cLine) (hg : Gl X "sorted") (hm : X.mg "sorted" = none) (hg2 : Gl X "set") (hm2 : X.mg "set" = none) (hc : X.calm = true) (ha : ED X W a f) (na : starEach [a] X.env = (false, eval a X.env) :: starEach [] X.env := by rfl)
    (na2 : starEach [.Call (.Name "set" p2) [a] [] q] X.env = (false, eval (.Call (.Name "set" p2) [a] [] q) X.env) :: starEach [] X.env := by rfl) :
    ED X W (.Call (.Name "sorted" p) [.Call (.Name "set" p2) [a] [] q] [] pos) (eSortSet f) :=
  PE_imp (pe_callB (cr_sortedT hc) hg hm bb_sorted (pa_cons (pe_callTy (cr_setOfT hc hu) hg2 hm2 PyProof.Rows.boot_set (pa_cons ha pa_nil na) (by decide) (by decide) na rfl) pa_nil na2) (by decide) (by decide) na2 rfl) fun σ H Q ⟨ρ, w, S, P⟩ =>
    show tE X.K X.mg W f σ H _ from tE_bind S P fun d v H1 w1 x1 S1 r1 P1 => by
      simp only [gSortSet] at P1
      cases e1 : (asLst w1.μ d).bind rowsI with
      | none => rw [e1] at P1; exact P1.elim
      | some rows =>
        rw [e1] at P1
        simp only at P1
        obtain ⟨xs, h1, h2⟩ := Option.bind_eq_some_iff.mp e1
        obtain ⟨l, vs, rfl, hs, rr⟩ := asLst_ok S1.wf r1 h1
        obtain ⟨ks, rfl, hks, hk⟩ := repL_rows rr h2
        split at P1
        · rename_i hz
          unfold rowsOk at hz
          simp only [Bool.and_eq_true, List.all_eq_true, decide_eq_true_eq, Bool.not_eq_true'] at hz
          have hrow : ∀ r ∈ rows, r.length = (rows.headD []).length ∧ TS.Bd 1000 r := fun r hr => ⟨(hz.2 r hr).1, fun m hm => (hz.2 r hr).2.2 m hm⟩
          have hlen : ks.length < 64 := by
            have := congrArg List.length hks
            rw [List.length_map] at this
            omega
          refine ⟨l, ks, rfl, SqL.of hs, fun p hp => same_sqt S1.wf.same (hk p hp).1, hlen, fun b L hb hL1 hL2 => ?_⟩
          have wf2 := S1.wf.frz (o := SetTO X.prog X.w b L) hb
          have hd : rows = [] ∨ 1 ≤ (rows.headD []).length := by
            cases rows with
            | nil => exact .inl rfl
            | cons r rs =>
              right
              have := (hz.2 r List.mem_cons_self).2.1
              cases r with
              | nil => simp at this
              | cons _ _ => simp
          have inr : ∀ p ∈ L, p.2 ∈ rows := fun p hp => by rw [← hks]; exact List.mem_map.mpr ⟨p, hL1 p hp, rfl⟩
          have sup : ∀ p ∈ ks, SqT X.K (upd H1 b (SetTO X.prog X.w b L)) p.1 (p.2.map V.int) := fun p hp => same_sqt (same_upd_new hb) (same_sqt S1.wf.same (hk p hp).1)
          refine ⟨b, L, max 1 (rows.headD []).length, 1000, rfl, upd_same, fun p hp => sup p (hL1 p hp), Nat.le_max_left _ _, fun p hp => ?_, fun L' c pm nd hl pw hc => ?_⟩
          · have hp' := inr p hp
            have := hrow p.2 hp'
            rcases hd with hd | hd
            · rw [hd] at hp'; cases hp'
            · exact ⟨by rw [Nat.max_eq_right hd]; exact this.1, this.2⟩
          · have eo := pairs_out hks hL1 hL2 hrow pm nd pw
            have s1 : Same w1.F (w1.frz b (SetTO X.prog X.w b L)).F := same_upd_new (S1.wf.frz_new hb)
            have rL : RepL X.K (w1.frz b (SetTO X.prog X.w b L)).F (w1.frz b (SetTO X.prog X.w b L)).θ (L'.map fun q => V.ref q.1) ((ssort rows).map rowD) := by
              rw [← eo, List.map_map]
              have hin : ∀ p ∈ L', p ∈ ks := fun p hp => hL1 p (pm.mem_iff.mp hp)
              clear eo pw nd hl pm
              induction L' with
              | nil => exact .nil
              | cons p L' ih => exact .cons ((hk p (hin p List.mem_cons_self)).2.mono s1 (List.prefix_refl _)) (ih fun q hq => hin q (List.mem_cons_of_mem _ hq))
            have P2 := Post.ext (H' := upd H1 b (SetTO X.prog X.w b L)) (w' := w1.frz b (SetTO X.prog X.w b L)) P1 (Ext.frz_ S1.wf hb)
            exact post_lst P2 wf2 hc rL
        · exact P1.elim
end
@[simp] theorem eSortSet_at {f : Env → M D} {ρ : Env} {μ : Store} : eSortSet f ρ μ = (f ρ μ).and gSortSet := Eq.trans rfl rfl
theorem gSortSet_at {rows : List (List Int)} {μ : Store} {k : Nat} (h : rows.length < 64) (hk : 0 < k) (hr : ∀ r ∈ rows, r.length = k ∧ ∀ i ∈ r, 0 ≤ i ∧ i < 1000) : gSortSet (.lst (rows.map rowD)) μ = .ok (.lst ((ssort rows).map rowD)) μ := by
  have : rowsOk rows = true := by
    unfold rowsOk
    simp only [Bool.and_eq_true, List.all_eq_true, decide_eq_true_eq, Bool.not_eq_true']
    refine ⟨h, fun r hr' => ?_⟩
    have hh : (rows.headD []).length = k := by
      cases rows with
      | nil => cases hr'
      | cons q _ => exact (hr q List.mem_cons_self).1
    refine ⟨by rw [(hr r hr').1, hh], ?_, (hr r hr').2⟩
    have := (hr r hr').1
    cases r with
    | nil => simp at this; omega
    | cons _ _ => rfl
  unfold gSortSet
  simp only [asLst, Option.bind_some, rowsI_map, this, if_true]
theorem mem_ssort {rows : List (List Int)} {r : List Int} : r ∈ ssort rows ↔ r ∈ rows := by unfold ssort; rw [List.mem_mergeSort, mem_dd]
end DL
namespace DL
open PySem PySem.Spec PyProof.Rows L2
variable [WC]
/-! ### sorted, of one item alone as well (of an empty tuple too) -/
theorem general_lt (x y : Value) : keyLt' general' x y = oneLt' false x y := rfl
def rSort1 (K : PySem.W.Frag) : List V → Hp → VK → Prop := fun vs H Q => ∃ (a : Addr) (v : V) (d : PyData), vs = [.ref a] ∧ SqL K H a [v] ∧ Dp K H v d ∧ PySem.W.alike d d = true ∧ d ≠ .none ∧ d.depth ≤ 50 ∧ ∀ q, H q = none → Q (.ref q) (upd H q (.lst [v]))
theorem call_sort1 {X : Cx} (hu : X.A.units + 64 < cLine) : CallR X (.builtin "sorted") (rSort1 X.K) := by
  intro pins s σ H vs us Q I r ⟨a, v, d, ev, hs, hd, hal, hn, hdep, q⟩
  subst ev
  obtain ⟨its, rv, pl, hz⟩ := I.list hs
  rw [Vals.ref1 r]
  cases rv with
  | @cons _ u _ _ r1 r2 =>
    cases r2
    obtain ⟨as, rd⟩ := Dp.reads I _ _ _ hd r1
    have rd' : Reads (PySem.W.sortingHeap (PySem.W.copyHeap s.heap [u]) (s.heap.objs.size + 1) [u]) u d as := PyProof.Rows.Reads.keeps (fun _ _ => PySem.W.sorting_copy_old) rd
    have all1 : PySem.W.AllAlike [d] := fun x hx y hy => by
      rw [List.mem_singleton.mp hx, List.mem_singleton.mp hy]; exact hal
    refine PySem.W.sorted_vals (κ := PySem.W.dataKind (PySem.W.sortingHeap (PySem.W.copyHeap s.heap [u]) (s.heap.objs.size + 1) [u]) [d]) pl.isList ⟨fun z hz => ?_, general', fun E x y k l P hk hl hP => ?_, fun h2 => absurd h2 (by simp)⟩ (by rw [line16]; simp) ?_
    · rw [List.mem_singleton.mp hz]
      exact ⟨_, PySem.W.dataKind_some all1 (List.mem_singleton.mpr rfl) rd'⟩
    · obtain ⟨p1, as1, m1, ra, rfl⟩ := PySem.W.dataKind_inv hk
      obtain ⟨p2, as2, m2, rb, rfl⟩ := PySem.W.dataKind_inv hl
      rw [List.mem_singleton.mp m1] at ra hP
      rw [List.mem_singleton.mp m2] at rb hP
      rw [general_lt]
      exact PySem.W.oneLt_alike (fun z => nomatch z) ra rb hal hn (by show X.A.units + 1 + 1 + min d.depth d.depth < cLine; omega) hP
    · have e1 : PySem.W.sortVals (PySem.W.dataKind (PySem.W.sortingHeap (PySem.W.copyHeap s.heap [u]) (s.heap.objs.size + 1) [u]) [d]) false [u] [u] = [u] := by simp [PySem.W.sortVals]
      rw [e1]
      obtain ⟨ep, he'⟩ := PyProof.Rows.sortedAll_at s.heap [u] #[u]
      exact ⟨.ref _, upd H (s.heap.objs.size + 1) (.lst [v]), I.laid (t' := s.toks) (fun _ _ => PyProof.Rows.sortedAll_old) (Nat.le_succ _) ⟨hz, [u], ep, .cons r1 .nil, he'⟩, rfl, q _ (I.hok.fresh (Nat.le_succ _))⟩
def oneB (d : D) : Bool := match toPy d with
  | some p => PySem.W.alike p p && (notNone p && Nat.ble p.depth 50)
  | none => false
def gSortedE : List D → M D := fun ds μ => match ds with
  | [x] => match asLst μ x with
    | some [d] => if oneB d = true then .ok (.lst [d]) μ else .bad
    | _ => gSorted ds μ
  | _ => .bad
theorem v_sortedE (K : PySem.W.Frag) : VCall K (fun vs H Q => rSortD K vs H Q ∨ rSort1 K vs H Q) gSortedE := by
  intro H w xs ds Q E wf r P
  have old : Post K H w (gSorted ds w.μ) (QV K Q) E → rSortD K xs H Q ∨ rSort1 K xs H Q := fun h => .inl (v_sorted K H w xs ds Q E wf r h)
  cases ds with
  | nil => exact P.elim
  | cons x ds =>
    cases ds with
    | cons _ _ => exact P.elim
    | nil =>
      simp only [gSortedE] at P
      cases e1 : asLst w.μ x with
      | none => rw [e1] at P; exact old P
      | some ys =>
        rw [e1] at P
        match ys, e1 with
        | [], _ => exact old P
        | _ :: _ :: _, _ => exact old P
        | [d], e1 =>
          simp only at P
          split at P
          · rename_i hb
            cases r with
            | cons r1 r2 =>
              cases r2
              obtain ⟨a, us, rfl, hs, rr⟩ := asLst_ok wf r1 e1
              cases rr with
              | cons r3 r4 =>
                cases r4
                unfold oneB at hb
                cases e2 : toPy d with
                | none => rw [e2] at hb; cases hb
                | some p =>
                  rw [e2] at hb
                  simp only [Bool.and_eq_true, Nat.ble_eq] at hb
                  refine .inr ⟨a, _, p, rfl, SqL.of hs, rep_dp wf.same _ r3 e2, hb.1, fun e => ?_, hb.2.2, fun q hq => post_lst P wf hq (.cons r3 .nil)⟩
                  rw [e] at hb; exact absurd hb.2.1 (by decide)
          · exact P.elim
theorem wSortedE {X : Cx} (hu : X.A.units + 64 < cLine) : BltW X "sorted" gSortedE := ⟨.inl ⟨_, _, (call_sortD hu).or (call_sort1 hu), v_sortedE _, bb_sorted⟩⟩
end DL
namespace DL
open PySem PySem.Spec PyProof.Rows L2
/-! ### dicts by values -/
mutual
theorem keyOf_inj : ∀ (x y : D) (k : NestedKey), keyOf x = some k → keyOf y = some k → x = y
  | .non, y, k, h, q => by
    cases h
    cases y <;> simp [keyOf] at q <;> rfl
  | .int i, y, k, h, q => by
    cases h
    cases y <;> simp [keyOf] at q <;> simp [q]
  | .str i, y, k, h, q => by
    cases h
    cases y <;> simp [keyOf] at q <;> simp [q]
  | .tup xs, y, k, h, q => by
    simp only [keyOf, Option.map_eq_some_iff] at h
    obtain ⟨ks, h, rfl⟩ := h
    cases y <;> simp [keyOf] at q
    rename_i ys
    rw [keyOfL_inj xs ys ks h q]
  | .bl _, _, _, h, _ => by simp [keyOf] at h
  | .lst _, _, _, h, _ => by simp [keyOf] at h
  | .arg _, _, _, h, _ => by simp [keyOf] at h
  | .dct _ _, _, _, h, _ => by simp [keyOf] at h
  | .ptr _, _, _, h, _ => by simp [keyOf] at h
  | .raw _, _, _, h, _ => by simp [keyOf] at h
theorem keyOfL_inj : ∀ (xs ys : List D) (ks : List NestedKey), keyOfL xs = some ks → keyOfL ys = some ks → xs = ys
  | [], ys, ks, h, q => by
    cases h
    cases ys with
    | nil => rfl
    | cons y ys =>
      simp only [keyOfL] at q
      split at q <;> simp at q
  | x :: xs, ys, ks, h, q => by
    simp only [keyOfL] at h
    split at h
    · rename_i k ks' h1 h2
      cases h
      cases ys with
      | nil => simp [keyOfL] at q
      | cons y ys =>
        simp only [keyOfL] at q
        split at q
        · rename_i k2 ks2 h3 h4
          cases q
          rw [keyOf_inj x y k h1 h3, keyOfL_inj xs ys ks' h2 h4]
        · cases q
    · cases h
end
section
variable [WC] {X : Cx} {pins : List (Addr × Obj)} {σ : L2.St} {H F : Hp} {θ : List Addr} {s : Shared}
mutual
theorem nested_of (I : Inv X pins σ H s) (e : Same F H) : ∀ (d : D) (k : NestedKey) (v : V) (u : Value), Rep X.K F θ v d → keyOf d = some k → RelV v u → NestedIs s.heap k u
  | .non, k, v, u, r, h, rv => by cases r; cases h; cases rv; exact .none
  | .int i, k, v, u, r, h, rv => by cases r; cases h; obtain ⟨t, rfl⟩ := rv; exact .int i t
  | .str i, k, v, u, r, h, rv => by cases r; cases h; obtain ⟨t, rfl⟩ := rv; exact .text i t
  | .tup xs, k, v, u, r, h, rv => by
    simp only [keyOf, Option.map_eq_some_iff] at h
    obtain ⟨ks, h, rfl⟩ := h
    cases r with
    | @tup a vs _ h1 h2 =>
      cases rv
      obtain ⟨its, rvs, ⟨o, ho, hc, n, hd⟩, _⟩ := I.tuple (same_sqt e h1)
      exact .tup ho hc hd (nestedL_of I e xs ks vs _ h2 h (by simpa using rvs))
  | .bl _, _, _, _, _, h, _ => by simp [keyOf] at h
  | .lst _, _, _, _, _, h, _ => by simp [keyOf] at h
  | .arg _, _, _, _, _, h, _ => by simp [keyOf] at h
  | .dct _ _, _, _, _, _, h, _ => by simp [keyOf] at h
  | .ptr _, _, _, _, _, h, _ => by simp [keyOf] at h
  | .raw _, _, _, _, _, h, _ => by simp [keyOf] at h
theorem nestedL_of (I : Inv X pins σ H s) (e : Same F H) : ∀ (ds : List D) (ks : List NestedKey) (vs : List V) (us : List Value), RepL X.K F θ vs ds → keyOfL ds = some ks → Vals vs us → NestedAll s.heap ks us
  | [], ks, vs, us, r, h, rv => by cases r; cases h; cases rv; exact .nil
  | d :: ds, ks, vs, us, r, h, rv => by
    simp only [keyOfL] at h
    split at h
    · rename_i k ks' h1 h2
      cases h
      cases r with
      | cons r1 r2 =>
        cases rv with
        | cons v1 v2 => exact .cons (nested_of I e d k _ _ r1 h1 v1) (nestedL_of I e ds ks' _ _ r2 h2 v2)
    · cases h
end
end
def asDct (μ : Store) : D → Option (List D × List D)
  | .dct ks vs => some (ks, vs)
  | .ptr n => match μ[n]? with
    | some (.dct _ ks vs) => some (ks, vs)
    | _ => none
  | _ => none
section
variable [WC] {K : PySem.W.Frag} {H : Hp} {w : Wd} {x : V} {d : D} {ks vs : List D}
/-- where a dict lies -/
structure DAt (K : PySem.W.Frag) (H : Hp) (w : Wd) (a : Addr) (T : Tbl) (ks vs : List D) : Prop where
  at_ : H a = some (dctO WC.w a T)
  key : keyOfL ks = some (T.rows.map (·.k))
  rk : RepL K w.F w.θ (T.rows.map fun r => .ref r.b) ks
  rv : RepL K w.F w.θ (T.rows.map (·.v)) vs
theorem asDct_ok (wf : Wf K H w) (r : Rep K w.F w.θ x d) (h : asDct w.μ d = some (ks, vs)) : ∃ a T, x = .ref a ∧ DAt K H w a T ks vs := by
  cases d with
  | dct ks' vs' =>
    cases h
    cases r with
    | dct h1 h2 h3 h4 => exact ⟨_, _, rfl, wf.same _ _ h1, h2, h3, h4⟩
  | ptr n =>
    cases r with
    | ptr h1 =>
      obtain ⟨o, h3, h4⟩ := wf.some_of h1
      simp only [asDct, h3] at h
      cases o with
      | dct ver ks' vs' =>
        cases h
        obtain ⟨rows, h5, h6, h7, h8⟩ := h4
        exact ⟨_, rows, rfl, h5, h6, h7, h8⟩
      | lst xs => cases h
      | kd fs => cases h
  | _ => cases h
end
/-- the raw rows -/
def rawR (rows : List Row) (us : List Value) : List (NestedKey × Addr × Value) := (rows.zip us).map fun p => (p.1.k, p.1.b, p.2)
theorem rawR_keys : ∀ {rows : List Row} {us : List Value}, rows.length = us.length → (rawR rows us).map (·.1) = rows.map (·.k)
  | [], _, _ => rfl
  | _ :: _, [], h => by simp at h
  | r :: rows, u :: us, h => by
    have := rawR_keys (rows := rows) (us := us) (by simpa using h)
    simp only [rawR, List.zip_cons_cons, List.map_cons] at this ⊢
    rw [this]
/-- the value at a key -/
def valD : List D → List D → D → Option D
  | k :: ks, v :: vs, y => if k = y then some v else valD ks vs y
  | _, _, _ => none
section
variable [WC] {X : Cx} {pins : List (Addr × Obj)} {σ : L2.St} {H : Hp} {w : Wd} {s : Shared} {a : Addr} {ks vs : List D}
theorem dict_at {T : Tbl} (I : Inv X pins σ H s) (wf : Wf X.K H w) (hw : X.w = WC.w) (h : DAt X.K H w a T ks vs) : Vals (T.rows.map (·.v)) T.us ∧ s.heap.DictOfH (nestedKind X.prog X.w) a (rawR T.rows T.us) ∧ (a == sysModules) = false ∧ T.rows.length = T.us.length := by
  have d0 : DictN0 WC.w s.heap a T := (I.hok a _ h.at_).1
  obtain ⟨rows, us, ep⟩ := T
  obtain ⟨o, es, ho, hx, hd, he⟩ := d0.ob
  have rv : Vals (rows.map (·.v)) us := d0.vals
  have hm := d0.sm
  have hn : (rows.map (·.k)).Nodup := d0.nd
  have h8 : ∀ r ∈ rows, r.k.depth ≤ 8 := d0.dep
  have hl : rows.length = us.length := by have := rv.length; rw [List.length_map] at this; exact this
  refine ⟨rv, ⟨o, es, ep, ho, hx, hd, ?_, fun x hx => ?_, by rw [rawR_keys hl]; exact hn⟩, hm, hl⟩
  · rw [he, hw]
    simp only [rawR, List.map_map, Tbl.es]
    rfl
  · obtain ⟨p, hp, rfl⟩ := List.mem_map.mp hx
    have hr : p.1 ∈ rows := (List.of_mem_zip hp).1
    obtain ⟨i, hi, e⟩ := List.mem_iff_getElem.mp hr
    have hlen := h.rk.length
    rw [List.length_map] at hlen
    have key : ∀ (rows : List Row) (ks : List D), RepL X.K w.F w.θ (rows.map fun r => .ref r.b) ks → keyOfL ks = some (rows.map (·.k)) → ∀ r ∈ rows, NestedIs s.heap r.k (.ref r.b) := by
      intro rows
      induction rows with
      | nil => intro _ _ _ r hr; cases hr
      | cons r0 rows ih =>
        intro ks rk hk r hr
        cases ks with
        | nil => cases rk
        | cons d ks =>
          cases rk with
          | cons r1 r2 =>
            simp only [keyOfL, List.map_cons] at hk
            split at hk
            · rename_i k ks' h1 h2
              simp only [Option.some.injEq, List.cons.injEq] at hk
              obtain ⟨e1, e2⟩ := hk
              rcases List.mem_cons.mp hr with e | hr
              · rw [e, ← e1]; exact nested_of I wf.same d k _ _ r1 h1 rfl
              · exact ih ks r2 (by rw [h2, e2]) r hr
            · cases hk
    exact ⟨key rows ks h.rk h.key p.1 hr, h8 p.1 hr⟩
/-- lookups agree -/
theorem val_at {K : PySem.W.Frag} {F : Hp} {θ : List Addr} {y : D} {k : NestedKey} (hy : keyOf y = some k) : ∀ {rows : List Row} {us : List Value} {ks vs : List D}, keyOfL ks = some (rows.map (·.k)) → RepL K F θ (rows.map (·.v)) vs → Vals (rows.map (·.v)) us →
    (match valD ks vs y with
    | some d => ∃ p v, atKey (rawR rows us) k = some p ∧ RelV v p.2 ∧ Rep K F θ v d
    | none => atKey (rawR rows us) k = none)
  | [], us, ks, vs, hk, rv, ru => by
    cases ru
    cases ks with
    | nil => rfl
    | cons d ks =>
      simp only [keyOfL, List.map_nil] at hk
      split at hk <;> simp at hk
  | r :: rows, us, ks, vs, hk, rv, ru => by
    cases ks with
    | nil => simp [keyOfL] at hk
    | cons d ks =>
      simp only [keyOfL, List.map_cons] at hk
      split at hk
      · rename_i k1 ks1 h1 h2
        simp only [Option.some.injEq, List.cons.injEq] at hk
        obtain ⟨e1, e2⟩ := hk
        cases rv with
        | @cons _ _ d2 vs2 v1 v2 =>
          cases ru with
          | @cons _ u _ us2 u1 u2 =>
            have ih := val_at (K := K) (F := F) (θ := θ) hy (rows := rows) (us := us2) (ks := ks) (vs := vs2) (by rw [h2, e2]) v2 u2
            by_cases h : d = y
            · subst h
              have ek : r.k = k := by rw [← e1]; rw [h1] at hy; exact Option.some.inj hy
              simp only [valD, if_true]
              refine ⟨(r.b, u), r.v, ?_, u1, v1⟩
              simp [atKey, rawR, ek]
            · have nk : ¬ r.k = k := fun e => h (keyOf_inj d y k (by rw [h1, e1, e]) hy)
              have e3 : atKey (rawR (r :: rows) (u :: us2)) k = atKey (rawR rows us2) k := by
                simp [atKey, rawR, nk]
              simp only [valD, if_neg h]
              rw [e3]
              exact ih
      · cases hk
end
/-! ### d[k] -/
/-- by data: x is a dict that has y -/
def rDG [WC] (K : PySem.W.Frag) : R2 := fun x y H Q => ∃ w d e ks vs kk dv, Wf K H w ∧ Rep K w.F w.θ x d ∧ Rep K w.F w.θ y e ∧ asDct w.μ d = some (ks, vs) ∧ keyOf e = some (.tup kk) ∧ NestedKey.depth (.tup kk) ≤ 8 ∧ valD ks vs e = some dv ∧ ∀ v, Rep K w.F w.θ v dv → Q v H
theorem tup_ref [WC] {K : PySem.W.Frag} {F : Hp} {θ : List Addr} {y : V} {e : D} {kk : List NestedKey} (r : Rep K F θ y e) (h : keyOf e = some (.tup kk)) : ∃ b, y = .ref b := by
  cases r with
  | tup h1 h2 => exact ⟨_, rfl⟩
  | _ => simp [keyOf] at h
theorem ix_dct [WC] {X : Cx} (hu : X.A.units + 9 < cLine) (hw : X.w = WC.w) : IxR X (rDG X.K) := by
  intro value slice pins s σ H x y v u Q I rx ry h hs
  obtain ⟨w, d, e, ks, vs, kk, dv, wf, r1, r2, h1, h2, h3, h4, q⟩ := h
  obtain ⟨a, T, rfl, da⟩ := asDct_ok wf r1 h1
  obtain ⟨b, rfl⟩ := tup_ref r2 h2
  obtain ⟨ru, dd, hm, hl⟩ := dict_at I wf hw da
  have va := val_at (K := X.K) h2 da.key da.rv ru
  rw [h4] at va
  obtain ⟨p, v0, hp, rp, rd⟩ := va
  have hk : (nestedKind X.prog X.w).is s.heap (.tup kk) b := ⟨nested_of I wf.same e _ _ _ r2 h2 rfl, h3⟩
  cases rx
  cases ry
  have got : wpAny (model X.prog X.w) X.A (getItem (.ref a) (.ref b)) (EP X pins σ Q) X.xe s :=
    wpAny_getItem_heap (knd := nestedKind X.prog X.w) (by show X.A.in1.units + 8 < cLine; show X.A.units + 1 + 8 < cLine; omega) hk dd hp ⟨v0, H, I.tok _, rp, q v0 rd⟩
  unfold subscriptTail
  refine wpAny_bind ?_
  rw [getitemInPython_of_ne dd.typeIs.not_modules]
  refine wpAny_bind (wpAny_specialOf dd.typeIs PySem.F.slot_dict_getitem.lookup ?_)
  have last : wpAny (model X.prog X.w) X.A (subscripted slice false (.ref a) (.ref b)) (fun z s3 => wpAny (model X.prog X.w) X.A (letTemporaryGo value (.ref a) z >>= fun _ => pure z) (EP X pins σ Q) X.xe s3) X.xe s := by
    rw [hs]
    exact wpAny_operating (wpAny_mono got (fun z s3 hz => wpAny_bind (wpAny_letTemporaryGo (wpAny_pure hz))) fun _ _ z => z)
  first
    | exact wpAny_pure (wpAny_bind last)
    | exact wpAny_bind (wpAny_pure (wpAny_bind last))
    | exact wpAny_bind last
/-! ### d[k] = v, {} -/
theorem dctO_ok [WC] {P : Program} {H : Hp} {h : Heap} {a : Addr} {T : Tbl} (d : DictN0 WC.w h a T) : ObjOk P WC.w H h a (dctO WC.w a T) := by
  obtain ⟨o, es, ho, r⟩ := d.ob
  refine ⟨d, ⟨o, ho⟩, fun h1 h2 p k => ?_⟩
  obtain ⟨o', es', ho', r'⟩ := p.ob
  exact ⟨⟨o', es', k o' ho', r'⟩, p.vals, p.sm, p.nd, p.dep⟩
def putV : List D → List D → D → D → List D × List D
  | k :: ks, v :: vs, y, x => if k = y then (k :: ks, x :: vs) else ((k :: (putV ks vs y x).1), (v :: (putV ks vs y x).2))
  | _, _, y, x => ([y], [x])
def putR : List Row → NestedKey → Addr → V → List Row
  | r :: rows, k, b, v => if r.k = k then { r with v := v } :: rows else r :: putR rows k b v
  | [], k, b, v => [⟨k, b, v⟩]
def putU : List Row → List Value → NestedKey → Value → List Value
  | r :: rows, u :: us, k, x => if r.k = k then x :: us else u :: putU rows us k x
  | _, _, _, x => [x]
theorem putR_raw {k : NestedKey} {b : Addr} {v : V} {x : Value} : ∀ {rows : List Row} {us : List Value}, rows.length = us.length → (rows.map (·.k)).Nodup → rawR (putR rows k b v) (putU rows us k x) = storedH (rawR rows us) k b x
  | [], us, h, _ => by
    have : us = [] := List.length_eq_zero_iff.mp h.symm
    subst this; rfl
  | r :: rows, [], h, _ => by simp at h
  | r :: rows, u :: us, h, hn => by
    have hl : rows.length = us.length := by simpa using h
    have hn' := List.nodup_cons.mp hn
    by_cases e : r.k = k
    · have s1 : putR (r :: rows) k b v = { r with v := v } :: rows := by simp [putR, e]
      have s2 : putU (r :: rows) (u :: us) k x = x :: us := by simp [putU, e]
      rw [s1, s2]
      have st : storedH (rawR (r :: rows) (u :: us)) k b x = (rawR (r :: rows) (u :: us)).map (putAt k x) := storedH_old (p := (r.b, u)) (by simp [atKey, rawR, e]) b x
      rw [st]
      have rest : (rawR rows us).map (putAt k x) = rawR rows us := by
        have hk : ∀ z ∈ rawR rows us, z.1 ≠ k := fun z hz ez => by
          have : z.1 ∈ (rawR rows us).map (·.1) := List.mem_map.mpr ⟨z, hz, rfl⟩
          rw [rawR_keys hl, ez, ← e] at this
          exact hn'.1 this
        conv => rhs; rw [← List.map_id (rawR rows us)]
        exact List.map_congr_left fun z hz => by simp [putAt, hk z hz]
      simp only [rawR, List.zip_cons_cons, List.map_cons] at rest ⊢
      rw [rest]
      simp [putAt, e]
    · have s1 : putR (r :: rows) k b v = r :: putR rows k b v := by simp [putR, e]
      have s2 : putU (r :: rows) (u :: us) k x = u :: putU rows us k x := by simp [putU, e]
      have ih := putR_raw (k := k) (b := b) (v := v) (x := x) (rows := rows) (us := us) hl hn'.2
      rw [s1, s2]
      have e1 : rawR (r :: putR rows k b v) (u :: putU rows us k x) = (r.k, r.b, u) :: rawR (putR rows k b v) (putU rows us k x) := rfl
      have e2 : rawR (r :: rows) (u :: us) = (r.k, r.b, u) :: rawR rows us := rfl
      rw [e1, ih, e2]
      unfold storedH
      have e3 : atKey ((r.k, r.b, u) :: rawR rows us) k = atKey (rawR rows us) k := by simp [atKey, e]
      rw [e3]
      split
      · simp [putAt, e]
      · simp
theorem putR_vals {k : NestedKey} {b : Addr} {v : V} {x : Value} (rx : RelV v x) : ∀ {rows : List Row} {us : List Value}, Vals (rows.map (·.v)) us → Vals ((putR rows k b v).map (·.v)) (putU rows us k x)
  | [], us, h => by cases h; exact .cons rx .nil
  | r :: rows, us, h => by
    cases h with
    | cons h1 h2 =>
      by_cases e : r.k = k
      · simp only [putR, putU, e, if_true, List.map_cons]; exact .cons rx h2
      · simp only [putR, putU, e, if_false, List.map_cons]; exact .cons h1 (putR_vals rx h2)
theorem putU_len {k : NestedKey} {b : Addr} {v : V} {x : Value} : ∀ {rows : List Row} {us : List Value}, rows.length = us.length → (putR rows k b v).length = (putU rows us k x).length
  | [], us, h => by
    have : us = [] := List.length_eq_zero_iff.mp h.symm
    subst this; rfl
  | r :: rows, [], h => by simp at h
  | r :: rows, u :: us, h => by
    by_cases e : r.k = k
    · simp only [putR, putU, e, if_true, List.length_cons]; simpa using h
    · simp only [putR, putU, e, if_false, List.length_cons]; rw [putU_len (by simpa using h)]
theorem putR_rep [WC] {K : PySem.W.Frag} {F : Hp} {θ : List Addr} {k : NestedKey} {b : Addr} {v : V} {y dv : D} (hy : keyOf y = some k) (ry : Rep K F θ (.ref b) y) (rv : Rep K F θ v dv) : ∀ {rows : List Row} {ks vs : List D}, keyOfL ks = some (rows.map (·.k)) → RepL K F θ (rows.map fun r => .ref r.b) ks → RepL K F θ (rows.map (·.v)) vs →
    keyOfL (putV ks vs y dv).1 = some ((putR rows k b v).map (·.k)) ∧ RepL K F θ ((putR rows k b v).map fun r => .ref r.b) (putV ks vs y dv).1 ∧ RepL K F θ ((putR rows k b v).map (·.v)) (putV ks vs y dv).2
  | [], ks, vs, hk, rk, rs => by
    cases rk; cases rs
    refine ⟨?_, .cons ry .nil, .cons rv .nil⟩
    simp only [putV, keyOfL, hy]
    rfl
  | r :: rows, ks, vs, hk, rk, rs => by
    cases rk with
    | @cons _ _ d ks2 k1 k2 =>
      cases rs with
      | @cons _ _ d2 vs2 v1 v2 =>
        simp only [keyOfL, List.map_cons] at hk
        split at hk
        · rename_i c cs h1 h2
          simp only [Option.some.injEq, List.cons.injEq] at hk
          obtain ⟨e1, e2⟩ := hk
          by_cases h : d = y
          · subst h
            have ek : r.k = k := by rw [← e1]; rw [h1] at hy; exact Option.some.inj hy
            have s1 : putR (r :: rows) k b v = { r with v := v } :: rows := by simp [putR, ek]
            have s2 : putV (d :: ks2) (d2 :: vs2) d dv = (d :: ks2, dv :: vs2) := by simp [putV]
            rw [s1, s2]
            refine ⟨?_, .cons k1 k2, .cons rv v2⟩
            simp only [keyOfL, h1, h2, List.map_cons, e1, e2]
          · have nk : ¬ r.k = k := fun e => h (keyOf_inj d y k (by rw [h1, e1, e]) hy)
            have s1 : putR (r :: rows) k b v = r :: putR rows k b v := by simp [putR, nk]
            have s2 : putV (d :: ks2) (d2 :: vs2) y dv = (d :: (putV ks2 vs2 y dv).1, d2 :: (putV ks2 vs2 y dv).2) := by simp [putV, h]
            obtain ⟨i1, i2, i3⟩ := putR_rep hy ry rv (rows := rows) (ks := ks2) (vs := vs2) (by rw [h2, e2]) k2 v2
            rw [s1, s2]
            refine ⟨?_, .cons k1 i2, .cons v1 i3⟩
            simp only [keyOfL, h1, i1, List.map_cons, e1]
        · cases hk
section
variable [WC] {K : PySem.W.Frag} {H : Hp} {w : Wd}
/-- a thing of the store is changed -/
theorem Wf.set_ob (wf : Wf K H w) {n : Nat} {a : Addr} {o : HO} {u : Ob} (hn : w.θ[n]? = some a) (new : ObR K { w with μ := w.μ.set n u } (upd H a o) a u) : Wf K (upd H a o) { w with μ := w.μ.set n u } := by
  refine ⟨fun b z h => ?_, ?_, wf.nd, wf.out, fun i b z h h' => ?_⟩
  · have q := wf.same b z h
    have : b ≠ a := fun e => by
      have := wf.out n a hn
      subst e
      rw [show w.F b = none from this] at h
      cases h
    rw [upd_ne this]; exact q
  · show w.θ.length = (w.μ.set n _).length
    rw [List.length_set]; exact wf.len
  · have h1 : w.θ[i]? = some b := h
    have h2 : (w.μ.set n u)[i]? = some z := h'
    by_cases e : i = n
    · subst e
      have hb : b = a := by rw [hn] at h1; exact (Option.some.inj h1).symm
      subst hb
      have hi : i < w.μ.length := by rw [← wf.len]; exact (List.getElem?_eq_some_iff.mp hn).1
      rw [List.getElem?_set_self hi] at h2
      cases h2
      exact new
    · rw [List.getElem?_set_ne (Ne.symm e)] at h2
      have hb : b ≠ a := fun q => by
        subst q
        have h3 := List.getElem?_eq_some_iff.mp h1
        have h4 := List.getElem?_eq_some_iff.mp hn
        exact e ((List.getElem_inj wf.nd).mp (h3.2.trans h4.2.symm))
      exact (wf.ob i b z h1 h2).mono (Same.refl _) (List.prefix_refl _) (upd_ne hb)
theorem Wf.mk_ob (wf : Wf K H w) {p : Addr} {o : HO} {u0 : Ob} (hp : H p = none) (new : ObR K (w.mk_ p u0) (upd H p o) p u0) : Wf K (upd H p o) (w.mk_ p u0) := by
  have ne : ∀ a, a ∈ w.θ → a ≠ p := fun a h e => wf.live h (e ▸ hp)
  have Fp := wf.frz_new hp
  refine ⟨fun a u h => ?_, ?_, ?_, fun i a h => ?_, fun i a u h h' => ?_⟩
  · have q := wf.same a u h
    rw [upd_ne (ne_of_none q hp)]; exact q
  · show (w.θ ++ [p]).length = (w.μ ++ [_]).length
    simp [wf.len]
  · show (w.θ ++ [p]).Nodup
    exact List.nodup_append.mpr ⟨wf.nd, by simp, fun a ha b hb e => ne a ha (e.trans (List.mem_singleton.mp hb))⟩
  · have h1 : (w.θ ++ [p])[i]? = some a := h
    rcases Nat.lt_or_ge i w.θ.length with hi | hi
    · rw [List.getElem?_append_left hi] at h1
      exact wf.out i a h1
    · rw [List.getElem?_append_right hi] at h1
      have : a = p := by
        have := List.mem_of_getElem? h1
        simpa using this
      rw [this]; exact Fp
  · have h1 : (w.θ ++ [p])[i]? = some a := h
    have h2 : (w.μ ++ [u0])[i]? = some u := h'
    rcases Nat.lt_or_ge i w.θ.length with hi | hi
    · rw [List.getElem?_append_left hi] at h1
      rw [List.getElem?_append_left (by rw [← wf.len]; exact hi)] at h2
      exact (wf.ob i a u h1 h2).mono (w := w) (w' := w.mk_ p u0) (Same.refl _) (List.prefix_append _ _) (upd_ne (ne a (List.mem_of_getElem? h1)))
    · rw [List.getElem?_append_right hi] at h1
      rw [List.getElem?_append_right (by rw [← wf.len]; exact hi)] at h2
      have e1 : a = p := by
        have := List.mem_of_getElem? h1
        simpa using this
      have e2 : u = u0 := by
        have := List.mem_of_getElem? h2
        simpa using this
      subst e1 e2
      exact new
end
/-- by data: o is a dict that may change, i a key -/
def rSD [WC] (K : PySem.W.Frag) : V → V → V → Hp → (Hp → Prop) → Prop := fun o i v H Q => ∃ w n e dv ver ks vs kk, Wf K H w ∧ Rep K w.F w.θ o (.ptr n) ∧ Rep K w.F w.θ i e ∧ Rep K w.F w.θ v dv ∧ w.μ[n]? = some (.dct ver ks vs) ∧ keyOf e = some (.tup kk) ∧ NestedKey.depth (.tup kk) ≤ 8 ∧ ks.length ≤ 1000000 ∧
  ∀ H', Wf K H' { w with μ := w.μ.set n (.dct (ver + 1) (putV ks vs e dv).1 (putV ks vs e dv).2) } → Ext H w H' { w with μ := w.μ.set n (.dct (ver + 1) (putV ks vs e dv).1 (putV ks vs e dv).2) } → Q H'
theorem rawR_len {rows : List Row} {us : List Value} (h : rows.length = us.length) : (rawR rows us).length = rows.length := by simp [rawR, h]
/-- the raw side of a store -/
theorem sd_core [WC] {X : Cx} (hw : X.w = WC.w) {pins : List (Addr × Obj)} {s : Shared} {σ : L2.St} {H : Hp} {o i v : V} {ov iv u : Value} {Q : Hp → Prop} (I : Inv X pins σ H s) (ro : RelV o ov) (ri : RelV i iv) (rv : RelV v u) (h : rSD X.K o i v H Q) :
    ∃ a b kk xs, ov = .ref a ∧ iv = .ref b ∧ (nestedKind X.prog X.w).is s.heap kk b ∧ s.heap.DictOfH (nestedKind X.prog X.w) a xs ∧ xs.length ≤ sizeLine ∧
      ∀ h' tk, h'.DictOfH (nestedKind X.prog X.w) a (storedH xs kk b u) → Heap.SameBut a s.heap h' → ∃ H', Inv X pins σ H' { s with heap := h', toks := tk } ∧ Q H' := by
  obtain ⟨w, n, e, dv, ver, ks, vs, kk, wf, r1, r2, r3, hn, h2, h3, hz, q⟩ := h
  cases r1 with
  | @ptr a _ h1 =>
    obtain ⟨o1, h4, h5⟩ := wf.some_of h1
    have hn0 := hn
    rw [hn] at h4
    cases h4
    obtain ⟨⟨rows, us, ep0⟩, ha, hkey, hrk, hrv⟩ := h5
    obtain ⟨b, rfl⟩ := tup_ref r2 h2
    have da : DAt X.K H w a ⟨rows, us, ep0⟩ ks vs := ⟨ha, hkey, hrk, hrv⟩
    obtain ⟨ru, dd, hm, hl⟩ := dict_at I wf hw da
    have ru : Vals (rows.map (·.v)) us := ru
    have hl : rows.length = us.length := hl
    have dd : s.heap.DictOfH (nestedKind X.prog X.w) a (rawR rows us) := dd
    have hkey : keyOfL ks = some (rows.map (·.k)) := hkey
    have hrk : RepL X.K w.F w.θ (rows.map fun r => .ref r.b) ks := hrk
    have hrv : RepL X.K w.F w.θ (rows.map (·.v)) vs := hrv
    have hk : (nestedKind X.prog X.w).is s.heap (.tup kk) b := ⟨nested_of I wf.same e _ _ _ r2 h2 rfl, h3⟩
    cases ro
    cases ri
    have d0 : DictN0 WC.w s.heap a ⟨rows, us, ep0⟩ := (I.hok a _ ha).1
    have nd : (rows.map (·.k)).Nodup := d0.nd
    have d8 : ∀ r ∈ rows, r.k.depth ≤ 8 := d0.dep
    have hks : rows.length = ks.length := by have := hrk.length; rw [List.length_map] at this; exact this
    refine ⟨a, b, .tup kk, rawR rows us, rfl, rfl, hk, dd, by rw [rawR_len hl, line16]; omega, fun h' tk dd' hs => ?_⟩
    rw [← putR_raw (v := v) hl nd] at dd'
    obtain ⟨o2, es, ep, ho, hx, hd, he, his, hnd⟩ := dd'
    have hlU := putU_len (k := .tup kk) (b := b) (v := v) (x := u) hl
    have newD : DictN0 WC.w h' a ⟨putR rows (.tup kk) b v, putU rows us (.tup kk) u, ep⟩ := by
      refine ⟨⟨o2, es, ho, hx, hd, ?_⟩, putR_vals rv ru, hm, ?_, fun r hr => ?_⟩
      · rw [he, ← hw]
        simp only [rawR, List.map_map, Tbl.es]
        rfl
      · show ((putR rows (.tup kk) b v).map (·.k)).Nodup
        rw [← rawR_keys hlU]; exact hnd
      · have hr : r ∈ putR rows (.tup kk) b v := hr
        have : r.k ∈ (rawR (putR rows (.tup kk) b v) (putU rows us (.tup kk) u)).map (·.1) := by
          rw [rawR_keys hlU]; exact List.mem_map.mpr ⟨r, hr, rfl⟩
        obtain ⟨z, hz', ez⟩ := List.mem_map.mp this
        rw [← ez]; exact (his z hz').2
    have ok : ObjOk X.prog X.w (upd H a (dctO WC.w a ⟨putR rows (.tup kk) b v, putU rows us (.tup kk) u, ep⟩)) h' a (dctO WC.w a ⟨putR rows (.tup kk) b v, putU rows us (.tup kk) u, ep⟩) := by
      rw [hw]; exact dctO_ok newD
    have J : Inv X pins σ (upd H a (dctO WC.w a ⟨putR rows (.tup kk) b v, putU rows us (.tup kk) u, ep⟩)) { s with heap := h', toks := tk } :=
      I.write (x := a) (e := a) (by rw [ha]; exact True.intro) (.inl rfl) (fun c z hc hz => (hs.2 c hc).trans hz) ⟨o2, ho⟩ ok
    obtain ⟨p1, p2, p3⟩ := putR_rep h2 r2 r3 hkey hrk hrv
    refine ⟨_, J, q _ (wf.set_ob h1 ?_) (Ext.set_lst wf h1 fun v ks vs e => ⟨ver + 1, _, _, rfl, by rw [hn0] at e; cases e; exact Nat.lt_succ_self _⟩)⟩
    exact ⟨⟨putR rows (.tup kk) b v, putU rows us (.tup kk) u, ep⟩, upd_same, p1, p2, p3⟩
theorem set_dct [WC] {X : Cx} (hu : X.A.units + 9 < cLine) (hw : X.w = WC.w) : PSet X (rSD X.K) := by
  intro pins s σ H o i v ov iv u Q I ro ri rv h
  obtain ⟨a, b, kk, xs, rfl, rfl, hk, dd, hz, k⟩ := sd_core hw I ro ri rv h
  exact wpAny_setItem_heap (knd := nestedKind X.prog X.w) (hsz := hz) (by show X.A.units + 1 + 8 < cLine; omega) hk dd fun h' dd' hs => k h' _ dd' hs
/-- the same within a display -/
theorem set_dctN [WC] {X : Cx} (hu : X.A.units + 9 < cLine) (hw : X.w = WC.w) {pins : List (Addr × Obj)} {s : Shared} {σ : L2.St} {H : Hp} {o i v : V} {a : Addr} {iv u : Value} {Q : Hp → Prop} (I : Inv X pins σ H s) (ro : RelV o (.ref a)) (ri : RelV i iv) (rv : RelV v u) (h : rSD X.K o i v H Q) :
    wpAny (model X.prog X.w) X.A (dictSet a iv u) (fun _ s' => ∃ H', Inv X pins σ H' s' ∧ Q H') X.xe s := by
  obtain ⟨a', b, kk, xs, e, rfl, hk, dd, hz, k⟩ := sd_core hw I ro ri rv h
  cases e
  exact wpAny_dictSet_heap (hsz := hz) (by show X.A.units + 8 < cLine; omega) hk dd fun h' dd' hs => k h' _ dd' hs
/-! the words -/
def dep8 (k : List NestedKey) : Bool := Nat.ble (NestedKey.depth (.tup k)) 8
theorem dep8_ok {k : List NestedKey} (h : dep8 k = true) : NestedKey.depth (.tup k) ≤ 8 := by simpa [dep8, Nat.ble_eq] using h
/-- x[y]: of a dict, or as gIx -/
def gIxA : D → D → M D := fun x y μ => match asDct μ x with
  | some (ks, vs) => match keyOf y with
    | some (.tup k) => if dep8 k = true then (match valD ks vs y with
      | some d => .ok d μ
      | none => .bad) else .bad
    | _ => .bad
  | none => gIx x y μ
section
variable [WC] {X : Cx} {W : WX} {a b o e e2 : Expr} {f h k : Env → M D} {pos : Pos}
theorem v_ixA (K : PySem.W.Frag) : VOp K (fun x y H Q => rIx K x y H Q ∨ rDG K x y H Q) gIxA := by
  intro H w x y d e Q E wf rx ry P
  simp only [gIxA] at P
  cases e1 : asDct w.μ d with
  | none => rw [e1] at P; exact .inl (v_ix K H w x y d e Q E wf rx ry P)
  | some p =>
    obtain ⟨ks, vs⟩ := p
    rw [e1] at P
    simp only at P
    split at P
    · rename_i kk hk
      split at P
      · rename_i hd
        cases e2 : valD ks vs e with
        | none => rw [e2] at P; exact P.elim
        | some dv =>
          rw [e2] at P
          exact .inr ⟨w, d, e, ks, vs, kk, dv, wf, rx, ry, e1, hk, dep8_ok hd, e2, fun v rv => P H w rfl (Ext.refl _ _) wf v rv⟩
      · exact P.elim
    · exact P.elim
theorem ed_ixA (hu : X.A.units + 9 < cLine) (hw : X.w = WC.w) (ha : ED X W a f) (hb : ED X W b h) (hs : PlainIx b) : ED X W (.Subscript a b pos) (eBin gIxA f h) :=
  PE_imp (pe_ix (ix_seq.or (ix_dct hu hw)) ha hb hs) fun σ H Q ⟨ρ, w, S, P⟩ => tE_bind S P fun d v H1 w1 _ S1 r1 P1 => tE_bind S1 P1 fun e u H2 w2 x2 S2 r2 P2 => v_ixA X.K H2 w2 v u d e Q _ S2.wf (x2.rep r1) r2 P2
/-- x[y] = d, x a dict that may change -/
def putDM (x y d : D) : M Unit := fun μ => match x, keyOf y with
  | .ptr n, some (.tup k) => match μ[n]? with
    | some (.dct ver ks vs) => if (dep8 k && Nat.ble ks.length 1000000) = true then .ok () (μ.set n (.dct (ver + 1) (putV ks vs y d).1 (putV ks vs y d).2)) else .bad
    | _ => .bad
  | _, _ => .bad
def sPutD (o k f : Env → M D) : SM := fun ρ => Mbind (f ρ) fun d => Mbind (o ρ) fun x => Mbind (k ρ) fun y => Mbind (putDM x y d) fun _ => Mret (.nx ρ)
theorem sd_putD {i : Expr} {p2 : Pos} (hu : X.A.units + 9 < cLine) (hw0 : X.w = WC.w) (hv : ED X W a f) (ho : ED X W o h) (hi : ED X W i k)
    (ha : ∀ v, assign (.Subscript o i p2) X.env v = (do
      let ov ← holding [v] (eval o X.env)
      let iv ← holding [v, ov] (eval i X.env)
      standAt p2
      holding [v, ov, iv] (setItem ov iv v)
      release [v, ov, iv] []) := by intro _; rfl) (hs : swapsWithSole [.Subscript o i p2] a pos.line X.env = pure false := by rfl) (hw : swappedStores [.Subscript o i p2] a X.env = pure none := by rfl)
    (h1 : (assignEach [.Subscript o i p2] X.env).map (·.2) = [assign (.Subscript o i p2) X.env] := by rfl) : SD X W (.Assign [.Subscript o i p2] a pos) (sPutD h k f) :=
  PS_imp (ps_asg hv (pg_sub ho hi (set_dct hu hw0) ha) hs hw h1) fun De σ H ⟨ρ, w, S, P⟩ => tE_bindS S P fun d v H1 w1 x1 S1 r1 P1 => tE_bindS S1 P1 fun d2 v2 H2 w2 x2 S2 r2 P2 => tE_bindS S2 P2 fun d3 v3 H3 w3 x3 S3 r3 P3 => by
    have r1' := x3.rep (x2.rep r1)
    have r2' := x3.rep r2
    have P4 := post_bind P3
    simp only [putDM] at P4
    split at P4
    · rename_i n kk hk
      cases e1 : w3.μ[n]? with
      | none => rw [e1] at P4; exact P4.elim
      | some ob =>
        rw [e1] at P4
        cases ob with
        | kd fs => exact P4.elim
        | lst xs => exact P4.elim
        | dct ver ks vs =>
          simp only at P4
          split at P4
          · rename_i hz
            rw [Bool.and_eq_true, Nat.ble_eq] at hz
            refine ⟨w3, n, d3, d, ver, ks, vs, kk, S3.wf, r2', r3, r1', e1, hk, dep8_ok hz.1, hz.2, fun H' wf' x' => ?_⟩
            have P5 := P4 H' _ rfl x' wf'
            exact post_ret P5 wf' σ (S3.ext x' wf')
          · exact P4.elim
    · exact P4.elim
/-- {} -/
def eDNew : Env → M D := fun _ μ => .ok (.ptr μ.length) (μ ++ [.dct 0 [] []])
def eDNewF : Env → M D := fun _ => Mret (.dct [] [])
theorem dict_new {h : Heap} (hb : sysModules < h.objs.size) : DictN0 WC.w (h.push { cls := .type "dict", data := .dict #[] }) h.objs.size ⟨[], [], 0⟩ :=
  ⟨⟨_, #[], Heap.get?_push_size _ rfl, ⟨rfl, rfl, rfl⟩, rfl, rfl⟩, .nil, beq_eq_false_iff_ne.mpr (Nat.ne_of_gt hb), List.nodup_nil, fun _ hr => (nomatch hr)⟩
def tDN : TE := fun _ H Q => ∀ p, H p = none → Q (.ref p) (upd H p (dctO WC.w p ⟨[], [], 0⟩))
theorem pe_dnewN (hw : X.w = WC.w) : PE X (.Dict [] [] pos) tDN := ⟨fun pins s σ H Q I h => by
  have ok : ObjOk X.prog X.w (upd H s.heap.objs.size (dctO WC.w s.heap.objs.size ⟨[], [], 0⟩)) (s.heap.push { cls := .type "dict", data := .dict #[] }) s.heap.objs.size (dctO WC.w s.heap.objs.size ⟨[], [], 0⟩) := by
    rw [hw]; exact dctO_ok (dict_new I.big)
  exact wpAny_Dict_empty ⟨.ref s.heap.objs.size, _, I.laid (a := s.heap.objs.size) (o := dctO WC.w s.heap.objs.size ⟨[], [], 0⟩) (t' := s.toks) (fun _ _ q => Heap.get?_push_of_some _ q) (Nat.le_refl _) ok, rfl, h _ (I.hok.fresh (Nat.le_refl _))⟩⟩
theorem ed_dnew (hw : X.w = WC.w) : ED X W (.Dict [] [] pos) eDNew :=
  PE_imp (pe_dnewN hw) fun σ H Q ⟨ρ, w, S, P⟩ p hp => by
    have wf := S.wf.mk_ob (o := dctO WC.w p ⟨[], [], 0⟩) (u0 := .dct 0 [] []) hp ⟨⟨[], [], 0⟩, upd_same, rfl, .nil, .nil⟩
    refine P _ (w.mk_ p (.dct 0 [] [])) rfl (Ext.mk_ S.wf hp) wf _ (.ptr ?_)
    show (w.θ ++ [p])[w.μ.length]? = some p
    rw [← S.wf.len]; simp
theorem ed_dnewF (hw : X.w = WC.w) : ED X W (.Dict [] [] pos) eDNewF :=
  PE_imp (pe_dnewN hw) fun σ H Q ⟨ρ, w, S, P⟩ p hp => by
    have P' : Post X.K H w (.ok (.dct [] []) w.μ) (QV X.K Q) (EW X.K X.mg W σ) := P
    exact post_new P' S.wf hp (.dct upd_same rfl .nil .nil)
end
/-! ### the keys of a dict, walked -/
def Itn [WC] (a : Addr) (T : Tbl) : It :=
  ⟨fun i H => H a = some (dctO WC.w a T) ∧ i < T.rows.length, fun i H x H' => H' = H ∧ ∃ r, T.rows[i]? = some r ∧ x = .ref r.b, fun i H => H a = some (dctO WC.w a T) ∧ T.rows.length ≤ i⟩
section
variable [WC] {X : Cx} {W : WX} {tg e : Expr} {f : Env → M D}
theorem tbl_entry {w : World} {T : Tbl} {es : Array DictEntry} (he : es.toList = T.es w) (hl : T.rows.length = T.us.length) {i : Nat} {r : Row} (hr : T.rows[i]? = some r) : ∃ en, es[i]? = some en ∧ en.key = .ref r.b := by
  have hi := (List.getElem?_eq_some_iff.mp hr).1
  have hu : T.us[i]? = some T.us[i] := List.getElem?_eq_getElem (by omega)
  refine ⟨⟨r.k.hash w, .ref r.b, T.us[i]⟩, ?_, rfl⟩
  rw [← Array.getElem?_toList, he]
  have hz : (T.rows.zip T.us)[i]? = some (r, T.us[i]) := List.getElem?_zip_eq_some.mpr ⟨hr, hu⟩
  simp only [Tbl.es, List.getElem?_map, hz, Option.map_some]
theorem tbl_size {w : World} {T : Tbl} {es : Array DictEntry} (he : es.toList = T.es w) (hl : T.rows.length = T.us.length) : es.size = T.rows.length := by
  rw [← Array.length_toList, he]
  simp [Tbl.es, hl]
theorem tbl_len {w : World} {h : Heap} {a : Addr} {T : Tbl} (d : DictN0 w h a T) : T.rows.length = T.us.length := by
  have := d.vals.length; rw [List.length_map] at this; exact this
theorem turn_n {P : Program} {K : PySem.W.Frag} {w : World} (hw : w = WC.w) (d it : Addr) (T : Tbl) : Turn P w K tg (Itn d T) [it] it (fun i h => h.IsKeyIter it d i T.rows.length T.ep) where
  mem := by simp
  obj := fun i h st b hb => by
    have e : b = it := by simpa using hb
    subst e
    obtain ⟨oi, e, c, dd⟩ := st
    exact ⟨oi, e, fun v z => by rw [dd] at z; cases z⟩
  keep := fun i h h' st k => st.at fun oi e => k it (by simp) oi e
  item := by
    intro X hP hw' hK hc i pins s σ H E I hf st hg
    subst hP hw' hK
    obtain ⟨hd, hi⟩ := hg
    obtain ⟨f0, f1, f2, f3, f4, f5⟩ := hf it (by simp)
    have d0 : DictN0 WC.w s.heap d T := (I.hok d _ hd).1
    obtain ⟨o, es, ho, hx, hdt, he⟩ := d0.ob
    have hl := tbl_len d0
    obtain ⟨r, hr⟩ : ∃ r, T.rows[i]? = some r := ⟨T.rows[i], List.getElem?_eq_getElem hi⟩
    obtain ⟨en, hen, hkey⟩ := tbl_entry he hl hr
    refine next_key_item st ho hdt (tbl_size he hl) hen fun h' st' sb => ?_
    have I1 : Inv X pins σ H { s with heap := h' } := I.turned (t' := s.toks) (fun b ob hb e => (sb.2 b hb).trans e) f0 f1 f3 f4 f5
    obtain ⟨oi, e, c, dd⟩ := id st'
    exact ⟨en.key, rfl, go_of (s := { s with heap := h' }) e c dd (by decide) ⟨.ref r.b, H, I1, hkey, ⟨rfl, r, hr, rfl⟩, st', fun b hb => (hf b hb).1⟩⟩
  done := by
    intro X hP hw' hK hc i pins s σ H E I hf st hg
    subst hP hw' hK
    obtain ⟨hd, hi⟩ := hg
    obtain ⟨f0, f1, f2, f3, f4, f5⟩ := hf it (by simp)
    have d0 : DictN0 WC.w s.heap d T := (I.hok d _ hd).1
    obtain ⟨o, es, ho, hx, hdt, he⟩ := d0.ob
    exact next_key_end (I.ok.hd hc) st ho hdt (tbl_size he (tbl_len d0)) hi fun h' eb => ⟨rfl, I.turned (t' := s.toks) (fun b ob hb e => eb b ob hb e) f0 f1 f3 f4 f5⟩
  self := fun A i s Q E st h => by
    refine wpAny_pyIter_slot st.typeIs PySem.F.slot_dict_keyiterator_iter (wpAny_call_entry PySem.F.slot_dict_keyiterator_iter st.typeIs PySem.F.entry_dict_keyiterator_iter ?_ (PySem.F.args_dict_keyiterator_iter_1 _))
    show wpAny _ _ (ret (.ref it)) _ _ s
    exact wpAny_pure ⟨_, rfl, "dict_keyiterator", _, st.typeIs, PySem.F.slot_dict_keyiterator_next.lookup, h⟩
def wDct (tl : TE) : TI := fun σ H R => tl σ H fun x H1 => ∃ a T, x = .ref a ∧ H1 a = some (dctO WC.w a T) ∧ R (Itn a T) H1
theorem pi_dct {tl : TE} (hw : X.w = WC.w) (hl : PE X e tl) : PI X tg e (wDct tl) := by
  constructor
  intro pins s σ H R I q0
  refine thn (hl.run pins s σ H _ I q0) fun v s1 ⟨x, H1, I1, r1, a, T, ex, ha, q1⟩ => ?_
  subst ex
  cases r1
  have nw : ∀ b ∈ [s1.heap.objs.size], FpOk X pins H1 b := fun b hb => by
    rw [List.mem_singleton.mp hb]
    exact I1.fpOk (Nat.le_refl _) (I1.hok.fresh (Nat.le_refl _))
  have d0 : DictN0 WC.w s1.heap a T := (I1.hok a _ ha).1
  obtain ⟨o, es, ho, hx, hdt, he⟩ := d0.ob
  have hz := tbl_size he (tbl_len d0)
  refine iter_keys d0.sm ho hx hdt ⟨_, [s1.heap.objs.size], _, _, H1, rfl, I1.kept (t' := s1.toks) fun b o e => Heap.get?_push_of_some _ e, turn_n hw a s1.heap.objs.size T, ⟨_, Heap.get?_push_size _ rfl, rfl, ?_⟩, nw, q1⟩
  rw [hz]; rfl
end
/-- the dict at n of the store was not changed -/
def holdsD (n v : Nat) : Store → Bool := fun μ => match μ[n]? with
  | some (.dct v' _ _) => Nat.beq v v'
  | _ => false
/-- the keys as they stand: of a dict that is only read, of one that may change (as long as it does not) -/
def gSeqD (d : D) : M (List D × (Store → Bool)) := fun μ => match d with
  | .dct ks _ => .ok (ks, always) μ
  | .ptr n => match μ[n]? with
    | some (.dct v ks _) => .ok (ks, holdsD n v) μ
    | _ => .bad
  | _ => .bad
def iDct (f : Env → M D) : IM := fun ρ => Mbind (f ρ) gSeqD
section
variable [WC] {X : Cx} {W : WX} {tg e : Expr} {f : Env → M D}
theorem walk_dct {K : PySem.W.Frag} {H0 : Hp} {w : Wd} {a : Addr} {T : Tbl} {ks : List D} {c : Store → Bool} (h : ∀ (H : Hp) (w' : Wd), Same w.F w'.F → w.θ <+: w'.θ → Kept H0 w H w' → Wf K H w' → c w'.μ = true → H a = some (dctO WC.w a T)) (rk : RepL K w.F w.θ (T.rows.map fun r => .ref r.b) ks) : Walk K H0 w (Itn a T) ks c where
  go := fun i d H w' h1 h2 hk wf hc hd => by
    obtain ⟨v, hv, rv⟩ := (rk.mono h1 h2).at hd
    rw [List.getElem?_map, Option.map_eq_some_iff] at hv
    obtain ⟨r, hr, rfl⟩ := hv
    refine ⟨⟨h H w' h1 h2 hk wf hc, (List.getElem?_eq_some_iff.mp hr).1⟩, fun x H' ⟨e, r', hr', ex⟩ => ⟨w', rfl, by rw [e]; exact Ext.refl _ _, by rw [e]; exact wf, ?_⟩⟩
    rw [hr] at hr'
    cases hr'
    rw [ex]; exact rv
  stop := fun H w' h1 h2 hk wf hc => ⟨h H w' h1 h2 hk wf hc, by have := rk.length; rw [List.length_map] at this; omega⟩
theorem id_dct (hw : X.w = WC.w) (ha : ED X W e f) : ID X W tg e (iDct f) :=
  PI_imp (pi_dct hw ha) fun σ H R ⟨ρ, w, S, P⟩ => tE_bind S P fun d v H1 w1 _ S1 r1 P1 => by
    cases d with
    | dct ks vs =>
      cases r1 with
      | @dct a T _ _ h1 h2 h3 h4 => exact ⟨a, T, rfl, S1.wf.same _ _ h1, post_ret (show Post X.K H1 w1 (Mret (ks, always) w1.μ) _ _ from P1) S1.wf _ (walk_dct (fun H w' g1 _ _ wf _ => wf.same _ _ (g1 _ _ h1)) h3)⟩
    | ptr n =>
      cases r1 with
      | @ptr a _ h1 =>
        obtain ⟨o, h3, h4⟩ := S1.wf.some_of h1
        simp only [gSeqD, h3] at P1
        cases o with
        | lst xs => exact P1.elim
        | kd fs => exact P1.elim
        | dct ver ks vs =>
          obtain ⟨T, h5, h6, h7, h8⟩ := h4
          refine ⟨a, T, rfl, h5, post_ret (show Post X.K H1 w1 (Mret (ks, holdsD n ver) w1.μ) _ _ from P1) S1.wf _ (walk_dct (fun H w' g1 g2 hk wf hc => ?_) h7)⟩
          obtain ⟨v', ks', vs', e1, l, e2⟩ := hk n a ver ks vs h1 h3
          have hc : holdsD n ver w'.μ = true := hc
          simp only [holdsD, e1] at hc
          exact (e2 (Nat.eq_of_beq_eq_true hc)).trans h5
    | _ => exact P1.elim
end
end DL
namespace DL
open PySem PySem.Spec PyProof.Rows L2
variable [WC]
/-! ### d.get(k, x), k in d, len(d), d == {}, list(d), {k: v} -/
def chkD (x : D) : M Unit := fun μ => match asDct μ x with
  | some _ => .ok () μ
  | none => .bad
def kGet (x y z : D) : M D := fun μ => match asDct μ x, keyOf y with
  | some (ks, vs), some (.tup k) => if dep8 k = true then .ok ((valD ks vs y).getD z) μ else .bad
  | _, _ => .bad
def eGet (f h k : Env → M D) : Env → M D := fun ρ => Mbind (f ρ) fun x => Mbind (chkD x) fun _ => Mbind (h ρ) fun y => Mbind (k ρ) fun z => kGet x y z
/-- a dict that has the keys ks, the values vs; a key -/
structure DKey (K : PySem.W.Frag) (H : Hp) (w : Wd) (x y : V) (ks vs : List D) (e : D) (kk : List NestedKey) : Prop where
  wf : Wf K H w
  at_ : ∃ d, Rep K w.F w.θ x d ∧ asDct w.μ d = some (ks, vs)
  rk : Rep K w.F w.θ y e
  key : keyOf e = some (.tup kk)
  dep : NestedKey.depth (.tup kk) ≤ 8
/-- the raw side of it -/
theorem DKey.raw {X : Cx} {pins : List (Addr × Obj)} {σ : L2.St} {H : Hp} {s : Shared} {w : Wd} {x y : V} {ks vs : List D} {e : D} {kk : List NestedKey} (k : DKey X.K H w x y ks vs e kk) (I : Inv X pins σ H s) (hw : X.w = WC.w) :
    ∃ (a b : Addr) (T : Tbl), x = .ref a ∧ y = .ref b ∧ (nestedKind X.prog X.w).is s.heap (.tup kk) b ∧ s.heap.DictOfH (nestedKind X.prog X.w) a (rawR T.rows T.us) ∧ (a == sysModules) = false ∧ T.rows.length = ks.length ∧ T.rows.length = T.us.length ∧
      (match valD ks vs e with
    | some d => ∃ p v, atKey (rawR T.rows T.us) (.tup kk) = some p ∧ RelV v p.2 ∧ Rep X.K w.F w.θ v d
    | none => atKey (rawR T.rows T.us) (.tup kk) = none) := by
  obtain ⟨wf, ⟨d, r1, h1⟩, r2, h2, h3⟩ := k
  obtain ⟨a, T, rfl, da⟩ := asDct_ok wf r1 h1
  obtain ⟨b, rfl⟩ := tup_ref r2 h2
  obtain ⟨ru, dd, hm, hl⟩ := dict_at I wf hw da
  have hks : T.rows.length = ks.length := by have := da.rk.length; rw [List.length_map] at this; exact this
  exact ⟨a, b, T, rfl, rfl, ⟨nested_of I wf.same e _ _ _ r2 h2 rfl, h3⟩, dd, hm, hks, hl, val_at (K := X.K) h2 da.key da.rv ru⟩
def isDt (H : Hp) (x : V) : Prop := ∃ a T, x = .ref a ∧ H a = some (dctO WC.w a T)
theorem isDt_of {K : PySem.W.Frag} {H : Hp} {w : Wd} {x : V} {d : D} {ks vs : List D} (wf : Wf K H w) (r : Rep K w.F w.θ x d) (h : asDct w.μ d = some (ks, vs)) : isDt H x := by
  obtain ⟨a, T, e, da⟩ := asDct_ok wf r h
  exact ⟨a, T, e, da.at_⟩
theorem isDt_raw {X : Cx} {pins : List (Addr × Obj)} {σ : L2.St} {H : Hp} {s : Shared} {a : Addr} {T : Tbl} (I : Inv X pins σ H s) (h : H a = some (dctO WC.w a T)) :
    s.TypeIs (.ref a) "dict" ∧ (∀ b, Value.ref a = .ref b → ∃ ob, s.heap.get? b = some ob ∧ ob.dict = none) ∧ (a == sysModules) = false := by
  have d0 : DictN0 WC.w s.heap a T := (I.hok a _ h).1
  obtain ⟨o, es, ho, hx, hd, he⟩ := d0.ob
  exact ⟨⟨o, ho, hx.1⟩, fun b e => by cases e; exact ⟨o, ho, hx.2.1⟩, d0.sm⟩
def rGetD (K : PySem.W.Frag) (x y z : V) : Hp → VK → Prop := fun H Q => ∃ w ks vs e kk e2, DKey K H w x y ks vs e kk ∧ Rep K w.F w.θ z e2 ∧ ∀ v, Rep K w.F w.θ v ((valD ks vs e).getD e2) → Q v H
def tGet2 (K : PySem.W.Frag) (to te tf : TE) : TE := fun σ H Q => to σ H fun x H1 => isDt H1 x ∧ te σ H1 fun y H2 => tf σ H2 fun z H3 => rGetD K x y z H3 Q
section
variable {X : Cx} {W : WX} {o e f a b : Expr} {apos cpos pos : Pos} {to te tf : TE} {fo fe ff : Env → M D}
theorem pe_getN (hu : X.A.units + 9 < cLine) (hw : X.w = WC.w) (ho : PE X o to) (he : PE X e te) (hf : PE X f tf) (mm : M2 X o "get" apos e f cpos) : PE X (.Call (.Attribute o "get" apos) [e, f] [] cpos) (tGet2 X.K to te tf) := by
  constructor
  intro pins s σ H Q I q0
  refine wpAny_Call_method mm.base mm.few mm.line PySem.F.plainAttrs_dict PySem.F.slot_dict_get PySem.F.type_dict_get (thn (ho.run pins s σ H _ I q0) fun u s1 ⟨x, H1, I1, rx, ⟨a, T, ex, ha⟩, q1⟩ => ?_)
  subst ex
  cases rx
  obtain ⟨t1, t2, _⟩ := isDt_raw I1 ha
  refine ⟨t1, t2, ?_⟩
  rw [mm.trees]
  refine Calls.callWith_builtin rfl (Calls.evalArgs_plain (Calls.spliced_cons (thn (he.run pins s1 σ H1 _ I1 q1) fun iv s2 ⟨y, H2, I2, ry, q2⟩ =>
    Calls.spliced_cons (thn (hf.run pins s2 σ H2 _ I2 q2) fun fv s3 ⟨z, H3, I3, rz, w, ks, vs, ed, kk, e2, dk, re, q3⟩ => Calls.spliced_nil ?_))))
  obtain ⟨a', b, T', ea, eb, hk, dd, hm, _, _, va⟩ := dk.raw I3 hw
  cases ea
  subst eb
  cases ry
  refine call_meetsIn PySem.F.slot_dict_get dd.typeIs PySem.F.entry_dict_get (PySem.F.args_dict_get_3 _ _ _) (meetsH_dict_get_default (nestedKind X.prog X.w) a b hm fv) ⟨(by show X.A.in1.units + 8 < cLine; show X.A.units + 1 + 8 < cLine; omega), _, _, hk, dd, ?_⟩
  cases e1 : valD ks vs ed with
  | none =>
    rw [e1] at va q3
    rw [va]
    exact ⟨z, H3, I3.tok _, rz, q3 _ re⟩
  | some dv =>
    rw [e1] at va q3
    obtain ⟨p, v0, hp, rp, rd⟩ := va
    rw [hp]
    exact ⟨v0, H3, I3.tok _, rp, q3 _ rd⟩
theorem ed_get (hu : X.A.units + 9 < cLine) (hw : X.w = WC.w) (ho : ED X W o fo) (he : ED X W e fe) (hf : ED X W f ff) (mm : M2 X o "get" apos e f cpos := by exact ⟨rfl, rfl, rfl, rfl⟩) : ED X W (.Call (.Attribute o "get" apos) [e, f] [] cpos) (eGet fo fe ff) :=
  PE_imp (pe_getN hu hw ho he hf mm) fun σ H Q ⟨ρ, w, S, P⟩ => tE_bind S P fun d v H1 w1 _ S1 r1 P1 => by
    have P2 := post_bind P1
    simp only [chkD] at P2
    cases e1 : asDct w1.μ d with
    | none => rw [e1] at P2; exact P2.elim
    | some p =>
      obtain ⟨ks0, vs0⟩ := p
      rw [e1] at P2
      have P3 := P2 H1 w1 rfl (Ext.refl _ _) S1.wf
      refine ⟨isDt_of S1.wf r1 e1, tE_bind S1 P3 fun d2 v2 H2 w2 x2 S2 r2 P4 => tE_bind S2 P4 fun d3 v3 H3 w3 x3 S3 r3 P5 => ?_⟩
      simp only [kGet] at P5
      split at P5
      · rename_i ks vs kk h1 h2
        split at P5
        · rename_i h3
          exact ⟨w3, ks, vs, d2, kk, d3, ⟨S3.wf, ⟨d, x3.rep (x2.rep r1), h1⟩, x3.rep r2, h2, dep8_ok h3⟩, r3, fun v rv => P5 H3 w3 rfl (Ext.refl _ _) S3.wf v rv⟩
        · exact P5.elim
      · exact P5.elim
/-! k in d -/
def gInA (neg : Bool) : D → D → M D := fun x y μ => match asDct μ y with
  | some (ks, vs) => match keyOf x with
    | some (.tup k) => if dep8 k = true then .ok (.bl (if neg then !(valD ks vs x).isSome else (valD ks vs x).isSome)) μ else .bad
    | _ => .bad
  | none => gIn neg x y μ
def rDIn (K : PySem.W.Frag) (neg : Bool) : R2 := fun x y H Q => ∃ w ks vs e kk, DKey K H w y x ks vs e kk ∧ Q (.bl (if neg then !(valD ks vs e).isSome else (valD ks vs e).isSome)) H
theorem at_some {K : PySem.W.Frag} {w : Wd} {rows : List (NestedKey × Addr × Value)} {k : NestedKey} {o : Option D} (h : match o with
    | some d => ∃ p v, atKey rows k = some p ∧ RelV v p.2 ∧ Rep K w.F w.θ v d
    | none => atKey rows k = none) : (atKey rows k).isSome = o.isSome := by
  cases o with
  | none => rw [h]; rfl
  | some d => obtain ⟨p, v, h1, _⟩ := h; rw [h1]; rfl
theorem op_inN (hu : X.A.units + 9 < cLine) (hw : X.w = WC.w) : OpR X (compareOp .In) (rDIn X.K false) := by
  intro pins s σ H x y v u Q I rx ry h
  obtain ⟨w, ks, vs, e, kk, dk, q⟩ := h
  obtain ⟨a, b, T, rfl, rfl, hk, dd, hm, _, _, va⟩ := dk.raw I hw
  cases rx
  cases ry
  refine wpAny_in_heap (knd := nestedKind X.prog X.w) (by show X.A.in1.units + 8 < cLine; show X.A.units + 1 + 8 < cLine; omega) hk hm dd ?_
  rw [at_some (K := X.K) (w := w) va]
  exact ⟨.bl (valD ks vs e).isSome, H, I.tok _, rfl, q⟩
theorem op_notInN (hu : X.A.units + 9 < cLine) (hw : X.w = WC.w) : OpR X (compareOp .NotIn) (rDIn X.K true) := by
  intro pins s σ H x y v u Q I rx ry h
  obtain ⟨w, ks, vs, e, kk, dk, q⟩ := h
  obtain ⟨a, b, T, rfl, rfl, hk, dd, hm, _, _, va⟩ := dk.raw I hw
  cases rx
  cases ry
  refine wpAny_notIn_heap (knd := nestedKind X.prog X.w) (by show X.A.in1.units + 8 < cLine; show X.A.units + 1 + 8 < cLine; omega) hk hm dd ?_
  rw [at_some (K := X.K) (w := w) va]
  exact ⟨.bl (!(valD ks vs e).isSome), H, I.tok _, rfl, q⟩
theorem v_inA (K : PySem.W.Frag) (neg : Bool) {r : R2} (hr : VOp K r (gIn neg)) : VOp K (fun x y H Q => r x y H Q ∨ rDIn K neg x y H Q) (gInA neg) := by
  intro H w x y d e Q E wf rx ry P
  simp only [gInA] at P
  cases e1 : asDct w.μ e with
  | none => rw [e1] at P; exact .inl (hr H w x y d e Q E wf rx ry P)
  | some p =>
    obtain ⟨ks, vs⟩ := p
    rw [e1] at P
    simp only at P
    split at P
    · rename_i kk hk
      split at P
      · rename_i hd
        exact .inr ⟨w, ks, vs, d, kk, ⟨wf, ⟨e, ry, e1⟩, rx, hk, dep8_ok hd⟩, post_here P wf (.bl _)⟩
      · exact P.elim
    · exact P.elim
theorem cInA (hu : X.A.units + 65 < cLine) (hw : X.w = WC.w) : CmpW X .In (gInA false) := ⟨_, (op_inA hu).or (op_inN (by omega) hw), v_inA _ _ (v_in _)⟩
theorem cNiA (hu : X.A.units + 65 < cLine) (hw : X.w = WC.w) : CmpW X .NotIn (gInA true) := ⟨_, (op_notInA hu).or (op_notInN (by omega) hw), v_inA _ _ (v_notIn _)⟩
/-! len(d) -/
def gLenA : List D → M D := fun ds μ => match ds with
  | [x] => match asDct μ x with
    | some (ks, _) => if Nat.ble ks.length 1000000 = true then .ok (.int (ks.length : Nat)) μ else .bad
    | none => gLen [x] μ
  | _ => .bad
def rLenN (K : PySem.W.Frag) : List V → Hp → VK → Prop := fun xs H Q => rLenD K xs H Q ∨ ∃ w x d ks vs, xs = [x] ∧ Wf K H w ∧ Rep K w.F w.θ x d ∧ asDct w.μ d = some (ks, vs) ∧ ks.length ≤ 1000000 ∧ Q (.int (ks.length : Nat)) H
theorem call_lenN (hw : X.w = WC.w) : CallR X (.builtin "len") (rLenN X.K) := by
  intro pins s σ H xs us Q I r h
  rcases h with h | ⟨w, x, d, ks, vs, rfl, wf, rx, e, hz, q⟩
  · exact call_len pins s σ H xs us Q I r h
  · obtain ⟨u, rfl, ru⟩ := vals1 r
    obtain ⟨a, T, rfl, da⟩ := asDct_ok wf rx e
    cases ru
    obtain ⟨_, dd, hm, hl⟩ := dict_at I wf hw da
    have hks : T.rows.length = ks.length := by have := da.rk.length; rw [List.length_map] at this; exact this
    have hrl := rawR_len hl
    refine call_len_dictH hm dd (by rw [hrl]; omega) ?_
    rw [hrl, hks]
    exact ⟨.int ((ks.length : Nat) : Int), H, I.tok _, ⟨_, rfl⟩, q⟩
theorem v_lenA (K : PySem.W.Frag) : VCall K (rLenN K) gLenA := by
  intro H w xs ds Q E wf r P
  cases r with
  | nil => exact P.elim
  | cons r1 r2 =>
    rename_i v vs d ds
    cases r2 with
    | cons _ _ => exact P.elim
    | nil =>
      simp only [gLenA] at P
      cases e1 : asDct w.μ d with
      | none => rw [e1] at P; exact .inl (v_len K H w [v] [d] Q E wf (.cons r1 .nil) P)
      | some p =>
        obtain ⟨ks, us⟩ := p
        rw [e1] at P
        simp only at P
        split at P
        · rename_i hz
          exact .inr ⟨w, v, d, ks, us, rfl, wf, r1, e1, by simpa [Nat.ble_eq] using hz, post_here P wf (.int _)⟩
        · exact P.elim
theorem wLenA (hw : X.w = WC.w) : BltW X "len" gLenA := ⟨.inl ⟨_, _, call_lenN hw, v_lenA _, bb_len⟩⟩
end
end DL
namespace DL
open PySem PySem.Spec PyProof.Rows L2
variable [WC]
/-! ### d == {} -/
section
variable {prog : Program} {w : World} {A : Around} {E : Value → Shared → Prop} {s : Shared}
theorem same_none {nm : String} {a b : Addr} {o1 o2 : Obj} {es : Array DictEntry} {ep ep2 : Nat} {Q : Bool → Shared → Prop} (h1 : s.heap.get? a = some o1) (d1 : o1.data = .dict es ep) (h2 : s.heap.get? b = some o2) (d2 : o2.data = .dict #[] ep2)
    (la : (a == sysModules) = false) (lb : (b == sysModules) = false) (h : Q (decide (es.size = 0)) s) : wpAny (model prog w) A (Builtin.Dict.samePairs nm a b) Q E s := by
  unfold Builtin.Dict.samePairs Builtin.Dict.showsAll
  rw [if_neg (by rw [la]; exact Bool.false_ne_true), if_neg (by rw [lb]; exact Bool.false_ne_true)]
  refine wpAny_bind (wpAny_pure (wpAny_bind (wpAny_pure ?_)))
  refine wpAny_bind (wpAny_dictEntries h1 d1 ?_)
  dsimp only
  refine wpAny_bind (wpAny_dictEntries h2 d2 ?_)
  by_cases hz : es.size = 0
  · rw [if_neg (by simp [hz])]
    refine wpAny_bind (wpAny_dictEpoch h1 d1 ?_)
    refine wpAny_bind ?_
    rw [Std.Legacy.Range.forIn_eq_forIn_range']
    simp only [Std.Legacy.Range.size, hz, Nat.sub_zero, Nat.zero_add, Nat.div_one, Nat.sub_self, List.range'_zero, List.forIn_nil]
    refine wpAny_pure (wpAny_pure ?_)
    rw [hz] at h
    exact h
  · rw [if_pos (by simpa using hz)]
    refine wpAny_bind (wpAny_rule (wpAny_pure ?_))
    rw [decide_eq_false hz] at h
    exact h
theorem eq_none {a b : Addr} {o1 o2 : Obj} {es : Array DictEntry} {ep ep2 : Nat} {Q : Value → Shared → Prop} (hu : A.units < cLine) (h1 : s.heap.get? a = some o1) (x1 : o1.ExactDict) (d1 : o1.data = .dict es ep) (h2 : s.heap.get? b = some o2) (x2 : o2.ExactDict) (d2 : o2.data = .dict #[] ep2)
    (la : (a == sysModules) = false) (lb : (b == sysModules) = false) (h : Q (.bool (decide (es.size = 0))) s) : wpAny (model prog w) A (compareOp .Eq (.ref a) (.ref b)) Q E s := by
  have t1 : s.TypeIs (.ref a) "dict" := ⟨o1, h1, x1.1⟩
  have t2 : s.TypeIs (.ref b) "dict" := ⟨o2, h2, x2.1⟩
  refine wpAny_richCompare_same_room (op := .Eq) t1 t2 PySem.F.slot_dict_eq (wpAny_call_entry PySem.F.slot_dict_eq t1 PySem.F.entry_dict_eq ?_ (PySem.F.args_dict_eq_2 _ _)) hu
  refine wpAny_bind ?_
  unfold Builtin.Dict.dictSlotArgs
  refine wpAny_bind (wpAny_notOrdered_dict t1 ?_)
  show wpAny _ _ (pure (Value.ref a, Value.ref b)) _ _ s
  refine wpAny_pure ?_
  refine wpAny_bind (wpAny_isInstance (T := "dict") t2 PySem.F.sub_dict_dict ?_)
  simp only [Bool.not_true, Bool.false_eq_true, if_false]
  refine wpAny_bind (wpAny_pure (wpAny_bind (wpAny_pure ?_)))
  refine wpAny_bind (same_none h1 d1 h2 d2 la lb ?_)
  exact wpAny_pure ⟨_, rfl, (fun x => nomatch x), by simpa using h⟩
theorem ne_none {a b : Addr} {o1 o2 : Obj} {es : Array DictEntry} {ep ep2 : Nat} {Q : Value → Shared → Prop} (hu : A.units < cLine) (h1 : s.heap.get? a = some o1) (x1 : o1.ExactDict) (d1 : o1.data = .dict es ep) (h2 : s.heap.get? b = some o2) (x2 : o2.ExactDict) (d2 : o2.data = .dict #[] ep2)
    (la : (a == sysModules) = false) (lb : (b == sysModules) = false) (h : Q (.bool (!decide (es.size = 0))) s) : wpAny (model prog w) A (compareOp .NotEq (.ref a) (.ref b)) Q E s := by
  have t1 : s.TypeIs (.ref a) "dict" := ⟨o1, h1, x1.1⟩
  have t2 : s.TypeIs (.ref b) "dict" := ⟨o2, h2, x2.1⟩
  refine wpAny_richCompare_same_room (op := .NotEq) t1 t2 PySem.F.slot_dict_ne (wpAny_call_entry PySem.F.slot_dict_ne t1 PySem.F.entry_dict_ne ?_ (PySem.F.args_dict_ne_2 _ _)) hu
  refine wpAny_bind ?_
  unfold Builtin.Dict.dictSlotArgs
  refine wpAny_bind (wpAny_notOrdered_dict t1 ?_)
  show wpAny _ _ (pure (Value.ref a, Value.ref b)) _ _ s
  refine wpAny_pure ?_
  refine wpAny_bind (wpAny_isInstance (T := "dict") t2 PySem.F.sub_dict_dict ?_)
  simp only [Bool.not_true, Bool.false_eq_true, if_false]
  refine wpAny_bind (wpAny_pure (wpAny_bind (wpAny_pure ?_)))
  refine wpAny_bind (same_none h1 d1 h2 d2 la lb ?_)
  exact wpAny_pure ⟨_, rfl, (fun x => nomatch x), by simpa using h⟩
end
/-- of two dicts of which the second one holds nothing -/
def gEqA (neg : Bool) : D → D → M D := fun x y μ => match asDct μ x, asDct μ y with
  | some (ks, _), some ([], _) => .ok (.bl (if neg then !ks.isEmpty else ks.isEmpty)) μ
  | some _, _ => .bad
  | none, _ => gEq neg x y μ
def rEqE (K : PySem.W.Frag) (neg : Bool) : R2 := fun x y H Q => ∃ w d e ks vs us, Wf K H w ∧ Rep K w.F w.θ x d ∧ Rep K w.F w.θ y e ∧ asDct w.μ d = some (ks, vs) ∧ asDct w.μ e = some ([], us) ∧ Q (.bl (if neg then !ks.isEmpty else ks.isEmpty)) H
section
variable {X : Cx} {W : WX} {o e f a b : Expr} {apos cpos pos : Pos} {to te tf : TE} {fo fe ff : Env → M D}
theorem dct_raw {pins : List (Addr × Obj)} {σ : L2.St} {H : Hp} {s : Shared} {w : Wd} {x : V} {d : D} {ks vs : List D} (I : Inv X pins σ H s) (wf : Wf X.K H w) (rx : Rep X.K w.F w.θ x d) (h : asDct w.μ d = some (ks, vs)) :
    ∃ a T o es, x = .ref a ∧ DAt X.K H w a T ks vs ∧ (a == sysModules) = false ∧ s.heap.get? a = some o ∧ o.ExactDict ∧ o.data = .dict es T.ep ∧ es.size = ks.length ∧ es.toList = T.es WC.w := by
  obtain ⟨a, T, rfl, da⟩ := asDct_ok wf rx h
  have d0 : DictN0 WC.w s.heap a T := (I.hok a _ da.at_).1
  obtain ⟨o, es, ho, hx, hd, he⟩ := d0.ob
  have hks : T.rows.length = ks.length := by have := da.rk.length; rw [List.length_map] at this; exact this
  exact ⟨a, T, o, es, rfl, da, d0.sm, ho, hx, hd, by rw [tbl_size he (tbl_len d0), hks], he⟩
theorem isEmpty_len {α : Type} (l : List α) : l.isEmpty = decide (l.length = 0) := by cases l <;> simp
theorem op_eqE (hu : X.A.units + 64 < cLine) : OpR X (compareOp .Eq) (rEqE X.K false) := by
  intro pins s σ H x y v u Q I rx ry h
  obtain ⟨w, d, e, ks, vs, us, wf, r1, r2, e1, e2, q⟩ := h
  obtain ⟨a, T, o1, es, rfl, _, la, h1, x1, d1, z1, _⟩ := dct_raw I wf r1 e1
  obtain ⟨b, T2, o2, es2, rfl, _, lb, h2, x2, d2, z2, _⟩ := dct_raw I wf r2 e2
  cases rx
  cases ry
  have e0 : es2 = #[] := Array.eq_empty_of_size_eq_zero (by simpa using z2)
  subst e0
  refine eq_none (by omega) h1 x1 d1 h2 x2 d2 la lb ?_
  rw [z1, ← isEmpty_len]
  exact ⟨.bl ks.isEmpty, H, I, rfl, q⟩
theorem op_neE (hu : X.A.units + 64 < cLine) : OpR X (compareOp .NotEq) (rEqE X.K true) := by
  intro pins s σ H x y v u Q I rx ry h
  obtain ⟨w, d, e, ks, vs, us, wf, r1, r2, e1, e2, q⟩ := h
  obtain ⟨a, T, o1, es, rfl, _, la, h1, x1, d1, z1, _⟩ := dct_raw I wf r1 e1
  obtain ⟨b, T2, o2, es2, rfl, _, lb, h2, x2, d2, z2, _⟩ := dct_raw I wf r2 e2
  cases rx
  cases ry
  have e0 : es2 = #[] := Array.eq_empty_of_size_eq_zero (by simpa using z2)
  subst e0
  refine ne_none (by omega) h1 x1 d1 h2 x2 d2 la lb ?_
  rw [z1, ← isEmpty_len]
  exact ⟨.bl (!ks.isEmpty), H, I, rfl, q⟩
theorem v_eqA (K : PySem.W.Frag) (neg : Bool) {r : R2} (hr : VOp K r (gEq neg)) : VOp K (fun x y H Q => r x y H Q ∨ rEqE K neg x y H Q) (gEqA neg) := by
  intro H w x y d e Q E wf rx ry P
  simp only [gEqA] at P
  split at P
  · rename_i ks vs us e1 e2
    exact .inr ⟨w, d, e, ks, vs, us, wf, rx, ry, e1, e2, post_here P wf (.bl _)⟩
  · exact P.elim
  · exact .inl (hr H w x y d e Q E wf rx ry P)
theorem cEqA (hu : X.A.units + 64 < cLine) : CmpW X .Eq (gEqA false) := ⟨_, (op_eqD hu).or (op_eqE hu), v_eqA _ _ (v_eq _)⟩
theorem cNeA (hu : X.A.units + 64 < cLine) : CmpW X .NotEq (gEqA true) := ⟨_, (op_neD hu).or (op_neE hu), v_eqA _ _ (v_ne _)⟩
/-! ### list(d) -/
def gListA (mu : Bool) : List D → M D := fun ds μ => match ds with
  | [x] => match asDct μ x with
    | some (ks, _) => if Nat.ble ks.length 1000000 = true then retL mu ks μ else .bad
    | none => gList mu [x] μ
  | _ => .bad
def rListN (K : PySem.W.Frag) : List V → Hp → VK → Prop := fun xs H Q => rListD K xs H Q ∨ ∃ w x d ks vs, xs = [x] ∧ Wf K H w ∧ Rep K w.F w.θ x d ∧ asDct w.μ d = some (ks, vs) ∧ ks.length ≤ 1000000 ∧ ∀ q us, H q = none → RepL K w.F w.θ us ks → Q (.ref q) (upd H q (.lst us))
theorem refsV : ∀ bs : List Row, Vals (bs.map fun r => V.ref r.b) (bs.map fun r => Value.ref r.b)
  | [] => .nil
  | _ :: r => .cons rfl (refsV r)
theorem tbl_keys {w : World} {T : Tbl} {es : Array DictEntry} (he : es.toList = T.es w) (hl : T.rows.length = T.us.length) {i : Nat} {en : DictEntry} (h : es[i]? = some en) : ∃ r, T.rows[i]? = some r ∧ en.key = .ref r.b := by
  have hi : i < T.rows.length := by
    have := (Array.getElem?_eq_some_iff.mp h).1
    rw [tbl_size he hl] at this; exact this
  obtain ⟨en', h', e'⟩ := tbl_entry he hl (List.getElem?_eq_getElem hi)
  rw [h] at h'
  cases h'
  exact ⟨_, List.getElem?_eq_getElem hi, e'⟩
theorem call_listN (hc : X.calm = true) : CallR X (.type "list") (rListN X.K) := by
  intro pins s σ H xs us Q I r h
  rcases h with h | ⟨w, x, d, ks, vs, rfl, wf, rx, e, hz, q⟩
  · exact call_list_of pins s σ H xs us Q I r h
  · obtain ⟨u, rfl, ru⟩ := r.one
    obtain ⟨a, T, o, es, rfl, da, la, ho, hx, hd, hsz, he⟩ := dct_raw I wf rx e
    cases ru
    have d0 : DictN0 WC.w s.heap a T := (I.hok a _ da.at_).1
    have hl := tbl_len d0
    have hrows : T.rows.length = es.size := (tbl_size he hl).symm
    refine PySem.W.kdl_call (kdl_raw la hx hd) (I.ok.hd hc) ho (by rw [hsz, line16]; omega) fun h' tk acc' c' kp e1 it => ?_
    have ea : acc'.toList = T.rows.map fun r => Value.ref r.b := by
      have hlen : acc'.toList.length = T.rows.length := by rw [Array.length_toList, it.1, hrows]
      apply List.ext_getElem?
      intro j
      rw [List.getElem?_map]
      cases hj : acc'.toList[j]? with
      | none =>
        have z := List.getElem?_eq_none_iff.mp hj
        rw [List.getElem?_eq_none (by omega)]; rfl
      | some v =>
        obtain ⟨en, hen, hv⟩ := it.2 j v (by rw [← Array.getElem?_toList]; exact hj)
        obtain ⟨r, hr, hk⟩ := tbl_keys he hl hen
        rw [hr, hv, hk]; rfl
    have rv : Vals (T.rows.map fun r => V.ref r.b) acc'.toList := by rw [ea]; exact refsV _
    have z2 : (T.rows.map fun r => V.ref r.b).length ≤ sizeLine := by rw [List.length_map, hrows, hsz, line16]; omega
    refine ⟨.ref s.heap.objs.size, _, I.laid (t' := tk) (o := .lst (T.rows.map fun r => V.ref r.b)) kp (Nat.le_refl _) ?_, rfl, q _ _ (I.hok.fresh (Nat.le_refl _)) da.rk⟩
    exact ⟨z2, acc'.toList, c', rv, by rw [Array.toArray_toList]; exact e1⟩
theorem v_listA (K : PySem.W.Frag) (mu : Bool) : VCall K (rListN K) (gListA mu) := by
  intro H w xs ds Q E wf r P
  cases r with
  | nil => exact P.elim
  | cons r1 r2 =>
    rename_i v vs d ds
    cases r2 with
    | cons _ _ => exact P.elim
    | nil =>
      simp only [gListA] at P
      cases e1 : asDct w.μ d with
      | none => rw [e1] at P; exact .inl (v_list K mu H w [v] [d] Q E wf (.cons r1 .nil) P)
      | some p =>
        obtain ⟨ks, us⟩ := p
        rw [e1] at P
        simp only at P
        split at P
        · rename_i hz
          refine .inr ⟨w, v, d, ks, us, rfl, wf, r1, e1, by simpa [Nat.ble_eq] using hz, fun q ws hq rw' => ?_⟩
          unfold retL at P
          cases mu with
          | true => exact post_mut P wf hq rw'
          | false => exact post_lst P wf hq rw'
        · exact P.elim
theorem wListA (mu : Bool) (hc : X.calm = true) : BltW X "list" (gListA mu) := ⟨.inr ⟨_, _, call_listN hc, v_listA _ mu, bb_list⟩⟩
/-! ### {k: v} -/
def kDNew : M D := fun μ => .ok (.ptr μ.length) (μ ++ [.dct 0 [] []])
def eDisp1 (f h : Env → M D) : Env → M D := fun ρ => Mbind kDNew fun p => Mbind (f ρ) fun k => Mbind (h ρ) fun v => Mbind (putDM p k v) fun _ => Mret p
def tDisp1 (K : PySem.W.Frag) (tk tv : TE) : TE := fun σ H Q => ∀ p, H p = none → tPairs [(tk, tv)] σ (upd H p (dctO WC.w p ⟨[], [], 0⟩)) fun ps H2 => ∃ y v, ps = [(y, v)] ∧ rSD K (.ref p) y v H2 fun H3 => Q (.ref p) H3
theorem pe_disp1 {kx vx : Expr} {tk tv : TE} (hu : X.A.units + 9 < cLine) (hw : X.w = WC.w) (hk : PE X kx tk) (hv : PE X vx tv) : PE X (.Dict [some kx] [vx] pos) (tDisp1 X.K tk tv) := by
  constructor
  intro pins s σ H Q I h
  have ok : ObjOk X.prog X.w (upd H s.heap.objs.size (dctO WC.w s.heap.objs.size ⟨[], [], 0⟩)) (s.heap.push { cls := .type "dict", data := .dict #[] }) s.heap.objs.size (dctO WC.w s.heap.objs.size ⟨[], [], 0⟩) := by
    rw [hw]; exact dctO_ok (dict_new I.big)
  have hn := I.hok.fresh (Nat.le_refl s.heap.objs.size)
  have I1 := I.laid (a := s.heap.objs.size) (t' := s.toks) (fun _ _ q => Heap.get?_push_of_some _ q) (Nat.le_refl _) ok
  refine wpAny_Dict_any rfl rfl (by simp) (by simp) (thn ((pps_cons (pos := pos) hk hv pps_nil).run pins _ σ _ _ I1 (h _ hn)) fun ws s2 ⟨ps, H2, I2, rel, y, v, ep, q⟩ => ?_)
  subst ep
  cases rel with
  | @cons p1 p2 _ _ r1 r2 =>
    cases r2
    unfold storeAll
    rw [List.forIn_cons]
    refine wpAny_bind (wpAny_bind (wpAny_mono (set_dctN hu hw I2 (o := .ref s.heap.objs.size) rfl r1.1 r1.2 q) (fun _ s3 ⟨H3, I3, q3⟩ => wpAny_pure ?_) fun _ _ e => e))
    show wpAny _ _ (forIn [] _ _) _ _ _
    rw [List.forIn_nil]
    exact wpAny_pure ⟨.ref s.heap.objs.size, H3, I3, rfl, q3⟩
theorem ed_disp1 {kx vx : Expr} {f h : Env → M D} (hu : X.A.units + 9 < cLine) (hw : X.w = WC.w) (hk : ED X W kx f) (hv : ED X W vx h) : ED X W (.Dict [some kx] [vx] pos) (eDisp1 f h) :=
  PE_imp (pe_disp1 hu hw hk hv) fun σ H Q ⟨ρ, w, S, P⟩ p hp => by
    have wf := S.wf.mk_ob (o := dctO WC.w p ⟨[], [], 0⟩) (u0 := .dct 0 [] []) hp ⟨⟨[], [], 0⟩, upd_same, rfl, .nil, .nil⟩
    have x0 : Ext H w (upd H p (dctO WC.w p ⟨[], [], 0⟩)) (w.mk_ p (.dct 0 [] [])) := Ext.mk_ S.wf hp
    have P1 := (post_bind P) _ (w.mk_ p (.dct 0 [] [])) rfl x0 wf
    have r0 : Rep X.K (w.mk_ p (.dct 0 [] [])).F (w.mk_ p (.dct 0 [] [])).θ (.ref p) (.ptr w.μ.length) := .ptr (by
      show (w.θ ++ [p])[w.μ.length]? = some p
      rw [← S.wf.len]; simp)
    refine tE_bind (S.ext x0 wf) P1 fun d v H1 w1 x1 S1 r1 P2 => tE_bind S1 P2 fun d2 v2 H2 w2 x2 S2 r2 P3 => ⟨v, v2, rfl, ?_⟩
    have P4 := post_bind P3
    simp only [putDM] at P4
    split at P4
    · rename_i n kk e0 hk
      cases e0
      cases e1 : w2.μ[w.μ.length]? with
      | none => rw [e1] at P4; exact P4.elim
      | some ob =>
        rw [e1] at P4
        cases ob with
        | kd fs => exact P4.elim
        | lst xs => exact P4.elim
        | dct ver ks vs =>
          simp only at P4
          split at P4
          · rename_i hz
            rw [Bool.and_eq_true, Nat.ble_eq] at hz
            refine ⟨w2, _, d, d2, ver, ks, vs, kk, S2.wf, x2.rep (x1.rep r0), x2.rep r1, r2, e1, hk, dep8_ok hz.1, hz.2, fun H' wf' x' => ?_⟩
            have P5 := P4 H' _ rfl x' wf'
            exact post_ret P5 wf' _ (x'.rep (x2.rep (x1.rep r0)))
          · exact P4.elim
    · exact P4.elim
end
end DL
namespace DL
open PySem PySem.Spec PyProof.Rows L2
variable [WC]
/-! ### bodies that store nothing: what they return, or nothing -/
abbrev QM := Env → M (Option D)
def qRet (f : Env → M D) : QM := fun ρ => Mbind (f ρ) fun d => Mret (some d)
def qExp (f : Env → M D) : QM := fun ρ => Mbind (f ρ) fun _ => Mret none
def qNil : QM := fun _ => Mret none
def qSeq (s t : QM) : QM := fun ρ => Mbind (s ρ) fun r => match r with
  | some d => Mret (some d)
  | none => t ρ
def qIf (c : Env → M Bool) (s t : QM) : QM := fun ρ => Mbind (c ρ) fun b => if b = true then s ρ else t ρ
def tQ (K : PySem.W.Frag) (mg : Str → Option Value) (W : WX) (g : QM) : TS := fun De σ H => ∃ ρ w, SR K σ H ρ w ∧ Post K H w (g ρ w.μ) (fun r H' w' => match r with
  | some d => ∀ v, Rep K w'.F w'.θ v d → De.rt v H'
  | none => De.nx σ H') (EW K mg W σ)
abbrev QD (X : Cx) (W : WX) (st : Stmt) (g : QM) : Prop := PS X st (tQ X.K X.mg W g)
abbrev QDs (X : Cx) (W : WX) (st : List Stmt) (g : QM) : Prop := PSs X st (tQ X.K X.mg W g)
section
variable {X : Cx} {W : WX} {a b c e : Expr} {es : List Expr} {f h k : Env → M D} {pos : Pos} {st : Stmt} {sts : List Stmt} {s t : QM}
theorem qd_nil : QDs X W [] qNil := PSs_imp pss_nil fun De σ H ⟨ρ, w, S, P⟩ => post_ret P S.wf
theorem qd_one (h1 : QD X W st s) : QDs X W [st] s := pss_one h1
theorem qd_cons (h1 : QD X W st s) (h2 : QDs X W sts t) : QDs X W (st :: sts) (qSeq s t) := PSs_imp (pss_cons h1 h2) fun De σ H ⟨ρ, w, S, P⟩ => by
  refine ⟨ρ, w, S, (post_bind P).imp (fun r H1 w1 x1 wf1 q => ?_) fun _ _ _ _ _ q => q⟩
  cases r with
  | none => exact ⟨ρ, w1, S.ext x1 wf1, q⟩
  | some d => exact fun v rv => post_ret (show Post X.K H1 w1 (Mret (some d) w1.μ) _ _ from q) wf1 v rv
theorem qd_ret (ha : ED X W a f) : QD X W (.Return (some a) pos) (qRet f) := PS_imp (ps_ret ha) fun De σ H ⟨ρ, w, S, P⟩ => tE_bind S P fun d v H1 w1 _ S1 r1 P1 => post_ret P1 S1.wf v r1
theorem qd_exp (ha : ED X W a f) (hs : swapsWith a none pos.line X.env = pure false := by rfl) : QD X W (.Expr a pos) (qExp f) :=
  PS_imp (ps_expr ha hs) fun De σ H ⟨ρ, w, S, P⟩ => tE_bind S P fun d v H1 w1 _ S1 r1 P1 => post_ret P1 S1.wf
theorem qd_if {c : Expr} {p q : List Stmt} {t1 : Env → M Bool} (hc : TD X W c t1) (ha : QDs X W p s) (hb : QDs X W q t) : QD X W (.If c p q pos) (qIf t1 s t) :=
  PS_imp (ps_if hc ha hb) fun De σ H ⟨ρ, w, S, P⟩ => tT_bind S P fun bb H1 w1 _ S1 P1 => by
    cases bb with
    | true => exact ⟨ρ, w1, S1, P1⟩
    | false => exact ⟨ρ, w1, S1, P1⟩
end
/-! ### try: .. except X: .. -/
/-- the suite of an error: by its class's name -/
def tryH (e : Ex) : List ((Str → Option Bool) × SM) → SM
  | [], _ => fun μ => .ex e μ
  | (p, s) :: r, ρ => match p e.c with
    | some true => Mno (s ρ)
    | some false => tryH e r ρ
    | none => Mbad
def sTry (g : QM) (hs : List ((Str → Option Bool) × SM)) : SM := fun ρ μ => match g ρ μ with
  | .ok (some d) μ' => .ok (.ret d) μ'
  | .ok none μ' => .ok (.nx ρ) μ'
  | .ex e μ' => tryH e hs ρ μ'
  | .bad => .bad
/-- the clauses -/
inductive HD (X : Cx) : List ExceptHandler → List ((Str → Option Bool) × SM) → List (Value × (Addr → Value → Option Addr → TS)) → Prop
  | nil : HD X [] [] []
  | cons {x : Str} {c : Value} {b₀ : Stmt} {suite : List Stmt} {np pos' : Pos} {hds : List ExceptHandler} {p : Str → Option Bool} {s : SM} {l : List ((Str → Option Bool) × SM)} {L : List (Value × (Addr → Value → Option Addr → TS))} (hc : Names X x c)
      (hp : ∀ n b cls, p n = some b → X.mg n = some cls → PySem.W.exmOne X.K cls c = some b)
      (hsu : ∀ (a : Addr) (oe : Obj) (pn : List (Addr × Obj)), SDs (X.suite a ((a, oe) :: pn)) W0 (b₀ :: suite) s) (r : HD X hds l L) :
      HD X (.ExceptHandler (some (.Name x np)) none (b₀ :: suite) pos' :: hds) ((p, s) :: l) ((c, fun _ _ _ => tS X.K X.mg W0 s) :: L)
theorem HD.ok {X : Cx} {hds : List ExceptHandler} {l : List ((Str → Option Bool) × SM)} {L : List (Value × (Addr → Value → Option Addr → TS))} (h : HD X hds l L) : HdsOk X hds L := by
  induction h with
  | nil => exact .nil
  | cons hc hp hsu r ih => exact .cons hc (fun a oe cls d pn _ _ => hsu a oe pn) ih
theorem HD.many {X : Cx} {hds : List ExceptHandler} {l : List ((Str → Option Bool) × SM)} {L : List (Value × (Addr → Value → Option Addr → TS))} (h : HD X hds l L) {W : WX} {De : Ends} {σ : L2.St} {H : Hp} {ρ : Env} {w : Wd} {e : Ex} {cls : Value} {dd : Option Addr} (S : SR X.K σ H ρ w) (hx : ExR X.K X.mg H w e cls dd)
    (P : Post X.K H w (tryH e l ρ w.μ) (FlR X.K De) (EWs X.K X.mg W)) : wMany X.K W De L cls dd σ H := by
  induction h with
  | nil => exact P H w rfl (Ext.refl _ _) S.wf σ cls dd hx
  | @cons x c b₀ suite np pos' hds p s l L hc hp hsu r ih =>
    simp only [tryH] at P
    cases e1 : p e.c with
    | none => rw [e1] at P; exact P.elim
    | some b =>
      rw [e1] at P
      refine ⟨b, hp _ _ _ e1 hx.1, fun hb a ha => ?_, fun hb => ?_⟩
      · subst hb
        refine ⟨ρ, w, S, ?_⟩
        have P : Post X.K H w (Mno (s ρ) w.μ) (FlR X.K De) (EWs X.K X.mg W) := P
        simp only [Mno] at P
        cases e2 : s ρ w.μ with
        | ok z μ' => rw [e2] at P; exact P
        | ex z μ' => rw [e2] at P; exact P.elim
        | bad => rw [e2] at P; exact P.elim
      · subst hb
        exact ih P
theorem sd_try {X : Cx} {W : WX} {body : List Stmt} {h₀ : ExceptHandler} {hds : List ExceptHandler} {l : List ((Str → Option Bool) × SM)} {L : List (Value × (Addr → Value → Option Addr → TS))} {pos : Pos} {g : QM} (hs : X.stack = X.env :: X.outer) (hf : X.env.frame = some X.env.locals) (tk : Takes X W)
    (hb : ∀ (W : WX) (pn : List (Addr × Obj)) (xe : Value → Shared → Prop), Takes (X.tr pn xe) W → QDs (X.tr pn xe) W body g)
    (hh : HD X (h₀ :: hds) l L) : SD X W (.Try body (h₀ :: hds) [] [] pos) (sTry g l) :=
  PS_imp (ps_try_many (tb := fun W => tQ X.K X.mg W g) hs hf tk (fun W pn xe tk' _ => hb W pn xe tk') hh.ok) fun De σ H ⟨ρ, w, S, P⟩ => by
    refine ⟨ρ, w, S, ?_⟩
    simp only [sTry] at P
    cases e1 : g ρ w.μ with
    | bad => rw [e1] at P; exact P
    | ok r μ' =>
      rw [e1] at P
      cases r with
      | some d => exact fun H' w' em x wf v rv => P H' w' em x wf v rv
      | none => exact fun H' w' em x wf => P H' w' em x wf σ (S.ext x wf)
    | ex e μ' =>
      rw [e1] at P
      intro H' w' em x wf cls dd hx
      have P' : Post X.K H' w' (tryH e l ρ w'.μ) (FlR X.K De) (EWs X.K X.mg W) := by
        rw [em]; exact Post.ext P x
      exact hh.many (S.ext x wf) hx P'
/-! ### an own error's facts -/
structure ExcF (K : PySem.W.Frag) (mg : Str → Option Value) (x : Str) : Prop where
  ex : ∃ C, mg x = some (.ref C) ∧ PySem.W.excIn K C He.veBase "ValueError.__new__" = true ∧ PySem.W.keepIn K (.ref C) = true ∧ PySem.W.subIn K (.ref C) (.type "BaseException") = some true ∧ PySem.W.typeIn K (.ref C) = some (.type "type")
def exmF (K : PySem.W.Frag) (mg : Str → Option Value) (x y : Str) (b : Bool) : Prop := ∀ c d, mg x = some c → mg y = some d → PySem.W.exmOne K c d = some b
theorem sd_raiseX {X : Cx} {W : WX} {x m : Str} {j : Nat} {p p2 pos pos2 : Pos} (F : ExcF X.K X.mg x) (hc : X.calm = true) (tk : Takes X W) (hg : Gl X x := by rfl) (hdb : (x == ("__debug__" : Str)) = false := by decide) :
    SD X W (.Raise (some (.Call (.Name x p) [.Constant (.str m) j p2] [] pos)) none pos2) (sRaise (xOwn x)) := by
  obtain ⟨C, h1, h2, h3, h4, h5⟩ := F.ex
  exact sd_raise PySem.F.excBase_ValueError hc h2 h1 h3 (raises_own h4 h5) hg tk hdb
/-- which names a clause takes -/
def pTab (l : List (Str × Bool)) : Str → Option Bool := fun n => l.lookup n
theorem pTab_ok {K : PySem.W.Frag} {mg : Str → Option Value} {y : Str} {c : Value} (hy : mg y = some c) : ∀ {l : List (Str × Bool)}, (∀ q ∈ l, exmF K mg q.1 y q.2) → ∀ n b cls, pTab l n = some b → mg n = some cls → PySem.W.exmOne K cls c = some b
  | [], _, n, b, cls, h, _ => by cases h
  | (m, b0) :: l, hl, n, b, cls, h, hn => by
    unfold pTab at h
    rw [List.lookup_cons] at h
    split at h
    · rename_i e
      cases h
      have e : n = m := by simpa using e
      subst e
      exact hl _ List.mem_cons_self cls c hn hy
    · exact pTab_ok hy (fun q hq => hl q (List.mem_cons_of_mem _ hq)) n b cls h hn
end DL
namespace L2
open PySem PySem.Spec PyProof.Rows
theorem Room.u9 {k : Nat} {A : Around} (r : Room k A) : A.units + 9 < cLine := by have := r.un; omega
end L2
namespace DL
open PySem PySem.Spec PyProof.Rows L2
variable [WC]
section
variable {K : PySem.W.Frag} {mg : Str → Option Value} {x y : Str}
noncomputable def ExcF.ad (F : ExcF K mg x) : Addr := Classical.choose F.ex
theorem ExcF.mg_ (F : ExcF K mg x) : mg x = some (.ref F.ad) := (Classical.choose_spec F.ex).1
theorem namesX {X : Cx} (F : ExcF X.K X.mg x) (hg : Gl X x := by rfl) (hdb : (x == ("__debug__" : Str)) = false := by decide) : Names X x (.ref F.ad) := ⟨hg, hdb, .inl F.mg_⟩
theorem xmCons {b : Bool} {l : List (Str × Bool)} (h : exmF K mg x y b) (t : ∀ q ∈ l, exmF K mg q.1 y q.2) : ∀ q ∈ (x, b) :: l, exmF K mg q.1 y q.2 := fun q hq => by
  rcases List.mem_cons.mp hq with e | hq
  · rw [e]; exact h
  · exact t q hq
theorem exmF_of {c d : Value} {b : Bool} (hx : mg x = some c) (hy : mg y = some d) (h : PySem.W.exmOne K c d = some b) : exmF K mg x y b := fun c' d' h1 h2 => by
  rw [hx] at h1; rw [hy] at h2; cases h1; cases h2; exact h
end
/-! ### defs that call themselves -/
theorem sds_bad {X : Cx} {W : WX} {b : List Stmt} : SDs X W b (fun _ => Mbad) := ⟨fun pins s σ H De I ⟨ρ, w, S, P⟩ => P.elim⟩
theorem Good.none {P : Program} {w : World} {K : PySem.W.Frag} {mg : Str → Option Value} {base : Heap} {k : Nat} {x : Str} {ps : List Str} {G : List D → M D} (g : Good P w K mg base k x ps G) : Good P w K mg base k x ps (fun _ _ => .bad) := by
  obtain ⟨f, fd, h1, h2, h3, F⟩ := g
  exact ⟨f, fd, h1, h2, h3, F.imp fun _ _ _ _ ⟨ds, w, wf, r, q⟩ => q.elim⟩
theorem Good.pureX {P : Program} {w : World} {K : PySem.W.Frag} {mg : Str → Option Value} {base : Heap} {k : Nat} {x : Str} {ps : List Str} {G : List D → M D} (g : Good P w K mg base k x ps G) : Good P w K mg base k x ps (pureX G) := by
  obtain ⟨f, fd, h1, h2, h3, F⟩ := g
  exact ⟨f, fd, h1, h2, h3, F.imp fun _ _ _ _ h => pureX_ok h⟩
end DL
namespace DL
/-- turns of a loop: by the int at i -/
def fuelI (i : Nat) : Env → Store → Nat := fun ρ _ => match ρ[i]? with
  | some (some (.int j)) => j.natAbs + 2
  | _ => 0
end DL
namespace DL
open PySem PySem.Spec PyProof.Rows L2
variable [WC]
/-! ### defs as values: their addresses are given -/
class FA where
  fa : Str → Addr
def fnD [FA] (x : Str) : D := .raw (.ref (FA.fa x))
def FaOk [FA] (mg : Str → Option Value) : Prop := ∀ x f, mg x = some (.ref f) → FA.fa x = f
theorem xgF [FA] {X : Cx} {W : WX} {x : Str} {ps : List Str} {G : List D → M D} {k : Nat} {pos : Pos} (g : Good X.prog X.w X.K X.mg X.base k x ps G) (fo : FaOk X.mg) (hg : Gl X x := by rfl) (hd : (x == ("__debug__" : Str)) = false := by decide) : ED X W (.Name x pos) (eC (fnD x)) := by
  obtain ⟨f, fd, h1, _⟩ := g
  refine xgV ⟨f, h1, fun F θ => ?_⟩ hg hd
  unfold fnD
  rw [fo x f h1]
  exact .raw _
/-- the first def of the table whose address it is -/
def dispF [FA] : List (Str × (List D → M D)) → V → Option (List D → M D)
  | [], _ => none
  | (x, G) :: r, v => if v = .ref (FA.fa x) then some G else dispF r v
def asRaw : D → M V
  | .raw v => Mret v
  | _ => Mbad
def eCallV [FA] (i : Nat) (tab : List (Str × (List D → M D))) (h : Env → M (List D)) : Env → M D := fun ρ => Mbind (eVar i ρ) fun d => Mbind (asRaw d) fun v => match dispF tab v with
  | some G => Mbind (h ρ) G
  | none => Mbad
/-- what each def of the table keeps -/
inductive TabF (X : Cx) (j : Nat) : List (Str × (List D → M D)) → Prop
  | nil : TabF X j []
  | cons {x : Str} {ps : List Str} {G : List D → M D} {k : Nat} {r : List (Str × (List D → M D))} (g : Good X.prog X.w X.K X.mg X.base k x ps G) (h : k ≤ j) (t : TabF X j r) : TabF X j ((x, G) :: r)
theorem dispF_ok [FA] {X : Cx} {j : Nat} (fo : FaOk X.mg) : ∀ {tab : List (Str × (List D → M D))}, TabF X j tab → ∀ v G, dispF tab v = some G → ∃ f fd ps, v = .ref f ∧ PySem.W.keepIn X.K (.ref f) = true ∧ Binds X.K fd ps [] ∧ FnOk X.prog X.w X.K X.mg X.base (L2.CX X.prog X.w) j f fd ps (spM X.K X.mg G)
  | _, .nil, v, _, e => nomatch e
  | _, .cons (x := x) (ps := ps) (G := G) (r := r) ⟨f, fd, h1, h2, h3, F⟩ h t, v, G', e => by
    unfold dispF at e
    by_cases c : v = .ref (FA.fa x)
    · rw [if_pos c] at e
      cases e
      exact ⟨f, fd, ps, by rw [c, fo x f h1], h2, h3, F.mono h⟩
    · rw [if_neg c] at e
      exact dispF_ok fo t v G' e
section
variable {X : Cx} {W : WX} {e : Expr} {es : List Expr} {t : Env → M (List D)} {x : Str} {p pos : Pos}
/-- a call by a name of the body -/
theorem run_held {i j : Nat} {sp : Addr → Sp} {ta : TA} {B : Addr → Prop} (S : ∀ f, B f → ∃ fd ps, PySem.W.keepIn X.K (.ref f) = true ∧ Binds X.K fd ps [] ∧ FnOk X.prog X.w X.K X.mg X.base (L2.CX X.prog X.w) j f fd ps (sp f)) (hr : Room j X.A)
    (hN : X.N[i]? = some x) (hv : Vis X.env.scope x) (tk : Takes X W) (ha : PA X (e :: es) ta) (hdb : (x == ("__debug__" : Str)) = false) (hcd : (x == ("__classdict__" : Str)) = false)
    (he : starEach (e :: es) X.env = (false, eval e X.env) :: starEach es X.env) (hpl : (backTo pos (starEach es X.env)).any (·.1) = false) :
    PE X (.Call (.Name x p) (e :: es) [] pos) (fun σ H Q => ∃ f, B f ∧ σ[i]? = some (some (.ref f)) ∧ ta σ H fun vs H1 => sp f vs H1 Q (WE W σ)) := by
  constructor
  rintro pins s σ H Q I ⟨f, hB, hs, ht⟩
  obtain ⟨fd, ps, hk, hb, F⟩ := S f hB
  have look := (pe_var (pos := p) hN hv hdb hcd).run pins s σ H (fun v H1 => v = .ref f ∧ H1 = H) I ⟨_, hs, rfl, rfl⟩
  refine wpAny_Call_Name_kw (thn look ?_)
  rintro u s1 ⟨v, H1, I1, r1, rfl, rfl⟩
  cases r1
  have args := ha.run pos pins s1 σ _ _ I1 ht
  exact PySem.W.callWith_K (h₀ := X.base) I.ok.mod.kin hk (thn args fun us s2 ⟨vs, H2, I2, r, q⟩ => ⟨I2.kIn, run_fnS F hr hb (passAt tk σ) I2 r q⟩) he hpl
theorem xCallV [FA] {i j : Nat} {tab : List (Str × (List D → M D))} (T : TabF X j tab) (fo : FaOk X.mg) (hr : Room j X.A) (tk : Takes X W) (ha : AD X W (e :: es) t) (hN : X.N[i]? = some x := by rfl) (hv : Vis X.env.scope x := by first | exact Or.inl rfl | exact Or.inr (Or.inl rfl) | exact Or.inr (Or.inr rfl))
    (hdb : (x == ("__debug__" : Str)) = false := by decide) (hcd : (x == ("__classdict__" : Str)) = false := by decide)
    (he : starEach (e :: es) X.env = (false, eval e X.env) :: starEach es X.env := by rfl) (hpl : (backTo pos (starEach es X.env)).any (·.1) = false := by rfl) :
    ED X W (.Call (.Name x p) (e :: es) [] pos) (eCallV i tab t) := by
  refine PE_imp (run_held (i := i) (j := j) (sp := fun f vs H Q E => ∃ G, dispF tab (.ref f) = some G ∧ spM X.K X.mg G vs H Q E) (B := fun f => ∃ G, dispF tab (.ref f) = some G) (fun f h => ?_) hr hN hv tk ha hdb hcd he hpl) fun σ H Q ⟨ρ, w, S, P⟩ => ?_
  · obtain ⟨G, hG⟩ := h
    obtain ⟨f', fd, ps, e1, k1, k2, k3⟩ := dispF_ok fo T _ _ hG
    cases e1
    exact ⟨fd, ps, k1, k2, k3.imp fun vs H Q E ⟨G', h1, h2⟩ => by rw [hG] at h1; cases h1; exact h2⟩
  unfold eCallV eVar at P
  cases hi : ρ[i]? with
  | none => rw [hi] at P; exact P.elim
  | some o =>
    rw [hi] at P
    cases o with
    | none => exact P.elim
    | some d =>
      obtain ⟨v, h1, h2⟩ := S.val i d hi
      cases d with
      | raw v0 =>
        cases h2
        have P2 : Post X.K H w ((match dispF tab v with
          | some G => Mbind (t ρ) G
          | none => Mbad) w.μ) (fun d H' w' => ∀ v, Rep X.K w'.F w'.θ v d → Q v H') (fun e H' w' => ∀ c dd, ExR X.K X.mg H' w' e c dd → W c dd σ H') := P
        cases hd : dispF tab v with
        | none => rw [hd] at P2; exact P2.elim
        | some G =>
          rw [hd] at P2
          obtain ⟨f, fd, ps, rfl, _⟩ := dispF_ok fo T v G hd
          exact ⟨f, ⟨G, hd⟩, h1, tA_bind S P2 fun ds vs H1 w1 x1 S1 r1 P1 => ⟨G, hd, ds, w1, S1.wf, r1, P1⟩⟩
      | _ => exact P.elim
end
/-! ### d.get(k) -/
def eGet1 (f h : Env → M D) : Env → M D := fun ρ => Mbind (f ρ) fun x => Mbind (chkD x) fun _ => Mbind (h ρ) fun y => kGet x y .non
def rGetN (K : PySem.W.Frag) (x y : V) : Hp → VK → Prop := fun H Q => ∃ w ks vs e kk, DKey K H w x y ks vs e kk ∧ ∀ v, Rep K w.F w.θ v ((valD ks vs e).getD .non) → Q v H
def tGetOne (K : PySem.W.Frag) (to te : TE) : TE := fun σ H Q => to σ H fun x H1 => isDt H1 x ∧ te σ H1 fun y H2 => rGetN K x y H2 Q
section
variable {X : Cx} {W : WX} {o e : Expr} {apos cpos : Pos} {to te : TE} {fo fe : Env → M D}
theorem pe_getOne (hu : X.A.units + 9 < cLine) (hw : X.w = WC.w) (ho : PE X o to) (he : PE X e te) (mm : M1 X o "get" apos e cpos) : PE X (.Call (.Attribute o "get" apos) [e] [] cpos) (tGetOne X.K to te) := by
  constructor
  rintro pins s σ H Q I q0
  refine wpAny_Call_method mm.base mm.few mm.line PySem.F.plainAttrs_dict PySem.F.slot_dict_get PySem.F.type_dict_get (thn (ho.run pins s σ H _ I q0) ?_)
  rintro u s1 ⟨x, H1, I1, rx, ⟨a, T, rfl, ha⟩, q1⟩
  cases rx
  obtain ⟨t1, t2, _⟩ := isDt_raw I1 ha
  refine ⟨t1, t2, ?_⟩
  rw [mm.trees]
  refine Calls.callWith_builtin rfl (Calls.evalArgs_plain (Calls.spliced_cons (thn (he.run pins s1 σ H1 _ I1 q1) ?_)))
  rintro iv s2 ⟨y, H2, I2, ry, w, ks, vs, ed, kk, dk, q3⟩
  refine Calls.spliced_nil ?_
  obtain ⟨a', b, T', ea, rfl, hk, dd, hm, _, _, va⟩ := dk.raw I2 hw
  cases ea
  cases ry
  have room : X.A.in1.units + 8 < cLine := by show X.A.units + 1 + 8 < cLine; omega
  refine call_meetsIn PySem.F.slot_dict_get dd.typeIs PySem.F.entry_dict_get (PySem.F.args_dict_get_2 _ _) (meetsH_dict_get (nestedKind X.prog X.w) a b hm) ⟨room, _, _, hk, dd, ?_⟩
  cases e1 : valD ks vs ed with
  | none =>
    rw [e1] at va q3
    rw [va]
    exact ⟨.non, H2, I2.tok _, rfl, q3 _ .non⟩
  | some dv =>
    rw [e1] at va q3
    obtain ⟨p, v0, hp, rp, rd⟩ := va
    rw [hp]
    exact ⟨v0, H2, I2.tok _, rp, q3 _ rd⟩
theorem ed_get1 (hu : X.A.units + 9 < cLine) (hw : X.w = WC.w) (ho : ED X W o fo) (he : ED X W e fe) (mm : M1 X o "get" apos e cpos := by exact ⟨rfl, rfl, rfl, rfl⟩) : ED X W (.Call (.Attribute o "get" apos) [e] [] cpos) (eGet1 fo fe) :=
  PE_imp (pe_getOne hu hw ho he mm) fun σ H Q ⟨ρ, w, S, P⟩ => tE_bind S P fun d v H1 w1 _ S1 r1 P1 => by
    have P2 := post_bind P1
    simp only [chkD] at P2
    cases e1 : asDct w1.μ d with
    | none => rw [e1] at P2; exact P2.elim
    | some p =>
      obtain ⟨ks0, vs0⟩ := p
      rw [e1] at P2
      have P3 := P2 H1 w1 rfl (Ext.refl _ _) S1.wf
      refine ⟨isDt_of S1.wf r1 e1, tE_bind S1 P3 fun d2 v2 H2 w2 x2 S2 r2 P5 => ?_⟩
      simp only [kGet] at P5
      cases h1 : asDct w2.μ d with
      | none => rw [h1] at P5; exact P5.elim
      | some p =>
        obtain ⟨ks, vs⟩ := p
        rw [h1] at P5
        match hk : keyOf d2 with
        | some (.tup kk) =>
          rw [hk] at P5
          simp only at P5
          split at P5
          · rename_i h3
            exact ⟨w2, ks, vs, d2, kk, ⟨S2.wf, ⟨d, x2.rep r1, h1⟩, r2, hk, dep8_ok h3⟩, fun v rv => P5 H2 w2 rfl (Ext.refl _ _) S2.wf v rv⟩
          · exact P5.elim
        | none => rw [hk] at P5; exact P5.elim
        | some (.num _) => rw [hk] at P5; exact P5.elim
        | some (.text _) => rw [hk] at P5; exact P5.elim
        | some .none => rw [hk] at P5; exact P5.elim
end
end DL
namespace SG
open PySem PySem.Spec PyProof.Rows L2
/-! sets of tuples of ints, of up to 150 rows; from lists and from dicts -/
def Msk (m : Nat) : Prop := m = 7 ∨ m = 15 ∨ m = 31 ∨ m = 63 ∨ m = 127 ∨ m = 255 ∨ m = 511
theorem Msk.cases {p : Nat → Prop} {m : Nat} (h : Msk m) (a : p 7) (b : p 15) (c : p 31) (d : p 63) (e : p 127) (f : p 255) (g : p 511) : p m := by
  rcases h with rfl | rfl | rfl | rfl | rfl | rfl | rfl <;> assumption
theorem Msk.le {m : Nat} (h : Msk m) : m ≤ 511 ∧ 7 ≤ m := by
  rcases h with rfl | rfl | rfl | rfl | rfl | rfl | rfl <;> omega
theorem Msk.odd {m : Nat} (h : Msk m) : m % 2 = 1 := by
  rcases h with rfl | rfl | rfl | rfl | rfl | rfl | rfl <;> rfl
/-! each slot is met -/
def orb (m : Nat) : Nat → Nat → List Nat
  | 0, _ => []
  | n + 1, x => x :: orb m n ((x * 5 + 1) % (m + 1))
theorem orb_mem {m y : Nat} : ∀ (n a : Nat), y ∈ orb m n (lcgN m a) → ∃ b, b < n ∧ lcgN m (a + b) = y
  | 0, _, h => nomatch h
  | n + 1, a, h => by
    rcases List.mem_cons.mp h with e | h
    · exact ⟨0, Nat.succ_pos _, e.symm⟩
    · obtain ⟨b, hb, e⟩ := orb_mem n (a + 1) h
      exact ⟨b + 1, by omega, by rw [← e]; congr 1; omega⟩
def full (m : Nat) : Bool := (List.range (m + 1)).all (fun j => (orb m (m + 1) 0).elem j) && Nat.beq (lcgN m (m + 1)) 0
theorem full_all : full 7 = true ∧ full 15 = true ∧ full 31 = true ∧ full 63 = true ∧ full 127 = true ∧ full 255 = true ∧ full 511 = true := by decide +kernel
theorem Msk.full {m : Nat} (h : Msk m) : (∀ j, j ≤ m → ∃ b, b ≤ m ∧ lcgN m b = j) ∧ lcgN m (m + 1) = 0 := by
  obtain ⟨a, b, c, d, e, f, g⟩ := full_all
  have q : SG.full m = true := h.cases (p := fun m => SG.full m = true) a b c d e f g
  unfold SG.full at q
  rw [Bool.and_eq_true, List.all_eq_true] at q
  refine ⟨fun j hj => ?_, Nat.eq_of_beq_eq_true q.2⟩
  have := q.1 j (List.mem_range.mpr (by omega))
  obtain ⟨b, hb, e⟩ := orb_mem (m := m) (m + 1) 0 (show j ∈ orb m (m + 1) 0 by simpa using this)
  exact ⟨b, by omega, by rw [← e, Nat.zero_add]⟩
theorem turn_back {m : Nat} (h : lcgN m (m + 1) = 0) : ∀ k, lcgN m (m + 1 + k) = lcgN m k
  | 0 => h
  | k + 1 => by
    have := turn_back h k
    show (lcgN m (m + 1 + k) * 5 + 1) % (m + 1) = _
    rw [this]; rfl
theorem Msk.run {m : Nat} (hm : Msk m) (h : Int) {j : Nat} (hj : j ≤ m) : ∃ n, n ≤ m + 12 ∧ runI m (SetTable.bits h) n = j := by
  obtain ⟨all, round⟩ := hm.full
  obtain ⟨a, ha, ea⟩ := all _ (runI_le m (SetTable.bits h) 12)
  obtain ⟨b, hb, eb⟩ := all j hj
  by_cases c : a ≤ b
  · refine ⟨12 + (b - a), by omega, ?_⟩
    rw [runI_tail (bits_lt h), ← ea, lcgN_add, ← eb]
    congr 1
    omega
  · refine ⟨12 + (b + (m + 1) - a), by omega, ?_⟩
    rw [runI_tail (bits_lt h), ← ea, lcgN_add, ← eb, ← turn_back round b]
    congr 1
    omega
theorem Msk.meet {m : Nat} (hm : Msk m) (h : Int) {j : Nat} (hj : j ≤ m) : ∃ k, k < 10 * SetTable.turns m ∧ way m h k = j := by
  obtain ⟨n, hn, e⟩ := hm.run h hj
  obtain ⟨k, hk, e2⟩ := run_nth m (SetTable.bits h) n
  refine ⟨k, by unfold SetTable.turns; omega, ?_⟩
  show (nth m _ k).j = j
  rw [e2]
  exact e
theorem way_top (m : Nat) (h : Int) (k : Nat) : way m h k ≤ m := by
  have hi : SetTable.bits h % (m + 1) ≤ m := Nat.le_of_lt_succ (Nat.mod_lt _ (Nat.succ_pos _))
  have b := runEnd_bd hi
  have q := nth_in (m := m) k (runAt m (SetTable.bits h % (m + 1)) (SetTable.bits h)) (show SetTable.bits h % (m + 1) + (SetTable.runEnd m (SetTable.bits h % (m + 1)) - SetTable.bits h % (m + 1)) ≤ m by omega)
  exact Nat.le_trans (Nat.le_add_right _ _) q
end SG
namespace SG
open PySem PySem.Spec PyProof.Rows L2
/-! a table -/
structure Tb (t : SetTable) (hs : List Int) : Prop where
  asc : Ris t.place.toList
  nod : t.dummies = #[]
  len : t.place.size = hs.length
  msk : Msk t.mask
  top : ∀ x ∈ t.place.toList, x ≤ t.mask
  hit : ∀ (i : Nat) (h : Int) (j : Nat), hs[i]? = some h → t.place.toList[i]? = some j → ∃ k, way t.mask h k = j ∧ ∀ c, c < k → way t.mask h c ∈ t.place.toList
section
variable {t : SetTable} {hs : List Int} {h : Int}
theorem Tb.len' (T : Tb t hs) : t.place.toList.length = hs.length := by rw [Array.length_toList, T.len]
/-- where the way of a hash ends -/
structure Stop (t : SetTable) (h : Int) (K : Nat) : Prop where
  few : K < 10 * SetTable.turns t.mask
  out : way t.mask h K ∉ t.place.toList
  inn : ∀ k, k < K → way t.mask h k ∈ t.place.toList
theorem Tb.stop (T : Tb t hs) (hl : hs.length ≤ t.mask) (h : Int) : ∃ K, Stop t h K := by
  obtain ⟨j, hj, hn⟩ := st_missing t.place.toList (t.mask + 1) (by rw [T.len']; omega)
  obtain ⟨k, hk, e⟩ := T.msk.meet h (show j ≤ t.mask by omega)
  obtain ⟨K, h1, h2, h3⟩ := st_least (p := fun k => way t.mask h k ∉ t.place.toList) k (by rw [e]; exact hn)
  exact ⟨K, by omega, h2, fun k' hk' => Classical.byContradiction fun q => h3 k' hk' q⟩
theorem Tb.early (T : Tb t hs) {K i j : Nat} (S : Stop t h K) (hi : hs[i]? = some h) (hj : t.place.toList[i]? = some j) : ∃ k, k < K ∧ way t.mask h k = j := by
  obtain ⟨k, e, b⟩ := T.hit i h j hi hj
  refine ⟨k, Classical.byContradiction fun c => ?_, e⟩
  by_cases d : K = k
  · exact S.out (by rw [d, e]; exact List.mem_of_getElem? hj)
  · exact S.out (b K (by omega))
/-- one more -/
structure Put (t t' : SetTable) (n : Nat) : Prop where
  mask : t'.mask = t.mask
  led : t'.led = t.led
  plain : t'.plain = t.plain
  fill : t'.fill = n
theorem Tb.put (T : Tb t hs) {K : Nat} (S : Stop t h K) : ∃ p t', t.put (way t.mask h K) = (t', p) ∧ p ≤ hs.length ∧ Tb t' (hs.take p ++ h :: hs.drop p) ∧ Put t t' (hs.length + 1) := by
  obtain ⟨j, hj⟩ : ∃ j, j = way t.mask h K := ⟨_, rfl⟩
  have out := S.out
  have top := way_top t.mask h K
  rw [← hj] at out top ⊢
  have c1 : SetTable.below t.place j ≤ t.place.size := (below_cut T.asc j).1
  have fresh : t.place[SetTable.below t.place j]? ≠ some j := fun e => out (List.mem_of_getElem? (by rw [Array.getElem?_toList]; exact e))
  have pl := put_place t j
  have dm := put_dm T.nod j
  have asc := ris_insert T.asc fresh
  have l1 := T.len
  have l2 := T.len'
  refine ⟨SetTable.below t.place j, (t.put j).1, rfl, by omega, ?_, rfl, rfl, rfl, ?_⟩
  · have mono : ∀ {x}, x ∈ t.place.toList → x ∈ (t.put j).1.place.toList := fun hx => by rw [pl]; exact mem_ins.mpr (.inr hx)
    constructor
    · exact asc
    · exact dm
    · rw [← Array.length_toList, pl, len_ins _ (by omega), len_ins _ (by omega), l2]
    · exact T.msk
    · intro x hx
      rw [pl] at hx
      rcases mem_ins.mp hx with e | hx
      · rw [e]; exact top
      · exact T.top x hx
    · intro i h' j' h1 h2
      rw [tins_get hs (by omega)] at h1
      rw [pl, tins_get _ (by omega)] at h2
      have old : ∀ i, hs[i]? = some h' → t.place.toList[i]? = some j' → ∃ k, way t.mask h' k = j' ∧ ∀ c, c < k → way t.mask h' c ∈ (t.put j).1.place.toList := fun i a b => by
        obtain ⟨k, e, q⟩ := T.hit i h' j' a b
        exact ⟨k, e, fun c hc => mono (q c hc)⟩
      split at h1
      · rename_i c
        rw [if_pos c] at h2
        exact old i h1 h2
      · rename_i c
        rw [if_neg c] at h2
        split at h1
        · rename_i d
          rw [if_pos d] at h2
          cases h1
          cases h2
          exact ⟨K, hj.symm, fun c hc => mono (S.inn c hc)⟩
        · rename_i d
          rw [if_neg d] at h2
          exact old _ h1 h2
  · show (t.put j).1.place.size + (t.put j).1.dummies.size = _
    rw [dm, ← Array.length_toList, pl, len_ins _ (by omega), l2]
    rfl
end
/-! laid anew -/
theorem free_at {m : Nat} (hm : Msk m) (ow : Array (Option Nat)) (h : Int) {j : Nat} (hj : j ≤ m) (hf : oAt ow j = none) :
    ∃ K, SetTable.layClean.free m ow (SetTable.turns m) (SetTable.bits h % (m + 1)) (SetTable.bits h) = some (way m h K) ∧ oAt ow (way m h K) = none ∧ ∀ k, k < K → oAt ow (way m h k) ≠ none := by
  obtain ⟨n, hn, e⟩ := hm.run h hj
  obtain ⟨N, hN⟩ : ∃ N, N = off m (SetTable.bits h % (m + 1)) (SetTable.bits h) n := ⟨_, rfl⟩
  have hw : way m h N = j := by
    rw [hN]
    show (nth m _ _).j = j
    rw [nth_off, itL_run]
    exact e
  obtain ⟨K, k1, k2, k3⟩ := st_least (p := fun k => oAt ow (way m h k) = none) N (by show oAt ow (way m h N) = none; rw [hw]; exact hf)
  refine ⟨K, free_spec m ow (SetTable.turns m) n _ _ K (by unfold SetTable.turns; omega) (by rw [← hN]; exact k1) (fun k hk => ?_) ?_, k2, k3⟩
  · have q : oAt ow (nth m (runAt m (SetTable.bits h % (m + 1)) (SetTable.bits h)) k).j ≠ none := k3 k hk
    revert q
    cases oAt ow (nth m (runAt m (SetTable.bits h % (m + 1)) (SetTable.bits h)) k).j with
    | none => exact fun q => absurd rfl q
    | some _ => exact fun _ => rfl
  · have q : oAt ow (nth m (runAt m (SetTable.bits h % (m + 1)) (SetTable.bits h)) K).j = none := k2
    rw [q]; rfl
theorem own_more {m : Nat} (hm : Msk m) {done : List Int} {ow : Array (Option Nat)} (W : Own m done ow) (hl : done.length ≤ m) (h : Int) :
    ∃ j, SetTable.layClean.free m ow (SetTable.turns m) (SetTable.bits h % (m + 1)) (SetTable.bits h) = some j ∧ Own m (done ++ [h]) (ow.setIfInBounds j (some done.length)) := by
  obtain ⟨ps, l, cov⟩ := W.ps
  obtain ⟨z, z1, z2⟩ := st_missing ps (m + 1) (by omega)
  have zf : oAt ow z = none := Classical.byContradiction fun q => z2 (cov z (by omega) q)
  obtain ⟨K, f1, f2, f3⟩ := free_at hm ow h (show z ≤ m by omega) zf
  obtain ⟨j, hj⟩ : ∃ j, j = way m h K := ⟨_, rfl⟩
  have top := way_top m h K
  have me : oAt (ow.setIfInBounds j (some done.length)) j = some done.length := oAt_set_self _ (by rw [W.sz]; omega)
  have ne : ∀ i, i ≠ j → oAt (ow.setIfInBounds j (some done.length)) i = oAt ow i := fun i hi => oAt_set_ne _ hi
  rw [← hj] at f1 f2 top
  have keep : ∀ i, oAt ow i ≠ none → oAt (ow.setIfInBounds j (some done.length)) i ≠ none := fun i hi => by
    by_cases c : i = j
    · rw [c, me]; exact fun q => nomatch q
    · rw [ne i c]; exact hi
  refine ⟨j, f1, ⟨by rw [Array.size_setIfInBounds]; exact W.sz, fun i k hi e => ?_, fun k hk => ?_, ⟨j :: ps, by simp [l], fun i hi e => ?_⟩⟩⟩
  · by_cases c : i = j
    · rw [c, me] at e
      cases e
      exact ⟨h, K, by simp, by rw [c, hj], fun k' hk' => keep _ (f3 k' hk')⟩
    · rw [ne i c] at e
      obtain ⟨h', K', a1, a2, a3⟩ := W.at_ i k hi e
      exact ⟨h', K', by rw [List.getElem?_append_left (List.getElem?_eq_some_iff.mp a1).1]; exact a1, a2, fun k' hk' => keep _ (a3 k' hk')⟩
  · rw [List.length_append, List.length_singleton] at hk
    by_cases c : k = done.length
    · exact ⟨j, top, by rw [c]; exact me⟩
    · obtain ⟨i, hi, e⟩ := W.all k (by omega)
      refine ⟨i, hi, ?_⟩
      rw [ne i (fun q => by rw [q, f2] at e; cases e)]
      exact e
  · by_cases c : i = j
    · rw [c]; exact List.mem_cons_self
    · rw [ne i c] at e
      exact List.mem_cons_of_mem _ (cov i hi e)
theorem own_all {m : Nat} (hm : Msk m) : ∀ (rest done : List Int) (ow : Array (Option Nat)), Own m done ow → done.length + rest.length ≤ m →
    ∃ ow', rest.foldl (stepF m) (some (ow, done.length)) = some (ow', (done ++ rest).length) ∧ Own m (done ++ rest) ow'
  | [], done, ow, W, _ => ⟨ow, by simp, by simpa using W⟩
  | h :: rest, done, ow, W, hl => by
    have hl' : done.length + (rest.length + 1) ≤ m := hl
    obtain ⟨j, e, W1⟩ := own_more hm W (by omega) h
    obtain ⟨ow', f, W2⟩ := own_all hm rest (done ++ [h]) _ W1 (by rw [List.length_append, List.length_singleton]; omega)
    rw [List.append_assoc] at f W2
    refine ⟨ow', ?_, W2⟩
    rw [List.foldl_cons, stepF_some e]
    rw [List.length_append, List.length_singleton] at f
    exact f
theorem lay_ok {m : Nat} (hm : Msk m) {hs : Array Int} (hn : hs.size ≤ m) : ∃ ow, SetTable.layClean m hs = some ow ∧ Own m hs.toList ow := by
  obtain ⟨ow, f, W⟩ := own_all hm hs.toList [] _ (Own.init m) (by simpa using hn)
  refine ⟨ow, ?_, by simpa using W⟩
  rw [layClean_eq]
  have f' : hs.toList.foldl (stepF m) (some (Array.replicate (m + 1) none, 0)) = some (ow, ([] ++ hs.toList).length) := f
  rw [f']; rfl
theorem anew_ok (t : SetTable) {hs : Array Int} {want M : Nat} (hw : SetTable.sizeAbove want - 1 = M) (hM : Msk M) (hn : hs.size ≤ M) :
    ∃ t' ord, t.relaid hs want = some (t', ord) ∧ ord.toList.Perm (List.range hs.size) ∧ Tb t' (ord.toList.map fun i => hs.getD i 0) ∧ t'.mask = M ∧ t'.led = t.led ∧ t'.plain = t.plain := by
  obtain ⟨ow, e, W⟩ := lay_ok hM hn
  have re : t.relaid hs want = some (tabOf t M ow, ((liveOf M ow).map (·.2)).toArray) := by rw [relaid_eq, hw, e]; rfl
  obtain ⟨r1, r2⟩ := ris_live (fun j => ow.getD j none) (List.range (M + 1)) List.pairwise_lt_range
  have r1' : Ris ((liveOf M ow).map (·.1)) := r1
  have nd : ((liveOf M ow).map (·.1)).Nodup := List.Pairwise.imp (S := (· ≠ ·)) (fun h => Nat.ne_of_lt h) r1'
  have len : (liveOf M ow).length = hs.size := by
    refine Nat.le_antisymm ?_ ?_
    · obtain ⟨ps, p1, p2⟩ := W.ps
      have := nat_nodup_len ((liveOf M ow).map (·.1)) ps nd fun x hx => by
        obtain ⟨⟨y, k⟩, hq, rfl⟩ := List.mem_map.mp hx
        obtain ⟨b1, b2⟩ := (mem_live W.sz).mp hq
        exact p2 y b1 (by rw [b2]; exact fun z => nomatch z)
      rw [List.length_map, p1, Array.length_toList] at this
      exact this
    · have := nat_nodup_len (List.range hs.size) ((liveOf M ow).map (·.2)) List.nodup_range fun k hk => by
        obtain ⟨j, b1, b2⟩ := W.all k (by simpa using hk)
        exact List.mem_map.mpr ⟨(j, k), (mem_live W.sz).mpr ⟨b1, b2⟩, rfl⟩
      simpa using this
  refine ⟨_, _, re, ?_, ⟨r1', rfl, ?_, hM, fun x hx => ?_, fun i h j a b => ?_⟩, rfl, rfl, rfl⟩
  · refine perm_range hs.size _ (by simpa using len) fun k hk => ?_
    obtain ⟨j, b1, b2⟩ := W.all k (by simpa using hk)
    exact List.mem_map.mpr ⟨(j, k), (mem_live W.sz).mpr ⟨b1, b2⟩, rfl⟩
  · show ((liveOf M ow).map (·.1)).toArray.size = _
    simp
  · have := List.mem_range.mp (r2 x hx)
    show x ≤ M
    omega
  · have a' : (((liveOf M ow).map (·.2)).map fun i => hs.getD i 0)[i]? = some h := a
    have b' : ((liveOf M ow).map (·.1))[i]? = some j := b
    cases q : (liveOf M ow)[i]? with
    | none => rw [List.getElem?_map, q] at b'; cases b'
    | some jk =>
      obtain ⟨j', k⟩ := jk
      simp only [List.getElem?_map, q, Option.map_some, Option.some.injEq] at a' b'
      subst b'
      obtain ⟨b1, b2⟩ := (mem_live W.sz).mp (List.mem_of_getElem? q)
      obtain ⟨h0, K, c1, c2, c3⟩ := W.at_ j' k b1 b2
      have eh : h0 = h := by
        rw [← a', Array.getD_eq_getD_getElem?, ← Array.getElem?_toList, c1]; rfl
      subst eh
      refine ⟨K, c2, fun c hc => ?_⟩
      show way M h0 c ∈ (liveOf M ow).map (·.1)
      obtain ⟨k2, hk2⟩ := Option.ne_none_iff_exists'.mp (c3 c hc)
      exact List.mem_map.mpr ⟨(way M h0 c, k2), (mem_live W.sz).mpr ⟨way_top M h0 c, hk2⟩, rfl⟩
end SG
namespace SG
open PySem PySem.Spec PyProof.Rows L2
/-- the set at a holds the rows L -/
structure Gs (P : Program) (w : World) (h : Heap) (a : Addr) (L : List (Addr × List Int)) (es : Array (Int × Value)) (ep : Nat) (t : SetTable) : Prop where
  obj : ∃ o, h.get? a = some o ∧ o.ExactSet ∧ o.data = .set es ep t
  rws : es.toList = rowsOf P w L
  tab : Tb t (L.map fun p => thash P w p.2)
  nod : (L.map (·.2)).Nodup
  tup : ∀ p ∈ L, IsT P w h p.2 p.1
  pln : t.plain = true
  led : w.params.followText "set-order" = true ∨ t.led = true
  big : L.length * 5 < t.mask * 3
  few : L.length < 150
section
variable {P : Program} {w : World} {A : Around} {E : Value → Shared → Prop} {s : Shared} {a : Addr} {L : List (Addr × List Int)} {es : Array (Int × Value)} {ep : Nat} {t : SetTable}
theorem rows_len {L : List (Addr × List Int)} {es : Array (Int × Value)} (h : es.toList = rowsOf P w L) : es.size = L.length := by
  have := congrArg List.length h
  simpa [rowsOf] using this
theorem row_at {L : List (Addr × List Int)} {es : Array (Int × Value)} (h : es.toList = rowsOf P w L) {i : Nat} {p : Addr × List Int} (hp : L[i]? = some p) : es[i]? = some (thash P w p.2, Value.ref p.1) := by
  rw [← Array.getElem?_toList, h]
  simp [rowsOf, hp]
theorem fits_of {t : SetTable} {n : Nat} (h1 : t.place.size = n) (h2 : t.dummies = #[]) (h3 : n ≤ t.mask) : t.fits n = true := by
  unfold SetTable.fits SetTable.fill
  rw [h2, h1]
  simpa using h3
theorem Gs.fits (R : Gs P w s.heap a L es ep t) : t.fits es.size = true := by
  have h1 := R.tab.len
  have h2 := rows_len R.rws
  have h3 := R.big
  rw [List.length_map] at h1
  exact fits_of (by omega) R.tab.nod (by omega)
theorem msk_stays {t : SetTable} (h : Msk t.mask) : ¬ t.gaveWay = true := by
  unfold SetTable.gaveWay
  rw [h.odd]
  decide
abbrev strt (m : Nat) (h : Int) : SetTable.Probe := runAt m (SetTable.bits h % (m + 1)) (SetTable.bits h)
theorem no_dummy (m : Nat) : ∀ (n : Nat) (p : SetTable.Probe), p.dummy = none → (nth m p n).dummy = none
  | 0, _, h => h
  | n + 1, p, h => no_dummy m n (adv m p) (by unfold adv; split <;> exact h)
theorem look (R : Gs P w s.heap a L es ep t) {x : Addr} {k : List Int} (hx : IsT P w s.heap k x) (hu : A.units < cLine) {K : Nat} (S : Stop t (thash P w k) K) {Q : SetFound → Shared → Prop}
    (yes : k ∈ L.map (·.2) → Q (.there none) s) (no : k ∉ L.map (·.2) → Q (.free (way t.mask (thash P w k) K) false) s) :
    ∀ (f c : Nat) (st : Option SetTable.Probe), st.getD (t.probeStart (thash P w k)) = nth t.mask (strt t.mask (thash P w k)) c → c ≤ K → K - c < f →
      (∀ (i : Nat) p, L[i]? = some p → p.2 = k → ∃ d, c ≤ d ∧ d < K ∧ t.place.toList[i]? = some (way t.mask (thash P w k) d)) → wpAny (model P w) A (setSearchFrom a (.ref x) (thash P w k) true f st) Q E s
  | 0, _, _, _, _, hf, _ => absurd hf (Nat.not_lt_zero _)
  | f + 1, c, st, hst, hc, hf, todo => by
    obtain ⟨o, ho, hex, hd⟩ := R.obj
    obtain ⟨b, hb⟩ : ∃ b, b = thash P w k := ⟨_, rfl⟩
    have ih := look R hx hu S yes no f
    rw [← hb] at S no hst todo ih ⊢
    have whr : ∀ q, (nth t.mask (nth t.mask (strt t.mask b) c) q).j = way t.mask b (c + q) := fun q => by rw [← nth_add]
    have back : c + (K - c) = K := by omega
    have met := go_spec t R.tab.asc R.tab.nod (fun i => (es[i]?.map (·.1)).getD 0) b (10 * SetTable.turns t.mask) (K - c) (nth t.mask (strt t.mask b) c) (no_dummy _ _ _ rfl) (by have := S.few; omega) (fun q hq => by rw [whr]; exact S.inn _ (by omega)) (by rw [whr, back]; exact S.out)
    have hashOf : ∀ (i : Nat) p, L[i]? = some p → (es[i]?.map (·.1)).getD 0 = thash P w p.2 := fun i p hp => by rw [row_at R.rws hp]; rfl
    rw [setSearchFrom_succ]
    refine wpAny_bind (wpAny_setState_of ho hd R.fits ?_)
    dsimp only
    refine wp_if_neg (msk_stays R.tab.msk) ?_
    try refine wpAny_bind (wpAny_pure ?_)
    rw [hst]
    unfold SetTable.probe
    rcases met with ⟨q, i, hq, hi, hh, hno, e⟩ | ⟨hno, e⟩
    · rw [e]
      dsimp only
      rw [whr] at hi
      have il : i < L.length := by
        have h1 := (List.getElem?_eq_some_iff.mp hi).1
        have h2 := R.tab.len'
        rw [List.length_map] at h2
        omega
      obtain ⟨p, hp⟩ : ∃ p, L[i]? = some p := ⟨_, List.getElem?_eq_getElem il⟩
      have hmem := List.mem_of_getElem? hp
      have ent := row_at R.rws hp
      have nx : nth t.mask (nth t.mask (strt t.mask b) c) (q + 1) = nth t.mask (strt t.mask b) (c + (q + 1)) := (nth_add t.mask c _ _).symm
      rw [nx, whr]
      have rest : wpAny (model P w) A (searchRest a (.ref x) b true f es t (way t.mask b (c + q)) i (nth t.mask (strt t.mask b) (c + (q + 1)))) Q E s := by
        unfold searchRest
        rw [ent]
        dsimp only
        refine wpAny_bind (wpAny_holding (wpAny_eqBool_tuple hu (R.tup p hmem) hx ?_))
        refine wpAny_bind (wpAny_setState_of ho hd R.fits ?_)
        dsimp only
        by_cases same : p.2 = k
        · refine wp_if_pos (by simp [same]) ?_
          exact wpAny_pure (yes (List.mem_map.mpr ⟨p, hmem, same⟩))
        · refine wp_if_neg (by simp [same]) ?_
          try refine wpAny_bind (wpAny_pure ?_)
          rw [sameMem]
          dsimp only
          have live := slot_live R.tab.asc hi
          simp only [if_true, live, ent]
          refine wpAny_bind (wpAny_isSame_ref_self (wpAny_bind (wpAny_pure ?_)))
          simp only [if_true]
          refine wp_if_neg (by simp [same]) ?_
          refine ih (c + (q + 1)) _ rfl (by omega) (by omega) fun i' p' hp' hk' => ?_
          obtain ⟨d, d1, d2, d3⟩ := todo i' p' hp' hk'
          refine ⟨d, ?_, d2, d3⟩
          apply Classical.byContradiction
          intro far
          by_cases eqd : d = c + q
          · rw [eqd] at d3
            have l2 := slot_live R.tab.asc d3
            rw [live] at l2
            injection l2 with l2
            rw [← l2, hp] at hp'
            cases hp'
            exact same hk'
          · refine hno (d - c) i' (by omega) (by rw [whr, show c + (d - c) = d by omega]; exact d3) ?_
            rw [hashOf i' p' hp', hk', hb]
      by_cases hl : t.led = true
      · refine wp_if_neg (by simp [hl]) ?_
        try refine wpAny_bind (wpAny_pure ?_)
        exact rest
      · refine wp_if_pos (by simp [hl]) ?_
        refine wpAny_bind (seen_tup hx (fun y hy => ?_) ?_)
        · obtain ⟨e', he', rfl⟩ := List.mem_map.mp hy
          have m1 : e' ∈ es.toList := by
            have := (Array.mem_filter.mp (Array.mem_toList_iff.mp he')).1
            exact Array.mem_toList_iff.mpr this
          rw [R.rws] at m1
          obtain ⟨p2, hp2, rfl⟩ := List.mem_map.mp m1
          exact ⟨p2.2, p2.1, rfl, R.tup p2 hp2⟩
        · refine wp_if_neg (by decide) ?_
          try refine wpAny_bind (wpAny_pure ?_)
          exact rest
    · rw [e]
      dsimp only
      rw [whr, back]
      refine wpAny_pure (no fun hm => ?_)
      obtain ⟨p, hp, hk⟩ := List.mem_map.mp hm
      obtain ⟨i, hi, e0⟩ := List.getElem_of_mem hp
      have at_ : L[i]? = some p := by rw [List.getElem?_eq_getElem hi, e0]
      obtain ⟨d, d1, d2, d3⟩ := todo i p at_ hk
      refine hno (d - c) i (by omega) (by rw [whr, show c + (d - c) = d by omega]; exact d3) ?_
      rw [hashOf i p at_, hk, hb]
theorem seek (R : Gs P w s.heap a L es ep t) {x : Addr} {k : List Int} (hx : IsT P w s.heap k x) (hu : A.units < cLine) {Q : SetFound → Shared → Prop}
    (yes : k ∈ L.map (·.2) → Q (.there none) s) (no : ∀ K, k ∉ L.map (·.2) → Stop t (thash P w k) K → Q (.free (way t.mask (thash P w k) K) false) s) :
    wpAny (model P w) A (setSearch a (.ref x) (thash P w k) true) Q E s := by
  have hbig := R.big
  have hmk := R.tab.msk.le
  obtain ⟨K, S⟩ := R.tab.stop (by rw [List.length_map]; omega) (thash P w k)
  have few := S.few
  unfold SetTable.turns at few
  refine look R hx hu S yes (fun h => no K h S) 100000 0 none rfl (Nat.zero_le _) (by omega) fun i p hp hk => ?_
  have l2 := R.tab.len'
  rw [List.length_map] at l2
  have il : i < t.place.toList.length := by
    have := (List.getElem?_eq_some_iff.mp hp).1
    omega
  obtain ⟨c, hc, e⟩ := R.tab.early S (i := i) (j := t.place.toList[i]) (by rw [List.getElem?_map, hp, ← hk]; rfl) (List.getElem?_eq_getElem il)
  exact ⟨c, Nat.zero_le _, hc, by rw [e]; exact List.getElem?_eq_getElem il⟩
end
end SG
namespace SG
open PySem PySem.Spec PyProof.Rows L2
section
variable {P : Program} {w : World} {A : Around} {E : Value → Shared → Prop} {s : Shared} {a : Addr} {L : List (Addr × List Int)} {es : Array (Int × Value)} {ep : Nat} {t : SetTable}
/-- all laid anew -/
theorem relay {o : Obj} (ho : s.heap.get? a = some o) (hex : o.ExactSet) (hd : o.data = .set es ep t) (hr : es.toList = rowsOf P w L) (h1 : t.place.size = es.size) (h2 : t.dummies = #[]) (h3 : es.size ≤ t.mask)
    (nd : (L.map (·.2)).Nodup) (tup : ∀ p ∈ L, IsT P w s.heap p.2 p.1) (pl : t.plain = true) (ld : w.params.followText "set-order" = true ∨ t.led = true) (few : L.length < 150) {want M : Nat}
    (hw : SetTable.sizeAbove want - 1 = M) (hM : Msk M) (hl : SetTable.sizeAbove want ≤ 512) (hb : L.length * 5 < M * 3) {Q : Unit → Shared → Prop}
    (q : ∀ h' L' es' ep' t', Heap.SameBut a s.heap h' → Gs P w h' a L' es' ep' t' → t'.mask = M → L'.Perm L → Q () { s with heap := h' }) : wpAny (model P w) A (setRelay a want) Q E s := by
  have hz := rows_len hr
  obtain ⟨t', ord, e, pm, T, em, el, ep'⟩ := anew_ok t (hs := es.map (·.1)) hw hM (by rw [Array.size_map]; omega)
  rw [Array.size_map, hz] at pm
  obtain ⟨L2, r1, r2, r3⟩ := order_rows L es ord hr pm
  rw [← r3] at T
  have z2 : (ord.filterMap (es[·]?)).size = es.size := by rw [rows_len r1, r2.length_eq, hz]
  rw [setRelay_eq]
  refine wpAny_bind (wpAny_setState_of ho hd (fits_of h1 h2 h3) ?_)
  dsimp only
  refine wp_if_neg (by rw [sizeLine_eq]; omega) ?_
  try refine wpAny_bind (wpAny_pure ?_)
  rw [e]
  dsimp only
  refine wpAny_bind ?_
  refine wp_if_neg (by rw [z2]; simp) ?_
  try refine wpAny_bind (wpAny_pure ?_)
  refine wpAny_pure ?_
  dsimp only
  refine wpAny_storeSet_of ho hd ?_ (by rw [z2, hz, sizeLine_eq]; omega)
  have sb : Heap.SameBut a s.heap (s.heap.update a (Obj.putSet (ord.filterMap (es[·]?)) t')) := Heap.SameBut.update ..
  exact q _ L2 _ (ep + 1) t' sb ⟨⟨_, store_at ho hd, ⟨hex.1, hex.2.1, hex.2.2⟩, rfl⟩, r1, T, (r2.map (·.2)).nodup_iff.mpr nd, fun p hp => isT_same (tup p (r2.mem_iff.mp hp)) ho hd sb, by rw [ep']; exact pl, by rw [el]; exact ld, by rw [r2.length_eq, em]; exact hb, by rw [r2.length_eq]; exact few⟩ em r2
theorem grow_all : ((List.range 150).all fun n => [7, 15, 31, 63, 127, 255, 511].all fun m => !(decide (n * 5 < m * 3) && decide (m * 3 ≤ (n + 1) * 5)) || decide (150 ≤ n + 1) ||
    ([7, 15, 31, 63, 127, 255, 511].elem (SetTable.sizeAbove (SetTable.grown (n + 1)) - 1) && decide (SetTable.sizeAbove (SetTable.grown (n + 1)) ≤ 512) && decide ((n + 1) * 5 < (SetTable.sizeAbove (SetTable.grown (n + 1)) - 1) * 3) && decide (n + 1 ≤ m))) = true := by decide +kernel
theorem msk_mem {m : Nat} : Msk m ↔ m ∈ [7, 15, 31, 63, 127, 255, 511] := by simp [Msk]
theorem grow {n m : Nat} (hm : Msk m) (h1 : n * 5 < m * 3) (h2 : m * 3 ≤ (n + 1) * 5) (h3 : n + 1 < 150) : (Msk (SetTable.sizeAbove (SetTable.grown (n + 1)) - 1) ∧ SetTable.sizeAbove (SetTable.grown (n + 1)) ≤ 512) ∧ (n + 1) * 5 < (SetTable.sizeAbove (SetTable.grown (n + 1)) - 1) * 3 ∧ n + 1 ≤ m := by
  have := List.all_eq_true.mp (List.all_eq_true.mp grow_all n (List.mem_range.mpr (by omega))) m (msk_mem.mp hm)
  have n3 : ¬ 150 ≤ n + 1 := by omega
  simp only [h1, h2, n3, decide_true, decide_false, Bool.and_self, Bool.not_true, Bool.or_self, Bool.false_or, Bool.and_eq_true, decide_eq_true_eq, List.elem_eq_mem] at this
  exact ⟨⟨msk_mem.mpr this.1.1.1, this.1.1.2⟩, this.1.2, this.2⟩
/-- one row more -/
theorem add1 (R : Gs P w s.heap a L es ep t) {x : Addr} {k : List Int} (hx : IsT P w s.heap k x) (hu : A.units < cLine) (few : L.length + 1 < 150) {Q : Bool → Shared → Prop}
    (q : ∀ b h' L' es' ep' t', Heap.SameBut a s.heap h' → Gs P w h' a L' es' ep' t' → (k ∈ L.map (·.2) → L' = L) → (k ∉ L.map (·.2) → L'.Perm ((x, k) :: L)) → Q b { s with heap := h' }) :
    wpAny (model P w) A (setAddHashed a (.ref x) (thash P w k)) Q E s := by
  obtain ⟨o, ho, hex, hd⟩ := R.obj
  have hz := rows_len R.rws
  have big := R.big
  unfold setAddHashed
  refine wpAny_holding ?_
  rw [show (100000 : Nat) = 99999 + 1 from rfl, setAddHashedIn_succ]
  refine wpAny_bind (wpAny_setState_of ho hd R.fits ?_)
  dsimp only
  refine wp_if_neg (by simp [byScan, Value.scannable]) ?_
  try refine wpAny_bind (wpAny_pure ?_)
  refine wpAny_bind (seek R hx hu (fun hm => ?_) fun K hm S => ?_)
  · dsimp only
    exact wpAny_pure (q false s.heap L es ep t (Heap.SameBut.refl a s.heap) R (fun _ => rfl) fun z => absurd hm z)
  · dsimp only
    refine wpAny_bind (wpAny_setState_of ho hd R.fits ?_)
    dsimp only
    obtain ⟨p, t1, ep1, hp, T1, U⟩ := R.tab.put S
    rw [ep1]
    rw [List.length_map] at hp
    have U4 := U.fill
    rw [List.length_map] at U4
    have pl1 : t1.plain = true := by rw [U.plain]; exact R.pln
    dsimp only
    first
      | (refine wpAny_bind ?_; refine wp_if_pos pl1 ?_; refine hashBy_tup hx ?_)
      | refine wp_if_pos pl1 (wpAny_bind (hashBy_tup hx ?_))
    simp only [if_true]
    obtain ⟨es1, hes1⟩ : ∃ es1, es1 = SetTable.insertAt es p (thash P w k, Value.ref x) := ⟨_, rfl⟩
    obtain ⟨L1, hL1⟩ : ∃ L1, L1 = L.take p ++ (x, k) :: L.drop p := ⟨_, rfl⟩
    have pm : L1.Perm ((x, k) :: L) := by rw [hL1]; exact put_perm L p (x, k)
    have r1 : es1.toList = rowsOf P w L1 := by rw [hes1, hL1, SetTable.toList_insertAt, rows_put, R.rws]
    have z1 := rows_len r1
    have len1 : L1.length = L.length + 1 := pm.length_eq
    have T2 : Tb t1 (L1.map fun p => thash P w p.2) := by rw [hL1, List.map_append, List.map_cons, List.map_take, List.map_drop]; exact T1
    have nd1 : (L1.map (·.2)).Nodup := (pm.map (·.2)).nodup_iff.mpr (List.nodup_cons.mpr ⟨hm, R.nod⟩)
    rw [← hes1]
    refine wpAny_bind (wpAny_storeSet_of ho hd ?_ (by rw [z1, len1, sizeLine_eq]; omega))
    have sb : Heap.SameBut a s.heap (s.heap.update a (Obj.putSet es1 t1)) := Heap.SameBut.update ..
    have ho1 := store_at (es' := es1) (t' := t1) ho hd
    generalize s.heap.update a (Obj.putSet es1 t1) = h1 at sb ho1 ⊢
    have tup1 : ∀ p ∈ L1, IsT P w h1 p.2 p.1 := fun p hp => by
      rcases List.mem_cons.mp (pm.mem_iff.mp hp) with e | hp
      · rw [e]; exact isT_same hx ho hd sb
      · exact isT_same (R.tup p hp) ho hd sb
    have ld1 : w.params.followText "set-order" = true ∨ t1.led = true := by rw [U.led]; exact R.led
    have fm : t1.tooFull = decide (t.mask * 3 ≤ (L.length + 1) * 5) := by
      unfold SetTable.tooFull
      rw [U4, U.mask]
    have l1 : t1.place.size = es1.size := by rw [T2.len, List.length_map, z1]
    by_cases hf : t.mask * 3 ≤ (L.length + 1) * 5
    · have ht : t1.tooFull = true := by rw [fm]; exact decide_eq_true hf
      obtain ⟨⟨g1, g2⟩, g3, g4⟩ := grow R.tab.msk big hf few
      first
        | (refine wpAny_bind ?_; refine wp_if_pos (by simp [ht]) ?_)
        | (refine wp_if_pos (by simp [ht]) ?_; refine wpAny_bind ?_)
      rw [hz]
      refine relay (s := { s with heap := h1 }) ho1 ⟨hex.1, hex.2.1, hex.2.2⟩ rfl r1 l1 T2.nod (by rw [z1, len1, U.mask]; exact g4) nd1 tup1 pl1 ld1 (by omega) rfl g1 g2 (by rw [len1]; exact g3) ?_
      intro h2 L2 es2 ep2 t2 sb2 R2 _ pm2
      exact wpAny_pure (q true h2 L2 es2 ep2 t2 (sb.trans sb2) R2 (fun z => absurd z hm) fun _ => pm2.trans pm)
    · have ht : ¬ t1.tooFull = true := by rw [fm]; simpa using hf
      first
        | refine wp_if_neg (by simp [ht]) ?_
        | (refine wpAny_bind ?_; refine wp_if_neg (by simp [ht]) ?_; refine wpAny_pure ?_)
      exact wpAny_pure (q true h1 L1 es1 (ep + 1) t1 sb ⟨⟨_, ho1, ⟨hex.1, hex.2.1, hex.2.2⟩, rfl⟩, r1, T2, nd1, tup1, pl1, ld1, by rw [len1, U.mask]; omega, by omega⟩ (fun z => absurd z hm) fun _ => pm)
end
end SG
namespace SG
open PySem PySem.Spec PyProof.Rows L2
abbrev newO (w : World) : Obj := { cls := .type "set", dict := none, data := .set #[] 0 (.fresh 0 0 (!w.params.followText "set-order")) }
section
variable {P : Program} {w : World} {A : Around} {E : Value → Shared → Prop} {s : Shared}
theorem fresh_ok {h : Heap} {a : Addr} (ho : h.get? a = some (newO w)) : Gs P w h a [] #[] 0 (.fresh 0 0 (!w.params.followText "set-order")) where
  obj := ⟨_, ho, ⟨rfl, rfl, rfl⟩, rfl⟩
  rws := rfl
  tab := ⟨.nil, rfl, rfl, .inl rfl, fun x hx => (nomatch hx), fun i h j hi => by cases hi⟩
  nod := .nil
  tup := fun p hp => (nomatch hp)
  pln := rfl
  led := by
    show _ ∨ (!w.params.followText "set-order") = true
    cases w.params.followText "set-order" <;> simp
  big := by show 0 < 7 * 3; decide
  few := by show 0 < 150; decide
/-- set(x), by what fills it -/
theorem made {x : Value} {Q : Value → Shared → Prop}
    (fill : wpAny (model P w) A.in1.in1 (Builtin.Frozenset.updateFrom "set.__init__" s.heap.objs.size x) (fun _ s2 => Q (.ref s.heap.objs.size) s2) E { s with heap := s.heap.push (newO w) }) :
    wpAny (model P w) A (call (.type "set") [x]) Q E s := by
  obtain ⟨c, tl, hmro⟩ := F.called_set.mro
  have k1 := F.called_set.made
  have k2 := F.called_set.sub
  have k3 := F.called_set.notType
  have k4 := F.called_set.canCreate
  have k5 := F.typeCall_set_1 x
  refine wpAny_call (codeAny_of_tree ?_)
  show wpAny _ _ (callAny (.type "set") ⟨[x], []⟩) _ _ s
  refine wpAny_pure ⟨Code.quiet_builtin _ (by decide +kernel), codeAny_builtin F.entry_type_call ?_⟩
  rw [Around.under_plain (weight_type_call_type "set" [x] []) rfl]
  repeat any_goals (first | wp_step | assumption)
  refine codeAny_mono (code_set_led1 x (E := E) (Q₁ := fun v s1 => v = .ref s.heap.objs.size ∧ s1 = { s with heap := s.heap.push (newO w) }) ⟨rfl, rfl⟩) fun r s1 hr => ?_
  match r, hr with
  | .error _, hr => exact hr
  | .ok .next, hr => exact hr.elim
  | .ok .brk, hr => exact hr.elim
  | .ok .cont, hr => exact hr.elim
  | .ok (.ret v), ⟨hv, hs⟩ =>
    subst hv hs
    have at_ : (s.heap.push (newO w)).get? s.heap.objs.size = some (newO w) := Heap.get?_push_size _ rfl
    have ty : Shared.TypeIs { s with heap := s.heap.push (newO w) } (.ref s.heap.objs.size) "set" := ⟨_, at_, rfl⟩
    have k6 := F.called_set.init.lookup
    have k7 := F.called_set.init.bind (.ref s.heap.objs.size)
    repeat any_goals (first | wp_step | assumption)
    refine codeAny_mono (codeAny_call_builtin (R := wants (fun r s2 => r = .none ∧ Q (.ref s.heap.objs.size) s2) E) F.called_set.init.plain F.entry_set_init (check_set_init_1 ty ?_)) fun r2 s2 hr2 => ?_
    · unfold Builtin.«set.__init__» noKeywords
      generalize hU : Builtin.Frozenset.updateFrom = U at fill ⊢
      wp_walk
      refine wpAny_mono fill (fun _ s3 h3 => ?_) fun _ _ e => e
      exact wpAny_pure ⟨rfl, h3⟩
    · match r2, hr2 with
      | .error _, hr2 => exact hr2
      | .ok .next, hr2 => exact hr2.elim
      | .ok .brk, hr2 => exact hr2.elim
      | .ok .cont, hr2 => exact hr2.elim
      | .ok (.ret v2), ⟨e2, q2⟩ =>
        subst e2
        repeat any_goals (first | wp_step | assumption)
end
end SG
namespace SG
open PySem PySem.Spec PyProof.Rows L2
section
variable {P : Program} {w : World} {A : Around} {E : Value → Shared → Prop} {s : Shared}
theorem room_all : ((List.range 150).all fun n => decide (n * 5 < 21) || ([7, 15, 31, 63, 127, 255, 511].elem (SetTable.sizeAbove (n * 2) - 1) && decide (SetTable.sizeAbove (n * 2) ≤ 512) && decide (n * 5 < (SetTable.sizeAbove (n * 2) - 1) * 3))) = true := by decide +kernel
theorem room {S : Addr} {n : Nat} (hn : n < 150) (R : Gs P w s.heap S [] #[] 0 (.fresh 0 0 (!w.params.followText "set-order"))) {Q : Unit → Shared → Prop}
    (q : ∀ h' L' es' ep' t', Heap.SameBut S s.heap h' → Gs P w h' S L' es' ep' t' → L' = [] → Q () { s with heap := h' }) : wpAny (model P w) A (setRoomFor S n) Q E s := by
  obtain ⟨o, ho, hex, hd⟩ := R.obj
  unfold setRoomFor
  refine wpAny_bind (wpAny_setState_of ho hd R.fits ?_)
  dsimp only
  by_cases c : n * 5 < 21
  · have e : (SetTable.fresh 0 0 (!w.params.followText "set-order")).roomFor n = none := by
      unfold SetTable.roomFor
      rw [if_neg]
      show ¬ ((0 + 0 + n) * 5 ≥ 7 * 3)
      omega
    rw [e]
    exact wpAny_pure (q s.heap [] #[] 0 _ (Heap.SameBut.refl S s.heap) R rfl)
  · have e : (SetTable.fresh 0 0 (!w.params.followText "set-order")).roomFor n = some (n * 2) := by
      unfold SetTable.roomFor
      rw [if_pos]
      · show some ((0 + n) * 2) = _
        rw [Nat.zero_add]
      · show (0 + 0 + n) * 5 ≥ 7 * 3
        omega
    rw [e]
    have all := List.all_eq_true.mp room_all n (List.mem_range.mpr hn)
    simp only [c, decide_false, Bool.false_or, Bool.and_eq_true, decide_eq_true_eq, List.elem_eq_mem] at all
    refine relay ho hex hd R.rws R.tab.len R.tab.nod (Nat.zero_le _) R.nod R.tup R.pln R.led R.few rfl (msk_mem.mpr all.1.1) all.1.2 (by have := (msk_mem.mpr all.1.1).le; simp; omega) ?_
    intro h' L' es' ep' t' sb R' _ pm
    exact q h' L' es' ep' t' sb R' (List.perm_nil.mp pm)
theorem nodup_snd {ks : List (Addr × List Int)} (nd : (ks.map (·.2)).Nodup) {p p' : Addr × List Int} (hp : p ∈ ks) (hp' : p' ∈ ks) (e : p.2 = p'.2) : p = p' := by
  induction ks with
  | nil => cases hp
  | cons x ks ih =>
    rw [List.map_cons, List.nodup_cons] at nd
    rcases List.mem_cons.mp hp with h1 | h1 <;> rcases List.mem_cons.mp hp' with h2 | h2
    · rw [h1, h2]
    · exact absurd (List.mem_map.mpr ⟨p', h2, by rw [← e, h1]⟩) nd.1
    · exact absurd (List.mem_map.mpr ⟨p, h1, by rw [e, h2]⟩) nd.1
    · exact ih nd.2 h1 h2
theorem fillD {d S : Addr} {od : Obj} {des : Array DictEntry} {dep : Nat} (ho : s.heap.get? d = some od) (hx : od.ExactDict) (hd : od.data = .dict des dep) (hsm : (d == sysModules) = false) (ks : List (Addr × List Int)) (hks : (des.toList.map fun e => (e.hash, e.key)) = rowsOf P w ks)
    (nd : (ks.map (·.2)).Nodup) (tup : ∀ p ∈ ks, IsT P w s.heap p.2 p.1) (few : ks.length < 150) (R : Gs P w s.heap S [] #[] 0 (.fresh 0 0 (!w.params.followText "set-order"))) (hu : A.units < cLine) {Q : Unit → Shared → Prop}
    (q : ∀ h' L es ep t, Heap.SameBut S s.heap h' → Gs P w h' S L es ep t → L.Perm ks → Q () { s with heap := h' }) : wpAny (model P w) A (Builtin.Frozenset.updateFrom "set.__init__" S (.ref d)) Q E s := by
  have ty : s.TypeIs (.ref d) "dict" := ⟨od, ho, hx.1⟩
  unfold Builtin.Frozenset.updateFrom Builtin.Frozenset.isAnySet
  have ne : d ≠ S := fun e => by
    obtain ⟨o2, h2, _, d2⟩ := R.obj
    rw [← e, ho] at h2
    cases h2
    rw [hd] at d2
    cases d2
  refine wpAny_bind ?_
  show wpAny _ _ (isInstance (.ref d) (.type "set") >>= _) _ _ s
  refine wpAny_bind (wpAny_isInstance ty F.sub_dict_set ?_)
  show wpAny _ _ (isInstance (.ref d) (.type "frozenset")) _ _ s
  refine wpAny_isInstance ty F.sub_dict_frozenset ?_
  rw [if_neg Bool.false_ne_true]
  refine wpAny_bind (wpAny_typeOf ty ?_)
  rw [if_pos (by decide)]
  refine wpAny_bind (wpAny_rule ?_)
  refine wpAny_bind (wpAny_pure ?_)
  dsimp only
  rw [if_neg (by rw [hsm]; exact Bool.false_ne_true)]
  refine wpAny_bind (wpAny_dictEpoch ho hd ?_)
  refine wpAny_bind (wpAny_dictEntries ho hd ?_)
  have n1 : des.size = ks.length := by
    have := congrArg List.length hks
    simpa [rowsOf] using this
  have entry : ∀ (i : Nat) (p : Addr × List Int), ks[i]? = some p → ∃ e, des[i]? = some e ∧ e.hash = thash P w p.2 ∧ e.key = .ref p.1 := fun i p hp => by
    have h1 : (rowsOf P w ks)[i]? = some (thash P w p.2, Value.ref p.1) := by simp [rowsOf, hp]
    rw [← hks, List.getElem?_map, Option.map_eq_some_iff] at h1
    obtain ⟨e, h2, h3⟩ := h1
    exact ⟨e, by rw [← Array.getElem?_toList]; exact h2, congrArg Prod.fst h3, congrArg Prod.snd h3⟩
  refine wpAny_bind (room (n := des.size) (by omega) R fun h1 L1 es1 ep1 t1 sb1 R1 e1 => ?_)
  subst e1
  have stay : ∀ {h' : Heap}, Heap.SameBut S s.heap h' → h'.get? d = some od := fun sb => (sb.2 d ne).trans ho
  refine wpAny_bind (wpAny_dictEntries (stay sb1) hd ?_)
  rw [Std.Legacy.Range.forIn_eq_forIn_range']
  simp only [Std.Legacy.Range.size, Nat.sub_zero, Nat.add_sub_cancel, Nat.div_one]
  have tup' : ∀ {h' : Heap}, Heap.SameBut S s.heap h' → ∀ p ∈ ks, IsT P w h' p.2 p.1 := fun {h'} sb p hp => by
    obtain ⟨o2, h2, x2, d2⟩ := R.obj
    exact isT_same (tup p hp) h2 d2 sb
  refine wpAny_bind (wpAny_forIn_list _ (fun rest b s' => ∃ i h' L es ep t, rest = List.range' i (des.size - i) ∧ i ≤ des.size ∧ s' = { s with heap := h' } ∧ Heap.SameBut S s.heap h' ∧ Gs P w h' S L es ep t ∧ Got ks i L) _ ?_ ?_ _ _ ⟨0, h1, [], es1, ep1, t1, by simp, Nat.zero_le _, rfl, sb1, R1, Got.zero ks⟩)
  · rintro y rest b s' ⟨i, h', L, es, ep, t, hr, hi, rfl, sb, RL, g⟩
    have lt : i < des.size := by
      apply Classical.byContradiction
      intro c
      have e0 : des.size - i = 0 := by omega
      rw [e0] at hr
      cases hr
    have e0 : des.size - i = (des.size - (i + 1)) + 1 := by omega
    rw [e0, List.range'_succ] at hr
    injection hr with hy hrest
    subst hy
    obtain ⟨p, hp⟩ : ∃ p, ks[y]? = some p := ⟨_, List.getElem?_eq_getElem (show y < ks.length by omega)⟩
    obtain ⟨e, he, hh, hk⟩ := entry y p hp
    refine wpAny_bind (wpAny_dictEntries (stay sb) hd ?_)
    rw [he]
    dsimp only
    rw [hk, hh]
    have hx' := tup' sb p (List.mem_of_getElem? hp)
    refine wpAny_bind (wpAny_holding (add1 (s := { s with heap := h' }) RL hx' hu (by have := g.len; omega) fun b2 h2 L2 es2 ep2 t2 sb2 R2 c1 c2 => ?_))
    have sb3 : Heap.SameBut S s.heap h2 := sb.trans sb2
    refine wpAny_bind (wpAny_dictEpoch (s := { s with heap := h2 }) (stay sb3) hd ?_)
    rw [if_neg (by simp)]
    refine wpAny_pure ⟨y + 1, h2, L2, es2, ep2, t2, hrest, by omega, rfl, sb3, R2, ?_⟩
    rcases Classical.em (p.2 ∈ L.map (·.2)) with c | c
    · rw [c1 c]; exact g.same hp c
    · exact g.more hp (c2 c)
  · rintro b s' ⟨i, h', L, es, ep, t, hr, hi, rfl, sb, RL, g⟩
    have full : i = ks.length := by
      have := congrArg List.length hr
      simp at this
      omega
    rw [full] at g
    refine wpAny_pure (q h' L es ep t sb RL ?_)
    have in1 : ∀ p ∈ L, p ∈ ks := fun p hp => List.mem_of_mem_take (g.sub p hp)
    have u : ∀ p ∈ ks, ∀ p' ∈ ks, p.2 = p'.2 → p = p' := fun p hp p' hp' e => nodup_snd nd hp hp' e
    refine (List.perm_ext_iff_of_nodup (nodup_of_map RL.nod) (nodup_of_map nd)).mpr fun p => ⟨in1 p, fun hp => ?_⟩
    obtain ⟨p', hp', e⟩ := List.mem_map.mp (g.all p (by rw [List.take_length]; exact hp))
    rw [← u p' (in1 p' hp') p hp e]
    exact hp'
end
end SG
namespace SG
open PySem PySem.Spec PyProof.Rows L2
section
variable {P : Program} {w : World} {A : Around} {E : Value → Shared → Prop} {s : Shared}
theorem Gs.stay {h h' : Heap} {a : Addr} {L : List (Addr × List Int)} {es : Array (Int × Value)} {ep : Nat} {t : SetTable} (R : Gs P w h a L es ep t) (ha : ∀ o, h.get? a = some o → h'.get? a = some o) (ht : ∀ p ∈ L, IsT P w h' p.2 p.1) : Gs P w h' a L es ep t :=
  let ⟨o, ho, r⟩ := R.obj
  ⟨⟨o, ha o ho, r⟩, R.rws, R.tab, R.nod, ht, R.pln, R.led, R.big, R.few⟩
/-- what the loop over a list comes to -/
structure LoopEnd (P : Program) (w : World) (S it : Addr) (ks : List (Addr × List Int)) (h0 : Heap) (s s' : Shared) : Prop where
  set : ∃ L es ep t, Gs P w s'.heap S L es ep t ∧ Got ks ks.length L
  old : ∀ b o, h0.get? b = some o → s'.heap.get? b = some o
  rest : s'.gens = s.gens ∧ s'.drawn = s.drawn ∧ s'.os = s.os
theorem loopL {S it l : Addr} {items : Array Value} {ks : List (Addr × List Int)} {R : Result → Shared → Prop} (hA : A.in1.handled = none) (hu : A.in1.units < cLine) (few : ∀ l : List (List Int), l.Nodup → (∀ x ∈ l, x ∈ ks.map (·.2)) → l.length < 149) (hit : items.toList = ks.map fun p => Value.ref p.1)
    (nl : l ≠ it) (nS : S ≠ it) (nS2 : S ≠ l) (h0 : Heap) (h0S : h0.get? S = none) (h0i : h0.get? it = none) (tup : ∀ p ∈ ks, IsT P w h0 p.2 p.1) (hl : h0.IsList l items) :
    ∀ (k i : Nat) (s : Shared), items.size - i = k → i ≤ items.size → s.heap.IsListIter it l i → (∀ b o, h0.get? b = some o → s.heap.get? b = some o) → (∃ L es ep t, Gs P w s.heap S L es ep t ∧ Got ks i L) →
      (∀ s', LoopEnd P w S it ks h0 s s' → R (.ok (.ret .none)) s') → codeAny (model P w) A (.builtin "set.update.loop" ⟨[.ref S, .ref it], []⟩) R s := by
  have W := Walks.list (prog := P) (w := w) (A := A.in1) hA it l nl items
  have size : items.size = ks.length := by
    have := congrArg List.length hit
    simpa using this
  intro k
  induction k with
  | zero =>
    rintro i s hk hi hst hold ⟨L, es, ep, t, G, g⟩ fin
    have e : i = items.size := by omega
    subst e
    refine codeAny_builtin F.entry_set_update_loop ?_
    rw [Around.under_plainId F.plain_set_update_loop _]
    show wpAny _ A.in1 (pyNext (.ref it) >>= _) _ _ s
    refine wpAny_bind (W.toS.done s _ _ ⟨hst, hl.imp fun o q => ⟨hold _ _ q.1, q.2⟩⟩ fun s' mv => ?_)
    have old' : ∀ b o, h0.get? b = some o → s'.heap.get? b = some o := fun b o e => mv.heap b o (fun z => by rw [List.mem_singleton.mp z, h0i] at e; cases e) (hold b o e)
    have inn : ∀ p ∈ L, p ∈ ks := fun p hp => List.mem_of_mem_take (g.sub p hp)
    rw [size] at g
    refine wpAny_pure (fin s' ⟨⟨L, es, ep, t, ?_, g⟩, old', ⟨mv.gens, mv.drawn, mv.os⟩⟩)
    exact G.stay (fun o e => mv.heap S o (fun z => nS (List.mem_singleton.mp z)) e) fun p hp => isT_keep (tup p (inn p hp)) old'
  | succ k ih =>
    rintro i s hk hi hst hold ⟨L, es, ep, t, G, g⟩ fin
    have lt : i < items.size := by omega
    refine codeAny_builtin F.entry_set_update_loop ?_
    rw [Around.under_plainId F.plain_set_update_loop _]
    show wpAny _ A.in1 (pyNext (.ref it) >>= _) _ _ s
    refine wpAny_bind (W.toS.item i s _ _ lt ⟨hst, hl.imp fun o q => ⟨hold _ _ q.1, q.2⟩⟩ fun v s' hv hst' mv => ?_)
    obtain ⟨p, hp, rfl⟩ : ∃ p, ks[i]? = some p ∧ v = .ref p.1 := by
      have q : items.toList[i]? = some v := by rw [Array.getElem?_toList]; exact hv
      rw [hit, List.getElem?_map, Option.map_eq_some_iff] at q
      obtain ⟨p, q1, q2⟩ := q
      exact ⟨p, q1, q2.symm⟩
    have old' : ∀ b o, h0.get? b = some o → s'.heap.get? b = some o := fun b o e => mv.heap b o (fun z => by rw [List.mem_singleton.mp z, h0i] at e; cases e) (hold b o e)
    have inn : ∀ p ∈ L, p ∈ ks := fun p hp => List.mem_of_mem_take (g.sub p hp)
    have G' := G.stay (h' := s'.heap) (fun o e => mv.heap S o (fun z => nS (List.mem_singleton.mp z)) e) fun p hp => isT_keep (tup p (inn p hp)) old'
    have hx := isT_keep (tup p (List.mem_of_getElem? hp)) old'
    show wpAny _ A.in1 (holding [Value.ref p.1] (setAdd S (.ref p.1)) >>= _) _ _ s'
    refine wpAny_bind (wpAny_holding ?_)
    unfold setAdd
    refine wpAny_holding (wpAny_bind (wpAny_pyHash_tuple hu hx ?_))
    have limL : L.length + 1 < 150 := by
      have := few (L.map (·.2)) G'.nod fun x hx => by
        obtain ⟨p', hp', rfl⟩ := List.mem_map.mp hx
        exact List.mem_map.mpr ⟨p', inn p' hp', rfl⟩
      rw [List.length_map] at this
      omega
    refine add1 (s := { s' with toks := s'.toks + (p.2.length + 1) }) G' hx hu limL fun b2 h2 L2 es2 ep2 t2 sb R2 c1 c2 => ?_
    have neS : ∀ b o, h0.get? b = some o → b ≠ S := fun b o e z => by rw [z, h0S] at e; cases e
    have old2 : ∀ b o, h0.get? b = some o → h2.get? b = some o := fun b o e => (sb.2 b (neS b o e)).trans (old' b o e)
    have g2 : Got ks (i + 1) L2 := by
      rcases Classical.em (p.2 ∈ L.map (·.2)) with c | c
      · rw [c1 c]; exact g.same hp c
      · exact g.more hp (c2 c)
    refine wpAny_pure ⟨plainId_quiet F.plain_set_update_loop _, ih (i + 1) _ (by omega) (by omega) ?_ old2 ⟨L2, es2, ep2, t2, R2, g2⟩ fun s3 fe => ?_⟩
    · exact hst'.1.at fun o e => (sb.2 it (Ne.symm nS)).trans e
    · exact fin s3 ⟨fe.set, fe.old, ⟨fe.rest.1.trans mv.gens, fe.rest.2.1.trans mv.drawn, fe.rest.2.2.trans mv.os⟩⟩
theorem fillL {l S : Addr} {items : Array Value} {ks : List (Addr × List Int)} (hA : A.handled = none) (hl : s.heap.IsList l items) (hit : items.toList = ks.map fun p => Value.ref p.1) (tup : ∀ p ∈ ks, IsT P w s.heap p.2 p.1) (few : ∀ l : List (List Int), l.Nodup → (∀ x ∈ l, x ∈ ks.map (·.2)) → l.length < 149) (hu : A.in1.units < cLine)
    (hS : S = s.heap.objs.size) {Q : Unit → Shared → Prop} (q : ∀ h' tk L es ep t, (∀ b o, s.heap.get? b = some o → h'.get? b = some o) → Gs P w h' S L es ep t → Got ks ks.length L → Q () { s with heap := h', toks := tk }) :
    wpAny (model P w) A (Builtin.Frozenset.updateFrom "set.__init__" S (.ref l)) Q E { s with heap := s.heap.push (newO w) } := by
  obtain ⟨ol, hol, hcl, nl, hdl⟩ := id hl
  have hl1 : (s.heap.push (newO w)).IsList l items := ⟨ol, Heap.get?_push_of_some _ hol, hcl, nl, hdl⟩
  have ty : Shared.TypeIs { s with heap := s.heap.push (newO w) } (.ref l) "list" := ⟨ol, Heap.get?_push_of_some _ hol, hcl⟩
  have sz : (s.heap.push (newO w)).objs.size = s.heap.objs.size + 1 := Heap.size_push ..
  have ls : l < s.heap.objs.size := Heap.lt_size hol
  have gone : ∀ b, s.heap.objs.size ≤ b → s.heap.get? b = none := fun b hb => by
    cases z : s.heap.get? b with
    | none => rfl
    | some o => exact absurd (Nat.lt_of_lt_of_le (Heap.lt_size z) hb) (Nat.lt_irrefl _)
  unfold Builtin.Frozenset.updateFrom Builtin.Frozenset.isAnySet
  refine wpAny_bind ?_
  show wpAny _ _ (isInstance (.ref l) (.type "set") >>= _) _ _ _
  refine wpAny_bind (wpAny_isInstance ty F.sub_list_set ?_)
  show wpAny _ _ (isInstance (.ref l) (.type "frozenset")) _ _ _
  refine wpAny_isInstance ty F.sub_list_frozenset ?_
  rw [if_neg Bool.false_ne_true]
  refine wpAny_bind (wpAny_typeOf ty ?_)
  rw [if_neg (by decide)]
  refine wpAny_bind (wpAny_pyIter_list hl1 ?_)
  refine wpAny_bind (wpAny_runValue ?_)
  have hA' : A.in1.handled = none := by simp [hA]
  obtain ⟨it, hitn⟩ : ∃ it, it = (s.heap.push (newO w)).objs.size := ⟨_, rfl⟩
  have nit : it = s.heap.objs.size + 1 := hitn.trans sz
  refine loopL (S := S) (it := (s.heap.push (newO w)).objs.size) (l := l) (ks := ks) hA' hu few hit ?_ ?_ ?_ s.heap (gone _ (by rw [hS]; exact Nat.le_refl _)) (gone _ (by rw [sz]; exact Nat.le_succ _)) tup hl (items.size - 0) 0 { s with heap := (s.heap.push (newO w)).push { cls := .type "list_iterator", data := .fields #[.ref l, .int 0 0] } } (by omega) (Nat.zero_le _) ⟨_, Heap.get?_push_size _ rfl, rfl, rfl⟩ (fun b o e => Heap.get?_push_of_some _ (Heap.get?_push_of_some _ e)) ⟨[], #[], 0, _, fresh_ok ?_, Got.zero ks⟩ fun s' fe => ?_
  · exact fun e => Nat.ne_of_lt (Nat.lt_succ_of_lt ls) (e.trans sz)
  · rw [hS]; exact fun e => Nat.ne_of_lt (Nat.lt_succ_self _) (e.trans sz)
  · rw [hS]; exact fun e => Nat.ne_of_gt ls e
  · rw [hS]; exact Heap.get?_push_of_some _ (Heap.get?_push_size _ rfl)
  · obtain ⟨h', g', d', tk', os'⟩ := s'
    obtain ⟨r1, r2, r3⟩ := fe.rest
    obtain ⟨L, es, ep, t, G, g⟩ := fe.set
    cases r1
    cases r2
    cases r3
    exact wpAny_pure (q h' tk' L es ep t fe.old G g)
end
end SG
namespace SG
open PySem PySem.Spec PyProof.Rows L2
def encR (p : Addr × List Int) : PyData := .tuple (p.2.map .int)
theorem leR (p q : Addr × List Int) : PySem.W.dataLe false encR p q = decide (p.2 ≤ q.2) := by
  show (!PySem.W.dataLt (encR q) (encR p)) = _
  unfold encR
  rw [PySem.W.dataLt_tuple]
  have := PySem.W.dataLt_ints q.2 p.2
  unfold PySem.W.rowLt at this
  rw [this]
  by_cases h : q.2 < p.2
  · have h' : ¬ p.2 ≤ q.2 := fun z => (List.not_lt.mpr z) h
    simp [h, h']
  · have h' : p.2 ≤ q.2 := List.not_lt.mp h
    simp [h, h']
theorem alikeAllR : ∀ (xs ys : List Int), PySem.W.alikeAll (xs.map .int) (ys.map .int) = true
  | [], _ => by simp [PySem.W.alikeAll]
  | _ :: _, [] => by simp [PySem.W.alikeAll]
  | x :: xs, y :: ys => by
    have := alikeAllR xs ys
    simp [PySem.W.alikeAll, PySem.W.alike, this]
theorem alikeR (p q : Addr × List Int) : PySem.W.alike (encR p) (encR q) = true := by
  unfold encR
  simp only [PySem.W.alike]
  exact alikeAllR _ _
theorem depthAllR : ∀ xs : List Int, PyData.depthAll (xs.map .int) ≤ 1
  | [] => by simp [PyData.depthAll]
  | x :: xs => by
    have := depthAllR xs
    simp [PyData.depthAll, PyData.depth]
    omega
theorem depthR (p : Addr × List Int) : (encR p).depth ≤ 2 := by
  have := depthAllR p.2
  unfold encR
  simp only [PyData.depth]
  omega
theorem rows_back {L : List (Addr × List Int)} : ∀ vs : List Value, (∀ v ∈ vs, ∃ q ∈ L, v = Value.ref q.1) → ∃ L1 : List (Addr × List Int), vs = L1.map (fun q => Value.ref q.1) ∧ ∀ q ∈ L1, q ∈ L
  | [], _ => ⟨[], rfl, fun _ h => nomatch h⟩
  | v :: vs, h => by
    obtain ⟨q, hq, e⟩ := h v List.mem_cons_self
    obtain ⟨L1, e1, h1⟩ := rows_back (L := L) vs fun u hu => h u (List.mem_cons_of_mem _ hu)
    exact ⟨q :: L1, by rw [e, e1]; rfl, fun r hr => (List.mem_cons.mp hr).elim (fun e => e ▸ hq) (h1 r)⟩
theorem each_ref {R : Value → Addr × List Int → Prop} : ∀ L : List (Addr × List Int), (∀ q ∈ L, R (.ref q.1) q) → PySem.W.EachIs R (L.map fun q => Value.ref q.1) L
  | [], _ => .nil
  | q :: L, h => .cons (h q List.mem_cons_self) (each_ref L fun r hr => h r (List.mem_cons_of_mem _ hr))
theorem ref_each : ∀ {out : List Value} {L : List (Addr × List Int)}, PySem.W.EachIs (fun v (q : Addr × List Int) => v = Value.ref q.1) out L → out = L.map fun q => Value.ref q.1
  | _, _, .nil => rfl
  | _, _, .cons h t => by rw [h, ref_each t]; rfl
section
variable {P : Program} {w : World} {A : Around} {E : Value → Shared → Prop} {s : Shared} {a : Addr} {L : List (Addr × List Int)} {es : Array (Int × Value)} {ep : Nat} {t : SetTable}
theorem perm_back (R : Gs P w s.heap a L es ep t) {L1 : List (Addr × List Int)} (h1 : ∀ q ∈ L1, q ∈ L) (pm : (L1.map fun q => Value.ref q.1).Perm (L.map fun q => Value.ref q.1)) : L1.Perm L := by
  have one : ∀ q ∈ L, ∀ r ∈ L, q.1 = r.1 → q = r := fun q hq r hr e => by
    have a1 := R.tup q hq
    have a2 := R.tup r hr
    rw [e] at a1
    exact Prod.ext e (a1.inj a2)
  have nL := nodup_of_map R.nod
  have nr : (L.map fun q => Value.ref q.1).Nodup := by
    unfold List.Nodup
    rw [List.pairwise_map]
    exact nL.imp_of_mem fun hq hr hne e => hne (one _ hq _ hr (Value.ref.inj e))
  refine (List.perm_ext_iff_of_nodup (nodup_of_map (pm.nodup_iff.mpr nr)) nL).mpr fun q => ⟨h1 q, fun hq => ?_⟩
  obtain ⟨r, hr, e⟩ := List.mem_map.mp (pm.mem_iff.mpr (List.mem_map.mpr ⟨q, hq, rfl⟩))
  rw [← one r (h1 r hr) q hq (Value.ref.inj e)]
  exact hr
/-- sorted(s) -/
theorem sortG (R : Gs P w s.heap a L es ep t) (hA : A.handled = none) (hu : A.units + 64 < cLine) (ne : ∀ p ∈ L, p.2 ≠ []) {Q : Value → Shared → Prop}
    (q : ∀ s' p (out : Array Value) (c : Nat) (L' : List (Addr × List Int)), (∀ b o, s.heap.get? b = some o → s'.heap.get? b = some o) → s'.gens = s.gens → s'.os = s.os → s.heap.objs.size ≤ p → s'.heap.get? p = some (seqObj "list" out c) →
      out.toList = L'.map (fun q => Value.ref q.1) → L'.Perm L → L'.Pairwise (fun q r => q.2 ≤ r.2) → Q (.ref p) s') : wpAny (model P w) A (call (.builtin "sorted") [.ref a]) Q E s := by
  obtain ⟨o, ho, hex, hd⟩ := R.obj
  have hz := rows_len R.rws
  have few := R.few
  refine Calls.call_function_entry kind_sorted plain_sorted entry_sorted (args_sorted1 _) ?_
  unfold Builtin.«sorted»
  refine wpAny_bind (m := checkCount "sorted" 1 1 _) (wpAny_pure ?_)
  refine wpAny_bind (collect_set (A := A.in1) hA ⟨o, ho, hex.1, hd⟩ R.fits (by unfold scanBound; omega) R.tab.asc R.led fun s1 vs k1 z1 g1 o1 pm => ?_)
  have em : es.toList.map (·.2) = L.map fun q => Value.ref q.1 := by
    rw [R.rws]
    unfold rowsOf
    rw [List.map_map]
    rfl
  rw [em] at pm
  obtain ⟨L1, e1, i1⟩ := rows_back (L := L) vs fun v hv => by
    obtain ⟨q, hq, e⟩ := List.mem_map.mp (pm.mem_iff.mp hv)
    exact ⟨q, hq, e.symm⟩
  have pL : L1.Perm L := perm_back R i1 (by rw [← e1]; exact pm)
  have lenv : vs.length < 150 := by rw [e1, List.length_map, pL.length_eq]; exact few
  refine wpAny_bind (wpAny_newList ?_ (by rw [sizeLine_eq]; omega))
  have hoL : (s1.heap.push (seqObj "list" vs.toArray 0)).get? s1.heap.objs.size = some (seqObj "list" vs.toArray 0) := Heap.get?_push_size _ rfl
  have tk : ∀ q ∈ L, IsT P w (s1.heap.push (seqObj "list" vs.toArray 0)) q.2 q.1 := fun q hq => isT_keep (R.tup q hq) fun b u e => Heap.get?_push_of_some _ (k1 b u e)
  have er : PySem.W.EachIs (fun v (q : Addr × List Int) => ∃ as, Reads (s1.heap.push (seqObj "list" vs.toArray 0)) v (encR q) as ∧ s1.heap.objs.size ∉ as) vs L1 := by
    rw [e1] at tk ⊢
    exact each_ref L1 fun q hq => by
      obtain ⟨o2, its, n, h1, h2, h3, h4⟩ := tk q (i1 q hq)
      exact ⟨[], reads_tuple_ints (vr := its.toList) ⟨o2, h1, h2, n, by simpa using h3⟩ (ints_of_items h4), by simp⟩
  have e0 : PySem.W.EachIs (fun v (q : Addr × List Int) => v = Value.ref q.1) vs L1 := by
    rw [e1]
    exact each_ref L1 fun q hq => rfl
  have al : PySem.W.AllAlike (L1.map encR) := fun x hx y hy => by
    obtain ⟨p, _, rfl⟩ := List.mem_map.mp hx
    obtain ⟨p', _, rfl⟩ := List.mem_map.mp hy
    exact alikeR p p'
  have so : PySem.W.Sortable (L1.map encR) := .inl fun x hx => by
    obtain ⟨p, hp, rfl⟩ := List.mem_map.mp hx
    have := ne p (i1 p hp)
    unfold encR
    cases e : p.2 with
    | nil => exact absurd e this
    | cons y ys => exact ⟨_, _, rfl⟩
  refine wpAny_bind (wpAny_holding (PySem.W.list_sort_data (s := { s1 with heap := s1.heap.push (seqObj "list" vs.toArray 0) }) hoL e0 er al so (by rw [← List.length_map (f := fun q : Addr × List Int => Value.ref q.1), ← e1, sizeLine_eq]; omega) (fun p _ => by have := depthR p; show A.in1.units + 1 + _ < _; show A.units + 1 + 1 + _ < _; omega) fun out lo eo => ?_))
  obtain ⟨c, hc⟩ := sortedHeap_at (vs := vs) (out := out.toArray) hoL
  have eo' : out = (L1.mergeSort (PySem.W.dataLe false encR)).map fun q => Value.ref q.1 := ref_each eo
  have pm2 : (L1.mergeSort (PySem.W.dataLe false encR)).Perm L := (List.mergeSort_perm _ _).trans pL
  have pw : (L1.mergeSort (PySem.W.dataLe false encR)).Pairwise fun q r => q.2 ≤ r.2 := by
    have := List.pairwise_mergeSort (le := PySem.W.dataLe false encR) (fun x y z h1 h2 => by
      rw [leR, decide_eq_true_eq] at *
      exact List.le_trans h1 h2) (fun x y => by
      rw [leR, leR, Bool.or_eq_true, decide_eq_true_eq, decide_eq_true_eq]
      exact List.le_total _ _) L1
    exact this.imp fun h => by rw [leR, decide_eq_true_eq] at h; exact h
  refine wpAny_pure ⟨_, rfl, q _ s1.heap.objs.size out.toArray c _ (fun b u e => ?_) g1 o1 z1 hc (by simpa using eo') pm2 pw⟩
  have k := k1 b u e
  have lt := Heap.lt_size k
  show (sortedHeap (s1.heap.push (seqObj "list" vs.toArray 0)) s1.heap.objs.size vs out.toArray).get? b = some u
  rw [sortedHeap_old (Nat.ne_of_lt lt) (by rw [size_push']; exact Nat.lt_succ_of_lt lt)]
  exact Heap.get?_push_of_some _ k
end
end SG
namespace DL
open PySem PySem.Spec PyProof.Rows L2
variable [WC]
/-! ### sorted(set(x)), x a list of tuples of ints, or a dict with such keys -/
def nkR (ns : List Int) : NestedKey := .tup (ns.map .num)
theorem hashes_ints (w : World) : ∀ ns : List Int, NestedKey.hashes w (ns.map .num) = ns.map hashInt
  | [] => by simp [NestedKey.hashes]
  | n :: ns => by simp [NestedKey.hashes, NestedKey.hash, hashes_ints w ns]
theorem hash_row (P : Program) (w : World) (ns : List Int) : (nkR ns).hash w = thash P w ns := by
  unfold nkR
  simp only [NestedKey.hash, hashes_ints]
  rfl
theorem nk_inj {a b : List Int} (h : nkR a = nkR b) : a = b := by
  unfold nkR at h
  have h2 := NestedKey.tup.inj h
  clear h
  induction a generalizing b with
  | nil => cases b with
    | nil => rfl
    | cons y b => cases h2
  | cons x a ih => cases b with
    | nil => cases h2
    | cons y b =>
      simp only [List.map_cons, List.cons.injEq] at h2
      rw [NestedKey.num.inj h2.1, ih h2.2]
theorem sub_len {α : Type} [DecidableEq α] : ∀ (l m : List α), l.Nodup → (∀ x ∈ l, x ∈ m) → l.length ≤ m.length
  | [], m, _, _ => Nat.zero_le _
  | x :: l, m, h, hs => by
    have h' := List.nodup_cons.mp h
    have hx := hs x List.mem_cons_self
    have ih := sub_len l (m.erase x) h'.2 fun y hy => (List.mem_erase_of_ne (fun e => h'.1 (by rw [← e]; exact hy))).mpr (hs y (List.mem_cons_of_mem _ hy))
    have e := List.length_erase_of_mem hx
    have := List.length_pos_of_mem hx
    rw [List.length_cons]
    omega
theorem dd_lim {α : Type} [DecidableEq α] {m : List α} {n : Nat} (h : (dd m).length < n) : ∀ l : List α, l.Nodup → (∀ x ∈ l, x ∈ m) → l.length < n := fun l h1 h2 =>
  Nat.lt_of_le_of_lt (sub_len l (dd m) h1 fun x hx => mem_dd.mpr (h2 x hx)) h
theorem dd_le {α : Type} [DecidableEq α] (l : List α) : (dd l).length ≤ l.length := sub_len _ _ (dd_nodup l) fun _ hx => mem_dd.mp hx
/-- a list of these rows, or a dict with these keys -/
def RowsAt (K : PySem.W.Frag) (H : Hp) (x : V) (ks : List (Addr × List Int)) : Prop :=
  (∃ l, x = .ref l ∧ SqL K H l (ks.map fun p => V.ref p.1)) ∨ ∃ a T, x = .ref a ∧ H a = some (dctO WC.w a T) ∧ (T.rows.map fun r => (r.b, r.k)) = ks.map fun p => (p.1, nkR p.2)
def tSortG (K : PySem.W.Frag) (ta : TE) : TE := fun σ H Q => ta σ H fun x H1 => ∃ ks : List (Addr × List Int), RowsAt K H1 x ks ∧ (dd (ks.map (·.2))).length < 149 ∧ (∀ p ∈ ks, p.2 ≠ [] ∧ SqT K H1 p.1 (p.2.map V.int)) ∧
  ∀ (q : Addr) (L : List (Addr × List Int)), H1 q = none → (∀ p ∈ L, p ∈ ks) → (∀ p ∈ ks, p.2 ∈ L.map (·.2)) → (L.map (·.2)).Nodup → (L.Pairwise fun a b => a.2 ≤ b.2) → Q (.ref q) (upd H1 q (.lst (L.map fun p => V.ref p.1)))
section
variable {X : Cx} {W : WX} {a : Expr} {ta : TE} {f : Env → M D} {p p2 q pos : Pos}
/-- the set of them -/
theorem set_rows {pins : List (Addr × Obj)} {σ : L2.St} {H : Hp} {s : Shared} {x : V} {u : Value} {ks : List (Addr × List Int)} {E : Value → Shared → Prop} {Q : Value → Shared → Prop} (I : Inv X pins σ H s) (hc : X.calm = true) (hu : X.A.units + 64 < cLine) (hw : X.w = WC.w) (rx : RelV x u) (h : RowsAt X.K H x ks) (few : (dd (ks.map (·.2))).length < 149)
    (hk : ∀ p ∈ ks, p.2 ≠ [] ∧ SqT X.K H p.1 (p.2.map V.int)) (done : ∀ (h' : Heap) (tk : Nat) L es ep t, (∀ b o, s.heap.get? b = some o → h'.get? b = some o) → SG.Gs X.prog X.w h' s.heap.objs.size L es ep t → (∀ p ∈ L, p ∈ ks) → (∀ p ∈ ks, p.2 ∈ L.map (·.2)) → Q (.ref s.heap.objs.size) { s with heap := h', toks := tk }) :
    wpAny (model X.prog X.w) X.A (call (.type "set") [u]) Q E s := by
  have tup : ∀ p ∈ ks, IsT X.prog X.w s.heap p.2 p.1 := fun p hp => Inv.isT I (hk p hp).2
  rcases h with ⟨l, rfl, hs⟩ | ⟨a, T, rfl, ha, hr⟩
  · cases rx
    obtain ⟨its, rv, pl, hz⟩ := I.list hs
    have hA : X.A.in1.in1.handled = none := by simp [I.ok.hd hc]
    refine SG.made (SG.fillL (items := its.toArray) (ks := ks) hA pl.isList (by simpa using refs_of_vals rv) tup (dd_lim few) (by show X.A.units + 1 + 1 + 1 < cLine; omega) rfl fun h' tk L es ep t old G g => ?_)
    exact done h' tk L es ep t old G (fun p hp => List.mem_of_mem_take (g.sub p hp)) fun p hp => g.all p (by rw [List.take_length]; exact hp)
  · cases rx
    have d0 : DictN0 WC.w s.heap a T := (I.hok a _ ha).1
    obtain ⟨o, es, ho, hx, hd, he⟩ := d0.ob
    have hl := tbl_len d0
    have e1 : (es.toList.map fun e => (e.hash, e.key)) = rowsOf X.prog X.w ks := by
      rw [he]
      have z : ((T.rows.zip T.us).map fun p => (p.1.k.hash WC.w, Value.ref p.1.b)) = T.rows.map fun r => (r.k.hash WC.w, Value.ref r.b) := by
        have : (T.rows.zip T.us).map Prod.fst = T.rows := List.map_fst_zip (by omega)
        conv => rhs; rw [← this]
        rw [List.map_map]
        rfl
      have z2 : (T.rows.map fun r => (r.k.hash WC.w, Value.ref r.b)) = (T.rows.map fun r => (r.b, r.k)).map fun y => (y.2.hash WC.w, Value.ref y.1) := by rw [List.map_map]; rfl
      unfold Tbl.es rowsOf
      rw [List.map_map]
      show ((T.rows.zip T.us).map fun p => (p.1.k.hash WC.w, Value.ref p.1.b)) = _
      rw [z, z2, hr, List.map_map, hw]
      exact List.map_congr_left fun p _ => by simp only [Function.comp_apply, hash_row X.prog]
    have nd : (ks.map (·.2)).Nodup := by
      have n1 := d0.nd
      have e2 : T.rows.map (·.k) = (ks.map (·.2)).map nkR := by
        have := congrArg (List.map Prod.snd) hr
        rw [List.map_map, List.map_map] at this
        rw [List.map_map]
        exact this
      rw [e2] at n1
      unfold List.Nodup at n1 ⊢
      rw [List.pairwise_map] at n1
      exact n1.imp fun h e => h (by rw [e])
    have old : ∀ b o, s.heap.get? b = some o → (s.heap.push (SG.newO X.w)).get? b = some o := fun b o e => Heap.get?_push_of_some _ e
    refine SG.made (SG.fillD (s := { s with heap := s.heap.push (SG.newO X.w) }) (old a o ho) hx hd d0.sm ks e1 nd (fun p hp => isT_keep (tup p hp) old) (by have := dd_lim few (ks.map (·.2)) nd fun _ h => h; rw [List.length_map] at this; omega) (SG.fresh_ok (Heap.get?_push_size _ rfl)) (by show X.A.units + 1 + 1 < cLine; omega) fun h' L es' ep t sb G pm => ?_)
    refine done h' s.toks L es' ep t (fun b o e => ?_) G (fun p hp => pm.mem_iff.mp hp) fun p hp => List.mem_map.mpr ⟨p, pm.mem_iff.mpr hp, rfl⟩
    exact (sb.2 b (Nat.ne_of_lt (Heap.lt_size e))).trans (old b o e)
theorem pe_sortG (hu : X.A.units + 64 < cLine) (hw : X.w = WC.w) (hg : Gl X "sorted") (hm : X.mg "sorted" = none) (hg2 : Gl X "set") (hm2 : X.mg "set" = none) (hc : X.calm = true) (ha : PE X a ta)
    (na : starEach [a] X.env = (false, eval a X.env) :: starEach [] X.env) (na2 : starEach [.Call (.Name "set" p2) [a] [] q] X.env = (false, eval (.Call (.Name "set" p2) [a] [] q) X.env) :: starEach [] X.env := by rfl) :
    PE X (.Call (.Name "sorted" p) [.Call (.Name "set" p2) [a] [] q] [] pos) (tSortG X.K ta) := by
  constructor
  intro pins s σ H Q I q0
  refine Call_ (ld_blt I hg hm bb_sorted (PyProof.Rows.callWith_builtin1 (PyProof.Rows.args_cons ?_ na2) na2 rfl))
  refine Call_ (ld_blt I hg2 hm2 PyProof.Rows.boot_set (PyProof.Rows.callWith_type1 (PyProof.Rows.args_cons (thn (ha.run pins s σ H _ I q0) fun v s1 ⟨x, H1, I1, r1, q1⟩ => PyProof.Rows.args_nil ?_) na) na rfl))
  obtain ⟨ks, hr, few, hk, q2⟩ := q1
  refine set_rows I1 hc (by omega) hw r1 hr few hk fun h' tk L es ep t old G s1' s2' => ?_
  refine PyProof.Rows.args_nil ?_
  have I2 : Inv X pins σ H1 { s1 with heap := h', toks := tk } := I1.kept old
  refine SG.sortG (s := { s1 with heap := h', toks := tk }) G (I1.ok.hd hc) (by omega) (fun p hp => (hk p (s1' p hp)).1) fun s3 pa out c L' k g o hp hgt hout pm pw => ?_
  have nf : H1 pa = none := I2.hok.fresh hp
  have lz : (L'.map fun q => V.ref q.1).length ≤ sizeLine := by
    have := G.few
    rw [List.length_map, pm.length_eq, sizeLine_eq]
    omega
  have hv : Vals (L'.map fun q => V.ref q.1) out.toList := by rw [hout]; exact vals_of_refs L'
  have J : Inv X pins σ (upd H1 pa (.lst (L'.map fun q => V.ref q.1))) { ({ s1 with heap := h', toks := tk } : Shared) with heap := s3.heap, gens := s3.gens, drawn := s3.drawn, toks := s3.toks } :=
    I2.call (ch := []) (Un.laid k hp nf) (I2.hok.laid k hp ⟨lz, out.toList, c, hv, hgt⟩) (by rw [g]; exact I2.bare) (fun _ z => nomatch z)
  have e : s3 = { ({ s1 with heap := h', toks := tk } : Shared) with heap := s3.heap, gens := s3.gens, drawn := s3.drawn, toks := s3.toks } := by
    cases s3
    cases s1
    cases o
    rfl
  rw [e]
  exact ⟨.ref pa, _, J, rfl, q2 pa L' nf (fun p hp => s1' p (pm.mem_iff.mp hp)) (fun p hp => ((pm.map (·.2)).mem_iff).mpr (s2' p hp)) ((pm.map (·.2)).nodup_iff.mpr G.nod) pw⟩
/-- the word -/
def rowsG (rows : List (List Int)) : Bool := Nat.blt (dd rows).length 149 && rows.all fun r => !r.isEmpty
def gSortSetA : D → M D := fun x μ => match (match asDct μ x with
    | some (ks, _) => rowsI ks
    | none => (asLst μ x).bind rowsI) with
  | some rows => if rowsG rows = true then .ok (.lst ((ssort rows).map rowD)) μ else .bad
  | none => .bad
def eSortSetA (f : Env → M D) : Env → M D := fun ρ => Mbind (f ρ) gSortSetA
theorem ints_key : ∀ {b : List D} {l : List Int}, intsOf b = some l → keyOfL b = some (l.map .num)
  | [], l, h => by cases h; rfl
  | d :: b, l, h => by
    cases d with
    | int i =>
      simp only [intsOf, Option.map_eq_some_iff] at h
      obtain ⟨l', h, rfl⟩ := h
      simp only [keyOfL, keyOf, ints_key h, List.map_cons]
    | _ => cases h
theorem rows_key : ∀ {ks : List D} {rows : List (List Int)}, rowsI ks = some rows → keyOfL ks = some (rows.map nkR)
  | [], rows, h => by cases h; rfl
  | d :: ks, rows, h => by
    cases d with
    | tup b =>
      simp only [rowsI] at h
      cases e1 : intsOf b with
      | none => rw [e1] at h; cases h
      | some l =>
        cases e2 : rowsI ks with
        | none => rw [e1, e2] at h; cases h
        | some ls =>
          rw [e1, e2] at h
          cases h
          simp only [keyOfL, keyOf, ints_key e1, Option.map_some, rows_key e2, List.map_cons]
          rfl
    | _ => cases h
theorem map_pair {α β γ δ : Type} {f : α → γ} {g : α → δ} {f' : β → γ} {g' : β → δ} : ∀ {l : List α} {m : List β}, l.map f = m.map f' → l.map g = m.map g' → (l.map fun x => (f x, g x)) = m.map fun y => (f' y, g' y)
  | [], [], _, _ => rfl
  | [], _ :: _, h, _ => nomatch h
  | _ :: _, [], h, _ => nomatch h
  | x :: l, y :: m, h1, h2 => by
    simp only [List.map_cons, List.cons.injEq] at h1 h2 ⊢
    exact ⟨by rw [h1.1, h2.1], map_pair h1.2 h2.2⟩
theorem rows_sorted {ks L : List (Addr × List Int)} {rows : List (List Int)} (hks : ks.map (·.2) = rows) (h1 : ∀ p ∈ L, p ∈ ks) (h2 : ∀ p ∈ ks, p.2 ∈ L.map (·.2)) (nd : (L.map (·.2)).Nodup) (pw : L.Pairwise fun a b => a.2 ≤ b.2) : L.map (·.2) = ssort rows := by
  have mem : ∀ r, r ∈ L.map (·.2) ↔ r ∈ rows := fun r => by
    rw [← hks]
    constructor
    · intro h
      obtain ⟨p, hp, rfl⟩ := List.mem_map.mp h
      exact List.mem_map.mpr ⟨p, h1 p hp, rfl⟩
    · intro h
      obtain ⟨p, hp, rfl⟩ := List.mem_map.mp h
      exact h2 p hp
  have so : (ssort rows).Pairwise fun a b => a ≤ b := by
    unfold ssort
    have := List.pairwise_mergeSort (le := fun a b : List Int => decide (a ≤ b)) (fun a b c h1 h2 => by simp only [decide_eq_true_eq] at *; exact List.le_trans h1 h2) (fun a b => by
      simp only [Bool.or_eq_true, decide_eq_true_eq]; exact List.le_total a b) (dd rows)
    exact this.imp fun h => by simpa using h
  have sn : (ssort rows).Nodup := by
    unfold ssort
    exact (List.mergeSort_perm _ _).nodup_iff.mpr (dd_nodup rows)
  refine List.Perm.eq_of_pairwise (le := fun a b => a ≤ b) (fun a b _ _ h1 h2 => List.le_antisymm h1 h2) ?_ so ?_
  · rw [List.pairwise_map]; exact pw
  · exact (List.perm_ext_iff_of_nodup nd sn).mpr fun r => by rw [mem, mem_ssort]
theorem rowsG_ok {rows : List (List Int)} (h : rowsG rows = true) : (dd rows).length < 149 ∧ ∀ r ∈ rows, r ≠ [] := by
  unfold rowsG at h
  simp only [Bool.and_eq_true, Nat.blt_eq, List.all_eq_true, Bool.not_eq_true', List.isEmpty_eq_false_iff] at h
  exact h
theorem ed_sortSetA (hu : X.A.units + 64 < cLine) (hw : X.w = WC.w) (hg : Gl X "sorted") (hm : X.mg "sorted" = none) (hg2 : Gl X "set") (hm2 : X.mg "set" = none) (hc : X.calm = true) (ha : ED X W a f) (na : starEach [a] X.env = (false, eval a X.env) :: starEach [] X.env := by rfl) :
    ED X W (.Call (.Name "sorted" p) [.Call (.Name "set" p2) [a] [] q] [] pos) (eSortSetA f) :=
  PE_imp (pe_sortG hu hw hg hm hg2 hm2 hc ha na) fun σ H Q ⟨ρ, w, S, P⟩ => tE_bind S P fun d v H1 w1 x1 S1 r1 P1 => by
    have main : ∀ (ks : List (Addr × List Int)) (rows : List (List Int)), RowsAt X.K H1 v ks → ks.map (·.2) = rows → rowsG rows = true → (∀ p ∈ ks, SqT X.K w1.F p.1 (p.2.map V.int) ∧ Rep X.K w1.F w1.θ (.ref p.1) (rowD p.2)) → Post X.K H1 w1 (.ok (.lst ((ssort rows).map rowD)) w1.μ) (QV X.K Q) (EW X.K X.mg W σ) →
        ∃ ks : List (Addr × List Int), RowsAt X.K H1 v ks ∧ (dd (ks.map (·.2))).length < 149 ∧ (∀ p ∈ ks, p.2 ≠ [] ∧ SqT X.K H1 p.1 (p.2.map V.int)) ∧ ∀ (q : Addr) (L : List (Addr × List Int)), H1 q = none → (∀ p ∈ L, p ∈ ks) → (∀ p ∈ ks, p.2 ∈ L.map (·.2)) → (L.map (·.2)).Nodup → (L.Pairwise fun a b => a.2 ≤ b.2) → Q (.ref q) (upd H1 q (.lst (L.map fun p => V.ref p.1))) := by
      intro ks rows hr hks hz hk P2
      obtain ⟨z1, z2⟩ := rowsG_ok hz
      refine ⟨ks, hr, ?_, fun p hp => ⟨z2 p.2 (by rw [← hks]; exact List.mem_map.mpr ⟨p, hp, rfl⟩), same_sqt S1.wf.same (hk p hp).1⟩, fun q L hq h1 h2 nd pw => ?_⟩
      · rw [hks]; exact z1
      · have eo := rows_sorted hks h1 h2 nd pw
        refine post_lst P2 S1.wf hq ?_
        rw [← eo, List.map_map]
        clear eo nd pw h2
        induction L with
        | nil => exact .nil
        | cons p L ih => exact .cons (hk p (h1 p List.mem_cons_self)).2 (ih fun q hq => h1 q (List.mem_cons_of_mem _ hq))
    simp only [gSortSetA] at P1
    cases e0 : asDct w1.μ d with
    | some pr =>
      obtain ⟨ks0, vs0⟩ := pr
      rw [e0] at P1
      simp only at P1
      cases e1 : rowsI ks0 with
      | none => rw [e1] at P1; exact P1.elim
      | some rows =>
        rw [e1] at P1
        simp only at P1
        split at P1
        · rename_i hz
          obtain ⟨ad, T, rfl, da⟩ := asDct_ok S1.wf r1 e0
          obtain ⟨ks, k1, k2, k3⟩ := repL_rows da.rk e1
          have kk := da.key
          rw [rows_key e1] at kk
          have kk2 := Option.some.inj kk
          have ar : T.rows.map (·.b) = ks.map (·.1) := by
            have := congrArg (List.map fun x : V => match x with
              | .ref a => a
              | _ => 0) k1
            rw [List.map_map, List.map_map] at this
            exact this
          have kr : T.rows.map (·.k) = ks.map fun p => nkR p.2 := by
            rw [← kk2, ← k2, List.map_map]; rfl
          exact main ks rows (.inr ⟨ad, T, rfl, da.at_, map_pair ar kr⟩) k2 hz k3 P1
        · exact P1.elim
    | none =>
      rw [e0] at P1
      simp only at P1
      cases e1 : (asLst w1.μ d).bind rowsI with
      | none => rw [e1] at P1; exact P1.elim
      | some rows =>
        rw [e1] at P1
        simp only at P1
        split at P1
        · rename_i hz
          obtain ⟨xs, h1, h2⟩ := Option.bind_eq_some_iff.mp e1
          obtain ⟨l, vs, rfl, hs, rr⟩ := asLst_ok S1.wf r1 h1
          obtain ⟨ks, rfl, k2, k3⟩ := repL_rows rr h2
          exact main ks rows (.inl ⟨l, rfl, SqL.of hs⟩) k2 hz k3 P1
        · exact P1.elim
end
@[simp] theorem eSortSetA_at {f : Env → M D} {ρ : Env} {μ : Store} : eSortSetA f ρ μ = (f ρ μ).and gSortSetA := Eq.trans rfl rfl
theorem rowsG_of {rows : List (List Int)} (h : (dd rows).length < 149) (hn : ∀ r ∈ rows, r ≠ []) : rowsG rows = true := by
  unfold rowsG
  simp only [Bool.and_eq_true, Nat.blt_eq, List.all_eq_true, Bool.not_eq_true', List.isEmpty_eq_false_iff]
  exact ⟨h, hn⟩
/-- of a list -/
theorem gSortSetA_many {rows : List (List Int)} {μ : Store} (h : (dd rows).length < 149) (hn : ∀ r ∈ rows, r ≠ []) : gSortSetA (.lst (rows.map rowD)) μ = .ok (.lst ((ssort rows).map rowD)) μ := by
  unfold gSortSetA
  simp only [asDct, asLst, Option.bind_some, rowsI_map, rowsG_of h hn, if_true]
theorem gSortSetA_lst {rows : List (List Int)} {μ : Store} (h : rows.length < 149) (hn : ∀ r ∈ rows, r ≠ []) : gSortSetA (.lst (rows.map rowD)) μ = .ok (.lst ((ssort rows).map rowD)) μ := gSortSetA_many (Nat.lt_of_le_of_lt (dd_le rows) h) hn
/-- of a dict -/
theorem gSortSetA_dct {x : D} {vs : List D} {rows : List (List Int)} {μ : Store} (e : asDct μ x = some (rows.map rowD, vs)) (h : rows.length < 149) (hn : ∀ r ∈ rows, r ≠ []) : gSortSetA x μ = .ok (.lst ((ssort rows).map rowD)) μ := by
  unfold gSortSetA
  simp only [e, rowsI_map, rowsG_of (Nat.lt_of_le_of_lt (dd_le rows) h) hn, if_true]
end DL
namespace DL
open PySem PySem.Spec PyProof.Rows L2
variable [WC]
/-! ### xs * k -/
def gRep (mu : Bool) : D → D → M D := fun x y μ => match asLst μ x, y with
  | some xs, .int k => if (decide (0 ≤ k) && (Nat.blt k.toNat 1000000 && Nat.ble (xs.length * k.toNat) 16777216)) = true then retL mu (List.replicate k.toNat xs).flatten μ else .bad
  | _, _ => .bad
theorem repL_flat {K : PySem.W.Frag} {F : Hp} {θ : List Addr} {vs : List V} {xs : List D} (r : RepL K F θ vs xs) : ∀ n : Nat, RepL K F θ (List.replicate n vs).flatten (List.replicate n xs).flatten
  | 0 => .nil
  | n + 1 => by
    rw [List.replicate_succ, List.replicate_succ, List.flatten_cons, List.flatten_cons]
    exact r.append (repL_flat r n)
theorem v_rep (K : PySem.W.Frag) (mu : Bool) : VOp K rRep (gRep mu) := by
  intro H w x y d e Q E wf rx ry h
  unfold gRep at h
  cases h1 : asLst w.μ d with
  | none => rw [h1] at h; exact h.elim
  | some xs =>
    rw [h1] at h
    cases e with
    | int k =>
      cases ry
      simp only at h
      split at h
      · rename_i hz
        simp only [Bool.and_eq_true, decide_eq_true_eq, Nat.blt_eq, Nat.ble_eq] at hz
        obtain ⟨a, vs, rfl, ha, ra⟩ := asLst_ok wf rx h1
        have k1 : -(2 ^ 63) ≤ k := Int.le_trans (by decide) hz.1
        have k2 : k < 2 ^ 63 := by
          have : k < 1000000 := by omega
          exact Int.lt_trans this (by decide)
        refine ⟨a, k, vs, rfl, rfl, ha, k1, k2, by rw [ra.length, sizeLine_eq]; exact hz.2.2, fun p hp => ?_⟩
        unfold retL at h
        cases mu with
        | true => exact post_mut h wf hp (repL_flat ra _)
        | false => exact post_lst h wf hp (repL_flat ra _)
      · exact h.elim
    | _ => exact h.elim
theorem xRep {X : Cx} {W : WX} {a b : Expr} {f h : Env → M D} {pos : Pos} (mu : Bool) (ha : ED X W a f) (hb : ED X W b h) : ED X W (.BinOp a .Mult b pos) (eBin (gRep mu) f h) := ed_bin op_rep (v_rep _ mu) ha hb
end DL
namespace DL
open PySem PySem.Spec PyProof.Rows L2
variable [WC]
/-! ### len(set(xs)), xs a list of tuples of ints -/
def tLenG (K : PySem.W.Frag) (ta : TE) : TE := fun σ H Q => ta σ H fun x H1 => ∃ ks : List (Addr × List Int), RowsAt K H1 x ks ∧ (dd (ks.map (·.2))).length < 149 ∧ (∀ p ∈ ks, p.2 ≠ [] ∧ SqT K H1 p.1 (p.2.map V.int)) ∧ Q (.int ((dd (ks.map (·.2))).length : Nat)) H1
section
variable {X : Cx} {W : WX} {a : Expr} {ta : TE} {f : Env → M D} {p p2 q pos : Pos}
theorem pe_lenG (hu : X.A.units + 64 < cLine) (hw : X.w = WC.w) (hg : Gl X "len") (hm : X.mg "len" = none) (hg2 : Gl X "set") (hm2 : X.mg "set" = none) (hc : X.calm = true) (ha : PE X a ta)
    (na : starEach [a] X.env = (false, eval a X.env) :: starEach [] X.env) (na2 : starEach [.Call (.Name "set" p2) [a] [] q] X.env = (false, eval (.Call (.Name "set" p2) [a] [] q) X.env) :: starEach [] X.env := by rfl) :
    PE X (.Call (.Name "len" p) [.Call (.Name "set" p2) [a] [] q] [] pos) (tLenG X.K ta) := by
  constructor
  intro pins s σ H Q I q0
  refine Call_ (ld_blt I hg hm boot_len (PyProof.Rows.callWith_builtin1 (PyProof.Rows.args_cons ?_ na2) na2 rfl))
  refine Call_ (ld_blt I hg2 hm2 PyProof.Rows.boot_set (PyProof.Rows.callWith_type1 (PyProof.Rows.args_cons (thn (ha.run pins s σ H _ I q0) fun v s1 ⟨x, H1, I1, r1, q1⟩ => PyProof.Rows.args_nil ?_) na) na rfl))
  obtain ⟨ks, hr, few, hk, q2⟩ := q1
  refine set_rows I1 hc hu hw r1 hr few hk fun h' tk L es ep t old G s1' s2' => ?_
  refine PyProof.Rows.args_nil ?_
  have I2 : Inv X pins σ H1 { s1 with heap := h', toks := tk } := I1.kept old
  obtain ⟨o, ho, hex, hd⟩ := G.obj
  have e1 : es.size = (dd (ks.map (·.2))).length := by
    rw [SG.rows_len G.rws]
    have := dd_length (l := ks.map (·.2)) (m := L.map (·.2)) G.nod fun r => by
      constructor
      · intro h
        obtain ⟨p, hp, rfl⟩ := List.mem_map.mp h
        exact List.mem_map.mpr ⟨p, s1' p hp, rfl⟩
      · intro h
        obtain ⟨p, hp, rfl⟩ := List.mem_map.mp h
        exact s2' p hp
    rw [List.length_map] at this
    exact this
  have lf := G.few
  have z := SG.rows_len G.rws
  exact call_len_set ho hex hd (SG.Gs.fits (s := { s1 with heap := h', toks := tk }) G) (by omega) ⟨.int ((dd (ks.map (·.2))).length : Nat), H1, I2.tok _, ⟨_, by rw [e1]⟩, q2⟩
def gLenSetA : D → M D := fun x μ => match (asLst μ x).bind rowsI with
  | some rows => if rowsG rows = true then .ok (.int ((dd rows).length : Nat)) μ else .bad
  | none => .bad
def eLenSetA (f : Env → M D) : Env → M D := fun ρ => Mbind (f ρ) gLenSetA
theorem ed_lenSetA (hu : X.A.units + 64 < cLine) (hw : X.w = WC.w) (hg : Gl X "len") (hm : X.mg "len" = none) (hg2 : Gl X "set") (hm2 : X.mg "set" = none) (hc : X.calm = true) (ha : ED X W a f) (na : starEach [a] X.env = (false, eval a X.env) :: starEach [] X.env := by rfl) :
    ED X W (.Call (.Name "len" p) [.Call (.Name "set" p2) [a] [] q] [] pos) (eLenSetA f) :=
  PE_imp (pe_lenG hu hw hg hm hg2 hm2 hc ha na) fun σ H Q ⟨ρ, w, S, P⟩ => tE_bind S P fun d v H1 w1 x1 S1 r1 P1 => by
    unfold gLenSetA at P1
    cases e1 : (asLst w1.μ d).bind rowsI with
    | none => rw [e1] at P1; exact P1.elim
    | some rows =>
      rw [e1] at P1
      simp only at P1
      split at P1
      · rename_i hz
        obtain ⟨z1, z2⟩ := rowsG_ok hz
        obtain ⟨xs, h1, h2⟩ := Option.bind_eq_some_iff.mp e1
        obtain ⟨l, vs, rfl, hs, rr⟩ := asLst_ok S1.wf r1 h1
        obtain ⟨ks, rfl, k2, k3⟩ := repL_rows rr h2
        refine ⟨ks, .inl ⟨l, rfl, SqL.of hs⟩, ?_, fun p hp => ⟨z2 p.2 (by rw [← k2]; exact List.mem_map.mpr ⟨p, hp, rfl⟩), same_sqt S1.wf.same (k3 p hp).1⟩, ?_⟩
        · rw [k2]; exact z1
        · rw [k2]
          exact P1 H1 w1 rfl (Ext.refl _ _) S1.wf _ (.int _)
      · exact P1.elim
end
@[simp] theorem eLenSetA_at {f : Env → M D} {ρ : Env} {μ : Store} : eLenSetA f ρ μ = (f ρ μ).and gLenSetA := Eq.trans rfl rfl
theorem gLenSetA_lst {rows : List (List Int)} {μ : Store} (h : rows.length < 149) (hn : ∀ r ∈ rows, r ≠ []) : gLenSetA (.lst (rows.map rowD)) μ = .ok (.int ((dd rows).length : Nat)) μ := by
  unfold gLenSetA
  simp only [asLst, Option.bind_some, rowsI_map, rowsG_of (Nat.lt_of_le_of_lt (dd_le rows) h) hn, if_true]
end DL
namespace SG
open PySem PySem.Spec PyProof.Rows L2
section
variable {P : Program} {w : World} {A : Around} {E : Value → Shared → Prop} {s : Shared}
theorem ints_at : ∀ {vs : List Value} {ns : List Int}, IntsAre vs ns → ∀ {i : Nat} {v : Value}, vs[i]? = some v → ∃ k t, ns[i]? = some k ∧ v = .int k t
  | _, _, .nil, i, v, h => by simp at h
  | _, _, .cons n t r, 0, v, h => by
    simp only [List.getElem?_cons_zero, Option.some.injEq] at h
    exact ⟨n, t, rfl, h.symm⟩
  | _, _, .cons n t r, i + 1, v, h => ints_at r (by simpa using h)
/-- a list of ints fills a set -/
theorem fillZ {l S : Addr} {items : Array Value} {ns : List Int} (hA : A.handled = none) (hl : s.heap.IsList l items) (hi : IntsAre items.toList ns) (hb : ns.length + 1 < scanBound)
    (hS : S = s.heap.objs.size) {Q : Unit → Shared → Prop} (q : ∀ h' tk c, (∀ b o, s.heap.get? b = some o → h'.get? b = some o) → SetR w h' S (fun j => decide (j ∈ ns)) c → c ≤ ns.length → Q () { s with heap := h', toks := tk }) :
    wpAny (model P w) A (Builtin.Frozenset.updateFrom "set.__init__" S (.ref l)) Q E { s with heap := s.heap.push (newO w) } := by
  obtain ⟨ol, hol, hcl, nl, hdl⟩ := id hl
  have hl1 : (s.heap.push (newO w)).IsList l items := ⟨ol, Heap.get?_push_of_some _ hol, hcl, nl, hdl⟩
  have ty : Shared.TypeIs { s with heap := s.heap.push (newO w) } (.ref l) "list" := ⟨ol, Heap.get?_push_of_some _ hol, hcl⟩
  have sz : (s.heap.push (newO w)).objs.size = s.heap.objs.size + 1 := Heap.size_push ..
  have ls : l < s.heap.objs.size := Heap.lt_size hol
  have hisz : items.size = ns.length := by
    have q := IntsAre.length hi
    rw [Array.length_toList] at q
    exact q
  unfold Builtin.Frozenset.updateFrom Builtin.Frozenset.isAnySet
  refine wpAny_bind ?_
  show wpAny _ _ (isInstance (.ref l) (.type "set") >>= _) _ _ _
  refine wpAny_bind (wpAny_isInstance ty F.sub_list_set ?_)
  show wpAny _ _ (isInstance (.ref l) (.type "frozenset")) _ _ _
  refine wpAny_isInstance ty F.sub_list_frozenset ?_
  rw [if_neg Bool.false_ne_true]
  refine wpAny_bind (wpAny_typeOf ty ?_)
  rw [if_neg (by decide)]
  refine wpAny_bind (wpAny_pyIter_list hl1 ?_)
  refine wpAny_bind (wpAny_runValue ?_)
  have hA' : A.in1.handled = none := by simp [hA]
  have ne1 : l ≠ (s.heap.push (newO w)).objs.size := fun e => Nat.ne_of_lt (Nat.lt_succ_of_lt ls) (e.trans sz)
  have neS : S ≠ (s.heap.push (newO w)).objs.size := by rw [hS, sz]; exact Nat.ne_of_lt (Nat.lt_succ_self _)
  have neL : S ≠ l := by rw [hS]; exact Nat.ne_of_gt ls
  refine set_update_ints (A := A) (Walks.list (prog := P) (w := w) (A := A.in1) hA' (s.heap.push (newO w)).objs.size l ne1 items).toS S (fun h => by
    rcases List.mem_cons.mp h with e | h
    · exact neS e
    · exact neL (List.mem_singleton.mp h)) ns hisz hb (fun i v hv => ?_) (items.size - 0) 0 { s with heap := (s.heap.push (newO w)).push { cls := .type "list_iterator", data := .fields #[.ref l, .int 0 0] } } rfl (Nat.zero_le _) ⟨⟨_, Heap.get?_push_size _ rfl, rfl, rfl⟩, ?_⟩ ⟨0, Nat.le_refl _, ?_⟩ fun s' c mv hc R => ?_
  · exact ints_at hi (by rw [Array.getElem?_toList]; exact hv)
  · obtain ⟨o, ho, r⟩ := hl1
    exact ⟨o, Heap.get?_push_of_some _ ho, r⟩
  · rw [hS]
    exact setR_new_at (ns := ns) (Heap.get?_push_of_some _ (Heap.get?_push_size _ rfl))
  · obtain ⟨h', g', d', tk', os'⟩ := s'
    have e1 := mv.gens
    have e2 := mv.drawn
    have e3 := mv.os
    cases e1
    cases e2
    cases e3
    refine wpAny_pure (q h' tk' c (fun b o e => ?_) R (by omega))
    have lt := Heap.lt_size e
    refine mv.heap b o (fun h => ?_) (Heap.get?_push_of_some _ (Heap.get?_push_of_some _ e))
    rcases List.mem_cons.mp h with e | h
    · rw [e, hS] at lt; exact Nat.lt_irrefl _ lt
    · have e2 := List.mem_singleton.mp h
      rw [e2] at lt
      have lt2 : s.heap.objs.size + 1 < s.heap.objs.size := sz ▸ lt
      omega
end
end SG
namespace DL
open PySem PySem.Spec PyProof.Rows L2
variable [WC]
/-! ### sorted(set(x)), x a list or a tuple of ints -/
def tSortZ (K : PySem.W.Frag) (ta : TE) : TE := fun σ H Q => ta σ H fun x H1 => ∃ (a : Addr) (ns : List Int), x = .ref a ∧ (SqL K H1 a (ns.map V.int) ∨ SqT K H1 a (ns.map V.int)) ∧ ns.length < 64 ∧
  ∀ (q : Addr) (L : List Int), H1 q = none → L.Pairwise (· < ·) → (∀ k, k ∈ L ↔ k ∈ ns) → Q (.ref q) (upd H1 q (.lst (L.map V.int)))
section
variable {X : Cx} {W : WX} {a : Expr} {ta : TE} {f : Env → M D} {p p2 q pos : Pos}
theorem vals_ints : ∀ {us : List Value} {L : List Int}, IntsAre us L → Vals (L.map V.int) us
  | _, _, .nil => .nil
  | _, _, .cons n t r => .cons ⟨t, rfl⟩ (vals_ints r)
theorem pe_sortZ (hg : Gl X "sorted") (hm : X.mg "sorted" = none) (hg2 : Gl X "set") (hm2 : X.mg "set" = none) (hc : X.calm = true) (ha : PE X a ta)
    (na : starEach [a] X.env = (false, eval a X.env) :: starEach [] X.env) (na2 : starEach [.Call (.Name "set" p2) [a] [] q] X.env = (false, eval (.Call (.Name "set" p2) [a] [] q) X.env) :: starEach [] X.env := by rfl) :
    PE X (.Call (.Name "sorted" p) [.Call (.Name "set" p2) [a] [] q] [] pos) (tSortZ X.K ta) := by
  constructor
  intro pins s σ H Q I q0
  refine Call_ (ld_blt I hg hm bb_sorted (PyProof.Rows.callWith_builtin1 (PyProof.Rows.args_cons ?_ na2) na2 rfl))
  refine Call_ (ld_blt I hg2 hm2 PyProof.Rows.boot_set (PyProof.Rows.callWith_type1 (PyProof.Rows.args_cons (thn (ha.run pins s σ H _ I q0) fun v s1 ⟨x, H1, I1, r1, q1⟩ => PyProof.Rows.args_nil ?_) na) na rfl))
  obtain ⟨l, ns, rfl, hs, few, q2⟩ := q1
  cases r1
  have fin : ∀ (h' : Heap) (tk c : Nat), SetR X.w h' s1.heap.objs.size (fun j => decide (j ∈ ns)) c → c ≤ ns.length → (∀ b o, s1.heap.get? b = some o → h'.get? b = some o) →
      wpAny (model X.prog X.w) X.A (call (.builtin "sorted") [.ref s1.heap.objs.size]) (fun v s' => ∃ x H', Inv X pins σ H' s' ∧ RelV x v ∧ Q x H') X.xe { s1 with heap := h', toks := tk } := fun h' tk c R hcn old => by
    have I2 : Inv X pins σ H1 { s1 with heap := h', toks := tk } := I1.kept old
    refine sorted_set (s := { s1 with heap := h', toks := tk }) R (I1.ok.hd hc) (by omega) fun s3 pa out cc L k g o hp hgt hout pw mm len => ?_
    have nf : H1 pa = none := I2.hok.fresh hp
    have lz : (L.map V.int).length ≤ sizeLine := by rw [List.length_map, sizeLine_eq]; omega
    have J : Inv X pins σ (upd H1 pa (.lst (L.map V.int))) { ({ s1 with heap := h', toks := tk } : Shared) with heap := s3.heap, gens := s3.gens, drawn := s3.drawn, toks := s3.toks } :=
      I2.call (ch := []) (Un.laid k hp nf) (I2.hok.laid k hp ⟨lz, out.toList, cc, vals_ints hout, hgt⟩) (by rw [g]; exact I2.bare) (fun _ z => nomatch z)
    have e : s3 = { ({ s1 with heap := h', toks := tk } : Shared) with heap := s3.heap, gens := s3.gens, drawn := s3.drawn, toks := s3.toks } := by
      cases s3
      cases s1
      cases o
      rfl
    rw [e]
    exact ⟨.ref pa, _, J, rfl, q2 pa L nf pw fun k => by rw [mm]; simp⟩
  rcases hs with hs | hs
  · obtain ⟨its, rv, pl, hz⟩ := I1.list hs
    have hi : IntsAre its.toArray.toList ns := ints_of_vals rv
    have hA : X.A.in1.in1.handled = none := by simp [I1.ok.hd hc]
    refine SG.made (SG.fillZ (items := its.toArray) (ns := ns) hA pl.isList hi (by unfold scanBound; omega) rfl fun h' tk c old R hcn => ?_)
    exact PyProof.Rows.args_nil (fin h' tk c R hcn old)
  · obtain ⟨its, rv, pt, hz⟩ := I1.tuple hs
    have hi : IntsAre its.toArray.toList ns := ints_of_vals rv
    refine call_set_tupI ns (I1.ok.hd hc) (show s1.heap.IsTuple l its.toArray from pt) hi (by unfold scanBound; omega) fun h' tk c R1 hcn k => ?_
    exact PyProof.Rows.args_nil (fin h' tk c R1 hcn k)
def sortZ (ns : List Int) : List Int := (dd ns).mergeSort fun a b => decide (a ≤ b)
theorem sortZ_pw (ns : List Int) : (sortZ ns).Pairwise (· < ·) := by
  have so : (sortZ ns).Pairwise (· ≤ ·) := by
    have := List.pairwise_mergeSort (le := fun a b : Int => decide (a ≤ b)) (fun a b c h1 h2 => by simp only [decide_eq_true_eq] at *; omega) (fun a b => by
      simp only [Bool.or_eq_true, decide_eq_true_eq]; omega) (dd ns)
    exact this.imp fun h => by simpa using h
  have nd : (sortZ ns).Nodup := (List.mergeSort_perm _ _).nodup_iff.mpr (dd_nodup ns)
  unfold List.Nodup at nd
  exact (List.pairwise_and_iff.mpr ⟨so, nd⟩).imp fun h => by omega
theorem mem_sortZ {ns : List Int} {k : Int} : k ∈ sortZ ns ↔ k ∈ ns := by
  unfold sortZ
  rw [List.mem_mergeSort, mem_dd]
theorem pw_unique {L M : List Int} (h1 : L.Pairwise (· < ·)) (h2 : M.Pairwise (· < ·)) (h : ∀ k, k ∈ L ↔ k ∈ M) : L = M := by
  have n1 : L.Nodup := h1.imp fun h => by omega
  have n2 : M.Nodup := h2.imp fun h => by omega
  exact ((List.perm_ext_iff_of_nodup n1 n2).mpr h).eq_of_pairwise (le := fun a b => a < b) (fun a b _ _ h1 h2 => by omega) h1 h2
def gSortSetZ : D → M D := fun x μ => match (asSeq μ x).bind intsOf with
  | some ns => if Nat.blt ns.length 64 = true then .ok (.lst ((sortZ ns).map .int)) μ else .bad
  | none => .bad
def eSortSetZ (f : Env → M D) : Env → M D := fun ρ => Mbind (f ρ) gSortSetZ
theorem ed_sortSetZ (hg : Gl X "sorted") (hm : X.mg "sorted" = none) (hg2 : Gl X "set") (hm2 : X.mg "set" = none) (hc : X.calm = true) (ha : ED X W a f) (na : starEach [a] X.env = (false, eval a X.env) :: starEach [] X.env := by rfl) :
    ED X W (.Call (.Name "sorted" p) [.Call (.Name "set" p2) [a] [] q] [] pos) (eSortSetZ f) :=
  PE_imp (pe_sortZ hg hm hg2 hm2 hc ha na) fun σ H Q ⟨ρ, w, S, P⟩ => tE_bind S P fun d v H1 w1 x1 S1 r1 P1 => by
    unfold gSortSetZ at P1
    cases e1 : (asSeq w1.μ d).bind intsOf with
    | none => rw [e1] at P1; exact P1.elim
    | some ns =>
      rw [e1] at P1
      simp only at P1
      split at P1
      · rename_i hz
        obtain ⟨xs, h1, h2⟩ := Option.bind_eq_some_iff.mp e1
        obtain ⟨l, vs, rfl, hs, rr⟩ := asSeq_ok S1.wf r1 h1
        have ev := intsOf_rep rr h2
        subst ev
        refine ⟨l, ns, rfl, hs, by simpa using hz, fun q L hq pw mm => ?_⟩
        have e : L = sortZ ns := pw_unique pw (sortZ_pw ns) fun k => (mm k).trans mem_sortZ.symm
        rw [e]
        refine post_lst P1 S1.wf hq ?_
        generalize sortZ ns = M
        induction M with
        | nil => exact .nil
        | cons k M ih => exact .cons (.int k) ih
      · exact P1.elim
end
@[simp] theorem eSortSetZ_at {f : Env → M D} {ρ : Env} {μ : Store} : eSortSetZ f ρ μ = (f ρ μ).and gSortSetZ := Eq.trans rfl rfl
theorem gSortSetZ_lst {ns : List Int} {μ : Store} (h : ns.length < 64) : gSortSetZ (.lst (ns.map .int)) μ = .ok (.lst ((sortZ ns).map .int)) μ := by
  unfold gSortSetZ
  have e : (asSeq μ (.lst (ns.map .int))).bind intsOf = some ns := by
    show intsOf (ns.map .int) = some ns
    exact intsOf_map ns
  rw [e]
  simp only
  rw [if_pos (by simpa using h)]
theorem gSortSetZ_tup {ns : List Int} {μ : Store} (h : ns.length < 64) : gSortSetZ (.tup (ns.map .int)) μ = .ok (.lst ((sortZ ns).map .int)) μ := by
  unfold gSortSetZ
  have e : (asSeq μ (.tup (ns.map .int))).bind intsOf = some ns := by
    show intsOf (ns.map .int) = some ns
    exact intsOf_map ns
  rw [e]
  simp only
  rw [if_pos (by simpa using h)]
end DL
namespace TR
open PySem PySem.Spec PyProof.Rows L2 HT
theorem adjust_rev (n : Nat) : Builtin.Slice.sliceAdjust none none (-1) (n : Int) = ((n : Int) - 1, -1) := by
  unfold Builtin.Slice.sliceAdjust
  simp
theorem places_rev (n : Nat) : Builtin.Slice.slicePlaces ((n : Int) - 1) (-1) (-1) = n := by
  unfold Builtin.Slice.slicePlaces
  simp
  omega
theorem fm_congr {α β : Type} {f g : α → Option β} : ∀ {l : List α}, (∀ x ∈ l, f x = g x) → l.filterMap f = l.filterMap g
  | [], _ => rfl
  | x :: l, h => by rw [List.filterMap_cons, List.filterMap_cons, h x List.mem_cons_self, fm_congr fun y hy => h y (List.mem_cons_of_mem _ hy)]
theorem pick_rev (xs : Array Value) : ((List.range xs.size).filterMap fun (m : Nat) => xs[(((xs.size : Nat) : Int) - 1 + (m : Int) * -1).toNat]?).toArray = xs.toList.reverse.toArray := by
  have e : ∀ m ∈ List.range xs.size, xs[(((xs.size : Nat) : Int) - 1 + (m : Int) * -1).toNat]? = xs[xs.size - 1 - m]? := fun m hm => by
    have := List.mem_range.mp hm
    congr 1
    omega
  rw [fm_congr e]
  have e2 : ((List.range xs.size).map fun k => xs.size - 1 - k).filterMap (xs[·]?) = (List.range xs.size).filterMap fun m => xs[xs.size - 1 - m]? := by rw [List.filterMap_map]; rfl
  rw [← e2, PySem.W.krv_range, List.filterMap_reverse, PySem.W.krv_all]
section
variable {prog : Program} {w : World} {A : Around} {E : Value → Shared → Prop} {s : Shared}
theorem applied_rev {sl : Addr} {t : Tok} {n : Nat} {Q : Int × Int × Nat → Shared → Prop} (hs : s.heap.IsSliceOf sl .none .none (.int (-1) t)) (h : Q ((n : Int) - 1, -1, n) s) : wpAny (model prog w) A (Builtin.Slice.sliceApplied (.ref sl) (pure (n : Int))) Q E s := by
  obtain ⟨os, hos, hcs, hds⟩ := id hs
  unfold Builtin.Slice.sliceApplied Builtin.Slice.sliceFields
  refine wpAny_bind (wpAny_bind (wpAny_field hos hds (x := .none) rfl (wpAny_bind (wpAny_field hos hds (x := .none) rfl (wpAny_bind (wpAny_field hos hds (x := .int (-1) t) rfl (wpAny_pure ?_)))))))
  refine wpAny_bind (slicePart_ (.int (-1) t) ?_)
  show wpAny _ _ (if ((-1 : Int) == 0) = true then _ else _) _ _ s
  rw [if_neg (by decide)]
  refine wpAny_bind (slicePart_ .none (wpAny_bind (slicePart_ .none (wpAny_bind (wpAny_pure ?_)))))
  show wpAny _ _ (match Builtin.Slice.sliceAdjust none none (-1) (n : Int) with | (lo, hi) => pure (lo, (-1 : Int), Builtin.Slice.slicePlaces lo hi (-1))) _ _ s
  rw [adjust_rev]
  show wpAny _ _ (pure ((n : Int) - 1, (-1 : Int), Builtin.Slice.slicePlaces ((n : Int) - 1) (-1) (-1))) _ _ s
  rw [places_rev]
  exact wpAny_pure h
theorem item_rev {t sl : Addr} {items : Array Value} {k : Tok} {Q : Value → Shared → Prop} (ht : IsTup s.heap t items) (hs : s.heap.IsSliceOf sl .none .none (.int (-1) k))
    (h : Q (.ref s.heap.objs.size) { s with heap := s.heap.push { cls := .type "tuple", data := .seq items.toList.reverse.toArray } })
    (hsz : items.size ≤ sizeLine) : wpAny (model prog w) A (getItem (.ref t) (.ref sl)) Q E s := by
  have htake : sizeOk (.seq items.toList.reverse.toArray) := by
    show items.toList.reverse.toArray.size ≤ sizeLine
    rw [List.size_toArray, List.length_reverse, Array.length_toList]
    exact hsz
  obtain ⟨os, hos, hcs, hds⟩ := id hs
  have hTs : s.TypeIs (.ref sl) "slice" := ⟨os, hos, hcs⟩
  unfold getItem
  try with_reducible refine wpAny_holding ?_
  first | refine wpAny_bind (wpAny_pure ?_) | skip
  refine wpAny_bind (wpAny_sequenceKey ht.typeIs (by decide) ?_)
  refine wpAny_bind (wpAny_callSpecial?_slot (name := Str.ofString "__getitem__") ht.typeIs PyProof.Rows.slot_tuple_getitem
    (wpAny_call_entry PyProof.Rows.slot_tuple_getitem ht.typeIs entry_tuple_getitem ?_ (args_tuple_getitem _ _)))
  show wpAny _ _ (Builtin.Tuple.tupleItemsOf (.ref t) >>= _) _ _ s
  refine wpAny_bind (tupleItemsOf_ ht (wpAny_bind (wpAny_typeOf hTs ?_)))
  rw [if_pos (by decide)]
  refine wpAny_bind (applied_rev hs ?_)
  have hno : ¬ (((items.size : Int) - 1 == 0 && (-1 : Int) == 1 && items.size == items.size) = true) := by simp
  show wpAny _ _ (if ((items.size : Int) - 1 == 0 && (-1 : Int) == 1 && items.size == items.size) = true then _ else _) _ _ s
  rw [if_neg hno, pick_rev]
  first
    | exact wpAny_bind (m := Builtin.Tuple.tupleExact _) (wpAny_newObj_type (wpAny_pure ⟨_, rfl, wpAny_pure h⟩) htake)
    | exact wpAny_bind (m := Builtin.Tuple.tupleExact _) (wpAny_newObj_type (wpAny_bind (wpAny_pure (wpAny_pure ⟨_, rfl, wpAny_pure h⟩))) htake)
    | exact wpAny_bind (wpAny_bind (m := Builtin.Tuple.tupleExact _) (wpAny_newObj_type (wpAny_pure (wpAny_pure ⟨_, rfl, wpAny_pure h⟩)) htake))
    | exact wpAny_bind (wpAny_bind (m := Builtin.Tuple.tupleExact _) (wpAny_newObj_type (wpAny_pure ⟨_, rfl, wpAny_pure h⟩) htake))
end
end TR
namespace DL
open PySem PySem.Spec PyProof.Rows L2
variable [WC]
/-! ### x[::-1] of a tuple or a list -/
def tRev (K : PySem.W.Frag) (te : TE) (ts : TO) : TE := fun σ H Q => te σ H fun x H1 => ts σ H1 fun o H2 => o = some (-1) ∧ ∃ a xs, x = .ref a ∧
  ((SqT K H2 a xs ∧ ∀ q, H2 q = none → Q (.ref q) (upd H2 q (.tup xs.reverse))) ∨ (SqL K H2 a xs ∧ ∀ q, H2 q = none → Q (.ref q) (upd H2 q (.lst xs.reverse))))
section
variable {X : Cx} {W : WX} {a : Expr} {f : Env → M D} {l : Env → M (Option Int)} {te : TE} {ts : TO} {c : Expr} {p2 pos : Pos}
theorem pe_rev (he : PE X a te) (hs : PO X (some c) ts) : PE X (.Subscript a (.Slice none none (some c) p2) pos) (tRev X.K te ts) := by
  refine ⟨fun pins s σ H Q I h => ?_⟩
  refine Subscript_ (thn (he.run pins s σ H _ I h) fun v s1 ⟨x, H1, I1, r1, q1⟩ => ?_)
  refine wpAny_Slice ?_
  rw [evalPart_none]
  refine wpAny_pure (wpAny_pure (thn (hs.run pins s1 σ H1 _ I1 q1) fun vk s2 ⟨o, H2, I2, pk, eo, b, xs, ex, q2⟩ => ?_))
  subst eo ex
  cases r1
  cases pk with
  | int i tk =>
    have I3 : Inv X pins σ H2 { s2 with heap := s2.heap.push { cls := .type "slice", data := .fields #[.none, .none, .int (-1) tk] } } := I2.kept (t' := s2.toks) fun b ob q => Heap.get?_push_of_some _ q
    show wpAny (model X.prog X.w) X.A (subscriptTail a (.Slice none none (some c) p2) (.ref b) (.ref s2.heap.objs.size)) (EP X pins σ Q) X.xe { s2 with heap := s2.heap.push { cls := .type "slice", data := .fields #[.none, .none, .int (-1) tk] } }
    rcases q2 with ⟨hq, q2⟩ | ⟨hq, q2⟩
    · obtain ⟨its, r, ht, hz⟩ := I3.tuple hq
      have hlen : its.toArray.size = xs.length := by rw [List.size_toArray]; exact r.length.symm
      refine tail_any (ops := [.ref b, .ref s2.heap.objs.size]) ht.typeIs PyProof.Rows.slot_tuple_getitem.lookup (TR.item_rev ht (Heap.IsSliceOf.new ..) ?_ (by rw [hlen]; exact hz)) (by with_unfolding_all rfl)
      refine ⟨.ref (s2.heap.push { cls := .type "slice", data := .fields #[.none, .none, .int (-1) tk] }).objs.size, _, I3.laid (t' := s2.toks) (o := .tup xs.reverse) (fun b ob q => Heap.get?_push_of_some _ q) (Nat.le_refl _) ?_, rfl, q2 _ (I3.hok.fresh (Nat.le_refl _))⟩
      exact ⟨by rw [List.length_reverse]; exact hz, its.reverse, r.reverse, IsTup.new _ _⟩
    · obtain ⟨its, r, ht, hz⟩ := I3.list hq
      have hlen := r.length
      refine tail_any (ops := [.ref b, .ref s2.heap.objs.size]) ht.isList.typeIs slot_list_getitem.lookup (wpAny_getItem_list_slice ht.isList (Heap.IsSliceOf.new ..) .none .none (.int (-1) tk) (by simp) ?_ (by rw [List.size_toArray]; omega)) (by with_unfolding_all rfl)
      rw [PySem.W.krv_pick]
      refine ⟨.ref (s2.heap.push { cls := .type "slice", data := .fields #[.none, .none, .int (-1) tk] }).objs.size, _, I3.laid (t' := s2.toks) (o := .lst xs.reverse) (fun b ob q => Heap.get?_push_of_some _ q) (Nat.le_refl _) ?_, rfl, q2 _ (I3.hok.fresh (Nat.le_refl _))⟩
      exact ⟨by rw [List.length_reverse]; exact hz, its.reverse, 0, r.reverse, Heap.get?_push_size _ rfl⟩
def gRev (o : Option Int) : D → M D := fun x μ => if o = some (-1) then (match x with
  | .tup xs => .ok (.tup xs.reverse) μ
  | x => match asLst μ x with
    | some xs => .ok (.lst xs.reverse) μ
    | none => .bad) else .bad
def eRev (f : Env → M D) (l : Env → M (Option Int)) : Env → M D := fun ρ => Mbind (f ρ) fun x => Mbind (l ρ) fun o => gRev o x
theorem repL_rev {K : PySem.W.Frag} {F : Hp} {θ : List Addr} : ∀ {vs : List V} {ds : List D}, RepL K F θ vs ds → RepL K F θ vs.reverse ds.reverse
  | _, _, .nil => .nil
  | _, _, .cons r rs => by
    rw [List.reverse_cons, List.reverse_cons]
    exact (repL_rev rs).append (.cons r .nil)
theorem ed_rev {c : Expr} (ha : ED X W a f) (hl : OD X W (some c) l) : ED X W (.Subscript a (.Slice none none (some c) p2) pos) (eRev f l) :=
  PE_imp (pe_rev ha hl) fun σ H Q ⟨ρ, w, S, P⟩ => tE_bind S P fun d v H1 w1 _ S1 r1 P1 => by
    refine ⟨ρ, w1, S1, (post_bind P1).imp (fun o H2 w2 x2 wf2 P2 => ?_) fun _ _ _ _ _ q => q⟩
    unfold gRev at P2
    split at P2
    · rename_i ho
      refine ⟨ho, ?_⟩
      have r2 := x2.rep r1
      cases d with
      | tup ds =>
        obtain ⟨b, vs, rfl, hs, rr⟩ := asTup_ok wf2 r2 (xs := ds) rfl
        exact ⟨b, vs, rfl, .inl ⟨hs, fun q hq => post_tup P2 wf2 hq (repL_rev rr)⟩⟩
      | _ =>
        dsimp only at P2
        split at P2
        · rename_i xs h1
          obtain ⟨b, vs, rfl, hs, rr⟩ := asLst_ok wf2 r2 h1
          exact ⟨b, vs, rfl, .inr ⟨SqL.of hs, fun q hq => post_lst P2 wf2 hq (repL_rev rr)⟩⟩
        · exact P2.elim
    · exact P2.elim
end
@[simp] theorem eRev_at {f : Env → M D} {l : Env → M (Option Int)} {ρ : Env} {μ : Store} : eRev f l ρ μ = (f ρ μ).and fun x => Mbind (l ρ) fun o => gRev o x := Eq.trans rfl rfl
@[simp] theorem gRev_tup {xs : List D} {μ : Store} : gRev (some (-1)) (.tup xs) μ = .ok (.tup xs.reverse) μ := Eq.trans rfl rfl
@[simp] theorem gRev_lst {xs : List D} {μ : Store} : gRev (some (-1)) (.lst xs) μ = .ok (.lst xs.reverse) μ := Eq.trans rfl rfl
/-! ### tuple * int -/
def gRepT : D → D → M D := fun x y μ => match x, y with
  | .tup xs, .int k => if (!xs.isEmpty && decide (2 ≤ k) && decide (k ≤ 1000) && Nat.ble xs.length 1000) = true then .ok (.tup (List.replicate k.toNat xs).flatten) μ else .bad
  | _, _ => .bad
theorem v_repT (K : PySem.W.Frag) : VOp K (rRepT K) gRepT := by
  intro H w x y d e Q E wf rx ry h
  unfold gRepT at h
  split at h
  · rename_i xs k
    split at h
    · rename_i hz
      simp only [Bool.and_eq_true, Bool.not_eq_true', List.isEmpty_eq_false_iff, decide_eq_true_eq, Nat.ble_eq] at hz
      obtain ⟨l, vs, rfl, hs, rr⟩ := asTup_ok wf rx (xs := xs) rfl
      cases ry
      have len := rr.length
      refine ⟨l, k, vs, rfl, rfl, hs, fun e => hz.1.1.1 ?_, hz.1.1.2, hz.1.2, by omega, fun p hp => post_tup h wf hp (repL_flat rr _)⟩
      rw [e] at len
      exact List.eq_nil_of_length_eq_zero len.symm
    · exact h.elim
  · exact h.elim
theorem xRepT {X : Cx} {W : WX} {a b : Expr} {f h : Env → M D} {pos : Pos} (ha : ED X W a f) (hb : ED X W b h) : ED X W (.BinOp a .Mult b pos) (eBin gRepT f h) := ed_bin op_repT (v_repT _) ha hb
end DL
namespace DL
open PySem PySem.Spec PyProof.Rows L2
variable [WC]
/-! ### dicts with int and text keys -/
def kOf : D → Option Key
  | .int i => some (.inl i)
  | .str x => some (.inr x)
  | _ => none
theorem kOf_rep {K : PySem.W.Frag} {F : Hp} {θ : List Addr} {v : V} {d : D} {k : Key} (r : Rep K F θ v d) (h : kOf d = some k) : v = kV k := by
  cases d with
  | int i => cases h; cases r; rfl
  | str x => cases h; cases r; rfl
  | _ => cases h
def getK (kvs : List (Key × D)) (k : Key) : Option D := (kvs.find? fun kv => decide (kv.1 = k)).map (·.2)
def putKD (kvs : List (Key × D)) (k : Key) (v : D) : List (Key × D) :=
  if (kvs.any fun kv => decide (kv.1 = k)) = true then kvs.map (fun kv => if kv.1 = k then (kv.1, v) else kv) else kvs ++ [(k, v)]
inductive KR (K : PySem.W.Frag) (F : Hp) (θ : List Addr) : List (Key × V) → List (Key × D) → Prop where
  | nil : KR K F θ [] []
  | cons {k : Key} {v : V} {d : D} {gs : List (Key × V)} {fs : List (Key × D)} : Rep K F θ v d → KR K F θ gs fs → KR K F θ ((k, v) :: gs) ((k, d) :: fs)
section
variable {K : PySem.W.Frag} {F : Hp} {θ : List Addr}
theorem KR.of : ∀ {gs : List (Key × V)} {fs : List (Key × D)}, gs.map (·.1) = fs.map (·.1) → RepL K F θ (gs.map (·.2)) (fs.map (·.2)) → KR K F θ gs fs
  | [], [], _, _ => .nil
  | [], _ :: _, h, _ => nomatch h
  | _ :: _, [], h, _ => nomatch h
  | (k, v) :: gs, (k', d) :: fs, h, r => by
    simp only [List.map_cons, List.cons.injEq] at h
    obtain ⟨rfl, h2⟩ := h
    cases r with
    | cons r1 r2 => exact .cons r1 (KR.of h2 r2)
theorem KR.keys : ∀ {gs : List (Key × V)} {fs : List (Key × D)}, KR K F θ gs fs → gs.map (·.1) = fs.map (·.1)
  | _, _, .nil => rfl
  | _, _, .cons _ r => by simp only [List.map_cons, r.keys]
theorem KR.vals : ∀ {gs : List (Key × V)} {fs : List (Key × D)}, KR K F θ gs fs → RepL K F θ (gs.map (·.2)) (fs.map (·.2))
  | _, _, .nil => .nil
  | _, _, .cons r1 r => .cons r1 r.vals
theorem KR.get : ∀ {gs : List (Key × V)} {fs : List (Key × D)}, KR K F θ gs fs → ∀ k, (getK fs k = none ∧ valV gs k = none) ∨ ∃ v d, getK fs k = some d ∧ valV gs k = some v ∧ Rep K F θ v d
  | _, _, .nil, k => .inl ⟨rfl, rfl⟩
  | _, _, .cons (k := k0) r1 r, k => by
    by_cases e : k0 = k
    · exact .inr ⟨_, _, by simp [getK, List.find?_cons, e], valV_pos e, r1⟩
    · have h1 : ∀ (d : D) fs, getK ((k0, d) :: fs) k = getK fs k := fun d fs => by simp [getK, List.find?_cons, e]
      have h2 : ∀ (v : V) gs, valV ((k0, v) :: gs) k = valV gs k := fun v gs => valV_neg e
      rw [h1, h2]
      exact r.get k
theorem KR.any : ∀ {gs : List (Key × V)} {fs : List (Key × D)}, KR K F θ gs fs → ∀ k, (gs.any fun kv => decide (kv.1 = k)) = fs.any fun kv => decide (kv.1 = k)
  | _, _, .nil, k => rfl
  | _, _, .cons _ r, k => by simp only [List.any_cons, r.any k]
theorem KR.app : ∀ {gs hs : List (Key × V)} {fs es : List (Key × D)}, KR K F θ gs fs → KR K F θ hs es → KR K F θ (gs ++ hs) (fs ++ es)
  | _, _, _, _, .nil, r => r
  | _, _, _, _, .cons r1 r, r2 => .cons r1 (r.app r2)
theorem KR.repl {k : Key} {v : V} {d : D} (rv : Rep K F θ v d) : ∀ {gs : List (Key × V)} {fs : List (Key × D)}, KR K F θ gs fs → KR K F θ (gs.map fun kv => if kv.1 = k then (kv.1, v) else kv) (fs.map fun kv => if kv.1 = k then (kv.1, d) else kv)
  | _, _, .nil => .nil
  | _, _, .cons (k := k0) r1 r => by
    by_cases e : k0 = k
    · simp only [List.map_cons, e, if_true]
      exact .cons rv (r.repl rv)
    · simp only [List.map_cons, e, if_false]
      exact .cons r1 (r.repl rv)
theorem KR.put {gs : List (Key × V)} {fs : List (Key × D)} {k : Key} {v : V} {d : D} (r : KR K F θ gs fs) (rv : Rep K F θ v d) : KR K F θ (putK gs k v) (putKD fs k d) := by
  unfold putK putKD
  rw [r.any k]
  split
  · exact r.repl rv
  · exact r.app (.cons rv .nil)
end
def asKd (μ : Store) : D → Option (List (Key × D))
  | .ptr n => match μ[n]? with
    | some (.kd fs) => some fs
    | _ => none
  | _ => none
theorem asKd_ok {K : PySem.W.Frag} {H : Hp} {w : Wd} {x : V} {d : D} {fs : List (Key × D)} (wf : Wf K H w) (r : Rep K w.F w.θ x d) (h : asKd w.μ d = some fs) : ∃ a gs, x = .ref a ∧ H a = some (.dK gs) ∧ KR K w.F w.θ gs fs := by
  cases d with
  | ptr n =>
    unfold asKd at h
    dsimp only at h
    cases e : w.μ[n]? with
    | none => rw [e] at h; cases h
    | some ob =>
      rw [e] at h
      cases ob with
      | kd fs' =>
        cases h
        cases r with
        | ptr ht =>
          obtain ⟨gs, h1, h2, h3⟩ := wf.ob n _ _ ht e
          exact ⟨_, gs, rfl, h1, .of h2 h3⟩
      | lst xs => cases h
      | dct v ks vs => cases h
  | _ => cases h
/-! k in d -/
def gInK (neg : Bool) : D → D → M D := fun x y μ => match asKd μ y, kOf x with
  | some fs, some k => .ok (.bl (if neg then !(getK fs k).isSome else (getK fs k).isSome)) μ
  | _, _ => .bad
def rInK (neg : Bool) : R2 := fun x y H Q => ∃ a o, y = .ref a ∧ DGet H a x o ∧ Q (.bl (if neg then !o.isSome else o.isSome)) H
section
variable {X : Cx}
theorem op_inK (hu : X.A.units + 1 < cLine) : OpR X (compareOp .In) (rInK false) := by
  intro pins s σ H x y v u Q I rx ry h
  obtain ⟨a, o, rfl, g, q⟩ := h
  obtain rfl : u = Value.ref a := ry
  exact d_in hu I g rx fun s3 I3 => ⟨.bl o.isSome, H, I3, rfl, q⟩
theorem op_notInK (hu : X.A.units + 1 < cLine) : OpR X (compareOp .NotIn) (rInK true) := by
  intro pins s σ H x y v u Q I rx ry h
  obtain ⟨a, o, rfl, g, q⟩ := h
  obtain rfl : u = Value.ref a := ry
  exact d_notIn hu I g rx fun s3 I3 => ⟨.bl (!o.isSome), H, I3, rfl, q⟩
theorem v_inK {K : PySem.W.Frag} (neg : Bool) : VOp K (rInK neg) (gInK neg) := by
  intro H w x y d e Q E wf rx ry h
  unfold gInK at h
  split at h
  · rename_i fs k h1 h2
    obtain ⟨a, gs, rfl, ha, kr⟩ := asKd_ok wf ry h1
    have ek := kOf_rep rx h2
    subst ek
    refine ⟨a, valV gs k, rfl, DGet.k ha, ?_⟩
    have e : (valV gs k).isSome = (getK fs k).isSome := by
      rcases kr.get k with ⟨e1, e2⟩ | ⟨v, d, e1, e2, _⟩ <;> rw [e1, e2] <;> rfl
    rw [e]
    exact post_ret h wf _ (.bl _)
  · exact h.elim
theorem cInK (hu : X.A.units + 65 < cLine) : CmpW X .In (gInK false) := ⟨_, op_inK (by omega), v_inK _⟩
theorem cNiK (hu : X.A.units + 65 < cLine) : CmpW X .NotIn (gInK true) := ⟨_, op_notInK (by omega), v_inK _⟩
end
/-! d[k] -/
def gIxK : D → D → M D := fun x y μ => match asKd μ x, kOf y with
  | some fs, some k => match getK fs k with
    | some d => .ok d μ
    | none => .bad
  | _, _ => .bad
section
variable {X : Cx} {W : WX} {a b c : Expr} {f h k : Env → M D} {pos : Pos}
theorem ed_ixK (hu : X.A.units + 1 < cLine) (ha : ED X W a f) (hb : ED X W b h) (hs : NoSl b) : ED X W (.Subscript a b pos) (eBin gIxK f h) :=
  PE_imp (pe_dget hu ha hb hs) fun σ H Q ⟨ρ, w, S, P⟩ => tE_bind S P fun d v H1 w1 _ S1 r1 P1 => tE_bind S1 P1 fun e u H2 w2 x2 S2 r2 P2 => by
    unfold gIxK at P2
    split at P2
    · rename_i fs k h1 h2
      obtain ⟨p, gs, rfl, hp, kr⟩ := asKd_ok S2.wf (x2.rep r1) h1
      have ek := kOf_rep r2 h2
      subst ek
      rcases kr.get k with ⟨e1, e2⟩ | ⟨v, d, e1, e2, rv⟩
      · rw [e1] at P2; exact P2.elim
      · rw [e1] at P2
        exact ⟨p, v, rfl, e2 ▸ DGet.k hp, post_ret P2 S2.wf _ rv⟩
    · exact P2.elim
/-! d[k] = v -/
def putKM (x y d : D) : M Unit := fun μ => match x, kOf y with
  | .ptr n, some k => match μ[n]? with
    | some (.kd fs) => if Nat.ble fs.length 1000000 = true then .ok () (μ.set n (.kd (putKD fs k d))) else .bad
    | _ => .bad
  | _, _ => .bad
def sPutK (o k f : Env → M D) : SM := fun ρ => Mbind (f ρ) fun d => Mbind (o ρ) fun x => Mbind (k ρ) fun y => Mbind (putKM x y d) fun _ => Mret (.nx ρ)
theorem sd_putK {i : Expr} {p2 : Pos} (hu : X.A.units + 1 < cLine) (hv : ED X W a f) (ho : ED X W c h) (hi : ED X W i k) (hs : swapsWith a (some (.Subscript c i p2)) pos.line X.env = pure false := by rfl) :
    SD X W (.Assign [.Subscript c i p2] a pos) (sPutK h k f) :=
  PS_imp (ps_dput hu ho hi hv hs) fun D σ H ⟨ρ, w, S, P⟩ => tE_bindS S P fun d v H1 w1 x1 S1 r1 P1 => tE_bindS S1 P1 fun d2 v2 H2 w2 x2 S2 r2 P2 => tE_bindS S2 P2 fun d3 v3 H3 w3 x3 S3 r3 P3 => by
    have r1' := x3.rep (x2.rep r1)
    have r2' := x3.rep r2
    have P4 := post_bind P3
    simp only [putKM] at P4
    split at P4
    · rename_i _ n kk hk
      cases e1 : w3.μ[n]? with
      | none => rw [e1] at P4; exact P4.elim
      | some ob =>
        rw [e1] at P4
        cases ob with
        | lst xs => exact P4.elim
        | dct v ks vs => exact P4.elim
        | kd fs =>
          simp only at P4
          split at P4
          · rename_i hz
            rw [Nat.ble_eq] at hz
            cases r2' with
            | @ptr p _ ht =>
              obtain ⟨gs, h1, h2, h3⟩ := S3.wf.ob n _ _ ht e1
              have kr := KR.of h2 h3
              have ek := kOf_rep r3 hk
              subst ek
              have kr2 := kr.put (k := kk) r1'
              have len : gs.length = fs.length := by
                have := congrArg List.length h2
                rwa [List.length_map, List.length_map] at this
              have wf' : Wf X.K (upd H3 p (.dK (putK gs kk v))) { w3 with μ := w3.μ.set n (.kd (putKD fs kk d)) } := S3.wf.set_ob ht ⟨_, upd_same, kr2.keys, kr2.vals⟩
              have x' : Ext H3 w3 (upd H3 p (.dK (putK gs kk v))) { w3 with μ := w3.μ.set n (.kd (putKD fs kk d)) } := Ext.set_lst S3.wf ht fun _ _ _ h => by rw [e1] at h; cases h
              refine ⟨p, _, rfl, DPut.k h1 (by rw [len, sizeLine_eq]; omega), ?_⟩
              exact post_ret (P4 _ _ rfl x' wf') wf' _ (S3.ext x' wf')
          · exact P4.elim
    · exact P4.elim
end
/-! {}, {k: v, ..} -/
def mergeD (fs more : List (Key × D)) : List (Key × D) := more.foldl (fun acc kv => putKD acc kv.1 kv.2) fs
theorem KR.merge {K : PySem.W.Frag} {F : Hp} {θ : List Addr} : ∀ {hs : List (Key × V)} {es : List (Key × D)}, KR K F θ hs es → ∀ {gs : List (Key × V)} {fs : List (Key × D)}, KR K F θ gs fs → KR K F θ (mergeK gs hs) (mergeD fs es)
  | _, _, .nil, _, _, r => r
  | _, _, .cons r1 r, _, _, r2 => KR.merge r (r2.put r1)
def kKNew : M D := fun μ => .ok (.ptr μ.length) (μ ++ [.kd []])
def ePairs : List ((Env → M D) × (Env → M D)) → Env → M (List (Key × D))
  | [], _ => Mret []
  | (f, h) :: r, ρ => Mbind (f ρ) fun x => Mbind (h ρ) fun v => match kOf x with
    | some k => Mbind (ePairs r ρ) fun t => Mret ((k, v) :: t)
    | none => Mbad
def fillK (p : D) (kvs : List (Key × D)) : M Unit := fun μ => match p with
  | .ptr n => match μ[n]? with
    | some (.kd []) => if Nat.ble kvs.length 15 = true then .ok () (μ.set n (.kd (mergeD [] kvs))) else .bad
    | _ => .bad
  | _ => .bad
def eKDisp (l : List ((Env → M D) × (Env → M D))) : Env → M D := fun ρ => Mbind kKNew fun p => Mbind (ePairs l ρ) fun kvs => Mbind (fillK p kvs) fun _ => Mret p
def eKNew : Env → M D := fun _ => kKNew
section
variable {X : Cx} {W : WX} {pos : Pos}
theorem kr_pairs {K : PySem.W.Frag} {mg : Str → Option Value} {σ : L2.St} {α : Type} {ρ : Env} {Q : α → Hp → Wd → Prop} : ∀ (l : List ((Env → M D) × (Env → M D))) {H : Hp} {w : Wd} {k : List (Key × D) → M α} {Q' : List (V × V) → Hp → Prop} (_ : SR K σ H ρ w) (_ : Post K H w (Mbind (ePairs l ρ) k w.μ) Q (EW K mg W σ))
    (_ : ∀ kvs gs H1 w1, Ext H w H1 w1 → SR K σ H1 ρ w1 → KR K w1.F w1.θ gs kvs → Post K H1 w1 (k kvs w1.μ) Q (EW K mg W σ) → Q' (gs.map fun kv => (kV kv.1, kv.2)) H1), tPairs (l.map fun p => (tE K mg W p.1, tE K mg W p.2)) σ H Q'
  | [], H, w, k, Q', S, P, hk => hk [] [] H w (Ext.refl _ _) S .nil (by simpa only [ePairs, mbind_ret] using P)
  | (f, h) :: r, H, w, k, Q', S, P, hk => by
    have P0 : Post K H w (Mbind (f ρ) (fun x => Mbind (h ρ) fun v => Mbind (match kOf x with
      | some k => Mbind (ePairs r ρ) fun t => Mret ((k, v) :: t)
      | none => Mbad) k) w.μ) Q (EW K mg W σ) := by
      simpa only [ePairs, mbind_assoc] using P
    refine tE_bind S P0 fun x vx H1 w1 x1 S1 r1 P1 => tE_bind S1 P1 fun v vv H2 w2 x2 S2 r2 P2 => ?_
    cases e : kOf x with
    | none => rw [e] at P2; exact P2.elim
    | some kk =>
      rw [e] at P2
      simp only [mbind_assoc, mbind_ret] at P2
      have ek := kOf_rep (x2.rep r1) e
      subst ek
      exact kr_pairs r S2 P2 fun kvs gs H3 w3 x3 S3 kr P3 => hk ((kk, v) :: kvs) ((kk, vv) :: gs) H3 w3 (x1.trans (x2.trans x3)) S3 (.cons (x3.rep r2) kr) P3
theorem new_kd {K : PySem.W.Frag} {H : Hp} {w : Wd} {p : Addr} (wf : Wf K H w) (hp : H p = none) : Wf K (upd H p (.dK [])) (w.mk_ p (.kd [])) ∧ Ext H w (upd H p (.dK [])) (w.mk_ p (.kd [])) ∧ Rep K (w.mk_ p (.kd [])).F (w.mk_ p (.kd [])).θ (.ref p) (.ptr w.μ.length) :=
  ⟨wf.mk_ob (o := .dK []) (u0 := .kd []) hp ⟨[], upd_same, rfl, .nil⟩, Ext.mk_ wf hp, .ptr (by
    show (w.θ ++ [p])[w.μ.length]? = some p
    rw [← wf.len]; simp)⟩
theorem ed_knew : ED X W (.Dict [] [] pos) eKNew :=
  PE_imp pe_dnewK fun σ H Q ⟨ρ, w, S, P⟩ p hp => by
    obtain ⟨wf, x0, r0⟩ := new_kd S.wf hp
    exact P _ _ rfl x0 wf _ r0
/-- the items, one by one -/
inductive DPs (X : Cx) (W : WX) : List (Option Expr) → List Expr → List ((Env → M D) × (Env → M D)) → Prop
  | nil : DPs X W [] [] []
  | cons {k v : Expr} {f h : Env → M D} {ks : List (Option Expr)} {vs : List Expr} {l : List ((Env → M D) × (Env → M D))} (hk : ED X W k f) (hv : ED X W v h) (r : DPs X W ks vs l) : DPs X W (some k :: ks) (v :: vs) ((f, h) :: l)
theorem DPs.pps {ks : List (Option Expr)} {vs : List Expr} {l : List ((Env → M D) × (Env → M D))} (h : DPs X W ks vs l) : PPs X pos ks vs (l.map fun p => (tE X.K X.mg W p.1, tE X.K X.mg W p.2)) := by
  induction h with
  | nil => exact pps_nil
  | cons hk hv r ih => exact pps_cons hk hv ih
theorem ed_kdisp {ks : List (Option Expr)} {vs : List Expr} {l : List ((Env → M D) × (Env → M D))} (h : DPs X W ks vs l) (h1 : ks.all (·.isSome) = true) (h2 : ks.length = vs.length) (h0 : ks ≠ []) (h15 : ks.length ≤ 15) : ED X W (.Dict ks vs pos) (eKDisp l) :=
  PE_imp (pe_disp h.pps h1 h2 h0 h15) fun σ H Q ⟨ρ, w, S, P⟩ p hp => by
    obtain ⟨wf, x0, r0⟩ := new_kd S.wf hp
    have P1 := (post_bind P) _ (w.mk_ p (.kd [])) rfl x0 wf
    refine kr_pairs l (S.ext x0 wf) P1 fun kvs gs H2 w2 x2 S2 kr P2 => ?_
    have P3 := post_bind P2
    have r2 := x2.rep r0
    simp only [fillK] at P3
    cases e1 : w2.μ[w.μ.length]? with
    | none => rw [e1] at P3; exact P3.elim
    | some ob =>
      rw [e1] at P3
      cases ob with
      | lst xs => exact P3.elim
      | dct v ks vs => exact P3.elim
      | kd fs =>
        cases fs with
        | cons _ _ => exact P3.elim
        | nil =>
          simp only at P3
          split at P3
          · rename_i hz
            rw [Nat.ble_eq] at hz
            cases r2 with
            | ptr ht =>
              obtain ⟨g0, a1, a2, a3⟩ := S2.wf.ob _ _ _ ht e1
              have e0 : g0 = [] := List.map_eq_nil_iff.mp a2
              subst e0
              have km : KR X.K w2.F w2.θ (mergeK [] gs) (mergeD [] kvs) := KR.merge kr .nil
              have len : gs.length = kvs.length := by
                have := congrArg List.length kr.keys
                rwa [List.length_map, List.length_map] at this
              have wf' : Wf X.K (upd H2 p (.dK (mergeK [] gs))) { w2 with μ := w2.μ.set w.μ.length (.kd (mergeD [] kvs)) } := S2.wf.set_ob ht ⟨_, upd_same, km.keys, km.vals⟩
              have x' : Ext H2 w2 (upd H2 p (.dK (mergeK [] gs))) { w2 with μ := w2.μ.set w.μ.length (.kd (mergeD [] kvs)) } := Ext.set_lst S2.wf ht fun _ _ _ h => by rw [e1] at h; cases h
              refine ⟨a1, gs, rfl, by omega, ?_⟩
              exact post_ret (P3 _ _ rfl x' wf') wf' _ (x'.rep (.ptr ht))
          · exact P3.elim
end
end DL
namespace DL
open PySem PySem.Spec PyProof.Rows L2
variable [WC]
/-! ### min(xs), max(xs), xs a list of ints -/
def minL : Int → List Int → Int
  | m, [] => m
  | m, y :: l => minL (if y < m then y else m) l
def maxL : Int → List Int → Int
  | m, [] => m
  | m, y :: l => maxL (if m < y then y else m) l
theorem minL_is : ∀ (l : List Int) (m : Int), minL m l ∈ m :: l ∧ ∀ y ∈ m :: l, minL m l ≤ y
  | [], m => ⟨by simp [minL], by simp [minL]⟩
  | x :: l, m => by
    obtain ⟨h1, h2⟩ := minL_is l (if x < m then x else m)
    unfold minL
    have h3 := h2 _ List.mem_cons_self
    have h4 : (if x < m then x else m) = x ∨ (if x < m then x else m) = m := by split <;> simp
    have h5 : (if x < m then x else m) ≤ m ∧ (if x < m then x else m) ≤ x := by split <;> omega
    generalize (if x < m then x else m) = k at h1 h2 h3 h4 h5 ⊢
    refine ⟨?_, fun y hy => ?_⟩
    · rcases List.mem_cons.mp h1 with e | h1
      · rw [e]; rcases h4 with h4 | h4 <;> simp [h4]
      · exact List.mem_cons_of_mem _ (List.mem_cons_of_mem _ h1)
    · rcases List.mem_cons.mp hy with e | hy
      · rw [e]; omega
      · rcases List.mem_cons.mp hy with e | hy
        · rw [e]; omega
        · exact h2 y (List.mem_cons_of_mem _ hy)
theorem maxL_is : ∀ (l : List Int) (m : Int), maxL m l ∈ m :: l ∧ ∀ y ∈ m :: l, y ≤ maxL m l
  | [], m => ⟨by simp [maxL], by simp [maxL]⟩
  | x :: l, m => by
    obtain ⟨h1, h2⟩ := maxL_is l (if m < x then x else m)
    unfold maxL
    have h3 := h2 _ List.mem_cons_self
    have h4 : (if m < x then x else m) = x ∨ (if m < x then x else m) = m := by split <;> simp
    have h5 : m ≤ (if m < x then x else m) ∧ x ≤ (if m < x then x else m) := by split <;> omega
    generalize (if m < x then x else m) = k at h1 h2 h3 h4 h5 ⊢
    refine ⟨?_, fun y hy => ?_⟩
    · rcases List.mem_cons.mp h1 with e | h1
      · rw [e]; rcases h4 with h4 | h4 <;> simp [h4]
      · exact List.mem_cons_of_mem _ (List.mem_cons_of_mem _ h1)
    · rcases List.mem_cons.mp hy with e | hy
      · rw [e]; omega
      · rcases List.mem_cons.mp hy with e | hy
        · rw [e]; omega
        · exact h2 y (List.mem_cons_of_mem _ hy)
def gMinL : List D → M D := fun ds μ => match ds with
  | [x] => match (asLst μ x).bind intsOf with
    | some (n :: ns) => .ok (.int (minL n ns)) μ
    | _ => .bad
  | _ => .bad
def gMaxL : List D → M D := fun ds μ => match ds with
  | [x] => match (asLst μ x).bind intsOf with
    | some (n :: ns) => .ok (.int (maxL n ns)) μ
    | _ => .bad
  | _ => .bad
theorem v_minL (K : PySem.W.Frag) : VCall K (rMin K) gMinL := by
  intro H w xs ds Q E wf r h
  cases r with
  | nil => exact h.elim
  | cons r1 r2 =>
    rename_i v vs d ds
    cases r2 with
    | cons _ _ => exact h.elim
    | nil =>
      simp only [gMinL] at h
      split at h
      · rename_i n ns e1
        obtain ⟨zs, h1, h2⟩ := Option.bind_eq_some_iff.mp e1
        obtain ⟨a, us, rfl, hs, rr⟩ := asLst_ok wf r1 h1
        have ev := intsOf_rep rr h2
        subst ev
        obtain ⟨m1, m2⟩ := minL_is ns n
        refine ⟨a, n :: ns, rfl, SqL.of hs, by simp, fun m hm hy => ?_⟩
        have e : m = minL n ns := Int.le_antisymm (hy _ m1) (m2 m hm)
        rw [e]
        exact post_ret h wf _ (.int _)
      · exact h.elim
theorem v_maxL (K : PySem.W.Frag) : VCall K (rMax K) gMaxL := by
  intro H w xs ds Q E wf r h
  cases r with
  | nil => exact h.elim
  | cons r1 r2 =>
    rename_i v vs d ds
    cases r2 with
    | cons _ _ => exact h.elim
    | nil =>
      simp only [gMaxL] at h
      split at h
      · rename_i n ns e1
        obtain ⟨zs, h1, h2⟩ := Option.bind_eq_some_iff.mp e1
        obtain ⟨a, us, rfl, hs, rr⟩ := asLst_ok wf r1 h1
        have ev := intsOf_rep rr h2
        subst ev
        obtain ⟨m1, m2⟩ := maxL_is ns n
        refine ⟨a, n :: ns, rfl, SqL.of hs, by simp, fun m hm hy => ?_⟩
        have e : m = maxL n ns := Int.le_antisymm (m2 m hm) (hy _ m1)
        rw [e]
        exact post_ret h wf _ (.int _)
      · exact h.elim
theorem wMinL {X : Cx} (hc : X.calm = true) : BltW X "min" gMinL := ⟨.inl ⟨_, _, cr_min hc, v_minL _, bb_min⟩⟩
theorem wMaxL {X : Cx} (hc : X.calm = true) : BltW X "max" gMaxL := ⟨.inl ⟨_, _, cr_max hc, v_maxL _, bb_max⟩⟩
end DL
namespace L2
open PySem PySem.Spec PyProof.Rows
theorem Room.u1 {k : Nat} {A : Around} (r : Room k A) : A.units + 1 < cLine := by have := r.un; omega
end L2
namespace DL
open PySem PySem.Spec PyProof.Rows L2
variable [WC]
/-! ### sorted(t), t a tuple of ints -/
def rSortTI (K : PySem.W.Frag) : List V → Hp → VK → Prop := fun vs H Q => ∃ (a : Addr) (ns : List Int), vs = [.ref a] ∧ SqT K H a (ns.map V.int) ∧ ns.length ≤ 4000 ∧
  ∀ (q : Addr) (L : List Int), H q = none → L.Perm ns → L.Pairwise (· ≤ ·) → Q (.ref q) (upd H q (.lst (L.map V.int)))
theorem call_sortedTI {X : Cx} : CallR X (.builtin "sorted") (rSortTI X.K) := by
  intro pins s σ H vs us Q I r h
  obtain ⟨a, ns, rfl, hs, few, q2⟩ := h
  cases r with
  | cons r1 r2 =>
    cases r2
    cases r1
    obtain ⟨its, rv, pt, hz⟩ := I.tuple hs
    have hi : IntsAre its.toArray.toList ns := ints_of_vals rv
    have hle : its.toArray.size = ns.length := by
      have q := IntsAre.length hi
      rw [Array.length_toList] at q
      exact q
    obtain ⟨o, ho, hc, n, hd⟩ := id pt
    refine Calls.call_function_entry kind_sorted plain_sorted entry_sorted (args_sorted1 _) ?_
    unfold Builtin.«sorted»
    refine wpAny_bind (m := checkCount "sorted" 1 1 _) (wpAny_pure ?_)
    refine wpAny_bind (wpAny_collect_seq a (.inr rfl) ho hc hd (fun h1 k1 => ?_) (by rw [hle, sizeLine_eq]; omega))
    refine wpAny_bind (wpAny_newList ?_ (by rw [Array.length_toList, hle, sizeLine_eq]; omega))
    have hoL : (h1.push (seqObj "list" its.toArray.toList.toArray 0)).get? h1.objs.size = some (seqObj "list" its.toArray.toList.toArray 0) := Heap.get?_push_size _ rfl
    refine wpAny_bind (wpAny_holding (wpAny_call_entry slot_list_sort ⟨_, hoL, rfl⟩ entry_list_sort (list_sort_treeAny hoL hi (by rw [Array.length_toList, hle, sizeLine_eq]; omega) fun out L a1 a2 a3 => ⟨_, rfl, ?_⟩) (args_list_sort _)))
    obtain ⟨c, hc2⟩ := sortedHeap_at (vs := its.toArray.toList) (out := out) hoL
    have I1 : Inv X pins σ H { s with heap := h1, toks := s.toks } := I.kept k1
    have lz : (L.map V.int).length ≤ sizeLine := by rw [List.length_map, a2.length_eq, sizeLine_eq]; omega
    refine wpAny_pure ⟨_, rfl, .ref h1.objs.size, _, I1.laid (t' := s.toks) (o := .lst (L.map V.int)) (fun b u e => ?_) (Nat.le_refl _) ⟨lz, out.toList, c, ?_, hc2⟩, rfl, q2 _ L (I1.hok.fresh (Nat.le_refl _)) a2 a3⟩
    · have lt := Heap.lt_size e
      show (sortedHeap (h1.push (seqObj "list" its.toArray.toList.toArray 0)) h1.objs.size its.toArray.toList out).get? b = some u
      rw [sortedHeap_old (Nat.ne_of_lt lt) (by rw [size_push']; exact Nat.lt_succ_of_lt lt)]
      exact Heap.get?_push_of_some _ e
    · have main : ∀ {us : List Value} {L : List Int}, IntsAre us L → Vals (L.map V.int) us := fun r => vals_ints r
      exact main a1
def sortI (ns : List Int) : List Int := ns.mergeSort fun a b => decide (a ≤ b)
theorem sortI_pw (ns : List Int) : (sortI ns).Pairwise (· ≤ ·) := by
  have := List.pairwise_mergeSort (le := fun a b : Int => decide (a ≤ b)) (fun a b c h1 h2 => by simp only [decide_eq_true_eq] at *; omega) (fun a b => by
    simp only [Bool.or_eq_true, decide_eq_true_eq]; omega) ns
  exact this.imp fun h => by simpa using h
theorem sortI_perm (ns : List Int) : (sortI ns).Perm ns := List.mergeSort_perm _ _
def gSortedTI : List D → M D := fun ds μ => match ds with
  | [x] => match (asTup x).bind intsOf with
    | some ns => if Nat.ble ns.length 4000 = true then .ok (.lst ((sortI ns).map .int)) μ else .bad
    | none => .bad
  | _ => .bad
theorem v_sortTI (K : PySem.W.Frag) : VCall K (rSortTI K) gSortedTI := by
  intro H w xs ds Q E wf r h
  cases r with
  | nil => exact h.elim
  | cons r1 r2 =>
    rename_i v vs d ds
    cases r2 with
    | cons _ _ => exact h.elim
    | nil =>
      simp only [gSortedTI] at h
      split at h
      · rename_i ns e1
        split at h
        · rename_i hz
          rw [Nat.ble_eq] at hz
          obtain ⟨zs, h1, h2⟩ := Option.bind_eq_some_iff.mp e1
          obtain ⟨a, us, rfl, hs, rr⟩ := asTup_ok wf r1 h1
          have ev := intsOf_rep rr h2
          subst ev
          refine ⟨a, ns, rfl, hs, hz, fun q L hq pm pw => ?_⟩
          have e : L = sortI ns := (pm.trans (sortI_perm ns).symm).eq_of_pairwise (le := fun a b => a ≤ b) (fun a b _ _ h1 h2 => Int.le_antisymm h1 h2) pw (sortI_pw ns)
          rw [e]
          refine post_lst h wf hq ?_
          generalize sortI ns = M
          induction M with
          | nil => exact .nil
          | cons k M ih => exact .cons (.int k) ih
        · exact h.elim
      · exact h.elim
theorem wSortedTI {X : Cx} : BltW X "sorted" gSortedTI := ⟨.inl ⟨_, _, call_sortedTI, v_sortTI _, bb_sorted⟩⟩
end DL
namespace Hd
open PySem PySem.Spec PyProof.Rows L2
def top (i : Nat) : Stmt := PySem.Challenge.pw_hatnames_k01_rules_kinds_and_outcomes_re.main.body.getD i (.Pass ⟨0, 0, 0, 0⟩)
end Hd
namespace Lw
open PySem PySem.Spec PyProof.Rows L2 DL
def m__law_let : List D → M D := pureM (defM 2 6 ((sSeq (sPar 3 4 (eLst true aNil) (eCall gLen (aCons (eVar 1) aNil)))
    (sSeq (sFor (iRange1 (eCall gLen (aCons (eBin gIx (eVar 0) (eC (.int 0))) aNil))) (gVar 2) (sIf (tAndM (tOf (eBin (gIn true) (eVar 2) (eVar 1))) (tOf (eBin (gIn true) (eVar 2) (eBin gIx (eBin gIx (eVar 0) (eC (.int 0))) (eVar 4))))) (sSeq (sSet 5 (eOr (eBin (gEq false) (eVar 2) (eVar 4)) (eAnd (eBin gLt (eVar 2) (eVar 4)) (eBin (gEq false) (eBin gIx (eVar 1) (eVar 2)) (eVar 4)))))
    (sIf (tNotM (tAndM (tTru (eBin gIx (eVar 0) (eC (.int 1)))) (tTru (eVar 5)))) (sExp (eMth (gMut hAppend) (eVar 3) (aCons (eVar 2) aNil))) sNil)) sNil))
    (sRet (eVar 3))))))
def m__law_drawn : List D → M D := pureM (defM 3 9 ((sSeq (sAsg (gTupl 4 (gsCons (gVar 5) (gsCons (gVar 6) (gsCons (gVar 7) (gsCons (gVar 8) gsNil))))) (eVar 1))
    (sSeq (sIf (tOf (eBin (gEq false) (eCall gLen (aCons (eVar 5) aNil)) (eCall gLen (aCons (eBin gIx (eVar 0) (eC (.int 0))) aNil)))) (sRet (eTup (aCons (eC .non) (aCons (eC (.str "over")) aNil)))) sNil)
    (sSeq (sIf (tOrM (tNotM (tOf (eCall gIsi (aCons (eVar 2) (aCons (eC (.raw (.ty "int"))) aNil))))) (tOrM (tOf (eCall gIsi (aCons (eVar 2) (aCons (eC (.raw (.ty "bool"))) aNil)))) (tOrM (tOf (eBin (gIn false) (eVar 2) (eVar 5))) (tNotM (tOf (eChain gLe gLt (eC (.int 0)) (eVar 2) (eCall gLen (aCons (eBin gIx (eVar 0) (eC (.int 0))) aNil)))))))) (sRet (eTup (aCons (eC .non) (aCons (eC (.str "name")) aNil)))) sNil)
    (sSeq (sSet 3 (eCall m__law_let (aCons (eVar 0) (aCons (eVar 5) aNil))))
    (sSeq (sIf (tOf (eBin (gEq false) (eVar 3) (eLst false aNil))) (sRet (eTup (aCons (eC .non) (aCons (eC (.str "stuck")) aNil)))) sNil)
    (sSeq (sSet 4 (eBin (gAdd false) (eBin (gAdd false) (eBin (gAdd false) (eCall gStrI (aCons (eCall gLen (aCons (eVar 5) aNil)) aNil)) (eC (.str " "))) (eCall gStrI (aCons (eVar 2) aNil))) (eC (.str " "))))
    (sSeq (sIf (tOf (eBin (gIn false) (eVar 2) (eVar 3))) (sRet (eTup (aCons (eTup (aCons (eBin (gAdd false) (eVar 5) (eTup (aCons (eVar 2) aNil))) (aCons (eVar 6) (aCons (eBin (gAdd false) (eVar 7) (eC (.int 1))) (aCons (eBin (gAdd false) (eVar 8) (eTup (aCons (eBin (gAdd false) (eVar 4) (eC (.str "keeps"))) aNil))) aNil))))) (aCons (eC (.str "keeps")) aNil)))) sNil)
    (sSeq (sIf (tOf (eBin (gEq false) (eBin gIx (eVar 0) (eC (.int 2))) (eC (.str "anew")))) (sRet (eTup (aCons (eTup (aCons (eTup aNil) (aCons (eBin (gAdd false) (eVar 6) (eC (.int 1))) (aCons (eBin (gAdd false) (eVar 7) (eC (.int 1))) (aCons (eBin (gAdd false) (eVar 8) (eTup (aCons (eBin (gAdd false) (eVar 4) (eC (.str "anew"))) aNil))) aNil))))) (aCons (eC (.str "anew")) aNil)))) sNil)
    (sRet (eTup (aCons (eTup (aCons (eVar 5) (aCons (eVar 6) (aCons (eBin (gAdd false) (eVar 7) (eC (.int 1))) (aCons (eBin (gAdd false) (eVar 8) (eTup (aCons (eBin (gAdd false) (eVar 4) (eC (.str "back"))) aNil))) aNil))))) (aCons (eC (.str "back")) aNil))))))))))))))
def m__law_all_drawn : List D → M D := pureM (defM 3 6 ((sSeq (sIf (tNotM (tOf (eCall gIsi (aCons (eVar 2) (aCons (eC (.raw (.ty "tuple"))) aNil))))) (sRet (eC (.str "name"))) sNil)
    (sSeq (sFor (iSeq (eVar 2)) (gVar 3) (sSeq (sAsg (gTupl 2 (gsCons (gVar 4) (gsCons (gVar 5) gsNil))) (eCall m__law_drawn (aCons (eVar 0) (aCons (eVar 1) (aCons (eVar 3) aNil)))))
    (sSeq (sIf (tOf (eBin (gIsN false) (eVar 4) (eC .non))) (sRet (eVar 5)) sNil)
    (sSet 1 (eVar 4)))))
    (sRet (eVar 1))))))
def m__law_pairs : List D → M D := pureM (defM 2 11 ((sSeq (sPar 3 4 (eLst true aNil) (eCall gLen (aCons (eVar 1) aNil)))
    (sSeq (sFor (iRange1 (eVar 4)) (gVar 2) (sFor (iRange1 (eCall gLen (aCons (eBin gIx (eVar 0) (eC (.int 0))) aNil))) (gVar 5) (sSeq (sSet 6 (eBin (gAdd true) (eCall (gList false) (aCons (eVar 1) aNil)) (eLst false (aCons (eBin gIx (eVar 1) (eVar 2)) aNil))))
    (sSeq (sPut (eVar 6) (eVar 2) (eVar 5))
    (sSeq (sSet 7 (eAnd (eBin (gIn true) (eVar 5) (eVar 1)) (eBin (gIn true) (eVar 5) (eBin gIx (eBin gIx (eVar 0) (eC (.int 0))) (eVar 2)))))
    (sSeq (sSet 7 (eAnd (eVar 7) (eBin (gIn true) (eBin gIx (eVar 1) (eVar 2)) (eBin gIx (eBin gIx (eVar 0) (eC (.int 0))) (eVar 4)))))
    (sSeq (sFor (iRange1 (eBin (gAdd false) (eVar 4) (eC (.int 1)))) (gVar 8) (sSeq (sSet 9 (eBin gIx (eVar 6) (eVar 8)))
    (sSeq (sSet 10 (eOr (eBin (gEq false) (eVar 9) (eVar 8)) (eAnd (eBin gLe (eVar 9) (eVar 4)) (eBin (gEq false) (eBin gIx (eVar 6) (eVar 9)) (eVar 8)))))
    (sSet 7 (eAnd (eVar 7) (eNot (eAnd (eBin gIx (eVar 0) (eC (.int 1))) (eVar 10))))))))
    (sIf (tTru (eVar 7)) (sExp (eMth (gMut hAppend) (eVar 3) (aCons (eTup (aCons (eVar 2) (aCons (eVar 5) aNil))) aNil))) sNil))))))))
    (sRet (eVar 3))))))
def m__law_anew_due : List D → M D := pureM (defM 2 7 ((sSeq (sAsg (gTupl 4 (gsCons (gVar 3) (gsCons (gVar 4) (gsCons (gVar 5) (gsCons (gVar 6) gsNil))))) (eVar 1))
    (sSeq (sSet 2 (eBin (gEq false) (eCall gLen (aCons (eVar 3) aNil)) (eCall gLen (aCons (eBin gIx (eVar 0) (eC (.int 0))) aNil))))
    (sSeq (sIf (tOrM (tTru (eVar 2)) (tOrM (tOf (eBin (gEq true) (eCall m__law_let (aCons (eVar 0) (aCons (eVar 3) aNil))) (eLst false aNil))) (tAndM (tOf (eBin (gEq false) (eBin gIx (eVar 0) (eC (.int 2))) (eC (.str "swap")))) (tOf (eBin (gEq true) (eCall m__law_pairs (aCons (eVar 0) (aCons (eVar 3) aNil))) (eLst false aNil)))))) (sRet (eTup (aCons (eC .non) (aCons (eC (.str "going")) aNil)))) sNil)
    (sRet (eTup (aCons (eTup (aCons (eTup aNil) (aCons (eBin (gAdd false) (eVar 4) (eC (.int 1))) (aCons (eVar 5) (aCons (eBin (gAdd false) (eVar 6) (eTup (aCons (eC (.str "anew")) aNil))) aNil))))) (aCons (eC .non) aNil)))))))))
def m__law_take : List D → M D := defM 2 4 ((sSeq (sIf (tOf (eBin gGt (eBin gIx (eVar 0) (eC (.int 0))) (eC (.int 0)))) (sSeq (sSet 3 (eBin gMod (eCall gInt1 (aCons (eBin gIx (eVar 0) (eC (.int 0))) aNil)) (eVar 1)))
    (sSeq (sPut (eVar 0) (eC (.int 0)) (eBin gDiv (eCall gInt1 (aCons (eBin gIx (eVar 0) (eC (.int 0))) aNil)) (eVar 1)))
    (sRet (eVar 3)))) sNil)
    (sSeq (sPut (eVar 0) (eC (.int 1)) (eBin gMod (eCall gInt1 (aCons (eBin (gAdd false) (eBin gMulI (eBin gIx (eVar 0) (eC (.int 1))) (eC (.int 40692))) (eC (.int 401))) aNil)) (eC (.int 2147483269))))
    (sSeq (sSet 2 (eBin gMod (eBin gMulI (eCall gInt1 (aCons (eBin gIx (eVar 0) (eC (.int 1))) aNil)) (eBin (gAdd false) (eBin gDiv (eCall gInt1 (aCons (eBin gIx (eVar 0) (eC (.int 1))) aNil)) (eC (.int 13))) (eC (.int 31)))) (eC (.int 2147483249))))
    (sRet (eBin gMod (eCall gInt1 (aCons (eBin gDiv (eCall gInt1 (aCons (eVar 2) aNil)) (eC (.int 17))) aNil)) (eVar 1)))))))
def m__law_of : List D → M D := defM 2 2 ((sRet (eBin gIx (eVar 1) (eCall m__law_take (aCons (eVar 0) (aCons (eCall gLen (aCons (eVar 1) aNil)) aNil))))))
def f__law_any_value : Nat → List D → M D
  | 0 => fun _ _ => .bad
  | r + 1 => defM 2 6 ((sSeq (sSet 2 (eCall m__law_take (aCons (eVar 0) (aCons (eC (.int 8)) aNil))))
    (sSeq (sIf (tOrM (tOf (eBin gLt (eVar 2) (eC (.int 5)))) (tOf (eBin (gEq false) (eVar 1) (eC (.int 0))))) (sSeq (sSet 4 (eLst false (aCons (eC (.int 0)) (aCons (eUn gNeg (eC (.int 1))) (aCons (eC (.int 1)) (aCons (eC (.int 2)) (aCons (eC (.int 5)) (aCons (eC (.int 6)) (aCons (eC (.int 7)) (aCons (eC (.bl true)) (aCons (eC (.bl false)) (aCons (eC .non) (aCons (eC (.str "")) (aCons (eC (.str "again")) (aCons (eC (.str "swap")) (aCons (eC (.str "own")) (aCons (eC (.str "mutual")) (aCons (eBin gPow (eC (.int 10)) (eC (.int 30))) aNil))))))))))))))))))
    (sRet (eCall m__law_of (aCons (eVar 0) (aCons (eBin (gAdd false) (eVar 4) (eLst false (aCons (eTup aNil) (aCons (eLst false aNil) (aCons (eTup (aCons (eC (.int 0)) aNil)) (aCons (eTup (aCons (eC (.int 0)) (aCons (eC (.int 1)) aNil))) (aCons (eTup (aCons (eC (.int 1)) (aCons (eC (.int 0)) aNil))) (aCons (eTup (aCons (eC (.str "own")) aNil)) (aCons (eTup (aCons (eTup aNil) (aCons (eTup aNil) aNil))) aNil))))))))) aNil))))) sNil)
    (sSeq (sSet 3 (eLc false (iRange1 (eCall m__law_take (aCons (eVar 0) (aCons (eC (.int 5)) aNil)))) (gVar 5) tYesM (eCall (f__law_any_value r) (aCons (eVar 0) (aCons (eBin gSub (eVar 1) (eC (.int 1))) aNil))) [5]))
    (sRet (eBin gIx (eLst false (aCons (eVar 3) (aCons (eCall gTuple (aCons (eVar 3) aNil)) (aCons (eCall gTuple (aCons (eVar 3) aNil)) aNil)))) (eBin gSub (eVar 2) (eC (.int 5)))))))))
def m__law_any_value : List D → M D := f__law_any_value 3
def m__law_bag : List D → M D := defM 2 3 ((sSeq (sSet 2 (eIf (tOf (eBin gLt (eVar 1) (eCall gLen (aCons (eVar 0) aNil)))) (eCall gAbs (aCons (eCall gInt1 (aCons (eBin gIx (eVar 0) (eVar 1)) aNil)) aNil)) (eBin (gAdd false) (eBin gMulI (eC (.int 61)) (eVar 1)) (eC (.int 23)))))
    (sRet (eLst true (aCons (eIf (tOf (eBin gGe (eVar 2) (eBin gPow (eC (.int 10)) (eC (.int 18))))) (eVar 2) (eC (.int 0))) (aCons (eBin gMod (eCall gInt1 (aCons (eBin (gAdd false) (eBin (gAdd false) (eBin gMod (eCall gInt1 (aCons (eVar 2) aNil)) (eC (.int 2147483269))) (eBin gMulI (eC (.int 90011)) (eVar 1))) (eC (.int 47))) aNil)) (eC (.int 2147483269))) aNil))))))
def m__law_barred : List D → M D := pureM (defM 3 7 ((sSeq (sSet 3 (eKDisp [((eC (.str "own")), (eVar 2)), ((eC (.str "next")), (eIf (tOf (eBin gLt (eBin (gAdd false) (eVar 2) (eC (.int 1))) (eVar 1))) (eBin (gAdd false) (eVar 2) (eC (.int 1))) (eC (.int 0)))), ((eC (.str "partner")), (eBin gSub (eVar 2) (eC (.int 1))))]))
    (sSeq (sPutK (eVar 3) (eC (.str "before")) (eIf (tOf (eBin (gEq false) (eVar 2) (eC (.int 0)))) (eBin gSub (eVar 1) (eC (.int 1))) (eBin gSub (eVar 2) (eC (.int 1)))))
    (sSeq (sIf (tOf (eBin (gEq false) (eBin gMod (eVar 2) (eC (.int 2))) (eC (.int 0)))) (sPutK (eVar 3) (eC (.str "partner")) (eBin (gAdd false) (eVar 2) (eC (.int 1)))) sNil)
    (sSeq (sSet 4 (eLc false (iSeq (eVar 0)) (gVar 5) (tOf (eBin (gEq true) (eVar 5) (eC (.str "mutual")))) (eBin gIxK (eVar 3) (eVar 5)) [5]))
    (sRet (eCall gTuple (aCons (eSortSetZ (eLc false (iSeq (eVar 4)) (gVar 6) (tOf (eBin gLt (eVar 6) (eVar 1))) (eVar 6) [6])) aNil)))))))))
def m__law_bars : List D → M D := defM 2 7 ((sSeq (sPar 3 4 (eCall m__law_take (aCons (eVar 0) (aCons (eC (.int 4)) aNil))) (eTup aNil))
    (sSeq (sFor (iRange1 (eVar 1)) (gVar 2) (sSeq (sSet 5 (eIf (tOf (eBin gLt (eVar 3) (eC (.int 2)))) (eLst false (aCons (eVar 2) aNil)) (eLst false aNil)))
    (sSeq (sFor (iRange1 (eVar 1)) (gVar 6) (sIf (tAndM (tOf (eBin (gIn true) (eVar 6) (eVar 5))) (tOf (eBin (gEq false) (eCall m__law_take (aCons (eVar 0) (aCons (eIf (tOf (eBin (gEq true) (eVar 3) (eC (.int 1)))) (eC (.int 4)) (eC (.int 7))) aNil))) (eC (.int 0))))) (sSet 5 (eBin (gAdd false) (eVar 5) (eLst false (aCons (eVar 6) aNil)))) sNil))
    (sSet 4 (eBin (gAdd false) (eVar 4) (eTup (aCons (eCall gTuple (aCons (eCall gSorted (aCons (eVar 5) aNil)) aNil)) aNil)))))))
    (sRet (eVar 4)))))
def m__law_turned : List D → M D := pureM (defM 2 6 ((sSeq (sAsg (gTupl 2 (gsCons (gVar 3) (gsCons (gVar 4) gsNil))) (eVar 1))
    (sSeq (sSet 2 (eLc false (iRange1 (eCall gLen (aCons (eBin gIx (eVar 0) (eC (.int 0))) aNil))) (gVar 5) (tOf (eBin (gEq true) (eBin (gIn false) (eVar 5) (eBin gIx (eBin gIx (eVar 0) (eC (.int 0))) (eVar 3))) (eBin (gEq false) (eVar 5) (eVar 4)))) (eVar 5) [5]))
    (sRet (eTup (aCons (eBin (gAdd false) (eBin (gAdd false) (eSl (eBin gIx (eVar 0) (eC (.int 0))) oNone (oSome (eVar 3))) (eTup (aCons (eCall gTuple (aCons (eVar 2) aNil)) aNil))) (eSl (eBin gIx (eVar 0) (eC (.int 0))) (oSome (eBin (gAdd false) (eVar 3) (eC (.int 1)))) oNone)) (aCons (eBin gIx (eVar 0) (eC (.int 1))) (aCons (eBin gIx (eVar 0) (eC (.int 2))) aNil)))))))))
def m__law_text : List D → M D := pureM (defM 1 4 ((sSeq (sSet 1 (eLst true (aCons (eBin (gAdd false) (eBin gIx (eVar 0) (eC (.int 2))) (eIf (tTru (eBin gIx (eVar 0) (eC (.int 1)))) (eC (.str " mutual")) (eC (.str "")))) aNil)))
    (sSeq (sFor (iSeq (eBin gIx (eVar 0) (eC (.int 0)))) (gVar 2) (sExp (eMth (gMut hAppend) (eVar 1) (aCons (eIf (tOf (eBin (gEq true) (eVar 2) (eTup aNil))) (eStrM gJoin (eC (.str ",")) (eLc false (iSeq (eVar 2)) (gVar 3) tYesM (eCall gStrI (aCons (eVar 3) aNil)) [3])) (eC (.str "free"))) aNil))))
    (sRet (eStrM gJoin (eC (.str "\n")) (eVar 1)))))))
def m__law_begin : List D → M D := pureM (defM 0 0 ((sRet (eTup (aCons (eTup aNil) (aCons (eC (.int 1)) (aCons (eC (.int 0)) (aCons (eTup aNil) aNil))))))))
def m__law_bent_text : List D → M D := defM 2 7 ((sSeq (sPar 3 4 (eCall m__law_take (aCons (eVar 0) (aCons (eC (.int 7)) aNil))) (eStrM (gSplit false) (eVar 1) (eC (.str "\n"))))
    (sSeq (sPar 5 6 (eCall m__law_take (aCons (eVar 0) (aCons (eBin (gAdd false) (eCall gLen (aCons (eVar 1) aNil)) (eC (.int 1))) aNil))) (eCall m__law_take (aCons (eVar 0) (aCons (eCall gLen (aCons (eVar 4) aNil)) aNil))))
    (sSeq (sSet 2 (eCall m__law_of (aCons (eVar 0) (aCons (eLst false (aCons (eC (.str "")) (aCons (eC (.str "free")) (aCons (eC (.str "0,1")) (aCons (eC (.str "1,0")) (aCons (eC (.str "5")) (aCons (eC (.str "6")) (aCons (eC (.str "swap")) (aCons (eC (.str "anew mutual")) (aCons (eC (.str "again ")) (aCons (eC (.str "0,")) (aCons (eC (.str "1,1")) (aCons (eC (.str "mutual")) aNil))))))))))))) aNil))))
    (sSeq (sIf (tOf (eBin (gEq false) (eVar 3) (eC (.int 0)))) (sRet (eBin (gAdd false) (eBin (gAdd false) (eSl (eVar 1) oNone (oSome (eVar 5))) (eCall m__law_of (aCons (eVar 0) (aCons (eLst false (aCons (eC (.str " ")) (aCons (eC (.str "0")) (aCons (eC (.str ",")) (aCons (eC (.str "x")) (aCons (eC (.str "\n")) (aCons (eC (.str "3")) aNil))))))) aNil)))) (eSl (eVar 1) (oSome (eVar 5)) oNone))) sNil)
    (sSeq (sIf (tOf (eBin (gEq false) (eVar 3) (eC (.int 1)))) (sRet (eBin (gAdd false) (eSl (eVar 1) oNone (oSome (eVar 5))) (eSl (eVar 1) (oSome (eBin (gAdd false) (eVar 5) (eC (.int 1)))) oNone))) sNil)
    (sSeq (sIf (tOf (eBin (gEq false) (eVar 3) (eC (.int 2)))) (sRet (eStrM gJoin (eC (.str "\n")) (eBin (gAdd false) (eBin (gAdd false) (eSl (eVar 4) oNone (oSome (eVar 6))) (eLst false (aCons (eVar 2) aNil))) (eSl (eVar 4) (oSome (eVar 6)) oNone)))) sNil)
    (sSeq (sIf (tOf (eBin (gEq false) (eVar 3) (eC (.int 3)))) (sRet (eStrM gJoin (eC (.str "\n")) (eBin (gAdd false) (eBin (gAdd false) (eSl (eVar 4) oNone (oSome (eVar 6))) (eLst false (aCons (eVar 2) aNil))) (eSl (eVar 4) (oSome (eBin (gAdd false) (eVar 6) (eC (.int 1)))) oNone)))) sNil)
    (sSeq (sIf (tOf (eBin (gEq false) (eVar 3) (eC (.int 4)))) (sRet (eStrM gJoin (eC (.str "\n")) (eBin (gAdd false) (eSl (eVar 4) oNone (oSome (eVar 6))) (eSl (eVar 4) (oSome (eBin (gAdd false) (eVar 6) (eC (.int 1)))) oNone)))) sNil)
    (sRet (eIf (tOf (eBin (gEq false) (eVar 3) (eC (.int 5)))) (eStrM gJoin (eC (.str "\n")) (eRev (eVar 4) (oSome (eUn gNeg (eC (.int 1)))))) (eStrM gJoin (eC (.str "\n")) (eBin (gAdd false) (eVar 4) (eSl (eVar 4) (oSome (eC (.int 1))) oNone))))))))))))))
def m_is_ascending : List D → M D := pureM (defM 1 3 ((sRet (eCall gAll (aCons (eLc false (iZip (eVar 0) (eSl (eVar 0) (oSome (eC (.int 1))) oNone)) (gTupl 2 (gsCons (gVar 1) (gsCons (gVar 2) gsNil))) tYesM (eBin gLt (eVar 1) (eVar 2)) [1, 2]) aNil)))))
def m_is_number : List D → M D := pureM (defM 1 1 ((sRet (eAnd (eCall gIsi (aCons (eVar 0) (aCons (eC (.raw (.ty "int"))) aNil))) (eNot (eCall gIsi (aCons (eVar 0) (aCons (eC (.raw (.ty "bool"))) aNil))))))))
def m_is_from : List D → M D := pureM (defM 3 3 ((sRet (eAnd (eCall m_is_number (aCons (eVar 0) aNil)) (eChain gLe gLe (eVar 1) (eVar 0) (eVar 2))))))
def m_are_names : List D → M D := pureM (defM 2 3 ((sSeq (sIf (tOrM (tNotM (tOf (eCall gIsi (aCons (eVar 0) (aCons (eC (.raw (.ty "tuple"))) aNil))))) (tNotM (tOf (eCall gAll (aCons (eLc false (iSeq (eVar 0)) (gVar 2) tYesM (eCall m_is_from (aCons (eVar 2) (aCons (eC (.int 0)) (aCons (eBin gSub (eVar 1) (eC (.int 1))) aNil)))) [2]) aNil))))) (sRet (eC (.bl false))) sNil)
    (sRet (eCall m_is_ascending (aCons (eVar 0) aNil))))))
def m_is_rule : List D → M D := pureM (defM 1 2 ((sSeq (sIf (tOrM (tNotM (tOf (eCall gIsi (aCons (eVar 0) (aCons (eC (.raw (.ty "tuple"))) aNil))))) (tOrM (tOf (eBin (gEq true) (eCall gLen (aCons (eVar 0) aNil)) (eC (.int 3)))) (tNotM (tOf (eCall gIsi (aCons (eBin gIx (eVar 0) (eC (.int 0))) (aCons (eC (.raw (.ty "tuple"))) aNil))))))) (sRet (eC (.bl false))) sNil)
    (sSeq (sIf (tOrM (tNotM (tOf (eChain gLe gLe (eC (.int 2)) (eCall gLen (aCons (eBin gIx (eVar 0) (eC (.int 0))) aNil)) (eC (.int 6))))) (tNotM (tOf (eCall gAll (aCons (eLc false (iSeq (eBin gIx (eVar 0) (eC (.int 0)))) (gVar 1) tYesM (eCall m_are_names (aCons (eVar 1) (aCons (eCall gLen (aCons (eBin gIx (eVar 0) (eC (.int 0))) aNil)) aNil))) [1]) aNil))))) (sRet (eC (.bl false))) sNil)
    (sRet (eAnd (eCall gIsi (aCons (eBin gIx (eVar 0) (eC (.int 1))) (aCons (eC (.raw (.ty "bool"))) aNil))) (eAnd (eCall gIsi (aCons (eBin gIx (eVar 0) (eC (.int 2))) (aCons (eC (.raw (.ty "str"))) aNil))) (eBin (gIn false) (eBin gIx (eVar 0) (eC (.int 2))) (eC (.tup [.str "again", .str "anew", .str "swap"]))))))))))
def m_need_rule : List D → M D := pureM (defM 1 1 ((sIf (tNotM (tOf (eCall m_is_rule (aCons (eVar 0) aNil)))) sBad sNil)))
def m_are_different : List D → M D := pureM (defM 2 3 ((sSeq (sIf (tOrM (tNotM (tOf (eCall gIsi (aCons (eVar 0) (aCons (eC (.raw (.ty "tuple"))) aNil))))) (tNotM (tOf (eCall gAll (aCons (eLc false (iSeq (eVar 0)) (gVar 2) tYesM (eCall m_is_from (aCons (eVar 2) (aCons (eC (.int 0)) (aCons (eBin gSub (eVar 1) (eC (.int 1))) aNil)))) [2]) aNil))))) (sRet (eC (.bl false))) sNil)
    (sRet (eBin (gEq false) (eLenSet (eVar 0)) (eCall gLen (aCons (eVar 0) aNil)))))))
def m_is_outcome_for : List D → M D := pureM (defM 2 2 ((sRet (eAnd (eCall m_are_different (aCons (eVar 1) (aCons (eCall gLen (aCons (eBin gIx (eVar 0) (eC (.int 0))) aNil)) aNil))) (eBin (gEq false) (eCall gLen (aCons (eVar 1) aNil)) (eCall gLen (aCons (eBin gIx (eVar 0) (eC (.int 0))) aNil)))))))
def m_need_outcome : List D → M D := pureM (defM 2 2 ((sIf (tNotM (tOf (eCall m_is_outcome_for (aCons (eVar 0) (aCons (eVar 1) aNil))))) sBad sNil)))
def m_lengths_of : List D → M D := pureM (defM 1 5 ((sSeq (sPar 2 3 (eLst false aNil) (eLst false aNil))
    (sSeq (sFor (iRange1 (eCall gLen (aCons (eVar 0) aNil))) (gVar 1) (sSeq (sSet 4 (eC (.int 0)))
    (sSeq (sWhile (fun _ _ => 100000) (tOf (eBin (gIn true) (eVar 1) (eVar 3))) (sSeq (sSet 3 (eBin (gAdd false) (eVar 3) (eLst false (aCons (eVar 1) aNil))))
    (sPar 1 4 (eBin gIx (eVar 0) (eVar 1)) (eBin (gAdd false) (eVar 4) (eC (.int 1))))))
    (sSet 2 (eBin (gAdd false) (eVar 2) (eBin (gRep false) (eLst false (aCons (eVar 4) aNil)) (eCall gInt1 (aCons (eBin gGt (eVar 4) (eC (.int 0))) aNil))))))))
    (sRet (eCall gTuple (aCons (eCall gSorted (aCons (eLc false (iSeq (eVar 2)) (gVar 4) tYesM (eCall gInt1 (aCons (eVar 4) aNil)) [4]) aNil)) aNil)))))))
def m_lengths : List D → M D := pureM (defM 2 2 ((sSeq (sExp (eCall m_need_rule (aCons (eVar 0) aNil)))
    (sSeq (sExp (eCall m_need_outcome (aCons (eVar 0) (aCons (eVar 1) aNil))))
    (sRet (eCall m_lengths_of (aCons (eVar 1) aNil)))))))
def m_lowest : List D → M D := pureM (defM 2 4 ((sSeq (sPar 2 3 (eVar 1) (eVar 0))
    (sSeq (sWhile (fuelI 3) (tOf (eBin gGt (eVar 3) (eC (.int 0)))) (sPar 2 3 (eVar 3) (eBin gMod (eVar 2) (eVar 3))))
    (sRet (eTup (aCons (eBin gDiv (eVar 0) (eVar 2)) (aCons (eBin gDiv (eVar 1) (eVar 2)) aNil))))))))
def m_plus : List D → M D := pureM (defM 2 2 ((sRet (eCall m_lowest (aCons (eBin (gAdd false) (eBin gMulI (eBin gIx (eVar 0) (eC (.int 0))) (eBin gIx (eVar 1) (eC (.int 1)))) (eBin gMulI (eBin gIx (eVar 1) (eC (.int 0))) (eBin gIx (eVar 0) (eC (.int 1))))) (aCons (eBin gMulI (eBin gIx (eVar 0) (eC (.int 1))) (eBin gIx (eVar 1) (eC (.int 1)))) aNil))))))
def m_sum_of : List D → M D := pureM (defM 1 3 ((sSeq (sSet 1 (eC (.tup [.int 0, .int 1])))
    (sSeq (sFor (iSeq (eVar 0)) (gVar 2) (sSet 1 (eCall m_plus (aCons (eVar 1) (aCons (eVar 2) aNil)))))
    (sRet (eVar 1))))))
def m_times : List D → M D := pureM (defM 3 3 ((sRet (eCall m_lowest (aCons (eBin gMulI (eBin gIx (eVar 0) (eC (.int 0))) (eVar 1)) (aCons (eBin gMulI (eBin gIx (eVar 0) (eC (.int 1))) (eVar 2)) aNil))))))
def m_names_left : List D → M D := pureM (defM 2 3 ((sRet (eLc false (iSeq (eLR1 false (eCall gLen (aCons (eBin gIx (eVar 0) (eC (.int 0))) aNil)))) (gVar 2) (tOf (eBin (gIn true) (eVar 2) (eVar 1))) (eVar 2) [2]))))
def m_is_let : List D → M D := pureM (defM 4 4 ((sSeq (sIf (tOf (eBin (gIn false) (eVar 3) (eBin gIx (eBin gIx (eVar 0) (eC (.int 0))) (eVar 2)))) (sRet (eC (.bl false))) sNil)
    (sSeq (sIf (tNotM (tTru (eBin gIx (eVar 0) (eC (.int 1))))) (sRet (eC (.bl true))) sNil)
    (sRet (eAnd (eBin (gEq true) (eVar 3) (eVar 2)) (eOr (eBin gGe (eVar 3) (eCall gLen (aCons (eVar 1) aNil))) (eBin (gEq true) (eBin gIx (eVar 1) (eVar 3)) (eVar 2)))))))))
def m_all_let : List D → M D := pureM (defM 2 3 ((sRet (eLc false (iSeq (eCall m_names_left (aCons (eVar 0) (aCons (eVar 1) aNil)))) (gVar 2) (tOf (eCall m_is_let (aCons (eVar 0) (aCons (eVar 1) (aCons (eCall gLen (aCons (eVar 1) aNil)) (aCons (eVar 2) aNil)))))) (eVar 2) [2]))))
def m_is_sound : List D → M D := pureM (defM 2 4 ((sSeq (sIf (tNotM (tTru (eBin gIx (eVar 0) (eC (.int 1))))) (sRet (eC (.bl true))) sNil)
    (sSeq (sFor (iEnum1 (eVar 1)) (gTupl 2 (gsCons (gVar 2) (gsCons (gVar 3) gsNil))) (sIf (tOrM (tOf (eBin (gEq false) (eVar 3) (eVar 2))) (tAndM (tOf (eBin gLt (eVar 3) (eCall gLen (aCons (eVar 1) aNil)))) (tOf (eBin (gEq false) (eBin gIx (eVar 1) (eVar 3)) (eVar 2))))) (sRet (eC (.bl false))) sNil))
    (sRet (eC (.bl true)))))))
def m_with_name : List D → M D := pureM (defM 3 3 ((sRet (eBin (gAdd false) (eBin (gAdd false) (eSl (eVar 0) oNone (oSome (eVar 1))) (eTup (aCons (eVar 2) aNil))) (eSl (eVar 0) (oSome (eBin (gAdd false) (eVar 1) (eC (.int 1)))) oNone)))))
def m_exchanged : List D → M D := pureM (defM 3 3 ((sRet (eBin (gAdd false) (eCall m_with_name (aCons (eVar 0) (aCons (eVar 1) (aCons (eVar 2) aNil)))) (eTup (aCons (eBin gIx (eVar 0) (eVar 1)) aNil))))))
def m_can_exchange : List D → M D := pureM (defM 4 4 ((sSeq (sIf (tOrM (tOf (eBin (gIn false) (eBin gIx (eVar 1) (eVar 2)) (eBin gIx (eBin gIx (eVar 0) (eC (.int 0))) (eCall gLen (aCons (eVar 1) aNil))))) (tOf (eBin (gIn false) (eVar 3) (eBin gIx (eBin gIx (eVar 0) (eC (.int 0))) (eVar 2))))) (sRet (eC (.bl false))) sNil)
    (sRet (eCall m_is_sound (aCons (eVar 0) (aCons (eCall m_exchanged (aCons (eVar 1) (aCons (eVar 2) (aCons (eVar 3) aNil)))) aNil)))))))
def m_all_exchanges : List D → M D := pureM (defM 2 5 ((sSeq (sSet 2 (eLst false aNil))
    (sSeq (sFor (iRange1 (eCall gLen (aCons (eVar 1) aNil))) (gVar 3) (sFor (iSeq (eCall m_names_left (aCons (eVar 0) (aCons (eVar 1) aNil)))) (gVar 4) (sIf (tOf (eCall m_can_exchange (aCons (eVar 0) (aCons (eVar 1) (aCons (eVar 3) (aCons (eVar 4) aNil)))))) (sSet 2 (eBin (gAdd false) (eVar 2) (eLst false (aCons (eTup (aCons (eVar 3) (aCons (eVar 4) aNil))) aNil)))) sNil)))
    (sRet (eVar 2))))))
def m_steps_at : List D → M D := pureM (defM 3 11 ((sSeq (sAsg (gTupl 2 (gsCons (gVar 4) (gsCons (gVar 5) gsNil))) (eTup (aCons (eCall m_all_let (aCons (eVar 0) (aCons (eVar 1) aNil))) (aCons (eCall gLen (aCons (eCall m_names_left (aCons (eVar 0) (aCons (eVar 1) aNil))) aNil)) aNil))))
    (sSeq (sIf (tOf (eBin (gEq false) (eVar 4) (eLst false aNil))) (sSeq (sSet 6 (eIf (tOf (eBin (gEq false) (eBin gIx (eVar 0) (eC (.int 2))) (eC (.str "swap")))) (eCall m_all_exchanges (aCons (eVar 0) (aCons (eVar 1) aNil))) (eLst false aNil)))
    (sSeq (sSet 7 (eTup (aCons (eC (.int 1)) (aCons (eCall gLen (aCons (eVar 6) aNil)) aNil))))
    (sRet (eLc false (iSeq (eVar 6)) (gTupl 2 (gsCons (gVar 10) (gsCons (gVar 9) gsNil))) tYesM (eTup (aCons (eCall m_exchanged (aCons (eVar 1) (aCons (eVar 10) (aCons (eVar 9) aNil)))) (aCons (eIf (tTru (eVar 2)) (eVar 10) (eC (.str ""))) (aCons (eVar 7) aNil)))) [10, 9])))) sNil)
    (sSeq (sIf (tOf (eBin (gEq false) (eBin gIx (eVar 0) (eC (.int 2))) (eC (.str "anew")))) (sRet (eLc false (iSeq (eVar 4)) (gVar 9) tYesM (eTup (aCons (eBin (gAdd false) (eVar 1) (eTup (aCons (eVar 9) aNil))) (aCons (eIf (tTru (eVar 2)) (eC (.str "drew")) (eC (.str ""))) (aCons (eTup (aCons (eC (.int 1)) (aCons (eVar 5) aNil))) aNil)))) [9])) sNil)
    (sSeq (sIf (tNotM (tTru (eVar 2))) (sRet (eLc false (iSeq (eVar 4)) (gVar 9) tYesM (eTup (aCons (eBin (gAdd false) (eVar 1) (eTup (aCons (eVar 9) aNil))) (aCons (eC (.str "")) (aCons (eTup (aCons (eC (.int 1)) (aCons (eCall gLen (aCons (eVar 4) aNil)) aNil))) aNil)))) [9])) sNil)
    (sSeq (sSet 3 (eLc false (iSeq (eVar 4)) (gVar 9) tYesM (eTup (aCons (eBin (gAdd false) (eVar 1) (eTup (aCons (eVar 9) aNil))) (aCons (eC (.str "drew")) (aCons (eTup (aCons (eC (.int 1)) (aCons (eVar 5) aNil))) aNil)))) [9]))
    (sSeq (sIf (tOf (eBin gGt (eVar 5) (eCall gLen (aCons (eVar 4) aNil)))) (sSeq (sSet 8 (eCall m_lowest (aCons (eBin gSub (eVar 5) (eCall gLen (aCons (eVar 4) aNil))) (aCons (eBin gMulI (eVar 5) (eCall gLen (aCons (eVar 4) aNil))) aNil))))
    (sSet 3 (eBin (gAdd false) (eVar 3) (eLc false (iSeq (eVar 4)) (gVar 9) tYesM (eTup (aCons (eBin (gAdd false) (eVar 1) (eTup (aCons (eVar 9) aNil))) (aCons (eC (.str "back")) (aCons (eVar 8) aNil)))) [9])))) sNil)
    (sRet (eVar 3))))))))))
def m_lots_of : List D → M D := pureX (defM 2 12 ((sSeq (sSet 2 (eLst true (aCons (eDisp1 (eTup (aCons (eTup aNil) (aCons (eTup aNil) aNil))) (eTup (aCons (eC (.int 1)) (aCons (eC (.int 1)) aNil)))) aNil)))
    (sSeq (sFor (iRange1 (eCall gLenA (aCons (eBin gIxA (eVar 0) (eC (.int 0))) aNil))) (gVar 3) (sSeq (sSet 4 eDNew)
    (sSeq (sFor (iDct (eBin gIxA (eVar 2) (eUn gNeg (eC (.int 1))))) (gTupl 2 (gsCons (gVar 5) (gsCons (gVar 6) gsNil))) (sSeq (sSet 7 (eBin gIxA (eBin gIxA (eVar 2) (eUn gNeg (eC (.int 1)))) (eTup (aCons (eVar 5) (aCons (eVar 6) aNil)))))
    (sFor (iSeq (eCall m_steps_at (aCons (eVar 0) (aCons (eVar 5) (aCons (eVar 1) aNil))))) (gTupl 3 (gsCons (gVar 8) (gsCons (gVar 9) (gsCons (gVar 10) gsNil)))) (sSeq (sSet 11 (eTup (aCons (eVar 8) (aCons (eIf (tTru (eVar 1)) (eBin (gAdd false) (eVar 6) (eTup (aCons (eVar 9) aNil))) (eTup aNil)) aNil))))
    (sPutD (eVar 4) (eVar 11) (eCall m_plus (aCons (eGet (eVar 4) (eVar 11) (eC (.tup [.int 0, .int 1]))) (aCons (eCall m_times (aCons (eVar 7) (aCons (eBin gIxA (eVar 10) (eC (.int 0))) (aCons (eBin gIxA (eVar 10) (eC (.int 1))) aNil)))) aNil))))))))
    (sExp (eMth (gMut hAppend) (eVar 2) (aCons (eVar 4) aNil))))))
    (sRet (eVar 2))))))
def m_outcomes_of : List D → M D := pureX (defM 1 8 ((sSeq (sAsg (gTupl 2 (gsCons (gVar 2) (gsCons (gVar 3) gsNil))) (eTup (aCons (eBin gIxA (eCall m_lots_of (aCons (eVar 0) (aCons (eC (.bl false)) aNil))) (eUn gNeg (eC (.int 1)))) (aCons eDNew aNil))))
    (sSeq (sSet 1 (eCall m_sum_of (aCons (eLc false (iDct (eVar 2)) (gVar 7) tYesM (eBin gIxA (eVar 2) (eVar 7)) [7]) aNil)))
    (sSeq (sFor (iDct (eVar 2)) (gTupl 2 (gsCons (gVar 4) (gsCons (gVar 5) gsNil))) (sSeq (sSet 6 (eBin gIxA (eVar 2) (eTup (aCons (eVar 4) (aCons (eVar 5) aNil)))))
    (sPutD (eVar 3) (eVar 4) (eCall m_times (aCons (eVar 6) (aCons (eBin gIxA (eVar 1) (eC (.int 1))) (aCons (eBin gIxA (eVar 1) (eC (.int 0))) aNil)))))))
    (sRet (eVar 3)))))))
def m_share : List D → M D := pureM (defM 2 2 ((sSeq (sExp (eCall m_need_rule (aCons (eVar 0) aNil)))
    (sSeq (sExp (eCall m_need_outcome (aCons (eVar 0) (aCons (eVar 1) aNil))))
    (sRet (eGet (eCall m_outcomes_of (aCons (eVar 0) aNil)) (eVar 1) (eC (.tup [.int 0, .int 1]))))))))
def m_outcomes : List D → M D := pureM (defM 1 3 ((sSeq (sExp (eCall m_need_rule (aCons (eVar 0) aNil)))
    (sSeq (sSet 1 (eCall m_outcomes_of (aCons (eVar 0) aNil)))
    (sRet (eLc false (iSeq (eSortSetZ (eVar 1))) (gVar 2) tYesM (eTup (aCons (eVar 2) (aCons (eBin gIxA (eVar 1) (eVar 2)) aNil))) [2]))))))
def m_is_fair : List D → M D := pureM (defM 1 3 ((sSeq (sExp (eCall m_need_rule (aCons (eVar 0) aNil)))
    (sSeq (sSet 1 (eCall m_outcomes_of (aCons (eVar 0) aNil)))
    (sRet (eBin gLt (eLenSetA (eLc false (iDct (eVar 1)) (gVar 2) tYesM (eBin gIxA (eVar 1) (eVar 2)) [2])) (eC (.int 2))))))))
def m_is_less : List D → M D := pureM (defM 2 2 ((sRet (eBin gLt (eBin gMulI (eBin gIx (eVar 0) (eC (.int 0))) (eBin gIx (eVar 1) (eC (.int 1)))) (eBin gMulI (eBin gIx (eVar 1) (eC (.int 0))) (eBin gIx (eVar 0) (eC (.int 1))))))))
def m_rarest : List D → M D := pureM (defM 1 4 ((sSeq (sExp (eCall m_need_rule (aCons (eVar 0) aNil)))
    (sSeq (sSet 1 (eCall m_outcomes_of (aCons (eVar 0) aNil)))
    (sSeq (sIf (tOf (eBin (gEqA false) (eVar 1) eDNewF)) sBad sNil)
    (sSeq (sSet 2 (eTup (aCons (eC (.int 1)) (aCons (eC (.int 1)) aNil))))
    (sSeq (sFor (iDct (eVar 1)) (gVar 3) (sSet 2 (eIf (tOf (eCall m_is_less (aCons (eBin gIxA (eVar 1) (eVar 3)) (aCons (eVar 2) aNil)))) (eBin gIxA (eVar 1) (eVar 3)) (eVar 2))))
    (sRet (eSortSetZ (eLc false (iDct (eVar 1)) (gVar 3) (tOf (eBin (gEq false) (eBin gIxA (eVar 1) (eVar 3)) (eVar 2))) (eVar 3) [3]))))))))))
def m_first_stuck_share : List D → M D := pureM (defM 1 6 ((sSeq (sPar 2 3 (eCall m_lots_of (aCons (eBin (gAdd false) (eSl (eVar 0) oNone (oSome (eC (.int 2)))) (eTup (aCons (eIf (tOf (eBin (gEq false) (eBin gIxA (eVar 0) (eC (.int 2))) (eC (.str "anew")))) (eC (.str "anew")) (eC (.str "again"))) aNil))) (aCons (eC (.bl false)) aNil))) (eC (.tup [.int 0, .int 1])))
    (sSeq (sFor (iSeq (eSl (eVar 2) oNone (oSome (eUn gNeg (eC (.int 1)))))) (gVar 1) (sFor (iDct (eVar 1)) (gTupl 2 (gsCons (gVar 4) (gsCons (gVar 5) gsNil))) (sIf (tOf (eBin (gEq false) (eCall m_all_let (aCons (eVar 0) (aCons (eVar 4) aNil))) (eLst false aNil))) (sSet 3 (eCall m_plus (aCons (eVar 3) (aCons (eBin gIxA (eVar 1) (eTup (aCons (eVar 4) (aCons (eVar 5) aNil)))) aNil)))) sNil)))
    (sRet (eVar 3))))))
def m_stuck_share : List D → M D := pureM (defM 1 1 ((sSeq (sExp (eCall m_need_rule (aCons (eVar 0) aNil)))
    (sRet (eCall m_first_stuck_share (aCons (eVar 0) aNil))))))
def m_need_person : List D → M D := pureM (defM 2 2 ((sIf (tNotM (tOf (eCall m_is_from (aCons (eVar 1) (aCons (eC (.int 0)) (aCons (eBin gSub (eCall gLen (aCons (eBin gIx (eVar 0) (eC (.int 0))) aNil)) (eC (.int 1))) aNil)))))) sBad sNil)))
def m_first_stuck : List D → M D := pureM (defM 3 4 ((sSeq (sFor (iSeq (eBin gIx (eVar 1) (eVar 2))) (gVar 3) (sIf (tOf (eBin (gEq false) (eCall m_all_let (aCons (eVar 0) (aCons (eVar 3) aNil))) (eLst false aNil))) (sRet (eVar 3)) sNil))
    (sRet (eC .non)))))
def m_names_behind : List D → M D := pureM (defM 2 5 ((sSeq (sSet 2 (eCall m_all_let (aCons (eVar 0) (aCons (eVar 1) aNil))))
    (sSeq (sIf (tOf (eBin (gEq true) (eVar 2) (eLst false aNil))) (sRet (eLc false (iSeq (eVar 2)) (gVar 3) tYesM (eBin (gAdd false) (eVar 1) (eTup (aCons (eVar 3) aNil))) [3])) sNil)
    (sSeq (sIf (tOf (eBin (gEq true) (eBin gIx (eVar 0) (eC (.int 2))) (eC (.str "swap")))) (sRet (eLst false aNil)) sNil)
    (sRet (eLc false (iSeq (eCall m_all_exchanges (aCons (eVar 0) (aCons (eVar 1) aNil)))) (gTupl 2 (gsCons (gVar 4) (gsCons (gVar 3) gsNil))) tYesM (eCall m_exchanged (aCons (eVar 1) (aCons (eVar 4) (aCons (eVar 3) aNil)))) [4, 3])))))))
def m_turns_of : List D → M D := pureM (defM 1 5 ((sSeq (sSet 1 (eLst false (aCons (eLst false (aCons (eTup aNil) aNil)) aNil)))
    (sSeq (sFor (iRange1 (eCall gLen (aCons (eBin gIx (eVar 0) (eC (.int 0))) aNil))) (gVar 2) (sSeq (sSet 3 (eLst false aNil))
    (sSeq (sFor (iSeq (eBin gIx (eVar 1) (eUn gNeg (eC (.int 1))))) (gVar 4) (sSet 3 (eBin (gAdd false) (eVar 3) (eCall m_names_behind (aCons (eVar 0) (aCons (eVar 4) aNil))))))
    (sSet 1 (eBin (gAdd false) (eVar 1) (eLst false (aCons (eSortSetA (eVar 3)) aNil)))))))
    (sRet (eVar 1))))))
def m_stuck_row : List D → M D := pureM (defM 2 2 ((sSeq (sExp (eCall m_need_rule (aCons (eVar 0) aNil)))
    (sSeq (sExp (eCall m_need_person (aCons (eVar 0) (aCons (eVar 1) aNil))))
    (sRet (eCall m_first_stuck (aCons (eVar 0) (aCons (eCall m_turns_of (aCons (eVar 0) aNil)) (aCons (eVar 1) aNil)))))))))
def m_seen_lots : List D → M D := pureX (defM 2 7 ((sSeq (sPar 2 3 eDNew (eBin gIxA (eCall m_lots_of (aCons (eVar 0) (aCons (eC (.bl true)) aNil))) (eUn gNeg (eC (.int 1)))))
    (sSeq (sFor (iDct (eVar 3)) (gTupl 2 (gsCons (gVar 4) (gsCons (gVar 5) gsNil))) (sSeq (sSet 6 (eTup (aCons (eBin gIxA (eVar 4) (eVar 1)) (aCons (eVar 5) aNil))))
    (sSeq (sIf (tOf (eBin (gInA true) (eVar 6) (eVar 2))) (sPutD (eVar 2) (eVar 6) eDNew) sNil)
    (sPutD (eBin gIxA (eVar 2) (eVar 6)) (eVar 4) (eCall m_plus (aCons (eGet (eBin gIxA (eVar 2) (eVar 6)) (eVar 4) (eC (.tup [.int 0, .int 1]))) (aCons (eBin gIxA (eVar 3) (eTup (aCons (eVar 4) (aCons (eVar 5) aNil)))) aNil)))))))
    (sRet (eVar 2))))))
def m_knows_all : List D → M D := pureM (defM 2 4 ((sSeq (sExp (eCall m_need_rule (aCons (eVar 0) aNil)))
    (sSeq (sExp (eCall m_need_person (aCons (eVar 0) (aCons (eVar 1) aNil))))
    (sSeq (sSet 2 (eCall m_seen_lots (aCons (eVar 0) (aCons (eVar 1) aNil))))
    (sRet (eCall gAll (aCons (eLc false (iDct (eVar 2)) (gVar 3) tYesM (eBin (gEq false) (eCall gLenA (aCons (eBin gIxA (eVar 2) (eVar 3)) aNil)) (eC (.int 1))) [3]) aNil))))))))
def m_is_kind : List D → M D := pureM (defM 1 2 ((sSeq (sIf (tOrM (tNotM (tOf (eCall gIsi (aCons (eVar 0) (aCons (eC (.raw (.ty "tuple"))) aNil))))) (tOrM (tOf (eBin (gEq false) (eVar 0) (eTup aNil))) (tNotM (tOf (eCall gAll (aCons (eLc false (iSeq (eVar 0)) (gVar 1) tYesM (eCall gIsi (aCons (eVar 1) (aCons (eC (.raw (.ty "str"))) aNil))) [1]) aNil)))))) (sRet (eC (.bl false))) sNil)
    (sRet (eAnd (eCall gAll (aCons (eLc false (iSeq (eVar 0)) (gVar 1) tYesM (eBin (gIn false) (eVar 1) (eC (.tup [.str "before", .str "mutual", .str "next", .str "own", .str "partner"]))) [1]) aNil)) (eCall m_is_ascending (aCons (eVar 0) aNil)))))))
def m_need_kind : List D → M D := pureM (defM 1 1 ((sIf (tNotM (tOf (eCall m_is_kind (aCons (eVar 0) aNil)))) sBad sNil)))
def m_need_number : List D → M D := pureM (defM 1 1 ((sIf (tOrM (tNotM (tOf (eCall m_is_number (aCons (eVar 0) aNil)))) (tOf (eBin gLt (eVar 0) (eC (.int 2))))) sBad sNil)))
def m_barred_by : List D → M D := pureM (defM 3 5 ((sSeq (sSet 3 (eLst false aNil))
    (sSeq (sIf (tOf (eBin (gIn false) (eC (.str "own")) (eVar 0))) (sSet 3 (eBin (gAdd false) (eVar 3) (eLst false (aCons (eVar 2) aNil)))) sNil)
    (sSeq (sIf (tOf (eBin (gIn false) (eC (.str "next")) (eVar 0))) (sSet 3 (eBin (gAdd false) (eVar 3) (eLst false (aCons (eBin gMod (eBin (gAdd false) (eVar 2) (eC (.int 1))) (eVar 1)) aNil)))) sNil)
    (sSeq (sIf (tOf (eBin (gIn false) (eC (.str "before")) (eVar 0))) (sSet 3 (eBin (gAdd false) (eVar 3) (eLst false (aCons (eBin gMod (eBin gSub (eVar 2) (eC (.int 1))) (eVar 1)) aNil)))) sNil)
    (sSeq (sSet 4 (eBin gSub (eBin (gAdd false) (eVar 2) (eC (.int 1))) (eBin gMulI (eC (.int 2)) (eBin gMod (eVar 2) (eC (.int 2))))))
    (sSeq (sIf (tAndM (tOf (eBin (gIn false) (eC (.str "partner")) (eVar 0))) (tOf (eBin gLt (eVar 4) (eVar 1)))) (sSet 3 (eBin (gAdd false) (eVar 3) (eLst false (aCons (eVar 4) aNil)))) sNil)
    (sRet (eCall gTuple (aCons (eSortSetZ (eVar 3)) aNil)))))))))))
def m_rule_of : List D → M D := pureM (defM 2 3 ((sRet (eTup (aCons (eCall gTuple (aCons (eLc false (iSeq (eLR1 false (eVar 1))) (gVar 2) tYesM (eCall m_barred_by (aCons (eVar 0) (aCons (eVar 1) (aCons (eVar 2) aNil)))) [2]) aNil)) (aCons (eBin (gIn false) (eC (.str "mutual")) (eVar 0)) (aCons (eC (.str "again")) aNil)))))))
def m_is_stuck_with : List D → M D := pureM (defM 2 2 ((sRet (eAnd (eBin gLt (eCall gLen (aCons (eVar 1) aNil)) (eCall gLen (aCons (eBin gIx (eVar 0) (eC (.int 0))) aNil))) (eBin (gEq false) (eCall m_all_let (aCons (eVar 0) (aCons (eVar 1) aNil))) (eLst false aNil))))))
def m_draws_of : List D → M D := pureM (defM 1 10 ((sSeq (sAsg (gTupl 2 (gsCons (gVar 3) (gsCons (gVar 4) gsNil))) (eTup (aCons (eCall m_lots_of (aCons (eVar 0) (aCons (eC (.bl false)) aNil))) (aCons (eC (.tup [.int 0, .int 1])) aNil))))
    (sSeq (sFor (iSeq (eSl (eVar 3) oNone (oSome (eUn gNeg (eC (.int 1)))))) (gVar 1) (sFor (iDct (eVar 1)) (gTupl 2 (gsCons (gVar 5) (gsCons (gVar 6) gsNil))) (sSeq (sPar 7 8 (eCall gLenA (aCons (eCall m_all_let (aCons (eVar 0) (aCons (eVar 5) aNil))) aNil)) (eCall gLenA (aCons (eCall m_names_left (aCons (eVar 0) (aCons (eVar 5) aNil))) aNil)))
    (sIf (tAndM (tOf (eBin gGt (eVar 7) (eC (.int 0)))) (tOf (eBin (gEq false) (eBin gIxA (eVar 0) (eC (.int 2))) (eC (.str "anew"))))) (sSet 4 (eCall m_plus (aCons (eVar 4) (aCons (eBin gIxA (eVar 1) (eTup (aCons (eVar 5) (aCons (eVar 6) aNil)))) aNil)))) (sIf (tOf (eBin gGt (eVar 7) (eC (.int 0)))) (sSet 4 (eCall m_plus (aCons (eVar 4) (aCons (eCall m_times (aCons (eBin gIxA (eVar 1) (eTup (aCons (eVar 5) (aCons (eVar 6) aNil)))) (aCons (eVar 8) (aCons (eVar 7) aNil)))) aNil)))) sNil)))))
    (sSeq (sSet 2 (eCall m_sum_of (aCons (eLc false (iDct (eBin gIxA (eVar 3) (eUn gNeg (eC (.int 1))))) (gVar 9) tYesM (eBin gIxA (eBin gIxA (eVar 3) (eUn gNeg (eC (.int 1)))) (eVar 9)) [9]) aNil)))
    (sRet (eCall m_times (aCons (eVar 4) (aCons (eBin gIxA (eVar 2) (eC (.int 1))) (aCons (eBin gIxA (eVar 2) (eC (.int 0))) aNil))))))))))
def m_draws : List D → M D := pureM (defM 1 1 ((sSeq (sExp (eCall m_need_rule (aCons (eVar 0) aNil)))
    (sSeq (sIf (tOf (eBin (gEqA false) (eCall m_outcomes_of (aCons (eVar 0) aNil)) eDNewF)) sBad sNil)
    (sRet (eCall m_draws_of (aCons (eVar 0) aNil)))))))
def m_length_shares : List D → M D := pureM (defM 1 5 ((sSeq (sExp (eCall m_need_rule (aCons (eVar 0) aNil)))
    (sSeq (sAsg (gTupl 2 (gsCons (gVar 2) (gsCons (gVar 3) gsNil))) (eTup (aCons (eCall m_outcomes_of (aCons (eVar 0) aNil)) (aCons eDNew aNil))))
    (sSeq (sFor (iDct (eVar 2)) (gVar 1) (sSeq (sSet 4 (eCall m_lengths_of (aCons (eVar 1) aNil)))
    (sPutD (eVar 3) (eVar 4) (eCall m_plus (aCons (eGet (eVar 3) (eVar 4) (eC (.tup [.int 0, .int 1]))) (aCons (eBin gIxA (eVar 2) (eVar 1)) aNil))))))
    (sRet (eLc false (iSeq (eSortSetZ (eVar 3))) (gVar 4) tYesM (eTup (aCons (eVar 4) (aCons (eBin gIxA (eVar 3) (eVar 4)) aNil))) [4])))))))
def m_people_stuck : List D → M D := pureM (defM 1 3 ((sSeq (sSet 1 (eCall m_turns_of (aCons (eVar 0) aNil)))
    (sRet (eLc false (iSeq (eLR1 false (eCall gLen (aCons (eBin gIx (eVar 0) (eC (.int 0))) aNil)))) (gVar 2) (tOf (eBin (gIsN true) (eCall m_first_stuck (aCons (eVar 0) (aCons (eVar 1) (aCons (eVar 2) aNil)))) (eC .non))) (eVar 2) [2])))))
def m_stuck_people : List D → M D := pureM (defM 1 1 ((sSeq (sExp (eCall m_need_rule (aCons (eVar 0) aNil)))
    (sRet (eCall m_people_stuck (aCons (eVar 0) aNil))))))
def m_is_endless : List D → M D := pureM (defM 1 1 ((sSeq (sExp (eCall m_need_rule (aCons (eVar 0) aNil)))
    (sRet (eBin (gEq false) (eBin gIx (eCall m_turns_of (aCons (eVar 0) aNil)) (eUn gNeg (eC (.int 1)))) (eLst false aNil))))))
def m_bars_of : List D → M D := pureM (defM 1 5 ((sSeq (sSet 1 (eLst false aNil))
    (sSeq (sFor (iEnum1 (eBin gIx (eVar 0) (eC (.int 0)))) (gTupl 2 (gsCons (gVar 2) (gsCons (gVar 3) gsNil))) (sSet 1 (eBin (gAdd false) (eVar 1) (eLc false (iSeq (eVar 3)) (gVar 4) tYesM (eTup (aCons (eVar 2) (aCons (eVar 4) aNil))) [4]))))
    (sRet (eVar 1))))))
def m_parting_of : List D → M D := pureM (defM 2 5 ((sSeq (sPar 3 4 (eCall m_outcomes_of (aCons (eVar 0) aNil)) (eCall m_outcomes_of (aCons (eVar 1) aNil)))
    (sSeq (sFor (iSeq (eSortSetZ (eBin (gAdd false) (eCall (gListA false) (aCons (eVar 3) aNil)) (eCall (gListA false) (aCons (eVar 4) aNil))))) (gVar 2) (sIf (tOf (eBin (gEq true) (eGet1 (eVar 3) (eVar 2)) (eGet1 (eVar 4) (eVar 2)))) (sRet (eVar 2)) sNil))
    (sRet (eC .non))))))
def m_turned_over : List D → M D := pureM (defM 2 7 ((sSeq (sAsg (gTupl 2 (gsCons (gVar 4) (gsCons (gVar 5) gsNil))) (eVar 1))
    (sSeq (sSet 2 (eBin gIx (eBin gIx (eVar 0) (eC (.int 0))) (eVar 4)))
    (sSeq (sSet 3 (eIf (tOf (eBin (gIn false) (eVar 5) (eVar 2))) (eLc false (iSeq (eVar 2)) (gVar 6) (tOf (eBin (gEq true) (eVar 6) (eVar 5))) (eVar 6) [6]) (eBin (gAdd false) (eCall (gList false) (aCons (eVar 2) aNil)) (eLst false (aCons (eVar 5) aNil)))))
    (sRet (eTup (aCons (eBin (gAdd false) (eBin (gAdd false) (eSl (eBin gIx (eVar 0) (eC (.int 0))) oNone (oSome (eVar 4))) (eTup (aCons (eCall gTuple (aCons (eCall gSorted (aCons (eLc false (iSeq (eVar 3)) (gVar 6) tYesM (eCall gInt1 (aCons (eVar 6) aNil)) [6]) aNil)) aNil)) aNil))) (eSl (eBin gIx (eVar 0) (eC (.int 0))) (oSome (eBin (gAdd false) (eVar 4) (eC (.int 1)))) oNone)) (aCons (eBin gIx (eVar 0) (eC (.int 1))) (aCons (eBin gIx (eVar 0) (eC (.int 2))) aNil))))))))))
def m_idle_bars : List D → M D := pureM (defM 1 2 ((sSeq (sExp (eCall m_need_rule (aCons (eVar 0) aNil)))
    (sRet (eLc false (iSeq (eCall m_bars_of (aCons (eVar 0) aNil))) (gVar 1) (tOf (eBin (gIsN false) (eCall m_parting_of (aCons (eVar 0) (aCons (eCall m_turned_over (aCons (eVar 0) (aCons (eVar 1) aNil))) aNil))) (eC .non))) (eVar 1) [1])))))
def m_is_smooth : List D → M D := pureM (defM 1 1 ((sRet (eBin (gEq false) (eCall m_people_stuck (aCons (eVar 0) aNil)) (eLst false aNil)))))
def m_least_bars : List D → M D := pureM (defM 1 11 ((sSeq (sExp (eCall m_need_rule (aCons (eVar 0) aNil)))
    (sSeq (sSet 1 (eCall gLen (aCons (eBin gIx (eVar 0) (eC (.int 0))) aNil)))
    (sSeq (sPar 3 4 (eLst false (aCons (eTup (aCons (eTup aNil) (aCons (eVar 0) aNil))) aNil)) (eLc false (iSeq (eLR1 false (eBin gMulI (eVar 1) (eVar 1)))) (gVar 9) tYesM (eTup (aCons (eBin gDiv (eVar 9) (eVar 1)) (aCons (eBin gMod (eVar 9) (eVar 1)) aNil))) [9]))
    (sSeq (sFor (iRange1 (eC (.int 3))) (gVar 2) (sSeq (sSet 5 (eLc false (iSeq (eVar 3)) (gTupl 2 (gsCons (gVar 7) (gsCons (gVar 8) gsNil))) (tOf (eCall m_is_smooth (aCons (eVar 8) aNil))) (eVar 7) [7, 8]))
    (sSeq (sIf (tOf (eBin (gEq true) (eVar 5) (eLst false aNil))) (sRet (eCall gSortedE (aCons (eVar 5) aNil))) sNil)
    (sSeq (sSet 6 (eLst false aNil))
    (sSeq (sFor (iSeq (eVar 3)) (gTupl 2 (gsCons (gVar 7) (gsCons (gVar 8) gsNil))) (sSet 6 (eBin (gAdd false) (eVar 6) (eLc false (iSeq (eVar 4)) (gVar 10) (tOrM (tOf (eBin (gEq false) (eVar 7) (eTup aNil))) (tOf (eBin gLt (eBin gIx (eVar 7) (eUn gNeg (eC (.int 1)))) (eVar 10)))) (eTup (aCons (eBin (gAdd false) (eVar 7) (eTup (aCons (eVar 10) aNil))) (aCons (eCall m_turned_over (aCons (eVar 8) (aCons (eVar 10) aNil))) aNil))) [10]))))
    (sSet 3 (eVar 6)))))))
    (sRet (eLst false aNil))))))))
def m_text_of : List D → M D := pureM (defM 1 4 ((sSeq (sSet 1 (eLst false (aCons (eBin (gAdd false) (eBin gIx (eVar 0) (eC (.int 2))) (eIf (tTru (eBin gIx (eVar 0) (eC (.int 1)))) (eC (.str " mutual")) (eC (.str "")))) aNil)))
    (sRet (eStrM gJoin (eC (.str "\n")) (eBin (gAdd false) (eVar 1) (eLc false (iSeq (eBin gIx (eVar 0) (eC (.int 0)))) (gVar 2) tYesM (eIf (tOf (eBin (gEq false) (eVar 2) (eTup aNil))) (eC (.str "free")) (eStrM gJoin (eC (.str ",")) (eLc false (iSeq (eVar 2)) (gVar 3) tYesM (eCall gStrI (aCons (eVar 3) aNil)) [3]))) [2])))))))
def m_rule_text : List D → M D := pureM (defM 1 1 ((sSeq (sExp (eCall m_need_rule (aCons (eVar 0) aNil)))
    (sRet (eCall m_text_of (aCons (eVar 0) aNil))))))
def m_is_like_seen : List D → M D := pureM (defM 1 2 ((sSeq (sIf (tOrM (tNotM (tOf (eCall gIsi (aCons (eVar 0) (aCons (eC (.raw (.ty "tuple"))) aNil))))) (tOrM (tOf (eBin (gEq true) (eCall gLen (aCons (eVar 0) aNil)) (eC (.int 2)))) (tOrM (tNotM (tOf (eCall m_is_number (aCons (eBin gIx (eVar 0) (eC (.int 0))) aNil)))) (tNotM (tOf (eCall gIsi (aCons (eBin gIx (eVar 0) (eC (.int 1))) (aCons (eC (.raw (.ty "tuple"))) aNil)))))))) (sRet (eC (.bl false))) sNil)
    (sRet (eCall gAll (aCons (eLc false (iSeq (eBin gIx (eVar 0) (eC (.int 1)))) (gVar 1) tYesM (eOr (eCall gIsi (aCons (eVar 1) (aCons (eC (.raw (.ty "str"))) aNil))) (eCall m_is_number (aCons (eVar 1) aNil))) [1]) aNil))))))
def m_beliefs : List D → M D := pureM (defM 3 6 ((sSeq (sExp (eCall m_need_rule (aCons (eVar 0) aNil)))
    (sSeq (sExp (eCall m_need_person (aCons (eVar 0) (aCons (eVar 1) aNil))))
    (sSeq (sSet 3 (eIf (tOf (eCall m_is_like_seen (aCons (eVar 2) aNil))) (eGet (eCall m_seen_lots (aCons (eVar 0) (aCons (eVar 1) aNil))) (eVar 2) eDNewF) eDNewF))
    (sSeq (sIf (tOf (eBin (gEqA false) (eVar 3) eDNewF)) sBad sNil)
    (sSeq (sSet 4 (eCall m_sum_of (aCons (eLc false (iDct (eVar 3)) (gVar 5) tYesM (eBin gIxA (eVar 3) (eVar 5)) [5]) aNil)))
    (sRet (eLc false (iSeq (eSortSetZ (eVar 3))) (gVar 5) tYesM (eTup (aCons (eVar 5) (aCons (eCall m_times (aCons (eBin gIxA (eVar 3) (eVar 5)) (aCons (eBin gIxA (eVar 4) (eC (.int 1))) (aCons (eBin gIxA (eVar 4) (eC (.int 0))) aNil)))) aNil))) [5])))))))))
def m_need_names : List D → M D := pureM (defM 2 2 ((sSeq (sExp (eCall m_need_rule (aCons (eVar 0) aNil)))
    (sIf (tOrM (tNotM (tOf (eCall m_are_different (aCons (eVar 1) (aCons (eCall gLen (aCons (eBin gIx (eVar 0) (eC (.int 0))) aNil)) aNil))))) (tOf (eBin (gEq false) (eCall gLen (aCons (eVar 1) aNil)) (eCall gLen (aCons (eBin gIx (eVar 0) (eC (.int 0))) aNil))))) sBad sNil))))
def m_let_names : List D → M D := pureM (defM 2 2 ((sSeq (sExp (eCall m_need_names (aCons (eVar 0) (aCons (eVar 1) aNil))))
    (sRet (eCall m_all_let (aCons (eVar 0) (aCons (eVar 1) aNil)))))))
def m_exchanges : List D → M D := pureM (defM 2 2 ((sSeq (sExp (eCall m_need_names (aCons (eVar 0) (aCons (eVar 1) aNil))))
    (sRet (eCall m_all_exchanges (aCons (eVar 0) (aCons (eVar 1) aNil)))))))
def m_need_two : List D → M D := pureM (defM 2 2 ((sSeq (sExp (eCall m_need_rule (aCons (eVar 0) aNil)))
    (sSeq (sExp (eCall m_need_rule (aCons (eVar 1) aNil)))
    (sIf (tOf (eBin (gEq true) (eCall gLen (aCons (eBin gIx (eVar 0) (eC (.int 0))) aNil)) (eCall gLen (aCons (eBin gIx (eVar 1) (eC (.int 0))) aNil)))) sBad sNil)))))
def m_alike : List D → M D := pureM (defM 2 2 ((sSeq (sExp (eCall m_need_two (aCons (eVar 0) (aCons (eVar 1) aNil))))
    (sRet (eBin (gIsN false) (eCall m_parting_of (aCons (eVar 0) (aCons (eVar 1) aNil))) (eC .non))))))
def m_parting : List D → M D := pureM (defM 2 2 ((sSeq (sExp (eCall m_need_two (aCons (eVar 0) (aCons (eVar 1) aNil))))
    (sRet (eCall m_parting_of (aCons (eVar 0) (aCons (eVar 1) aNil)))))))
def m_rule_for : List D → M D := pureM (defM 2 2 ((sSeq (sExp (eCall m_need_kind (aCons (eVar 0) aNil)))
    (sSeq (sExp (eCall m_need_number (aCons (eVar 1) aNil)))
    (sSeq (sIf (tOf (eBin gGt (eVar 1) (eC (.int 6)))) sBad sNil)
    (sRet (eCall m_rule_of (aCons (eVar 0) (aCons (eVar 1) aNil)))))))))
def m_pattern_of : List D → M D := pureM (defM 1 5 ((sSeq (sPar 1 2 (eCall gTuple (aCons (eLc false (iSeq (eTup (aCons (eC (.int 0)) (aCons (eC (.int 1)) aNil)))) (gVar 3) (tTru (eBin gIx (eVar 0) (eBin (gAdd false) (eC (.int 6)) (eVar 3)))) (eVar 3) [3]) aNil)) (eC (.int 8)))
    (sSeq (sWhile (fun _ _ => 100000) (tAndM (tOf (eBin gGt (eVar 2) (eC (.int 2)))) (tOf (eBin (gEq false) (eBin gIx (eVar 0) (eBin gSub (eVar 2) (eC (.int 3)))) (eBin (gIn false) (eBin gMod (eBin gSub (eVar 2) (eC (.int 1))) (eC (.int 2))) (eVar 1))))) (sSet 2 (eBin gSub (eVar 2) (eC (.int 1)))))
    (sRet (eTup (aCons (eCall gTuple (aCons (eLc false (iSeq (eLR2 false (eC (.int 2)) (eVar 2))) (gVar 4) (tTru (eBin gIx (eVar 0) (eBin gSub (eVar 4) (eC (.int 2))))) (eVar 4) [4]) aNil)) (aCons (eVar 2) (aCons (eVar 1) aNil)))))))))
def m_is_outcome : List D → M D := pureM (defM 2 2 ((sSeq (sExp (eCall m_need_rule (aCons (eVar 0) aNil)))
    (sRet (eCall m_is_outcome_for (aCons (eVar 0) (aCons (eVar 1) aNil)))))))
def m__law_chains : List D → M D := pureM (defM 1 4 ((sSeq (sPar 2 3 eDNew (eC (.int 0)))
    (sSeq (sFor (iRange1 (eCall gLen (aCons (eVar 0) aNil))) (gVar 1) (sSeq (sSet 3 (eBin (gAdd false) (eVar 3) (eCall gInt1 (aCons (eBin (gIn true) (eVar 1) (eVar 2)) aNil))))
    (sWhile (fun _ _ => 100000) (tOf (eBin (gIn true) (eVar 1) (eVar 2))) (sSeq (sPutD (eVar 2) (eVar 1) (eC (.bl true)))
    (sSet 1 (eBin gIx (eVar 0) (eVar 1)))))))
    (sRet (eVar 3))))))
def m__law_closed : List D → M D := pureM (defM 2 5 ((sSeq (sSet 2 (eBin (gRep true) (eLst false (aCons (eC .non) aNil)) (eVar 1)))
    (sSeq (sFor (iSeq (eVar 0)) (gVar 3) (sFor (iRange1 (eCall gLen (aCons (eVar 3) aNil))) (gVar 4) (sPut (eVar 2) (eBin gIx (eVar 3) (eVar 4)) (eBin gIx (eVar 3) (eBin gMod (eBin (gAdd false) (eVar 4) (eC (.int 1))) (eCall gLen (aCons (eVar 3) aNil)))))))
    (sRet (eCall gTuple (aCons (eVar 2) aNil)))))))
def m__law_swapped : List D → M D := pureM (defM 3 3 ((sRet (eBin (gAdd false) (eBin (gAdd false) (eBin (gAdd false) (eSl (eVar 0) oNone (oSome (eVar 1))) (eTup (aCons (eVar 2) aNil))) (eSl (eVar 0) (oSome (eBin (gAdd false) (eVar 1) (eC (.int 1)))) oNone)) (eTup (aCons (eBin gIx (eVar 0) (eVar 1)) aNil))))))
def f__law_courses : Nat → List D → M D
  | 0 => fun _ _ => .bad
  | r + 1 => pureM (defM 4 11 ((sSeq (sSet 4 (eBin gSub (eCall gLen (aCons (eBin gIx (eVar 0) (eC (.int 0))) aNil)) (eCall gLen (aCons (eVar 1) aNil))))
    (sSeq (sIf (tOf (eBin (gEq false) (eVar 4) (eC (.int 0)))) (sRet (eLst false (aCons (eTup (aCons (eVar 1) (aCons (eVar 2) (aCons (eVar 3) aNil)))) aNil))) sNil)
    (sSeq (sPar 6 7 (eCall m__law_let (aCons (eVar 0) (aCons (eVar 1) aNil))) (eLst true aNil))
    (sSeq (sIf (tOf (eBin (gEq false) (eVar 6) (eLst false aNil))) (sSeq (sSet 8 (eIf (tOf (eBin (gEq false) (eBin gIx (eVar 0) (eC (.int 2))) (eC (.str "swap")))) (eCall m__law_pairs (aCons (eVar 0) (aCons (eVar 1) aNil))) (eLst false aNil)))
    (sSeq (sFor (iSeq (eVar 8)) (gTupl 2 (gsCons (gVar 9) (gsCons (gVar 5) gsNil))) (sSeq (sSet 10 (eTup (aCons (eBin gIx (eVar 3) (eC (.int 0))) (aCons (eBin gMulI (eBin gIx (eVar 3) (eC (.int 1))) (eCall gLen (aCons (eVar 8) aNil))) aNil))))
    (sSet 7 (eBin (gAdd true) (eVar 7) (eCall (f__law_courses r) (aCons (eVar 0) (aCons (eCall m__law_swapped (aCons (eVar 1) (aCons (eVar 9) (aCons (eVar 5) aNil)))) (aCons (eBin (gAdd false) (eVar 2) (eTup (aCons (eVar 9) aNil))) (aCons (eVar 10) aNil)))))))))
    (sRet (eIf (tOf (eBin (gEq true) (eVar 8) (eLst false aNil))) (eVar 7) (eLst false (aCons (eTup (aCons (eVar 1) (aCons (eBin (gAdd false) (eVar 2) (eTup (aCons (eC (.str "stuck")) aNil))) (aCons (eVar 3) aNil)))) aNil)))))) sNil)
    (sSeq (sFor (iSeq (eVar 6)) (gVar 5) (sSeq (sSet 7 (eBin (gAdd true) (eVar 7) (eCall (f__law_courses r) (aCons (eVar 0) (aCons (eBin (gAdd false) (eVar 1) (eTup (aCons (eVar 5) aNil))) (aCons (eBin (gAdd false) (eVar 2) (eTup (aCons (eC (.str "drew")) aNil))) (aCons (eTup (aCons (eBin gIx (eVar 3) (eC (.int 0))) (aCons (eBin gMulI (eBin gIx (eVar 3) (eC (.int 1))) (eVar 4)) aNil))) aNil)))))))
    (sIf (tAndM (tOf (eBin (gEq true) (eBin gIx (eVar 0) (eC (.int 2))) (eC (.str "anew")))) (tOf (eBin gGt (eVar 4) (eCall gLen (aCons (eVar 6) aNil))))) (sSeq (sSet 10 (eTup (aCons (eBin gMulI (eBin gIx (eVar 3) (eC (.int 0))) (eBin gSub (eVar 4) (eCall gLen (aCons (eVar 6) aNil)))) (aCons (eBin gMulI (eBin gMulI (eBin gIx (eVar 3) (eC (.int 1))) (eVar 4)) (eCall gLen (aCons (eVar 6) aNil))) aNil))))
    (sSet 7 (eBin (gAdd true) (eVar 7) (eCall (f__law_courses r) (aCons (eVar 0) (aCons (eBin (gAdd false) (eVar 1) (eTup (aCons (eVar 5) aNil))) (aCons (eBin (gAdd false) (eVar 2) (eTup (aCons (eC (.str "back")) aNil))) (aCons (eVar 10) aNil)))))))) sNil)))
    (sSeq (sIf (tAndM (tOf (eBin (gEq false) (eBin gIx (eVar 0) (eC (.int 2))) (eC (.str "anew")))) (tOf (eBin gGt (eVar 4) (eCall gLen (aCons (eVar 6) aNil))))) (sExp (eMth (gMut hAppend) (eVar 7) (aCons (eTup (aCons (eVar 1) (aCons (eBin (gAdd false) (eVar 2) (eTup (aCons (eC (.str "anew")) aNil))) (aCons (eTup (aCons (eBin gMulI (eBin gIx (eVar 3) (eC (.int 0))) (eBin gSub (eVar 4) (eCall gLen (aCons (eVar 6) aNil)))) (aCons (eBin gMulI (eBin gIx (eVar 3) (eC (.int 1))) (eVar 4)) aNil))) aNil)))) aNil))) sNil)
    (sRet (eVar 7))))))))))
def m__law_courses : List D → M D := f__law_courses 8
def m__law_deed : List D → M D := defM 3 8 ((sSeq (sSet 3 (eBin gIx (eVar 2) (eC (.int 0))))
    (sSeq (sPar 4 5 (eCall m__law_take (aCons (eVar 0) (aCons (eC (.int 10)) aNil))) (eLc false (iRange1 (eCall gLen (aCons (eBin gIx (eVar 1) (eC (.int 0))) aNil))) (gVar 7) (tOf (eBin (gIn true) (eVar 7) (eVar 3))) (eVar 7) [7]))
    (sSeq (sIf (tOf (eBin gLt (eVar 4) (eC (.int 5)))) (sRet (eTup (aCons (eC (.str "draw")) (aCons (eIf (tOf (eBin (gEq true) (eVar 5) (eLst false aNil))) (eCall m__law_of (aCons (eVar 0) (aCons (eVar 5) aNil))) (eC (.int 0))) aNil)))) sNil)
    (sSeq (sIf (tOf (eBin (gEq false) (eVar 4) (eC (.int 5)))) (sRet (eTup (aCons (eC (.str "draw")) (aCons (eCall m__law_of (aCons (eVar 0) (aCons (eBin (gAdd false) (eLst false (aCons (eC .non) (aCons (eUn gNeg (eC (.int 1))) (aCons (eCall gLen (aCons (eBin gIx (eVar 1) (eC (.int 0))) aNil)) (aCons (eC (.bl true)) (aCons (eC (.str "0")) aNil)))))) (eCall (gList false) (aCons (eVar 3) aNil))) aNil))) aNil)))) sNil)
    (sSeq (sIf (tOf (eBin gLt (eVar 4) (eC (.int 8)))) (sSeq (sSet 6 (eBin (gAdd false) (eCall m__law_pairs (aCons (eVar 1) (aCons (eVar 3) aNil))) (eLst false (aCons (eTup (aCons (eC (.int 0)) (aCons (eC (.int 0)) aNil))) (aCons (eTup (aCons (eCall gLen (aCons (eVar 3) aNil)) (aCons (eC (.int 0)) aNil))) (aCons (eTup (aCons (eC .non) (aCons (eC (.int 1)) aNil))) (aCons (eTup (aCons (eC (.bl true)) (aCons (eC (.int 0)) aNil))) (aCons (eTup (aCons (eC (.int 0)) (aCons (eC (.str "1")) aNil))) aNil))))))))
    (sRet (eTup (aCons (eC (.str "swap")) (aCons (eCall m__law_of (aCons (eVar 0) (aCons (eBin (gAdd false) (eSl (eVar 6) oNone (oSome (eC (.int 1)))) (eVar 6)) aNil))) aNil))))) sNil)
    (sRet (eTup (aCons (eBin gIx (eLst false (aCons (eC (.str "anew")) (aCons (eC (.str "item")) aNil))) (eBin gSub (eVar 4) (eC (.int 8)))) (aCons (eCall m__law_of (aCons (eVar 0) (aCons (eLst false (aCons (eUn gNeg (eC (.int 1))) (aCons (eCall gLen (aCons (eVar 3) aNil)) (aCons (eC .non) (aCons (eC (.bl true)) (aCons (eC (.str "0")) aNil)))))) aNil))) aNil))))))))))
def m__law_ended : List D → M D := pureM (defM 1 2 ((sRet (eLc false (iSeq (eCall m__law_courses (aCons (eVar 0) (aCons (eTup aNil) (aCons (eTup aNil) (aCons (eTup (aCons (eC (.int 1)) (aCons (eC (.int 1)) aNil))) aNil)))))) (gVar 1) (tOf (eBin (gEq false) (eCall gLen (aCons (eBin gIx (eVar 1) (eC (.int 0))) aNil)) (eCall gLen (aCons (eBin gIx (eVar 0) (eC (.int 0))) aNil)))) (eVar 1) [1]))))
def m__law_is_let : List D → M D := pureM (defM 4 5 ((sSeq (sSet 4 (eCall gLen (aCons (eVar 2) aNil)))
    (sSeq (sIf (tAndM (tOf (eBin (gEq false) (eVar 3) (eVar 4))) (tOrM (tOf (eBin (gIn false) (eC (.str "own")) (eVar 0))) (tOf (eBin (gIn false) (eC (.str "mutual")) (eVar 0))))) (sRet (eC (.bl false))) sNil)
    (sSeq (sIf (tAndM (tOf (eBin (gIn false) (eC (.str "mutual")) (eVar 0))) (tAndM (tOf (eBin gLt (eVar 3) (eVar 4))) (tOf (eBin (gEq false) (eBin gIx (eVar 2) (eVar 3)) (eVar 4))))) (sRet (eC (.bl false))) sNil)
    (sSeq (sIf (tOrM (tAndM (tOf (eBin (gIn false) (eC (.str "next")) (eVar 0))) (tOf (eBin (gEq false) (eVar 3) (eBin gMod (eBin (gAdd false) (eVar 4) (eC (.int 1))) (eVar 1))))) (tAndM (tOf (eBin (gIn false) (eC (.str "before")) (eVar 0))) (tOf (eBin (gEq false) (eVar 4) (eBin gMod (eBin (gAdd false) (eVar 3) (eC (.int 1))) (eVar 1)))))) (sRet (eC (.bl false))) sNil)
    (sRet (eNot (eAnd (eBin (gIn false) (eC (.str "partner")) (eVar 0)) (eAnd (eBin (gEq false) (eBin gDiv (eVar 3) (eC (.int 2))) (eBin gDiv (eVar 4) (eC (.int 2)))) (eBin (gEq true) (eVar 3) (eVar 4))))))))))))
def m__law_good : List D → M D := pureM (defM 3 4 ((sSeq (sFor (iRange1 (eCall gLen (aCons (eVar 2) aNil))) (gVar 3) (sIf (tOrM (tOf (eBin (gIn false) (eBin gIx (eVar 2) (eVar 3)) (eSl (eVar 2) oNone (oSome (eVar 3))))) (tNotM (tTru (eCall m__law_is_let (aCons (eVar 0) (aCons (eVar 1) (aCons (eSl (eVar 2) oNone (oSome (eVar 3))) (aCons (eBin gIx (eVar 2) (eVar 3)) aNil)))))))) (sRet (eC (.bl false))) sNil))
    (sRet (eC (.bl true))))))
def m__law_in : List D → M D := pureM (defM 2 5 ((sSeq (sAsg (gTupl 3 (gsCons (gVar 2) (gsCons (gVar 3) (gsCons (gVar 4) gsNil)))) (eVar 0))
    (sRet (eIf (tOf (eBin gLt (eVar 1) (eVar 3))) (eBin (gIn false) (eVar 1) (eVar 2)) (eBin (gIn false) (eBin gMod (eVar 1) (eC (.int 2))) (eVar 4)))))))
def m__law_int : List D → M D := pureM (defM 3 3 ((sRet (eAnd (eCall gIsi (aCons (eVar 0) (aCons (eC (.raw (.ty "int"))) aNil))) (eAnd (eNot (eCall gIsi (aCons (eVar 0) (aCons (eC (.raw (.ty "bool"))) aNil)))) (eChain gLe gLe (eVar 1) (eVar 0) (eVar 2)))))))
def m__law_is_kind : List D → M D := pureM (defM 1 3 ((sSeq (sIf (tOrM (tNotM (tOf (eCall gIsi (aCons (eVar 0) (aCons (eC (.raw (.ty "tuple"))) aNil))))) (tOf (eBin (gEq true) (eLc false (iSeq (eVar 0)) (gVar 2) (tNotM (tOf (eCall gIsi (aCons (eVar 2) (aCons (eC (.raw (.ty "str"))) aNil))))) (eVar 2) [2]) (eLst false aNil)))) (sRet (eC (.bl false))) sNil)
    (sSeq (sSet 1 (eLc false (iSeq (eLst false (aCons (eC (.str "before")) (aCons (eC (.str "mutual")) (aCons (eC (.str "next")) (aCons (eC (.str "own")) (aCons (eC (.str "partner")) aNil))))))) (gVar 2) (tOf (eBin (gIn false) (eVar 2) (eVar 0))) (eVar 2) [2]))
    (sRet (eAnd (eBin (gEq true) (eVar 0) (eTup aNil)) (eBin (gEq false) (eCall (gList false) (aCons (eVar 0) aNil)) (eVar 1))))))))
def m__law_is_outcome : List D → M D := pureM (defM 2 4 ((sSeq (sSet 2 (eCall gLen (aCons (eBin gIx (eVar 0) (eC (.int 0))) aNil)))
    (sSeq (sIf (tOrM (tNotM (tOf (eCall gIsi (aCons (eVar 1) (aCons (eC (.raw (.ty "tuple"))) aNil))))) (tOf (eBin (gEq true) (eCall gLen (aCons (eVar 1) aNil)) (eVar 2)))) (sRet (eC (.bl false))) sNil)
    (sSeq (sIf (tOf (eBin (gEq true) (eLc false (iSeq (eVar 1)) (gVar 3) (tNotM (tTru (eCall m__law_int (aCons (eVar 3) (aCons (eC (.int 0)) (aCons (eBin gSub (eVar 2) (eC (.int 1))) aNil)))))) (eVar 3) [3]) (eLst false aNil))) (sRet (eC (.bl false))) sNil)
    (sRet (eBin (gEq false) (eCall gSortedTI (aCons (eVar 1) aNil)) (eLR1 false (eVar 2)))))))))
def m__law_is_rule : List D → M D := pureM (defM 1 4 ((sSeq (sIf (tOrM (tNotM (tOf (eCall gIsi (aCons (eVar 0) (aCons (eC (.raw (.ty "tuple"))) aNil))))) (tOrM (tOf (eBin (gEq true) (eCall gLen (aCons (eVar 0) aNil)) (eC (.int 3)))) (tNotM (tOf (eCall gIsi (aCons (eBin gIx (eVar 0) (eC (.int 0))) (aCons (eC (.raw (.ty "tuple"))) aNil))))))) (sRet (eC (.bl false))) sNil)
    (sSeq (sSet 1 (eCall gLen (aCons (eBin gIx (eVar 0) (eC (.int 0))) aNil)))
    (sSeq (sIf (tOrM (tNotM (tOf (eChain gLe gLe (eC (.int 2)) (eVar 1) (eC (.int 6))))) (tOrM (tNotM (tOf (eCall gIsi (aCons (eBin gIx (eVar 0) (eC (.int 1))) (aCons (eC (.raw (.ty "bool"))) aNil))))) (tNotM (tOf (eCall gIsi (aCons (eBin gIx (eVar 0) (eC (.int 2))) (aCons (eC (.raw (.ty "str"))) aNil))))))) (sRet (eC (.bl false))) sNil)
    (sSeq (sFor (iSeq (eBin gIx (eVar 0) (eC (.int 0)))) (gVar 2) (sSeq (sIf (tOrM (tNotM (tOf (eCall gIsi (aCons (eVar 2) (aCons (eC (.raw (.ty "tuple"))) aNil))))) (tOf (eBin (gEq true) (eLc false (iSeq (eVar 2)) (gVar 3) (tNotM (tTru (eCall m__law_int (aCons (eVar 3) (aCons (eC (.int 0)) (aCons (eBin gSub (eVar 1) (eC (.int 1))) aNil)))))) (eVar 3) [3]) (eLst false aNil)))) (sRet (eC (.bl false))) sNil)
    (sIf (tOf (eBin (gEq true) (eCall (gList false) (aCons (eVar 2) aNil)) (eSortSetZ (eVar 2)))) (sRet (eC (.bl false))) sNil)))
    (sRet (eBin (gIn false) (eBin gIx (eVar 0) (eC (.int 2))) (eLst false (aCons (eC (.str "again")) (aCons (eC (.str "anew")) (aCons (eC (.str "swap")) aNil))))))))))))
def m__law_kinds : List D → M D := pureM (defM 0 3 ((sSeq (sSet 0 (eLst false (aCons (eTup aNil) aNil)))
    (sSeq (sFor (iSeq (eLst false (aCons (eC (.str "before")) (aCons (eC (.str "mutual")) (aCons (eC (.str "next")) (aCons (eC (.str "own")) (aCons (eC (.str "partner")) aNil))))))) (gVar 1) (sSet 0 (eBin (gAdd false) (eVar 0) (eLc false (iSeq (eVar 0)) (gVar 2) tYesM (eBin (gAdd false) (eVar 2) (eTup (aCons (eVar 1) aNil))) [2]))))
    (sRet (eLc false (iSeq (eVar 0)) (gVar 2) (tOf (eBin (gEq true) (eVar 2) (eTup aNil))) (eVar 2) [2]))))))
def m__law_last_stuck : List D → M D := pureM (defM 2 8 ((sSeq (sAsg (gTupl 2 (gsCons (gVar 4) (gsCons (gVar 5) gsNil))) (eTup (aCons (eBin gSub (eVar 1) (eC (.int 1))) (aCons (eBin gSub (eVar 1) (eC (.int 1))) aNil))))
    (sSeq (sIf (tAndM (tOf (eBin (gIn true) (eC (.str "own")) (eVar 0))) (tOf (eBin (gIn true) (eC (.str "mutual")) (eVar 0)))) (sSeq (sSet 5 (eIf (tOf (eBin (gIn false) (eC (.str "next")) (eVar 0))) (eC (.int 0)) (eBin gSub (eVar 1) (eC (.int 2)))))
    (sIf (tAndM (tOf (eBin (gEq false) (eVar 0) (eTup (aCons (eC (.str "partner")) aNil)))) (tOf (eBin (gEq false) (eBin gMod (eVar 1) (eC (.int 2))) (eC (.int 1))))) (sRet (eC .non)) sNil)) sNil)
    (sSeq (sSet 2 (eLc false (iRange1 (eVar 1)) (gVar 7) (tOf (eBin (gEq true) (eVar 7) (eVar 5))) (eVar 7) [7]))
    (sSeq (sFor (iSeq (eLst false (aCons (eC (.int 3)) (aCons (eC (.int 4)) (aCons (eC (.int 5)) (aCons (eC (.int 2)) aNil)))))) (gVar 3) (sSeq (sSet 6 (eCall gTuple (aCons (eBin (gAdd false) (eSl (eVar 2) (oSome (eVar 3)) oNone) (eSl (eVar 2) oNone (oSome (eVar 3)))) aNil)))
    (sIf (tAndM (tTru (eCall m__law_good (aCons (eVar 0) (aCons (eVar 1) (aCons (eVar 6) aNil))))) (tNotM (tTru (eCall m__law_is_let (aCons (eVar 0) (aCons (eVar 1) (aCons (eVar 6) (aCons (eVar 5) aNil)))))))) (sRet (eVar 6)) sNil)))
    (sRet (eC .non))))))))
def m__law_lengths : List D → M D := pureM (defM 1 5 ((sSeq (sSet 1 (eLst true aNil))
    (sSeq (sFor (iRange1 (eCall gLen (aCons (eVar 0) aNil))) (gVar 2) (sSeq (sPar 3 4 (eLst true (aCons (eVar 2) aNil)) (eBin gIx (eVar 0) (eVar 2)))
    (sSeq (sWhile (fun _ _ => 100000) (tOf (eBin (gEq true) (eVar 4) (eVar 2))) (sSeq (sExp (eMth (gMut hAppend) (eVar 3) (aCons (eVar 4) aNil)))
    (sSet 4 (eBin gIx (eVar 0) (eVar 4)))))
    (sIf (tOf (eBin (gEq false) (eCall gMinL (aCons (eVar 3) aNil)) (eVar 2))) (sExp (eMth (gMut hAppend) (eVar 1) (aCons (eCall gLen (aCons (eVar 3) aNil)) aNil))) sNil))))
    (sRet (eCall gTuple (aCons (eCall gSorted (aCons (eVar 1) aNil)) aNil)))))))
def m__law_line_good : List D → M D := pureM (defM 1 3 ((sSeq (sIf (tOf (eBin (gIn false) (eVar 0) (eLst false (aCons (eC (.str "again")) (aCons (eC (.str "anew")) (aCons (eC (.str "swap")) (aCons (eC (.str "again mutual")) (aCons (eC (.str "anew mutual")) (aCons (eC (.str "swap mutual")) (aCons (eC (.str "free")) aNil)))))))))) (sRet (eC (.bl true))) sNil)
    (sSeq (sSet 1 (eStrM (gSplit false) (eVar 0) (eC (.str ","))))
    (sSeq (sIf (tOf (eBin (gEq true) (eLc false (iSeq (eVar 1)) (gVar 2) (tOf (eBin (gIn true) (eVar 2) (eLst false (aCons (eC (.str "0")) (aCons (eC (.str "1")) (aCons (eC (.str "2")) (aCons (eC (.str "3")) (aCons (eC (.str "4")) (aCons (eC (.str "5")) aNil))))))))) (eVar 2) [2]) (eLst false aNil))) (sRet (eC (.bl false))) sNil)
    (sRet (eBin (gEq false) (eVar 1) (eSortSetZ (eVar 1)))))))))
def m__law_lowest : List D → M D := pureM (defM 2 4 ((sSeq (sPar 2 3 (eCall gAbs (aCons (eVar 0) aNil)) (eCall gAbs (aCons (eVar 1) aNil)))
    (sSeq (sWhile (fuelI 3) (tOf (eBin (gEq true) (eVar 3) (eC (.int 0)))) (sPar 2 3 (eVar 3) (eBin gMod (eVar 2) (eVar 3))))
    (sRet (eTup (aCons (eBin gDiv (eVar 0) (eVar 2)) (aCons (eBin gDiv (eVar 1) (eVar 2)) aNil))))))))
def m__law_plus : List D → M D := pureM (defM 2 2 ((sRet (eCall m__law_lowest (aCons (eBin (gAdd false) (eBin gMulI (eBin gIx (eVar 0) (eC (.int 0))) (eBin gIx (eVar 1) (eC (.int 1)))) (eBin gMulI (eBin gIx (eVar 1) (eC (.int 0))) (eBin gIx (eVar 0) (eC (.int 1))))) (aCons (eBin gMulI (eBin gIx (eVar 0) (eC (.int 1))) (eBin gIx (eVar 1) (eC (.int 1)))) aNil))))))
def m__law_lots : List D → M D := pureM (defM 2 7 ((sSeq (sSet 2 eDNew)
    (sSeq (sFor (iSeq (eCall m__law_ended (aCons (eVar 0) aNil))) (gTupl 3 (gsCons (gVar 3) (gsCons (gVar 4) (gsCons (gVar 5) gsNil)))) (sSeq (sSet 6 (eTup (aCons (eBin gIx (eVar 3) (eVar 1)) (aCons (eVar 4) aNil))))
    (sSeq (sPutD (eVar 2) (eVar 6) (eGet (eVar 2) (eVar 6) eDNewF))
    (sPutD (eBin gIx (eVar 2) (eVar 6)) (eVar 3) (eCall m__law_plus (aCons (eGet (eBin gIx (eVar 2) (eVar 6)) (eVar 3) (eTup (aCons (eC (.int 0)) (aCons (eC (.int 1)) aNil)))) (aCons (eVar 5) aNil)))))))
    (sRet (eVar 2))))))
def m__law_many_chains : List D → M D := pureM (defM 2 7 ((sSeq (sIf (tAndM (tOf (eBin (gIn true) (eC (.str "mutual")) (eVar 0))) (tOf (eBin (gIn true) (eC (.str "own")) (eVar 0)))) (sRet (eTR1 (eVar 1))) sNil)
    (sSeq (sSet 2 (eIf (tOf (eBin (gIn false) (eC (.str "mutual")) (eVar 0))) (eC (.int 3)) (eC (.int 2))))
    (sSeq (sAsg (gTupl 2 (gsCons (gVar 5) (gsCons (gVar 6) gsNil))) (eTup (aCons (eBin gDiv (eVar 1) (eVar 2)) (aCons (eBin gMod (eVar 1) (eVar 2)) aNil))))
    (sSeq (sSet 3 (eLc false (iRange1 (eVar 5)) (gVar 4) tYesM (eSl (eLst false (aCons (eVar 4) (aCons (eBin (gAdd false) (eVar 4) (eVar 5)) (aCons (eBin (gAdd false) (eVar 4) (eBin gMulI (eC (.int 2)) (eVar 5))) aNil)))) oNone (oSome (eVar 2))) [4]))
    (sSeq (sFor (iRange1 (eVar 6)) (gVar 4) (sExp (eMth (gMut hAppend) (eBin gIx (eVar 3) (eBin (gAdd false) (eBin gMulI (eC (.int 2)) (eVar 4)) (eC (.int 1)))) (aCons (eBin (gAdd false) (eBin gMulI (eVar 2) (eVar 5)) (eVar 4)) aNil))))
    (sRet (eCall m__law_closed (aCons (eVar 3) (aCons (eVar 1) aNil)))))))))))
def m__law_near : List D → M D := defM 2 4 ((sSeq (sPar 2 3 (eCall m__law_take (aCons (eVar 0) (aCons (eC (.int 3)) aNil))) (eCall gLen (aCons (eBin gIx (eVar 1) (eC (.int 0))) aNil)))
    (sSeq (sIf (tOf (eBin (gEq false) (eVar 2) (eC (.int 0)))) (sRet (eBin (gAdd false) (eSl (eVar 1) oNone (oSome (eC (.int 2)))) (eTup (aCons (eCall m__law_of (aCons (eVar 0) (aCons (eLst false (aCons (eC (.str "again")) (aCons (eC (.str "swap")) (aCons (eC (.str "anew")) aNil)))) aNil))) aNil)))) sNil)
    (sSeq (sIf (tOf (eBin (gEq false) (eVar 2) (eC (.int 1)))) (sRet (eTup (aCons (eBin gIx (eVar 1) (eC (.int 0))) (aCons (eNot (eBin gIx (eVar 1) (eC (.int 1)))) (aCons (eBin gIx (eVar 1) (eC (.int 2))) aNil))))) sNil)
    (sRet (eCall m__law_turned (aCons (eVar 1) (aCons (eTup (aCons (eCall m__law_take (aCons (eVar 0) (aCons (eVar 3) aNil))) (aCons (eCall m__law_take (aCons (eVar 0) (aCons (eVar 3) aNil))) aNil))) aNil))))))))
def m__law_order : List D → M D := defM 2 5 ((sSeq (sPar 2 3 (eLR1 true (eVar 1)) (eTup aNil))
    (sSeq (sWhile (fun _ _ => 100000) (tOf (eBin (gEq true) (eVar 2) (eLst false aNil))) (sSeq (sSet 4 (eCall m__law_of (aCons (eVar 0) (aCons (eVar 2) aNil))))
    (sSeq (sExp (eMth (gMut hRemove) (eVar 2) (aCons (eVar 4) aNil)))
    (sSet 3 (eBin (gAdd false) (eVar 3) (eTup (aCons (eVar 4) aNil)))))))
    (sRet (eVar 3)))))
def m__law_outcomes : List D → M D := pureX (defM 1 6 ((sSeq (sPar 2 3 eDNew (eTup (aCons (eC (.int 0)) (aCons (eC (.int 1)) aNil))))
    (sSeq (sFor (iSeq (eCall m__law_ended (aCons (eVar 0) aNil))) (gTupl 3 (gsCons (gVar 1) (gsCons (gVar 4) (gsCons (gVar 5) gsNil)))) (sSeq (sPutD (eVar 2) (eVar 1) (eCall m__law_plus (aCons (eGet (eVar 2) (eVar 1) (eTup (aCons (eC (.int 0)) (aCons (eC (.int 1)) aNil)))) (aCons (eVar 5) aNil))))
    (sSet 3 (eCall m__law_plus (aCons (eVar 3) (aCons (eVar 5) aNil))))))
    (sSeq (sFor (iSeq (eCall (gListA false) (aCons (eVar 2) aNil))) (gVar 1) (sPutD (eVar 2) (eVar 1) (eCall m__law_lowest (aCons (eBin gMulI (eBin gIxA (eBin gIxA (eVar 2) (eVar 1)) (eC (.int 0))) (eBin gIxA (eVar 3) (eC (.int 1)))) (aCons (eBin gMulI (eBin gIxA (eBin gIxA (eVar 2) (eVar 1)) (eC (.int 1))) (eBin gIxA (eVar 3) (eC (.int 0)))) aNil)))))
    (sRet (eVar 2)))))))
def m__law_parting : List D → M D := pureM (defM 2 6 ((sSeq (sAsg (gTupl 2 (gsCons (gVar 3) (gsCons (gVar 4) gsNil))) (eTup (aCons (eCall m__law_outcomes (aCons (eVar 0) aNil)) (aCons (eCall m__law_outcomes (aCons (eVar 1) aNil)) aNil))))
    (sSeq (sSet 2 (eLc false (iSeq (eSortSetZ (eBin (gAdd false) (eCall (gListA false) (aCons (eVar 3) aNil)) (eCall (gListA false) (aCons (eVar 4) aNil))))) (gVar 5) (tOf (eBin (gEq true) (eGet1 (eVar 3) (eVar 5)) (eGet1 (eVar 4) (eVar 5)))) (eVar 5) [5]))
    (sRet (eIf (tOf (eBin (gEq true) (eVar 2) (eLst false aNil))) (eBin gIxA (eVar 2) (eC (.int 0))) (eC .non)))))))
def m_first_of : List D → M D := pureM (defM 1 2 ((sSeq (sFor (iSeq (eC (.tup [.str "again", .str "anew", .str "swap"]))) (gVar 1) (sSeq (sIf (tOf (eBin (gEq false) (eVar 0) (eVar 1))) (sRet (eTup (aCons (eVar 1) (aCons (eC (.bl false)) aNil)))) sNil)
    (sIf (tOf (eBin (gEq false) (eVar 0) (eBin (gAdd false) (eVar 1) (eC (.str " mutual"))))) (sRet (eTup (aCons (eVar 1) (aCons (eC (.bl true)) aNil)))) sNil)))
    (sRet (eC .non)))))
def m_names_of : List D → M D := pureM (defM 1 5 ((sSeq (sIf (tOf (eBin (gEq false) (eVar 0) (eC (.str "free")))) (sRet (eTup aNil)) sNil)
    (sSeq (sSet 1 (eTup aNil))
    (sSeq (sFor (iSeq (eStrM (gSplit false) (eVar 0) (eC (.str ",")))) (gVar 2) (sSeq (sSet 3 (eLc false (iSeq (eLR1 false (eC (.int 6)))) (gVar 4) (tAndM (tOf (eBin (gEq false) (eCall gStrI (aCons (eVar 4) aNil)) (eVar 2))) (tOrM (tOf (eBin (gEq false) (eVar 1) (eTup aNil))) (tOf (eBin gLt (eBin gIx (eVar 1) (eUn gNeg (eC (.int 1)))) (eVar 4))))) (eVar 4) [4]))
    (sSeq (sIf (tOf (eBin (gEq false) (eVar 3) (eLst false aNil))) (sRet (eC .non)) sNil)
    (sSet 1 (eBin (gAdd false) (eVar 1) (eTup (aCons (eBin gIx (eVar 3) (eC (.int 0))) aNil)))))))
    (sRet (eVar 1)))))))
def m_rule_read : List D → M D := pureM (defM 1 6 ((sSeq (sIf (tNotM (tOf (eCall gIsi (aCons (eVar 0) (aCons (eC (.raw (.ty "str"))) aNil))))) sBad sNil)
    (sSeq (sSet 1 (eStrM (gSplit false) (eVar 0) (eC (.str "\n"))))
    (sSeq (sFor (iEnum1 (eVar 1)) (gTupl 2 (gsCons (gVar 2) (gsCons (gVar 3) gsNil))) (sIf (tAndM (tOf (eBin (gIsN false) (eCall m_first_of (aCons (eVar 3) aNil)) (eC .non))) (tOf (eBin (gIsN false) (eCall m_names_of (aCons (eVar 3) aNil)) (eC .non)))) sBad sNil))
    (sSeq (sPar 4 5 (eCall m_first_of (aCons (eBin gIx (eVar 1) (eC (.int 0))) aNil)) (eCall gTuple (aCons (eLc false (iSeq (eSl (eVar 1) (oSome (eC (.int 1))) oNone)) (gVar 3) tYesM (eCall m_names_of (aCons (eVar 3) aNil)) [3]) aNil)))
    (sSeq (sIf (tOrM (tOf (eBin (gIsN false) (eVar 4) (eC .non))) (tNotM (tOf (eCall m_is_rule (aCons (eTup (aCons (eVar 5) (aCons (eBin gIx (eVar 4) (eC (.int 1))) (aCons (eBin gIx (eVar 4) (eC (.int 0))) aNil)))) aNil))))) sBad sNil)
    (sRet (eTup (aCons (eVar 5) (aCons (eBin gIx (eVar 4) (eC (.int 1))) (aCons (eBin gIx (eVar 4) (eC (.int 0))) aNil))))))))))))
def m_read_rule : List D → M D := pureM (defM 1 1 ((sRet (eCall m_rule_read (aCons (eVar 0) aNil)))))
def m__law_right_and_wrong : List D → M D := pureM (defM 1 3 ((sSeq (sSet 1 (eTup (aCons (eTup (aCons (eTup (aCons (eC (.int 0)) aNil)) (aCons (eTup (aCons (eC (.int 1)) aNil)) (aCons (eTup aNil) aNil)))) (aCons (eC (.bl false)) (aCons (eVar 0) aNil)))))
    (sSeq (sSet 2 (eDisp1 (eC (.str "rule")) (eTup (aCons (eVar 1) (aCons (eC (.str "rule")) (aCons (eLst false (aCons (eC .non) (aCons (eSl (eVar 1) oNone (oSome (eC (.int 2)))) (aCons (eCall (gList false) (aCons (eVar 1) aNil)) (aCons (eTup (aCons (eTup (aCons (eTup (aCons (eC (.int 0)) aNil)) (aCons (eTup (aCons (eC (.int 3)) aNil)) (aCons (eTup aNil) aNil)))) (aCons (eC (.bl false)) (aCons (eVar 0) aNil)))) (aCons (eRev (eVar 1) (oSome (eUn gNeg (eC (.int 1))))) aNil)))))) aNil))))))
    (sSeq (sPutD (eVar 2) (eC (.str "person")) (eTup (aCons (eC (.int 2)) (aCons (eC (.str "person")) (aCons (eLst false (aCons (eC .non) (aCons (eUn gNeg (eC (.int 1))) (aCons (eC (.int 3)) (aCons (eC (.bl true)) (aCons (eC (.str "0")) aNil)))))) aNil)))))
    (sSeq (sPutD (eVar 2) (eC (.str "outcome")) (eTup (aCons (eTup (aCons (eC (.int 2)) (aCons (eC (.int 0)) (aCons (eC (.int 1)) aNil)))) (aCons (eC (.str "outcome")) (aCons (eLst false (aCons (eC .non) (aCons (eTup (aCons (eC (.int 0)) (aCons (eC (.int 1)) aNil))) (aCons (eTup (aCons (eC (.int 0)) (aCons (eC (.int 0)) (aCons (eC (.int 1)) aNil)))) (aCons (eLst false (aCons (eC (.int 0)) (aCons (eC (.int 1)) (aCons (eC (.int 2)) aNil)))) (aCons (eTup (aCons (eC (.int 0)) (aCons (eC (.int 1)) (aCons (eC (.bl true)) aNil)))) aNil)))))) aNil)))))
    (sSeq (sPutD (eVar 2) (eC (.str "kind")) (eTup (aCons (eTup (aCons (eC (.str "own")) aNil)) (aCons (eC (.str "kind")) (aCons (eLst false (aCons (eC .non) (aCons (eTup aNil) (aCons (eLst false (aCons (eC (.str "own")) aNil)) (aCons (eC (.str "own")) (aCons (eTup (aCons (eC (.str "own")) (aCons (eC (.str "own")) aNil))) (aCons (eTup (aCons (eC (.str "mine")) aNil)) aNil))))))) aNil)))))
    (sSeq (sPutD (eVar 2) (eC (.str "few")) (eTup (aCons (eC (.int 6)) (aCons (eC (.str "number")) (aCons (eLst false (aCons (eC .non) (aCons (eC (.int 1)) (aCons (eC (.int 7)) (aCons (eC (.bl true)) (aCons (eC (.str "2")) aNil)))))) aNil)))))
    (sSeq (sPutD (eVar 2) (eC (.str "many")) (eTup (aCons (eBin gPow (eC (.int 10)) (eC (.int 20))) (aCons (eC (.str "number")) (aCons (eLst false (aCons (eC .non) (aCons (eC (.int 1)) (aCons (eUn gNeg (eC (.int 2))) (aCons (eC (.bl true)) (aCons (eC (.str "2")) aNil)))))) aNil)))))
    (sSeq (sPutD (eVar 2) (eC (.str "names")) (eTup (aCons (eTup (aCons (eC (.int 2)) (aCons (eC (.int 0)) aNil))) (aCons (eC (.str "names")) (aCons (eLst false (aCons (eC .non) (aCons (eLst false (aCons (eC (.int 2)) aNil)) (aCons (eTup (aCons (eC (.int 0)) (aCons (eC (.int 1)) (aCons (eC (.int 2)) aNil)))) (aCons (eTup (aCons (eC (.int 1)) (aCons (eC (.int 1)) aNil))) (aCons (eTup (aCons (eC (.int 3)) aNil)) (aCons (eTup (aCons (eC (.bl true)) aNil)) aNil))))))) aNil)))))
    (sSeq (sPutD (eVar 2) (eC (.str "seen")) (eTup (aCons (eTup (aCons (eC (.int 0)) (aCons (eTup (aCons (eC (.str "drew")) (aCons (eC (.str "drew")) (aCons (eC (.str "drew")) aNil)))) aNil))) (aCons (eC (.str "seen")) (aCons (eLst false (aCons (eC .non) (aCons (eTup (aCons (eC (.int 0)) aNil)) (aCons (eTup (aCons (eC (.int 0)) (aCons (eTup aNil) aNil))) (aCons (eLst false (aCons (eC (.int 0)) (aCons (eTup (aCons (eC (.str "drew")) aNil)) aNil))) (aCons (eTup (aCons (eC (.int 0)) (aCons (eBin gRepT (eTup (aCons (eC (.str "odd")) aNil)) (eC (.int 3))) aNil))) aNil)))))) aNil)))))
    (sRet (eVar 2)))))))))))))
def m__law_rule : List D → M D := defM 2 3 ((sSeq (sSet 2 (eBin (gAdd false) (eC (.int 2)) (eCall m__law_take (aCons (eVar 0) (aCons (eBin gSub (eVar 1) (eC (.int 1))) aNil)))))
    (sRet (eTup (aCons (eCall m__law_bars (aCons (eVar 0) (aCons (eVar 2) aNil))) (aCons (eBin (gEq false) (eCall m__law_take (aCons (eVar 0) (aCons (eC (.int 3)) aNil))) (eC (.int 0))) (aCons (eCall m__law_of (aCons (eVar 0) (aCons (eLst false (aCons (eC (.str "again")) (aCons (eC (.str "again")) (aCons (eC (.str "swap")) (aCons (eC (.str "swap")) (aCons (eC (.str "anew")) aNil)))))) aNil))) aNil)))))))
def m__law_shares_right : List D → M D := pureM (defM 5 7 ((sSeq (sPar 5 6 (eTup (aCons (eC (.int 1)) (aCons (eC (.int 2)) (aCons (eC (.int 0)) aNil)))) (eTup (aCons (eC (.int 2)) (aCons (eC (.int 0)) (aCons (eC (.int 1)) aNil)))))
    (sSeq (sIf (tOrM (tOf (eBin (gEq true) (eCall m_outcomes (aCons (eVar 0) aNil)) (eLst false (aCons (eTup (aCons (eVar 5) (aCons (eTup (aCons (eC (.int 1)) (aCons (eC (.int 3)) aNil))) aNil))) (aCons (eTup (aCons (eVar 6) (aCons (eTup (aCons (eC (.int 2)) (aCons (eC (.int 3)) aNil))) aNil))) aNil))))) (tOf (eBin (gEq true) (eCall m_outcomes (aCons (eVar 1) aNil)) (eLst false (aCons (eTup (aCons (eVar 5) (aCons (eTup (aCons (eC (.int 1)) (aCons (eC (.int 2)) aNil))) aNil))) (aCons (eTup (aCons (eVar 6) (aCons (eTup (aCons (eC (.int 1)) (aCons (eC (.int 2)) aNil))) aNil))) aNil)))))) (sRet (eC (.bl false))) sNil)
    (sSeq (sIf (tOrM (tOf (eBin (gEq true) (eCall m_outcomes (aCons (eVar 2) aNil)) (eLst false (aCons (eTup (aCons (eVar 5) (aCons (eTup (aCons (eC (.int 3)) (aCons (eC (.int 8)) aNil))) aNil))) (aCons (eTup (aCons (eVar 6) (aCons (eTup (aCons (eC (.int 5)) (aCons (eC (.int 8)) aNil))) aNil))) aNil))))) (tOrM (tOf (eCall m_is_fair (aCons (eVar 0) aNil))) (tNotM (tOf (eCall m_is_fair (aCons (eVar 1) aNil)))))) (sRet (eC (.bl false))) sNil)
    (sSeq (sIf (tOrM (tOf (eBin (gEq true) (eCall m_rarest (aCons (eVar 0) aNil)) (eLst false (aCons (eVar 5) aNil)))) (tOf (eBin (gEq true) (eLst false (aCons (eCall m_stuck_share (aCons (eVar 0) aNil)) (aCons (eCall m_stuck_share (aCons (eVar 1) aNil)) (aCons (eCall m_stuck_share (aCons (eVar 3) aNil)) aNil)))) (eLst false (aCons (eTup (aCons (eC (.int 1)) (aCons (eC (.int 4)) aNil))) (aCons (eTup (aCons (eC (.int 1)) (aCons (eC (.int 6)) aNil))) (aCons (eTup (aCons (eC (.int 0)) (aCons (eC (.int 1)) aNil))) aNil))))))) (sRet (eC (.bl false))) sNil)
    (sSeq (sIf (tOf (eBin (gEq true) (eLst false (aCons (eCall m_draws (aCons (eVar 0) aNil)) (aCons (eCall m_draws (aCons (eVar 1) aNil)) (aCons (eCall m_draws (aCons (eVar 4) aNil)) aNil)))) (eLst false (aCons (eTup (aCons (eC (.int 5)) (aCons (eC (.int 1)) aNil))) (aCons (eTup (aCons (eC (.int 6)) (aCons (eC (.int 1)) aNil))) (aCons (eTup (aCons (eC (.int 2)) (aCons (eC (.int 1)) aNil))) aNil)))))) (sRet (eC (.bl false))) sNil)
    (sSeq (sIf (tOrM (tOf (eBin (gEq true) (eCall m_length_shares (aCons (eVar 0) aNil)) (eLst false (aCons (eTup (aCons (eTup (aCons (eC (.int 3)) aNil)) (aCons (eTup (aCons (eC (.int 1)) (aCons (eC (.int 1)) aNil))) aNil))) aNil)))) (tOf (eBin (gEq true) (eCall m_length_shares (aCons (eVar 3) aNil)) (eLst false (aCons (eTup (aCons (eTup (aCons (eC (.int 2)) (aCons (eC (.int 2)) aNil))) (aCons (eTup (aCons (eC (.int 1)) (aCons (eC (.int 2)) aNil))) aNil))) (aCons (eTup (aCons (eTup (aCons (eC (.int 4)) aNil)) (aCons (eTup (aCons (eC (.int 1)) (aCons (eC (.int 2)) aNil))) aNil))) aNil)))))) (sRet (eC (.bl false))) sNil)
    (sSeq (sIf (tOrM (tTru (eCall m_alike (aCons (eVar 0) (aCons (eVar 1) aNil)))) (tOrM (tOf (eBin (gEq true) (eCall m_parting (aCons (eVar 0) (aCons (eVar 1) aNil))) (eVar 5))) (tNotM (tTru (eCall m_alike (aCons (eVar 3) (aCons (eBin (gAdd false) (eSl (eVar 3) oNone (oSome (eC (.int 2)))) (eTup (aCons (eC (.str "swap")) aNil))) aNil))))))) (sRet (eC (.bl false))) sNil)
    (sSeq (sIf (tOrM (tOf (eBin (gEq true) (eCall m_idle_bars (aCons (eVar 3) aNil)) (eLst false (aCons (eTup (aCons (eC (.int 0)) (aCons (eC (.int 0)) aNil))) (aCons (eTup (aCons (eC (.int 0)) (aCons (eC (.int 1)) aNil))) (aCons (eTup (aCons (eC (.int 1)) (aCons (eC (.int 0)) aNil))) (aCons (eTup (aCons (eC (.int 1)) (aCons (eC (.int 1)) aNil))) (aCons (eTup (aCons (eC (.int 2)) (aCons (eC (.int 2)) aNil))) (aCons (eTup (aCons (eC (.int 2)) (aCons (eC (.int 3)) aNil))) (aCons (eTup (aCons (eC (.int 3)) (aCons (eC (.int 2)) aNil))) (aCons (eTup (aCons (eC (.int 3)) (aCons (eC (.int 3)) aNil))) aNil))))))))))) (tOf (eBin (gEq true) (eCall m_least_bars (aCons (eVar 3) aNil)) (eLst false (aCons (eTup aNil) aNil))))) (sRet (eC (.bl false))) sNil)
    (sSeq (sIf (tOf (eBin (gEq true) (eCall m_least_bars (aCons (eVar 0) aNil)) (eLst false (aCons (eTup (aCons (eTup (aCons (eC (.int 0)) (aCons (eC (.int 1)) aNil))) aNil)) (aCons (eTup (aCons (eTup (aCons (eC (.int 2)) (aCons (eC (.int 2)) aNil))) aNil)) aNil))))) (sRet (eC (.bl false))) sNil)
    (sRet (eBin (gEq false) (eCall m_least_bars (aCons (eTup (aCons (eTup (aCons (eTup (aCons (eC (.int 0)) (aCons (eC (.int 1)) aNil))) (aCons (eTup aNil) aNil))) (aCons (eC (.bl false)) (aCons (eC (.str "again")) aNil)))) aNil)) (eLst false (aCons (eTup (aCons (eTup (aCons (eC (.int 0)) (aCons (eC (.int 0)) aNil))) aNil)) (aCons (eTup (aCons (eTup (aCons (eC (.int 0)) (aCons (eC (.int 1)) aNil))) aNil)) aNil))))))))))))))))
def m__law_short : List D → M D := pureM (defM 1 5 ((sSeq (sAsg (gTupl 3 (gsCons (gVar 1) (gsCons (gVar 2) (gsCons (gVar 3) gsNil)))) (eVar 0))
    (sSeq (sIf (tOrM (tNotM (tOf (eBin gGe (eVar 2) (eC (.int 2))))) (tOrM (tOf (eBin (gEq true) (eLc false (iSeq (eVar 1)) (gVar 4) (tNotM (tOf (eChain gLe gLt (eC (.int 2)) (eVar 4) (eVar 2)))) (eVar 4) [4]) (eLst false aNil))) (tOf (eBin (gEq true) (eCall (gList false) (aCons (eVar 1) aNil)) (eSortSetZ (eVar 1)))))) (sRet (eC (.bl false))) sNil)
    (sSeq (sIf (tOf (eBin (gIn true) (eVar 3) (eLst false (aCons (eTup aNil) (aCons (eTup (aCons (eC (.int 0)) aNil)) (aCons (eTup (aCons (eC (.int 1)) aNil)) (aCons (eTup (aCons (eC (.int 0)) (aCons (eC (.int 1)) aNil))) aNil))))))) (sRet (eC (.bl false))) sNil)
    (sRet (eOr (eBin (gEq false) (eVar 2) (eC (.int 2))) (eBin (gEq true) (eBin (gIn false) (eBin gSub (eVar 2) (eC (.int 1))) (eVar 1)) (eBin (gIn false) (eBin gMod (eBin gSub (eVar 2) (eC (.int 1))) (eC (.int 2))) (eVar 3))))))))))
def m__law_sizes : List D → M D := pureM (defM 1 6 ((sSeq (sPar 2 3 (eLst true aNil) (eLst true aNil))
    (sSeq (sFor (iRange1 (eCall gLen (aCons (eVar 0) aNil))) (gVar 1) (sSeq (sPar 4 5 (eLst true aNil) (eVar 1))
    (sSeq (sWhile (fun _ _ => 100000) (tOf (eBin (gIn true) (eVar 5) (eVar 4))) (sSeq (sExp (eMth (gMut hAppend) (eVar 4) (aCons (eVar 5) aNil)))
    (sSet 5 (eBin gIx (eVar 0) (eVar 5)))))
    (sIf (tOf (eBin (gIn true) (eCall gSorted (aCons (eVar 4) aNil)) (eVar 3))) (sSeq (sExp (eMth (gMut hAppend) (eVar 3) (aCons (eCall gSorted (aCons (eVar 4) aNil)) aNil)))
    (sExp (eMth (gMut hAppend) (eVar 2) (aCons (eCall gLen (aCons (eVar 4) aNil)) aNil)))) sNil))))
    (sRet (eCall gTuple (aCons (eCall gSorted (aCons (eVar 2) aNil)) aNil)))))))
def f__law_spoiled : Nat → List D → M D
  | 0 => fun _ _ => .bad
  | r + 1 => defM 2 5 ((sSeq (sIf (tOrM (tNotM (tOf (eCall gIsi (aCons (eVar 1) (aCons (eC (.raw (.ty "tuple"))) aNil))))) (tOrM (tOf (eBin (gEq false) (eVar 1) (eTup aNil))) (tOf (eBin (gEq false) (eCall m__law_take (aCons (eVar 0) (aCons (eC (.int 6)) aNil))) (eC (.int 0)))))) (sSeq (sSet 2 (eLst false (aCons (eCall m__law_any_value (aCons (eVar 0) (aCons (eC (.int 1)) aNil))) (aCons (eLst false (aCons (eVar 1) aNil)) aNil))))
    (sSeq (sIf (tOf (eCall gIsi (aCons (eVar 1) (aCons (eC (.raw (.ty "str"))) aNil)))) (sSet 2 (eBin (gAdd false) (eVar 2) (eLst false (aCons (eBin (gAdd false) (eVar 1) (eC (.str "s"))) (aCons (eC (.str "anew")) (aCons (eC (.str "again")) (aCons (eC (.str "partner")) (aCons (eC (.str "next")) aNil)))))))) sNil)
    (sSeq (sIf (tOf (eCall gIsi (aCons (eVar 1) (aCons (eC (.raw (.ty "bool"))) aNil)))) (sSet 2 (eBin (gAdd false) (eVar 2) (eLst false (aCons (eNot (eVar 1)) (aCons (eCall gInt1 (aCons (eVar 1) aNil)) aNil))))) (sIf (tOf (eCall gIsi (aCons (eVar 1) (aCons (eC (.raw (.ty "int"))) aNil)))) (sSet 2 (eBin (gAdd false) (eVar 2) (eLst false (aCons (eBin (gAdd false) (eVar 1) (eC (.int 1))) (aCons (eBin gSub (eVar 1) (eC (.int 1))) (aCons (eC (.int 5)) (aCons (eC (.int 0)) aNil))))))) sNil))
    (sRet (eCall m__law_of (aCons (eVar 0) (aCons (eVar 2) aNil))))))) sNil)
    (sSeq (sPar 3 4 (eCall m__law_take (aCons (eVar 0) (aCons (eCall gLen (aCons (eVar 1) aNil)) aNil))) (eCall m__law_take (aCons (eVar 0) (aCons (eC (.int 8)) aNil))))
    (sSeq (sIf (tOf (eBin (gEq false) (eVar 4) (eC (.int 0)))) (sRet (eBin (gAdd false) (eSl (eVar 1) oNone (oSome (eVar 3))) (eSl (eVar 1) (oSome (eBin (gAdd false) (eVar 3) (eC (.int 1)))) oNone))) sNil)
    (sSeq (sIf (tOf (eBin (gEq false) (eVar 4) (eC (.int 1)))) (sRet (eBin (gAdd false) (eBin (gAdd false) (eSl (eVar 1) oNone (oSome (eVar 3))) (eBin gRepT (eSl (eVar 1) (oSome (eVar 3)) (oSome (eBin (gAdd false) (eVar 3) (eC (.int 1))))) (eC (.int 2)))) (eSl (eVar 1) (oSome (eBin (gAdd false) (eVar 3) (eC (.int 1)))) oNone))) sNil)
    (sSeq (sIf (tOf (eBin (gEq false) (eVar 4) (eC (.int 2)))) (sRet (eRev (eVar 1) (oSome (eUn gNeg (eC (.int 1)))))) sNil)
    (sSeq (sIf (tOf (eBin (gEq false) (eVar 4) (eC (.int 3)))) (sRet (eCall (gList false) (aCons (eVar 1) aNil))) sNil)
    (sRet (eBin (gAdd false) (eBin (gAdd false) (eSl (eVar 1) oNone (oSome (eVar 3))) (eTup (aCons (eCall (f__law_spoiled r) (aCons (eVar 0) (aCons (eBin gIx (eVar 1) (eVar 3)) aNil))) aNil))) (eSl (eVar 1) (oSome (eBin (gAdd false) (eVar 3) (eC (.int 1)))) oNone))))))))))
def m__law_spoiled : List D → M D := f__law_spoiled 9
def m__law_swap_due : List D → M D := pureM (defM 3 9 ((sSeq (sAsg (gTupl 4 (gsCons (gVar 4) (gsCons (gVar 5) (gsCons (gVar 6) (gsCons (gVar 7) gsNil))))) (eVar 1))
    (sSeq (sIf (tOf (eBin (gEq false) (eCall gLen (aCons (eVar 4) aNil)) (eCall gLen (aCons (eBin gIx (eVar 0) (eC (.int 0))) aNil)))) (sRet (eTup (aCons (eC .non) (aCons (eC (.str "over")) aNil)))) sNil)
    (sSeq (sIf (tOrM (tOf (eBin (gEq true) (eCall m__law_let (aCons (eVar 0) (aCons (eVar 4) aNil))) (eLst false aNil))) (tOf (eBin (gEq true) (eBin gIx (eVar 0) (eC (.int 2))) (eC (.str "swap"))))) (sRet (eTup (aCons (eC .non) (aCons (eC (.str "going")) aNil)))) sNil)
    (sSeq (sIf (tOf (eBin (gIn true) (eCall gStrI (aCons (eVar 2) aNil)) (eLc false (iSeq (eCall m__law_pairs (aCons (eVar 0) (aCons (eVar 4) aNil)))) (gVar 8) tYesM (eCall gStrI (aCons (eVar 8) aNil)) [8]))) (sRet (eTup (aCons (eC .non) (aCons (eC (.str "exchange")) aNil)))) sNil)
    (sSeq (sSet 3 (eBin (gAdd false) (eBin (gAdd false) (eBin (gAdd false) (eBin (gAdd false) (eCall gStrI (aCons (eCall gLen (aCons (eVar 4) aNil)) aNil)) (eC (.str " swaps "))) (eCall gStrI (aCons (eBin gIx (eVar 2) (eC (.int 0))) aNil))) (eC (.str " "))) (eCall gStrI (aCons (eBin gIx (eVar 2) (eC (.int 1))) aNil))))
    (sRet (eTup (aCons (eTup (aCons (eCall m__law_swapped (aCons (eVar 4) (aCons (eBin gIx (eVar 2) (eC (.int 0))) (aCons (eBin gIx (eVar 2) (eC (.int 1))) aNil)))) (aCons (eVar 5) (aCons (eVar 6) (aCons (eBin (gAdd false) (eVar 7) (eTup (aCons (eVar 3) aNil))) aNil))))) (aCons (eBin gIx (eVar 4) (eBin gIx (eVar 2) (eC (.int 0)))) aNil)))))))))))
def m__law_three : List D → M D := pureM (defM 0 1 ((sSeq (sSet 0 (eTup (aCons (eTup (aCons (eTup (aCons (eC (.int 0)) aNil)) (aCons (eTup (aCons (eC (.int 1)) aNil)) (aCons (eTup (aCons (eC (.int 2)) aNil)) aNil)))) (aCons (eC (.bl false)) aNil))))
    (sRet (eTup (aCons (eBin (gAdd false) (eVar 0) (eTup (aCons (eC (.str "again")) aNil))) (aCons (eBin (gAdd false) (eVar 0) (eTup (aCons (eC (.str "anew")) aNil))) (aCons (eBin (gAdd false) (eVar 0) (eTup (aCons (eC (.str "swap")) aNil))) aNil))))))))
def m__law_told_right : List D → M D := pureM (defM 2 4 ((sSeq (sSet 2 (eLst false (aCons (eCall m_is_rule (aCons (eVar 1) aNil)) (aCons (eCall m_is_kind (aCons (eVar 1) aNil)) (aCons (eCall m_is_outcome (aCons (eVar 0) (aCons (eVar 1) aNil))) aNil)))))
    (sSeq (sIf (tOf (eBin (gEq true) (eLc false (iSeq (eVar 2)) (gVar 3) (tNotM (tOf (eCall gIsi (aCons (eVar 3) (aCons (eC (.raw (.ty "bool"))) aNil))))) (eVar 3) [3]) (eLst false aNil))) (sRet (eC (.bl false))) sNil)
    (sRet (eBin (gEq false) (eVar 2) (eLst false (aCons (eCall m__law_is_rule (aCons (eVar 1) aNil)) (aCons (eCall m__law_is_kind (aCons (eVar 1) aNil)) (aCons (eCall m__law_is_outcome (aCons (eVar 0) (aCons (eVar 1) aNil))) aNil))))))))))
def f__law_weighed : Nat → List D → M D
  | 0 => fun _ _ => .bad
  | r + 1 => pureM (defM 3 16 ((sSeq (sSet 3 (eBin gSub (eCall gLen (aCons (eBin gIx (eVar 0) (eC (.int 0))) aNil)) (eCall gLen (aCons (eVar 1) aNil))))
    (sSeq (sIf (tOf (eBin (gEq false) (eVar 3) (eC (.int 0)))) (sRet (eTup (aCons (eTup (aCons (eC (.int 0)) (aCons (eC (.int 1)) aNil))) (aCons (eTup (aCons (eC (.int 0)) (aCons (eC (.int 1)) aNil))) (aCons (eVar 2) aNil))))) sNil)
    (sSeq (sPar 7 8 (eCall m__law_let (aCons (eVar 0) (aCons (eVar 1) aNil))) (eTup (aCons (eTup (aCons (eC (.int 0)) (aCons (eC (.int 1)) aNil))) (aCons (eTup (aCons (eC (.int 0)) (aCons (eC (.int 1)) aNil))) (aCons (eTup (aCons (eC (.int 0)) (aCons (eC (.int 1)) aNil))) aNil)))))
    (sSeq (sSet 4 (eLc false (iSeq (eVar 7)) (gVar 12) tYesM (eBin (gAdd false) (eVar 1) (eTup (aCons (eVar 12) aNil))) [12]))
    (sSeq (sIf (tAndM (tOf (eBin (gEq false) (eVar 7) (eLst false aNil))) (tOf (eBin (gEq false) (eBin gIx (eVar 0) (eC (.int 2))) (eC (.str "swap"))))) (sSet 4 (eLc false (iSeq (eCall m__law_pairs (aCons (eVar 0) (aCons (eVar 1) aNil)))) (gTupl 2 (gsCons (gVar 13) (gsCons (gVar 12) gsNil))) tYesM (eCall m__law_swapped (aCons (eVar 1) (aCons (eVar 13) (aCons (eVar 12) aNil)))) [13, 12])) sNil)
    (sSeq (sIf (tAndM (tOf (eBin (gEq true) (eVar 7) (eLst false aNil))) (tOf (eBin (gEq false) (eBin gIx (eVar 0) (eC (.int 2))) (eC (.str "anew"))))) (sPar 9 10 (eTup (aCons (eBin gIx (eVar 2) (eC (.int 0))) (aCons (eBin gMulI (eBin gIx (eVar 2) (eC (.int 1))) (eVar 3)) aNil))) (eVar 2)) (sSeq (sSet 9 (eTup (aCons (eBin gIx (eVar 2) (eC (.int 0))) (aCons (eBin gMulI (eBin gIx (eVar 2) (eC (.int 1))) (eCall gMax2 (aCons (eC (.int 1)) (aCons (eCall gLen (aCons (eVar 4) aNil)) aNil)))) aNil))))
    (sSet 10 (eIf (tOf (eBin (gEq true) (eVar 7) (eLst false aNil))) (eTup (aCons (eBin gMulI (eBin gIx (eVar 2) (eC (.int 0))) (eVar 3)) (aCons (eBin gMulI (eBin gIx (eVar 2) (eC (.int 1))) (eCall gLen (aCons (eVar 7) aNil))) aNil))) (eTup (aCons (eC (.int 0)) (aCons (eC (.int 1)) aNil)))))))
    (sSeq (sFor (iSeq (eVar 4)) (gVar 5) (sSeq (sSet 11 (eCall (f__law_weighed r) (aCons (eVar 0) (aCons (eVar 5) (aCons (eVar 9) aNil)))))
    (sSet 8 (eCall gTuple (aCons (eLc false (iZip (eVar 8) (eVar 11)) (gTupl 2 (gsCons (gVar 14) (gsCons (gVar 15) gsNil))) tYesM (eCall m__law_plus (aCons (eVar 14) (aCons (eVar 15) aNil))) [14, 15]) aNil)))))
    (sSeq (sSet 6 (eIf (tOf (eBin (gEq false) (eVar 7) (eLst false aNil))) (eVar 2) (eBin gIx (eVar 8) (eC (.int 0)))))
    (sRet (eTup (aCons (eCall m__law_lowest (aCons (eBin gIx (eVar 6) (eC (.int 0))) (aCons (eBin gIx (eVar 6) (eC (.int 1))) aNil))) (aCons (eCall m__law_plus (aCons (eBin gIx (eVar 8) (eC (.int 1))) (aCons (eVar 10) aNil))) (aCons (eBin gIx (eVar 8) (eC (.int 2))) aNil)))))))))))))))
def m__law_weighed : List D → M D := f__law_weighed 8
def m__law_whole : List D → M D := pureM (defM 1 6 ((sSeq (sPar 1 2 (eC (.int 0)) (eC (.int 1)))
    (sSeq (sFor (iSeq (eVar 0)) (gTupl 2 (gsCons (gVar 3) (gsCons (gTupl 2 (gsCons (gVar 4) (gsCons (gVar 5) gsNil))) gsNil))) (sPar 1 2 (eBin (gAdd false) (eBin gMulI (eVar 1) (eVar 5)) (eBin gMulI (eVar 4) (eVar 2))) (eBin gMulI (eVar 2) (eVar 5))))
    (sRet (eBin (gEq false) (eVar 1) (eVar 2)))))))
def m__wall : List D → M D := pureM (defM 1 1 ((sWhile (fun _ _ => 100000) (tOf (eC (.bl true))) sNil)))
def m_is_bar : List D → M D := pureM (defM 2 2 ((sSeq (sIf (tOrM (tNotM (tOf (eCall gIsi (aCons (eVar 1) (aCons (eC (.raw (.ty "tuple"))) aNil))))) (tOf (eBin (gEq true) (eCall gLen (aCons (eVar 1) aNil)) (eC (.int 2))))) (sRet (eC (.bl false))) sNil)
    (sRet (eAnd (eCall m_is_from (aCons (eBin gIx (eVar 1) (eC (.int 0))) (aCons (eC (.int 0)) (aCons (eBin gSub (eCall gLen (aCons (eBin gIx (eVar 0) (eC (.int 0))) aNil)) (eC (.int 1))) aNil)))) (eCall m_is_from (aCons (eBin gIx (eVar 1) (eC (.int 1))) (aCons (eC (.int 0)) (aCons (eBin gSub (eCall gLen (aCons (eBin gIx (eVar 0) (eC (.int 0))) aNil)) (eC (.int 1))) aNil)))))))))
def m_with_bar : List D → M D := pureM (defM 3 3 ((sSeq (sIf (tOrM (tNotM (tOf (eCall m_is_bar (aCons (eVar 0) (aCons (eVar 1) aNil))))) (tOf (eBin (gEq true) (eBin (gIn false) (eBin gIx (eVar 1) (eC (.int 1))) (eBin gIx (eBin gIx (eVar 0) (eC (.int 0))) (eBin gIx (eVar 1) (eC (.int 0))))) (eVar 2)))) sBad sNil)
    (sRet (eCall m_turned_over (aCons (eVar 0) (aCons (eVar 1) aNil)))))))
def m_law : List D → M D := pureM (defM 1 18 ((sSeq (sSet 1 (eLst false (aCons (eC (.str "before")) (aCons (eC (.str "mutual")) (aCons (eC (.str "next")) (aCons (eC (.str "own")) (aCons (eC (.str "partner")) aNil)))))))
    (sSeq (sFor (iRange1 (eCall gMax2 (aCons (eC (.int 4)) (aCons (eCall gMin2 (aCons (eC (.int 10)) (aCons (eBin (gAdd false) (eCall gLen (aCons (eVar 0) aNil)) (eC (.int 3))) aNil))) aNil)))) (gVar 2) (sSeq (sSet 4 (eCall m__law_bag (aCons (eVar 0) (aCons (eVar 2) aNil))))
    (sSeq (sAsg (gTupl 2 (gsCons (gVar 10) (gsCons (gVar 11) gsNil))) (eTup (aCons (eCall m__law_rule (aCons (eVar 4) (aCons (eC (.int 6)) aNil))) (aCons (eCall gTuple (aCons (eLc false (iSeq (eVar 1)) (gVar 16) (tOf (eBin (gEq false) (eCall m__law_take (aCons (eVar 4) (aCons (eC (.int 2)) aNil))) (eC (.int 0)))) (eVar 16) [16]) aNil)) aNil))))
    (sSeq (sSet 5 (eCall m__law_order (aCons (eVar 4) (aCons (eCall gLen (aCons (eBin gIx (eVar 10) (eC (.int 0))) aNil)) aNil))))
    (sSeq (sSet 6 (eLst false (aCons (eVar 10) (aCons (eVar 10) (aCons (eVar 11) (aCons (eVar 5) (aCons (eRev (eVar 11) (oSome (eUn gNeg (eC (.int 1))))) (aCons (eBin gIx (eVar 10) (eC (.int 0))) aNil))))))))
    (sSeq (sFor (iRange1 (eC (.int 12))) (gVar 7) (sSeq (sSet 12 (eCall m__law_of (aCons (eVar 4) (aCons (eVar 6) aNil))))
    (sSeq (sSet 13 (eLst true (aCons (eVar 12) (aCons (eCall m__law_spoiled (aCons (eVar 4) (aCons (eVar 12) aNil))) (aCons (eCall m__law_spoiled (aCons (eVar 4) (aCons (eVar 12) aNil))) aNil)))))
    (sSeq (sExp (eMth (gMut hAppend) (eVar 13) (aCons (eCall m__law_any_value (aCons (eVar 4) (aCons (eC (.int 2)) aNil))) aNil)))
    (sIf (tNotM (tTru (eCall m__law_told_right (aCons (eVar 10) (aCons (eCall m__law_of (aCons (eVar 4) (aCons (eVar 13) aNil))) aNil))))) (sRet (eC (.bl false))) sNil)))))
    (sSeq (sIf (tOf (eBin (gEq true) (eCall m_lengths (aCons (eVar 10) (aCons (eVar 5) aNil))) (eCall m__law_lengths (aCons (eVar 5) aNil)))) (sRet (eC (.bl false))) sNil)
    (sIf (tOf (eBin (gEq true) (eVar 11) (eTup aNil))) (sSeq (sSet 14 (eBin (gAdd false) (eC (.int 2)) (eCall m__law_take (aCons (eVar 4) (aCons (eC (.int 5)) aNil)))))
    (sSeq (sSet 15 (eCall gTuple (aCons (eLc false (iRange1 (eVar 14)) (gVar 17) tYesM (eCall m__law_barred (aCons (eVar 11) (aCons (eVar 14) (aCons (eVar 17) aNil)))) [17]) aNil)))
    (sIf (tOf (eBin (gEq true) (eCall m_rule_for (aCons (eVar 11) (aCons (eVar 14) aNil))) (eTup (aCons (eVar 15) (aCons (eBin (gIn false) (eC (.str "mutual")) (eVar 11)) (aCons (eC (.str "again")) aNil)))))) (sRet (eC (.bl false))) sNil))) sNil))))))))
    (sSeq (sAsg (gTupl 2 (gsCons (gVar 8) (gsCons (gVar 9) gsNil))) (eTup (aCons (eTup (aCons (eTup (aCons (eTup aNil) (aCons (eTup aNil) aNil))) (aCons (eC (.bl false)) (aCons (eC (.str "again")) aNil)))) (aCons (eBin gRepT (eTup (aCons (eTup (aCons (eC (.int 0)) (aCons (eC (.int 1)) (aCons (eC (.int 2)) (aCons (eC (.int 3)) (aCons (eC (.int 4)) (aCons (eC (.int 5)) aNil))))))) aNil)) (eC (.int 6))) aNil))))
    (sSeq (sSet 3 (eLst true (aCons (eTup (aCons (eVar 9) (aCons (eC (.bl true)) (aCons (eC (.str "swap")) aNil)))) (aCons (eTup (aCons (eBin (gAdd false) (eVar 9) (eTup (aCons (eTup aNil) aNil))) (aCons (eC (.bl true)) (aCons (eC (.str "swap")) aNil)))) (aCons (eTup (aCons (eTup (aCons (eTup aNil) aNil)) (aCons (eC (.bl true)) (aCons (eC (.str "swap")) aNil)))) (aCons (eTup (aCons (eTup (aCons (eTup (aCons (eC (.int 0)) (aCons (eC (.int 2)) aNil))) (aCons (eTup aNil) aNil))) (aCons (eC (.bl true)) (aCons (eC (.str "anew")) aNil)))) aNil))))))
    (sSeq (sSet 3 (eBin (gAdd true) (eVar 3) (eLst false (aCons (eTup (aCons (eTup (aCons (eTup aNil) (aCons (eTup aNil) aNil))) (aCons (eC (.int 1)) (aCons (eC (.str "anew")) aNil)))) (aCons (eTup (aCons (eTup (aCons (eTup aNil) (aCons (eTup aNil) aNil))) (aCons (eC (.bl true)) (aCons (eC (.str "back")) aNil)))) (aCons (eTup (aCons (eC (.str "own")) (aCons (eC (.str "own")) aNil))) (aCons (eTup (aCons (eC (.str "own")) (aCons (eC (.str "partner")) aNil))) aNil)))))))
    (sSeq (sExp (eMth (gMut hAppend) (eVar 3) (aCons (eTup (aCons (eC (.str "partner")) (aCons (eC (.str "own")) aNil))) aNil)))
    (sSeq (sSet 3 (eBin (gAdd true) (eVar 3) (eLst false (aCons (eTup (aCons (eC (.int 0)) (aCons (eC (.int 1)) aNil))) (aCons (eTup (aCons (eC (.int 1)) (aCons (eC (.int 0)) aNil))) (aCons (eTup (aCons (eC (.int 0)) (aCons (eC (.int 0)) aNil))) (aCons (eTup (aCons (eC (.bl true)) (aCons (eC (.int 0)) aNil))) (aCons (eTup (aCons (eC (.int 0)) (aCons (eC (.int 1)) (aCons (eC (.int 2)) aNil)))) (aCons (eTup aNil) aNil)))))))))
    (sRet (eBin (gEq false) (eLc false (iSeq (eVar 3)) (gVar 12) (tNotM (tTru (eCall m__law_told_right (aCons (eVar 8) (aCons (eVar 12) aNil))))) (eVar 12) [12]) (eLst false aNil))))))))))))
end Lw
namespace Lw
open PySem PySem.Spec PyProof.Rows L2 DL
structure Fx [WC] [FA] (K : PySem.W.Frag) (mg : Str → Option Value) : Prop where
  d__law_bag : ∃ f, mg "_law_bag" = some (.ref f) ∧ ∃ fd, FunD K "_law_bag" "_law_bag" (defArgs (Hd.top 32)) (defBody (Hd.top 32)) (defScope (Hd.top 32)) [] [] f fd
  d__law_take : ∃ f, mg "_law_take" = some (.ref f) ∧ ∃ fd, FunD K "_law_take" "_law_take" (defArgs (Hd.top 33)) (defBody (Hd.top 33)) (defScope (Hd.top 33)) [] [] f fd
  d__law_of : ∃ f, mg "_law_of" = some (.ref f) ∧ ∃ fd, FunD K "_law_of" "_law_of" (defArgs (Hd.top 34)) (defBody (Hd.top 34)) (defScope (Hd.top 34)) [] [] f fd
  d__law_order : ∃ f, mg "_law_order" = some (.ref f) ∧ ∃ fd, FunD K "_law_order" "_law_order" (defArgs (Hd.top 44)) (defBody (Hd.top 44)) (defScope (Hd.top 44)) [] [] f fd
  d__law_bars : ∃ f, mg "_law_bars" = some (.ref f) ∧ ∃ fd, FunD K "_law_bars" "_law_bars" (defArgs (Hd.top 35)) (defBody (Hd.top 35)) (defScope (Hd.top 35)) [] [] f fd
  d__law_rule : ∃ f, mg "_law_rule" = some (.ref f) ∧ ∃ fd, FunD K "_law_rule" "_law_rule" (defArgs (Hd.top 36)) (defBody (Hd.top 36)) (defScope (Hd.top 36)) [] [] f fd
  d_is_ascending : ∃ f, mg "is_ascending" = some (.ref f) ∧ ∃ fd, FunD K "is_ascending" "is_ascending" (defArgs (Hd.top 15)) (defBody (Hd.top 15)) (defScope (Hd.top 15)) [] [] f fd
  d_is_number : ∃ f, mg "is_number" = some (.ref f) ∧ ∃ fd, FunD K "is_number" "is_number" (defArgs (Hd.top 13)) (defBody (Hd.top 13)) (defScope (Hd.top 13)) [] [] f fd
  d_is_from : ∃ f, mg "is_from" = some (.ref f) ∧ ∃ fd, FunD K "is_from" "is_from" (defArgs (Hd.top 14)) (defBody (Hd.top 14)) (defScope (Hd.top 14)) [] [] f fd
  d_are_names : ∃ f, mg "are_names" = some (.ref f) ∧ ∃ fd, FunD K "are_names" "are_names" (defArgs (Hd.top 16)) (defBody (Hd.top 16)) (defScope (Hd.top 16)) [] [] f fd
  d_is_rule : ∃ f, mg "is_rule" = some (.ref f) ∧ ∃ fd, FunD K "is_rule" "is_rule" (defArgs (Hd.top 17)) (defBody (Hd.top 17)) (defScope (Hd.top 17)) [] [] f fd
  d_need_rule : ∃ f, mg "need_rule" = some (.ref f) ∧ ∃ fd, FunD K "need_rule" "need_rule" (defArgs (Hd.top 21)) (defBody (Hd.top 21)) (defScope (Hd.top 21)) [] [] f fd
  d_are_different : ∃ f, mg "are_different" = some (.ref f) ∧ ∃ fd, FunD K "are_different" "are_different" (defArgs (Hd.top 19)) (defBody (Hd.top 19)) (defScope (Hd.top 19)) [] [] f fd
  d_is_outcome_for : ∃ f, mg "is_outcome_for" = some (.ref f) ∧ ∃ fd, FunD K "is_outcome_for" "is_outcome_for" (defArgs (Hd.top 20)) (defBody (Hd.top 20)) (defScope (Hd.top 20)) [] [] f fd
  d_need_outcome : ∃ f, mg "need_outcome" = some (.ref f) ∧ ∃ fd, FunD K "need_outcome" "need_outcome" (defArgs (Hd.top 24)) (defBody (Hd.top 24)) (defScope (Hd.top 24)) [] [] f fd
  d_lengths_of : ∃ f, mg "lengths_of" = some (.ref f) ∧ ∃ fd, FunD K "lengths_of" "lengths_of" (defArgs (Hd.top 27)) (defBody (Hd.top 27)) (defScope (Hd.top 27)) [] [] f fd
  d_lengths : ∃ f, mg "lengths" = some (.ref f) ∧ ∃ fd, FunD K "lengths" "lengths" (defArgs (Hd.top 30)) (defBody (Hd.top 30)) (defScope (Hd.top 30)) [] [] f fd
  d__law_lengths : ∃ f, mg "_law_lengths" = some (.ref f) ∧ ∃ fd, FunD K "_law_lengths" "_law_lengths" (defArgs (Hd.top 45)) (defBody (Hd.top 45)) (defScope (Hd.top 45)) [] [] f fd
  d__law_any_value : ∃ f, mg "_law_any_value" = some (.ref f) ∧ ∃ fd, FunD K "_law_any_value" "_law_any_value" (defArgs (Hd.top 37)) (defBody (Hd.top 37)) (defScope (Hd.top 37)) [] [] f fd
  d__law_spoiled : ∃ f, mg "_law_spoiled" = some (.ref f) ∧ ∃ fd, FunD K "_law_spoiled" "_law_spoiled" (defArgs (Hd.top 38)) (defBody (Hd.top 38)) (defScope (Hd.top 38)) [] [] f fd
  d_is_kind : ∃ f, mg "is_kind" = some (.ref f) ∧ ∃ fd, FunD K "is_kind" "is_kind" (defArgs (Hd.top 18)) (defBody (Hd.top 18)) (defScope (Hd.top 18)) [] [] f fd
  d_is_outcome : ∃ f, mg "is_outcome" = some (.ref f) ∧ ∃ fd, FunD K "is_outcome" "is_outcome" (defArgs (Hd.top 28)) (defBody (Hd.top 28)) (defScope (Hd.top 28)) [] [] f fd
  d__law_int : ∃ f, mg "_law_int" = some (.ref f) ∧ ∃ fd, FunD K "_law_int" "_law_int" (defArgs (Hd.top 39)) (defBody (Hd.top 39)) (defScope (Hd.top 39)) [] [] f fd
  d__law_is_rule : ∃ f, mg "_law_is_rule" = some (.ref f) ∧ ∃ fd, FunD K "_law_is_rule" "_law_is_rule" (defArgs (Hd.top 40)) (defBody (Hd.top 40)) (defScope (Hd.top 40)) [] [] f fd
  d__law_is_kind : ∃ f, mg "_law_is_kind" = some (.ref f) ∧ ∃ fd, FunD K "_law_is_kind" "_law_is_kind" (defArgs (Hd.top 41)) (defBody (Hd.top 41)) (defScope (Hd.top 41)) [] [] f fd
  d__law_is_outcome : ∃ f, mg "_law_is_outcome" = some (.ref f) ∧ ∃ fd, FunD K "_law_is_outcome" "_law_is_outcome" (defArgs (Hd.top 42)) (defBody (Hd.top 42)) (defScope (Hd.top 42)) [] [] f fd
  d__law_told_right : ∃ f, mg "_law_told_right" = some (.ref f) ∧ ∃ fd, FunD K "_law_told_right" "_law_told_right" (defArgs (Hd.top 43)) (defBody (Hd.top 43)) (defScope (Hd.top 43)) [] [] f fd
  d_need_kind : ∃ f, mg "need_kind" = some (.ref f) ∧ ∃ fd, FunD K "need_kind" "need_kind" (defArgs (Hd.top 22)) (defBody (Hd.top 22)) (defScope (Hd.top 22)) [] [] f fd
  d_need_number : ∃ f, mg "need_number" = some (.ref f) ∧ ∃ fd, FunD K "need_number" "need_number" (defArgs (Hd.top 23)) (defBody (Hd.top 23)) (defScope (Hd.top 23)) [] [] f fd
  d_barred_by : ∃ f, mg "barred_by" = some (.ref f) ∧ ∃ fd, FunD K "barred_by" "barred_by" (defArgs (Hd.top 25)) (defBody (Hd.top 25)) (defScope (Hd.top 25)) [] [] f fd
  d_rule_of : ∃ f, mg "rule_of" = some (.ref f) ∧ ∃ fd, FunD K "rule_of" "rule_of" (defArgs (Hd.top 26)) (defBody (Hd.top 26)) (defScope (Hd.top 26)) [] [] f fd
  d_rule_for : ∃ f, mg "rule_for" = some (.ref f) ∧ ∃ fd, FunD K "rule_for" "rule_for" (defArgs (Hd.top 29)) (defBody (Hd.top 29)) (defScope (Hd.top 29)) [] [] f fd
  d__law_barred : ∃ f, mg "_law_barred" = some (.ref f) ∧ ∃ fd, FunD K "_law_barred" "_law_barred" (defArgs (Hd.top 46)) (defBody (Hd.top 46)) (defScope (Hd.top 46)) [] [] f fd
  fa : FaOk mg
  b_abs : mg "abs" = none
  b_all : mg "all" = none
  b_bool : mg "bool" = none
  b_int : mg "int" = none
  b_isinstance : mg "isinstance" = none
  b_len : mg "len" = none
  b_list : mg "list" = none
  b_max : mg "max" = none
  b_min : mg "min" = none
  b_range : mg "range" = none
  b_set : mg "set" = none
  b_sorted : mg "sorted" = none
  b_str : mg "str" = none
  b_tuple : mg "tuple" = none
  b_zip : mg "zip" = none
  c_AGAIN : ∃ t, mg "AGAIN" = some (.str "again" t)
  c_MOST : ∃ t, mg "MOST" = some (.int 6 t)
  c_WAYS : ∃ a, mg "WAYS" = some (.ref a) ∧ ∀ F θ, Rep K F θ (.ref a) (.tup [.str "again", .str "anew", .str "swap"])
  c_WORDS : ∃ a, mg "WORDS" = some (.ref a) ∧ ∀ F θ, Rep K F θ (.ref a) (.tup [.str "before", .str "mutual", .str "next", .str "own", .str "partner"])
def n__law_bag : List Str := ["script", "k", "cell"]
theorem sc__law_bag : FnScope n__law_bag ["script", "k"] (defScope (Hd.top 32)) := ⟨rfl, rfl, rfl, by decide +kernel, rfl, by decide +kernel, by decide +kernel⟩
theorem g__law_bag [WC] [FA] {P : Program} {K : PySem.W.Frag} {mg : Str → Option Value} {base : Heap} (c : Fx K mg) : Good P WC.w K mg base 1 "_law_bag" ["script", "k"] m__law_bag := by
  obtain ⟨f, hm, F⟩ := c.d__law_bag
  refine (good_mk (N := n__law_bag) (ps := ["script", "k"]) (k := 0) hm F sc__law_bag (by decide) (fun _ _ _ _ _ _ us hl => match us, hl with | [_, _], _ => rfl) fun f cdv A outer s0 H E hr => ?_)
  exact (sd_cons (sd_set (i := 2) sc__law_bag.nd rfl (Or.inl rfl) (ed_if (tCmpW (cLt hr.units) (xv 1) (xBlt wLen c.b_len (ad_cons (xv 0) ad_nil))) (xBlt wAbs c.b_abs (ad_cons (xBlt wInt c.b_int (ad_cons (ed_ix (xv 0) (xv 1) (fun _ _ => rfl)) ad_nil)) ad_nil)) (xAdd false (xMul ed_int (xv 1)) ed_int)))
    (sd_one (sd_ret (ed_lst true (ad_cons (ed_if (tCmpW cGe (xv 2) (xPow ed_int ed_int)) (xv 2) ed_int) (ad_cons (xMod (xBlt wInt c.b_int (ad_cons (xAdd false (xAdd false (xMod (xBlt wInt c.b_int (ad_cons (xv 2) ad_nil)) ed_int) (xMul ed_int (xv 1))) ed_int) ad_nil)) ed_int) ad_nil))))))
def n__law_take : List Str := ["bag", "many", "stirred", "found"]
theorem sc__law_take : FnScope n__law_take ["bag", "many"] (defScope (Hd.top 33)) := ⟨rfl, rfl, rfl, by decide +kernel, rfl, by decide +kernel, by decide +kernel⟩
theorem g__law_take [WC] [FA] {P : Program} {K : PySem.W.Frag} {mg : Str → Option Value} {base : Heap} (c : Fx K mg) : Good P WC.w K mg base 1 "_law_take" ["bag", "many"] m__law_take := by
  obtain ⟨f, hm, F⟩ := c.d__law_take
  refine (good_mk (N := n__law_take) (ps := ["bag", "many"]) (k := 0) hm F sc__law_take (by decide) (fun _ _ _ _ _ _ us hl => match us, hl with | [_, _], _ => rfl) fun f cdv A outer s0 H E hr => ?_)
  exact (sd_cons (sd_if (tCmpW cGt (ed_ix (xv 0) ed_int (fun _ _ => rfl)) ed_int) (sd_cons (sd_set (i := 3) sc__law_take.nd rfl (Or.inl rfl) (xMod (xBlt wInt c.b_int (ad_cons (ed_ix (xv 0) ed_int (fun _ _ => rfl)) ad_nil)) (xv 1)))
    (sd_cons (sd_put (xDiv (xBlt wInt c.b_int (ad_cons (ed_ix (xv 0) ed_int (fun _ _ => rfl)) ad_nil)) (xv 1)) (xv 0) ed_int)
    (sd_one (sd_ret (xv 3))))) sd_nil)
    (sd_cons (sd_put (xMod (xBlt wInt c.b_int (ad_cons (xAdd false (xMul (ed_ix (xv 0) ed_int (fun _ _ => rfl)) ed_int) ed_int) ad_nil)) ed_int) (xv 0) ed_int)
    (sd_cons (sd_set (i := 2) sc__law_take.nd rfl (Or.inl rfl) (xMod (xMul (xBlt wInt c.b_int (ad_cons (ed_ix (xv 0) ed_int (fun _ _ => rfl)) ad_nil)) (xAdd false (xDiv (xBlt wInt c.b_int (ad_cons (ed_ix (xv 0) ed_int (fun _ _ => rfl)) ad_nil)) ed_int) ed_int)) ed_int))
    (sd_one (sd_ret (xMod (xBlt wInt c.b_int (ad_cons (xDiv (xBlt wInt c.b_int (ad_cons (xv 2) ad_nil)) ed_int) ad_nil)) (xv 1)))))))
def n__law_of : List Str := ["bag", "some"]
theorem sc__law_of : FnScope n__law_of ["bag", "some"] (defScope (Hd.top 34)) := ⟨rfl, rfl, rfl, by decide +kernel, rfl, by decide +kernel, by decide +kernel⟩
theorem g__law_of [WC] [FA] {P : Program} {K : PySem.W.Frag} {mg : Str → Option Value} {base : Heap} (c : Fx K mg) : Good P WC.w K mg base 2 "_law_of" ["bag", "some"] m__law_of := by
  obtain ⟨f, hm, F⟩ := c.d__law_of
  refine (good_mk (N := n__law_of) (ps := ["bag", "some"]) (k := 1) hm F sc__law_of (by decide) (fun _ _ _ _ _ _ us hl => match us, hl with | [_, _], _ => rfl) fun f cdv A outer s0 H E hr => ?_)
  exact (sd_one (sd_ret (ed_ix (xv 1) (xCall (g__law_take c) hr (by decide) (takes_of rfl rfl rfl rfl) (ad_cons (xv 0) (ad_cons (xBlt wLen c.b_len (ad_cons (xv 1) ad_nil)) ad_nil))) (fun _ _ => rfl))))
def n__law_order : List Str := ["bag", "many", "rest", "found", "name"]
theorem sc__law_order : FnScope n__law_order ["bag", "many"] (defScope (Hd.top 44)) := ⟨rfl, rfl, rfl, by decide +kernel, rfl, by decide +kernel, by decide +kernel⟩
theorem g__law_order [WC] [FA] {P : Program} {K : PySem.W.Frag} {mg : Str → Option Value} {base : Heap} (c : Fx K mg) : Good P WC.w K mg base 3 "_law_order" ["bag", "many"] m__law_order := by
  obtain ⟨f, hm, F⟩ := c.d__law_order
  refine (good_mk (N := n__law_order) (ps := ["bag", "many"]) (k := 2) hm F sc__law_order (by decide) (fun _ _ _ _ _ _ us hl => match us, hl with | [_, _], _ => rfl) fun f cdv A outer s0 H E hr => ?_)
  exact (sd_cons (sd_par (i := 2) (j := 3) rfl sc__law_order.nd rfl rfl (by decide) rfl rfl (ad_cons (ed_listR1 true rfl rfl c.b_list rfl c.b_range (xv 1)) (ad_cons (ed_tup ad_nil) ad_nil)) rfl)
    (sd_cons (sd_while (fun _ _ => 100000) (passes_of rfl) (tCmpW (cNe hr.units) (xv 2) (ed_lst false ad_nil)) (sd_cons (sd_set (i := 4) sc__law_order.nd rfl (Or.inl rfl) (xCall (g__law_of c) hr (by decide) (takes_of rfl rfl rfl rfl) (ad_cons (xv 0) (ad_cons (xv 2) ad_nil))))
    (sd_cons (sd_exp (ed_remove (xv 2) (ad_cons (xv 4) ad_nil)))
    (sd_one (sd_set (i := 3) sc__law_order.nd rfl (Or.inl rfl) (xAdd false (xv 3) (ed_tup (ad_cons (xv 4) ad_nil))))))))
    (sd_one (sd_ret (xv 3)))))
def n__law_bars : List Str := ["bag", "many", "person", "way", "found", "some", "name"]
theorem sc__law_bars : FnScope n__law_bars ["bag", "many"] (defScope (Hd.top 35)) := ⟨rfl, rfl, rfl, by decide +kernel, rfl, by decide +kernel, by decide +kernel⟩
theorem g__law_bars [WC] [FA] {P : Program} {K : PySem.W.Frag} {mg : Str → Option Value} {base : Heap} (c : Fx K mg) : Good P WC.w K mg base 2 "_law_bars" ["bag", "many"] m__law_bars := by
  obtain ⟨f, hm, F⟩ := c.d__law_bars
  refine (good_mk (N := n__law_bars) (ps := ["bag", "many"]) (k := 1) hm F sc__law_bars (by decide) (fun _ _ _ _ _ _ us hl => match us, hl with | [_, _], _ => rfl) fun f cdv A outer s0 H E hr => ?_)
  exact (sd_cons (sd_par (i := 3) (j := 4) rfl sc__law_bars.nd rfl rfl (by decide) rfl rfl (ad_cons (xCall (g__law_take c) hr (by decide) (takes_of rfl rfl rfl rfl) (ad_cons (xv 0) (ad_cons ed_int ad_nil))) (ad_cons (ed_tup ad_nil) ad_nil)) rfl)
    (sd_cons (sd_for (ix := [2]) (passes_of rfl) rfl (id_range1 rfl c.b_range (xv 1)) (gd_var (i := 2) (by decide) sc__law_bars.nd rfl (Or.inl rfl)) (sd_cons (sd_set (i := 5) sc__law_bars.nd rfl (Or.inl rfl) (ed_if (tCmpW (cLt hr.units) (xv 3) ed_int) (ed_lst false (ad_cons (xv 2) ad_nil)) (ed_lst false ad_nil)))
    (sd_cons (sd_for (ix := [6]) (passes_of rfl) rfl (id_range1 rfl c.b_range (xv 1)) (gd_var (i := 6) (by decide) sc__law_bars.nd rfl (Or.inl rfl)) (sd_one (sd_if (td_bool (wd_and (tCmpW (cNi hr.u65) (xv 6) (xv 5)) (wd_and1 (tCmpW (cEq hr.units) (xCall (g__law_take c) hr (by decide) (takes_of rfl rfl rfl rfl) (ad_cons (xv 0) (ad_cons (ed_if (tCmpW (cNe hr.units) (xv 3) ed_int) ed_int ed_int) ad_nil))) ed_int)))) (sd_one (sd_set (i := 5) sc__law_bars.nd rfl (Or.inl rfl) (xAdd false (xv 5) (ed_lst false (ad_cons (xv 6) ad_nil))))) sd_nil)))
    (sd_one (sd_set (i := 4) sc__law_bars.nd rfl (Or.inl rfl) (xAdd false (xv 4) (ed_tup (ad_cons (xBlt wTuple c.b_tuple (ad_cons (xBlt (wSorted hr.units) c.b_sorted (ad_cons (xv 5) ad_nil)) ad_nil)) ad_nil))))))))
    (sd_one (sd_ret (xv 4)))))
def n__law_rule : List Str := ["bag", "most", "many"]
theorem sc__law_rule : FnScope n__law_rule ["bag", "most"] (defScope (Hd.top 36)) := ⟨rfl, rfl, rfl, by decide +kernel, rfl, by decide +kernel, by decide +kernel⟩
theorem g__law_rule [WC] [FA] {P : Program} {K : PySem.W.Frag} {mg : Str → Option Value} {base : Heap} (c : Fx K mg) : Good P WC.w K mg base 3 "_law_rule" ["bag", "most"] m__law_rule := by
  obtain ⟨f, hm, F⟩ := c.d__law_rule
  refine (good_mk (N := n__law_rule) (ps := ["bag", "most"]) (k := 2) hm F sc__law_rule (by decide) (fun _ _ _ _ _ _ us hl => match us, hl with | [_, _], _ => rfl) fun f cdv A outer s0 H E hr => ?_)
  exact (sd_cons (sd_set (i := 2) sc__law_rule.nd rfl (Or.inl rfl) (xAdd false ed_int (xCall (g__law_take c) hr (by decide) (takes_of rfl rfl rfl rfl) (ad_cons (xv 0) (ad_cons (xSub (xv 1) ed_int) ad_nil)))))
    (sd_one (sd_ret (ed_tup (ad_cons (xCall (g__law_bars c) hr (by decide) (takes_of rfl rfl rfl rfl) (ad_cons (xv 0) (ad_cons (xv 2) ad_nil))) (ad_cons (xCmp (cEq hr.units) (xCall (g__law_take c) hr (by decide) (takes_of rfl rfl rfl rfl) (ad_cons (xv 0) (ad_cons ed_int ad_nil))) ed_int) (ad_cons (xCall (g__law_of c) hr (by decide) (takes_of rfl rfl rfl rfl) (ad_cons (xv 0) (ad_cons (ed_lst false (ad_cons ed_str (ad_cons ed_str (ad_cons ed_str (ad_cons ed_str (ad_cons ed_str ad_nil)))))) ad_nil))) ad_nil)))))))
def n_is_ascending : List Str := ["value", "one", "other"]
theorem sc_is_ascending : FnScope n_is_ascending ["value"] (defScope (Hd.top 15)) := ⟨rfl, rfl, rfl, by decide +kernel, rfl, by decide +kernel, by decide +kernel⟩
theorem g_is_ascending [WC] [FA] {P : Program} {K : PySem.W.Frag} {mg : Str → Option Value} {base : Heap} (c : Fx K mg) : Good P WC.w K mg base 1 "is_ascending" ["value"] m_is_ascending := by
  obtain ⟨f, hm, F⟩ := c.d_is_ascending
  refine Good.pure (good_mk (N := n_is_ascending) (ps := ["value"]) (k := 0) hm F sc_is_ascending (by decide) (fun _ _ _ _ _ _ us hl => match us, hl with | [_], _ => rfl) fun f cdv A outer s0 H E hr => ?_)
  exact (sd_one (sd_ret (xBlt (wAll rfl) c.b_all (ad_cons (ed_lc (own := [("one", 1), ("other", 2)]) false rfl sc_is_ascending.nd (id_zip rfl c.b_zip (xv 0) (ed_sl (xv 0) (od_some ed_int) od_none)) (blkOk_by (N := n_is_ascending) (sc := defScope (Hd.top 15)) (own := [("one", 1), ("other", 2)]) (by decide +kernel)) (fun _ _ _ _ _ => (gd_tup rfl (gds_cons (gd_var (i := 1) (by decide) sc_is_ascending.nd rfl (Or.inl rfl)) (gds_cons (gd_var (i := 2) (by decide) sc_is_ascending.nd rfl (Or.inl rfl)) gds_nil)))) (fun _ _ _ _ _ => pts_nilD) (fun _ _ _ _ _ => (xCmp (cLt hr.units) (xv 1) (xv 2)))) ad_nil))))
def n_is_number : List Str := ["value"]
theorem sc_is_number : FnScope n_is_number ["value"] (defScope (Hd.top 13)) := ⟨rfl, rfl, rfl, by decide +kernel, rfl, by decide +kernel, by decide +kernel⟩
theorem g_is_number [WC] [FA] {P : Program} {K : PySem.W.Frag} {mg : Str → Option Value} {base : Heap} (c : Fx K mg) : Good P WC.w K mg base 1 "is_number" ["value"] m_is_number := by
  obtain ⟨f, hm, F⟩ := c.d_is_number
  refine Good.pure (good_mk (N := n_is_number) (ps := ["value"]) (k := 0) hm F sc_is_number (by decide) (fun _ _ _ _ _ _ us hl => match us, hl with | [_], _ => rfl) fun f cdv A outer s0 H E hr => ?_)
  exact (sd_one (sd_ret (ed_and (xBlt wIsi c.b_isinstance (ad_cons (xv 0) (ad_cons (ed_ty rfl c.b_int bb_int) ad_nil))) (ed_one (ed_not (xBlt wIsi c.b_isinstance (ad_cons (xv 0) (ad_cons (ed_ty rfl c.b_bool bb_bool) ad_nil))))))))
def n_is_from : List Str := ["value", "low", "high"]
theorem sc_is_from : FnScope n_is_from ["value", "low", "high"] (defScope (Hd.top 14)) := ⟨rfl, rfl, rfl, by decide +kernel, rfl, by decide +kernel, by decide +kernel⟩
theorem g_is_from [WC] [FA] {P : Program} {K : PySem.W.Frag} {mg : Str → Option Value} {base : Heap} (c : Fx K mg) : Good P WC.w K mg base 2 "is_from" ["value", "low", "high"] m_is_from := by
  obtain ⟨f, hm, F⟩ := c.d_is_from
  refine Good.pure (good_mk (N := n_is_from) (ps := ["value", "low", "high"]) (k := 1) hm F sc_is_from (by decide) (fun _ _ _ _ _ _ us hl => match us, hl with | [_, _, _], _ => rfl) fun f cdv A outer s0 H E hr => ?_)
  exact (sd_one (sd_ret (ed_and (xCall (g_is_number c) hr (by decide) (takes_of rfl rfl rfl rfl) (ad_cons (xv 0) ad_nil)) (ed_one (xCh cLe cLe (xv 1) (xv 0) (xv 2))))))
def n_are_names : List Str := ["value", "many", "name"]
theorem sc_are_names : FnScope n_are_names ["value", "many"] (defScope (Hd.top 16)) := ⟨rfl, rfl, rfl, by decide +kernel, rfl, by decide +kernel, by decide +kernel⟩
theorem g_are_names [WC] [FA] {P : Program} {K : PySem.W.Frag} {mg : Str → Option Value} {base : Heap} (c : Fx K mg) : Good P WC.w K mg base 3 "are_names" ["value", "many"] m_are_names := by
  obtain ⟨f, hm, F⟩ := c.d_are_names
  refine Good.pure (good_mk (N := n_are_names) (ps := ["value", "many"]) (k := 2) hm F sc_are_names (by decide) (fun _ _ _ _ _ _ us hl => match us, hl with | [_, _], _ => rfl) fun f cdv A outer s0 H E hr => ?_)
  exact (sd_cons (sd_if (td_bool (wd_or (td_not (td_val (xBlt wIsi c.b_isinstance (ad_cons (xv 0) (ad_cons (ed_ty rfl c.b_tuple bb_tuple) ad_nil))))) (wd_or1 (td_not (td_val (xBlt (wAll rfl) c.b_all (ad_cons (ed_lc (own := [("name", 2)]) false rfl sc_are_names.nd (id_seq (xv 0)) (blkOk_by (N := n_are_names) (sc := defScope (Hd.top 16)) (own := [("name", 2)]) (by decide +kernel)) (fun _ _ _ _ _ => (gd_var (i := 2) (by decide) sc_are_names.nd rfl (Or.inl rfl))) (fun _ _ _ _ _ => pts_nilD) (fun _ _ _ _ _ => (xCall (g_is_from c) hr (by decide) takes0 (ad_cons (xv 2) (ad_cons ed_int (ad_cons (xSub (xv 1) ed_int) ad_nil)))))) ad_nil))))))) (sd_one (sd_ret ed_bl)) sd_nil)
    (sd_one (sd_ret (xCall (g_is_ascending c) hr (by decide) (takes_of rfl rfl rfl rfl) (ad_cons (xv 0) ad_nil)))))
def n_is_rule : List Str := ["value", "names"]
theorem sc_is_rule : FnScope n_is_rule ["value"] (defScope (Hd.top 17)) := ⟨rfl, rfl, rfl, by decide +kernel, rfl, by decide +kernel, by decide +kernel⟩
theorem g_is_rule [WC] [FA] {P : Program} {K : PySem.W.Frag} {mg : Str → Option Value} {base : Heap} (c : Fx K mg) : Good P WC.w K mg base 4 "is_rule" ["value"] m_is_rule := by
  obtain ⟨f, hm, F⟩ := c.d_is_rule
  refine Good.pure (good_mk (N := n_is_rule) (ps := ["value"]) (k := 3) hm F sc_is_rule (by decide) (fun _ _ _ _ _ _ us hl => match us, hl with | [_], _ => rfl) fun f cdv A outer s0 H E hr => ?_)
  exact (sd_cons (sd_if (td_bool (wd_or (td_not (td_val (xBlt wIsi c.b_isinstance (ad_cons (xv 0) (ad_cons (ed_ty rfl c.b_tuple bb_tuple) ad_nil))))) (wd_or (tCmpW (cNe hr.units) (xBlt wLen c.b_len (ad_cons (xv 0) ad_nil)) ed_int) (wd_or1 (td_not (td_val (xBlt wIsi c.b_isinstance (ad_cons (ed_ix (xv 0) ed_int (fun _ _ => rfl)) (ad_cons (ed_ty rfl c.b_tuple bb_tuple) ad_nil))))))))) (sd_one (sd_ret ed_bl)) sd_nil)
    (sd_cons (sd_if (td_bool (wd_or (td_not (tCh cLe cLe ed_int (xBlt wLen c.b_len (ad_cons (ed_ix (xv 0) ed_int (fun _ _ => rfl)) ad_nil)) (xgI c.c_MOST))) (wd_or1 (td_not (td_val (xBlt (wAll rfl) c.b_all (ad_cons (ed_lc (own := [("names", 1)]) false rfl sc_is_rule.nd (id_seq (ed_ix (xv 0) ed_int (fun _ _ => rfl))) (blkOk_by (N := n_is_rule) (sc := defScope (Hd.top 17)) (own := [("names", 1)]) (by decide +kernel)) (fun _ _ _ _ _ => (gd_var (i := 1) (by decide) sc_is_rule.nd rfl (Or.inl rfl))) (fun _ _ _ _ _ => pts_nilD) (fun _ _ _ _ _ => (xCall (g_are_names c) hr (by decide) takes0 (ad_cons (xv 1) (ad_cons (xBlt wLen c.b_len (ad_cons (ed_ix (xv 0) ed_int (fun _ _ => rfl)) ad_nil)) ad_nil))))) ad_nil))))))) (sd_one (sd_ret ed_bl)) sd_nil)
    (sd_one (sd_ret (ed_and (xBlt wIsi c.b_isinstance (ad_cons (ed_ix (xv 0) ed_int (fun _ _ => rfl)) (ad_cons (ed_ty rfl c.b_bool bb_bool) ad_nil))) (ed_and (xBlt wIsi c.b_isinstance (ad_cons (ed_ix (xv 0) ed_int (fun _ _ => rfl)) (ad_cons (ed_ty rfl c.b_str bb_str) ad_nil))) (ed_one (xCmp (cIn hr.u65) (ed_ix (xv 0) ed_int (fun _ _ => rfl)) (xgV c.c_WAYS)))))))))
def n_need_rule : List Str := ["value"]
theorem sc_need_rule : FnScope n_need_rule ["value"] (defScope (Hd.top 21)) := ⟨rfl, rfl, rfl, by decide +kernel, rfl, by decide +kernel, by decide +kernel⟩
theorem g_need_rule [WC] [FA] {P : Program} {K : PySem.W.Frag} {mg : Str → Option Value} {base : Heap} (c : Fx K mg) : Good P WC.w K mg base 5 "need_rule" ["value"] m_need_rule := by
  obtain ⟨f, hm, F⟩ := c.d_need_rule
  refine Good.pure (good_mk (N := n_need_rule) (ps := ["value"]) (k := 4) hm F sc_need_rule (by decide) (fun _ _ _ _ _ _ us hl => match us, hl with | [_], _ => rfl) fun f cdv A outer s0 H E hr => ?_)
  exact (sd_one (sd_if (td_not (td_val (xCall (g_is_rule c) hr (by decide) (takes_of rfl rfl rfl rfl) (ad_cons (xv 0) ad_nil)))) (sd_one sd_bad) sd_nil))
def n_are_different : List Str := ["value", "many", "name"]
theorem sc_are_different : FnScope n_are_different ["value", "many"] (defScope (Hd.top 19)) := ⟨rfl, rfl, rfl, by decide +kernel, rfl, by decide +kernel, by decide +kernel⟩
theorem g_are_different [WC] [FA] {P : Program} {K : PySem.W.Frag} {mg : Str → Option Value} {base : Heap} (c : Fx K mg) : Good P WC.w K mg base 3 "are_different" ["value", "many"] m_are_different := by
  obtain ⟨f, hm, F⟩ := c.d_are_different
  refine Good.pure (good_mk (N := n_are_different) (ps := ["value", "many"]) (k := 2) hm F sc_are_different (by decide) (fun _ _ _ _ _ _ us hl => match us, hl with | [_, _], _ => rfl) fun f cdv A outer s0 H E hr => ?_)
  exact (sd_cons (sd_if (td_bool (wd_or (td_not (td_val (xBlt wIsi c.b_isinstance (ad_cons (xv 0) (ad_cons (ed_ty rfl c.b_tuple bb_tuple) ad_nil))))) (wd_or1 (td_not (td_val (xBlt (wAll rfl) c.b_all (ad_cons (ed_lc (own := [("name", 2)]) false rfl sc_are_different.nd (id_seq (xv 0)) (blkOk_by (N := n_are_different) (sc := defScope (Hd.top 19)) (own := [("name", 2)]) (by decide +kernel)) (fun _ _ _ _ _ => (gd_var (i := 2) (by decide) sc_are_different.nd rfl (Or.inl rfl))) (fun _ _ _ _ _ => pts_nilD) (fun _ _ _ _ _ => (xCall (g_is_from c) hr (by decide) takes0 (ad_cons (xv 2) (ad_cons ed_int (ad_cons (xSub (xv 1) ed_int) ad_nil)))))) ad_nil))))))) (sd_one (sd_ret ed_bl)) sd_nil)
    (sd_one (sd_ret (xCmp (cEq hr.units) (ed_lenSetT rfl c.b_len rfl c.b_set rfl (xv 0)) (xBlt wLen c.b_len (ad_cons (xv 0) ad_nil))))))
def n_is_outcome_for : List Str := ["rule", "value"]
theorem sc_is_outcome_for : FnScope n_is_outcome_for ["rule", "value"] (defScope (Hd.top 20)) := ⟨rfl, rfl, rfl, by decide +kernel, rfl, by decide +kernel, by decide +kernel⟩
theorem g_is_outcome_for [WC] [FA] {P : Program} {K : PySem.W.Frag} {mg : Str → Option Value} {base : Heap} (c : Fx K mg) : Good P WC.w K mg base 4 "is_outcome_for" ["rule", "value"] m_is_outcome_for := by
  obtain ⟨f, hm, F⟩ := c.d_is_outcome_for
  refine Good.pure (good_mk (N := n_is_outcome_for) (ps := ["rule", "value"]) (k := 3) hm F sc_is_outcome_for (by decide) (fun _ _ _ _ _ _ us hl => match us, hl with | [_, _], _ => rfl) fun f cdv A outer s0 H E hr => ?_)
  exact (sd_one (sd_ret (ed_and (xCall (g_are_different c) hr (by decide) (takes_of rfl rfl rfl rfl) (ad_cons (xv 1) (ad_cons (xBlt wLen c.b_len (ad_cons (ed_ix (xv 0) ed_int (fun _ _ => rfl)) ad_nil)) ad_nil))) (ed_one (xCmp (cEq hr.units) (xBlt wLen c.b_len (ad_cons (xv 1) ad_nil)) (xBlt wLen c.b_len (ad_cons (ed_ix (xv 0) ed_int (fun _ _ => rfl)) ad_nil)))))))
def n_need_outcome : List Str := ["rule", "value"]
theorem sc_need_outcome : FnScope n_need_outcome ["rule", "value"] (defScope (Hd.top 24)) := ⟨rfl, rfl, rfl, by decide +kernel, rfl, by decide +kernel, by decide +kernel⟩
theorem g_need_outcome [WC] [FA] {P : Program} {K : PySem.W.Frag} {mg : Str → Option Value} {base : Heap} (c : Fx K mg) : Good P WC.w K mg base 5 "need_outcome" ["rule", "value"] m_need_outcome := by
  obtain ⟨f, hm, F⟩ := c.d_need_outcome
  refine Good.pure (good_mk (N := n_need_outcome) (ps := ["rule", "value"]) (k := 4) hm F sc_need_outcome (by decide) (fun _ _ _ _ _ _ us hl => match us, hl with | [_, _], _ => rfl) fun f cdv A outer s0 H E hr => ?_)
  exact (sd_one (sd_if (td_not (td_val (xCall (g_is_outcome_for c) hr (by decide) (takes_of rfl rfl rfl rfl) (ad_cons (xv 0) (ad_cons (xv 1) ad_nil))))) (sd_one sd_bad) sd_nil))
def n_lengths_of : List Str := ["outcome", "person", "found", "met", "size"]
theorem sc_lengths_of : FnScope n_lengths_of ["outcome"] (defScope (Hd.top 27)) := ⟨rfl, rfl, rfl, by decide +kernel, rfl, by decide +kernel, by decide +kernel⟩
theorem g_lengths_of [WC] [FA] {P : Program} {K : PySem.W.Frag} {mg : Str → Option Value} {base : Heap} (c : Fx K mg) : Good P WC.w K mg base 1 "lengths_of" ["outcome"] m_lengths_of := by
  obtain ⟨f, hm, F⟩ := c.d_lengths_of
  refine Good.pure (good_mk (N := n_lengths_of) (ps := ["outcome"]) (k := 0) hm F sc_lengths_of (by decide) (fun _ _ _ _ _ _ us hl => match us, hl with | [_], _ => rfl) fun f cdv A outer s0 H E hr => ?_)
  exact (sd_cons (sd_par (i := 2) (j := 3) rfl sc_lengths_of.nd rfl rfl (by decide) rfl rfl (ad_cons (ed_lst false ad_nil) (ad_cons (ed_lst false ad_nil) ad_nil)) rfl)
    (sd_cons (sd_for (ix := [1]) (passes_of rfl) rfl (id_range1 rfl c.b_range (xBlt wLen c.b_len (ad_cons (xv 0) ad_nil))) (gd_var (i := 1) (by decide) sc_lengths_of.nd rfl (Or.inl rfl)) (sd_cons (sd_set (i := 4) sc_lengths_of.nd rfl (Or.inl rfl) ed_int)
    (sd_cons (sd_while (fun _ _ => 100000) (passes_of rfl) (tCmpW (cNi hr.u65) (xv 1) (xv 3)) (sd_cons (sd_set (i := 3) sc_lengths_of.nd rfl (Or.inl rfl) (xAdd false (xv 3) (ed_lst false (ad_cons (xv 1) ad_nil))))
    (sd_one (sd_par (i := 1) (j := 4) rfl sc_lengths_of.nd rfl rfl (by decide) rfl rfl (ad_cons (ed_ix (xv 0) (xv 1) (fun _ _ => rfl)) (ad_cons (xAdd false (xv 4) ed_int) ad_nil)) rfl))))
    (sd_one (sd_set (i := 2) sc_lengths_of.nd rfl (Or.inl rfl) (xAdd false (xv 2) (xRep false (ed_lst false (ad_cons (xv 4) ad_nil)) (xBlt wInt c.b_int (ad_cons (xCmp cGt (xv 4) ed_int) ad_nil)))))))))
    (sd_one (sd_ret (xBlt wTuple c.b_tuple (ad_cons (xBlt (wSorted hr.units) c.b_sorted (ad_cons (ed_lc (own := [("size", 4)]) false rfl sc_lengths_of.nd (id_seq (xv 2)) (blkOk_by (N := n_lengths_of) (sc := defScope (Hd.top 27)) (own := [("size", 4)]) (by decide +kernel)) (fun _ _ _ _ _ => (gd_var (i := 4) (by decide) sc_lengths_of.nd rfl (Or.inl rfl))) (fun _ _ _ _ _ => pts_nilD) (fun _ _ _ _ _ => (xBlt wInt c.b_int (ad_cons (xv 4) ad_nil)))) ad_nil)) ad_nil))))))
def n_lengths : List Str := ["rule", "outcome"]
theorem sc_lengths : FnScope n_lengths ["rule", "outcome"] (defScope (Hd.top 30)) := ⟨rfl, rfl, rfl, by decide +kernel, rfl, by decide +kernel, by decide +kernel⟩
theorem g_lengths [WC] [FA] {P : Program} {K : PySem.W.Frag} {mg : Str → Option Value} {base : Heap} (c : Fx K mg) : Good P WC.w K mg base 6 "lengths" ["rule", "outcome"] m_lengths := by
  obtain ⟨f, hm, F⟩ := c.d_lengths
  refine Good.pure (good_mk (N := n_lengths) (ps := ["rule", "outcome"]) (k := 5) hm F sc_lengths (by decide) (fun _ _ _ _ _ _ us hl => match us, hl with | [_, _], _ => rfl) fun f cdv A outer s0 H E hr => ?_)
  exact (sd_cons (sd_exp (xCall (g_need_rule c) hr (by decide) (takes_of rfl rfl rfl rfl) (ad_cons (xv 0) ad_nil)))
    (sd_cons (sd_exp (xCall (g_need_outcome c) hr (by decide) (takes_of rfl rfl rfl rfl) (ad_cons (xv 0) (ad_cons (xv 1) ad_nil))))
    (sd_one (sd_ret (xCall (g_lengths_of c) hr (by decide) (takes_of rfl rfl rfl rfl) (ad_cons (xv 1) ad_nil))))))
def n__law_lengths : List Str := ["outcome", "sizes", "person", "chain", "there"]
theorem sc__law_lengths : FnScope n__law_lengths ["outcome"] (defScope (Hd.top 45)) := ⟨rfl, rfl, rfl, by decide +kernel, rfl, by decide +kernel, by decide +kernel⟩
theorem g__law_lengths [WC] [FA] {P : Program} {K : PySem.W.Frag} {mg : Str → Option Value} {base : Heap} (c : Fx K mg) : Good P WC.w K mg base 1 "_law_lengths" ["outcome"] m__law_lengths := by
  obtain ⟨f, hm, F⟩ := c.d__law_lengths
  refine Good.pure (good_mk (N := n__law_lengths) (ps := ["outcome"]) (k := 0) hm F sc__law_lengths (by decide) (fun _ _ _ _ _ _ us hl => match us, hl with | [_], _ => rfl) fun f cdv A outer s0 H E hr => ?_)
  exact (sd_cons (sd_set (i := 1) sc__law_lengths.nd rfl (Or.inl rfl) (ed_lst true ad_nil))
    (sd_cons (sd_for (ix := [2]) (passes_of rfl) rfl (id_range1 rfl c.b_range (xBlt wLen c.b_len (ad_cons (xv 0) ad_nil))) (gd_var (i := 2) (by decide) sc__law_lengths.nd rfl (Or.inl rfl)) (sd_cons (sd_par (i := 3) (j := 4) rfl sc__law_lengths.nd rfl rfl (by decide) rfl rfl (ad_cons (ed_lst true (ad_cons (xv 2) ad_nil)) (ad_cons (ed_ix (xv 0) (xv 2) (fun _ _ => rfl)) ad_nil)) rfl)
    (sd_cons (sd_while (fun _ _ => 100000) (passes_of rfl) (tCmpW (cNe hr.units) (xv 4) (xv 2)) (sd_cons (sd_exp (ed_append (xv 3) (ad_cons (xv 4) ad_nil)))
    (sd_one (sd_set (i := 4) sc__law_lengths.nd rfl (Or.inl rfl) (ed_ix (xv 0) (xv 4) (fun _ _ => rfl))))))
    (sd_one (sd_if (tCmpW (cEq hr.units) (xBlt (wMinL rfl) c.b_min (ad_cons (xv 3) ad_nil)) (xv 2)) (sd_one (sd_exp (ed_append (xv 1) (ad_cons (xBlt wLen c.b_len (ad_cons (xv 3) ad_nil)) ad_nil)))) sd_nil)))))
    (sd_one (sd_ret (xBlt wTuple c.b_tuple (ad_cons (xBlt (wSorted hr.units) c.b_sorted (ad_cons (xv 1) ad_nil)) ad_nil))))))
def n__law_any_value : List Str := ["bag", "depth", "kind", "items", "some", "k"]
theorem sc__law_any_value : FnScope n__law_any_value ["bag", "depth"] (defScope (Hd.top 37)) := ⟨rfl, rfl, rfl, by decide +kernel, rfl, by decide +kernel, by decide +kernel⟩
theorem gr__law_any_value [WC] [FA] {P : Program} {K : PySem.W.Frag} {mg : Str → Option Value} {base : Heap} (c : Fx K mg) : ∀ r : Nat, Good P WC.w K mg base (3 + r) "_law_any_value" ["bag", "depth"] (f__law_any_value r)
  | 0 => by
    obtain ⟨f, hm, F⟩ := c.d__law_any_value
    exact Good.none (good_mk (N := n__law_any_value) (ps := ["bag", "depth"]) (k := 2) hm F sc__law_any_value (by decide) (fun _ _ _ _ _ _ us hl => match us, hl with | [_, _], _ => rfl) fun f cdv A outer s0 H E hr => sds_bad)
  | r + 1 => by
    have ih := gr__law_any_value (P := P) (base := base) c r
    obtain ⟨f, hm, F⟩ := c.d__law_any_value
    refine (good_mk (N := n__law_any_value) (ps := ["bag", "depth"]) (k := 3 + r) hm F sc__law_any_value (by decide) (fun _ _ _ _ _ _ us hl => match us, hl with | [_, _], _ => rfl) fun f cdv A outer s0 H E hr => ?_)
    exact (sd_cons (sd_set (i := 2) sc__law_any_value.nd rfl (Or.inl rfl) (xCall (g__law_take c) hr (by omega) (takes_of rfl rfl rfl rfl) (ad_cons (xv 0) (ad_cons ed_int ad_nil))))
    (sd_cons (sd_if (td_bool (wd_or (tCmpW (cLt hr.units) (xv 2) ed_int) (wd_or1 (tCmpW (cEq hr.units) (xv 1) ed_int)))) (sd_cons (sd_set (i := 4) sc__law_any_value.nd rfl (Or.inl rfl) (ed_lst false (ad_cons ed_int (ad_cons (xNeg ed_int) (ad_cons ed_int (ad_cons ed_int (ad_cons ed_int (ad_cons ed_int (ad_cons ed_int (ad_cons ed_bl (ad_cons ed_bl (ad_cons ed_non (ad_cons ed_str (ad_cons ed_str (ad_cons ed_str (ad_cons ed_str (ad_cons ed_str (ad_cons (xPow ed_int ed_int) ad_nil))))))))))))))))))
    (sd_one (sd_ret (xCall (g__law_of c) hr (by omega) (takes_of rfl rfl rfl rfl) (ad_cons (xv 0) (ad_cons (xAdd false (xv 4) (ed_lst false (ad_cons (ed_tup ad_nil) (ad_cons (ed_lst false ad_nil) (ad_cons (ed_tup (ad_cons ed_int ad_nil)) (ad_cons (ed_tup (ad_cons ed_int (ad_cons ed_int ad_nil))) (ad_cons (ed_tup (ad_cons ed_int (ad_cons ed_int ad_nil))) (ad_cons (ed_tup (ad_cons ed_str ad_nil)) (ad_cons (ed_tup (ad_cons (ed_tup ad_nil) (ad_cons (ed_tup ad_nil) ad_nil))) ad_nil))))))))) ad_nil)))))) sd_nil)
    (sd_cons (sd_setLc (own := [("k", 5)]) (i := 3) false rfl sc__law_any_value.nd rfl rfl (sw_true rfl rfl rfl rfl) (id_range1 rfl c.b_range (xCall (g__law_take c) hr (by omega) (takes_of rfl rfl rfl rfl) (ad_cons (xv 0) (ad_cons ed_int ad_nil)))) (blkOk_by (N := n__law_any_value) (sc := defScope (Hd.top 37)) (own := [("k", 5)]) (by decide +kernel)) (fun _ _ _ _ _ => (gd_var (i := 5) (by decide) sc__law_any_value.nd rfl (Or.inl rfl))) (fun _ _ _ _ _ => pts_nilD) (fun _ _ _ _ _ => (xCall ih hr (by omega) takes0 (ad_cons (xv 0) (ad_cons (xSub (xv 1) ed_int) ad_nil)))))
    (sd_one (sd_ret (ed_ix (ed_lst false (ad_cons (xv 3) (ad_cons (xBlt wTuple c.b_tuple (ad_cons (xv 3) ad_nil)) (ad_cons (xBlt wTuple c.b_tuple (ad_cons (xv 3) ad_nil)) ad_nil)))) (xSub (xv 2) ed_int) (fun _ _ => rfl)))))))
theorem g__law_any_value [WC] [FA] {P : Program} {K : PySem.W.Frag} {mg : Str → Option Value} {base : Heap} (c : Fx K mg) : Good P WC.w K mg base 6 "_law_any_value" ["bag", "depth"] m__law_any_value := gr__law_any_value c 3
def n__law_spoiled : List Str := ["bag", "value", "some", "at", "way"]
theorem sc__law_spoiled : FnScope n__law_spoiled ["bag", "value"] (defScope (Hd.top 38)) := ⟨rfl, rfl, rfl, by decide +kernel, rfl, by decide +kernel, by decide +kernel⟩
theorem gr__law_spoiled [WC] [FA] {P : Program} {K : PySem.W.Frag} {mg : Str → Option Value} {base : Heap} (c : Fx K mg) : ∀ r : Nat, Good P WC.w K mg base (7 + r) "_law_spoiled" ["bag", "value"] (f__law_spoiled r)
  | 0 => by
    obtain ⟨f, hm, F⟩ := c.d__law_spoiled
    exact Good.none (good_mk (N := n__law_spoiled) (ps := ["bag", "value"]) (k := 6) hm F sc__law_spoiled (by decide) (fun _ _ _ _ _ _ us hl => match us, hl with | [_, _], _ => rfl) fun f cdv A outer s0 H E hr => sds_bad)
  | r + 1 => by
    have ih := gr__law_spoiled (P := P) (base := base) c r
    obtain ⟨f, hm, F⟩ := c.d__law_spoiled
    refine (good_mk (N := n__law_spoiled) (ps := ["bag", "value"]) (k := 7 + r) hm F sc__law_spoiled (by decide) (fun _ _ _ _ _ _ us hl => match us, hl with | [_, _], _ => rfl) fun f cdv A outer s0 H E hr => ?_)
    exact (sd_cons (sd_if (td_bool (wd_or (td_not (td_val (xBlt wIsi c.b_isinstance (ad_cons (xv 1) (ad_cons (ed_ty rfl c.b_tuple bb_tuple) ad_nil))))) (wd_or (tCmpW (cEq hr.units) (xv 1) (ed_tup ad_nil)) (wd_or1 (tCmpW (cEq hr.units) (xCall (g__law_take c) hr (by omega) (takes_of rfl rfl rfl rfl) (ad_cons (xv 0) (ad_cons ed_int ad_nil))) ed_int))))) (sd_cons (sd_set (i := 2) sc__law_spoiled.nd rfl (Or.inl rfl) (ed_lst false (ad_cons (xCall (g__law_any_value c) hr (by omega) (takes_of rfl rfl rfl rfl) (ad_cons (xv 0) (ad_cons ed_int ad_nil))) (ad_cons (ed_lst false (ad_cons (xv 1) ad_nil)) ad_nil))))
    (sd_cons (sd_if (td_val (xBlt wIsi c.b_isinstance (ad_cons (xv 1) (ad_cons (ed_ty rfl c.b_str bb_str) ad_nil)))) (sd_one (sd_set (i := 2) sc__law_spoiled.nd rfl (Or.inl rfl) (xAdd false (xv 2) (ed_lst false (ad_cons (xAdd false (xv 1) ed_str) (ad_cons ed_str (ad_cons ed_str (ad_cons ed_str (ad_cons ed_str ad_nil))))))))) sd_nil)
    (sd_cons (sd_if (td_val (xBlt wIsi c.b_isinstance (ad_cons (xv 1) (ad_cons (ed_ty rfl c.b_bool bb_bool) ad_nil)))) (sd_one (sd_set (i := 2) sc__law_spoiled.nd rfl (Or.inl rfl) (xAdd false (xv 2) (ed_lst false (ad_cons (ed_not (xv 1)) (ad_cons (xBlt wInt c.b_int (ad_cons (xv 1) ad_nil)) ad_nil)))))) (sd_one (sd_if (td_val (xBlt wIsi c.b_isinstance (ad_cons (xv 1) (ad_cons (ed_ty rfl c.b_int bb_int) ad_nil)))) (sd_one (sd_set (i := 2) sc__law_spoiled.nd rfl (Or.inl rfl) (xAdd false (xv 2) (ed_lst false (ad_cons (xAdd false (xv 1) ed_int) (ad_cons (xSub (xv 1) ed_int) (ad_cons ed_int (ad_cons ed_int ad_nil)))))))) sd_nil)))
    (sd_one (sd_ret (xCall (g__law_of c) hr (by omega) (takes_of rfl rfl rfl rfl) (ad_cons (xv 0) (ad_cons (xv 2) ad_nil)))))))) sd_nil)
    (sd_cons (sd_par (i := 3) (j := 4) rfl sc__law_spoiled.nd rfl rfl (by decide) rfl rfl (ad_cons (xCall (g__law_take c) hr (by omega) (takes_of rfl rfl rfl rfl) (ad_cons (xv 0) (ad_cons (xBlt wLen c.b_len (ad_cons (xv 1) ad_nil)) ad_nil))) (ad_cons (xCall (g__law_take c) hr (by omega) (takes_of rfl rfl rfl rfl) (ad_cons (xv 0) (ad_cons ed_int ad_nil))) ad_nil)) rfl)
    (sd_cons (sd_if (tCmpW (cEq hr.units) (xv 4) ed_int) (sd_one (sd_ret (xAdd false (ed_sl (xv 1) od_none (od_some (xv 3))) (ed_sl (xv 1) (od_some (xAdd false (xv 3) ed_int)) od_none)))) sd_nil)
    (sd_cons (sd_if (tCmpW (cEq hr.units) (xv 4) ed_int) (sd_one (sd_ret (xAdd false (xAdd false (ed_sl (xv 1) od_none (od_some (xv 3))) (xRepT (ed_sl (xv 1) (od_some (xv 3)) (od_some (xAdd false (xv 3) ed_int))) ed_int)) (ed_sl (xv 1) (od_some (xAdd false (xv 3) ed_int)) od_none)))) sd_nil)
    (sd_cons (sd_if (tCmpW (cEq hr.units) (xv 4) ed_int) (sd_one (sd_ret (ed_rev (xv 1) (od_some (xNeg ed_int))))) sd_nil)
    (sd_cons (sd_if (tCmpW (cEq hr.units) (xv 4) ed_int) (sd_one (sd_ret (xBlt (wList false) c.b_list (ad_cons (xv 1) ad_nil)))) sd_nil)
    (sd_one (sd_ret (xAdd false (xAdd false (ed_sl (xv 1) od_none (od_some (xv 3))) (ed_tup (ad_cons (xCall ih hr (by omega) (takes_of rfl rfl rfl rfl) (ad_cons (xv 0) (ad_cons (ed_ix (xv 1) (xv 3) (fun _ _ => rfl)) ad_nil))) ad_nil))) (ed_sl (xv 1) (od_some (xAdd false (xv 3) ed_int)) od_none))))))))))
theorem g__law_spoiled [WC] [FA] {P : Program} {K : PySem.W.Frag} {mg : Str → Option Value} {base : Heap} (c : Fx K mg) : Good P WC.w K mg base 16 "_law_spoiled" ["bag", "value"] m__law_spoiled := gr__law_spoiled c 9
def n_is_kind : List Str := ["value", "word"]
theorem sc_is_kind : FnScope n_is_kind ["value"] (defScope (Hd.top 18)) := ⟨rfl, rfl, rfl, by decide +kernel, rfl, by decide +kernel, by decide +kernel⟩
theorem g_is_kind [WC] [FA] {P : Program} {K : PySem.W.Frag} {mg : Str → Option Value} {base : Heap} (c : Fx K mg) : Good P WC.w K mg base 2 "is_kind" ["value"] m_is_kind := by
  obtain ⟨f, hm, F⟩ := c.d_is_kind
  refine Good.pure (good_mk (N := n_is_kind) (ps := ["value"]) (k := 1) hm F sc_is_kind (by decide) (fun _ _ _ _ _ _ us hl => match us, hl with | [_], _ => rfl) fun f cdv A outer s0 H E hr => ?_)
  exact (sd_cons (sd_if (td_bool (wd_or (td_not (td_val (xBlt wIsi c.b_isinstance (ad_cons (xv 0) (ad_cons (ed_ty rfl c.b_tuple bb_tuple) ad_nil))))) (wd_or (tCmpW (cEq hr.units) (xv 0) (ed_tup ad_nil)) (wd_or1 (td_not (td_val (xBlt (wAll rfl) c.b_all (ad_cons (ed_lc (own := [("word", 1)]) false rfl sc_is_kind.nd (id_seq (xv 0)) (blkOk_by (N := n_is_kind) (sc := defScope (Hd.top 18)) (own := [("word", 1)]) (by decide +kernel)) (fun _ _ _ _ _ => (gd_var (i := 1) (by decide) sc_is_kind.nd rfl (Or.inl rfl))) (fun _ _ _ _ _ => pts_nilD) (fun _ _ _ _ _ => (xBlt wIsi c.b_isinstance (ad_cons (xv 1) (ad_cons (ed_ty rfl c.b_str bb_str) ad_nil))))) ad_nil)))))))) (sd_one (sd_ret ed_bl)) sd_nil)
    (sd_one (sd_ret (ed_and (xBlt (wAll rfl) c.b_all (ad_cons (ed_lc (own := [("word", 1)]) false rfl sc_is_kind.nd (id_seq (xv 0)) (blkOk_by (N := n_is_kind) (sc := defScope (Hd.top 18)) (own := [("word", 1)]) (by decide +kernel)) (fun _ _ _ _ _ => (gd_var (i := 1) (by decide) sc_is_kind.nd rfl (Or.inl rfl))) (fun _ _ _ _ _ => pts_nilD) (fun _ _ _ _ _ => (xCmp (cIn hr.u65) (xv 1) (xgV c.c_WORDS)))) ad_nil)) (ed_one (xCall (g_is_ascending c) hr (by decide) (takes_of rfl rfl rfl rfl) (ad_cons (xv 0) ad_nil)))))))
def n_is_outcome : List Str := ["rule", "value"]
theorem sc_is_outcome : FnScope n_is_outcome ["rule", "value"] (defScope (Hd.top 28)) := ⟨rfl, rfl, rfl, by decide +kernel, rfl, by decide +kernel, by decide +kernel⟩
theorem g_is_outcome [WC] [FA] {P : Program} {K : PySem.W.Frag} {mg : Str → Option Value} {base : Heap} (c : Fx K mg) : Good P WC.w K mg base 6 "is_outcome" ["rule", "value"] m_is_outcome := by
  obtain ⟨f, hm, F⟩ := c.d_is_outcome
  refine Good.pure (good_mk (N := n_is_outcome) (ps := ["rule", "value"]) (k := 5) hm F sc_is_outcome (by decide) (fun _ _ _ _ _ _ us hl => match us, hl with | [_, _], _ => rfl) fun f cdv A outer s0 H E hr => ?_)
  exact (sd_cons (sd_exp (xCall (g_need_rule c) hr (by decide) (takes_of rfl rfl rfl rfl) (ad_cons (xv 0) ad_nil)))
    (sd_one (sd_ret (xCall (g_is_outcome_for c) hr (by decide) (takes_of rfl rfl rfl rfl) (ad_cons (xv 0) (ad_cons (xv 1) ad_nil))))))
def n__law_int : List Str := ["value", "low", "high"]
theorem sc__law_int : FnScope n__law_int ["value", "low", "high"] (defScope (Hd.top 39)) := ⟨rfl, rfl, rfl, by decide +kernel, rfl, by decide +kernel, by decide +kernel⟩
theorem g__law_int [WC] [FA] {P : Program} {K : PySem.W.Frag} {mg : Str → Option Value} {base : Heap} (c : Fx K mg) : Good P WC.w K mg base 1 "_law_int" ["value", "low", "high"] m__law_int := by
  obtain ⟨f, hm, F⟩ := c.d__law_int
  refine Good.pure (good_mk (N := n__law_int) (ps := ["value", "low", "high"]) (k := 0) hm F sc__law_int (by decide) (fun _ _ _ _ _ _ us hl => match us, hl with | [_, _, _], _ => rfl) fun f cdv A outer s0 H E hr => ?_)
  exact (sd_one (sd_ret (ed_and (xBlt wIsi c.b_isinstance (ad_cons (xv 0) (ad_cons (ed_ty rfl c.b_int bb_int) ad_nil))) (ed_and (ed_not (xBlt wIsi c.b_isinstance (ad_cons (xv 0) (ad_cons (ed_ty rfl c.b_bool bb_bool) ad_nil)))) (ed_one (xCh cLe cLe (xv 1) (xv 0) (xv 2)))))))
def n__law_is_rule : List Str := ["value", "many", "some", "name"]
theorem sc__law_is_rule : FnScope n__law_is_rule ["value"] (defScope (Hd.top 40)) := ⟨rfl, rfl, rfl, by decide +kernel, rfl, by decide +kernel, by decide +kernel⟩
theorem g__law_is_rule [WC] [FA] {P : Program} {K : PySem.W.Frag} {mg : Str → Option Value} {base : Heap} (c : Fx K mg) : Good P WC.w K mg base 2 "_law_is_rule" ["value"] m__law_is_rule := by
  obtain ⟨f, hm, F⟩ := c.d__law_is_rule
  refine Good.pure (good_mk (N := n__law_is_rule) (ps := ["value"]) (k := 1) hm F sc__law_is_rule (by decide) (fun _ _ _ _ _ _ us hl => match us, hl with | [_], _ => rfl) fun f cdv A outer s0 H E hr => ?_)
  exact (sd_cons (sd_if (td_bool (wd_or (td_not (td_val (xBlt wIsi c.b_isinstance (ad_cons (xv 0) (ad_cons (ed_ty rfl c.b_tuple bb_tuple) ad_nil))))) (wd_or (tCmpW (cNe hr.units) (xBlt wLen c.b_len (ad_cons (xv 0) ad_nil)) ed_int) (wd_or1 (td_not (td_val (xBlt wIsi c.b_isinstance (ad_cons (ed_ix (xv 0) ed_int (fun _ _ => rfl)) (ad_cons (ed_ty rfl c.b_tuple bb_tuple) ad_nil))))))))) (sd_one (sd_ret ed_bl)) sd_nil)
    (sd_cons (sd_set (i := 1) sc__law_is_rule.nd rfl (Or.inr rfl) (xBlt wLen c.b_len (ad_cons (ed_ix (xv 0) ed_int (fun _ _ => rfl)) ad_nil)))
    (sd_cons (sd_if (td_bool (wd_or (td_not (tCh cLe cLe ed_int (xv 1) ed_int)) (wd_or (td_not (td_val (xBlt wIsi c.b_isinstance (ad_cons (ed_ix (xv 0) ed_int (fun _ _ => rfl)) (ad_cons (ed_ty rfl c.b_bool bb_bool) ad_nil))))) (wd_or1 (td_not (td_val (xBlt wIsi c.b_isinstance (ad_cons (ed_ix (xv 0) ed_int (fun _ _ => rfl)) (ad_cons (ed_ty rfl c.b_str bb_str) ad_nil))))))))) (sd_one (sd_ret ed_bl)) sd_nil)
    (sd_cons (sd_for (ix := [2]) (passes_of rfl) rfl (id_seq (ed_ix (xv 0) ed_int (fun _ _ => rfl))) (gd_var (i := 2) (by decide) sc__law_is_rule.nd rfl (Or.inl rfl)) (sd_cons (sd_if (td_bool (wd_or (td_not (td_val (xBlt wIsi c.b_isinstance (ad_cons (xv 2) (ad_cons (ed_ty rfl c.b_tuple bb_tuple) ad_nil))))) (wd_or1 (tCmpW (cNe hr.units) (ed_lc (own := [("name", 3)]) false rfl sc__law_is_rule.nd (id_seq (xv 2)) (blkOk_by (N := n__law_is_rule) (sc := defScope (Hd.top 40)) (own := [("name", 3)]) (by decide +kernel)) (fun _ _ _ _ _ => (gd_var (i := 3) (by decide) sc__law_is_rule.nd rfl (Or.inl rfl))) (fun _ _ _ _ _ => (pts_oneD (td_not (td_tru (xCall (g__law_int c) hr (by decide) takes0 (ad_cons (xv 3) (ad_cons ed_int (ad_cons (xSub (xv 1) ed_int) ad_nil)))))))) (fun _ _ _ _ _ => (xv 3))) (ed_lst false ad_nil))))) (sd_one (sd_ret ed_bl)) sd_nil)
    (sd_one (sd_if (tCmpW (cNe hr.units) (xBlt (wList false) c.b_list (ad_cons (xv 2) ad_nil)) (ed_sortSetZ rfl c.b_sorted rfl c.b_set rfl (xv 2))) (sd_one (sd_ret ed_bl)) sd_nil))))
    (sd_one (sd_ret (xCmp (cIn hr.u65) (ed_ix (xv 0) ed_int (fun _ _ => rfl)) (ed_lst false (ad_cons ed_str (ad_cons ed_str (ad_cons ed_str ad_nil)))))))))))
def n__law_is_kind : List Str := ["value", "some", "word"]
theorem sc__law_is_kind : FnScope n__law_is_kind ["value"] (defScope (Hd.top 41)) := ⟨rfl, rfl, rfl, by decide +kernel, rfl, by decide +kernel, by decide +kernel⟩
theorem g__law_is_kind [WC] [FA] {P : Program} {K : PySem.W.Frag} {mg : Str → Option Value} {base : Heap} (c : Fx K mg) : Good P WC.w K mg base 1 "_law_is_kind" ["value"] m__law_is_kind := by
  obtain ⟨f, hm, F⟩ := c.d__law_is_kind
  refine Good.pure (good_mk (N := n__law_is_kind) (ps := ["value"]) (k := 0) hm F sc__law_is_kind (by decide) (fun _ _ _ _ _ _ us hl => match us, hl with | [_], _ => rfl) fun f cdv A outer s0 H E hr => ?_)
  exact (sd_cons (sd_if (td_bool (wd_or (td_not (td_val (xBlt wIsi c.b_isinstance (ad_cons (xv 0) (ad_cons (ed_ty rfl c.b_tuple bb_tuple) ad_nil))))) (wd_or1 (tCmpW (cNe hr.units) (ed_lc (own := [("word", 2)]) false rfl sc__law_is_kind.nd (id_seq (xv 0)) (blkOk_by (N := n__law_is_kind) (sc := defScope (Hd.top 41)) (own := [("word", 2)]) (by decide +kernel)) (fun _ _ _ _ _ => (gd_var (i := 2) (by decide) sc__law_is_kind.nd rfl (Or.inl rfl))) (fun _ _ _ _ _ => (pts_oneD (td_not (td_val (xBlt wIsi c.b_isinstance (ad_cons (xv 2) (ad_cons (ed_ty rfl c.b_str bb_str) ad_nil))))))) (fun _ _ _ _ _ => (xv 2))) (ed_lst false ad_nil))))) (sd_one (sd_ret ed_bl)) sd_nil)
    (sd_cons (sd_setLc (own := [("word", 2)]) (i := 1) false rfl sc__law_is_kind.nd rfl rfl (sw_true rfl rfl rfl rfl) (id_seq (ed_lst false (ad_cons ed_str (ad_cons ed_str (ad_cons ed_str (ad_cons ed_str (ad_cons ed_str ad_nil))))))) (blkOk_by (N := n__law_is_kind) (sc := defScope (Hd.top 41)) (own := [("word", 2)]) (by decide +kernel)) (fun _ _ _ _ _ => (gd_var (i := 2) (by decide) sc__law_is_kind.nd rfl (Or.inl rfl))) (fun _ _ _ _ _ => (pts_oneD (tCmpW (cIn hr.u65) (xv 2) (xv 0)))) (fun _ _ _ _ _ => (xv 2)))
    (sd_one (sd_ret (ed_and (xCmp (cNe hr.units) (xv 0) (ed_tup ad_nil)) (ed_one (xCmp (cEq hr.units) (xBlt (wList false) c.b_list (ad_cons (xv 0) ad_nil)) (xv 1))))))))
def n__law_is_outcome : List Str := ["rule", "value", "many", "name"]
theorem sc__law_is_outcome : FnScope n__law_is_outcome ["rule", "value"] (defScope (Hd.top 42)) := ⟨rfl, rfl, rfl, by decide +kernel, rfl, by decide +kernel, by decide +kernel⟩
theorem g__law_is_outcome [WC] [FA] {P : Program} {K : PySem.W.Frag} {mg : Str → Option Value} {base : Heap} (c : Fx K mg) : Good P WC.w K mg base 2 "_law_is_outcome" ["rule", "value"] m__law_is_outcome := by
  obtain ⟨f, hm, F⟩ := c.d__law_is_outcome
  refine Good.pure (good_mk (N := n__law_is_outcome) (ps := ["rule", "value"]) (k := 1) hm F sc__law_is_outcome (by decide) (fun _ _ _ _ _ _ us hl => match us, hl with | [_, _], _ => rfl) fun f cdv A outer s0 H E hr => ?_)
  exact (sd_cons (sd_set (i := 2) sc__law_is_outcome.nd rfl (Or.inr rfl) (xBlt wLen c.b_len (ad_cons (ed_ix (xv 0) ed_int (fun _ _ => rfl)) ad_nil)))
    (sd_cons (sd_if (td_bool (wd_or (td_not (td_val (xBlt wIsi c.b_isinstance (ad_cons (xv 1) (ad_cons (ed_ty rfl c.b_tuple bb_tuple) ad_nil))))) (wd_or1 (tCmpW (cNe hr.units) (xBlt wLen c.b_len (ad_cons (xv 1) ad_nil)) (xv 2))))) (sd_one (sd_ret ed_bl)) sd_nil)
    (sd_cons (sd_if (tCmpW (cNe hr.units) (ed_lc (own := [("name", 3)]) false rfl sc__law_is_outcome.nd (id_seq (xv 1)) (blkOk_by (N := n__law_is_outcome) (sc := defScope (Hd.top 42)) (own := [("name", 3)]) (by decide +kernel)) (fun _ _ _ _ _ => (gd_var (i := 3) (by decide) sc__law_is_outcome.nd rfl (Or.inl rfl))) (fun _ _ _ _ _ => (pts_oneD (td_not (td_tru (xCall (g__law_int c) hr (by decide) takes0 (ad_cons (xv 3) (ad_cons ed_int (ad_cons (xSub (xv 2) ed_int) ad_nil)))))))) (fun _ _ _ _ _ => (xv 3))) (ed_lst false ad_nil)) (sd_one (sd_ret ed_bl)) sd_nil)
    (sd_one (sd_ret (xCmp (cEq hr.units) (xBlt wSortedTI c.b_sorted (ad_cons (xv 1) ad_nil)) (ed_listR1 false rfl rfl c.b_list rfl c.b_range (xv 2))))))))
def n__law_told_right : List Str := ["rule", "value", "told", "one"]
theorem sc__law_told_right : FnScope n__law_told_right ["rule", "value"] (defScope (Hd.top 43)) := ⟨rfl, rfl, rfl, by decide +kernel, rfl, by decide +kernel, by decide +kernel⟩
theorem g__law_told_right [WC] [FA] {P : Program} {K : PySem.W.Frag} {mg : Str → Option Value} {base : Heap} (c : Fx K mg) : Good P WC.w K mg base 7 "_law_told_right" ["rule", "value"] m__law_told_right := by
  obtain ⟨f, hm, F⟩ := c.d__law_told_right
  refine Good.pure (good_mk (N := n__law_told_right) (ps := ["rule", "value"]) (k := 6) hm F sc__law_told_right (by decide) (fun _ _ _ _ _ _ us hl => match us, hl with | [_, _], _ => rfl) fun f cdv A outer s0 H E hr => ?_)
  exact (sd_cons (sd_set (i := 2) sc__law_told_right.nd rfl (Or.inl rfl) (ed_lst false (ad_cons (xCall (g_is_rule c) hr (by decide) (takes_of rfl rfl rfl rfl) (ad_cons (xv 1) ad_nil)) (ad_cons (xCall (g_is_kind c) hr (by decide) (takes_of rfl rfl rfl rfl) (ad_cons (xv 1) ad_nil)) (ad_cons (xCall (g_is_outcome c) hr (by decide) (takes_of rfl rfl rfl rfl) (ad_cons (xv 0) (ad_cons (xv 1) ad_nil))) ad_nil)))))
    (sd_cons (sd_if (tCmpW (cNe hr.units) (ed_lc (own := [("one", 3)]) false rfl sc__law_told_right.nd (id_seq (xv 2)) (blkOk_by (N := n__law_told_right) (sc := defScope (Hd.top 43)) (own := [("one", 3)]) (by decide +kernel)) (fun _ _ _ _ _ => (gd_var (i := 3) (by decide) sc__law_told_right.nd rfl (Or.inl rfl))) (fun _ _ _ _ _ => (pts_oneD (td_not (td_val (xBlt wIsi c.b_isinstance (ad_cons (xv 3) (ad_cons (ed_ty rfl c.b_bool bb_bool) ad_nil))))))) (fun _ _ _ _ _ => (xv 3))) (ed_lst false ad_nil)) (sd_one (sd_ret ed_bl)) sd_nil)
    (sd_one (sd_ret (xCmp (cEq hr.units) (xv 2) (ed_lst false (ad_cons (xCall (g__law_is_rule c) hr (by decide) (takes_of rfl rfl rfl rfl) (ad_cons (xv 1) ad_nil)) (ad_cons (xCall (g__law_is_kind c) hr (by decide) (takes_of rfl rfl rfl rfl) (ad_cons (xv 1) ad_nil)) (ad_cons (xCall (g__law_is_outcome c) hr (by decide) (takes_of rfl rfl rfl rfl) (ad_cons (xv 0) (ad_cons (xv 1) ad_nil))) ad_nil)))))))))
def n_need_kind : List Str := ["value"]
theorem sc_need_kind : FnScope n_need_kind ["value"] (defScope (Hd.top 22)) := ⟨rfl, rfl, rfl, by decide +kernel, rfl, by decide +kernel, by decide +kernel⟩
theorem g_need_kind [WC] [FA] {P : Program} {K : PySem.W.Frag} {mg : Str → Option Value} {base : Heap} (c : Fx K mg) : Good P WC.w K mg base 3 "need_kind" ["value"] m_need_kind := by
  obtain ⟨f, hm, F⟩ := c.d_need_kind
  refine Good.pure (good_mk (N := n_need_kind) (ps := ["value"]) (k := 2) hm F sc_need_kind (by decide) (fun _ _ _ _ _ _ us hl => match us, hl with | [_], _ => rfl) fun f cdv A outer s0 H E hr => ?_)
  exact (sd_one (sd_if (td_not (td_val (xCall (g_is_kind c) hr (by decide) (takes_of rfl rfl rfl rfl) (ad_cons (xv 0) ad_nil)))) (sd_one sd_bad) sd_nil))
def n_need_number : List Str := ["value"]
theorem sc_need_number : FnScope n_need_number ["value"] (defScope (Hd.top 23)) := ⟨rfl, rfl, rfl, by decide +kernel, rfl, by decide +kernel, by decide +kernel⟩
theorem g_need_number [WC] [FA] {P : Program} {K : PySem.W.Frag} {mg : Str → Option Value} {base : Heap} (c : Fx K mg) : Good P WC.w K mg base 2 "need_number" ["value"] m_need_number := by
  obtain ⟨f, hm, F⟩ := c.d_need_number
  refine Good.pure (good_mk (N := n_need_number) (ps := ["value"]) (k := 1) hm F sc_need_number (by decide) (fun _ _ _ _ _ _ us hl => match us, hl with | [_], _ => rfl) fun f cdv A outer s0 H E hr => ?_)
  exact (sd_one (sd_if (td_bool (wd_or (td_not (td_val (xCall (g_is_number c) hr (by decide) (takes_of rfl rfl rfl rfl) (ad_cons (xv 0) ad_nil)))) (wd_or1 (tCmpW (cLt hr.units) (xv 0) ed_int)))) (sd_one sd_bad) sd_nil))
def n_barred_by : List Str := ["kind", "number", "person", "found", "partner"]
theorem sc_barred_by : FnScope n_barred_by ["kind", "number", "person"] (defScope (Hd.top 25)) := ⟨rfl, rfl, rfl, by decide +kernel, rfl, by decide +kernel, by decide +kernel⟩
theorem g_barred_by [WC] [FA] {P : Program} {K : PySem.W.Frag} {mg : Str → Option Value} {base : Heap} (c : Fx K mg) : Good P WC.w K mg base 1 "barred_by" ["kind", "number", "person"] m_barred_by := by
  obtain ⟨f, hm, F⟩ := c.d_barred_by
  refine Good.pure (good_mk (N := n_barred_by) (ps := ["kind", "number", "person"]) (k := 0) hm F sc_barred_by (by decide) (fun _ _ _ _ _ _ us hl => match us, hl with | [_, _, _], _ => rfl) fun f cdv A outer s0 H E hr => ?_)
  exact (sd_cons (sd_set (i := 3) sc_barred_by.nd rfl (Or.inl rfl) (ed_lst false ad_nil))
    (sd_cons (sd_if (tCmpW (cIn hr.u65) ed_str (xv 0)) (sd_one (sd_set (i := 3) sc_barred_by.nd rfl (Or.inl rfl) (xAdd false (xv 3) (ed_lst false (ad_cons (xv 2) ad_nil))))) sd_nil)
    (sd_cons (sd_if (tCmpW (cIn hr.u65) ed_str (xv 0)) (sd_one (sd_set (i := 3) sc_barred_by.nd rfl (Or.inl rfl) (xAdd false (xv 3) (ed_lst false (ad_cons (xMod (xAdd false (xv 2) ed_int) (xv 1)) ad_nil))))) sd_nil)
    (sd_cons (sd_if (tCmpW (cIn hr.u65) ed_str (xv 0)) (sd_one (sd_set (i := 3) sc_barred_by.nd rfl (Or.inl rfl) (xAdd false (xv 3) (ed_lst false (ad_cons (xMod (xSub (xv 2) ed_int) (xv 1)) ad_nil))))) sd_nil)
    (sd_cons (sd_set (i := 4) sc_barred_by.nd rfl (Or.inl rfl) (xSub (xAdd false (xv 2) ed_int) (xMul ed_int (xMod (xv 2) ed_int))))
    (sd_cons (sd_if (td_bool (wd_and (tCmpW (cIn hr.u65) ed_str (xv 0)) (wd_and1 (tCmpW (cLt hr.units) (xv 4) (xv 1))))) (sd_one (sd_set (i := 3) sc_barred_by.nd rfl (Or.inl rfl) (xAdd false (xv 3) (ed_lst false (ad_cons (xv 4) ad_nil))))) sd_nil)
    (sd_one (sd_ret (xBlt wTuple c.b_tuple (ad_cons (ed_sortSetZ rfl c.b_sorted rfl c.b_set rfl (xv 3)) ad_nil))))))))))
def n_rule_of : List Str := ["kind", "number", "person"]
theorem sc_rule_of : FnScope n_rule_of ["kind", "number"] (defScope (Hd.top 26)) := ⟨rfl, rfl, rfl, by decide +kernel, rfl, by decide +kernel, by decide +kernel⟩
theorem g_rule_of [WC] [FA] {P : Program} {K : PySem.W.Frag} {mg : Str → Option Value} {base : Heap} (c : Fx K mg) : Good P WC.w K mg base 2 "rule_of" ["kind", "number"] m_rule_of := by
  obtain ⟨f, hm, F⟩ := c.d_rule_of
  refine Good.pure (good_mk (N := n_rule_of) (ps := ["kind", "number"]) (k := 1) hm F sc_rule_of (by decide) (fun _ _ _ _ _ _ us hl => match us, hl with | [_, _], _ => rfl) fun f cdv A outer s0 H E hr => ?_)
  exact (sd_one (sd_ret (ed_tup (ad_cons (xBlt wTuple c.b_tuple (ad_cons (ed_lc (own := [("person", 2)]) false rfl sc_rule_of.nd (id_seq (ed_listR1 false rfl rfl c.b_list rfl c.b_range (xv 1))) (blkOk_by (N := n_rule_of) (sc := defScope (Hd.top 26)) (own := [("person", 2)]) (by decide +kernel)) (fun _ _ _ _ _ => (gd_var (i := 2) (by decide) sc_rule_of.nd rfl (Or.inl rfl))) (fun _ _ _ _ _ => pts_nilD) (fun _ _ _ _ _ => (xCall (g_barred_by c) hr (by decide) takes0 (ad_cons (xv 0) (ad_cons (xv 1) (ad_cons (xv 2) ad_nil)))))) ad_nil)) (ad_cons (xCmp (cIn hr.u65) ed_str (xv 0)) (ad_cons (xgS c.c_AGAIN) ad_nil))))))
def n_rule_for : List Str := ["kind", "number"]
theorem sc_rule_for : FnScope n_rule_for ["kind", "number"] (defScope (Hd.top 29)) := ⟨rfl, rfl, rfl, by decide +kernel, rfl, by decide +kernel, by decide +kernel⟩
theorem g_rule_for [WC] [FA] {P : Program} {K : PySem.W.Frag} {mg : Str → Option Value} {base : Heap} (c : Fx K mg) : Good P WC.w K mg base 4 "rule_for" ["kind", "number"] m_rule_for := by
  obtain ⟨f, hm, F⟩ := c.d_rule_for
  refine Good.pure (good_mk (N := n_rule_for) (ps := ["kind", "number"]) (k := 3) hm F sc_rule_for (by decide) (fun _ _ _ _ _ _ us hl => match us, hl with | [_, _], _ => rfl) fun f cdv A outer s0 H E hr => ?_)
  exact (sd_cons (sd_exp (xCall (g_need_kind c) hr (by decide) (takes_of rfl rfl rfl rfl) (ad_cons (xv 0) ad_nil)))
    (sd_cons (sd_exp (xCall (g_need_number c) hr (by decide) (takes_of rfl rfl rfl rfl) (ad_cons (xv 1) ad_nil)))
    (sd_cons (sd_if (tCmpW cGt (xv 1) (xgI c.c_MOST)) (sd_one sd_bad) sd_nil)
    (sd_one (sd_ret (xCall (g_rule_of c) hr (by decide) (takes_of rfl rfl rfl rfl) (ad_cons (xv 0) (ad_cons (xv 1) ad_nil))))))))
def n__law_barred : List Str := ["kind", "many", "person", "found", "some", "word", "name"]
theorem sc__law_barred : FnScope n__law_barred ["kind", "many", "person"] (defScope (Hd.top 46)) := ⟨rfl, rfl, rfl, by decide +kernel, rfl, by decide +kernel, by decide +kernel⟩
theorem g__law_barred [WC] [FA] {P : Program} {K : PySem.W.Frag} {mg : Str → Option Value} {base : Heap} (c : Fx K mg) : Good P WC.w K mg base 1 "_law_barred" ["kind", "many", "person"] m__law_barred := by
  obtain ⟨f, hm, F⟩ := c.d__law_barred
  refine Good.pure (good_mk (N := n__law_barred) (ps := ["kind", "many", "person"]) (k := 0) hm F sc__law_barred (by decide) (fun _ _ _ _ _ _ us hl => match us, hl with | [_, _, _], _ => rfl) fun f cdv A outer s0 H E hr => ?_)
  exact (sd_cons (sd_set (i := 3) sc__law_barred.nd rfl (Or.inr rfl) (ed_kdisp (.cons ed_str (xv 2) (.cons ed_str (ed_if (tCmpW (cLt hr.units) (xAdd false (xv 2) ed_int) (xv 1)) (xAdd false (xv 2) ed_int) ed_int) (.cons ed_str (xSub (xv 2) ed_int) .nil))) rfl rfl (by simp) (by decide)))
    (sd_cons (sd_putK hr.u1 (ed_if (tCmpW (cEq hr.units) (xv 2) ed_int) (xSub (xv 1) ed_int) (xSub (xv 2) ed_int)) (xv 3) ed_str)
    (sd_cons (sd_if (tCmpW (cEq hr.units) (xMod (xv 2) ed_int) ed_int) (sd_one (sd_putK hr.u1 (xAdd false (xv 2) ed_int) (xv 3) ed_str)) sd_nil)
    (sd_cons (sd_setLc (own := [("word", 5)]) (i := 4) false rfl sc__law_barred.nd rfl rfl (sw_true rfl rfl rfl rfl) (id_seq (xv 0)) (blkOk_by (N := n__law_barred) (sc := defScope (Hd.top 46)) (own := [("word", 5)]) (by decide +kernel)) (fun _ _ _ _ _ => (gd_var (i := 5) (by decide) sc__law_barred.nd rfl (Or.inl rfl))) (fun _ _ _ _ _ => (pts_oneD (tCmpW (cNe hr.units) (xv 5) ed_str))) (fun _ _ _ _ _ => (ed_ixK hr.u1 (xv 3) (xv 5) (fun _ _ => rfl))))
    (sd_one (sd_ret (xBlt wTuple c.b_tuple (ad_cons (ed_sortSetZ rfl c.b_sorted rfl c.b_set rfl (ed_lc (own := [("name", 6)]) false rfl sc__law_barred.nd (id_seq (xv 4)) (blkOk_by (N := n__law_barred) (sc := defScope (Hd.top 46)) (own := [("name", 6)]) (by decide +kernel)) (fun _ _ _ _ _ => (gd_var (i := 6) (by decide) sc__law_barred.nd rfl (Or.inl rfl))) (fun _ _ _ _ _ => (pts_oneD (tCmpW (cLt hr.units) (xv 6) (xv 1)))) (fun _ _ _ _ _ => (xv 6)))) ad_nil))))))))
def n_law : List Str := ["script", "every", "k", "rows", "bag", "outcome", "some", "turn", "free", "six", "rule", "kind", "value", "more", "many", "due", "word", "person"]
theorem sc_law : FnScope n_law ["script"] (defScope (Hd.top 47)) := ⟨rfl, rfl, rfl, by decide +kernel, rfl, by decide +kernel, by decide +kernel⟩
theorem g_law [WC] [FA] {P : Program} {K : PySem.W.Frag} {mg : Str → Option Value} (c : Fx K mg) {f : Addr} (F : ∃ fd, FunD K "law" "law" (defArgs (Hd.top 47)) (defBody (Hd.top 47)) (defScope (Hd.top 47)) [] [] f fd) :
    ∃ fd, (∀ (s : Shared) (u : Value), BindsTo s fd ⟨[u], []⟩ [("script", u)]) ∧ ∀ base : Heap, FnOk P WC.w K mg base (L2.CX P WC.w) 17 f fd ["script"] (spM K mg m_law) := by
  refine law_mk (N := n_law) (k := 16) F sc_law (by decide) (fun _ _ _ _ _ _ us hl => match us, hl with | [_], _ => rfl) fun base f cdv A outer s0 H E hr => ?_
  exact (sd_cons (sd_set (i := 1) sc_law.nd rfl (Or.inl rfl) (ed_lst false (ad_cons ed_str (ad_cons ed_str (ad_cons ed_str (ad_cons ed_str (ad_cons ed_str ad_nil)))))))
    (sd_cons (sd_for (ix := [2]) (passes_of rfl) rfl (id_range1 rfl c.b_range (xBlt (wMax2 rfl) c.b_max (ad_cons ed_int (ad_cons (xBlt (wMin2 rfl) c.b_min (ad_cons ed_int (ad_cons (xAdd false (xBlt wLen c.b_len (ad_cons (xv 0) ad_nil)) ed_int) ad_nil))) ad_nil)))) (gd_var (i := 2) (by decide) sc_law.nd rfl (Or.inl rfl)) (sd_cons (sd_set (i := 4) sc_law.nd rfl (Or.inr rfl) (xCall (g__law_bag c) hr (by decide) (takes_of rfl rfl rfl rfl) (ad_cons (xv 0) (ad_cons (xv 2) ad_nil))))
    (sd_cons (sd_asg (ix := [10, 11]) (ed_tup (ad_cons (xCall (g__law_rule c) hr (by decide) (takes_of rfl rfl rfl rfl) (ad_cons (xv 4) (ad_cons ed_int ad_nil))) (ad_cons (xBlt wTuple c.b_tuple (ad_cons (ed_lc (own := [("word", 16)]) false rfl sc_law.nd (id_seq (xv 1)) (blkOk_by (N := n_law) (sc := defScope (Hd.top 47)) (own := [("word", 16)]) (by decide +kernel)) (fun _ _ _ _ _ => (gd_var (i := 16) (by decide) sc_law.nd rfl (Or.inl rfl))) (fun _ _ _ _ _ => (pts_oneD (tCmpW (cEq hr.units) (xCall (g__law_take c) hr (by decide) takes0 (ad_cons (xv 4) (ad_cons ed_int ad_nil))) ed_int))) (fun _ _ _ _ _ => (xv 16))) ad_nil)) ad_nil))) (gd_tup rfl (gds_cons (gd_var (i := 10) (by decide) sc_law.nd rfl (Or.inl rfl)) (gds_cons (gd_var (i := 11) (by decide) sc_law.nd rfl (Or.inr rfl)) gds_nil))))
    (sd_cons (sd_set (i := 5) sc_law.nd rfl (Or.inl rfl) (xCall (g__law_order c) hr (by decide) (takes_of rfl rfl rfl rfl) (ad_cons (xv 4) (ad_cons (xBlt wLen c.b_len (ad_cons (ed_ix (xv 10) ed_int (fun _ _ => rfl)) ad_nil)) ad_nil))))
    (sd_cons (sd_set (i := 6) sc_law.nd rfl (Or.inl rfl) (ed_lst false (ad_cons (xv 10) (ad_cons (xv 10) (ad_cons (xv 11) (ad_cons (xv 5) (ad_cons (ed_rev (xv 11) (od_some (xNeg ed_int))) (ad_cons (ed_ix (xv 10) ed_int (fun _ _ => rfl)) ad_nil))))))))
    (sd_cons (sd_for (ix := [7]) (passes_of rfl) rfl (id_range1 rfl c.b_range ed_int) (gd_var (i := 7) (by decide) sc_law.nd rfl (Or.inl rfl)) (sd_cons (sd_set (i := 12) sc_law.nd rfl (Or.inl rfl) (xCall (g__law_of c) hr (by decide) (takes_of rfl rfl rfl rfl) (ad_cons (xv 4) (ad_cons (xv 6) ad_nil))))
    (sd_cons (sd_set (i := 13) sc_law.nd rfl (Or.inl rfl) (ed_lst true (ad_cons (xv 12) (ad_cons (xCall (g__law_spoiled c) hr (by decide) (takes_of rfl rfl rfl rfl) (ad_cons (xv 4) (ad_cons (xv 12) ad_nil))) (ad_cons (xCall (g__law_spoiled c) hr (by decide) (takes_of rfl rfl rfl rfl) (ad_cons (xv 4) (ad_cons (xv 12) ad_nil))) ad_nil)))))
    (sd_cons (sd_exp (ed_append (xv 13) (ad_cons (xCall (g__law_any_value c) hr (by decide) (takes_of rfl rfl rfl rfl) (ad_cons (xv 4) (ad_cons ed_int ad_nil))) ad_nil)))
    (sd_one (sd_if (td_not (td_tru (xCall (g__law_told_right c) hr (by decide) (takes_of rfl rfl rfl rfl) (ad_cons (xv 10) (ad_cons (xCall (g__law_of c) hr (by decide) (takes_of rfl rfl rfl rfl) (ad_cons (xv 4) (ad_cons (xv 13) ad_nil))) ad_nil))))) (sd_one (sd_ret ed_bl)) sd_nil))))))
    (sd_cons (sd_if (tCmpW (cNe hr.units) (xCall (g_lengths c) hr (by decide) (takes_of rfl rfl rfl rfl) (ad_cons (xv 10) (ad_cons (xv 5) ad_nil))) (xCall (g__law_lengths c) hr (by decide) (takes_of rfl rfl rfl rfl) (ad_cons (xv 5) ad_nil))) (sd_one (sd_ret ed_bl)) sd_nil)
    (sd_one (sd_if (tCmpW (cNe hr.units) (xv 11) (ed_tup ad_nil)) (sd_cons (sd_set (i := 14) sc_law.nd rfl (Or.inr rfl) (xAdd false ed_int (xCall (g__law_take c) hr (by decide) (takes_of rfl rfl rfl rfl) (ad_cons (xv 4) (ad_cons ed_int ad_nil)))))
    (sd_cons (sd_set (i := 15) sc_law.nd rfl (Or.inl rfl) (xBlt wTuple c.b_tuple (ad_cons (ed_lc (own := [("person", 17)]) false rfl sc_law.nd (id_range1 rfl c.b_range (xv 14)) (blkOk_by (N := n_law) (sc := defScope (Hd.top 47)) (own := [("person", 17)]) (by decide +kernel)) (fun _ _ _ _ _ => (gd_var (i := 17) (by decide) sc_law.nd rfl (Or.inl rfl))) (fun _ _ _ _ _ => pts_nilD) (fun _ _ _ _ _ => (xCall (g__law_barred c) hr (by decide) takes0 (ad_cons (xv 11) (ad_cons (xv 14) (ad_cons (xv 17) ad_nil)))))) ad_nil)))
    (sd_one (sd_if (tCmpW (cNe hr.units) (xCall (g_rule_for c) hr (by decide) (takes_of rfl rfl rfl rfl) (ad_cons (xv 11) (ad_cons (xv 14) ad_nil))) (ed_tup (ad_cons (xv 15) (ad_cons (xCmp (cIn hr.u65) ed_str (xv 11)) (ad_cons ed_str ad_nil))))) (sd_one (sd_ret ed_bl)) sd_nil)))) sd_nil)))))))))
    (sd_cons (sd_asg (ix := [8, 9]) (ed_tup (ad_cons (ed_tup (ad_cons (ed_tup (ad_cons (ed_tup ad_nil) (ad_cons (ed_tup ad_nil) ad_nil))) (ad_cons ed_bl (ad_cons ed_str ad_nil)))) (ad_cons (xRepT (ed_tup (ad_cons (ed_tup (ad_cons ed_int (ad_cons ed_int (ad_cons ed_int (ad_cons ed_int (ad_cons ed_int (ad_cons ed_int ad_nil))))))) ad_nil)) ed_int) ad_nil))) (gd_tup rfl (gds_cons (gd_var (i := 8) (by decide) sc_law.nd rfl (Or.inr rfl)) (gds_cons (gd_var (i := 9) (by decide) sc_law.nd rfl (Or.inl rfl)) gds_nil))))
    (sd_cons (sd_set (i := 3) sc_law.nd rfl (Or.inl rfl) (ed_lst true (ad_cons (ed_tup (ad_cons (xv 9) (ad_cons ed_bl (ad_cons ed_str ad_nil)))) (ad_cons (ed_tup (ad_cons (xAdd false (xv 9) (ed_tup (ad_cons (ed_tup ad_nil) ad_nil))) (ad_cons ed_bl (ad_cons ed_str ad_nil)))) (ad_cons (ed_tup (ad_cons (ed_tup (ad_cons (ed_tup ad_nil) ad_nil)) (ad_cons ed_bl (ad_cons ed_str ad_nil)))) (ad_cons (ed_tup (ad_cons (ed_tup (ad_cons (ed_tup (ad_cons ed_int (ad_cons ed_int ad_nil))) (ad_cons (ed_tup ad_nil) ad_nil))) (ad_cons ed_bl (ad_cons ed_str ad_nil)))) ad_nil))))))
    (sd_cons (sd_set (i := 3) sc_law.nd rfl (Or.inl rfl) (xAdd true (xv 3) (ed_lst false (ad_cons (ed_tup (ad_cons (ed_tup (ad_cons (ed_tup ad_nil) (ad_cons (ed_tup ad_nil) ad_nil))) (ad_cons ed_int (ad_cons ed_str ad_nil)))) (ad_cons (ed_tup (ad_cons (ed_tup (ad_cons (ed_tup ad_nil) (ad_cons (ed_tup ad_nil) ad_nil))) (ad_cons ed_bl (ad_cons ed_str ad_nil)))) (ad_cons (ed_tup (ad_cons ed_str (ad_cons ed_str ad_nil))) (ad_cons (ed_tup (ad_cons ed_str (ad_cons ed_str ad_nil))) ad_nil)))))))
    (sd_cons (sd_exp (ed_append (xv 3) (ad_cons (ed_tup (ad_cons ed_str (ad_cons ed_str ad_nil))) ad_nil)))
    (sd_cons (sd_set (i := 3) sc_law.nd rfl (Or.inl rfl) (xAdd true (xv 3) (ed_lst false (ad_cons (ed_tup (ad_cons ed_int (ad_cons ed_int ad_nil))) (ad_cons (ed_tup (ad_cons ed_int (ad_cons ed_int ad_nil))) (ad_cons (ed_tup (ad_cons ed_int (ad_cons ed_int ad_nil))) (ad_cons (ed_tup (ad_cons ed_bl (ad_cons ed_int ad_nil))) (ad_cons (ed_tup (ad_cons ed_int (ad_cons ed_int (ad_cons ed_int ad_nil)))) (ad_cons (ed_tup ad_nil) ad_nil)))))))))
    (sd_one (sd_ret (xCmp (cEq hr.units) (ed_lc (own := [("value", 12)]) false rfl sc_law.nd (id_seq (xv 3)) (blkOk_by (N := n_law) (sc := defScope (Hd.top 47)) (own := [("value", 12)]) (by decide +kernel)) (fun _ _ _ _ _ => (gd_var (i := 12) (by decide) sc_law.nd rfl (Or.inl rfl))) (fun _ _ _ _ _ => (pts_oneD (td_not (td_tru (xCall (g__law_told_right c) hr (by decide) takes0 (ad_cons (xv 8) (ad_cons (xv 12) ad_nil))))))) (fun _ _ _ _ _ => (xv 12))) (ed_lst false ad_nil)))))))))))
end Lw
namespace Lw
open PySem PySem.Spec PyProof.Rows L2 DL
variable [WC]
/-! ### names, rules -/
def namesD (l : List Int) : D := .tup (l.map .int)
def barsD (b : List (List Int)) : D := .tup (b.map namesD)
structure Rl where
  b : List (List Int)
  m : Bool
  w : Str
def ruleD (r : Rl) : D := .tup [barsD r.b, .bl r.m, .str r.w]
structure Rl.Ok (r : Rl) : Prop where
  lo : 2 ≤ r.b.length
  hi : r.b.length ≤ 6
  asc : ∀ l ∈ r.b, l.Pairwise (· < ·)
  ran : ∀ l ∈ r.b, ∀ i ∈ l, 0 ≤ i ∧ i < r.b.length
  way : r.w = "again" ∨ r.w = "anew" ∨ r.w = "swap"
@[simp] theorem np_ints (l : List Int) : noPtrL (l.map .int) = true := by induction l with
  | nil => rfl
  | cons a l ih => simp only [List.map_cons, noPtrL, noPtr, ih, Bool.and_self]
theorem np_L {l : List D} (h : ∀ d ∈ l, noPtr d = true) : noPtrL l = true := by induction l with
  | nil => rfl
  | cons a l ih => rw [noPtrL, h a List.mem_cons_self, ih fun d hd => h d (List.mem_cons_of_mem _ hd)]; rfl
@[simp] theorem np_names (l : List Int) : noPtr (namesD l) = true := np_ints l
theorem np_mapN (b : List (List Int)) : noPtrL (b.map namesD) = true := np_L fun d hd => by
  obtain ⟨l, _, rfl⟩ := List.mem_map.mp hd
  exact np_names l
@[simp] theorem np_bars (b : List (List Int)) : noPtr (barsD b) = true := np_mapN b
@[simp] theorem np_rule (r : Rl) : noPtr (ruleD r) = true := by simp only [ruleD, noPtr, noPtrL, np_bars, Bool.and_self]
@[simp] theorem np_lstI (l : List Int) : noPtr (.lst (l.map .int)) = true := np_ints l
@[simp] theorem np_int (i : Int) : noPtr (.int i) = true := rfl
@[simp] theorem np_bl (i : Bool) : noPtr (.bl i) = true := rfl
@[simp] theorem np_str (i : Str) : noPtr (.str i) = true := rfl
@[simp] theorem np_non : noPtr .non = true := rfl
@[simp] theorem npL_nil : noPtrL [] = true := rfl
@[simp] theorem npL_cons (d : D) (l : List D) : noPtrL (d :: l) = (noPtr d && noPtrL l) := rfl
@[simp] theorem np_tup (l : List D) : noPtr (.tup l) = noPtrL l := rfl
@[simp] theorem np_lst (l : List D) : noPtr (.lst l) = noPtrL l := rfl
theorem frz_np {μ : Store} {d : D} (h : noPtr d = true) : frzD μ d = some d := by
  cases d <;> first | (simp only [frzD]; rw [if_pos h]) | (simp [noPtr] at h)
/-- a def that shows nothing of its store: reckoned from its body -/
theorem pure_ret {n m : Nat} {body : SM} {ds : List D} {d : D} {μ μ' : Store} (hn : noPtrL ds = true) (hl : ds.length = n) (e : body (ds.map some ++ List.replicate (m - n) none) [] = .ok (.ret d) μ') (hd : noPtr d = true) : pureM (defM n m body) ds μ = .ok d μ :=
  pureM_at hn (defM_ret hl e) (frz_np hd)
theorem pure_nx {n m : Nat} {body : SM} {ds : List D} {ρ : DL.Env} {μ μ' : Store} (hn : noPtrL ds = true) (hl : ds.length = n) (e : body (ds.map some ++ List.replicate (m - n) none) [] = .ok (.nx ρ) μ') : pureM (defM n m body) ds μ = .ok .non μ :=
  pureM_at hn (defM_nx hl e) (frz_np rfl)
section
variable {μ : Store} {i j k : Int} {l ns : List Int} {r : Rl}
@[simp] theorem is_number_int : m_is_number [.int i] μ = .ok (.bl true) μ := pure_ret (μ' := []) (by simp) rfl (by simp) rfl
@[simp] theorem is_from_int : m_is_from [.int i, .int j, .int k] μ = .ok (.bl (decide (j ≤ i) && decide (i ≤ k))) μ := by
  refine pure_ret (μ' := []) (by simp) rfl ?_ rfl
  by_cases h : j ≤ i
  · simp [h]
  · simp [h]
def ltP : D → Bool
  | .tup [.int a, .int b] => decide (a < b)
  | _ => false
theorem zip_int : ∀ (l m : List Int), zipD (l.map .int) (m.map .int) = (l.zip m).map fun p => .tup [.int p.1, .int p.2]
  | [], _ => rfl
  | _ :: _, [] => rfl
  | a :: l, b :: m => by
    have := zip_int l m
    unfold zipD at this ⊢
    simp only [List.map_cons, List.zipWith_cons_cons, List.zip_cons_cons, this]
theorem zip_intT (l : List Int) : zipD (l.map .int) (l.map .int).tail = (l.zip l.tail).map fun p => .tup [.int p.1, .int p.2] := by rw [← List.map_tail, zip_int]
theorem asc_zip : ∀ (l : List Int), l.Pairwise (· < ·) → ∀ p ∈ l.zip l.tail, p.1 < p.2
  | [], _, p, h => by simp at h
  | [a], _, p, h => by simp at h
  | a :: b :: l, hp, p, h => by
    simp only [List.tail_cons, List.zip_cons_cons, List.mem_cons] at h
    rcases h with h | h
    · subst h; exact (List.pairwise_cons.mp hp).1 b List.mem_cons_self
    · exact asc_zip (b :: l) (List.pairwise_cons.mp hp).2 p (by simpa using h)
theorem is_ascending_names (h : l.Pairwise (· < ·)) (hl : l.length < 1000) : m_is_ascending [namesD l] μ = .ok (.bl true) μ := by
  refine pure_ret (μ' := []) (by simp) rfl ?_ rfl
  rw [sRet_at, eCall_at, aCons_at, lc_bl (μ1 := []) (ds := (l.zip l.tail).map fun p => .tup [.int p.1, .int p.2]) (c := always) ltP (by simp [namesD, cut_from, zip_intT]) rfl ?_ (by simp; omega)]
  · simp
    intro a b hab
    exact decide_eq_true (asc_zip l h (a, b) (by simpa using hab))
  · intro d hd
    obtain ⟨p, _, rfl⟩ := List.mem_map.mp hd
    exact ⟨_, by simp [wipeE]; rfl, by simp [ltP]⟩
def ix (l : List Int) (i : Int) : Int := l.getD i.toNat 0
def ixL (b : List (List Int)) (i : Int) : List Int := b.getD i.toNat []
theorem gIxL_map {α : Type} {f : α → D} {l : List α} {x : α} (h : 0 ≤ i) (h2 : i < l.length) : gIxL (l.map f) i μ = .ok (f (l.getD i.toNat x)) μ := by
  refine gIxL_nn h ?_
  have e : i.toNat < l.length := by omega
  rw [List.getElem?_map, List.getElem?_eq_getElem e, Option.map_some, List.getD_eq_getElem?_getD, List.getElem?_eq_getElem e]; rfl
theorem gIx_names (h : 0 ≤ i) (h2 : i < ns.length) : gIx (namesD ns) (.int i) μ = .ok (.int (ix ns i)) μ := by
  rw [namesD, gIx_tup, gIxL_map (x := 0) h h2]; rfl
theorem gIx_bars {b : List (List Int)} (h : 0 ≤ i) (h2 : i < b.length) : gIx (barsD b) (.int i) μ = .ok (namesD (ixL b i)) μ := by
  rw [barsD, gIx_tup, gIxL_map (x := []) h h2]; rfl
@[simp] theorem gIx_rule0 : gIx (ruleD r) (.int 0) μ = .ok (barsD r.b) μ := by simp [ruleD]
@[simp] theorem gIx_rule1 : gIx (ruleD r) (.int 1) μ = .ok (.bl r.m) μ := by simp [ruleD]
@[simp] theorem gIx_rule2 : gIx (ruleD r) (.int 2) μ = .ok (.str r.w) μ := by simp [ruleD]
@[simp] theorem gLen_bars {b : List (List Int)} : gLen [barsD b] μ = .ok (.int b.length) μ := by simp [barsD]
@[simp] theorem gLen_names : gLen [namesD ns] μ = .ok (.int ns.length) μ := by simp [namesD]
@[simp] theorem gLen_rule : gLen [ruleD r] μ = .ok (.int 3) μ := by simp [ruleD]
@[simp] theorem gIn_names (neg : Bool) : gIn neg (.int i) (namesD ns) μ = .ok (.bl (if neg then !decide (i ∈ ns) else decide (i ∈ ns))) μ := gIn_tupI neg
@[simp] theorem isi_names : gIsi [namesD ns, .raw (.ty "tuple")] μ = .ok (.bl true) μ := isi_tup_tuple
@[simp] theorem isi_bars {b : List (List Int)} : gIsi [barsD b, .raw (.ty "tuple")] μ = .ok (.bl true) μ := isi_tup_tuple
@[simp] theorem isi_rule : gIsi [ruleD r, .raw (.ty "tuple")] μ = .ok (.bl true) μ := isi_tup_tuple
@[simp] theorem gSeq_names : gSeq (namesD ns) μ = .ok (ns.map .int, always) μ := rfl
@[simp] theorem gSeq_bars {b : List (List Int)} : gSeq (barsD b) μ = .ok (b.map namesD, always) μ := rfl
/-! ### what is a rule -/
def inR (n : Int) : D → Bool
  | .int i => decide (0 ≤ i) && decide (i ≤ n - 1)
  | _ => false
theorem range_all {n : Int} (h : ∀ i ∈ ns, 0 ≤ i ∧ i < n) : ns.all (inR n ∘ D.int) = true := by
  simp only [List.all_eq_true]
  intro i hi
  have := h i hi
  simp only [Function.comp_apply, inR, Bool.and_eq_true, decide_eq_true_eq]
  omega
theorem nat_len : ∀ (n : Nat) (l : List Nat), l.Nodup → (∀ x ∈ l, x < n) → l.length ≤ n
  | 0, [], _, _ => by simp
  | 0, x :: l, _, h => absurd (h x List.mem_cons_self) (by omega)
  | n + 1, l, hn, h => by
    have k := nat_len n (l.erase n) (hn.sublist List.erase_sublist) fun x hx => by
      have h1 := (List.Nodup.mem_erase_iff hn).mp hx
      have := h x h1.2
      have := h1.1
      omega
    rw [List.length_erase] at k
    split at k <;> omega
theorem int_len {l : List Int} {n : Nat} (hn : l.Nodup) (h : ∀ i ∈ l, 0 ≤ i ∧ i < n) : l.length ≤ n := by
  have := nat_len n (l.map Int.toNat) (List.pairwise_map.mpr (hn.imp_of_mem fun {a b} ha hb q e => q (by have := h a ha; have := h b hb; omega))) fun x hx => by
    obtain ⟨i, hi, rfl⟩ := List.mem_map.mp hx
    have := h i hi
    omega
  simpa using this
theorem asc_nodup {l : List Int} (h : l.Pairwise (· < ·)) : l.Nodup := h.imp fun q => Int.ne_of_lt q
theorem all_true {α : Type} (l : List α) : (l.all fun _ => true) = true := by simp
theorem are_names_ok {n : Int} (h : ns.Pairwise (· < ·)) (hr : ∀ i ∈ ns, 0 ≤ i ∧ i < n) (hl : ns.length < 1000) : m_are_names [namesD ns, .int n] μ = .ok (.bl true) μ := by
  refine pure_ret (μ' := []) (by simp) rfl ?_ rfl
  rw [sSeq_at, sIf_at, tOrM_at]
  have e := lc_bl (it := iSeq (eVar 0)) (g := gVar 2) (f := eCall m_is_from (aCons (eVar 2) (aCons (eC (.int 0)) (aCons (eBin gSub (eVar 1) (eC (.int 1))) aNil)))) (vs := [2]) (ρ := [some (namesD ns), some (.int n), none]) (μ := []) (μ1 := []) (ds := ns.map .int) (c := always) (inR n) (by simp) rfl
    (fun d hd => by obtain ⟨i, _, rfl⟩ := List.mem_map.mp hd; exact ⟨_, by simp [wipeE]; rfl, by simp [inR]⟩) (by simp; omega)
  simp [e, range_all hr, is_ascending_names h hl]
theorem way_str : ∀ s : Str, s = "again" ∨ s = "anew" ∨ s = "swap" → gIn false (.str s) (.tup [.str "again", .str "anew", .str "swap"]) μ = .ok (.bl true) μ := by
  intro s h
  rw [gIn_seq (n := 0) (ys := [.str "again", .str "anew", .str "swap"]) false ?_ ?_ (.inl rfl)]
  · simp [h]
  · rcases h with h | h | h <;> subst h <;> decide +kernel
  · intro z hz
    simp only [List.mem_cons, List.not_mem_nil, or_false] at hz
    rcases hz with h | h | h <;> subst h <;> decide +kernel
theorem is_rule_ok (h : r.Ok) : m_is_rule [ruleD r] μ = .ok (.bl true) μ := by
  refine pure_ret (μ' := []) (by simp) rfl ?_ rfl
  have hlo := h.lo
  have hhi := h.hi
  have e := lc_bl (it := iSeq (eBin gIx (eVar 0) (eC (.int 0)))) (g := gVar 1) (f := eCall m_are_names (aCons (eVar 1) (aCons (eCall gLen (aCons (eBin gIx (eVar 0) (eC (.int 0))) aNil)) aNil))) (vs := [1]) (ρ := [some (ruleD r), none]) (μ := []) (μ1 := []) (ds := r.b.map namesD) (c := always) (fun _ => true) (by simp) rfl
    (fun d hd => by
      obtain ⟨l, hl, rfl⟩ := List.mem_map.mp hd
      have hlen : l.length < 1000 := by
        have := int_len (asc_nodup (h.asc l hl)) (h.ran l hl)
        omega
      exact ⟨_, by simp [wipeE]; rfl, by simp [are_names_ok (h.asc l hl) (h.ran l hl) hlen]⟩) (by simp; omega)
  have h1 : (2 : Int) ≤ r.b.length := by omega
  have h2 : (r.b.length : Int) ≤ 6 := by omega
  simp [e, h1, h2, way_str _ h.way, all_true]
end
end Lw
namespace Lw
open PySem PySem.Spec PyProof.Rows L2 DL
variable [WC]
section
variable {μ : Store} {i j k : Int} {l ns : List Int} {r : Rl}
theorem need_rule_ok (h : r.Ok) : m_need_rule [ruleD r] μ = .ok .non μ := by
  refine pure_nx (μ' := []) (ρ := [some (ruleD r)]) (by simp) rfl ?_
  simp [is_rule_ok h]
theorem dd_self : ∀ {l : List Int}, l.Nodup → dd l = l
  | [], _ => rfl
  | x :: l, h => by
    unfold dd
    rw [if_neg (List.nodup_cons.mp h).1, dd_self (List.nodup_cons.mp h).2]
theorem lenSet_names {ρ : DL.Env} {f : DL.Env → M D} (h : f ρ μ = .ok (namesD ns) μ) (hl : ns.length ≤ 4000) : eLenSet f ρ μ = .ok (.int ((dd ns).length : Nat)) μ := by
  unfold eLenSet
  simp only [Mbind_at, h, and_ok]
  unfold kLenSet
  simp only [namesD, asTup, Option.bind_some, intsOf_map, if_pos hl]; rfl
theorem are_different_ok {n : Int} (h : ns.Nodup) (hr : ∀ i ∈ ns, 0 ≤ i ∧ i < n) (hl : ns.length < 1000) : m_are_different [namesD ns, .int n] μ = .ok (.bl true) μ := by
  refine pure_ret (μ' := []) (by simp) rfl ?_ rfl
  have e := lc_bl (it := iSeq (eVar 0)) (g := gVar 2) (f := eCall m_is_from (aCons (eVar 2) (aCons (eC (.int 0)) (aCons (eBin gSub (eVar 1) (eC (.int 1))) aNil)))) (vs := [2]) (ρ := [some (namesD ns), some (.int n), none]) (μ := []) (μ1 := []) (ds := ns.map .int) (c := always) (inR n) (by simp) rfl
    (fun d hd => by obtain ⟨i, _, rfl⟩ := List.mem_map.mp hd; exact ⟨_, by simp [wipeE]; rfl, by simp [inR]⟩) (by simp; omega)
  have e2 := lenSet_names (ns := ns) (f := eVar 0) (ρ := [some (namesD ns), some (.int n), none]) (μ := []) (by simp) (by omega)
  simp [e, range_all hr, e2, dd_self h]
/-- names of those before -/
structure Ns (r : Rl) (ns : List Int) : Prop where
  nd : ns.Nodup
  ran : ∀ i ∈ ns, 0 ≤ i ∧ i < r.b.length
theorem Ns.len (h : Ns r ns) : ns.length ≤ r.b.length := int_len h.nd h.ran
theorem need_names_ok (h : r.Ok) (hn : Ns r ns) (hl : ns.length < r.b.length) : m_need_names [ruleD r, namesD ns] μ = .ok .non μ := by
  have := h.hi
  refine pure_nx (μ' := []) (ρ := [some (ruleD r), some (namesD ns)]) (by simp) rfl ?_
  have e : ¬ ((ns.length : Int) = r.b.length) := by omega
  simp [need_rule_ok h, are_different_ok hn.nd hn.ran (by omega), e]
def rng (n : Nat) : List Int := (List.range n).map fun (i : Nat) => (i : Int)
theorem rngD_0 (n : Nat) : rngD 0 n = (rng n).map .int := by
  unfold rngD rng
  rw [List.map_map]
  congr 1
  funext i
  simp
@[simp] theorem rng_len (n : Nat) : (rng n).length = n := by simp [rng]
theorem mem_rng {n : Nat} : i ∈ rng n ↔ 0 ≤ i ∧ i < n := by
  unfold rng
  simp only [List.mem_map, List.mem_range]
  exact ⟨fun ⟨a, h, e⟩ => by omega, fun h => ⟨i.toNat, by omega, by omega⟩⟩
def left (r : Rl) (ns : List Int) : List Int := (rng r.b.length).filter fun n => !decide (n ∈ ns)
def nIn (ns : List Int) : D → Bool
  | .int i => !decide (i ∈ ns)
  | _ => false
theorem filter_ints (p : D → Bool) (l : List Int) : (l.map D.int).filter p = (l.filter fun i => p (.int i)).map .int := by
  rw [List.filter_map]; rfl
/-- a comprehension that keeps some ints -/
theorem lc_keep {mu : Bool} {it : IM} {g : GM} {t : DL.Env → M Bool} {f : DL.Env → M D} {vs : List Nat} {ρ : DL.Env} {μ μ1 : Store} {c : Store → Bool} {l : List Int} (p : Int → Bool) (hi : it ρ μ = .ok (l.map .int, c) μ1) (hc : c μ1 = true)
    (h : ∀ i ∈ l, ∃ ρ1, g (.int i) (wipeE ρ vs) μ1 = .ok ρ1 μ1 ∧ t ρ1 μ1 = .ok (p i) μ1 ∧ f ρ1 μ1 = .ok (.int i) μ1) (hl : l.length < 16777216) : eLc mu it g t f vs ρ μ = retL mu ((l.filter p).map .int) μ1 := by
  rw [lc_at (fun d => match d with
    | .int i => p i
    | _ => false) id hi hc (fun d hd => by obtain ⟨i, h1, rfl⟩ := List.mem_map.mp hd; obtain ⟨ρ1, q1, q2, q3⟩ := h i h1; exact ⟨ρ1, q1, q2, fun _ => q3⟩) (by simpa using hl), List.map_id, filter_ints]
theorem names_left_ok (h : r.b.length ≤ 1000) : m_names_left [ruleD r, namesD ns] μ = .ok (.lst ((left r ns).map .int)) μ := by
  refine pure_ret (μ' := []) (by simp) rfl ?_ (by simp)
  rw [sRet_at, lc_keep (μ1 := []) (l := rng r.b.length) (c := always) (fun n => !decide (n ∈ ns))]
  · rfl
  · simp [kLR_nat false h, rngD_0]
  · rfl
  · intro i hi
    exact ⟨_, by simp [wipeE]; rfl, by simp, by simp⟩
  · rw [rng_len]; omega
/-! ### what is let -/
def isLet (r : Rl) (ns : List Int) (p n : Int) : Bool := !decide (n ∈ ixL r.b p) && (!r.m || (!decide (n = p) && (decide ((ns.length : Int) ≤ n) || !decide (ix ns n = p))))
theorem is_let_ok (hp : 0 ≤ i ∧ i < r.b.length) (hn : 0 ≤ j) : m_is_let [ruleD r, namesD ns, .int i, .int j] μ = .ok (.bl (isLet r ns i j)) μ := by
  refine pure_ret (μ' := []) (by simp) rfl ?_ rfl
  unfold isLet
  by_cases h1 : j ∈ ixL r.b i
  · simp [gIx_bars hp.1 hp.2, h1]
  · by_cases h2 : r.m = true
    · by_cases h3 : j = i
      · subst h3
        simp [gIx_bars hp.1 hp.2, h1, h2]
      · by_cases h4 : (ns.length : Int) ≤ j
        · simp [gIx_bars hp.1 hp.2, h1, h2, h3, h4]
        · simp [gIx_bars hp.1 hp.2, h1, h2, h3, h4, gIx_names hn (show j < ns.length by omega)]
    · simp [gIx_bars hp.1 hp.2, h1, h2]
def letOf (r : Rl) (ns : List Int) : List Int := (left r ns).filter fun n => isLet r ns ns.length n
theorem left_mem : i ∈ left r ns ↔ (0 ≤ i ∧ i < r.b.length) ∧ i ∉ ns := by simp [left, mem_rng]
theorem all_let_ok (h : r.b.length ≤ 1000) (hl : ns.length < r.b.length) : m_all_let [ruleD r, namesD ns] μ = .ok (.lst ((letOf r ns).map .int)) μ := by
  refine pure_ret (μ' := []) (by simp) rfl ?_ (by simp)
  rw [sRet_at, lc_keep (μ1 := []) (l := left r ns) (c := always) (fun n => isLet r ns ns.length n)]
  · rfl
  · simp [names_left_ok h]
  · rfl
  · intro i hi
    refine ⟨_, by simp [wipeE]; rfl, ?_, by simp⟩
    simp [is_let_ok (show 0 ≤ (ns.length : Int) ∧ (ns.length : Int) < r.b.length by omega) (left_mem.mp hi).1.1]
  · have : (left r ns).length ≤ (rng r.b.length).length := List.length_filter_le _ _
    rw [rng_len] at this
    omega
theorem let_names_ok (h : r.Ok) (hn : Ns r ns) (hl : ns.length < r.b.length) : m_let_names [ruleD r, namesD ns] μ = .ok (.lst ((letOf r ns).map .int)) μ := by
  have := h.hi
  refine pure_ret (μ' := []) (by simp) rfl ?_ (by simp)
  simp [need_names_ok h hn hl, all_let_ok (show r.b.length ≤ 1000 by omega) hl]
end
end Lw
namespace Lw
open PySem PySem.Spec PyProof.Rows L2 DL
variable [WC]
section
variable {μ : Store} {i j k : Int} {l ns xs : List Int} {r : Rl}
theorem cut_fromI (h : 0 ≤ k) : cutD (l.map .int) (some k) none = (l.drop k.toNat).map .int := by rw [cut_from h, List.map_drop]
theorem cut_toI (h : 0 ≤ k) : cutD (l.map .int) none (some k) = (l.take k.toNat).map .int := by rw [cut_to h, List.map_take]
theorem gSl_from (h : 0 ≤ k) : gSl (namesD l) (some k) none μ = .ok (namesD (l.drop k.toNat)) μ := by rw [namesD, gSl_tup, cut_fromI h]; rfl
theorem gSl_to (h : 0 ≤ k) : gSl (namesD l) none (some k) μ = .ok (namesD (l.take k.toNat)) μ := by rw [namesD, gSl_tup, cut_toI h]; rfl
theorem gAdd_names (mu : Bool) (h : l.length + ns.length ≤ 10000) : gAdd mu (namesD l) (namesD ns) μ = .ok (namesD (l ++ ns)) μ := by
  rw [namesD, namesD, gAdd_tup mu (by simp only [List.length_map]; omega), ← List.map_append]; rfl
theorem tup_names1 : D.tup [.int i] = namesD [i] := rfl
def withName (ns : List Int) (e n : Int) : List Int := ns.take e.toNat ++ ([n] ++ ns.drop (e.toNat + 1))
def exch (ns : List Int) (e n : Int) : List Int := withName ns e n ++ [ix ns e]
theorem with_name_ok (h : 0 ≤ i) (hl : ns.length ≤ 1000) : m_with_name [namesD ns, .int i, .int j] μ = .ok (namesD (withName ns i j)) μ := by
  refine pure_ret (μ' := []) (by simp) rfl ?_ (by simp)
  have e : (i + 1).toNat = i.toNat + 1 := by omega
  simp only [withName]
  have h1 : (ns.take i.toNat).length ≤ 1000 := by rw [List.length_take]; omega
  have h2 : (ns.drop (i.toNat + 1)).length ≤ 1000 := by rw [List.length_drop]; omega
  simp [gSl_to h, gSl_from (show 0 ≤ i + 1 by omega), tup_names1, e]
  rw [gAdd_names false (by simp; omega)]
  simp [gSl_from (show 0 ≤ i + 1 by omega), e]
  rw [gAdd_names false (by simp; omega)]
  simp
theorem withName_len (h : 0 ≤ i) (h2 : i < ns.length) : (withName ns i j).length = ns.length := by
  simp only [withName, List.length_append, List.length_take, List.length_drop, List.length_cons, List.length_nil]; omega
theorem exchanged_ok (h : 0 ≤ i) (h2 : i < ns.length) (hl : ns.length ≤ 1000) : m_exchanged [namesD ns, .int i, .int j] μ = .ok (namesD (exch ns i j)) μ := by
  refine pure_ret (μ' := []) (by simp) rfl ?_ (by simp)
  simp [with_name_ok h hl, gIx_names h h2, tup_names1]
  rw [gAdd_names false (by rw [withName_len h h2]; simp; omega)]
  rfl
theorem withName_set (h : 0 ≤ i) (h2 : i < ns.length) : withName ns i j = ns.set i.toNat j := by
  rw [List.set_eq_take_append_cons_drop, if_pos (by omega)]; rfl
/-! ### sound -/
def clash (xs : List Int) (q : Int) : Bool := decide (ix xs q = q) || (decide (ix xs q < xs.length) && decide (ix xs (ix xs q) = q))
def soundB (r : Rl) (xs : List Int) : Bool := !r.m || !(rng xs.length).any (clash xs)
theorem enum_ints : enumD (xs.map .int) = (rng xs.length).map fun i => .tup [.int i, .int (ix xs i)] := by
  refine List.ext_getElem (by simp [enumD]) fun n h1 h2 => ?_
  have h3 : n < xs.length := by simpa [enumD] using h1
  simp only [enumD, List.getElem_zipWith, List.getElem_range, List.getElem_map, rng, ix, Int.toNat_natCast, List.getD_eq_getElem?_getD, List.getElem?_eq_getElem h3, Option.getD_some]
theorem ix_mem (h : 0 ≤ i) (h2 : i < xs.length) : ix xs i ∈ xs := by
  have h3 : i.toNat < xs.length := by omega
  simp only [ix, List.getD_eq_getElem?_getD, List.getElem?_eq_getElem h3, Option.getD_some]
  exact List.getElem_mem h3
theorem is_sound_ok (hx : ∀ x ∈ xs, 0 ≤ x) (hl : xs.length ≤ 1000) : m_is_sound [ruleD r, namesD xs] μ = .ok (.bl (soundB r xs)) μ := by
  refine pure_ret (μ' := []) (by simp) rfl ?_ rfl
  unfold soundB
  by_cases hm : r.m = true
  · simp only [hm, Bool.not_true, Bool.false_or]
    have main := for_any (f := fun i => D.tup [.int i, .int (ix xs i)]) (g := gTupl 2 (gsCons (gVar 2) (gsCons (gVar 3) gsNil)))
      (body := sIf (tOrM (tOf (eBin (gEq false) (eVar 3) (eVar 2))) (tAndM (tOf (eBin gLt (eVar 3) (eCall gLen (aCons (eVar 1) aNil)))) (tOf (eBin (gEq false) (eBin gIx (eVar 1) (eVar 3)) (eVar 2))))) (sRet (eC (.bl false))) sNil) (c := always)
      (fun ρ μ => μ = [] ∧ ∃ x y, ρ = [some (ruleD r), some (namesD xs), x, y]) (clash xs) (.bl false) (rng xs.length) (ρ := [some (ruleD r), some (namesD xs), none, none]) (μ := []) (fun _ _ _ => rfl) ?_ ⟨rfl, none, none, rfl⟩
    · rcases main with ⟨h1, ρ', μ', e, rfl, _⟩ | ⟨h1, ρ', μ', e, rfl, x, y, rfl⟩
      · simp [hm, enum_ints, e, h1]
      · simp [hm, enum_ints, e, h1]
    · rintro a ρ μ ha ⟨rfl, x, y, rfl⟩
      obtain ⟨ha1, ha2⟩ := mem_rng.mp ha
      have hv := hx _ (ix_mem ha1 ha2)
      by_cases h1 : ix xs a = a
      · exact .inl ⟨by simp [clash, h1], by simp [h1]⟩
      · by_cases h2 : ix xs a < xs.length
        · by_cases h3 : ix xs (ix xs a) = a
          · exact .inl ⟨by simp [clash, h2, h3], by simp [h1, h2, gIx_names hv h2, h3]⟩
          · exact .inr ⟨by simp [clash, h1, h3], _, _, by simp [h1, h2, gIx_names hv h2, h3]; exact ⟨rfl, rfl⟩, rfl, _, _, rfl⟩
        · exact .inr ⟨by simp [clash, h1, h2], _, _, by simp [h1, h2]; exact ⟨rfl, rfl⟩, rfl, _, _, rfl⟩
  · have hm : r.m = false := by simpa using hm
    simp [hm]
theorem exch_mem (h : 0 ≤ i) (h2 : i < ns.length) (hn : ∀ x ∈ ns, 0 ≤ x) (hj : 0 ≤ j) : ∀ x ∈ exch ns i j, 0 ≤ x := by
  intro x hx
  simp only [exch, withName_set h h2, List.mem_append, List.mem_singleton] at hx
  rcases hx with hx | hx
  · rcases List.mem_or_eq_of_mem_set hx with q | q
    · exact hn x q
    · omega
  · rw [hx]; exact hn _ (ix_mem h h2)
def canEx (r : Rl) (ns : List Int) (e n : Int) : Bool := !(decide (ix ns e ∈ ixL r.b ns.length) || decide (n ∈ ixL r.b e)) && soundB r (exch ns e n)
theorem exch_len (h : 0 ≤ i) (h2 : i < ns.length) : (exch ns i j).length = ns.length + 1 := by simp [exch, withName_len h h2]
theorem can_exchange_ok (h : r.b.length ≤ 1000) (hl : ns.length < r.b.length) (hn : ∀ x ∈ ns, 0 ≤ x) (hi : 0 ≤ i) (hi2 : i < ns.length) (hj : 0 ≤ j) : m_can_exchange [ruleD r, namesD ns, .int i, .int j] μ = .ok (.bl (canEx r ns i j)) μ := by
  refine pure_ret (μ' := []) (by simp) rfl ?_ rfl
  have e1 := gIx_bars (μ := []) (b := r.b) (i := ns.length) (by omega) (by omega)
  have e2 := gIx_bars (μ := []) (b := r.b) (i := i) (by omega) (by omega)
  have e3 := gIx_names (μ := []) (ns := ns) hi hi2
  unfold canEx
  by_cases h1 : ix ns i ∈ ixL r.b ns.length
  · simp [e1, e2, e3, h1]
  · by_cases h2 : j ∈ ixL r.b i
    · simp [e1, e2, e3, h1, h2]
    · simp [e1, e2, e3, h1, h2, exchanged_ok hi hi2 (show ns.length ≤ 1000 by omega), is_sound_ok (exch_mem hi hi2 hn hj) (show (exch ns i j).length ≤ 1000 by rw [exch_len hi hi2]; omega)]
def pairD (p : Int × Int) : D := .tup [.int p.1, .int p.2]
def prs (r : Rl) (ns : List Int) (es : List Int) : List (Int × Int) := es.flatMap fun e => ((left r ns).filter (canEx r ns e)).map fun n => (e, n)
def pairsOf (r : Rl) (ns : List Int) : List (Int × Int) := prs r ns (rng ns.length)
theorem prs_snoc (p : List Int) (a : Int) : prs r ns (p ++ [a]) = prs r ns p ++ ((left r ns).filter (canEx r ns a)).map fun n => (a, n) := by simp [prs]
theorem left_len : (left r ns).length ≤ r.b.length := by
  have : (left r ns).length ≤ (rng r.b.length).length := List.length_filter_le _ _
  rwa [rng_len] at this
theorem flat_len {α β : Type} (f : α → List β) (m : Nat) : ∀ (l : List α), (∀ a ∈ l, (f a).length ≤ m) → (l.flatMap f).length ≤ l.length * m
  | [], _ => by simp
  | a :: l, h => by
    have h1 := h a List.mem_cons_self
    have h2 := flat_len f m l fun b hb => h b (List.mem_cons_of_mem _ hb)
    rw [List.flatMap_cons, List.length_append, List.length_cons, Nat.succ_mul]
    omega
theorem prs_len (es : List Int) : (prs r ns es).length ≤ es.length * r.b.length := flat_len _ _ es fun e _ => by
  rw [List.length_map]
  exact Nat.le_trans (List.length_filter_le _ _) left_len
@[simp] theorem np_pair (p : Int × Int) : noPtr (pairD p) = true := rfl
@[simp] theorem np_pairs (l : List (Int × Int)) : noPtrL (l.map pairD) = true := np_L fun d hd => by
  obtain ⟨p, _, rfl⟩ := List.mem_map.mp hd
  rfl
theorem all_exchanges_ok (h : r.b.length ≤ 100) (hl : ns.length < r.b.length) (hn : ∀ x ∈ ns, 0 ≤ x) : m_all_exchanges [ruleD r, namesD ns] μ = .ok (.lst ((pairsOf r ns).map pairD)) μ := by
  have main := for_pre (f := D.int) (g := gVar 3) (c := always) (body := sFor (iSeq (eCall m_names_left (aCons (eVar 0) (aCons (eVar 1) aNil)))) (gVar 4) (sIf (tOf (eCall m_can_exchange (aCons (eVar 0) (aCons (eVar 1) (aCons (eVar 3) (aCons (eVar 4) aNil)))))) (sSet 2 (eBin (gAdd false) (eVar 2) (eLst false (aCons (eTup (aCons (eVar 3) (aCons (eVar 4) aNil))) aNil)))) sNil))
    (fun p ρ μ => μ = [] ∧ ∃ x y, ρ = [some (ruleD r), some (namesD ns), some (.lst ((prs r ns p).map pairD)), x, y]) (rng ns.length) (ρ := [some (ruleD r), some (namesD ns), some (.lst []), none, none]) (μ := []) (fun _ _ _ _ => rfl) ?_ ⟨rfl, none, none, rfl⟩
  · obtain ⟨ρ', μ', e, rfl, x, y, rfl⟩ := main
    refine pure_ret (μ' := []) (by simp) rfl ?_ (by simp)
    simp [kR1_nat (show ns.length ≤ 1000 by omega), rngD_0, e, pairsOf]
  · rintro p a s ρ μ hp ⟨rfl, x, y, rfl⟩
    have ha : a ∈ rng ns.length := by rw [hp]; simp
    obtain ⟨ha1, ha2⟩ := mem_rng.mp ha
    have hpl : p.length ≤ 100 := by
      have := congrArg List.length hp
      rw [rng_len, List.length_append] at this
      omega
    have pl := prs_len (r := r) (ns := ns) p
    have pl2 : p.length * r.b.length ≤ 100 * 100 := Nat.mul_le_mul hpl h
    have main := for_pre (f := D.int) (g := gVar 4) (c := always) (body := sIf (tOf (eCall m_can_exchange (aCons (eVar 0) (aCons (eVar 1) (aCons (eVar 3) (aCons (eVar 4) aNil)))))) (sSet 2 (eBin (gAdd false) (eVar 2) (eLst false (aCons (eTup (aCons (eVar 3) (aCons (eVar 4) aNil))) aNil)))) sNil)
      (fun q ρ μ => μ = [] ∧ ∃ y, ρ = [some (ruleD r), some (namesD ns), some (.lst ((prs r ns p ++ (q.filter (canEx r ns a)).map fun n => (a, n)).map pairD)), some (.int a), y]) (left r ns) (ρ := [some (ruleD r), some (namesD ns), some (.lst ((prs r ns p).map pairD)), some (.int a), y]) (μ := []) (fun _ _ _ _ => rfl) ?_ ⟨rfl, y, by simp⟩
    · obtain ⟨ρ', μ', e, rfl, y', rfl⟩ := main
      refine ⟨_, [], ?_, rfl, some (.int a), y', rfl⟩
      simp [names_left_ok (show r.b.length ≤ 1000 by omega), e, prs_snoc]
    · rintro q b s' ρ μ hq ⟨rfl, y, rfl⟩
      have hb : b ∈ left r ns := by rw [hq]; simp
      have hql : q.length ≤ 100 := by
        have := congrArg List.length hq
        have := left_len (r := r) (ns := ns)
        simp at *
        omega
      have fl : (q.filter (canEx r ns a)).length ≤ q.length := List.length_filter_le _ _
      have ce := can_exchange_ok (μ := []) (show r.b.length ≤ 1000 by omega) hl hn ha1 ha2 (left_mem.mp hb).1.1
      by_cases hc : canEx r ns a b = true
      · refine ⟨_, [], ?_, rfl, some (.int b), rfl⟩
        simp [ce, hc]
        rw [gAdd_lst false (by simp; omega)]
        simp [hc, pairD]
      · refine ⟨_, [], ?_, rfl, some (.int b), rfl⟩
        simp [ce, hc]
theorem exchanges_ok (h : r.Ok) (hn : Ns r ns) (hl : ns.length < r.b.length) : m_exchanges [ruleD r, namesD ns] μ = .ok (.lst ((pairsOf r ns).map pairD)) μ := by
  have := h.hi
  refine pure_ret (μ' := []) (by simp) rfl ?_ (by simp)
  simp [need_names_ok h hn hl, all_exchanges_ok (show r.b.length ≤ 100 by omega) hl fun x hx => (hn.ran x hx).1]
end
end Lw
namespace Lw
open PySem PySem.Spec PyProof.Rows L2 DL
variable [WC]
section
variable {μ : Store} {i j k : Int} {l ns xs : List Int} {r : Rl}
theorem pure_ptr {n m q : Nat} {body : SM} {ds zs : List D} {μ μ' : Store} (hn : noPtrL ds = true) (hl : ds.length = n) (e : body (ds.map some ++ List.replicate (m - n) none) [] = .ok (.ret (.ptr q)) μ') (hq : μ'[q]? = some (.lst zs)) (hd : noPtrL zs = true) : pureM (defM n m body) ds μ = .ok (.lst zs) μ :=
  pureM_at hn (defM_ret hl e) (by simp only [frzD, hq, hd, if_true])
def goodLet (r : Rl) (ns : List Int) (n : Int) : Bool := !decide (n ∈ ns) && (!decide (n ∈ ixL r.b ns.length) && !(r.m && (decide (n = ns.length) || (decide (n < ns.length) && decide (ix ns n = ns.length)))))
theorem goodLet_eq (n : Int) : goodLet r ns n = ((!decide (n ∈ ns)) && isLet r ns ns.length n) := by
  unfold goodLet isLet
  by_cases h1 : n ∈ ns <;> by_cases h2 : n ∈ ixL r.b ns.length <;> by_cases h3 : r.m = true <;> by_cases h4 : n = (ns.length : Int) <;> by_cases h5 : n < (ns.length : Int) <;> by_cases h6 : ix ns n = (ns.length : Int) <;> simp_all <;> omega
theorem letOf_eq : (rng r.b.length).filter (goodLet r ns) = letOf r ns := by
  unfold letOf left
  rw [List.filter_filter]
  congr 1
  funext n
  rw [goodLet_eq, Bool.and_comm]
theorem law_let_ok (h : r.b.length ≤ 100) (hl : ns.length < r.b.length) : m__law_let [ruleD r, namesD ns] μ = .ok (.lst ((letOf r ns).map .int)) μ := by
  have main := for_pre (f := D.int) (g := gVar 2) (c := always) (body := sIf (tAndM (tOf (eBin (gIn true) (eVar 2) (eVar 1))) (tOf (eBin (gIn true) (eVar 2) (eBin gIx (eBin gIx (eVar 0) (eC (.int 0))) (eVar 4))))) (sSeq (sSet 5 (eOr (eBin (gEq false) (eVar 2) (eVar 4)) (eAnd (eBin gLt (eVar 2) (eVar 4)) (eBin (gEq false) (eBin gIx (eVar 1) (eVar 2)) (eVar 4)))))
    (sIf (tNotM (tAndM (tTru (eBin gIx (eVar 0) (eC (.int 1)))) (tTru (eVar 5)))) (sExp (eMth (gMut hAppend) (eVar 3) (aCons (eVar 2) aNil))) sNil)) sNil)
    (fun p ρ μ => μ = [.lst ((p.filter (goodLet r ns)).map .int)] ∧ ∃ x y, ρ = [some (ruleD r), some (namesD ns), x, some (.ptr 0), some (.int ns.length), y]) (rng r.b.length) (ρ := [some (ruleD r), some (namesD ns), none, some (.ptr 0), some (.int ns.length), none]) (μ := [.lst []]) (fun _ _ _ _ => rfl) ?_ ⟨rfl, none, none, rfl⟩
  · obtain ⟨ρ', μ', e, rfl, x, y, rfl⟩ := main
    rw [letOf_eq] at e
    refine pure_ptr (q := 0) (zs := (letOf r ns).map .int) (μ' := [.lst ((letOf r ns).map .int)]) (by simp) rfl ?_ rfl (by simp)
    simp [kR1_nat (show r.b.length ≤ 1000 by omega), rngD_0, e]
  · rintro p a s ρ μ hp ⟨rfl, x, y, rfl⟩
    have ha : a ∈ rng r.b.length := by rw [hp]; simp
    obtain ⟨ha1, ha2⟩ := mem_rng.mp ha
    have hpl : p.length ≤ 100 := by
      have := congrArg List.length hp
      rw [rng_len, List.length_append] at this
      omega
    have fl : (p.filter (goodLet r ns)).length ≤ p.length := List.length_filter_le _ _
    have e1 := gIx_bars (μ := [.lst ((p.filter (goodLet r ns)).map .int)]) (b := r.b) (i := ns.length) (by omega) (by omega)
    have ap : gMut hAppend (.ptr 0) [.int a] [.lst ((p.filter (goodLet r ns)).map .int)] = .ok .non [.lst (((p.filter (goodLet r ns)).map .int) ++ [.int a])] := by
      refine gMut_ptr (n := 0) (μ := [.lst ((p.filter (goodLet r ns)).map .int)]) (xs := (p.filter (goodLet r ns)).map .int) (zs := ((p.filter (goodLet r ns)).map .int) ++ [.int a]) rfl ?_
      simp only [hAppend]
      rw [if_pos (by rw [line16]; simp; omega)]
    have ck := chkL_ptr (μ := [.lst ((p.filter (goodLet r ns)).map .int)]) (n := 0) rfl
    by_cases h1 : a ∈ ns
    · exact ⟨_, _, by simp [h1]; exact ⟨⟨rfl, rfl⟩, rfl⟩, by simp [goodLet, h1], _, _, rfl⟩
    · by_cases h2 : a ∈ ixL r.b ns.length
      · exact ⟨_, _, by simp [h1, e1, h2]; exact ⟨⟨rfl, rfl⟩, rfl⟩, by simp [goodLet, h2], _, _, rfl⟩
      · by_cases h3 : a = (ns.length : Int)
        · subst h3
          by_cases hm : r.m = true
          · exact ⟨_, _, by simp [h1, e1, h2, hm]; exact ⟨⟨rfl, rfl⟩, rfl⟩, by simp [goodLet, hm], _, _, rfl⟩
          · exact ⟨_, _, by simp [h1, e1, h2, hm, ck, ap]; exact ⟨⟨rfl, rfl⟩, rfl⟩, by simp [goodLet, hm, h1, h2], _, _, rfl⟩
        · by_cases h4 : a < (ns.length : Int)
          · have e2 := gIx_names (μ := [.lst ((p.filter (goodLet r ns)).map .int)]) (ns := ns) ha1 h4
            by_cases hm : r.m = true
            · by_cases h5 : ix ns a = ns.length
              · exact ⟨_, _, by simp [h1, e1, e2, h2, h3, h4, h5, hm]; exact ⟨⟨rfl, rfl⟩, rfl⟩, by simp [goodLet, hm, h4, h5], _, _, rfl⟩
              · exact ⟨_, _, by simp [h1, e1, e2, h2, h3, h4, h5, hm, ck, ap]; exact ⟨⟨rfl, rfl⟩, rfl⟩, by simp [goodLet, hm, h1, h2, h3, h5], _, _, rfl⟩
            · exact ⟨_, _, by simp [h1, e1, e2, h2, h3, h4, hm, ck, ap]; exact ⟨⟨rfl, rfl⟩, rfl⟩, by simp [goodLet, hm, h1, h2], _, _, rfl⟩
          · by_cases hm : r.m = true
            · exact ⟨_, _, by simp [h1, e1, h2, h3, h4, hm, ck, ap]; exact ⟨⟨rfl, rfl⟩, rfl⟩, by simp [goodLet, hm, h1, h2, h3, h4], _, _, rfl⟩
            · exact ⟨_, _, by simp [h1, e1, h2, h3, h4, hm, ck, ap]; exact ⟨⟨rfl, rfl⟩, rfl⟩, by simp [goodLet, hm, h1, h2], _, _, rfl⟩
end
end Lw
namespace Lw
open PySem PySem.Spec PyProof.Rows L2 DL
variable [WC]
section
variable {μ : Store} {i j k : Int} {l ns xs : List Int} {r : Rl}
def clashL (xs : List Int) (m q : Int) : Bool := decide (ix xs q = q) || (decide (ix xs q ≤ m) && decide (ix xs (ix xs q) = q))
theorem clashL_eq (m q : Int) (h : (xs.length : Int) = m + 1) : clashL xs m q = clash xs q := by
  unfold clashL clash
  have : (ix xs q ≤ m) ↔ (ix xs q < xs.length) := by omega
  simp only [this]
theorem exch_set (h : 0 ≤ i) (h2 : i < ns.length) : (ns ++ [ix ns i]).set i.toNat j = exch ns i j := by
  rw [exch, withName_set h h2, List.set_append_left _ _ (by omega)]
abbrev bInner : SM := sSeq (sSet 9 (eBin gIx (eVar 6) (eVar 8)))
    (sSeq (sSet 10 (eOr (eBin (gEq false) (eVar 9) (eVar 8)) (eAnd (eBin gLe (eVar 9) (eVar 4)) (eBin (gEq false) (eBin gIx (eVar 6) (eVar 9)) (eVar 8)))))
    (sSet 7 (eAnd (eVar 7) (eNot (eAnd (eBin gIx (eVar 0) (eC (.int 1))) (eVar 10))))))
theorem pairs_inner {g : Bool} {t : Nat} {m : Nat} {c1 c2 c3 : Option D} {x y z : Option D} (ht : μ[t]? = some (.lst (xs.map .int))) (hl : xs.length = m + 1) (hx : ∀ x ∈ xs, 0 ≤ x) :
    ∃ x' y' z', forL always (gVar 8) bInner ((rng (m + 1)).map .int) [some (ruleD r), some (namesD ns), c1, c2, some (.int m), c3, some (.ptr t), some (.bl g), x, y, z] μ =
      .ok (.nx [some (ruleD r), some (namesD ns), c1, c2, some (.int m), c3, some (.ptr t), some (.bl (g && !(r.m && (rng (m + 1)).any (clashL xs m)))), x', y', z']) μ := by
  have main := for_pre (f := D.int) (g := gVar 8) (c := always) (body := bInner) (fun p ρ μ' => μ' = μ ∧ ∃ x y z, ρ = [some (ruleD r), some (namesD ns), c1, c2, some (.int m), c3, some (.ptr t), some (.bl (g && !(r.m && p.any (clashL xs m)))), x, y, z]) (rng (m + 1))
    (ρ := [some (ruleD r), some (namesD ns), c1, c2, some (.int m), c3, some (.ptr t), some (.bl g), x, y, z]) (μ := μ) (fun _ _ _ _ => rfl) ?_ ⟨rfl, x, y, z, by simp⟩
  · obtain ⟨ρ', μ', e, rfl, x', y', z', rfl⟩ := main
    exact ⟨x', y', z', e⟩
  · rintro p a s ρ μ' hp ⟨rfl, x, y, z, rfl⟩
    have ha : a ∈ rng (m + 1) := by rw [hp]; simp
    obtain ⟨ha1, ha2⟩ := mem_rng.mp ha
    have hv := hx _ (ix_mem ha1 (show a < xs.length by omega))
    have gi : ∀ {i : Int}, 0 ≤ i → i < xs.length → gIx (.ptr t) (.int i) μ' = .ok (.int (ix xs i)) μ' := fun {i} h1 h2 => by
      rw [gIx_ptr ht, gIxL_map (x := 0) h1 h2]; rfl
    have e1 := gi ha1 (by omega)
    refine ⟨[some (ruleD r), some (namesD ns), c1, c2, some (.int m), c3, some (.ptr t), some (.bl (g && !(r.m && (p ++ [a]).any (clashL xs m)))), some (.int a), some (.int (ix xs a)), some (.bl (clashL xs m a))], μ', ?_, rfl, _, _, _, rfl⟩
    have fin : (g && !(r.m && (p ++ [a]).any (clashL xs m))) = ((g && !(r.m && p.any (clashL xs m))) && !(r.m && clashL xs m a)) := by
      rw [List.any_append, List.any_cons, List.any_nil]
      cases g <;> cases r.m <;> cases p.any (clashL xs m) <;> cases clashL xs m a <;> rfl
    have step : ∀ b : Bool, clashL xs m a = b → (sSet 7 (eAnd (eVar 7) (eNot (eAnd (eBin gIx (eVar 0) (eC (.int 1))) (eVar 10))))) [some (ruleD r), some (namesD ns), c1, c2, some (.int m), c3, some (.ptr t), some (.bl (g && !(r.m && p.any (clashL xs m)))), some (.int a), some (.int (ix xs a)), some (.bl b)] μ' =
        .ok (.nx [some (ruleD r), some (namesD ns), c1, c2, some (.int m), c3, some (.ptr t), some (.bl (g && !(r.m && (p ++ [a]).any (clashL xs m)))), some (.int a), some (.int (ix xs a)), some (.bl b)]) μ' := fun b hb => by
      rw [fin, hb]
      cases h1 : (g && !(r.m && p.any (clashL xs m)))
      · simp
      · cases h2 : r.m
        · simp [h2]
        · simp [h2]
    by_cases h1 : ix xs a = a
    · have hb : clashL xs m a = true := by simp [clashL, h1]
      have st := step true hb
      rw [hb]
      simp only [sSeq_at, Mbind_at, gVar_at, and_ok]
      simp [e1, h1] at st ⊢
      exact st
    · by_cases h2 : ix xs a ≤ m
      · have e2 := gi hv (by omega)
        have st := step (decide (ix xs (ix xs a) = a)) (by simp [clashL, h1, h2])
        rw [show clashL xs m a = decide (ix xs (ix xs a) = a) by simp [clashL, h1, h2]]
        simp [e1, h1, h2, e2] at st ⊢
        exact st
      · have hb : clashL xs m a = false := by simp [clashL, h1, h2]
        have st := step false hb
        rw [hb]
        simp [e1, h1, h2] at st ⊢
        exact st
def goodP (r : Rl) (ns : List Int) (e n : Int) : Bool := ((!decide (n ∈ ns) && !decide (n ∈ ixL r.b e)) && !decide (ix ns e ∈ ixL r.b ns.length)) && !(r.m && (rng (ns.length + 1)).any (clashL (exch ns e n) ns.length))
theorem goodP_eq (he : 0 ≤ i) (he2 : i < ns.length) : goodP r ns i j = (!decide (j ∈ ns) && canEx r ns i j) := by
  unfold goodP canEx soundB
  have hl : (exch ns i j).length = ns.length + 1 := exch_len he he2
  rw [hl, show clashL (exch ns i j) ns.length = clash (exch ns i j) from funext fun q => clashL_eq _ q (by rw [hl]; omega)]
  cases decide (j ∈ ns) <;> cases decide (j ∈ ixL r.b i) <;> cases decide (ix ns i ∈ ixL r.b ns.length) <;> cases r.m <;> simp
def lprs (r : Rl) (ns : List Int) (es : List Int) : List (Int × Int) := es.flatMap fun e => ((rng r.b.length).filter (goodP r ns e)).map fun n => (e, n)
theorem lprs_snoc (p : List Int) (a : Int) : lprs r ns (p ++ [a]) = lprs r ns p ++ ((rng r.b.length).filter (goodP r ns a)).map fun n => (a, n) := by simp [lprs]
theorem lprs_eq : lprs r ns (rng ns.length) = pairsOf r ns := by
  unfold lprs pairsOf prs
  rw [List.flatMap_def, List.flatMap_def]
  congr 1
  refine List.map_congr_left fun e he => ?_
  obtain ⟨h1, h2⟩ := mem_rng.mp he
  congr 1
  unfold left
  rw [List.filter_filter]
  congr 1
  funext n
  rw [goodP_eq h1 h2, Bool.and_comm]
theorem lprs_len (es : List Int) : (lprs r ns es).length ≤ es.length * r.b.length := flat_len _ _ es fun e _ => by
  rw [List.length_map]
  have := List.length_filter_le (goodP r ns e) (rng r.b.length)
  rwa [rng_len] at this
abbrev bMid : SM := sSeq (sSet 6 (eBin (gAdd true) (eCall (gList false) (aCons (eVar 1) aNil)) (eLst false (aCons (eBin gIx (eVar 1) (eVar 2)) aNil))))
    (sSeq (sPut (eVar 6) (eVar 2) (eVar 5))
    (sSeq (sSet 7 (eAnd (eBin (gIn true) (eVar 5) (eVar 1)) (eBin (gIn true) (eVar 5) (eBin gIx (eBin gIx (eVar 0) (eC (.int 0))) (eVar 2)))))
    (sSeq (sSet 7 (eAnd (eVar 7) (eBin (gIn true) (eBin gIx (eVar 1) (eVar 2)) (eBin gIx (eBin gIx (eVar 0) (eC (.int 0))) (eVar 4)))))
    (sSeq (sFor (iRange1 (eBin (gAdd false) (eVar 4) (eC (.int 1)))) (gVar 8) bInner)
    (sIf (tTru (eVar 7)) (sExp (eMth (gMut hAppend) (eVar 3) (aCons (eTup (aCons (eVar 2) (aCons (eVar 5) aNil))) aNil))) sNil)))))
def onTop (xs : List (Int × Int)) (μ : Store) : Store := .lst (xs.map pairD) :: μ
theorem mid_step {e n : Int} {fs : List (Int × Int)} {ju : Store} {c5 c6 c7 c8 c9 c10 : Option D} (h : r.b.length ≤ 100) (hl : ns.length < r.b.length) (hn : ∀ x ∈ ns, 0 ≤ x) (he : 0 ≤ e) (he2 : e < ns.length) (hj : 0 ≤ n) (hf : fs.length ≤ 100000) :
    ∃ ju' d6 d7 d8 d9 d10, bMid [some (ruleD r), some (namesD ns), some (.int e), some (.ptr 0), some (.int ns.length), some (.int n), c6, c7, c8, c9, c10] (onTop fs ju) =
      .ok (.nx [some (ruleD r), some (namesD ns), some (.int e), some (.ptr 0), some (.int ns.length), some (.int n), d6, d7, d8, d9, d10]) (onTop (fs ++ if goodP r ns e n = true then [(e, n)] else []) ju') := by
  have gadd : ∀ μ : Store, gAdd true (.lst (ns.map D.int)) (.lst [.int (ix ns e)]) μ = .ok (.ptr μ.length) (μ ++ [.lst ((ns ++ [ix ns e]).map D.int)]) := fun μ => by
    rw [gAdd_lst true (by simp; omega), retL_t]; simp
  have glist : ∀ μ : Store, gList false [namesD ns] μ = .ok (.lst (ns.map D.int)) μ := fun μ => rfl
  have e3 : ∀ μ : Store, gIx (namesD ns) (.int e) μ = .ok (.int (ix ns e)) μ := fun μ => gIx_names he he2
  have e4 : ∀ μ : Store, gIx (barsD r.b) (.int e) μ = .ok (namesD (ixL r.b e)) μ := fun μ => gIx_bars he (by omega)
  have e5 : ∀ μ : Store, gIx (barsD r.b) (.int ns.length) μ = .ok (namesD (ixL r.b ns.length)) μ := fun μ => gIx_bars (by omega) (by omega)
  have put : putL (.ptr (onTop fs ju).length) (.int e) (.int n) (onTop fs ju ++ [.lst ((ns ++ [ix ns e]).map D.int)]) = .ok () (onTop fs ju ++ [.lst ((exch ns e n).map D.int)]) := by
    rw [putL_ptr (xs := (ns ++ [ix ns e]).map D.int) (q := e.toNat) (by simp) (ixN_nn he (by simp; omega)), set_concat, ← List.map_set, exch_set he he2]
  obtain ⟨x', y', z', ein⟩ := pairs_inner (r := r) (ns := ns) (g := (!decide (n ∈ ns) && !decide (n ∈ ixL r.b e)) && !decide (ix ns e ∈ ixL r.b ns.length)) (t := (onTop fs ju).length) (m := ns.length) (c1 := some (.int e)) (c2 := some (.ptr 0)) (c3 := some (.int n)) (x := c8) (y := c9) (z := c10)
    (xs := exch ns e n) (μ := onTop fs ju ++ [.lst ((exch ns e n).map D.int)]) (by simp) (exch_len he he2) (exch_mem he he2 hn hj)
  refine ⟨ju ++ [.lst ((exch ns e n).map D.int)], some (.ptr (onTop fs ju).length), some (.bl (goodP r ns e n)), x', y', z', ?_⟩
  have rg : kR1 (.int ((ns.length : Int) + 1)) (onTop fs ju ++ [.lst ((exch ns e n).map D.int)]) = .ok ((rng (ns.length + 1)).map .int, always) (onTop fs ju ++ [.lst ((exch ns e n).map D.int)]) := by
    rw [show (ns.length : Int) + 1 = ((ns.length + 1 : Nat) : Int) by omega, kR1_nat (by omega), rngD_0]
  have ap : gMut hAppend (.ptr 0) [.tup [.int e, .int n]] (onTop fs ju ++ [.lst ((exch ns e n).map D.int)]) = .ok .non (onTop (fs ++ [(e, n)]) (ju ++ [.lst ((exch ns e n).map D.int)])) := by
    refine (gMut_ptr (n := 0) (xs := fs.map pairD) (zs := fs.map pairD ++ [.tup [.int e, .int n]]) rfl ?_).trans ?_
    · simp only [hAppend]
      rw [if_pos (by rw [line16]; simp; omega)]
    · simp [onTop, pairD]
  have ck : chkL (.ptr 0) (onTop fs ju ++ [.lst ((exch ns e n).map D.int)]) = .ok () (onTop fs ju ++ [.lst ((exch ns e n).map D.int)]) := chkL_ptr (xs := fs.map pairD) rfl
  have s1 : ∀ c7 c8 c9 c10, (sSeq (sSet 7 (eAnd (eBin (gIn true) (eVar 5) (eVar 1)) (eBin (gIn true) (eVar 5) (eBin gIx (eBin gIx (eVar 0) (eC (.int 0))) (eVar 2)))))
      (sSet 7 (eAnd (eVar 7) (eBin (gIn true) (eBin gIx (eVar 1) (eVar 2)) (eBin gIx (eBin gIx (eVar 0) (eC (.int 0))) (eVar 4))))))
      [some (ruleD r), some (namesD ns), some (.int e), some (.ptr 0), some (.int ns.length), some (.int n), some (.ptr (onTop fs ju).length), c7, c8, c9, c10] (onTop fs ju ++ [.lst ((exch ns e n).map D.int)]) =
      .ok (.nx [some (ruleD r), some (namesD ns), some (.int e), some (.ptr 0), some (.int ns.length), some (.int n), some (.ptr (onTop fs ju).length), some (.bl ((!decide (n ∈ ns) && !decide (n ∈ ixL r.b e)) && !decide (ix ns e ∈ ixL r.b ns.length))), c8, c9, c10]) (onTop fs ju ++ [.lst ((exch ns e n).map D.int)]) := fun c7 c8 c9 c10 => by
    by_cases h1 : n ∈ ns
    · simp [h1]
    · by_cases h2 : n ∈ ixL r.b e
      · simp [h1, h2, e4]
      · simp [h1, h2, e3, e4, e5]
  have hg : (((!decide (n ∈ ns) && !decide (n ∈ ixL r.b e)) && !decide (ix ns e ∈ ixL r.b ns.length)) && !(r.m && (rng (ns.length + 1)).any (clashL (exch ns e n) ns.length))) = goodP r ns e n := rfl
  rw [hg] at ein
  refine (seq_at (ρ1 := [some (ruleD r), some (namesD ns), some (.int e), some (.ptr 0), some (.int ns.length), some (.int n), some (.ptr (onTop fs ju).length), c7, c8, c9, c10]) (μ1 := onTop fs ju ++ [.lst ((ns ++ [ix ns e]).map D.int)]) ?_).trans ?_
  · simp [glist, e3, gadd]
  refine (seq_at (ρ1 := [some (ruleD r), some (namesD ns), some (.int e), some (.ptr 0), some (.int ns.length), some (.int n), some (.ptr (onTop fs ju).length), c7, c8, c9, c10]) (μ1 := onTop fs ju ++ [.lst ((exch ns e n).map D.int)]) ?_).trans ?_
  · rw [sPut_at]
    simp only [eVar_at, List.getElem?_cons_succ, List.getElem?_cons_zero, vr_some, and_ok, Mbind_at, put, Mret_at]
  rw [sSeq_assoc, s1, and_ok, kSeq_nx]
  refine (seq_at (ρ1 := [some (ruleD r), some (namesD ns), some (.int e), some (.ptr 0), some (.int ns.length), some (.int n), some (.ptr (onTop fs ju).length), some (.bl (goodP r ns e n)), x', y', z']) (μ1 := onTop fs ju ++ [.lst ((exch ns e n).map D.int)]) ?_).trans ?_
  · rw [sFor_at, iRange1_at]
    simp only [eBin_at, eVar_at, eC_at, List.getElem?_cons_succ, List.getElem?_cons_zero, vr_some, and_ok, Mbind_at, gAdd_int, rg]
    exact ein
  by_cases hc : goodP r ns e n = true
  · simp [hc, ck, ap]
  · simp [hc, onTop]
end
end Lw
namespace Lw
open PySem PySem.Spec PyProof.Rows L2 DL
variable [WC]
section
variable {μ : Store} {i j k : Int} {l ns xs : List Int} {r : Rl}
theorem law_pairs_ok (h : r.b.length ≤ 100) (hl : ns.length < r.b.length) (hn : ∀ x ∈ ns, 0 ≤ x) : m__law_pairs [ruleD r, namesD ns] μ = .ok (.lst ((pairsOf r ns).map pairD)) μ := by
  have main := for_pre (f := D.int) (g := gVar 2) (c := always) (body := sFor (iRange1 (eCall gLen (aCons (eBin gIx (eVar 0) (eC (.int 0))) aNil))) (gVar 5) bMid)
    (fun p ρ μ => ∃ ju d2 d5 d6 d7 d8 d9 d10, μ = onTop (lprs r ns p) ju ∧ ρ = [some (ruleD r), some (namesD ns), d2, some (.ptr 0), some (.int ns.length), d5, d6, d7, d8, d9, d10]) (rng ns.length)
    (ρ := [some (ruleD r), some (namesD ns), none, some (.ptr 0), some (.int ns.length), none, none, none, none, none, none]) (μ := [.lst []]) (fun _ _ _ _ => rfl) ?_ ⟨[], _, _, _, _, _, _, _, rfl, rfl⟩
  · obtain ⟨ρ', μ', e, ju, d2, d5, d6, d7, d8, d9, d10, rfl, rfl⟩ := main
    rw [lprs_eq] at e
    refine pure_ptr (q := 0) (zs := (pairsOf r ns).map pairD) (μ' := onTop (pairsOf r ns) ju) (by simp) rfl ?_ rfl (by simp)
    simp [kR1_nat (show ns.length ≤ 1000 by omega), rngD_0, e]
  · rintro p a s ρ μ hp ⟨ju, d2, d5, d6, d7, d8, d9, d10, rfl, rfl⟩
    have ha : a ∈ rng ns.length := by rw [hp]; simp
    obtain ⟨ha1, ha2⟩ := mem_rng.mp ha
    have hpl : p.length ≤ 100 := by
      have := congrArg List.length hp
      rw [rng_len, List.length_append] at this
      omega
    have pl := lprs_len (r := r) (ns := ns) p
    have pl2 : p.length * r.b.length ≤ 100 * 100 := Nat.mul_le_mul hpl h
    have main := for_pre (f := D.int) (g := gVar 5) (c := always) (body := bMid)
      (fun q ρ μ => ∃ ju d5 d6 d7 d8 d9 d10, μ = onTop (lprs r ns p ++ (q.filter (goodP r ns a)).map fun n => (a, n)) ju ∧ ρ = [some (ruleD r), some (namesD ns), some (.int a), some (.ptr 0), some (.int ns.length), d5, d6, d7, d8, d9, d10]) (rng r.b.length)
      (ρ := [some (ruleD r), some (namesD ns), some (.int a), some (.ptr 0), some (.int ns.length), d5, d6, d7, d8, d9, d10]) (μ := onTop (lprs r ns p) ju) (fun _ _ _ _ => rfl) ?_ ⟨ju, _, _, _, _, _, _, by simp, rfl⟩
    · obtain ⟨ρ', μ', e, ju', e5, e6, e7, e8, e9, e10, rfl, rfl⟩ := main
      refine ⟨_, _, ?_, ju', some (.int a), e5, e6, e7, e8, e9, e10, by rw [lprs_snoc], rfl⟩
      simp [kR1_nat (show r.b.length ≤ 1000 by omega), rngD_0, e]
    · rintro q b s' ρ μ hq ⟨ju, d5, d6, d7, d8, d9, d10, rfl, rfl⟩
      have hb : b ∈ rng r.b.length := by rw [hq]; simp
      obtain ⟨hb1, hb2⟩ := mem_rng.mp hb
      have hql : q.length ≤ 100 := by
        have := congrArg List.length hq
        rw [rng_len, List.length_append] at this
        omega
      have fl : (q.filter (goodP r ns a)).length ≤ q.length := List.length_filter_le _ _
      obtain ⟨ju', e6, e7, e8, e9, e10, e⟩ := mid_step (fs := lprs r ns p ++ (q.filter (goodP r ns a)).map fun n => (a, n)) (ju := ju) (n := b) (c5 := none) (c6 := d6) (c7 := d7) (c8 := d8) (c9 := d9) (c10 := d10) h hl hn ha1 ha2 hb1 (by simp; omega)
      refine ⟨_, _, ?_, ju', some (.int b), e6, e7, e8, e9, e10, rfl, rfl⟩
      rw [Mbind_at, gVar_at, and_ok]
      refine Eq.trans ?_ (e.trans ?_)
      · rfl
      · have : lprs r ns p ++ ((q.filter (goodP r ns a)).map fun n => (a, n)) ++ (if goodP r ns a b = true then [(a, b)] else []) = lprs r ns p ++ (((q ++ [b]).filter (goodP r ns a)).map fun n => (a, n)) := by
          by_cases hc : goodP r ns a b = true
          · simp [hc]
          · simp [hc]
        rw [this]
end
/-! ### the bag -/
/-- the bag at n of the store -/
def Bag (n : Nat) (μ : Store) : Prop := ∃ x y : Int, μ[n]? = some (.lst [.int x, .int y]) ∧ 0 ≤ y ∧ y < 2147483269
/-- nothing but the bag changed -/
structure Bg (n : Nat) (μ μ' : Store) : Prop where
  bag : Bag n μ'
  len : μ'.length = μ.length
  old : ∀ q : Nat, q ≠ n → μ'[q]? = μ[q]?
theorem Bg.refl {n : Nat} {μ : Store} (h : Bag n μ) : Bg n μ μ := ⟨h, rfl, fun _ _ => rfl⟩
theorem Bg.trans {n : Nat} {μ μ' μ'' : Store} (a : Bg n μ μ') (b : Bg n μ' μ'') : Bg n μ μ'' := ⟨b.bag, b.len.trans a.len, fun q h => (b.old q h).trans (a.old q h)⟩
theorem Bg.set {n : Nat} {μ : Store} {x y : Int} {o : Ob} (h : μ[n]? = some o) (h1 : 0 ≤ y) (h2 : y < 2147483269) : Bg n μ (μ.set n (.lst [.int x, .int y])) :=
  ⟨⟨x, y, List.getElem?_set_self (List.getElem?_eq_some_iff.mp h).1, h1, h2⟩, by simp, fun q hq => List.getElem?_set_ne (Ne.symm hq)⟩
theorem law_take_ok {n : Nat} {m : Int} {μ : Store} (h : Bag n μ) (h1 : 0 < m) (h2 : m < 1073741824) : ∃ v μ', m__law_take [.ptr n, .int m] μ = .ok (.int v) μ' ∧ 0 ≤ v ∧ v < m ∧ Bg n μ μ' := by
  obtain ⟨x, y, hn, hy1, hy2⟩ := h
  have gx : gIx (.ptr n) (.int 0) μ = .ok (.int x) μ := by rw [gIx_ptr hn]; simp
  have gy : gIx (.ptr n) (.int 1) μ = .ok (.int y) μ := by rw [gIx_ptr hn]; simp
  by_cases hx : 0 < x
  · refine ⟨x % m, μ.set n (.lst [.int (x / m), .int y]), defM_ret rfl ?_, Int.emod_nonneg _ (by omega), Int.emod_lt_of_pos _ h1, Bg.set hn hy1 hy2⟩
    have put : putL (.ptr n) (.int 0) (.int (x / m)) μ = .ok () (μ.set n (.lst [.int (x / m), .int y])) := by
      rw [putL_ptr (xs := [.int x, .int y]) (q := 0) hn (by rfl)]; rfl
    simp [gx, hx, gMod_pos h1, gDiv_pos h1 h2, put]
  · let y' : Int := (y * 40692 + 401) % 2147483269
    have hy'1 : 0 ≤ y' := Int.emod_nonneg _ (by omega)
    have hy'2 : y' < 2147483269 := Int.emod_lt_of_pos _ (by omega)
    let μ' : Store := μ.set n (.lst [.int x, .int y'])
    have bg : Bg n μ μ' := Bg.set hn hy'1 hy'2
    have hn' : μ'[n]? = some (.lst [.int x, .int y']) := List.getElem?_set_self (List.getElem?_eq_some_iff.mp hn).1
    have gy' : gIx (.ptr n) (.int 1) μ' = .ok (.int y') μ' := by rw [gIx_ptr hn']; simp
    have put : putL (.ptr n) (.int 1) (.int y') μ = .ok () μ' := by
      rw [putL_ptr (xs := [.int x, .int y]) (q := 1) hn (by rfl)]; rfl
    refine ⟨((y' * (y' / 13 + 31)) % 2147483249 / 17) % m, μ', defM_ret rfl ?_, Int.emod_nonneg _ (by omega), Int.emod_lt_of_pos _ h1, bg⟩
    have w1 : gMulI (.int y) (.int 40692) μ = .ok (.int (y * 40692)) μ := gMulI_int (by omega) (by omega)
    have w2 : gMulI (.int y') (.int (y' / 13 + 31)) μ' = .ok (.int (y' * (y' / 13 + 31))) μ' := gMulI_int (by omega) (by omega)
    have m1 : ∀ z : Int, ∀ μ : Store, gMod (.int z) (.int 2147483269) μ = .ok (.int (z % 2147483269)) μ := fun z μ => gMod_pos (by omega)
    have m2 : ∀ z : Int, ∀ μ : Store, gMod (.int z) (.int 2147483249) μ = .ok (.int (z % 2147483249)) μ := fun z μ => gMod_pos (by omega)
    have m3 : ∀ z : Int, ∀ μ : Store, gMod (.int z) (.int m) μ = .ok (.int (z % m)) μ := fun z μ => gMod_pos h1
    have d1 : ∀ z : Int, ∀ μ : Store, gDiv (.int z) (.int 13) μ = .ok (.int (z / 13)) μ := fun z μ => gDiv_pos (by omega) (by omega)
    have d2 : ∀ z : Int, ∀ μ : Store, gDiv (.int z) (.int 17) μ = .ok (.int (z / 17)) μ := fun z μ => gDiv_pos (by omega) (by omega)
    have e1 : (y * 40692 + 401) % 2147483269 = y' := rfl
    simp [gx, gy, hx, w1, m1, e1, put, gy', d1, w2, m2, d2, m3]
end Lw
namespace Lw
open PySem PySem.Spec PyProof.Rows L2 DL
variable [WC]
def sortI (l : List Int) : List Int := l.mergeSort fun a b => decide (a ≤ b)
theorem leD_int (a b : Int) : leD (.int a) (.int b) = decide (a ≤ b) := congrFun (congrFun (PySem.W.dataLe_int (β := Int) fun b => b) a) b
theorem sortD_ints (l : List Int) : (l.map D.int).mergeSort leD = (sortI l).map .int :=
  (List.map_mergeSort (r := fun a b : Int => decide (a ≤ b)) (s := leD) (f := D.int) fun a _ b _ => (leD_int a b).symm).symm
theorem sortB_ints (l : List Int) : sortB (l.map D.int) = true := by
  unfold sortB alikeB
  rw [Bool.and_eq_true, Bool.or_eq_true]
  refine ⟨List.all_eq_true.mpr fun x hx => ?_, .inr (List.all_eq_true.mpr fun x hx => ?_)⟩
  · obtain ⟨a, _, rfl⟩ := List.mem_map.mp hx
    rw [Bool.and_eq_true]
    exact ⟨rfl, List.all_eq_true.mpr fun y hy => by obtain ⟨b, _, rfl⟩ := List.mem_map.mp hy; rfl⟩
  · obtain ⟨a, _, rfl⟩ := List.mem_map.mp hx
    rfl
@[simp] theorem gSorted_ints {μ : Store} (l : List Int) : gSorted [.lst (l.map .int)] μ = .ok (.lst ((sortI l).map .int)) μ := by
  unfold gSorted
  simp only [asLst, sortB_ints, if_true, sortD_ints]
theorem sortI_mem {l : List Int} {i : Int} : i ∈ sortI l ↔ i ∈ l := List.mem_mergeSort
theorem sortI_asc {l : List Int} (h : l.Nodup) : (sortI l).Pairwise (· < ·) := by
  have h1 : (sortI l).Pairwise (fun a b => decide (a ≤ b) = true) := List.pairwise_mergeSort (fun a b c h1 h2 => by simp only [decide_eq_true_eq] at *; omega) (fun a b => by simp only [Bool.or_eq_true, decide_eq_true_eq]; omega) l
  have h2 : (sortI l).Nodup := (List.mergeSort_perm l _).nodup_iff.mpr h
  exact h1.imp₂ (fun {a b} q1 q2 => by have : a ≤ b := by simpa using q1
                                       omega) h2
theorem pow18 {μ : Store} : gPow (.int 10) (.int 18) μ = .ok (.int 1000000000000000000) μ := by rfl
section
variable {n : Nat} {μ : Store}
theorem law_bag_ok {ns : List Int} {k : Nat} (hk : k ≤ 1000) : ∃ x y : Int, m__law_bag [.arg (ns.map .int), .int k] μ = .ok (.ptr μ.length) (μ ++ [.lst [.int x, .int y]]) ∧ Bag μ.length (μ ++ [.lst [.int x, .int y]]) := by
  have fin : ∀ c : Int, (sRet (eLst true (aCons (eIf (tOf (eBin gGe (eVar 2) (eBin gPow (eC (.int 10)) (eC (.int 18))))) (eVar 2) (eC (.int 0))) (aCons (eBin gMod (eCall gInt1 (aCons (eBin (gAdd false) (eBin (gAdd false) (eBin gMod (eCall gInt1 (aCons (eVar 2) aNil)) (eC (.int 2147483269))) (eBin gMulI (eC (.int 90011)) (eVar 1))) (eC (.int 47))) aNil)) (eC (.int 2147483269))) aNil))))
      [some (.arg (ns.map .int)), some (.int k), some (.int c)] μ = .ok (.ret (.ptr μ.length)) (μ ++ [.lst [.int (if 1000000000000000000 ≤ c then c else 0), .int ((c % 2147483269 + 90011 * k + 47) % 2147483269)]]) := fun c => by
    have m1 : ∀ z : Int, gMod (.int z) (.int 2147483269) μ = .ok (.int (z % 2147483269)) μ := fun z => gMod_pos (by omega)
    have w1 : gMulI (.int 90011) (.int k) μ = .ok (.int (90011 * k)) μ := gMulI_int (by omega) (by omega)
    by_cases h : 1000000000000000000 ≤ c
    · simp [pow18, h, m1, w1]
    · simp [pow18, h, m1, w1]
  have bag : ∀ c : Int, Bag μ.length (μ ++ [.lst [.int (if 1000000000000000000 ≤ c then c else 0), .int ((c % 2147483269 + 90011 * k + 47) % 2147483269)]]) := fun c => ⟨if 1000000000000000000 ≤ c then c else 0, (c % 2147483269 + 90011 * k + 47) % 2147483269, by simp, Int.emod_nonneg _ (by omega), Int.emod_lt_of_pos _ (by omega)⟩
  by_cases h : k < ns.length
  · let c : Int := if ix ns k < 0 then -(ix ns k) else ix ns k
    refine ⟨if 1000000000000000000 ≤ c then c else 0, (c % 2147483269 + 90011 * k + 47) % 2147483269, defM_ret rfl ((seq_at (ρ1 := [some (.arg (ns.map .int)), some (.int k), some (.int c)]) (μ1 := μ) ?_).trans (fin c)), bag c⟩
    have e1 : gIxL (ns.map .int) (k : Int) μ = .ok (.int (ix ns k)) μ := by rw [gIxL_map (x := 0) (by omega) (by omega)]; rfl
    simp [h, e1, c]
  · refine ⟨_, _, defM_ret rfl ((seq_at (ρ1 := [some (.arg (ns.map .int)), some (.int k), some (.int (61 * k + 23))]) (μ1 := μ) ?_).trans (fin _)), bag _⟩
    have w1 : gMulI (.int 61) (.int k) μ = .ok (.int (61 * k)) μ := gMulI_int (by omega) (by omega)
    have h' : ¬ ((k : Int) < ns.length) := by omega
    simp [h, w1]
/-- a list to be read, beside the bag -/
def LstAt (n : Nat) (μ : Store) (d : D) (xs : List D) : Prop := d = .lst xs ∨ ∃ q : Nat, d = .ptr q ∧ q ≠ n ∧ μ[q]? = some (.lst xs)
theorem law_of_ok {d : D} {xs : List D} (h : Bag n μ) (hd : LstAt n μ d xs) (h1 : xs ≠ []) (h2 : xs.length ≤ 1000000) : ∃ y μ', m__law_of [.ptr n, d] μ = .ok y μ' ∧ y ∈ xs ∧ Bg n μ μ' := by
  have hl : 0 < xs.length := List.length_pos_iff.mpr h1
  obtain ⟨v, μ', e, v1, v2, bg⟩ := law_take_ok (m := xs.length) h (by omega) (by omega)
  have hv : v.toNat < xs.length := by omega
  have ei : gIxL xs v μ' = .ok xs[v.toNat] μ' := gIxL_nn v1 (List.getElem?_eq_getElem hv)
  refine ⟨xs[v.toNat], μ', defM_ret rfl ?_, List.getElem_mem hv, bg⟩
  rcases hd with rfl | ⟨q, rfl, hq, hx⟩
  · simp [e, ei]
  · have g1 := gLen_ptr hx
    have g2 : gIx (.ptr q) (.int v) μ' = .ok xs[v.toNat] μ' := by rw [gIx_ptr ((bg.old q hq).trans hx), ei]
    simp [g1, e, g2]
/-- bars as drawn -/
structure BarsOk (m : Nat) (b : List (List Int)) : Prop where
  asc : ∀ l ∈ b, l.Pairwise (· < ·)
  ran : ∀ l ∈ b, ∀ i ∈ l, 0 ≤ i ∧ i < m
theorem law_bars_ok {m : Nat} (h : Bag n μ) (hm : m ≤ 100) : ∃ b μ', m__law_bars [.ptr n, .int m] μ = .ok (barsD b) μ' ∧ b.length = m ∧ BarsOk m b ∧ Bg n μ μ' := by
  obtain ⟨w, μ1, e0, w1, w2, bg0⟩ := law_take_ok (m := 4) h (by omega) (by omega)
  have main := for_pre (f := D.int) (g := gVar 2) (c := always) (body := sSeq (sSet 5 (eIf (tOf (eBin gLt (eVar 3) (eC (.int 2)))) (eLst false (aCons (eVar 2) aNil)) (eLst false aNil)))
    (sSeq (sFor (iRange1 (eVar 1)) (gVar 6) (sIf (tAndM (tOf (eBin (gIn true) (eVar 6) (eVar 5))) (tOf (eBin (gEq false) (eCall m__law_take (aCons (eVar 0) (aCons (eIf (tOf (eBin (gEq true) (eVar 3) (eC (.int 1)))) (eC (.int 4)) (eC (.int 7))) aNil))) (eC (.int 0))))) (sSet 5 (eBin (gAdd false) (eVar 5) (eLst false (aCons (eVar 6) aNil)))) sNil))
    (sSet 4 (eBin (gAdd false) (eVar 4) (eTup (aCons (eCall gTuple (aCons (eCall gSorted (aCons (eVar 5) aNil)) aNil)) aNil))))))
    (fun p ρ μ' => Bg n μ μ' ∧ ∃ b x5 x6 x2, b.length = p.length ∧ BarsOk m b ∧ ρ = [some (.ptr n), some (.int m), x2, some (.int w), some (barsD b), x5, x6]) (rng m)
    (ρ := [some (.ptr n), some (.int m), none, some (.int w), some (.tup []), none, none]) (μ := μ1) (fun _ _ _ _ => rfl) ?_ ⟨bg0, [], none, none, none, rfl, ⟨fun _ h => (nomatch h), fun _ h => (nomatch h)⟩, rfl⟩
  · obtain ⟨ρ', μ', e, bg, b, x5, x6, x2, hb, ok, rfl⟩ := main
    rw [rng_len] at hb
    refine ⟨b, μ', defM_ret rfl ?_, hb, ok, bg⟩
    simp [e0, kR1_nat (show m ≤ 1000 by omega), rngD_0, e]
  · rintro p a s ρ μ' hp ⟨bg, b, x5, x6, x2, hb, ok, rfl⟩
    have ha : a ∈ rng m := by rw [hp]; simp
    have hpl : p.length ≤ 100 := by
      have := congrArg List.length hp
      rw [rng_len, List.length_append] at this
      omega
    have main := for_pre (f := D.int) (g := gVar 6) (c := always) (body := sIf (tAndM (tOf (eBin (gIn true) (eVar 6) (eVar 5))) (tOf (eBin (gEq false) (eCall m__law_take (aCons (eVar 0) (aCons (eIf (tOf (eBin (gEq true) (eVar 3) (eC (.int 1)))) (eC (.int 4)) (eC (.int 7))) aNil))) (eC (.int 0))))) (sSet 5 (eBin (gAdd false) (eVar 5) (eLst false (aCons (eVar 6) aNil)))) sNil)
      (fun q ρ μ' => Bg n μ μ' ∧ ∃ (l : List Int) (x6 : Option D), l.Nodup ∧ (∀ i ∈ l, i ∈ rng m) ∧ ρ = [some (.ptr n), some (.int m), some (.int a), some (.int w), some (barsD b), some (.lst (l.map .int)), x6]) (rng m)
      (ρ := [some (.ptr n), some (.int m), some (.int a), some (.int w), some (barsD b), some (.lst ((if w < 2 then [a] else []).map .int)), x6]) (μ := μ') (fun _ _ _ _ => rfl) ?_ ⟨bg, if w < 2 then [a] else [], x6, by split <;> simp, by split <;> simp [ha], rfl⟩
    · obtain ⟨ρ2, μ2, e, bg2, l, x6', hn, hl, rfl⟩ := main
      refine ⟨[some (.ptr n), some (.int m), some (.int a), some (.int w), some (barsD (b ++ [sortI l])), some (.lst (l.map .int)), x6'], μ2, ?_, bg2, b ++ [sortI l], _, _, _, by simp [hb], ⟨fun l' h => ?_, fun l' h => ?_⟩, rfl⟩
      · have ga : gAdd false (barsD b) (.tup [.tup ((sortI l).map .int)]) μ2 = .ok (barsD (b ++ [sortI l])) μ2 := by
          rw [barsD, gAdd_tup false (by simp; omega), barsD, List.map_append]; rfl
        by_cases hw : w < 2
        · simp only [hw, if_true, List.map_cons, List.map_nil] at e
          simp [hw, kR1_nat (show m ≤ 1000 by omega), rngD_0, e, ga]
        · simp only [hw, if_false, List.map_nil] at e
          simp [hw, kR1_nat (show m ≤ 1000 by omega), rngD_0, e, ga]
      · rcases List.mem_append.mp h with h | h
        · exact ok.asc l' h
        · rw [List.mem_singleton.mp h]; exact sortI_asc hn
      · rcases List.mem_append.mp h with h | h
        · exact ok.ran l' h
        · rw [List.mem_singleton.mp h]; exact fun i hi => mem_rng.mp (hl i (sortI_mem.mp hi))
    · rintro q c s' ρ μ' hq ⟨bg, l, x6, hn, hl, rfl⟩
      have hc : c ∈ rng m := by rw [hq]; simp
      have hll : l.length ≤ m := int_len hn fun i hi => mem_rng.mp (hl i hi)
      by_cases h1 : c ∈ l
      · exact ⟨_, μ', by simp [h1], bg, l, some (.int c), hn, hl, rfl⟩
      · have tk : ∃ v μ2, (∀ u : Int, u = (if w = 1 then 7 else 4) → m__law_take [.ptr n, .int u] μ' = .ok (.int v) μ2) ∧ Bg n μ' μ2 := by
          obtain ⟨v, μ2, e, _, _, b2⟩ := law_take_ok (m := if w = 1 then 7 else 4) bg.bag (by split <;> omega) (by split <;> omega)
          exact ⟨v, μ2, fun u hu => by rw [hu]; exact e, b2⟩
        obtain ⟨v, μ2, e, b2⟩ := tk
        by_cases hv : v = 0
        · refine ⟨[some (.ptr n), some (.int m), some (.int a), some (.int w), some (barsD b), some (.lst ((l ++ [c]).map .int)), some (.int c)], μ2, ?_, bg.trans b2, l ++ [c], _, ?_, ?_, rfl⟩
          · have ga : gAdd false (.lst (l.map D.int)) (.lst [.int c]) μ2 = .ok (.lst ((l ++ [c]).map .int)) μ2 := by
              rw [gAdd_lst false (by simp; omega)]; simp
            by_cases hw : w = 1
            · simp [h1, hw, e 7 (by simp [hw]), hv, ga]
            · simp [h1, hw, e 4 (by simp [hw]), hv, ga]
          · exact List.nodup_append.mpr ⟨hn, by simp, fun x hx y hy e => h1 (by rw [← List.mem_singleton.mp hy, ← e]; exact hx)⟩
          · intro i hi
            rcases List.mem_append.mp hi with h | h
            · exact hl i h
            · rw [List.mem_singleton.mp h]; exact hc
        · refine ⟨[some (.ptr n), some (.int m), some (.int a), some (.int w), some (barsD b), some (.lst (l.map .int)), some (.int c)], μ2, ?_, bg.trans b2, l, _, hn, hl, rfl⟩
          by_cases hw : w = 1
          · simp [h1, hw, e 7 (by simp [hw]), hv]
          · simp [h1, hw, e 4 (by simp [hw]), hv]
theorem law_rule_ok (h : Bag n μ) {m : Nat} (h1 : 2 ≤ m) (h2 : m ≤ 6) : ∃ r μ', m__law_rule [.ptr n, .int m] μ = .ok (ruleD r) μ' ∧ r.Ok ∧ r.b.length ≤ m ∧ Bg n μ μ' := by
  obtain ⟨v, μ1, e1, v1, v2, bg1⟩ := law_take_ok (m := (m : Int) - 1) h (by omega) (by omega)
  have hv : (2 : Int) + v = ((2 + v.toNat : Nat) : Int) := by omega
  obtain ⟨b, μ2, e2, hb, ok, bg2⟩ := law_bars_ok (m := 2 + v.toNat) bg1.bag (by omega)
  obtain ⟨u, μ3, e3, u1, u2, bg3⟩ := law_take_ok (m := 3) bg2.bag (by omega) (by omega)
  obtain ⟨y, μ4, e4, hy, bg4⟩ := law_of_ok (d := .lst [.str "again", .str "again", .str "swap", .str "swap", .str "anew"]) bg3.bag (.inl rfl) (by simp) (by simp)
  have : ∃ w : Str, y = .str w ∧ (w = "again" ∨ w = "anew" ∨ w = "swap") := by
    simp only [List.mem_cons, List.not_mem_nil, or_false] at hy
    rcases hy with h | h | h | h | h <;> exact ⟨_, h, by simp⟩
  obtain ⟨w, rfl, hw⟩ := this
  refine ⟨⟨b, decide (u = 0), w⟩, μ4, defM_ret rfl ?_, ⟨by show 2 ≤ b.length; omega, by show b.length ≤ 6; omega, ok.asc, by show ∀ l ∈ b, ∀ i ∈ l, 0 ≤ i ∧ i < (b.length : Int); rw [hb]; exact ok.ran, hw⟩, by show b.length ≤ m; omega, ((bg1.trans bg2).trans bg3).trans bg4⟩
  rw [← hv] at e2
  simp [e1, e2, e3, e4, ruleD]
end
end Lw
namespace Lw
open PySem PySem.Spec PyProof.Rows L2 DL
variable [WC]
section
variable {n : Nat} {μ : Store}
theorem gEq_lst_nil (neg : Bool) (l : List Int) : gEq neg (.lst (l.map .int)) (.lst []) μ = .ok (.bl (if neg then !decide (l = []) else decide (l = []))) μ := gEq_lstI (m := []) neg
theorem gEq_self {m : Nat} {d : D} (neg : Bool) (h : cl m d = true) (hm : m ≤ 64 := by decide) : gEq neg d d μ = .ok (.bl (!neg)) μ := by
  rw [gEq_cl (n := m) neg (by rw [view_of μ h]; exact h) (by rw [view_of μ h]; exact h) hm]
  cases neg <;> simp
theorem cl_pairs (l : List (Int × Int)) : cl 2 (.lst (l.map pairD)) = true := cl_lst fun z hz => by
  obtain ⟨p, _, rfl⟩ := List.mem_map.mp hz
  rfl
theorem remove_ptr {q : Nat} {l : List Int} {i : Int} (h : μ[q]? = some (.lst (l.map .int))) (hi : i ∈ l) : gMut hRemove (.ptr q) [.int i] μ = .ok .non (μ.set q (.lst ((l.erase i).map .int))) := by
  refine gMut_ptr h ?_
  simp only [hRemove, intsOf_map, if_pos hi]
theorem Bag.set {q : Nat} {o : Ob} (h : Bag n μ) (hq : q ≠ n) : Bag n (μ.set q o) := by
  obtain ⟨x, y, h1, h2⟩ := h
  exact ⟨x, y, by rw [List.getElem?_set_ne hq]; exact h1, h2⟩
theorem Bag.lt (h : Bag n μ) : n < μ.length := by
  obtain ⟨x, y, h1, h2⟩ := h
  exact (List.getElem?_eq_some_iff.mp h1).1
theorem Bag.app (h : Bag n μ) (l : Store) : Bag n (μ ++ l) := by
  have := h.lt
  obtain ⟨x, y, h1, h2⟩ := h
  exact ⟨x, y, by rw [List.getElem?_append_left this]; exact h1, h2⟩
theorem rng_nodup (n : Nat) : (rng n).Nodup := List.pairwise_map.mpr (List.nodup_range.imp fun q e => q (by omega))
/-! data with itself -/
def okE : Nat → D → Bool
  | _, .non => true
  | _, .int _ => true
  | _, .bl _ => true
  | _, .str s => PyData.strOk s
  | n + 1, .tup xs => xs.all (okE n)
  | n + 1, .lst xs => xs.all (okE n)
  | _, _ => false
theorem okE_py : ∀ (n : Nat) (d : D), okE n d = true → ∃ p, Cl n d p
  | n, .non, _ => ⟨.none, rfl, by simp [PyData.canLay0], by simp [PyData.depth]⟩
  | n, .int i, _ => ⟨.int i, rfl, by simp [PyData.canLay0], by simp [PyData.depth]⟩
  | n, .bl i, _ => ⟨.bool i, rfl, by simp [PyData.canLay0], by simp [PyData.depth]⟩
  | n, .str s, h => ⟨.str s, rfl, by simpa [PyData.canLay0, okE] using h, by simp [PyData.depth]⟩
  | n + 1, .tup xs, h => by
    have h' : ∀ x ∈ xs, okE n x = true := by simpa [okE] using h
    obtain ⟨ps, h1, h2, h3⟩ := clL (n := n) fun x hx => okE_py n x (h' x hx)
    exact ⟨.tuple ps, by simp only [toPy, h1, Option.map_some], by simpa [PyData.canLay0] using h2, by simp only [PyData.depth]; omega⟩
  | n + 1, .lst xs, h => by
    have h' : ∀ x ∈ xs, okE n x = true := by simpa [okE] using h
    obtain ⟨ps, h1, h2, h3⟩ := clL (n := n) fun x hx => okE_py n x (h' x hx)
    exact ⟨.list ps, by simp only [toPy, h1, Option.map_some], by simpa [PyData.canLay0] using h2, by simp only [PyData.depth]; omega⟩
  | 0, .tup xs, h => by simp [okE] at h
  | 0, .lst xs, h => by simp [okE] at h
  | _, .arg _, h => by simp [okE] at h
  | _, .dct _ _, h => by simp [okE] at h
  | _, .ptr _, h => by simp [okE] at h
  | _, .raw _, h => by simp [okE] at h
theorem gEq_refl {m : Nat} {d : D} (neg : Bool) (h : okE m d = true) (hm : m ≤ 64 := by decide) : gEq neg d d μ = .ok (.bl (!neg)) μ := by
  obtain ⟨p, hp⟩ := okE_py m d h
  have hv : view μ d = d := by
    cases d <;> first | rfl | (simp [okE] at h)
  have e : eqB μ d d = some true := by
    unfold eqB pyV
    simp only [hv, hp.py, cl_shaped hp hm, Bool.and_self, if_true, SeqAt.eqv_refl p hp.lay]
  unfold gEq
  rw [e]
  cases neg <;> rfl
theorem okE_names (l : List Int) (n : Nat) : okE (n + 1) (namesD l) = true := by
  simp only [namesD, okE, List.all_map, List.all_eq_true]
  intro x _
  cases n <;> rfl
theorem okE_bars (b : List (List Int)) (n : Nat) : okE (n + 2) (barsD b) = true := by
  simp only [barsD, okE, List.all_map, List.all_eq_true]
  intro l _
  exact okE_names l n
theorem okE_rule {r : Rl} (h : r.w = "again" ∨ r.w = "anew" ∨ r.w = "swap") : okE 3 (ruleD r) = true := by
  have hw : okE 2 (.str r.w) = true := by rcases h with h | h | h <;> rw [h] <;> decide +kernel
  have hw' : PyData.strOk r.w = true := by simpa [okE] using hw
  simp only [ruleD, okE, List.all_cons, List.all_nil, okE_bars r.b 0, hw', Bool.and_self, Bool.and_true]
end
/-- all lists that may bar -/
def subs : List Int → List (List Int)
  | [] => [[]]
  | x :: xs => subs xs ++ (subs xs).map (x :: ·)
theorem mem_subs {l m : List Int} (h : l.Sublist m) : l ∈ subs m := by
  induction h with
  | slnil => simp [subs]
  | cons a h ih => exact List.mem_append_left _ ih
  | cons_cons a h ih => exact List.mem_append_right _ (List.mem_map.mpr ⟨_, ih, rfl⟩)
theorem asc_ext : ∀ (l m : List Int), l.Pairwise (· < ·) → m.Pairwise (· < ·) → (∀ i, i ∈ l ↔ i ∈ m) → l = m
  | [], [], _, _, _ => rfl
  | [], y :: m, _, _, h => absurd ((h y).mpr List.mem_cons_self) (by simp)
  | x :: l, [], _, _, h => absurd ((h x).mp List.mem_cons_self) (by simp)
  | x :: l, y :: m, hl, hm, h => by
    have hl' := List.pairwise_cons.mp hl
    have hm' := List.pairwise_cons.mp hm
    have e : x = y := by
      rcases List.mem_cons.mp ((h x).mp List.mem_cons_self) with q | q
      · exact q
      · rcases List.mem_cons.mp ((h y).mpr List.mem_cons_self) with q2 | q2
        · exact q2.symm
        · have := hm'.1 x q
          have := hl'.1 y q2
          omega
    subst e
    congr 1
    refine asc_ext l m hl'.2 hm'.2 fun i => ⟨fun hi => ?_, fun hi => ?_⟩
    · rcases List.mem_cons.mp ((h i).mp (List.mem_cons_of_mem _ hi)) with q | q
      · have := hl'.1 i hi
        omega
      · exact q
    · rcases List.mem_cons.mp ((h i).mpr (List.mem_cons_of_mem _ hi)) with q | q
      · have := hm'.1 i hi
        omega
      · exact q
theorem rng_asc (n : Nat) : (rng n).Pairwise (· < ·) := List.pairwise_map.mpr (List.pairwise_lt_range.imp fun q => by omega)
theorem subs_mem : ∀ (m l : List Int), l ∈ subs m → ∀ i ∈ l, i ∈ m
  | [], l, h, i, hi => by simp only [subs, List.mem_singleton] at h; rw [h] at hi; exact hi
  | x :: m, l, h, i, hi => by
    simp only [subs, List.mem_append, List.mem_map] at h
    rcases h with h | ⟨l', h, rfl⟩
    · exact List.mem_cons_of_mem _ (subs_mem m l h i hi)
    · rcases List.mem_cons.mp hi with q | q
      · rw [q]; exact List.mem_cons_self
      · exact List.mem_cons_of_mem _ (subs_mem m l' h i q)
end Lw
namespace Lw
open PySem PySem.Spec PyProof.Rows L2 DL
variable [WC]
/-! ### rows: what people can have -/
def behind (r : Rl) (ns : List Int) : List (List Int) :=
  if letOf r ns ≠ [] then (letOf r ns).map fun x => ns ++ [x]
  else if r.w ≠ "swap" then [] else (pairsOf r ns).map fun p => exch ns p.1 p.2
def turnsAt (r : Rl) : Nat → List (List Int)
  | 0 => [[]]
  | p + 1 => ssort ((turnsAt r p).flatMap (behind r))
section
variable {μ : Store} {r : Rl} {ns : List Int} {i j : Int}
theorem letOf_mem (h : i ∈ letOf r ns) : (0 ≤ i ∧ i < r.b.length) ∧ i ∉ ns := left_mem.mp (List.mem_filter.mp h).1
theorem pairs_mem {p : Int × Int} (h : p ∈ pairsOf r ns) : (0 ≤ p.1 ∧ p.1 < ns.length) ∧ (0 ≤ p.2 ∧ p.2 < r.b.length) ∧ p.2 ∉ ns := by
  simp only [pairsOf, prs, List.mem_flatMap, List.mem_map, List.mem_filter] at h
  obtain ⟨e, he, n, ⟨hn, _⟩, rfl⟩ := h
  have := left_mem.mp hn
  exact ⟨mem_rng.mp he, this.1, this.2⟩
theorem ns_snoc (h : Ns r ns) (hi : 0 ≤ i ∧ i < r.b.length) (hn : i ∉ ns) : Ns r (ns ++ [i]) :=
  ⟨List.nodup_append.mpr ⟨h.nd, by simp, fun x hx y hy e => hn (by rw [← List.mem_singleton.mp hy, ← e]; exact hx)⟩, fun j hj => by
    rcases List.mem_append.mp hj with q | q
    · exact h.ran j q
    · rw [List.mem_singleton.mp q]; exact hi⟩
theorem nodup_set {l : List Int} {k : Nat} {x : Int} (h : l.Nodup) (hx : x ∉ l) : (l.set k x).Nodup := by
  induction l generalizing k with
  | nil => simp
  | cons a l ih =>
    have h' := List.nodup_cons.mp h
    cases k with
    | zero => exact List.nodup_cons.mpr ⟨fun q => hx (List.mem_cons_of_mem _ q), h'.2⟩
    | succ k =>
      rw [List.set_cons_succ]
      refine List.nodup_cons.mpr ⟨fun q => ?_, ih h'.2 fun q => hx (List.mem_cons_of_mem _ q)⟩
      rcases List.mem_or_eq_of_mem_set q with q | q
      · exact h'.1 q
      · exact hx (by rw [← q]; exact List.mem_cons_self)
theorem not_mem_set {l : List Int} {k : Nat} {x : Int} (h : l.Nodup) (hk : k < l.length) (hx : x ∉ l) : l[k] ∉ l.set k x := by
  intro q
  obtain ⟨m, hm, e⟩ := List.mem_iff_getElem.mp q
  rw [List.length_set] at hm
  by_cases hmk : k = m
  · subst hmk
    rw [List.getElem_set_self] at e
    exact hx (by rw [e]; exact List.getElem_mem hk)
  · rw [List.getElem_set_ne hmk] at e
    exact hmk ((List.getElem_inj h).mp e.symm)
theorem ns_exch (h : Ns r ns) (hi : 0 ≤ i ∧ i < ns.length) (hj : 0 ≤ j ∧ j < r.b.length) (hn : j ∉ ns) : Ns r (exch ns i j) := by
  have hk : i.toNat < ns.length := by omega
  have e1 : ix ns i = ns[i.toNat] := by simp [ix, List.getD_eq_getElem?_getD, List.getElem?_eq_getElem hk]
  rw [exch, withName_set hi.1 hi.2]
  refine ⟨List.nodup_append.mpr ⟨nodup_set h.nd hn, by simp, fun x hx y hy e => ?_⟩, fun x hx => ?_⟩
  · rw [List.mem_singleton.mp hy, e1] at e
    exact not_mem_set h.nd hk hn (by rw [← e]; exact hx)
  · rcases List.mem_append.mp hx with q | q
    · rcases List.mem_or_eq_of_mem_set q with q | q
      · exact h.ran x q
      · rw [q]; exact hj
    · rw [List.mem_singleton.mp q]
      exact h.ran _ (ix_mem hi.1 hi.2)
theorem behind_ns (h : Ns r ns) {m : List Int} (hm : m ∈ behind r ns) : Ns r m ∧ m.length = ns.length + 1 := by
  unfold behind at hm
  split at hm
  · obtain ⟨x, hx, rfl⟩ := List.mem_map.mp hm
    have := letOf_mem hx
    exact ⟨ns_snoc h this.1 this.2, by simp⟩
  · split at hm
    · cases hm
    · obtain ⟨p, hp, rfl⟩ := List.mem_map.mp hm
      have := pairs_mem hp
      exact ⟨ns_exch h this.1 this.2.1 this.2.2, exch_len this.1.1 this.1.2⟩
theorem turns_ns : ∀ (p : Nat) {ns : List Int}, ns ∈ turnsAt r p → Ns r ns ∧ ns.length = p
  | 0, ns, h => by
    rw [List.mem_singleton.mp h]
    exact ⟨⟨List.nodup_nil, fun _ h => (nomatch h)⟩, rfl⟩
  | p + 1, ns, h => by
    rw [turnsAt, mem_ssort, List.mem_flatMap] at h
    obtain ⟨m, hm, hn⟩ := h
    have h1 := turns_ns p hm
    have h2 := behind_ns h1.1 hn
    exact ⟨h2.1, by rw [h2.2, h1.2]⟩
theorem ssort_nodup (rows : List (List Int)) : (ssort rows).Nodup := by
  unfold ssort
  exact (List.mergeSort_perm _ _).nodup_iff.mpr (dd_nodup rows)
theorem turns_nodup : ∀ p : Nat, (turnsAt r p).Nodup
  | 0 => by simp [turnsAt]
  | p + 1 => ssort_nodup _
/-! how many -/
def allRows (n : Nat) : Nat → List (List Int)
  | 0 => [[]]
  | p + 1 => (allRows n p).flatMap fun ns => ((rng n).filter fun x => !decide (x ∈ ns)).map fun x => ns ++ [x]
theorem mem_allRows {n : Nat} : ∀ (p : Nat) (ns : List Int), ns.Nodup → (∀ i ∈ ns, 0 ≤ i ∧ i < n) → ns.length = p → ns ∈ allRows n p
  | 0, ns, _, _, h => by rw [List.length_eq_zero_iff.mp h]; simp [allRows]
  | p + 1, ns, h1, h2, h => by
    rcases List.eq_nil_or_concat ns with e | ⟨m, x, e⟩
    · rw [e] at h; cases h
    · have e : ns = m ++ [x] := by rw [e, List.concat_eq_append]
      subst e
      have h1' := List.nodup_append.mp h1
      rw [allRows, List.mem_flatMap]
      refine ⟨m, mem_allRows p m h1'.1 (fun i hi => h2 i (List.mem_append_left _ hi)) (by simpa using h), List.mem_map.mpr ⟨x, List.mem_filter.mpr ⟨mem_rng.mpr (h2 x (by simp)), ?_⟩, rfl⟩⟩
      simp only [Bool.not_eq_true', decide_eq_false_iff_not]
      exact fun q => h1'.2.2 x q x (by simp) rfl
theorem sum_sub {α : Type} [DecidableEq α] (f : α → Nat) : ∀ (l m : List α), l.Nodup → (∀ x ∈ l, x ∈ m) → (l.map f).sum ≤ (m.map f).sum
  | [], m, _, _ => by simp
  | x :: l, m, h, hs => by
    have h' := List.nodup_cons.mp h
    have hx := hs x List.mem_cons_self
    have ih := sum_sub f l (m.erase x) h'.2 fun y hy => (List.mem_erase_of_ne (fun e => h'.1 (by rw [← e]; exact hy))).mpr (hs y (List.mem_cons_of_mem _ hy))
    have e : (m.map f).sum = f x + ((m.erase x).map f).sum := by
      have := ((List.perm_cons_erase hx).map f).sum_nat
      rw [this, List.map_cons, List.sum_cons]
    rw [List.map_cons, List.sum_cons, e]
    omega
theorem flat_sum {α β : Type} (f : α → List β) : ∀ l : List α, (l.flatMap f).length = (l.map fun a => (f a).length).sum
  | [] => rfl
  | a :: l => by rw [List.flatMap_cons, List.length_append, flat_sum f l, List.map_cons, List.sum_cons]
theorem turns_sum (f : List Int → Nat) (p : Nat) : ((turnsAt r p).map f).sum ≤ ((allRows r.b.length p).map f).sum :=
  sum_sub f _ _ (turns_nodup p) fun ns h => mem_allRows p ns (turns_ns p h).1.nd (turns_ns p h).1.ran (turns_ns p h).2
theorem len_split {α : Type} (p : α → Bool) : ∀ l : List α, (l.filter p).length + (l.filter fun x => !p x).length = l.length
  | [] => rfl
  | x :: l => by
    have := len_split p l
    cases h : p x <;> simp [h] <;> omega
theorem left_count (h : Ns r ns) : (left r ns).length + ns.length = r.b.length := by
  have h1 : ((rng r.b.length).filter fun n => decide (n ∈ ns)).length = ns.length := by
    have e : ((rng r.b.length).filter fun n => decide (n ∈ ns)).Perm ns := (List.perm_ext_iff_of_nodup ((rng_nodup _).sublist List.filter_sublist) h.nd).mpr fun i => by
      simp only [List.mem_filter, mem_rng, decide_eq_true_eq]
      exact ⟨fun q => q.2, fun q => ⟨h.ran i q, q⟩⟩
    exact e.length_eq
  have h2 := len_split (fun n => decide (n ∈ ns)) (rng r.b.length)
  rw [rng_len, h1] at h2
  unfold left
  omega
theorem behind_len (h : Ns r ns) : (behind r ns).length ≤ (r.b.length - ns.length) * max 1 ns.length := by
  have hc := left_count h
  have hl : (left r ns).length = r.b.length - ns.length := by omega
  have h1 : (letOf r ns).length ≤ (left r ns).length := List.length_filter_le _ _
  have h2 : (pairsOf r ns).length ≤ ns.length * (left r ns).length := by
    have := flat_len (fun e => ((left r ns).filter (canEx r ns e)).map fun n => (e, n)) (left r ns).length (rng ns.length) fun e _ => by
      rw [List.length_map]; exact List.length_filter_le _ _
    rwa [rng_len] at this
  rw [← hl]
  unfold behind
  split
  · rw [List.length_map]
    exact Nat.le_trans h1 (Nat.le_mul_of_pos_right _ (by omega))
  · split
    · simp
    · rw [List.length_map]
      refine Nat.le_trans h2 ?_
      rw [Nat.mul_comm]
      exact Nat.mul_le_mul_left _ (Nat.le_max_right _ _)
theorem filter_len {α : Type} {p q : α → Bool} : ∀ (l : List α), (∀ x ∈ l, p x = true → q x = true) → (l.filter p).length ≤ (l.filter q).length
  | [], _ => by simp
  | x :: l, h => by
    have ih := filter_len l fun y hy => h y (List.mem_cons_of_mem _ hy)
    cases hp : p x with
    | true =>
      rw [List.filter_cons_of_pos hp, List.filter_cons_of_pos (h x List.mem_cons_self hp), List.length_cons, List.length_cons]; omega
    | false =>
      rw [List.filter_cons_of_neg (by simp [hp])]
      cases hq : q x with
      | true => rw [List.filter_cons_of_pos hq, List.length_cons]; omega
      | false => rw [List.filter_cons_of_neg (by simp [hq])]; exact ih
theorem sum_mono {α : Type} (f g : α → Nat) : ∀ l : List α, (∀ x ∈ l, f x ≤ g x) → (l.map f).sum ≤ (l.map g).sum
  | [], _ => by simp
  | x :: l, h => by
    have h1 := h x List.mem_cons_self
    have h2 := sum_mono f g l fun y hy => h y (List.mem_cons_of_mem _ hy)
    rw [List.map_cons, List.map_cons, List.sum_cons, List.sum_cons]; omega
theorem rows_120 : ((List.range 6).all fun n => (List.range 6).all fun k => decide ((allRows n k).length ≤ 120)) = true := by decide +kernel
theorem ns_120 (hn : r.b.length ≤ 5) {k : Nat} (hk : k ≤ 5) {l : List (List Int)} (nd : l.Nodup) (h : ∀ m ∈ l, Ns r m ∧ m.length = k) : l.length ≤ 120 := by
  have s1 := sub_len l (allRows r.b.length k) nd fun m hm => mem_allRows _ _ (h m hm).1.nd (h m hm).1.ran (h m hm).2
  have := of_decide_eq_true (List.all_eq_true.mp (List.all_eq_true.mp rows_120 r.b.length (List.mem_range.mpr (by omega))) k (List.mem_range.mpr (by omega)))
  omega
theorem later_ns {p : Nat} {m : List Int} (hm : m ∈ (turnsAt r p).flatMap (behind r)) : Ns r m ∧ m.length = p + 1 := by
  obtain ⟨ns, h1, h2⟩ := List.mem_flatMap.mp hm
  have a1 := turns_ns _ h1
  have a2 := behind_ns a1.1 h2
  exact ⟨a2.1, by rw [a2.2, a1.2]⟩
theorem later_dd (hn : r.b.length ≤ 5) {p : Nat} (hp : p < r.b.length) : (dd ((turnsAt r p).flatMap (behind r))).length ≤ 120 :=
  ns_120 hn (by omega) (dd_nodup _) fun m hm => later_ns (mem_dd.mp hm)
theorem turns_120 (hn : r.b.length ≤ 5) {p : Nat} (hp : p ≤ r.b.length) : (turnsAt r p).length ≤ 120 := ns_120 hn (by omega) (turns_nodup p) fun m hm => turns_ns p hm
theorem sum_le_mul {α : Type} (f : α → Nat) (k : Nat) : ∀ l : List α, (∀ x ∈ l, f x ≤ k) → (l.map f).sum ≤ l.length * k
  | [], _ => by simp
  | x :: l, h => by
    have h1 := h x List.mem_cons_self
    have h2 := sum_le_mul f k l fun y hy => h y (List.mem_cons_of_mem _ hy)
    rw [List.map_cons, List.sum_cons, List.length_cons, Nat.add_mul]; omega
theorem later_few (hn : r.b.length ≤ 5) {p : Nat} (hp : p < r.b.length) : ((turnsAt r p).flatMap (behind r)).length ≤ 3000 := by
  rw [flat_sum]
  have h1 := sum_le_mul (fun ns => (behind r ns).length) 25 (turnsAt r p) fun ns hns => by
    have a1 := behind_len (turns_ns p hns).1
    rw [(turns_ns p hns).2] at a1
    have a2 : (r.b.length - p) * max 1 p ≤ 5 * 5 := Nat.mul_le_mul (by omega) (by omega)
    show (behind r ns).length ≤ 25
    omega
  have h2 := turns_120 (r := r) hn (show p ≤ r.b.length by omega)
  have h3 : (turnsAt r p).length * 25 ≤ 120 * 25 := Nat.mul_le_mul_right _ h2
  omega
/-! the mirrors -/
theorem okE_rows (l : List (List Int)) : cl 2 (.lst (l.map rowD)) = true := cl_lst fun z hz => by
  obtain ⟨p, _, rfl⟩ := List.mem_map.mp hz
  exact cl_tupI p 0
theorem np_rows (l : List (List Int)) : noPtrL (l.map rowD) = true := np_L fun d hd => by
  obtain ⟨p, _, rfl⟩ := List.mem_map.mp hd
  exact np_names p
theorem names_behind_ok (h : r.b.length ≤ 100) (hl : ns.length < r.b.length) (hn : ∀ x ∈ ns, 0 ≤ x) (hw : PyData.strOk r.w = true) : m_names_behind [ruleD r, namesD ns] μ = .ok (.lst ((behind r ns).map rowD)) μ := by
  refine pure_ret (μ' := []) (by simp) rfl ?_ (by simp [np_rows])
  have al := all_let_ok (μ := []) (r := r) (ns := ns) (by omega) hl
  have lim : (letOf r ns).length ≤ 100 := Nat.le_trans (List.length_filter_le _ _) (Nat.le_trans left_len h)
  refine (seq_at (ρ1 := [some (ruleD r), some (namesD ns), some (.lst ((letOf r ns).map .int)), none, none]) (μ1 := []) (by simp [al])).trans ?_
  have nil := gEq_lst_nil (μ := []) true (letOf r ns)
  unfold behind
  by_cases h1 : letOf r ns = []
  · rw [if_neg (by simp [h1])]
    have nil' : gEq true (.lst []) (.lst []) [] = .ok (.bl false) [] := gEq_self (m := 1) true rfl
    refine (seq_at (ρ1 := [some (ruleD r), some (namesD ns), some (.lst ((letOf r ns).map .int)), none, none]) (μ1 := []) (by simp [h1, nil'])).trans ?_
    have ge : gEq true (.str r.w) (.str "swap") [] = .ok (.bl (!decide (r.w = "swap"))) [] := by
      rw [gEq_cl (n := 0) (x := .str r.w) (y := .str "swap") true (by simpa [view, cl] using hw) (by decide +kernel)]
      simp only [view, if_true]
      congr 3
      simp
    by_cases h2 : r.w = "swap"
    · rw [if_neg (by simp [h2])]
      refine (seq_at (ρ1 := [some (ruleD r), some (namesD ns), some (.lst ((letOf r ns).map .int)), none, none]) (μ1 := []) (by rw [h2] at ge; simp [ge, h2])).trans ?_
      have ae := all_exchanges_ok (μ := []) (r := r) (ns := ns) h hl hn
      rw [sRet_at, lc_all (ds := (pairsOf r ns).map pairD) (c := always) (μ1 := []) (fun d => match d with
        | .tup [.int a, .int b] => rowD (exch ns a b)
        | d => d)]
      · rw [retL_f, List.map_map, List.map_map]; rfl
      · simp [ae]
      · rfl
      · intro d hd
        obtain ⟨q, hq, rfl⟩ := List.mem_map.mp hd
        have := pairs_mem hq
        exact ⟨_, by simp [wipeE, pairD]; rfl, by simp [pairD, exchanged_ok this.1.1 this.1.2 (show ns.length ≤ 1000 by omega)]; rfl⟩
      · rw [List.length_map]
        have := prs_len (r := r) (ns := ns) (rng ns.length)
        rw [rng_len] at this
        have l2 : ns.length * r.b.length ≤ 100 * 100 := Nat.mul_le_mul (by omega) h
        show (prs r ns (rng ns.length)).length < _
        omega
    · rw [if_pos h2]
      simp [ge, h2]
  · rw [if_pos h1]
    rw [sSeq_at]
    have lc : eLc false (iSeq (eVar 2)) (gVar 3) tYesM (eBin (gAdd false) (eVar 1) (eTup (aCons (eVar 3) aNil))) [3] [some (ruleD r), some (namesD ns), some (.lst ((letOf r ns).map .int)), none, none] [] = .ok (.lst (((letOf r ns).map fun x => ns ++ [x]).map rowD)) [] := by
      rw [lc_all (ds := (letOf r ns).map .int) (c := always) (μ1 := []) (fun d => match d with
        | .int a => rowD (ns ++ [a])
        | d => d)]
      · rw [retL_f, List.map_map, List.map_map]; rfl
      · simp
      · rfl
      · intro d hd
        obtain ⟨x, hx, rfl⟩ := List.mem_map.mp hd
        have ga : gAdd false (namesD ns) (namesD [x]) [] = .ok (namesD (ns ++ [x])) [] := gAdd_names false (by simp; omega)
        exact ⟨_, by rw [gVar_at], by simp [wipeE, tup_names1, ga]; rfl⟩
      · simp; omega
    simp [nil, h1, lc]
def levelsD (r : Rl) (k : Nat) : List D := (List.range k).map fun p => .lst ((turnsAt r p).map rowD)
theorem levels_succ (k : Nat) : levelsD r (k + 1) = levelsD r k ++ [.lst ((turnsAt r k).map rowD)] := by simp [levelsD, List.range_succ]
theorem levels_len (k : Nat) : (levelsD r k).length = k := by simp [levelsD]
theorem levels_last (k : Nat) : gIxL (levelsD r (k + 1)) (-1) μ = .ok (.lst ((turnsAt r k).map rowD)) μ := by
  refine gIxL_at ?_
  unfold atI ixN
  rw [levels_len, if_neg (by omega), if_pos (by omega)]
  have : (-1 + ((k + 1 : Nat) : Int)).toNat = k := by omega
  rw [this, Option.bind_some, levels_succ, List.getElem?_append_right (by rw [levels_len]; exact Nat.le_refl _), levels_len]
  simp
theorem levels_at {k p : Nat} (h : p < k) : gIxL (levelsD r k) (p : Int) μ = .ok (.lst ((turnsAt r p).map rowD)) μ := by
  refine gIxL_nn (by omega) ?_
  simp [levelsD, h]
theorem np_levels (k : Nat) : noPtrL (levelsD r k) = true := np_L fun d hd => by
  obtain ⟨p, _, rfl⟩ := List.mem_map.mp hd
  exact np_rows _
theorem flat_take {α β : Type} (f : α → List β) (p : List α) (a : α) : (p ++ [a]).flatMap f = p.flatMap f ++ f a := by simp
theorem turns_of_ok (h : r.Ok) (hn : r.b.length ≤ 5) : m_turns_of [ruleD r] μ = .ok (.lst (levelsD r (r.b.length + 1))) μ := by
  have hlo := h.lo
  have hw : PyData.strOk r.w = true := by rcases h.way with q | q | q <;> rw [q] <;> decide +kernel
  have main := for_pre (f := D.int) (g := gVar 2) (c := always) (body := sSeq (sSet 3 (eLst false aNil))
    (sSeq (sFor (iSeq (eBin gIx (eVar 1) (eUn gNeg (eC (.int 1))))) (gVar 4) (sSet 3 (eBin (gAdd false) (eVar 3) (eCall m_names_behind (aCons (eVar 0) (aCons (eVar 4) aNil))))))
    (sSet 1 (eBin (gAdd false) (eVar 1) (eLst false (aCons (eSortSetA (eVar 3)) aNil))))))
    (fun p ρ μ => μ = [] ∧ ∃ x2 x3 x4, ρ = [some (ruleD r), some (.lst (levelsD r (p.length + 1))), x2, x3, x4]) (rng r.b.length)
    (ρ := [some (ruleD r), some (.lst [.lst [.tup []]]), none, none, none]) (μ := []) (fun _ _ _ _ => rfl) ?_ ⟨rfl, none, none, none, rfl⟩
  · obtain ⟨ρ', μ', e, rfl, x2, x3, x4, rfl⟩ := main
    rw [rng_len] at e
    refine pure_ret (μ' := []) (by simp) rfl ?_ (by simp [np_levels])
    simp [kR1_nat (show r.b.length ≤ 1000 by omega), rngD_0, e]
  · rintro p a s ρ μ hp ⟨rfl, x2, x3, x4, rfl⟩
    have hpl := congrArg List.length hp
    rw [rng_len, List.length_append, List.length_cons] at hpl
    have few := later_few (r := r) hn (show p.length < r.b.length by omega)
    have main := for_pre (f := rowD) (g := gVar 4) (c := always) (body := sSet 3 (eBin (gAdd false) (eVar 3) (eCall m_names_behind (aCons (eVar 0) (aCons (eVar 4) aNil)))))
      (fun q ρ μ => μ = [] ∧ ∃ x4, ρ = [some (ruleD r), some (.lst (levelsD r (p.length + 1))), some (.int a), some (.lst ((q.flatMap (behind r)).map rowD)), x4]) (turnsAt r p.length)
      (ρ := [some (ruleD r), some (.lst (levelsD r (p.length + 1))), some (.int a), some (.lst []), x4]) (μ := []) (fun _ _ _ _ => rfl) ?_ ⟨rfl, x4, rfl⟩
    · obtain ⟨ρ', μ', e, rfl, x4', rfl⟩ := main
      have ss := gSortSetA_many (μ := []) (rows := (turnsAt r p.length).flatMap (behind r)) (by have := later_dd (r := r) hn (show p.length < r.b.length by omega); omega) fun m hm e => by
        have := (later_ns hm).2
        rw [e] at this
        cases this
      have ga : gAdd false (.lst (levelsD r (p.length + 1))) (.lst [.lst ((ssort ((turnsAt r p.length).flatMap (behind r))).map rowD)]) [] = .ok (.lst (levelsD r (p.length + 1 + 1))) [] := by
        rw [gAdd_lst false (by rw [levels_len]; simp; omega), retL_f, levels_succ (p.length + 1)]; rfl
      refine ⟨[some (ruleD r), some (.lst (levelsD r (p.length + 1 + 1))), some (.int a), some (.lst (((turnsAt r p.length).flatMap (behind r)).map rowD)), x4'], [], ?_, rfl, some (.int a), some (.lst (((turnsAt r p.length).flatMap (behind r)).map rowD)), x4', by simp⟩
      have lst1 : gIx (.lst (levelsD r (p.length + 1))) (.int (-1)) [] = .ok (.lst ((turnsAt r p.length).map rowD)) [] := by rw [gIx_lst, levels_last]
      rw [Mbind_at, gVar_at, and_ok]
      refine (seq_at (ρ1 := [some (ruleD r), some (.lst (levelsD r (p.length + 1))), some (.int a), some (.lst []), x4]) (μ1 := []) (by simp)).trans ?_
      refine (seq_at (ρ1 := [some (ruleD r), some (.lst (levelsD r (p.length + 1))), some (.int a), some (.lst (((turnsAt r p.length).flatMap (behind r)).map rowD)), x4']) (μ1 := []) ?_).trans ?_
      · rw [sFor_at, iSeq_at]
        simp only [eBin_at, eUn_at, eVar_at, eC_at, List.getElem?_cons_succ, List.getElem?_cons_zero, vr_some, and_ok, Mbind_at, gNeg_int, lst1, gSeq_lst]
        exact e
      · simp only [sSet_at, eBin_at, eLst_at, aCons_at, eSortSetA_at, eVar_at, List.getElem?_cons_succ, List.getElem?_cons_zero, vr_some, and_ok, Mbind_at, ss, aNil_at, Mret_at, kLst_at _ (show ([D.lst ((ssort ((turnsAt r p.length).flatMap (behind r))).map rowD)]).length ≤ 16777216 by simp), retL_f, ga]
        rfl
    · rintro q ns s' ρ μ hq ⟨rfl, x4, rfl⟩
      have hns : ns ∈ turnsAt r p.length := by rw [hq]; simp
      have a1 := turns_ns _ hns
      have nb := names_behind_ok (μ := []) (r := r) (ns := ns) (by omega) (by rw [a1.2]; omega) (fun x hx => (a1.1.ran x hx).1) hw
      have l1 : (q.flatMap (behind r)).length + (behind r ns).length ≤ ((turnsAt r p.length).flatMap (behind r)).length := by
        rw [hq]; simp
      have ga : gAdd false (.lst ((q.flatMap (behind r)).map rowD)) (.lst ((behind r ns).map rowD)) [] = .ok (.lst (((q ++ [ns]).flatMap (behind r)).map rowD)) [] := by
        rw [gAdd_lst false (by simp only [List.length_map]; omega), flat_take, List.map_append]; rfl
      refine ⟨_, [], ?_, rfl, some (rowD ns), rfl⟩
      have nb' : m_names_behind [ruleD r, rowD ns] [] = .ok (.lst ((behind r ns).map rowD)) [] := nb
      simp only [Mbind_at, gVar_at, and_ok, sSet_at, eBin_at, eCall_at, aCons_at, eVar_at, List.set_cons_succ, List.set_cons_zero, List.getElem?_cons_succ, List.getElem?_cons_zero, vr_some, aNil_at, Mret_at, nb', ga]
def stuckB (r : Rl) (ns : List Int) : Bool := decide (letOf r ns = [])
theorem first_stuck_ok (h : r.Ok) {k p : Nat} (hk : p < k) (hp : p < r.b.length) : m_first_stuck [ruleD r, .lst (levelsD r k), .int p] μ = .ok (match (turnsAt r p).find? (stuckB r) with
    | some ns => rowD ns
    | none => .non) μ := by
  have hhi := h.hi
  have main := for_find (g := gVar 3) (c := always) (body := sIf (tOf (eBin (gEq false) (eCall m_all_let (aCons (eVar 0) (aCons (eVar 3) aNil))) (eLst false aNil))) (sRet (eVar 3)) sNil)
    (fun ρ μ => μ = [] ∧ ∃ x, ρ = [some (ruleD r), some (.lst (levelsD r k)), some (.int p), x]) (fun d => match d with
      | .tup b => match intsOf b with
        | some ns => stuckB r ns
        | none => false
      | _ => false) id ((turnsAt r p).map rowD) [some (ruleD r), some (.lst (levelsD r k)), some (.int p), none] [] (fun _ _ _ => rfl) ?_ ⟨rfl, none, rfl⟩
  · have ef : ((turnsAt r p).map rowD).find? (fun d => match d with
      | .tup b => match intsOf b with
        | some ns => stuckB r ns
        | none => false
      | _ => false) = ((turnsAt r p).find? (stuckB r)).map rowD := by
      rw [List.find?_map]
      congr 2
      funext ns
      simp only [Function.comp_apply, rowD, intsOf_map]
    rw [ef] at main
    have ix1 : gIx (.lst (levelsD r k)) (.int p) [] = .ok (.lst ((turnsAt r p).map rowD)) [] := by rw [gIx_lst, levels_at hk]
    cases e : (turnsAt r p).find? (stuckB r) with
    | some ns =>
      rw [e] at main
      obtain ⟨μ', e2⟩ := main
      refine pure_ret (μ' := μ') (by simp [np_levels]) rfl ?_ (np_names ns)
      rw [sSeq_at]
      simp only [sFor_at, iSeq_at, eBin_at, eVar_at, List.map_cons, List.map_nil, List.cons_append, List.nil_append, List.getElem?_cons_succ, List.getElem?_cons_zero, vr_some, and_ok, Mbind_at, ix1, gSeq_lst]
      show (forL always _ _ _ [some (ruleD r), some (.lst (levelsD r k)), some (.int p), none] []).and _ = _
      rw [e2]; rfl
    | none =>
      rw [e] at main
      obtain ⟨ρ', μ', e2, rfl, x, rfl⟩ := main
      refine pure_ret (μ' := []) (by simp [np_levels]) rfl ?_ rfl
      rw [sSeq_at]
      simp only [sFor_at, iSeq_at, eBin_at, eVar_at, List.map_cons, List.map_nil, List.cons_append, List.nil_append, List.getElem?_cons_succ, List.getElem?_cons_zero, vr_some, and_ok, Mbind_at, ix1, gSeq_lst]
      show (forL always _ _ _ [some (ruleD r), some (.lst (levelsD r k)), some (.int p), none] []).and _ = _
      rw [e2]; rfl
  · rintro d ρ μ hd ⟨rfl, x, rfl⟩
    obtain ⟨ns, hns, rfl⟩ := List.mem_map.mp hd
    have a1 := turns_ns _ hns
    have al := all_let_ok (μ := []) (r := r) (ns := ns) (by omega) (by rw [a1.2]; exact hp)
    have al' : m_all_let [ruleD r, rowD ns] [] = .ok (.lst ((letOf r ns).map .int)) [] := al
    have nil := gEq_lst_nil (μ := []) false (letOf r ns)
    have nil' : gEq false (.lst []) (.lst []) [] = .ok (.bl true) [] := gEq_self (m := 1) false rfl
    simp only [rowD, intsOf_map]
    by_cases hs : letOf r ns = []
    · have : stuckB r ns = true := by simp [stuckB, hs]
      rw [this, if_pos rfl]
      have al2 : m_all_let [ruleD r, .tup (ns.map .int)] [] = .ok (.lst ((letOf r ns).map .int)) [] := al
      simp [al2, hs, nil']
    · have : stuckB r ns = false := by simp [stuckB, hs]
      rw [this, if_neg (by simp)]
      have al2 : m_all_let [ruleD r, .tup (ns.map .int)] [] = .ok (.lst ((letOf r ns).map .int)) [] := al
      exact ⟨_, [], by simp [al2, hs, nil]; rfl, rfl, _, rfl⟩
end
end Lw
namespace Lw
open PySem PySem.Spec PyProof.Rows L2 DL
variable [WC]
/-! ### the lengths of the chains: both ways, by looking at all outcomes of up to five people -/
/-- a sort that can be reckoned -/
def ins1 (x : Int) : List Int → List Int
  | [] => [x]
  | y :: l => if x ≤ y then x :: y :: l else y :: ins1 x l
def insS : List Int → List Int
  | [] => []
  | x :: l => ins1 x (insS l)
theorem ins1_perm (x : Int) : ∀ l : List Int, (ins1 x l).Perm (x :: l)
  | [] => .refl _
  | y :: l => by
    unfold ins1
    split
    · exact .refl _
    · exact ((ins1_perm x l).cons y).trans (List.Perm.swap x y l)
theorem insS_perm : ∀ l : List Int, (insS l).Perm l
  | [] => .refl _
  | x :: l => (ins1_perm x _).trans ((insS_perm l).cons x)
theorem ins1_asc {x : Int} : ∀ {l : List Int}, l.Pairwise (· ≤ ·) → (ins1 x l).Pairwise (· ≤ ·)
  | [], _ => by simp [ins1]
  | y :: l, h => by
    have h' := List.pairwise_cons.mp h
    unfold ins1
    split
    · rename_i c
      exact List.pairwise_cons.mpr ⟨fun z hz => by
        rcases List.mem_cons.mp hz with e | hz
        · rw [e]; exact c
        · exact Int.le_trans c (h'.1 z hz), h⟩
    · rename_i c
      exact List.pairwise_cons.mpr ⟨fun z hz => by
        rcases List.mem_cons.mp ((ins1_perm x l).mem_iff.mp hz) with e | hz
        · rw [e]; omega
        · exact h'.1 z hz, ins1_asc h'.2⟩
theorem insS_asc : ∀ l : List Int, (insS l).Pairwise (· ≤ ·)
  | [] => .nil
  | x :: l => ins1_asc (insS_asc l)
theorem sortI_perm (l : List Int) : (sortI l).Perm l := List.mergeSort_perm _ _
theorem sortI_pw (l : List Int) : (sortI l).Pairwise (· ≤ ·) := by
  have h1 : (sortI l).Pairwise (fun a b => decide (a ≤ b) = true) := List.pairwise_mergeSort (fun a b c h1 h2 => by simp only [decide_eq_true_eq] at *; omega) (fun a b => by simp only [Bool.or_eq_true, decide_eq_true_eq]; omega) l
  exact h1.imp fun h => by simpa using h
theorem sortI_ins (l : List Int) : sortI l = insS l := by
  have h1 : (sortI l).Perm (insS l) := (sortI_perm l).trans (insS_perm l).symm
  exact List.Perm.eq_of_pairwise (le := fun a b => a ≤ b) (fun a b _ _ h1 h2 => Int.le_antisymm h1 h2) (sortI_pw l) (insS_asc l) h1
def gSortI : List D → M D := fun ds μ => match ds with
  | [x] => match (asLst μ x).bind intsOf with
    | some ns => .ok (.lst ((insS ns).map .int)) μ
    | none => gSorted ds μ
  | _ => gSorted ds μ
theorem ints_of {xs : List D} {ns : List Int} (h : intsOf xs = some ns) : xs = ns.map .int := by
  induction xs generalizing ns with
  | nil => cases h; rfl
  | cons x xs ih =>
    cases x with
    | int i =>
      simp only [intsOf, Option.map_eq_some_iff] at h
      obtain ⟨l, h, rfl⟩ := h
      rw [ih h]; rfl
    | _ => cases h
theorem gSortI_eq : gSortI = gSorted := by
  funext ds μ
  unfold gSortI
  split
  · rename_i x
    split
    · rename_i ns h
      obtain ⟨xs, h1, h2⟩ := Option.bind_eq_some_iff.mp h
      have e := ints_of h2
      subst e
      unfold gSorted
      simp only [h1, sortB_ints, if_true, sortD_ints, sortI_ins]
    · rfl
  · rfl
def lenG (g : List D → M D) : List D → M D := pureM (defM 1 5 ((sSeq (sPar 2 3 (eLst false aNil) (eLst false aNil))
    (sSeq (sFor (iRange1 (eCall gLen (aCons (eVar 0) aNil))) (gVar 1) (sSeq (sSet 4 (eC (.int 0)))
    (sSeq (sWhile (fun _ _ => 100000) (tOf (eBin (gIn true) (eVar 1) (eVar 3))) (sSeq (sSet 3 (eBin (gAdd false) (eVar 3) (eLst false (aCons (eVar 1) aNil))))
    (sPar 1 4 (eBin gIx (eVar 0) (eVar 1)) (eBin (gAdd false) (eVar 4) (eC (.int 1))))))
    (sSet 2 (eBin (gAdd false) (eVar 2) (eBin (gRep false) (eLst false (aCons (eVar 4) aNil)) (eCall gInt1 (aCons (eBin gGt (eVar 4) (eC (.int 0))) aNil))))))))
    (sRet (eCall gTuple (aCons (eCall g (aCons (eLc false (iSeq (eVar 2)) (gVar 4) tYesM (eCall gInt1 (aCons (eVar 4) aNil)) [4]) aNil)) aNil)))))))
theorem lenG_eq : m_lengths_of = lenG gSorted := rfl
section
variable {μ : Store}
theorem pure_any {F : List D → M D} {ds : List D} {d : D} {μ1 : Store} (e : pureM F ds [] = .ok d μ1) : pureM F ds μ = .ok d μ := by
  unfold pureM at e ⊢
  by_cases h : noPtrL ds = true
  · rw [if_pos h] at e ⊢
    cases h2 : F ds [] with
    | ok d0 μ' =>
      rw [h2] at e
      simp only at e ⊢
      cases h3 : frzD μ' d0 with
      | some d' => rw [h3] at e; cases e; rfl
      | none => rw [h3] at e; cases e
    | ex x μ' =>
      rw [h2] at e
      simp only at e
      split at e <;> cases e
    | bad => rw [h2] at e; cases e
  · rw [if_neg h] at e; cases e
end
end Lw
namespace Lw
open PySem PySem.Spec PyProof.Rows L2 DL
variable [WC]
section
variable {v : D} {n : Nat} {μ : Store}
/-! ### any value: what type tests tell -/
def isTupB : D → Bool
  | .tup _ => true
  | _ => false
def isIntB : D → Bool
  | .int _ => true
  | .bl _ => true
  | _ => false
def isBlB : D → Bool
  | .bl _ => true
  | _ => false
def isStrB : D → Bool
  | .str _ => true
  | _ => false
theorem isi_tuple (h : okE n v = true) : gIsi [v, .raw (.ty "tuple")] μ = .ok (.bl (isTupB v)) μ := by
  cases v with
  | non => exact gIsi_at (t := "NoneType") (b := false) rfl (by decide +kernel)
  | bl b => exact gIsi_at (t := "bool") (b := false) rfl (by decide +kernel)
  | int i => exact gIsi_at (t := "int") (b := false) rfl (by decide +kernel)
  | str s => exact gIsi_at (t := "str") (b := false) rfl (by decide +kernel)
  | tup xs => exact gIsi_at (t := "tuple") (b := true) rfl (by decide +kernel)
  | lst xs => exact gIsi_at (t := "list") (b := false) rfl (by decide +kernel)
  | _ => simp [okE] at h
theorem isi_int (h : okE n v = true) : gIsi [v, .raw (.ty "int")] μ = .ok (.bl (isIntB v)) μ := by
  cases v with
  | non => exact gIsi_at (t := "NoneType") (b := false) rfl (by decide +kernel)
  | bl b => exact gIsi_at (t := "bool") (b := true) rfl (by decide +kernel)
  | int i => exact gIsi_at (t := "int") (b := true) rfl (by decide +kernel)
  | str s => exact gIsi_at (t := "str") (b := false) rfl (by decide +kernel)
  | tup xs => exact gIsi_at (t := "tuple") (b := false) rfl (by decide +kernel)
  | lst xs => exact gIsi_at (t := "list") (b := false) rfl (by decide +kernel)
  | _ => simp [okE] at h
theorem isi_bool (h : okE n v = true) : gIsi [v, .raw (.ty "bool")] μ = .ok (.bl (isBlB v)) μ := by
  cases v with
  | non => exact gIsi_at (t := "NoneType") (b := false) rfl (by decide +kernel)
  | bl b => exact gIsi_at (t := "bool") (b := true) rfl (by decide +kernel)
  | int i => exact gIsi_at (t := "int") (b := false) rfl (by decide +kernel)
  | str s => exact gIsi_at (t := "str") (b := false) rfl (by decide +kernel)
  | tup xs => exact gIsi_at (t := "tuple") (b := false) rfl (by decide +kernel)
  | lst xs => exact gIsi_at (t := "list") (b := false) rfl (by decide +kernel)
  | _ => simp [okE] at h
theorem isi_str (h : okE n v = true) : gIsi [v, .raw (.ty "str")] μ = .ok (.bl (isStrB v)) μ := by
  cases v with
  | non => exact gIsi_at (t := "NoneType") (b := false) rfl (by decide +kernel)
  | bl b => exact gIsi_at (t := "bool") (b := false) rfl (by decide +kernel)
  | int i => exact gIsi_at (t := "int") (b := false) rfl (by decide +kernel)
  | str s => exact gIsi_at (t := "str") (b := true) rfl (by decide +kernel)
  | tup xs => exact gIsi_at (t := "tuple") (b := false) rfl (by decide +kernel)
  | lst xs => exact gIsi_at (t := "list") (b := false) rfl (by decide +kernel)
  | _ => simp [okE] at h
theorem okE_np : ∀ (n : Nat) (v : D), okE n v = true → noPtr v = true
  | n, .non, _ => rfl
  | n, .bl _, _ => rfl
  | n, .int _, _ => rfl
  | n, .str _, _ => rfl
  | n + 1, .tup xs, h => by
    have h' : ∀ x ∈ xs, okE n x = true := by simpa [okE] using h
    simp only [noPtr]
    exact np_L fun d hd => okE_np n d (h' d hd)
  | n + 1, .lst xs, h => by
    have h' : ∀ x ∈ xs, okE n x = true := by simpa [okE] using h
    simp only [noPtr]
    exact np_L fun d hd => okE_np n d (h' d hd)
  | 0, .tup xs, h => by simp [okE] at h
  | 0, .lst xs, h => by simp [okE] at h
  | _, .arg _, h => by simp [okE] at h
  | _, .dct _ _, h => by simp [okE] at h
  | _, .ptr _, h => by simp [okE] at h
  | _, .raw _, h => by simp [okE] at h
def numB : D → Bool
  | .int _ => true
  | _ => false
theorem num_is (v : D) : (isIntB v && !isBlB v) = numB v := by cases v <;> rfl
theorem is_number_ok (h : okE n v = true) : m_is_number [v] μ = .ok (.bl (numB v)) μ := by
  have np := okE_np n v h
  refine pure_ret (μ' := []) (by simp [np]) rfl ?_ rfl
  have a := isi_int (μ := []) h
  have b := isi_bool (μ := []) h
  rw [← num_is]
  cases e : isIntB v with
  | false => rw [e] at a; simp [a]
  | true => rw [e] at a; simp [a, b]
/-- an int between -/
def fromB (a b : Int) : D → Bool
  | .int i => decide (a ≤ i) && decide (i ≤ b)
  | _ => false
theorem is_from_any (h : okE n v = true) (a b : Int) : m_is_from [v, .int a, .int b] μ = .ok (.bl (fromB a b v)) μ := by
  have np := okE_np n v h
  cases e : numB v with
  | false =>
    refine pure_ret (μ' := []) (by simp [np]) rfl ?_ rfl
    have nm := is_number_ok (μ := []) h
    rw [e] at nm
    have : fromB a b v = false := by cases v <;> first | rfl | cases e
    rw [this]
    simp [nm]
  | true =>
    cases v with
    | int i => exact is_from_int
    | _ => cases e
end
end Lw
namespace Lw
open PySem PySem.Spec PyProof.Rows L2 DL
variable [WC]
/-- a value of bounded size -/
def okS : Nat → D → Bool
  | _, .non => true
  | _, .int _ => true
  | _, .bl _ => true
  | _, .str s => PyData.strOk s && decide (s.length ≤ 100)
  | n + 1, .tup xs => decide (xs.length ≤ 60) && xs.all (okS n)
  | n + 1, .lst xs => decide (xs.length ≤ 60) && xs.all (okS n)
  | _, _ => false
theorem okS_E : ∀ (n : Nat) (v : D), okS n v = true → okE n v = true
  | n, .non, _ => by cases n <;> rfl
  | n, .int _, _ => by cases n <;> rfl
  | n, .bl _, _ => by cases n <;> rfl
  | n, .str s, h => by
    have h1 : PyData.strOk s = true := by
      cases n <;> (simp only [okS, Bool.and_eq_true] at h; exact h.1)
    cases n <;> exact h1
  | n + 1, .tup xs, h => by
    simp only [okS, Bool.and_eq_true, decide_eq_true_eq, List.all_eq_true] at h
    simp only [okE, List.all_eq_true]
    exact fun x hx => okS_E n x (h.2 x hx)
  | n + 1, .lst xs, h => by
    simp only [okS, Bool.and_eq_true, decide_eq_true_eq, List.all_eq_true] at h
    simp only [okE, List.all_eq_true]
    exact fun x hx => okS_E n x (h.2 x hx)
  | 0, .tup xs, h => by simp [okS] at h
  | 0, .lst xs, h => by simp [okS] at h
  | n, .arg _, h => by cases n <;> simp [okS] at h
  | n, .dct _ _, h => by cases n <;> simp [okS] at h
  | n, .ptr _, h => by cases n <;> simp [okS] at h
  | n, .raw _, h => by cases n <;> simp [okS] at h
section
variable {v : D} {n : Nat} {μ : Store}
/-! ### rows of ints -/
theorem all_ints {m : Int} : ∀ {xs : List D}, xs.all (inR m) = true → ∃ ns : List Int, xs = ns.map .int ∧ ∀ i ∈ ns, 0 ≤ i ∧ i < m
  | [], _ => ⟨[], rfl, fun _ h => nomatch h⟩
  | x :: xs, h => by
    simp only [List.all_cons, Bool.and_eq_true] at h
    obtain ⟨ns, e, hr⟩ := all_ints h.2
    cases x with
    | int i =>
      have h1 := h.1
      simp only [inR, Bool.and_eq_true, decide_eq_true_eq] at h1
      exact ⟨i :: ns, by rw [e]; rfl, fun j hj => by
        rcases List.mem_cons.mp hj with q | q
        · rw [q]; omega
        · exact hr j q⟩
    | _ => simp [inR] at h
theorem from_inR (m : Int) (x : D) : fromB 0 (m - 1) x = inR m x := by cases x <;> rfl
end
end Lw
namespace Lw
open PySem PySem.Spec PyProof.Rows L2 DL
variable [WC]
section
variable {v : D} {n : Nat} {μ : Store}
theorem tup_of (h : okS n v = true) (ht : isTupB v = true) : ∃ m xs, n = m + 1 ∧ v = .tup xs ∧ xs.length ≤ 60 ∧ ∀ x ∈ xs, okS m x = true := by
  cases v with
  | tup xs =>
    cases n with
    | zero => simp [okS] at h
    | succ m =>
      simp only [okS, Bool.and_eq_true, decide_eq_true_eq, List.all_eq_true] at h
      exact ⟨m, xs, rfl, rfl, h.1, h.2⟩
  | _ => cases ht
theorem eqv_nil : ∀ ps : List PyData, PyData.eqvAll ps [] = ps.isEmpty
  | [] => by simp [PyData.eqvAll]
  | _ :: _ => by simp [PyData.eqvAll]
theorem toPyL_nil : ∀ {xs : List D} {ps : List PyData}, toPyL xs = some ps → ps.isEmpty = xs.isEmpty
  | [], ps, h => by cases h; rfl
  | x :: xs, ps, h => by
    obtain ⟨q, qs, rfl⟩ : ∃ q qs, ps = q :: qs := by
      simp only [toPyL] at h
      split at h
      · cases h; exact ⟨_, _, rfl⟩
      · cases h
    rfl
theorem gEq_nilL {xs : List D} (neg : Bool) (h : ∀ x ∈ xs, okE n x = true) (hn : n ≤ 60) : gEq neg (.lst xs) (.lst []) μ = .ok (.bl (if neg then !xs.isEmpty else xs.isEmpty)) μ := by
  obtain ⟨ps, h1, h2, h3⟩ := clL (n := n) fun x hx => okE_py n x (h x hx)
  have hl := toPyL_nil h1
  have c1 : Cl (n + 1) (.lst xs) (.list ps) := ⟨by simp only [toPy, h1, Option.map_some], by simpa [PyData.canLay0] using h2, by simp only [PyData.depth]; omega⟩
  have c2 : Cl (n + 1) (.lst []) (.list []) := ⟨rfl, by simp [PyData.canLay0, PyData.canLayAll0], by simp [PyData.depth, PyData.depthAll]⟩
  have e : eqB μ (.lst xs) (.lst []) = some xs.isEmpty := by
    unfold eqB pyV
    simp only [view, c1.py, c2.py, cl_shaped c1 (by omega), cl_shaped c2 (by omega), Bool.and_self, if_true, PyData.eqv, eqv_nil, hl]
  unfold gEq
  rw [e]
theorem gEq_nilT {xs : List D} (neg : Bool) (h : ∀ x ∈ xs, okE n x = true) (hn : n ≤ 60) : gEq neg (.tup xs) (.tup []) μ = .ok (.bl (if neg then !xs.isEmpty else xs.isEmpty)) μ := by
  obtain ⟨ps, h1, h2, h3⟩ := clL (n := n) fun x hx => okE_py n x (h x hx)
  have hl := toPyL_nil h1
  have c1 : Cl (n + 1) (.tup xs) (.tuple ps) := ⟨by simp only [toPy, h1, Option.map_some], by simpa [PyData.canLay0] using h2, by simp only [PyData.depth]; omega⟩
  have c2 : Cl (n + 1) (.tup []) (.tuple []) := ⟨rfl, by simp [PyData.canLay0, PyData.canLayAll0], by simp [PyData.depth, PyData.depthAll]⟩
  have e : eqB μ (.tup xs) (.tup []) = some xs.isEmpty := by
    unfold eqB pyV
    simp only [view, c1.py, c2.py, cl_shaped c1 (by omega), cl_shaped c2 (by omega), Bool.and_self, if_true, PyData.eqv, eqv_nil, hl]
  unfold gEq
  rw [e]
/-! ### ascending -/
def ascI (l : List Int) : Bool := (l.zip l.tail).all fun p => decide (p.1 < p.2)
theorem ascI_iff : ∀ l : List Int, ascI l = true ↔ l.Pairwise (· < ·)
  | [] => by simp [ascI]
  | [a] => by simp [ascI]
  | a :: b :: l => by
    have ih := ascI_iff (b :: l)
    have e : ascI (a :: b :: l) = (decide (a < b) && ascI (b :: l)) := rfl
    rw [e, Bool.and_eq_true, ih, decide_eq_true_eq, List.pairwise_cons (a := a)]
    constructor
    · intro ⟨h1, h2⟩
      refine ⟨fun x hx => ?_, h2⟩
      rcases List.mem_cons.mp hx with q | q
      · rw [q]; exact h1
      · have := (List.pairwise_cons.mp h2).1 x q
        omega
    · intro ⟨h1, h2⟩
      exact ⟨h1 b List.mem_cons_self, h2⟩
theorem is_ascending_any {l : List Int} (hl : l.length < 1000) : m_is_ascending [namesD l] μ = .ok (.bl (ascI l)) μ := by
  refine pure_ret (μ' := []) (by simp) rfl ?_ rfl
  rw [sRet_at, eCall_at, aCons_at, lc_bl (μ1 := []) (ds := (l.zip l.tail).map fun p => .tup [.int p.1, .int p.2]) (c := always) ltP (by simp [namesD, cut_from, zip_intT]) rfl ?_ (by simp; omega)]
  · simp [ascI, ltP]
    rfl
  · intro d hd
    obtain ⟨p, _, rfl⟩ := List.mem_map.mp hd
    exact ⟨_, by simp [wipeE]; rfl, by simp [ltP]⟩
/-! ### names -/
def namesB (m : Int) : D → Bool
  | .tup xs => match intsOf xs with
    | some ns => xs.all (inR m) && ascI ns
    | none => false
  | _ => false
theorem inR_ints {m : Int} {xs : List D} (h : intsOf xs = none) : xs.all (inR m) = false := by
  cases e : xs.all (inR m) with
  | false => rfl
  | true =>
    obtain ⟨ns, rfl, _⟩ := all_ints e
    rw [intsOf_map] at h; cases h
theorem are_names_any (h : okS n v = true) (m : Int) : m_are_names [v, .int m] μ = .ok (.bl (namesB m v)) μ := by
  have hE := okS_E n v h
  have np := okE_np n v hE
  refine pure_ret (μ' := []) (by simp [np]) rfl ?_ rfl
  have a := isi_tuple (μ := []) hE
  cases ht : isTupB v with
  | false =>
    rw [ht] at a
    have : namesB m v = false := by cases v <;> first | rfl | cases ht
    rw [this]
    simp [a]
  | true =>
    rw [ht] at a
    obtain ⟨k, xs, rfl, rfl, hl, hx⟩ := tup_of h ht
    have e := lc_bl (it := iSeq (eVar 0)) (g := gVar 2) (f := eCall m_is_from (aCons (eVar 2) (aCons (eC (.int 0)) (aCons (eBin gSub (eVar 1) (eC (.int 1))) aNil)))) (vs := [2]) (ρ := [some (.tup xs), some (.int m), none]) (μ := []) (μ1 := []) (ds := xs) (c := always) (inR m) (by simp) rfl
      (fun d hd => ⟨_, by simp [wipeE]; rfl, by simp [is_from_any (okS_E k d (hx d hd)), from_inR]⟩) (by omega)
    cases hall : xs.all (inR m) with
    | false =>
      have : namesB m (.tup xs) = false := by
        simp only [namesB]
        split
        · rw [hall]; rfl
        · rfl
      rw [this]
      simp [e, hall]
    | true =>
      obtain ⟨ns, rfl, hr⟩ := all_ints hall
      have : namesB m (.tup (ns.map .int)) = ascI ns := by simp only [namesB, intsOf_map, hall, Bool.true_and]
      rw [this]
      have e2 := is_ascending_any (μ := []) (l := ns) (by simp at hl; omega)
      unfold namesD at e2
      have hall' : ns.all (inR m ∘ D.int) = true := by rw [← List.all_map]; exact hall
      simp [e, hall', e2]
/-! ### rules -/
def wayB : D → Bool
  | .str s => decide (s = "again" ∨ s = "anew" ∨ s = "swap")
  | _ => false
def ruleB : D → Bool
  | .tup [.tup bs, b, c] => (decide (2 ≤ bs.length) && decide (bs.length ≤ 6)) && bs.all (namesB bs.length) && (isBlB b && wayB c)
  | _ => false
theorem in_ways {s : Str} (h : PyData.strOk s = true) : gIn false (.str s) (.tup [.str "again", .str "anew", .str "swap"]) μ = .ok (.bl (wayB (.str s))) μ := by
  rw [gIn_seq (n := 0) (x := .str s) (ys := [.str "again", .str "anew", .str "swap"]) false h ?_ (.inl rfl)]
  · simp [wayB]
  · intro z hz
    simp only [List.mem_cons, List.not_mem_nil, or_false] at hz
    rcases hz with h | h | h <;> subst h <;> decide +kernel
theorem in_waysL {s : Str} (h : PyData.strOk s = true) : gIn false (.str s) (.lst [.str "again", .str "anew", .str "swap"]) μ = .ok (.bl (wayB (.str s))) μ := by
  rw [gIn_seq (n := 0) (x := .str s) (ys := [.str "again", .str "anew", .str "swap"]) false h ?_ (.inr rfl)]
  · simp [wayB]
  · intro z hz
    simp only [List.mem_cons, List.not_mem_nil, or_false] at hz
    rcases hz with h | h | h <;> subst h <;> decide +kernel
theorem way_is {c : D} (h : okS n c = true) (hc : isStrB c = true) : ∃ s, c = .str s ∧ PyData.strOk s = true := by
  cases c with
  | str s =>
    refine ⟨s, rfl, ?_⟩
    cases n <;> (simp only [okS, Bool.and_eq_true] at h; exact h.1)
  | _ => cases hc
theorem three_of {xs : List D} (h : xs.length = 3) : ∃ a b c, xs = [a, b, c] := by
  match xs, h with
  | [a, b, c], _ => exact ⟨a, b, c, rfl⟩
theorem is_rule_any (h : okS n v = true) : m_is_rule [v] μ = .ok (.bl (ruleB v)) μ := by
  have hE := okS_E n v h
  have np := okE_np n v hE
  refine pure_ret (μ' := []) (by simp [np]) rfl ?_ rfl
  have a0 := isi_tuple (μ := []) hE
  cases ht : isTupB v with
  | false =>
    rw [ht] at a0
    have : ruleB v = false := by cases v <;> first | rfl | cases ht
    rw [this]
    simp [a0]
  | true =>
    rw [ht] at a0
    obtain ⟨k, xs, rfl, rfl, hl, hx⟩ := tup_of h ht
    by_cases h3 : xs.length = 3
    · obtain ⟨a, b, c, rfl⟩ := three_of h3
      have ha := hx a (by simp)
      have hb := hx b (by simp)
      have hc := hx c (by simp)
      have a1 := isi_tuple (μ := []) (okS_E k a ha)
      have b1 := isi_bool (μ := []) (okS_E k b hb)
      have c1 := isi_str (μ := []) (okS_E k c hc)
      cases hat : isTupB a with
      | false =>
        rw [hat] at a1
        have : ruleB (.tup [a, b, c]) = false := by cases a <;> first | rfl | cases hat
        rw [this]
        simp [a1]
      | true =>
        rw [hat] at a1
        obtain ⟨k', bs, rfl, rfl, hbl, hbx⟩ := tup_of ha hat
        have e := lc_bl (it := iSeq (eBin gIx (eVar 0) (eC (.int 0)))) (g := gVar 1) (f := eCall m_are_names (aCons (eVar 1) (aCons (eCall gLen (aCons (eBin gIx (eVar 0) (eC (.int 0))) aNil)) aNil))) (vs := [1]) (ρ := [some (.tup [.tup bs, b, c]), none]) (μ := []) (μ1 := []) (ds := bs) (c := always) (namesB bs.length) (by simp) rfl
          (fun d hd => ⟨_, by simp [wipeE]; rfl, by simp [are_names_any (hbx d hd)]⟩) (by omega)
        by_cases g1 : 2 ≤ bs.length
        · by_cases g2 : bs.length ≤ 6
          · have g1' : (2 : Int) ≤ bs.length := by omega
            have g2' : (bs.length : Int) ≤ 6 := by omega
            cases hall : bs.all (namesB bs.length) with
            | false => simp [a1, e, hall, g1', g2', ruleB]
            | true =>
              cases hb2 : isBlB b with
              | false =>
                rw [hb2] at b1
                simp [a1, e, hall, g1', g2', g1, g2, ruleB, b1, hb2]
              | true =>
                rw [hb2] at b1
                cases hc2 : isStrB c with
                | false =>
                  rw [hc2] at c1
                  have : wayB c = false := by cases c <;> first | rfl | cases hc2
                  simp [a1, e, hall, g1', g2', g1, g2, ruleB, b1, hb2, c1, this]
                | true =>
                  obtain ⟨s, rfl, hs⟩ := way_is hc hc2
                  simp [a1, e, hall, g1', g2', g1, g2, ruleB, b1, hb2, in_ways hs]
          · have g1' : (2 : Int) ≤ bs.length := by omega
            have g2' : ¬ (bs.length : Int) ≤ 6 := by omega
            simp [a1, g1', g2', g2, ruleB]
        · have g1' : ¬ (2 : Int) ≤ bs.length := by omega
          simp [a1, g1', g1, ruleB]
    · have : ruleB (.tup xs) = false := by
        cases xs with
        | nil => rfl
        | cons a xs => cases xs with
          | nil => cases a <;> rfl
          | cons b xs => cases xs with
            | nil => cases a <;> rfl
            | cons c xs => cases xs with
              | nil => exact absurd rfl h3
              | cons d xs => cases a <;> rfl
      rw [this]
      have h3' : ¬ (xs.length : Int) = 3 := by omega
      simp [h3']
/-! ### the law's own -/
theorem law_int_any (h : okS n v = true) (m : Int) : m__law_int [v, .int 0, .int (m - 1)] μ = .ok (.bl (inR m v)) μ := by
  have hE := okS_E n v h
  have np := okE_np n v hE
  refine pure_ret (μ' := []) (by simp [np]) rfl ?_ rfl
  have a := isi_int (μ := []) hE
  have b := isi_bool (μ := []) hE
  cases e : isIntB v with
  | false =>
    rw [e] at a
    have : inR m v = false := by cases v <;> first | rfl | cases e
    rw [this]
    simp [a]
  | true =>
    rw [e] at a
    cases v with
    | int i =>
      have b' : gIsi [.int i, .raw (.ty "bool")] [] = .ok (.bl false) [] := b
      by_cases q : 0 ≤ i
      · simp [a, b', inR, q]
      · simp [a, b', inR, q]
    | bl i =>
      have b' : gIsi [.bl i, .raw (.ty "bool")] [] = .ok (.bl true) [] := b
      simp [a, b', inR]
    | _ => cases e
/-- a comprehension of the odd ones -/
theorem lc_odd {it : IM} {g : GM} {t : DL.Env → M Bool} {f : DL.Env → M D} {vs : List Nat} {ρ : DL.Env} {μ μ1 : Store} {c : Store → Bool} {ds : List D} (p : D → Bool) (hi : it ρ μ = .ok (ds, c) μ1) (hc : c μ1 = true)
    (h : ∀ d ∈ ds, ∃ ρ1, g d (wipeE ρ vs) μ1 = .ok ρ1 μ1 ∧ t ρ1 μ1 = .ok (!p d) μ1 ∧ f ρ1 μ1 = .ok d μ1) (hl : ds.length < 16777216) : eLc false it g t f vs ρ μ = .ok (.lst (ds.filter fun d => !p d)) μ1 := by
  rw [lc_at (fun d => !p d) id hi hc (fun d hd => by obtain ⟨ρ1, q1, q2, q3⟩ := h d hd; exact ⟨ρ1, q1, q2, fun _ => q3⟩) hl, List.map_id]; rfl
theorem odd_none {ds : List D} {p : D → Bool} : (ds.filter fun d => !p d).isEmpty = ds.all p := by
  induction ds with
  | nil => rfl
  | cons d ds ih =>
    cases h : p d with
    | false => simp [h]
    | true => simp only [List.filter_cons, h, Bool.not_true, List.all_cons, Bool.true_and]; exact ih
theorem sortZ_asc (ns : List Int) : (ns = sortZ ns) ↔ ns.Pairwise (· < ·) := by
  constructor
  · intro h
    rw [h]
    have h1 : (sortZ ns).Pairwise (fun a b => decide (a ≤ b) = true) := List.pairwise_mergeSort (fun a b c h1 h2 => by simp only [decide_eq_true_eq] at *; omega) (fun a b => by simp only [Bool.or_eq_true, decide_eq_true_eq]; omega) _
    have h2 : (sortZ ns).Nodup := (List.mergeSort_perm (dd ns) _).nodup_iff.mpr (dd_nodup ns)
    exact (h1.and h2).imp fun {a b} q => by
      have := q.1
      have := q.2
      simp only [decide_eq_true_eq] at *
      omega
  · intro h
    unfold sortZ
    rw [dd_self (asc_nodup h), List.mergeSort_of_pairwise]
    exact h.imp fun q => by simp only [decide_eq_true_eq]; omega
end
end Lw
namespace Lw
open PySem PySem.Spec PyProof.Rows L2 DL
variable [WC]
section
variable {v : D} {n : Nat} {μ : Store}
theorem gSortZ_ints (μ : Store) {x : D} {ns : List Int} (h : asSeq μ x = some (ns.map .int)) (hl : ns.length < 64) : gSortSetZ x μ = .ok (.lst ((sortZ ns).map .int)) μ := by
  unfold gSortSetZ
  simp only [h, Option.bind_some, intsOf_map]
  rw [if_pos (by rw [Nat.blt_eq]; exact hl)]
abbrev bRule : SM := sSeq (sIf (tOrM (tNotM (tOf (eCall gIsi (aCons (eVar 2) (aCons (eC (.raw (.ty "tuple"))) aNil))))) (tOf (eBin (gEq true) (eLc false (iSeq (eVar 2)) (gVar 3) (tNotM (tTru (eCall m__law_int (aCons (eVar 3) (aCons (eC (.int 0)) (aCons (eBin gSub (eVar 1) (eC (.int 1))) aNil)))))) (eVar 3) [3]) (eLst false aNil)))) (sRet (eC (.bl false))) sNil)
    (sIf (tOf (eBin (gEq true) (eCall (gList false) (aCons (eVar 2) aNil)) (eSortSetZ (eVar 2)))) (sRet (eC (.bl false))) sNil)
theorem rule_step {bs b c : D} {m : Int} (h : okS n v = true) (hn : n ≤ 20) {x2 x3 : Option D} : (namesB m v = false ∧ bRule [some b, some (.int m), some v, x3] [] = .ok (.ret (.bl false)) []) ∨ (namesB m v = true ∧ bRule [some b, some (.int m), some v, x3] [] = .ok (.nx [some b, some (.int m), some v, x3]) []) := by
  have hE := okS_E n v h
  have a0 := isi_tuple (μ := []) hE
  cases ht : isTupB v with
  | false =>
    rw [ht] at a0
    have : namesB m v = false := by cases v <;> first | rfl | cases ht
    exact .inl ⟨this, by simp [a0]⟩
  | true =>
    rw [ht] at a0
    obtain ⟨k, xs, rfl, rfl, hl, hx⟩ := tup_of h ht
    have e := lc_odd (it := iSeq (eVar 2)) (g := gVar 3) (t := tNotM (tTru (eCall m__law_int (aCons (eVar 3) (aCons (eC (.int 0)) (aCons (eBin gSub (eVar 1) (eC (.int 1))) aNil)))))) (f := eVar 3) (vs := [3]) (ρ := [some b, some (.int m), some (.tup xs), x3]) (μ := []) (μ1 := []) (ds := xs) (c := always) (inR m) (by simp) rfl
      (fun d hd => ⟨_, by simp [wipeE]; rfl, by simp [law_int_any (hx d hd)], by simp⟩) (by omega)
    have q := gEq_nilL (μ := []) (n := k) (xs := xs.filter fun d => !inR m d) true (fun x hx' => okS_E k x (hx x (List.mem_filter.mp hx').1)) (by omega)
    rw [odd_none] at q
    cases hall : xs.all (inR m) with
    | false =>
      rw [hall] at q
      refine .inl ⟨?_, by simp [e, q]⟩
      simp only [namesB]
      split
      · rw [hall]; rfl
      · rfl
    | true =>
      rw [hall] at q
      obtain ⟨ns, rfl, hr⟩ := all_ints hall
      have hz := gSortZ_ints [] (x := .tup (ns.map .int)) (ns := ns) rfl (by simp at hl; omega)
      have nb : namesB m (.tup (ns.map .int)) = ascI ns := by simp only [namesB, intsOf_map, hall, Bool.true_and]
      rw [nb]
      have eqz : decide (ns = sortZ ns) = ascI ns := by
        cases ha : ascI ns with
        | true => exact decide_eq_true ((sortZ_asc ns).mpr ((ascI_iff ns).mp ha))
        | false => exact decide_eq_false fun hh => by rw [(ascI_iff ns).mpr ((sortZ_asc ns).mp hh)] at ha; cases ha
      have es : ∀ ρ : DL.Env, eSortSetZ (eVar 2) ρ [] = (eVar 2 ρ []).and gSortSetZ := fun ρ => rfl
      cases ha : ascI ns with
      | false => exact .inl ⟨rfl, by rw [ha] at eqz; simp [e, q, es, hz, eqz]⟩
      | true => exact .inr ⟨rfl, by rw [ha] at eqz; simp [e, q, es, hz, eqz]⟩
theorem law_is_rule_any (h : okS n v = true) (hn : n ≤ 20) : m__law_is_rule [v] μ = .ok (.bl (ruleB v)) μ := by
  have hE := okS_E n v h
  have np := okE_np n v hE
  refine pure_ret (μ' := []) (by simp [np]) rfl ?_ rfl
  have a0 := isi_tuple (μ := []) hE
  cases ht : isTupB v with
  | false =>
    rw [ht] at a0
    have : ruleB v = false := by cases v <;> first | rfl | cases ht
    rw [this]
    simp [a0]
  | true =>
    rw [ht] at a0
    obtain ⟨k, xs, rfl, rfl, hl, hx⟩ := tup_of h ht
    by_cases h3 : xs.length = 3
    · obtain ⟨a, b, c, rfl⟩ := three_of h3
      have ha := hx a (by simp)
      have hb := hx b (by simp)
      have hc := hx c (by simp)
      have a1 := isi_tuple (μ := []) (okS_E k a ha)
      have b1 := isi_bool (μ := []) (okS_E k b hb)
      have c1 := isi_str (μ := []) (okS_E k c hc)
      cases hat : isTupB a with
      | false =>
        rw [hat] at a1
        have : ruleB (.tup [a, b, c]) = false := by cases a <;> first | rfl | cases hat
        rw [this]
        simp [a1]
      | true =>
        rw [hat] at a1
        obtain ⟨k', bs, rfl, rfl, hbl, hbx⟩ := tup_of ha hat
        have main := for_any (f := id) (g := gVar 2) (body := bRule) (c := always)
          (fun ρ μ => μ = [] ∧ ∃ x, ρ = [some (.tup [.tup bs, b, c]), some (.int bs.length), x, none]) (fun d => !namesB bs.length d) (.bl false) bs (ρ := [some (.tup [.tup bs, b, c]), some (.int bs.length), none, none]) (μ := []) (fun _ _ _ => rfl) ?_ ⟨rfl, none, rfl⟩
        · rw [List.map_id] at main
          have any_all : bs.any (fun d => !namesB bs.length d) = !bs.all (namesB bs.length) := by rw [List.not_all_eq_any_not]
          rw [any_all] at main
          by_cases g1 : 2 ≤ bs.length
          · by_cases g2 : bs.length ≤ 6
            · have g1' : (2 : Int) ≤ bs.length := by omega
              have g2' : (bs.length : Int) ≤ 6 := by omega
              cases hb2 : isBlB b with
              | false =>
                rw [hb2] at b1
                simp [a1, g1', g2', g1, g2, ruleB, b1, hb2]
              | true =>
                rw [hb2] at b1
                cases hc2 : isStrB c with
                | false =>
                  rw [hc2] at c1
                  have : wayB c = false := by cases c <;> first | rfl | cases hc2
                  simp [a1, g1', g2', g1, g2, ruleB, b1, hb2, c1, this]
                | true =>
                  obtain ⟨s, rfl, hs⟩ := way_is hc hc2
                  rcases main with ⟨h1, ρ', μ', e, rfl, _⟩ | ⟨h1, ρ', μ', e, rfl, x, rfl⟩
                  · have h1 : bs.all (namesB bs.length) = false := by simpa using h1
                    simp [a1, g1', g2', g1, g2, ruleB, b1, hb2, e, h1]
                  · have h1 : bs.all (namesB bs.length) = true := by simpa using h1
                    simp [a1, g1', g2', g1, g2, ruleB, b1, hb2, e, h1, in_waysL hs]
            · have g1' : (2 : Int) ≤ bs.length := by omega
              have g2' : ¬ (bs.length : Int) ≤ 6 := by omega
              simp [a1, g1', g2', g2, ruleB]
          · have g1' : ¬ (2 : Int) ≤ bs.length := by omega
            simp [a1, g1', g1, ruleB]
        · rintro d ρ μ hd ⟨rfl, x, rfl⟩
          have st := rule_step (bs := .non) (c := .non) (b := .tup [.tup bs, b, c]) (m := bs.length) (x2 := none) (x3 := none) (hbx d hd) (by omega)
          rcases st with ⟨q1, q2⟩ | ⟨q1, q2⟩
          · exact .inl ⟨by rw [q1]; rfl, q2⟩
          · exact .inr ⟨by rw [q1]; rfl, _, _, q2, rfl, some d, rfl⟩
    · have : ruleB (.tup xs) = false := by
        cases xs with
        | nil => rfl
        | cons a xs => cases xs with
          | nil => cases a <;> rfl
          | cons b xs => cases xs with
            | nil => cases a <;> rfl
            | cons c xs => cases xs with
              | nil => exact absurd rfl h3
              | cons d xs => cases a <;> rfl
      rw [this]
      have h3' : ¬ (xs.length : Int) = 3 := by omega
      simp [h3']
end
end Lw
namespace Lw
open PySem PySem.Spec PyProof.Rows L2 DL
variable [WC]
section
variable {v : D} {n : Nat} {μ : Store}
/-! ### kinds -/
def wordsS : List Str := ["before", "mutual", "next", "own", "partner"]
def wd (i : Int) : Str := wordsS.getD i.toNat ""
def wordB : D → Bool
  | .str s => decide (s ∈ wordsS)
  | _ => false
theorem wd_mem {s : Str} (h : s ∈ wordsS) : ∃ i : Int, (0 ≤ i ∧ i < 5) ∧ s = wd i := by
  simp only [wordsS, List.mem_cons, List.not_mem_nil, or_false] at h
  rcases h with h | h | h | h | h
  · exact ⟨0, by omega, h⟩
  · exact ⟨1, by omega, h⟩
  · exact ⟨2, by omega, h⟩
  · exact ⟨3, by omega, h⟩
  · exact ⟨4, by omega, h⟩
theorem five {i : Int} (h : 0 ≤ i ∧ i < 5) : i = 0 ∨ i = 1 ∨ i = 2 ∨ i = 3 ∨ i = 4 := by omega
theorem wd_in {i : Int} (h : 0 ≤ i ∧ i < 5) : wd i ∈ wordsS := by
  rcases five h with e | e | e | e | e <;> subst e <;> decide +kernel
theorem wd_ok {i : Int} (h : 0 ≤ i ∧ i < 5) : PyData.strOk (wd i) = true := by
  rcases five h with e | e | e | e | e <;> subst e <;> decide +kernel
theorem wd_inj {i j : Int} (h : 0 ≤ i ∧ i < 5) (h2 : 0 ≤ j ∧ j < 5) : wd i = wd j ↔ i = j := by
  constructor
  · intro e
    rcases five h with e1 | e1 | e1 | e1 | e1 <;> rcases five h2 with e2 | e2 | e2 | e2 | e2 <;> subst e1 e2 <;> first | rfl | (exact absurd e (by decide +kernel))
  · exact fun e => by rw [e]
theorem lt_wd {i j : Int} (h : 0 ≤ i ∧ i < 5) (h2 : 0 ≤ j ∧ j < 5) : gLt (.str (wd i)) (.str (wd j)) μ = .ok (.bl (decide (i < j))) μ := by
  have e : ltB μ (.str (wd i)) (.str (wd j)) = some (decide (i < j)) := by
    show ltB [] (.str (wd i)) (.str (wd j)) = some (decide (i < j))
    rcases five h with e1 | e1 | e1 | e1 | e1 <;> rcases five h2 with e2 | e2 | e2 | e2 | e2 <;> subst e1 e2 <;> decide +kernel
  unfold gLt
  rw [e]
theorem all_words : ∀ {xs : List D}, xs.all wordB = true → ∃ is : List Int, xs = is.map (fun i => D.str (wd i)) ∧ ∀ i ∈ is, 0 ≤ i ∧ i < 5
  | [], _ => ⟨[], rfl, fun _ h => nomatch h⟩
  | x :: xs, h => by
    simp only [List.all_cons, Bool.and_eq_true] at h
    obtain ⟨is, e, hr⟩ := all_words h.2
    cases x with
    | str s =>
      obtain ⟨i, hi, rfl⟩ := wd_mem (of_decide_eq_true h.1)
      exact ⟨i :: is, by rw [e]; rfl, fun j hj => by
        rcases List.mem_cons.mp hj with q | q
        · rw [q]; exact hi
        · exact hr j q⟩
    | _ => cases h.1
def kwD (is : List Int) : D := .tup (is.map fun i => D.str (wd i))
@[simp] theorem np_kw (is : List Int) : noPtr (kwD is) = true := np_L fun d hd => by
  obtain ⟨i, _, rfl⟩ := List.mem_map.mp hd
  rfl
def idx (s : Str) : Int := (wordsS.idxOf s : Nat)
theorem idx_wd {i : Int} (h : 0 ≤ i ∧ i < 5) : idx (wd i) = i := by
  rcases five h with e | e | e | e | e <;> subst e <;> decide +kernel
def ltW : D → Bool
  | .tup [.str a, .str b] => decide (idx a < idx b)
  | _ => false
theorem zip_kw (l m : List Int) : zipD (l.map fun i => D.str (wd i)) (m.map fun i => D.str (wd i)) = (l.zip m).map fun p => .tup [.str (wd p.1), .str (wd p.2)] := by
  induction l generalizing m with
  | nil => rfl
  | cons a l ih =>
    cases m with
    | nil => rfl
    | cons b m =>
      have := ih m
      unfold zipD at this ⊢
      simp only [List.map_cons, List.zipWith_cons_cons, List.zip_cons_cons, this]
theorem zip_mem5 {l : List Int} (h : ∀ i ∈ l, 0 ≤ i ∧ i < 5) {p : Int × Int} (hp : p ∈ l.zip l.tail) : (0 ≤ p.1 ∧ p.1 < 5) ∧ (0 ≤ p.2 ∧ p.2 < 5) := ⟨h _ (List.of_mem_zip hp).1, h _ (List.mem_of_mem_tail (List.of_mem_zip hp).2)⟩
theorem all_congr' {α : Type} {p q : α → Bool} : ∀ {l : List α}, (∀ a ∈ l, p a = q a) → l.all p = l.all q
  | [], _ => rfl
  | a :: l, h => by rw [List.all_cons, List.all_cons, h a List.mem_cons_self, all_congr' fun b hb => h b (List.mem_cons_of_mem _ hb)]
theorem is_ascending_kw {l : List Int} (h : ∀ i ∈ l, 0 ≤ i ∧ i < 5) (hl : l.length < 1000) : m_is_ascending [kwD l] μ = .ok (.bl (ascI l)) μ := by
  refine pure_ret (μ' := []) (by simp) rfl ?_ rfl
  rw [sRet_at, eCall_at, aCons_at, lc_bl (μ1 := []) (ds := (l.zip l.tail).map fun p => .tup [.str (wd p.1), .str (wd p.2)]) (c := always) ltW ?_ rfl ?_ (by simp; omega)]
  · have e : ((l.zip l.tail).map fun p => D.tup [.str (wd p.1), .str (wd p.2)]).map ltW = (l.zip l.tail).map fun p => decide (p.1 < p.2) := by
      rw [List.map_map]
      refine List.map_congr_left fun p hp => ?_
      obtain ⟨h1, h2⟩ := zip_mem5 h hp
      simp only [Function.comp_apply, ltW, idx_wd h1, idx_wd h2]
    rw [e]
    have e2 : ((l.zip l.tail).map fun p => decide (p.1 < p.2)).all id = ascI l := by rw [List.all_map]; rfl
    simp [e2]
  · have cf : cutD (l.map fun i => D.str (wd i)) (some 1) none = l.tail.map fun i => D.str (wd i) := by rw [cut_from (by decide)]; simp
    simp [kwD, cf]
    rw [← List.map_tail, zip_kw]
  · intro d hd
    obtain ⟨p, hp, rfl⟩ := List.mem_map.mp hd
    obtain ⟨h1, h2⟩ := zip_mem5 h hp
    exact ⟨_, by simp [wipeE]; rfl, by simp [ltW, lt_wd h1 h2, idx_wd h1, idx_wd h2]⟩
def kindB : D → Bool
  | .tup xs => !xs.isEmpty && (xs.all isStrB && (xs.all wordB && (match xs.mapM (fun d => match d with
    | .str s => some (idx s)
    | _ => none) with
    | some is => ascI is
    | none => false)))
  | _ => false
theorem mapM_kw : ∀ {is : List Int}, (∀ i ∈ is, 0 ≤ i ∧ i < 5) → (is.map fun i => D.str (wd i)).mapM (fun d => match d with
    | .str s => some (idx s)
    | _ => none) = some is
  | [], _ => rfl
  | i :: is, h => by
    simp only [List.map_cons, List.mapM_cons, mapM_kw fun j hj => h j (List.mem_cons_of_mem _ hj), idx_wd (h i List.mem_cons_self)]
    rfl
theorem str_of_all {xs : List D} (h : xs.all wordB = true) : xs.all isStrB = true := by
  obtain ⟨is, rfl, _⟩ := all_words h
  simp [isStrB]
theorem in_words {s : Str} (h : PyData.strOk s = true) : gIn false (.str s) (.tup [.str "before", .str "mutual", .str "next", .str "own", .str "partner"]) μ = .ok (.bl (wordB (.str s))) μ := by
  rw [gIn_seq (n := 0) (x := .str s) (ys := [.str "before", .str "mutual", .str "next", .str "own", .str "partner"]) false h ?_ (.inl rfl)]
  · simp [wordB, wordsS]
  · intro z hz
    simp only [List.mem_cons, List.not_mem_nil, or_false] at hz
    rcases hz with h | h | h | h | h <;> subst h <;> decide +kernel
theorem is_kind_any (h : okS n v = true) (hn : n ≤ 20) : m_is_kind [v] μ = .ok (.bl (kindB v)) μ := by
  have hE := okS_E n v h
  have np := okE_np n v hE
  refine pure_ret (μ' := []) (by simp [np]) rfl ?_ rfl
  have a0 := isi_tuple (μ := []) hE
  cases ht : isTupB v with
  | false =>
    rw [ht] at a0
    have : kindB v = false := by cases v <;> first | rfl | cases ht
    rw [this]
    simp [a0]
  | true =>
    rw [ht] at a0
    obtain ⟨k, xs, rfl, rfl, hl, hx⟩ := tup_of h ht
    have qn := gEq_nilT (μ := []) (n := k) (xs := xs) false (fun x hx' => okS_E k x (hx x hx')) (by omega)
    have e1 := lc_bl (it := iSeq (eVar 0)) (g := gVar 1) (f := eCall gIsi (aCons (eVar 1) (aCons (eC (.raw (.ty "str"))) aNil))) (vs := [1]) (ρ := [some (.tup xs), none]) (μ := []) (μ1 := []) (ds := xs) (c := always) isStrB (by simp) rfl
      (fun d hd => ⟨_, by simp [wipeE]; rfl, by simp [isi_str (okS_E k d (hx d hd))]⟩) (by omega)
    cases hem : xs.isEmpty with
    | true => simp [qn, hem, kindB]
    | false =>
      cases hst : xs.all isStrB with
      | false => simp [qn, hem, kindB, e1, hst]
      | true =>
        have e2 := lc_bl (it := iSeq (eVar 0)) (g := gVar 1) (f := eBin (gIn false) (eVar 1) (eC (.tup [.str "before", .str "mutual", .str "next", .str "own", .str "partner"]))) (vs := [1]) (ρ := [some (.tup xs), none]) (μ := []) (μ1 := []) (ds := xs) (c := always) wordB (by simp) rfl
          (fun d hd => ⟨_, by simp [wipeE]; rfl, by
            obtain ⟨s, rfl, hs⟩ := way_is (hx d hd) (List.all_eq_true.mp hst d hd)
            simp [in_words hs]⟩) (by omega)
        cases hw : xs.all wordB with
        | false => simp [qn, hem, kindB, e1, hst, e2, hw]
        | true =>
          obtain ⟨is, hxs, hi⟩ := all_words hw
          have e3 := is_ascending_kw (μ := []) hi (by rw [hxs] at hl; simp at hl; omega)
          unfold kwD at e3
          have mm := mapM_kw hi
          rw [← hxs] at e3 mm
          have kb : kindB (.tup xs) = ascI is := by
            simp only [kindB, hem, hst, hw, mm, Bool.not_false, Bool.true_and]
          rw [kb]
          simp [qn, hem, e1, hst, e2, hw, e3]
theorem gIn_word {s : Str} {xs : List D} (hs : PyData.strOk s = true) (hx : ∀ z ∈ xs, cl 0 z = true) : gIn false (.str s) (.tup xs) μ = .ok (.bl (decide (D.str s ∈ xs))) μ := by
  rw [gIn_seq (n := 0) (x := .str s) false hs hx (.inl rfl)]; rfl
theorem filter_kw {xs : List D} : ([.str "before", .str "mutual", .str "next", .str "own", .str "partner"] : List D).filter (fun d => decide (d ∈ xs)) = ((rng 5).filter fun i => decide (D.str (wd i) ∈ xs)).map fun i => D.str (wd i) := by
  have : ([.str "before", .str "mutual", .str "next", .str "own", .str "partner"] : List D) = (rng 5).map fun i => D.str (wd i) := by decide +kernel
  rw [this, List.filter_map]; rfl
theorem law_is_kind_any (h : okS n v = true) (hn : n ≤ 20) : m__law_is_kind [v] μ = .ok (.bl (kindB v)) μ := by
  have hE := okS_E n v h
  have np := okE_np n v hE
  refine pure_ret (μ' := []) (by simp [np]) rfl ?_ rfl
  have a0 := isi_tuple (μ := []) hE
  cases ht : isTupB v with
  | false =>
    rw [ht] at a0
    have : kindB v = false := by cases v <;> first | rfl | cases ht
    rw [this]
    simp [a0]
  | true =>
    rw [ht] at a0
    obtain ⟨k, xs, rfl, rfl, hl, hx⟩ := tup_of h ht
    have qn := gEq_nilT (μ := []) (n := k) (xs := xs) true (fun x hx' => okS_E k x (hx x hx')) (by omega)
    have e1 := lc_odd (it := iSeq (eVar 0)) (g := gVar 2) (t := tNotM (tOf (eCall gIsi (aCons (eVar 2) (aCons (eC (.raw (.ty "str"))) aNil))))) (f := eVar 2) (vs := [2]) (ρ := [some (.tup xs), none, none]) (μ := []) (μ1 := []) (ds := xs) (c := always) isStrB (by simp) rfl
      (fun d hd => ⟨_, by simp [wipeE]; rfl, by simp [isi_str (okS_E k d (hx d hd))], by simp⟩) (by omega)
    have q := gEq_nilL (μ := []) (n := k) (xs := xs.filter fun d => !isStrB d) true (fun x hx' => okS_E k x (hx x (List.mem_filter.mp hx').1)) (by omega)
    rw [odd_none] at q
    cases hst : xs.all isStrB with
    | false =>
      rw [hst] at q
      have : kindB (.tup xs) = false := by simp [kindB, hst]
      rw [this]
      simp [e1, q]
    | true =>
      rw [hst] at q
      have hc : ∀ z ∈ xs, cl 0 z = true := fun z hz => by
        obtain ⟨s, rfl, hs⟩ := way_is (hx z hz) (List.all_eq_true.mp hst z hz)
        exact hs
      have e2 := lc_at (mu := false) (it := iSeq (eLst false (aCons (eC (.str "before")) (aCons (eC (.str "mutual")) (aCons (eC (.str "next")) (aCons (eC (.str "own")) (aCons (eC (.str "partner")) aNil))))))) (g := gVar 2) (t := tOf (eBin (gIn false) (eVar 2) (eVar 0))) (f := eVar 2) (vs := [2]) (ρ := [some (.tup xs), none, none]) (μ := []) (μ1 := []) (ds := [.str "before", .str "mutual", .str "next", .str "own", .str "partner"]) (c := always) (fun d => decide (d ∈ xs)) id (by simp) rfl
        (fun d hd => by
          obtain ⟨s, rfl, hs⟩ : ∃ s, d = .str s ∧ PyData.strOk s = true := by
            simp only [List.mem_cons, List.not_mem_nil, or_false] at hd
            rcases hd with h | h | h | h | h <;> subst h <;> exact ⟨_, rfl, by decide +kernel⟩
          exact ⟨_, by simp [wipeE]; rfl, by simp [gIn_word hs hc], fun _ => by simp⟩) (by simp)
      rw [List.map_id, filter_kw, retL_f] at e2
      cases hem : xs.isEmpty with
      | true =>
        rw [hem] at qn
        have : kindB (.tup xs) = false := by simp [kindB, hem]
        rw [this]
        simp [e1, q, e2, qn]
      | false =>
        rw [hem] at qn
        have cl1 : cl 1 (.lst xs) = true := cl_lst hc
        have cl2 : ∀ is : List Int, (∀ i ∈ is, i ∈ rng 5) → cl 1 (.lst (is.map fun i => D.str (wd i))) = true := fun is hi => cl_lst fun z hz => by
          obtain ⟨i, h', rfl⟩ := List.mem_map.mp hz
          exact wd_ok (mem_rng.mp (hi i h'))
        have qe := gEq_cl (μ := []) (n := 1) (x := .lst xs) (y := .lst (((rng 5).filter fun i => decide (D.str (wd i) ∈ xs)).map fun i => D.str (wd i))) false cl1 (cl2 _ fun i hi => (List.mem_filter.mp hi).1)
        have hk : kindB (.tup xs) = decide (D.lst xs = D.lst (((rng 5).filter fun i => decide (D.str (wd i) ∈ xs)).map fun i => D.str (wd i))) := by
          simp only [D.lst.injEq]
          cases hw : xs.all wordB with
          | false =>
            have : kindB (.tup xs) = false := by simp [kindB, hw]
            rw [this, eq_comm]
            refine decide_eq_false fun hh => ?_
            have : xs.all wordB = true := by
              rw [hh, List.all_map, List.all_eq_true]
              intro i hi
              exact decide_eq_true (wd_in (mem_rng.mp (List.mem_filter.mp hi).1))
            rw [hw] at this; cases this
          | true =>
            obtain ⟨is, rfl, hi⟩ := all_words hw
            have kb : kindB (.tup (is.map fun i => D.str (wd i))) = ascI is := by
              simp only [kindB, hem, hst, hw, mapM_kw hi, Bool.not_false, Bool.true_and]
            have fe : ((rng 5).filter fun i => decide (D.str (wd i) ∈ is.map fun i => D.str (wd i))) = (rng 5).filter fun i => decide (i ∈ is) := by
              refine List.filter_congr fun i h1 => ?_
              have : (D.str (wd i) ∈ is.map fun i => D.str (wd i)) ↔ i ∈ is := by
                rw [List.mem_map]
                constructor
                · rintro ⟨j, hj, e⟩
                  have := (wd_inj (hi j hj) (mem_rng.mp h1)).mp (D.str.inj e)
                  rw [← this]; exact hj
                · exact fun h2 => ⟨i, h2, rfl⟩
              simp only [this]
            rw [kb, fe]
            cases ha : ascI is with
            | true =>
              symm
              refine decide_eq_true ?_
              have : is = (rng 5).filter fun i => decide (i ∈ is) := asc_ext _ _ ((ascI_iff is).mp ha) ((rng_asc 5).filter _) fun i => by
                simp only [List.mem_filter, decide_eq_true_eq]
                exact ⟨fun h => ⟨mem_rng.mpr (hi i h), h⟩, fun h => h.2⟩
              rw [← this]
            | false =>
              symm
              refine decide_eq_false fun hh => ?_
              have : is.map (fun i => i) = ((rng 5).filter fun i => decide (i ∈ is)).map fun i => i := by
                have h2 := congrArg (List.map fun d => match d with
                  | D.str s => idx s
                  | _ => 0) hh
                rw [List.map_map, List.map_map] at h2
                rw [List.map_congr_left (g := fun i => i) (fun i h => by simp only [Function.comp_apply, idx_wd (hi i h)]), List.map_congr_left (l := (rng 5).filter _) (g := fun i => i) (fun i h => by simp only [Function.comp_apply, idx_wd (mem_rng.mp (List.mem_filter.mp h).1)])] at h2
                exact h2
              rw [List.map_id', List.map_id'] at this
              have : is.Pairwise (· < ·) := by rw [this]; exact (rng_asc 5).filter _
              rw [(ascI_iff is).mpr this] at ha; cases ha
        rw [hk]
        simp only [view] at qe
        simp [e1, q, e2, qn, qe]
end
end Lw
namespace Lw
open PySem PySem.Spec PyProof.Rows L2 DL
variable [WC]
section
variable {v : D} {n : Nat} {μ : Store} {r : Rl}
/-! ### outcomes -/
def diffB (m : Int) : D → Bool
  | .tup xs => match intsOf xs with
    | some ns => xs.all (inR m) && decide ns.Nodup
    | none => false
  | _ => false
def lenB (m : Nat) : D → Bool
  | .tup xs => decide (xs.length = m)
  | _ => false
theorem dd_sub {α : Type} [DecidableEq α] : ∀ l : List α, (dd l).Sublist l
  | [] => .slnil
  | x :: l => by
    unfold dd
    split
    · exact (dd_sub l).cons x
    · exact (dd_sub l).cons_cons x
theorem dd_nd (ns : List Int) : decide ((dd ns).length = ns.length) = decide ns.Nodup := by
  by_cases h : ns.Nodup
  · rw [dd_self h]; simp [h]
  · rw [decide_eq_false h]
    refine decide_eq_false fun e => h ?_
    rw [← (dd_sub ns).eq_of_length e]
    exact dd_nodup ns
theorem are_different_any (h : okS n v = true) (m : Int) : m_are_different [v, .int m] μ = .ok (.bl (diffB m v)) μ := by
  have hE := okS_E n v h
  have np := okE_np n v hE
  refine pure_ret (μ' := []) (by simp [np]) rfl ?_ rfl
  have a := isi_tuple (μ := []) hE
  cases ht : isTupB v with
  | false =>
    rw [ht] at a
    have : diffB m v = false := by cases v <;> first | rfl | cases ht
    rw [this]
    simp [a]
  | true =>
    rw [ht] at a
    obtain ⟨k, xs, rfl, rfl, hl, hx⟩ := tup_of h ht
    have e := lc_bl (it := iSeq (eVar 0)) (g := gVar 2) (f := eCall m_is_from (aCons (eVar 2) (aCons (eC (.int 0)) (aCons (eBin gSub (eVar 1) (eC (.int 1))) aNil)))) (vs := [2]) (ρ := [some (.tup xs), some (.int m), none]) (μ := []) (μ1 := []) (ds := xs) (c := always) (inR m) (by simp) rfl
      (fun d hd => ⟨_, by simp [wipeE]; rfl, by simp [is_from_any (okS_E k d (hx d hd)), from_inR]⟩) (by omega)
    cases hall : xs.all (inR m) with
    | false =>
      have : diffB m (.tup xs) = false := by
        simp only [diffB]
        split
        · rw [hall]; rfl
        · rfl
      rw [this]
      simp [e, hall]
    | true =>
      obtain ⟨ns, rfl, hr⟩ := all_ints hall
      have : diffB m (.tup (ns.map .int)) = decide ns.Nodup := by simp only [diffB, intsOf_map, hall, Bool.true_and]
      rw [this]
      have e2 := lenSet_names (ns := ns) (f := eVar 0) (ρ := [some (namesD ns), some (.int m), none]) (μ := []) (by simp) (by simp at hl; omega)
      have e3 := dd_nd ns
      unfold namesD at e2
      have hall' : ns.all (inR m ∘ D.int) = true := by rw [← List.all_map]; exact hall
      simp [e, hall', e2]
      rw [Int.ofNat_inj]
      exact decide_eq_decide.mp e3
theorem is_outcome_for_any (hr : r.b.length ≤ 6) (h : okS n v = true) : m_is_outcome_for [ruleD r, v] μ = .ok (.bl (diffB r.b.length v && lenB r.b.length v)) μ := by
  have hE := okS_E n v h
  have np := okE_np n v hE
  refine pure_ret (μ' := []) (by simp [np]) rfl ?_ rfl
  have e := are_different_any (μ := []) h r.b.length
  cases hd : diffB r.b.length v with
  | false =>
    rw [hd] at e
    simp [e]
  | true =>
    rw [hd] at e
    cases v with
    | tup xs =>
      simp [e, lenB]
      omega
    | _ => cases hd
theorem is_outcome_any (hr : r.Ok) (h : okS n v = true) : m_is_outcome [ruleD r, v] μ = .ok (.bl (diffB r.b.length v && lenB r.b.length v)) μ := by
  have hE := okS_E n v h
  have np := okE_np n v hE
  refine pure_ret (μ' := []) (by simp [np]) rfl ?_ rfl
  simp [need_rule_ok hr, is_outcome_for_any hr.hi h]
theorem full_mem {ns : List Int} {m : Nat} (h : ∀ i ∈ ns, 0 ≤ i ∧ i < m) (nd : ns.Nodup) (hl : ns.length = m) (i : Int) : i ∈ ns ↔ i ∈ rng m := by
  constructor
  · exact fun hi => mem_rng.mpr (h i hi)
  · intro hi
    refine Classical.byContradiction fun hn => ?_
    have := int_len (l := i :: ns) (n := m) (List.nodup_cons.mpr ⟨hn, nd⟩) fun j hj => by
      rcases List.mem_cons.mp hj with e | hj
      · rw [e]; exact mem_rng.mp hi
      · exact h j hj
    simp at this
    omega
theorem sortI_full {ns : List Int} {m : Nat} (h : ∀ i ∈ ns, 0 ≤ i ∧ i < m) (hl : ns.length = m) : decide (sortI ns = rng m) = decide ns.Nodup := by
  by_cases nd : ns.Nodup
  · rw [decide_eq_true nd]
    refine decide_eq_true ?_
    refine asc_ext _ _ (sortI_asc nd) (rng_asc m) fun i => ?_
    rw [sortI_mem, full_mem h nd hl]
  · rw [decide_eq_false nd]
    refine decide_eq_false fun e => nd ?_
    have : (sortI ns).Nodup := by rw [e]; exact rng_nodup m
    exact (List.mergeSort_perm ns _).nodup_iff.mp this
theorem law_is_outcome_any (hr : r.b.length ≤ 6) (h : okS n v = true) (hn : n ≤ 20) : m__law_is_outcome [ruleD r, v] μ = .ok (.bl (diffB r.b.length v && lenB r.b.length v)) μ := by
  have hE := okS_E n v h
  have np := okE_np n v hE
  refine pure_ret (μ' := []) (by simp [np]) rfl ?_ rfl
  have a := isi_tuple (μ := []) hE
  cases ht : isTupB v with
  | false =>
    rw [ht] at a
    have : diffB r.b.length v = false := by cases v <;> first | rfl | cases ht
    rw [this]
    simp [a]
  | true =>
    rw [ht] at a
    obtain ⟨k, xs, rfl, rfl, hl, hx⟩ := tup_of h ht
    by_cases hlen : xs.length = r.b.length
    · have hlen' : (xs.length : Int) = r.b.length := by omega
      have e := lc_odd (it := iSeq (eVar 1)) (g := gVar 3) (t := tNotM (tTru (eCall m__law_int (aCons (eVar 3) (aCons (eC (.int 0)) (aCons (eBin gSub (eVar 2) (eC (.int 1))) aNil)))))) (f := eVar 3) (vs := [3]) (ρ := [some (ruleD r), some (.tup xs), some (.int r.b.length), none]) (μ := []) (μ1 := []) (ds := xs) (c := always) (inR r.b.length) (by simp) rfl
        (fun d hd => ⟨_, by simp [wipeE]; rfl, by simp [law_int_any (hx d hd)], by simp⟩) (by omega)
      have q := gEq_nilL (μ := []) (n := k) (xs := xs.filter fun d => !inR r.b.length d) true (fun x hx' => okS_E k x (hx x (List.mem_filter.mp hx').1)) (by omega)
      rw [odd_none] at q
      cases hall : xs.all (inR r.b.length) with
      | false =>
        rw [hall] at q
        have : diffB r.b.length (.tup xs) = false := by
          simp only [diffB]
          split
          · rw [hall]; rfl
          · rfl
        rw [this]
        simp [e, q, hlen']
      | true =>
        rw [hall] at q
        obtain ⟨ns, rfl, hrn⟩ := all_ints hall
        have db : diffB r.b.length (.tup (ns.map .int)) = decide ns.Nodup := by simp only [diffB, intsOf_map, hall, Bool.true_and]
        have lb : lenB r.b.length (.tup (ns.map .int)) = true := by simp only [lenB, hlen, decide_true]
        rw [db, lb, ← sortI_full hrn (by simpa using hlen)]
        have st : gSortedTI [.tup (ns.map .int)] [] = .ok (.lst ((sortI ns).map .int)) [] := by
          unfold gSortedTI
          simp only [asTup, Option.bind_some, intsOf_map]
          rw [if_pos (by rw [Nat.ble_eq]; simp at hl; omega)]
          rfl
        have hl6 : ns.length = r.b.length := by simpa using hlen
        simp [e, q, hl6, st, kLR_nat false (show r.b.length ≤ 1000 by omega), rngD_0]
    · have hlen' : ¬ (xs.length : Int) = r.b.length := by omega
      have : lenB r.b.length (.tup xs) = false := by simp [lenB, hlen]
      rw [this]
      simp [hlen']
theorem told_ok (hr : r.Ok) (h : okS n v = true) (hn : n ≤ 20) : m__law_told_right [ruleD r, v] μ = .ok (.bl true) μ := by
  have hE := okS_E n v h
  have np := okE_np n v hE
  refine pure_ret (μ' := []) (by simp [np]) rfl ?_ rfl
  have e1 := is_rule_any (μ := []) h
  have e2 := is_kind_any (μ := []) h hn
  have e3 := is_outcome_any (μ := []) hr h
  have f1 := law_is_rule_any (μ := []) h hn
  have f2 := law_is_kind_any (μ := []) h hn
  have f3 := law_is_outcome_any (μ := []) hr.hi h hn
  generalize ruleB v = b1 at *
  generalize kindB v = b2 at *
  generalize (diffB (r.b.length : Int) v && lenB r.b.length v) = b3 at *
  have e := lc_odd (it := iSeq (eVar 2)) (g := gVar 3) (t := tNotM (tOf (eCall gIsi (aCons (eVar 3) (aCons (eC (.raw (.ty "bool"))) aNil))))) (f := eVar 3) (vs := [3]) (ρ := [some (ruleD r), some v, some (.lst [.bl b1, .bl b2, .bl b3]), none]) (μ := []) (μ1 := []) (ds := [.bl b1, .bl b2, .bl b3]) (c := always) isBlB (by simp) rfl
    (fun d hd => by
      obtain ⟨b, rfl⟩ : ∃ b, d = .bl b := by
        simp only [List.mem_cons, List.not_mem_nil, or_false] at hd
        rcases hd with h | h | h <;> exact ⟨_, h⟩
      exact ⟨_, by simp [wipeE]; rfl, by simp [isBlB], by simp⟩) (by simp)
  have q := gEq_nilL (μ := []) (n := 0) (xs := [.bl b1, .bl b2, .bl b3].filter fun d => !isBlB d) true (fun x hx' => by
    have := (List.mem_filter.mp hx').1
    simp only [List.mem_cons, List.not_mem_nil, or_false] at this
    rcases this with h | h | h <;> subst h <;> rfl) (by omega)
  rw [odd_none] at q
  have ht : ([.bl b1, .bl b2, .bl b3] : List D).all isBlB = true := rfl
  rw [ht] at q
  have qr := gEq_refl (μ := []) (m := 1) (d := .lst [.bl b1, .bl b2, .bl b3]) false (by simp [okE])
  simp [e1, e2, e3, f1, f2, f3, e, q, qr]
end
end Lw
namespace Lw
open PySem PySem.Spec PyProof.Rows L2 DL
variable [WC]
/-! ### comprehensions whose parts change the store -/
theorem comp_pre {α : Type} {c : Store → Bool} {g : GM} {t : DL.Env → M Bool} {f : DL.Env → M D} {ρ : DL.Env} (F : α → D) (R : List α → List D → Store → Prop) (l : List α) (hc : ∀ p acc μ, R p acc μ → c μ = true)
    (h : ∀ p a s acc μ, l = p ++ a :: s → R p acc μ → acc.length < 16777216 ∧ ∃ ρ1 b μ2, g (F a) ρ μ = .ok ρ1 μ ∧ t ρ1 μ = .ok b μ2 ∧ (b = false → R (p ++ [a]) acc μ2) ∧ (b = true → ∃ y μ3, f ρ1 μ2 = .ok y μ3 ∧ R (p ++ [a]) (acc ++ [y]) μ3)) :
    ∀ (s p : List α) (acc : List D) (μ : Store), l = p ++ s → R p acc μ → ∃ ys μ', compL c g t f ρ (s.map F) acc μ = .ok ys μ' ∧ R l ys μ'
  | [], p, acc, μ, e, r => by
    rw [List.append_nil] at e
    subst e
    exact ⟨acc, μ, by rw [List.map_nil]; unfold compL; rw [if_pos (hc _ _ _ r)], r⟩
  | a :: s, p, acc, μ, e, r => by
    obtain ⟨hl, ρ1, b, μ2, e1, e2, h1, h2⟩ := h p a s acc μ e r
    have e' : l = (p ++ [a]) ++ s := by rw [e]; simp
    cases b with
    | false =>
      obtain ⟨ys, μ', e3, r3⟩ := comp_pre F R l hc h s (p ++ [a]) acc μ2 e' (h1 rfl)
      refine ⟨ys, μ', ?_, r3⟩
      rw [List.map_cons]
      unfold compL
      rw [if_pos (hc _ _ _ r)]
      simp only [Mbind_at, Mno, e1, and_ok, e2]
      exact e3
    | true =>
      obtain ⟨y, μ3, e4, r4⟩ := h2 rfl
      obtain ⟨ys, μ', e3, r3⟩ := comp_pre F R l hc h s (p ++ [a]) (acc ++ [y]) μ3 e' r4
      refine ⟨ys, μ', ?_, r3⟩
      rw [List.map_cons]
      unfold compL
      rw [if_pos (hc _ _ _ r)]
      have el : acc.length < sizeLine := by rw [line16]; exact hl
      simp only [Mbind_at, Mno, e1, and_ok, e2, if_true, e4, el]
      exact e3
theorem lc_pre {α : Type} {mu : Bool} {it : IM} {c : Store → Bool} {g : GM} {t : DL.Env → M Bool} {f : DL.Env → M D} {vs : List Nat} {ρ : DL.Env} {μ μ1 : Store} (F : α → D) (R : List α → List D → Store → Prop) (l : List α) (hi : it ρ μ = .ok (l.map F, c) μ1) (hc : ∀ p acc μ, R p acc μ → c μ = true)
    (h : ∀ p a s acc μ, l = p ++ a :: s → R p acc μ → acc.length < 16777216 ∧ ∃ ρ1 b μ2, g (F a) (wipeE ρ vs) μ = .ok ρ1 μ ∧ t ρ1 μ = .ok b μ2 ∧ (b = false → R (p ++ [a]) acc μ2) ∧ (b = true → ∃ y μ3, f ρ1 μ2 = .ok y μ3 ∧ R (p ++ [a]) (acc ++ [y]) μ3)) (r : R [] [] μ1) :
    ∃ ys μ', eLc mu it g t f vs ρ μ = retL mu ys μ' ∧ R l ys μ' := by
  obtain ⟨ys, μ', e, r'⟩ := comp_pre F R l hc h l [] [] μ1 rfl r
  exact ⟨ys, μ', by unfold eLc; simp only [Mbind_at, hi, and_ok, e], r'⟩
/-! ### values of bounded size -/
def okB (b : Nat) : Nat → D → Bool
  | _, .non => true
  | _, .int _ => true
  | _, .bl _ => true
  | _, .str s => PyData.strOk s && decide (s.length ≤ b)
  | n + 1, .tup xs => decide (xs.length ≤ b) && xs.all (okB b n)
  | n + 1, .lst xs => decide (xs.length ≤ b) && xs.all (okB b n)
  | _, _ => false
theorem okB_non {b n : Nat} : okB b n .non = true := by cases n <;> rfl
theorem okB_int {b n : Nat} {i : Int} : okB b n (.int i) = true := by cases n <;> rfl
theorem okB_bl {b n : Nat} {i : Bool} : okB b n (.bl i) = true := by cases n <;> rfl
theorem okB_str {b n : Nat} {s : Str} : okB b n (.str s) = (PyData.strOk s && decide (s.length ≤ b)) := by cases n <;> rfl
theorem okB_tup {b n : Nat} {xs : List D} : okB b (n + 1) (.tup xs) = true ↔ xs.length ≤ b ∧ ∀ x ∈ xs, okB b n x = true := by
  simp only [okB, Bool.and_eq_true, decide_eq_true_eq, List.all_eq_true]
theorem okB_lst {b n : Nat} {xs : List D} : okB b (n + 1) (.lst xs) = true ↔ xs.length ≤ b ∧ ∀ x ∈ xs, okB b n x = true := by
  simp only [okB, Bool.and_eq_true, decide_eq_true_eq, List.all_eq_true]
theorem okB_mono {b b' : Nat} (hb : b ≤ b') : ∀ (n n' : Nat) (v : D), n ≤ n' → okB b n v = true → okB b' n' v = true
  | _, _, .non, _, _ => okB_non
  | _, _, .int _, _, _ => okB_int
  | _, _, .bl _, _, _ => okB_bl
  | n, n', .str s, _, h => by
    rw [okB_str, Bool.and_eq_true, decide_eq_true_eq] at h ⊢
    exact ⟨h.1, by omega⟩
  | n + 1, n' + 1, .tup xs, hn, h => by
    rw [okB_tup] at h ⊢
    exact ⟨by omega, fun x hx => okB_mono hb n n' x (by omega) (h.2 x hx)⟩
  | n + 1, n' + 1, .lst xs, hn, h => by
    rw [okB_lst] at h ⊢
    exact ⟨by omega, fun x hx => okB_mono hb n n' x (by omega) (h.2 x hx)⟩
  | n + 1, 0, _, hn, _ => by omega
  | 0, _, .tup _, _, h => by simp [okB] at h
  | 0, _, .lst _, _, h => by simp [okB] at h
  | n, _, .arg _, _, h => by cases n <;> simp [okB] at h
  | n, _, .dct _ _, _, h => by cases n <;> simp [okB] at h
  | n, _, .ptr _, _, h => by cases n <;> simp [okB] at h
  | n, _, .raw _, _, h => by cases n <;> simp [okB] at h
theorem okB_S {b : Nat} (hb : b ≤ 60) : ∀ (n : Nat) (v : D), okB b n v = true → okS n v = true
  | n, .non, _ => by cases n <;> rfl
  | n, .int _, _ => by cases n <;> rfl
  | n, .bl _, _ => by cases n <;> rfl
  | n, .str s, h => by
    rw [okB_str, Bool.and_eq_true, decide_eq_true_eq] at h
    cases n <;> (simp only [okS, Bool.and_eq_true, decide_eq_true_eq]; exact ⟨h.1, by omega⟩)
  | n + 1, .tup xs, h => by
    rw [okB_tup] at h
    simp only [okS, Bool.and_eq_true, decide_eq_true_eq, List.all_eq_true]
    exact ⟨by omega, fun x hx => okB_S hb n x (h.2 x hx)⟩
  | n + 1, .lst xs, h => by
    rw [okB_lst] at h
    simp only [okS, Bool.and_eq_true, decide_eq_true_eq, List.all_eq_true]
    exact ⟨by omega, fun x hx => okB_S hb n x (h.2 x hx)⟩
  | 0, .tup xs, h => by simp [okB] at h
  | 0, .lst xs, h => by simp [okB] at h
  | n, .arg _, h => by cases n <;> simp [okB] at h
  | n, .dct _ _, h => by cases n <;> simp [okB] at h
  | n, .ptr _, h => by cases n <;> simp [okB] at h
  | n, .raw _, h => by cases n <;> simp [okB] at h
theorem pow30 {μ : Store} : gPow (.int 10) (.int 30) μ = .ok (.int 1000000000000000000000000000000) μ := by rfl
theorem neg1 {μ : Store} : gNeg (.int 1) μ = .ok (.int (-1)) μ := by rfl
def atoms : List D := [.int 0, .int (-1), .int 1, .int 2, .int 5, .int 6, .int 7, .bl true, .bl false, .non, .str "", .str "again", .str "swap", .str "own", .str "mutual", .int 1000000000000000000000000000000]
def atoms2 : List D := [.tup [], .lst [], .tup [.int 0], .tup [.int 0, .int 1], .tup [.int 1, .int 0], .tup [.str "own"], .tup [.tup [], .tup []]]
theorem atoms_ok : ∀ y ∈ atoms ++ atoms2, okB 20 2 y = true := by decide +kernel
section
variable {n : Nat} {μ : Store}
theorem any_value_ok : ∀ (r d : Nat) (μ : Store), d < r → Bag n μ → ∃ v μ', f__law_any_value r [.ptr n, .int d] μ = .ok v μ' ∧ okB 20 (2 + d) v = true ∧ Bg n μ μ'
  | 0, _, _, h, _ => by omega
  | r + 1, d, μ, hd, hb => by
    obtain ⟨k, μ1, e1, k1, k2, bg1⟩ := law_take_ok (m := 8) hb (by omega) (by omega)
    by_cases h0 : k < 5 ∨ d = 0
    · obtain ⟨y, μ2, e2, hy, bg2⟩ := law_of_ok (d := .lst (atoms ++ atoms2)) (xs := atoms ++ atoms2) bg1.bag (.inl rfl) (by simp [atoms]) (by decide +kernel)
      refine ⟨y, μ2, ?_, okB_mono (Nat.le_refl _) 2 _ y (by omega) (atoms_ok y hy), bg1.trans bg2⟩
      unfold f__law_any_value
      refine defM_ret rfl ?_
      simp only [atoms, atoms2, List.cons_append, List.nil_append] at e2
      have ga : gAdd false (.lst atoms) (.lst atoms2) μ1 = .ok (.lst (atoms ++ atoms2)) μ1 := by rw [gAdd_lst false (by decide +kernel)]; rfl
      simp only [atoms, atoms2, List.cons_append, List.nil_append] at ga
      by_cases h1 : k < 5
      · simp [e1, h1, pow30, neg1, ga, e2]
      · have h2 : d = 0 := by omega
        subst h2
        simp [e1, h1, pow30, neg1, ga, e2]
    · obtain ⟨m, μ2, e2, m1, m2, bg2⟩ := law_take_ok (m := 5) bg1.bag (by omega) (by omega)
      obtain ⟨d', rfl⟩ : ∃ d', d = d' + 1 := ⟨d - 1, by omega⟩
      have hdd : ((d' + 1 : Nat) : Int) - 1 = (d' : Nat) := by omega
      obtain ⟨ys, μ3, e3, bg3, hlen, hys⟩ := lc_pre (mu := false) (it := iRange1 (eCall m__law_take (aCons (eVar 0) (aCons (eC (.int 5)) aNil)))) (c := always) (g := gVar 5) (t := tYesM) (f := eCall (f__law_any_value r) (aCons (eVar 0) (aCons (eBin gSub (eVar 1) (eC (.int 1))) aNil))) (vs := [5]) (ρ := [some (.ptr n), some (.int (d' + 1 : Nat)), some (.int k), none, none, none]) (μ := μ1) (μ1 := μ2) D.int
        (fun p acc μ' => Bg n μ μ' ∧ acc.length = p.length ∧ ∀ x ∈ acc, okB 20 (2 + d') x = true) (rng m.toNat) (by simp [e2, kR1_at (show -1000000000 ≤ m by omega) (show m ≤ 1000000000 by omega), rngD_0]) (fun _ _ _ _ => rfl) (by
          rintro p a s acc μ' hp ⟨bg, hl, ha⟩
          have hpl : p.length ≤ m.toNat := by
            have := congrArg List.length hp
            rw [rng_len, List.length_append] at this
            omega
          refine ⟨by omega, _, true, μ', by simp [wipeE]; rfl, rfl, fun h => (nomatch h), fun _ => ?_⟩
          obtain ⟨v, μ4, e4, ok4, bg4⟩ := any_value_ok r d' μ' (by omega) bg.bag
          refine ⟨v, μ4, ?_, bg.trans bg4, by simp [hl], fun x hx => ?_⟩
          · simp [hdd, e4]
          · rcases List.mem_append.mp hx with h | h
            · exact ha x h
            · rw [List.mem_singleton.mp h]; exact ok4) ⟨bg1.trans bg2, rfl, fun _ h => nomatch h⟩
      rw [rng_len] at hlen
      have okT : okB 20 (2 + (d' + 1)) (.tup ys) = true := okB_tup.mpr ⟨by omega, hys⟩
      have okL : okB 20 (2 + (d' + 1)) (.lst ys) = true := okB_lst.mpr ⟨by omega, hys⟩
      have h5 : ¬ k < 5 := fun h => h0 (.inl h)
      have hz : ¬ (((d' + 1 : Nat) : Int) = 0) := by omega
      have hk : k = 5 ∨ k = 6 ∨ k = 7 := by omega
      rw [retL_f] at e3
      generalize ((d' + 1 : Nat) : Int) = dz at e3 hz ⊢
      rcases hk with rfl | rfl | rfl
      · refine ⟨.lst ys, μ3, ?_, okL, bg3⟩
        unfold f__law_any_value
        refine defM_ret rfl ?_
        simp [e1, hz, e3]
      · refine ⟨.tup ys, μ3, ?_, okT, bg3⟩
        unfold f__law_any_value
        refine defM_ret rfl ?_
        simp [e1, hz, e3]
      · refine ⟨.tup ys, μ3, ?_, okT, bg3⟩
        unfold f__law_any_value
        refine defM_ret rfl ?_
        simp [e1, hz, e3]
end
end Lw
namespace Lw
open PySem PySem.Spec PyProof.Rows L2 DL
variable [WC]
section
variable {n : Nat} {μ : Store} {v : D}
theorem strOk_app (s t : Str) : PyData.strOk (s ++ t) = (PyData.strOk s && PyData.strOk t) := by
  show (s.cps ++ t.cps).all _ = (s.cps.all _ && t.cps.all _)
  rw [Array.all_append]
theorem str_len_app (s t : Str) : (s ++ t).length = s.length + t.length := by
  show (s.cps ++ t.cps).size = s.cps.size + t.cps.size
  rw [Array.size_append]
@[simp] theorem gInt1_bl (b : Bool) : gInt1 [.bl b] μ = .ok (.int (if b then 1 else 0)) μ := Eq.trans rfl rfl
abbrev bBase : SM := sSeq (sSet 2 (eLst false (aCons (eCall m__law_any_value (aCons (eVar 0) (aCons (eC (.int 1)) aNil))) (aCons (eLst false (aCons (eVar 1) aNil)) aNil))))
    (sSeq (sIf (tOf (eCall gIsi (aCons (eVar 1) (aCons (eC (.raw (.ty "str"))) aNil)))) (sSet 2 (eBin (gAdd false) (eVar 2) (eLst false (aCons (eBin (gAdd false) (eVar 1) (eC (.str "s"))) (aCons (eC (.str "anew")) (aCons (eC (.str "again")) (aCons (eC (.str "partner")) (aCons (eC (.str "next")) aNil)))))))) sNil)
    (sSeq (sIf (tOf (eCall gIsi (aCons (eVar 1) (aCons (eC (.raw (.ty "bool"))) aNil)))) (sSet 2 (eBin (gAdd false) (eVar 2) (eLst false (aCons (eNot (eVar 1)) (aCons (eCall gInt1 (aCons (eVar 1) aNil)) aNil))))) (sIf (tOf (eCall gIsi (aCons (eVar 1) (aCons (eC (.raw (.ty "int"))) aNil)))) (sSet 2 (eBin (gAdd false) (eVar 2) (eLst false (aCons (eBin (gAdd false) (eVar 1) (eC (.int 1))) (aCons (eBin gSub (eVar 1) (eC (.int 1))) (aCons (eC (.int 5)) (aCons (eC (.int 0)) aNil))))))) sNil))
    (sRet (eCall m__law_of (aCons (eVar 0) (aCons (eVar 2) aNil))))))
theorem spoil_base {m : Nat} (hv : okB 20 m v = true) (hm : m ≤ 20) (hb : Bag n μ) : ∃ y μ', bBase [some (.ptr n), some v, none, none, none] μ = .ok (.ret y) μ' ∧ okB 21 (m + 4) y = true ∧ Bg n μ μ' := by
  obtain ⟨w, μ1, e1, okw, bg1⟩ := any_value_ok 3 1 μ (by decide) hb
  have e1 : m__law_any_value [.ptr n, .int 1] μ = .ok w μ1 := e1
  have okw' : okB 21 (m + 4) w = true := okB_mono (by decide) _ _ w (by omega) okw
  have okv' : okB 21 (m + 4) (.lst [v]) = true := by
    rw [okB_lst]
    exact ⟨by simp, fun x hx => by rw [List.mem_singleton.mp hx]; exact okB_mono (by decide) _ _ v (by omega) hv⟩
  have hE := okS_E m v (okB_S (by decide) m v hv)
  have i1 := isi_str (μ := μ1) hE
  have i2 := isi_bool (μ := μ1) hE
  have i3 := isi_int (μ := μ1) hE
  have fin : ∀ L : List D, (∀ x ∈ L, okB 21 (m + 4) x = true) → L.length ≤ 20 → (∀ {y μ2}, m__law_of [.ptr n, .lst ([w, .lst [v]] ++ L)] μ1 = .ok y μ2 → bBase [some (.ptr n), some v, none, none, none] μ = .ok (.ret y) μ2) → ∃ y μ', bBase [some (.ptr n), some v, none, none, none] μ = .ok (.ret y) μ' ∧ okB 21 (m + 4) y = true ∧ Bg n μ μ' := fun L hL hlen hh => by
    obtain ⟨y, μ2, e2, hy, bg2⟩ := law_of_ok (d := .lst ([w, .lst [v]] ++ L)) (xs := [w, .lst [v]] ++ L) bg1.bag (.inl rfl) (by simp) (by simp; omega)
    refine ⟨y, μ2, hh e2, ?_, bg1.trans bg2⟩
    rcases List.mem_append.mp hy with h | h
    · simp only [List.mem_cons, List.not_mem_nil, or_false] at h
      rcases h with h | h
      · rw [h]; exact okw'
      · rw [h]; exact okv'
    · exact hL y h
  have none_ : isStrB v = false → isBlB v = false → isIntB v = false → ∃ y μ', bBase [some (.ptr n), some v, none, none, none] μ = .ok (.ret y) μ' ∧ okB 21 (m + 4) y = true ∧ Bg n μ μ' := fun h1 h2 h3 => by
    rw [h1] at i1
    rw [h2] at i2
    rw [h3] at i3
    refine fin [] (fun _ h => nomatch h) (by simp) fun {y μ2} e2 => ?_
    rw [List.append_nil] at e2
    simp [e1, i1, i2, i3, e2]
  cases v with
  | non => exact none_ rfl rfl rfl
  | tup xs => exact none_ rfl rfl rfl
  | lst xs => exact none_ rfl rfl rfl
  | str s =>
    have hs : PyData.strOk s = true ∧ s.length ≤ 20 := by
      rw [okB_str, Bool.and_eq_true, decide_eq_true_eq] at hv
      exact hv
    refine fin [.str (s ++ "s"), .str "anew", .str "again", .str "partner", .str "next"] (fun x hx => ?_) (by simp) fun {y μ2} e2 => ?_
    · simp only [List.mem_cons, List.not_mem_nil, or_false] at hx
      rcases hx with h | h | h | h | h <;> subst h
      · rw [okB_str, strOk_app, hs.1, str_len_app, Bool.and_eq_true, decide_eq_true_eq]
        exact ⟨by decide +kernel, by have : ("s" : Str).length = 1 := by decide +kernel
                                     omega⟩
      all_goals (rw [okB_str]; decide +kernel)
    · have ga : gAdd false (.str s) (.str "s") μ1 = .ok (.str (s ++ "s")) μ1 := by
        have : ("s" : Str).length = 1 := by decide +kernel
        simp only [gAdd]
        rw [if_pos (by rw [line16, this]; omega)]
      have gl : gAdd false (.lst [w, .lst [.str s]]) (.lst [.str (s ++ "s"), .str "anew", .str "again", .str "partner", .str "next"]) μ1 = .ok (.lst ([w, .lst [.str s]] ++ [.str (s ++ "s"), .str "anew", .str "again", .str "partner", .str "next"])) μ1 := by
        rw [gAdd_lst false (by simp)]; rfl
      simp [e1, i1, i2, i3, isStrB, isBlB, isIntB, ga, gl]
      simp only [List.cons_append, List.nil_append] at e2
      rw [e2]
      rfl
  | bl b =>
    refine fin [.bl (!b), .int (if b then 1 else 0)] (fun x hx => ?_) (by simp) fun {y μ2} e2 => ?_
    · simp only [List.mem_cons, List.not_mem_nil, or_false] at hx
      rcases hx with h | h <;> subst h
      · exact okB_bl
      · exact okB_int
    · have gl : gAdd false (.lst [w, .lst [.bl b]]) (.lst [.bl (!b), .int (if b then 1 else 0)]) μ1 = .ok (.lst ([w, .lst [.bl b]] ++ [.bl (!b), .int (if b then 1 else 0)])) μ1 := by
        rw [gAdd_lst false (by simp)]; rfl
      simp [e1, i1, i2, i3, isStrB, isBlB, isIntB, gl]
      simp only [List.cons_append, List.nil_append] at e2
      rw [e2]
      rfl
  | int i =>
    refine fin [.int (i + 1), .int (i - 1), .int 5, .int 0] (fun x hx => ?_) (by simp) fun {y μ2} e2 => ?_
    · simp only [List.mem_cons, List.not_mem_nil, or_false] at hx
      rcases hx with h | h | h | h <;> subst h <;> exact okB_int
    · have gl : gAdd false (.lst [w, .lst [.int i]]) (.lst [.int (i + 1), .int (i - 1), .int 5, .int 0]) μ1 = .ok (.lst ([w, .lst [.int i]] ++ [.int (i + 1), .int (i - 1), .int 5, .int 0])) μ1 := by
        rw [gAdd_lst false (by simp)]; rfl
      simp [e1, i1, i2, i3, isStrB, isBlB, isIntB, gl]
      simp only [List.cons_append, List.nil_append] at e2
      rw [e2]
      rfl
  | _ => exact absurd hv (by cases m <;> simp [okB])
theorem cut_one {xs : List D} {k : Int} (h : 0 ≤ k) (h2 : k.toNat < xs.length) : DL.cutD xs (some k) (some (k + 1)) = [xs[k.toNat]] := by
  unfold DL.cutD HT.sIx
  simp only [if_neg (show ¬ k < 0 by omega), if_neg (show ¬ k + 1 < 0 by omega)]
  rw [Nat.min_eq_left (by omega), Nat.min_eq_left (by omega), show (k + 1).toNat - k.toNat = 1 by omega, List.drop_eq_getElem_cons h2]
  rfl
theorem gRep2 {x : D} : gRepT (.tup [x]) (.int 2) μ = .ok (.tup [x, x]) μ := by
  unfold gRepT
  rfl
theorem if_ret {c : DL.Env → M Bool} {s rest : SM} {ρ : DL.Env} {μ μ1 μ' : Store} {y : D} (h : c ρ μ = .ok true μ1) (h2 : s ρ μ1 = .ok (.ret y) μ') : sSeq (sIf c s sNil) rest ρ μ = .ok (.ret y) μ' := by
  rw [sSeq_at, sIf_at, h, and_ok, kIf_t, h2]; rfl
theorem if_no {c : DL.Env → M Bool} {s rest : SM} {ρ : DL.Env} {μ μ1 : Store} (h : c ρ μ = .ok false μ1) : sSeq (sIf c s sNil) rest ρ μ = rest ρ μ1 := by
  rw [sSeq_at, sIf_at, h, and_ok, kIf_f]; rfl
theorem spoiled_ok : ∀ (r m : Nat) (v : D) (μ : Store), m < r → r ≤ 16 → okB 20 m v = true → Bag n μ → ∃ y μ', f__law_spoiled r [.ptr n, v] μ = .ok y μ' ∧ okB 21 (m + 4) y = true ∧ Bg n μ μ'
  | 0, _, _, _, h, _, _, _ => by omega
  | r + 1, m, v, μ, hm, hr, hv, hb => by
    have hE := okS_E m v (okB_S (by decide) m v hv)
    have a0 := isi_tuple (μ := μ) hE
    by_cases ht : isTupB v = true
    · rw [ht] at a0
      obtain ⟨k, xs, rfl, rfl⟩ : ∃ k xs, m = k + 1 ∧ v = .tup xs := by
        obtain ⟨k, xs, e1, e2, _⟩ := tup_of (okB_S (by decide) m v hv) ht
        exact ⟨k, xs, e1, e2⟩
      obtain ⟨hl, hx⟩ := okB_tup.mp hv
      have qn := gEq_nilT (μ := μ) (n := k) (xs := xs) false (fun x hx' => okS_E k x (okB_S (by decide) k x (hx x hx'))) (by omega)
      by_cases hem : xs = []
      · subst hem
        obtain ⟨y, μ', e, ok, bg⟩ := spoil_base hv (by omega) hb
        refine ⟨y, μ', ?_, ok, bg⟩
        unfold f__law_spoiled
        exact defM_ret rfl (if_ret (μ1 := μ) (by simp [qn]) e)
      · have hem' : xs.isEmpty = false := by cases xs <;> first | rfl | exact absurd rfl hem
        rw [hem'] at qn
        obtain ⟨z, μ1, e1, z1, z2, bg1⟩ := law_take_ok (m := 6) hb (by omega) (by omega)
        by_cases hz : z = 0
        · obtain ⟨y, μ', e, ok, bg⟩ := spoil_base hv (by omega) bg1.bag
          refine ⟨y, μ', ?_, ok, bg1.trans bg⟩
          unfold f__law_spoiled
          exact defM_ret rfl (if_ret (μ1 := μ1) (by simp [qn, e1, hz]) e)
        · have hpos : 0 < xs.length := List.length_pos_iff.mpr hem
          obtain ⟨at_, μ2, e2, at1, at2, bg2⟩ := law_take_ok (m := xs.length) bg1.bag (by omega) (by omega)
          obtain ⟨way, μ3, e3, w1, w2, bg3⟩ := law_take_ok (m := 8) bg2.bag (by omega) (by omega)
          have hat : at_.toNat < xs.length := by omega
          have bg := (bg1.trans bg2).trans bg3
          have s1 : ∀ μ : Store, gSl (.tup xs) none (some at_) μ = .ok (.tup (xs.take at_.toNat)) μ := fun μ => by rw [gSl_tup, cut_to at1]
          have s2 : ∀ μ : Store, gSl (.tup xs) (some (at_ + 1)) none μ = .ok (.tup (xs.drop (at_.toNat + 1))) μ := fun μ => by rw [gSl_tup, cut_from (by omega), show (at_ + 1).toNat = at_.toNat + 1 by omega]
          have s3 : ∀ μ : Store, gSl (.tup xs) (some at_) (some (at_ + 1)) μ = .ok (.tup [xs[at_.toNat]]) μ := fun μ => by rw [gSl_tup, cut_one at1 hat]
          have s4 : ∀ μ : Store, gIx (.tup xs) (.int at_) μ = .ok xs[at_.toNat] μ := fun μ => by rw [gIx_tup]; exact gIxL_nn at1 (List.getElem?_eq_getElem hat)
          have l1 : (xs.take at_.toNat).length = at_.toNat := by rw [List.length_take]; omega
          have l2 : (xs.drop (at_.toNat + 1)).length ≤ 20 := by rw [List.length_drop]; omega
          have ad : ∀ (ys zs : List D) (μ : Store), ys.length ≤ 100 → zs.length ≤ 100 → gAdd false (.tup ys) (.tup zs) μ = .ok (.tup (ys ++ zs)) μ := fun ys zs μ h1 h2 => gAdd_tup false (by omega)
          have okx : ∀ x ∈ xs, okB 21 (k + 4) x = true := fun x h => okB_mono (by decide) k _ x (by omega) (hx x h)
          have ret : ∀ {y μ'}, (sSeq (sIf (tOf (eBin (gEq false) (eVar 4) (eC (.int 0)))) (sRet (eBin (gAdd false) (eSl (eVar 1) oNone (oSome (eVar 3))) (eSl (eVar 1) (oSome (eBin (gAdd false) (eVar 3) (eC (.int 1)))) oNone))) sNil)
              (sSeq (sIf (tOf (eBin (gEq false) (eVar 4) (eC (.int 1)))) (sRet (eBin (gAdd false) (eBin (gAdd false) (eSl (eVar 1) oNone (oSome (eVar 3))) (eBin gRepT (eSl (eVar 1) (oSome (eVar 3)) (oSome (eBin (gAdd false) (eVar 3) (eC (.int 1))))) (eC (.int 2)))) (eSl (eVar 1) (oSome (eBin (gAdd false) (eVar 3) (eC (.int 1)))) oNone))) sNil)
              (sSeq (sIf (tOf (eBin (gEq false) (eVar 4) (eC (.int 2)))) (sRet (eRev (eVar 1) (oSome (eUn gNeg (eC (.int 1)))))) sNil)
              (sSeq (sIf (tOf (eBin (gEq false) (eVar 4) (eC (.int 3)))) (sRet (eCall (gList false) (aCons (eVar 1) aNil))) sNil)
              (sRet (eBin (gAdd false) (eBin (gAdd false) (eSl (eVar 1) oNone (oSome (eVar 3))) (eTup (aCons (eCall (f__law_spoiled r) (aCons (eVar 0) (aCons (eBin gIx (eVar 1) (eVar 3)) aNil))) aNil))) (eSl (eVar 1) (oSome (eBin (gAdd false) (eVar 3) (eC (.int 1)))) oNone)))))))
              [some (.ptr n), some (.tup xs), none, some (.int at_), some (.int way)] μ3 = .ok (.ret y) μ' → f__law_spoiled (r + 1) [.ptr n, .tup xs] μ = .ok y μ' := fun {y μ'} h => by
            unfold f__law_spoiled
            refine defM_ret rfl ((if_no (μ1 := μ1) (by simp [qn, e1, hz])).trans ((seq_at (ρ1 := [some (.ptr n), some (.tup xs), none, some (.int at_), some (.int way)]) (μ1 := μ3) ?_).trans h))
            simp [e2, e3]
          by_cases h0 : way = 0
          · refine ⟨.tup (xs.take at_.toNat ++ xs.drop (at_.toNat + 1)), μ3, ret ?_, okB_tup.mpr ⟨by simp only [List.length_append, List.length_drop, l1]; omega, fun x hx' => ?_⟩, bg⟩
            · simp [h0, s1, s2]
              rw [ad _ _ _ (by omega) (by omega)]
              simp
            · rcases List.mem_append.mp hx' with h | h
              · exact okx x (List.mem_of_mem_take h)
              · exact okx x (List.mem_of_mem_drop h)
          · by_cases h1 : way = 1
            · refine ⟨.tup (xs.take at_.toNat ++ [xs[at_.toNat], xs[at_.toNat]] ++ xs.drop (at_.toNat + 1)), μ3, ret ?_, okB_tup.mpr ⟨by simp only [List.length_append, List.length_cons, List.length_nil, List.length_drop]; omega, fun x hx' => ?_⟩, bg⟩
              · simp [h1, s1, s2, s3, gRep2]
                rw [ad _ _ _ (by omega) (by simp)]
                simp [s2]
                rw [ad _ _ _ (by simp; omega) (by omega)]
                simp
              · simp only [List.mem_append, List.mem_cons, List.not_mem_nil, or_false] at hx'
                rcases hx' with (h | h | h) | h
                · exact okx x (List.mem_of_mem_take h)
                · rw [h]; exact okx _ (List.getElem_mem hat)
                · rw [h]; exact okx _ (List.getElem_mem hat)
                · exact okx x (List.mem_of_mem_drop h)
            · by_cases h2 : way = 2
              · refine ⟨.tup xs.reverse, μ3, ret ?_, okB_tup.mpr ⟨by simp; omega, fun x hx' => okx x (List.mem_reverse.mp hx')⟩, bg⟩
                simp [h2, neg1]
              · by_cases h3 : way = 3
                · refine ⟨.lst xs, μ3, ret ?_, okB_lst.mpr ⟨by omega, okx⟩, bg⟩
                  simp [h3]
                · obtain ⟨y, μ4, e4, ok4, bg4⟩ := spoiled_ok r k xs[at_.toNat] μ3 (by omega) (by omega) (hx _ (List.getElem_mem hat)) bg3.bag
                  refine ⟨.tup (xs.take at_.toNat ++ [y] ++ xs.drop (at_.toNat + 1)), μ4, ret ?_, okB_tup.mpr ⟨by simp only [List.length_append, List.length_cons, List.length_nil, List.length_drop]; omega, fun x hx' => ?_⟩, bg.trans bg4⟩
                  · simp [h0, h1, h2, h3, s1, s4, e4]
                    rw [ad _ _ _ (by omega) (by simp)]
                    simp [s2]
                    rw [ad _ _ _ (by simp; omega) (by omega)]
                    simp
                  · simp only [List.mem_append, List.mem_cons, List.not_mem_nil, or_false] at hx'
                    rcases hx' with (h | h) | h
                    · exact okx x (List.mem_of_mem_take h)
                    · rw [h]; exact ok4
                    · exact okx x (List.mem_of_mem_drop h)
    · rw [Bool.not_eq_true] at ht
      rw [ht] at a0
      obtain ⟨y, μ', e, ok, bg⟩ := spoil_base hv (by omega) hb
      refine ⟨y, μ', ?_, ok, bg⟩
      unfold f__law_spoiled
      exact defM_ret rfl (if_ret (μ1 := μ) (by simp [a0]) e)
end
end Lw
namespace Lw
open PySem PySem.Spec PyProof.Rows L2 DL
variable [WC]
/-! ### lengths, both ways -/
def lawLenG (g : List D → M D) : List D → M D := pureM (defM 1 5 ((sSeq (sSet 1 (eLst true aNil))
    (sSeq (sFor (iRange1 (eCall gLen (aCons (eVar 0) aNil))) (gVar 2) (sSeq (sPar 3 4 (eLst true (aCons (eVar 2) aNil)) (eBin gIx (eVar 0) (eVar 2)))
    (sSeq (sWhile (fun _ _ => 100000) (tOf (eBin (gEq true) (eVar 4) (eVar 2))) (sSeq (sExp (eMth (gMut hAppend) (eVar 3) (aCons (eVar 4) aNil)))
    (sSet 4 (eBin gIx (eVar 0) (eVar 4)))))
    (sIf (tOf (eBin (gEq false) (eCall gMinL (aCons (eVar 3) aNil)) (eVar 2))) (sExp (eMth (gMut hAppend) (eVar 1) (aCons (eCall gLen (aCons (eVar 3) aNil)) aNil))) sNil))))
    (sRet (eCall gTuple (aCons (eCall g (aCons (eVar 1) aNil)) aNil)))))))
theorem lawLenG_eq : m__law_lengths = lawLenG gSorted := rfl
def both1 (k : List Int) : Option (List Int) := match lenG gSortI [namesD k] [], lawLenG gSortI [namesD k] [] with
  | .ok (.tup a) _, .ok (.tup b) _ => match intsOf a, intsOf b with
    | some x, some y => if x = y then some x else none
    | _, _ => none
  | _, _ => none
theorem all_b5 : ((List.range 6).all fun n => (allRows n n).all fun k => (both1 k).isSome) = true := by decide +kernel
def ok1 (k : List Int) : Bool := (both1 k).isSome
theorem c6_0 : (((allRows 6 6).drop 0).take 45).all ok1 = true := by decide +kernel
theorem c6_1 : (((allRows 6 6).drop 45).take 45).all ok1 = true := by decide +kernel
theorem c6_2 : (((allRows 6 6).drop 90).take 45).all ok1 = true := by decide +kernel
theorem c6_3 : (((allRows 6 6).drop 135).take 45).all ok1 = true := by decide +kernel
theorem c6_4 : (((allRows 6 6).drop 180).take 45).all ok1 = true := by decide +kernel
theorem c6_5 : (((allRows 6 6).drop 225).take 45).all ok1 = true := by decide +kernel
theorem c6_6 : (((allRows 6 6).drop 270).take 45).all ok1 = true := by decide +kernel
theorem c6_7 : (((allRows 6 6).drop 315).take 45).all ok1 = true := by decide +kernel
theorem c6_8 : (((allRows 6 6).drop 360).take 45).all ok1 = true := by decide +kernel
theorem c6_9 : (((allRows 6 6).drop 405).take 45).all ok1 = true := by decide +kernel
theorem c6_10 : (((allRows 6 6).drop 450).take 45).all ok1 = true := by decide +kernel
theorem c6_11 : (((allRows 6 6).drop 495).take 45).all ok1 = true := by decide +kernel
theorem c6_12 : (((allRows 6 6).drop 540).take 45).all ok1 = true := by decide +kernel
theorem c6_13 : (((allRows 6 6).drop 585).take 45).all ok1 = true := by decide +kernel
theorem c6_14 : (((allRows 6 6).drop 630).take 45).all ok1 = true := by decide +kernel
theorem c6_15 : (((allRows 6 6).drop 675).take 45).all ok1 = true := by decide +kernel
theorem c6_end : ((allRows 6 6).drop 720).all ok1 = true := by decide +kernel
theorem all_split {α : Type} {l : List α} {p : α → Bool} (n : Nat) (h1 : (l.take n).all p = true) (h2 : (l.drop n).all p = true) : l.all p = true := by
  rw [← List.take_append_drop n l, List.all_append, h1, h2]; rfl
theorem d6_15 : ((allRows 6 6).drop 675).all ok1 = true := all_split 45 c6_15 (by rw [List.drop_drop]; exact c6_end)
theorem d6_14 : ((allRows 6 6).drop 630).all ok1 = true := all_split 45 c6_14 (by rw [List.drop_drop]; exact d6_15)
theorem d6_13 : ((allRows 6 6).drop 585).all ok1 = true := all_split 45 c6_13 (by rw [List.drop_drop]; exact d6_14)
theorem d6_12 : ((allRows 6 6).drop 540).all ok1 = true := all_split 45 c6_12 (by rw [List.drop_drop]; exact d6_13)
theorem d6_11 : ((allRows 6 6).drop 495).all ok1 = true := all_split 45 c6_11 (by rw [List.drop_drop]; exact d6_12)
theorem d6_10 : ((allRows 6 6).drop 450).all ok1 = true := all_split 45 c6_10 (by rw [List.drop_drop]; exact d6_11)
theorem d6_9 : ((allRows 6 6).drop 405).all ok1 = true := all_split 45 c6_9 (by rw [List.drop_drop]; exact d6_10)
theorem d6_8 : ((allRows 6 6).drop 360).all ok1 = true := all_split 45 c6_8 (by rw [List.drop_drop]; exact d6_9)
theorem d6_7 : ((allRows 6 6).drop 315).all ok1 = true := all_split 45 c6_7 (by rw [List.drop_drop]; exact d6_8)
theorem d6_6 : ((allRows 6 6).drop 270).all ok1 = true := all_split 45 c6_6 (by rw [List.drop_drop]; exact d6_7)
theorem d6_5 : ((allRows 6 6).drop 225).all ok1 = true := all_split 45 c6_5 (by rw [List.drop_drop]; exact d6_6)
theorem d6_4 : ((allRows 6 6).drop 180).all ok1 = true := all_split 45 c6_4 (by rw [List.drop_drop]; exact d6_5)
theorem d6_3 : ((allRows 6 6).drop 135).all ok1 = true := all_split 45 c6_3 (by rw [List.drop_drop]; exact d6_4)
theorem d6_2 : ((allRows 6 6).drop 90).all ok1 = true := all_split 45 c6_2 (by rw [List.drop_drop]; exact d6_3)
theorem d6_1 : ((allRows 6 6).drop 45).all ok1 = true := all_split 45 c6_1 (by rw [List.drop_drop]; exact d6_2)
theorem d6_0 : ((allRows 6 6).drop 0).all ok1 = true := all_split 45 c6_0 (by rw [List.drop_drop]; exact d6_1)
theorem all_both1 {n : Nat} (hn : n < 7) {k : List Int} (hk : k ∈ allRows n n) : (both1 k).isSome = true := by
  rcases Nat.lt_or_ge n 6 with h | h
  · exact List.all_eq_true.mp (List.all_eq_true.mp all_b5 n (List.mem_range.mpr h)) k hk
  · have : n = 6 := by omega
    subst this
    exact List.all_eq_true.mp d6_0 k hk
section
variable {μ : Store}
theorem both1_ok {k : List Int} (h : (both1 k).isSome = true) : ∃ x : List Int, m_lengths_of [namesD k] μ = .ok (namesD x) μ ∧ m__law_lengths [namesD k] μ = .ok (namesD x) μ := by
  obtain ⟨x, hx⟩ := Option.isSome_iff_exists.mp h
  unfold both1 at hx
  split at hx
  · rename_i a μ1 b μ2 ea eb
    split at hx
    · rename_i x' y' h1 h2
      split at hx
      · rename_i e1
        have ia := ints_of h1
        have ib := ints_of h2
        rw [gSortI_eq, ← lenG_eq] at ea
        rw [gSortI_eq, ← lawLenG_eq] at eb
        rw [ia] at ea
        rw [ib, ← e1] at eb
        exact ⟨x', pure_any ea, pure_any eb⟩
      · cases hx
    · cases hx
  · cases hx
theorem len_both {r : Rl} (hr : r.Ok) {k : List Int} (h : Ns r k) (hl : k.length = r.b.length) : ∃ x : List Int, m_lengths_of [namesD k] μ = .ok (namesD x) μ ∧ m__law_lengths [namesD k] μ = .ok (namesD x) μ := by
  have := hr.hi
  exact both1_ok (all_both1 (by omega) (mem_allRows _ _ h.nd h.ran hl))
/-! ### the rules of kinds, both ways -/
def gSortZI : D → M D := fun x μ => match (asSeq μ x).bind intsOf with
  | some ns => if Nat.blt ns.length 64 = true then .ok (.lst ((insS (dd ns)).map .int)) μ else .bad
  | none => .bad
theorem gSortZI_eq : gSortZI = gSortSetZ := by
  funext x μ
  unfold gSortZI gSortSetZ
  cases (asSeq μ x).bind intsOf with
  | none => rfl
  | some ns =>
    have : insS (dd ns) = sortZ ns := (sortI_ins (dd ns)).symm
    simp only [this]
def barG (z : D → M D) : List D → M D := pureM (defM 3 5 ((sSeq (sSet 3 (eLst false aNil))
    (sSeq (sIf (tOf (eBin (gIn false) (eC (.str "own")) (eVar 0))) (sSet 3 (eBin (gAdd false) (eVar 3) (eLst false (aCons (eVar 2) aNil)))) sNil)
    (sSeq (sIf (tOf (eBin (gIn false) (eC (.str "next")) (eVar 0))) (sSet 3 (eBin (gAdd false) (eVar 3) (eLst false (aCons (eBin gMod (eBin (gAdd false) (eVar 2) (eC (.int 1))) (eVar 1)) aNil)))) sNil)
    (sSeq (sIf (tOf (eBin (gIn false) (eC (.str "before")) (eVar 0))) (sSet 3 (eBin (gAdd false) (eVar 3) (eLst false (aCons (eBin gMod (eBin gSub (eVar 2) (eC (.int 1))) (eVar 1)) aNil)))) sNil)
    (sSeq (sSet 4 (eBin gSub (eBin (gAdd false) (eVar 2) (eC (.int 1))) (eBin gMulI (eC (.int 2)) (eBin gMod (eVar 2) (eC (.int 2))))))
    (sSeq (sIf (tAndM (tOf (eBin (gIn false) (eC (.str "partner")) (eVar 0))) (tOf (eBin gLt (eVar 4) (eVar 1)))) (sSet 3 (eBin (gAdd false) (eVar 3) (eLst false (aCons (eVar 4) aNil)))) sNil)
    (sRet (eCall gTuple (aCons (fun ρ => Mbind (eVar 3 ρ) z) aNil)))))))))))
def lawBarG (z : D → M D) : List D → M D := pureM (defM 3 7 ((sSeq (sSet 3 (eKDisp [((eC (.str "own")), (eVar 2)), ((eC (.str "next")), (eIf (tOf (eBin gLt (eBin (gAdd false) (eVar 2) (eC (.int 1))) (eVar 1))) (eBin (gAdd false) (eVar 2) (eC (.int 1))) (eC (.int 0)))), ((eC (.str "partner")), (eBin gSub (eVar 2) (eC (.int 1))))]))
    (sSeq (sPutK (eVar 3) (eC (.str "before")) (eIf (tOf (eBin (gEq false) (eVar 2) (eC (.int 0)))) (eBin gSub (eVar 1) (eC (.int 1))) (eBin gSub (eVar 2) (eC (.int 1)))))
    (sSeq (sIf (tOf (eBin (gEq false) (eBin gMod (eVar 2) (eC (.int 2))) (eC (.int 0)))) (sPutK (eVar 3) (eC (.str "partner")) (eBin (gAdd false) (eVar 2) (eC (.int 1)))) sNil)
    (sSeq (sSet 4 (eLc false (iSeq (eVar 0)) (gVar 5) (tOf (eBin (gEq true) (eVar 5) (eC (.str "mutual")))) (eBin gIxK (eVar 3) (eVar 5)) [5]))
    (sRet (eCall gTuple (aCons (fun ρ => Mbind ((eLc false (iSeq (eVar 4)) (gVar 6) (tOf (eBin gLt (eVar 6) (eVar 1))) (eVar 6) [6]) ρ) z) aNil)))))))))
theorem barG_eq : m_barred_by = barG gSortSetZ := rfl
theorem lawBarG_eq : m__law_barred = lawBarG gSortSetZ := rfl
def bothB (is : List Int) (many : Nat) (p : Int) : Option (List Int) := match barG gSortZI [kwD is, .int many, .int p] [], lawBarG gSortZI [kwD is, .int many, .int p] [] with
  | .ok (.tup a) _, .ok (.tup b) _ => match intsOf a, intsOf b with
    | some x, some y => if x = y then some x else none
    | _, _ => none
  | _, _ => none
theorem bB_2 : ((subs (rng 5)).all fun is => (rng 2).all fun p => (bothB is 2 p).isSome) = true := by decide +kernel
theorem bB_3 : ((subs (rng 5)).all fun is => (rng 3).all fun p => (bothB is 3 p).isSome) = true := by decide +kernel
theorem bB_4 : ((subs (rng 5)).all fun is => (rng 4).all fun p => (bothB is 4 p).isSome) = true := by decide +kernel
theorem bB_5 : ((subs (rng 5)).all fun is => (rng 5).all fun p => (bothB is 5 p).isSome) = true := by decide +kernel
theorem bB_6 : ((subs (rng 5)).all fun is => (rng 6).all fun p => (bothB is 6 p).isSome) = true := by decide +kernel
def barL (is : List Int) (many : Nat) (p : Int) : List Int := (bothB is many p).getD []
theorem bothB_ok {is : List Int} {many : Nat} {p : Int} (h : (bothB is many p).isSome = true) : m_barred_by [kwD is, .int many, .int p] μ = .ok (namesD (barL is many p)) μ ∧ m__law_barred [kwD is, .int many, .int p] μ = .ok (namesD (barL is many p)) μ := by
  obtain ⟨x, hx⟩ := Option.isSome_iff_exists.mp h
  have hs : barL is many p = x := by unfold barL; rw [hx]; rfl
  rw [hs]
  unfold bothB at hx
  split at hx
  · rename_i a μ1 b μ2 ea eb
    split at hx
    · rename_i x' y' h1 h2
      split at hx
      · rename_i e1
        cases hx
        have ia := ints_of h1
        have ib := ints_of h2
        rw [gSortZI_eq, ← barG_eq] at ea
        rw [gSortZI_eq, ← lawBarG_eq] at eb
        rw [ia] at ea
        rw [ib, ← e1] at eb
        exact ⟨pure_any ea, pure_any eb⟩
      · cases hx
    · cases hx
  · cases hx
theorem bar_both {is : List Int} {many : Nat} {p : Int} (hs : is.Sublist (rng 5)) (h1 : 2 ≤ many) (h2 : many ≤ 6) (hp : p ∈ rng many) : m_barred_by [kwD is, .int many, .int p] μ = .ok (namesD (barL is many p)) μ ∧ m__law_barred [kwD is, .int many, .int p] μ = .ok (namesD (barL is many p)) μ := by
  have hm : many = 2 ∨ many = 3 ∨ many = 4 ∨ many = 5 ∨ many = 6 := by omega
  rcases hm with e | e | e | e | e <;> subst e
  · exact bothB_ok (List.all_eq_true.mp (List.all_eq_true.mp bB_2 is (mem_subs hs)) p hp)
  · exact bothB_ok (List.all_eq_true.mp (List.all_eq_true.mp bB_3 is (mem_subs hs)) p hp)
  · exact bothB_ok (List.all_eq_true.mp (List.all_eq_true.mp bB_4 is (mem_subs hs)) p hp)
  · exact bothB_ok (List.all_eq_true.mp (List.all_eq_true.mp bB_5 is (mem_subs hs)) p hp)
  · exact bothB_ok (List.all_eq_true.mp (List.all_eq_true.mp bB_6 is (mem_subs hs)) p hp)
end
end Lw
namespace Lw
open PySem PySem.Spec PyProof.Rows L2 DL
variable [WC]
section
variable {n : Nat} {μ : Store}
/-! ### an outcome, drawn -/
structure Rest (m : Nat) (rest hav : List Int) : Prop where
  nd : rest.Nodup
  ran : ∀ i ∈ rest, 0 ≤ i ∧ i < m
  nd2 : hav.Nodup
  ran2 : ∀ i ∈ hav, 0 ≤ i ∧ i < m
  dis : ∀ i ∈ rest, i ∉ hav
  sum : rest.length + hav.length = m
theorem Rest.next {m : Nat} {rest hav : List Int} {i : Int} (h : Rest m rest hav) (hi : i ∈ rest) : Rest m (rest.erase i) (hav ++ [i]) where
  nd := h.nd.sublist List.erase_sublist
  ran := fun j hj => h.ran j (List.mem_of_mem_erase hj)
  nd2 := List.nodup_append.mpr ⟨h.nd2, by simp, fun x hx y hy e => h.dis i hi (by rw [← List.mem_singleton.mp hy, ← e]; exact hx)⟩
  ran2 := fun j hj => by
    rcases List.mem_append.mp hj with q | q
    · exact h.ran2 j q
    · rw [List.mem_singleton.mp q]; exact h.ran i hi
  dis := fun j hj hm => by
    have h1 := (List.Nodup.mem_erase_iff h.nd).mp hj
    rcases List.mem_append.mp hm with q | q
    · exact h.dis j h1.2 q
    · exact h1.1 (List.mem_singleton.mp q)
  sum := by
    have h1 := List.length_erase_of_mem hi
    have h2 : 0 < rest.length := List.length_pos_of_mem hi
    have := h.sum
    simp only [List.length_append, List.length_cons, List.length_nil]
    omega
abbrev bOrder : SM := sSeq (sSet 4 (eCall m__law_of (aCons (eVar 0) (aCons (eVar 2) aNil))))
    (sSeq (sExp (eMth (gMut hRemove) (eVar 2) (aCons (eVar 4) aNil)))
    (sSet 3 (eBin (gAdd false) (eVar 3) (eTup (aCons (eVar 4) aNil)))))
theorem order_loop {m q : Nat} (hm : m ≤ 100) (hq : q ≠ n) {c1 : Option D} : ∀ (fu k : Nat) (rest hav : List Int) (μ : Store) (x4 : Option D), rest.length = k → k < fu → Bag n μ → μ[q]? = some (.lst (rest.map .int)) → Rest m rest hav →
    ∃ hav' μ' x4', whileF (tOf (eBin (gEq true) (eVar 2) (eLst false aNil))) bOrder fu [some (.ptr n), c1, some (.ptr q), some (namesD hav), x4] μ = .ok (.nx [some (.ptr n), c1, some (.ptr q), some (namesD hav'), x4']) μ' ∧ Rest m [] hav' ∧ Bag n μ'
  | 0, _, _, _, _, _, _, h, _, _, _ => by omega
  | fu + 1, k, rest, hav, μ, x4, hk, hf, hb, hμ, hr => by
    have g0 : gEq true (.ptr q) (.lst []) μ = .ok (.bl (!decide (rest = []))) μ := by
      have e := gEq_cl (μ := μ) (n := 1) (x := .ptr q) (y := .lst []) true (by simp only [view, hμ]; exact cl_lstI rest 0) (by rfl)
      rw [e]
      simp [view, hμ]
    by_cases h0 : rest = []
    · subst h0
      refine ⟨hav, μ, x4, ?_, hr, hb⟩
      unfold whileF
      simp [g0]
    · obtain ⟨y, μ1, e1, hy, bg⟩ := law_of_ok hb (.inr ⟨q, rfl, hq, hμ⟩) (by simpa using h0) (by have := hr.sum; simp; omega)
      obtain ⟨i, hi, rfl⟩ := List.mem_map.mp hy
      have hμ1 : μ1[q]? = some (.lst (rest.map .int)) := (bg.old q hq).trans hμ
      have ck := chkL_ptr hμ1
      have rm := remove_ptr hμ1 hi
      have hl : hav.length ≤ 100 := by have := hr.sum; omega
      have ga : ∀ μ : Store, gAdd false (namesD hav) (namesD [i]) μ = .ok (namesD (hav ++ [i])) μ := fun μ => gAdd_names false (by simp; omega)
      obtain ⟨hav', μ', x4', e2, hr', hb'⟩ := order_loop hm hq fu (rest.erase i).length (rest.erase i) (hav ++ [i]) (μ1.set q (.lst ((rest.erase i).map .int))) (some (.int i)) rfl (by
        have := List.length_erase_of_mem hi
        have : 0 < rest.length := List.length_pos_of_mem hi
        omega) (bg.bag.set hq) (List.getElem?_set_self (List.getElem?_eq_some_iff.mp hμ1).1) (hr.next hi)
      refine ⟨hav', μ', x4', ?_, hr', hb'⟩
      unfold whileF
      simp [g0, h0, e1, ck, rm, tup_names1, ga]
      exact e2
theorem law_order_ok (hb : Bag n μ) {m : Nat} (hm : m ≤ 100) : ∃ k μ', m__law_order [.ptr n, .int m] μ = .ok (namesD k) μ' ∧ k.Nodup ∧ (∀ i ∈ k, 0 ≤ i ∧ i < m) ∧ k.length = m ∧ Bag n μ' := by
  obtain ⟨hav, μ', x4, e, hr, hb'⟩ := order_loop (m := m) (q := μ.length) (c1 := some (.int m)) hm (fun e => by have := hb.lt; omega) 100000 m (rng m) [] (μ ++ [.lst ((rng m).map .int)]) none (rng_len m) (by omega) (hb.app _) (by simp)
    ⟨rng_nodup m, fun i hi => mem_rng.mp hi, List.nodup_nil, fun _ h => (nomatch h), fun _ _ h => (nomatch h), by simp⟩
  refine ⟨hav, μ', defM_ret rfl ?_, hr.nd2, hr.ran2, by have := hr.sum; simpa using this, hb'⟩
  refine (seq_at (ρ1 := [some (.ptr n), some (.int m), some (.ptr μ.length), some (namesD []), none]) (μ1 := μ ++ [.lst ((rng m).map .int)]) ?_).trans ?_
  · simp [kLR_nat true (show m ≤ 1000 by omega), rngD_0]
    rfl
  · refine (seq_at (ρ1 := [some (.ptr n), some (.int m), some (.ptr μ.length), some (namesD hav), x4]) (μ1 := μ') ?_).trans (by simp)
    rw [sWhile_at]
    exact e
theorem pure_move {F : List D → M D} {ds : List D} {d : D} {μ μ1 : Store} (e : pureM F ds μ = .ok d μ) : pureM F ds μ1 = .ok d μ1 := by
  unfold pureM at e ⊢
  by_cases h : noPtrL ds = true
  · rw [if_pos h] at e ⊢
    cases h2 : F ds [] with
    | ok d0 μ' =>
      rw [h2] at e
      simp only at e ⊢
      cases h3 : frzD μ' d0 with
      | some d' => rw [h3] at e; cases e; rfl
      | none => rw [h3] at e; cases e
    | ex x μ' =>
      rw [h2] at e
      simp only at e
      split at e <;> cases e
    | bad => rw [h2] at e; cases e
  · rw [if_neg h] at e; cases e
/-! ### a kind, drawn -/
theorem kind_ok (hb : Bag n μ) {it : IM} {ρ : DL.Env} {w : Nat} (hi : it ρ μ = .ok ((rng 5).map fun i => D.str (wd i), always) μ) (hw : w < ρ.length) (h4 : ρ[4]? = some (some (.ptr n))) (hw4 : w ≠ 4) :
    ∃ (is : List Int) (μ' : Store), eLc false it (gVar w) (tOf (eBin (gEq false) (eCall m__law_take (aCons (eVar 4) (aCons (eC (.int 2)) aNil))) (eC (.int 0)))) (eVar w) [w] ρ μ = .ok (.lst (is.map fun i => D.str (wd i))) μ' ∧ is.Sublist (rng 5) ∧ Bg n μ μ' := by
  obtain ⟨ys, μ', e, bg, is, rfl, hs⟩ := lc_pre (mu := false) (it := it) (c := always) (g := gVar w) (t := tOf (eBin (gEq false) (eCall m__law_take (aCons (eVar 4) (aCons (eC (.int 2)) aNil))) (eC (.int 0)))) (f := eVar w) (vs := [w]) (ρ := ρ) (μ := μ) (μ1 := μ) (fun i => D.str (wd i))
    (fun p acc μ' => Bg n μ μ' ∧ ∃ is : List Int, acc = is.map (fun i => D.str (wd i)) ∧ is.Sublist p) (rng 5) hi (fun _ _ _ _ => rfl) (by
      rintro p a s acc μ' hp ⟨bg, is, rfl, hs⟩
      have hl : is.length ≤ 5 := by
        have h1 := hs.length_le
        have := congrArg List.length hp
        rw [rng_len, List.length_append] at this
        omega
      obtain ⟨v, μ2, e2, v1, v2, bg2⟩ := law_take_ok (m := 2) bg.bag (by omega) (by omega)
      have r4 : ((wipeE ρ [w]).set w (some (D.str (wd a))))[4]? = some (some (.ptr n)) := by
        simp only [wipeE]
        rw [List.getElem?_set_ne hw4, List.getElem?_set_ne hw4]; exact h4
      have rw_ : ((wipeE ρ [w]).set w (some (D.str (wd a))))[w]? = some (some (D.str (wd a))) := List.getElem?_set_self (by simp [wipeE, hw])
      refine ⟨by simp; omega, _, decide (v = 0), μ2, rfl, ?_, fun _ => ⟨bg.trans bg2, is, rfl, hs.trans (List.sublist_append_left _ _)⟩, fun _ => ⟨D.str (wd a), μ2, ?_, bg.trans bg2, is ++ [a], by simp, hs.append (List.Sublist.refl [a])⟩⟩
      · simp [r4, e2]
      · simp [rw_]) ⟨Bg.refl hb, [], rfl, .slnil⟩
  exact ⟨is, μ', by rw [e, retL_f], hs, bg⟩
/-! ### a turn -/
theorem okB_names (l : List Int) (hl : l.length ≤ 20) {m : Nat} : okB 20 (m + 1) (namesD l) = true := okB_tup.mpr ⟨by simpa using hl, fun x hx => by
  obtain ⟨i, _, rfl⟩ := List.mem_map.mp hx
  exact okB_int⟩
theorem wd_B {i : Int} (h : 0 ≤ i ∧ i < 5) {m : Nat} : okB 20 m (.str (wd i)) = true := by
  rw [okB_str]
  rcases five h with e | e | e | e | e <;> subst e <;> decide +kernel
theorem okB_kwL {is : List Int} (h : ∀ i ∈ is, 0 ≤ i ∧ i < 5) (hl : is.length ≤ 20) {m : Nat} : okB 20 (m + 1) (kwD is) = true := okB_tup.mpr ⟨by simpa using hl, fun x hx => by
  obtain ⟨i, h', rfl⟩ := List.mem_map.mp hx
  exact wd_B (h i h')⟩
theorem okB_bars {r : Rl} (hr : r.Ok) {m : Nat} : okB 20 (m + 2) (barsD r.b) = true := okB_tup.mpr ⟨by have := hr.hi; simp; omega, fun x hx => by
  obtain ⟨l, h', rfl⟩ := List.mem_map.mp hx
  refine okB_names l ?_
  have := int_len (asc_nodup (hr.asc l h')) (hr.ran l h')
  have := hr.hi
  omega⟩
theorem okB_rule {r : Rl} (hr : r.Ok) {m : Nat} : okB 20 (m + 3) (ruleD r) = true := okB_tup.mpr ⟨by simp, fun x hx => by
  simp only [List.mem_cons, List.not_mem_nil, or_false] at hx
  rcases hx with h | h | h
  · rw [h]; exact okB_bars hr
  · rw [h]; exact okB_bl
  · rw [h, okB_str]
    rcases hr.way with h | h | h <;> rw [h] <;> decide +kernel⟩
abbrev bTurn1 : SM := sSeq (sSet 12 (eCall m__law_of (aCons (eVar 4) (aCons (eVar 6) aNil))))
    (sSeq (sSet 13 (eLst true (aCons (eVar 12) (aCons (eCall m__law_spoiled (aCons (eVar 4) (aCons (eVar 12) aNil))) (aCons (eCall m__law_spoiled (aCons (eVar 4) (aCons (eVar 12) aNil))) aNil)))))
    (sSeq (sExp (eMth (gMut hAppend) (eVar 13) (aCons (eCall m__law_any_value (aCons (eVar 4) (aCons (eC (.int 2)) aNil))) aNil)))
    (sIf (tNotM (tTru (eCall m__law_told_right (aCons (eVar 10) (aCons (eCall m__law_of (aCons (eVar 4) (aCons (eVar 13) aNil))) aNil))))) (sRet (eC (.bl false))) sNil)))
theorem turn1_ok {r : Rl} (hr : r.Ok) {L : List D} (hL : ∀ x ∈ L, okB 20 3 x = true) (h0 : L ≠ []) (hl : L.length ≤ 100) (hb : Bag n μ) {c0 c1 c2 c3 c5 c7 c8 c9 c11 c12 c13 c14 c15 c16 c17 : Option D} :
    ∃ μ' x12 x13, bTurn1 [c0, c1, c2, c3, some (.ptr n), c5, some (.lst L), c7, c8, c9, some (ruleD r), c11, c12, c13, c14, c15, c16, c17] μ = .ok (.nx [c0, c1, c2, c3, some (.ptr n), c5, some (.lst L), c7, c8, c9, some (ruleD r), c11, x12, x13, c14, c15, c16, c17]) μ' ∧ Bag n μ' := by
  obtain ⟨v, μ1, e1, hv, bg1⟩ := law_of_ok (d := .lst L) hb (.inl rfl) h0 (by omega)
  obtain ⟨s1, μ2, e2, ok2, bg2⟩ := spoiled_ok 9 3 v μ1 (by decide) (by decide) (hL v hv) bg1.bag
  obtain ⟨s2, μ3, e3, ok3, bg3⟩ := spoiled_ok 9 3 v μ2 (by decide) (by decide) (hL v hv) bg2.bag
  have e2 : m__law_spoiled [.ptr n, v] μ1 = .ok s1 μ2 := e2
  have e3 : m__law_spoiled [.ptr n, v] μ2 = .ok s2 μ3 := e3
  have hne : μ3.length ≠ n := fun e => by have := bg3.bag.lt; omega
  obtain ⟨w, μ4, e4, ok4, bg4⟩ := any_value_ok 3 2 (μ3 ++ [.lst [v, s1, s2]]) (by decide) (bg3.bag.app _)
  have e4 : m__law_any_value [.ptr n, .int 2] (μ3 ++ [.lst [v, s1, s2]]) = .ok w μ4 := e4
  have m4 : μ4[μ3.length]? = some (.lst [v, s1, s2]) := (bg4.old _ hne).trans (by simp)
  have ck : chkL (.ptr μ3.length) (μ3 ++ [.lst [v, s1, s2]]) = .ok () (μ3 ++ [.lst [v, s1, s2]]) := chkL_ptr (xs := [v, s1, s2]) (by simp)
  have ap : gMut hAppend (.ptr μ3.length) [w] μ4 = .ok .non (μ4.set μ3.length (.lst [v, s1, s2, w])) := by
    refine gMut_ptr m4 ?_
    simp only [hAppend]
    rw [if_pos (by rw [line16]; simp)]
    rfl
  have m5 : (μ4.set μ3.length (.lst [v, s1, s2, w]))[μ3.length]? = some (.lst [v, s1, s2, w]) := List.getElem?_set_self (List.getElem?_eq_some_iff.mp m4).1
  obtain ⟨z, μ5, e5, hz, bg5⟩ := law_of_ok (d := .ptr μ3.length) (xs := [v, s1, s2, w]) (bg4.bag.set hne) (.inr ⟨_, rfl, hne, m5⟩) (by simp) (by simp)
  have okz : okS 7 z = true := by
    simp only [List.mem_cons, List.not_mem_nil, or_false] at hz
    rcases hz with h | h | h | h <;> subst h
    · exact okB_S (by decide) 7 _ (okB_mono (Nat.le_refl _) 3 7 _ (by decide) (hL _ hv))
    · exact okB_S (by decide) 7 _ ok2
    · exact okB_S (by decide) 7 _ ok3
    · exact okB_S (by decide) 7 _ (okB_mono (Nat.le_refl _) 4 7 _ (by decide) ok4)
  have t := told_ok (μ := μ5) hr okz (by decide)
  refine ⟨μ5, some v, some (.ptr μ3.length), ?_, bg5.bag⟩
  simp [e1, e2, e3, e4, ck, ap, e5, t]
/-! ### the rule of a kind -/
theorem kindB_kw {is : List Int} (hs : is.Sublist (rng 5)) (h0 : is ≠ []) : kindB (kwD is) = true := by
  have hi : ∀ i ∈ is, 0 ≤ i ∧ i < 5 := fun i h => mem_rng.mp (hs.subset h)
  have e1 : (is.map fun i => D.str (wd i)).isEmpty = false := by cases is <;> first | rfl | exact absurd rfl h0
  have e2 : (is.map fun i => D.str (wd i)).all wordB = true := by
    rw [List.all_map, List.all_eq_true]
    exact fun i h => decide_eq_true (wd_in (hi i h))
  have e4 : ascI is = true := (ascI_iff is).mpr ((rng_asc 5).sublist hs)
  simp only [kwD, kindB, e1, str_of_all e2, e2, mapM_kw hi, e4]
  rfl
theorem need_kind_ok {is : List Int} (hs : is.Sublist (rng 5)) (h0 : is ≠ []) : m_need_kind [kwD is] μ = .ok .non μ := by
  have hi : ∀ i ∈ is, 0 ≤ i ∧ i < 5 := fun i h => mem_rng.mp (hs.subset h)
  have hl : is.length ≤ 20 := by have := hs.length_le; rw [rng_len] at this; omega
  have k := is_kind_any (μ := []) (okB_S (by decide) 1 _ (okB_kwL hi hl (m := 0))) (by decide)
  rw [kindB_kw hs h0] at k
  refine pure_nx (μ' := []) (ρ := [some (kwD is)]) (by simp) rfl ?_
  simp [k]
theorem need_number_ok {m : Nat} (h : 2 ≤ m) : m_need_number [.int m] μ = .ok .non μ := by
  refine pure_nx (μ' := []) (ρ := [some (.int m)]) (by simp) rfl ?_
  have : ¬ ((m : Int) < 2) := by omega
  simp [this]
def kruleD (is : List Int) (m : Nat) : D := .tup [barsD ((rng m).map (barL is m)), .bl (decide (D.str "mutual" ∈ is.map fun i => D.str (wd i))), .str "again"]
theorem in_kw {is : List Int} (hi : ∀ i ∈ is, 0 ≤ i ∧ i < 5) {s : Str} (hs : PyData.strOk s = true) : gIn false (.str s) (kwD is) μ = .ok (.bl (decide (D.str s ∈ is.map fun i => D.str (wd i)))) μ :=
  gIn_word hs fun z hz => by
    obtain ⟨i, h, rfl⟩ := List.mem_map.mp hz
    exact wd_ok (hi i h)
theorem rule_of_ok {is : List Int} (hs : is.Sublist (rng 5)) {m : Nat} (h1 : 2 ≤ m) (h2 : m ≤ 6) : m_rule_of [kwD is, .int m] μ = .ok (kruleD is m) μ := by
  have hi : ∀ i ∈ is, 0 ≤ i ∧ i < 5 := fun i h => mem_rng.mp (hs.subset h)
  refine pure_ret (μ' := []) (by simp) rfl ?_ (by simp [kruleD])
  have e := lc_all (mu := false) (it := iSeq (eLR1 false (eVar 1))) (g := gVar 2) (f := eCall m_barred_by (aCons (eVar 0) (aCons (eVar 1) (aCons (eVar 2) aNil)))) (vs := [2]) (ρ := [some (kwD is), some (.int m), none]) (μ := []) (μ1 := []) (ds := (rng m).map .int) (c := always) (fun d => match d with
      | .int p => namesD (barL is m p)
      | _ => .non) (by simp [kLR_nat false (show m ≤ 1000 by omega), rngD_0]) rfl
    (fun d hd => by
      obtain ⟨p, hp, rfl⟩ := List.mem_map.mp hd
      exact ⟨_, by simp [wipeE]; rfl, by simp [(bar_both (μ := []) hs h1 h2 hp).1]⟩) (by simp; omega)
  have k := in_kw (μ := []) hi (s := "mutual") (by decide +kernel)
  have e' : eLc false (iSeq (eLR1 false (eVar 1))) (gVar 2) tYesM (eCall m_barred_by (aCons (eVar 0) (aCons (eVar 1) (aCons (eVar 2) aNil)))) [2] [some (kwD is), some (.int m), none] [] = .ok (.lst (((rng m).map (barL is m)).map namesD)) [] := by
    rw [e, retL_f, List.map_map, List.map_map]; rfl
  simp [e', k, kruleD, barsD]
theorem rule_for_ok {is : List Int} (hs : is.Sublist (rng 5)) (h0 : is ≠ []) {m : Nat} (h1 : 2 ≤ m) (h2 : m ≤ 6) : m_rule_for [kwD is, .int m] μ = .ok (kruleD is m) μ := by
  refine pure_ret (μ' := []) (by simp) rfl ?_ (by simp [kruleD])
  have : ¬ ((6 : Int) < m) := by omega
  simp [need_kind_ok hs h0, need_number_ok h1, rule_of_ok hs h1 h2, this]
theorem okE_krule {is : List Int} {m : Nat} : okE 3 (kruleD is m) = true := by
  have hw : PyData.strOk "again" = true := by decide +kernel
  simp only [kruleD, okE, List.all_cons, List.all_nil, okE_bars _ 0, hw, Bool.and_self, Bool.and_true]
/-! ### the written rows -/
theorem gAdd_ptrL {q : Nat} {xs ys : List D} (h : μ[q]? = some (.lst xs)) (hl : xs.length + ys.length ≤ 1000) : gAdd true (.ptr q) (.lst ys) μ = .ok (.ptr μ.length) (μ ++ [.lst (xs ++ ys)]) := by
  unfold gAdd
  simp only [asLst, h]
  rw [if_pos (by rw [line16]; omega)]
  rfl
theorem lengths_ok {r : Rl} (hr : r.Ok) {k : List Int} (h : Ns r k) (hl : k.length = r.b.length) {x : List Int} (hx : ∀ μ : Store, m_lengths_of [namesD k] μ = .ok (namesD x) μ) : m_lengths [ruleD r, namesD k] μ = .ok (namesD x) μ := by
  have hhi := hr.hi
  have ok : okS 1 (namesD k) = true := okB_S (b := 20) (by decide) 1 _ (okB_names k (by omega))
  have o := is_outcome_for_any (μ := []) hhi ok
  have : (diffB r.b.length (namesD k) && lenB r.b.length (namesD k)) = true := by
    simp only [namesD, diffB, lenB, intsOf_map, List.all_map, List.length_map, hl, decide_true, Bool.and_true, decide_eq_true h.nd, range_all h.ran]
  rw [this] at o
  refine pure_ret (μ' := []) (by simp) rfl ?_ (by simp)
  have no : m_need_outcome [ruleD r, namesD k] [] = .ok .non [] := by
    refine pure_nx (μ' := []) (ρ := [some (ruleD r), some (namesD k)]) (by simp) rfl ?_
    simp [o]
  simp [need_rule_ok hr, no, hx]
/-! ### the law -/
abbrev bCell : SM := sSeq (sSet 4 (eCall m__law_bag (aCons (eVar 0) (aCons (eVar 2) aNil))))
    (sSeq (sAsg (gTupl 2 (gsCons (gVar 10) (gsCons (gVar 11) gsNil))) (eTup (aCons (eCall m__law_rule (aCons (eVar 4) (aCons (eC (.int 6)) aNil))) (aCons (eCall gTuple (aCons (eLc false (iSeq (eVar 1)) (gVar 16) (tOf (eBin (gEq false) (eCall m__law_take (aCons (eVar 4) (aCons (eC (.int 2)) aNil))) (eC (.int 0)))) (eVar 16) [16]) aNil)) aNil))))
    (sSeq (sSet 5 (eCall m__law_order (aCons (eVar 4) (aCons (eCall gLen (aCons (eBin gIx (eVar 10) (eC (.int 0))) aNil)) aNil))))
    (sSeq (sSet 6 (eLst false (aCons (eVar 10) (aCons (eVar 10) (aCons (eVar 11) (aCons (eVar 5) (aCons (eRev (eVar 11) (oSome (eUn gNeg (eC (.int 1))))) (aCons (eBin gIx (eVar 10) (eC (.int 0))) aNil))))))))
    (sSeq (sFor (iRange1 (eC (.int 12))) (gVar 7) bTurn1)
    (sSeq (sIf (tOf (eBin (gEq true) (eCall m_lengths (aCons (eVar 10) (aCons (eVar 5) aNil))) (eCall m__law_lengths (aCons (eVar 5) aNil)))) (sRet (eC (.bl false))) sNil)
    (sIf (tOf (eBin (gEq true) (eVar 11) (eTup aNil))) (sSeq (sSet 14 (eBin (gAdd false) (eC (.int 2)) (eCall m__law_take (aCons (eVar 4) (aCons (eC (.int 5)) aNil)))))
    (sSeq (sSet 15 (eCall gTuple (aCons (eLc false (iRange1 (eVar 14)) (gVar 17) tYesM (eCall m__law_barred (aCons (eVar 11) (aCons (eVar 14) (aCons (eVar 17) aNil)))) [17]) aNil)))
    (sIf (tOf (eBin (gEq true) (eCall m_rule_for (aCons (eVar 11) (aCons (eVar 14) aNil))) (eTup (aCons (eVar 15) (aCons (eBin (gIn false) (eC (.str "mutual")) (eVar 11)) (aCons (eC (.str "again")) aNil)))))) (sRet (eC (.bl false))) sNil))) sNil))))))
def every : D := .lst [.str "before", .str "mutual", .str "next", .str "own", .str "partner"]
def E1 (c0 : D) (o : List (Option D)) : DL.Env := some c0 :: some every :: o
theorem kw_end {is : List Int} (hs : is.Sublist (rng 5)) (hb : Bag n μ) {c0 c1 c2 c3 c5 c6 c7 c8 c9 c10 c12 c13 c14 c15 c16 c17 : Option D} :
    ∃ ρ' μ', (sIf (tOf (eBin (gEq true) (eVar 11) (eTup aNil))) (sSeq (sSet 14 (eBin (gAdd false) (eC (.int 2)) (eCall m__law_take (aCons (eVar 4) (aCons (eC (.int 5)) aNil)))))
    (sSeq (sSet 15 (eCall gTuple (aCons (eLc false (iRange1 (eVar 14)) (gVar 17) tYesM (eCall m__law_barred (aCons (eVar 11) (aCons (eVar 14) (aCons (eVar 17) aNil)))) [17]) aNil)))
    (sIf (tOf (eBin (gEq true) (eCall m_rule_for (aCons (eVar 11) (aCons (eVar 14) aNil))) (eTup (aCons (eVar 15) (aCons (eBin (gIn false) (eC (.str "mutual")) (eVar 11)) (aCons (eC (.str "again")) aNil)))))) (sRet (eC (.bl false))) sNil))) sNil)
      [c0, c1, c2, c3, some (.ptr n), c5, c6, c7, c8, c9, c10, some (kwD is), c12, c13, c14, c15, c16, c17] μ = .ok (.nx ρ') μ' ∧ ∃ x14 x15, ρ' = [c0, c1, c2, c3, some (.ptr n), c5, c6, c7, c8, c9, c10, some (kwD is), c12, c13, x14, x15, c16, c17] := by
  have hi : ∀ i ∈ is, 0 ≤ i ∧ i < 5 := fun i h => mem_rng.mp (hs.subset h)
  have qn := gEq_nilT (μ := μ) (n := 0) (xs := is.map fun i => D.str (wd i)) true (fun x hx => by
    obtain ⟨i, h, rfl⟩ := List.mem_map.mp hx
    exact wd_ok (hi i h)) (by decide)
  by_cases h0 : is = []
  · subst h0
    have q2 : gEq true (kwD []) (.tup []) μ = .ok (.bl false) μ := qn
    exact ⟨_, μ, by simp [q2], c14, c15, rfl⟩
  · have em : (is.map fun i => D.str (wd i)).isEmpty = false := by cases is <;> first | rfl | exact absurd rfl h0
    rw [em] at qn
    have q2 : gEq true (kwD is) (.tup []) μ = .ok (.bl true) μ := qn
    obtain ⟨v, μ1, e1, v1, v2, bg⟩ := law_take_ok (m := 5) hb (by omega) (by omega)
    obtain ⟨m, hm⟩ : ∃ m : Nat, (2 : Int) + v = m := ⟨(2 + v).toNat, by omega⟩
    have m1 : 2 ≤ m := by omega
    have m2 : m ≤ 6 := by omega
    have e := lc_all (mu := false) (it := iRange1 (eVar 14)) (g := gVar 17) (f := eCall m__law_barred (aCons (eVar 11) (aCons (eVar 14) (aCons (eVar 17) aNil)))) (vs := [17]) (ρ := [c0, c1, c2, c3, some (.ptr n), c5, c6, c7, c8, c9, c10, some (kwD is), c12, c13, some (.int m), c15, c16, c17]) (μ := μ1) (μ1 := μ1) (ds := (rng m).map .int) (c := always) (fun d => match d with
        | .int p => namesD (barL is m p)
        | _ => .non) (by simp [kR1_nat (show m ≤ 1000 by omega), rngD_0]) rfl
      (fun d hd => by
        obtain ⟨p, hp, rfl⟩ := List.mem_map.mp hd
        exact ⟨_, by simp [wipeE]; rfl, by simp [(bar_both (μ := μ1) hs m1 m2 hp).2]⟩) (by simp; omega)
    have e' : eLc false (iRange1 (eVar 14)) (gVar 17) tYesM (eCall m__law_barred (aCons (eVar 11) (aCons (eVar 14) (aCons (eVar 17) aNil)))) [17] [c0, c1, c2, c3, some (.ptr n), c5, c6, c7, c8, c9, c10, some (kwD is), c12, c13, some (.int m), c15, c16, c17] μ1 = .ok (.lst (((rng m).map (barL is m)).map namesD)) μ1 := by
      rw [e, retL_f, List.map_map, List.map_map]; rfl
    have rf := rule_for_ok (μ := μ1) hs h0 m1 m2
    have k := in_kw (μ := μ1) hi (s := "mutual") (by decide +kernel)
    have gr := gEq_refl (μ := μ1) (m := 3) (d := kruleD is m) true okE_krule
    have kd : D.tup [D.tup (((rng m).map (barL is m)).map namesD), .bl (decide (D.str "mutual" ∈ is.map fun i => D.str (wd i))), .str "again"] = kruleD is m := rfl
    refine ⟨[c0, c1, c2, c3, some (.ptr n), c5, c6, c7, c8, c9, c10, some (kwD is), c12, c13, some (.int m), some (.tup (((rng m).map (barL is m)).map namesD)), c16, c17], μ1, ?_, _, _, rfl⟩
    generalize ((rng m).map (barL is m)).map namesD = bl at e' kd ⊢
    generalize decide (D.str "mutual" ∈ is.map fun i => D.str (wd i)) = mt at k kd
    simp [q2, e1, hm, e', rf, k, kd, gr]
theorem cell_ok {ns : List Int} {a : Int} (ha : 0 ≤ a ∧ a ≤ 100) {c3 c4 c5 c6 c7 c8 c9 c10 c11 c12 c13 c14 c15 c16 c17 : Option D} : ∃ ρ' μ', bCell [some (.arg (ns.map .int)), some every, some (.int a), c3, c4, c5, c6, c7, c8, c9, c10, c11, c12, c13, c14, c15, c16, c17] μ = .ok (.nx ρ') μ' ∧ ∃ x4 x5 x6 x7 x10 x11 x12 x13 x14 x15, ρ' = [some (.arg (ns.map .int)), some every, some (.int a), c3, x4, x5, x6, x7, c8, c9, x10, x11, x12, x13, x14, x15, c16, c17] := by
  have ea : ((a.toNat : Nat) : Int) = a := by omega
  obtain ⟨x, y, e1, hb⟩ := law_bag_ok (ns := ns) (μ := μ) (k := a.toNat) (by omega)
  rw [ea] at e1
  obtain ⟨r, μ2, e2, hr, _, bg⟩ := law_rule_ok (m := 6) hb (by omega) (by omega)
  have e2 : m__law_rule [.ptr μ.length, .int 6] (μ ++ [.lst [.int x, .int y]]) = .ok (ruleD r) μ2 := e2
  have hhi := hr.hi
  obtain ⟨is, μ3, e3, hs, bg3⟩ := kind_ok (n := μ.length) (w := 16) (it := iSeq (eVar 1)) (ρ := [some (.arg (ns.map .int)), some every, some (.int a), c3, some (.ptr μ.length), c5, c6, c7, c8, c9, c10, c11, c12, c13, c14, c15, c16, c17]) bg.bag (by
    have : ([.str "before", .str "mutual", .str "next", .str "own", .str "partner"] : List D) = (rng 5).map fun i => D.str (wd i) := by decide +kernel
    simp [every]
    rw [this]) (by simp) rfl (by decide)
  have hi : ∀ i ∈ is, 0 ≤ i ∧ i < 5 := fun i h => mem_rng.mp (hs.subset h)
  have hl5 : is.length ≤ 20 := by have := hs.length_le; rw [rng_len] at this; omega
  obtain ⟨k, μ4, e4, knd, kran, kl, hb4⟩ := law_order_ok (n := μ.length) (μ := μ3) bg3.bag (m := r.b.length) (by omega)
  let L : List D := [ruleD r, ruleD r, kwD is, namesD k, kwD is.reverse, barsD r.b]
  have hL : ∀ x ∈ L, okB 20 3 x = true := by
    intro x hx
    simp only [L, List.mem_cons, List.not_mem_nil, or_false] at hx
    rcases hx with h | h | h | h | h | h <;> rw [h]
    · exact okB_rule hr
    · exact okB_rule hr
    · exact okB_kwL hi hl5
    · exact okB_names k (by omega)
    · exact okB_kwL (fun i h => hi i (List.mem_reverse.mp h)) (by simpa using hl5)
    · exact okB_bars hr
  have turns := for_pre (f := D.int) (g := gVar 7) (c := always) (body := bTurn1)
    (fun p ρ μ2 => Bag μ.length μ2 ∧ ∃ x7 x12 x13, ρ = [some (.arg (ns.map .int)), some every, some (.int a), c3, some (.ptr μ.length), some (namesD k), some (.lst L), x7, c8, c9, some (ruleD r), some (kwD is), x12, x13, c14, c15, c16, c17]) (rng 12)
    (ρ := [some (.arg (ns.map .int)), some every, some (.int a), c3, some (.ptr μ.length), some (namesD k), some (.lst L), c7, c8, c9, some (ruleD r), some (kwD is), c12, c13, c14, c15, c16, c17]) (μ := μ4) (fun _ _ _ _ => rfl) ?_ ⟨hb4, _, _, _, rfl⟩
  · obtain ⟨ρ5, μ5, e5, hb5, x7, x12, x13, rfl⟩ := turns
    obtain ⟨ρ6, μ6, e6, x14, x15, rfl⟩ := kw_end (μ := μ5) hs hb5 (c0 := some (.arg (ns.map .int))) (c1 := some every) (c2 := some (.int a)) (c3 := c3) (c5 := some (namesD k)) (c6 := some (.lst L)) (c7 := x7) (c8 := c8) (c9 := c9) (c10 := some (ruleD r)) (c12 := x12) (c13 := x13) (c14 := c14) (c15 := c15) (c16 := c16) (c17 := c17)
    refine ⟨_, μ6, ?_, some (.ptr μ.length), some (namesD k), some (.lst L), x7, some (ruleD r), some (kwD is), x12, x13, x14, x15, rfl⟩
    refine (seq_at (ρ1 := [some (.arg (ns.map .int)), some every, some (.int a), c3, some (.ptr μ.length), c5, c6, c7, c8, c9, c10, c11, c12, c13, c14, c15, c16, c17]) (μ1 := μ ++ [.lst [.int x, .int y]]) (by simp [e1])).trans ?_
    refine (seq_at (ρ1 := [some (.arg (ns.map .int)), some every, some (.int a), c3, some (.ptr μ.length), c5, c6, c7, c8, c9, some (ruleD r), some (kwD is), c12, c13, c14, c15, c16, c17]) (μ1 := μ3) (by simp [e2, e3, kwD])).trans ?_
    refine (seq_at (ρ1 := [some (.arg (ns.map .int)), some every, some (.int a), c3, some (.ptr μ.length), some (namesD k), c6, c7, c8, c9, some (ruleD r), some (kwD is), c12, c13, c14, c15, c16, c17]) (μ1 := μ4) (by simp [e4])).trans ?_
    refine (seq_at (ρ1 := [some (.arg (ns.map .int)), some every, some (.int a), c3, some (.ptr μ.length), some (namesD k), some (.lst L), c7, c8, c9, some (ruleD r), some (kwD is), c12, c13, c14, c15, c16, c17]) (μ1 := μ4) ?_).trans ?_
    · have rv : gRev (some (-1)) (kwD is) μ4 = .ok (kwD is.reverse) μ4 := by
        rw [kwD, gRev_tup, ← List.map_reverse]; rfl
      simp [neg1, rv, L]
    refine (seq_at (ρ1 := [some (.arg (ns.map .int)), some every, some (.int a), c3, some (.ptr μ.length), some (namesD k), some (.lst L), x7, c8, c9, some (ruleD r), some (kwD is), x12, x13, c14, c15, c16, c17]) (μ1 := μ5) ?_).trans ?_
    · rw [sFor_at, iRange1_at, eC_at, and_ok, kR1_at (by omega) (by omega), and_ok, rngD_0]
      exact e5
    refine (if_no (μ1 := μ5) ?_).trans e6
    obtain ⟨x, l1, l2⟩ := len_both (μ := μ5) hr ⟨knd, kran⟩ kl
    have l3 := lengths_ok (μ := μ5) hr ⟨knd, kran⟩ kl (x := x) (fun μ => pure_move l1)
    have g := gEq_refl (μ := μ5) (m := 1) (d := namesD x) true (okE_names x 0)
    simp [l3, l2, g]
  · rintro q b s' ρ μ3 hq ⟨hb3, x7, x12, x13, rfl⟩
    obtain ⟨μ', y12, y13, e, hb'⟩ := turn1_ok (n := μ.length) (μ := μ3) hr hL (by simp [L]) (by simp [L]) hb3 (c0 := some (.arg (ns.map .int))) (c1 := some every) (c2 := some (.int a)) (c3 := c3) (c5 := some (namesD k)) (c7 := some (.int b)) (c8 := c8) (c9 := c9) (c11 := some (kwD is)) (c12 := x12) (c13 := x13) (c14 := c14) (c15 := c15) (c16 := c16) (c17 := c17)
    refine ⟨_, μ', ?_, hb', some (.int b), y12, y13, rfl⟩
    rw [Mbind_at, gVar_at, and_ok]
    exact e
/-! the written rows -/
def freeR : Rl := ⟨[[], []], false, "again"⟩
theorem free_ok : freeR.Ok := ⟨by decide, by decide, by decide, by decide, .inl rfl⟩
def sixD : List D := List.replicate 6 (namesD [0, 1, 2, 3, 4, 5])
def rows0 : List D := [.tup [.tup sixD, .bl true, .str "swap"], .tup [.tup (sixD ++ [.tup []]), .bl true, .str "swap"], .tup [.tup [.tup []], .bl true, .str "swap"], .tup [.tup [.tup [.int 0, .int 2], .tup []], .bl true, .str "anew"]]
def rows1 : List D := [.tup [.tup [.tup [], .tup []], .int 1, .str "anew"], .tup [.tup [.tup [], .tup []], .bl true, .str "back"], .tup [.str "own", .str "own"], .tup [.str "own", .str "partner"]]
def rows2 : List D := [.tup [.str "partner", .str "own"]]
def rows3 : List D := [.tup [.int 0, .int 1], .tup [.int 1, .int 0], .tup [.int 0, .int 0], .tup [.bl true, .int 0], .tup [.int 0, .int 1, .int 2], .tup []]
theorem rows_ok : ∀ d ∈ rows0 ++ rows1 ++ rows2 ++ rows3, okS 5 d = true := by decide +kernel
theorem kTup_6 {a b c d e f : D} : DL.kTup [a, b, c, d, e, f] μ = .ok (.tup [a, b, c, d, e, f]) μ := by unfold DL.kTup; rw [if_pos (by rw [line16]; simp)]; rfl
theorem six_at : gRepT (.tup [.tup [.int 0, .int 1, .int 2, .int 3, .int 4, .int 5]]) (.int 6) μ = .ok (.tup sixD) μ := by rfl
theorem end_ok {ns : List Int} {x2 x3 x4 x5 x6 x7 x8 x9 x10 x11 x12 x13 x14 x15 x16 x17 : Option D} : ∃ μ', (sSeq (sAsg (gTupl 2 (gsCons (gVar 8) (gsCons (gVar 9) gsNil))) (eTup (aCons (eTup (aCons (eTup (aCons (eTup aNil) (aCons (eTup aNil) aNil))) (aCons (eC (.bl false)) (aCons (eC (.str "again")) aNil)))) (aCons (eBin gRepT (eTup (aCons (eTup (aCons (eC (.int 0)) (aCons (eC (.int 1)) (aCons (eC (.int 2)) (aCons (eC (.int 3)) (aCons (eC (.int 4)) (aCons (eC (.int 5)) aNil))))))) aNil)) (eC (.int 6))) aNil))))
    (sSeq (sSet 3 (eLst true (aCons (eTup (aCons (eVar 9) (aCons (eC (.bl true)) (aCons (eC (.str "swap")) aNil)))) (aCons (eTup (aCons (eBin (gAdd false) (eVar 9) (eTup (aCons (eTup aNil) aNil))) (aCons (eC (.bl true)) (aCons (eC (.str "swap")) aNil)))) (aCons (eTup (aCons (eTup (aCons (eTup aNil) aNil)) (aCons (eC (.bl true)) (aCons (eC (.str "swap")) aNil)))) (aCons (eTup (aCons (eTup (aCons (eTup (aCons (eC (.int 0)) (aCons (eC (.int 2)) aNil))) (aCons (eTup aNil) aNil))) (aCons (eC (.bl true)) (aCons (eC (.str "anew")) aNil)))) aNil))))))
    (sSeq (sSet 3 (eBin (gAdd true) (eVar 3) (eLst false (aCons (eTup (aCons (eTup (aCons (eTup aNil) (aCons (eTup aNil) aNil))) (aCons (eC (.int 1)) (aCons (eC (.str "anew")) aNil)))) (aCons (eTup (aCons (eTup (aCons (eTup aNil) (aCons (eTup aNil) aNil))) (aCons (eC (.bl true)) (aCons (eC (.str "back")) aNil)))) (aCons (eTup (aCons (eC (.str "own")) (aCons (eC (.str "own")) aNil))) (aCons (eTup (aCons (eC (.str "own")) (aCons (eC (.str "partner")) aNil))) aNil)))))))
    (sSeq (sExp (eMth (gMut hAppend) (eVar 3) (aCons (eTup (aCons (eC (.str "partner")) (aCons (eC (.str "own")) aNil))) aNil)))
    (sSeq (sSet 3 (eBin (gAdd true) (eVar 3) (eLst false (aCons (eTup (aCons (eC (.int 0)) (aCons (eC (.int 1)) aNil))) (aCons (eTup (aCons (eC (.int 1)) (aCons (eC (.int 0)) aNil))) (aCons (eTup (aCons (eC (.int 0)) (aCons (eC (.int 0)) aNil))) (aCons (eTup (aCons (eC (.bl true)) (aCons (eC (.int 0)) aNil))) (aCons (eTup (aCons (eC (.int 0)) (aCons (eC (.int 1)) (aCons (eC (.int 2)) aNil)))) (aCons (eTup aNil) aNil)))))))))
    (sRet (eBin (gEq false) (eLc false (iSeq (eVar 3)) (gVar 12) (tNotM (tTru (eCall m__law_told_right (aCons (eVar 8) (aCons (eVar 12) aNil))))) (eVar 12) [12]) (eLst false aNil))))))))
      [some (.arg (ns.map .int)), some every, x2, x3, x4, x5, x6, x7, x8, x9, x10, x11, x12, x13, x14, x15, x16, x17] μ = .ok (.ret (.bl true)) μ' := by
  let en : Option D → DL.Env := fun z => [some (.arg (ns.map .int)), some every, x2, z, x4, x5, x6, x7, some (ruleD freeR), some (.tup sixD), x10, x11, x12, x13, x14, x15, x16, x17]
  let μ1 := μ ++ [.lst rows0]
  let μ2 := μ1 ++ [.lst (rows0 ++ rows1)]
  let μ3 := μ1 ++ [.lst (rows0 ++ rows1 ++ rows2)]
  let μ4 := μ3 ++ [.lst (rows0 ++ rows1 ++ rows2 ++ rows3)]
  refine ⟨μ4, ?_⟩
  have fd : D.tup [D.tup [D.tup [], D.tup []], D.bl false, D.str "again"] = ruleD freeR := rfl
  refine (seq_at (ρ1 := en x3) (μ1 := μ) (by simp [six_at, en, fd, kTup_6])).trans ?_
  refine (seq_at (ρ1 := en (some (.ptr μ.length))) (μ1 := μ1) ?_).trans ?_
  · have ga : gAdd false (.tup sixD) (.tup [.tup []]) μ = .ok (.tup (sixD ++ [.tup []])) μ := gAdd_tup false (by decide)
    simp [en, ga, μ1, rows0]
  refine (seq_at (ρ1 := en (some (.ptr μ1.length))) (μ1 := μ2) ?_).trans ?_
  · have ga : gAdd true (.ptr μ.length) (.lst rows1) μ1 = .ok (.ptr μ1.length) μ2 := gAdd_ptrL (xs := rows0) (by simp [μ1]) (by decide)
    unfold rows1 at ga
    simp [en, ga]
  refine (seq_at (ρ1 := en (some (.ptr μ1.length))) (μ1 := μ3) ?_).trans ?_
  · have h2 : μ2[μ1.length]? = some (.lst (rows0 ++ rows1)) := by simp [μ2]
    have ck := chkL_ptr h2
    have ap : gMut hAppend (.ptr μ1.length) [.tup [.str "partner", .str "own"]] μ2 = .ok .non μ3 := by
      refine (gMut_ptr h2 (zs := rows0 ++ rows1 ++ rows2) ?_).trans ?_
      · simp only [hAppend]
        rw [if_pos (by decide)]
        rfl
      · simp [μ2, μ3]
    simp [en, ck, ap]
  refine (seq_at (ρ1 := en (some (.ptr μ3.length))) (μ1 := μ4) ?_).trans ?_
  · have ga : gAdd true (.ptr μ1.length) (.lst rows3) μ3 = .ok (.ptr μ3.length) μ4 := gAdd_ptrL (xs := rows0 ++ rows1 ++ rows2) (by simp [μ3]) (by decide)
    unfold rows3 at ga
    simp [en, ga]
  · have h4 : μ4[μ3.length]? = some (.lst (rows0 ++ rows1 ++ rows2 ++ rows3)) := by simp [μ4]
    generalize hR : rows0 ++ rows1 ++ rows2 ++ rows3 = R at h4
    have hok : ∀ d ∈ R, okS 5 d = true := by rw [← hR]; exact rows_ok
    have hlen : R.length ≤ 100 := by rw [← hR]; decide
    have e := lc_odd (it := iSeq (eVar 3)) (g := gVar 12) (t := tNotM (tTru (eCall m__law_told_right (aCons (eVar 8) (aCons (eVar 12) aNil))))) (f := eVar 12) (vs := [12]) (ρ := en (some (.ptr μ3.length))) (μ := μ4) (μ1 := μ4) (ds := R) (c := holds μ3.length R) (fun _ => true) (by simp [en, gSeq_ptr h4]) (by unfold holds; rw [h4]; simp)
      (fun d hd => ⟨_, by simp [wipeE, en]; rfl, by simp [told_ok free_ok (hok d hd)], by simp⟩) (by omega)
    have fe : (R.filter fun d => !(fun _ => true) d) = [] := by simp
    rw [fe] at e
    have q := gEq_self (μ := μ4) (m := 1) (d := .lst []) false rfl
    simp [e, q]
theorem law_ok {ns : List Int} (h : ns.length ≤ 63) : m_law [.arg (ns.map .int)] μ = .ok (.bl true) μ := by
  have na : noPtrL [D.arg (ns.map .int)] = true := by simp [noPtr]
  let K : Int := if (if (ns.length : Int) + 3 < 10 then (ns.length : Int) + 3 else 10) > 4 then (if (ns.length : Int) + 3 < 10 then (ns.length : Int) + 3 else 10) else 4
  have hK : 0 ≤ K ∧ K ≤ 10 := by constructor <;> (simp only [K]; split <;> split <;> omega)
  have main := for_pre (f := D.int) (g := gVar 2) (c := always) (body := bCell)
    (fun p ρ μ' => ∃ x2 x3 x4 x5 x6 x7 x8 x9 x10 x11 x12 x13 x14 x15 x16 x17, ρ = [some (.arg (ns.map .int)), some every, x2, x3, x4, x5, x6, x7, x8, x9, x10, x11, x12, x13, x14, x15, x16, x17]) (rng K.toNat)
    (ρ := [some (.arg (ns.map .int)), some every, none, none, none, none, none, none, none, none, none, none, none, none, none, none, none, none]) (μ := []) (fun _ _ _ _ => rfl) ?_ ⟨_, _, _, _, _, _, _, _, _, _, _, _, _, _, _, _, rfl⟩
  · obtain ⟨ρ', μ', e, x2, x3, x4, x5, x6, x7, x8, x9, x10, x11, x12, x13, x14, x15, x16, x17, rfl⟩ := main
    obtain ⟨μ2, ef⟩ := end_ok (ns := ns) (μ := μ') (x2 := x2) (x3 := x3) (x4 := x4) (x5 := x5) (x6 := x6) (x7 := x7) (x8 := x8) (x9 := x9) (x10 := x10) (x11 := x11) (x12 := x12) (x13 := x13) (x14 := x14) (x15 := x15) (x16 := x16) (x17 := x17)
    refine pure_ret (μ' := μ2) na rfl ?_ rfl
    have kr : ∀ μ : Store, kR1 (.int K) μ = .ok ((rng K.toNat).map .int, always) μ := fun μ => by rw [kR1_at (by omega) (by omega), rngD_0]
    refine (seq_at (ρ1 := [some (.arg (ns.map .int)), some every, none, none, none, none, none, none, none, none, none, none, none, none, none, none, none, none]) (μ1 := []) (by simp [every])).trans ?_
    refine (seq_at (ρ1 := [some (.arg (ns.map .int)), some every, x2, x3, x4, x5, x6, x7, x8, x9, x10, x11, x12, x13, x14, x15, x16, x17]) (μ1 := μ') ?_).trans ef
    rw [sFor_at, iRange1_at]
    have em : (eCall gMax2 (aCons (eC (.int 4)) (aCons (eCall gMin2 (aCons (eC (.int 10)) (aCons (eBin (gAdd false) (eCall gLen (aCons (eVar 0) aNil)) (eC (.int 3))) aNil))) aNil))) [some (.arg (ns.map .int)), some every, none, none, none, none, none, none, none, none, none, none, none, none, none, none, none, none] [] = .ok (.int K) [] := by
      simp [K]
    rw [em, and_ok, kr, and_ok]
    exact e
  · rintro p a s ρ μ' hp ⟨x2, x3, x4, x5, x6, x7, x8, x9, x10, x11, x12, x13, x14, x15, x16, x17, rfl⟩
    have ha : a ∈ rng K.toNat := by rw [hp]; simp
    obtain ⟨ha1, ha2⟩ := mem_rng.mp ha
    obtain ⟨ρ', μ2, e, y4, y5, y6, y7, y10, y11, y12, y13, y14, y15, rfl⟩ := cell_ok (μ := μ') (ns := ns) (a := a) ⟨ha1, by omega⟩ (c3 := x3) (c4 := x4) (c5 := x5) (c6 := x6) (c7 := x7) (c8 := x8) (c9 := x9) (c10 := x10) (c11 := x11) (c12 := x12) (c13 := x13) (c14 := x14) (c15 := x15) (c16 := x16) (c17 := x17)
    refine ⟨_, μ2, ?_, some (.int a), x3, y4, y5, y6, y7, x8, x9, y10, y11, y12, y13, y14, y15, x16, x17, rfl⟩
    rw [Mbind_at, gVar_at, and_ok]
    exact e
end
end Lw
namespace Hd
open PySem PySem.Spec PyProof.Rows L2 DL
def dd__law_bag : He.DefD := ⟨("_law_bag", none), "_law_bag", "_law_bag", defArgs (top 32), defBody (top 32), defScope (top 32), [], []⟩
def dd__law_take : He.DefD := ⟨("_law_take", none), "_law_take", "_law_take", defArgs (top 33), defBody (top 33), defScope (top 33), [], []⟩
def dd__law_of : He.DefD := ⟨("_law_of", none), "_law_of", "_law_of", defArgs (top 34), defBody (top 34), defScope (top 34), [], []⟩
def dd__law_order : He.DefD := ⟨("_law_order", none), "_law_order", "_law_order", defArgs (top 44), defBody (top 44), defScope (top 44), [], []⟩
def dd__law_bars : He.DefD := ⟨("_law_bars", none), "_law_bars", "_law_bars", defArgs (top 35), defBody (top 35), defScope (top 35), [], []⟩
def dd__law_rule : He.DefD := ⟨("_law_rule", none), "_law_rule", "_law_rule", defArgs (top 36), defBody (top 36), defScope (top 36), [], []⟩
def dd_is_ascending : He.DefD := ⟨("is_ascending", none), "is_ascending", "is_ascending", defArgs (top 15), defBody (top 15), defScope (top 15), [], []⟩
def dd_is_number : He.DefD := ⟨("is_number", none), "is_number", "is_number", defArgs (top 13), defBody (top 13), defScope (top 13), [], []⟩
def dd_is_from : He.DefD := ⟨("is_from", none), "is_from", "is_from", defArgs (top 14), defBody (top 14), defScope (top 14), [], []⟩
def dd_are_names : He.DefD := ⟨("are_names", none), "are_names", "are_names", defArgs (top 16), defBody (top 16), defScope (top 16), [], []⟩
def dd_is_rule : He.DefD := ⟨("is_rule", none), "is_rule", "is_rule", defArgs (top 17), defBody (top 17), defScope (top 17), [], []⟩
def dd_need_rule : He.DefD := ⟨("need_rule", none), "need_rule", "need_rule", defArgs (top 21), defBody (top 21), defScope (top 21), [], []⟩
def dd_are_different : He.DefD := ⟨("are_different", none), "are_different", "are_different", defArgs (top 19), defBody (top 19), defScope (top 19), [], []⟩
def dd_is_outcome_for : He.DefD := ⟨("is_outcome_for", none), "is_outcome_for", "is_outcome_for", defArgs (top 20), defBody (top 20), defScope (top 20), [], []⟩
def dd_need_outcome : He.DefD := ⟨("need_outcome", none), "need_outcome", "need_outcome", defArgs (top 24), defBody (top 24), defScope (top 24), [], []⟩
def dd_lengths_of : He.DefD := ⟨("lengths_of", none), "lengths_of", "lengths_of", defArgs (top 27), defBody (top 27), defScope (top 27), [], []⟩
def dd_lengths : He.DefD := ⟨("lengths", none), "lengths", "lengths", defArgs (top 30), defBody (top 30), defScope (top 30), [], []⟩
def dd__law_lengths : He.DefD := ⟨("_law_lengths", none), "_law_lengths", "_law_lengths", defArgs (top 45), defBody (top 45), defScope (top 45), [], []⟩
def dd__law_any_value : He.DefD := ⟨("_law_any_value", none), "_law_any_value", "_law_any_value", defArgs (top 37), defBody (top 37), defScope (top 37), [], []⟩
def dd__law_spoiled : He.DefD := ⟨("_law_spoiled", none), "_law_spoiled", "_law_spoiled", defArgs (top 38), defBody (top 38), defScope (top 38), [], []⟩
def dd_is_kind : He.DefD := ⟨("is_kind", none), "is_kind", "is_kind", defArgs (top 18), defBody (top 18), defScope (top 18), [], []⟩
def dd_is_outcome : He.DefD := ⟨("is_outcome", none), "is_outcome", "is_outcome", defArgs (top 28), defBody (top 28), defScope (top 28), [], []⟩
def dd__law_int : He.DefD := ⟨("_law_int", none), "_law_int", "_law_int", defArgs (top 39), defBody (top 39), defScope (top 39), [], []⟩
def dd__law_is_rule : He.DefD := ⟨("_law_is_rule", none), "_law_is_rule", "_law_is_rule", defArgs (top 40), defBody (top 40), defScope (top 40), [], []⟩
def dd__law_is_kind : He.DefD := ⟨("_law_is_kind", none), "_law_is_kind", "_law_is_kind", defArgs (top 41), defBody (top 41), defScope (top 41), [], []⟩
def dd__law_is_outcome : He.DefD := ⟨("_law_is_outcome", none), "_law_is_outcome", "_law_is_outcome", defArgs (top 42), defBody (top 42), defScope (top 42), [], []⟩
def dd__law_told_right : He.DefD := ⟨("_law_told_right", none), "_law_told_right", "_law_told_right", defArgs (top 43), defBody (top 43), defScope (top 43), [], []⟩
def dd_need_kind : He.DefD := ⟨("need_kind", none), "need_kind", "need_kind", defArgs (top 22), defBody (top 22), defScope (top 22), [], []⟩
def dd_need_number : He.DefD := ⟨("need_number", none), "need_number", "need_number", defArgs (top 23), defBody (top 23), defScope (top 23), [], []⟩
def dd_barred_by : He.DefD := ⟨("barred_by", none), "barred_by", "barred_by", defArgs (top 25), defBody (top 25), defScope (top 25), [], []⟩
def dd_rule_of : He.DefD := ⟨("rule_of", none), "rule_of", "rule_of", defArgs (top 26), defBody (top 26), defScope (top 26), [], []⟩
def dd_rule_for : He.DefD := ⟨("rule_for", none), "rule_for", "rule_for", defArgs (top 29), defBody (top 29), defScope (top 29), [], []⟩
def dd__law_barred : He.DefD := ⟨("_law_barred", none), "_law_barred", "_law_barred", defArgs (top 46), defBody (top 46), defScope (top 46), [], []⟩
def dd_law : He.DefD := ⟨("law", none), "law", "law", defArgs (top 47), defBody (top 47), defScope (top 47), [], []⟩
def fn : List He.DefD := [dd__law_bag, dd__law_take, dd__law_of, dd__law_order, dd__law_bars, dd__law_rule, dd_is_ascending, dd_is_number, dd_is_from, dd_are_names, dd_is_rule, dd_need_rule, dd_are_different, dd_is_outcome_for, dd_need_outcome, dd_lengths_of, dd_lengths, dd__law_lengths, dd__law_any_value, dd__law_spoiled, dd_is_kind, dd_is_outcome, dd__law_int, dd__law_is_rule, dd__law_is_kind, dd__law_is_outcome, dd__law_told_right, dd_need_kind, dd_need_number, dd_barred_by, dd_rule_of, dd_rule_for, dd__law_barred, dd_law]
def fa : List He.Fa := [.glo "_law_bag", .glo "_law_take", .glo "_law_of", .glo "_law_order", .glo "_law_bars", .glo "_law_rule", .glo "is_ascending", .glo "is_number", .glo "is_from", .glo "are_names", .glo "is_rule", .glo "need_rule", .glo "are_different", .glo "is_outcome_for", .glo "need_outcome", .glo "lengths_of", .glo "lengths", .glo "_law_lengths", .glo "_law_any_value", .glo "_law_spoiled", .glo "is_kind", .glo "is_outcome", .glo "_law_int", .glo "_law_is_rule", .glo "_law_is_kind", .glo "_law_is_outcome", .glo "_law_told_right", .glo "need_kind", .glo "need_number", .glo "barred_by", .glo "rule_of", .glo "rule_for", .glo "_law_barred", .glo "law", .free "abs", .free "all", .free "bool", .free "int", .free "isinstance", .free "len", .free "list", .free "max", .free "min", .free "range", .free "set", .free "sorted", .free "str", .free "tuple", .free "zip", .str "AGAIN" "again", .int "MOST" 6, .glo "WAYS", .glo "WORDS"]
def ex (K : PySem.W.Frag) : Bool := He.tupB K "WAYS" [.str "again", .str "anew", .str "swap"] && He.tupB K "WORDS" [.str "before", .str "mutual", .str "next", .str "own", .str "partner"]
theorem exs_0 {K : PySem.W.Frag} (h : ex K = true) : He.tupB K "WAYS" [.str "again", .str "anew", .str "swap"] = true := (Bool.and_eq_true_iff.mp h).1
theorem exs_1 {K : PySem.W.Frag} (h : ex K = true) : He.tupB K "WORDS" [.str "before", .str "mutual", .str "next", .str "own", .str "partner"] = true := (Bool.and_eq_true_iff.mp h).2
abbrev R : PySem.W.OpenRow := PySem.W.OpenLaw.row PySem.Challenge.rw_hatnames_k01_rules_kinds_and_outcomes_re
abbrev hk : PySem.W.Hook := He.hookX 5 fa fn [] [] ex
def ob (s : PySem.W.SharedT) : He.AlX := He.obsX 5 fa fn [] [] ex (HandSHeadRun.getT s)
theorem ob_eq (s : PySem.W.SharedT) : ob s = hk.obs s.abs := He.obsX_eq (HandSHeadRun.getT_eq s)
def loose : List Str := (["DrawError", "InvalidRule", "InvalidOutcome", "InvalidKind", "InvalidNumber", "AGAIN", "ANEW", "SWAP", "WAYS", "WORDS", "MOST", "is_number", "is_from", "is_ascending", "are_names", "is_rule", "is_kind", "are_different", "is_outcome_for", "need_rule", "need_kind", "need_number", "need_outcome", "barred_by", "rule_of", "lengths_of", "is_outcome", "rule_for", "lengths", "_law_bag"] : List Str) ++ (["_law_take", "_law_of", "_law_bars", "_law_rule", "_law_any_value", "_law_spoiled", "_law_int", "_law_is_rule", "_law_is_kind", "_law_is_outcome", "_law_told_right", "_law_order", "_law_lengths", "_law_barred"] : List Str)
theorem run (w : World) : HandSHeadRun.RunEq R (PySem.W.view R.prog [47]) hk ob 4000 loose w := by
  intro os
  kernel_rfl
theorem fx [WC] [FA] {w : World} {h : Heap} {K : PySem.W.Frag} {mg : Str → Option Value} (X : K.In h) (G : h.Ns mainGlobals mg) (fo : FaOk mg) (c : He.SaysX fa fn [] [] ex w h K) : Lw.Fx K mg where
  d__law_bag := ⟨_, He.glo_ok X G (c.t.d.fact 0 (f := .glo "_law_bag") rfl), c.t.d.def_ 0 (d := dd__law_bag) rfl⟩
  d__law_take := ⟨_, He.glo_ok X G (c.t.d.fact 1 (f := .glo "_law_take") rfl), c.t.d.def_ 1 (d := dd__law_take) rfl⟩
  d__law_of := ⟨_, He.glo_ok X G (c.t.d.fact 2 (f := .glo "_law_of") rfl), c.t.d.def_ 2 (d := dd__law_of) rfl⟩
  d__law_order := ⟨_, He.glo_ok X G (c.t.d.fact 3 (f := .glo "_law_order") rfl), c.t.d.def_ 3 (d := dd__law_order) rfl⟩
  d__law_bars := ⟨_, He.glo_ok X G (c.t.d.fact 4 (f := .glo "_law_bars") rfl), c.t.d.def_ 4 (d := dd__law_bars) rfl⟩
  d__law_rule := ⟨_, He.glo_ok X G (c.t.d.fact 5 (f := .glo "_law_rule") rfl), c.t.d.def_ 5 (d := dd__law_rule) rfl⟩
  d_is_ascending := ⟨_, He.glo_ok X G (c.t.d.fact 6 (f := .glo "is_ascending") rfl), c.t.d.def_ 6 (d := dd_is_ascending) rfl⟩
  d_is_number := ⟨_, He.glo_ok X G (c.t.d.fact 7 (f := .glo "is_number") rfl), c.t.d.def_ 7 (d := dd_is_number) rfl⟩
  d_is_from := ⟨_, He.glo_ok X G (c.t.d.fact 8 (f := .glo "is_from") rfl), c.t.d.def_ 8 (d := dd_is_from) rfl⟩
  d_are_names := ⟨_, He.glo_ok X G (c.t.d.fact 9 (f := .glo "are_names") rfl), c.t.d.def_ 9 (d := dd_are_names) rfl⟩
  d_is_rule := ⟨_, He.glo_ok X G (c.t.d.fact 10 (f := .glo "is_rule") rfl), c.t.d.def_ 10 (d := dd_is_rule) rfl⟩
  d_need_rule := ⟨_, He.glo_ok X G (c.t.d.fact 11 (f := .glo "need_rule") rfl), c.t.d.def_ 11 (d := dd_need_rule) rfl⟩
  d_are_different := ⟨_, He.glo_ok X G (c.t.d.fact 12 (f := .glo "are_different") rfl), c.t.d.def_ 12 (d := dd_are_different) rfl⟩
  d_is_outcome_for := ⟨_, He.glo_ok X G (c.t.d.fact 13 (f := .glo "is_outcome_for") rfl), c.t.d.def_ 13 (d := dd_is_outcome_for) rfl⟩
  d_need_outcome := ⟨_, He.glo_ok X G (c.t.d.fact 14 (f := .glo "need_outcome") rfl), c.t.d.def_ 14 (d := dd_need_outcome) rfl⟩
  d_lengths_of := ⟨_, He.glo_ok X G (c.t.d.fact 15 (f := .glo "lengths_of") rfl), c.t.d.def_ 15 (d := dd_lengths_of) rfl⟩
  d_lengths := ⟨_, He.glo_ok X G (c.t.d.fact 16 (f := .glo "lengths") rfl), c.t.d.def_ 16 (d := dd_lengths) rfl⟩
  d__law_lengths := ⟨_, He.glo_ok X G (c.t.d.fact 17 (f := .glo "_law_lengths") rfl), c.t.d.def_ 17 (d := dd__law_lengths) rfl⟩
  d__law_any_value := ⟨_, He.glo_ok X G (c.t.d.fact 18 (f := .glo "_law_any_value") rfl), c.t.d.def_ 18 (d := dd__law_any_value) rfl⟩
  d__law_spoiled := ⟨_, He.glo_ok X G (c.t.d.fact 19 (f := .glo "_law_spoiled") rfl), c.t.d.def_ 19 (d := dd__law_spoiled) rfl⟩
  d_is_kind := ⟨_, He.glo_ok X G (c.t.d.fact 20 (f := .glo "is_kind") rfl), c.t.d.def_ 20 (d := dd_is_kind) rfl⟩
  d_is_outcome := ⟨_, He.glo_ok X G (c.t.d.fact 21 (f := .glo "is_outcome") rfl), c.t.d.def_ 21 (d := dd_is_outcome) rfl⟩
  d__law_int := ⟨_, He.glo_ok X G (c.t.d.fact 22 (f := .glo "_law_int") rfl), c.t.d.def_ 22 (d := dd__law_int) rfl⟩
  d__law_is_rule := ⟨_, He.glo_ok X G (c.t.d.fact 23 (f := .glo "_law_is_rule") rfl), c.t.d.def_ 23 (d := dd__law_is_rule) rfl⟩
  d__law_is_kind := ⟨_, He.glo_ok X G (c.t.d.fact 24 (f := .glo "_law_is_kind") rfl), c.t.d.def_ 24 (d := dd__law_is_kind) rfl⟩
  d__law_is_outcome := ⟨_, He.glo_ok X G (c.t.d.fact 25 (f := .glo "_law_is_outcome") rfl), c.t.d.def_ 25 (d := dd__law_is_outcome) rfl⟩
  d__law_told_right := ⟨_, He.glo_ok X G (c.t.d.fact 26 (f := .glo "_law_told_right") rfl), c.t.d.def_ 26 (d := dd__law_told_right) rfl⟩
  d_need_kind := ⟨_, He.glo_ok X G (c.t.d.fact 27 (f := .glo "need_kind") rfl), c.t.d.def_ 27 (d := dd_need_kind) rfl⟩
  d_need_number := ⟨_, He.glo_ok X G (c.t.d.fact 28 (f := .glo "need_number") rfl), c.t.d.def_ 28 (d := dd_need_number) rfl⟩
  d_barred_by := ⟨_, He.glo_ok X G (c.t.d.fact 29 (f := .glo "barred_by") rfl), c.t.d.def_ 29 (d := dd_barred_by) rfl⟩
  d_rule_of := ⟨_, He.glo_ok X G (c.t.d.fact 30 (f := .glo "rule_of") rfl), c.t.d.def_ 30 (d := dd_rule_of) rfl⟩
  d_rule_for := ⟨_, He.glo_ok X G (c.t.d.fact 31 (f := .glo "rule_for") rfl), c.t.d.def_ 31 (d := dd_rule_for) rfl⟩
  d__law_barred := ⟨_, He.glo_ok X G (c.t.d.fact 32 (f := .glo "_law_barred") rfl), c.t.d.def_ 32 (d := dd__law_barred) rfl⟩
  b_abs := He.free_ok X G (c.t.d.fact 34 (f := .free "abs") rfl)
  b_all := He.free_ok X G (c.t.d.fact 35 (f := .free "all") rfl)
  b_bool := He.free_ok X G (c.t.d.fact 36 (f := .free "bool") rfl)
  b_int := He.free_ok X G (c.t.d.fact 37 (f := .free "int") rfl)
  b_isinstance := He.free_ok X G (c.t.d.fact 38 (f := .free "isinstance") rfl)
  b_len := He.free_ok X G (c.t.d.fact 39 (f := .free "len") rfl)
  b_list := He.free_ok X G (c.t.d.fact 40 (f := .free "list") rfl)
  b_max := He.free_ok X G (c.t.d.fact 41 (f := .free "max") rfl)
  b_min := He.free_ok X G (c.t.d.fact 42 (f := .free "min") rfl)
  b_range := He.free_ok X G (c.t.d.fact 43 (f := .free "range") rfl)
  b_set := He.free_ok X G (c.t.d.fact 44 (f := .free "set") rfl)
  b_sorted := He.free_ok X G (c.t.d.fact 45 (f := .free "sorted") rfl)
  b_str := He.free_ok X G (c.t.d.fact 46 (f := .free "str") rfl)
  b_tuple := He.free_ok X G (c.t.d.fact 47 (f := .free "tuple") rfl)
  b_zip := He.free_ok X G (c.t.d.fact 48 (f := .free "zip") rfl)
  c_AGAIN := He.str_ok X G (c.t.d.fact 49 (f := .str "AGAIN" "again") rfl)
  c_MOST := He.int_ok X G (c.t.d.fact 50 (f := .int "MOST" 6) rfl)
  c_WAYS := ⟨_, He.glo_ok X G (c.t.d.fact 51 (f := .glo "WAYS") rfl), fun F θ => .tup (He.tupB_ok (exs_0 c.more) F) (.cons (.str _) (.cons (.str _) (.cons (.str _) (.nil))))⟩
  c_WORDS := ⟨_, He.glo_ok X G (c.t.d.fact 52 (f := .glo "WORDS") rfl), fun F θ => .tup (He.tupB_ok (exs_1 c.more) F) (.cons (.str _) (.cons (.str _) (.cons (.str _) (.cons (.str _) (.cons (.str _) (.nil))))))⟩
  fa := fo
end Hd
open PySem PySem.W PySem.Calls PyProof.Rows
theorem PySem.Challenge.cw_hatnames_k01_rules_kinds_and_outcomes_re_holds : PySem.Challenge.rw_hatnames_k01_rules_kinds_and_outcomes_re.Holds := by
  w_on; o_law
  refine HandSHeadRun.head_any (r := OpenLaw.row PySem.Challenge.rw_hatnames_k01_rules_kinds_and_outcomes_re) (q := view (OpenLaw.row PySem.Challenge.rw_hatnames_k01_rules_kinds_and_outcomes_re).prog [47]) (H := Hd.hk) (ob := Hd.ob) (M := 4000) (loose := Hd.loose) (d := HandSHeadRun.topDef (OpenLaw.row PySem.Challenge.rw_hatnames_k01_rules_kinds_and_outcomes_re).prog 47) (kwd := []) Hd.ob_eq
    (by kernel_rfl) (fun s => by kernel_rfl) Hd.run (by kernel_rfl) (by kernel_rfl) (by kernel_rfl) (by rfl) (by first | assumption | decide +kernel) (by decide +kernel) ⟨rfl, rfl, rfl, rfl, rfl, by decide +kernel⟩ ?hw ?hc
  case hw => w_witness2
  case hc =>
    refine LamX.walk_ofTsE (l := PySem.Challenge.rw_hatnames_k01_rules_kinds_and_outcomes_re) (n := 63) (k := 17) (x := "script") (CX := fun w => L2.CX (PySem.Challenge.rw_hatnames_k01_rules_kinds_and_outcomes_re).prog w) rfl (by decide) (by kernel_rfl) ⟨rfl, by decide, by decide⟩ ?F (fun _ _ _ _ _ ⟨_, _, _, _, _, _, _, _, _, _, _, _, z⟩ => z)
    case F =>
      intro w mg fa h Y G hmg0
      letI : DL.WC := ⟨w⟩
      letI : DL.FA := ⟨fun x => match mg x with
        | some (.ref f) => f
        | _ => 0⟩
      have fo : DL.FaOk mg := fun x f h => by
        show (match mg x with
        | some (.ref f) => f
        | _ => 0) = f
        rw [h]
      obtain ⟨K, KX, c⟩ := Y
      have hmg : mg ("law" : PySem.Str) = some (.ref fa) := by
        have e : (HandSHeadRun.topDef (OpenLaw.row PySem.Challenge.rw_hatnames_k01_rules_kinds_and_outcomes_re).prog 47).name = ("law" : PySem.Str) := by kernel_rfl
        rw [← e]
        exact hmg0
      have e := hmg.symm.trans (He.glo_ok KX G (c.t.d.fact 33 (f := .glo "law") rfl))
      cases e
      obtain ⟨fd, hb, hF⟩ := Lw.g_law (P := (PySem.Challenge.rw_hatnames_k01_rules_kinds_and_outcomes_re).prog) (Hd.fx KX G fo c) (c.t.d.def_ 33 (d := Hd.dd_law) rfl)
      exact ⟨K, KX, fd, [], DL.spM K mg Lw.m_law, fun _ h => (nomatch h), fun _ h => (nomatch h), fun _ h => (nomatch h), hb, fun H a ns hl _ _ hS => DL.law_sp hS (Lw.law_ok hl), fun base _ _ _ => hF base⟩
