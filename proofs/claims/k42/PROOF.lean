import PyProof.Rows.All
import Wide.All
import OpenK.AllK
import Wide.FinOn
import PySem.Challenge.RW_runsproven_k42_words_reckoned_in_any_ord
import HandS.ForMost
import HandS.Exc
import HandS.ExcOwn
import HandS.TryOnly
import HandS.WordsExc
import HandS.Star
import HandS.Style
import HandS.Flow
import HandS.DictComp
import HandS.Zip
import HandS.Conv
import HandS.SortInts
import HandS.Walk
import PyProof.Draws
import PyProof.EnumMake
import HandS.TupMul
import HandS.TupAny
import HandS.SetKeys
import HandS.TupLen
import HandS.WordsDict
import PyProof.DictUpdate
import PyProof.DictMoreH
import HandS.More
import HandS.TryMany
import PyProof.WalkInts
import HandS.Ends
import HandS.Defaults
import KE.BitLaws
set_option Elab.async false
set_option linter.all false
set_option maxRecDepth 100000
set_option maxHeartbeats 1000000
/-! VM1: Python values and cells as plain Lean data; how they lie in the tracked heap; outcomes. -/
namespace VM
open PySem L2

abbrev D := PyData
/-- a value: data that never changes (d: made by the run; k: the module's, the script's), a cell's number, a constant -/
inductive B where
  | d (x : D) | k (x : D) | r (k : Nat) | c (v : V) | m (f : Addr) (k : Nat)
/-- a cell: what may change -/
inductive Cell where
  | lst (xs : List B)
  | dK (kvs : List (Key × B))
  | dT (kvs : List (List Key × B))
  | ins (C : Str) (fs : List (Str × B))
  | dead
abbrev Cs := List Cell
/-- an outcome -/
inductive ER (α : Type) where
  | ok (a : α) (cs : Cs) | ex (x : Str) (cs : Cs) | no
namespace ER
variable {α β : Type}
def bind (r : ER α) (k : α → Cs → ER β) : ER β := match r with
  | ok a cs => k a cs
  | ex x cs => ex x cs
  | no => no
@[simp] theorem bind_ok {a : α} {cs : Cs} {k : α → Cs → ER β} : (ok a cs).bind k = k a cs := rfl
@[simp] theorem bind_ex {x : Str} {cs : Cs} {k : α → Cs → ER β} : (ex x cs : ER α).bind k = ex x cs := rfl
@[simp] theorem bind_no {k : α → Cs → ER β} : (no : ER α).bind k = no := rfl
end ER
abbrev Sl := List (Option B)
abbrev Fn (α : Type) := Sl → Cs → ER α

/-! ### the heap -/
mutual
/-- data that the run has made: each row stands at its own address -/
inductive Rp (F : Hp) : V → D → Prop
  | non : Rp F .non .none
  | bl (b : Bool) : Rp F (.bl b) (.bool b)
  | int (i : Int) : Rp F (.int i) (.int i)
  | str (x : Str) : Rp F (.str x) (.str x)
  | lst {a : Addr} {xs : List V} {ds : List D} : F a = some (.lst xs) → RpAll F xs ds → Rp F (.ref a) (.list ds)
  | tup {a : Addr} {xs : List V} {ds : List D} : F a = some (.tup xs) → RpAll F xs ds → Rp F (.ref a) (.tuple ds)
inductive RpAll (F : Hp) : List V → List D → Prop
  | nil : RpAll F [] []
  | cons {v : V} {vs : List V} {d : D} {ds : List D} : Rp F v d → RpAll F vs ds → RpAll F (v :: vs) (d :: ds)
end
section
variable (K : PySem.W.Frag) (mg : Str → Option Value)
def RepB (F : Hp) (as : List Addr) : V → B → Prop
  | v, .d x => Rp F v x
  | v, .k x => Dp K F v x
  | v, .r k => ∃ a, as[k]? = some a ∧ v = .ref a
  | v, .c w => v = w
  | v, .m f k => ∃ p a, v = .ref p ∧ F p = some (.met f a) ∧ as[k]? = some a
def RepP {κ : Type} (F : Hp) (as : List Addr) : (κ × V) → (κ × B) → Prop := fun p q => p.1 = q.1 ∧ RepB K F as p.2 q.2
def RepC (F : Hp) (as : List Addr) (H : Hp) (a : Addr) : Cell → Prop
  | .lst bs => ∃ vs, H a = some (.lst vs) ∧ Paired (RepB K F as) vs bs
  | .dK kvs => ∃ vs, H a = some (.dK vs) ∧ Paired (RepP K F as) vs kvs
  | .dT kvs => ∃ vs, H a = some (.dT vs) ∧ Paired (RepP K F as) vs kvs
  | .ins nm fs => ∃ C dx vs, mg nm = some (.ref C) ∧ H a = some (.ins C dx vs) ∧ Paired (RepP K F as) vs fs
  | .dead => True
/-- the known part F, the cells' addresses, the cells, the heap -/
structure Sim (F : Hp) (as : List Addr) (cs : Cs) (H : Hp) : Prop where
  sub : ∀ a o, F a = some o → H a = some o
  len : as.length = cs.length
  nd : as.Nodup
  sep : ∀ (k : Nat) (a : Addr) (c : Cell), as[k]? = some a → cs[k]? = some c → c ≠ Cell.dead → F a = none
  cell : ∀ (k : Nat) (a : Addr) (c : Cell), as[k]? = some a → cs[k]? = some c → RepC K mg F as H a c
  has : ∀ a ∈ as, H a ≠ none
structure Evo (F : Hp) (as : List Addr) (H F' : Hp) (as' : List Addr) (H' : Hp) : Prop where
  ex : ∀ a o, F a = some o → F' a = some o
  pre : ∃ t, as' = as ++ t
  fr : ∀ a o, H a = some o → a ∉ as → H' a = some o
  newF : ∀ a, F' a ≠ none → F a ≠ none ∨ a ∈ as ∨ H a = none
  newA : ∀ a, a ∈ as' → a ∈ as ∨ H a = none
theorem Evo.refl {F : Hp} {as : List Addr} {H : Hp} : Evo F as H F as H := ⟨fun _ _ h => h, ⟨[], by simp⟩, fun _ _ h _ => h, fun _ h => .inl h, fun _ h => .inl h⟩
theorem Evo.keep {F F1 : Hp} {as as1 : List Addr} {H H1 : Hp} (a : Evo F as H F1 as1 H1) {x : Addr} {o : HO} (h : H x = some o) (hn : x ∉ as) : H1 x = some o ∧ x ∉ as1 :=
  ⟨a.fr x o h hn, fun hm => by
    rcases a.newA x hm with q | q
    · exact hn q
    · rw [h] at q; cases q⟩
theorem Evo.trans {F F1 F2 : Hp} {as as1 as2 : List Addr} {H H1 H2 : Hp} (a : Evo F as H F1 as1 H1) (b : Evo F1 as1 H1 F2 as2 H2) : Evo F as H F2 as2 H2 := by
  obtain ⟨t1, e1⟩ := a.pre
  obtain ⟨t2, e2⟩ := b.pre
  have back : ∀ x, H1 x = none → x ∈ as ∨ H x = none := fun x q => by
    cases e : H x with
    | none => exact .inr rfl
    | some o =>
      by_cases hm : x ∈ as
      · exact .inl hm
      · rw [a.fr x o e hm] at q; cases q
  refine ⟨fun x o h => b.ex x o (a.ex x o h), ⟨t1 ++ t2, by rw [e2, e1, List.append_assoc]⟩, fun x o h hn => b.fr x o (a.keep h hn).1 (a.keep h hn).2, fun x h => ?_, fun x h => ?_⟩
  · rcases b.newF x h with q | q | q
    · exact a.newF x q
    · exact (a.newA x q).elim (fun z => .inr (.inl z)) fun z => .inr (.inr z)
    · exact .inr (back x q)
  · rcases b.newA x h with q | q
    · exact a.newA x q
    · exact back x q
theorem Evo.fresh {F F1 : Hp} {as as1 : List Addr} {H H1 : Hp} (a : Evo F as H F1 as1 H1) {p : Addr} (h : H1 p = none) (hn : p ∉ as1) : H p = none := by
  cases e : H p with
  | none => rfl
  | some o =>
    by_cases hm : p ∈ as
    · obtain ⟨t, e⟩ := a.pre
      exact absurd (by rw [e]; exact List.mem_append_left _ hm) hn
    · rw [a.fr p o e hm] at h; cases h
variable {K} {mg}
theorem ex_rd {H H' : Hp} {a : Addr} {u : HO} (e : ∀ a o, H a = some o → H' a = some o) (h : Rd H a u) : Rd H' a u := by
  rcases h with h | ⟨o, h⟩
  · exact Or.inl (e a _ h)
  · exact Or.inr ⟨o, e a _ h⟩
theorem ex_l {H H' : Hp} {a : Addr} {xs : List V} (e : ∀ a o, H a = some o → H' a = some o) (h : SqL K H a xs) : SqL K H' a xs := h.elim (fun h => Or.inl (ex_rd e h)) Or.inr
theorem ex_t {H H' : Hp} {a : Addr} {xs : List V} (e : ∀ a o, H a = some o → H' a = some o) (h : SqT K H a xs) : SqT K H' a xs := h.elim (fun h => Or.inl (ex_rd e h)) Or.inr
mutual
theorem rp_mono {F F' : Hp} (h : ∀ a o, F a = some o → F' a = some o) : ∀ (x : D) (v : V), Rp F v x → Rp F' v x
  | .none, _, .non => .non
  | .bool _, _, .bl b => .bl b
  | .int _, _, .int i => .int i
  | .str _, _, .str x => .str x
  | .list ds, _, .lst hs ha => .lst (h _ _ hs) (rp_monoAll h ds _ ha)
  | .tuple ds, _, .tup hs ha => .tup (h _ _ hs) (rp_monoAll h ds _ ha)
theorem rp_monoAll {F F' : Hp} (h : ∀ a o, F a = some o → F' a = some o) : ∀ (xs : List D) (vs : List V), RpAll F vs xs → RpAll F' vs xs
  | [], _, .nil => .nil
  | d :: ds, _, .cons h1 h2 => .cons (rp_mono h d _ h1) (rp_monoAll h ds _ h2)
end
mutual
theorem rp_dp {F : Hp} : ∀ (x : D) (v : V), Rp F v x → Dp K F v x
  | .none, _, .non => .non
  | .bool _, _, .bl b => .bl b
  | .int _, _, .int i => .int i
  | .str _, _, .str x => .str x
  | .list ds, _, .lst hs ha => .lst (SqL.of hs) (rp_dpAll ds _ ha)
  | .tuple ds, _, .tup hs ha => .tup (SqT.of hs) (rp_dpAll ds _ ha)
theorem rp_dpAll {F : Hp} : ∀ (xs : List D) (vs : List V), RpAll F vs xs → DpAll K F vs xs
  | [], _, .nil => .nil
  | d :: ds, _, .cons h1 h2 => .cons (rp_dp d _ h1) (rp_dpAll ds _ h2)
end
mutual
theorem dp_mono {F F' : Hp} (h : ∀ a o, F a = some o → F' a = some o) : ∀ (x : D) (v : V), Dp K F v x → Dp K F' v x
  | .none, _, .non => .non
  | .bool _, _, .bl b => .bl b
  | .int _, _, .int i => .int i
  | .str _, _, .str x => .str x
  | .list ds, _, .lst hs ha => .lst (ex_l h hs) (dp_monoAll h ds _ ha)
  | .tuple ds, _, .tup hs ha => .tup (ex_t h hs) (dp_monoAll h ds _ ha)
theorem dp_monoAll {F F' : Hp} (h : ∀ a o, F a = some o → F' a = some o) : ∀ (xs : List D) (vs : List V), DpAll K F vs xs → DpAll K F' vs xs
  | [], _, .nil => .nil
  | d :: ds, _, .cons h1 h2 => .cons (dp_mono h d _ h1) (dp_monoAll h ds _ h2)
end
theorem get_pre {α : Type} {as as' : List α} {k : Nat} {a : α} (h : ∃ t, as' = as ++ t) (e : as[k]? = some a) : as'[k]? = some a := by
  obtain ⟨t, rfl⟩ := h
  rw [List.getElem?_append_left (List.getElem?_eq_some_iff.mp e).1]
  exact e
theorem repB_mono {F F' : Hp} {as as' : List Addr} {v : V} {b : B} (h : ∀ a o, F a = some o → F' a = some o) (p_ : ∃ t, as' = as ++ t) (r : RepB K F as v b) : RepB K F' as' v b := by
  cases b with
  | d x => exact rp_mono h x v r
  | k x => exact dp_mono h x v r
  | r k => obtain ⟨a, e, z⟩ := r; exact ⟨a, get_pre p_ e, z⟩
  | c w => exact r
  | m f k => obtain ⟨p, a, e1, e2, e3⟩ := r; exact ⟨p, a, e1, h _ _ e2, get_pre p_ e3⟩
theorem Evo.repB {F F' : Hp} {as as' : List Addr} {H H' : Hp} (e : Evo F as H F' as' H') {v : V} {b : B} (r : RepB K F as v b) : RepB K F' as' v b := repB_mono e.ex e.pre r
theorem pair_mono {α β : Type} {R R' : α → β → Prop} (h : ∀ a b, R a b → R' a b) : ∀ {xs : List α} {ys : List β}, Paired R xs ys → Paired R' xs ys
  | _, _, .nil => .nil
  | _, _, .cons a t => .cons (h _ _ a) (pair_mono h t)
theorem pair_len {α β : Type} {R : α → β → Prop} : ∀ {xs : List α} {ys : List β}, Paired R xs ys → xs.length = ys.length
  | _, _, .nil => rfl
  | _, _, .cons _ t => by simp [pair_len t]
theorem pair_get {α β : Type} {R : α → β → Prop} : ∀ {xs : List α} {ys : List β} {i : Nat} {y : β}, Paired R xs ys → ys[i]? = some y → ∃ x, xs[i]? = some x ∧ R x y
  | _, _, _, _, .nil, e => by simp at e
  | _, _, 0, _, .cons r _, e => by simp at e; subst e; exact ⟨_, rfl, r⟩
  | _, _, i + 1, y, .cons _ t, e => by
    obtain ⟨x, h1, h2⟩ := pair_get (i := i) (y := y) t (by simpa using e)
    exact ⟨x, by simpa using h1, h2⟩
theorem pair_get' {α β : Type} {R : α → β → Prop} : ∀ {xs : List α} {ys : List β} {i : Nat} {x : α}, Paired R xs ys → xs[i]? = some x → ∃ y, ys[i]? = some y ∧ R x y
  | _, _, _, _, .nil, e => by simp at e
  | _, _, 0, _, .cons r _, e => by simp at e; subst e; exact ⟨_, rfl, r⟩
  | _, _, i + 1, x, .cons _ t, e => by
    obtain ⟨y, h1, h2⟩ := pair_get' (i := i) (x := x) t (by simpa using e)
    exact ⟨y, by simpa using h1, h2⟩
theorem pair_set {α β : Type} {R : α → β → Prop} {x : α} {y : β} (r : R x y) : ∀ {xs : List α} {ys : List β} (i : Nat), Paired R xs ys → Paired R (xs.set i x) (ys.set i y)
  | _, _, _, .nil => .nil
  | _, _, 0, .cons _ t => .cons r t
  | _, _, i + 1, .cons q t => .cons q (pair_set r i t)
theorem pair_app {α β : Type} {R : α → β → Prop} : ∀ {xs xs' : List α} {ys ys' : List β}, Paired R xs ys → Paired R xs' ys' → Paired R (xs ++ xs') (ys ++ ys')
  | _, _, _, _, .nil, s => s
  | _, _, _, _, .cons r t, s => .cons r (pair_app t s)
theorem pair_take {α β : Type} {R : α → β → Prop} : ∀ {xs : List α} {ys : List β} (n : Nat), Paired R xs ys → Paired R (xs.take n) (ys.take n)
  | _, _, 0, _ => .nil
  | _, _, _ + 1, .nil => .nil
  | _, _, n + 1, .cons r t => .cons r (pair_take n t)
theorem pair_drop {α β : Type} {R : α → β → Prop} : ∀ {xs : List α} {ys : List β} (n : Nat), Paired R xs ys → Paired R (xs.drop n) (ys.drop n)
  | _, _, 0, t => t
  | _, _, _ + 1, .nil => .nil
  | _, _, n + 1, .cons _ t => pair_drop n t
theorem pair_rev {α β : Type} {R : α → β → Prop} : ∀ {xs : List α} {ys : List β}, Paired R xs ys → Paired R xs.reverse ys.reverse
  | _, _, .nil => .nil
  | _, _, .cons r t => by
    rw [List.reverse_cons, List.reverse_cons]
    exact pair_app (pair_rev t) (.cons r .nil)
theorem repC_mono {F F' : Hp} {as as' : List Addr} {H H' : Hp} {a : Addr} {c : Cell} (h : ∀ a o, F a = some o → F' a = some o) (p : ∃ t, as' = as ++ t) (hh : ∀ o, H a = some o → H' a = some o) (r : RepC K mg F as H a c) : RepC K mg F' as' H' a c := by
  have pb : ∀ {v b}, RepB K F as v b → RepB K F' as' v b := fun q => repB_mono h p q
  cases c with
  | lst bs => obtain ⟨vs, e, q⟩ := r; exact ⟨vs, hh _ e, pair_mono (fun _ _ => pb) q⟩
  | dK bs => obtain ⟨vs, e, q⟩ := r; exact ⟨vs, hh _ e, pair_mono (fun _ _ z => ⟨z.1, pb z.2⟩) q⟩
  | dT bs => obtain ⟨vs, e, q⟩ := r; exact ⟨vs, hh _ e, pair_mono (fun _ _ z => ⟨z.1, pb z.2⟩) q⟩
  | ins nm fs => obtain ⟨C, dx, vs, m, e, q⟩ := r; exact ⟨C, dx, vs, m, hh _ e, pair_mono (fun _ _ z => ⟨z.1, pb z.2⟩) q⟩
  | dead => exact r

/-! ### known part and cells, changed -/
section
variable {F : Hp} {as : List Addr} {cs : Cs} {H : Hp} {p : Addr} {k : Nat} {a : Addr} {c c' : Cell} {o : HO}
theorem Sim.out (S : Sim K mg F as cs H) (h : H p = none) : p ∉ as := fun hm => S.has p hm h
theorem Sim.fnone (S : Sim K mg F as cs H) (h : H p = none) : F p = none := by
  cases e : F p with
  | none => rfl
  | some o => have := S.sub p o e; rw [h] at this; cases this
/-- the heap's other parts may grow -/
theorem Sim.grow {H' : Hp} (S : Sim K mg F as cs H) (h : ∀ a o, H a = some o → H' a = some o) : Sim K mg F as cs H' :=
  ⟨fun a o e => h a o (S.sub a o e), S.len, S.nd, S.sep, fun k a c e1 e2 => repC_mono (fun _ _ h => h) ⟨[], by simp⟩ (h a) (S.cell k a c e1 e2), fun a hm z => by
    cases e : H a with
    | none => exact S.has a hm e
    | some o => rw [h a o e] at z; cases z⟩
theorem upd_grow (h : H p = none) : ∀ a u, H a = some u → upd H p o a = some u := fun a u e => by rw [upd_ne (ne_of_none e h)]; exact e
/-- a thing becomes known -/
theorem Sim.know (S : Sim K mg F as cs H) (h : H p = some o) (hn : p ∉ as) : Sim K mg (upd F p o) as cs H := by
  have hF : ∀ a u, F a = some u → upd F p o a = some u := fun a u e => by
    by_cases z : a = p
    · subst z
      have := S.sub a u e
      rw [h] at this
      rw [upd_same, this]
    · rw [upd_ne z]; exact e
  refine ⟨fun a u e => ?_, S.len, S.nd, fun k a c e1 e2 e3 => ?_, fun k a c e1 e2 => repC_mono hF ⟨[], by simp⟩ (fun _ z => z) (S.cell k a c e1 e2), S.has⟩
  · by_cases z : a = p
    · subst z; rw [upd_same] at e; cases e; exact h
    · rw [upd_ne z] at e; exact S.sub a u e
  · rw [upd_ne (fun z => hn (by rw [← z]; exact List.mem_of_getElem? e1))]
    exact S.sep k a c e1 e2 e3
theorem Evo.know {F0 : Hp} {as0 : List Addr} {H0 : Hp} (e : Evo F0 as0 H0 F as H) (S : Sim K mg F as cs H) (h : H p = some o) (hn : p ∉ as) (h0 : H0 p = none) : Evo F0 as0 H0 (upd F p o) as H := by
  refine ⟨fun a u q => ?_, e.pre, e.fr, fun a q => ?_, e.newA⟩
  · by_cases z : a = p
    · subst z
      have := S.sub a u (e.ex a u q)
      rw [h] at this
      rw [upd_same, this]
    · rw [upd_ne z]; exact e.ex a u q
  · by_cases z : a = p
    · subst z; exact .inr (.inr h0)
    · rw [upd_ne z] at q; exact e.newF a q
/-- .. a new one -/
theorem Sim.new (S : Sim K mg F as cs H) (h : H p = none) : Sim K mg (upd F p o) as cs (upd H p o) := (S.grow (upd_grow (o := o) h)).know upd_same (S.out h)
theorem Evo.heap (h : H p = none) : Evo F as H F as (upd H p o) := ⟨fun _ _ h => h, ⟨[], by simp⟩, fun a u e _ => upd_grow h a u e, fun _ h => .inl h, fun _ h => .inl h⟩
theorem Evo.new (S : Sim K mg F as cs H) (h : H p = none) : Evo F as H (upd F p o) as (upd H p o) := (Evo.heap h).know (S.grow (upd_grow (o := o) h)) upd_same (S.out h) h
/-- a cell is added: a thing that is there, that no one knows -/
theorem Sim.add (S : Sim K mg F as cs H) (h : H p ≠ none) (hf : F p = none) (hn : p ∉ as) (new : RepC K mg F (as ++ [p]) H p c) : Sim K mg F (as ++ [p]) (cs ++ [c]) H := by
  have hl := S.len
  refine ⟨S.sub, by simp [hl], ?_, fun k a d e1 e2 e3 => ?_, fun k a d e1 e2 => ?_, fun a hm => ?_⟩
  · rw [List.nodup_append]
    exact ⟨S.nd, by simp, fun x hx y hy => by simp at hy; subst hy; exact fun z => hn (z ▸ hx)⟩
  · by_cases hk : k < as.length
    · rw [List.getElem?_append_left hk] at e1
      rw [List.getElem?_append_left (by omega)] at e2
      exact S.sep k a d e1 e2 e3
    · rw [List.getElem?_append_right (by omega)] at e1
      have e : k - as.length = 0 := by
        have := (List.getElem?_eq_some_iff.mp e1).1
        simp at this; omega
      rw [e] at e1
      simp at e1
      subst e1
      exact hf
  · by_cases hk : k < as.length
    · rw [List.getElem?_append_left hk] at e1
      rw [List.getElem?_append_left (by omega)] at e2
      exact repC_mono (fun _ _ h => h) ⟨[p], rfl⟩ (fun _ h => h) (S.cell k a d e1 e2)
    · rw [List.getElem?_append_right (by omega)] at e1
      rw [List.getElem?_append_right (by omega)] at e2
      have e : k - as.length = 0 := by
        have := (List.getElem?_eq_some_iff.mp e1).1
        simp at this; omega
      rw [e] at e1
      rw [show k - cs.length = 0 by omega] at e2
      simp at e1 e2
      subst e1 e2
      exact new
  · rcases List.mem_append.mp hm with z | z
    · exact S.has a z
    · simp at z; subst z; exact h
theorem Evo.add {F0 : Hp} {as0 : List Addr} {H0 : Hp} (e : Evo F0 as0 H0 F as H) (h0 : H0 p = none) : Evo F0 as0 H0 F (as ++ [p]) H := by
  obtain ⟨t, z⟩ := e.pre
  refine ⟨e.ex, ⟨t ++ [p], by rw [z, List.append_assoc]⟩, e.fr, e.newF, fun a hm => ?_⟩
  rcases List.mem_append.mp hm with q | q
  · exact e.newA a q
  · simp at q; subst q; exact .inr h0
theorem nd_eq {α : Type} {l : List α} (hN : l.Nodup) {i j : Nat} {x : α} (a : l[i]? = some x) (b : l[j]? = some x) : i = j := by
  obtain ⟨h1, e1⟩ := List.getElem?_eq_some_iff.mp a
  obtain ⟨h2, e2⟩ := List.getElem?_eq_some_iff.mp b
  exact (List.getElem_inj hN).mp (e1.trans e2.symm)
/-- a cell is written -/
theorem Sim.write (S : Sim K mg F as cs H) (ea : as[k]? = some a) (ec : cs[k]? = some c) (hd : c ≠ Cell.dead) (new : RepC K mg F as (upd H a o) a c') : Sim K mg F as (cs.set k c') (upd H a o) := by
  have hf := S.sep k a c ea ec hd
  have hk : k < cs.length := (List.getElem?_eq_some_iff.mp ec).1
  refine ⟨fun b u e => ?_, by rw [List.length_set]; exact S.len, S.nd, fun j b d e1 e2 e3 => ?_, fun j b d e1 e2 => ?_, fun b hm => ?_⟩
  · rw [upd_ne (fun z => by rw [z, hf] at e; cases e)]; exact S.sub b u e
  · by_cases hj : j = k
    · subst hj; rw [ea] at e1; cases e1; exact hf
    · rw [List.getElem?_set_ne (Ne.symm hj)] at e2; exact S.sep j b d e1 e2 e3
  · by_cases hj : j = k
    · subst hj; rw [ea] at e1; cases e1
      rw [List.getElem?_set_self hk] at e2; cases e2
      exact new
    · rw [List.getElem?_set_ne (Ne.symm hj)] at e2
      exact repC_mono (fun _ _ h => h) ⟨[], by simp⟩ (fun u z => by
        rw [upd_ne (fun q => hj (by subst q; exact nd_eq S.nd e1 ea))]; exact z) (S.cell j b d e1 e2)
  · by_cases z : b = a
    · subst z; rw [upd_same]; simp
    · rw [upd_ne z]; exact S.has b hm
theorem Evo.write (ea : as[k]? = some a) : Evo F as H F as (upd H a o) :=
  ⟨fun _ _ h => h, ⟨[], by simp⟩, fun b u e hn => by rw [upd_ne (fun z => hn (by rw [z]; exact List.mem_of_getElem? ea))]; exact e, fun _ h => .inl h, fun _ h => .inl h⟩
/-- a cell's list becomes known data -/
theorem Sim.freeze (S : Sim K mg F as cs H) (ea : as[k]? = some a) (ec : cs[k]? = some c) (hd : c ≠ Cell.dead) (h : H a = some o) : Sim K mg (upd F a o) as (cs.set k .dead) H := by
  have hf := S.sep k a c ea ec hd
  have hk : k < cs.length := (List.getElem?_eq_some_iff.mp ec).1
  have hF : ∀ b u, F b = some u → upd F a o b = some u := upd_grow hf
  refine ⟨fun b u e => ?_, by rw [List.length_set]; exact S.len, S.nd, fun j b d e1 e2 e3 => ?_, fun j b d e1 e2 => ?_, S.has⟩
  · by_cases z : b = a
    · subst z; rw [upd_same] at e; cases e; exact h
    · rw [upd_ne z] at e; exact S.sub b u e
  · by_cases hj : j = k
    · subst hj; rw [List.getElem?_set_self hk] at e2; cases e2; exact absurd rfl e3
    · rw [List.getElem?_set_ne (Ne.symm hj)] at e2
      rw [upd_ne (fun q => hj (by subst q; exact nd_eq S.nd e1 ea))]
      exact S.sep j b d e1 e2 e3
  · by_cases hj : j = k
    · subst hj; rw [List.getElem?_set_self hk] at e2; cases e2; trivial
    · rw [List.getElem?_set_ne (Ne.symm hj)] at e2
      exact repC_mono hF ⟨[], by simp⟩ (fun _ z => z) (S.cell j b d e1 e2)
theorem Evo.freeze (S : Sim K mg F as cs H) (ea : as[k]? = some a) (ec : cs[k]? = some c) (hd : c ≠ Cell.dead) : Evo F as H (upd F a o) as H :=
  ⟨upd_grow (S.sep k a c ea ec hd), ⟨[], by simp⟩, fun _ _ e _ => e, fun b q => by
    by_cases z : b = a
    · subst z; exact .inr (.inl (List.mem_of_getElem? ea))
    · rw [upd_ne z] at q; exact .inl q, fun _ h => .inl h⟩
end

/-! ### outcomes -/
/-- how a thing of the run and its name go together: ahead's heap, known part, cells' addresses, heap -/
abbrev Rl (α β : Type) := Hp → Hp → List Addr → Hp → β → α → Prop
def Mono {α β : Type} (rel : Rl α β) : Prop := ∀ (F : Hp) (as : List Addr) (H F1 : Hp) (as1 : List Addr) (H1 F2 : Hp) (as2 : List Addr) (H2 : Hp) (v : β) (a : α), Evo F as H F1 as1 H1 → Evo F1 as1 H1 F2 as2 H2 → rel H1 F2 as2 H2 v a → rel H F2 as2 H2 v a
variable (K) (mg)
def Out {α β : Type} (rel : Rl α β) (E : XK) (F : Hp) (as : List Addr) (H : Hp) (r : ER α) (Q : β → Hp → Prop) : Prop := match r with
  | .ok a cs' => ∀ F' as' H' v, Evo F as H F' as' H' → Sim K mg F' as' cs' H' → rel H F' as' H' v a → Q v H'
  | .ex x cs' => ∀ F' as' H' C, Evo F as H F' as' H' → Sim K mg F' as' cs' H' → mg x = some (.ref C) → E (.ref C) none H'
  | .no => False
def relB : Rl B V := fun _ F as _ v b => RepB K F as v b
def relA : Rl (List B) (List V) := fun _ F as _ v b => Paired (RepB K F as) v b
def relT : Rl Bool Bool := fun _ _ _ _ v b => v = b
/-- a new list -/
def relL : Rl (List B) V := fun H0 F as H v xs => ∃ p vs, v = .ref p ∧ H p = some (.lst vs) ∧ F p = none ∧ p ∉ as ∧ H0 p = none ∧ vs.length ≤ sizeLine ∧ Paired (RepB K F as) vs xs
variable {K} {mg}
theorem mono_B : Mono (relB K) := fun _ _ _ _ _ _ _ _ _ _ _ _ _ h => h
theorem mono_A : Mono (relA K) := fun _ _ _ _ _ _ _ _ _ _ _ _ _ h => h
theorem mono_T : Mono relT := fun _ _ _ _ _ _ _ _ _ _ _ _ _ h => h
theorem mono_L : Mono (relL K) := fun F as H F1 as1 H1 F2 as2 H2 v a e1 e2 ⟨p, vs, h1, h2, h3, h4, h5, h6⟩ => by
  refine ⟨p, vs, h1, h2, h3, h4, ?_, h6⟩
  cases e : H p with
  | none => rfl
  | some o =>
    by_cases hm : p ∈ as
    · obtain ⟨t, z⟩ := (e1.trans e2).pre
      exact absurd (by rw [z]; exact List.mem_append_left _ hm) h4
    · rw [e1.fr p o e hm] at h5; cases h5
section
variable {α β γ δ : Type} {rel : Rl α β} {rel2 : Rl γ δ} {E : XK} {F F1 : Hp} {as as1 : List Addr} {H H1 : Hp} {r : ER α} {k : α → Cs → ER γ} {Q Q' : β → Hp → Prop}
theorem Out.step (hm : Mono rel) (e : Evo F as H F1 as1 H1) (h : Out K mg rel E F as H r Q) : Out K mg rel E F1 as1 H1 r Q := by
  cases r with
  | ok a cs => exact fun F' as' H' v e' S' r' => h F' as' H' v (e.trans e') S' (hm _ _ _ _ _ _ _ _ _ _ _ e e' r')
  | ex x cs => exact fun F' as' H' C e' S' m => h F' as' H' C (e.trans e') S' m
  | no => exact h
theorem Out.imp (h : Out K mg rel E F as H r Q) (hq : ∀ v H', Q v H' → Q' v H') : Out K mg rel E F as H r Q' := by
  cases r with
  | ok a cs => exact fun F' as' H' v e' S' r' => hq _ _ (h F' as' H' v e' S' r')
  | ex x cs => exact h
  | no => exact h
theorem Out.bind {Q2 : δ → Hp → Prop} (hm : Mono rel2) (h : Out K mg rel2 E F as H (r.bind k) Q2) :
    Out K mg rel E F as H r (fun v H1 => ∃ F1 as1 a cs1, Evo F as H F1 as1 H1 ∧ Sim K mg F1 as1 cs1 H1 ∧ rel H F1 as1 H1 v a ∧ Out K mg rel2 E F1 as1 H1 (k a cs1) Q2) := by
  cases r with
  | ok a cs => exact fun F' as' H' v e' S' r' => ⟨F', as', a, cs, e', S', r', Out.step hm e' h⟩
  | ex x cs => exact h
  | no => exact h
theorem Out.bind0 {Q2 : δ → Hp → Prop} (h : Out K mg rel2 E F as H (r.bind k) Q2) :
    Out K mg rel E F as H r (fun v H1 => ∃ F1 as1 a cs1, Evo F as H F1 as1 H1 ∧ Sim K mg F1 as1 cs1 H1 ∧ rel H F1 as1 H1 v a ∧ Out K mg rel2 E F as H (k a cs1) Q2) := by
  cases r with
  | ok a cs => exact fun F' as' H' v e' S' r' => ⟨F', as', a, cs, e', S', r', h⟩
  | ex x cs => exact h
  | no => exact h
/-- the end of a step that gives a -/
theorem Out.give {a : α} {cs : Cs} {v : β} (h : Out K mg rel E F as H (.ok a cs) Q) (S : Sim K mg F as cs H) (r : rel H F as H v a) : Q v H := h F as H v .refl S r
theorem Out.give2 {a : α} {cs : Cs} {v : β} (h : Out K mg rel E F as H (.ok a cs) Q) (e : Evo F as H F1 as1 H1) (S : Sim K mg F1 as1 cs H1) (r : rel H F1 as1 H1 v a) : Q v H1 := h F1 as1 H1 v e S r
end
end
end VM

/-! VM2: expressions as functions of slots and cells. -/
namespace VM
open PySem L2

def RepO (K : PySem.W.Frag) (F : Hp) (as : List Addr) : Option V → Option B → Prop
  | _, none => True
  | o, some b => ∃ v, o = some v ∧ RepB K F as v b
abbrev RepS (K : PySem.W.Frag) (F : Hp) (as : List Addr) : St → Sl → Prop := Paired (RepO K F as)
theorem Evo.repO {K : PySem.W.Frag} {F F' : Hp} {as as' : List Addr} {H H' : Hp} (e : Evo F as H F' as' H') {v : Option V} {b : Option B} (r : RepO K F as v b) : RepO K F' as' v b := by
  cases b with
  | none => trivial
  | some b => obtain ⟨x, h, q⟩ := r; exact ⟨x, h, e.repB q⟩
theorem Evo.repS {K : PySem.W.Frag} {F F' : Hp} {as as' : List Addr} {H H' : Hp} (e : Evo F as H F' as' H') {σ : St} {sl : Sl} (r : RepS K F as σ sl) : RepS K F' as' σ sl := pair_mono (fun _ _ => e.repO) r
theorem Evo.repBs {K : PySem.W.Frag} {F F' : Hp} {as as' : List Addr} {H H' : Hp} (e : Evo F as H F' as' H') {vs : List V} {bs : List B} (r : Paired (RepB K F as) vs bs) : Paired (RepB K F' as') vs bs := pair_mono (fun _ _ => e.repB) r

def tG {α β : Type} (K : PySem.W.Frag) (mg : Str → Option Value) (W : WX) (rel : Rl α β) (f : Fn α) : St → Hp → (β → Hp → Prop) → Prop := fun σ H Q =>
  ∃ F as sl cs, RepS K F as σ sl ∧ Sim K mg F as cs H ∧ Out K mg rel (WE W σ) F as H (f sl cs) Q
def SE (X : Cx) (W : WX) (e : Expr) (f : Fn B) : Prop := PE X e (tG X.K X.mg W (relB X.K) f)
def ST (X : Cx) (W : WX) (e : Expr) (f : Fn Bool) : Prop := PT X e (tG X.K X.mg W relT f)
def SW (X : Cx) (W : WX) (e : Expr) (f : Fn Bool) : Prop := PW X e (tG X.K X.mg W relT f)
def SA (X : Cx) (W : WX) (es : List Expr) (f : Fn (List B)) : Prop := PA X es (tG X.K X.mg W (relA X.K) f)
/-- a new list -/
def SL (X : Cx) (W : WX) (e : Expr) (f : Fn (List B)) : Prop := PE X e (tG X.K X.mg W (relL X.K) f)

section
variable {X : Cx} {W : WX} {e a b c : Expr} {f fa fb fc : Fn B} {t u : Fn Bool} {pos : Pos}
theorem pe_weak {t t' : TE} (h : PE X e t) (hw : ∀ σ H Q, t' σ H Q → t σ H Q) : PE X e t' := ⟨fun pins s σ H Q I q => h.run pins s σ H Q I (hw _ _ _ q)⟩
theorem pt_weak {t t' : TT} (h : PT X e t) (hw : ∀ σ H Q, t' σ H Q → t σ H Q) : PT X e t' := ⟨fun pins s σ H Q I q => h.run pins s σ H Q I (hw _ _ _ q)⟩
theorem pw_weak {t t' : TT} (h : PW X e t) (hw : ∀ σ H Q, t' σ H Q → t σ H Q) : PW X e t' := ⟨fun wh pins s σ H Q I q => h.run wh pins s σ H Q I (hw _ _ _ q)⟩
theorem pa_weak {es : List Expr} {t t' : TA} (h : PA X es t) (hw : ∀ σ H Q, t' σ H Q → t σ H Q) : PA X es t' := ⟨fun p pins s σ H Q I q => h.run p pins s σ H Q I (hw _ _ _ q)⟩
/-! ### constants, names -/
def eD (x : D) : Fn B := fun _ cs => .ok (.d x) cs
def eB (b : B) : Fn B := fun _ cs => .ok b cs
def eVar (i : Nat) : Fn B := fun sl cs => match sl[i]? with
  | some (some b) => .ok b cs
  | _ => .no
theorem se_c {v : V} {b : B} (h : PE X e (tC v)) (hr : ∀ F as, RepB X.K F as v b) : SE X W e (eB b) := pe_weak h fun σ H Q ⟨F, as, sl, cs, _, S, o⟩ => Out.give o S (hr F as)
theorem se_int {i : Int} {j} : SE X W (.Constant (.int i) j pos) (eD (.int i)) := se_c (b := .d (.int i)) pe_int fun _ _ => .int i
theorem se_bl {i : Bool} {j} : SE X W (.Constant (.bool i) j pos) (eD (.bool i)) := se_c (b := .d (.bool i)) pe_bl fun _ _ => .bl i
theorem se_non {j} : SE X W (.Constant .none j pos) (eD .none) := se_c (b := .d .none) pe_non fun _ _ => .non
theorem se_str {i : Str} {j} : SE X W (.Constant (.str i) j pos) (eD (.str i)) := se_c (b := .d (.str i)) pe_str fun _ _ => .str i
theorem se_glob {x : Str} {v : V} {b : B} {u : Value} (hg : Gl X x) (hm : X.mg x = some u) (r : RelV v u) (hr : ∀ F as, RepB X.K F as v b) (hd : (x == ("__debug__" : Str)) = false := by decide) : SE X W (.Name x pos) (eB b) :=
  se_c (pe_glob hg hm r hd) hr
theorem se_var (i : Nat) {x : Str} (hN : X.N[i]? = some x := by rfl) (hv : Vis X.env.scope x := by first | exact Or.inl rfl | exact Or.inr (Or.inl rfl) | exact Or.inr (Or.inr rfl)) (hd : (x == ("__debug__" : Str)) = false := by decide)
    (hcd : (x == ("__classdict__" : Str)) = false := by decide) : SE X W (.Name x pos) (eVar i) := by
  refine pe_weak (pe_var (i := i) hN hv hd hcd) fun σ H Q ⟨F, as, sl, cs, hs, S, o⟩ => ?_
  unfold eVar at o
  cases h : sl[i]? with
  | none => rw [h] at o; exact o.elim
  | some ob =>
    rw [h] at o
    cases ob with
    | none => exact o.elim
    | some b =>
      obtain ⟨ov, e1, v, e2, r⟩ := pair_get hs h
      subst e2
      exact ⟨v, e1, Out.give o S r⟩

/-! ### operators -/
def eBin (g : B → B → Cs → ER B) (f1 f2 : Fn B) : Fn B := fun sl cs => (f1 sl cs).bind fun a cs1 => (f2 sl cs1).bind fun b cs2 => g a b cs2
def eUn (g : B → Cs → ER B) (f1 : Fn B) : Fn B := fun sl cs => (f1 sl cs).bind g
def OpG (K : PySem.W.Frag) (mg : Str → Option Value) (r : R2) (g : B → B → Cs → ER B) : Prop := ∀ {E : XK} {F : Hp} {as : List Addr} {cs : Cs} {H : Hp} {x y : V} {a b : B} {Q : VK},
  Sim K mg F as cs H → RepB K F as x a → RepB K F as y b → Out K mg (relB K) E F as H (g a b cs) Q → r x y H Q
def UnG (K : PySem.W.Frag) (mg : Str → Option Value) (r : V → Hp → VK → Prop) (g : B → Cs → ER B) : Prop := ∀ {E : XK} {F : Hp} {as : List Addr} {cs : Cs} {H : Hp} {x : V} {a : B} {Q : VK},
  Sim K mg F as cs H → RepB K F as x a → Out K mg (relB K) E F as H (g a cs) Q → r x H Q
/-- a list of values in -/
def LsG (K : PySem.W.Frag) (mg : Str → Option Value) (r : List V → Hp → VK → Prop) (g : List B → Cs → ER B) : Prop := ∀ {E : XK} {F : Hp} {as : List Addr} {cs : Cs} {H : Hp} {x : List V} {a : List B} {Q : VK},
  Sim K mg F as cs H → Paired (RepB K F as) x a → Out K mg (relB K) E F as H (g a cs) Q → r x H Q
theorem two_of {K : PySem.W.Frag} {mg : Str → Option Value} {r : R2} {g : B → B → Cs → ER B} (hg : OpG K mg r g) {σ : St} {H : Hp} {Q : VK} (h : tG K mg W (relB K) (eBin g fa fb) σ H Q) :
    tOp r (tG K mg W (relB K) fa) (tG K mg W (relB K) fb) σ H Q := by
  obtain ⟨F, as, sl, cs, hs, S, h⟩ := h
  refine ⟨F, as, sl, cs, hs, S, (Out.bind mono_B h).imp ?_⟩
  rintro v H1 ⟨F1, as1, a, cs1, e1, S1, r1, o1⟩
  refine ⟨F1, as1, sl, cs1, e1.repS hs, S1, (Out.bind mono_B o1).imp ?_⟩
  rintro u H2 ⟨F2, as2, b, cs2, e2, S2, r2, o2⟩
  exact hg S2 (e2.repB r1) r2 o2
theorem one_of {K : PySem.W.Frag} {mg : Str → Option Value} {r : V → Hp → VK → Prop} {g : B → Cs → ER B} (hg : UnG K mg r g) {σ : St} {H : Hp} {Q : VK} (h : tG K mg W (relB K) (eUn g fa) σ H Q) :
    tUn r (tG K mg W (relB K) fa) σ H Q := by
  obtain ⟨F, as, sl, cs, hs, S, h⟩ := h
  refine ⟨F, as, sl, cs, hs, S, (Out.bind mono_B h).imp ?_⟩
  rintro v H1 ⟨F1, as1, a, cs1, e1, S1, r1, o1⟩
  exact hg S1 r1 o1
theorem se_op {op : Operator} {r : R2} {g : B → B → Cs → ER B} (ho : OpR X (binaryOp op) r) (hg : OpG X.K X.mg r g) (ha : SE X W a fa) (hb : SE X W b fb) : SE X W (.BinOp a op b pos) (eBin g fa fb) :=
  pe_weak (pe_op ho ha hb) fun _ _ _ h => two_of hg h
theorem se_un {op : UnaryOp} {r : V → Hp → VK → Prop} {g : B → Cs → ER B} (ho : UnR X (unaryOp op) r) (hg : UnG X.K X.mg r g) (ha : SE X W a fa) : SE X W (.UnaryOp op a pos) (eUn g fa) :=
  pe_weak (pe_un ho ha) fun _ _ _ h => one_of hg h
theorem se_cmp {op : CmpOp} {r : R2} {g : B → B → Cs → ER B} (ho : OpR X (compareOp op) r) (hg : OpG X.K X.mg r g) (ha : SE X W a fa) (hb : SE X W b fb) (hm : behindInMarks op b = false) : SE X W (.Compare a [op] [b] pos) (eBin g fa fb) :=
  pe_weak (pe_cmpR ho ha hb hm) fun _ _ _ h => two_of hg h

/-! ### tests -/
def isB : B → Cs → ER Bool
  | .d (.bool k), cs => .ok k cs
  | _, _ => .no
def eT (f : Fn B) : Fn Bool := fun sl cs => (f sl cs).bind isB
theorem isB_give {K : PySem.W.Frag} {mg : Str → Option Value} {E : XK} {F : Hp} {as : List Addr} {cs : Cs} {H : Hp} {v : V} {b : B} {Q : Bool → Hp → Prop} (S : Sim K mg F as cs H) (r : RepB K F as v b) (o : Out K mg relT E F as H (isB b cs) Q) : ∃ k, v = .bl k ∧ Q k H := by
  unfold isB at o
  split at o
  · cases r; exact ⟨_, rfl, Out.give o S rfl⟩
  · exact o.elim
theorem test_of {K : PySem.W.Frag} {mg : Str → Option Value} {σ : St} {H : Hp} {Q : Bool → Hp → Prop} (h : tG K mg W relT (eT f) σ H Q) : tG K mg W (relB K) f σ H (fun x H' => ∃ k, x = .bl k ∧ Q k H') := by
  obtain ⟨F, as, sl, cs, hs, S, h⟩ := h
  refine ⟨F, as, sl, cs, hs, S, (Out.bind mono_T h).imp ?_⟩
  rintro v H1 ⟨F1, as1, a, cs1, e1, S1, r1, o1⟩
  exact isB_give S1 r1 o1
/-- a comparison as a test -/
theorem st_cmp {op : CmpOp} {r : R2} {g : B → B → Cs → ER B} (ho : OpR X (compareOp op) r) (hg : OpG X.K X.mg r g) (ha : SE X W a fa) (hb : SE X W b fb) (hm : behindInMarks op b = false) : ST X W (.Compare a [op] [b] pos) (eT (eBin g fa fb)) :=
  pt_weak (pt_cmpR ho ha hb hm) fun _ _ _ h => two_of hg (test_of h)
/-- what gives a bool, as a test -/
theorem st_val (h : SE X W e f) (he : ∀ whole, isTrue e X.env whole = (do let v ← whole; standAt e.pos; holding [v] (truthy v)) := by intro _; rfl) : ST X W e (eT f) :=
  pt_weak (pt_val h he) fun _ _ _ h => test_of h
def eNot (t : Fn Bool) : Fn Bool := fun sl cs => (t sl cs).bind fun k cs1 => .ok (!k) cs1
def eAnd (t u : Fn Bool) : Fn Bool := fun sl cs => (t sl cs).bind fun k cs1 => if k = true then u sl cs1 else .ok false cs1
def eOr (t u : Fn Bool) : Fn Bool := fun sl cs => (t sl cs).bind fun k cs1 => if k = true then .ok true cs1 else u sl cs1
theorem st_not (h : ST X W a t) : ST X W (.UnaryOp .Not a pos) (eNot t) := pt_weak (pt_not h) fun σ H Q h => by
  obtain ⟨F, as, sl, cs, hs, S, h⟩ := h
  refine ⟨F, as, sl, cs, hs, S, (Out.bind mono_T h).imp ?_⟩
  rintro v H1 ⟨F1, as1, k, cs1, e1, S1, r1, o1⟩
  cases r1
  exact Out.give o1 S1 rfl
theorem sw_pt (h : SW X W e t) : ST X W e t := PW.pt h
theorem sw_and1 (h : ST X W a t) : SW X W (.BoolOp .And [a] pos) t := pw_and1 h
theorem sw_or1 (h : ST X W a t) : SW X W (.BoolOp .Or [a] pos) t := pw_or1 h
theorem sw_and {rest : List Expr} (ha : ST X W a t) (hb : SW X W (.BoolOp .And (b :: rest) pos) u) : SW X W (.BoolOp .And (a :: b :: rest) pos) (eAnd t u) := pw_weak (pw_and ha hb) fun σ H Q h => by
  obtain ⟨F, as, sl, cs, hs, S, h⟩ := h
  refine ⟨F, as, sl, cs, hs, S, (Out.bind mono_T h).imp ?_⟩
  rintro v H1 ⟨F1, as1, k, cs1, e1, S1, r1, o1⟩
  cases r1
  cases v with
  | true => exact ⟨F1, as1, sl, cs1, e1.repS hs, S1, o1⟩
  | false => exact Out.give o1 S1 rfl
theorem sw_or {rest : List Expr} (ha : ST X W a t) (hb : SW X W (.BoolOp .Or (b :: rest) pos) u) : SW X W (.BoolOp .Or (a :: b :: rest) pos) (eOr t u) := pw_weak (pw_or ha hb) fun σ H Q h => by
  obtain ⟨F, as, sl, cs, hs, S, h⟩ := h
  refine ⟨F, as, sl, cs, hs, S, (Out.bind mono_T h).imp ?_⟩
  rintro v H1 ⟨F1, as1, k, cs1, e1, S1, r1, o1⟩
  cases r1
  cases v with
  | false => exact ⟨F1, as1, sl, cs1, e1.repS hs, S1, o1⟩
  | true => exact Out.give o1 S1 rfl
/-! .. as values -/
def onB (b : B) (k : Bool → ER B) : ER B := match b with
  | .d (.bool c) => k c
  | _ => .no
def eNotV (f : Fn B) : Fn B := fun sl cs => (f sl cs).bind fun b cs1 => onB b fun k => .ok (.d (.bool (!k))) cs1
def eAndV (f g : Fn B) : Fn B := fun sl cs => (f sl cs).bind fun b cs1 => onB b fun k => if k = true then g sl cs1 else .ok (.d (.bool false)) cs1
def eOrV (f g : Fn B) : Fn B := fun sl cs => (f sl cs).bind fun b cs1 => onB b fun k => if k = true then .ok (.d (.bool true)) cs1 else g sl cs1
theorem onB_give {K : PySem.W.Frag} {mg : Str → Option Value} {E : XK} {F : Hp} {as : List Addr} {H : Hp} {v : V} {b : B} {k : Bool → ER B} {Q : VK} (r : RepB K F as v b) (o : Out K mg (relB K) E F as H (onB b k) Q) :
    ∃ c, v = .bl c ∧ Out K mg (relB K) E F as H (k c) Q := by
  unfold onB at o
  split at o
  · cases r; exact ⟨_, rfl, o⟩
  · exact o.elim
theorem se_not (h : SE X W a fa) : SE X W (.UnaryOp .Not a pos) (eNotV fa) := pe_weak (pe_not h) fun σ H Q h => by
  obtain ⟨F, as, sl, cs, hs, S, h⟩ := h
  refine ⟨F, as, sl, cs, hs, S, (Out.bind mono_B h).imp ?_⟩
  rintro v H1 ⟨F1, as1, b, cs1, e1, S1, r1, o1⟩
  obtain ⟨c, rfl, o2⟩ := onB_give r1 o1
  exact ⟨c, rfl, Out.give o2 S1 (.bl _)⟩
theorem se_one {op} (h : SE X W a fa) : SE X W (.BoolOp op [a] pos) fa := pe_one h
theorem se_and {rest : List Expr} (ha : SE X W a fa) (hb : SE X W (.BoolOp .And (b :: rest) pos) fb) : SE X W (.BoolOp .And (a :: b :: rest) pos) (eAndV fa fb) := pe_weak (pe_and ha hb) fun σ H Q h => by
  obtain ⟨F, as, sl, cs, hs, S, h⟩ := h
  refine ⟨F, as, sl, cs, hs, S, (Out.bind mono_B h).imp ?_⟩
  rintro v H1 ⟨F1, as1, b, cs1, e1, S1, r1, o1⟩
  obtain ⟨c, rfl, o2⟩ := onB_give r1 o1
  refine ⟨c, rfl, ?_⟩
  cases c with
  | true => exact ⟨F1, as1, sl, cs1, e1.repS hs, S1, o2⟩
  | false => exact Out.give o2 S1 (.bl _)
theorem se_or {rest : List Expr} (ha : SE X W a fa) (hb : SE X W (.BoolOp .Or (b :: rest) pos) fb) : SE X W (.BoolOp .Or (a :: b :: rest) pos) (eOrV fa fb) := pe_weak (pe_or ha hb) fun σ H Q h => by
  obtain ⟨F, as, sl, cs, hs, S, h⟩ := h
  refine ⟨F, as, sl, cs, hs, S, (Out.bind mono_B h).imp ?_⟩
  rintro v H1 ⟨F1, as1, b, cs1, e1, S1, r1, o1⟩
  obtain ⟨c, rfl, o2⟩ := onB_give r1 o1
  refine ⟨c, rfl, ?_⟩
  cases c with
  | false => exact ⟨F1, as1, sl, cs1, e1.repS hs, S1, o2⟩
  | true => exact Out.give o2 S1 (.bl _)
def eIf (t : Fn Bool) (f g : Fn B) : Fn B := fun sl cs => (t sl cs).bind fun k cs1 => if k = true then f sl cs1 else g sl cs1
theorem se_if (hc : ST X W c t) (ha : SE X W a fa) (hb : SE X W b fb) : SE X W (.IfExp c a b pos) (eIf t fa fb) := pe_weak (pe_ifExp hc ha hb) fun σ H Q h => by
  obtain ⟨F, as, sl, cs, hs, S, h⟩ := h
  refine ⟨F, as, sl, cs, hs, S, (Out.bind mono_B h).imp ?_⟩
  rintro v H1 ⟨F1, as1, k, cs1, e1, S1, r1, o1⟩
  cases r1
  cases v with
  | true => exact ⟨F1, as1, sl, cs1, e1.repS hs, S1, o1⟩
  | false => exact ⟨F1, as1, sl, cs1, e1.repS hs, S1, o1⟩
/-- a op1 b op2 c -/
def eChain (g g' : B → B → Cs → ER B) (f1 f2 f3 : Fn B) : Fn B := fun sl cs => (f1 sl cs).bind fun a cs1 => (f2 sl cs1).bind fun b cs2 => (g a b cs2).bind fun z cs3 =>
  onB z fun k => if k = true then (f3 sl cs3).bind fun c cs4 => g' b c cs4 else .ok (.d (.bool false)) cs3
/-- a rule that allocates nothing is given what follows -/
theorem chain_of {K : PySem.W.Frag} {mg : Str → Option Value} {r r' : R2} {g g' : B → B → Cs → ER B} (hg : OpG K mg r g) (hg' : OpG K mg r' g') {σ : St} {H : Hp} {Q : VK} (h : tG K mg W (relB K) (eChain g g' fa fb fc) σ H Q) :
    tChain r r' (tG K mg W (relB K) fa) (tG K mg W (relB K) fb) (tG K mg W (relB K) fc) σ H Q := by
  obtain ⟨F, as, sl, cs, hs, S, h⟩ := h
  refine ⟨F, as, sl, cs, hs, S, (Out.bind mono_B h).imp ?_⟩
  rintro v H1 ⟨F1, as1, a, cs1, e1, S1, r1, o1⟩
  refine ⟨F1, as1, sl, cs1, e1.repS hs, S1, (Out.bind mono_B o1).imp ?_⟩
  rintro u H2 ⟨F2, as2, b, cs2, e2, S2, r2, o2⟩
  refine hg S2 (e2.repB r1) r2 ((Out.bind mono_B o2).imp ?_)
  rintro z H3 ⟨F3, as3, z', cs3, e3, S3, r3, o3⟩
  obtain ⟨k, rfl, o4⟩ := onB_give r3 o3
  refine ⟨k, rfl, ?_⟩
  cases k with
  | false => exact Out.give o4 S3 (.bl _)
  | true =>
    refine ⟨F3, as3, sl, cs3, e3.repS (e2.repS (e1.repS hs)), S3, (Out.bind mono_B o4).imp ?_⟩
    rintro y H4 ⟨F4, as4, y', cs4, e4, S4, r4, o5⟩
    exact hg' S4 (e4.repB (e3.repB r2)) r4 o5
theorem se_chain {op op' : CmpOp} {r r' : R2} {g g' : B → B → Cs → ER B} (ho : OpR X (compareOp op) r) (ho' : OpR X (compareOp op') r') (hg : OpG X.K X.mg r g) (hg' : OpG X.K X.mg r' g') (ha : SE X W a fa) (hb : SE X W b fb) (hc : SE X W c fc)
    (hm : lastMarks [op, op'] [b, c] = false := by with_unfolding_all rfl) : SE X W (.Compare a [op, op'] [b, c] pos) (eChain g g' fa fb fc) := pe_weak (pe_chain ho ho' ha hb hc hm) fun _ _ _ h => chain_of hg hg' h
theorem st_chain {op op' : CmpOp} {r r' : R2} {g g' : B → B → Cs → ER B} (ho : OpR X (compareOp op) r) (ho' : OpR X (compareOp op') r') (hg : OpG X.K X.mg r g) (hg' : OpG X.K X.mg r' g') (ha : SE X W a fa) (hb : SE X W b fb) (hc : SE X W c fc)
    (hm : lastMarks [op, op'] [b, c] = false := by with_unfolding_all rfl) : ST X W (.Compare a [op, op'] [b, c] pos) (eT (eChain g g' fa fb fc)) :=
  pt_weak (pt_chain ho ho' ha hb hc hm) fun _ _ _ h => chain_of hg hg' (test_of h)

/-! ### ints -/
def g2I (C : Int → Int → Prop) [∀ i j, Decidable (C i j)] (h : Int → Int → D) : B → B → Cs → ER B
  | .d (.int i), .d (.int j), cs => if C i j then .ok (.d (h i j)) cs else .no
  | _, _, _ => .no
def g2I0 (h : Int → Int → D) : B → B → Cs → ER B
  | .d (.int i), .d (.int j), cs => .ok (.d (h i j)) cs
  | _, _, _ => .no
def g1I (h : Int → D) : B → Cs → ER B
  | .d (.int i), cs => .ok (.d (h i)) cs
  | _, _ => .no
theorem og_I {K : PySem.W.Frag} {mg : Str → Option Value} {C : Int → Int → Prop} [∀ i j, Decidable (C i j)] {h : Int → Int → D} {v : Int → Int → V} (hv : ∀ F i j, Rp F (v i j) (h i j)) : OpG K mg (rI C v) (g2I C h) := fun S r1 r2 o => by
  unfold g2I at o
  split at o
  · split at o
    · cases r1; cases r2
      rename_i hc
      exact ⟨_, _, rfl, rfl, hc, Out.give o S (hv _ _ _)⟩
    · exact o.elim
  · exact o.elim
theorem og_I0 {K : PySem.W.Frag} {mg : Str → Option Value} {h : Int → Int → D} {v : Int → Int → V} (hv : ∀ F i j, Rp F (v i j) (h i j)) : OpG K mg (rI0 v) (g2I0 h) := fun S r1 r2 o => by
  unfold g2I0 at o
  split at o
  · cases r1; cases r2
    exact ⟨_, _, rfl, rfl, Out.give o S (hv _ _ _)⟩
  · exact o.elim
theorem ug_I {K : PySem.W.Frag} {mg : Str → Option Value} {h : Int → D} {v : Int → V} (hv : ∀ F i, Rp F (v i) (h i)) : UnG K mg (rU v) (g1I h) := fun S r1 o => by
  unfold g1I at o
  split at o
  · cases r1
    exact ⟨_, rfl, Out.give o S (hv _ _)⟩
  · exact o.elim
instance (i j : Int) : Decidable (CDiv i j) := by unfold CDiv; infer_instance
instance (i j : Int) : Decidable (CPow i j) := by unfold CPow; infer_instance
instance (i j : Int) : Decidable (CMul i j) := by unfold CMul; infer_instance
def gAdd : B → B → Cs → ER B := g2I0 fun i j => .int (i + j)
def gSub : B → B → Cs → ER B := g2I0 fun i j => .int (i - j)
def gMul : B → B → Cs → ER B := g2I CMul fun i j => .int (i * j)
def gDiv : B → B → Cs → ER B := g2I CDiv fun i j => .int (i / j)
def gMod : B → B → Cs → ER B := g2I (fun _ j => 0 < j) fun i j => .int (i % j)
def gShl : B → B → Cs → ER B := g2I CPow fun i j => .int (i * 2 ^ j.toNat)
def gShr : B → B → Cs → ER B := g2I (fun _ j => 0 ≤ j) fun i j => .int (i / 2 ^ j.toNat)
def gBand : B → B → Cs → ER B := g2I0 fun i j => .int (Builtin.bitAnd i j)
def gNeg : B → Cs → ER B := g1I fun i => .int (-i)
def gLt : B → B → Cs → ER B := g2I0 fun i j => .bool (decide (i < j))
def gLe : B → B → Cs → ER B := g2I0 fun i j => .bool (decide (i ≤ j))
def gGt : B → B → Cs → ER B := g2I0 fun i j => .bool (decide (j < i))
def gGe : B → B → Cs → ER B := g2I0 fun i j => .bool (decide (j ≤ i))
section
variable {K : PySem.W.Frag} {mg : Str → Option Value}
theorem og_add : OpG K mg (rI0 fun i j => .int (i + j)) gAdd := og_I0 fun _ _ _ => .int _
theorem og_sub : OpG K mg (rI0 fun i j => .int (i - j)) gSub := og_I0 fun _ _ _ => .int _
theorem og_mul : OpG K mg (rI CMul fun i j => .int (i * j)) gMul := og_I fun _ _ _ => .int _
theorem og_div : OpG K mg (rI CDiv fun i j => .int (i / j)) gDiv := og_I fun _ _ _ => .int _
theorem og_mod : OpG K mg (rI (fun _ j => 0 < j) fun i j => .int (i % j)) gMod := og_I fun _ _ _ => .int _
theorem og_shl : OpG K mg (rI CPow fun i j => .int (i * 2 ^ j.toNat)) gShl := og_I fun _ _ _ => .int _
theorem og_shr : OpG K mg (rI (fun _ j => 0 ≤ j) fun i j => .int (i / 2 ^ j.toNat)) gShr := og_I fun _ _ _ => .int _
theorem og_band : OpG K mg (rI0 fun i j => .int (Builtin.bitAnd i j)) gBand := og_I0 fun _ _ _ => .int _
theorem ug_neg : UnG K mg (rU fun i => .int (-i)) gNeg := ug_I fun _ _ => .int _
theorem og_lt : OpG K mg (rI0 fun i j => .bl (decide (i < j))) gLt := og_I0 fun _ _ _ => .bl _
theorem og_le : OpG K mg (rI0 fun i j => .bl (decide (i ≤ j))) gLe := og_I0 fun _ _ _ => .bl _
theorem og_gt : OpG K mg (rI0 fun i j => .bl (decide (j < i))) gGt := og_I0 fun _ _ _ => .bl _
theorem og_ge : OpG K mg (rI0 fun i j => .bl (decide (j ≤ i))) gGe := og_I0 fun _ _ _ => .bl _
end

end
end VM

/-! VM3: sequences, data, arguments, displays, built-ins, methods of lists. -/
namespace VM
open PySem L2

/-! ### lists of data -/
def allD : List B → Option (List D)
  | [] => some []
  | .d x :: bs => (allD bs).map (x :: ·)
  | _ :: _ => none
@[simp] theorem allD_nil : allD [] = some [] := rfl
@[simp] theorem allD_cons {x : D} {bs : List B} : allD (.d x :: bs) = (allD bs).map (x :: ·) := rfl
@[simp] theorem allD_map {α : Type} (f : α → D) (xs : List α) : allD (xs.map fun x => .d (f x)) = some (xs.map f) := by
  induction xs with
  | nil => rfl
  | cons x xs ih => rw [List.map_cons, allD_cons, ih]; rfl
@[simp] theorem allD_mapd (xs : List D) : allD (xs.map B.d) = some xs := by
  have h := allD_map (fun x : D => x) xs
  simpa using h
theorem allD_some : ∀ {bs : List B} {ds : List D}, allD bs = some ds → bs = ds.map B.d
  | [], ds, h => by cases h; rfl
  | .d x :: bs, ds, h => by
    rw [allD_cons] at h
    cases e : allD bs with
    | none => rw [e] at h; cases h
    | some ds' =>
      rw [e] at h
      cases h
      rw [List.map_cons, allD_some e]
  | .r _ :: _, _, h => by cases h
  | .c _ :: _, _, h => by cases h
  | .m _ _ :: _, _, h => by cases h
section
variable {K : PySem.W.Frag} {mg : Str → Option Value} {E : XK} {F : Hp} {as : List Addr} {cs : Cs} {H : Hp} {v : V} {b : B} {vs : List V} {bs : List B} {ds : List D}
theorem rpAll_of : ∀ {vs : List V} {ds : List D}, Paired (RepB K F as) vs (ds.map B.d) → RpAll F vs ds
  | [], [], _ => .nil
  | _ :: _, d :: ds, h => by
    cases h with
    | cons r t => exact .cons r (rpAll_of t)
  | [], _ :: _, h => by cases h
  | _ :: _, [], h => by cases h
theorem of_rpAll : ∀ {vs : List V} {ds : List D}, RpAll F vs ds → Paired (RepB K F as) vs (ds.map B.d)
  | _, _, .nil => .nil
  | _, _, .cons h t => .cons h (of_rpAll t)
/-- the module's, the script's data: a flat thing is as any other -/
def flatD : D → Bool
  | .none | .bool _ | .int _ | .str _ => true
  | _ => false
def kB (x : D) : B := if flatD x = true then .d x else .k x
theorem kB_rep {x : D} (h : Dp K F v x) : RepB K F as v (kB x) := by
  unfold kB
  cases x with
  | none => cases h; exact .non
  | bool _ => cases h; exact .bl _
  | int _ => cases h; exact .int _
  | str _ => cases h; exact .str _
  | list _ => exact h
  | tuple _ => exact h
  | dict _ => exact h
theorem of_dpAll : ∀ {vs : List V} {ds : List D}, DpAll K F vs ds → Paired (RepB K F as) vs (ds.map kB)
  | _, _, .nil => .nil
  | _, _, .cons h t => .cons (kB_rep h) (of_dpAll t)
@[simp] theorem kB_int (i : Int) : kB (.int i) = .d (.int i) := rfl
@[simp] theorem kB_str (i : Str) : kB (.str i) = .d (.str i) := rfl

/-! ### a sequence's items -/
def bList (cs : Cs) : B → Option (List B)
  | .d (.list xs) => some (xs.map B.d)
  | .k (.list xs) => some (xs.map kB)
  | .r k => match cs[k]? with
    | some (.lst bs) => some bs
    | _ => none
  | _ => none
def bSeq (cs : Cs) : B → Option (List B)
  | .d (.tuple xs) => some (xs.map B.d)
  | .k (.tuple xs) => some (xs.map kB)
  | b => bList cs b
@[simp] theorem bList_d {xs : List D} : bList cs (.d (.list xs)) = some (xs.map B.d) := rfl
@[simp] theorem bSeq_l {xs : List D} : bSeq cs (.d (.list xs)) = some (xs.map B.d) := rfl
@[simp] theorem bSeq_t {xs : List D} : bSeq cs (.d (.tuple xs)) = some (xs.map B.d) := rfl
@[simp] theorem bSeq_k {xs : List D} : bSeq cs (.k (.tuple xs)) = some (xs.map kB) := rfl
@[simp] theorem bSeq_kl {xs : List D} : bSeq cs (.k (.list xs)) = some (xs.map kB) := rfl
@[simp] theorem bSeq_r {k : Nat} : bSeq cs (.r k) = bList cs (.r k) := rfl
theorem bList_r {k : Nat} (h : cs[k]? = some (.lst bs)) : bList cs (.r k) = some bs := by show (match cs[k]? with | some (.lst bs) => some bs | _ => none) = some bs; rw [h]
theorem list_of (S : Sim K mg F as cs H) (r : RepB K F as v b) (h : bList cs b = some bs) : ∃ a vs, v = .ref a ∧ SqL K H a vs ∧ Paired (RepB K F as) vs bs := by
  unfold bList at h
  split at h
  · cases h
    cases r with
    | lst hs ha => exact ⟨_, _, rfl, SqL.of (S.sub _ _ hs), of_rpAll ha⟩
  · cases h
    cases r with
    | lst hs ha => exact ⟨_, _, rfl, ex_l S.sub hs, of_dpAll ha⟩
  · rename_i k
    obtain ⟨a, ea, rfl⟩ := r
    split at h
    · rename_i bs' e
      cases h
      obtain ⟨vs, hv, hp⟩ := S.cell _ _ _ ea e
      exact ⟨a, vs, rfl, SqL.of hv, hp⟩
    · cases h
  · cases h
theorem seq_of (S : Sim K mg F as cs H) (r : RepB K F as v b) (h : bSeq cs b = some bs) : ∃ a vs, v = .ref a ∧ (SqL K H a vs ∨ SqT K H a vs) ∧ Paired (RepB K F as) vs bs := by
  unfold bSeq at h
  split at h
  · cases h
    cases r with
    | tup hs ha => exact ⟨_, _, rfl, .inr (SqT.of (S.sub _ _ hs)), of_rpAll ha⟩
  · cases h
    cases r with
    | tup hs ha => exact ⟨_, _, rfl, .inr (ex_t S.sub hs), of_dpAll ha⟩
  · obtain ⟨a, vs, e, q, p⟩ := list_of S r h
    exact ⟨a, vs, e, .inl q, p⟩
/-- a thing as data, as it stands now -/
def bData (cs : Cs) (b : B) : Option D := match b with
  | .d x => some x
  | .k x => some x
  | .r k => (bList cs (.r k)).bind fun bs => (allD bs).map .list
  | .c _ => none
  | .m _ _ => none
@[simp] theorem bData_d {x : D} : bData cs (.d x) = some x := rfl
@[simp] theorem bData_k {x : D} : bData cs (.k x) = some x := rfl
theorem data_of (S : Sim K mg F as cs H) (r : RepB K F as v b) {x : D} (h : bData cs b = some x) : Dp K H v x := by
  cases b with
  | d y => cases h; exact rp_dp _ _ (rp_mono S.sub _ _ r)
  | k y => cases h; exact dp_mono S.sub _ _ r
  | c w => cases h
  | m _ _ => cases h
  | r k =>
    have h : (bList cs (.r k)).bind (fun bs => (allD bs).map .list) = some x := h
    cases e : bList cs (.r k) with
    | none => rw [e] at h; cases h
    | some bs =>
      rw [e] at h
      cases e2 : allD bs with
      | none =>
        have h' : (allD bs).map PyData.list = some x := h
        rw [e2] at h'; cases h'
      | some ds =>
        have h' : (allD bs).map PyData.list = some x := h
        rw [e2] at h'
        cases h'
        obtain ⟨a, vs, rfl, q, p⟩ := list_of S r e
        rw [allD_some e2] at p
        exact .lst q (rp_dpAll _ _ (rp_monoAll S.sub _ _ (rpAll_of p)))

/-! ### == and in -/
def gEq (a b : B) (cs : Cs) : ER B := match bData cs a, bData cs b with
  | some x, some y => if SeqAt.shaped x = true ∧ SeqAt.shaped y = true then .ok (.d (.bool (PyData.eqv x y))) cs else .no
  | _, _ => .no
def gNe (a b : B) (cs : Cs) : ER B := match bData cs a, bData cs b with
  | some x, some y => if SeqAt.shaped x = true ∧ SeqAt.shaped y = true then .ok (.d (.bool (!PyData.eqv x y))) cs else .no
  | _, _ => .no
theorem og_eq : OpG K mg (rEqD K) gEq := fun S r1 r2 o => by
  unfold gEq at o
  split at o
  · rename_i x' y' e1 e2
    split at o
    · rename_i hc
      exact ⟨_, _, data_of S r1 e1, data_of S r2 e2, hc.1, hc.2, Out.give o S (.bl _)⟩
    · exact o.elim
  · exact o.elim
theorem og_ne : OpG K mg (rNeD K) gNe := fun S r1 r2 o => by
  unfold gNe at o
  split at o
  · rename_i x' y' e1 e2
    split at o
    · rename_i hc
      exact ⟨_, _, data_of S r1 e1, data_of S r2 e2, hc.1, hc.2, Out.give o S (.bl _)⟩
    · exact o.elim
  · exact o.elim
def gIs : B → B → Cs → ER B
  | .d (.bool x), .d (.bool y), cs => .ok (.d (.bool (decide (x = y)))) cs
  | _, _, _ => .no
def gIsNot : B → B → Cs → ER B
  | .d (.bool x), .d (.bool y), cs => .ok (.d (.bool (!decide (x = y)))) cs
  | _, _, _ => .no
theorem og_is : OpG K mg rIsB gIs := fun S r1 r2 o => by
  unfold gIs at o
  split at o
  · cases r1; cases r2
    exact ⟨_, _, rfl, rfl, Out.give o S (.bl _)⟩
  · exact o.elim
theorem og_isNot : OpG K mg rNotB gIsNot := fun S r1 r2 o => by
  unfold gIsNot at o
  split at o
  · cases r1; cases r2
    exact ⟨_, _, rfl, rfl, Out.give o S (.bl _)⟩
  · exact o.elim
/-- is None -/
def isN : B → Bool
  | .d .none => true
  | _ => false
def gIsN : B → B → Cs → ER B
  | a, .d .none, cs => .ok (.d (.bool (isN a))) cs
  | _, _, _ => .no
def gNotN : B → B → Cs → ER B
  | a, .d .none, cs => .ok (.d (.bool (!isN a))) cs
  | _, _, _ => .no
theorem isN_of (hc : ∀ w, b ≠ .c w) (hk : ∀ x, b ≠ .k x) (r : RepB K F as v b) : decide (v = .non) = isN b := by
  cases b with
  | d x =>
    cases x with
    | none => cases r; rfl
    | bool _ => cases r; rfl
    | int _ => cases r; rfl
    | str _ => cases r; rfl
    | list _ => cases r; rfl
    | tuple _ => cases r; rfl
    | dict _ => cases r
  | k x => exact absurd rfl (hk x)
  | r k => obtain ⟨a, _, rfl⟩ := r; rfl
  | c w => exact absurd rfl (hc w)
  | m _ _ => obtain ⟨p, a, rfl, _⟩ := r; rfl
def noC : B → Bool
  | .c _ => false
  | .k _ => false
  | _ => true
theorem og_isN : OpG K mg (fun x y H Q => y = .non ∧ Q (.bl (decide (x = .non))) H) (fun a b cs => if noC a = true then gIsN a b cs else .no) := fun {E F as cs H x y a b Q} S r1 r2 o => by
  have o : Out K mg (relB K) E F as H (if noC a = true then gIsN a b cs else ER.no) Q := o
  split at o
  · rename_i hc
    unfold gIsN at o
    split at o
    · cases r2
      refine ⟨rfl, ?_⟩
      rw [isN_of (by intro w e; subst e; cases hc) (by intro w e; subst e; cases hc) r1]
      exact Out.give o S (.bl _)
    · exact o.elim
  · exact o.elim
theorem og_notN : OpG K mg (fun x y H Q => y = .non ∧ Q (.bl (!decide (x = .non))) H) (fun a b cs => if noC a = true then gNotN a b cs else .no) := fun {E F as cs H x y a b Q} S r1 r2 o => by
  have o : Out K mg (relB K) E F as H (if noC a = true then gNotN a b cs else ER.no) Q := o
  split at o
  · rename_i hc
    unfold gNotN at o
    split at o
    · cases r2
      refine ⟨rfl, ?_⟩
      rw [isN_of (by intro w e; subst e; cases hc) (by intro w e; subst e; cases hc) r1]
      exact Out.give o S (.bl _)
    · exact o.elim
  · exact o.elim
/-- x in a row of flat things -/
def dV : D → V
  | .bool b => .bl b
  | .int i => .int i
  | .str s => .str s
  | _ => .non
theorem flat_rep {x : D} (h : flatD x = true) (r : Rp F v x) : v = dV x := by
  cases x with
  | none => cases r; rfl
  | bool _ => cases r; rfl
  | int _ => cases r; rfl
  | str _ => cases r; rfl
  | list _ => cases h
  | tuple _ => cases h
  | dict _ => cases h
theorem flat_dV {x : D} (h : flatD x = true) : flatV (dV x) = true := by
  cases x <;> first | rfl | cases h
def gIn (neg : Bool) (a b : B) (cs : Cs) : ER B := match a, (bSeq cs b).bind allD with
  | .d x, some ds => if flatD x = true ∧ ds.all flatD = true then .ok (.d (.bool (if neg then !inV (dV x) (ds.map dV) else inV (dV x) (ds.map dV)))) cs else .no
  | _, _ => .no
theorem flat_all : ∀ {vs : List V} {ds : List D}, Paired (RepB K F as) vs (ds.map B.d) → ds.all flatD = true → vs = ds.map dV ∧ vs.all flatV = true
  | [], [], _, _ => ⟨rfl, rfl⟩
  | v :: vs, d :: ds, h, q => by
    cases h with
    | cons r t =>
      rw [List.all_cons, Bool.and_eq_true] at q
      obtain ⟨e1, e2⟩ := flat_all t q.2
      have e3 := flat_rep q.1 r
      refine ⟨by rw [List.map_cons, e1, e3], ?_⟩
      rw [List.all_cons, e2, e3, flat_dV q.1]; rfl
  | [], _ :: _, h, _ => by cases h
  | _ :: _, [], h, _ => by cases h
theorem og_in {neg : Bool} : OpG K mg (rIn K neg) (gIn neg) := fun {E F as cs H x y a b Q} S r1 r2 o => by
  unfold gIn at o
  split at o
  · rename_i x' ds e
    split at o
    · rename_i hc
      cases e1 : bSeq cs b with
      | none => rw [e1] at e; cases e
      | some bs =>
        rw [e1] at e
        have e' : allD bs = some ds := e
        obtain ⟨p, vs, rfl, hs, hp⟩ := seq_of S r2 e1
        rw [allD_some e'] at hp
        obtain ⟨h1, h2⟩ := flat_all hp hc.2
        refine ⟨p, vs, rfl, hs, ?_, h2, ?_⟩
        · rw [flat_rep hc.1 r1]; exact flat_dV hc.1
        · rw [flat_rep hc.1 r1, h1]
          exact Out.give o S (.bl _)
    · exact o.elim
  · exact o.elim

/-! ### truth -/
def gTru (b : B) (cs : Cs) : ER Bool := match b with
  | .d .none => .ok false cs
  | .d (.bool k) => .ok k cs
  | .d (.int i) => .ok (i != 0) cs
  | .d (.str s) => if s.length ≤ sizeLine then .ok ((s.length : Int) != 0) cs else .no
  | b => match bSeq cs b with
    | some bs => .ok (!bs.isEmpty) cs
    | none => .no
theorem isEmpty_pair {α β : Type} {R : α → β → Prop} {xs : List α} {ys : List β} (h : Paired R xs ys) : xs.isEmpty = ys.isEmpty := by cases h <;> rfl
theorem tru_give (S : Sim K mg F as cs H) (r : RepB K F as v b) {Q : Bool → Hp → Prop} (o : Out K mg relT E F as H (gTru b cs) Q) : ∃ k, TruV K v H k ∧ Q k H := by
  unfold gTru at o
  split at o
  · cases r; exact ⟨false, rfl, Out.give o S rfl⟩
  · cases r; exact ⟨_, rfl, Out.give o S rfl⟩
  · cases r; exact ⟨_, rfl, Out.give o S rfl⟩
  · cases r
    split at o
    · rename_i h; exact ⟨_, ⟨h, rfl⟩, Out.give o S rfl⟩
    · exact o.elim
  · split at o
    · rename_i bs e
      obtain ⟨a, vs, rfl, q, p⟩ := seq_of S r e
      rcases q with q | q
      · exact ⟨_, .inl ⟨vs, q, rfl⟩, Out.give o S (by show (!vs.isEmpty) = _; rw [isEmpty_pair p])⟩
      · exact ⟨_, .inr (.inl ⟨vs, q, rfl⟩), Out.give o S (by show (!vs.isEmpty) = _; rw [isEmpty_pair p])⟩
    · exact o.elim
end
section
variable {X : Cx} {W : WX} {e a b c : Expr} {f fa fb fc : Fn B} {t u : Fn Bool} {pos : Pos} {es : List Expr} {fs : Fn (List B)}
def eTru (f : Fn B) : Fn Bool := fun sl cs => (f sl cs).bind gTru
theorem st_tru (h : SE X W e f) (he : ∀ whole, isTrue e X.env whole = (do let v ← whole; standAt e.pos; holding [v] (truthy v)) := by intro _; rfl) : ST X W e (eTru f) := pt_weak (pt_truth h he) fun σ H Q h => by
  obtain ⟨F, as, sl, cs, hs, S, h⟩ := h
  refine ⟨F, as, sl, cs, hs, S, (Out.bind mono_T h).imp ?_⟩
  rintro v H1 ⟨F1, as1, b, cs1, e1, S1, r1, o1⟩
  exact tru_give S1 r1 o1

/-! ### items -/
def gIx (a i : B) (cs : Cs) : ER B := match i with
  | .d (.int j) => match a with
    | .d (.str s) => if s.length ≤ sizeLine then match atI s.cps.toList j with
      | some c => .ok (.d (.str ⟨#[c]⟩)) cs
      | none => .no else .no
    | _ => match bSeq cs a with
      | some bs => match atI bs j with
        | some b => .ok b cs
        | none => .no
      | none => .no
  | _ => .no
theorem atI_pair {α β : Type} {R : α → β → Prop} {xs : List α} {ys : List β} (h : Paired R xs ys) {i : Int} {y : β} (e : atI ys i = some y) : ∃ x, atI xs i = some x ∧ R x y := by
  unfold atI at e ⊢
  rw [pair_len h]
  cases q : ixN ys.length i with
  | none => rw [q] at e; cases e
  | some j =>
    rw [q] at e
    exact pair_get h e
theorem og_ix {K : PySem.W.Frag} {mg : Str → Option Value} : OpG K mg (rIx K) gIx := fun {E F as cs H x y a b Q} S r1 r2 o => by
  unfold gIx at o
  split at o
  · rename_i j
    cases r2
    split at o
    · rename_i s
      split at o
      · rename_i hl
        split at o
        · rename_i c e
          cases r1
          exact .inr (.inr ⟨_, _, _, rfl, rfl, hl, e, Out.give o S (.str _)⟩)
        · exact o.elim
      · exact o.elim
    · split at o
      · rename_i bs e
        split at o
        · rename_i b' e2
          obtain ⟨p, vs, rfl, hs, hp⟩ := seq_of S r1 e
          obtain ⟨z, ez, rz⟩ := atI_pair hp e2
          rcases hs with hs | hs
          · exact .inl ⟨p, vs, _, z, rfl, rfl, hs, ez, Out.give o S rz⟩
          · exact .inr (.inl ⟨p, vs, _, z, rfl, rfl, hs, ez, Out.give o S rz⟩)
        · exact o.elim
      · exact o.elim
  · exact o.elim
theorem se_ix (ha : SE X W a fa) (hb : SE X W b fb) (hs : PlainIx b := by exact fun _ _ => rfl) : SE X W (.Subscript a b pos) (eBin gIx fa fb) := pe_weak (pe_ix ix_seq ha hb hs) fun _ _ _ h => two_of og_ix h

/-! ### arguments, displays -/
def aNil : Fn (List B) := fun _ cs => .ok [] cs
def aCons (f : Fn B) (g : Fn (List B)) : Fn (List B) := fun sl cs => (f sl cs).bind fun b cs1 => (g sl cs1).bind fun bs cs2 => .ok (b :: bs) cs2
def aStar (f : Fn B) (g : Fn (List B)) : Fn (List B) := fun sl cs => (f sl cs).bind fun b cs1 => match bSeq cs1 b with
  | some xs => (g sl cs1).bind fun bs cs2 => .ok (xs ++ bs) cs2
  | none => .no
theorem sa_nil : SA X W [] aNil := pa_weak pa_nil fun σ H Q ⟨F, as, sl, cs, hs, S, h⟩ => Out.give h S (.nil)
theorem sa_cons (ha : SE X W e f) (hr : SA X W es fs) (hs : starEach (e :: es) X.env = (false, eval e X.env) :: starEach es X.env := by rfl) : SA X W (e :: es) (aCons f fs) := pa_weak (pa_cons ha hr hs) fun σ H Q h => by
  obtain ⟨F, as, sl, cs, hs, S, h⟩ := h
  refine ⟨F, as, sl, cs, hs, S, (Out.bind mono_A h).imp ?_⟩
  rintro v H1 ⟨F1, as1, b, cs1, e1, S1, r1, o1⟩
  refine ⟨F1, as1, sl, cs1, e1.repS hs, S1, (Out.bind mono_A o1).imp ?_⟩
  rintro vs H2 ⟨F2, as2, bs, cs2, e2, S2, r2, o2⟩
  exact Out.give o2 S2 (.cons (e2.repB r1) r2)
theorem sa_star {p : Pos} (he : SE X W e f) (hr : SA X W es fs) (hs : starEach (.Starred e p :: es) X.env = (true, eval e X.env) :: starEach es X.env := by rfl) : SA X W (.Starred e p :: es) (aStar f fs) := pa_weak (StX.pa_star he hr hs) fun σ H Q h => by
  obtain ⟨F, as, sl, cs, hs, S, h⟩ := h
  refine ⟨F, as, sl, cs, hs, S, (Out.bind mono_A h).imp ?_⟩
  rintro v H1 ⟨F1, as1, b, cs1, e1, S1, r1, o1⟩
  split at o1
  · rename_i xs ex
    obtain ⟨p, vs, rfl, q, hp⟩ := seq_of S1 r1 ex
    refine ⟨p, vs, rfl, q.elim .inr .inl, F1, as1, sl, cs1, e1.repS hs, S1, (Out.bind mono_A o1).imp ?_⟩
    rintro ws H2 ⟨F2, as2, bs, cs2, e2, S2, r2, o2⟩
    exact Out.give o2 S2 (pair_app (e2.repBs hp) r2)
  · exact o1.elim
/-- (a, b, ..) of data -/
def eTup (fs : Fn (List B)) : Fn B := fun sl cs => (fs sl cs).bind fun bs cs1 => match allD bs with
  | some ds => if ds.length ≤ sizeLine then .ok (.d (.tuple ds)) cs1 else .no
  | none => .no
theorem new_tup {K : PySem.W.Frag} {mg : Str → Option Value} {E : XK} {F : Hp} {as : List Addr} {cs : Cs} {H : Hp} {vs : List V} {ds : List D} {Q : VK} (S : Sim K mg F as cs H) (r : Paired (RepB K F as) vs (ds.map B.d)) (o : Out K mg (relB K) E F as H (.ok (.d (.tuple ds)) cs) Q) :
    ∀ p, H p = none → Q (.ref p) (upd H p (.tup vs)) := fun p hp => by
  refine Out.give2 o (Evo.new S hp) (S.new hp) ?_
  exact .tup upd_same (rpAll_of (K := K) (pair_mono (fun _ _ q => repB_mono (upd_grow (S.fnone hp)) (as := as) (as' := as) ⟨[], by simp⟩ q) r))
theorem new_lst {K : PySem.W.Frag} {mg : Str → Option Value} {E : XK} {F : Hp} {as : List Addr} {cs : Cs} {H : Hp} {vs : List V} {bs : List B} {Q : VK} (S : Sim K mg F as cs H) (r : Paired (RepB K F as) vs bs) (hl : vs.length ≤ sizeLine) (o : Out K mg (relL K) E F as H (.ok bs cs) Q) :
    ∀ p, H p = none → Q (.ref p) (upd H p (.lst vs)) := fun p hp =>
  Out.give2 o (Evo.heap hp) (S.grow (upd_grow hp)) ⟨p, vs, rfl, upd_same, S.fnone hp, S.out hp, hp, hl, r⟩
theorem se_tup {x1} (h : SA X W es fs) : SE X W (.Tuple es x1 pos) (eTup fs) := pe_weak (pe_tup h) fun σ H Q h => by
  obtain ⟨F, as, sl, cs, hs, S, h⟩ := h
  refine ⟨F, as, sl, cs, hs, S, (Out.bind mono_B h).imp ?_⟩
  rintro vs H1 ⟨F1, as1, bs, cs1, e1, S1, r1, o1⟩
  split at o1
  · rename_i ds e
    split at o1
    · rename_i hl
      have r1' : Paired (RepB X.K F1 as1) vs bs := r1
      rw [allD_some e] at r1'
      have hz := pair_len r1'
      rw [List.length_map] at hz
      exact ⟨by omega, new_tup S1 r1' o1⟩
    · exact o1.elim
  · exact o1.elim
def lTake (fs : Fn (List B)) : Fn (List B) := fun sl cs => (fs sl cs).bind fun bs cs1 => if bs.length ≤ sizeLine then .ok bs cs1 else .no
theorem sl_lst (h : SA X W es fs) : SL X W (.List es pos) (lTake fs) := pe_weak (pe_lst h) fun σ H Q h => by
  obtain ⟨F, as, sl, cs, hs, S, h⟩ := h
  refine ⟨F, as, sl, cs, hs, S, (Out.bind mono_L h).imp ?_⟩
  rintro vs H1 ⟨F1, as1, bs, cs1, e1, S1, r1, o1⟩
  split at o1
  · rename_i hl
    have hz := pair_len (show Paired (RepB X.K F1 as1) vs bs from r1)
    exact ⟨by omega, new_lst S1 r1 (by omega) o1⟩
  · exact o1.elim
/-- a new list, never changed from here on | a new cell -/
def eFrz (g : Fn (List B)) : Fn B := fun sl cs => (g sl cs).bind fun bs cs1 => match allD bs with
  | some ds => .ok (.d (.list ds)) cs1
  | none => .no
def eCell (g : Fn (List B)) : Fn B := fun sl cs => (g sl cs).bind fun bs cs1 => .ok (.r cs1.length) (cs1 ++ [.lst bs])
theorem se_frz {g : Fn (List B)} (h : SL X W e g) : SE X W e (eFrz g) := pe_weak h fun σ H Q h => by
  obtain ⟨F, as, sl, cs, hs, S, h⟩ := h
  refine ⟨F, as, sl, cs, hs, S, (Out.bind0 h).imp ?_⟩
  rintro v H1 ⟨F1, as1, bs, cs1, e1, S1, ⟨p, vs, rfl, h1, h2, h3, h4, hz, h5⟩, o1⟩
  split at o1
  · rename_i ds ed
    rw [allD_some ed] at h5
    refine Out.give2 o1 (e1.know S1 h1 h3 h4) (S1.know h1 h3) ?_
    exact .lst upd_same (rpAll_of (K := X.K) (pair_mono (fun _ _ q => repB_mono (upd_grow h2) (as := as1) (as' := as1) ⟨[], by simp⟩ q) h5))
  · exact o1.elim
theorem se_cell {g : Fn (List B)} (h : SL X W e g) : SE X W e (eCell g) := pe_weak h fun σ H Q h => by
  obtain ⟨F, as, sl, cs, hs, S, h⟩ := h
  refine ⟨F, as, sl, cs, hs, S, (Out.bind0 h).imp ?_⟩
  rintro v H1 ⟨F1, as1, bs, cs1, e1, S1, ⟨p, vs, rfl, h1, h2, h3, h4, hz, h5⟩, o1⟩
  refine Out.give2 o1 (e1.add h4) (S1.add (by rw [h1]; simp) h2 h3 (c := .lst bs) ⟨vs, h1, pair_mono (fun _ _ q => repB_mono (fun _ _ z => z) ⟨[p], rfl⟩ q) h5⟩) ⟨p, ?_, rfl⟩
  rw [← S1.len]
  simp

/-! ### built-ins -/
def eCall (g : List B → Cs → ER B) (fs : Fn (List B)) : Fn B := fun sl cs => (fs sl cs).bind g
def lCall (g : List B → Cs → ER (List B)) (fs : Fn (List B)) : Fn (List B) := fun sl cs => (fs sl cs).bind g
/-- .. that gives a new list -/
def LsL (K : PySem.W.Frag) (mg : Str → Option Value) (r : List V → Hp → VK → Prop) (g : List B → Cs → ER (List B)) : Prop := ∀ {E : XK} {F : Hp} {as : List Addr} {cs : Cs} {H : Hp} {x : List V} {a : List B} {Q : VK},
  Sim K mg F as cs H → Paired (RepB K F as) x a → Out K mg (relL K) E F as H (g a cs) Q → r x H Q
theorem call_of {K : PySem.W.Frag} {mg : Str → Option Value} {r : List V → Hp → VK → Prop} {g : List B → Cs → ER B} (hg : LsG K mg r g) {σ : St} {H : Hp} {Q : VK} (h : tG K mg W (relB K) (eCall g fs) σ H Q) : tCB r (tG K mg W (relA K) fs) σ H Q := by
  obtain ⟨F, as, sl, cs, hs, S, h⟩ := h
  refine ⟨F, as, sl, cs, hs, S, (Out.bind mono_B h).imp ?_⟩
  rintro v H1 ⟨F1, as1, bs, cs1, e1, S1, r1, o1⟩
  exact hg S1 r1 o1
theorem callL_of {K : PySem.W.Frag} {mg : Str → Option Value} {r : List V → Hp → VK → Prop} {g : List B → Cs → ER (List B)} (hg : LsL K mg r g) {σ : St} {H : Hp} {Q : VK} (h : tG K mg W (relL K) (lCall g fs) σ H Q) : tCB r (tG K mg W (relA K) fs) σ H Q := by
  obtain ⟨F, as, sl, cs, hs, S, h⟩ := h
  refine ⟨F, as, sl, cs, hs, S, (Out.bind mono_L h).imp ?_⟩
  rintro v H1 ⟨F1, as1, bs, cs1, e1, S1, r1, o1⟩
  exact hg S1 r1 o1
section
variable {id T : String} {x : Str} {p : Pos} {r : List V → Hp → VK → Prop} {g : List B → Cs → ER B} {gl : List B → Cs → ER (List B)}
theorem se_callB (hc : CallR X (.builtin id) r) (hg' : LsG X.K X.mg r g) (hg : Gl X x) (hm : X.mg x = none) (hv : bootBuiltins x = some (.builtin id)) (ha : SA X W (e :: es) fs) (hn : x ≠ "__name__" := by decide) (hdb : (x == ("__debug__" : Str)) = false := by decide)
    (he : starEach (e :: es) X.env = (false, eval e X.env) :: starEach es X.env := by rfl) (hpl : (backTo pos (starEach es X.env)).any (·.1) = false := by rfl) : SE X W (.Call (.Name x p) (e :: es) [] pos) (eCall g fs) :=
  pe_weak (pe_callB hc hg hm hv ha hn hdb he hpl) fun _ _ _ h => call_of hg' h
theorem se_callTy (hc : CallR X (.type T) r) (hg' : LsG X.K X.mg r g) (hg : Gl X x) (hm : X.mg x = none) (hv : bootBuiltins x = some (.type T)) (ha : SA X W (e :: es) fs) (hn : x ≠ "__name__" := by decide) (hdb : (x == ("__debug__" : Str)) = false := by decide)
    (he : starEach (e :: es) X.env = (false, eval e X.env) :: starEach es X.env := by rfl) (hpl : (backTo pos (starEach es X.env)).any (·.1) = false := by rfl) : SE X W (.Call (.Name x p) (e :: es) [] pos) (eCall g fs) :=
  pe_weak (pe_callTy hc hg hm hv ha hn hdb he hpl) fun _ _ _ h => call_of hg' h
theorem sl_callB (hc : CallR X (.builtin id) r) (hg' : LsL X.K X.mg r gl) (hg : Gl X x) (hm : X.mg x = none) (hv : bootBuiltins x = some (.builtin id)) (ha : SA X W (e :: es) fs) (hn : x ≠ "__name__" := by decide) (hdb : (x == ("__debug__" : Str)) = false := by decide)
    (he : starEach (e :: es) X.env = (false, eval e X.env) :: starEach es X.env := by rfl) (hpl : (backTo pos (starEach es X.env)).any (·.1) = false := by rfl) : SL X W (.Call (.Name x p) (e :: es) [] pos) (lCall gl fs) :=
  pe_weak (pe_callB hc hg hm hv ha hn hdb he hpl) fun _ _ _ h => callL_of hg' h
theorem sl_callTy (hc : CallR X (.type T) r) (hg' : LsL X.K X.mg r gl) (hg : Gl X x) (hm : X.mg x = none) (hv : bootBuiltins x = some (.type T)) (ha : SA X W (e :: es) fs) (hn : x ≠ "__name__" := by decide) (hdb : (x == ("__debug__" : Str)) = false := by decide)
    (he : starEach (e :: es) X.env = (false, eval e X.env) :: starEach es X.env := by rfl) (hpl : (backTo pos (starEach es X.env)).any (·.1) = false := by rfl) : SL X W (.Call (.Name x p) (e :: es) [] pos) (lCall gl fs) :=
  pe_weak (pe_callTy hc hg hm hv ha hn hdb he hpl) fun _ _ _ h => callL_of hg' h
end
end
section
variable {K : PySem.W.Frag} {mg : Str → Option Value}
theorem pair1 {R : V → B → Prop} {xs : List V} {a : B} (h : Paired R xs [a]) : ∃ x, xs = [x] ∧ R x a := by
  cases h with
  | cons r t => cases t; exact ⟨_, rfl, r⟩
theorem pair2 {R : V → B → Prop} {xs : List V} {a b : B} (h : Paired R xs [a, b]) : ∃ x y, xs = [x, y] ∧ R x a ∧ R y b := by
  cases h with
  | cons r t =>
    cases t with
    | cons r' t => cases t; exact ⟨_, _, rfl, r, r'⟩
def gLen (a : List B) (cs : Cs) : ER B := match a with
  | [.d (.str s)] => if s.length ≤ sizeLine then .ok (.d (.int s.length)) cs else .no
  | [b] => match bSeq cs b with
    | some bs => .ok (.d (.int bs.length)) cs
    | none => .no
  | _ => .no
theorem lg_len : LsG K mg (fun xs H Q => ∃ x n, xs = [x] ∧ LenV K x H n ∧ Q (.int n) H) gLen := fun {E F as cs H x a Q} S r o => by
  unfold gLen at o
  split at o
  · split at o
    · rename_i hl
      obtain ⟨x, rfl, r0⟩ := pair1 r
      cases r0
      exact ⟨_, _, rfl, show _ ∧ _ from ⟨hl, rfl⟩, Out.give o S (.int _)⟩
    · exact o.elim
  · split at o
    · rename_i bs e
      obtain ⟨x, rfl, r0⟩ := pair1 r
      obtain ⟨p, vs, rfl, hs, hp⟩ := seq_of S r0 e
      refine ⟨_, vs.length, rfl, ?_, Out.give o S (by rw [pair_len hp]; exact .int _)⟩
      exact hs.elim (fun q => .inl ⟨vs, q, rfl⟩) fun q => .inr ⟨vs, q, rfl⟩
    · exact o.elim
  · exact o.elim
def allI : List D → Option (List Int)
  | [] => some []
  | .int i :: r => (allI r).map (i :: ·)
  | _ :: _ => none
def allB : List D → Option (List Bool)
  | [] => some []
  | .bool i :: r => (allB r).map (i :: ·)
  | _ :: _ => none
@[simp] theorem allI_map {α : Type} (f : α → Int) (xs : List α) : allI (xs.map fun x => .int (f x)) = some (xs.map f) := by
  induction xs with
  | nil => rfl
  | cons x xs ih =>
    show (allI (xs.map fun x => .int (f x))).map (f x :: ·) = _
    rw [ih]; rfl
@[simp] theorem allI_mapi (xs : List Int) : allI (xs.map PyData.int) = some xs := by simpa using allI_map (fun x : Int => x) xs
@[simp] theorem allB_map {α : Type} (f : α → Bool) (xs : List α) : allB (xs.map fun x => .bool (f x)) = some (xs.map f) := by
  induction xs with
  | nil => rfl
  | cons x xs ih =>
    show (allB (xs.map fun x => .bool (f x))).map (f x :: ·) = _
    rw [ih]; rfl
@[simp] theorem allB_mapb (xs : List Bool) : allB (xs.map PyData.bool) = some xs := by simpa using allB_map (fun x : Bool => x) xs
theorem allI_some : ∀ {ds : List D} {ns : List Int}, allI ds = some ns → ds = ns.map PyData.int
  | [], ns, h => by cases h; rfl
  | .int i :: ds, ns, h => by
    have h : (allI ds).map (i :: ·) = some ns := h
    cases e : allI ds with
    | none => rw [e] at h; cases h
    | some ms => rw [e] at h; cases h; rw [List.map_cons, allI_some e]
  | .none :: _, _, h => by cases h
  | .bool _ :: _, _, h => by cases h
  | .str _ :: _, _, h => by cases h
  | .list _ :: _, _, h => by cases h
  | .tuple _ :: _, _, h => by cases h
  | .dict _ :: _, _, h => by cases h
theorem allB_some : ∀ {ds : List D} {ns : List Bool}, allB ds = some ns → ds = ns.map PyData.bool
  | [], ns, h => by cases h; rfl
  | .bool i :: ds, ns, h => by
    have h : (allB ds).map (i :: ·) = some ns := h
    cases e : allB ds with
    | none => rw [e] at h; cases h
    | some ms => rw [e] at h; cases h; rw [List.map_cons, allB_some e]
  | .none :: _, _, h => by cases h
  | .int _ :: _, _, h => by cases h
  | .str _ :: _, _, h => by cases h
  | .list _ :: _, _, h => by cases h
  | .tuple _ :: _, _, h => by cases h
  | .dict _ :: _, _, h => by cases h
/-- a list's ints, bools -/
def bInts (cs : Cs) (b : B) : Option (List Int) := ((bList cs b).bind allD).bind allI
def bBools (cs : Cs) (b : B) : Option (List Bool) := ((bList cs b).bind allD).bind allB
theorem vInts {F : Hp} {as : List Addr} : ∀ {vs : List V} {ns : List Int}, Paired (RepB K F as) vs ((ns.map PyData.int).map B.d) → vs = ns.map V.int
  | [], [], _ => rfl
  | _ :: _, n :: ns, h => by
    cases h with
    | cons r t => cases r; rw [vInts t]; rfl
  | [], _ :: _, h => by cases h
  | _ :: _, [], h => by cases h
theorem vBools {F : Hp} {as : List Addr} : ∀ {vs : List V} {ns : List Bool}, Paired (RepB K F as) vs ((ns.map PyData.bool).map B.d) → vs = ns.map V.bl
  | [], [], _ => rfl
  | _ :: _, n :: ns, h => by
    cases h with
    | cons r t => cases r; rw [vBools t]; rfl
  | [], _ :: _, h => by cases h
  | _ :: _, [], h => by cases h
theorem ints_of {F : Hp} {as : List Addr} {cs : Cs} {H : Hp} {v : V} {b : B} {ns : List Int} (S : Sim K mg F as cs H) (r : RepB K F as v b) (h : bInts cs b = some ns) : ∃ a, v = .ref a ∧ SqL K H a (ns.map V.int) := by
  unfold bInts at h
  cases e1 : bList cs b with
  | none => rw [e1] at h; cases h
  | some bs =>
    rw [e1] at h
    cases e2 : allD bs with
    | none =>
      have h' : (allD bs).bind allI = some ns := h
      rw [e2] at h'; cases h'
    | some ds =>
      have h' : (allD bs).bind allI = some ns := h
      rw [e2] at h'
      obtain ⟨a, vs, rfl, q, p⟩ := list_of S r e1
      rw [allD_some e2, allI_some h'] at p
      rw [vInts p] at q
      exact ⟨a, rfl, q⟩
theorem bools_of {F : Hp} {as : List Addr} {cs : Cs} {H : Hp} {v : V} {b : B} {ns : List Bool} (S : Sim K mg F as cs H) (r : RepB K F as v b) (h : bBools cs b = some ns) : ∃ a, v = .ref a ∧ SqL K H a (ns.map V.bl) := by
  unfold bBools at h
  cases e1 : bList cs b with
  | none => rw [e1] at h; cases h
  | some bs =>
    rw [e1] at h
    cases e2 : allD bs with
    | none =>
      have h' : (allD bs).bind allB = some ns := h
      rw [e2] at h'; cases h'
    | some ds =>
      have h' : (allD bs).bind allB = some ns := h
      rw [e2] at h'
      obtain ⟨a, vs, rfl, q, p⟩ := list_of S r e1
      rw [allD_some e2, allB_some h'] at p
      rw [vBools p] at q
      exact ⟨a, rfl, q⟩
def gSum (a : List B) (cs : Cs) : ER B := match a with
  | [b] => match bInts cs b with
    | some ns => .ok (.d (.int ns.sum)) cs
    | none => .no
  | _ => .no
theorem lg_sum : LsG K mg (rSum K) gSum := fun {E F as cs H x a Q} S r o => by
  unfold gSum at o
  split at o
  · split at o
    · rename_i ns e
      obtain ⟨x, rfl, r0⟩ := pair1 r
      obtain ⟨p, rfl, q⟩ := ints_of S r0 e
      exact ⟨p, ns, rfl, q, Out.give o S (.int _)⟩
    · exact o.elim
  · exact o.elim
def gAll (a : List B) (cs : Cs) : ER B := match a with
  | [b] => match bBools cs b with
    | some ns => .ok (.d (.bool (ns.all id))) cs
    | none => .no
  | _ => .no
def gAny (a : List B) (cs : Cs) : ER B := match a with
  | [b] => match bBools cs b with
    | some ns => .ok (.d (.bool (ns.any id))) cs
    | none => .no
  | _ => .no
theorem lg_all : LsG K mg (rAll K) gAll := fun {E F as cs H x a Q} S r o => by
  unfold gAll at o
  split at o
  · split at o
    · rename_i ns e
      obtain ⟨x, rfl, r0⟩ := pair1 r
      obtain ⟨p, rfl, q⟩ := bools_of S r0 e
      exact ⟨p, ns, rfl, q, Out.give o S (.bl _)⟩
    · exact o.elim
  · exact o.elim
theorem lg_any : LsG K mg (rAny K) gAny := fun {E F as cs H x a Q} S r o => by
  unfold gAny at o
  split at o
  · split at o
    · rename_i ns e
      obtain ⟨x, rfl, r0⟩ := pair1 r
      obtain ⟨p, rfl, q⟩ := bools_of S r0 e
      exact ⟨p, ns, rfl, q, Out.give o S (.bl _)⟩
    · exact o.elim
  · exact o.elim
def gMax (a : List B) (cs : Cs) : ER B := match a with
  | [.d (.int i), .d (.int j)] => .ok (.d (.int (if j > i then j else i))) cs
  | _ => .no
def gMin (a : List B) (cs : Cs) : ER B := match a with
  | [.d (.int i), .d (.int j)] => .ok (.d (.int (if j < i then j else i))) cs
  | _ => .no
theorem lg_max : LsG K mg (fun xs H Q => ∃ i j, xs = [.int i, .int j] ∧ Q (.int (if j > i then j else i)) H) gMax := fun {E F as cs H x a Q} S r o => by
  unfold gMax at o
  split at o
  · obtain ⟨x, y, rfl, r1, r2⟩ := pair2 r
    cases r1; cases r2
    exact ⟨_, _, rfl, Out.give o S (.int _)⟩
  · exact o.elim
theorem lg_min : LsG K mg (fun xs H Q => ∃ i j, xs = [.int i, .int j] ∧ Q (.int (if j < i then j else i)) H) gMin := fun {E F as cs H x a Q} S r o => by
  unfold gMin at o
  split at o
  · obtain ⟨x, y, rfl, r1, r2⟩ := pair2 r
    cases r1; cases r2
    exact ⟨_, _, rfl, Out.give o S (.int _)⟩
  · exact o.elim
def gInt (a : List B) (cs : Cs) : ER B := match a with
  | [.d (.int i)] => .ok (.d (.int i)) cs
  | [.d (.bool k)] => .ok (.d (.int (if k then 1 else 0))) cs
  | _ => .no
theorem lg_int : LsG K mg (fun xs H Q => (∃ i, xs = [.int i] ∧ Q (.int i) H) ∨ ∃ k, xs = [.bl k] ∧ Q (.int (if k then 1 else 0)) H) gInt := fun {E F as cs H x a Q} S r o => by
  unfold gInt at o
  split at o
  · obtain ⟨x, rfl, r0⟩ := pair1 r
    cases r0
    exact .inl ⟨_, rfl, Out.give o S (.int _)⟩
  · obtain ⟨x, rfl, r0⟩ := pair1 r
    cases r0
    exact .inr ⟨_, rfl, Out.give o S (.int _)⟩
  · exact o.elim
def gAbs (a : List B) (cs : Cs) : ER B := match a with
  | [.d (.int i)] => .ok (.d (.int (if i < 0 then -i else i))) cs
  | _ => .no
theorem lg_abs : LsG K mg (fun xs H Q => ∃ i, xs = [.int i] ∧ Q (.int (if i < 0 then -i else i)) H) gAbs := fun {E F as cs H x a Q} S r o => by
  unfold gAbs at o
  split at o
  · obtain ⟨x, rfl, r0⟩ := pair1 r
    cases r0
    exact ⟨_, rfl, Out.give o S (.int _)⟩
  · exact o.elim
/-- tuple(xs) -/
def gTuple (a : List B) (cs : Cs) : ER B := match a with
  | [.d (.tuple xs)] => .ok (.d (.tuple xs)) cs
  | [b] => match (bList cs b).bind allD with
    | some ds => .ok (.d (.tuple ds)) cs
    | none => .no
  | _ => .no
theorem lg_tuple : LsG K mg (fun xs H Q => ∃ p ys, xs = [.ref p] ∧ ((SqL K H p ys ∧ ∀ l, H l = none → Q (.ref l) (upd H l (.tup ys))) ∨ (SqT K H p ys ∧ Q (.ref p) H))) gTuple := fun {E F as cs H x a Q} S r o => by
  unfold gTuple at o
  split at o
  · obtain ⟨x, rfl, r0⟩ := pair1 r
    cases r0 with
    | tup hs ha => exact ⟨_, _, rfl, .inr ⟨SqT.of (S.sub _ _ hs), Out.give o S (.tup hs ha)⟩⟩
  · split at o
    · rename_i ds e
      obtain ⟨x, rfl, r0⟩ := pair1 r
      rename_i b _ _
      cases e1 : bList cs b with
      | none => rw [e1] at e; cases e
      | some bs =>
        rw [e1] at e
        have e' : allD bs = some ds := e
        obtain ⟨p, vs, rfl, q, hp⟩ := list_of S r0 e1
        rw [allD_some e'] at hp
        exact ⟨p, vs, rfl, .inl ⟨q, new_tup S hp o⟩⟩
    · exact o.elim
  · exact o.elim
/-- list(xs) -/
def gList (a : List B) (cs : Cs) : ER (List B) := match a with
  | [b] => match bSeq cs b with
    | some bs => if bs.length ≤ sizeLine then .ok bs cs else .no
    | none => .no
  | _ => .no
theorem ll_list : LsL K mg (fun xs H Q => ∃ p ys, xs = [.ref p] ∧ (SqL K H p ys ∨ SqT K H p ys) ∧ ∀ l, H l = none → Q (.ref l) (upd H l (.lst ys))) gList := fun {E F as cs H x a Q} S r o => by
  unfold gList at o
  split at o
  · split at o
    · split at o
      · rename_i bs e hl
        obtain ⟨x, rfl, r0⟩ := pair1 r
        obtain ⟨p, vs, rfl, q, hp⟩ := seq_of S r0 e
        have hz := pair_len hp
        exact ⟨p, vs, rfl, q, new_lst S hp (by omega) o⟩
      · exact o.elim
    · exact o.elim
  · exact o.elim
end
end VM

set_option maxHeartbeats 2000000
/-! VMe: enumerate over a tuple. -/
namespace VM
open PySem PySem.Spec PyProof.Rows L2
open AutoSeq1 (wpAny_loadPart')

theorem draws_tuple {prog : Program} {w : World} {A : Around} (hh : A.handled = none) (it l : Addr) (hne : l ≠ it) (items : Array Value) :
    Draws prog w A it [it, l] items.size (fun i v => items[i]? = some v) (fun i h => h.IsTupleIter it l i ∧ h.IsTuple l items) where
  live := fun _ _ st => let ⟨o, ho, _⟩ := st.1; ⟨o, ho⟩
  frame := fun _ _ _ st hk => ⟨st.1.at fun o e => hk it (by simp) o e, st.2.at fun o e => hk l (by simp) o e⟩
  item := fun i s Q E hi st hQ => by
    refine RZ.nextOf_tuple_item st.1 st.2 (x := items[i]) (by simp [hi]) fun h' hit' hs' => ?_
    exact hQ _ h' s.toks (by simp [hi]) ⟨hit', st.2.at fun o e => (hs'.2 l hne).trans e⟩ hs'
  done := fun s Q E st hE => RZ.nextOf_tuple_end hh st.1 st.2 (by simp) hE

theorem meets_enumerate_newT (l : Addr) (items : Array Value) (o : Obj) :
    Meets (Builtin.«enumerate.__new__» ⟨[.type "enumerate", .ref l], []⟩) (fun _ R s => (s.heap.get? l = some o ∧ s.heap.IsTuple l items) ∧
      R (.ok (.ret (.ref (s.heap.push { cls := .type "tuple_iterator", data := .fields #[.ref l, .int 0 0] }).objs.size)))
        { s with heap := (s.heap.push { cls := .type "tuple_iterator", data := .fields #[.ref l, .int 0 0] }).push { cls := .type "enumerate", data := .fields #[.none, .bool false, .ref s.heap.objs.size, rawInt 0, .none, .none] } }) :=
  .of_wp fun prog w A R s h => by
    obtain ⟨hp, g, d, tk, os⟩ := s; obtain ⟨⟨hl, hL⟩, h⟩ := h
    have hsub := sub_enumerate
    wp_walk using wpAny_loadPart' hl
    refine wpAny_stack_any fun st => wpAny_pure ?_
    split
    · rename_i c _ _ _ _ _
      cases (c == Value.type "enumerate")
      · wp_walk using wpAny_loadPart' hl, wpAny_pyIter_tuple hL
        exact ⟨_, rfl, h⟩
      · wp_walk using wpAny_loadPart' hl, wpAny_pyIter_tuple hL
        exact ⟨_, rfl, h⟩
    · wp_walk using wpAny_loadPart' hl, wpAny_pyIter_tuple hL
      exact ⟨_, rfl, h⟩

section
variable {prog : Program} {w : World} {A : Around} {E : Value → Shared → Prop} {s : Shared}
theorem call_enumerate_tuple {l : Addr} {items : Array Value} {Q : Value → Shared → Prop} (hL : s.heap.IsTuple l items)
    (h : ∀ h', IsEnum h' (s.heap.objs.size + 1) s.heap.objs.size 0 .none → h'.IsTupleIter s.heap.objs.size l 0 → h'.objs.size = s.heap.objs.size + 2 →
      (∀ b o, s.heap.get? b = some o → h'.get? b = some o) → Q (.ref (s.heap.objs.size + 1)) { s with heap := h' }) :
    wpAny (model prog w) A (call (.type "enumerate") [.ref l]) Q E s := by
  obtain ⟨o, hl, hc, n, hd⟩ := id hL
  refine callType_new F.called_enumerate (by decide) (F.typeCall_enumerate_1 _) (F.newCall_enumerate_1 _) (fun obj => F.args_object_init_2 obj _) F.entry_enumerate_new
    (meets_enumerate_newT l items o) ⟨⟨hl, hL⟩, ?_⟩
  have hz : (s.heap.push { cls := .type "tuple_iterator", data := .fields #[.ref l, .int 0 0] }).objs.size = s.heap.objs.size + 1 := Heap.size_push ..
  show _ ∧ _
  rw [hz]
  have he : IsEnum ((s.heap.push { cls := .type "tuple_iterator", data := .fields #[.ref l, .int 0 0] }).push
      { cls := .type "enumerate", data := .fields #[.none, .bool false, .ref s.heap.objs.size, rawInt 0, .none, .none] }) (s.heap.objs.size + 1) s.heap.objs.size 0 .none := by
    have := Heap.get?_push_size (s.heap.push { cls := .type "tuple_iterator", data := .fields #[.ref l, .int 0 0] })
      (o := { cls := .type "enumerate", data := .fields #[.none, .bool false, .ref s.heap.objs.size, rawInt 0, .none, .none] }) rfl
    rw [hz] at this; exact this
  refine ⟨⟨_, he, rfl⟩, h _ he ⟨_, Heap.get?_push_of_some _ (Heap.get?_push_size _ rfl), rfl, rfl⟩ (by rw [Heap.size_push, hz]) fun b o x => Heap.get?_push_of_some _ (Heap.get?_push_of_some _ x)⟩
end
theorem enumT_end {prog : Program} {w : World} {A : Around} {E : Value → Shared → Prop} {s : Shared} {e it l : Addr} {i : Int} {j : Nat} {items : Array Value} {old : Value} {Q : Option Value → Shared → Prop} (hh : A.in1.handled = none)
    (he : IsEnum s.heap e it i old) (hit : s.heap.IsTupleIter it l j) (hl : s.heap.IsTuple l items) (hx : items[j]? = none)
    (hQ : ∀ h', Heap.ExtBut it s.heap h' → Q none { s with heap := h' }) : wpAny (model prog w) A (pyNext (.ref e)) Q E s := by
  have hT : s.TypeIs (.ref e) "enumerate" := ⟨_, he, rfl⟩
  unfold pyNext
  refine wpAny_bind (wpAny_attempt (wpAny_callSpecial?_slot (name := Str.ofString "__next__") hT F.slot_enumerate_next
    (wpAny_call_entry F.slot_enumerate_next hT F.entry_enumerate_next ?_ (F.args_enumerate_next_1 _))))
  show wpAny _ _ (field (.ref e) 2 >>= _) _ _ _
  refine wpAny_bind (wpAny_field he rfl (x := .ref it) rfl ?_)
  refine wpAny_bind (RZ.nextOf_tuple_end hh hit hl hx fun h' x he' hx' => ?_)
  obtain ⟨o, ho, hc⟩ := hx'
  refine wpAny_bind (wpAny_isInstance (T := "StopIteration") (b := true) ⟨o, ho, hc⟩ isSubtype_stop ?_)
  exact wpAny_pure (hQ _ he')
/-- the tuple at a, each item in a new pair -/
def IteT (K : PySem.W.Frag) (a : Addr) : It :=
  ⟨fun i H => ∃ (xs : List V) (x : V), SqT K H a xs ∧ xs[i]? = some x, fun i H v H' => ∃ T x, v = .ref T ∧ H T = none ∧ H' = upd H T (.tup [.int (i : Nat), x]) ∧ ∀ xs, SqT K H a xs → xs[i]? = some x, fun i H => ∃ xs : List V, SqT K H a xs ∧ xs.length ≤ i⟩
theorem turn_enumT {P : Program} {w : World} {K : PySem.W.Frag} {elts : List Expr} {kk : Nat} {tpos : Pos} (a e it : Addr) :
    Turn P w K (.Tuple elts kk tpos) (IteT K a) [e, it] e (fun i h => (∃ old, IsEnum h e it ((i : Nat) : Int) old) ∧ h.IsTupleIter it a i ∧ e ≠ it) where
  mem := by simp
  obj := fun i h st b hb => by
    obtain ⟨⟨old, he⟩, ⟨o, ho, hc, hd⟩, _⟩ := st
    have e' : b = e ∨ b = it := by simpa using hb
    rcases e' with z | z
    · rw [z]; exact ⟨_, he, fun v q => nomatch q⟩
    · rw [z]; exact ⟨o, ho, fun v q => by rw [hd] at q; cases q⟩
  keep := fun i h h' st k => let ⟨⟨old, he⟩, hi, hne⟩ := st; ⟨⟨old, k e (by simp) _ he⟩, hi.at fun o q => k it (by simp) o q, hne⟩
  item := by
    intro X hP hw hK hc i pins s σ H E I hf st hg
    subst hP hw hK
    obtain ⟨⟨old, he⟩, hit, hne⟩ := st
    obtain ⟨xs, x, hq, hx⟩ := hg
    obtain ⟨its, rv, p, hz⟩ := I.tuple hq
    obtain ⟨u, hu, ru⟩ := rv.get hx
    have hel : e < s.heap.objs.size := Heap.lt_size he
    have hil : it < s.heap.objs.size := by obtain ⟨_, q, _⟩ := hit; exact Heap.lt_size q
    have hai : a ≠ it := by
      intro z
      obtain ⟨o1, q1, c1, _⟩ := hit
      obtain ⟨o2, q2, c2, _⟩ := p
      rw [z, q1] at q2
      cases q2
      rw [c1] at c2
      exact absurd (Value.type.inj c2) (by decide)
    have hea : e ≠ a := by
      intro z
      obtain ⟨o2, q2, c2, _⟩ := p
      rw [← z, he] at q2
      cases q2
      exact absurd (Value.type.inj c2) (by decide)
    have hsz : its.length = its.toArray.size := by simp
    have hlt : i < its.toArray.size := by
      have := (List.getElem?_eq_some_iff.mp hu).1
      simpa using this
    have hh : X.A.in1.handled = none := by
      first | exact I.ok.hd hc | (show X.A.handled = none; exact I.ok.hd hc)
    refine wpAny_pyNext_enum_itemD (draws_tuple (prog := X.prog) (w := X.w) (A := X.A.in1) hh it a hai its.toArray) he ⟨hit, p⟩ hlt hne (by simp [hne, hea]) fun y h' tk hy ho hst' hT hsz' hk => ?_
    have ey : y = u := by
      have h1 : its.toArray[i]? = some u := by simpa using hu
      rw [h1] at hy
      exact (Option.some.inj hy).symm
    subst ey
    refine ⟨_, rfl, wpAny_letOwnedTupleGo_enum (s := { s with heap := h', toks := tk + 1 }) ho fun h'' he' sb => ?_⟩
    have hT2 : h''.get? s.heap.objs.size = some { cls := .type "tuple", data := .seq #[.int i tk, y] } := (sb.2 _ (Nat.ne_of_gt hel)).trans hT
    have new : ObjOk X.prog X.w (upd H s.heap.objs.size (.tup [.int (i : Nat), x])) h'' s.heap.objs.size (.tup [.int (i : Nat), x]) :=
      ⟨by show 2 ≤ sizeLine; decide, [.int i tk, y], .cons ⟨_, rfl⟩ (.cons ru .nil), ⟨_, hT2, rfl, _, rfl⟩⟩
    have I1 : Inv X pins σ (upd H s.heap.objs.size (.tup [.int (i : Nat), x])) { s with heap := h'', toks := tk + 1 } :=
      I.turnedNew (ch := [e, it]) (fun b ob hb q => (sb.2 b (fun z => hb (by simp [z]))).trans (hk b ob (fun z => hb (by simp [z])) (fun z => hb (by simp [z])) q)) hf (Nat.le_refl _) new
    refine ⟨.ref s.heap.objs.size, _, I1, rfl, ⟨_, x, rfl, I.hok.fresh (Nat.le_refl _), rfl, fun ys hy => by rw [I.tuple_inj hy hq]; exact hx⟩, ⟨⟨y, ?_⟩, hst'.1.at fun o q => (sb.2 it (Ne.symm hne)).trans q, hne⟩, fun b hb => ?_⟩
    · have e1 : ((i + 1 : Nat) : Int) = (i : Int) + 1 := by omega
      rw [e1]; exact he'
    · have hb' : b < s.heap.objs.size := by
        have e' : b = e ∨ b = it := by simpa using hb
        rcases e' with z | z
        · rw [z]; exact hel
        · rw [z]; exact hil
      rw [upd_ne (Nat.ne_of_lt hb')]
      exact (hf b hb).1
  done := by
    intro X hP hw hK hc i pins s σ H E I hf st hg
    subst hP hw hK
    obtain ⟨⟨old, he⟩, hit, hne⟩ := st
    obtain ⟨xs, hq, hx⟩ := hg
    obtain ⟨its, rv, p, hz⟩ := I.tuple hq
    obtain ⟨f0, f1, f2, f3, f4, f5⟩ := hf it (by simp)
    have hl := rv.length
    have hai : a ≠ it := by
      intro z
      obtain ⟨o1, q1, c1, _⟩ := hit
      obtain ⟨o2, q2, c2, _⟩ := p
      rw [z, q1] at q2
      cases q2
      rw [c1] at c2
      exact absurd (Value.type.inj c2) (by decide)
    have hh : X.A.in1.handled = none := by
      first | exact I.ok.hd hc | (show X.A.handled = none; exact I.ok.hd hc)
    refine enumT_end hh he hit p (by simp; omega) fun h' eb => ⟨rfl, I.turned (t' := s.toks) (fun b o hb q => eb b o hb q) f0 f1 f3 f4 f5⟩
  self := fun A i s Q E st h => let ⟨⟨_, he⟩, _⟩ := st; wpAny_pyIter_enum he h
def iEnumT (K : PySem.W.Frag) (ta : TA) : TI := fun σ H R => ta σ H fun vs H1 => ∃ a xs, vs = [.ref a] ∧ ((SqL K H1 a xs ∧ R (Ite K a) H1) ∨ (SqT K H1 a xs ∧ R (IteT K a) H1))
theorem pi_enumA {X : Cx} {e : Expr} {ta : TA} {p pos tpos : Pos} {elts : List Expr} {kk : Nat} (hg : Gl X "enumerate") (hm : X.mg "enumerate" = none) (ha : PA X [e] ta) (hs : starEach [e] X.env = [(false, eval e X.env)] := by rfl) :
    PI X (.Tuple elts kk tpos) (.Call (.Name "enumerate" p) [e] [] pos) (iEnumT X.K ta) := by
  refine ⟨fun pins s σ H R I h => ?_⟩
  refine Call_ (ld_blt I hg hm boot_enumerate (PyProof.Rows.callWith_type1 (thn (ha.run pos pins s σ H _ I h) fun us s1 ⟨vs, H1, I1, r1, q1⟩ => ?_) hs rfl))
  obtain ⟨a, xs, ex, q⟩ := q1
  subst ex
  cases r1 with
  | cons r rr =>
    cases rr
    cases r
    have hle : ∀ b ∈ [s1.heap.objs.size + 1, s1.heap.objs.size], s1.heap.objs.size ≤ b := fun b hb => by
      have e' : b = s1.heap.objs.size + 1 ∨ b = s1.heap.objs.size := by simpa using hb
      rcases e' with z | z
      · rw [z]; exact Nat.le_add_right _ _
      · rw [z]; exact Nat.le_refl _
    rcases q with ⟨hq, q⟩ | ⟨hq, q⟩
    · obtain ⟨its, rv, p', hz⟩ := I1.list hq
      refine call_enumerate_list p'.isList fun h' he hit hsz hk => wpAny_pyIter_enum he ?_
      have I2 : Inv X pins σ H1 { s1 with heap := h' } := I1.kept (t' := s1.toks) hk
      exact ⟨s1.heap.objs.size + 1, [s1.heap.objs.size + 1, s1.heap.objs.size], _, _, H1, rfl, I2, turn_enum a (s1.heap.objs.size + 1) s1.heap.objs.size, ⟨⟨.none, he⟩, hit, Nat.succ_ne_self _⟩, fun b hb => I1.fpOk (hle b hb) (I1.hok.fresh (hle b hb)), q⟩
    · obtain ⟨its, rv, p', hz⟩ := I1.tuple hq
      refine call_enumerate_tuple p' fun h' he hit hsz hk => wpAny_pyIter_enum he ?_
      have I2 : Inv X pins σ H1 { s1 with heap := h' } := I1.kept (t' := s1.toks) hk
      exact ⟨s1.heap.objs.size + 1, [s1.heap.objs.size + 1, s1.heap.objs.size], _, _, H1, rfl, I2, turn_enumT a (s1.heap.objs.size + 1) s1.heap.objs.size, ⟨⟨.none, he⟩, hit, Nat.succ_ne_self _⟩, fun b hb => I1.fpOk (hle b hb) (I1.hok.fresh (hle b hb)), q⟩
theorem walk_enumT {K : PySem.W.Frag} {a : Addr} {xs : List V} : Walk (IteT K a) xs.length (fun H => SqT K H a xs) (YPair (fun i => some (.int (i : Nat))) (fun i => xs[i]?)) := by
  refine ⟨fun i _ hi q => ⟨xs, xs[i], q, by simp [hi]⟩, fun _ q => ⟨xs, q, Nat.le_refl _⟩, fun i H v H' _ q y => ?_⟩
  obtain ⟨T, x, h1, h2, h3, h4⟩ := y
  exact ⟨T, .int (i : Nat), x, h1, h2, h3, rfl, h4 xs q⟩
/-- a list that may change between the turns, so long as its length stays -/
theorem walk_enumC {K : PySem.W.Frag} {a : Addr} {n : Nat} : Walk (Ite K a) n (fun H => ∃ vs, SqL K H a vs ∧ vs.length = n) (fun i H v H' => ∃ T x, v = .ref T ∧ H T = none ∧ H' = upd H T (.tup [.int (i : Nat), x]) ∧ ∀ xs, SqL K H a xs → xs[i]? = some x) :=
  ⟨fun i _ hi ⟨vs, q, hn⟩ => ⟨vs, vs[i], q, by simp [show i < vs.length by omega]⟩, fun _ ⟨vs, q, hn⟩ => ⟨vs, q, Nat.le_of_eq hn⟩, fun _ _ _ _ _ _ y => y⟩
end VM

/-! VM4: statements as functions of slots and cells; walks, loops, comprehensions. -/
namespace VM
open PySem L2

inductive SR where
  | nx (sl : Sl) (cs : Cs) | rt (b : B) (cs : Cs) | bk (sl : Sl) (cs : Cs) | ct (sl : Sl) (cs : Cs) | ex (x : Str) (sl : Sl) (cs : Cs) | no
abbrev FnS := Sl → Cs → SR
section
variable (K : PySem.W.Frag) (mg : Str → Option Value)
def OutS (W : WX) (F : Hp) (as : List Addr) (H : Hp) (r : SR) (D : Ends) : Prop := match r with
  | .nx sl cs => ∀ F' as' H' σ', Evo F as H F' as' H' → Sim K mg F' as' cs H' → RepS K F' as' σ' sl → D.nx σ' H'
  | .bk sl cs => ∀ F' as' H' σ', Evo F as H F' as' H' → Sim K mg F' as' cs H' → RepS K F' as' σ' sl → D.bk σ' H'
  | .ct sl cs => ∀ F' as' H' σ', Evo F as H F' as' H' → Sim K mg F' as' cs H' → RepS K F' as' σ' sl → D.ct σ' H'
  | .rt b cs => ∀ F' as' H' v, Evo F as H F' as' H' → Sim K mg F' as' cs H' → RepB K F' as' v b → D.rt v H'
  | .ex x sl cs => ∀ F' as' H' σ' C, Evo F as H F' as' H' → Sim K mg F' as' cs H' → RepS K F' as' σ' sl → mg x = some (.ref C) → W (.ref C) none σ' H'
  | .no => False
def tS (W : WX) (f : FnS) : TS := fun D σ H => ∃ F as sl cs, RepS K F as σ sl ∧ Sim K mg F as cs H ∧ OutS K mg W F as H (f sl cs) D
end
def SS (X : Cx) (W : WX) (st : Stmt) (f : FnS) : Prop := PS X st (tS X.K X.mg W f)
def SSs (X : Cx) (W : WX) (st : List Stmt) (f : FnS) : Prop := PSs X st (tS X.K X.mg W f)
theorem ps_weak {X : Cx} {st : Stmt} {t t' : TS} (h : PS X st t) (hw : ∀ D σ H, t' D σ H → t D σ H) : PS X st t' := ⟨fun pins s σ H D I q => h.run pins s σ H D I (hw _ _ _ q)⟩
theorem pss_weak {X : Cx} {st : List Stmt} {t t' : TS} (h : PSs X st t) (hw : ∀ D σ H, t' D σ H → t D σ H) : PSs X st t' := ⟨fun pins s σ H D I q => h.run pins s σ H D I (hw _ _ _ q)⟩
section
variable {K : PySem.W.Frag} {mg : Str → Option Value} {W : WX} {F F1 : Hp} {as as1 : List Addr} {H H1 : Hp} {r : SR} {D D' : Ends}
theorem OutS.step (e : Evo F as H F1 as1 H1) (h : OutS K mg W F as H r D) : OutS K mg W F1 as1 H1 r D := by
  cases r with
  | nx sl cs => exact fun F' as' H' σ' e' S q => h F' as' H' σ' (e.trans e') S q
  | bk sl cs => exact fun F' as' H' σ' e' S q => h F' as' H' σ' (e.trans e') S q
  | ct sl cs => exact fun F' as' H' σ' e' S q => h F' as' H' σ' (e.trans e') S q
  | rt b cs => exact fun F' as' H' v e' S q => h F' as' H' v (e.trans e') S q
  | ex x sl cs => exact fun F' as' H' σ' C e' S q => h F' as' H' σ' C (e.trans e') S q
  | no => exact h
def sE {α : Type} (r : ER α) (sl : Sl) (k : α → Cs → SR) : SR := match r with
  | .ok a cs => k a cs
  | .ex x cs => .ex x sl cs
  | .no => .no
@[simp] theorem sE_ok {α : Type} {a : α} {cs : Cs} {sl : Sl} {k : α → Cs → SR} : sE (.ok a cs) sl k = k a cs := rfl
@[simp] theorem sE_ex {α : Type} {x : Str} {cs : Cs} {sl : Sl} {k : α → Cs → SR} : sE (.ex x cs : ER α) sl k = .ex x sl cs := rfl
@[simp] theorem sE_no {α : Type} {sl : Sl} {k : α → Cs → SR} : sE (.no : ER α) sl k = .no := rfl
theorem OutS.bind {α β : Type} {rel : Rl α β} {r : ER α} {sl : Sl} {σ : St} {k : α → Cs → SR} (hs : RepS K F as σ sl) (h : OutS K mg W F as H (sE r sl k) D) :
    Out K mg rel (WE W σ) F as H r (fun v H1 => ∃ F1 as1 a cs1, Evo F as H F1 as1 H1 ∧ RepS K F1 as1 σ sl ∧ Sim K mg F1 as1 cs1 H1 ∧ rel H F1 as1 H1 v a ∧ OutS K mg W F1 as1 H1 (k a cs1) D) := by
  cases r with
  | ok a cs => exact fun F' as' H' v e' S' r' => ⟨F', as', a, cs, e', e'.repS hs, S', r', OutS.step e' h⟩
  | ex x cs => exact fun F' as' H' C e' S' m => h F' as' H' σ C e' S' (e'.repS hs) m
  | no => exact h
theorem OutS.nxt {sl : Sl} {cs : Cs} {σ : St} (h : OutS K mg W F as H (.nx sl cs) D) (S : Sim K mg F as cs H) (hs : RepS K F as σ sl) : D.nx σ H := h F as H σ .refl S hs
end

section
variable {X : Cx} {W : WX} {e a b c : Expr} {f fa fb fc : Fn B} {t u : Fn Bool} {pos : Pos} {es : List Expr} {fs : Fn (List B)} {st : Stmt} {rest : List Stmt} {g g1 g2 : FnS}
def sNext : FnS := fun sl cs => .nx sl cs
def sSeq (f g : FnS) : FnS := fun sl cs => match f sl cs with
  | .nx sl1 cs1 => g sl1 cs1
  | r => r
theorem ss_nil : SSs X W [] sNext := pss_weak pss_nil fun D σ H ⟨F, as, sl, cs, hs, S, h⟩ => OutS.nxt h S hs
theorem ss_one (h : SS X W st g) : SSs X W [st] g := pss_one h
theorem ss_cons (h1 : SS X W st g1) (h2 : SSs X W rest g2) : SSs X W (st :: rest) (sSeq g1 g2) := pss_weak (pss_cons h1 h2) fun D σ H ⟨F, as, sl, cs, hs, S, h⟩ => by
  refine ⟨F, as, sl, cs, hs, S, ?_⟩
  unfold sSeq at h
  cases q : g1 sl cs with
  | nx sl1 cs1 =>
    rw [q] at h
    exact fun F' as' H' σ' e' S' hs' => ⟨F', as', sl1, cs1, hs', S', OutS.step e' h⟩
  | rt b cs1 => rw [q] at h; exact h
  | bk sl1 cs1 => rw [q] at h; exact h
  | ct sl1 cs1 => rw [q] at h; exact h
  | ex x sl1 cs1 => rw [q] at h; exact h
  | no => rw [q] at h; exact h
def sSet (i : Nat) (f : Fn B) : FnS := fun sl cs => sE (f sl cs) sl fun b cs1 => .nx (sl.set i (some b)) cs1
theorem ss_set {x : Str} {pos' : Pos} (i : Nat) (he : SE X W e f) (hN : X.N.Nodup) (hi : X.N[i]? = some x := by rfl) (hx : Loc X.env.scope x := by first | exact Or.inl rfl | exact Or.inr rfl) (hs : swapsWith e (some (.Name x pos')) pos.line X.env = pure false := by rfl)
    (hf : X.fn x = true ∨ X.env.scope.names.lookup x = some .local := by first | exact .inl rfl | exact .inr rfl | assumption) : SS X W (.Assign [.Name x pos'] e pos) (sSet i f) := ps_weak (ps_set hN hi hx he hs hf) fun D σ H ⟨F, as, sl, cs, hs, S, h⟩ => by
  refine ⟨F, as, sl, cs, hs, S, (OutS.bind hs h).imp ?_⟩
  rintro v H1 ⟨F1, as1, b, cs1, e1, hs1, S1, r1, o1⟩
  exact OutS.nxt o1 S1 (pair_set (show RepO X.K F1 as1 (some v) (some b) from ⟨v, rfl, r1⟩) i hs1)
def sExpr (f : Fn B) : FnS := fun sl cs => sE (f sl cs) sl fun _ cs1 => .nx sl cs1
theorem ss_expr (he : SE X W e f) (hs : swapsWith e none pos.line X.env = pure false := by rfl) : SS X W (.Expr e pos) (sExpr f) := ps_weak (ps_expr he hs) fun D σ H ⟨F, as, sl, cs, hs, S, h⟩ => by
  refine ⟨F, as, sl, cs, hs, S, (OutS.bind hs h).imp ?_⟩
  rintro v H1 ⟨F1, as1, b, cs1, e1, hs1, S1, r1, o1⟩
  exact OutS.nxt o1 S1 hs1
def sRet (f : Fn B) : FnS := fun sl cs => sE (f sl cs) sl fun b cs1 => .rt b cs1
theorem ss_ret (he : SE X W e f) : SS X W (.Return (some e) pos) (sRet f) := ps_weak (ps_ret he) fun D σ H ⟨F, as, sl, cs, hs, S, h⟩ => by
  refine ⟨F, as, sl, cs, hs, S, (OutS.bind hs h).imp ?_⟩
  rintro v H1 ⟨F1, as1, b, cs1, e1, hs1, S1, r1, o1⟩
  exact o1 F1 as1 H1 v .refl S1 r1
def sIf (t : Fn Bool) (g1 g2 : FnS) : FnS := fun sl cs => sE (t sl cs) sl fun k cs1 => if k = true then g1 sl cs1 else g2 sl cs1
theorem ss_if {bs1 bs2 : List Stmt} (hc : ST X W c t) (h1 : SSs X W bs1 g1) (h2 : SSs X W bs2 g2) : SS X W (.If c bs1 bs2 pos) (sIf t g1 g2) := ps_weak (ps_if hc h1 h2) fun D σ H ⟨F, as, sl, cs, hs, S, h⟩ => by
  refine ⟨F, as, sl, cs, hs, S, (OutS.bind hs h).imp ?_⟩
  rintro v H1 ⟨F1, as1, b, cs1, e1, hs1, S1, r1, o1⟩
  cases r1
  cases v with
  | true => exact ⟨F1, as1, sl, cs1, hs1, S1, o1⟩
  | false => exact ⟨F1, as1, sl, cs1, hs1, S1, o1⟩
def sPass : FnS := fun sl cs => .nx sl cs
def sBreak : FnS := fun sl cs => .bk sl cs
def sCont : FnS := fun sl cs => .ct sl cs
theorem ss_pass : SS X W (.Pass pos) sPass := ps_weak ps_pass fun D σ H ⟨F, as, sl, cs, hs, S, h⟩ => OutS.nxt h S hs
theorem ss_break : SS X W (.Break pos) sBreak := ps_weak ps_break fun D σ H ⟨F, as, sl, cs, hs, S, h⟩ => h F as H σ .refl S hs
theorem ss_cont : SS X W (.Continue pos) sCont := ps_weak ps_continue fun D σ H ⟨F, as, sl, cs, hs, S, h⟩ => h F as H σ .refl S hs
/-- code that is not looked at -/
def sNever : FnS := fun _ _ => .no
theorem ss_never : SS X W st sNever := ps_weak ps_never fun D σ H ⟨F, as, sl, cs, hs, S, h⟩ => h
theorem sss_never {sts : List Stmt} : SSs X W sts sNever := pss_weak pss_never fun D σ H ⟨F, as, sl, cs, hs, S, h⟩ => h
/-- a, b = x, y -/
def sPar (i j : Nat) (fs : Fn (List B)) : FnS := fun sl cs => sE (fs sl cs) sl fun bs cs1 => match bs with
  | [x, y] => .nx ((sl.set i (some x)).set j (some y)) cs1
  | _ => .no
theorem ss_par (i j : Nat) {x y : Str} {px py pt : Pos} {kt k2 pt2} (ha : SA X W [a, b] fs) (hN : X.N.Nodup) (hc : X.calm = true := by rfl) (hi : X.N[i]? = some x := by rfl) (hj : X.N[j]? = some y := by rfl) (hij : i ≠ j := by decide)
    (hx : X.env.scope.names.lookup x = some .local := by rfl) (hy : X.env.scope.names.lookup y = some .local := by rfl)
    (hw : swappedStores [.Tuple [.Name x px, .Name y py] kt pt] (.Tuple [a, b] k2 pt2) X.env = pure (some [x, y]) := by rfl)
    (hs : swapsWithSole [.Tuple [.Name x px, .Name y py] kt pt] (.Tuple [a, b] k2 pt2) pos.line X.env = pure false := by rfl) :
    SS X W (.Assign [.Tuple [.Name x px, .Name y py] kt pt] (.Tuple [a, b] k2 pt2) pos) (sPar i j fs) := ps_weak (ps_par hc hN hi hj hij hx hy ha hw hs) fun D σ H ⟨F, as, sl, cs, hs, S, h⟩ => by
  refine ⟨F, as, sl, cs, hs, S, (OutS.bind hs h).imp ?_⟩
  rintro v H1 ⟨F1, as1, bs, cs1, e1, hs1, S1, r1, o1⟩
  split at o1
  · obtain ⟨x', y', rfl, r1, r2⟩ := pair2 r1
    exact ⟨x', y', rfl, OutS.nxt o1 S1 (pair_set (show RepO X.K F1 as1 (some y') (some _) from ⟨_, rfl, r2⟩) j (pair_set (show RepO X.K F1 as1 (some x') (some _) from ⟨_, rfl, r1⟩) i hs1))⟩
  · exact o1.elim

/-! ### targets -/
abbrev TgF := B → Sl → Option Sl
abbrev TgsF := List B → Sl → Option Sl
/-- the slots ws alone are written -/
def OnlyAt (ws : List Nat) (σ σ' : St) : Prop := σ'.length = σ.length ∧ ∀ j, j ∉ ws → σ'[j]? = σ[j]?
def tTg (K : PySem.W.Frag) (mg : Str → Option Value) (ws : List Nat) (f : TgF) : TG := fun v σ H Q => ∃ F as sl cs b, RepS K F as σ sl ∧ Sim K mg F as cs H ∧ RepB K F as v b ∧ ∃ sl', f b sl = some sl' ∧ ∀ σ', RepS K F as σ' sl' → OnlyAt ws σ σ' → Q σ' H
def tTgs (K : PySem.W.Frag) (mg : Str → Option Value) (ws : List Nat) (f : TgsF) : TGs := fun vs σ H Q => ∃ F as sl cs bs, RepS K F as σ sl ∧ Sim K mg F as cs H ∧ Paired (RepB K F as) vs bs ∧ ∃ sl', f bs sl = some sl' ∧ ∀ σ', RepS K F as σ' sl' → OnlyAt ws σ σ' → Q σ' H
def SG (X : Cx) (tg : Expr) (ws : List Nat) (f : TgF) : Prop := PG X tg (tTg X.K X.mg ws f)
def SGs (X : Cx) (tg : List Expr) (ws : List Nat) (f : TgsF) : Prop := PGs X tg (tTgs X.K X.mg ws f)
theorem pg_weak {tg : Expr} {t t' : TG} (h : PG X tg t) (hw : ∀ v σ H Q, t' v σ H Q → t v σ H Q) : PG X tg t' := ⟨fun pins s σ H v u Q I r q => h.run pins s σ H v u Q I r (hw _ _ _ _ q)⟩
theorem pgs_weak {tg : List Expr} {t t' : TGs} (h : PGs X tg t) (hw : ∀ v σ H Q, t' v σ H Q → t v σ H Q) : PGs X tg t' := ⟨fun pins s σ H v u Q I r q => h.run pins s σ H v u Q I r (hw _ _ _ _ q)⟩
theorem pg_or {tg : Expr} {t t' : TG} (h : PG X tg t) (h' : PG X tg t') : PG X tg (fun v σ H Q => t v σ H Q ∨ t' v σ H Q) := ⟨fun pins s σ H v u Q I r q => q.elim (h.run pins s σ H v u Q I r) (h'.run pins s σ H v u Q I r)⟩
def tgName (i : Nat) : TgF := fun b sl => some (sl.set i (some b))
def tgNil : TgsF := fun bs sl => if bs.isEmpty then some sl else none
def tgCons (f : TgF) (g : TgsF) : TgsF := fun bs sl => match bs with
  | b :: r => (f b sl).bind (g r)
  | [] => none
/-- the items of a tuple or list, into so many targets -/
def tgTup (n : Nat) (g : TgsF) : TgF := fun b sl => match b with
  | .d (.tuple xs) => if xs.length = n then g (xs.map B.d) sl else none
  | .d (.list xs) => if xs.length = n then g (xs.map B.d) sl else none
  | _ => none
theorem sg_name (i : Nat) {x : Str} (hN : X.N.Nodup) (hi : X.N[i]? = some x := by rfl) (hx : Loc X.env.scope x := by first | exact Or.inl rfl | exact Or.inr rfl) (hf : X.fn x = true ∨ X.env.scope.names.lookup x = some .local := by first | exact .inl rfl | exact .inr rfl | assumption) : SG X (.Name x pos) [i] (tgName i) :=
  pg_weak (pg_name hN hi hx hf) fun v σ H Q ⟨F, as, sl, cs, b, hs, S, r, sl', e, k⟩ => by
    cases e
    exact k _ (pair_set (show RepO X.K F as (some v) (some b) from ⟨v, rfl, r⟩) i hs) ⟨by simp, fun j hj => List.getElem?_set_ne (fun q => hj (by simp [q]))⟩
theorem sgs_nil : SGs X [] [] tgNil := pgs_weak pgs_nil fun v σ H Q ⟨F, as, sl, cs, b, hs, S, r, sl', e, k⟩ => by
  unfold tgNil at e
  cases r with
  | nil => cases e; exact ⟨rfl, k _ hs ⟨rfl, fun _ _ => rfl⟩⟩
  | cons r t => cases e
theorem sgs_cons {tg : Expr} {tgs : List Expr} {tf : TgF} {tgf : TgsF} {ws1 ws2 : List Nat} (h1 : SG X tg ws1 tf) (h2 : SGs X tgs ws2 tgf) (hs : (assignEach (tg :: tgs) X.env).map (·.2) = assign tg X.env :: (assignEach tgs X.env).map (·.2) := by rfl) : SGs X (tg :: tgs) (ws1 ++ ws2) (tgCons tf tgf) :=
  pgs_weak (pgs_cons h1 h2 hs) fun v σ H Q ⟨F, as, sl, cs, bs, hs, S, r, sl', e, k⟩ => by
    cases r with
    | nil => cases e
    | @cons v0 b0 vr br r t =>
      have e : (tf b0 sl).bind (tgf br) = some sl' := e
      cases q : tf b0 sl with
      | none => rw [q] at e; cases e
      | some sl1 =>
        rw [q] at e
        exact ⟨v0, vr, rfl, F, as, sl, cs, b0, hs, S, r, sl1, q, fun σ1 hs1 o1 => ⟨F, as, sl1, cs, br, hs1, S, t, sl', e, fun σ2 hs2 o2 => k σ2 hs2 ⟨o2.1.trans o1.1, fun j hj => by
          rw [List.mem_append, not_or] at hj
          exact (o2.2 j hj.2).trans (o1.2 j hj.1)⟩⟩⟩
theorem sg_tup {tgs : List Expr} {k : Nat} {tgf : TgsF} {ws : List Nat} (n : Nat) (h : SGs X tgs ws tgf) (hc : X.calm = true := by rfl) (hn : (assignEach tgs X.env).length = n := by rfl) (hst : (assignEach tgs X.env).findIdx? (·.1) = none := by rfl) : SG X (.Tuple tgs k pos) ws (tgTup n tgf) :=
  pg_weak (pg_or (pg_tup hc h hn hst) (pg_lst hc h hn hst)) fun v σ H Q ⟨F, as, sl, cs, b, hs, S, r, sl', e, k⟩ => by
    unfold tgTup at e
    split at e
    · split at e
      · rename_i xs hl
        cases r with
        | tup q ha =>
          have p := of_rpAll (K := X.K) (as := as) ha
          exact .inl ⟨_, _, rfl, SqT.of (S.sub _ _ q), by rw [pair_len p, List.length_map]; exact hl, F, as, sl, cs, _, hs, S, p, sl', e, k⟩
      · cases e
    · split at e
      · rename_i xs hl
        cases r with
        | lst q ha =>
          have p := of_rpAll (K := X.K) (as := as) ha
          exact .inr ⟨_, _, rfl, SqL.of (S.sub _ _ q), by rw [pair_len p, List.length_map]; exact hl, F, as, sl, cs, _, hs, S, p, sl', e, k⟩
      · cases e
    · cases e
/-- a tuple of names gets a value -/
def sAsg (tf : TgF) (f : Fn B) : FnS := fun sl cs => sE (f sl cs) sl fun b cs1 => match tf b sl with
  | some sl1 => .nx sl1 cs1
  | none => .no
theorem ss_asg {tg : Expr} {tf : TgF} {ws : List Nat} (he : SE X W e f) (hg : SG X tg ws tf) (hs : swapsWithSole [tg] e pos.line X.env = pure false := by rfl) (hw : swappedStores [tg] e X.env = pure none := by rfl)
    (h1 : (assignEach [tg] X.env).map (·.2) = [assign tg X.env] := by rfl) : SS X W (.Assign [tg] e pos) (sAsg tf f) := ps_weak (ps_asg he hg hs hw h1) fun D σ H ⟨F, as, sl, cs, hs, S, h⟩ => by
  refine ⟨F, as, sl, cs, hs, S, (OutS.bind hs h).imp ?_⟩
  rintro v H1 ⟨F1, as1, b, cs1, e1, hs1, S1, r1, o1⟩
  split at o1
  · rename_i sl1 q
    exact ⟨F1, as1, sl, cs1, b, hs1, S1, r1, sl1, q, fun σ' hs' _ => OutS.nxt o1 S1 hs'⟩
  · exact o1.elim
end

/-! ### walks -/
/-- J gives the items, one after another, while the cells are as okc says -/
def WalkA (K : PySem.W.Frag) (mg : Str → Option Value) (J : It) (items : List B) (okc : Cs → Prop) (F : Hp) (as : List Addr) (H : Hp) : Prop := ∃ G Y, Walk J items.length G Y ∧
  (∀ F' as' H' cs', Evo F as H F' as' H' → Sim K mg F' as' cs' H' → okc cs' → G H') ∧
  (∀ i x b F' as' H' H'' cs', Evo F as H F' as' H' → Sim K mg F' as' cs' H' → okc cs' → items[i]? = some b → Y i H' x H'' → ∃ F'', Evo F' as' H' F'' as' H'' ∧ Sim K mg F'' as' cs' H'' ∧ RepB K F'' as' x b)
def relI (K : PySem.W.Frag) (mg : Str → Option Value) : Rl (List B × (Cs → Prop)) It := fun _ F as H J a => WalkA K mg J a.1 a.2 F as H
theorem mono_I {K : PySem.W.Frag} {mg : Str → Option Value} : Mono (relI K mg) := fun _ _ _ _ _ _ _ _ _ _ _ _ _ h => h
def SI (X : Cx) (W : WX) (tg iter : Expr) (f : Fn (List B × (Cs → Prop))) : Prop := PI X tg iter (tG X.K X.mg W (relI X.K X.mg) f)
section
variable {X : Cx} {W : WX} {tg iter e a b c : Expr} {f : Fn B} {fi : Fn (List B × (Cs → Prop))} {pos p : Pos} {fs : Fn (List B)}
theorem pi_weak {t t' : TI} (h : PI X tg iter t) (hw : ∀ σ H Q, t' σ H Q → t σ H Q) : PI X tg iter t' := ⟨fun pins s σ H R I q => h.run pins s σ H R I (hw _ _ _ q)⟩
theorem pi_or {t t' : TI} (h : PI X tg iter t) (h' : PI X tg iter t') : PI X tg iter (fun σ H R => t σ H R ∨ t' σ H R) := ⟨fun pins s σ H R I q => q.elim (h.run pins s σ H R I) (h'.run pins s σ H R I)⟩
def iSeq (f : Fn B) : Fn (List B × (Cs → Prop)) := fun sl cs => (f sl cs).bind fun b cs1 => match b with
  | .d (.tuple xs) => .ok (xs.map B.d, fun _ => True) cs1
  | .d (.list xs) => .ok (xs.map B.d, fun _ => True) cs1
  | .k (.tuple xs) => .ok (xs.map kB, fun _ => True) cs1
  | .k (.list xs) => .ok (xs.map kB, fun _ => True) cs1
  | .r k => match cs1[k]? with
    | some (.lst bs) => .ok (bs, fun c => c[k]? = some (.lst bs)) cs1
    | _ => .no
  | _ => .no
theorem walk_seqT {K : PySem.W.Frag} {mg : Str → Option Value} {F : Hp} {as : List Addr} {H : Hp} {q : Addr} {vs : List V} {bs : List B} {okc : Cs → Prop} (hq : SqT K F q vs) (hp : Paired (RepB K F as) vs bs) : WalkA K mg (Itt K q) bs okc F as H := by
  refine ⟨_, _, by rw [← pair_len hp]; exact walk_tup (a := q) (xs := vs), fun F' as' H' cs' e S _ => ex_t S.sub (ex_t e.ex hq), fun i x b F' as' H' H'' cs' e S _ hb y => ?_⟩
  obtain ⟨rfl, hx⟩ := y
  obtain ⟨x', h1, h2⟩ := pair_get hp hb
  rw [hx] at h1; cases h1
  exact ⟨F', .refl, S, e.repB h2⟩
theorem walk_seqL {K : PySem.W.Frag} {mg : Str → Option Value} {F : Hp} {as : List Addr} {H : Hp} {q : Addr} {vs : List V} {bs : List B} {okc : Cs → Prop} (hq : SqL K F q vs) (hp : Paired (RepB K F as) vs bs) : WalkA K mg (Itl K q) bs okc F as H := by
  refine ⟨_, _, by rw [← pair_len hp]; exact walk_list (a := q) (xs := vs), fun F' as' H' cs' e S _ => ex_l S.sub (ex_l e.ex hq), fun i x b F' as' H' H'' cs' e S _ hb y => ?_⟩
  obtain ⟨rfl, hx⟩ := y
  obtain ⟨x', h1, h2⟩ := pair_get hp hb
  rw [hx] at h1; cases h1
  exact ⟨F', .refl, S, e.repB h2⟩
theorem walk_cell {K : PySem.W.Frag} {a : Addr} {n : Nat} : Walk (Itl K a) n (fun H => ∃ vs, SqL K H a vs ∧ vs.length = n) (fun i H x H' => H' = H ∧ ∀ xs, SqL K H a xs → xs[i]? = some x) :=
  ⟨fun i _ hi ⟨vs, q, hn⟩ => ⟨vs, vs[i], q, by simp [show i < vs.length by omega]⟩, fun _ ⟨vs, q, hn⟩ => ⟨vs, q, Nat.le_of_eq hn⟩, fun _ _ _ _ _ _ y => y⟩
theorem si_seq (he : SE X W e f) : SI X W tg e (iSeq f) := pi_weak (pi_or (pi_list he) (pi_tup he)) fun σ H R ⟨F, as, sl, cs, hs, S, h⟩ => by
  unfold iSeq at h
  cases q : f sl cs with
  | no =>
    have h : Out X.K X.mg (relI X.K X.mg) (WE W σ) F as H ((f sl cs).bind _) R := h
    rw [q] at h; exact h.elim
  | ex x c =>
    have h : Out X.K X.mg (relI X.K X.mg) (WE W σ) F as H ((f sl cs).bind _) R := h
    rw [q] at h
    refine .inl ⟨F, as, sl, cs, hs, S, ?_⟩
    rw [q]; exact h
  | ok b c =>
    have h : Out X.K X.mg (relI X.K X.mg) (WE W σ) F as H ((f sl cs).bind _) R := h
    rw [q, ER.bind_ok] at h
    split at h
    · refine .inr ⟨F, as, sl, cs, hs, S, ?_⟩
      rw [q]
      intro F1 as1 H1 v e1 S1 r1
      cases r1 with
      | tup hq ha => exact ⟨_, rfl, ⟨_, SqT.of (S1.sub _ _ hq)⟩, Out.give2 h e1 S1 (walk_seqT (SqT.of hq) (of_rpAll ha))⟩
    · refine .inl ⟨F, as, sl, cs, hs, S, ?_⟩
      rw [q]
      intro F1 as1 H1 v e1 S1 r1
      cases r1 with
      | lst hq ha => exact ⟨_, rfl, ⟨_, SqL.of (S1.sub _ _ hq)⟩, Out.give2 h e1 S1 (walk_seqL (SqL.of hq) (of_rpAll ha))⟩
    · refine .inr ⟨F, as, sl, cs, hs, S, ?_⟩
      rw [q]
      intro F1 as1 H1 v e1 S1 r1
      cases r1 with
      | tup hq ha => exact ⟨_, rfl, ⟨_, ex_t S1.sub hq⟩, Out.give2 h e1 S1 (walk_seqT hq (of_dpAll ha))⟩
    · refine .inl ⟨F, as, sl, cs, hs, S, ?_⟩
      rw [q]
      intro F1 as1 H1 v e1 S1 r1
      cases r1 with
      | lst hq ha => exact ⟨_, rfl, ⟨_, ex_l S1.sub hq⟩, Out.give2 h e1 S1 (walk_seqL hq (of_dpAll ha))⟩
    · refine .inl ⟨F, as, sl, cs, hs, S, ?_⟩
      rw [q]
      rintro F1 as1 H1 v e1 S1 ⟨a, ea, rfl⟩
      rename_i k
      split at h
      · rename_i bs ek
        obtain ⟨vs, hv, hp⟩ := S1.cell _ _ _ ea ek
        refine ⟨a, rfl, ⟨_, SqL.of hv⟩, Out.give2 h e1 S1 ⟨_, _, walk_cell (a := a) (n := bs.length), fun F' as' H' cs' e S' ok => ?_, fun i x b F' as' H' H'' cs' e S' ok hb y => ?_⟩⟩
        · obtain ⟨vs', hv', hp'⟩ := S'.cell _ _ _ (get_pre e.pre ea) ok
          exact ⟨vs', SqL.of hv', pair_len hp'⟩
        · obtain ⟨rfl, hx⟩ := y
          obtain ⟨vs', hv', hp'⟩ := S'.cell _ _ _ (get_pre e.pre ea) ok
          obtain ⟨x', h1, h2⟩ := pair_get hp' hb
          rw [hx _ (SqL.of hv')] at h1; cases h1
          exact ⟨F', .refl, S', h2⟩
      · exact h.elim
    · exact h.elim
/-- range(a), range(a, b), range(a, b, c) -/
def rngI (lo c : Int) (n : Nat) : List B := (List.range n).map fun i => .d (.int (lo + (i : Nat) * c))
@[simp] theorem rngI_len {lo c : Int} {n : Nat} : (rngI lo c n).length = n := by simp [rngI]
theorem rngI_get {lo c : Int} {n i : Nat} {b : B} (h : (rngI lo c n)[i]? = some b) : b = .d (.int (lo + (i : Nat) * c)) := by
  unfold rngI at h
  rw [List.getElem?_map] at h
  cases q : (List.range n)[i]? with
  | none => rw [q] at h; cases h
  | some j =>
    rw [q] at h
    have h' : B.d (.int (lo + (j : Nat) * c)) = b := Option.some.inj h
    have hj : j = i := by
      obtain ⟨h1, h2⟩ := List.getElem?_eq_some_iff.mp q
      simpa using h2.symm
    rw [← h', hj]
theorem walk_rng {K : PySem.W.Frag} {mg : Str → Option Value} {F : Hp} {as : List Addr} {H : Hp} {lo c : Int} {n : Nat} {J : It} {okc : Cs → Prop} (w : Walk J n (fun _ => True) (YFn fun i => .int (lo + (i : Nat) * c))) : WalkA K mg J (rngI lo c n) okc F as H := by
  refine ⟨_, _, by rw [rngI_len]; exact w, fun _ _ _ _ _ _ _ => trivial, fun i x b F' as' H' H'' cs' e S ok hb y => ?_⟩
  obtain ⟨rfl, rfl⟩ := y
  exact ⟨F', .refl, S, by rw [rngI_get hb]; exact .int _⟩
def iRange1 (fs : Fn (List B)) : Fn (List B × (Cs → Prop)) := fun sl cs => (fs sl cs).bind fun bs cs1 => match bs with
  | [.d (.int j)] => if -(2 ^ 62) ≤ j ∧ j < 2 ^ 62 then .ok (rngI 0 1 j.toNat, fun _ => True) cs1 else .no
  | _ => .no
def iRange2 (fs : Fn (List B)) : Fn (List B × (Cs → Prop)) := fun sl cs => (fs sl cs).bind fun bs cs1 => match bs with
  | [.d (.int i), .d (.int j)] => if -(2 ^ 62) ≤ i ∧ i < 2 ^ 62 ∧ -(2 ^ 62) ≤ j ∧ j < 2 ^ 62 then .ok (rngI i 1 (j - i).toNat, fun _ => True) cs1 else .no
  | _ => .no
def iRange3 (fs : Fn (List B)) : Fn (List B × (Cs → Prop)) := fun sl cs => (fs sl cs).bind fun bs cs1 => match bs with
  | [.d (.int i), .d (.int j), .d (.int c)] => if c = -1 ∧ -(2 ^ 62) ≤ i ∧ i < 2 ^ 62 ∧ -(2 ^ 62) ≤ j ∧ j < 2 ^ 62 then .ok (rngI i (-1) (i - j).toNat, fun _ => True) cs1 else .no
  | _ => .no
theorem walk1 {lo : Int} {n : Nat} : Walk (Itr lo n) n (fun _ => True) (YFn fun i => .int (lo + (i : Nat) * 1)) := walk_range.mono (fun _ h => h) fun i H x H' _ _ y => ⟨y.1, by
  have h : x = V.int (lo + (i : Nat)) := y.2
  show x = V.int (lo + (i : Nat) * 1)
  rw [h, Int.mul_one]⟩
theorem si_range1 (hg : Gl X "range") (hm : X.mg "range" = none) (ha : SA X W [a] fs) (hs : starEach [a] X.env = [(false, eval a X.env)] := by rfl) : SI X W tg (.Call (.Name "range" p) [a] [] pos) (iRange1 fs) :=
  pi_weak (pi_range1 hg hm ha hs) fun σ H R ⟨F, as, sl, cs, hs, S, h⟩ => by
    refine ⟨F, as, sl, cs, hs, S, (Out.bind mono_I h).imp ?_⟩
    rintro v H1 ⟨F1, as1, bs, cs1, e1, S1, r1, o1⟩
    split at o1
    · split at o1
      · rename_i hc
        obtain ⟨x, rfl, r⟩ := pair1 r1
        cases r
        exact ⟨_, rfl, hc.1, hc.2, Out.give o1 S1 (walk_rng walk1)⟩
      · exact o1.elim
    · exact o1.elim
theorem si_range2 (hg : Gl X "range") (hm : X.mg "range" = none) (ha : SA X W [a, b] fs) (hs : starEach [a, b] X.env = [(false, eval a X.env), (false, eval b X.env)] := by rfl) (hs2 : starEach [b] X.env = [(false, eval b X.env)] := by rfl) :
    SI X W tg (.Call (.Name "range" p) [a, b] [] pos) (iRange2 fs) :=
  pi_weak (pi_range2 hg hm ha hs hs2) fun σ H R ⟨F, as, sl, cs, hs, S, h⟩ => by
    refine ⟨F, as, sl, cs, hs, S, (Out.bind mono_I h).imp ?_⟩
    rintro v H1 ⟨F1, as1, bs, cs1, e1, S1, r1, o1⟩
    split at o1
    · split at o1
      · rename_i hc
        obtain ⟨x, y, rfl, r, r'⟩ := pair2 r1
        cases r
        cases r'
        exact ⟨_, _, rfl, hc, Out.give o1 S1 (walk_rng walk1)⟩
      · exact o1.elim
    · exact o1.elim
theorem pair3 {R : V → B → Prop} {xs : List V} {a b c : B} (h : Paired R xs [a, b, c]) : ∃ x y z, xs = [x, y, z] ∧ R x a ∧ R y b ∧ R z c := by
  cases h with
  | cons r t =>
    obtain ⟨y, z, rfl, r2, r3⟩ := pair2 t
    exact ⟨_, y, z, rfl, r, r2, r3⟩
theorem si_range3 (hg : Gl X "range") (hm : X.mg "range" = none) (ha : SA X W [a, b, c] fs) (hs : starEach [a, b, c] X.env = (false, eval a X.env) :: starEach [b, c] X.env := by rfl) (hs2 : (backTo pos (starEach [b, c] X.env)).any (·.1) = false := by rfl) :
    SI X W tg (.Call (.Name "range" p) [a, b, c] [] pos) (iRange3 fs) :=
  pi_weak (pi_range3 hg hm ha hs hs2) fun σ H R ⟨F, as, sl, cs, hs, S, h⟩ => by
    refine ⟨F, as, sl, cs, hs, S, (Out.bind mono_I h).imp ?_⟩
    rintro v H1 ⟨F1, as1, bs, cs1, e1, S1, r1, o1⟩
    split at o1
    · split at o1
      · rename_i hc
        obtain ⟨x, y, z, rfl, r, r', r''⟩ := pair3 r1
        cases r
        cases r'
        cases r''
        obtain ⟨rfl, h1, h2, h3, h4⟩ := hc
        exact ⟨_, _, _, _, rfl, RgC.neg h1 h2 h3 h4, Out.give o1 S1 (walk_rng walk_rangeC)⟩
      · exact o1.elim
    · exact o1.elim
theorem walk_zipT2 {K : PySem.W.Frag} {a b : Addr} {xs ys : List V} {n : Nat} (hn : n = min xs.length ys.length) : Walk (RZ.ItzT K a b) n (fun H => SqT K H a xs ∧ SqT K H b ys) (YPair (fun i => xs[i]?) (fun i => ys[i]?)) := by
  subst hn
  refine ⟨fun i _ hi q => ?_, fun _ q => ⟨xs, ys, q.1, q.2, by omega⟩, fun i H v H' _ q y => ?_⟩
  · have h1 : i < xs.length := by omega
    have h2 : i < ys.length := by omega
    exact ⟨xs, ys, xs[i], ys[i], q.1, q.2, by simp [h1], by simp [h2]⟩
  · obtain ⟨T, x, z, h1, h2, h3, h4, h5⟩ := y
    exact ⟨T, x, z, h1, h2, h3, h4 xs q.1, h5 ys q.2⟩
/-- zip: the items in pairs -/
def pairD (xs ys : List D) : List B := (xs.zip ys).map fun p => .d (.tuple [p.1, p.2])
theorem zip_get {α β : Type} {xs : List α} {ys : List β} {i : Nat} {p : α × β} (h : (xs.zip ys)[i]? = some p) : xs[i]? = some p.1 ∧ ys[i]? = some p.2 := by
  rw [List.getElem?_zip_eq_some] at h
  exact h
theorem pairD_get {xs ys : List D} {i : Nat} {b : B} (h : (pairD xs ys)[i]? = some b) : ∃ x y, xs[i]? = some x ∧ ys[i]? = some y ∧ b = .d (.tuple [x, y]) := by
  unfold pairD at h
  rw [List.getElem?_map] at h
  cases q : (xs.zip ys)[i]? with
  | none => rw [q] at h; cases h
  | some p =>
    rw [q] at h
    obtain ⟨h1, h2⟩ := zip_get q
    exact ⟨_, _, h1, h2, (Option.some.inj h).symm⟩
theorem new_pair {K : PySem.W.Frag} {mg : Str → Option Value} {F : Hp} {as : List Addr} {cs : Cs} {H : Hp} {T : Addr} {vx vy : V} {x y : D} (S : Sim K mg F as cs H) (hT : H T = none) (r1 : Rp F vx x) (r2 : Rp F vy y) :
    ∃ F'', Evo F as H F'' as (upd H T (.tup [vx, vy])) ∧ Sim K mg F'' as cs (upd H T (.tup [vx, vy])) ∧ RepB K F'' as (.ref T) (.d (.tuple [x, y])) :=
  ⟨_, Evo.new S hT, S.new hT, .tup upd_same (.cons (rp_mono (upd_grow (S.fnone hT)) _ _ r1) (.cons (rp_mono (upd_grow (S.fnone hT)) _ _ r2) .nil))⟩
def iZip (fs : Fn (List B)) : Fn (List B × (Cs → Prop)) := fun sl cs => (fs sl cs).bind fun bs cs1 => match bs with
  | [.d (.tuple xs), .d (.tuple ys)] => .ok (pairD xs ys, fun _ => True) cs1
  | [.d (.list xs), .d (.list ys)] => .ok (pairD xs ys, fun _ => True) cs1
  | _ => .no
theorem si_zip {elts : List Expr} {kk : Nat} {tpos : Pos} (hg : Gl X "zip") (hm : X.mg "zip" = none) (ha : SA X W [a, b] fs) (hs : starEach [a, b] X.env = (false, eval a X.env) :: starEach [b] X.env := by rfl) (hpl : (backTo pos (starEach [b] X.env)).any (·.1) = false := by rfl) :
    SI X W (.Tuple elts kk tpos) (.Call (.Name "zip" p) [a, b] [] pos) (VM.iZip fs) :=
  pi_weak (RZ.pi_zipA hg hm ha hs hpl) fun σ H R ⟨F, as, sl, cs, hs, S, h⟩ => by
    refine ⟨F, as, sl, cs, hs, S, (Out.bind mono_I h).imp ?_⟩
    rintro v H1 ⟨F1, as1, bs, cs1, e1, S1, r1, o1⟩
    split at o1
    · rename_i xs ys
      obtain ⟨x, y, rfl, r, r'⟩ := pair2 r1
      cases r with
      | tup q0 ha =>
      have q := SqT.of (K := X.K) q0
      cases r' with
      | tup q0' ha' =>
      have q' := SqT.of (K := X.K) q0'
      rename_i p1 vs1 p2 vs2
      refine ⟨_, _, _, _, rfl, .inr ⟨ex_t S1.sub q, ex_t S1.sub q', Out.give o1 S1 ?_⟩⟩
      have l1 := pair_len (of_rpAll (K := X.K) (as := as1) ha)
      have l2 := pair_len (of_rpAll (K := X.K) (as := as1) ha')
      rw [List.length_map] at l1 l2
      refine ⟨_, _, walk_zipT2 (a := p1) (b := p2) (xs := vs1) (ys := vs2) (by simp [pairD]; omega), fun F' as' H' cs' e S' _ => ⟨ex_t S'.sub (ex_t e.ex q), ex_t S'.sub (ex_t e.ex q')⟩, fun i x b F' as' H' H'' cs' e S' ok hb y => ?_⟩
      obtain ⟨T, vx, vy, rfl, hT, rfl, h1, h2⟩ := y
      obtain ⟨dx, dy, g1, g2, rfl⟩ := pairD_get hb
      obtain ⟨vx', k1, k2⟩ := pair_get (i := i) (y := B.d dx) (of_rpAll (K := X.K) (as := as1) ha) (by rw [List.getElem?_map, g1]; rfl)
      obtain ⟨vy', k3, k4⟩ := pair_get (i := i) (y := B.d dy) (of_rpAll (K := X.K) (as := as1) ha') (by rw [List.getElem?_map, g2]; rfl)
      have h1' : vs1[i]? = some vx := h1
      have h2' : vs2[i]? = some vy := h2
      rw [h1'] at k1; cases k1
      rw [h2'] at k3; cases k3
      exact new_pair S' hT (rp_mono e.ex _ _ k2) (rp_mono e.ex _ _ k4)
    · rename_i xs ys
      obtain ⟨x, y, rfl, r, r'⟩ := pair2 r1
      cases r with
      | lst q0 ha =>
      have q := SqL.of (K := X.K) q0
      cases r' with
      | lst q0' ha' =>
      have q' := SqL.of (K := X.K) q0'
      rename_i p1 vs1 p2 vs2
      refine ⟨_, _, _, _, rfl, .inl ⟨ex_l S1.sub q, ex_l S1.sub q', Out.give o1 S1 ?_⟩⟩
      have l1 := pair_len (of_rpAll (K := X.K) (as := as1) ha)
      have l2 := pair_len (of_rpAll (K := X.K) (as := as1) ha')
      rw [List.length_map] at l1 l2
      refine ⟨_, _, walk_zip (a := p1) (b := p2) (xs := vs1) (ys := vs2) (by simp [pairD]; omega), fun F' as' H' cs' e S' _ => ⟨ex_l S'.sub (ex_l e.ex q), ex_l S'.sub (ex_l e.ex q')⟩, fun i x b F' as' H' H'' cs' e S' ok hb y => ?_⟩
      obtain ⟨T, vx, vy, rfl, hT, rfl, h1, h2⟩ := y
      obtain ⟨dx, dy, g1, g2, rfl⟩ := pairD_get hb
      obtain ⟨vx', k1, k2⟩ := pair_get (i := i) (y := B.d dx) (of_rpAll (K := X.K) (as := as1) ha) (by rw [List.getElem?_map, g1]; rfl)
      obtain ⟨vy', k3, k4⟩ := pair_get (i := i) (y := B.d dy) (of_rpAll (K := X.K) (as := as1) ha') (by rw [List.getElem?_map, g2]; rfl)
      have h1' : vs1[i]? = some vx := h1
      have h2' : vs2[i]? = some vy := h2
      rw [h1'] at k1; cases k1
      rw [h2'] at k3; cases k3
      exact new_pair S' hT (rp_mono e.ex _ _ k2) (rp_mono e.ex _ _ k4)
    · exact o1.elim
/-- enumerate -/
def enumD (xs : List D) : List B := xs.zipIdx.map fun p => .d (.tuple [.int (p.2 : Nat), p.1])
theorem enumD_get {xs : List D} {i : Nat} {b : B} (h : (enumD xs)[i]? = some b) : ∃ x, xs[i]? = some x ∧ b = .d (.tuple [.int (i : Nat), x]) := by
  unfold enumD at h
  rw [List.getElem?_map, List.getElem?_zipIdx] at h
  cases q : xs[i]? with
  | none => rw [q] at h; cases h
  | some x =>
    rw [q] at h
    refine ⟨x, rfl, ?_⟩
    have h' := (Option.some.inj h).symm
    simpa using h'
def iEnum (fs : Fn (List B)) : Fn (List B × (Cs → Prop)) := fun sl cs => (fs sl cs).bind fun bs cs1 => match bs with
  | [.d (.tuple xs)] => .ok (enumD xs, fun _ => True) cs1
  | [.d (.list xs)] => .ok (enumD xs, fun _ => True) cs1
  | [.r k] => match cs1[k]? with
    | some (.lst ys) => match allD ys with
      | some xs => .ok (enumD xs, fun c => c[k]? = some (.lst ys)) cs1
      | none => .no
    | _ => .no
  | _ => .no
theorem si_enum {elts : List Expr} {kk : Nat} {tpos : Pos} (hg : Gl X "enumerate") (hm : X.mg "enumerate" = none) (ha : SA X W [a] fs) (hs : starEach [a] X.env = [(false, eval a X.env)] := by rfl) : SI X W (.Tuple elts kk tpos) (.Call (.Name "enumerate" p) [a] [] pos) (VM.iEnum fs) :=
  pi_weak (pi_enumA hg hm ha hs) fun σ H R ⟨F, as, sl, cs, hs, S, h⟩ => by
    refine ⟨F, as, sl, cs, hs, S, (Out.bind mono_I h).imp ?_⟩
    rintro v H1 ⟨F1, as1, bs, cs1, e1, S1, r1, o1⟩
    split at o1
    · rename_i xs
      obtain ⟨x, rfl, r⟩ := pair1 r1
      cases r with
      | tup q0 ha =>
      have q := SqT.of (K := X.K) q0
      rename_i p1 vs1
      have l1 := pair_len (of_rpAll (K := X.K) (as := as1) ha)
      rw [List.length_map] at l1
      refine ⟨_, _, rfl, .inr ⟨ex_t S1.sub q, Out.give o1 S1 ⟨_, _, by show Walk _ (enumD xs).length _ _; rw [show (enumD xs).length = vs1.length by simp [enumD, l1]]; exact walk_enumT (a := p1), fun F' as' H' cs' e S' _ => ex_t S'.sub (ex_t e.ex q), fun i x b F' as' H' H'' cs' e S' ok hb y => ?_⟩⟩⟩
      obtain ⟨T, vx, vy, rfl, hT, rfl, h1, h2⟩ := y
      obtain ⟨dx, g1, rfl⟩ := enumD_get hb
      obtain ⟨vx', k1, k2⟩ := pair_get (i := i) (y := B.d dx) (of_rpAll (K := X.K) (as := as1) ha) (by rw [List.getElem?_map, g1]; rfl)
      have h2' : vs1[i]? = some vy := h2
      rw [h2'] at k1; cases k1
      have h1' : some (V.int ((i : Nat) : Int)) = some vx := h1
      cases h1'
      exact new_pair S' hT (.int _) (rp_mono e.ex _ _ k2)
    · rename_i xs
      obtain ⟨x, rfl, r⟩ := pair1 r1
      cases r with
      | lst q0 ha =>
      have q := SqL.of (K := X.K) q0
      rename_i p1 vs1
      have l1 := pair_len (of_rpAll (K := X.K) (as := as1) ha)
      rw [List.length_map] at l1
      refine ⟨_, _, rfl, .inl ⟨ex_l S1.sub q, Out.give o1 S1 ⟨_, _, by show Walk _ (enumD xs).length _ _; rw [show (enumD xs).length = vs1.length by simp [enumD, l1]]; exact walk_enum (a := p1), fun F' as' H' cs' e S' _ => ex_l S'.sub (ex_l e.ex q), fun i x b F' as' H' H'' cs' e S' ok hb y => ?_⟩⟩⟩
      obtain ⟨T, vx, vy, rfl, hT, rfl, h1, h2⟩ := y
      obtain ⟨dx, g1, rfl⟩ := enumD_get hb
      obtain ⟨vx', k1, k2⟩ := pair_get (i := i) (y := B.d dx) (of_rpAll (K := X.K) (as := as1) ha) (by rw [List.getElem?_map, g1]; rfl)
      have h2' : vs1[i]? = some vy := h2
      rw [h2'] at k1; cases k1
      have h1' : some (V.int ((i : Nat) : Int)) = some vx := h1
      cases h1'
      exact new_pair S' hT (.int _) (rp_mono e.ex _ _ k2)
    · rename_i k
      obtain ⟨x, rfl, r⟩ := pair1 r1
      obtain ⟨q, ea, rfl⟩ := r
      split at o1
      · rename_i ys ek
        split at o1
        · rename_i xs ed
          obtain ⟨vs1, hv, hp⟩ := S1.cell _ _ _ ea ek
          have l1 := pair_len hp
          have hy := allD_some ed
          have l2 : ys.length = xs.length := by rw [hy, List.length_map]
          refine ⟨q, vs1, rfl, .inl ⟨SqL.of hv, Out.give o1 S1 ⟨_, _, by show Walk _ (enumD xs).length _ _; rw [show (enumD xs).length = xs.length by simp [enumD]]; exact walk_enumC (a := q) (n := xs.length), fun F' as' H' cs' e S' ok => ?_, fun i x b F' as' H' H'' cs' e S' ok hb y => ?_⟩⟩⟩
          · obtain ⟨vs', hv', hp'⟩ := S'.cell _ _ _ (get_pre e.pre ea) ok
            exact ⟨vs', SqL.of hv', by rw [pair_len hp', l2]⟩
          · obtain ⟨vs', hv', hp'⟩ := S'.cell _ _ _ (get_pre e.pre ea) ok
            obtain ⟨T, vx, rfl, hT, rfl, h1⟩ := y
            obtain ⟨dx, g1, rfl⟩ := enumD_get hb
            obtain ⟨vx', k1, k2⟩ := pair_get (i := i) (y := B.d dx) hp' (by rw [hy, List.getElem?_map, g1]; rfl)
            rw [h1 _ (SqL.of hv')] at k1; cases k1
            exact new_pair S' hT (.int _) k2
        · exact o1.elim
      · exact o1.elim
    · exact o1.elim
end
end VM

/-! VM5: loops, comprehensions. -/
namespace VM
open PySem L2
open Classical

noncomputable def sLoop (okc : Cs → Prop) (tf : TgF) (body : FnS) : List B → FnS
  | [], sl, cs => if okc cs then .nx sl cs else .no
  | b :: bs, sl, cs => if okc cs then match tf b sl with
    | none => .no
    | some sl1 => match body sl1 cs with
      | .nx sl2 cs2 => sLoop okc tf body bs sl2 cs2
      | .ct sl2 cs2 => sLoop okc tf body bs sl2 cs2
      | .bk sl2 cs2 => .nx sl2 cs2
      | r => r
    else .no
noncomputable def sFor (fi : Fn (List B × (Cs → Prop))) (tf : TgF) (body : FnS) : FnS := fun sl cs => sE (fi sl cs) sl fun a cs1 => sLoop a.2 tf body a.1 sl cs1
section
variable {X : Cx} {W : WX} {e a b c tg iter : Expr} {f fa fb fc : Fn B} {t u : Fn Bool} {pos : Pos} {es : List Expr} {fs : Fn (List B)} {st : Stmt} {rest body : List Stmt} {g g1 g2 : FnS} {fi : Fn (List B × (Cs → Prop))} {tf : TgF}
theorem loop_ok {K : PySem.W.Frag} {mg : Str → Option Value} {F : Hp} {as : List Addr} {H : Hp} {okc : Cs → Prop} {items : List B} {sl : Sl} {cs : Cs} {D : Ends} (h : OutS K mg W F as H (sLoop okc tf g items sl cs) D) : okc cs := by
  cases items with
  | nil =>
    unfold sLoop at h
    split at h
    · assumption
    · exact h.elim
  | cons b bs =>
    unfold sLoop at h
    split at h
    · assumption
    · exact h.elim
theorem ss_for {ws : List Nat} (hi : SI X W tg iter fi) (hg : SG X tg ws tf) (hb : SSs X W body g) (hp : PassesOwn (model X.prog X.w) X.A X.env X.xe) (hc : X.calm = true := by rfl) (hs : ∀ x, foldedSetIterable iter X.env x = pure x := by intro _; rfl) : SS X W (.For tg iter body [] pos) (sFor fi tf g) :=
  ps_weak (ps_for hp hc hi hg hb hs) fun D σ H ⟨F, as, sl, cs, hs, S, h⟩ => by
    refine ⟨F, as, sl, cs, hs, S, (OutS.bind hs h).imp ?_⟩
    rintro J H1 ⟨F1, as1, ⟨items, okc⟩, cs1, e1, hs1, S1, ⟨G, Y, w, hG, hY⟩, o1⟩
    refine for_it w (fun i σ' H' => ∃ F' as' sl' cs', Evo F1 as1 H1 F' as' H' ∧ RepS X.K F' as' σ' sl' ∧ Sim X.K X.mg F' as' cs' H' ∧ OutS X.K X.mg W F' as' H' (sLoop okc tf g (items.drop i) sl' cs') D)
      ⟨F1, as1, sl, cs1, .refl, hs1, S1, o1⟩ (fun i σ' H' _ ⟨F', as', sl', cs', e', hs', S', o'⟩ => hG F' as' H' cs' e' S' (loop_ok o')) ?_ ?_
    · rintro i x σ' H' H'' hi ⟨F', as', sl', cs', e', hs', S', o'⟩ y
      have hi' : i < items.length := hi
      have hb' : items[i]? = some items[i] := List.getElem?_eq_getElem hi'
      rw [List.drop_eq_getElem_cons hi'] at o'
      have hok := loop_ok o'
      unfold sLoop at o'
      rw [if_pos hok] at o'
      obtain ⟨F2, e2, S2, r2⟩ := hY i x _ F' as' H' H'' cs' e' S' hok hb' y
      split at o'
      · exact o'.elim
      · rename_i sl1 etf
        refine ⟨F2, as', sl', cs', _, e2.repS hs', S2, r2, sl1, etf, fun σ2 hs2 _ => ⟨F2, as', sl1, cs', hs2, S2, ?_⟩⟩
        have o2 := OutS.step e2 o'
        have again : ∀ {sl3 cs3}, OutS X.K X.mg W F2 as' H'' (sLoop okc tf g (items.drop (i + 1)) sl3 cs3) D → ∀ F3 as3 H3 σ3, Evo F2 as' H'' F3 as3 H3 → Sim X.K X.mg F3 as3 cs3 H3 → RepS X.K F3 as3 σ3 sl3 →
            ∃ F' as' sl' cs', Evo F1 as1 H1 F' as' H3 ∧ RepS X.K F' as' σ3 sl' ∧ Sim X.K X.mg F' as' cs' H3 ∧ OutS X.K X.mg W F' as' H3 (sLoop okc tf g (items.drop (i + 1)) sl' cs') D := fun o3 F3 as3 H3 σ3 e3 S3 hs3 =>
          ⟨F3, as3, _, _, (e'.trans e2).trans e3, hs3, S3, OutS.step e3 o3⟩
        cases q : g sl1 cs' with
        | nx sl3 cs3 => rw [q] at o2; exact again o2
        | ct sl3 cs3 => rw [q] at o2; exact again o2
        | bk sl3 cs3 => rw [q] at o2; exact o2
        | rt b cs3 => rw [q] at o2; exact o2
        | ex x sl3 cs3 => rw [q] at o2; exact o2
        | no => rw [q] at o2; exact o2
    · rintro σ' H' ⟨F', as', sl', cs', e', hs', S', o'⟩
      rw [List.drop_length] at o'
      have hok := loop_ok o'
      unfold sLoop at o'
      rw [if_pos hok] at o'
      exact OutS.nxt o' S' hs'
/-! ### while -/
def sWhileN (t : Fn Bool) (body : FnS) : Nat → FnS
  | 0 => fun _ _ => .no
  | n + 1 => fun sl cs => sE (t sl cs) sl fun k cs1 => if k = true then match body sl cs1 with
      | .nx sl2 cs2 => sWhileN t body n sl2 cs2
      | .ct sl2 cs2 => sWhileN t body n sl2 cs2
      | .bk sl2 cs2 => .nx sl2 cs2
      | r => r
    else .nx sl cs1
def sWhile (t : Fn Bool) (body : FnS) : FnS := sWhileN t body 1000000000000
theorem ss_while (hc : ST X W c t) (hb : SSs X W body g) (hp : PassesOwn (model X.prog X.w) X.A X.env X.xe) : SS X W (.While c body [] pos) (sWhile t g) := ps_weak (ps_while hp hc hb) fun D σ H ⟨F, as, sl, cs, hs, S, h⟩ => by
  refine ⟨fun n σ H => ∃ F as sl cs, RepS X.K F as σ sl ∧ Sim X.K X.mg F as cs H ∧ OutS X.K X.mg W F as H (sWhileN t g n sl cs) D, ⟨_, F, as, sl, cs, hs, S, h⟩, ?_⟩
  rintro n σ1 H1 ⟨F1, as1, sl1, cs1, hs1, S1, o1⟩
  cases n with
  | zero => exact o1.elim
  | succ n =>
    refine ⟨F1, as1, sl1, cs1, hs1, S1, (OutS.bind hs1 o1).imp ?_⟩
    rintro k H2 ⟨F2, as2, k', cs2, e2, hs2, S2, r2, o2⟩
    have e : k = k' := r2
    subst e
    cases k with
    | false => exact OutS.nxt o2 S2 hs2
    | true =>
      have o2 : OutS X.K X.mg W F2 as2 H2 (match g sl1 cs2 with
        | .nx sl2 cs2 => sWhileN t g n sl2 cs2
        | .ct sl2 cs2 => sWhileN t g n sl2 cs2
        | .bk sl2 cs2 => .nx sl2 cs2
        | r => r) D := o2
      refine ⟨fun σ H => ∃ F as sl cs, RepS X.K F as σ sl ∧ Sim X.K X.mg F as cs H ∧ OutS X.K X.mg W F as H (sWhileN t g n sl cs) D, fun σ' H' q => ⟨n, Nat.lt_succ_self n, q⟩, F2, as2, sl1, cs2, hs2, S2, ?_⟩
      cases q : g sl1 cs2 with
      | nx sl3 cs3 => rw [q] at o2; exact fun F3 as3 H3 σ3 e3 S3 hs3 => ⟨F3, as3, _, _, hs3, S3, OutS.step e3 o2⟩
      | ct sl3 cs3 => rw [q] at o2; exact fun F3 as3 H3 σ3 e3 S3 hs3 => ⟨F3, as3, _, _, hs3, S3, OutS.step e3 o2⟩
      | bk sl3 cs3 => rw [q] at o2; exact o2
      | rt b cs3 => rw [q] at o2; exact o2
      | ex x sl3 cs3 => rw [q] at o2; exact o2
      | no => rw [q] at o2; exact o2
end

/-! ### comprehensions -/
def noEx {α : Type} : ER α → ER α
  | .ok a cs => .ok a cs
  | _ => .no
@[simp] theorem noEx_ok {α : Type} {a : α} {cs : Cs} : noEx (.ok a cs) = .ok a cs := rfl
@[simp] theorem noEx_no {α : Type} : noEx (.no : ER α) = .no := rfl
@[simp] theorem noEx_ex {α : Type} {x : Str} {cs : Cs} : noEx (.ex x cs : ER α) = .no := rfl
def wipeS (sl : Sl) : List Nat → Sl
  | [] => sl
  | v :: vs => (wipeS sl vs).set v none
noncomputable def lcLoop (okc : Cs → Prop) (tf : TgF) (tt : Fn Bool) (te : Fn B) (sl : Sl) : List B → Cs → ER (List B)
  | [], cs => if okc cs then .ok [] cs else .no
  | b :: bs, cs => if okc cs then match tf b sl with
    | none => .no
    | some sl1 => (noEx (tt sl1 cs)).bind fun k cs1 => if k = true then (noEx (te sl1 cs1)).bind fun y cs2 => (lcLoop okc tf tt te sl bs cs2).bind fun ys cs3 => .ok (y :: ys) cs3 else lcLoop okc tf tt te sl bs cs1
    else .no
noncomputable def lComp (fi : Fn (List B × (Cs → Prop))) (tf : TgF) (tt : Fn Bool) (te : Fn B) (vs : List Nat) : Fn (List B) := fun sl cs => (fi sl cs).bind fun a cs1 => if a.1.length < sizeLine then lcLoop a.2 tf tt te (wipeS sl vs) a.1 cs1 else .no
def W0 : WX := fun _ _ _ _ => False
theorem repS_wipe {K : PySem.W.Frag} {F : Hp} {as : List Addr} {σ : St} {sl : Sl} (h : RepS K F as σ sl) : ∀ vs : List Nat, RepS K F as (wipe σ vs) (wipeS sl vs)
  | [] => h
  | v :: vs => pair_set (show RepO K F as none none from trivial) v (repS_wipe h vs)
theorem wipe_get {σ : St} {j : Nat} : ∀ {vs : List Nat}, (wipe σ vs)[j]? = if j ∈ vs then (if j < σ.length then some none else none) else σ[j]?
  | [] => by simp [wipe]
  | v :: vs => by
    show ((wipe σ vs).set v none)[j]? = _
    by_cases h : v = j
    · subst h
      rw [List.getElem?_set]
      simp [wipe_length]
    · rw [List.getElem?_set_ne h, wipe_get]
      have h' : ¬ j = v := fun q => h q.symm
      simp [h']
theorem wipe_eq {σ σ2 : St} {vs : List Nat} (hl : σ2.length = σ.length) (h : ∀ j, j ∉ vs → σ2[j]? = σ[j]?) : wipe σ2 vs = wipe σ vs := by
  apply List.ext_getElem?
  intro j
  rw [wipe_get, wipe_get, hl]
  split
  · rfl
  · rename_i hj; exact h j hj
theorem wipe_wipe {σ : St} {vs : List Nat} : wipe (wipe σ vs) vs = wipe σ vs := wipe_eq (wipe_length σ vs) fun j hj => by rw [wipe_get, if_neg hj]
section
variable {K : PySem.W.Frag} {mg : Str → Option Value} {F : Hp} {as : List Addr} {cs : Cs} {H : Hp} {p : Addr} {o : HO}
theorem Sim.other (S : Sim K mg F as cs H) (hf : F p = none) (hn : p ∉ as) : Sim K mg F as cs (upd H p o) := by
  refine ⟨fun a u e => ?_, S.len, S.nd, S.sep, fun k a c e1 e2 => repC_mono (fun _ _ h => h) ⟨[], by simp⟩ (fun u z => ?_) (S.cell k a c e1 e2), fun a hm => ?_⟩
  · rw [upd_ne (fun z => by rw [z, hf] at e; cases e)]; exact S.sub a u e
  · rw [upd_ne (fun q => hn (by rw [← q]; exact List.mem_of_getElem? e1))]; exact z
  · rw [upd_ne (fun q => hn (by rw [← q]; exact hm))]; exact S.has a hm
theorem Evo.other {F0 : Hp} {as0 : List Addr} {H0 : Hp} (e : Evo F0 as0 H0 F as H) (h0 : H0 p = none) : Evo F0 as0 H0 F as (upd H p o) :=
  ⟨e.ex, e.pre, fun a u h hn => by rw [upd_ne (ne_of_none h h0)]; exact e.fr a u h hn, e.newF, e.newA⟩
theorem Evo.fnone {F0 : Hp} {as0 : List Addr} {H0 : Hp} (e : Evo F0 as0 H0 F as H) {u : HO} (hf : F0 p = none) (hn : p ∉ as0) (h : H0 p = some u) : F p = none := by
  cases q : F p with
  | none => rfl
  | some v =>
    rcases e.newF p (by rw [q]; simp) with z | z | z
    · exact absurd hf z
    · exact absurd z hn
    · rw [h] at z; cases z
end
section
variable {X : Cx} {W : WX} {elt tg iter : Expr} {ifs : List Expr} {scope : Scope} {own : List (Str × Nat)} {pos : Pos} {fi : Fn (List B × (Cs → Prop))} {tf : TgF} {ws : List Nat} {tt : Fn Bool} {te : Fn B}
def STs (X : Cx) (W : WX) (ifs : List Expr) (f : Fn Bool) : Prop := PTs X ifs (tG X.K X.mg W relT f)
def eYes : Fn Bool := fun _ cs => .ok true cs
theorem sts_nil : STs X W [] eYes := ⟨fun pins s σ H Q I ⟨F, as, sl, cs, hs, S, h⟩ => pts_nil.run pins s σ H Q I (Out.give h S rfl)⟩
theorem sts_one {c : Expr} (h : ST X W c tt) : STs X W [c] tt := pts_one h
theorem lc_ok {K : PySem.W.Frag} {mg : Str → Option Value} {E : XK} {F : Hp} {as : List Addr} {H : Hp} {okc : Cs → Prop} {sl : Sl} {items : List B} {cs : Cs} {k : List B → Cs → ER (List B)} {Q : VK} (h : Out K mg (relL K) E F as H ((lcLoop okc tf tt te sl items cs).bind k) Q) : okc cs := by
  cases items with
  | nil =>
    unfold lcLoop at h
    split at h
    · assumption
    · exact h.elim
  | cons b bs =>
    unfold lcLoop at h
    split at h
    · assumption
    · exact h.elim
theorem lc_of {K : PySem.W.Frag} {mg : Str → Option Value} {σ : St} {H : Hp} {Q : VK} {vs : List Nat} (hw : ∀ j ∈ ws, j ∈ vs) (h : tG K mg W (relL K) (lComp fi tf tt te vs) σ H Q) :
    tLc (tG K mg W (relI K mg) fi) (tTg K mg ws tf) (tG K mg W0 relT tt) (tG K mg W0 (relB K) te) vs σ H Q := by
  obtain ⟨F, as, sl, cs, hs, S, h⟩ := h
  refine ⟨F, as, sl, cs, hs, S, (Out.bind0 h).imp ?_⟩
  rintro J H1 ⟨F1, as1, ⟨items, okc⟩, cs1, e1, S1, ⟨G, Y, w, hG, hY⟩, o1⟩ D hD
  have o1 : Out K mg (relL K) (WE W σ) F as H (if items.length < sizeLine then lcLoop okc tf tt te (wipeS sl vs) items cs1 else .no) Q := o1
  split at o1
  case isFalse => exact o1.elim
  case isTrue hsz =>
  have hs1 := e1.repS hs
  have hsw := repS_wipe hs1 vs
  have D1 : F1 D = none := S1.fnone hD
  have D2 : D ∉ as1 := S1.out hD
  have D0 : H D = none := e1.fresh hD D2
  refine lc_it w (fun i H' => ∃ F' as' cs' acc accB, Evo F1 as1 H1 F' as' H' ∧ Sim K mg F' as' cs' H' ∧ F' D = none ∧ D ∉ as' ∧ H' D = some (.lst acc) ∧ Paired (RepB K F' as') acc accB ∧ acc.length ≤ i ∧
      Out K mg (relL K) (WE W σ) F as H ((lcLoop okc tf tt te (wipeS sl vs) (items.drop i) cs').bind fun ys cs3 => .ok (accB ++ ys) cs3) Q) ?_ ?_ ?_ ?_
  · refine ⟨F1, as1, cs1, [], [], Evo.heap hD, S1.other D1 D2, D1, D2, upd_same, .nil, Nat.le_refl _, ?_⟩
    have z : (lcLoop okc tf tt te (wipeS sl vs) (items.drop 0) cs1).bind (fun ys cs3 => ER.ok ([] ++ ys) cs3) = lcLoop okc tf tt te (wipeS sl vs) items cs1 := by
      rw [List.drop_zero]
      cases lcLoop okc tf tt te (wipeS sl vs) items cs1 <;> rfl
    rw [z]; exact o1
  · rintro i H' _ ⟨F', as', cs', acc, accB, e', S', _, _, _, _, _, o'⟩
    exact hG F' as' H' cs' e' S' (lc_ok o')
  · rintro i x H' H'' hi ⟨F', as', cs', acc, accB, e', S', d1, d2, d3, ra, hl, o'⟩ y
    have hi' : i < items.length := hi
    have hb' : items[i]? = some items[i] := List.getElem?_eq_getElem hi'
    have hok := lc_ok o'
    rw [List.drop_eq_getElem_cons hi'] at o'
    unfold lcLoop at o'
    rw [if_pos hok] at o'
    obtain ⟨F2, e2, S2, r2⟩ := hY i x _ F' as' H' H'' cs' e' S' hok hb' y
    have f1 : F2 D = none := e2.fnone d1 d2 d3
    have f3 : H'' D = some (.lst acc) := (e2.keep d3 d2).1
    have ra2 := e2.repBs ra
    split at o'
    · exact o'.elim
    · rename_i sl1 etf
      refine ⟨F2, as', wipeS sl vs, cs', _, e2.repS (e'.repS hsw), S2, r2, sl1, etf, fun σ2 hs2 on2 => ?_⟩
      refine ⟨?_, F2, as', sl1, cs', hs2, S2, ?_⟩
      · rw [← wipe_wipe (σ := σ) (vs := vs)]
        exact wipe_eq on2.1 fun j hj => on2.2 j fun q => hj (hw j q)
      · cases q1 : tt sl1 cs' with
        | no => rw [q1] at o'; exact o'.elim
        | ex xx c => rw [q1] at o'; exact o'.elim
        | ok k cs2 =>
          rw [q1] at o'
          intro F3 as3 H3 k' e3 S3 r3
          have ek : k' = k := r3
          subst ek
          have g1 : F3 D = none := e3.fnone f1 d2 f3
          have g3 := e3.keep f3 d2
          have ra3 := e3.repBs ra2
          have e13 := (e'.trans e2).trans e3
          cases k' with
          | false =>
            rw [if_neg Bool.false_ne_true]
            exact ⟨F3, as3, cs2, acc, accB, e13, S3, g1, g3.2, g3.1, ra3, by omega, o'⟩
          | true =>
            rw [if_pos rfl]
            refine ⟨F3, as3, sl1, cs2, e3.repS hs2, S3, ?_⟩
            cases q2 : te sl1 cs2 with
            | no =>
              simp only [noEx_ok, ER.bind_ok, if_pos, q2, noEx_no, ER.bind_no] at o'
              exact o'.elim
            | ex xx c =>
              simp only [noEx_ok, ER.bind_ok, if_pos, q2, noEx_ex, ER.bind_no] at o'
              exact o'.elim
            | ok y cs4 =>
              simp only [noEx_ok, ER.bind_ok, if_pos, q2] at o'
              intro F4 as4 H4 vy e4 S4 r4
              have k1 : F4 D = none := e4.fnone g1 g3.2 g3.1
              have k3 := e4.keep g3.1 g3.2
              have ra4 := e4.repBs ra3
              have lacc : acc.length < sizeLine := by omega
              refine ⟨acc, k3.1, lacc, F4, as4, cs4, acc ++ [vy], accB ++ [y], (e13.trans e4).other hD, S4.other k1 k3.2, k1, k3.2, upd_same, pair_app ra4 (.cons r4 .nil), by simp; omega, ?_⟩
              have z : ((lcLoop okc tf tt te (wipeS sl vs) (items.drop (i + 1)) cs4).bind fun ys cs3 => ER.ok (y :: ys) cs3).bind (fun ys cs3 => ER.ok (accB ++ ys) cs3) =
                  (lcLoop okc tf tt te (wipeS sl vs) (items.drop (i + 1)) cs4).bind fun ys cs3 => ER.ok (accB ++ [y] ++ ys) cs3 := by
                cases lcLoop okc tf tt te (wipeS sl vs) (items.drop (i + 1)) cs4 with
                | ok ys cc => simp
                | ex _ _ => rfl
                | no => rfl
              rw [← z]; exact o'
  · rintro H' ⟨F', as', cs', acc, accB, e', S', d1, d2, d3, ra, hl, o'⟩
    have hok := lc_ok o'
    rw [List.drop_length] at o'
    unfold lcLoop at o'
    rw [if_pos hok, ER.bind_ok, List.append_nil] at o'
    exact Out.give2 o' (e1.trans e') S' ⟨D, acc, rfl, d3, d1, d2, D0, by have : acc.length ≤ items.length := hl; omega, ra⟩
theorem sl_comp (hN : X.N.Nodup) (hi : SI X W tg iter fi) (ok : BlkOk X.N X.env.scope scope own)
    (hg : ∀ (s : Shared) (H : Hp) (C : Addr) (cl : List (Str × Addr)) (fp : List Addr), SG (X.blk s H scope (compEnvC scope cl C X.env) fp) tg ws tf)
    (ht : ∀ (s : Shared) (H : Hp) (C : Addr) (cl : List (Str × Addr)) (fp : List Addr), STs (X.blk s H scope (compEnvC scope cl C X.env) fp) W0 ifs tt)
    (he : ∀ (s : Shared) (H : Hp) (C : Addr) (cl : List (Str × Addr)) (fp : List Addr), SE (X.blk s H scope (compEnvC scope cl C X.env) fp) W0 elt te)
    (hw : ∀ j ∈ ws, j ∈ own.map (·.2) := by decide) (hc : X.calm = true := by rfl) (hs : ∀ x, foldedSetIterable iter X.env x = pure x := by intro _; rfl) :
    SL X W (.ListComp elt [⟨tg, iter, ifs, 0⟩] scope pos) (lComp fi tf tt te (own.map (·.2))) :=
  pe_weak (pe_lc (g := tTg X.K X.mg ws tf) (tt := tG X.K X.mg W0 relT tt) (te := tG X.K X.mg W0 (relB X.K) te) hc hN hi ok hg ht he hs) fun σ H Q h => lc_of hw h
end
end VM

/-! VM6: defs, calls, classes, raise, try. -/
namespace VM
open PySem PySem.Spec PyProof.Rows L2
open Classical

/-! ### what is left behind a def -/
def B.low (n : Nat) : B → Prop
  | .r j => j < n
  | .m _ j => j < n
  | _ => True
def Cell.low (n : Nat) : Cell → Prop
  | .lst bs => ∀ b ∈ bs, b.low n
  | .dK kvs => ∀ p ∈ kvs, p.2.low n
  | .dT kvs => ∀ p ∈ kvs, p.2.low n
  | .ins _ fs => ∀ p ∈ fs, p.2.low n
  | .dead => True
section
variable {K : PySem.W.Frag} {mg : Str → Option Value} {E : XK} {F F' : Hp} {as as' t : List Addr} {cs cs' : Cs} {H H' : Hp} {v : V} {b : B} {a : Addr} {c : Cell}
theorem repB_low (r : RepB K F as v b) : b.low as.length := by
  cases b with
  | r k => obtain ⟨a, e, _⟩ := r; exact (List.getElem?_eq_some_iff.mp e).1
  | m f k => obtain ⟨p, a, _, _, e⟩ := r; exact (List.getElem?_eq_some_iff.mp e).1
  | d x => trivial
  | k x => trivial
  | c w => trivial
theorem repB_cut (r : RepB K F (as ++ t) v b) (h : b.low as.length) : RepB K F as v b := by
  cases b with
  | r k =>
    obtain ⟨a, e, z⟩ := r
    exact ⟨a, by rw [List.getElem?_append_left h] at e; exact e, z⟩
  | m f k =>
    obtain ⟨p, a, e1, e2, e⟩ := r
    exact ⟨p, a, e1, e2, by rw [List.getElem?_append_left h] at e; exact e⟩
  | d x => exact r
  | k x => exact r
  | c w => exact r
theorem pair_low {α : Type} {g : α → B} {R : V → B → Prop} : ∀ {vs : List V} {bs : List B}, Paired (RepB K F as) vs bs → ∀ b ∈ bs, b.low as.length
  | _, _, .nil, _, h => by simp at h
  | _, _, .cons r t, b, h => by
    rcases List.mem_cons.mp h with e | h
    · rw [e]; exact repB_low r
    · exact pair_low (g := g) (R := R) t b h
theorem pairB_low : ∀ {vs : List V} {bs : List B}, Paired (RepB K F as) vs bs → ∀ b ∈ bs, b.low as.length
  | _, _, .nil, _, h => by simp at h
  | _, _, .cons r t, b, h => by
    rcases List.mem_cons.mp h with e | h
    · rw [e]; exact repB_low r
    · exact pairB_low t b h
theorem pairP_low {κ : Type} : ∀ {vs : List (κ × V)} {bs : List (κ × B)}, Paired (RepP K F as) vs bs → ∀ p ∈ bs, p.2.low as.length
  | _, _, .nil, _, h => by simp at h
  | _, _, .cons r t, b, h => by
    rcases List.mem_cons.mp h with e | h
    · rw [e]; exact repB_low r.2
    · exact pairP_low t b h
theorem pairB_cut : ∀ {vs : List V} {bs : List B}, Paired (RepB K F (as ++ t)) vs bs → (∀ b ∈ bs, b.low as.length) → Paired (RepB K F as) vs bs
  | _, _, .nil, _ => .nil
  | _, _, .cons r q, h => .cons (repB_cut r (h _ List.mem_cons_self)) (pairB_cut q fun b hb => h b (List.mem_cons_of_mem _ hb))
theorem pairP_cut {κ : Type} : ∀ {vs : List (κ × V)} {bs : List (κ × B)}, Paired (RepP K F (as ++ t)) vs bs → (∀ p ∈ bs, p.2.low as.length) → Paired (RepP K F as) vs bs
  | _, _, .nil, _ => .nil
  | _, _, .cons r q, h => .cons ⟨r.1, repB_cut r.2 (h _ List.mem_cons_self)⟩ (pairP_cut q fun b hb => h b (List.mem_cons_of_mem _ hb))
theorem repC_low (r : RepC K mg F as H a c) : c.low as.length := by
  cases c with
  | lst bs => obtain ⟨_, _, p⟩ := r; exact pairB_low p
  | dK bs => obtain ⟨_, _, p⟩ := r; exact pairP_low p
  | dT bs => obtain ⟨_, _, p⟩ := r; exact pairP_low p
  | ins nm fs => obtain ⟨_, _, _, _, _, p⟩ := r; exact pairP_low p
  | dead => trivial
theorem repC_cut (r : RepC K mg F (as ++ t) H a c) (h : c.low as.length) : RepC K mg F as H a c := by
  cases c with
  | lst bs => obtain ⟨vs, e, p⟩ := r; exact ⟨vs, e, pairB_cut p h⟩
  | dK bs => obtain ⟨vs, e, p⟩ := r; exact ⟨vs, e, pairP_cut p h⟩
  | dT bs => obtain ⟨vs, e, p⟩ := r; exact ⟨vs, e, pairP_cut p h⟩
  | ins nm fs => obtain ⟨C, dx, vs, m, e, p⟩ := r; exact ⟨C, dx, vs, m, e, pairP_cut p h⟩
  | dead => trivial
/-- what a def's own cells held may go -/
def GcOk (cs cs' : Cs) : Prop := cs.length ≤ cs'.length ∧ ∀ k c', k < cs.length → cs'[k]? = some c' → cs[k]? = some c' ∨ c'.low cs.length
theorem Sim.gc (S0 : Sim K mg F as cs H) (S : Sim K mg F' (as ++ t) cs' H') (g : GcOk cs cs') : Sim K mg F' as (cs'.take cs.length) H' := by
  have hl := S.len
  have h0 := S0.len
  have hg := g.1
  have nd := S.nd
  rw [List.nodup_append] at nd
  have at_ : ∀ {k : Nat} {a : Addr} {c : Cell}, as[k]? = some a → (cs'.take cs.length)[k]? = some c → k < cs.length ∧ (as ++ t)[k]? = some a ∧ cs'[k]? = some c := fun {k a c} e1 e2 => by
    have hk : k < as.length := (List.getElem?_eq_some_iff.mp e1).1
    refine ⟨by omega, by rw [List.getElem?_append_left hk]; exact e1, ?_⟩
    rw [List.getElem?_take_of_lt (by omega)] at e2
    exact e2
  refine ⟨S.sub, by rw [List.length_take]; omega, nd.1, fun k a c e1 e2 e3 => ?_, fun k a c e1 e2 => ?_, fun a hm => S.has a (List.mem_append_left _ hm)⟩
  · obtain ⟨_, h1, h2⟩ := at_ e1 e2
    exact S.sep k a c h1 h2 e3
  · obtain ⟨hk, h1, h2⟩ := at_ e1 e2
    refine repC_cut (S.cell k a c h1 h2) ?_
    rcases g.2 k c hk h2 with q | q
    · have := repC_low (S0.cell k a c e1 q)
      exact this
    · rw [h0]; exact q
theorem Evo.gc (e : Evo F as H F' (as ++ t) H') : Evo F as H F' as H' := ⟨e.ex, ⟨[], by simp⟩, e.fr, e.newF, fun _ h => .inl h⟩
def retOf : SR → ER B
  | .nx _ cs => .ok (.d .none) cs
  | .rt b cs => .ok b cs
  | .ex x _ cs => .ex x cs
  | _ => .no
/-- a def whose own cells go at its end -/
noncomputable def gcR (cs : Cs) : ER B → ER B
  | .ok b cs' => if GcOk cs cs' ∧ b.low cs.length then .ok b (cs'.take cs.length) else .no
  | .ex x cs' => if GcOk cs cs' then .ex x (cs'.take cs.length) else .no
  | .no => .no
theorem gc_out (S0 : Sim K mg F as cs H) {r : ER B} {Q : VK} (h : Out K mg (relB K) E F as H (gcR cs r) Q) : Out K mg (relB K) E F as H r Q := by
  have h0 := S0.len
  cases r with
  | no => exact h
  | ok b cs' =>
    unfold gcR at h
    simp only at h
    split at h
    · rename_i hg
      intro F' as' H' v e' S' r'
      obtain ⟨t, rfl⟩ := e'.pre
      exact h F' as H' v e'.gc (S0.gc S' hg.1) (repB_cut r' (by rw [h0]; exact hg.2))
    · exact h.elim
  | ex x cs' =>
    unfold gcR at h
    simp only at h
    split at h
    · rename_i hg
      intro F' as' H' C e' S' m
      obtain ⟨t, rfl⟩ := e'.pre
      exact h F' as H' C e'.gc (S0.gc S' hg) m
    · exact h.elim
/-- .. whose answer is one of them -/
noncomputable def gcN (cs : Cs) : ER B → ER B
  | .ok (.r k) cs' => match cs'[k]? with
    | some c => if GcOk cs cs' ∧ cs.length ≤ k ∧ c.low cs.length ∧ c ≠ Cell.dead then .ok (.r cs.length) (cs'.take cs.length ++ [c]) else .no
    | none => .no
  | .ex x cs' => if GcOk cs cs' then .ex x (cs'.take cs.length) else .no
  | _ => .no
theorem gcN_out (S0 : Sim K mg F as cs H) {r : ER B} {Q : VK} (h : Out K mg (relB K) E F as H (gcN cs r) Q) : Out K mg (relB K) E F as H r Q := by
  have h0 := S0.len
  cases r with
  | no => exact h
  | ex x cs' =>
    unfold gcN at h
    simp only at h
    split at h
    · rename_i hg
      intro F' as' H' C e' S' m
      obtain ⟨t, rfl⟩ := e'.pre
      exact h F' as H' C e'.gc (S0.gc S' hg) m
    · exact h.elim
  | ok b cs' =>
    cases b with
    | d x => exact h.elim
    | m _ _ => exact h.elim
    | k x => exact h.elim
    | c w => exact h.elim
    | r k =>
      unfold gcN at h
      simp only at h
      split at h
      · rename_i c ec
        split at h
        · rename_i hg
          intro F' as' H' v e' S' r'
          obtain ⟨t, rfl⟩ := e'.pre
          obtain ⟨a, ea, rfl⟩ := r'
          have hk : as.length ≤ k := by rw [h0]; exact hg.2.1
          have hat : a ∈ t := by
            rw [List.getElem?_append_right hk] at ea
            exact List.mem_of_getElem? ea
          have nd := S'.nd
          rw [List.nodup_append] at nd
          have ha : a ∉ as := fun hm => nd.2.2 a hm a hat rfl
          have c1 := S'.cell k a c ea ec
          have hH0 : H a = none := by
            rcases e'.newA a (List.mem_append_right _ hat) with q | q
            · exact absurd q ha
            · exact q
          refine h F' (as ++ [a]) H' (.ref a) (e'.gc.add hH0) ((S0.gc S' hg.1).add (S'.has a (List.mem_append_right _ hat)) (S'.sep k a c ea ec hg.2.2.2) ha ?_) ⟨a, by rw [← h0]; simp, rfl⟩
          exact repC_mono (fun _ _ z => z) ⟨[a], rfl⟩ (fun _ z => z) (repC_cut c1 (by rw [h0]; exact hg.2.2.1))
        · exact h.elim
      · exact h.elim
end

/-! ### defs -/
def spM (K : PySem.W.Frag) (mg : Str → Option Value) (n : Nat) (g : List B → Cs → ER B) : Sp := fun vs H Q E => ∃ F as bs cs, bs.length = n ∧ Paired (RepB K F as) vs bs ∧ Sim K mg F as cs H ∧ Out K mg (relB K) E F as H (g bs cs) Q
abbrev Wc (E : XK) : WX := fun cls d _ H => E cls d H
/-- n names, the body, what goes at its end -/
def mDef (n : Nat) (body : FnS) (end_ : Cs → ER B → ER B) : List B → Cs → ER B := fun bs cs => end_ cs (retOf (body (bs.map some ++ List.replicate (n - bs.length) none) cs))
def keepR (_ : Cs) (r : ER B) : ER B := r
def EndOk (K : PySem.W.Frag) (mg : Str → Option Value) (end_ : Cs → ER B → ER B) : Prop := ∀ (E : XK) (F : Hp) (as : List Addr) (cs : Cs) (H : Hp) (r : ER B) (Q : VK), Sim K mg F as cs H → Out K mg (relB K) E F as H (end_ cs r) Q → Out K mg (relB K) E F as H r Q
section
variable {K : PySem.W.Frag} {mg : Str → Option Value}
theorem end_keep : EndOk K mg keepR := fun _ _ _ _ _ _ _ _ h => h
theorem end_gc : EndOk K mg gcR := fun _ _ _ _ _ _ _ S h => gc_out S h
theorem end_gcN : EndOk K mg gcN := fun _ _ _ _ _ _ _ S h => gcN_out S h
theorem pair_start {F : Hp} {as : List Addr} : ∀ {vs : List V} {bs : List B}, Paired (RepB K F as) vs bs → RepS K F as (vs.map some) (bs.map some)
  | _, _, .nil => .nil
  | _, _, .cons r t => .cons ⟨_, rfl, r⟩ (pair_start t)
theorem pair_none {F : Hp} {as : List Addr} : ∀ n : Nat, RepS K F as (List.replicate n none) (List.replicate n none)
  | 0 => .nil
  | n + 1 => .cons trivial (pair_none n)
theorem fn_ok {P : Program} {w : World} {base : Heap} {x qual : Str} {st : Stmt} {f : Addr} {fd : FuncData} {N ps : List Str} {k : Nat} {body : FnS} {end_ : Cs → ER B → ER B} (F : Fun K x qual st f fd) (S : FnScope N ps (defScope st)) (he : EndOk K mg end_)
    (hbody : ∀ (cdv : Value) (A : Around) (outer : List Env) (s : Shared) (H : Hp) (E : XK), Room k (A.deeper (envOfC qual (defScope st) s.heap.objs.size f cdv)) →
      SSs (cxOf (L2.CX P w) P w K mg base N qual (defScope st) f cdv A outer s H E) (Wc E) (defBody st) body) :
    FnOk P w K mg base (L2.CX P w) (k + 1) f fd ps (spM K mg ps.length (mDef N.length body end_)) := by
  refine F.okX S (fun vs H Q E ⟨_, _, bs, _, hn, hp, _⟩ => by rw [pair_len hp, hn]) fun cdv A outer s H vs Q E hr ⟨F0, as, bs, cs, hn, hp, hS, o⟩ => ?_
  refine ⟨_, hbody cdv A outer s H E hr, F0, as, bs.map some ++ List.replicate (N.length - bs.length) none, cs, ?_, hS, ?_⟩
  · show RepS K F0 as (L2.start N vs) (bs.map some ++ List.replicate (N.length - bs.length) none)
    unfold L2.start
    rw [pair_len hp]
    exact pair_app (pair_start hp) (pair_none _)
  · have o2 := he _ _ _ _ _ _ _ hS o
    generalize body (bs.map some ++ List.replicate (N.length - bs.length) none) cs = r at o2
    show OutS K mg (Wc E) F0 as H r _
    cases r with
    | nx sl c => exact fun F' as' H' σ' e' S' hs => o2 F' as' H' .non e' S' .non
    | rt b c => exact fun F' as' H' v e' S' r => o2 F' as' H' v e' S' r
    | bk sl c => exact o2.elim
    | ct sl c => exact o2.elim
    | ex x sl c => exact fun F' as' H' σ' C e' S' hs m => o2 F' as' H' C e' S' m
    | no => exact o2.elim
end

/-! ### calls -/
section
variable {X : Cx} {W : WX} {E : XK} {k n : Nat} {f C : Addr} {fd : FuncData} {ps : List Str} {x m fl : Str} {p pos apos pos' : Pos} {e o value : Expr} {es : List Expr} {fs : Fn (List B)} {fo fv : Fn B} {g : List B → Cs → ER B} {cls : Str}
/-- a def of n parameters -/
def eFn (n : Nat) (g : List B → Cs → ER B) (fs : Fn (List B)) : Fn B := fun sl cs => (fs sl cs).bind fun bs cs1 => if bs.length = n then g bs cs1 else .no
theorem se_call (tk : Takes X W) (F : FnOk X.prog X.w X.K X.mg X.base (L2.CX X.prog X.w) k f fd ps (spM X.K X.mg n g)) (hr : Room k X.A) (hm : X.mg x = some (.ref f)) (hk : PySem.W.keepIn X.K (.ref f) = true) (hb : Binds X.K fd ps []) (ha : SA X W (e :: es) fs)
    (hg : Gl X x := by rfl) (hdb : (x == ("__debug__" : Str)) = false := by decide) (he : starEach (e :: es) X.env = (false, eval e X.env) :: starEach es X.env := by rfl) (hpl : (backTo pos (starEach es X.env)).any (·.1) = false := by rfl) :
    SE X W (.Call (.Name x p) (e :: es) [] pos) (eFn n g fs) := pe_weak (pe_callS F hr hg hm hk hb (E := WE W) (fun σ => passAt tk σ) ha hdb he hpl) fun σ H Q ⟨F0, as, sl, cs, hs, S, h⟩ => by
  refine ⟨F0, as, sl, cs, hs, S, (Out.bind mono_B h).imp ?_⟩
  rintro v H1 ⟨F1, as1, bs, cs1, e1, S1, r1, o1⟩
  split at o1
  · rename_i hl
    exact ⟨F1, as1, bs, cs1, hl, r1, S1, o1⟩
  · exact o1.elim
theorem lookup_pair {F : Hp} {as : List Addr} {K : PySem.W.Frag} : ∀ {vs : List (Str × V)} {bs : List (Str × B)}, Paired (RepP K F as) vs bs → ∀ f : Str, (bs.lookup f = none → vs.lookup f = none) ∧ ∀ b, bs.lookup f = some b → ∃ v, vs.lookup f = some v ∧ RepB K F as v b
  | _, _, .nil, f => ⟨fun _ => rfl, fun b h => by cases h⟩
  | (k1, v1) :: vs, (k2, b2) :: bs, .cons r t, f => by
    have ek : k1 = k2 := r.1
    subst ek
    have ih := lookup_pair t f
    show (List.lookup f ((k1, b2) :: bs) = none → List.lookup f ((k1, v1) :: vs) = none) ∧ _
    rw [List.lookup_cons, List.lookup_cons]
    cases h : f == k1 with
    | true => exact ⟨fun z => (by cases z), fun b z => by cases z; exact ⟨v1, rfl, r.2⟩⟩
    | false => exact ih
/-- o.f of an instance of that class -/
def eFld (cls fl : Str) (fo : Fn B) : Fn B := fun sl cs => (fo sl cs).bind fun b cs1 => match b with
  | .r k => match cs1[k]? with
    | some (.ins nm fs) => if nm = cls then match fs.lookup fl with
      | some v => .ok v cs1
      | none => .no else .no
    | _ => .no
  | _ => .no
theorem se_fld (hm : X.mg cls = some (.ref C)) (hc : Cls X.K C) (hn : NoAttr X.K C fl) (ho : SE X W o fo) (hb : attributeBase o fl X.env (eval o X.env) = eval o X.env := by rfl) : SE X W (.Attribute o fl pos) (eFld cls fl fo) := pe_weak (pe_fld ho hb) fun σ H Q ⟨F0, as, sl, cs, hs, S, h⟩ => by
  refine ⟨F0, as, sl, cs, hs, S, (Out.bind mono_B h).imp ?_⟩
  rintro v H1 ⟨F1, as1, b, cs1, e1, S1, r1, o1⟩
  split at o1
  · rename_i k
    obtain ⟨a, ea, rfl⟩ := r1
    split at o1
    · rename_i nm fs ek
      split at o1
      · rename_i hnm
        subst hnm
        obtain ⟨C', dx, vs, hm', hH, hp⟩ := S1.cell _ _ _ ea ek
        rw [hm] at hm'; cases hm'
        split at o1
        · rename_i b' eb
          obtain ⟨v, ev, rv⟩ := (lookup_pair hp fl).2 b' eb
          exact ⟨a, C, dx, vs, v, rfl, hH, hc, hn, ev, Out.give o1 S1 rv⟩
        · exact o1.elim
      · exact o1.elim
    · exact o1.elim
  · exact o1.elim
def putFB (f : Str) (v : B) : List (Str × B) → List (Str × B)
  | [] => [(f, v)]
  | (g, x) :: r => if g = f then (g, v) :: r else (g, x) :: putFB f v r
theorem pair_putF {K : PySem.W.Frag} {F : Hp} {as : List Addr} {y : V} {b : B} (r : RepB K F as y b) : ∀ {vs : List (Str × V)} {bs : List (Str × B)}, Paired (RepP K F as) vs bs → Paired (RepP K F as) (putF fl y vs) (putFB fl b bs)
  | _, _, .nil => .cons ⟨rfl, r⟩ .nil
  | (k1, v1) :: vs, (k2, b2) :: bs, .cons q t => by
    have ek : k1 = k2 := q.1
    subst ek
    unfold putF putFB
    by_cases h : k1 = fl
    · rw [if_pos h, if_pos h]; exact .cons ⟨rfl, r⟩ t
    · rw [if_neg h, if_neg h]; exact .cons q (pair_putF r t)
/-- o.f = value -/
def sFldSet (cls fl : Str) (fo fv : Fn B) : FnS := fun sl cs => sE (fv sl cs) sl fun v cs1 => sE (fo sl cs1) sl fun b cs2 => match b with
  | .r k => match cs2[k]? with
    | some (.ins nm fs) => if nm = cls ∧ fs.length < 1000 then .nx sl (cs2.set k (.ins nm (putFB fl v fs))) else .no
    | _ => .no
  | _ => .no
theorem ss_fld (hm : X.mg cls = some (.ref C)) (hc : Cls X.K C) (hn : NoAttr X.K C fl) (ho : SE X W o fo) (hv : SE X W value fv) (hs : swapsWith value (some (.Attribute o fl pos')) pos.line X.env = pure false := by rfl) : SS X W (.Assign [.Attribute o fl pos'] value pos) (sFldSet cls fl fo fv) :=
  ps_weak (ps_fld ho hv hs) fun D σ H ⟨F, as, sl, cs, hs, S, h⟩ => by
    refine ⟨F, as, sl, cs, hs, S, (OutS.bind hs h).imp ?_⟩
    rintro y H1 ⟨F1, as1, bv, cs1, e1, hs1, S1, r1, o1⟩
    refine ⟨F1, as1, sl, cs1, hs1, S1, (OutS.bind hs1 o1).imp ?_⟩
    rintro x H2 ⟨F2, as2, b, cs2, e2, hs2, S2, r2, o2⟩
    split at o2
    · rename_i k
      obtain ⟨a, ea, rfl⟩ := r2
      split at o2
      · rename_i nm fs ek
        split at o2
        · rename_i hc2
          obtain ⟨rfl, hl⟩ := hc2
          obtain ⟨C', dx, vs, hm', hH, hp⟩ := S2.cell _ _ _ ea ek
          rw [hm] at hm'; cases hm'
          refine ⟨a, C, dx, vs, rfl, hH, hc, hn, by rw [pair_len hp]; exact hl, ?_⟩
          exact OutS.nxt (OutS.step (Evo.write ea) o2) (S2.write ea ek (by intro z; cases z) ⟨C, dx, _, hm, upd_same, pair_putF (e2.repB r1) hp⟩) hs2
        · exact o2.elim
      · exact o2.elim
    · exact o2.elim
/-- o.m(..) -/
def eMeth (cls m : Str) (n : Nat) (g : List B → Cs → ER B) (fo : Fn B) (fs : Fn (List B)) : Fn B := fun sl cs => (fo sl cs).bind fun b cs1 => match b with
  | .r k => match cs1[k]? with
    | some (.ins nm fl) => if nm = cls ∧ fl.lookup m = none then (fs sl cs1).bind fun bs cs2 => if bs.length + 1 = n then g (.r k :: bs) cs2 else .no else .no
    | _ => .no
  | _ => .no
theorem meth_of (hm : X.mg cls = some (.ref C)) {dvs : List V} (hd : dvs = []) {σ : L2.St} {H : Hp} {Q : VK} (h : tG X.K X.mg (Wc E) (relB X.K) (eMeth cls m n g fo fs) σ H Q) :
    tMeth C m (spM X.K X.mg n g) dvs E (tG X.K X.mg (Wc E) (relB X.K) fo) (tG X.K X.mg (Wc E) (relA X.K) fs) σ H Q := by
  subst hd
  obtain ⟨F, as, sl, cs, hs, S, h⟩ := h
  refine ⟨F, as, sl, cs, hs, S, (Out.bind mono_B h).imp ?_⟩
  rintro v H1 ⟨F1, as1, b, cs1, e1, S1, r1, o1⟩
  split at o1
  · rename_i k
    obtain ⟨a, ea, rfl⟩ := r1
    split at o1
    · rename_i nm fl ek
      split at o1
      · rename_i hc
        obtain ⟨rfl, hl⟩ := hc
        obtain ⟨C', dx, vs, hm', hH, hp⟩ := S1.cell _ _ _ ea ek
        rw [hm] at hm'; cases hm'
        refine ⟨a, dx, vs, rfl, hH, (lookup_pair hp m).1 hl, F1, as1, sl, cs1, e1.repS hs, S1, (Out.bind mono_B o1).imp ?_⟩
        rintro ws H2 ⟨F2, as2, bs, cs2, e2, S2, r2, o2⟩
        split at o2
        · rename_i hn
          rw [List.append_nil]
          exact ⟨F2, as2, .r k :: bs, cs2, by simp [hn], .cons (e2.repB (b := .r k) ⟨a, ea, rfl⟩) r2, S2, o2⟩
        · exact o2.elim
      · exact o1.elim
    · exact o1.elim
  · exact o1.elim
theorem se_meth {pl : Sem Bool} (hx : Passes (L2.CX X.prog X.w) X E) (hm : X.mg cls = some (.ref C)) (c : Cls X.K C) (hme : Meth X.K C m f) (F : FnOk X.prog X.w X.K X.mg X.base (L2.CX X.prog X.w) k f fd ps (spM X.K X.mg n g)) (hr : Room k X.A) (hb : Binds X.K fd ps []) (ho : SE X (Wc E) o fo) (ha : SA X (Wc E) (e :: es) fs)
    (hst : starEach (e :: es) X.env = (false, eval e X.env) :: starEach es X.env := by rfl) (hpl : (backTo pos (starEach es X.env)).any (·.1) = false := by rfl)
    (ht : eval (.Call (.Attribute o m apos) (e :: es) [] pos) X.env = (do
      let ov ← eval o X.env
      standAt apos.atName
      let (f, first) ← holding [ov] (getMethod ov m pl)
      callWith pos f first (backTo pos (starEach (e :: es) X.env)) (backToKw pos (keywordEach [] X.env))) := by rfl) : SE X (Wc E) (.Call (.Attribute o m apos) (e :: es) [] pos) (eMeth cls m n g fo fs) :=
  pe_weak (pe_meth ho c hme F hr hb .nil hx ha hst hpl ht) fun σ H Q h => meth_of hm rfl h
theorem se_meth0 {pl : Sem Bool} (hx : Passes (L2.CX X.prog X.w) X E) (hm : X.mg cls = some (.ref C)) (c : Cls X.K C) (hme : Meth X.K C m f) (F : FnOk X.prog X.w X.K X.mg X.base (L2.CX X.prog X.w) k f fd ps (spM X.K X.mg n g)) (hr : Room k X.A) (hb : Binds X.K fd ps []) (ho : SE X (Wc E) o fo)
    (ht : eval (.Call (.Attribute o m apos) [] [] pos) X.env = (do
      let ov ← eval o X.env
      standAt apos.atName
      let (f, first) ← holding [ov] (getMethod ov m pl)
      callWith pos f first (backTo pos (starEach [] X.env)) (backToKw pos (keywordEach [] X.env))) := by rfl) : SE X (Wc E) (.Call (.Attribute o m apos) [] [] pos) (eMeth cls m n g fo aNil) :=
  pe_weak (pe_meth0 ho c hme F hr hb .nil hx ht) fun σ H Q h => by
    obtain ⟨F0, as, sl, cs, hs, S, h⟩ := h
    refine ⟨F0, as, sl, cs, hs, S, (Out.bind mono_B h).imp ?_⟩
    rintro v H1 ⟨F1, as1, b, cs1, e1, S1, r1, o1⟩
    split at o1
    · rename_i k
      obtain ⟨a, ea, rfl⟩ := r1
      split at o1
      · rename_i nm fl ek
        split at o1
        · rename_i hc
          obtain ⟨rfl, hl⟩ := hc
          obtain ⟨C', dx, vs, hm', hH, hp⟩ := S1.cell _ _ _ ea ek
          rw [hm] at hm'; cases hm'
          have o2 : Out X.K X.mg (relB X.K) (WE (Wc E) σ) F1 as1 H1 (if ([] : List B).length + 1 = n then g [.r k] cs1 else .no) Q := o1
          refine ⟨a, dx, vs, rfl, hH, (lookup_pair hp m).1 hl, ?_⟩
          split at o2
          · rename_i hn
            exact ⟨F1, as1, [.r k], cs1, hn, .cons ⟨a, ea, rfl⟩ .nil, S1, o2⟩
          · exact o2.elim
        · exact o1.elim
      · exact o1.elim
    · exact o1.elim
/-- C(..) -/
def eMake (cls : Str) (n : Nat) (g : List B → Cs → ER B) (fs : Fn (List B)) : Fn B := fun sl cs => (fs sl cs).bind fun bs cs1 => if bs.length + 1 = n then (g (.r cs1.length :: bs) (cs1 ++ [.ins cls []])).bind fun b cs2 => match b with
  | .d .none => .ok (.r cs1.length) cs2
  | _ => .no else .no
theorem make_of {F : Hp} {as : List Addr} {bs : List B} {cs : Cs} {H : Hp} {vs : List V} {Q : VK} (hm : X.mg cls = some (.ref C)) (S : Sim X.K X.mg F as cs H) (r : Paired (RepB X.K F as) vs bs)
    (o : Out X.K X.mg (relB X.K) E F as H (if bs.length + 1 = n then (g (.r cs.length :: bs) (cs ++ [.ins cls []])).bind fun b cs2 => match b with
      | .d .none => .ok (.r cs.length) cs2
      | _ => .no else .no) Q) : ∀ x dx, H x = none → H dx = none → dx ≠ x → spM X.K X.mg n g (.ref x :: vs) (upd (upd H dx (.own x)) x (.ins C dx [])) (fun v H2 => v = .non ∧ Q (.ref x) H2) E := by
  intro x dx nx nd ne
  split at o
  · rename_i hn
    have hH : ∀ a u, H a = some u → upd (upd H dx (.own x)) x (.ins C dx []) a = some u := fun a u e => by
      rw [upd_ne (ne_of_none e nx), upd_ne (ne_of_none e nd)]; exact e
    have S1 := S.grow hH
    have hx : upd (upd H dx (.own x)) x (.ins C dx []) x = some (.ins C dx []) := upd_same
    have S2 : Sim X.K X.mg F (as ++ [x]) (cs ++ [.ins cls []]) (upd (upd H dx (.own x)) x (.ins C dx [])) := S1.add (by rw [hx]; simp) (S.fnone nx) (S.out nx) ⟨C, dx, [], hm, hx, .nil⟩
    have e0 : Evo F as H F as (upd (upd H dx (.own x)) x (.ins C dx [])) := ⟨fun _ _ h => h, ⟨[], by simp⟩, fun a u h _ => hH a u h, fun _ h => .inl h, fun _ h => .inl h⟩
    have e1 : Evo F as H F (as ++ [x]) (upd (upd H dx (.own x)) x (.ins C dx [])) := e0.add nx
    refine ⟨F, as ++ [x], .r cs.length :: bs, cs ++ [.ins cls []], by simp [hn], .cons ⟨x, by rw [← S.len]; simp, rfl⟩ (e1.repBs r), S2, (Out.bind mono_B (Out.step mono_B e1 o)).imp ?_⟩
    rintro v H2 ⟨F2, as2, b, cs2, e2, S3, r2, o2⟩
    split at o2
    · cases r2
      refine ⟨rfl, Out.give o2 S3 ⟨x, get_pre e2.pre (by rw [← S.len]; simp), rfl⟩⟩
    · exact o2.elim
  · exact o.elim
theorem se_make (hx : Passes (L2.CX X.prog X.w) X E) (M : Mk X.K C f) (F : FnOk X.prog X.w X.K X.mg X.base (L2.CX X.prog X.w) k f fd ps (spM X.K X.mg n g)) (hr : Room (k + 1) X.A) (hm : X.mg cls = some (.ref C)) (hb : Binds X.K fd ps []) (ha : SA X (Wc E) (e :: es) fs) (hg : Gl X cls := by rfl)
    (hdb : (cls == ("__debug__" : Str)) = false := by decide) (he : starEach (e :: es) X.env = (false, eval e X.env) :: starEach es X.env := by rfl) (hpl : (backTo pos (starEach es X.env)).any (·.1) = false := by rfl) : SE X (Wc E) (.Call (.Name cls p) (e :: es) [] pos) (eMake cls n g fs) :=
  pe_weak (pe_make M F hr hg hm hb .nil hx ha hdb he hpl) fun σ H Q ⟨F0, as, sl, cs, hs, S, h⟩ => by
    refine ⟨F0, as, sl, cs, hs, S, (Out.bind mono_B h).imp ?_⟩
    rintro v H1 ⟨F1, as1, bs, cs1, e1, S1, r1, o1⟩
    intro x dx nx nd ne
    have z := make_of hm S1 r1 o1 x dx nx nd ne
    rw [List.append_nil]
    exact z
/-- C(*y) -/
theorem se_makeS {sp_ : Pos} (hx : Passes (L2.CX X.prog X.w) X E) (M : Mk X.K C f) (F : FnOk X.prog X.w X.K X.mg X.base (L2.CX X.prog X.w) k f fd ps (spM X.K X.mg n g)) (hr : Room (k + 1) X.A) (hm : X.mg cls = some (.ref C)) (hb : Binds X.K fd ps []) (he : SE X (Wc E) e fo) (hg : Gl X cls := by rfl)
    (hdb : (cls == ("__debug__" : Str)) = false := by decide) (hst : starEach [.Starred e sp_] X.env = [(true, eval e X.env)] := by rfl) : SE X (Wc E) (.Call (.Name cls p) [.Starred e sp_] [] pos) (eMake cls n g (aStar fo aNil)) := by
  refine ⟨fun pins s σ H Q I h => ?_⟩
  obtain ⟨F0, as, sl, cs, hs, S, h⟩ := h
  have h2 : tG X.K X.mg (Wc E) (relB X.K) fo σ H (fun y H1 => ∃ a xs, y = V.ref a ∧ (SqT X.K H1 a xs ∨ SqL X.K H1 a xs) ∧ ∀ x dx, H1 x = none → H1 dx = none → dx ≠ x →
      spM X.K X.mg n g (.ref x :: xs) (upd (upd H1 dx (.own x)) x (.ins C dx [])) (fun v H2 => v = .non ∧ Q (.ref x) H2) E) := by
    have h' : Out X.K X.mg (relB X.K) (WE (Wc E) σ) F0 as H ((fo sl cs).bind fun b cs1 => match bSeq cs1 b with
        | some xs => if xs.length + 1 = n then (g (.r cs1.length :: xs) (cs1 ++ [.ins cls []])).bind fun b cs2 => match b with
          | .d .none => .ok (.r cs1.length) cs2
          | _ => .no else .no
        | none => .no) Q := by
      have z : eMake cls n g (aStar fo aNil) sl cs = _ := rfl
      unfold eMake aStar aNil at z
      rw [show eMake cls n g (aStar fo aNil) sl cs = ((fo sl cs).bind fun b cs1 => match bSeq cs1 b with
        | some xs => if xs.length + 1 = n then (g (.r cs1.length :: xs) (cs1 ++ [.ins cls []])).bind fun b cs2 => match b with
          | .d .none => .ok (.r cs1.length) cs2
          | _ => .no else .no
        | none => .no) by
          unfold eMake aStar aNil
          cases fo sl cs with
          | ok b c =>
            simp only [ER.bind_ok]
            cases bSeq c b with
            | some xs => simp
            | none => rfl
          | ex x c => rfl
          | no => rfl] at h
      exact h
    refine ⟨F0, as, sl, cs, hs, S, (Out.bind mono_B h').imp ?_⟩
    rintro v H1 ⟨F1, as1, b, cs1, e1, S1, r1, o1⟩
    split at o1
    · rename_i xs ex
      obtain ⟨q, vs, rfl, hq, hp⟩ := seq_of S1 r1 ex
      exact ⟨q, vs, rfl, hq.elim .inr .inl, make_of hm S1 hp o1⟩
    · exact o1.elim
  refine wpAny_Call_Name_kw (ld_glob I hg hm ?_ hdb)
  refine PySem.W.callWith_S (h₀ := X.base) I.ok.mod.kin M.kp (thn (he.run pins s σ H _ I h2) fun v s1 ⟨y, H1, I1, ry, a, xs, ey, hxs, q⟩ => ?_) hst
  subst ey
  obtain rfl : v = Value.ref a := ry
  exact StX.star_any I1 hxs fun us s2 I2 rv => ⟨I2.kIn, run_make M F hr hb .nil hx I2 rv (by rw [List.append_nil]; exact q)⟩
end
end VM

set_option maxHeartbeats 2000000
/-! VMt: a tuple times an int of any size that fits. -/
namespace VM
open PySem PySem.Spec PyProof.Rows L2
open AutoSeq1 (wpAny_loadPart')
theorem tup_mul_self (l : Addr) (items : Array Value) (n : Nat) (dd : Option Addr) (sl : Array (Option Value)) (x : Int) (u : Tok) (c0 : (decide (x < -(2 ^ 63)) || decide (x ≥ 2 ^ 63)) = false) (c1 : (items.isEmpty || x == 1) = true) :
    Meets (Builtin.«tuple.__mul__» ⟨[.ref l, .int x u], []⟩) (fun _ R s => s.heap.get? l = some { cls := .type "tuple", dict := dd, data := .seq items n, slots := sl } ∧
      R (.ok (.ret (Value.ref l))) s) :=
  .of_wp fun prog w A R s h => by
    obtain ⟨hp, g, d, tk, os⟩ := s
    obtain ⟨hl, h⟩ := h
    have f1 := AutoSeq1.idx_int
    wp_walk using wpAny_loadPart' hl
    repeat (first
      | (refine wpAny_ite_false (decide_eq_false (by rw [c0]; exact Bool.false_ne_true)) ?_; wp_walk using wpAny_loadPart' hl)
      | (refine wpAny_ite_true (decide_eq_true c1) ?_; wp_walk using wpAny_loadPart' hl))
    exact ⟨_, rfl, h⟩
theorem tup_mul_zero (l : Addr) (items : Array Value) (n : Nat) (dd : Option Addr) (sl : Array (Option Value)) (x : Int) (u : Tok) (c0 : (decide (x < -(2 ^ 63)) || decide (x ≥ 2 ^ 63)) = false) (c1 : (items.isEmpty || x == 1) = false) (c2 : (decide (x ≤ 0) || items.isEmpty) = true) :
    Meets (Builtin.«tuple.__mul__» ⟨[.ref l, .int x u], []⟩) (fun _ R s => s.heap.get? l = some { cls := .type "tuple", dict := dd, data := .seq items n, slots := sl } ∧
      R (.ok (.ret (Value.ref s.heap.objs.size))) { s with heap := s.heap.push { cls := Value.type "tuple", data := Data.seq #[] }, toks := s.toks }) :=
  .of_wp fun prog w A R s h => by
    obtain ⟨hp, g, d, tk, os⟩ := s
    obtain ⟨hl, h⟩ := h
    have f1 := AutoSeq1.idx_int
    wp_walk using wpAny_loadPart' hl
    repeat (first
      | (refine wpAny_ite_false (decide_eq_false (by rw [c0]; exact Bool.false_ne_true)) ?_; wp_walk using wpAny_loadPart' hl)
      | (refine wpAny_ite_false (decide_eq_false (by rw [c1]; exact Bool.false_ne_true)) ?_; wp_walk using wpAny_loadPart' hl)
      | (refine wpAny_ite_true (decide_eq_true c2) ?_; wp_walk using wpAny_loadPart' hl))
    exact ⟨_, rfl, h⟩
def rRepA (K : PySem.W.Frag) : R2 := fun x y H Q => ∃ l k xs, x = .ref l ∧ y = .int k ∧ SqT K H l xs ∧ -1000 ≤ k ∧ k ≤ 1000 ∧ xs.length ≤ 1000 ∧ ((xs = [] ∨ k = 1) → Q (.ref l) H) ∧ (¬ (xs = [] ∨ k = 1) → ∀ p, H p = none → Q (.ref p) (upd H p (.tup (List.replicate k.toNat xs).flatten)))
theorem op_repA {X : Cx} : OpR X (binaryOp .Mult) (rRepA X.K) := by
  intro pins s σ H x y v u Q I rx ry h
  obtain ⟨l, k, xs, rfl, rfl, hT, h1, h2, hz, q1, q2⟩ := h
  by_cases hbig : xs ≠ [] ∧ 2 ≤ k
  · exact op_repT pins s σ H _ _ v u Q I rx ry ⟨l, k, xs, rfl, rfl, hT, hbig.1, hbig.2, h2, hz, q2 (fun z => z.elim hbig.1 (by omega))⟩
  · cases rx
    obtain ⟨t, rfl⟩ := ry
    obtain ⟨its, r, ⟨⟨cls, dd, data, sl⟩, ho, hc, n, hd⟩, hs⟩ := I.tuple hT
    simp only at hc hd
    subst hc hd
    have hle : its.length = xs.length := r.length.symm
    have c0 : (decide (k < -(2 ^ 63)) || decide (k ≥ 2 ^ 63)) = false := by
      rw [decide_eq_false (by omega), decide_eq_false (by omega)] <;> rfl
    have road : ∀ {Q' : Value → Shared → Prop}, wpAny (model X.prog X.w) X.A (call (.builtin "tuple.__mul__") [.ref l, .int k t]) Q' X.xe s → wpAny (model X.prog X.w) X.A (binaryOp .Mult (.ref l) (.int k t)) Q' X.xe s := fun q =>
      wpAny_binaryOp_repeat_ref (T := "tuple") (U := "int") (by decide) ⟨_, ho, rfl⟩ (fun s' => typeIs_int s' k t) noFill_tuple_mul F.fills_int_mul F.slot_int_rmul repeat_tuple F.slot_int_index.lookup
        (call_meets F.slot_int_rmul (typeIs_int s k t) F.entry_int_rmul (F.args_int_rmul_2 _ _) (int_rmul_tuple k t l its.toArray n dd sl) ⟨ho, rfl, ⟨_, ho, rfl⟩, q⟩)
    have eemp : its.toArray.isEmpty = true ↔ xs = [] := by
      cases its with
      | nil => cases xs with
        | nil => simp
        | cons a b => simp at hle
      | cons a b => cases xs with
        | nil => simp at hle
        | cons c d => simp
    by_cases hself : xs = [] ∨ k = 1
    · have c1 : (its.toArray.isEmpty || k == 1) = true := by
        rcases hself with z | z
        · rw [eemp.mpr z]; rfl
        · rw [z]; simp
      refine road (call_meets F.slot_tuple_mul ⟨_, ho, rfl⟩ F.entry_tuple_mul (F.args_tuple_mul_2 _ _) (tup_mul_self l its.toArray n dd sl k t c0 c1) ⟨ho, ?_⟩)
      exact ⟨.ref l, H, I, rfl, q1 hself⟩
    · have hne : ¬ xs = [] := fun z => hself (.inl z)
      have hk1 : k ≠ 1 := fun z => hself (.inr z)
      have hk0 : k ≤ 0 := by
        by_cases z : 2 ≤ k
        · exact absurd ⟨hne, z⟩ hbig
        · omega
      have ef : its.toArray.isEmpty = false := by
        cases e : its.toArray.isEmpty with
        | false => rfl
        | true => exact absurd (eemp.mp e) hne
      have c1 : (its.toArray.isEmpty || k == 1) = false := by
        rw [ef, Bool.false_or]
        exact beq_eq_false_iff_ne.mpr hk1
      have c2 : (decide (k ≤ 0) || its.toArray.isEmpty) = true := by rw [decide_eq_true hk0]; rfl
      refine road (call_meets F.slot_tuple_mul ⟨_, ho, rfl⟩ F.entry_tuple_mul (F.args_tuple_mul_2 _ _) (tup_mul_zero l its.toArray n dd sl k t c0 c1 c2) ⟨ho, ?_⟩)
      have e0 : k.toNat = 0 := by omega
      have hq := q2 hself
      rw [e0] at hq
      refine ⟨.ref s.heap.objs.size, _, I.laid (t' := s.toks) (o := .tup []) (fun b ob q => Heap.get?_push_of_some _ q) (Nat.le_refl _) ?_, rfl, hq _ (I.hok.fresh (Nat.le_refl _))⟩
      exact ⟨Nat.zero_le _, [], .nil, IsTup.new _ _⟩
end VM

/-! VM7: methods of lists and dicts, items stored, rows joined, cut. -/
namespace VM
open PySem PySem.Spec PyProof.Rows L2
open Classical

/-- a method of the cell k that stands there: its arguments -/
def MtG (K : PySem.W.Frag) (mg : Str → Option Value) (r : V → List V → Hp → VK → Prop) (g : Nat → List B → Cs → ER B) : Prop := ∀ {E : XK} {F : Hp} {as : List Addr} {cs : Cs} {H : Hp} {a : Addr} {k : Nat} {vs : List V} {bs : List B} {Q : VK},
  Sim K mg F as cs H → as[k]? = some a → Paired (RepB K F as) vs bs → Out K mg (relB K) E F as H (g k bs cs) Q → r (.ref a) vs H Q
def isLst : Option Cell → Bool
  | some (.lst _) => true
  | _ => false
def isDct : Option Cell → Bool
  | some (.dK _) => true
  | some (.dT _) => true
  | _ => false
def eBM (is : Option Cell → Bool) (g : Nat → List B → Cs → ER B) (fo : Fn B) (fs : Fn (List B)) : Fn B := fun sl cs => (fo sl cs).bind fun b cs1 => match b with
  | .r k => if is cs1[k]? = true then (fs sl cs1).bind fun bs cs2 => g k bs cs2 else .no
  | _ => .no
section
variable {X : Cx} {W : WX} {E : XK} {e o i value : Expr} {es : List Expr} {fo fi fv f1 f2 : Fn B} {fs : Fn (List B)} {name : Str} {apos cpos pos pos' : Pos} {T id : String} {r : V → List V → Hp → VK → Prop} {g : Nat → List B → Cs → ER B}
theorem bm_of {K : PySem.W.Frag} {mg : Str → Option Value} {is : Option Cell → Bool} (hg : MtG K mg r g) (hT : ∀ (F : Hp) (as : List Addr) (cs : Cs) (H : Hp) (k : Nat) (a : Addr), Sim K mg F as cs H → as[k]? = some a → is cs[k]? = true → tyV K T (.ref a) H)
    {σ : L2.St} {H : Hp} {Q : VK} (h : tG K mg W (relB K) (eBM is g fo fs) σ H Q) : tBM K T r (tG K mg W (relB K) fo) (tG K mg W (relA K) fs) σ H Q := by
  obtain ⟨F, as, sl, cs, hs, S, h⟩ := h
  refine ⟨F, as, sl, cs, hs, S, (Out.bind mono_B h).imp ?_⟩
  rintro v H1 ⟨F1, as1, b, cs1, e1, S1, r1, o1⟩
  split at o1
  · rename_i k
    obtain ⟨a, ea, rfl⟩ := r1
    split at o1
    · rename_i hi
      refine ⟨hT F1 as1 cs1 H1 k a S1 ea hi, F1, as1, sl, cs1, e1.repS hs, S1, (Out.bind mono_B o1).imp ?_⟩
      rintro ws H2 ⟨F2, as2, bs, cs2, e2, S2, r2, o2⟩
      exact hg S2 (get_pre e2.pre ea) r2 o2
    · exact o1.elim
  · exact o1.elim
theorem bm0_of {K : PySem.W.Frag} {mg : Str → Option Value} {is : Option Cell → Bool} (hg : MtG K mg r g) (hT : ∀ (F : Hp) (as : List Addr) (cs : Cs) (H : Hp) (k : Nat) (a : Addr), Sim K mg F as cs H → as[k]? = some a → is cs[k]? = true → tyV K T (.ref a) H)
    {σ : L2.St} {H : Hp} {Q : VK} (h : tG K mg W (relB K) (eBM is g fo aNil) σ H Q) : tBM0 K T r (tG K mg W (relB K) fo) σ H Q := by
  obtain ⟨F, as, sl, cs, hs, S, h⟩ := h
  refine ⟨F, as, sl, cs, hs, S, (Out.bind mono_B h).imp ?_⟩
  rintro v H1 ⟨F1, as1, b, cs1, e1, S1, r1, o1⟩
  split at o1
  · rename_i k
    obtain ⟨a, ea, rfl⟩ := r1
    split at o1
    · rename_i hi
      exact ⟨hT F1 as1 cs1 H1 k a S1 ea hi, hg S1 ea .nil o1⟩
    · exact o1.elim
  · exact o1.elim
theorem ty_list {K : PySem.W.Frag} {mg : Str → Option Value} (F : Hp) (as : List Addr) (cs : Cs) (H : Hp) (k : Nat) (a : Addr) (S : Sim K mg F as cs H) (ea : as[k]? = some a) (h : isLst cs[k]? = true) : tyV K "list" (.ref a) H := by
  unfold isLst at h
  split at h
  · rename_i xs e
    obtain ⟨vs, hv, _⟩ := S.cell _ _ _ ea e
    exact Or.inl ⟨rfl, vs, SqL.of hv⟩
  · cases h
theorem ty_dict {K : PySem.W.Frag} {mg : Str → Option Value} (F : Hp) (as : List Addr) (cs : Cs) (H : Hp) (k : Nat) (a : Addr) (S : Sim K mg F as cs H) (ea : as[k]? = some a) (h : isDct cs[k]? = true) : tyV K "dict" (.ref a) H := by
  unfold isDct at h
  split at h
  · rename_i xs e
    obtain ⟨vs, hv, _⟩ := S.cell _ _ _ ea e
    exact Or.inr (Or.inr (Or.inl ⟨rfl, .inl ⟨vs, hv⟩⟩))
  · rename_i xs e
    obtain ⟨vs, hv, _⟩ := S.cell _ _ _ ea e
    exact Or.inr (Or.inr (Or.inl ⟨rfl, .inr ⟨vs, hv⟩⟩))
  · cases h
end
section
variable {K : PySem.W.Frag} {mg : Str → Option Value}
def gAppend (k : Nat) (bs : List B) (cs : Cs) : ER B := match bs, cs[k]? with
  | [y], some (.lst xs) => if xs.length < sizeLine then .ok (.d .none) (cs.set k (.lst (xs ++ [y]))) else .no
  | _, _ => .no
theorem mg_append : MtG K mg rAppend gAppend := fun {E F as cs H a k vs bs Q} S ea r o => by
  unfold gAppend at o
  split at o
  · rename_i y xs ek
    obtain ⟨v, rfl, rv⟩ := pair1 r
    obtain ⟨ws, hv, hp⟩ := S.cell _ _ _ ea ek
    split at o
    · rename_i hl
      refine ⟨a, ws, v, rfl, rfl, hv, by rw [pair_len hp]; exact hl, ?_⟩
      exact Out.give2 o (Evo.write ea) (S.write ea ek (by intro z; cases z) ⟨_, upd_same, pair_app hp (.cons rv .nil)⟩) .non
    · exact o.elim
  · exact o.elim
def gPop (k : Nat) (bs : List B) (cs : Cs) : ER B := match bs, cs[k]? with
  | [], some (.lst xs) => match xs[xs.length - 1]? with
    | some y => .ok y (cs.set k (.lst xs.dropLast))
    | none => .no
  | _, _ => .no
theorem pair_dropLast {α β : Type} {R : α → β → Prop} {xs : List α} {ys : List β} (h : Paired R xs ys) : Paired R xs.dropLast ys.dropLast := by
  rw [List.dropLast_eq_take, List.dropLast_eq_take, pair_len h]
  exact pair_take _ h
theorem mg_pop : MtG K mg rPop gPop := fun {E F as cs H a k vs bs Q} S ea r o => by
  unfold gPop at o
  split at o
  · rename_i xs ek
    cases r
    obtain ⟨ws, hv, hp⟩ := S.cell _ _ _ ea ek
    split at o
    · rename_i y ey
      obtain ⟨z, ez, rz⟩ := pair_get hp ey
      refine ⟨a, ws, z, rfl, rfl, hv, by rw [pair_len hp]; exact ez, ?_⟩
      exact Out.give2 o (Evo.write ea) (S.write ea ek (by intro z; cases z) ⟨_, upd_same, pair_dropLast hp⟩) rz
    · exact o.elim
  · exact o.elim
def gReverse (k : Nat) (bs : List B) (cs : Cs) : ER B := match bs, cs[k]? with
  | [], some (.lst xs) => .ok (.d .none) (cs.set k (.lst xs.reverse))
  | _, _ => .no
theorem mg_reverse : MtG K mg rReverse gReverse := fun {E F as cs H a k vs bs Q} S ea r o => by
  unfold gReverse at o
  split at o
  · rename_i xs ek
    cases r
    obtain ⟨ws, hv, hp⟩ := S.cell _ _ _ ea ek
    exact ⟨a, ws, rfl, rfl, hv, Out.give2 o (Evo.write ea) (S.write ea ek (by intro z; cases z) ⟨_, upd_same, pair_rev hp⟩) .non⟩
  · exact o.elim
/-- xs.extend(ys), ys another cell -/
def gExtend (k : Nat) (bs : List B) (cs : Cs) : ER B := match bs with
  | [.r j] => match cs[k]?, cs[j]? with
    | some (.lst xs), some (.lst ys) => if xs.length + ys.length ≤ sizeLine then .ok (.d .none) (cs.set k (.lst (xs ++ ys))) else .no
    | _, _ => .no
  | _ => .no
theorem mg_extend : MtG K mg rExtend gExtend := fun {E F as cs H a k vs bs Q} S ea r o => by
  unfold gExtend at o
  split at o
  · rename_i j
    obtain ⟨v, rfl, rv⟩ := pair1 r
    obtain ⟨b, eb, rfl⟩ := rv
    split at o
    · rename_i xs ys ek ej
      split at o
      · rename_i hl
        obtain ⟨ws, hv, hp⟩ := S.cell _ _ _ ea ek
        obtain ⟨zs, hv2, hp2⟩ := S.cell _ _ _ eb ej
        refine ⟨a, b, ws, zs, rfl, rfl, hv, hv2, by rw [pair_len hp, pair_len hp2]; exact hl, ?_⟩
        exact Out.give2 o (Evo.write ea) (S.write ea ek (by intro z; cases z) ⟨_, upd_same, pair_app hp hp2⟩) .non
      · exact o.elim
    · exact o.elim
  · exact o.elim
end

/-! ### rows joined, repeated, cut -/
section
variable {K : PySem.W.Frag} {mg : Str → Option Value}
/-- operators that give a new list -/
def OpL (K : PySem.W.Frag) (mg : Str → Option Value) (r : R2) (g : B → B → Cs → ER (List B)) : Prop := ∀ {E : XK} {F : Hp} {as : List Addr} {cs : Cs} {H : Hp} {x y : V} {a b : B} {Q : VK},
  Sim K mg F as cs H → RepB K F as x a → RepB K F as y b → Out K mg (relL K) E F as H (g a b cs) Q → r x y H Q
def lBin (g : B → B → Cs → ER (List B)) (f1 f2 : Fn B) : Fn (List B) := fun sl cs => (f1 sl cs).bind fun a cs1 => (f2 sl cs1).bind fun b cs2 => g a b cs2
def bCell (cs : Cs) : B → Option (List B)
  | .r k => match cs[k]? with
    | some (.lst xs) => some xs
    | _ => none
  | .d (.list xs) => some (xs.map B.d)
  | _ => none
theorem cell_of {F : Hp} {as : List Addr} {cs : Cs} {H : Hp} {v : V} {b : B} {bs : List B} (S : Sim K mg F as cs H) (r : RepB K F as v b) (h : bCell cs b = some bs) : ∃ a vs, v = .ref a ∧ H a = some (.lst vs) ∧ Paired (RepB K F as) vs bs := by
  unfold bCell at h
  split at h
  · rename_i k
    obtain ⟨a, ea, rfl⟩ := r
    split at h
    · rename_i xs ek
      cases h
      obtain ⟨ws, hv, hp⟩ := S.cell _ _ _ ea ek
      exact ⟨a, ws, rfl, hv, hp⟩
    · cases h
  · cases h
    cases r with
    | lst hs ha => exact ⟨_, _, rfl, S.sub _ _ hs, of_rpAll ha⟩
  · cases h
def gCat (a b : B) (cs : Cs) : ER (List B) := match bCell cs a, bCell cs b with
  | some xs, some ys => if xs.length + ys.length ≤ sizeLine then .ok (xs ++ ys) cs else .no
  | _, _ => .no
theorem ol_cat : OpL K mg rCat gCat := fun {E F as cs H x y a b Q} S r1 r2 o => by
  unfold gCat at o
  split at o
  · rename_i xs ys e1 e2
    split at o
    · rename_i hl
      obtain ⟨p, vs, rfl, h1, p1⟩ := cell_of S r1 e1
      obtain ⟨q, ws, rfl, h2, p2⟩ := cell_of S r2 e2
      have l1 := pair_len p1
      have l2 := pair_len p2
      exact ⟨p, q, vs, ws, rfl, rfl, h1, h2, by omega, new_lst S (pair_app p1 p2) (by rw [List.length_append]; omega) o⟩
    · exact o.elim
  · exact o.elim
theorem pair_repl {α β : Type} {R : α → β → Prop} {xs : List α} {ys : List β} (h : Paired R xs ys) : ∀ n, Paired R (List.replicate n xs).flatten (List.replicate n ys).flatten
  | 0 => .nil
  | n + 1 => by
    rw [List.replicate_succ, List.replicate_succ, List.flatten_cons, List.flatten_cons]
    exact pair_app h (pair_repl h n)
def gRep (a b : B) (cs : Cs) : ER (List B) := match bCell cs a, b with
  | some xs, .d (.int k) => if -(2 ^ 63) ≤ k ∧ k < 2 ^ 63 ∧ xs.length * k.toNat ≤ sizeLine then .ok (List.replicate k.toNat xs).flatten cs else .no
  | _, _ => .no
theorem len_repl {α : Type} (xs : List α) : ∀ n, (List.replicate n xs).flatten.length = xs.length * n
  | 0 => by simp
  | n + 1 => by
    rw [List.replicate_succ, List.flatten_cons, List.length_append, len_repl xs n, Nat.mul_succ]
    exact Nat.add_comm _ _
theorem ol_rep : OpL K mg rRep gRep := fun {E F as cs H x y a b Q} S r1 r2 o => by
  unfold gRep at o
  split at o
  · rename_i xs k e1
    split at o
    · rename_i hc
      obtain ⟨p, vs, rfl, h1, p1⟩ := cell_of S r1 e1
      cases r2
      have l1 := pair_len p1
      exact ⟨p, k, vs, rfl, rfl, h1, hc.1, hc.2.1, by rw [l1]; exact hc.2.2, new_lst S (pair_repl p1 _) (by rw [len_repl, l1]; exact hc.2.2) o⟩
    · exact o.elim
  · exact o.elim
/-- tuples joined, repeated -/
def gCatT : B → B → Cs → ER B
  | .d (.tuple xs), .d (.tuple ys), cs => if xs.length + ys.length ≤ sizeLine then .ok (.d (.tuple (xs ++ ys))) cs else .no
  | _, _, _ => .no
theorem og_catT : OpG K mg (rCatA K) gCatT := fun {E F as cs H x y a b Q} S r1 r2 o => by
  unfold gCatT at o
  split at o
  · rename_i xs ys
    split at o
    · rename_i hl
      cases r1 with
      | tup h1 d1 =>
      cases r2 with
      | tup h2 d2 =>
      rename_i p vs q ws
      have p1 := of_rpAll (K := K) (as := as) d1
      have p2 := of_rpAll (K := K) (as := as) d2
      have l1 := pair_len p1
      have l2 := pair_len p2
      rw [List.length_map] at l1 l2
      refine ⟨p, q, vs, ws, rfl, rfl, SqT.of (S.sub _ _ h1), SqT.of (S.sub _ _ h2), by omega, fun e => ?_, fun e e' => ?_, fun _ _ => ?_⟩
      · have : xs = [] := List.eq_nil_of_length_eq_zero (by rw [← l1, e]; rfl)
        subst this
        exact Out.give o S (.tup h2 d2)
      · have : ys = [] := List.eq_nil_of_length_eq_zero (by rw [← l2, e']; rfl)
        subst this
        rw [List.append_nil] at o
        exact Out.give o S (.tup h1 d1)
      · exact new_tup S (by rw [List.map_append]; exact pair_app p1 p2) o
    · exact o.elim
  · exact o.elim
def gRepT : B → B → Cs → ER B
  | .d (.tuple xs), .d (.int k), cs => if -1000 ≤ k ∧ k ≤ 1000 ∧ xs.length ≤ 1000 then .ok (.d (.tuple (List.replicate k.toNat xs).flatten)) cs else .no
  | _, _, _ => .no
theorem og_repT : OpG K mg (rRepA K) gRepT := fun {E F as cs H x y a b Q} S r1 r2 o => by
  unfold gRepT at o
  split at o
  · rename_i xs k
    split at o
    · rename_i hl
      cases r1 with
      | tup h1 d1 =>
      cases r2
      rename_i p vs
      have p1 := of_rpAll (K := K) (as := as) d1
      have l1 := pair_len p1
      rw [List.length_map] at l1
      refine ⟨p, k, vs, rfl, rfl, SqT.of (S.sub _ _ h1), hl.1, hl.2.1, by omega, fun z => ?_, fun z => ?_⟩
      · have e : (List.replicate k.toNat xs).flatten = xs := by
          rcases z with z | z
          · have : xs = [] := List.eq_nil_of_length_eq_zero (by rw [← l1, z]; rfl)
            subst this
            simp
          · rw [z]; simp
        rw [e] at o
        exact Out.give o S (.tup h1 d1)
      · exact new_tup S (by
          have e : ((List.replicate k.toNat xs).flatten).map B.d = (List.replicate k.toNat (xs.map B.d)).flatten := by
            rw [List.map_flatten, List.map_replicate]
          rw [e]; exact pair_repl p1 _) o
    · exact o.elim
  · exact o.elim
/-- a cut of a row -/
abbrev FnO := Sl → Cs → ER (Option Int)
def relO : Rl (Option Int) (Option Int) := fun _ _ _ _ v b => v = b
theorem mono_O : Mono relO := fun _ _ _ _ _ _ _ _ _ _ _ _ _ h => h
def SO (X : Cx) (W : WX) (e : Option Expr) (f : FnO) : Prop := PO X e (tG X.K X.mg W relO f)
def oNone : FnO := fun _ cs => .ok none cs
def oSome (f : Fn B) : FnO := fun sl cs => (f sl cs).bind fun b cs1 => match b with
  | .d (.int i) => .ok (some i) cs1
  | _ => .no
theorem so_none {X : Cx} {W : WX} : SO X W none oNone := ⟨fun pins s σ H Q I ⟨F, as, sl, cs, hs, S, h⟩ => po_none.run pins s σ H Q I (Out.give h S rfl)⟩
theorem so_some {X : Cx} {W : WX} {e : Expr} {f : Fn B} (he : SE X W e f) : SO X W (some e) (oSome f) := ⟨fun pins s σ H Q I ⟨F, as, sl, cs, hs, S, h⟩ => by
  refine (po_some he).run pins s σ H Q I ⟨F, as, sl, cs, hs, S, (Out.bind mono_O h).imp ?_⟩
  rintro v H1 ⟨F1, as1, b, cs1, e1, S1, r1, o1⟩
  split at o1
  · cases r1
    exact ⟨_, rfl, Out.give o1 S1 rfl⟩
  · exact o1.elim⟩
def cutB {α : Type} (xs : List α) (lo hi : Option Int) : List α := (xs.drop (HT.sIx xs.length 0 lo)).take (HT.sIx xs.length xs.length hi - HT.sIx xs.length 0 lo)
theorem pair_cut {α β : Type} {R : α → β → Prop} {xs : List α} {ys : List β} (h : Paired R xs ys) (lo hi : Option Int) : Paired R (cutB xs lo hi) (cutB ys lo hi) := by
  unfold cutB
  rw [pair_len h]
  exact pair_take _ (pair_drop _ h)
/-- t[lo:hi], t a tuple -/
def eCutT (fo : Fn B) (f1 f2 : FnO) : Fn B := fun sl cs => (fo sl cs).bind fun b cs1 => (f1 sl cs1).bind fun lo cs2 => (f2 sl cs2).bind fun hi cs3 => match b with
  | .d (.tuple xs) => .ok (.d (.tuple (cutB xs lo hi))) cs3
  | _ => .no
theorem cutB_all {α : Type} (xs : List α) (lo hi : Option Int) (h : HT.sIx xs.length 0 lo = 0 ∧ HT.sIx xs.length xs.length hi = xs.length) : cutB xs lo hi = xs := by
  unfold cutB
  rw [h.1, h.2]
  simp
theorem se_cutT {X : Cx} {W : WX} {e : Expr} {lo hi : Option Expr} {fo : Fn B} {f1 f2 : FnO} {pos p2 : Pos} (he : SE X W e fo) (h1 : SO X W lo f1) (h2 : SO X W hi f2) : SE X W (.Subscript e (.Slice lo hi none p2) pos) (eCutT fo f1 f2) :=
  pe_weak (pe_slice sl_tupA he h1 h2) fun σ H Q ⟨F, as, sl, cs, hs, S, h⟩ => by
    refine ⟨F, as, sl, cs, hs, S, (Out.bind mono_B h).imp ?_⟩
    rintro v H1 ⟨F1, as1, b, cs1, e1, S1, r1, o1⟩
    refine ⟨F1, as1, sl, cs1, e1.repS hs, S1, (Out.bind mono_B o1).imp ?_⟩
    rintro l H2 ⟨F2, as2, lo, cs2, e2, S2, r2, o2⟩
    refine ⟨F2, as2, sl, cs2, e2.repS (e1.repS hs), S2, (Out.bind mono_B o2).imp ?_⟩
    rintro u H3 ⟨F3, as3, hi, cs3, e3, S3, r3, o3⟩
    cases r2; cases r3
    have r9 := e3.repB (e2.repB r1)
    clear r1
    split at o3
    · rename_i xs
      cases r9 with
      | tup h1 d1 =>
      rename_i p vs
      have p1 := of_rpAll (K := X.K) (as := as3) d1
      have l1 := pair_len p1
      rw [List.length_map] at l1
      refine ⟨p, vs, rfl, SqT.of (S3.sub _ _ h1), fun z => ?_, fun z => ?_⟩
      · rw [l1] at z
        rw [cutB_all xs _ _ z] at o3
        exact Out.give o3 S3 (.tup h1 d1)
      · exact new_tup S3 (by
          have e : (cutB xs l u).map B.d = cutB (xs.map B.d) l u := by
            unfold cutB
            rw [List.map_take, List.map_drop, List.length_map]
          rw [e]; exact pair_cut p1 l u) o3
    · exact o3.elim
/-- xs[lo:hi], xs a list: a new one -/
def lCut (fo : Fn B) (f1 f2 : FnO) : Fn (List B) := fun sl cs => (fo sl cs).bind fun b cs1 => (f1 sl cs1).bind fun lo cs2 => (f2 sl cs2).bind fun hi cs3 => match bList cs3 b with
  | some xs => if xs.length ≤ sizeLine then .ok (cutB xs lo hi) cs3 else .no
  | none => .no
theorem cutB_len {α : Type} (xs : List α) (lo hi : Option Int) : (cutB xs lo hi).length ≤ xs.length := by
  unfold cutB
  rw [List.length_take, List.length_drop]
  omega
theorem sl_cut {X : Cx} {W : WX} {e : Expr} {lo hi : Option Expr} {fo : Fn B} {f1 f2 : FnO} {pos p2 : Pos} (he : SE X W e fo) (h1 : SO X W lo f1) (h2 : SO X W hi f2) : SL X W (.Subscript e (.Slice lo hi none p2) pos) (lCut fo f1 f2) :=
  pe_weak (pe_slice sl_list he h1 h2) fun σ H Q ⟨F, as, sl, cs, hs, S, h⟩ => by
    refine ⟨F, as, sl, cs, hs, S, (Out.bind mono_L h).imp ?_⟩
    rintro v H1 ⟨F1, as1, b, cs1, e1, S1, r1, o1⟩
    refine ⟨F1, as1, sl, cs1, e1.repS hs, S1, (Out.bind mono_L o1).imp ?_⟩
    rintro l H2 ⟨F2, as2, lo, cs2, e2, S2, r2, o2⟩
    refine ⟨F2, as2, sl, cs2, e2.repS (e1.repS hs), S2, (Out.bind mono_L o2).imp ?_⟩
    rintro u H3 ⟨F3, as3, hi, cs3, e3, S3, r3, o3⟩
    cases r2; cases r3
    have r9 := e3.repB (e2.repB r1)
    clear r1
    split at o3
    · rename_i xs ex
      split at o3
      · rename_i hl
        obtain ⟨p, vs, rfl, hq, hp⟩ := list_of S3 r9 ex
        have l1 := pair_len hp
        refine ⟨p, vs, rfl, hq, ?_⟩
        exact new_lst S3 (pair_cut hp l u) (by
          have h1 := pair_len (pair_cut hp l u)
          have h2 := cutB_len xs l u
          show (cutB vs l u).length ≤ sizeLine
          omega) o3
      · exact o3.elim
    · exact o3.elim
theorem sl_op {X : Cx} {W : WX} {a b : Expr} {fa fb : Fn B} {op : Operator} {r : R2} {g : B → B → Cs → ER (List B)} {pos : Pos} (ho : OpR X (binaryOp op) r) (hg : OpL X.K X.mg r g) (ha : SE X W a fa) (hb : SE X W b fb) : SL X W (.BinOp a op b pos) (lBin g fa fb) :=
  pe_weak (pe_op ho ha hb) fun σ H Q ⟨F, as, sl, cs, hs, S, h⟩ => by
    refine ⟨F, as, sl, cs, hs, S, (Out.bind mono_L h).imp ?_⟩
    rintro v H1 ⟨F1, as1, a, cs1, e1, S1, r1, o1⟩
    refine ⟨F1, as1, sl, cs1, e1.repS hs, S1, (Out.bind mono_L o1).imp ?_⟩
    rintro u H2 ⟨F2, as2, b, cs2, e2, S2, r2, o2⟩
    exact hg S2 (e2.repB r1) r2 o2

/-! ### o[i] = value -/
def sItem (fo fi fv : Fn B) : FnS := fun sl cs => sE (fv sl cs) sl fun v cs1 => sE (fo sl cs1) sl fun o cs2 => sE (fi sl cs2) sl fun i cs3 => match o, i with
  | .r k, .d (.int j) => match cs3[k]? with
    | some (.lst xs) => match ixN xs.length j with
      | some n => .nx sl (cs3.set k (.lst (xs.set n v)))
      | none => .no
    | _ => .no
  | _, _ => .no
theorem ss_item {X : Cx} {W : WX} {o i value : Expr} {fo fi fv : Fn B} {pos pos' : Pos} (ho : SE X W o fo) (hi : SE X W i fi) (hv : SE X W value fv)
    (ha : ∀ v, assign (.Subscript o i pos') X.env v = (do
      let ov ← holding [v] (eval o X.env)
      let iv ← holding [v, ov] (eval i X.env)
      standAt pos'
      holding [v, ov, iv] (setItem ov iv v)
      release [v, ov, iv] []) := by intro _; rfl)
    (hs : swapsWithSole [.Subscript o i pos'] value pos.line X.env = pure false := by rfl) (hw : swappedStores [.Subscript o i pos'] value X.env = pure none := by rfl)
    (h1 : (assignEach [.Subscript o i pos'] X.env).map (·.2) = [assign (.Subscript o i pos') X.env] := by rfl) : SS X W (.Assign [.Subscript o i pos'] value pos) (sItem fo fi fv) :=
  ps_weak (ps_asg hv (pg_sub ho hi set_list ha) hs hw h1) fun D σ H ⟨F, as, sl, cs, hs, S, h⟩ => by
    refine ⟨F, as, sl, cs, hs, S, (OutS.bind hs h).imp ?_⟩
    rintro y H1 ⟨F1, as1, bv, cs1, e1, hs1, S1, r1, o1⟩
    refine ⟨F1, as1, sl, cs1, hs1, S1, (OutS.bind hs1 o1).imp ?_⟩
    rintro x H2 ⟨F2, as2, b, cs2, e2, hs2, S2, r2, o2⟩
    refine ⟨F2, as2, sl, cs2, hs2, S2, (OutS.bind hs2 o2).imp ?_⟩
    rintro z H3 ⟨F3, as3, c, cs3, e3, hs3, S3, r3, o3⟩
    have r8 := e3.repB r2
    have r9 := e3.repB (e2.repB r1)
    clear r1 r2
    split at o3
    · rename_i k j
      obtain ⟨a, ea, rfl⟩ := r8
      cases r3
      split at o3
      · rename_i xs ek
        obtain ⟨ws, hv, hp⟩ := S3.cell _ _ _ ea ek
        split at o3
        · rename_i n en
          refine ⟨a, ws, j, n, rfl, rfl, hv, by rw [pair_len hp]; exact en, ?_⟩
          exact OutS.nxt (OutS.step (Evo.write ea) o3) (S3.write ea ek (by intro z; cases z) ⟨_, upd_same, pair_set r9 n hp⟩) hs3
        · exact o3.elim
      · exact o3.elim
    · exact o3.elim
end
end VM

/-! VM8: two ways at a time; dicts. -/
namespace VM
open PySem PySem.Spec PyProof.Rows L2
open Classical

/-! ### one way or the other -/
section
variable {X : Cx} {W : WX} {e : Expr} {st : Stmt} {f f1 f2 : Fn B} {t t1 t2 : Fn Bool} {l l1 l2 : Fn (List B)} {g g1 g2 : FnS}
theorem pe_or {t t' : TE} (h : PE X e t) (h' : PE X e t') : PE X e (fun σ H Q => t σ H Q ∨ t' σ H Q) := ⟨fun pins s σ H Q I q => q.elim (h.run pins s σ H Q I) (h'.run pins s σ H Q I)⟩
theorem pt_or {t t' : TT} (h : PT X e t) (h' : PT X e t') : PT X e (fun σ H Q => t σ H Q ∨ t' σ H Q) := ⟨fun pins s σ H Q I q => q.elim (h.run pins s σ H Q I) (h'.run pins s σ H Q I)⟩
theorem ps_or {t t' : TS} (h : PS X st t) (h' : PS X st t') : PS X st (fun D σ H => t D σ H ∨ t' D σ H) := ⟨fun pins s σ H D I q => q.elim (h.run pins s σ H D I) (h'.run pins s σ H D I)⟩
theorem tg_alt {α β : Type} {K : PySem.W.Frag} {mg : Str → Option Value} {rel : Rl α β} {f f1 f2 : Fn α} (h : ∀ sl cs, f sl cs = f1 sl cs ∨ f sl cs = f2 sl cs) {σ : L2.St} {H : Hp} {Q : β → Hp → Prop} (q : tG K mg W rel f σ H Q) : tG K mg W rel f1 σ H Q ∨ tG K mg W rel f2 σ H Q := by
  obtain ⟨F, as, sl, cs, hs, S, o⟩ := q
  rcases h sl cs with e | e
  · exact .inl ⟨F, as, sl, cs, hs, S, e ▸ o⟩
  · exact .inr ⟨F, as, sl, cs, hs, S, e ▸ o⟩
theorem se_alt (h1 : SE X W e f1) (h2 : SE X W e f2) (h : ∀ sl cs, f sl cs = f1 sl cs ∨ f sl cs = f2 sl cs) : SE X W e f := pe_weak (pe_or h1 h2) fun _ _ _ q => tg_alt h q
theorem sl_alt (h1 : SL X W e l1) (h2 : SL X W e l2) (h : ∀ sl cs, l sl cs = l1 sl cs ∨ l sl cs = l2 sl cs) : SL X W e l := pe_weak (pe_or h1 h2) fun _ _ _ q => tg_alt h q
theorem st_alt (h1 : ST X W e t1) (h2 : ST X W e t2) (h : ∀ sl cs, t sl cs = t1 sl cs ∨ t sl cs = t2 sl cs) : ST X W e t := pt_weak (pt_or h1 h2) fun _ _ _ q => tg_alt h q
theorem ss_alt (h1 : SS X W st g1) (h2 : SS X W st g2) (h : ∀ sl cs, g sl cs = g1 sl cs ∨ g sl cs = g2 sl cs) : SS X W st g := ps_weak (ps_or h1 h2) fun _ _ _ ⟨F, as, sl, cs, hs, S, o⟩ => by
  rcases h sl cs with e | e
  · exact .inl ⟨F, as, sl, cs, hs, S, e ▸ o⟩
  · exact .inr ⟨F, as, sl, cs, hs, S, e ▸ o⟩
def orE {α : Type} (a b : ER α) : ER α := match a with
  | .no => b
  | r => r
@[simp] theorem orE_ok {α : Type} {x : α} {cs : Cs} {b : ER α} : orE (.ok x cs) b = .ok x cs := rfl
@[simp] theorem orE_ex {α : Type} {x : Str} {cs : Cs} {b : ER α} : orE (.ex x cs) b = .ex x cs := rfl
@[simp] theorem orE_no {α : Type} {b : ER α} : orE .no b = b := rfl
theorem orE_or {α : Type} (a b : ER α) : orE a b = a ∨ orE a b = b := by cases a <;> simp
def gAlt (g1 g2 : B → B → Cs → ER B) : B → B → Cs → ER B := fun a b cs => orE (g1 a b cs) (g2 a b cs)
theorem eBin_alt {g1 g2 : B → B → Cs → ER B} (sl : Sl) (cs : Cs) : eBin (gAlt g1 g2) f1 f2 sl cs = eBin g1 f1 f2 sl cs ∨ eBin (gAlt g1 g2) f1 f2 sl cs = eBin g2 f1 f2 sl cs := by
  unfold eBin gAlt
  cases f1 sl cs with
  | no => exact .inl rfl
  | ex x c => exact .inl rfl
  | ok a c =>
    simp only [ER.bind_ok]
    cases f2 sl c with
    | no => exact .inl rfl
    | ex x c => exact .inl rfl
    | ok b c => exact orE_or _ _
def gAlt1 (g1 g2 : List B → Cs → ER B) : List B → Cs → ER B := fun a cs => orE (g1 a cs) (g2 a cs)
theorem eCall_alt {g1 g2 : List B → Cs → ER B} (sl : Sl) (cs : Cs) : eCall (gAlt1 g1 g2) l sl cs = eCall g1 l sl cs ∨ eCall (gAlt1 g1 g2) l sl cs = eCall g2 l sl cs := by
  unfold eCall gAlt1
  cases l sl cs with
  | no => exact .inl rfl
  | ex x c => exact .inl rfl
  | ok a c => exact orE_or _ _
end
section
variable {X : Cx} {K : PySem.W.Frag} {mg : Str → Option Value}
def orR (r1 r2 : R2) : R2 := fun x y H Q => r1 x y H Q ∨ r2 x y H Q
theorem or_alt {op : Value → Value → Sem Value} {r1 r2 : R2} (h1 : OpR X op r1) (h2 : OpR X op r2) : OpR X op (orR r1 r2) := fun pins s σ H x y v u Q I rx ry q => q.elim (h1 pins s σ H x y v u Q I rx ry) (h2 pins s σ H x y v u Q I rx ry)
theorem og_alt {r1 r2 : R2} {g1 g2 : B → B → Cs → ER B} (h1 : OpG K mg r1 g1) (h2 : OpG K mg r2 g2) : OpG K mg (orR r1 r2) (gAlt g1 g2) := fun {E F as cs H x y a b Q} S ra rb o => by
  unfold gAlt at o
  rcases orE_or (g1 a b cs) (g2 a b cs) with e | e
  · exact .inl (h1 S ra rb (e ▸ o))
  · exact .inr (h2 S ra rb (e ▸ o))
def orLs (r1 r2 : List V → Hp → VK → Prop) : List V → Hp → VK → Prop := fun x H Q => r1 x H Q ∨ r2 x H Q
theorem cr_alt {f : Value} {r1 r2 : List V → Hp → VK → Prop} (h1 : CallR X f r1) (h2 : CallR X f r2) : CallR X f (orLs r1 r2) := fun pins s σ H xs us Q I r q => q.elim (h1 pins s σ H xs us Q I r) (h2 pins s σ H xs us Q I r)
theorem lg_alt {r1 r2 : List V → Hp → VK → Prop} {g1 g2 : List B → Cs → ER B} (h1 : LsG K mg r1 g1) (h2 : LsG K mg r2 g2) : LsG K mg (orLs r1 r2) (gAlt1 g1 g2) := fun {E F as cs H x a Q} S ra o => by
  unfold gAlt1 at o
  rcases orE_or (g1 a cs) (g2 a cs) with e | e
  · exact .inl (h1 S ra (e ▸ o))
  · exact .inr (h2 S ra (e ▸ o))
end

/-! ### keys -/
def keyD : D → Option Key
  | .int i => some (.inl i)
  | .str s => some (.inr s)
  | _ => none
def keysD : List D → Option (List Key)
  | [] => some []
  | x :: xs => (keyD x).bind fun k => (keysD xs).map (k :: ·)
def keyTD : D → Option (List Key)
  | .tuple xs => keysD xs
  | _ => none
@[simp] theorem keyD_int (i : Int) : keyD (.int i) = some (.inl i) := rfl
@[simp] theorem keyD_str (i : Str) : keyD (.str i) = some (.inr i) := rfl
@[simp] theorem keyTD_tup (xs : List D) : keyTD (.tuple xs) = keysD xs := rfl
@[simp] theorem keysD_nil : keysD [] = some [] := rfl
@[simp] theorem keysD_cons (x : D) (xs : List D) : keysD (x :: xs) = (keyD x).bind fun k => (keysD xs).map (k :: ·) := rfl
theorem key_rep {F : Hp} {x : D} {k : Key} {v : V} (h : keyD x = some k) (r : Rp F v x) : v = kV k := by
  cases x with
  | int i => cases h; cases r; rfl
  | str i => cases h; cases r; rfl
  | none => cases h
  | bool _ => cases h
  | list _ => cases h
  | tuple _ => cases h
  | dict _ => cases h
theorem keys_rep {F : Hp} : ∀ {xs : List D} {ks : List Key} {vs : List V}, keysD xs = some ks → RpAll F vs xs → vs = ks.map kV
  | [], ks, _, h, .nil => by cases h; rfl
  | x :: xs, ks, _, h, .cons r t => by
    have h : (keyD x).bind (fun k => (keysD xs).map (k :: ·)) = some ks := h
    cases e1 : keyD x with
    | none => rw [e1] at h; cases h
    | some k =>
      rw [e1] at h
      have h : (keysD xs).map (k :: ·) = some ks := h
      cases e2 : keysD xs with
      | none => rw [e2] at h; cases h
      | some ks' =>
        rw [e2] at h
        cases h
        rw [List.map_cons, key_rep e1 r, keys_rep e2 t]
theorem keyT_rep {F : Hp} {x : D} {ks : List Key} {v : V} (h : keyTD x = some ks) (r : Rp F v x) : ∃ b, v = .ref b ∧ F b = some (.tup (ks.map kV)) := by
  unfold keyTD at h
  split at h
  · cases r with
    | tup e ha =>
      rw [keys_rep h ha] at e
      exact ⟨_, rfl, e⟩
  · cases h

/-! ### rows of pairs -/
section
variable {κ : Type} [DecidableEq κ]
def getB (kvs : List (κ × B)) (k : κ) : Option B := (kvs.find? fun kv => decide (kv.1 = k)).map (·.2)
def putB (kvs : List (κ × B)) (k : κ) (v : B) : List (κ × B) := if (kvs.any fun kv => decide (kv.1 = k)) = true then kvs.map (fun kv => if kv.1 = k then (kv.1, v) else kv) else kvs ++ [(k, v)]
variable {K : PySem.W.Frag} {F : Hp} {as : List Addr}
theorem pair_getB (k : κ) : ∀ {vs : List (κ × V)} {bs : List (κ × B)}, Paired (RepP K F as) vs bs → (getB bs k = none → valV vs k = none) ∧ ∀ b, getB bs k = some b → ∃ v, valV vs k = some v ∧ RepB K F as v b
  | _, _, .nil => ⟨fun _ => rfl, fun b h => by cases h⟩
  | p :: vs, q :: bs, .cons r t => by
    have ih := pair_getB k t
    by_cases e : q.1 = k
    · have e' : p.1 = k := r.1.trans e
      have g : getB (q :: bs) k = some q.2 := by simp [getB, List.find?_cons, e]
      rw [g, valV_pos e']
      exact ⟨fun z => by (cases z), fun b z => by cases z; exact ⟨_, rfl, r.2⟩⟩
    · have e' : ¬ p.1 = k := fun z => e (r.1.symm.trans z)
      have g : getB (q :: bs) k = getB bs k := by simp [getB, List.find?_cons, e]
      rw [g, valV_neg e']
      exact ih
theorem pair_any (k : κ) : ∀ {vs : List (κ × V)} {bs : List (κ × B)}, Paired (RepP K F as) vs bs → (vs.any fun kv => decide (kv.1 = k)) = bs.any fun kv => decide (kv.1 = k)
  | _, _, .nil => rfl
  | p :: vs, q :: bs, .cons r t => by rw [List.any_cons, List.any_cons, pair_any k t, r.1]
theorem pair_putB (k : κ) {v : V} {b : B} (rv : RepB K F as v b) {vs : List (κ × V)} {bs : List (κ × B)} (h : Paired (RepP K F as) vs bs) : Paired (RepP K F as) (putK vs k v) (putB bs k b) := by
  unfold putK putB
  rw [pair_any k h]
  split
  · rename_i ha
    clear ha
    induction h with
    | nil => exact .nil
    | @cons p q vs bs r t ih =>
      rw [List.map_cons, List.map_cons]
      refine .cons ?_ ih
      by_cases e : q.1 = k
      · rw [if_pos e, if_pos (r.1.trans e)]; exact ⟨r.1, rv⟩
      · rw [if_neg e, if_neg fun z => e (r.1.symm.trans z)]; exact r
  · exact pair_app h (.cons ⟨rfl, rv⟩ .nil)
end

/-! ### d[k], k in d -/
/-- none: not to be looked up; some none: not there -/
def dFind (cs : Cs) (o i : B) : Option (Option B) := match o, i with
  | .r k, .d x => match cs[k]? with
    | some (.dK kvs) => (keyD x).map (getB kvs)
    | some (.dT kvs) => (keyTD x).map (getB kvs)
    | _ => none
  | _, _ => none
section
variable {K : PySem.W.Frag} {mg : Str → Option Value} {E : XK} {F : Hp} {as : List Addr} {cs : Cs} {H : Hp} {v u : V} {o i : B}
theorem find_of {r : Option B} (S : Sim K mg F as cs H) (ro : RepB K F as v o) (ri : RepB K F as u i) (h : dFind cs o i = some r) :
    ∃ a ov, v = .ref a ∧ DGet H a u ov ∧ (r = none → ov = none) ∧ ∀ b, r = some b → ∃ w, ov = some w ∧ RepB K F as w b := by
  unfold dFind at h
  split at h
  · rename_i k x
    obtain ⟨a, ea, rfl⟩ := ro
    split at h
    · rename_i kvs ek
      obtain ⟨vs, hv, hp⟩ := S.cell _ _ _ ea ek
      cases e : keyD x with
      | none => rw [e] at h; cases h
      | some key =>
        rw [e] at h
        cases h
        rw [key_rep e ri]
        exact ⟨a, _, rfl, DGet.k hv, (pair_getB key hp).1, (pair_getB key hp).2⟩
    · rename_i kvs ek
      obtain ⟨vs, hv, hp⟩ := S.cell _ _ _ ea ek
      cases e : keyTD x with
      | none => rw [e] at h; cases h
      | some key =>
        rw [e] at h
        cases h
        obtain ⟨b, rfl, hb⟩ := keyT_rep e ri
        exact ⟨a, _, rfl, DGet.t hv (S.sub _ _ hb), (pair_getB key hp).1, (pair_getB key hp).2⟩
    · cases h
  · cases h
def gDGet (o i : B) (cs : Cs) : ER B := match dFind cs o i with
  | some (some b) => .ok b cs
  | _ => .no
def gDIn (neg : Bool) (i o : B) (cs : Cs) : ER B := match dFind cs o i with
  | some r => .ok (.d (.bool (if neg then !r.isSome else r.isSome))) cs
  | none => .no
end
section
variable {X : Cx} {W : WX} {E : XK} {e o i value : Expr} {es : List Expr} {fo fi fv f1 f2 : Fn B} {fs : Fn (List B)} {pos pos' : Pos}
theorem se_dget {k : Nat} (hr : Room k X.A) (ho : SE X W o fo) (hi : SE X W i fi) (hs : NoSl i := by exact fun _ _ => rfl) : SE X W (.Subscript o i pos) (eBin gDGet fo fi) :=
  pe_weak (pe_dget (by have := hr.un; have h := hr.units; omega) ho hi hs) fun σ H Q ⟨F, as, sl, cs, hs, S, h⟩ => by
    refine ⟨F, as, sl, cs, hs, S, (Out.bind mono_B h).imp ?_⟩
    rintro v H1 ⟨F1, as1, a, cs1, e1, S1, r1, o1⟩
    refine ⟨F1, as1, sl, cs1, e1.repS hs, S1, (Out.bind mono_B o1).imp ?_⟩
    rintro u H2 ⟨F2, as2, b, cs2, e2, S2, r2, o2⟩
    unfold gDGet at o2
    split at o2
    · rename_i b' eb
      obtain ⟨p, ov, rfl, g, _, hb⟩ := find_of S2 (e2.repB r1) r2 eb
      obtain ⟨w, rfl, rw'⟩ := hb b' rfl
      exact ⟨p, w, rfl, g, Out.give o2 S2 rw'⟩
    · exact o2.elim
/-- o[i], o a row or a dict -/
theorem se_sub {k : Nat} (hr : Room k X.A) (ho : SE X W o fo) (hi : SE X W i fi) (hs : PlainIx i := by exact fun _ _ => rfl) (hs2 : NoSl i := by exact fun _ _ => rfl) : SE X W (.Subscript o i pos) (eBin (gAlt gIx gDGet) fo fi) :=
  se_alt (se_ix ho hi hs) (se_dget hr ho hi hs2) eBin_alt
def gInU (neg : Bool) : B → B → Cs → ER B := gAlt (gIn neg) (gDIn neg)
theorem dIn_of {neg : Bool} (hn : neg = false) {σ : L2.St} {H : Hp} {Q : VK} (h : tG X.K X.mg W (relB X.K) (eBin (gDIn neg) fi fo) σ H Q) : tDIn (tG X.K X.mg W (relB X.K) fi) (tG X.K X.mg W (relB X.K) fo) σ H Q := by
  subst hn
  obtain ⟨F, as, sl, cs, hs, S, h⟩ := h
  refine ⟨F, as, sl, cs, hs, S, (Out.bind mono_B h).imp ?_⟩
  rintro v H1 ⟨F1, as1, a, cs1, e1, S1, r1, o1⟩
  refine ⟨F1, as1, sl, cs1, e1.repS hs, S1, (Out.bind mono_B o1).imp ?_⟩
  rintro u H2 ⟨F2, as2, b, cs2, e2, S2, r2, o2⟩
  unfold gDIn at o2
  split at o2
  · rename_i r er
    obtain ⟨p, ov, rfl, g, h1, h2⟩ := find_of S2 r2 (e2.repB r1) er
    refine ⟨p, ov, rfl, g, ?_⟩
    have e : ov.isSome = r.isSome := by
      cases r with
      | none => rw [h1 rfl]; rfl
      | some b => obtain ⟨w, rfl, _⟩ := h2 b rfl; rfl
    rw [e]
    exact Out.give o2 S2 (.bl _)
  · exact o2.elim
theorem dNotIn_of {neg : Bool} (hn : neg = true) {σ : L2.St} {H : Hp} {Q : VK} (h : tG X.K X.mg W (relB X.K) (eBin (gDIn neg) fi fo) σ H Q) : tDNotIn (tG X.K X.mg W (relB X.K) fi) (tG X.K X.mg W (relB X.K) fo) σ H Q := by
  subst hn
  obtain ⟨F, as, sl, cs, hs, S, h⟩ := h
  refine ⟨F, as, sl, cs, hs, S, (Out.bind mono_B h).imp ?_⟩
  rintro v H1 ⟨F1, as1, a, cs1, e1, S1, r1, o1⟩
  refine ⟨F1, as1, sl, cs1, e1.repS hs, S1, (Out.bind mono_B o1).imp ?_⟩
  rintro u H2 ⟨F2, as2, b, cs2, e2, S2, r2, o2⟩
  unfold gDIn at o2
  split at o2
  · rename_i r er
    obtain ⟨p, ov, rfl, g, h1, h2⟩ := find_of S2 r2 (e2.repB r1) er
    refine ⟨p, ov, rfl, g, ?_⟩
    have e : ov.isSome = r.isSome := by
      cases r with
      | none => rw [h1 rfl]; rfl
      | some b => obtain ⟨w, rfl, _⟩ := h2 b rfl; rfl
    rw [e]
    exact Out.give o2 S2 (.bl _)
  · exact o2.elim
theorem se_in {k : Nat} (hr : Room k X.A) (hi : SE X W i fi) (ho : SE X W o fo) (hm : behindInMarks .In o = false := by first | exact nobehind _ (by decide) (by decide) | rfl) : SE X W (.Compare i [.In] [o] pos) (eBin (gInU false) fi fo) :=
  se_alt (se_cmp op_in_seq og_in hi ho hm) (pe_weak (pe_cmp (pc_din (by have h := hr.units; omega) hi ho) hm) fun _ _ _ h => dIn_of rfl h) eBin_alt
theorem se_notIn {k : Nat} (hr : Room k X.A) (hi : SE X W i fi) (ho : SE X W o fo) (hm : behindInMarks .NotIn o = false := by first | exact nobehind _ (by decide) (by decide) | rfl) : SE X W (.Compare i [.NotIn] [o] pos) (eBin (gInU true) fi fo) :=
  se_alt (se_cmp op_notIn_seq og_in hi ho hm) (pe_weak (pe_cmp (pc_dnotin (by have h := hr.units; omega) hi ho) hm) fun _ _ _ h => dNotIn_of rfl h) eBin_alt
theorem eT_alt {g1 g2 : B → B → Cs → ER B} (sl : Sl) (cs : Cs) : eT (eBin (gAlt g1 g2) f1 f2) sl cs = eT (eBin g1 f1 f2) sl cs ∨ eT (eBin (gAlt g1 g2) f1 f2) sl cs = eT (eBin g2 f1 f2) sl cs := by
  unfold eT
  rcases eBin_alt (f1 := f1) (f2 := f2) (g1 := g1) (g2 := g2) sl cs with e | e
  · exact .inl (by rw [e])
  · exact .inr (by rw [e])
theorem st_in {k : Nat} (hr : Room k X.A) (hi : SE X W i fi) (ho : SE X W o fo) (hm : behindInMarks .In o = false := by first | exact nobehind _ (by decide) (by decide) | rfl) : ST X W (.Compare i [.In] [o] pos) (eT (eBin (gInU false) fi fo)) :=
  st_alt (st_cmp op_in_seq og_in hi ho hm) (pt_weak (pt_cmp (pc_din (by have h := hr.units; omega) hi ho) hm) fun _ _ _ h => dIn_of rfl (test_of h)) eT_alt
theorem st_notIn {k : Nat} (hr : Room k X.A) (hi : SE X W i fi) (ho : SE X W o fo) (hm : behindInMarks .NotIn o = false := by first | exact nobehind _ (by decide) (by decide) | rfl) : ST X W (.Compare i [.NotIn] [o] pos) (eT (eBin (gInU true) fi fo)) :=
  st_alt (st_cmp op_notIn_seq og_in hi ho hm) (pt_weak (pt_cmp (pc_dnotin (by have h := hr.units; omega) hi ho) hm) fun _ _ _ h => dNotIn_of rfl (test_of h)) eT_alt

/-! ### d[k] = v -/
def dPut (cs : Cs) (o i v : B) : Option Cs := match o, i with
  | .r k, .d x => match cs[k]? with
    | some (.dK kvs) => (keyD x).bind fun key => if kvs.length < sizeLine then some (cs.set k (.dK (putB kvs key v))) else none
    | some (.dT kvs) => (keyTD x).bind fun key => if kvs.length < sizeLine then some (cs.set k (.dT (putB kvs key v))) else none
    | _ => none
  | _, _ => none
def sDItem (fo fi fv : Fn B) : FnS := fun sl cs => sE (fv sl cs) sl fun v cs1 => sE (fo sl cs1) sl fun o cs2 => sE (fi sl cs2) sl fun i cs3 => match dPut cs3 o i v with
  | some cs4 => .nx sl cs4
  | none => .no
theorem ss_ditem {k : Nat} (hr : Room k X.A) (ho : SE X W o fo) (hi : SE X W i fi) (hv : SE X W value fv) (hs : swapsWith value (some (.Subscript o i pos')) pos.line X.env = pure false := by rfl) : SS X W (.Assign [.Subscript o i pos'] value pos) (sDItem fo fi fv) :=
  ps_weak (ps_dput (by have h := hr.units; omega) ho hi hv hs) fun D σ H ⟨F, as, sl, cs, hs, S, h⟩ => by
    refine ⟨F, as, sl, cs, hs, S, (OutS.bind hs h).imp ?_⟩
    rintro y H1 ⟨F1, as1, bv, cs1, e1, hs1, S1, r1, o1⟩
    refine ⟨F1, as1, sl, cs1, hs1, S1, (OutS.bind hs1 o1).imp ?_⟩
    rintro x H2 ⟨F2, as2, b, cs2, e2, hs2, S2, r2, o2⟩
    refine ⟨F2, as2, sl, cs2, hs2, S2, (OutS.bind hs2 o2).imp ?_⟩
    rintro z H3 ⟨F3, as3, c, cs3, e3, hs3, S3, r3, o3⟩
    have r8 := e3.repB r2
    have r9 := e3.repB (e2.repB r1)
    clear r1 r2
    split at o3
    · rename_i cs4 ep
      unfold dPut at ep
      split at ep
      · rename_i k' x'
        obtain ⟨a, ea, rfl⟩ := r8
        split at ep
        · rename_i kvs ek
          obtain ⟨vs, hv, hp⟩ := S3.cell _ _ _ ea ek
          cases e : keyD x' with
          | none => rw [e] at ep; cases ep
          | some key =>
            rw [e] at ep
            have ep : (if kvs.length < sizeLine then some (cs3.set k' (.dK (putB kvs key bv))) else none) = some cs4 := ep
            split at ep
            · rename_i hl
              cases ep
              rw [key_rep e r3]
              refine ⟨a, _, rfl, DPut.k hv (by rw [pair_len hp]; exact hl), ?_⟩
              exact OutS.nxt (OutS.step (Evo.write ea) o3) (S3.write ea ek (by intro z; cases z) ⟨_, upd_same, pair_putB key r9 hp⟩) hs3
            · cases ep
        · rename_i kvs ek
          obtain ⟨vs, hv, hp⟩ := S3.cell _ _ _ ea ek
          cases e : keyTD x' with
          | none => rw [e] at ep; cases ep
          | some key =>
            rw [e] at ep
            have ep : (if kvs.length < sizeLine then some (cs3.set k' (.dT (putB kvs key bv))) else none) = some cs4 := ep
            split at ep
            · rename_i hl
              cases ep
              obtain ⟨b, rfl, hb⟩ := keyT_rep e r3
              refine ⟨a, _, rfl, DPut.t hv (S3.sub _ _ hb) (by rw [pair_len hp]; exact hl), ?_⟩
              exact OutS.nxt (OutS.step (Evo.write ea) o3) (S3.write ea ek (by intro z; cases z) ⟨_, upd_same, pair_putB key r9 hp⟩) hs3
            · cases ep
        · cases ep
      · cases ep
    · exact o3.elim
/-- o[i] = v, o a list or a dict -/
def putAt (cs : Cs) (o i v : B) : Option Cs := match o, i with
  | .r k, .d (.int j) => match cs[k]? with
    | some (.lst xs) => (ixN xs.length j).map fun n => cs.set k (.lst (xs.set n v))
    | _ => dPut cs o i v
  | _, _ => dPut cs o i v
def sPut (fo fi fv : Fn B) : FnS := fun sl cs => sE (fv sl cs) sl fun v cs1 => sE (fo sl cs1) sl fun o cs2 => sE (fi sl cs2) sl fun i cs3 => match putAt cs3 o i v with
  | some cs4 => .nx sl cs4
  | none => .no
theorem ss_put {k : Nat} (hr : Room k X.A) (ho : SE X W o fo) (hi : SE X W i fi) (hv : SE X W value fv)
    (ha : ∀ v, assign (.Subscript o i pos') X.env v = (do
      let ov ← holding [v] (eval o X.env)
      let iv ← holding [v, ov] (eval i X.env)
      standAt pos'
      holding [v, ov, iv] (setItem ov iv v)
      release [v, ov, iv] []) := by intro _; rfl)
    (hs : swapsWithSole [.Subscript o i pos'] value pos.line X.env = pure false := by rfl) (hw : swappedStores [.Subscript o i pos'] value X.env = pure none := by rfl)
    (h1 : (assignEach [.Subscript o i pos'] X.env).map (·.2) = [assign (.Subscript o i pos') X.env] := by rfl) (hs2 : swapsWith value (some (.Subscript o i pos')) pos.line X.env = pure false := by rfl) : SS X W (.Assign [.Subscript o i pos'] value pos) (sPut fo fi fv) := by
  refine ss_alt (ss_item ho hi hv ha hs hw h1) (ss_ditem hr ho hi hv hs2) fun sl cs => ?_
  unfold sPut sItem sDItem
  cases fv sl cs with
  | no => exact .inl rfl
  | ex x c => exact .inl rfl
  | ok v c1 =>
    simp only [sE_ok]
    cases fo sl c1 with
    | no => exact .inl rfl
    | ex x c => exact .inl rfl
    | ok o c2 =>
      simp only [sE_ok]
      cases fi sl c2 with
      | no => exact .inl rfl
      | ex x c => exact .inl rfl
      | ok i c3 =>
        simp only [sE_ok]
        by_cases h : ∃ k j xs, o = .r k ∧ i = .d (.int j) ∧ c3[k]? = some (.lst xs)
        · obtain ⟨k, j, xs, rfl, rfl, e⟩ := h
          refine .inl ?_
          simp only [putAt, e]
          cases ixN xs.length j <;> rfl
        · refine .inr ?_
          have z : putAt c3 o i v = dPut c3 o i v := by
            unfold putAt
            split
            · split
              · rename_i e
                exact absurd ⟨_, _, _, rfl, rfl, e⟩ h
              · rfl
            · rfl
          rw [z]
end
end VM

/-! VM9: dict comprehensions. -/
namespace VM
open PySem PySem.Spec PyProof.Rows L2
open Classical

/-! ### a dict's comprehension, whatever its keys: o0 the new dict, Put what stands behind a pair stored -/
def tDcG (o0 : HO) (Put : Hp → Addr → V → V → (Hp → Prop) → Prop) (wi : TI) (g : TG) (tt : TT) (tk tv : TE) (vs : List Nat) : TE := fun σ H Q => wi σ H fun J H1 => ∀ D, H1 D = none → ∃ M : Nat → Nat → Hp → Prop, (∃ m, M 0 m (upd H1 D o0)) ∧ ∀ i m H, M i m H →
  (J.stop i H ∧ Q (.ref D) H) ∨ (J.go i H ∧ ∃ Nx : Hp → Prop, (∀ H', Nx H' → ∃ m', m' < m ∧ M (i + 1) m' H') ∧ ∀ x H', J.yld i H x H' → g x (wipe σ vs) H' fun σ2 H2 => wipe σ2 vs = wipe σ vs ∧ tt σ2 H2 fun b H3 =>
    if b = true then tk σ2 H3 fun y H4 => tv σ2 H4 fun z H5 => Put H5 D y z Nx else Nx H3)
def PutOk (P : Program) (w : World) (A : Around) (Put : Hp → Addr → V → V → (Hp → Prop) → Prop) : Prop := ∀ (X : Cx) (pins : List (Addr × Obj)) (σ : L2.St) (H : Hp) (s : Shared) (E : Value → Shared → Prop) (D : Addr) (y z : V) (u r : Value) (Nx : Hp → Prop) (Q : Unit → Shared → Prop), X.prog = P → X.w = w → X.A = A →
  Inv X pins σ H s → RelV y u → RelV z r → Put H D y z Nx → (∀ H' s', Inv X pins σ H' s' → Nx H' → Q () s') → wpAny (model P w) A (dictSet D u r) Q E s
def NewOk (P : Program) (w : World) (o0 : HO) : Prop := ∀ (H : Hp) (h : Heap), sysModules < h.objs.size → ObjOk P w H (h.push { cls := .type "dict", data := .dict #[] }) h.objs.size o0
section
variable {X : Cx} {kx vx tg iter : Expr} {ifs : List Expr} {scope : Scope} {own : List (Str × Nat)} {pos : Pos} {wi : TI} {g : TG} {tt : TT} {tk tv : TE} {o0 : HO} {Put : Hp → Addr → V → V → (Hp → Prop) → Prop}
/-- what is known inside the block -/
theorem dcg_block {pins : List (Addr × Obj)} {s : Shared} {σ : L2.St} {H : Hp} {Q : VK} {pos' : Pos} {use : Option (Value → Sem Unit)} {Qf : Value → Shared → Prop} (hnew : NewOk X.prog X.w o0) (hput : PutOk X.prog X.w X.A Put)
    (hc : X.calm = true) (hN : X.N.Nodup) (I : Inv X pins σ H s) (hi : PI X tg iter wi) (ok : BlkOk X.N X.env.scope scope own)
    (hg : ∀ (s : Shared) (H : Hp) (C : Addr) (cl : List (Str × Addr)) (fp : List Addr), PG (X.blk s H scope (compEnvC scope cl C X.env) fp) tg g) (ht : ∀ (s : Shared) (H : Hp) (C : Addr) (cl : List (Str × Addr)) (fp : List Addr), PTs (X.blk s H scope (compEnvC scope cl C X.env) fp) ifs tt)
    (hk : ∀ (s : Shared) (H : Hp) (C : Addr) (cl : List (Str × Addr)) (fp : List Addr), PE (X.blk s H scope (compEnvC scope cl C X.env) fp) kx tk)
    (he : ∀ (s : Shared) (H : Hp) (C : Addr) (cl : List (Str × Addr)) (fp : List Addr), PE (X.blk s H scope (compEnvC scope cl C X.env) fp) vx tv) (hs : ∀ x, foldedSetIterable iter X.env x = pure x)
    (h : tDcG o0 Put wi g tt tk tv (own.map (·.2)) σ H Q)
    (hRR : ∀ D C s' m H', Inv X pins σ H' s' → Q (.ref D) H' → s'.heap.Ns C m → FpOk X pins H' C → compPost (model X.prog X.w) X.A X.xe use Qf (.ref D) C (.ok .next) s') :
    wpAny (model X.prog X.w) X.A (comprehension (.DictComp kx vx [⟨tg, iter, ifs, 0⟩] scope pos) scope X.env pos' newDict false (eval iter X.env) use) Qf X.xe s := by
  have hfree : ∀ y ∈ scope.names, y.2 = .free → ∃ c, X.env.cells.lookup y.1 = some c := fun y hy e => (ok.free y hy e).elim (fun k => I.ok.has _ (.inl k)) fun k => I.ok.has _ (.inr k)
  refine wpAny_comprehension_free (use := use) rfl hs (closure_ok hfree) ok.kind (fun y hy e => by rw [ok.uniq y hy, e])
    (thn (hi.run pins s σ H _ I h) fun xv s1 hx => thn hx fun itv s2 ⟨it, fp, tn, J, H2, e, I2, T, st2, f2, q⟩ => ?_)
  subst e
  refine wpAny_newObj_type (newEnv_comp ?_)
  -- the new dict at D, the heap with it
  obtain ⟨D, hD⟩ : ∃ D, s2.heap.objs.size = D := ⟨_, rfl⟩
  have nD : H2 D = none := I2.hok.fresh (Nat.le_of_eq hD)
  obtain ⟨M, ⟨m0, w0⟩, turn⟩ := q D nD
  rw [hD]
  obtain ⟨s3, h3, hs3⟩ : ∃ s3 : Shared, s3.heap = s2.heap.push { cls := .type "dict", data := .dict #[] } ∧ s3 = { s2 with heap := s2.heap.push { cls := .type "dict", data := .dict #[] } } := ⟨_, rfl, rfl⟩
  have I3 : Inv X pins σ (upd H2 D o0) s3 := by
    have z : ObjOk X.prog X.w (upd H2 D o0) (s2.heap.push { cls := .type "dict", data := .dict #[] }) D o0 := by
      have z := hnew (upd H2 D o0) s2.heap I2.big
      rw [hD] at z
      exact z
    rw [hs3]
    exact I2.laid (t' := s2.toks) (fun b o e => Heap.get?_push_of_some _ e) (Nat.le_of_eq hD) z
  have below : ∀ b ∈ fp, b < s2.heap.objs.size := fun b hb => let ⟨o, e, _⟩ := T.obj _ _ st2 b hb; Heap.lt_size e
  have f3 : ∀ b ∈ fp, FpOk X pins (upd H2 D o0) b ∧ b < s3.heap.objs.size := fun b hb => by
    have hlt := below b hb
    refine ⟨⟨?_, (f2 b hb).2⟩, by rw [h3, Heap.size_push]; exact Nat.lt_succ_of_lt hlt⟩
    rw [upd_ne (by rw [← hD]; exact Nat.ne_of_lt hlt)]
    exact (f2 b hb).1
  have st3 : tn 0 s3.heap := T.keep _ _ _ st2 fun b _ o e => by rw [h3]; exact Heap.get?_push_of_some _ e
  obtain ⟨H3, hH3⟩ : ∃ H3, upd H2 D o0 = H3 := ⟨_, rfl⟩
  rw [hH3] at I3 f3 w0
  have I4 := block_start I3 ok hN f3
  obtain ⟨ce, hce⟩ : ∃ ce, compEnvC scope (cellsFrom (s3.heap.objs.size + 1) scope.names (cloFrom X.env.cells scope.names [])) s3.heap.objs.size X.env = ce := ⟨_, rfl⟩
  have pg := hg s3 H3 s3.heap.objs.size (cellsFrom (s3.heap.objs.size + 1) scope.names (cloFrom X.env.cells scope.names [])) fp
  have pt := ht s3 H3 s3.heap.objs.size (cellsFrom (s3.heap.objs.size + 1) scope.names (cloFrom X.env.cells scope.names [])) fp
  have pk := hk s3 H3 s3.heap.objs.size (cellsFrom (s3.heap.objs.size + 1) scope.names (cloFrom X.env.cells scope.names [])) fp
  have pe := he s3 H3 s3.heap.objs.size (cellsFrom (s3.heap.objs.size + 1) scope.names (cloFrom X.env.cells scope.names [])) fp
  rw [hce] at I4 pg pt pk pe
  have cL : ce.locals = s3.heap.objs.size := by rw [← hce]; rfl
  obtain ⟨s4, hs4⟩ : ∃ s4 : Shared, { s3 with heap := pushCells (s3.heap.push { cls := .type "dict", data := .dict #[] }) scope.names } = s4 := ⟨_, rfl⟩
  have goal' : codeAny (model X.prog X.w) X.A (.compStart (.DictComp kx vx [⟨tg, iter, ifs, 0⟩] scope pos) 0 (.ref it) (.ref D) ce) (compPost (model X.prog X.w) X.A X.xe use Qf (.ref D) s3.heap.objs.size) s4 := by
    have I4' : Inv (X.blk s3 H3 scope ce fp) [] (wipe σ (own.map (·.2))) H3 s4 := by rw [← hs4]; exact I4
    have st4 : tn 0 s4.heap := T.keep _ _ _ st3 fun b _ o e => by rw [← hs4]; exact pushCells_keeps _ _ _ _ (Heap.get?_push_of_some _ e)
    have stat : ∀ {σ' : L2.St} {H' : Hp} {s' : Shared}, Inv (X.blk s3 H3 scope ce fp) [] σ' H' s' → (∀ b ∈ fp, H' b = none) → ∀ b ∈ fp, FpOk (X.blk s3 H3 scope ce fp) [] H' b := fun {σ' H' s'} I' hn b hb =>
      ⟨hn b hb, (I'.ok.exf b hb).1, I'.ok.exfs b hb, .inl hb, fun x c e => (I'.ok.exf b hb).2 x c e, fun p hp => absurd (show p ∈ ([] : List (Addr × Obj)) ++ [] from hp) (by simp)⟩
    have loop : codeAny (model X.prog X.w) X.A (.compLoop (.DictComp kx vx [⟨tg, iter, ifs, 0⟩] scope pos) 0 (.ref it) (.ref D) ce) (compPost (model X.prog X.w) X.A X.xe use Qf (.ref D) s3.heap.objs.size) s4 := by
      refine compLoop_anyD (fun n s' => ∃ i H', Inv (X.blk s3 H3 scope ce fp) [] (wipe σ (own.map (·.2))) H' s' ∧ tn i s'.heap ∧ (∀ b ∈ fp, H' b = none) ∧ M i n H') ?_ m0 ⟨0, H3, I4', st4, fun b hb => (f3 b hb).1.1, w0⟩
      rintro n s5 ⟨i, H5, I5, st5, n5, w5⟩
      rcases turn i n H5 w5 with ⟨stop, qq⟩ | ⟨go, Nx, hNx, step⟩
      · refine thnF (T.done (X.blk s3 H3 scope ce fp) rfl rfl rfl hc i [] s5 _ H5 (fun _ _ => False) I5 (stat I5 n5) st5 stop) fun r s6 ⟨hr, I6⟩ => ?_
        subst hr
        have I7 : Inv X pins σ H5 s6 := I3.call' (ch := fp) I6.os I6.base I6.hok I6.bare fun b hb => ⟨(f3 b hb).1.2.2.2.1, (f3 b hb).1.2.1, (f3 b hb).1.2.2.2.2.1, (f3 b hb).1.2.2.2.2.2⟩
        have nC : H5 ce.locals = none := I6.free
        obtain ⟨m, hn, _⟩ := I6.loc
        have hn : s6.heap.Ns ce.locals m := hn
        rw [cL] at hn nC
        exact hRR D s3.heap.objs.size s6 m H5 I7 qq hn (I3.fpOk (Nat.le_refl _) nC)
      · refine thnF (T.item (X.blk s3 H3 scope ce fp) rfl rfl rfl hc i [] s5 _ H5 (fun _ _ => False) I5 (stat I5 n5) st5 go) fun r s6 ⟨u, hr, h6⟩ => ?_
        subst hr
        refine thnF h6 fun _ s7 ⟨x, H7, I7, r7, y7, st7, n7⟩ => ?_
        refine thnF (pg.run _ s7 _ H7 x u _ (I7.pinned (stat I7 n7) (T.obj _ _ st7)) r7 (step x H7 y7)) fun _ s8 ⟨σ8, H8, I8, hw8, q8⟩ => ?_
        have back : ∀ {s' : Shared} {H' : Hp}, Inv (X.blk s3 H3 scope ce fp) ([] ++ pinsAt fp s7.heap) σ8 H' s' → Nx H' → ∃ m, m < n ∧ ∃ i H', Inv (X.blk s3 H3 scope ce fp) [] (wipe σ (own.map (·.2))) H' s' ∧ tn i s'.heap ∧ (∀ b ∈ fp, H' b = none) ∧ M i m H' := fun {s' H'} I' nx => by
          obtain ⟨m', hm, w'⟩ := hNx H' nx
          have pin' : ∀ b ∈ fp, ∀ o, s7.heap.get? b = some o → s'.heap.get? b = some o ∧ H' b = none := fun b hb o e =>
            let z := I'.pin (b, o) (List.mem_append_right _ (List.mem_append_right _ (mem_pinsAt hb e)))
            ⟨z.1, z.2.1⟩
          refine ⟨m', hm, i + 1, H', (I'.unpinned (pins := [])).weak (by rw [← hw8, wipe_length]) (fun j v e => ?_), T.keep _ _ _ st7 fun b hb o e => (pin' b hb o e).1, fun b hb => ?_, w'⟩
          · rw [← hw8] at e
            exact (wipe_some e).1
          · obtain ⟨o, e, _⟩ := T.obj _ _ st7 b hb
            exact (pin' b hb o e).2
        refine thnF (pt.run _ s8 σ8 H8 _ I8 q8) fun b s9 ⟨H9, I9, q9⟩ => ?_
        cases b with
        | false =>
          rw [if_neg Bool.false_ne_true] at q9 ⊢
          exact back I9 q9
        | true =>
          rw [if_pos rfl] at q9 ⊢
          exact thnF (pk.run _ s9 σ8 H9 _ I9 q9) fun z s10 ⟨yk, H10, I10, r10, q10⟩ => thnF (pe.run _ s10 σ8 H10 _ I10 q10) fun z2 s11 ⟨yv, H11, I11, r11, pu⟩ =>
            hput (X.blk s3 H3 scope ce fp) _ _ _ _ _ D yk yv z z2 Nx _ rfl rfl rfl I11 r10 r11 pu fun H12 s12 I12 nx => back I12 nx
    exact codeAny_compStart_dict loop (T.self X.A 0 _ _ _ st4 loop)
  rw [← hs4, ← hce] at goal'
  rw [hs3] at goal'
  exact goal'
theorem pe_dcg (hnew : NewOk X.prog X.w o0) (hput : PutOk X.prog X.w X.A Put) (hc : X.calm = true) (hN : X.N.Nodup) (hi : PI X tg iter wi) (ok : BlkOk X.N X.env.scope scope own)
    (hg : ∀ (s : Shared) (H : Hp) (C : Addr) (cl : List (Str × Addr)) (fp : List Addr), PG (X.blk s H scope (compEnvC scope cl C X.env) fp) tg g) (ht : ∀ (s : Shared) (H : Hp) (C : Addr) (cl : List (Str × Addr)) (fp : List Addr), PTs (X.blk s H scope (compEnvC scope cl C X.env) fp) ifs tt)
    (hk : ∀ (s : Shared) (H : Hp) (C : Addr) (cl : List (Str × Addr)) (fp : List Addr), PE (X.blk s H scope (compEnvC scope cl C X.env) fp) kx tk)
    (he : ∀ (s : Shared) (H : Hp) (C : Addr) (cl : List (Str × Addr)) (fp : List Addr), PE (X.blk s H scope (compEnvC scope cl C X.env) fp) vx tv) (hs : ∀ x, foldedSetIterable iter X.env x = pure x) :
    PE X (.DictComp kx vx [⟨tg, iter, ifs, 0⟩] scope pos) (tDcG o0 Put wi g tt tk tv (own.map (·.2))) := ⟨fun pins s σ H Q I h => by
  rw [arm_eval_DictComp]
  exact dcg_block hnew hput hc hN I hi ok hg ht hk he hs h fun D C s' m H' I' q hn ⟨f0, f1, f2, f3, f4, f5⟩ => ⟨m, hn, fun h'' sb => ⟨.ref D, H', I'.turned (t' := s'.toks) (fun b o hb e => (sb.2 b hb).trans e) f0 f1 f3 f4 f5, rfl, q⟩⟩⟩
end

/-! ### keys that are tuples, keys that are not -/
def PutT (H : Hp) (D : Addr) (y z : V) (Nx : Hp → Prop) : Prop := ∃ kvs k b, y = .ref b ∧ H D = some (.dT kvs) ∧ H b = some (.tup (k.map kV)) ∧ kvs.length < sizeLine ∧ Nx (upd H D (.dT (putK kvs k z)))
def PutS (H : Hp) (D : Addr) (y z : V) (Nx : Hp → Prop) : Prop := ∃ kvs k, y = kV k ∧ H D = some (.dK kvs) ∧ kvs.length < sizeLine ∧ Nx (upd H D (.dK (putK kvs k z)))
theorem new_dT {P : Program} {w : World} : NewOk P w (.dT []) := fun H h hb => dt_empty h hb
theorem new_dK {P : Program} {w : World} : NewOk P w (.dK []) := fun H h hb => dk_empty h hb
theorem putS_ok {P : Program} {w : World} {A : Around} : PutOk P w A PutS := by
  intro X pins σ H s E D y z u r Nx Q hP hw hA I ry rz ⟨kvs, k, ey, hD, hl, nx⟩ hQ
  subst hP hw hA ey
  exact d_dictSet I hD hl ry rz fun s' I' => hQ _ s' I' nx
theorem putT_ok {P : Program} {w : World} {A : Around} (hu : A.units < cLine) : PutOk P w A PutT := by
  intro X pins σ H s E D y z u r Nx Q hP hw hA I ry rz ⟨kvs, k, b, ey, hD, hb, hl, nx⟩ hQ
  subst hP hw hA ey
  obtain rfl : u = Value.ref b := ry
  obtain ⟨_, hd, xs, rel, dd⟩ := dt_of I.hok hD
  have hz : xs.length ≤ sizeLine := by rw [← Paired.length rel]; exact Nat.le_of_lt hl
  have hl2 : (putK kvs k z).length ≤ sizeLine := by have := length_putK kvs k z; omega
  refine wpAny_dictSet_heap (hsz := hz) (knd := tupleKind (mixKind X.prog X.w)) hu (key_of I.hok hb) dd fun h' dd' hs => hQ _ _ ?_ nx
  obtain ⟨q, es, ep, hq, g1, g2, g3, _, g5⟩ := dd'
  refine d_write I (by rw [hD]; exact True.intro) hs ⟨q, hq⟩ ⟨hl2, hd, _, (rel.put k hb rz).keeps fun c ys ec => ?_, q, es, ep, hq, g1, g2, g3, g5⟩
  rw [upd_ne (ne_of ec hD (fun z => nomatch z))]
  exact ec
end VM

/-! VM10: dict comprehensions as functions; new dicts; methods of dicts; sorted. -/
namespace VM
open PySem PySem.Spec PyProof.Rows L2
open Classical

section
variable {κ : Type} [DecidableEq κ]
noncomputable def dcLoop (key : D → Option κ) (okc : Cs → Prop) (tf : TgF) (tt : Fn Bool) (tk tv : Fn B) (sl : Sl) : List B → List (κ × B) → Cs → ER (List (κ × B))
  | [], acc, cs => if okc cs then .ok acc cs else .no
  | b :: bs, acc, cs => if okc cs then match tf b sl with
    | none => .no
    | some sl1 => (noEx (tt sl1 cs)).bind fun k cs1 => if k = true then (noEx (tk sl1 cs1)).bind fun y cs2 => (noEx (tv sl1 cs2)).bind fun z cs3 => match y with
        | .d x => match key x with
          | some ky => dcLoop key okc tf tt tk tv sl bs (putB acc ky z) cs3
          | none => .no
        | _ => .no
      else dcLoop key okc tf tt tk tv sl bs acc cs1
    else .no
noncomputable def eDc (key : D → Option κ) (mk : List (κ × B) → Cell) (fi : Fn (List B × (Cs → Prop))) (tf : TgF) (tt : Fn Bool) (tk tv : Fn B) (vs : List Nat) : Fn B := fun sl cs => (fi sl cs).bind fun a cs1 => if a.1.length < sizeLine then (dcLoop key a.2 tf tt tk tv (wipeS sl vs) a.1 [] cs1).bind fun kvs cs2 => .ok (.r cs2.length) (cs2 ++ [mk kvs]) else .no
theorem putB_len (kvs : List (κ × B)) (k : κ) (v : B) : (putB kvs k v).length ≤ kvs.length + 1 := by
  unfold putB
  split
  · rw [List.length_map]; omega
  · rw [List.length_append, List.length_cons, List.length_nil]; omega
theorem dc_ok {K : PySem.W.Frag} {mg : Str → Option Value} {E : XK} {F : Hp} {as : List Addr} {H : Hp} {key : D → Option κ} {okc : Cs → Prop} {tf : TgF} {tt : Fn Bool} {tk tv : Fn B} {sl : Sl} {items : List B} {acc : List (κ × B)} {cs : Cs} {k : List (κ × B) → Cs → ER B} {Q : VK} (h : Out K mg (relB K) E F as H ((dcLoop key okc tf tt tk tv sl items acc cs).bind k) Q) : okc cs := by
  cases items with
  | nil =>
    unfold dcLoop at h
    split at h
    · assumption
    · exact h.elim
  | cons b bs =>
    unfold dcLoop at h
    split at h
    · assumption
    · exact h.elim
theorem dc_it {J : It} {n : Nat} {G : Hp → Prop} {Y : Nat → Hp → V → Hp → Prop} {o0 : HO} {Put : Hp → Addr → V → V → (Hp → Prop) → Prop} (w : Walk J n G Y) {g : TG} {tt : TT} {tk tv : TE} {vs : List Nat} {σ : L2.St} {H1 : Hp} {D : Addr} {Qd : Hp → Prop} (Pv : Nat → Hp → Prop) (h0 : Pv 0 (upd H1 D o0)) (hG : ∀ i H, i ≤ n → Pv i H → G H)
    (hs : ∀ i x H H', i < n → Pv i H → Y i H x H' → g x (wipe σ vs) H' fun σ2 H2 => wipe σ2 vs = wipe σ vs ∧ tt σ2 H2 fun b H3 =>
      if b = true then tk σ2 H3 fun y H4 => tv σ2 H4 fun z H5 => Put H5 D y z (Pv (i + 1)) else Pv (i + 1) H3) (hd : ∀ H, Pv n H → Qd H) :
    ∃ M : Nat → Nat → Hp → Prop, (∃ m, M 0 m (upd H1 D o0)) ∧ ∀ i m H, M i m H →
      (J.stop i H ∧ Qd H) ∨ (J.go i H ∧ ∃ Nx : Hp → Prop, (∀ H', Nx H' → ∃ m', m' < m ∧ M (i + 1) m' H') ∧ ∀ x H', J.yld i H x H' → g x (wipe σ vs) H' fun σ2 H2 => wipe σ2 vs = wipe σ vs ∧ tt σ2 H2 fun b H3 =>
        if b = true then tk σ2 H3 fun y H4 => tv σ2 H4 fun z H5 => Put H5 D y z Nx else Nx H3) := by
  refine ⟨fun i m H => m = n - i ∧ i ≤ n ∧ Pv i H, ⟨n, by simp, Nat.zero_le _, h0⟩, ?_⟩
  rintro i m H ⟨rfl, hi, p⟩
  have q := hG i H hi p
  by_cases hlt : i < n
  · exact .inr ⟨w.goes i H hlt q, Pv (i + 1), fun H' p' => ⟨n - (i + 1), by omega, rfl, hlt, p'⟩, fun x H' y => hs i x H H' hlt p (w.yields i H x H' hlt q y)⟩
  · obtain rfl : i = n := by omega
    exact .inl ⟨w.stops H q, hd H p⟩
/-- what ties the pairs of that kind of dict to the heap -/
structure DcK (K : PySem.W.Frag) (mg : Str → Option Value) (key : D → Option κ) (mk : List (κ × B) → Cell) (ho : List (κ × V) → HO) (Put : Hp → Addr → V → V → (Hp → Prop) → Prop) : Prop where
  nd : ∀ kvs, mk kvs ≠ Cell.dead
  rep : ∀ F as H a kvs vs, H a = some (ho vs) → Paired (RepP K F as) vs kvs → RepC K mg F as H a (mk kvs)
  put : ∀ (F H : Hp) (D : Addr) (x : PyData) (k : κ) (y z : V) (vs : List (κ × V)) (Nx : Hp → Prop), (∀ a o, F a = some o → H a = some o) → key x = some k → Rp F y x → H D = some (ho vs) → vs.length < sizeLine → Nx (upd H D (ho (putK vs k z))) → Put H D y z Nx
variable {X : Cx} {W : WX} {elt tg iter kx vx : Expr} {ifs : List Expr} {scope : Scope} {own : List (Str × Nat)} {pos : Pos} {fi : Fn (List B × (Cs → Prop))} {tf : TgF} {ws : List Nat} {tt : Fn Bool} {tk tv : Fn B} {key : D → Option κ} {mk : List (κ × B) → Cell} {ho : List (κ × V) → HO} {Put : Hp → Addr → V → V → (Hp → Prop) → Prop}
theorem dc_of {K : PySem.W.Frag} {mg : Str → Option Value} {σ : L2.St} {H : Hp} {Q : VK} {vs : List Nat} (hk : DcK K mg key mk ho Put) (hw : ∀ j ∈ ws, j ∈ vs) (h : tG K mg W (relB K) (eDc key mk fi tf tt tk tv vs) σ H Q) :
    tDcG (ho []) Put (tG K mg W (relI K mg) fi) (tTg K mg ws tf) (tG K mg W0 relT tt) (tG K mg W0 (relB K) tk) (tG K mg W0 (relB K) tv) vs σ H Q := by
  obtain ⟨F, as, sl, cs, hs, S, h⟩ := h
  refine ⟨F, as, sl, cs, hs, S, (Out.bind0 h).imp ?_⟩
  rintro J H1 ⟨F1, as1, ⟨items, okc⟩, cs1, e1, S1, ⟨G, Y, w, hG, hY⟩, o1⟩ D hD
  have o1 : Out K mg (relB K) (WE W σ) F as H (if items.length < sizeLine then (dcLoop key okc tf tt tk tv (wipeS sl vs) items [] cs1).bind (fun kvs cs2 => ER.ok (B.r cs2.length) (cs2 ++ [mk kvs])) else .no) Q := o1
  split at o1
  case isFalse => exact o1.elim
  case isTrue hsz =>
  have hs1 := e1.repS hs
  have hsw := repS_wipe hs1 vs
  have D1 : F1 D = none := S1.fnone hD
  have D2 : D ∉ as1 := S1.out hD
  have D0 : H D = none := e1.fresh hD D2
  refine dc_it w (fun i H' => ∃ F' as' cs' acc accB, Evo F1 as1 H1 F' as' H' ∧ Sim K mg F' as' cs' H' ∧ F' D = none ∧ D ∉ as' ∧ H' D = some (ho acc) ∧ Paired (RepP K F' as') acc accB ∧ acc.length ≤ i ∧
      Out K mg (relB K) (WE W σ) F as H ((dcLoop key okc tf tt tk tv (wipeS sl vs) (items.drop i) accB cs').bind fun kvs cs2 => ER.ok (B.r cs2.length) (cs2 ++ [mk kvs])) Q) ?_ ?_ ?_ ?_
  · exact ⟨F1, as1, cs1, [], [], Evo.heap hD, S1.other D1 D2, D1, D2, upd_same, .nil, Nat.le_refl _, o1⟩
  · rintro i H' _ ⟨F', as', cs', acc, accB, e', S', _, _, _, _, _, o'⟩
    exact hG F' as' H' cs' e' S' (dc_ok o')
  · rintro i x H' H'' hi ⟨F', as', cs', acc, accB, e', S', d1, d2, d3, ra, hl, o'⟩ y
    have hi' : i < items.length := hi
    have hb' : items[i]? = some items[i] := List.getElem?_eq_getElem hi'
    have hok := dc_ok o'
    rw [List.drop_eq_getElem_cons hi'] at o'
    unfold dcLoop at o'
    rw [if_pos hok] at o'
    obtain ⟨F2, e2, S2, r2⟩ := hY i x _ F' as' H' H'' cs' e' S' hok hb' y
    have f1 : F2 D = none := e2.fnone d1 d2 d3
    have f3 : H'' D = some (ho acc) := (e2.keep d3 d2).1
    have evP : ∀ {Fa Fb : Hp} {aa ab : List Addr} {Ha Hb : Hp} {vs : List (κ × V)} {bs : List (κ × B)}, Evo Fa aa Ha Fb ab Hb → Paired (RepP K Fa aa) vs bs → Paired (RepP K Fb ab) vs bs := fun e q => pair_mono (fun _ _ z => ⟨z.1, e.repB z.2⟩) q
    have ra2 := evP e2 ra
    split at o'
    · exact o'.elim
    · rename_i sl1 etf
      refine ⟨F2, as', wipeS sl vs, cs', _, e2.repS (e'.repS hsw), S2, r2, sl1, etf, fun σ2 hs2 on2 => ?_⟩
      refine ⟨?_, F2, as', sl1, cs', hs2, S2, ?_⟩
      · rw [← wipe_wipe (σ := σ) (vs := vs)]
        exact wipe_eq on2.1 fun j hj => on2.2 j fun q => hj (hw j q)
      · cases q1 : tt sl1 cs' with
        | no => rw [q1] at o'; exact o'.elim
        | ex xx c => rw [q1] at o'; exact o'.elim
        | ok k cs2 =>
          rw [q1] at o'
          intro F3 as3 H3 k' e3 S3 r3
          have ek : k' = k := r3
          subst ek
          have g1 : F3 D = none := e3.fnone f1 d2 f3
          have g3 := e3.keep f3 d2
          have ra3 := evP e3 ra2
          have e13 := (e'.trans e2).trans e3
          cases k' with
          | false =>
            rw [if_neg Bool.false_ne_true]
            exact ⟨F3, as3, cs2, acc, accB, e13, S3, g1, g3.2, g3.1, ra3, by omega, o'⟩
          | true =>
            rw [if_pos rfl]
            refine ⟨F3, as3, sl1, cs2, e3.repS hs2, S3, ?_⟩
            simp only [noEx_ok, ER.bind_ok, if_pos] at o'
            cases q2 : tk sl1 cs2 with
            | no =>
              rw [q2] at o'
              exact o'.elim
            | ex xx c =>
              rw [q2] at o'
              exact o'.elim
            | ok y cs4 =>
              rw [q2] at o'
              simp only [noEx_ok, ER.bind_ok] at o'
              intro F4 as4 H4 vy e4 S4 r4
              have k1 : F4 D = none := e4.fnone g1 g3.2 g3.1
              have k3 := e4.keep g3.1 g3.2
              have ra4 := evP e4 ra3
              refine ⟨F4, as4, sl1, cs4, e4.repS (e3.repS hs2), S4, ?_⟩
              cases q3 : tv sl1 cs4 with
              | no =>
                rw [q3] at o'
                exact o'.elim
              | ex xx c =>
                rw [q3] at o'
                exact o'.elim
              | ok z cs6 =>
                rw [q3] at o'
                simp only [noEx_ok, ER.bind_ok] at o'
                intro F5 as5 H5 vz e5 S5 r5
                have m1 : F5 D = none := e5.fnone k1 k3.2 k3.1
                have m3 := e5.keep k3.1 k3.2
                have ra5 := evP e5 ra4
                split at o'
                · rename_i x'
                  split at o'
                  · rename_i ky eky
                    have ry : Rp F5 vy x' := rp_mono e5.ex _ _ (show Rp F4 vy x' from r4)
                    refine hk.put F5 H5 D x' ky vy vz acc _ S5.sub eky ry m3.1 (by omega) ?_
                    refine ⟨F5, as5, cs6, _, putB accB ky z, ((e13.trans e4).trans e5).other hD, S5.other m1 m3.2, m1, m3.2, upd_same, pair_putB ky r5 ra5, ?_, o'⟩
                    have := length_putK acc ky vz
                    omega
                  · exact o'.elim
                · exact o'.elim
  · rintro H' ⟨F', as', cs', acc, accB, e', S', d1, d2, d3, ra, hl, o'⟩
    have hok := dc_ok o'
    rw [List.drop_length] at o'
    unfold dcLoop at o'
    rw [if_pos hok, ER.bind_ok] at o'
    refine Out.give2 o' ((e1.trans e').add D0) (S'.add (by rw [d3]; simp) d1 d2 (hk.rep _ _ _ _ _ _ d3 (pair_mono (fun _ _ q => ⟨q.1, repB_mono (fun _ _ z => z) ⟨[D], rfl⟩ q.2⟩) ra))) ⟨D, ?_, rfl⟩
    rw [← S'.len]
    simp
theorem se_dcg (hk : DcK X.K X.mg key mk ho Put) (hnew : NewOk X.prog X.w (ho [])) (hput : PutOk X.prog X.w X.A Put) (hN : X.N.Nodup) (hi : SI X W tg iter fi) (ok : BlkOk X.N X.env.scope scope own)
    (hg : ∀ (s : Shared) (H : Hp) (C : Addr) (cl : List (Str × Addr)) (fp : List Addr), SG (X.blk s H scope (compEnvC scope cl C X.env) fp) tg ws tf)
    (ht : ∀ (s : Shared) (H : Hp) (C : Addr) (cl : List (Str × Addr)) (fp : List Addr), STs (X.blk s H scope (compEnvC scope cl C X.env) fp) W0 ifs tt)
    (hkx : ∀ (s : Shared) (H : Hp) (C : Addr) (cl : List (Str × Addr)) (fp : List Addr), SE (X.blk s H scope (compEnvC scope cl C X.env) fp) W0 kx tk)
    (he : ∀ (s : Shared) (H : Hp) (C : Addr) (cl : List (Str × Addr)) (fp : List Addr), SE (X.blk s H scope (compEnvC scope cl C X.env) fp) W0 vx tv)
    (hw : ∀ j ∈ ws, j ∈ own.map (·.2)) (hc : X.calm = true) (hs : ∀ x, foldedSetIterable iter X.env x = pure x) :
    SE X W (.DictComp kx vx [⟨tg, iter, ifs, 0⟩] scope pos) (eDc key mk fi tf tt tk tv (own.map (·.2))) :=
  pe_weak (pe_dcg (g := tTg X.K X.mg ws tf) (tt := tG X.K X.mg W0 relT tt) (tk := tG X.K X.mg W0 (relB X.K) tk) (tv := tG X.K X.mg W0 (relB X.K) tv) hnew hput hc hN hi ok hg ht hkx he hs) fun σ H Q h => dc_of hk hw h
end
theorem dck_K {K : PySem.W.Frag} {mg : Str → Option Value} : DcK K mg keyD Cell.dK HO.dK PutS where
  nd := fun _ z => by cases z
  rep := fun F as H a kvs vs h p => ⟨vs, h, p⟩
  put := fun F H D x k y z vs Nx hF hk r hD hl nx => ⟨vs, k, key_rep hk r, hD, hl, nx⟩
theorem dck_T {K : PySem.W.Frag} {mg : Str → Option Value} : DcK K mg keyTD Cell.dT HO.dT PutT where
  nd := fun _ z => by cases z
  rep := fun F as H a kvs vs h p => ⟨vs, h, p⟩
  put := fun F H D x k y z vs Nx hF hk r hD hl nx => by
    obtain ⟨b, e, hb⟩ := keyT_rep hk r
    exact ⟨vs, k, b, e, hD, hF _ _ hb, hl, nx⟩
section
variable {X : Cx} {W : WX} {tg iter kx vx : Expr} {ifs : List Expr} {scope : Scope} {own : List (Str × Nat)} {pos : Pos} {fi : Fn (List B × (Cs → Prop))} {tf : TgF} {ws : List Nat} {tt : Fn Bool} {tk tv : Fn B} {k : Nat}
noncomputable def eDcK := eDc keyD Cell.dK
noncomputable def eDcT := eDc keyTD Cell.dT
theorem se_dcK (hN : X.N.Nodup) (hi : SI X W tg iter fi) (ok : BlkOk X.N X.env.scope scope own)
    (hg : ∀ (s : Shared) (H : Hp) (C : Addr) (cl : List (Str × Addr)) (fp : List Addr), SG (X.blk s H scope (compEnvC scope cl C X.env) fp) tg ws tf)
    (ht : ∀ (s : Shared) (H : Hp) (C : Addr) (cl : List (Str × Addr)) (fp : List Addr), STs (X.blk s H scope (compEnvC scope cl C X.env) fp) W0 ifs tt)
    (hkx : ∀ (s : Shared) (H : Hp) (C : Addr) (cl : List (Str × Addr)) (fp : List Addr), SE (X.blk s H scope (compEnvC scope cl C X.env) fp) W0 kx tk)
    (he : ∀ (s : Shared) (H : Hp) (C : Addr) (cl : List (Str × Addr)) (fp : List Addr), SE (X.blk s H scope (compEnvC scope cl C X.env) fp) W0 vx tv)
    (hw : ∀ j ∈ ws, j ∈ own.map (·.2) := by decide) (hc : X.calm = true := by rfl) (hs : ∀ x, foldedSetIterable iter X.env x = pure x := by intro _; rfl) :
    SE X W (.DictComp kx vx [⟨tg, iter, ifs, 0⟩] scope pos) (eDcK fi tf tt tk tv (own.map (·.2))) := se_dcg dck_K new_dK putS_ok hN hi ok hg ht hkx he hw hc hs
theorem se_dcT (hr : Room k X.A) (hN : X.N.Nodup) (hi : SI X W tg iter fi) (ok : BlkOk X.N X.env.scope scope own)
    (hg : ∀ (s : Shared) (H : Hp) (C : Addr) (cl : List (Str × Addr)) (fp : List Addr), SG (X.blk s H scope (compEnvC scope cl C X.env) fp) tg ws tf)
    (ht : ∀ (s : Shared) (H : Hp) (C : Addr) (cl : List (Str × Addr)) (fp : List Addr), STs (X.blk s H scope (compEnvC scope cl C X.env) fp) W0 ifs tt)
    (hkx : ∀ (s : Shared) (H : Hp) (C : Addr) (cl : List (Str × Addr)) (fp : List Addr), SE (X.blk s H scope (compEnvC scope cl C X.env) fp) W0 kx tk)
    (he : ∀ (s : Shared) (H : Hp) (C : Addr) (cl : List (Str × Addr)) (fp : List Addr), SE (X.blk s H scope (compEnvC scope cl C X.env) fp) W0 vx tv)
    (hw : ∀ j ∈ ws, j ∈ own.map (·.2) := by decide) (hc : X.calm = true := by rfl) (hs : ∀ x, foldedSetIterable iter X.env x = pure x := by intro _; rfl) :
    SE X W (.DictComp kx vx [⟨tg, iter, ifs, 0⟩] scope pos) (eDcT fi tf tt tk tv (own.map (·.2))) := se_dcg dck_T new_dT (putT_ok hr.units0) hN hi ok hg ht hkx he hw hc hs
/-! ### {} -/
def eDNew (c : Cell) : Fn B := fun _ cs => .ok (.r cs.length) (cs ++ [c])
theorem dnew_of {K : PySem.W.Frag} {mg : Str → Option Value} {c : Cell} {o : HO} (hr : ∀ F as H a, H a = some o → RepC K mg F as H a c) {σ : L2.St} {H : Hp} {Q : VK} (h : tG K mg W (relB K) (eDNew c) σ H Q) : ∀ p, H p = none → Q (.ref p) (upd H p o) := fun p hp => by
  obtain ⟨F, as, sl, cs, hs, S, o1⟩ := h
  refine Out.give2 o1 ((Evo.heap hp).add hp) ((S.grow (upd_grow (o := o) hp)).add (by rw [upd_same]; simp) (S.fnone hp) (S.out hp) (hr _ _ _ _ upd_same)) ⟨p, ?_, rfl⟩
  rw [← S.len]
  simp
theorem se_newK : SE X W (.Dict [] [] pos) (eDNew (.dK [])) := pe_weak pe_dnewK fun _ _ _ h => dnew_of (c := .dK []) (o := .dK []) (fun _ _ _ _ e => ⟨[], e, .nil⟩) h
theorem se_newT : SE X W (.Dict [] [] pos) (eDNew (.dT [])) := pe_weak pe_dnewT fun _ _ _ h => dnew_of (c := .dT []) (o := .dT []) (fun _ _ _ _ e => ⟨[], e, .nil⟩) h
end

/-! ### len, sorted -/
section
variable {K : PySem.W.Frag} {mg : Str → Option Value}
def gLenD (a : List B) (cs : Cs) : ER B := match a with
  | [.r k] => match cs[k]? with
    | some (.dK kvs) => .ok (.d (.int kvs.length)) cs
    | some (.dT kvs) => .ok (.d (.int kvs.length)) cs
    | _ => .no
  | _ => .no
theorem lg_lenD : LsG K mg (orLs (fun xs H Q => ∃ a kvs, xs = [V.ref a] ∧ H a = some (.dK kvs) ∧ Q (.int kvs.length) H) rLenT) gLenD := fun {E F as cs H x a Q} S r o => by
  unfold gLenD at o
  split at o
  · rename_i k
    obtain ⟨x, rfl, r0⟩ := pair1 r
    obtain ⟨p, ea, rfl⟩ := r0
    split at o
    · rename_i kvs ek
      obtain ⟨vs, hv, hp⟩ := S.cell _ _ _ ea ek
      exact .inl ⟨p, vs, rfl, hv, Out.give o S (by rw [pair_len hp]; exact .int _)⟩
    · rename_i kvs ek
      obtain ⟨vs, hv, hp⟩ := S.cell _ _ _ ea ek
      exact .inr ⟨p, vs, rfl, hv, Out.give o S (by rw [pair_len hp]; exact .int _)⟩
    · exact o.elim
  · exact o.elim
def gLenU : List B → Cs → ER B := gAlt1 gLen gLenD
def insI (a : Int) : List Int → List Int
  | [] => [a]
  | b :: l => if a ≤ b then a :: b :: l else b :: insI a l
def sortI : List Int → List Int
  | [] => []
  | a :: l => insI a (sortI l)
theorem insI_p (a : Int) : ∀ l, (insI a l).Perm (a :: l)
  | [] => List.Perm.refl _
  | b :: l => by
    unfold insI
    split
    · exact List.Perm.refl _
    · exact ((insI_p a l).cons b).trans (List.Perm.swap a b l)
theorem sortI_p : ∀ l, (sortI l).Perm l
  | [] => List.Perm.refl _
  | a :: l => (insI_p a (sortI l)).trans ((sortI_p l).cons a)
theorem insI_s (a : Int) : ∀ l : List Int, l.Pairwise (· ≤ ·) → (insI a l).Pairwise (· ≤ ·)
  | [], _ => List.pairwise_singleton _ _
  | b :: l, h => by
    unfold insI
    obtain ⟨h1, h2⟩ := List.pairwise_cons.mp h
    split
    · rename_i hab
      refine List.pairwise_cons.mpr ⟨fun c hc => ?_, h⟩
      rcases List.mem_cons.mp hc with e | hc
      · rw [e]; exact hab
      · exact Int.le_trans hab (h1 c hc)
    · rename_i hab
      refine List.pairwise_cons.mpr ⟨fun c hc => ?_, insI_s a l h2⟩
      rcases List.mem_cons.mp ((insI_p a l).mem_iff.mp hc) with e | hc
      · rw [e]; omega
      · exact h1 c hc
theorem sortI_s : ∀ l, (sortI l).Pairwise (· ≤ ·)
  | [] => List.Pairwise.nil
  | a :: l => insI_s a _ (sortI_s l)
theorem sorted_eq : ∀ {l m : List Int}, l.Perm m → l.Pairwise (· ≤ ·) → m.Pairwise (· ≤ ·) → l = m
  | [], m, p, _, _ => (List.nil_perm.mp p).symm
  | a :: l, m, p, h1, h2 => by
    cases m with
    | nil => exact absurd p.length_eq (by simp)
    | cons b m =>
      obtain ⟨g1, g2⟩ := List.pairwise_cons.mp h1
      obtain ⟨k1, k2⟩ := List.pairwise_cons.mp h2
      have e1 : a ≤ b := by
        rcases List.mem_cons.mp (p.mem_iff.mpr List.mem_cons_self) with e | h
        · omega
        · exact g1 b h
      have e2 : b ≤ a := by
        rcases List.mem_cons.mp (p.mem_iff.mp List.mem_cons_self) with e | h
        · omega
        · exact k1 a h
      have e : a = b := by omega
      subst e
      rw [sorted_eq ((List.perm_cons a).mp p) g2 k2]
def gSortI (a : List B) (cs : Cs) : ER (List B) := match a with
  | [b] => match bInts cs b with
    | some ns => if ns.length ≤ sizeLine then .ok ((sortI ns).map fun i => .d (.int i)) cs else .no
    | none => .no
  | _ => .no
theorem paired_ints {F : Hp} {as : List Addr} : ∀ ns : List Int, Paired (RepB K F as) (ns.map V.int) (ns.map fun i => .d (.int i))
  | [] => .nil
  | n :: ns => .cons (.int n) (paired_ints ns)
theorem ll_sortI : LsL K mg (rSortedI K) gSortI := fun {E F as cs H x a Q} S r o => by
  unfold gSortI at o
  split at o
  · split at o
    · rename_i ns e
      split at o
      · rename_i hl
        obtain ⟨x, rfl, r0⟩ := pair1 r
        obtain ⟨p, rfl, q⟩ := ints_of S r0 e
        refine ⟨p, ns, rfl, q, fun ns' l hp hs hl' => ?_⟩
        rw [sorted_eq (hp.trans (sortI_p ns).symm) hs (sortI_s ns)]
        exact new_lst S (paired_ints _) (by rw [List.length_map, (sortI_p ns).length_eq]; exact hl) o l hl'
      · exact o.elim
    · exact o.elim
  · exact o.elim
end
end VM

/-! VM11: sorted dicts; methods; bound methods; raise, try. -/
namespace VM
open PySem PySem.Spec PyProof.Rows L2
open Classical

/-! ### sorted(d), keys ints -/
def rSortedD : List V → Hp → VK → Prop := fun xs H Q => ∃ (a : Addr) (kvs : List (Key × V)) (ks : List Int), xs = [.ref a] ∧ Rd H a (.dK kvs) ∧ kvs.map (·.1) = ks.map Sum.inl ∧
    ∀ (ys : List Int) (p : Addr), ys.Perm ks → ys.Pairwise (· ≤ ·) → H p = none → Q (.ref p) (upd H p (.lst (ys.map V.int)))
theorem cr_sortedD {X : Cx} (hcalm : X.calm = true) : CallR X (.builtin "sorted") rSortedD := by
  intro pins s σ H xs us Q I r ⟨a, kvs, ks, ex, hd, hks, q⟩
  subst ex
  obtain ⟨u, eu, rx⟩ := vals1 r
  subst eu
  cases rx
  obtain ⟨z, lo, vs, rel, dd⟩ := dk_rd I.hok hd
  obtain ⟨ep, hat⟩ := dd.dictAt
  have hkeys : vs.map (·.1) = ks.map Sum.inl := rel.keys.symm.trans hks
  have hl : vs.length = ks.length := by simpa using congrArg List.length hkeys
  have h16 : vs.length ≤ sizeLine := by rw [← rel.length]; exact z
  refine Calls.call_function_entry PyProof.Rows.kind_sorted PyProof.Rows.plain_sorted PyProof.Rows.entry_sorted (PyProof.Rows.args_sorted1 _) ?_
  unfold Builtin.«sorted»
  refine wpAny_bind (m := checkCount "sorted" 1 1 _) (wpAny_pure ?_)
  refine wpAny_bind (PySem.W.kdu_collect (A := X.A.in1) (PySem.W.kdl_dict (knd := mixKind X.prog X.w) (kvs := vs) (ep := ep) lo) (I.ok.hd hcalm) hat h16 fun h' tk acc hk hacc => ?_)
  have hal : acc.toList.length = ks.length := by rw [Array.length_toList, hacc.1, hl]
  have hS : IntsAre acc.toList ks := ints_each hal fun j v e => by
    obtain ⟨k, x, e1, e2⟩ := hacc.2 j v (by rw [← Array.getElem?_toList]; exact e)
    have e3 : (vs.map (·.1))[j]? = some k := by rw [List.getElem?_map, e1]; rfl
    rw [hkeys, List.getElem?_map] at e3
    obtain ⟨y, e4, e5⟩ := Option.map_eq_some_iff.mp e3
    subst e5
    rcases keyIs_shape (show keyIs (Sum.inl y) v = true from e2) with ⟨i, t, ek, ev⟩ | ⟨z, t, ek, ev⟩
    · cases ek
      exact ⟨y, t, e4, ev⟩
    · cases ek
  have hsz : acc.toList.length ≤ sizeLine := by rw [hal, ← hl]; exact h16
  have I1 : Inv X pins σ H { s with heap := h', toks := tk } := I.kept hk
  refine wpAny_bind (wpAny_newList ?_ hsz)
  have hoL : (h'.push (seqObj "list" acc.toList.toArray 0)).get? h'.objs.size = some (seqObj "list" acc.toList.toArray 0) := Heap.get?_push_size _ rfl
  show wpAny _ _ _ _ _ { s with heap := h'.push (seqObj "list" acc.toList.toArray 0), toks := tk }
  refine wpAny_bind (wpAny_holding (wpAny_call_entry PyProof.Rows.slot_list_sort ⟨_, hoL, rfl⟩ PyProof.Rows.entry_list_sort
    (SrtO.list_sort_ord (s := { s with heap := h'.push (seqObj "list" acc.toList.toArray 0), toks := tk }) SrtO.swo_int hoL hsz (fun h2 => SrtO.ints_sortable hS h2) fun out h1 h2 => ⟨_, rfl, ?_⟩) (PyProof.Rows.args_list_sort _)))
  obtain ⟨k1, k2, k3⟩ := SrtO.ints_out hS h1 h2
  obtain ⟨e', he'⟩ := PyProof.Rows.sortedHeap_at (vs := acc.toList) (out := out.toArray) hoL
  have hlen : ((out.map SrtO.iv).map V.int).length ≤ sizeLine := by rw [List.length_map, k2.length_eq, ← hl]; exact h16
  refine wpAny_pure ⟨_, rfl, .ref h'.objs.size, upd H h'.objs.size (.lst ((out.map SrtO.iv).map V.int)), I1.laid (t' := tk) (fun b u e => ?_) (Nat.le_refl _)
    (show ObjOk X.prog X.w _ _ _ (.lst ((out.map SrtO.iv).map V.int)) from ⟨hlen, out, e', vals_of_ints k1, he'⟩), rfl, q _ _ k2 k3 (I1.hok.fresh (Nat.le_refl _))⟩
  have hb : b < h'.objs.size := Heap.lt_size e
  rw [PyProof.Rows.sortedHeap_old (Nat.ne_of_lt hb) (by rw [size_push']; exact Nat.lt_succ_of_lt hb)]
  exact Heap.get?_push_of_some _ e
section
variable {K : PySem.W.Frag} {mg : Str → Option Value}
def keyInts : List Key → Option (List Int)
  | [] => some []
  | .inl i :: r => (keyInts r).map (i :: ·)
  | .inr _ :: _ => none
theorem keyInts_some : ∀ {ks : List Key} {ns : List Int}, keyInts ks = some ns → ks = ns.map Sum.inl
  | [], _, h => by cases h; rfl
  | .inl i :: r, ns, h => by
    obtain ⟨ms, e, rfl⟩ := Option.map_eq_some_iff.mp (show (keyInts r).map (i :: ·) = some ns from h)
    rw [List.map_cons, keyInts_some e]
  | .inr _ :: _, _, h => by cases h
@[simp] theorem keyInts_inl (ns : List Int) : keyInts (ns.map Sum.inl) = some ns := by
  induction ns with
  | nil => rfl
  | cons n ns ih =>
    show (keyInts (ns.map Sum.inl)).map (n :: ·) = _
    rw [ih]; rfl
def gSortD (a : List B) (cs : Cs) : ER (List B) := match a with
  | [.r k] => match cs[k]? with
    | some (.dK kvs) => match keyInts (kvs.map (·.1)) with
      | some ns => if ns.length ≤ sizeLine then .ok ((sortI ns).map fun i => .d (.int i)) cs else .no
      | none => .no
    | _ => .no
  | _ => .no
theorem pair_keys {κ : Type} {F : Hp} {as : List Addr} : ∀ {vs : List (κ × V)} {bs : List (κ × B)}, Paired (RepP K F as) vs bs → vs.map (·.1) = bs.map (·.1)
  | _, _, .nil => rfl
  | _, _, .cons r t => by rw [List.map_cons, List.map_cons, pair_keys t, r.1]
theorem ll_sortD : LsL K mg rSortedD gSortD := fun {E F as cs H x a Q} S r o => by
  unfold gSortD at o
  split at o
  · rename_i k
    split at o
    · rename_i kvs ek
      split at o
      · rename_i ns e
        split at o
        · rename_i hl
          obtain ⟨x, rfl, r0⟩ := pair1 r
          obtain ⟨p, ea, rfl⟩ := r0
          obtain ⟨vs, hv, hp⟩ := S.cell _ _ _ ea ek
          refine ⟨p, vs, ns, rfl, .inl hv, by rw [pair_keys hp]; exact keyInts_some e, fun ns' l hpm hs hl' => ?_⟩
          rw [sorted_eq (hpm.trans (sortI_p ns).symm) hs (sortI_s ns)]
          exact new_lst S (paired_ints _) (by rw [List.length_map, (sortI_p ns).length_eq]; exact hl) o l hl'
        · exact o.elim
      · exact o.elim
    · exact o.elim
  · exact o.elim
def gAlt2 (g1 g2 : List B → Cs → ER (List B)) : List B → Cs → ER (List B) := fun a cs => orE (g1 a cs) (g2 a cs)
theorem ll_alt {r1 r2 : List V → Hp → VK → Prop} {g1 g2 : List B → Cs → ER (List B)} (h1 : LsL K mg r1 g1) (h2 : LsL K mg r2 g2) : LsL K mg (orLs r1 r2) (gAlt2 g1 g2) := fun {E F as cs H x a Q} S ra o => by
  unfold gAlt2 at o
  rcases orE_or (g1 a cs) (g2 a cs) with e | e
  · exact .inl (h1 S ra (e ▸ o))
  · exact .inr (h2 S ra (e ▸ o))
def gSorted : List B → Cs → ER (List B) := gAlt2 gSortI gSortD
end

/-! ### methods -/
section
variable {X : Cx} {W : WX} {E : XK} {e o i value : Expr} {es : List Expr} {fo fi fv f1 f2 : Fn B} {fs : Fn (List B)} {apos cpos pos pos' : Pos} {k : Nat}
theorem se_append (ho : SE X W o fo) (ha : SA X W [e] fs) (hbase : attributeBase o "append" X.env (eval o X.env) = eval o X.env := by rfl)
    (hfew : ((backTo cpos (starEach [e] X.env)).all (fun x => !x.1) && (backToKw cpos (keywordEach [] X.env)).all (fun x => x.1.isSome)
      && decide (([e]).length + ([] : List Keyword).length + (if ([] : List Keyword).isEmpty then 0 else 1) < 30)) = true := by rfl)
    (hline : (apos.endLine == cpos.line) = true := by rfl) (hs : starEach [e] X.env = (false, eval e X.env) :: starEach [] X.env := by rfl) (hplain : (backTo cpos (starEach [] X.env)).any (·.1) = false := by rfl) :
    SE X W (.Call (.Attribute o "append" apos) [e] [] cpos) (eBM isLst gAppend fo fs) :=
  pe_weak (pe_bm PySem.F.plainAttrs_list PySem.F.slot_list_append PySem.F.type_list_append mt_append ho ha hbase hfew hline hs hplain) fun _ _ _ h => bm_of mg_append ty_list h
theorem se_extend (ho : SE X W o fo) (ha : SA X W [e] fs) (hbase : attributeBase o "extend" X.env (eval o X.env) = eval o X.env := by rfl)
    (hfew : ((backTo cpos (starEach [e] X.env)).all (fun x => !x.1) && (backToKw cpos (keywordEach [] X.env)).all (fun x => x.1.isSome)
      && decide (([e]).length + ([] : List Keyword).length + (if ([] : List Keyword).isEmpty then 0 else 1) < 30)) = true := by rfl)
    (hline : (apos.endLine == cpos.line) = true := by rfl) (hs : starEach [e] X.env = (false, eval e X.env) :: starEach [] X.env := by rfl) (hplain : (backTo cpos (starEach [] X.env)).any (·.1) = false := by rfl) :
    SE X W (.Call (.Attribute o "extend" apos) [e] [] cpos) (eBM isLst gExtend fo fs) :=
  pe_weak (pe_bm PySem.F.plainAttrs_list PySem.F.slot_list_extend PySem.F.type_list_extend mt_extend ho ha hbase hfew hline hs hplain) fun _ _ _ h => bm_of mg_extend ty_list h
theorem se_pop (ho : SE X W o fo) (hbase : attributeBase o "pop" X.env (eval o X.env) = eval o X.env := by rfl) (hline : (apos.endLine == cpos.line) = true := by rfl) :
    SE X W (.Call (.Attribute o "pop" apos) [] [] cpos) (eBM isLst gPop fo aNil) :=
  pe_weak (pe_bm0 PySem.F.plainAttrs_list PySem.F.slot_list_pop PySem.F.type_list_pop mt_pop ho hbase hline) fun _ _ _ h => bm0_of mg_pop ty_list h
theorem se_reverse (ho : SE X W o fo) (hbase : attributeBase o "reverse" X.env (eval o X.env) = eval o X.env := by rfl) (hline : (apos.endLine == cpos.line) = true := by rfl) :
    SE X W (.Call (.Attribute o "reverse" apos) [] [] cpos) (eBM isLst gReverse fo aNil) :=
  pe_weak (pe_bm0 PySem.F.plainAttrs_list PySem.F.slot_list_reverse PySem.F.type_list_reverse mt_reverse ho hbase hline) fun _ _ _ h => bm0_of mg_reverse ty_list h
/-- d.setdefault(k, v) -/
def rSetdU : V → List V → Hp → VK → Prop := fun x vs H Q =>
  (∃ a kvs k z, x = .ref a ∧ vs = [kV k, z] ∧ H a = some (.dK kvs) ∧ kvs.length < sizeLine ∧ (∀ v, valV kvs k = some v → Q v H) ∧ (valV kvs k = none → Q z (upd H a (.dK (putK kvs k z))))) ∨
  ∃ a kvs k b z, x = .ref a ∧ vs = [.ref b, z] ∧ H a = some (.dT kvs) ∧ H b = some (.tup (k.map kV)) ∧ kvs.length < sizeLine ∧ (∀ v, valV kvs k = some v → Q v H) ∧ (valV kvs k = none → Q z (upd H a (.dT (putK kvs k z))))
theorem mt_setd (hu : X.A.units + 1 < cLine) : MtM X "dict.setdefault" rSetdU := by
  intro pins s σ H x xs v us Q I rx rxs h
  rcases h with ⟨a, kvs, k, z, rfl, rfl, ha, hl, q1, q2⟩ | ⟨a, kvs, k, b, z, rfl, rfl, ha, hb, hl, q1, q2⟩
  · cases rx
    obtain ⟨u1, u2, rfl, r1, r2⟩ := rxs.two
    exact d_setd I ha r1 r2 hl (fun v hv w' s4 I4 rw' => ⟨v, _, I4, rw', q1 v hv⟩) fun hn w' s4 I4 rw' => ⟨z, _, I4, rw', q2 hn⟩
  · cases rx
    obtain ⟨u1, u2, rfl, r1, r2⟩ := rxs.two
    obtain rfl : u1 = Value.ref b := r1
    obtain ⟨_, hd, ys, rel, dd⟩ := dt_of I.hok ha
    have hz : ys.length ≤ sizeLine := by rw [← Paired.length rel]; exact Nat.le_of_lt hl
    have hl2 : (putK kvs k z).length ≤ sizeLine := by have := length_putK kvs k z; omega
    refine call_setdefault_heap (hsz := hz) (tupleKind_room_in1 hu) (key_of I.hok hb) hd dd (fun p hp => ?_) fun hn h' dd' hs => ?_
    · obtain ⟨w', hw, rw'⟩ : ∃ w', valV kvs k = some w' ∧ RelV w' p.2 := by
        have q := rel.val k
        rw [hp] at q
        cases e : valV kvs k with
        | none => rw [e] at q; exact (show False from q).elim
        | some w' => rw [e] at q; exact ⟨w', rfl, q⟩
      exact ⟨w', H, I.tok _, rw', q1 w' hw⟩
    · have hv : valV kvs k = none := by
        have q := rel.val k
        rw [hn] at q
        cases e : valV kvs k with
        | none => rfl
        | some w' => rw [e] at q; exact (show False from q).elim
      obtain ⟨q, es, ep, hq, g1, g2, g3, _, g5⟩ := dd'
      refine ⟨z, upd H a (.dT (putK kvs k z)), d_write I (by rw [ha]; exact True.intro) hs ⟨q, hq⟩ ⟨hl2, hd, _, (rel.put k hb r2).keeps fun c ys ec => ?_, q, es, ep, hq, g1, g2, g3, g5⟩, r2, q2 hv⟩
      rw [upd_ne (ne_of ec ha (fun z => nomatch z))]
      exact ec
def gSetd (k : Nat) (bs : List B) (cs : Cs) : ER B := match bs with
  | [.d x, z] => match cs[k]? with
    | some (.dK kvs) => match keyD x with
      | some key => if kvs.length < sizeLine then match getB kvs key with
        | some v => .ok v cs
        | none => .ok z (cs.set k (.dK (putB kvs key z))) else .no
      | none => .no
    | some (.dT kvs) => match keyTD x with
      | some key => if kvs.length < sizeLine then match getB kvs key with
        | some v => .ok v cs
        | none => .ok z (cs.set k (.dT (putB kvs key z))) else .no
      | none => .no
    | _ => .no
  | _ => .no
theorem mg_setd {K : PySem.W.Frag} {mg : Str → Option Value} : MtG K mg rSetdU gSetd := fun {E F as cs H a k vs bs Q} S ea r o => by
  unfold gSetd at o
  split at o
  · rename_i x z
    obtain ⟨v1, v2, rfl, r1, r2⟩ := pair2 r
    split at o
    · rename_i kvs ek
      obtain ⟨ws, hv, hp⟩ := S.cell _ _ _ ea ek
      split at o
      · rename_i key ekey
        split at o
        · rename_i hl
          rw [key_rep ekey r1]
          refine .inl ⟨a, ws, key, v2, rfl, rfl, hv, by rw [pair_len hp]; exact hl, fun v hv' => ?_, fun hn => ?_⟩
          · cases e : getB kvs key with
            | none => rw [(pair_getB key hp).1 e] at hv'; cases hv'
            | some b =>
              obtain ⟨w', hw, rw'⟩ := (pair_getB key hp).2 b e
              rw [hw] at hv'; cases hv'
              rw [e] at o
              exact Out.give o S rw'
          · cases e : getB kvs key with
            | some b =>
              obtain ⟨w', hw, rw'⟩ := (pair_getB key hp).2 b e
              rw [hw] at hn; cases hn
            | none =>
              rw [e] at o
              exact Out.give2 o (Evo.write ea) (S.write ea ek (by intro z; cases z) ⟨_, upd_same, pair_putB key r2 hp⟩) r2
        · exact o.elim
      · exact o.elim
    · rename_i kvs ek
      obtain ⟨ws, hv, hp⟩ := S.cell _ _ _ ea ek
      split at o
      · rename_i key ekey
        split at o
        · rename_i hl
          obtain ⟨b, rfl, hb⟩ := keyT_rep ekey r1
          refine .inr ⟨a, ws, key, b, v2, rfl, rfl, hv, S.sub _ _ hb, by rw [pair_len hp]; exact hl, fun v hv' => ?_, fun hn => ?_⟩
          · cases e : getB kvs key with
            | none => rw [(pair_getB key hp).1 e] at hv'; cases hv'
            | some b =>
              obtain ⟨w', hw, rw'⟩ := (pair_getB key hp).2 b e
              rw [hw] at hv'; cases hv'
              rw [e] at o
              exact Out.give o S rw'
          · cases e : getB kvs key with
            | some b =>
              obtain ⟨w', hw, rw'⟩ := (pair_getB key hp).2 b e
              rw [hw] at hn; cases hn
            | none =>
              rw [e] at o
              exact Out.give2 o (Evo.write ea) (S.write ea ek (by intro z; cases z) ⟨_, upd_same, pair_putB key r2 hp⟩) r2
        · exact o.elim
      · exact o.elim
    · exact o.elim
  · exact o.elim
theorem se_setd (hr : Room k X.A) (ho : SE X W o fo) (ha : SA X W [e, i] fs) (hbase : attributeBase o "setdefault" X.env (eval o X.env) = eval o X.env := by rfl)
    (hfew : ((backTo cpos (starEach [e, i] X.env)).all (fun x => !x.1) && (backToKw cpos (keywordEach [] X.env)).all (fun x => x.1.isSome)
      && decide (([e, i]).length + ([] : List Keyword).length + (if ([] : List Keyword).isEmpty then 0 else 1) < 30)) = true := by rfl)
    (hline : (apos.endLine == cpos.line) = true := by rfl) (hs : starEach [e, i] X.env = (false, eval e X.env) :: starEach [i] X.env := by rfl) (hplain : (backTo cpos (starEach [i] X.env)).any (·.1) = false := by rfl) :
    SE X W (.Call (.Attribute o "setdefault" apos) [e, i] [] cpos) (eBM isDct gSetd fo fs) :=
  pe_weak (pe_bm PySem.F.plainAttrs_dict PySem.F.slot_dict_setdefault PySem.F.type_dict_setdefault (mt_setd (by have := hr.units; omega)) ho ha hbase hfew hline hs hplain) fun _ _ _ h => bm_of mg_setd ty_dict h
/-- d.update(e), another dict -/
def rUpdD : V → List V → Hp → VK → Prop := fun x vs H Q => ∃ a b kvs more, x = .ref a ∧ vs = [.ref b] ∧ a ≠ b ∧ H a = some (.dK kvs) ∧ H b = some (.dK more) ∧ kvs.length + more.length ≤ sizeLine ∧ Q .non (upd H a (.dK (mergeK kvs more)))
theorem mt_updD : MtM X "dict.update" rUpdD := by
  intro pins s σ H x xs v us Q I rx rxs ⟨a, b, kvs, more, ex, ey, hne, ha, hb, hl, q⟩
  subst ex ey
  cases rx
  obtain ⟨u1, rfl, r1⟩ := rxs.one
  obtain rfl : u1 = Value.ref b := r1
  obtain ⟨_, hd, vs, rel, dd⟩ := dk_of I.hok ha
  obtain ⟨_, hd2, ws, rel2, dd2⟩ := dk_of I.hok hb
  refine call_meetsIn PySem.F.slot_dict_update dd.typeIs PySem.F.entry_dict_update (PySem.F.args_dict_update_2 _ _) (meets_dict_update (mixKind X.prog X.w) a b hne hd2) ⟨vs, ws, dd, dd2, by rw [← rel.length, ← rel2.length]; exact hl, fun h' dd' _ hs => ?_⟩
  have he : ∃ q, h'.get? a = some q := let ⟨q, _, _, hq, _⟩ := dd'; ⟨q, hq⟩
  have hz : (mergeK kvs more).length ≤ sizeLine := Nat.le_trans (length_mergeK more kvs) hl
  exact ⟨.non, _, d_write (t' := s.toks) I (by rw [ha]; exact True.intro) hs he (dk_new hz hd (rel2.merge rel) dd'), rfl, q⟩
def mergeB (kvs more : List (Key × B)) : List (Key × B) := more.foldl (fun acc kv => putB acc kv.1 kv.2) kvs
theorem pair_merge {K : PySem.W.Frag} {F : Hp} {as : List Addr} : ∀ {ms : List (Key × V)} {mb : List (Key × B)} {vs : List (Key × V)} {bs : List (Key × B)}, Paired (RepP K F as) ms mb → Paired (RepP K F as) vs bs → Paired (RepP K F as) (mergeK vs ms) (mergeB bs mb)
  | _, _, _, _, .nil, h => h
  | p :: ms, q :: mb, vs, bs, .cons r t, h => by
    show Paired _ (mergeK (putK vs p.1 p.2) ms) (mergeB (putB bs q.1 q.2) mb)
    rw [r.1]
    exact pair_merge t (pair_putB _ r.2 h)
def gUpdD (k : Nat) (bs : List B) (cs : Cs) : ER B := match bs with
  | [.r j] => match cs[k]?, cs[j]? with
    | some (.dK kvs), some (.dK more) => if k ≠ j ∧ kvs.length + more.length ≤ sizeLine then .ok (.d .none) (cs.set k (.dK (mergeB kvs more))) else .no
    | _, _ => .no
  | _ => .no
theorem mg_updD {K : PySem.W.Frag} {mg : Str → Option Value} : MtG K mg rUpdD gUpdD := fun {E F as cs H a k vs bs Q} S ea r o => by
  unfold gUpdD at o
  split at o
  · rename_i j
    obtain ⟨v, rfl, b, eb, rfl⟩ := pair1 r
    split at o
    · rename_i kvs more ek ej
      split at o
      · rename_i hc
        obtain ⟨ws, hv, hp⟩ := S.cell _ _ _ ea ek
        obtain ⟨zs, hv2, hp2⟩ := S.cell _ _ _ eb ej
        refine ⟨a, b, ws, zs, rfl, rfl, fun z => ?_, hv, hv2, by rw [pair_len hp, pair_len hp2]; exact hc.2, ?_⟩
        · subst z; exact hc.1 (nd_eq S.nd ea eb)
        · exact Out.give2 o (Evo.write ea) (S.write ea ek (by intro z; cases z) ⟨_, upd_same, pair_merge hp2 hp⟩) .non
      · exact o.elim
    · exact o.elim
  · exact o.elim
theorem se_update (ho : SE X W o fo) (ha : SA X W [e] fs) (hbase : attributeBase o "update" X.env (eval o X.env) = eval o X.env := by rfl)
    (hfew : ((backTo cpos (starEach [e] X.env)).all (fun x => !x.1) && (backToKw cpos (keywordEach [] X.env)).all (fun x => x.1.isSome)
      && decide (([e]).length + ([] : List Keyword).length + (if ([] : List Keyword).isEmpty then 0 else 1) < 30)) = true := by rfl)
    (hline : (apos.endLine == cpos.line) = true := by rfl) (hs : starEach [e] X.env = (false, eval e X.env) :: starEach [] X.env := by rfl) (hplain : (backTo cpos (starEach [] X.env)).any (·.1) = false := by rfl) :
    SE X W (.Call (.Attribute o "update" apos) [e] [] cpos) (eBM isDct gUpdD fo fs) :=
  pe_weak (pe_bm PySem.F.plainAttrs_dict PySem.F.slot_dict_update PySem.F.type_dict_update mt_updD ho ha hbase hfew hline hs hplain) fun _ _ _ h => bm_of mg_updD ty_dict h
end
end VM

/-! VM12: a def's context; bound methods; dict displays; try that lets everything through. -/
namespace VM
open PySem PySem.Spec PyProof.Rows L2
open Classical

section
variable {P : Program} {w : World} {K : PySem.W.Frag} {mg : Str → Option Value} {base : Heap} {N : List Str} {qual : Str} {scope : Scope} {f : Addr} {cd : Value} {A : Around} {outer : List Env} {s : Shared} {H : Hp} {E : XK}
theorem takes_cx : Takes (cxOf (L2.CX P w) P w K mg base N qual scope f cd A outer s H E) (Wc E) := takes_of rfl rfl rfl rfl
theorem owns_cx : PassesOwn (model P w) (cxOf (L2.CX P w) P w K mg base N qual scope f cd A outer s H E).A (cxOf (L2.CX P w) P w K mg base N qual scope f cd A outer s H E).env (cxOf (L2.CX P w) P w K mg base N qual scope f cd A outer s H E).xe := passes_of (X := cxOf (L2.CX P w) P w K mg base N qual scope f cd A outer s H E) rfl
end
theorem takes_no {X : Cx} : Takes X W0 := fun _ _ ⟨_, _, _, _, _, _, _, _, _, _, _, _, _, _, _, _, w⟩ => w.elim
theorem passes_of_takes {X : Cx} {E : XK} (tk : Takes X (Wc E)) : Passes (L2.CX X.prog X.w) X E := passes_call tk fun _ _ _ _ h => h
def E0 : XK := fun _ _ _ => False
theorem passes_no {X : Cx} : Passes (L2.CX X.prog X.w) X E0 := passes_of_takes (E := E0) takes_no
section
variable {X : Cx} {W : WX} {E : XK} {k n i : Nat} {g C : Addr} {x m cls : Str} {p pos apos : Pos} {e o : Expr} {es : List Expr} {fs : Fn (List B)} {fo fk fv : Fn B}
/-! ### o.m as a value -/
def eBound (cls m : Str) (g : Addr) (fo : Fn B) : Fn B := fun sl cs => (fo sl cs).bind fun b cs1 => match b with
  | .r k => match cs1[k]? with
    | some (.ins nm fl) => if nm = cls ∧ fl.lookup m = none then .ok (.m g k) cs1 else .no
    | _ => .no
  | _ => .no
theorem se_bound (hm : X.mg cls = some (.ref C)) (c : Cls X.K C) (b : BMeth X.K C m g) (ho : SE X W o fo) (hb : attributeBase o m X.env (eval o X.env) = eval o X.env := by rfl) : SE X W (.Attribute o m pos) (eBound cls m g fo) := by
  refine ⟨fun pins s σ H Q I h => ?_⟩
  obtain ⟨F, as, sl, cs, hs, S, h⟩ := h
  refine attr_of hb (thn (ho.run pins s σ H _ I ⟨F, as, sl, cs, hs, S, Out.bind mono_B h⟩) fun u s1 ⟨x, H1, I1, rx, F1, as1, a, cs1, e1, S1, r1, o1⟩ => ?_)
  split at o1
  · rename_i k
    obtain ⟨q, ea, rfl⟩ := r1
    obtain rfl : u = Value.ref q := rx
    split at o1
    · rename_i nm fl ek
      split at o1
      · rename_i hc
        obtain ⟨rfl, hl⟩ := hc
        obtain ⟨C', dx, vs, hm', hH, hp⟩ := S1.cell _ _ _ ea ek
        rw [hm] at hm'; cases hm'
        refine getbound_ok I1 hH c b ((lookup_pair hp m).1 hl) fun p' s2 hp' I2 => ⟨.ref p', _, I2, rfl, ?_⟩
        exact Out.give2 o1 (Evo.new S1 hp') (S1.new hp') ⟨p', q, rfl, upd_same, ea⟩
      · exact o1.elim
    · exact o1.elim
  · exact o1.elim
/-! ### a call of such a value, in the slot i -/
abbrev MTab := List (Addr × Nat × (List B → Cs → ER B))
def eCallM (i : Nat) (tb : MTab) (fs : Fn (List B)) : Fn B := fun sl cs => match sl[i]? with
  | some (some (.m f k)) => match tb.find? (fun t => decide (t.1 = f)) with
    | some (_, n, g) => (fs sl cs).bind fun bs cs1 => if bs.length + 1 = n then g (.r k :: bs) cs1 else .no
    | none => .no
  | _ => .no
structure MetOk (X : Cx) (k : Nat) (t : Addr × Nat × (List B → Cs → ER B)) : Prop where
  ex : ∃ (fd : FuncData) (ps : List Str), FnOk X.prog X.w X.K X.mg X.base (L2.CX X.prog X.w) k t.1 fd ps (spM X.K X.mg t.2.1 t.2.2) ∧ Binds X.K fd ps [] ∧ PySem.W.fnIn X.K t.1 = true
theorem se_callM {tb : MTab} (tk : Takes X W) (hr : Room k X.A) (ht : ∀ t ∈ tb, MetOk X k t) (hN : X.N[i]? = some x) (hv : Vis X.env.scope x) (ha : SA X W (e :: es) fs)
    (hdb : (x == ("__debug__" : Str)) = false := by decide) (hcd : (x == ("__classdict__" : Str)) = false := by decide)
    (he : starEach (e :: es) X.env = (false, eval e X.env) :: starEach es X.env := by rfl) (hpl : (backTo pos (starEach es X.env)).any (·.1) = false := by rfl) : SE X W (.Call (.Name x p) (e :: es) [] pos) (eCallM i tb fs) := by
  refine ⟨fun pins s σ H Q I h => ?_⟩
  obtain ⟨F, as, sl, cs, hs, S, h⟩ := h
  unfold eCallM at h
  split at h
  · rename_i f k' esl
    split at h
    · rename_i f' n' g' ef
      have hmem := List.mem_of_find?_eq_some ef
      have hfe : f' = f := by simpa using List.find?_some ef
      subst hfe
      obtain ⟨fd, ps, G, hb, hfn⟩ := (ht _ hmem).ex
      obtain ⟨ov, e1, v, e2, r⟩ := pair_get hs esl
      subst e2
      obtain ⟨q, a, rfl, hF, ea⟩ := r
      refine wpAny_Call_Name_kw (thn ((pe_var (pos := p) hN hv hdb hcd).run pins s σ H (fun v H1 => v = .ref q ∧ H1 = H) I ⟨.ref q, e1, rfl, rfl⟩) fun u s1 ⟨v, H1, I1, r1, q1⟩ => ?_)
      obtain ⟨rfl, rfl⟩ := q1
      cases r1
      have hq : H1 q = some (.met f' a) := S.sub _ _ hF
      have pl : ((backTo pos (starEach (e :: es) X.env)).any (·.1) || (backToKw pos (keywordEach [] X.env)).any (·.1.isNone)) = false := by
        rw [he]
        show ((false || (backTo pos (starEach es X.env)).any (·.1)) || false) = false
        rw [hpl]
        rfl
      refine callwith_met (X := X) (a := a) (first := []) pl hfn ?_
      have hA := ha.run pos pins s1 σ H1 _ I1 ⟨F, as, sl, cs, hs, S, Out.bind mono_B h⟩
      rw [he] at hA ⊢
      refine Calls.evalArgs_plain (thn hA fun us s2 ⟨vs, H2, I2, rr, F2, as2, bs, cs2, ev2, S2, r2, o2⟩ => ?_)
      split at o2
      · rename_i hn
        have hq2 : H2 q = some (.met f' a) := S2.sub _ _ (ev2.ex _ _ hF)
        refine ⟨met_P I2 hq2, wpAny_call (call_met I2 hq2 ?_)⟩
        refine codeAny_mono (G.raw hb .nil X.A X.stack s2 H2 (.ref a :: us) (.ref a :: vs) Q (WE W σ) hr I2.env0 (.cons rfl rr) ?_) fun rs s' hh => ?_
        · show spM X.K X.mg n' g' ((V.ref a :: vs) ++ []) H2 Q (WE W σ)
          rw [List.append_nil]
          exact ⟨F2, as2, .r k' :: bs, cs2, by simp [hn], .cons ⟨a, get_pre ev2.pre ea, rfl⟩ r2, S2, o2⟩
        · cases rs with
          | error err => exact passAt tk σ pins H2 s2 err s' I2 hh
          | ok fl =>
            cases fl with
            | ret u => exact I2.after hh
            | next => exact False.elim hh
            | brk => exact False.elim hh
            | cont => exact False.elim hh
      · exact o2.elim
    · exact h.elim
  · exact h.elim

/-! ### {k: v, ..} -/
def fPairs : List (Fn B × Fn B) → Fn (List (Key × B))
  | [] => fun _ cs => .ok [] cs
  | p :: r => fun sl cs => (p.1 sl cs).bind fun y cs1 => (p.2 sl cs1).bind fun z cs2 => match y with
    | .d x => match keyD x with
      | some ky => (fPairs r sl cs2).bind fun kvs cs3 => .ok ((ky, z) :: kvs) cs3
      | none => .no
    | _ => .no
def eDisp (ps : List (Fn B × Fn B)) : Fn B := fun sl cs => (fPairs ps sl cs).bind fun kvs cs1 => if kvs.length ≤ 15 then .ok (.r cs1.length) (cs1 ++ [.dK (mergeB [] kvs)]) else .no
def SPs (X : Cx) (W : WX) (pos : Pos) (keys : List (Option Expr)) (values : List Expr) (ps : List (Fn B × Fn B)) : Prop := PPs X pos keys values (ps.map fun p => (tG X.K X.mg W (relB X.K) p.1, tG X.K X.mg W (relB X.K) p.2))
theorem sps_nil : SPs X W pos [] [] [] := pps_nil
theorem sps_cons {kx vx : Expr} {ks : List (Option Expr)} {vs : List Expr} {ps : List (Fn B × Fn B)} (hk : SE X W kx fk) (hv : SE X W vx fv) (hr : SPs X W pos ks vs ps) : SPs X W pos (some kx :: ks) (vx :: vs) ((fk, fv) :: ps) := pps_cons hk hv hr
def relP (K : PySem.W.Frag) (H0 : Hp) (D : Addr) (F : Hp) (as : List Addr) (ps : List (V × V)) (kvs : List (Key × B)) : Prop := ∃ vs : List (Key × V), ps = vs.map (fun kv => (kV kv.1, kv.2)) ∧ Paired (RepP K F as) vs kvs
theorem pairs_of {K : PySem.W.Frag} {mg : Str → Option Value} {σ : L2.St} {D : Addr} {o : HO} {H0 : Hp} {F0 : Hp} {as0 : List Addr} {Er : XK} {Q : List (V × V) → Hp → Prop} : ∀ {ps : List (Fn B × Fn B)} {F : Hp} {as : List Addr} {sl : Sl} {cs : Cs} {H : Hp} {k : List (Key × B) → Cs → ER B} {Q2 : VK}, RepS K F as σ sl → Sim K mg F as cs H → F D = none → D ∉ as → H D = some o → Evo F0 as0 H0 F as H → WE W σ = Er →
    Out K mg (relB K) Er F0 as0 H0 ((fPairs ps sl cs).bind k) Q2 →
    (∀ F' as' kvs cs' H' qs, Evo F as H F' as' H' → Evo F0 as0 H0 F' as' H' → Sim K mg F' as' cs' H' → F' D = none → D ∉ as' → H' D = some o → relP K H0 D F' as' qs kvs → Out K mg (relB K) Er F0 as0 H0 (k kvs cs') Q2 → Q qs H') →
    tPairs (ps.map fun p => (tG K mg W (relB K) p.1, tG K mg W (relB K) p.2)) σ H Q
  | [], F, as, sl, cs, H, k, Q2, hs, S, d1, d2, d3, e, eE, h, hq => hq F as [] cs H [] .refl e S d1 d2 d3 ⟨[], rfl, .nil⟩ h
  | p :: r, F, as, sl, cs, H, k, Q2, hs, S, d1, d2, d3, e, eE, h, hq => by
    subst eE
    show tG K mg W (relB K) p.1 σ H fun x H1 => tG K mg W (relB K) p.2 σ H1 fun y H2 => tPairs (r.map fun p => (tG K mg W (relB K) p.1, tG K mg W (relB K) p.2)) σ H2 fun ps H3 => Q ((x, y) :: ps) H3
    refine ⟨F, as, sl, cs, hs, S, ?_⟩
    unfold fPairs at h
    cases q1 : p.1 sl cs with
    | no => rw [q1] at h; exact h.elim
    | ex x c =>
      rw [q1] at h
      exact fun F' as' H' C e' S' m => h F' as' H' C (e.trans e') S' m
    | ok y cs1 =>
      rw [q1] at h
      intro F1 as1 H1 vy e1 S1 r1
      have f1 := e1.fnone d1 d2 d3
      have f3 := e1.keep d3 d2
      refine ⟨F1, as1, sl, cs1, e1.repS hs, S1, ?_⟩
      simp only [ER.bind_ok] at h
      cases q2 : p.2 sl cs1 with
      | no => rw [q2] at h; exact h.elim
      | ex x c =>
        rw [q2] at h
        exact fun F' as' H' C e' S' m => h F' as' H' C ((e.trans e1).trans e') S' m
      | ok z cs2 =>
        rw [q2] at h
        intro F2 as2 H2 vz e2 S2 r2
        have g1 := e2.fnone f1 f3.2 f3.1
        have g3 := e2.keep f3.1 f3.2
        simp only [ER.bind_ok] at h
        split at h
        · rename_i x'
          split at h
          · rename_i ky eky
            have ry : vy = kV ky := key_rep eky (rp_mono e2.ex _ _ (show Rp F1 vy x' from r1))
            have h2 : Out K mg (relB K) (WE W σ) F0 as0 H0 ((fPairs r sl cs2).bind fun kvs cs3 => k ((ky, z) :: kvs) cs3) Q2 := by
              have e9 : ((fPairs r sl cs2).bind fun kvs cs3 => ER.ok ((ky, z) :: kvs) cs3).bind k = (fPairs r sl cs2).bind fun kvs cs3 => k ((ky, z) :: kvs) cs3 := by cases fPairs r sl cs2 <;> rfl
              rw [← e9]; exact h
            refine pairs_of (e2.repS (e1.repS hs)) S2 g1 g3.2 g3.1 ((e.trans e1).trans e2) rfl h2 ?_
            rintro F' as' kvs cs' H' qs e3 e' S' a1 a2 a3 ⟨vs, rfl, pp⟩ oo
            exact hq F' as' ((ky, z) :: kvs) cs' H' _ ((e1.trans e2).trans e3) e' S' a1 a2 a3 ⟨(ky, vz) :: vs, by rw [List.map_cons, ry], .cons ⟨rfl, e3.repB r2⟩ pp⟩ oo
          · exact h.elim
        · exact h.elim
theorem se_disp {keys : List (Option Expr)} {values : List Expr} {ps : List (Fn B × Fn B)} (h : SPs X W pos keys values ps) (hall : keys.all (·.isSome) = true := by rfl) (hl : keys.length = values.length := by rfl) (h0 : keys ≠ [] := by (intro z; cases z)) (h15 : keys.length ≤ 15 := by decide) :
    SE X W (.Dict keys values pos) (eDisp ps) := pe_weak (pe_disp h hall hl h0 h15) fun σ H Q ⟨F, as, sl, cs, hs, S, o⟩ => by
  intro p hp
  refine pairs_of (D := p) (o := .dK []) (F0 := F) (as0 := as) (H0 := H) (Er := WE W σ) hs (S.other (o := .dK []) (S.fnone hp) (S.out hp)) (S.fnone hp) (S.out hp) upd_same (Evo.heap hp) rfl o ?_
  rintro F' as' kvs cs' H' qs _ e' S' a1 a2 a3 ⟨vs, rfl, pp⟩ oo
  refine ⟨a3, vs, rfl, ?_⟩
  split at oo
  · rename_i hl2
    have hm := pair_merge pp (K := X.K) (F := F') (as := as') (vs := []) (bs := []) .nil
    have S2 := S'.other (o := .dK (mergeK [] vs)) a1 a2
    refine ⟨by rw [pair_len pp]; exact hl2, Out.give2 oo ((e'.other hp).add hp) (S2.add (by rw [upd_same]; simp) a1 a2 ⟨_, upd_same, pair_mono (fun _ _ q => ⟨q.1, repB_mono (fun _ _ z => z) ⟨[p], rfl⟩ q.2⟩) hm⟩) ⟨p, ?_, rfl⟩⟩
    rw [← S'.len]
    simp
  · exact oo.elim

/-! ### try: what its body does, the clauses never looked at -/
def sTry0 (g : FnS) : FnS := fun sl cs => match g sl cs with
  | .ex _ _ _ => .no
  | r => r
theorem ss_try0 {body : List Stmt} {h₀ : ExceptHandler} {hs : List ExceptHandler} {gb : FnS} (hb : SSs X.nox W0 body gb) : SS X W (.Try body (h₀ :: hs) [] [] pos) (sTry0 gb) :=
  ps_weak (ps_try_thru0 hb) fun D σ H ⟨F, as, sl, cs, hs, S, o⟩ => by
    refine ⟨F, as, sl, cs, hs, S, ?_⟩
    unfold sTry0 at o
    cases q : gb sl cs with
    | nx a b => rw [q] at o; exact o
    | rt a b => rw [q] at o; exact o
    | bk a b => rw [q] at o; exact o
    | ct a b => rw [q] at o; exact o
    | no => rw [q] at o; exact o
    | ex x a b => rw [q] at o; exact o.elim
end
end VM

/-! VM13: max, min of a row; defs as they stand behind the top. -/
namespace VM
open PySem PySem.Spec PyProof.Rows L2
open Classical

section
variable {prog : Program} {w : World} {A : Around} {E : Value → Shared → Prop} {s : Shared} {l : Addr} {its : List Value} {ns : List Int} {Q : Value → Shared → Prop}
theorem tupIter_old {h : Heap} {o : Obj} {h' : Heap} (hk : ∀ b u, b ∉ [h.objs.size] → (h.push o).get? b = some u → h'.get? b = some u) : ∀ b u, h.get? b = some u → h'.get? b = some u := fun b u e =>
  hk b u (fun hm => by
    have z : b = h.objs.size := by simpa using hm
    exact absurd (z ▸ Heap.lt_size e) (Nat.lt_irrefl _)) (Heap.get?_push_of_some _ e)
theorem max_rawT (hh : A.handled = none) (hl : s.heap.IsTuple l its.toArray) (hi : IntsAre its ns) (hne : 0 < ns.length)
    (h : ∀ h' tk M t', (∀ b o, s.heap.get? b = some o → h'.get? b = some o) → M ∈ ns → (∀ a, a ∈ ns → a ≤ M) → Q (.int M t') { s with heap := h', toks := tk }) : wpAny (model prog w) A (call (.builtin "max") [.ref l]) Q E s := by
  obtain ⟨xs, e⟩ := hi.allInts.items
  have hn : numsOf (intItems xs).toList = ns := by rw [← e]; exact hi.numsOf
  rw [nums_intItems] at hn
  subst hn
  rw [e] at hl
  have hsz : 0 < xs.size := by simpa using hne
  have hlt : l < s.heap.objs.size := by obtain ⟨_, q, _⟩ := hl; exact Heap.lt_size q
  refine call_max_walk (wpAny_pyIter_tuple hl ?_)
  refine ⟨_, [_, l], [_], _, _, _, _, rfl, Walks.tuple (A := A.in1) hh _ l (Nat.ne_of_lt hlt) (intItems xs), ⟨⟨_, Heap.get?_push_size _ rfl, rfl, rfl⟩, hl.push _⟩, fun d hd => ?_, by simpa [intItems] using hsz, CmpOf.ints_gt (numAt xs) (fun _ _ => intItems_at), fun v h' tk hv hk => ?_⟩
  · show d < (s.heap.push _).objs.size
    rw [Heap.size_push]
    rcases (show d = s.heap.objs.size ∨ d = l by simpa using hd) with z | z
    · rw [z]; exact Nat.lt_succ_self _
    · rw [z]; exact Nat.lt_succ_of_lt hlt
  · have hv : (intItems xs)[argBest (fun i j => decide (numAt xs i > numAt xs j)) (xs.size - 1)]? = some v := by simpa [intItems] using hv
    obtain ⟨t, rfl⟩ := intItems_at hv
    obtain ⟨h1, h2⟩ := argBest_gt (numAt xs) (xs.size - 1)
    refine h h' tk _ t (tupIter_old hk) ?_ fun a ha => ?_
    · rw [numAt_eq]; exact PySem.getD_mem (by rw [List.length_map, Array.length_toList]; omega)
    · obtain ⟨j, hj, rfl⟩ := mem_getD ha
      rw [List.length_map, Array.length_toList] at hj
      rw [← numAt_eq]; exact h2 j (by omega)
theorem min_rawT (hh : A.handled = none) (hl : s.heap.IsTuple l its.toArray) (hi : IntsAre its ns) (hne : 0 < ns.length)
    (h : ∀ h' tk M t', (∀ b o, s.heap.get? b = some o → h'.get? b = some o) → M ∈ ns → (∀ a, a ∈ ns → M ≤ a) → Q (.int M t') { s with heap := h', toks := tk }) : wpAny (model prog w) A (call (.builtin "min") [.ref l]) Q E s := by
  obtain ⟨xs, e⟩ := hi.allInts.items
  have hn : numsOf (intItems xs).toList = ns := by rw [← e]; exact hi.numsOf
  rw [nums_intItems] at hn
  subst hn
  rw [e] at hl
  have hsz : 0 < xs.size := by simpa using hne
  have hlt : l < s.heap.objs.size := by obtain ⟨_, q, _⟩ := hl; exact Heap.lt_size q
  refine call_min_walk (wpAny_pyIter_tuple hl ?_)
  refine ⟨_, [_, l], [_], _, _, _, _, rfl, Walks.tuple (A := A.in1) hh _ l (Nat.ne_of_lt hlt) (intItems xs), ⟨⟨_, Heap.get?_push_size _ rfl, rfl, rfl⟩, hl.push _⟩, fun d hd => ?_, by simpa [intItems] using hsz, CmpOf.ints_lt (numAt xs) (fun _ _ => intItems_at), fun v h' tk hv hk => ?_⟩
  · show d < (s.heap.push _).objs.size
    rw [Heap.size_push]
    rcases (show d = s.heap.objs.size ∨ d = l by simpa using hd) with z | z
    · rw [z]; exact Nat.lt_succ_self _
    · rw [z]; exact Nat.lt_succ_of_lt hlt
  · have hv : (intItems xs)[argBest (fun i j => decide (numAt xs i < numAt xs j)) (xs.size - 1)]? = some v := by simpa [intItems] using hv
    obtain ⟨t, rfl⟩ := intItems_at hv
    obtain ⟨h1, h2⟩ := argBest_lt (numAt xs) (xs.size - 1)
    refine h h' tk _ t (tupIter_old hk) ?_ fun a ha => ?_
    · rw [numAt_eq]; exact PySem.getD_mem (by rw [List.length_map, Array.length_toList]; omega)
    · obtain ⟨j, hj, rfl⟩ := mem_getD ha
      rw [List.length_map, Array.length_toList] at hj
      rw [← numAt_eq]; exact h2 j (by omega)
end
section
variable {X : Cx}
def rMaxU (K : PySem.W.Frag) : List V → Hp → VK → Prop := fun vs H Q => ∃ (a : Addr) (ns : List Int), vs = [V.ref a] ∧ (SqL K H a (ns.map V.int) ∨ SqT K H a (ns.map V.int)) ∧ 0 < ns.length ∧ ∀ m, m ∈ ns → (∀ y, y ∈ ns → y ≤ m) → Q (.int m) H
def rMinU (K : PySem.W.Frag) : List V → Hp → VK → Prop := fun vs H Q => ∃ (a : Addr) (ns : List Int), vs = [V.ref a] ∧ (SqL K H a (ns.map V.int) ∨ SqT K H a (ns.map V.int)) ∧ 0 < ns.length ∧ ∀ m, m ∈ ns → (∀ y, y ∈ ns → m ≤ y) → Q (.int m) H
theorem cr_maxU (hc : X.calm = true) : CallR X (.builtin "max") (rMaxU X.K) := by
  intro pins s σ H vs us Q I r ⟨a, ns, e, hs, hne, q⟩
  rcases hs with hs | hs
  · exact cr_max hc pins s σ H vs us Q I r ⟨a, ns, e, hs, hne, q⟩
  · subst e
    obtain ⟨its, rv, hl, _⟩ := I.tuple hs
    rw [Vals.ref1 r]
    exact max_rawT (I.ok.hd hc) hl rv.ints hne fun h' tk m t' hk h1 h2 => ⟨.int _, H, I.kept hk, ⟨_, rfl⟩, q m h1 h2⟩
theorem cr_minU (hc : X.calm = true) : CallR X (.builtin "min") (rMinU X.K) := by
  intro pins s σ H vs us Q I r ⟨a, ns, e, hs, hne, q⟩
  rcases hs with hs | hs
  · exact cr_min hc pins s σ H vs us Q I r ⟨a, ns, e, hs, hne, q⟩
  · subst e
    obtain ⟨its, rv, hl, _⟩ := I.tuple hs
    rw [Vals.ref1 r]
    exact min_rawT (I.ok.hd hc) hl rv.ints hne fun h' tk m t' hk h1 h2 => ⟨.int _, H, I.kept hk, ⟨_, rfl⟩, q m h1 h2⟩
end
section
variable {K : PySem.W.Frag} {mg : Str → Option Value}
def maxI : List Int → Int
  | [] => 0
  | [n] => n
  | n :: r => if n > maxI r then n else maxI r
def minI : List Int → Int
  | [] => 0
  | [n] => n
  | n :: r => if n < minI r then n else minI r
theorem maxI_le : ∀ {ns : List Int} {y : Int}, y ∈ ns → y ≤ maxI ns
  | [], _, h => by simp at h
  | [n], y, h => by simp at h; subst h; exact Int.le_refl _
  | n :: m :: r, y, h => by
    have ih : ∀ z, z ∈ m :: r → z ≤ maxI (m :: r) := fun z hz => maxI_le hz
    show y ≤ if n > maxI (m :: r) then n else maxI (m :: r)
    rcases List.mem_cons.mp h with e | h
    · subst e; split <;> omega
    · have := ih y h
      split <;> omega
theorem maxI_mem : ∀ {ns : List Int}, ns ≠ [] → maxI ns ∈ ns
  | [], h => absurd rfl h
  | [n], _ => by simp [maxI]
  | n :: m :: r, _ => by
    show (if n > maxI (m :: r) then n else maxI (m :: r)) ∈ _
    split
    · exact List.mem_cons_self
    · exact List.mem_cons_of_mem _ (maxI_mem (by simp))
theorem minI_le : ∀ {ns : List Int} {y : Int}, y ∈ ns → minI ns ≤ y
  | [], _, h => by simp at h
  | [n], y, h => by simp at h; subst h; exact Int.le_refl _
  | n :: m :: r, y, h => by
    have ih : ∀ z, z ∈ m :: r → minI (m :: r) ≤ z := fun z hz => minI_le hz
    show (if n < minI (m :: r) then n else minI (m :: r)) ≤ y
    rcases List.mem_cons.mp h with e | h
    · subst e; split <;> omega
    · have := ih y h
      split <;> omega
theorem minI_mem : ∀ {ns : List Int}, ns ≠ [] → minI ns ∈ ns
  | [], h => absurd rfl h
  | [n], _ => by simp [minI]
  | n :: m :: r, _ => by
    show (if n < minI (m :: r) then n else minI (m :: r)) ∈ _
    split
    · exact List.mem_cons_self
    · exact List.mem_cons_of_mem _ (minI_mem (by simp))
def sInts (cs : Cs) (b : B) : Option (List Int) := ((bSeq cs b).bind allD).bind allI
theorem sInts_of {F : Hp} {as : List Addr} {cs : Cs} {H : Hp} {v : V} {b : B} {ns : List Int} (S : Sim K mg F as cs H) (r : RepB K F as v b) (h : sInts cs b = some ns) : ∃ a, v = .ref a ∧ (SqL K H a (ns.map V.int) ∨ SqT K H a (ns.map V.int)) := by
  unfold sInts at h
  obtain ⟨ds, h1, h2⟩ := Option.bind_eq_some_iff.mp h
  obtain ⟨bs, h3, h4⟩ := Option.bind_eq_some_iff.mp h1
  obtain ⟨a, vs, rfl, q, p⟩ := seq_of S r h3
  rw [allD_some h4, allI_some h2] at p
  rw [vInts p] at q
  exact ⟨a, rfl, q⟩
def gMaxS (a : List B) (cs : Cs) : ER B := match a with
  | [b] => match sInts cs b with
    | some ns => if ns = [] then .no else .ok (.d (.int (maxI ns))) cs
    | none => .no
  | _ => .no
def gMinS (a : List B) (cs : Cs) : ER B := match a with
  | [b] => match sInts cs b with
    | some ns => if ns = [] then .no else .ok (.d (.int (minI ns))) cs
    | none => .no
  | _ => .no
theorem lg_maxS : LsG K mg (rMaxU K) gMaxS := fun {E F as cs H x a Q} S r o => by
  unfold gMaxS at o
  split at o
  · split at o
    · rename_i ns e
      split at o
      · exact o.elim
      · rename_i hne
        obtain ⟨x, rfl, r0⟩ := pair1 r
        obtain ⟨p, rfl, q⟩ := sInts_of S r0 e
        refine ⟨p, ns, rfl, q, List.length_pos_iff.mpr hne, fun m h1 h2 => ?_⟩
        have z : m = maxI ns := Int.le_antisymm (maxI_le h1) (h2 _ (maxI_mem hne))
        rw [z]
        exact Out.give o S (.int _)
    · exact o.elim
  · exact o.elim
theorem lg_minS : LsG K mg (rMinU K) gMinS := fun {E F as cs H x a Q} S r o => by
  unfold gMinS at o
  split at o
  · split at o
    · rename_i ns e
      split at o
      · exact o.elim
      · rename_i hne
        obtain ⟨x, rfl, r0⟩ := pair1 r
        obtain ⟨p, rfl, q⟩ := sInts_of S r0 e
        refine ⟨p, ns, rfl, q, List.length_pos_iff.mpr hne, fun m h1 h2 => ?_⟩
        have z : m = minI ns := Int.le_antisymm (h2 _ (minI_mem hne)) (minI_le h1)
        rw [z]
        exact Out.give o S (.int _)
    · exact o.elim
  · exact o.elim
end

/-! ### defs as they stand behind the top, with defaults or without -/
structure FunA (K : PySem.W.Frag) (x qual : Str) (st : Stmt) (f : Addr) (fd : FuncData) : Prop where
  ex : ∃ (oc : Value) (od : Option Addr) (dV kV doc pm : Value) (an : Option Addr) (cdv ct : Value) (osl : Array (Option Value)),
    fd = PySem.W.fnOf x qual (defArgs st) (defBody st) (defScope st) dV kV doc pm an cdv ct ∧ K.lookup f = some ⟨oc, od, .func fd, osl⟩ ∧ PySem.W.codeIn K cdv qual = true
  kp : PySem.W.keepIn K (.ref f) = true
section
variable {K : PySem.W.Frag} {mg : Str → Option Value}
theorem funA_of {x qual : Str} {st : Stmt} {f : Addr} {fd : FuncData} (F : Fun K x qual st f fd) : FunA K x qual st f fd := by
  obtain ⟨oc, od, kV, doc, pm, an, cdv, ct, osl, rfl, l, c⟩ := F.ex
  exact ⟨⟨oc, od, .none, kV, doc, pm, an, cdv, ct, osl, rfl, l, c⟩, F.kp⟩
theorem funA_mk {x qual : Str} {st : Stmt} {f : Addr} {oc : Value} {od an : Option Addr} {osl : Array (Option Value)} {dV kV doc pm cdv ct : Value} (l : K.lookup f = some ⟨oc, od, .func (PySem.W.fnOf x qual (defArgs st) (defBody st) (defScope st) dV kV doc pm an cdv ct), osl⟩)
    (c : PySem.W.codeIn K cdv qual = true) (k : PySem.W.keepIn K (.ref f) = true) : FunA K x qual st f (PySem.W.fnOf x qual (defArgs st) (defBody st) (defScope st) dV kV doc pm an cdv ct) := ⟨⟨oc, od, dV, kV, doc, pm, an, cdv, ct, osl, rfl, l, c⟩, k⟩
theorem fnA_ok {P : Program} {w : World} {base : Heap} {x qual : Str} {st : Stmt} {f : Addr} {fd : FuncData} {N ps : List Str} {k : Nat} {body : FnS} {end_ : Cs → ER B → ER B} (F : FunA K x qual st f fd) (S : FnScope N ps (defScope st)) (he : EndOk K mg end_)
    (hbody : ∀ (cdv : Value) (A : Around) (outer : List Env) (s : Shared) (H : Hp) (E : XK), Room k (A.deeper (envOfC qual (defScope st) s.heap.objs.size f cdv)) →
      SSs (cxOf (L2.CX P w) P w K mg base N qual (defScope st) f cdv A outer s H E) (Wc E) (defBody st) body) :
    FnOk P w K mg base (L2.CX P w) (k + 1) f fd ps (spM K mg ps.length (mDef N.length body end_)) := by
  obtain ⟨oc, od, dV, kV, doc, pm, an, cdv, ct, osl, rfl, lk, hcd⟩ := F.ex
  refine fn_of lk hcd S (fun vs H Q E ⟨_, _, bs, _, hn, hp, _⟩ => by rw [pair_len hp, hn]) fun A outer s H vs Q E hr ⟨F0, as, bs, cs, hn, hp, hS, o⟩ => ?_
  refine ⟨_, hbody cdv A outer s H E hr, F0, as, bs.map some ++ List.replicate (N.length - bs.length) none, cs, ?_, hS, ?_⟩
  · show RepS K F0 as (L2.start N vs) (bs.map some ++ List.replicate (N.length - bs.length) none)
    unfold L2.start
    rw [pair_len hp]
    exact pair_app (pair_start hp) (pair_none _)
  · have o2 := he _ _ _ _ _ _ _ hS o
    generalize body (bs.map some ++ List.replicate (N.length - bs.length) none) cs = r at o2
    show OutS K mg (Wc E) F0 as H r _
    cases r with
    | nx sl c => exact fun F' as' H' σ' e' S' hs => o2 F' as' H' .non e' S' .non
    | rt b c => exact fun F' as' H' v e' S' r => o2 F' as' H' v e' S' r
    | bk sl c => exact o2.elim
    | ct sl c => exact o2.elim
    | ex x sl c => exact fun F' as' H' σ' C e' S' hs m => o2 F' as' H' C e' S' m
    | no => exact o2.elim
end
/-- a def of the module: its promise -/
structure Fd (P : Program) (w : World) (K : PySem.W.Frag) (mg : Str → Option Value) (base : Heap) (k : Nat) (x : Str) (n : Nat) (g : List B → Cs → ER B) : Prop where
  ex : ∃ (f : Addr) (fd : FuncData) (ps : List Str), mg x = some (.ref f) ∧ PySem.W.keepIn K (.ref f) = true ∧ Binds K fd ps [] ∧ FnOk P w K mg base (L2.CX P w) k f fd ps (spM K mg n g)
/-- a method -/
structure Md (P : Program) (w : World) (K : PySem.W.Frag) (mg : Str → Option Value) (base : Heap) (k : Nat) (cls m : Str) (n : Nat) (g : List B → Cs → ER B) : Prop where
  ex : ∃ (C f : Addr) (fd : FuncData) (ps : List Str), mg cls = some (.ref C) ∧ Cls K C ∧ Meth K C m f ∧ Binds K fd ps [] ∧ FnOk P w K mg base (L2.CX P w) k f fd ps (spM K mg n g)
/-- a class to be made -/
structure Cd (P : Program) (w : World) (K : PySem.W.Frag) (mg : Str → Option Value) (base : Heap) (k : Nat) (cls : Str) (n : Nat) (g : List B → Cs → ER B) : Prop where
  ex : ∃ (C f : Addr) (fd : FuncData) (ps : List Str), mg cls = some (.ref C) ∧ Mk K C f ∧ Binds K fd ps [] ∧ FnOk P w K mg base (L2.CX P w) k f fd ps (spM K mg n g)
/-- a field of a class -/
structure Fl (K : PySem.W.Frag) (mg : Str → Option Value) (cls fl : Str) : Prop where
  ex : ∃ C : Addr, mg cls = some (.ref C) ∧ Cls K C ∧ NoAttr K C fl
/-- a bound method's def: g its place -/
structure Bd (P : Program) (w : World) (K : PySem.W.Frag) (mg : Str → Option Value) (base : Heap) (k : Nat) (cls m : Str) (f : Addr) (n : Nat) (g : List B → Cs → ER B) : Prop where
  ex : ∃ (C : Addr) (fd : FuncData) (ps : List Str), mg cls = some (.ref C) ∧ Cls K C ∧ BMeth K C m f ∧ Binds K fd ps [] ∧ FnOk P w K mg base (L2.CX P w) k f fd ps (spM K mg n g)
/-- a constant of the module -/
structure Gd (K : PySem.W.Frag) (mg : Str → Option Value) (x : Str) (b : B) : Prop where
  ex : ∃ (v : V) (u : Value), mg x = some u ∧ RelV v u ∧ ∀ F as, RepB K F as v b
section
variable {X : Cx} {W : WX} {E : XK} {k j n : Nat} {f : Addr} {x cls m fl : Str} {p pos apos pos' : Pos} {e o value : Expr} {es : List Expr} {fs : Fn (List B)} {fo fv : Fn B} {g : List B → Cs → ER B} {b : B}
theorem se_g (d : Gd X.K X.mg x b) (hg : Gl X x := by rfl) (hd : (x == ("__debug__" : Str)) = false := by decide) : SE X W (.Name x pos) (eB b) :=
  let ⟨_, _, h1, h2, h3⟩ := d.ex
  se_glob hg h1 h2 h3 hd
theorem se_f (d : Fd X.prog X.w X.K X.mg X.base j x n g) (hj : j ≤ k) (tk : Takes X W) (hr : Room k X.A) (ha : SA X W (e :: es) fs)
    (hg : Gl X x := by rfl) (hdb : (x == ("__debug__" : Str)) = false := by decide) (he : starEach (e :: es) X.env = (false, eval e X.env) :: starEach es X.env := by rfl) (hpl : (backTo pos (starEach es X.env)).any (·.1) = false := by rfl) :
    SE X W (.Call (.Name x p) (e :: es) [] pos) (eFn n g fs) :=
  let ⟨_, _, _, h1, h2, h3, h4⟩ := d.ex
  se_call tk h4 (hr.mono hj) h1 h2 h3 ha hg hdb he hpl
theorem se_m {pl : Sem Bool} (d : Md X.prog X.w X.K X.mg X.base j cls m n g) (hj : j ≤ k) (tk : Takes X (Wc E)) (hr : Room k X.A) (ho : SE X (Wc E) o fo) (ha : SA X (Wc E) (e :: es) fs)
    (hst : starEach (e :: es) X.env = (false, eval e X.env) :: starEach es X.env := by rfl) (hpl : (backTo pos (starEach es X.env)).any (·.1) = false := by rfl)
    (ht : eval (.Call (.Attribute o m apos) (e :: es) [] pos) X.env = (do
      let ov ← eval o X.env
      standAt apos.atName
      let (f, first) ← holding [ov] (getMethod ov m pl)
      callWith pos f first (backTo pos (starEach (e :: es) X.env)) (backToKw pos (keywordEach [] X.env))) := by rfl) : SE X (Wc E) (.Call (.Attribute o m apos) (e :: es) [] pos) (eMeth cls m n g fo fs) :=
  let ⟨_, _, _, _, h1, h2, h3, h4, h5⟩ := d.ex
  se_meth (passes_of_takes tk) h1 h2 h3 h5 (hr.mono hj) h4 ho ha hst hpl ht
theorem se_m0 {pl : Sem Bool} (d : Md X.prog X.w X.K X.mg X.base j cls m n g) (hj : j ≤ k) (tk : Takes X (Wc E)) (hr : Room k X.A) (ho : SE X (Wc E) o fo)
    (ht : eval (.Call (.Attribute o m apos) [] [] pos) X.env = (do
      let ov ← eval o X.env
      standAt apos.atName
      let (f, first) ← holding [ov] (getMethod ov m pl)
      callWith pos f first (backTo pos (starEach [] X.env)) (backToKw pos (keywordEach [] X.env))) := by rfl) : SE X (Wc E) (.Call (.Attribute o m apos) [] [] pos) (eMeth cls m n g fo aNil) :=
  let ⟨_, _, _, _, h1, h2, h3, h4, h5⟩ := d.ex
  se_meth0 (passes_of_takes tk) h1 h2 h3 h5 (hr.mono hj) h4 ho ht
theorem se_mk (d : Cd X.prog X.w X.K X.mg X.base j cls n g) (hj : j + 1 ≤ k) (tk : Takes X (Wc E)) (hr : Room k X.A) (ha : SA X (Wc E) (e :: es) fs) (hg : Gl X cls := by rfl)
    (hdb : (cls == ("__debug__" : Str)) = false := by decide) (he : starEach (e :: es) X.env = (false, eval e X.env) :: starEach es X.env := by rfl) (hpl : (backTo pos (starEach es X.env)).any (·.1) = false := by rfl) : SE X (Wc E) (.Call (.Name cls p) (e :: es) [] pos) (eMake cls n g fs) :=
  let ⟨_, _, _, _, h1, h2, h3, h4⟩ := d.ex
  se_make (passes_of_takes tk) h2 h4 (hr.mono hj) h1 h3 ha hg hdb he hpl
theorem se_mkS {sp_ : Pos} (d : Cd X.prog X.w X.K X.mg X.base j cls n g) (hj : j + 1 ≤ k) (tk : Takes X (Wc E)) (hr : Room k X.A) (he : SE X (Wc E) e fo) (hg : Gl X cls := by rfl)
    (hdb : (cls == ("__debug__" : Str)) = false := by decide) (hst : starEach [.Starred e sp_] X.env = [(true, eval e X.env)] := by rfl) : SE X (Wc E) (.Call (.Name cls p) [.Starred e sp_] [] pos) (eMake cls n g (aStar fo aNil)) :=
  let ⟨_, _, _, _, h1, h2, h3, h4⟩ := d.ex
  se_makeS (passes_of_takes tk) h2 h4 (hr.mono hj) h1 h3 he hg hdb hst
theorem se_fl (d : Fl X.K X.mg cls fl) (ho : SE X W o fo) (hb : attributeBase o fl X.env (eval o X.env) = eval o X.env := by rfl) : SE X W (.Attribute o fl pos) (eFld cls fl fo) :=
  let ⟨_, h1, h2, h3⟩ := d.ex
  se_fld h1 h2 h3 ho hb
theorem ss_fl (d : Fl X.K X.mg cls fl) (ho : SE X W o fo) (hv : SE X W value fv) (hs : swapsWith value (some (.Attribute o fl pos')) pos.line X.env = pure false := by rfl) : SS X W (.Assign [.Attribute o fl pos'] value pos) (sFldSet cls fl fo fv) :=
  let ⟨_, h1, h2, h3⟩ := d.ex
  ss_fld h1 h2 h3 ho hv hs
theorem se_bd (d : Bd X.prog X.w X.K X.mg X.base j cls m f n g) (ho : SE X W o fo) (hb : attributeBase o m X.env (eval o X.env) = eval o X.env := by rfl) : SE X W (.Attribute o m pos) (eBound cls m f fo) :=
  let ⟨_, _, _, h1, h2, h3, _, _⟩ := d.ex
  se_bound h1 h2 h3 ho hb
theorem bd_met (d : Bd X.prog X.w X.K X.mg X.base j cls m f n g) (hj : j ≤ k) : MetOk X k (f, n, g) :=
  let ⟨_, fd, ps, _, _, h3, h4, h5⟩ := d.ex
  ⟨fd, ps, h5.mono hj, h4, h3.fi⟩
end
end VM

/-! VM14: what the printer of the walks leans on. -/
namespace VM
open PySem PySem.Spec PyProof.Rows L2
open Classical

def blkB (N : List Str) (sc scope : Scope) (own : List (Str × Nat)) : Bool :=
  (scope.names.all fun y => decide (scope.names.lookup y.1 = some y.2)) && (own.all fun p => decide (N[p.2]? = some p.1)) &&
  (scope.names.all fun y => decide (y.2 = .free) == false || decide (sc.names.lookup y.1 = some .cell) || decide (sc.names.lookup y.1 = some .free)) &&
  (scope.names.all fun y => (decide (y.2 = .local) == false && decide (y.2 = .cell) == false) || (own.map (·.1)).contains y.1 || !N.contains y.1)
theorem blk_of {N : List Str} {sc scope : Scope} {own : List (Str × Nat)} (hk : scope.kind = .function) (h : blkB N sc scope own = true) : BlkOk N sc scope own := by
  unfold blkB at h
  simp only [Bool.and_eq_true, List.all_eq_true] at h
  obtain ⟨⟨⟨h1, h2⟩, h3⟩, h4⟩ := h
  refine ⟨hk, fun y hy => of_decide_eq_true (h1 y hy), fun p hp => of_decide_eq_true (h2 p hp), fun y hy e => ?_, fun y hy e => ?_⟩
  · have := h3 y hy
    simpa [e] using this
  · have := h4 y hy
    have z : ((own.map (·.1)).contains y.1 || !N.contains y.1) = true := by
      rcases e with e | e <;> simpa [e] using this
    rcases Bool.or_eq_true _ _ ▸ z with q | q
    · exact .inl (by simpa using q)
    · exact .inr (by simpa using q)
/-! ### the facts that k_is finds -/
structure Raw (K : PySem.W.Frag) (mg : Str → Option Value) (x qual : Str) (st : Stmt) (ps : List Str) : Prop where
  ex : ∃ (f : Addr) (fd : FuncData), mg x = some (.ref f) ∧ FunA K x qual st f fd ∧ Binds K fd ps []
structure RawM (K : PySem.W.Frag) (mg : Str → Option Value) (cls m qual : Str) (st : Stmt) (ps : List Str) : Prop where
  ex : ∃ (C f : Addr) (fd : FuncData), mg cls = some (.ref C) ∧ Cls K C ∧ Meth K C m f ∧ FunA K m qual st f fd ∧ Binds K fd ps []
structure RawC (K : PySem.W.Frag) (mg : Str → Option Value) (cls qual : Str) (st : Stmt) (ps : List Str) : Prop where
  ex : ∃ (C f : Addr) (fd : FuncData), mg cls = some (.ref C) ∧ Mk K C f ∧ FunA K "__init__" qual st f fd ∧ Binds K fd ps []
structure RawB (K : PySem.W.Frag) (mg : Str → Option Value) (cls m qual : Str) (st : Stmt) (ps : List Str) (f : Addr) : Prop where
  ex : ∃ (C : Addr) (fd : FuncData), mg cls = some (.ref C) ∧ Cls K C ∧ BMeth K C m f ∧ FunA K m qual st f fd ∧ Binds K fd ps []
section
variable {P : Program} {w : World} {K : PySem.W.Frag} {mg : Str → Option Value} {base : Heap} {x m cls qual : Str} {st : Stmt} {N ps : List Str} {k : Nat} {body : FnS} {end_ : Cs → ER B → ER B} {f : Addr}
abbrev BodyOk (P : Program) (w : World) (K : PySem.W.Frag) (mg : Str → Option Value) (base : Heap) (k : Nat) (qual : Str) (st : Stmt) (N : List Str) (body : FnS) : Prop :=
  ∀ (f : Addr) (cdv : Value) (A : Around) (outer : List Env) (s : Shared) (H : Hp) (E : XK), Room k (A.deeper (envOfC qual (defScope st) s.heap.objs.size f cdv)) →
      SSs (cxOf (L2.CX P w) P w K mg base N qual (defScope st) f cdv A outer s H E) (Wc E) (defBody st) body
theorem fd_of (R : Raw K mg x qual st ps) (S : FnScope N ps (defScope st)) (he : EndOk K mg end_) (hb : BodyOk P w K mg base k qual st N body) : Fd P w K mg base (k + 1) x ps.length (mDef N.length body end_) :=
  let ⟨f, fd, h1, h2, h3⟩ := R.ex
  ⟨f, fd, ps, h1, h2.kp, h3, fnA_ok h2 S he (hb f)⟩
theorem md_of (R : RawM K mg cls m qual st ps) (S : FnScope N ps (defScope st)) (he : EndOk K mg end_) (hb : BodyOk P w K mg base k qual st N body) : Md P w K mg base (k + 1) cls m ps.length (mDef N.length body end_) :=
  let ⟨C, f, fd, h1, h2, h3, h4, h5⟩ := R.ex
  ⟨C, f, fd, ps, h1, h2, h3, h5, fnA_ok h4 S he (hb f)⟩
theorem cd_of (R : RawC K mg cls qual st ps) (S : FnScope N ps (defScope st)) (he : EndOk K mg end_) (hb : BodyOk P w K mg base k qual st N body) : Cd P w K mg base (k + 1) cls ps.length (mDef N.length body end_) :=
  let ⟨C, f, fd, h1, h2, h3, h4⟩ := R.ex
  ⟨C, f, fd, ps, h1, h2, h4, fnA_ok h3 S he (hb f)⟩
theorem bd_of (R : RawB K mg cls m qual st ps f) (S : FnScope N ps (defScope st)) (he : EndOk K mg end_) (hb : BodyOk P w K mg base k qual st N body) : Bd P w K mg base (k + 1) cls m f ps.length (mDef N.length body end_) :=
  let ⟨C, fd, h1, h2, h3, h4, h5⟩ := R.ex
  ⟨C, fd, ps, h1, h2, h3, h5, fnA_ok h4 S he (hb f)⟩
end
end VM
namespace VM
open PySem PySem.Spec PyProof.Rows L2
theorem Bd.md {P : Program} {w : World} {K : PySem.W.Frag} {mg : Str → Option Value} {base : Heap} {k n : Nat} {cls m : Str} {f : Addr} {g : List B → Cs → ER B} (d : Bd P w K mg base k cls m f n g) : Md P w K mg base k cls m n g :=
  let ⟨C, fd, ps, h1, h2, h3, h4, h5⟩ := d.ex
  ⟨C, f, fd, ps, h1, h2, h3.mt, h4, h5⟩
theorem RawB.m {K : PySem.W.Frag} {mg : Str → Option Value} {cls m qual : Str} {st : Stmt} {ps : List Str} {f : Addr} (r : RawB K mg cls m qual st ps f) : RawM K mg cls m qual st ps :=
  let ⟨C, fd, h1, h2, h3, h4, h5⟩ := r.ex
  ⟨C, f, fd, h1, h2, h3.mt, h4, h5⟩
end VM
namespace VM
open PySem PySem.Spec PyProof.Rows L2
theorem bt_len : bootBuiltins "len" = some (.builtin "len") := by decide +kernel
theorem bt_sum : bootBuiltins "sum" = some (.builtin "sum") := by decide +kernel
theorem bt_max : bootBuiltins "max" = some (.builtin "max") := by decide +kernel
theorem bt_min : bootBuiltins "min" = some (.builtin "min") := by decide +kernel
theorem bt_all : bootBuiltins "all" = some (.builtin "all") := by decide +kernel
theorem bt_any : bootBuiltins "any" = some (.builtin "any") := by decide +kernel
theorem bt_abs : bootBuiltins "abs" = some (.builtin "abs") := by decide +kernel
theorem bt_int : bootBuiltins "int" = some (.type "int") := by decide +kernel
theorem bt_tuple : bootBuiltins "tuple" = some (.type "tuple") := by decide +kernel
theorem bt_sorted : bootBuiltins "sorted" = some (.builtin "sorted") := by decide +kernel
theorem bt_list : bootBuiltins "list" = some (.type "list") := by decide +kernel
def gIsNU : B → B → Cs → ER B := fun a b cs => if noC a = true then gIsN a b cs else .no
def gNotNU : B → B → Cs → ER B := fun a b cs => if noC a = true then gNotN a b cs else .no
end VM

/-! VM15: name = a comprehension, on one line, the name a local. -/
namespace VM
open PySem PySem.Spec PyProof.Rows L2
open Classical

section
variable {K : PySem.W.Frag} {mg : Str → Option Value} {W : WX} {σ : L2.St} {H : Hp} {Q : VK} {g : Fn (List B)} {f : Fn B} {i : Nat} {D : Ends}
theorem frz_of (h : tG K mg W (relB K) (eFrz g) σ H Q) : tG K mg W (relL K) g σ H Q := by
  obtain ⟨F, as, sl, cs, hs, S, h⟩ := h
  refine ⟨F, as, sl, cs, hs, S, (Out.bind0 h).imp ?_⟩
  rintro v H1 ⟨F1, as1, bs, cs1, e1, S1, ⟨p, vs, rfl, h1, h2, h3, h4, hz, h5⟩, o1⟩
  split at o1
  · rename_i ds ed
    rw [allD_some ed] at h5
    refine Out.give2 o1 (e1.know S1 h1 h3 h4) (S1.know h1 h3) ?_
    exact .lst upd_same (rpAll_of (K := K) (pair_mono (fun _ _ q => repB_mono (upd_grow h2) (as := as1) (as' := as1) ⟨[], by simp⟩ q) h5))
  · exact o1.elim
theorem cell_of2 (h : tG K mg W (relB K) (eCell g) σ H Q) : tG K mg W (relL K) g σ H Q := by
  obtain ⟨F, as, sl, cs, hs, S, h⟩ := h
  refine ⟨F, as, sl, cs, hs, S, (Out.bind0 h).imp ?_⟩
  rintro v H1 ⟨F1, as1, bs, cs1, e1, S1, ⟨p, vs, rfl, h1, h2, h3, h4, hz, h5⟩, o1⟩
  refine Out.give2 o1 (e1.add h4) (S1.add (by rw [h1]; simp) h2 h3 (c := .lst bs) ⟨vs, h1, pair_mono (fun _ _ q => repB_mono (fun _ _ z => z) ⟨[p], rfl⟩ q) h5⟩) ⟨p, ?_, rfl⟩
  rw [← S1.len]
  simp
theorem set_of (h : tS K mg W (sSet i f) D σ H) : tG K mg W (relB K) f σ H (fun v H1 => D.nx (σ.set i (some v)) H1) := by
  obtain ⟨F, as, sl, cs, hs, S, h⟩ := h
  refine ⟨F, as, sl, cs, hs, S, (OutS.bind hs h).imp ?_⟩
  rintro v H1 ⟨F1, as1, b, cs1, e1, hs1, S1, r1, o1⟩
  exact OutS.nxt o1 S1 (pair_set (show RepO K F1 as1 (some v) (some b) from ⟨v, rfl, r1⟩) i hs1)
end
theorem swL {env : Env} {y : Str} {elt : Expr} {gs : List Comprehension} {scope : Scope} {pos py : Pos} {l : Nat} (h : (env.blockKind == .function && env.kindOf y == some .local && py.line == pos.line && !scope.names.any fun (n, k) => n == y && (k == .local || k == .cell)) = true) :
    swapsWith (.ListComp elt gs scope pos) (some (.Name y py)) l env = pure true := by
  show (pure (env.blockKind == .function && env.kindOf y == some .local && py.line == pos.line && !scope.names.any fun (n, k) => n == y && (k == .local || k == .cell)) : Sem Bool) = pure true
  rw [h]
theorem swD {env : Env} {y : Str} {kx vx : Expr} {gs : List Comprehension} {scope : Scope} {pos py : Pos} {l : Nat} (h : (env.blockKind == .function && env.kindOf y == some .local && py.line == pos.line && !scope.names.any fun (n, k) => n == y && (k == .local || k == .cell)) = true) :
    swapsWith (.DictComp kx vx gs scope pos) (some (.Name y py)) l env = pure true := by
  show (pure (env.blockKind == .function && env.kindOf y == some .local && py.line == pos.line && !scope.names.any fun (n, k) => n == y && (k == .local || k == .cell)) : Sem Bool) = pure true
  rw [h]
section
variable {X : Cx} {W : WX} {elt tg iter kx vx : Expr} {ifs : List Expr} {scope : Scope} {own : List (Str × Nat)} {pos spos py : Pos} {fi : Fn (List B × (Cs → Prop))} {tf : TgF} {ws : List Nat} {tt : Fn Bool} {te tk tv : Fn B} {y : Str} {k : Nat}
theorem ss_setLF (i : Nat) (hN : X.N.Nodup) (hi : SI X W tg iter fi) (ok : BlkOk X.N X.env.scope scope own)
    (hg : ∀ (s : Shared) (H : Hp) (C : Addr) (cl : List (Str × Addr)) (fp : List Addr), SG (X.blk s H scope (compEnvC scope cl C X.env) fp) tg ws tf)
    (ht : ∀ (s : Shared) (H : Hp) (C : Addr) (cl : List (Str × Addr)) (fp : List Addr), STs (X.blk s H scope (compEnvC scope cl C X.env) fp) W0 ifs tt)
    (he : ∀ (s : Shared) (H : Hp) (C : Addr) (cl : List (Str × Addr)) (fp : List Addr), SE (X.blk s H scope (compEnvC scope cl C X.env) fp) W0 elt te)
    (hsw : (X.env.blockKind == .function && X.env.kindOf y == some .local && py.line == pos.line && !scope.names.any fun (n, k) => n == y && (k == .local || k == .cell)) = true)
    (hw : ∀ j ∈ ws, j ∈ own.map (·.2) := by decide) (hy : X.N[i]? = some y := by rfl) (hyl : X.env.scope.names.lookup y = some .local := by rfl) (hc : X.calm = true := by rfl) (hs : ∀ x, foldedSetIterable iter X.env x = pure x := by intro _; rfl) :
    SS X W (.Assign [.Name y py] (.ListComp elt [⟨tg, iter, ifs, 0⟩] scope pos) spos) (sSet i (eFrz (lComp fi tf tt te (own.map (·.2))))) :=
  ps_weak (ps_setLc (g := tTg X.K X.mg ws tf) (tt := tG X.K X.mg W0 relT tt) (te := tG X.K X.mg W0 (relB X.K) te) hc hN hy hyl (swL hsw) hi ok hg ht he hs) fun D σ H h => lc_of hw (frz_of (set_of h))
theorem ss_setLC (i : Nat) (hN : X.N.Nodup) (hi : SI X W tg iter fi) (ok : BlkOk X.N X.env.scope scope own)
    (hg : ∀ (s : Shared) (H : Hp) (C : Addr) (cl : List (Str × Addr)) (fp : List Addr), SG (X.blk s H scope (compEnvC scope cl C X.env) fp) tg ws tf)
    (ht : ∀ (s : Shared) (H : Hp) (C : Addr) (cl : List (Str × Addr)) (fp : List Addr), STs (X.blk s H scope (compEnvC scope cl C X.env) fp) W0 ifs tt)
    (he : ∀ (s : Shared) (H : Hp) (C : Addr) (cl : List (Str × Addr)) (fp : List Addr), SE (X.blk s H scope (compEnvC scope cl C X.env) fp) W0 elt te)
    (hsw : (X.env.blockKind == .function && X.env.kindOf y == some .local && py.line == pos.line && !scope.names.any fun (n, k) => n == y && (k == .local || k == .cell)) = true)
    (hw : ∀ j ∈ ws, j ∈ own.map (·.2) := by decide) (hy : X.N[i]? = some y := by rfl) (hyl : X.env.scope.names.lookup y = some .local := by rfl) (hc : X.calm = true := by rfl) (hs : ∀ x, foldedSetIterable iter X.env x = pure x := by intro _; rfl) :
    SS X W (.Assign [.Name y py] (.ListComp elt [⟨tg, iter, ifs, 0⟩] scope pos) spos) (sSet i (eCell (lComp fi tf tt te (own.map (·.2))))) :=
  ps_weak (ps_setLc (g := tTg X.K X.mg ws tf) (tt := tG X.K X.mg W0 relT tt) (te := tG X.K X.mg W0 (relB X.K) te) hc hN hy hyl (swL hsw) hi ok hg ht he hs) fun D σ H h => lc_of hw (cell_of2 (set_of h))
theorem ps_setDc {i : Nat} {wi : TI} {g : TG} {tt : TT} {tk tv : TE} {o0 : HO} {Put : Hp → Addr → V → V → (Hp → Prop) → Prop} (hnew : NewOk X.prog X.w o0) (hput : PutOk X.prog X.w X.A Put) (hc : X.calm = true) (hN : X.N.Nodup) (hy : X.N[i]? = some y) (hyl : X.env.scope.names.lookup y = some .local)
    (hsw : swapsWith (.DictComp kx vx [⟨tg, iter, ifs, 0⟩] scope pos) (some (.Name y py)) spos.line X.env = pure true) (hi : PI X tg iter wi) (ok : BlkOk X.N X.env.scope scope own)
    (hg : ∀ (s : Shared) (H : Hp) (C : Addr) (cl : List (Str × Addr)) (fp : List Addr), PG (X.blk s H scope (compEnvC scope cl C X.env) fp) tg g) (ht : ∀ (s : Shared) (H : Hp) (C : Addr) (cl : List (Str × Addr)) (fp : List Addr), PTs (X.blk s H scope (compEnvC scope cl C X.env) fp) ifs tt)
    (hk : ∀ (s : Shared) (H : Hp) (C : Addr) (cl : List (Str × Addr)) (fp : List Addr), PE (X.blk s H scope (compEnvC scope cl C X.env) fp) kx tk)
    (he : ∀ (s : Shared) (H : Hp) (C : Addr) (cl : List (Str × Addr)) (fp : List Addr), PE (X.blk s H scope (compEnvC scope cl C X.env) fp) vx tv) (hs : ∀ x, foldedSetIterable iter X.env x = pure x) :
    PS X (.Assign [.Name y py] (.DictComp kx vx [⟨tg, iter, ifs, 0⟩] scope pos) spos) (fun D σ H => tDcG o0 Put wi g tt tk tv (own.map (·.2)) σ H fun v H1 => D.nx (σ.set i (some v)) H1) := by
  refine ⟨fun pins s σ H D I h => ?_⟩
  rw [exec_Assign_Name_used _ _ _ _ hsw]
  refine wpAny_bind (wpAny_standAt (wpAny_bind ?_))
  show wpAny _ X.A (do let _ ← comprehension (.DictComp kx vx [⟨tg, iter, ifs, 0⟩] scope pos) scope X.env (firstIterPos [⟨tg, iter, ifs, 0⟩] pos) newDict false (eval iter X.env) (some (assign (.Name y py) X.env))) _ _ s
  refine wpAny_bind (thn (dcg_block (Qf := fun _ s' => SP X pins D .next s') hnew hput hc hN I hi ok hg ht hk he hs h fun L C s' m H' I' q hn ⟨f0, f1, f2, f3, f4, f5⟩ => ?_) fun _ s' hq => wpAny_pure (wpAny_pure hq))
  show wpAny _ _ (assign (.Name y py) X.env (.ref L)) _ _ _
  refine wpAny_assign_Name (store_ok2 (v := V.ref L) I' hN hy (.inl hyl) rfl (fun s2 I2 ⟨a, sb, ha⟩ => ?_) (.inr hyl))
  have haC : C ≠ a := by
    rcases ha with z | z
    · rw [z]; exact f1
    · exact fun e => f4 y a z e.symm
  exact ⟨m, hn.sameBut sb haC, fun h3 sb3 => ⟨_, H', I2.turned (t' := s2.toks) (fun b o hb e => (sb3.2 b hb).trans e) f0 f1 f3 f4 f5, q⟩⟩
theorem ss_setDK (i : Nat) (hN : X.N.Nodup) (hi : SI X W tg iter fi) (ok : BlkOk X.N X.env.scope scope own)
    (hg : ∀ (s : Shared) (H : Hp) (C : Addr) (cl : List (Str × Addr)) (fp : List Addr), SG (X.blk s H scope (compEnvC scope cl C X.env) fp) tg ws tf)
    (ht : ∀ (s : Shared) (H : Hp) (C : Addr) (cl : List (Str × Addr)) (fp : List Addr), STs (X.blk s H scope (compEnvC scope cl C X.env) fp) W0 ifs tt)
    (hkx : ∀ (s : Shared) (H : Hp) (C : Addr) (cl : List (Str × Addr)) (fp : List Addr), SE (X.blk s H scope (compEnvC scope cl C X.env) fp) W0 kx tk)
    (he : ∀ (s : Shared) (H : Hp) (C : Addr) (cl : List (Str × Addr)) (fp : List Addr), SE (X.blk s H scope (compEnvC scope cl C X.env) fp) W0 vx tv)
    (hsw : (X.env.blockKind == .function && X.env.kindOf y == some .local && py.line == pos.line && !scope.names.any fun (n, k) => n == y && (k == .local || k == .cell)) = true)
    (hw : ∀ j ∈ ws, j ∈ own.map (·.2) := by decide) (hy : X.N[i]? = some y := by rfl) (hyl : X.env.scope.names.lookup y = some .local := by rfl) (hc : X.calm = true := by rfl) (hs : ∀ x, foldedSetIterable iter X.env x = pure x := by intro _; rfl) :
    SS X W (.Assign [.Name y py] (.DictComp kx vx [⟨tg, iter, ifs, 0⟩] scope pos) spos) (sSet i (eDcK fi tf tt tk tv (own.map (·.2)))) :=
  ps_weak (ps_setDc (g := tTg X.K X.mg ws tf) (tt := tG X.K X.mg W0 relT tt) (tk := tG X.K X.mg W0 (relB X.K) tk) (tv := tG X.K X.mg W0 (relB X.K) tv) new_dK putS_ok hc hN hy hyl (swD hsw) hi ok hg ht hkx he hs) fun D σ H h => dc_of dck_K hw (set_of h)
theorem ss_setDT (i : Nat) (hr : Room k X.A) (hN : X.N.Nodup) (hi : SI X W tg iter fi) (ok : BlkOk X.N X.env.scope scope own)
    (hg : ∀ (s : Shared) (H : Hp) (C : Addr) (cl : List (Str × Addr)) (fp : List Addr), SG (X.blk s H scope (compEnvC scope cl C X.env) fp) tg ws tf)
    (ht : ∀ (s : Shared) (H : Hp) (C : Addr) (cl : List (Str × Addr)) (fp : List Addr), STs (X.blk s H scope (compEnvC scope cl C X.env) fp) W0 ifs tt)
    (hkx : ∀ (s : Shared) (H : Hp) (C : Addr) (cl : List (Str × Addr)) (fp : List Addr), SE (X.blk s H scope (compEnvC scope cl C X.env) fp) W0 kx tk)
    (he : ∀ (s : Shared) (H : Hp) (C : Addr) (cl : List (Str × Addr)) (fp : List Addr), SE (X.blk s H scope (compEnvC scope cl C X.env) fp) W0 vx tv)
    (hsw : (X.env.blockKind == .function && X.env.kindOf y == some .local && py.line == pos.line && !scope.names.any fun (n, k) => n == y && (k == .local || k == .cell)) = true)
    (hw : ∀ j ∈ ws, j ∈ own.map (·.2) := by decide) (hy : X.N[i]? = some y := by rfl) (hyl : X.env.scope.names.lookup y = some .local := by rfl) (hc : X.calm = true := by rfl) (hs : ∀ x, foldedSetIterable iter X.env x = pure x := by intro _; rfl) :
    SS X W (.Assign [.Name y py] (.DictComp kx vx [⟨tg, iter, ifs, 0⟩] scope pos) spos) (sSet i (eDcT fi tf tt tk tv (own.map (·.2)))) :=
  ps_weak (ps_setDc (g := tTg X.K X.mg ws tf) (tt := tG X.K X.mg W0 relT tt) (tk := tG X.K X.mg W0 (relB X.K) tk) (tv := tG X.K X.mg W0 (relB X.K) tv) new_dT (putT_ok hr.units0) hc hN hy hyl (swD hsw) hi ok hg ht hkx he hs) fun D σ H h => dc_of dck_T hw (set_of h)
end
end VM

/-! VM16: the law's end. -/
namespace VM
open PySem PySem.Spec PyProof.Rows L2
open Classical

def spEnd (K : PySem.W.Frag) : Sp := fun vs H Q _ => ∃ (a : Addr) (ns : List Int), vs = [.ref a] ∧ SqL K H a (ns.map V.int) ∧ ns.length ≤ 63 ∧ ∀ H', Q (.bl true) H'
theorem dpAll_ints {K : PySem.W.Frag} {H : Hp} : ∀ ns : List Int, DpAll K H (ns.map V.int) (ns.map PyData.int)
  | [] => .nil
  | n :: ns => .cons (.int n) (dpAll_ints ns)
theorem sp_end {K : PySem.W.Frag} {mg : Str → Option Value} {F : List B → Cs → ER B} (hm : ∀ ns : List Int, ns.length ≤ 63 → F [.k (.list (ns.map PyData.int))] [] = .ok (.d (.bool true)) []) {vs : List V} {H : Hp} {Q : VK} {E : XK} (h : spEnd K vs H Q E) : spM K mg 1 F vs H Q E := by
  obtain ⟨a, ns, rfl, hs, hl, hq⟩ := h
  refine ⟨H, [], [.k (.list (ns.map PyData.int))], [], rfl, .cons ?_ .nil, ?_, ?_⟩
  · exact Dp.lst hs (dpAll_ints ns)
  · exact ⟨fun _ _ h => h, rfl, List.nodup_nil, fun k a c e => by simp at e, fun k a c e => by simp at e, fun a h => by simp at h⟩
  · rw [hm ns hl]
    intro F' as' H' v e S r
    cases r
    exact hq H'
theorem cx_no {P : Program} {w : World} {H : Hp} {s : Shared} {e : Value} {s' : Shared} (h : L2.CX P w [] H s (fun _ _ _ => False) e s') : False := by
  obtain ⟨_, _, _, _, _, _, _, _, _, _, _, _, z⟩ := h
  exact z
structure RawL (K : PySem.W.Frag) (mg : Str → Option Value) (x qual : Str) (st : Stmt) : Prop where
  ex : ∃ (f : Addr) (fd : FuncData), mg x = some (.ref f) ∧ FunA K x qual st f fd ∧ ∀ (s : Shared) (u : Value), BindsTo s fd ⟨[u], []⟩ [("script", u)]
theorem walk_end {l : PySem.W.OpenLaw} {k : Nat} {q : Program} {loose : List Str} {XP : (Str → Option Value) → Heap → Prop} {YP : World → Heap → Prop} {d : DefRec} {K : Params → PySem.W.Frag} {x qual : Str} {st : Stmt} {N : List Str} {body : FnS}
    (hn : l.most = some 63) (hdf : d.params.defaults = []) (hr : Room (k + 1) callerA) (hY : ∀ (w : World) (h : Heap), YP w h → (K w.params).In h) (hx : d.name = x) (S : FnScope N ["script"] (defScope st))
    (hm : ∀ ns : List Int, ns.length ≤ 63 → mDef N.length body gcR [.k (.list (ns.map PyData.int))] [] = .ok (.d (.bool true)) [])
    (F : ∀ (w : World) (mg : Str → Option Value) (h : Heap), (K w.params).In h → h.Ns mainGlobals mg → RawL (K w.params) mg x qual st ∧ ∀ base : Heap, BodyOk l.prog w (K w.params) mg base k qual st N body) :
    PySem.W.WalkO q loose XP YP l.row.toRowW d [] (fun f vs => PySem.call f vs) := by
  refine L2.walk_of (n := 63) (k := k + 1) (x := "script") (CX := fun w => L2.CX l.prog w) (sp := fun w => spEnd (K w.params)) hn (by decide) hdf hr hY (fun w mg fa h hK hG hfa => ?_) (fun w H a ns hl _ hS => ⟨a, ns, rfl, hS, hl, fun _ => rfl⟩) fun w H s e s' z => cx_no z
  obtain ⟨R, hb⟩ := F w mg h hK hG
  obtain ⟨f, fd, h1, h2, h3⟩ := R.ex
  rw [hx] at hfa
  have e := h1.symm.trans hfa
  cases e
  exact ⟨fd, h3, fun base _ _ => (fnA_ok h2 S end_gc (hb base fa)).imp (fun vs H Q E z => sp_end hm z)⟩
/-- one parameter more, with a default, that each call writes -/
theorem binds_dflt {K : PySem.W.Frag} {x qual : Str} {st : Stmt} {f T : Addr} {oc oc2 : Value} {od an od2 : Option Addr} {osl osl2 : Array (Option Value)} {kV doc pm cdv ct : Value} {n : Nat} {v : V} {u : Value} {ps : List Str}
    (l : K.lookup f = some ⟨oc, od, .func (PySem.W.fnOf x qual (defArgs st) (defBody st) (defScope st) (.ref T) kV doc pm an cdv ct), osl⟩) (c : PySem.W.codeIn K cdv qual = true) (k : PySem.W.keepIn K (.ref f) = true)
    (lT : K.lookup T = some ⟨oc2, od2, .seq #[u] n, osl2⟩) (ru : RelV v u)
    (h : ∀ (T : Addr) (kV doc pm : Value) (an : Option Addr) (cdv ct : Value) (us its : List Value), us.length = ps.length → its.length = 1 →
      ∃ k, bindArgs (PySem.W.fnOf x qual (defArgs st) (defBody st) (defScope st) (.ref T) kV doc pm an cdv ct) ⟨us, []⟩ = seqItems? (.ref T) >>= k ∧ k (some its.toArray) = pure (ps.zip (us ++ its.drop 1))) :
    Binds K (PySem.W.fnOf x qual (defArgs st) (defBody st) (defScope st) (.ref T) kV doc pm an cdv ct) ps [] := by
  have F : FunD K x qual (defArgs st) (defBody st) (defScope st) [v] [] f (PySem.W.fnOf x qual (defArgs st) (defBody st) (defScope st) (.ref T) kV doc pm an cdv ct) :=
    ⟨⟨oc, od, .ref T, kV, doc, pm, an, cdv, ct, osl, rfl, l, c, .inr ⟨by simp, T, _, [u], n, rfl, lT, rfl, .cons ru .nil⟩, .inl rfl⟩, k⟩
  obtain ⟨ds, hds, hb⟩ := F.binds1 (ps := ps) ps.length 1 (by simp) (by simp) h
  cases hds
  exact hb
end VM

namespace K42
open PySem PySem.Spec PyProof.Rows L2 VM
open Classical
def top (i : Nat) : Stmt := PySem.Challenge.pw_runsproven_k42_words_reckoned_in_any_ord.main.body.getD i (.Pass ⟨0, 0, 0, 0⟩)
abbrev s__law_number : Stmt := top 39
abbrev s__law_draws : Stmt := top 40
abbrev s__law_next : Stmt := top 41
abbrev s__law_more : Stmt := top 42
abbrev s_number_word : Stmt := top 34
abbrev s_is_net : Stmt := top 16
abbrev s_check_net : Stmt := top 17
abbrev s_is_literal : Stmt := top 22
abbrev s_check_literals : Stmt := top 25
abbrev s_Build_init : Stmt := inClass (top 15) 0
abbrev s_opposite : Stmt := top 14
abbrev s_Build_pair_of : Stmt := inClass (top 15) 2
abbrev s_Build_looked : Stmt := inClass (top 15) 3
abbrev s_Build_both : Stmt := inClass (top 15) 4
abbrev s_Build_net : Stmt := inClass (top 15) 1
abbrev s_joined : Stmt := top 30
abbrev s_is_tidy : Stmt := top 18
abbrev s__law_pick : Stmt := top 43
abbrev s_is_word : Stmt := top 23
abbrev s_check_words : Stmt := top 26
abbrev s_Build_either : Stmt := inClass (top 15) 5
abbrev s_Build_differ : Stmt := inClass (top 15) 6
abbrev s_Build_add : Stmt := inClass (top 15) 10
abbrev s_Build_times : Stmt := inClass (top 15) 11
abbrev s_Build_all_of : Stmt := inClass (top 15) 8
abbrev s_Build_same : Stmt := inClass (top 15) 12
abbrev s_Build_choose : Stmt := inClass (top 15) 7
abbrev s_Build_less : Stmt := inClass (top 15) 13
abbrev s_Build_combine : Stmt := inClass (top 15) 14
abbrev s_combined : Stmt := top 31
abbrev s__law_both : Stmt := top 46
abbrev s_cone_of : Stmt := top 35
abbrev s_value_of : Stmt := top 20
abbrev s_values_of : Stmt := top 19
abbrev s_number_of : Stmt := top 28
abbrev s_agree : Stmt := top 37
abbrev s_are_bits : Stmt := top 21
abbrev s_check_bits : Stmt := top 24
abbrev s_word_number : Stmt := top 29
abbrev s__law_sets : Stmt := top 44
abbrev s__law_join : Stmt := top 45
abbrev s_cone : Stmt := top 36
abbrev s_opposite_word : Stmt := top 33
abbrev s__law_sums_hold : Stmt := top 47
abbrev s_Build_pick : Stmt := inClass (top 15) 15
abbrev s_picked : Stmt := top 32
abbrev s_node_values : Stmt := top 27
abbrev s__law_picks_hold : Stmt := top 48
abbrev s__law_main : Stmt := top 49
abbrev s_law : Stmt := top 50
/-! ### constants -/
def b_FALSE : B := .d (.int 0)
def b_KINDS : B := .k (.tuple [(.str "add"), (.str "sub"), (.str "mul"), (.str "and"), (.str "or"), (.str "xor"), (.str "same"), (.str "less"), (.str "least")])
def b_MOST_FREE : B := .d (.int 200)
def b_MOST_GATES : B := .d (.int 20000)
def b_MOST_LOOKED : B := .d (.int 12)
def b_MOST_WIDTH : B := .d (.int 8)
def b_TRUE : B := .d (.int 1)
def a_Build_both : Addr := 120
def a_Build_differ : Addr := 134
def a_Build_either : Addr := 127
/-! ### what each def does -/
/-- _law_number -/
noncomputable def F__law_number : List B → Cs → ER B := mDef 1
  (sSeq (sIf (eT (eBin gLt (eVar 0) (eD (.int 0))))
  (sRet (eBin gSub (eD (.int 0)) (eVar 0)))
  sNext)
  (sRet (eVar 0))) gcR
/-- _law_draws -/
noncomputable def F__law_draws : List B → Cs → ER B := mDef 7
  (sSeq (sSet 1 (eCell (lTake aNil)))
  (sSeq (sFor (iSeq (eVar 0)) (tgName 2)
  (sSeq (sSet 3 (eFn 1 F__law_number (aCons (eVar 2) aNil)))
  (sIf (eT (eBin gGe (eVar 3) (eD (.int 1000000000000000000))))
  (sFor (iRange1 (aCons (eD (.int 60)) aNil)) (tgName 4)
  (sSeq (sIf (eT (eBin gEq (eVar 3) (eD (.int 0))))
  sBreak
  sNext)
  (sSeq (sExpr (eBM isLst gAppend (eVar 1) (aCons (eBin gMod (eCall gInt (aCons (eVar 3) aNil)) (eD (.int 1000))) aNil)))
  (sSet 3 (eBin gDiv (eVar 3) (eD (.int 1000)))))))
  (sSeq (sSet 5 (eBin gMod (eCall gInt (aCons (eBin gAdd (eBin gMul (eVar 3) (eD (.int 48271))) (eD (.int 11))) aNil)) (eD (.int 2147483647))))
  (sSeq (sSet 6 (eBin gMod (eCall gInt (aCons (eBin gAdd (eBin gMul (eVar 5) (eD (.int 69621))) (eVar 3)) aNil)) (eD (.int 2147483629))))
  (sExpr (eBM isLst gExtend (eVar 1) (aCons (eCell (lTake (aCons (eBin gMod (eCall gInt (aCons (eVar 3) aNil)) (eD (.int 1000))) (aCons (eBin gMod (eCall gInt (aCons (eVar 5) aNil)) (eD (.int 1000))) (aCons (eBin gMod (eCall gInt (aCons (eVar 6) aNil)) (eD (.int 1000))) aNil))))) aNil))))))))
  (sSeq (sExpr (eBM isLst gReverse (eVar 1) aNil))
  (sRet (eVar 1))))) gcN
/-- _law_next -/
noncomputable def F__law_next : List B → Cs → ER B := mDef 1
  (sSeq (sIf (eTru (eVar 0))
  (sRet (eBM isLst gPop (eVar 0) aNil))
  sNext)
  (sRet (eD (.int 0)))) gcR
/-- _law_more -/
noncomputable def F__law_more : List B → Cs → ER B := mDef 5
  (sSeq (sSet 2 (eBin gAdd (eBin gAdd (eBin gMul (eD (.int 1000)) (eFn 1 F__law_next (aCons (eVar 0) aNil))) (eFn 1 F__law_next (aCons (eVar 0) aNil))) (eD (.int 1))))
  (sSeq (sSet 3 (eCell (lTake aNil)))
  (sSeq (sFor (iRange1 (aCons (eVar 1) aNil)) (tgName 4)
  (sSeq (sSet 2 (eBin gMod (eCall gInt (aCons (eBin gAdd (eBin gMul (eVar 2) (eD (.int 48271))) (eD (.int 12345))) aNil)) (eD (.int 2147483647))))
  (sExpr (eBM isLst gAppend (eVar 3) (aCons (eBin gMod (eCall gInt (aCons (eBin gDiv (eVar 2) (eD (.int 7))) aNil)) (eD (.int 1000))) aNil)))))
  (sRet (eCell (lBin gCat (eVar 3) (eVar 0))))))) gcN
/-- number_word -/
noncomputable def F_number_word : List B → Cs → ER B := mDef 3
  (sSeq (sIf (eOr (eNot (eT (eChain gLe gLe (eD (.int 1)) (eVar 0) (eB b_MOST_WIDTH)))) (eNot (eT (eChain gLe gLt (eD (.int 0)) (eVar 1) (eBin gShl (eD (.int 1)) (eVar 0))))))
  sNever
  sNext)
  (sRet (eCall gTuple (aCons (eFrz (lComp (iRange1 (aCons (eVar 0) aNil)) (tgName 2) eYes (eBin gBand (eBin gShr (eVar 1) (eVar 2)) (eD (.int 1))) [2])) aNil)))) gcR
/-- is_net -/
noncomputable def F_is_net : List B → Cs → ER B := mDef 6
  (sSeq (sAsg (tgTup 2 (tgCons (tgName 1) (tgCons (tgName 2) tgNil))) (eVar 0))
  (sSeq (sIf (eOr (eNot (eT (eChain gLe gLe (eD (.int 0)) (eVar 1) (eB b_MOST_FREE)))) (eT (eBin gGt (eCall gLenU (aCons (eVar 2) aNil)) (eB b_MOST_GATES))))
  (sRet (eD (.bool false)))
  sNext)
  (sSeq (sFor (VM.iEnum (aCons (eVar 2) aNil)) (tgTup 2 (tgCons (tgName 3) (tgCons (tgName 4) tgNil)))
  (sIf (eOr (eT (eBin gNe (eCall gLenU (aCons (eVar 4) aNil)) (eD (.int 2)))) (eNot (eTru (eCall gAll (aCons (eFrz (lComp (iSeq (eVar 4)) (tgName 5) eYes (eChain gLe gLt (eD (.int 0)) (eVar 5) (eBin gMul (eD (.int 2)) (eBin gAdd (eBin gAdd (eVar 1) (eD (.int 1))) (eVar 3)))) [5])) aNil)))))
  (sRet (eD (.bool false)))
  sNext))
  (sRet (eD (.bool true)))))) gcR
/-- check_net -/
noncomputable def F_check_net : List B → Cs → ER B := mDef 1
  (sIf (eNot (eTru (eFn 1 F_is_net (aCons (eVar 0) aNil))))
  sNever
  sNext) gcR
/-- is_literal -/
noncomputable def F_is_literal : List B → Cs → ER B := mDef 2
  (sRet (eChain gLe gLt (eD (.int 0)) (eVar 1) (eBin gMul (eD (.int 2)) (eBin gAdd (eBin gAdd (eBin gIx (eVar 0) (eD (.int 0))) (eD (.int 1))) (eCall gLenU (aCons (eBin gIx (eVar 0) (eD (.int 1))) aNil)))))) gcR
/-- check_literals -/
noncomputable def F_check_literals : List B → Cs → ER B := mDef 3
  (sSeq (sExpr (eFn 1 F_check_net (aCons (eVar 0) aNil)))
  (sIf (eNot (eTru (eCall gAll (aCons (eFrz (lComp (iSeq (eVar 1)) (tgName 2) eYes (eFn 2 F_is_literal (aCons (eVar 0) (aCons (eVar 2) aNil))) [2])) aNil))))
  sNever
  sNext)) gcR
/-- Build.__init__ -/
noncomputable def F_Build_init : List B → Cs → ER B := mDef 5
  (sSeq (sFldSet "Build" "free" (eVar 0) (eVar 1))
  (sSeq (sFldSet "Build" "gates" (eVar 0) (eCell (lComp (iSeq (eVar 2)) (tgName 4) eYes (eCall gTuple (aCons (eVar 4) aNil)) [4])))
  (sSeq (sFldSet "Build" "known" (eVar 0) (eDNew (.dT [])))
  (sFor (VM.iEnum (aCons (eFld "Build" "gates" (eVar 0)) aNil)) (tgTup 2 (tgCons (tgName 3) (tgCons (tgName 4) tgNil)))
  (sExpr (eBM isDct gSetd (eFld "Build" "known" (eVar 0)) (aCons (eVar 4) (aCons (eBin gMul (eD (.int 2)) (eBin gAdd (eBin gAdd (eVar 1) (eD (.int 1))) (eVar 3))) aNil)))))))) keepR
/-- opposite -/
noncomputable def F_opposite : List B → Cs → ER B := mDef 1
  (sRet (eBin gSub (eBin gAdd (eVar 0) (eD (.int 1))) (eBin gMul (eD (.int 2)) (eBin gMod (eVar 0) (eD (.int 2)))))) gcR
/-- Build.pair_of -/
noncomputable def F_Build_pair_of : List B → Cs → ER B := mDef 3
  (sSeq (sSet 2 (eBin gSub (eBin gSub (eBin gDiv (eVar 1) (eD (.int 2))) (eFld "Build" "free" (eVar 0))) (eD (.int 1))))
  (sRet (eIf (eT (eBin gGe (eVar 2) (eD (.int 0)))) (eBin gIx (eFld "Build" "gates" (eVar 0)) (eVar 2)) (eTup aNil)))) gcR
/-- Build.looked -/
noncomputable def F_Build_looked : List B → Cs → ER B := mDef 5
  (sSeq (sFor (iSeq (eTup (aCons (eTup (aCons (eVar 1) (aCons (eVar 2) aNil))) (aCons (eTup (aCons (eVar 2) (aCons (eVar 1) aNil))) aNil)))) (tgTup 2 (tgCons (tgName 3) (tgCons (tgName 4) tgNil)))
  (sSeq (sIf (eAnd (eT (eBin gEq (eBin gMod (eVar 3) (eD (.int 2))) (eD (.int 0)))) (eT (eBin (gInU false) (eVar 4) (eMeth "Build" "pair_of" 2 F_Build_pair_of (eVar 0) (aCons (eVar 3) aNil)))))
  (sRet (eVar 3))
  sNext)
  (sIf (eAnd (eT (eBin gEq (eBin gMod (eVar 3) (eD (.int 2))) (eD (.int 0)))) (eT (eBin (gInU false) (eFn 1 F_opposite (aCons (eVar 4) aNil)) (eMeth "Build" "pair_of" 2 F_Build_pair_of (eVar 0) (aCons (eVar 3) aNil)))))
  (sRet (eB b_FALSE))
  sNext)))
  (sRet (eD .none))) gcR
/-- Build.both -/
noncomputable def F_Build_both : List B → Cs → ER B := mDef 4
  (sSeq (sPar 1 2 (aCons (eCall gMin (aCons (eVar 1) (aCons (eVar 2) aNil))) (aCons (eCall gMax (aCons (eVar 1) (aCons (eVar 2) aNil))) aNil)))
  (sSeq (sIf (eOr (eT (eBin gEq (eVar 1) (eB b_FALSE))) (eT (eBin gEq (eVar 2) (eFn 1 F_opposite (aCons (eVar 1) aNil)))))
  (sRet (eB b_FALSE))
  sNext)
  (sSeq (sIf (eOr (eT (eBin gEq (eVar 1) (eB b_TRUE))) (eT (eBin gEq (eVar 1) (eVar 2))))
  (sRet (eVar 2))
  sNext)
  (sSeq (sIf (eT (eBin (gInU false) (eTup (aCons (eVar 1) (aCons (eVar 2) aNil))) (eFld "Build" "known" (eVar 0))))
  (sRet (eBin gDGet (eFld "Build" "known" (eVar 0)) (eTup (aCons (eVar 1) (aCons (eVar 2) aNil)))))
  sNext)
  (sSeq (sSet 3 (eMeth "Build" "looked" 3 F_Build_looked (eVar 0) (aCons (eVar 1) (aCons (eVar 2) aNil))))
  (sSeq (sIf (eT (eBin gNotNU (eVar 3) (eD .none)))
  (sRet (eVar 3))
  sNext)
  (sSeq (sIf (eT (eBin gEq (eCall gLenU (aCons (eFld "Build" "gates" (eVar 0)) aNil)) (eB b_MOST_GATES)))
  sNever
  sNext)
  (sSeq (sExpr (eBM isLst gAppend (eFld "Build" "gates" (eVar 0)) (aCons (eTup (aCons (eVar 1) (aCons (eVar 2) aNil))) aNil)))
  (sSeq (sPut (eFld "Build" "known" (eVar 0)) (eTup (aCons (eVar 1) (aCons (eVar 2) aNil))) (eBin gMul (eD (.int 2)) (eBin gAdd (eFld "Build" "free" (eVar 0)) (eCall gLenU (aCons (eFld "Build" "gates" (eVar 0)) aNil)))))
  (sRet (eBin gDGet (eFld "Build" "known" (eVar 0)) (eTup (aCons (eVar 1) (aCons (eVar 2) aNil)))))))))))))) gcR
/-- Build.net -/
noncomputable def F_Build_net : List B → Cs → ER B := mDef 1
  (sRet (eTup (aCons (eFld "Build" "free" (eVar 0)) (aCons (eCall gTuple (aCons (eFld "Build" "gates" (eVar 0)) aNil)) aNil)))) gcR
/-- joined -/
noncomputable def F_joined : List B → Cs → ER B := mDef 5
  (sSeq (sExpr (eFn 2 F_check_literals (aCons (eVar 0) (aCons (eFrz (lTake (aCons (eVar 1) (aCons (eVar 2) aNil)))) aNil))))
  (sSeq (sSet 3 (eMake "Build" 3 F_Build_init (aStar (eVar 0) aNil)))
  (sSeq (sSet 4 (eMeth "Build" "both" 3 F_Build_both (eVar 3) (aCons (eVar 1) (aCons (eVar 2) aNil))))
  (sRet (eTup (aCons (eMeth "Build" "net" 1 F_Build_net (eVar 3) aNil) (aCons (eVar 4) aNil))))))) gcR
/-- is_tidy -/
noncomputable def F_is_tidy : List B → Cs → ER B := mDef 5
  (sSeq (sExpr (eFn 1 F_check_net (aCons (eVar 0) aNil)))
  (sSeq (sSet 1 (eFrz (lComp (iSeq (eBin gIx (eVar 0) (eD (.int 1)))) (tgName 2) eYes (eCall gTuple (aCons (eVar 2) aNil)) [2])))
  (sSeq (sIf (eNot (eTru (eCall gAll (aCons (eFrz (lComp (iSeq (eVar 1)) (tgTup 2 (tgCons (tgName 3) (tgCons (tgName 4) tgNil))) eYes (eAndV (eChain gLt gLt (eD (.int 1)) (eVar 3) (eVar 4)) (eBin gNe (eBin gDiv (eVar 3) (eD (.int 2))) (eBin gDiv (eVar 4) (eD (.int 2))))) [3, 4])) aNil))))
  (sRet (eD (.bool false)))
  sNext)
  (sRet (eBin gEq (eCall gLenU (aCons (eDcT (iSeq (eVar 1)) (tgName 2) eYes (eVar 2) (eD (.bool true)) [2]) aNil)) (eCall gLenU (aCons (eVar 1) aNil))))))) gcR
/-- _law_pick -/
noncomputable def F__law_pick : List B → Cs → ER B := mDef 2
  (sRet (eBin gIx (eVar 1) (eBin gMod (eCall gInt (aCons (eFn 1 F__law_next (aCons (eVar 0) aNil)) aNil)) (eCall gLenU (aCons (eVar 1) aNil))))) gcR
/-- is_word -/
noncomputable def F_is_word : List B → Cs → ER B := mDef 3
  (sRet (eAndV (eChain gLe gLe (eD (.int 1)) (eCall gLenU (aCons (eVar 1) aNil)) (eB b_MOST_WIDTH)) (eCall gAll (aCons (eFrz (lComp (iSeq (eVar 1)) (tgName 2) eYes (eFn 2 F_is_literal (aCons (eVar 0) (aCons (eVar 2) aNil))) [2])) aNil)))) gcR
/-- check_words -/
noncomputable def F_check_words : List B → Cs → ER B := mDef 3
  (sSeq (sExpr (eFn 1 F_check_net (aCons (eVar 0) aNil)))
  (sIf (eOr (eNot (eTru (eCall gAll (aCons (eFrz (lComp (iSeq (eVar 1)) (tgName 2) eYes (eFn 2 F_is_word (aCons (eVar 0) (aCons (eVar 2) aNil))) [2])) aNil)))) (eT (eBin gNe (eCall gLenU (aCons (eDcK (iSeq (eVar 1)) (tgName 2) eYes (eCall gLenU (aCons (eVar 2) aNil)) (eD (.bool true)) [2]) aNil)) (eD (.int 1)))))
  sNever
  sNext)) gcR
/-- Build.either -/
noncomputable def F_Build_either : List B → Cs → ER B := mDef 3
  (sRet (eFn 1 F_opposite (aCons (eMeth "Build" "both" 3 F_Build_both (eVar 0) (aCons (eFn 1 F_opposite (aCons (eVar 1) aNil)) (aCons (eFn 1 F_opposite (aCons (eVar 2) aNil)) aNil))) aNil))) gcR
/-- Build.differ -/
noncomputable def F_Build_differ : List B → Cs → ER B := mDef 3
  (sRet (eMeth "Build" "both" 3 F_Build_both (eVar 0) (aCons (eMeth "Build" "either" 3 F_Build_either (eVar 0) (aCons (eVar 1) (aCons (eVar 2) aNil))) (aCons (eFn 1 F_opposite (aCons (eMeth "Build" "both" 3 F_Build_both (eVar 0) (aCons (eVar 1) (aCons (eVar 2) aNil))) aNil)) aNil)))) gcR
/-- Build.add -/
noncomputable def F_Build_add : List B → Cs → ER B := mDef 8
  (sSeq (sSet 4 (eCell (lTake aNil)))
  (sSeq (sFor (VM.iZip (aCons (eVar 1) (aCons (eVar 2) aNil))) (tgTup 2 (tgCons (tgName 5) (tgCons (tgName 6) tgNil)))
  (sSeq (sSet 7 (eMeth "Build" "differ" 3 F_Build_differ (eVar 0) (aCons (eVar 5) (aCons (eVar 6) aNil))))
  (sSeq (sExpr (eBM isLst gAppend (eVar 4) (aCons (eMeth "Build" "differ" 3 F_Build_differ (eVar 0) (aCons (eVar 7) (aCons (eVar 3) aNil))) aNil)))
  (sSet 3 (eMeth "Build" "either" 3 F_Build_either (eVar 0) (aCons (eMeth "Build" "both" 3 F_Build_both (eVar 0) (aCons (eVar 5) (aCons (eVar 6) aNil))) (aCons (eMeth "Build" "both" 3 F_Build_both (eVar 0) (aCons (eVar 7) (aCons (eVar 3) aNil))) aNil)))))))
  (sRet (eCall gTuple (aCons (eVar 4) aNil))))) gcR
/-- Build.times -/
noncomputable def F_Build_times : List B → Cs → ER B := mDef 8
  (sSeq (sSet 3 (eBin gRepT (eTup (aCons (eB b_FALSE) aNil)) (eCall gLenU (aCons (eVar 1) aNil))))
  (sSeq (sFor (VM.iEnum (aCons (eVar 2) aNil)) (tgTup 2 (tgCons (tgName 4) (tgCons (tgName 5) tgNil)))
  (sSeq (sSet 6 (eCutT (eBin (gAlt gAdd gCatT) (eBin gRepT (eTup (aCons (eB b_FALSE) aNil)) (eVar 4)) (eCall gTuple (aCons (eVar 1) aNil))) oNone (oSome (eCall gLenU (aCons (eVar 1) aNil)))))
  (sSet 3 (eMeth "Build" "add" 4 F_Build_add (eVar 0) (aCons (eVar 3) (aCons (eCall gTuple (aCons (eFrz (lComp (iSeq (eVar 6)) (tgName 7) eYes (eMeth "Build" "both" 3 F_Build_both (eVar 0) (aCons (eVar 5) (aCons (eVar 7) aNil))) [7])) aNil)) (aCons (eB b_FALSE) aNil)))))))
  (sRet (eVar 3)))) gcR
/-- Build.all_of -/
noncomputable def F_Build_all_of : List B → Cs → ER B := mDef 4
  (sSeq (sSet 2 (eB b_TRUE))
  (sSeq (sFor (iSeq (eVar 1)) (tgName 3)
  (sSet 2 (eMeth "Build" "both" 3 F_Build_both (eVar 0) (aCons (eVar 2) (aCons (eVar 3) aNil)))))
  (sRet (eVar 2)))) gcR
/-- Build.same -/
noncomputable def F_Build_same : List B → Cs → ER B := mDef 5
  (sRet (eMeth "Build" "all_of" 2 F_Build_all_of (eVar 0) (aCons (eFrz (lComp (VM.iZip (aCons (eVar 1) (aCons (eVar 2) aNil))) (tgTup 2 (tgCons (tgName 3) (tgCons (tgName 4) tgNil))) eYes (eFn 1 F_opposite (aCons (eMeth "Build" "differ" 3 F_Build_differ (eVar 0) (aCons (eVar 3) (aCons (eVar 4) aNil))) aNil)) [3, 4])) aNil))) gcR
/-- Build.choose -/
noncomputable def F_Build_choose : List B → Cs → ER B := mDef 4
  (sRet (eMeth "Build" "either" 3 F_Build_either (eVar 0) (aCons (eMeth "Build" "both" 3 F_Build_both (eVar 0) (aCons (eVar 1) (aCons (eVar 2) aNil))) (aCons (eMeth "Build" "both" 3 F_Build_both (eVar 0) (aCons (eFn 1 F_opposite (aCons (eVar 1) aNil)) (aCons (eVar 3) aNil))) aNil)))) gcR
/-- Build.less -/
noncomputable def F_Build_less : List B → Cs → ER B := mDef 6
  (sSeq (sSet 3 (eB b_FALSE))
  (sSeq (sFor (VM.iZip (aCons (eVar 1) (aCons (eVar 2) aNil))) (tgTup 2 (tgCons (tgName 4) (tgCons (tgName 5) tgNil)))
  (sSet 3 (eMeth "Build" "choose" 4 F_Build_choose (eVar 0) (aCons (eMeth "Build" "differ" 3 F_Build_differ (eVar 0) (aCons (eVar 4) (aCons (eVar 5) aNil))) (aCons (eVar 5) (aCons (eVar 3) aNil))))))
  (sRet (eVar 3)))) gcR
/-- Build.combine -/
noncomputable def F_Build_combine : List B → Cs → ER B := mDef 7
  (sSeq (sIf (eT (eBin gEq (eVar 1) (eD (.str "add"))))
  (sRet (eMeth "Build" "add" 4 F_Build_add (eVar 0) (aCons (eVar 2) (aCons (eVar 3) (aCons (eB b_FALSE) aNil)))))
  sNext)
  (sSeq (sIf (eT (eBin gEq (eVar 1) (eD (.str "sub"))))
  (sRet (eMeth "Build" "add" 4 F_Build_add (eVar 0) (aCons (eVar 2) (aCons (eCall gTuple (aCons (eFrz (lComp (iSeq (eVar 3)) (tgName 5) eYes (eFn 1 F_opposite (aCons (eVar 5) aNil)) [5])) aNil)) (aCons (eB b_TRUE) aNil)))))
  sNext)
  (sSeq (sIf (eT (eBin gEq (eVar 1) (eD (.str "mul"))))
  (sRet (eMeth "Build" "times" 3 F_Build_times (eVar 0) (aCons (eVar 2) (aCons (eVar 3) aNil))))
  sNext)
  (sSeq (sIf (eT (eBin gEq (eVar 1) (eD (.str "same"))))
  (sRet (eTup (aCons (eMeth "Build" "same" 3 F_Build_same (eVar 0) (aCons (eVar 2) (aCons (eVar 3) aNil))) aNil)))
  sNext)
  (sSeq (sIf (eT (eBin gEq (eVar 1) (eD (.str "less"))))
  (sRet (eTup (aCons (eMeth "Build" "less" 3 F_Build_less (eVar 0) (aCons (eVar 2) (aCons (eVar 3) aNil))) aNil)))
  sNext)
  (sSeq (sIf (eT (eBin gEq (eVar 1) (eD (.str "least"))))
  (sRet (eTup (aCons (eFn 1 F_opposite (aCons (eMeth "Build" "less" 3 F_Build_less (eVar 0) (aCons (eVar 3) (aCons (eVar 2) aNil))) aNil)) aNil)))
  sNext)
  (sSeq (sSet 4 (eBin gDGet (eDisp [((eD (.str "and")), (eBound "Build" "both" a_Build_both (eVar 0))), ((eD (.str "or")), (eBound "Build" "either" a_Build_either (eVar 0))), ((eD (.str "xor")), (eBound "Build" "differ" a_Build_differ (eVar 0)))]) (eVar 1)))
  (sRet (eCall gTuple (aCons (eFrz (lComp (VM.iZip (aCons (eVar 2) (aCons (eVar 3) aNil))) (tgTup 2 (tgCons (tgName 6) (tgCons (tgName 5) tgNil))) eYes (eCallM 4 [(a_Build_both, 3, F_Build_both), (a_Build_either, 3, F_Build_either), (a_Build_differ, 3, F_Build_differ)] (aCons (eVar 6) (aCons (eVar 5) aNil))) [6, 5])) aNil)))))))))) gcR
/-- combined -/
noncomputable def F_combined : List B → Cs → ER B := mDef 6
  (sSeq (sExpr (eFn 2 F_check_words (aCons (eVar 0) (aCons (eFrz (lTake (aCons (eVar 2) (aCons (eVar 3) aNil)))) aNil))))
  (sSeq (sIf (eT (eBin (gInU true) (eVar 1) (eB b_KINDS)))
  sNever
  sNext)
  (sSeq (sSet 4 (eMake "Build" 3 F_Build_init (aStar (eVar 0) aNil)))
  (sSeq (sSet 5 (eMeth "Build" "combine" 4 F_Build_combine (eVar 4) (aCons (eVar 1) (aCons (eVar 2) (aCons (eVar 3) aNil)))))
  (sRet (eTup (aCons (eMeth "Build" "net" 1 F_Build_net (eVar 4) aNil) (aCons (eVar 5) aNil)))))))) gcR
/-- _law_both -/
noncomputable def F__law_both : List B → Cs → ER B := mDef 7
  (sSeq (sAsg (tgTup 2 (tgCons (tgName 0) (tgCons (tgName 5) tgNil))) (eFn 4 F_combined (aCons (eVar 0) (aCons (eVar 1) (aCons (eVar 2) (aCons (eVar 3) aNil))))))
  (sSeq (sAsg (tgTup 2 (tgCons (tgName 0) (tgCons (tgName 5) tgNil))) (eFn 4 F_combined (aCons (eVar 0) (aCons (eVar 1) (aCons (eVar 5) (aCons (eVar 4) aNil))))))
  (sSeq (sAsg (tgTup 2 (tgCons (tgName 0) (tgCons (tgName 6) tgNil))) (eFn 4 F_combined (aCons (eVar 0) (aCons (eVar 1) (aCons (eVar 3) (aCons (eVar 4) aNil))))))
  (sSeq (sAsg (tgTup 2 (tgCons (tgName 0) (tgCons (tgName 6) tgNil))) (eFn 4 F_combined (aCons (eVar 0) (aCons (eVar 1) (aCons (eVar 2) (aCons (eVar 6) aNil))))))
  (sRet (eTup (aCons (eVar 0) (aCons (eVar 5) (aCons (eVar 6) aNil))))))))) gcR
/-- cone_of -/
noncomputable def F_cone_of : List B → Cs → ER B := mDef 7
  (sSeq (sAsg (tgTup 2 (tgCons (tgName 2) (tgCons (tgName 3) tgNil))) (eVar 0))
  (sSeq (sSet 4 (eDcK (iSeq (eVar 1)) (tgName 6) eYes (eBin gDiv (eVar 6) (eD (.int 2))) (eD (.bool true)) [6]))
  (sSeq (sFor (iRange3 (aCons (eBin gAdd (eVar 2) (eCall gLenU (aCons (eVar 3) aNil))) (aCons (eVar 2) (aCons (eUn gNeg (eD (.int 1))) aNil)))) (tgName 5)
  (sIf (eT (eBin (gInU false) (eVar 5) (eVar 4)))
  (sExpr (eBM isDct gUpdD (eVar 4) (aCons (eDcK (iSeq (eBin gIx (eVar 3) (eBin gSub (eBin gSub (eVar 5) (eVar 2)) (eD (.int 1))))) (tgName 6) eYes (eBin gDiv (eVar 6) (eD (.int 2))) (eD (.bool true)) [6]) aNil)))
  sNext))
  (sRet (eFrz (lCall gSorted (aCons (eVar 4) aNil))))))) gcR
/-- value_of -/
noncomputable def F_value_of : List B → Cs → ER B := mDef 3
  (sSeq (sSet 2 (eBin gIx (eVar 0) (eBin gDiv (eVar 1) (eD (.int 2)))))
  (sRet (eIf (eTru (eBin gMod (eVar 1) (eD (.int 2)))) (eBin gSub (eD (.int 1)) (eVar 2)) (eVar 2)))) gcR
/-- values_of -/
noncomputable def F_values_of : List B → Cs → ER B := mDef 5
  (sSeq (sSet 2 (eCell (lTake (aCons (eD (.int 0)) (aStar (eVar 1) aNil)))))
  (sSeq (sFor (iSeq (eBin gIx (eVar 0) (eD (.int 1)))) (tgTup 2 (tgCons (tgName 3) (tgCons (tgName 4) tgNil)))
  (sExpr (eBM isLst gAppend (eVar 2) (aCons (eBin gMul (eFn 2 F_value_of (aCons (eVar 2) (aCons (eVar 3) aNil))) (eFn 2 F_value_of (aCons (eVar 2) (aCons (eVar 4) aNil)))) aNil))))
  (sRet (eVar 2)))) gcN
/-- number_of -/
noncomputable def F_number_of : List B → Cs → ER B := mDef 4
  (sRet (eCall gSum (aCons (eFrz (lComp (VM.iEnum (aCons (eVar 1) aNil)) (tgTup 2 (tgCons (tgName 2) (tgCons (tgName 3) tgNil))) eYes (eBin gShl (eFn 2 F_value_of (aCons (eVar 0) (aCons (eVar 3) aNil))) (eVar 2)) [2, 3])) aNil))) gcR
/-- agree -/
noncomputable def F_agree : List B → Cs → ER B := mDef 9
  (sSeq (sExpr (eFn 2 F_check_words (aCons (eVar 0) (aCons (eFrz (lTake (aCons (eVar 1) (aCons (eVar 2) aNil)))) aNil))))
  (sSeq (sSet 3 (eFrz (lComp (iSeq (eFn 2 F_cone_of (aCons (eVar 0) (aCons (eFrz (lTake (aStar (eVar 1) (aStar (eVar 2) aNil)))) aNil)))) (tgName 7) (eT (eChain gLe gLe (eD (.int 1)) (eVar 7) (eBin gIx (eVar 0) (eD (.int 0))))) (eVar 7) [7])))
  (sSeq (sIf (eT (eBin gGt (eCall gLenU (aCons (eVar 3) aNil)) (eB b_MOST_LOOKED)))
  sNever
  sNext)
  (sSeq (sFor (iRange1 (aCons (eBin gShl (eD (.int 1)) (eCall gLenU (aCons (eVar 3) aNil))) aNil)) (tgName 4)
  (sSeq (sSet 5 (eCell (lBin gRep (eFrz (lTake (aCons (eD (.int 0)) aNil))) (eBin gIx (eVar 0) (eD (.int 0))))))
  (sSeq (sFor (VM.iEnum (aCons (eVar 3) aNil)) (tgTup 2 (tgCons (tgName 6) (tgCons (tgName 7) tgNil)))
  (sPut (eVar 5) (eBin gSub (eVar 7) (eD (.int 1))) (eBin gBand (eBin gShr (eVar 4) (eVar 6)) (eD (.int 1)))))
  (sSeq (sSet 8 (eFn 2 F_values_of (aCons (eVar 0) (aCons (eVar 5) aNil))))
  (sIf (eT (eBin gNe (eFn 2 F_number_of (aCons (eVar 8) (aCons (eVar 1) aNil))) (eFn 2 F_number_of (aCons (eVar 8) (aCons (eVar 2) aNil)))))
  (sRet (eD (.bool false)))
  sNext)))))
  (sRet (eD (.bool true))))))) gcR
/-- are_bits -/
noncomputable def F_are_bits : List B → Cs → ER B := mDef 3
  (sRet (eAndV (eBin gEq (eCall gLenU (aCons (eVar 1) aNil)) (eBin gIx (eVar 0) (eD (.int 0)))) (eCall gAll (aCons (eFrz (lComp (iSeq (eVar 1)) (tgName 2) eYes (eBin (gInU false) (eVar 2) (eTup (aCons (eD (.int 0)) (aCons (eD (.int 1)) aNil)))) [2])) aNil)))) gcR
/-- check_bits -/
noncomputable def F_check_bits : List B → Cs → ER B := mDef 2
  (sSeq (sExpr (eFn 1 F_check_net (aCons (eVar 0) aNil)))
  (sIf (eNot (eTru (eFn 2 F_are_bits (aCons (eVar 0) (aCons (eVar 1) aNil)))))
  sNever
  sNext)) gcR
/-- word_number -/
noncomputable def F_word_number : List B → Cs → ER B := mDef 3
  (sSeq (sExpr (eFn 2 F_check_bits (aCons (eVar 0) (aCons (eVar 1) aNil))))
  (sSeq (sExpr (eFn 2 F_check_words (aCons (eVar 0) (aCons (eFrz (lTake (aCons (eVar 2) aNil))) aNil))))
  (sRet (eFn 2 F_number_of (aCons (eFn 2 F_values_of (aCons (eVar 0) (aCons (eVar 1) aNil))) (aCons (eVar 2) aNil)))))) gcR
/-- _law_sets -/
noncomputable def F__law_sets : List B → Cs → ER B := mDef 3
  (sSeq (sSet 1 (eD (.int 1)))
  (sSeq (sFor (iRange1 (aCons (eVar 0) aNil)) (tgName 2)
  (sSet 1 (eBin gMul (eD (.int 2)) (eVar 1))))
  (sRet (eVar 1)))) gcR
/-- _law_join -/
noncomputable def F__law_join : List B → Cs → ER B := mDef 8
  (sSeq (sIf (eT (eBin (gInU false) (eVar 0) (eFrz (lTake (aCons (eD (.str "same")) (aCons (eD (.str "less")) (aCons (eD (.str "least")) aNil)))))))
  (sRet (eIf (eT (eBin gNe (eVar 0) (eD (.str "less")))) (eCall gInt (aCons (eOrV (eBin gEq (eVar 2) (eVar 3)) (eAndV (eBin gEq (eVar 0) (eD (.str "least"))) (eBin gLt (eVar 2) (eVar 3)))) aNil)) (eCall gInt (aCons (eBin gLt (eVar 2) (eVar 3)) aNil))))
  sNext)
  (sSeq (sIf (eT (eBin (gInU false) (eVar 0) (eFrz (lTake (aCons (eD (.str "add")) (aCons (eD (.str "sub")) (aCons (eD (.str "mul")) aNil)))))))
  (sRet (eCall gInt (aCons (eBin gMod (eIf (eT (eBin gEq (eVar 0) (eD (.str "add")))) (eBin (gAlt gAdd gCatT) (eVar 2) (eVar 3)) (eIf (eT (eBin gEq (eVar 0) (eD (.str "sub")))) (eBin gSub (eVar 2) (eVar 3)) (eBin gMul (eVar 2) (eVar 3)))) (eFn 1 F__law_sets (aCons (eVar 1) aNil))) aNil)))
  sNext)
  (sSeq (sSet 4 (eFrz (lComp (iRange1 (aCons (eVar 1) aNil)) (tgName 6) eYes (eTup (aCons (eCall gInt (aCons (eBin gMod (eCall gInt (aCons (eBin gDiv (eVar 2) (eFn 1 F__law_sets (aCons (eVar 6) aNil))) aNil)) (eD (.int 2))) aNil)) (aCons (eCall gInt (aCons (eBin gMod (eCall gInt (aCons (eBin gDiv (eVar 3) (eFn 1 F__law_sets (aCons (eVar 6) aNil))) aNil)) (eD (.int 2))) aNil)) aNil))) [6])))
  (sSeq (sSet 5 (eFrz (lComp (iSeq (eVar 4)) (tgName 7) eYes (eIf (eT (eBin gEq (eVar 0) (eD (.str "and")))) (eCall gMinS (aCons (eVar 7) aNil)) (eIf (eT (eBin gEq (eVar 0) (eD (.str "or")))) (eCall gMaxS (aCons (eVar 7) aNil)) (eCall gInt (aCons (eBin gNe (eBin gIx (eVar 7) (eD (.int 0))) (eBin gIx (eVar 7) (eD (.int 1)))) aNil)))) [7])))
  (sRet (eCall gSum (aCons (eFrz (lComp (iRange1 (aCons (eVar 1) aNil)) (tgName 6) eYes (eBin gMul (eBin gIx (eVar 5) (eVar 6)) (eFn 1 F__law_sets (aCons (eVar 6) aNil))) [6])) aNil))))))) gcR
/-- cone -/
noncomputable def F_cone : List B → Cs → ER B := mDef 2
  (sSeq (sExpr (eFn 2 F_check_words (aCons (eVar 0) (aCons (eFrz (lTake (aCons (eVar 1) aNil))) aNil))))
  (sRet (eCall gTuple (aCons (eFn 2 F_cone_of (aCons (eVar 0) (aCons (eVar 1) aNil))) aNil)))) gcR
/-- opposite_word -/
noncomputable def F_opposite_word : List B → Cs → ER B := mDef 2
  (sSeq (sIf (eOr (eNot (eT (eChain gLe gLe (eD (.int 1)) (eCall gLenU (aCons (eVar 0) aNil)) (eB b_MOST_WIDTH)))) (eNot (eTru (eCall gAll (aCons (eFrz (lComp (iSeq (eVar 0)) (tgName 1) eYes (eBin gGe (eVar 1) (eD (.int 0))) [1])) aNil)))))
  sNever
  sNext)
  (sRet (eCall gTuple (aCons (eFrz (lComp (iSeq (eVar 0)) (tgName 1) eYes (eFn 1 F_opposite (aCons (eVar 1) aNil)) [1])) aNil)))) gcR
/-- _law_sums_hold -/
noncomputable def F__law_sums_hold : List B → Cs → ER B := mDef 18
  (sSeq (sAsg (tgTup 2 (tgCons (tgName 0) (tgCons (tgName 4) tgNil))) (eFn 4 F_combined (aCons (eVar 0) (aCons (eD (.str "add")) (aCons (eVar 2) (aCons (eVar 3) aNil))))))
  (sSeq (sAsg (tgTup 2 (tgCons (tgName 0) (tgCons (tgName 5) tgNil))) (eFn 4 F_combined (aCons (eVar 0) (aCons (eD (.str "mul")) (aCons (eVar 1) (aCons (eVar 4) aNil))))))
  (sSeq (sAsg (tgTup 2 (tgCons (tgName 0) (tgCons (tgName 6) tgNil))) (eFn 4 F_combined (aCons (eVar 0) (aCons (eD (.str "mul")) (aCons (eVar 1) (aCons (eVar 2) aNil))))))
  (sSeq (sAsg (tgTup 2 (tgCons (tgName 0) (tgCons (tgName 7) tgNil))) (eFn 4 F_combined (aCons (eVar 0) (aCons (eD (.str "mul")) (aCons (eVar 1) (aCons (eVar 3) aNil))))))
  (sSeq (sAsg (tgTup 2 (tgCons (tgName 0) (tgCons (tgName 8) tgNil))) (eFn 4 F_combined (aCons (eVar 0) (aCons (eD (.str "add")) (aCons (eVar 6) (aCons (eVar 7) aNil))))))
  (sSeq (sAsg (tgTup 2 (tgCons (tgName 0) (tgCons (tgName 9) tgNil))) (eFn 4 F_combined (aCons (eVar 0) (aCons (eD (.str "sub")) (aCons (eVar 1) (aCons (eVar 2) aNil))))))
  (sSeq (sAsg (tgTup 2 (tgCons (tgName 0) (tgCons (tgName 10) tgNil))) (eFn 4 F_combined (aCons (eVar 0) (aCons (eD (.str "add")) (aCons (eFn 1 F_opposite_word (aCons (eVar 2) aNil)) (aCons (eFn 2 F_number_word (aCons (eD (.int 2)) (aCons (eD (.int 1)) aNil))) aNil))))))
  (sSeq (sAsg (tgTup 2 (tgCons (tgName 0) (tgCons (tgName 11) tgNil))) (eFn 4 F_combined (aCons (eVar 0) (aCons (eD (.str "add")) (aCons (eVar 1) (aCons (eVar 10) aNil))))))
  (sSeq (sAsg (tgTup 2 (tgCons (tgName 0) (tgCons (tgName 12) tgNil))) (eFn 4 F_combined (aCons (eVar 0) (aCons (eD (.str "add")) (aCons (eVar 9) (aCons (eVar 2) aNil))))))
  (sSeq (sIf (eT (eBin gNe (eFrz (lTake (aCons (eFn 3 F_agree (aCons (eVar 0) (aCons (eVar 5) (aCons (eVar 8) aNil)))) (aCons (eFn 3 F_agree (aCons (eVar 0) (aCons (eVar 9) (aCons (eVar 11) aNil)))) (aCons (eFn 3 F_agree (aCons (eVar 0) (aCons (eVar 12) (aCons (eVar 1) aNil)))) (aCons (eFn 3 F_agree (aCons (eVar 0) (aCons (eFn 1 F_opposite_word (aCons (eFn 1 F_opposite_word (aCons (eVar 1) aNil)) aNil)) (aCons (eVar 1) aNil)))) aNil)))))) (eFrz (lBin gRep (eFrz (lTake (aCons (eD (.bool true)) aNil))) (eD (.int 4))))))
  (sRet (eD (.bool false)))
  sNext)
  (sSeq (sAsg (tgTup 2 (tgCons (tgName 0) (tgCons (tgName 13) tgNil))) (eFn 4 F_combined (aCons (eVar 0) (aCons (eD (.str "less")) (aCons (eVar 1) (aCons (eVar 2) aNil))))))
  (sSeq (sAsg (tgTup 2 (tgCons (tgName 0) (tgCons (tgName 14) tgNil))) (eFn 4 F_combined (aCons (eVar 0) (aCons (eD (.str "least")) (aCons (eVar 2) (aCons (eVar 1) aNil))))))
  (sSeq (sAsg (tgTup 2 (tgCons (tgName 0) (tgCons (tgName 15) tgNil))) (eFn 4 F_combined (aCons (eVar 0) (aCons (eD (.str "same")) (aCons (eVar 1) (aCons (eVar 2) aNil))))))
  (sSeq (sAsg (tgTup 2 (tgCons (tgName 0) (tgCons (tgName 16) tgNil))) (eFn 4 F_combined (aCons (eVar 0) (aCons (eD (.str "least")) (aCons (eVar 1) (aCons (eVar 2) aNil))))))
  (sSeq (sAsg (tgTup 2 (tgCons (tgName 0) (tgCons (tgName 17) tgNil))) (eFn 4 F_combined (aCons (eVar 0) (aCons (eD (.str "and")) (aCons (eVar 16) (aCons (eVar 14) aNil))))))
  (sRet (eAndV (eBin gIs (eFn 3 F_agree (aCons (eVar 0) (aCons (eVar 13) (aCons (eFn 1 F_opposite_word (aCons (eVar 14) aNil)) aNil)))) (eD (.bool true))) (eBin gIs (eFn 3 F_agree (aCons (eVar 0) (aCons (eVar 15) (aCons (eVar 17) aNil)))) (eD (.bool true)))))))))))))))))))) gcR
/-- Build.pick -/
noncomputable def F_Build_pick : List B → Cs → ER B := mDef 6
  (sRet (eCall gTuple (aCons (eFrz (lComp (VM.iZip (aCons (eVar 2) (aCons (eVar 3) aNil))) (tgTup 2 (tgCons (tgName 4) (tgCons (tgName 5) tgNil))) eYes (eMeth "Build" "choose" 4 F_Build_choose (eVar 0) (aCons (eVar 1) (aCons (eVar 4) (aCons (eVar 5) aNil)))) [4, 5])) aNil))) gcR
/-- picked -/
noncomputable def F_picked : List B → Cs → ER B := mDef 6
  (sSeq (sExpr (eFn 2 F_check_literals (aCons (eVar 0) (aCons (eFrz (lTake (aCons (eVar 1) aNil))) aNil))))
  (sSeq (sExpr (eFn 2 F_check_words (aCons (eVar 0) (aCons (eFrz (lTake (aCons (eVar 2) (aCons (eVar 3) aNil)))) aNil))))
  (sSeq (sSet 4 (eMake "Build" 3 F_Build_init (aStar (eVar 0) aNil)))
  (sSeq (sSet 5 (eMeth "Build" "pick" 4 F_Build_pick (eVar 4) (aCons (eVar 1) (aCons (eVar 2) (aCons (eVar 3) aNil)))))
  (sRet (eTup (aCons (eMeth "Build" "net" 1 F_Build_net (eVar 4) aNil) (aCons (eVar 5) aNil)))))))) gcR
/-- node_values -/
noncomputable def F_node_values : List B → Cs → ER B := mDef 2
  (sSeq (sExpr (eFn 2 F_check_bits (aCons (eVar 0) (aCons (eVar 1) aNil))))
  (sRet (eCall gTuple (aCons (eFn 2 F_values_of (aCons (eVar 0) (aCons (eVar 1) aNil))) aNil)))) gcR
/-- _law_picks_hold -/
noncomputable def F__law_picks_hold : List B → Cs → ER B := mDef 26
  (sSeq (sAsg (tgTup 3 (tgCons (tgName 5) (tgCons (tgName 6) (tgCons (tgName 7) tgNil)))) (eVar 3))
  (sSeq (sAsg (tgTup 2 (tgCons (tgName 1) (tgCons (tgName 8) tgNil))) (eFn 4 F_combined (aCons (eVar 1) (aCons (eD (.str "and")) (aCons (eVar 5) (aCons (eVar 6) aNil))))))
  (sSeq (sAsg (tgTup 2 (tgCons (tgName 1) (tgCons (tgName 9) tgNil))) (eFn 4 F_combined (aCons (eVar 1) (aCons (eD (.str "or")) (aCons (eFn 1 F_opposite_word (aCons (eVar 5) aNil)) (aCons (eFn 1 F_opposite_word (aCons (eVar 6) aNil)) aNil))))))
  (sSeq (sAsg (tgTup 2 (tgCons (tgName 1) (tgCons (tgName 10) tgNil))) (eFn 4 F_combined (aCons (eVar 1) (aCons (eD (.str "less")) (aCons (eVar 5) (aCons (eVar 6) aNil))))))
  (sSeq (sSet 11 (eFn 2 F__law_pick (aCons (eVar 0) (aCons (eFrz (lTake (aCons (eD (.int 2)) (aCons (eD (.int 7)) (aCons (eD (.int 10)) (aCons (eBin gIx (eVar 10) (eD (.int 0))) aNil)))))) aNil))))
  (sSeq (sSet 12 (eIf (eT (eBin gEq (eCall gInt (aCons (eBin gMod (eVar 11) (eD (.int 2))) aNil)) (eD (.int 0)))) (eBin gAdd (eVar 11) (eD (.int 1))) (eBin gSub (eVar 11) (eD (.int 1)))))
  (sSeq (sAsg (tgTup 2 (tgCons (tgName 1) (tgCons (tgName 13) tgNil))) (eFn 4 F_picked (aCons (eVar 1) (aCons (eVar 11) (aCons (eVar 5) (aCons (eVar 6) aNil))))))
  (sSeq (sAsg (tgTup 2 (tgCons (tgName 1) (tgCons (tgName 14) tgNil))) (eFn 4 F_picked (aCons (eVar 1) (aCons (eVar 12) (aCons (eVar 6) (aCons (eVar 5) aNil))))))
  (sSeq (sAsg (tgTup 2 (tgCons (tgName 1) (tgCons (tgName 15) tgNil))) (eFn 4 F_picked (aCons (eVar 1) (aCons (eVar 11) (aCons (eVar 7) (aCons (eVar 7) aNil))))))
  (sSeq (sIf (eT (eBin gNe (eFrz (lTake (aCons (eFn 3 F_agree (aCons (eVar 1) (aCons (eVar 8) (aCons (eFn 1 F_opposite_word (aCons (eVar 9) aNil)) aNil)))) (aCons (eFn 3 F_agree (aCons (eVar 1) (aCons (eVar 13) (aCons (eVar 14) aNil)))) (aCons (eFn 3 F_agree (aCons (eVar 1) (aCons (eVar 15) (aCons (eVar 7) aNil)))) aNil))))) (eFrz (lBin gRep (eFrz (lTake (aCons (eD (.bool true)) aNil))) (eD (.int 3))))))
  (sRet (eD (.bool false)))
  sNext)
  (sSeq (sAsg (tgTup 2 (tgCons (tgName 16) (tgCons (tgName 17) tgNil))) (eFn 4 F_picked (aCons (eVar 1) (aCons (eD (.int 1)) (aCons (eVar 5) (aCons (eVar 6) aNil))))))
  (sSeq (sIf (eT (eBin gIsNot (eFn 3 F_agree (aCons (eVar 16) (aCons (eVar 17) (aCons (eVar 5) aNil)))) (eD (.bool true))))
  (sRet (eD (.bool false)))
  sNext)
  (sSeq (sAsg (tgTup 2 (tgCons (tgName 1) (tgCons (tgName 18) tgNil))) (eFn 4 F_combined (aCons (eVar 1) (aCons (eVar 2) (aCons (eVar 13) (aCons (eVar 7) aNil))))))
  (sSeq (sAsg (tgTup 2 (tgCons (tgName 1) (tgCons (tgName 19) tgNil))) (eFn 4 F_combined (aCons (eVar 1) (aCons (eVar 2) (aCons (eVar 14) (aCons (eVar 7) aNil))))))
  (sSeq (sIf (eT (eBin gIsNot (eFn 3 F_agree (aCons (eVar 1) (aCons (eVar 18) (aCons (eVar 19) aNil)))) (eD (.bool true))))
  (sRet (eD (.bool false)))
  sNext)
  (sSeq (sSet 20 (eFrz (lComp (iSeq (eVar 4)) (tgName 24) eYes (eFn 2 F_node_values (aCons (eVar 1) (aCons (eVar 24) aNil))) [24])))
  (sSeq (sFor (iRange1 (aCons (eD (.int 5)) aNil)) (tgName 21)
  (sSeq (sSet 22 (eFrz (lComp (iSeq (eVar 18)) (tgName 25) eYes (eIf (eT (eBin gEq (eCall gInt (aCons (eBin gMod (eVar 25) (eD (.int 2))) aNil)) (eD (.int 0)))) (eBin gIx (eBin gIx (eVar 20) (eVar 21)) (eBin gDiv (eVar 25) (eD (.int 2)))) (eBin gSub (eD (.int 1)) (eBin gIx (eBin gIx (eVar 20) (eVar 21)) (eBin gDiv (eVar 25) (eD (.int 2)))))) [25])))
  (sIf (eT (eBin gNe (eFn 3 F_word_number (aCons (eVar 1) (aCons (eBin gIx (eVar 4) (eVar 21)) (aCons (eVar 18) aNil)))) (eBin gAdd (eBin gIx (eVar 22) (eD (.int 0))) (eBin gMul (eD (.int 2)) (eBin gIx (eVar 22) (eD (.int 1)))))))
  (sRet (eD (.bool false)))
  sNext)))
  (sSeq (sSet 23 (eFrz (lComp (iSeq (eVar 4)) (tgName 24) (eT (eBin gNe (eFn 3 F_word_number (aCons (eVar 1) (aCons (eVar 24) (aCons (eVar 5) aNil)))) (eFn 3 F_word_number (aCons (eVar 1) (aCons (eVar 24) (aCons (eVar 6) aNil)))))) (eVar 24) [24])))
  (sRet (eIf (eT (eBin gNe (eVar 23) (eFrz (lTake aNil)))) (eBin gIs (eFn 3 F_agree (aCons (eVar 1) (aCons (eVar 5) (aCons (eVar 6) aNil)))) (eD (.bool false))) (eD (.bool true)))))))))))))))))))))) gcR
/-- _law_main -/
noncomputable def F__law_main : List B → Cs → ER B := mDef 24
  (sSeq (sSet 1 (eFn 1 F__law_draws (aCons (eVar 0) aNil)))
  (sSeq (sSet 1 (eFn 2 F__law_more (aCons (eVar 1) (aCons (eD (.int 150)) aNil))))
  (sSeq (sSet 2 (eTup (aCons (eD (.int 6)) (aCons (eTup aNil) aNil))))
  (sSeq (sSet 3 (eFrz (lTake (aCons (eTup (aCons (eD (.int 2)) (aCons (eD (.int 4)) aNil))) (aCons (eTup (aCons (eD (.int 6)) (aCons (eD (.int 8)) aNil))) (aCons (eTup (aCons (eD (.int 10)) (aCons (eD (.int 12)) aNil))) aNil))))))
  (sSeq (sSet 3 (eFrz (lComp (iSeq (eVar 3)) (tgName 21) eYes (eCall gTuple (aCons (eFrz (lComp (iSeq (eVar 21)) (tgName 11) eYes (eBin gAdd (eVar 11) (eBin gMod (eCall gInt (aCons (eFn 1 F__law_next (aCons (eVar 1) aNil)) aNil)) (eD (.int 2)))) [11])) aNil)) [21])))
  (sSeq (sSet 3 (eFrz (lComp (iSeq (eVar 3)) (tgName 21) eYes (eIf (eT (eBin gGt (eBin gMod (eCall gInt (aCons (eFn 1 F__law_next (aCons (eVar 1) aNil)) aNil)) (eD (.int 4))) (eD (.int 0)))) (eVar 21) (eFn 2 F_number_word (aCons (eD (.int 2)) (aCons (eBin gMod (eCall gInt (aCons (eFn 1 F__law_next (aCons (eVar 1) aNil)) aNil)) (eD (.int 4))) aNil)))) [21])))
  (sSeq (sAsg (tgTup 3 (tgCons (tgName 4) (tgCons (tgName 5) (tgCons (tgName 6) tgNil)))) (eVar 3))
  (sSeq (sSet 7 (eFrz (lComp (iRange1 (aCons (eD (.int 5)) aNil)) (tgName 22) eYes (eCall gTuple (aCons (eFrz (lComp (iRange1 (aCons (eD (.int 6)) aNil)) (tgName 23) eYes (eBin gMod (eCall gInt (aCons (eFn 1 F__law_next (aCons (eVar 1) aNil)) aNil)) (eD (.int 2))) [23])) aNil)) [22])))
  (sSeq (sPar 8 9 (aCons (eBin gAdd (eD (.int 2)) (eBin gMod (eCall gInt (aCons (eFn 1 F__law_next (aCons (eVar 1) aNil)) aNil)) (eD (.int 12)))) (aCons (eBin gAdd (eD (.int 2)) (eBin gMod (eCall gInt (aCons (eFn 1 F__law_next (aCons (eVar 1) aNil)) aNil)) (eD (.int 12)))) aNil)))
  (sSeq (sAsg (tgTup 2 (tgCons (tgName 10) (tgCons (tgName 11) tgNil))) (eFn 3 F_joined (aCons (eVar 2) (aCons (eVar 8) (aCons (eVar 9) aNil)))))
  (sSeq (sIf (eOr (eT (eBin gNe (eFn 3 F_joined (aCons (eVar 2) (aCons (eVar 9) (aCons (eVar 8) aNil)))) (eTup (aCons (eVar 10) (aCons (eVar 11) aNil))))) (eOr (eT (eBin gNe (eFn 3 F_joined (aCons (eVar 10) (aCons (eVar 8) (aCons (eVar 9) aNil)))) (eTup (aCons (eVar 10) (aCons (eVar 11) aNil))))) (eOr (eT (eBin gNe (eFn 3 F_joined (aCons (eVar 2) (aCons (eVar 8) (aCons (eD (.int 1)) aNil)))) (eTup (aCons (eVar 2) (aCons (eVar 8) aNil))))) (eT (eBin gNe (eFn 3 F_joined (aCons (eVar 2) (aCons (eVar 8) (aCons (eD (.int 0)) aNil)))) (eTup (aCons (eVar 2) (aCons (eD (.int 0)) aNil))))))))
  (sRet (eD (.bool false)))
  sNext)
  (sSeq (sIf (eOr (eT (eBin gIsNot (eFn 1 F_is_net (aCons (eVar 10) aNil)) (eD (.bool true)))) (eOr (eT (eBin gIsNot (eFn 1 F_is_tidy (aCons (eVar 10) aNil)) (eD (.bool true)))) (eT (eBin gNe (eFn 3 F_joined (aCons (eVar 10) (aCons (eVar 11) (aCons (eVar 8) aNil)))) (eTup (aCons (eVar 10) (aCons (eVar 11) aNil)))))))
  (sRet (eD (.bool false)))
  sNext)
  (sSeq (sSet 12 (eFrz (lTake (aCons (eD (.str "add")) (aCons (eD (.str "mul")) (aCons (eD (.str "and")) (aCons (eD (.str "or")) (aCons (eD (.str "xor")) aNil))))))))
  (sSeq (sSet 13 (eFn 2 F__law_pick (aCons (eVar 1) (aCons (eVar 12) aNil))))
  (sSeq (sAsg (tgTup 3 (tgCons (tgName 2) (tgCons (tgName 14) (tgCons (tgName 15) tgNil)))) (eFn 5 F__law_both (aCons (eVar 2) (aCons (eVar 13) (aCons (eVar 4) (aCons (eVar 5) (aCons (eVar 6) aNil)))))))
  (sSeq (sIf (eT (eBin gIsNot (eFn 3 F_agree (aCons (eVar 2) (aCons (eVar 14) (aCons (eVar 15) aNil)))) (eD (.bool true))))
  (sRet (eD (.bool false)))
  sNext)
  (sSeq (sFor (iSeq (eFrz (lTake (aCons (eD (.str "add")) (aCons (eD (.str "sub")) (aCons (eD (.str "mul")) (aCons (eD (.str "and")) (aCons (eD (.str "or")) (aCons (eD (.str "xor")) (aCons (eD (.str "same")) (aCons (eD (.str "less")) (aCons (eD (.str "least")) aNil)))))))))))) (tgName 16)
  (sSeq (sAsg (tgTup 2 (tgCons (tgName 2) (tgCons (tgName 17) tgNil))) (eFn 4 F_combined (aCons (eVar 2) (aCons (eVar 16) (aCons (eVar 4) (aCons (eVar 5) aNil))))))
  (sSeq (sAsg (tgTup 2 (tgCons (tgName 2) (tgCons (tgName 18) tgNil))) (eFn 4 F_combined (aCons (eVar 2) (aCons (eVar 16) (aCons (eVar 5) (aCons (eVar 4) aNil))))))
  (sSeq (sIf (eAnd (eT (eBin (gInU false) (eVar 16) (eFrz (lBin gCat (eVar 12) (eFrz (lTake (aCons (eD (.str "same")) aNil))))))) (eT (eBin gIsNot (eFn 3 F_agree (aCons (eVar 2) (aCons (eVar 17) (aCons (eVar 18) aNil)))) (eD (.bool true)))))
  (sRet (eD (.bool false)))
  sNext)
  (sSeq (sFor (iSeq (eVar 7)) (tgName 19)
  (sSeq (sSet 20 (eFrz (lComp (iSeq (eFrz (lTake (aCons (eVar 4) (aCons (eVar 5) aNil))))) (tgName 21) eYes (eFn 3 F_word_number (aCons (eVar 2) (aCons (eVar 19) (aCons (eVar 21) aNil)))) [21])))
  (sIf (eOr (eT (eBin gNe (eFn 3 F_word_number (aCons (eVar 2) (aCons (eVar 19) (aCons (eVar 17) aNil)))) (eFn 4 F__law_join (aCons (eVar 16) (aCons (eD (.int 2)) (aCons (eBin gIx (eVar 20) (eD (.int 0))) (aCons (eBin gIx (eVar 20) (eD (.int 1))) aNil))))))) (eT (eBin gNe (eFn 3 F_word_number (aCons (eVar 2) (aCons (eVar 19) (aCons (eVar 18) aNil)))) (eFn 4 F__law_join (aCons (eVar 16) (aCons (eD (.int 2)) (aCons (eBin gIx (eVar 20) (eD (.int 1))) (aCons (eBin gIx (eVar 20) (eD (.int 0))) aNil))))))))
  (sRet (eD (.bool false)))
  sNext)))
  (sIf (eOr (eT (eBin gIsNot (eFn 1 F_is_tidy (aCons (eVar 2) aNil)) (eD (.bool true)))) (eNot (eTru (eCall gAll (aCons (eFrz (lComp (iSeq (eFn 2 F_cone (aCons (eVar 2) (aCons (eVar 17) aNil)))) (tgName 23) eYes (eOrV (eBin (gInU false) (eVar 23) (eBin (gAlt gAdd gCatT) (eBin (gAlt gAdd gCatT) (eTup (aCons (eD (.int 0)) aNil)) (eFn 2 F_cone (aCons (eVar 2) (aCons (eVar 4) aNil)))) (eFn 2 F_cone (aCons (eVar 2) (aCons (eVar 5) aNil))))) (eBin gGt (eVar 23) (eD (.int 6)))) [23])) aNil)))))
  (sRet (eD (.bool false)))
  sNext))))))
  (sRet (eAndV (eFn 4 F__law_sums_hold (aCons (eVar 2) (aCons (eVar 4) (aCons (eVar 5) (aCons (eVar 6) aNil))))) (eFn 5 F__law_picks_hold (aCons (eVar 1) (aCons (eVar 2) (aCons (eVar 13) (aCons (eVar 3) (aCons (eVar 7) aNil))))))))))))))))))))))))) gcR
noncomputable def body_law : FnS := (sTry0 (sRet (eFn 1 F__law_main (aCons (eVar 0) aNil))))
/-- law -/
noncomputable def F_law : List B → Cs → ER B := mDef 1 body_law gcR
end K42

namespace K42
open PySem PySem.Spec PyProof.Rows L2 VM
open Classical
/-! ### what stands behind the top -/
structure Lk (K : PySem.W.Frag) (mg : Str → Option Value) : Prop where
  c_FALSE : Gd K mg "FALSE" b_FALSE
  c_KINDS : Gd K mg "KINDS" b_KINDS
  c_MOST_FREE : Gd K mg "MOST_FREE" b_MOST_FREE
  c_MOST_GATES : Gd K mg "MOST_GATES" b_MOST_GATES
  c_MOST_LOOKED : Gd K mg "MOST_LOOKED" b_MOST_LOOKED
  c_MOST_WIDTH : Gd K mg "MOST_WIDTH" b_MOST_WIDTH
  c_TRUE : Gd K mg "TRUE" b_TRUE
  f_Build_free : Fl K mg "Build" "free"
  f_Build_gates : Fl K mg "Build" "gates"
  f_Build_known : Fl K mg "Build" "known"
  n_all : mg "all" = none
  n_enumerate : mg "enumerate" = none
  n_int : mg "int" = none
  n_len : mg "len" = none
  n_max : mg "max" = none
  n_min : mg "min" = none
  n_range : mg "range" = none
  n_sorted : mg "sorted" = none
  n_sum : mg "sum" = none
  n_tuple : mg "tuple" = none
  n_zip : mg "zip" = none
  r__law_number : Raw K mg "_law_number" "_law_number" s__law_number ["cell"]
  r__law_draws : Raw K mg "_law_draws" "_law_draws" s__law_draws ["script"]
  r__law_next : Raw K mg "_law_next" "_law_next" s__law_next ["draws"]
  r__law_more : Raw K mg "_law_more" "_law_more" s__law_more ["draws", "many"]
  r_number_word : Raw K mg "number_word" "number_word" s_number_word ["width", "number"]
  r_is_net : Raw K mg "is_net" "is_net" s_is_net ["net"]
  r_check_net : Raw K mg "check_net" "check_net" s_check_net ["net"]
  r_is_literal : Raw K mg "is_literal" "is_literal" s_is_literal ["net", "literal"]
  r_check_literals : Raw K mg "check_literals" "check_literals" s_check_literals ["net", "literals"]
  r_Build_init : RawC K mg "Build" "Build.__init__" s_Build_init ["self", "free", "gates"]
  r_opposite : Raw K mg "opposite" "opposite" s_opposite ["literal"]
  r_Build_pair_of : RawM K mg "Build" "pair_of" "Build.pair_of" s_Build_pair_of ["self", "literal"]
  r_Build_looked : RawM K mg "Build" "looked" "Build.looked" s_Build_looked ["self", "a", "b"]
  r_Build_both : RawB K mg "Build" "both" "Build.both" s_Build_both ["self", "a", "b"] a_Build_both
  r_Build_net : RawM K mg "Build" "net" "Build.net" s_Build_net ["self"]
  r_joined : Raw K mg "joined" "joined" s_joined ["net", "a", "b"]
  r_is_tidy : Raw K mg "is_tidy" "is_tidy" s_is_tidy ["net"]
  r__law_pick : Raw K mg "_law_pick" "_law_pick" s__law_pick ["draws", "some"]
  r_is_word : Raw K mg "is_word" "is_word" s_is_word ["net", "word"]
  r_check_words : Raw K mg "check_words" "check_words" s_check_words ["net", "words"]
  r_Build_either : RawB K mg "Build" "either" "Build.either" s_Build_either ["self", "a", "b"] a_Build_either
  r_Build_differ : RawB K mg "Build" "differ" "Build.differ" s_Build_differ ["self", "a", "b"] a_Build_differ
  r_Build_add : RawM K mg "Build" "add" "Build.add" s_Build_add ["self", "one", "other", "carry"]
  r_Build_times : RawM K mg "Build" "times" "Build.times" s_Build_times ["self", "one", "other"]
  r_Build_all_of : RawM K mg "Build" "all_of" "Build.all_of" s_Build_all_of ["self", "literals"]
  r_Build_same : RawM K mg "Build" "same" "Build.same" s_Build_same ["self", "one", "other"]
  r_Build_choose : RawM K mg "Build" "choose" "Build.choose" s_Build_choose ["self", "c", "a", "b"]
  r_Build_less : RawM K mg "Build" "less" "Build.less" s_Build_less ["self", "one", "other"]
  r_Build_combine : RawM K mg "Build" "combine" "Build.combine" s_Build_combine ["self", "kind", "one", "other"]
  r_combined : Raw K mg "combined" "combined" s_combined ["net", "kind", "one", "other"]
  r__law_both : Raw K mg "_law_both" "_law_both" s__law_both ["net", "kind", "one", "other", "third"]
  r_cone_of : Raw K mg "cone_of" "cone_of" s_cone_of ["net", "word"]
  r_value_of : Raw K mg "value_of" "value_of" s_value_of ["values", "literal"]
  r_values_of : Raw K mg "values_of" "values_of" s_values_of ["net", "bits"]
  r_number_of : Raw K mg "number_of" "number_of" s_number_of ["values", "word"]
  r_agree : Raw K mg "agree" "agree" s_agree ["net", "one", "other"]
  r_are_bits : Raw K mg "are_bits" "are_bits" s_are_bits ["net", "bits"]
  r_check_bits : Raw K mg "check_bits" "check_bits" s_check_bits ["net", "bits"]
  r_word_number : Raw K mg "word_number" "word_number" s_word_number ["net", "bits", "word"]
  r__law_sets : Raw K mg "_law_sets" "_law_sets" s__law_sets ["size"]
  r__law_join : Raw K mg "_law_join" "_law_join" s__law_join ["op", "w", "one", "other"]
  r_cone : Raw K mg "cone" "cone" s_cone ["net", "word"]
  r_opposite_word : Raw K mg "opposite_word" "opposite_word" s_opposite_word ["word"]
  r__law_sums_hold : Raw K mg "_law_sums_hold" "_law_sums_hold" s__law_sums_hold ["net", "x", "y", "z"]
  r_Build_pick : RawM K mg "Build" "pick" "Build.pick" s_Build_pick ["self", "c", "one", "other"]
  r_picked : Raw K mg "picked" "picked" s_picked ["net", "c", "one", "other"]
  r_node_values : Raw K mg "node_values" "node_values" s_node_values ["net", "bits"]
  r__law_picks_hold : Raw K mg "_law_picks_hold" "_law_picks_hold" s__law_picks_hold ["draws", "net", "kind", "words", "bits"]
  r__law_main : Raw K mg "_law_main" "_law_main" s__law_main ["script"]
  r_law : RawL K mg "law" "law" s_law
section
variable {P : Program} {w : World} {K : PySem.W.Frag} {mg : Str → Option Value} {base : Heap}
theorem sc__law_number : FnScope ["cell"] ["cell"] (defScope s__law_number) := ⟨rfl, rfl, rfl, by decide +kernel, rfl, by decide +kernel, by decide +kernel⟩
theorem d__law_number (L : Lk K mg) : Fd P w K mg base 1 "_law_number" 1 F__law_number := fd_of L.r__law_number sc__law_number end_gc fun f cdv A outer s H E hr =>
  (ss_cons (ss_if (st_cmp op_lt og_lt (se_var 0) se_int rfl)
  (ss_one (ss_ret (se_op op_sub og_sub se_int (se_var 0))))
  ss_nil)
  (ss_one (ss_ret (se_var 0))))
theorem sc__law_draws : FnScope ["script", "draws", "cell", "rest", "k", "once", "twice"] ["script"] (defScope s__law_draws) := ⟨rfl, rfl, rfl, by decide +kernel, rfl, by decide +kernel, by decide +kernel⟩
theorem d__law_draws (L : Lk K mg) : Fd P w K mg base 2 "_law_draws" 1 F__law_draws := fd_of L.r__law_draws sc__law_draws end_gcN fun f cdv A outer s H E hr =>
  (ss_cons (ss_set 1 (se_cell (sl_lst sa_nil)) sc__law_draws.nd)
  (ss_cons (ss_for (si_seq (se_var 0)) (sg_name 2 sc__law_draws.nd)
  (ss_cons (ss_set 3 (se_f (d__law_number L) (by decide) takes_cx hr (sa_cons (se_var 2) sa_nil)) sc__law_draws.nd)
  (ss_one (ss_if (st_cmp op_ge og_ge (se_var 3) se_int rfl)
  (ss_one (ss_for (si_range1 rfl L.n_range (sa_cons se_int sa_nil)) (sg_name 4 sc__law_draws.nd)
  (ss_cons (ss_if (st_cmp (op_eqD hr.units) og_eq (se_var 3) se_int rfl)
  (ss_one ss_break)
  ss_nil)
  (ss_cons (ss_expr (se_append (se_var 1) (sa_cons (se_op op_mod og_mod (se_callTy (call_int1) (lg_int) rfl L.n_int bt_int (sa_cons (se_var 3) sa_nil)) se_int) sa_nil)))
  (ss_one (ss_set 3 (se_op op_fdiv og_div (se_var 3) se_int) sc__law_draws.nd)))) owns_cx))
  (ss_cons (ss_set 5 (se_op op_mod og_mod (se_callTy (call_int1) (lg_int) rfl L.n_int bt_int (sa_cons (se_op op_add og_add (se_op op_mul og_mul (se_var 3) se_int) se_int) sa_nil)) se_int) sc__law_draws.nd)
  (ss_cons (ss_set 6 (se_op op_mod og_mod (se_callTy (call_int1) (lg_int) rfl L.n_int bt_int (sa_cons (se_op op_add og_add (se_op op_mul og_mul (se_var 5) se_int) (se_var 3)) sa_nil)) se_int) sc__law_draws.nd)
  (ss_one (ss_expr (se_extend (se_var 1) (sa_cons (se_cell (sl_lst (sa_cons (se_op op_mod og_mod (se_callTy (call_int1) (lg_int) rfl L.n_int bt_int (sa_cons (se_var 3) sa_nil)) se_int) (sa_cons (se_op op_mod og_mod (se_callTy (call_int1) (lg_int) rfl L.n_int bt_int (sa_cons (se_var 5) sa_nil)) se_int) (sa_cons (se_op op_mod og_mod (se_callTy (call_int1) (lg_int) rfl L.n_int bt_int (sa_cons (se_var 6) sa_nil)) se_int) sa_nil))))) sa_nil))))))))) owns_cx)
  (ss_cons (ss_expr (se_reverse (se_var 1)))
  (ss_one (ss_ret (se_var 1))))))
theorem sc__law_next : FnScope ["draws"] ["draws"] (defScope s__law_next) := ⟨rfl, rfl, rfl, by decide +kernel, rfl, by decide +kernel, by decide +kernel⟩
theorem d__law_next (L : Lk K mg) : Fd P w K mg base 1 "_law_next" 1 F__law_next := fd_of L.r__law_next sc__law_next end_gc fun f cdv A outer s H E hr =>
  (ss_cons (ss_if (st_tru (se_var 0))
  (ss_one (ss_ret (se_pop (se_var 0))))
  ss_nil)
  (ss_one (ss_ret se_int)))
theorem sc__law_more : FnScope ["draws", "many", "seed", "more", "k"] ["draws", "many"] (defScope s__law_more) := ⟨rfl, rfl, rfl, by decide +kernel, rfl, by decide +kernel, by decide +kernel⟩
theorem d__law_more (L : Lk K mg) : Fd P w K mg base 2 "_law_more" 2 F__law_more := fd_of L.r__law_more sc__law_more end_gcN fun f cdv A outer s H E hr =>
  (ss_cons (ss_set 2 (se_op op_add og_add (se_op op_add og_add (se_op op_mul og_mul se_int (se_f (d__law_next L) (by decide) takes_cx hr (sa_cons (se_var 0) sa_nil))) (se_f (d__law_next L) (by decide) takes_cx hr (sa_cons (se_var 0) sa_nil))) se_int) sc__law_more.nd)
  (ss_cons (ss_set 3 (se_cell (sl_lst sa_nil)) sc__law_more.nd)
  (ss_cons (ss_for (si_range1 rfl L.n_range (sa_cons (se_var 1) sa_nil)) (sg_name 4 sc__law_more.nd)
  (ss_cons (ss_set 2 (se_op op_mod og_mod (se_callTy (call_int1) (lg_int) rfl L.n_int bt_int (sa_cons (se_op op_add og_add (se_op op_mul og_mul (se_var 2) se_int) se_int) sa_nil)) se_int) sc__law_more.nd)
  (ss_one (ss_expr (se_append (se_var 3) (sa_cons (se_op op_mod og_mod (se_callTy (call_int1) (lg_int) rfl L.n_int bt_int (sa_cons (se_op op_fdiv og_div (se_var 2) se_int) sa_nil)) se_int) sa_nil))))) owns_cx)
  (ss_one (ss_ret (se_cell (sl_op op_cat ol_cat (se_var 3) (se_var 0))))))))
theorem sc_number_word : FnScope ["width", "number", "at"] ["width", "number"] (defScope s_number_word) := ⟨rfl, rfl, rfl, by decide +kernel, rfl, by decide +kernel, by decide +kernel⟩
theorem d_number_word (L : Lk K mg) : Fd P w K mg base 1 "number_word" 2 F_number_word := fd_of L.r_number_word sc_number_word end_gc fun f cdv A outer s H E hr =>
  (ss_cons (ss_if (sw_pt (sw_or (st_not (st_chain op_le op_le og_le og_le se_int (se_var 0) (se_g (L.c_MOST_WIDTH)))) (sw_or1 (st_not (st_chain op_le op_lt og_le og_lt se_int (se_var 1) (se_op op_shl og_shl se_int (se_var 0)))))))
  (ss_one ss_never)
  ss_nil)
  (ss_one (ss_ret (se_callTy (call_tuple_of) (lg_tuple) rfl L.n_tuple bt_tuple (sa_cons (se_frz (sl_comp sc_number_word.nd (si_range1 rfl L.n_range (sa_cons (se_var 0) sa_nil)) (own := [("at", 2)]) (blk_of rfl (by kernel_rfl)) (fun _ _ _ _ _ => (sg_name 2 sc_number_word.nd)) (fun _ _ _ _ _ => sts_nil) (fun _ _ _ _ _ => (se_op op_and og_band (se_op op_shr og_shr (se_var 1) (se_var 2)) se_int)))) sa_nil)))))
theorem sc_is_net : FnScope ["net", "free", "gates", "at", "pair", "literal"] ["net"] (defScope s_is_net) := ⟨rfl, rfl, rfl, by decide +kernel, rfl, by decide +kernel, by decide +kernel⟩
theorem d_is_net (L : Lk K mg) : Fd P w K mg base 1 "is_net" 1 F_is_net := fd_of L.r_is_net sc_is_net end_gc fun f cdv A outer s H E hr =>
  (ss_cons (ss_asg (se_var 0) (sg_tup 2 (sgs_cons (sg_name 1 sc_is_net.nd) (sgs_cons (sg_name 2 sc_is_net.nd) sgs_nil))))
  (ss_cons (ss_if (sw_pt (sw_or (st_not (st_chain op_le op_le og_le og_le se_int (se_var 1) (se_g (L.c_MOST_FREE)))) (sw_or1 (st_cmp op_gt og_gt (se_callB (cr_alt call_len (cr_alt call_lenD call_len_dT)) (lg_alt lg_len lg_lenD) rfl L.n_len bt_len (sa_cons (se_var 2) sa_nil)) (se_g (L.c_MOST_GATES)) rfl))))
  (ss_one (ss_ret se_bl))
  ss_nil)
  (ss_cons (ss_for (si_enum rfl L.n_enumerate (sa_cons (se_var 2) sa_nil)) (sg_tup 2 (sgs_cons (sg_name 3 sc_is_net.nd) (sgs_cons (sg_name 4 sc_is_net.nd) sgs_nil)))
  (ss_one (ss_if (sw_pt (sw_or (st_cmp (op_neD hr.units) og_ne (se_callB (cr_alt call_len (cr_alt call_lenD call_len_dT)) (lg_alt lg_len lg_lenD) rfl L.n_len bt_len (sa_cons (se_var 4) sa_nil)) se_int rfl) (sw_or1 (st_not (st_tru (se_callB (cr_all rfl) (lg_all) rfl L.n_all bt_all (sa_cons (se_frz (sl_comp sc_is_net.nd (si_seq (se_var 4)) (own := [("literal", 5)]) (blk_of rfl (by kernel_rfl)) (fun _ _ _ _ _ => (sg_name 5 sc_is_net.nd)) (fun _ _ _ _ _ => sts_nil) (fun _ _ _ _ _ => (se_chain op_le op_lt og_le og_lt se_int (se_var 5) (se_op op_mul og_mul se_int (se_op op_add og_add (se_op op_add og_add (se_var 1) se_int) (se_var 3))))))) sa_nil)))))))
  (ss_one (ss_ret se_bl))
  ss_nil)) owns_cx)
  (ss_one (ss_ret se_bl)))))
theorem sc_check_net : FnScope ["net"] ["net"] (defScope s_check_net) := ⟨rfl, rfl, rfl, by decide +kernel, rfl, by decide +kernel, by decide +kernel⟩
theorem d_check_net (L : Lk K mg) : Fd P w K mg base 2 "check_net" 1 F_check_net := fd_of L.r_check_net sc_check_net end_gc fun f cdv A outer s H E hr =>
  (ss_one (ss_if (st_not (st_tru (se_f (d_is_net L) (by decide) takes_cx hr (sa_cons (se_var 0) sa_nil))))
  (ss_one ss_never)
  ss_nil))
theorem sc_is_literal : FnScope ["net", "literal"] ["net", "literal"] (defScope s_is_literal) := ⟨rfl, rfl, rfl, by decide +kernel, rfl, by decide +kernel, by decide +kernel⟩
theorem d_is_literal (L : Lk K mg) : Fd P w K mg base 1 "is_literal" 2 F_is_literal := fd_of L.r_is_literal sc_is_literal end_gc fun f cdv A outer s H E hr =>
  (ss_one (ss_ret (se_chain op_le op_lt og_le og_lt se_int (se_var 1) (se_op op_mul og_mul se_int (se_op op_add og_add (se_op op_add og_add (se_ix (se_var 0) se_int) se_int) (se_callB (cr_alt call_len (cr_alt call_lenD call_len_dT)) (lg_alt lg_len lg_lenD) rfl L.n_len bt_len (sa_cons (se_ix (se_var 0) se_int) sa_nil)))))))
theorem sc_check_literals : FnScope ["net", "literals", "literal"] ["net", "literals"] (defScope s_check_literals) := ⟨rfl, rfl, rfl, by decide +kernel, rfl, by decide +kernel, by decide +kernel⟩
theorem d_check_literals (L : Lk K mg) : Fd P w K mg base 3 "check_literals" 2 F_check_literals := fd_of L.r_check_literals sc_check_literals end_gc fun f cdv A outer s H E hr =>
  (ss_cons (ss_expr (se_f (d_check_net L) (by decide) takes_cx hr (sa_cons (se_var 0) sa_nil)))
  (ss_one (ss_if (st_not (st_tru (se_callB (cr_all rfl) (lg_all) rfl L.n_all bt_all (sa_cons (se_frz (sl_comp sc_check_literals.nd (si_seq (se_var 1)) (own := [("literal", 2)]) (blk_of rfl (by kernel_rfl)) (fun _ _ _ _ _ => (sg_name 2 sc_check_literals.nd)) (fun _ _ _ _ _ => sts_nil) (fun _ _ _ _ _ => (se_f (d_is_literal L) (by decide) takes_no hr (sa_cons (se_var 0) (sa_cons (se_var 2) sa_nil)))))) sa_nil))))
  (ss_one ss_never)
  ss_nil)))
theorem sc_Build_init : FnScope ["self", "free", "gates", "at", "pair"] ["self", "free", "gates"] (defScope s_Build_init) := ⟨rfl, rfl, rfl, by decide +kernel, rfl, by decide +kernel, by decide +kernel⟩
theorem d_Build_init (L : Lk K mg) : Cd P w K mg base 1 "Build" 3 F_Build_init := cd_of L.r_Build_init sc_Build_init end_keep fun f cdv A outer s H E hr =>
  (ss_cons (ss_fl L.f_Build_free (se_var 0) (se_var 1))
  (ss_cons (ss_fl L.f_Build_gates (se_var 0) (se_cell (sl_comp sc_Build_init.nd (si_seq (se_var 2)) (own := [("pair", 4)]) (blk_of rfl (by kernel_rfl)) (fun _ _ _ _ _ => (sg_name 4 sc_Build_init.nd)) (fun _ _ _ _ _ => sts_nil) (fun _ _ _ _ _ => (se_callTy (call_tuple_of) (lg_tuple) rfl L.n_tuple bt_tuple (sa_cons (se_var 4) sa_nil))))))
  (ss_cons (ss_fl L.f_Build_known (se_var 0) se_newT)
  (ss_one (ss_for (si_enum rfl L.n_enumerate (sa_cons (se_fl L.f_Build_gates (se_var 0)) sa_nil)) (sg_tup 2 (sgs_cons (sg_name 3 sc_Build_init.nd) (sgs_cons (sg_name 4 sc_Build_init.nd) sgs_nil)))
  (ss_one (ss_expr (se_setd hr (se_fl L.f_Build_known (se_var 0)) (sa_cons (se_var 4) (sa_cons (se_op op_mul og_mul se_int (se_op op_add og_add (se_op op_add og_add (se_var 1) se_int) (se_var 3))) sa_nil))))) owns_cx)))))
theorem sc_opposite : FnScope ["literal"] ["literal"] (defScope s_opposite) := ⟨rfl, rfl, rfl, by decide +kernel, rfl, by decide +kernel, by decide +kernel⟩
theorem d_opposite (L : Lk K mg) : Fd P w K mg base 1 "opposite" 1 F_opposite := fd_of L.r_opposite sc_opposite end_gc fun f cdv A outer s H E hr =>
  (ss_one (ss_ret (se_op op_sub og_sub (se_op op_add og_add (se_var 0) se_int) (se_op op_mul og_mul se_int (se_op op_mod og_mod (se_var 0) se_int)))))
theorem sc_Build_pair_of : FnScope ["self", "literal", "at"] ["self", "literal"] (defScope s_Build_pair_of) := ⟨rfl, rfl, rfl, by decide +kernel, rfl, by decide +kernel, by decide +kernel⟩
theorem d_Build_pair_of (L : Lk K mg) : Md P w K mg base 1 "Build" "pair_of" 2 F_Build_pair_of := md_of L.r_Build_pair_of sc_Build_pair_of end_gc fun f cdv A outer s H E hr =>
  (ss_cons (ss_set 2 (se_op op_sub og_sub (se_op op_sub og_sub (se_op op_fdiv og_div (se_var 1) se_int) (se_fl L.f_Build_free (se_var 0))) se_int) sc_Build_pair_of.nd)
  (ss_one (ss_ret (se_if (st_cmp op_ge og_ge (se_var 2) se_int rfl) (se_ix (se_fl L.f_Build_gates (se_var 0)) (se_var 2)) (se_tup sa_nil)))))
theorem sc_Build_looked : FnScope ["self", "a", "b", "one", "other"] ["self", "a", "b"] (defScope s_Build_looked) := ⟨rfl, rfl, rfl, by decide +kernel, rfl, by decide +kernel, by decide +kernel⟩
theorem d_Build_looked (L : Lk K mg) : Md P w K mg base 2 "Build" "looked" 3 F_Build_looked := md_of L.r_Build_looked sc_Build_looked end_gc fun f cdv A outer s H E hr =>
  (ss_cons (ss_for (si_seq (se_tup (sa_cons (se_tup (sa_cons (se_var 1) (sa_cons (se_var 2) sa_nil))) (sa_cons (se_tup (sa_cons (se_var 2) (sa_cons (se_var 1) sa_nil))) sa_nil)))) (sg_tup 2 (sgs_cons (sg_name 3 sc_Build_looked.nd) (sgs_cons (sg_name 4 sc_Build_looked.nd) sgs_nil)))
  (ss_cons (ss_if (sw_pt (sw_and (st_cmp (op_eqD hr.units) og_eq (se_op op_mod og_mod (se_var 3) se_int) se_int rfl) (sw_and1 (st_in hr (se_var 4) (se_m (d_Build_pair_of L) (by decide) takes_cx hr (se_var 0) (sa_cons (se_var 3) sa_nil))))))
  (ss_one (ss_ret (se_var 3)))
  ss_nil)
  (ss_one (ss_if (sw_pt (sw_and (st_cmp (op_eqD hr.units) og_eq (se_op op_mod og_mod (se_var 3) se_int) se_int rfl) (sw_and1 (st_in hr (se_f (d_opposite L) (by decide) takes_cx hr (sa_cons (se_var 4) sa_nil)) (se_m (d_Build_pair_of L) (by decide) takes_cx hr (se_var 0) (sa_cons (se_var 3) sa_nil))))))
  (ss_one (ss_ret (se_g (L.c_FALSE))))
  ss_nil))) owns_cx)
  (ss_one (ss_ret se_non)))
theorem sc_Build_both : FnScope ["self", "a", "b", "found"] ["self", "a", "b"] (defScope s_Build_both) := ⟨rfl, rfl, rfl, by decide +kernel, rfl, by decide +kernel, by decide +kernel⟩
theorem d_Build_both (L : Lk K mg) : Bd P w K mg base 3 "Build" "both" a_Build_both 3 F_Build_both := bd_of L.r_Build_both sc_Build_both end_gc fun f cdv A outer s H E hr =>
  (ss_cons (ss_par 1 2 (sa_cons (se_callB (call_min2 rfl) (lg_min) rfl L.n_min bt_min (sa_cons (se_var 1) (sa_cons (se_var 2) sa_nil))) (sa_cons (se_callB (call_max2 rfl) (lg_max) rfl L.n_max bt_max (sa_cons (se_var 1) (sa_cons (se_var 2) sa_nil))) sa_nil)) sc_Build_both.nd)
  (ss_cons (ss_if (sw_pt (sw_or (st_cmp (op_eqD hr.units) og_eq (se_var 1) (se_g (L.c_FALSE)) rfl) (sw_or1 (st_cmp (op_eqD hr.units) og_eq (se_var 2) (se_f (d_opposite L) (by decide) takes_cx hr (sa_cons (se_var 1) sa_nil)) rfl))))
  (ss_one (ss_ret (se_g (L.c_FALSE))))
  ss_nil)
  (ss_cons (ss_if (sw_pt (sw_or (st_cmp (op_eqD hr.units) og_eq (se_var 1) (se_g (L.c_TRUE)) rfl) (sw_or1 (st_cmp (op_eqD hr.units) og_eq (se_var 1) (se_var 2) rfl))))
  (ss_one (ss_ret (se_var 2)))
  ss_nil)
  (ss_cons (ss_if (st_in hr (se_tup (sa_cons (se_var 1) (sa_cons (se_var 2) sa_nil))) (se_fl L.f_Build_known (se_var 0)))
  (ss_one (ss_ret (se_dget hr (se_fl L.f_Build_known (se_var 0)) (se_tup (sa_cons (se_var 1) (sa_cons (se_var 2) sa_nil))))))
  ss_nil)
  (ss_cons (ss_set 3 (se_m (d_Build_looked L) (by decide) takes_cx hr (se_var 0) (sa_cons (se_var 1) (sa_cons (se_var 2) sa_nil))) sc_Build_both.nd)
  (ss_cons (ss_if (st_cmp op_notN og_notN (se_var 3) se_non rfl)
  (ss_one (ss_ret (se_var 3)))
  ss_nil)
  (ss_cons (ss_if (st_cmp (op_eqD hr.units) og_eq (se_callB (cr_alt call_len (cr_alt call_lenD call_len_dT)) (lg_alt lg_len lg_lenD) rfl L.n_len bt_len (sa_cons (se_fl L.f_Build_gates (se_var 0)) sa_nil)) (se_g (L.c_MOST_GATES)) rfl)
  (ss_one ss_never)
  ss_nil)
  (ss_cons (ss_expr (se_append (se_fl L.f_Build_gates (se_var 0)) (sa_cons (se_tup (sa_cons (se_var 1) (sa_cons (se_var 2) sa_nil))) sa_nil)))
  (ss_cons (ss_put hr (se_fl L.f_Build_known (se_var 0)) (se_tup (sa_cons (se_var 1) (sa_cons (se_var 2) sa_nil))) (se_op op_mul og_mul se_int (se_op op_add og_add (se_fl L.f_Build_free (se_var 0)) (se_callB (cr_alt call_len (cr_alt call_lenD call_len_dT)) (lg_alt lg_len lg_lenD) rfl L.n_len bt_len (sa_cons (se_fl L.f_Build_gates (se_var 0)) sa_nil)))))
  (ss_one (ss_ret (se_dget hr (se_fl L.f_Build_known (se_var 0)) (se_tup (sa_cons (se_var 1) (sa_cons (se_var 2) sa_nil)))))))))))))))
theorem sc_Build_net : FnScope ["self"] ["self"] (defScope s_Build_net) := ⟨rfl, rfl, rfl, by decide +kernel, rfl, by decide +kernel, by decide +kernel⟩
theorem d_Build_net (L : Lk K mg) : Md P w K mg base 1 "Build" "net" 1 F_Build_net := md_of L.r_Build_net sc_Build_net end_gc fun f cdv A outer s H E hr =>
  (ss_one (ss_ret (se_tup (sa_cons (se_fl L.f_Build_free (se_var 0)) (sa_cons (se_callTy (call_tuple_of) (lg_tuple) rfl L.n_tuple bt_tuple (sa_cons (se_fl L.f_Build_gates (se_var 0)) sa_nil)) sa_nil)))))
theorem sc_joined : FnScope ["net", "a", "b", "build", "found"] ["net", "a", "b"] (defScope s_joined) := ⟨rfl, rfl, rfl, by decide +kernel, rfl, by decide +kernel, by decide +kernel⟩
theorem d_joined (L : Lk K mg) : Fd P w K mg base 4 "joined" 3 F_joined := fd_of L.r_joined sc_joined end_gc fun f cdv A outer s H E hr =>
  (ss_cons (ss_expr (se_f (d_check_literals L) (by decide) takes_cx hr (sa_cons (se_var 0) (sa_cons (se_frz (sl_lst (sa_cons (se_var 1) (sa_cons (se_var 2) sa_nil)))) sa_nil))))
  (ss_cons (ss_set 3 (se_mkS (d_Build_init L) (by decide) takes_cx hr (se_var 0)) sc_joined.nd)
  (ss_cons (ss_set 4 (se_m (d_Build_both L).md (by decide) takes_cx hr (se_var 3) (sa_cons (se_var 1) (sa_cons (se_var 2) sa_nil))) sc_joined.nd)
  (ss_one (ss_ret (se_tup (sa_cons (se_m0 (d_Build_net L) (by decide) takes_cx hr (se_var 3)) (sa_cons (se_var 4) sa_nil))))))))
theorem sc_is_tidy : FnScope ["net", "gates", "pair", "a", "b"] ["net"] (defScope s_is_tidy) := ⟨rfl, rfl, rfl, by decide +kernel, rfl, by decide +kernel, by decide +kernel⟩
theorem d_is_tidy (L : Lk K mg) : Fd P w K mg base 3 "is_tidy" 1 F_is_tidy := fd_of L.r_is_tidy sc_is_tidy end_gc fun f cdv A outer s H E hr =>
  (ss_cons (ss_expr (se_f (d_check_net L) (by decide) takes_cx hr (sa_cons (se_var 0) sa_nil)))
  (ss_cons (ss_setLF 1 sc_is_tidy.nd (si_seq (se_ix (se_var 0) se_int)) (own := [("pair", 2)]) (blk_of rfl (by kernel_rfl)) (fun _ _ _ _ _ => (sg_name 2 sc_is_tidy.nd)) (fun _ _ _ _ _ => sts_nil) (fun _ _ _ _ _ => (se_callTy (call_tuple_of) (lg_tuple) rfl L.n_tuple bt_tuple (sa_cons (se_var 2) sa_nil))) (by rfl))
  (ss_cons (ss_if (st_not (st_tru (se_callB (cr_all rfl) (lg_all) rfl L.n_all bt_all (sa_cons (se_frz (sl_comp sc_is_tidy.nd (si_seq (se_var 1)) (own := [("a", 3), ("b", 4)]) (blk_of rfl (by kernel_rfl)) (fun _ _ _ _ _ => (sg_tup 2 (sgs_cons (sg_name 3 sc_is_tidy.nd) (sgs_cons (sg_name 4 sc_is_tidy.nd) sgs_nil)))) (fun _ _ _ _ _ => sts_nil) (fun _ _ _ _ _ => (se_and (se_chain op_lt op_lt og_lt og_lt se_int (se_var 3) (se_var 4)) (se_one (se_cmp (op_neD hr.units) og_ne (se_op op_fdiv og_div (se_var 3) se_int) (se_op op_fdiv og_div (se_var 4) se_int) rfl)))))) sa_nil))))
  (ss_one (ss_ret se_bl))
  ss_nil)
  (ss_one (ss_ret (se_cmp (op_eqD hr.units) og_eq (se_callB (cr_alt call_len (cr_alt call_lenD call_len_dT)) (lg_alt lg_len lg_lenD) rfl L.n_len bt_len (sa_cons (se_dcT hr sc_is_tidy.nd (si_seq (se_var 1)) (own := [("pair", 2)]) (blk_of rfl (by kernel_rfl)) (fun _ _ _ _ _ => (sg_name 2 sc_is_tidy.nd)) (fun _ _ _ _ _ => sts_nil) (fun _ _ _ _ _ => (se_var 2)) (fun _ _ _ _ _ => se_bl)) sa_nil)) (se_callB (cr_alt call_len (cr_alt call_lenD call_len_dT)) (lg_alt lg_len lg_lenD) rfl L.n_len bt_len (sa_cons (se_var 1) sa_nil)) rfl))))))
theorem sc__law_pick : FnScope ["draws", "some"] ["draws", "some"] (defScope s__law_pick) := ⟨rfl, rfl, rfl, by decide +kernel, rfl, by decide +kernel, by decide +kernel⟩
theorem d__law_pick (L : Lk K mg) : Fd P w K mg base 2 "_law_pick" 2 F__law_pick := fd_of L.r__law_pick sc__law_pick end_gc fun f cdv A outer s H E hr =>
  (ss_one (ss_ret (se_ix (se_var 1) (se_op op_mod og_mod (se_callTy (call_int1) (lg_int) rfl L.n_int bt_int (sa_cons (se_f (d__law_next L) (by decide) takes_cx hr (sa_cons (se_var 0) sa_nil)) sa_nil)) (se_callB (cr_alt call_len (cr_alt call_lenD call_len_dT)) (lg_alt lg_len lg_lenD) rfl L.n_len bt_len (sa_cons (se_var 1) sa_nil))))))
theorem sc_is_word : FnScope ["net", "word", "literal"] ["net", "word"] (defScope s_is_word) := ⟨rfl, rfl, rfl, by decide +kernel, rfl, by decide +kernel, by decide +kernel⟩
theorem d_is_word (L : Lk K mg) : Fd P w K mg base 2 "is_word" 2 F_is_word := fd_of L.r_is_word sc_is_word end_gc fun f cdv A outer s H E hr =>
  (ss_one (ss_ret (se_and (se_chain op_le op_le og_le og_le se_int (se_callB (cr_alt call_len (cr_alt call_lenD call_len_dT)) (lg_alt lg_len lg_lenD) rfl L.n_len bt_len (sa_cons (se_var 1) sa_nil)) (se_g (L.c_MOST_WIDTH))) (se_one (se_callB (cr_all rfl) (lg_all) rfl L.n_all bt_all (sa_cons (se_frz (sl_comp sc_is_word.nd (si_seq (se_var 1)) (own := [("literal", 2)]) (blk_of rfl (by kernel_rfl)) (fun _ _ _ _ _ => (sg_name 2 sc_is_word.nd)) (fun _ _ _ _ _ => sts_nil) (fun _ _ _ _ _ => (se_f (d_is_literal L) (by decide) takes_no hr (sa_cons (se_var 0) (sa_cons (se_var 2) sa_nil)))))) sa_nil))))))
theorem sc_check_words : FnScope ["net", "words", "word"] ["net", "words"] (defScope s_check_words) := ⟨rfl, rfl, rfl, by decide +kernel, rfl, by decide +kernel, by decide +kernel⟩
theorem d_check_words (L : Lk K mg) : Fd P w K mg base 3 "check_words" 2 F_check_words := fd_of L.r_check_words sc_check_words end_gc fun f cdv A outer s H E hr =>
  (ss_cons (ss_expr (se_f (d_check_net L) (by decide) takes_cx hr (sa_cons (se_var 0) sa_nil)))
  (ss_one (ss_if (sw_pt (sw_or (st_not (st_tru (se_callB (cr_all rfl) (lg_all) rfl L.n_all bt_all (sa_cons (se_frz (sl_comp sc_check_words.nd (si_seq (se_var 1)) (own := [("word", 2)]) (blk_of rfl (by kernel_rfl)) (fun _ _ _ _ _ => (sg_name 2 sc_check_words.nd)) (fun _ _ _ _ _ => sts_nil) (fun _ _ _ _ _ => (se_f (d_is_word L) (by decide) takes_no hr (sa_cons (se_var 0) (sa_cons (se_var 2) sa_nil)))))) sa_nil)))) (sw_or1 (st_cmp (op_neD hr.units) og_ne (se_callB (cr_alt call_len (cr_alt call_lenD call_len_dT)) (lg_alt lg_len lg_lenD) rfl L.n_len bt_len (sa_cons (se_dcK sc_check_words.nd (si_seq (se_var 1)) (own := [("word", 2)]) (blk_of rfl (by kernel_rfl)) (fun _ _ _ _ _ => (sg_name 2 sc_check_words.nd)) (fun _ _ _ _ _ => sts_nil) (fun _ _ _ _ _ => (se_callB (cr_alt call_len (cr_alt call_lenD call_len_dT)) (lg_alt lg_len lg_lenD) rfl L.n_len bt_len (sa_cons (se_var 2) sa_nil))) (fun _ _ _ _ _ => se_bl)) sa_nil)) se_int rfl))))
  (ss_one ss_never)
  ss_nil)))
theorem sc_Build_either : FnScope ["self", "a", "b"] ["self", "a", "b"] (defScope s_Build_either) := ⟨rfl, rfl, rfl, by decide +kernel, rfl, by decide +kernel, by decide +kernel⟩
theorem d_Build_either (L : Lk K mg) : Bd P w K mg base 4 "Build" "either" a_Build_either 3 F_Build_either := bd_of L.r_Build_either sc_Build_either end_gc fun f cdv A outer s H E hr =>
  (ss_one (ss_ret (se_f (d_opposite L) (by decide) takes_cx hr (sa_cons (se_m (d_Build_both L).md (by decide) takes_cx hr (se_var 0) (sa_cons (se_f (d_opposite L) (by decide) takes_cx hr (sa_cons (se_var 1) sa_nil)) (sa_cons (se_f (d_opposite L) (by decide) takes_cx hr (sa_cons (se_var 2) sa_nil)) sa_nil))) sa_nil))))
theorem sc_Build_differ : FnScope ["self", "a", "b"] ["self", "a", "b"] (defScope s_Build_differ) := ⟨rfl, rfl, rfl, by decide +kernel, rfl, by decide +kernel, by decide +kernel⟩
theorem d_Build_differ (L : Lk K mg) : Bd P w K mg base 5 "Build" "differ" a_Build_differ 3 F_Build_differ := bd_of L.r_Build_differ sc_Build_differ end_gc fun f cdv A outer s H E hr =>
  (ss_one (ss_ret (se_m (d_Build_both L).md (by decide) takes_cx hr (se_var 0) (sa_cons (se_m (d_Build_either L).md (by decide) takes_cx hr (se_var 0) (sa_cons (se_var 1) (sa_cons (se_var 2) sa_nil))) (sa_cons (se_f (d_opposite L) (by decide) takes_cx hr (sa_cons (se_m (d_Build_both L).md (by decide) takes_cx hr (se_var 0) (sa_cons (se_var 1) (sa_cons (se_var 2) sa_nil))) sa_nil)) sa_nil)))))
theorem sc_Build_add : FnScope ["self", "one", "other", "carry", "found", "a", "b", "apart"] ["self", "one", "other", "carry"] (defScope s_Build_add) := ⟨rfl, rfl, rfl, by decide +kernel, rfl, by decide +kernel, by decide +kernel⟩
theorem d_Build_add (L : Lk K mg) : Md P w K mg base 6 "Build" "add" 4 F_Build_add := md_of L.r_Build_add sc_Build_add end_gc fun f cdv A outer s H E hr =>
  (ss_cons (ss_set 4 (se_cell (sl_lst sa_nil)) sc_Build_add.nd)
  (ss_cons (ss_for (si_zip rfl L.n_zip (sa_cons (se_var 1) (sa_cons (se_var 2) sa_nil))) (sg_tup 2 (sgs_cons (sg_name 5 sc_Build_add.nd) (sgs_cons (sg_name 6 sc_Build_add.nd) sgs_nil)))
  (ss_cons (ss_set 7 (se_m (d_Build_differ L).md (by decide) takes_cx hr (se_var 0) (sa_cons (se_var 5) (sa_cons (se_var 6) sa_nil))) sc_Build_add.nd)
  (ss_cons (ss_expr (se_append (se_var 4) (sa_cons (se_m (d_Build_differ L).md (by decide) takes_cx hr (se_var 0) (sa_cons (se_var 7) (sa_cons (se_var 3) sa_nil))) sa_nil)))
  (ss_one (ss_set 3 (se_m (d_Build_either L).md (by decide) takes_cx hr (se_var 0) (sa_cons (se_m (d_Build_both L).md (by decide) takes_cx hr (se_var 0) (sa_cons (se_var 5) (sa_cons (se_var 6) sa_nil))) (sa_cons (se_m (d_Build_both L).md (by decide) takes_cx hr (se_var 0) (sa_cons (se_var 7) (sa_cons (se_var 3) sa_nil))) sa_nil))) sc_Build_add.nd)))) owns_cx)
  (ss_one (ss_ret (se_callTy (call_tuple_of) (lg_tuple) rfl L.n_tuple bt_tuple (sa_cons (se_var 4) sa_nil))))))
theorem sc_Build_times : FnScope ["self", "one", "other", "found", "at", "literal", "moved", "a"] ["self", "one", "other"] (defScope s_Build_times) := ⟨rfl, rfl, rfl, by decide +kernel, rfl, by decide +kernel, by decide +kernel⟩
theorem d_Build_times (L : Lk K mg) : Md P w K mg base 7 "Build" "times" 3 F_Build_times := md_of L.r_Build_times sc_Build_times end_gc fun f cdv A outer s H E hr =>
  (ss_cons (ss_set 3 (se_op op_repA og_repT (se_tup (sa_cons (se_g (L.c_FALSE)) sa_nil)) (se_callB (cr_alt call_len (cr_alt call_lenD call_len_dT)) (lg_alt lg_len lg_lenD) rfl L.n_len bt_len (sa_cons (se_var 1) sa_nil))) sc_Build_times.nd)
  (ss_cons (ss_for (si_enum rfl L.n_enumerate (sa_cons (se_var 2) sa_nil)) (sg_tup 2 (sgs_cons (sg_name 4 sc_Build_times.nd) (sgs_cons (sg_name 5 sc_Build_times.nd) sgs_nil)))
  (ss_cons (ss_set 6 (se_cutT (se_op (or_alt op_add op_catA) (og_alt og_add og_catT) (se_op op_repA og_repT (se_tup (sa_cons (se_g (L.c_FALSE)) sa_nil)) (se_var 4)) (se_callTy (call_tuple_of) (lg_tuple) rfl L.n_tuple bt_tuple (sa_cons (se_var 1) sa_nil))) so_none (so_some (se_callB (cr_alt call_len (cr_alt call_lenD call_len_dT)) (lg_alt lg_len lg_lenD) rfl L.n_len bt_len (sa_cons (se_var 1) sa_nil)))) sc_Build_times.nd)
  (ss_one (ss_set 3 (se_m (d_Build_add L) (by decide) takes_cx hr (se_var 0) (sa_cons (se_var 3) (sa_cons (se_callTy (call_tuple_of) (lg_tuple) rfl L.n_tuple bt_tuple (sa_cons (se_frz (sl_comp sc_Build_times.nd (si_seq (se_var 6)) (own := [("a", 7)]) (blk_of rfl (by kernel_rfl)) (fun _ _ _ _ _ => (sg_name 7 sc_Build_times.nd)) (fun _ _ _ _ _ => sts_nil) (fun _ _ _ _ _ => (se_m (d_Build_both L).md (by decide) takes_no hr (se_var 0) (sa_cons (se_var 5) (sa_cons (se_var 7) sa_nil)))))) sa_nil)) (sa_cons (se_g (L.c_FALSE)) sa_nil)))) sc_Build_times.nd))) owns_cx)
  (ss_one (ss_ret (se_var 3)))))
theorem sc_Build_all_of : FnScope ["self", "literals", "found", "literal"] ["self", "literals"] (defScope s_Build_all_of) := ⟨rfl, rfl, rfl, by decide +kernel, rfl, by decide +kernel, by decide +kernel⟩
theorem d_Build_all_of (L : Lk K mg) : Md P w K mg base 4 "Build" "all_of" 2 F_Build_all_of := md_of L.r_Build_all_of sc_Build_all_of end_gc fun f cdv A outer s H E hr =>
  (ss_cons (ss_set 2 (se_g (L.c_TRUE)) sc_Build_all_of.nd)
  (ss_cons (ss_for (si_seq (se_var 1)) (sg_name 3 sc_Build_all_of.nd)
  (ss_one (ss_set 2 (se_m (d_Build_both L).md (by decide) takes_cx hr (se_var 0) (sa_cons (se_var 2) (sa_cons (se_var 3) sa_nil))) sc_Build_all_of.nd)) owns_cx)
  (ss_one (ss_ret (se_var 2)))))
theorem sc_Build_same : FnScope ["self", "one", "other", "a", "b"] ["self", "one", "other"] (defScope s_Build_same) := ⟨rfl, rfl, rfl, by decide +kernel, rfl, by decide +kernel, by decide +kernel⟩
theorem d_Build_same (L : Lk K mg) : Md P w K mg base 6 "Build" "same" 3 F_Build_same := md_of L.r_Build_same sc_Build_same end_gc fun f cdv A outer s H E hr =>
  (ss_one (ss_ret (se_m (d_Build_all_of L) (by decide) takes_cx hr (se_var 0) (sa_cons (se_frz (sl_comp sc_Build_same.nd (si_zip rfl L.n_zip (sa_cons (se_var 1) (sa_cons (se_var 2) sa_nil))) (own := [("a", 3), ("b", 4)]) (blk_of rfl (by kernel_rfl)) (fun _ _ _ _ _ => (sg_tup 2 (sgs_cons (sg_name 3 sc_Build_same.nd) (sgs_cons (sg_name 4 sc_Build_same.nd) sgs_nil)))) (fun _ _ _ _ _ => sts_nil) (fun _ _ _ _ _ => (se_f (d_opposite L) (by decide) takes_no hr (sa_cons (se_m (d_Build_differ L).md (by decide) takes_no hr (se_var 0) (sa_cons (se_var 3) (sa_cons (se_var 4) sa_nil))) sa_nil))))) sa_nil))))
theorem sc_Build_choose : FnScope ["self", "c", "a", "b"] ["self", "c", "a", "b"] (defScope s_Build_choose) := ⟨rfl, rfl, rfl, by decide +kernel, rfl, by decide +kernel, by decide +kernel⟩
theorem d_Build_choose (L : Lk K mg) : Md P w K mg base 5 "Build" "choose" 4 F_Build_choose := md_of L.r_Build_choose sc_Build_choose end_gc fun f cdv A outer s H E hr =>
  (ss_one (ss_ret (se_m (d_Build_either L).md (by decide) takes_cx hr (se_var 0) (sa_cons (se_m (d_Build_both L).md (by decide) takes_cx hr (se_var 0) (sa_cons (se_var 1) (sa_cons (se_var 2) sa_nil))) (sa_cons (se_m (d_Build_both L).md (by decide) takes_cx hr (se_var 0) (sa_cons (se_f (d_opposite L) (by decide) takes_cx hr (sa_cons (se_var 1) sa_nil)) (sa_cons (se_var 3) sa_nil))) sa_nil)))))
theorem sc_Build_less : FnScope ["self", "one", "other", "found", "a", "b"] ["self", "one", "other"] (defScope s_Build_less) := ⟨rfl, rfl, rfl, by decide +kernel, rfl, by decide +kernel, by decide +kernel⟩
theorem d_Build_less (L : Lk K mg) : Md P w K mg base 6 "Build" "less" 3 F_Build_less := md_of L.r_Build_less sc_Build_less end_gc fun f cdv A outer s H E hr =>
  (ss_cons (ss_set 3 (se_g (L.c_FALSE)) sc_Build_less.nd)
  (ss_cons (ss_for (si_zip rfl L.n_zip (sa_cons (se_var 1) (sa_cons (se_var 2) sa_nil))) (sg_tup 2 (sgs_cons (sg_name 4 sc_Build_less.nd) (sgs_cons (sg_name 5 sc_Build_less.nd) sgs_nil)))
  (ss_one (ss_set 3 (se_m (d_Build_choose L) (by decide) takes_cx hr (se_var 0) (sa_cons (se_m (d_Build_differ L).md (by decide) takes_cx hr (se_var 0) (sa_cons (se_var 4) (sa_cons (se_var 5) sa_nil))) (sa_cons (se_var 5) (sa_cons (se_var 3) sa_nil)))) sc_Build_less.nd)) owns_cx)
  (ss_one (ss_ret (se_var 3)))))
theorem sc_Build_combine : FnScope ["self", "kind", "one", "other", "bits", "b", "a"] ["self", "kind", "one", "other"] (defScope s_Build_combine) := ⟨rfl, rfl, rfl, by decide +kernel, rfl, by decide +kernel, by decide +kernel⟩
theorem d_Build_combine (L : Lk K mg) : Md P w K mg base 8 "Build" "combine" 4 F_Build_combine := md_of L.r_Build_combine sc_Build_combine end_gc fun f cdv A outer s H E hr =>
  (ss_cons (ss_if (st_cmp (op_eqD hr.units) og_eq (se_var 1) se_str rfl)
  (ss_one (ss_ret (se_m (d_Build_add L) (by decide) takes_cx hr (se_var 0) (sa_cons (se_var 2) (sa_cons (se_var 3) (sa_cons (se_g (L.c_FALSE)) sa_nil))))))
  ss_nil)
  (ss_cons (ss_if (st_cmp (op_eqD hr.units) og_eq (se_var 1) se_str rfl)
  (ss_one (ss_ret (se_m (d_Build_add L) (by decide) takes_cx hr (se_var 0) (sa_cons (se_var 2) (sa_cons (se_callTy (call_tuple_of) (lg_tuple) rfl L.n_tuple bt_tuple (sa_cons (se_frz (sl_comp sc_Build_combine.nd (si_seq (se_var 3)) (own := [("b", 5)]) (blk_of rfl (by kernel_rfl)) (fun _ _ _ _ _ => (sg_name 5 sc_Build_combine.nd)) (fun _ _ _ _ _ => sts_nil) (fun _ _ _ _ _ => (se_f (d_opposite L) (by decide) takes_no hr (sa_cons (se_var 5) sa_nil))))) sa_nil)) (sa_cons (se_g (L.c_TRUE)) sa_nil))))))
  ss_nil)
  (ss_cons (ss_if (st_cmp (op_eqD hr.units) og_eq (se_var 1) se_str rfl)
  (ss_one (ss_ret (se_m (d_Build_times L) (by decide) takes_cx hr (se_var 0) (sa_cons (se_var 2) (sa_cons (se_var 3) sa_nil)))))
  ss_nil)
  (ss_cons (ss_if (st_cmp (op_eqD hr.units) og_eq (se_var 1) se_str rfl)
  (ss_one (ss_ret (se_tup (sa_cons (se_m (d_Build_same L) (by decide) takes_cx hr (se_var 0) (sa_cons (se_var 2) (sa_cons (se_var 3) sa_nil))) sa_nil))))
  ss_nil)
  (ss_cons (ss_if (st_cmp (op_eqD hr.units) og_eq (se_var 1) se_str rfl)
  (ss_one (ss_ret (se_tup (sa_cons (se_m (d_Build_less L) (by decide) takes_cx hr (se_var 0) (sa_cons (se_var 2) (sa_cons (se_var 3) sa_nil))) sa_nil))))
  ss_nil)
  (ss_cons (ss_if (st_cmp (op_eqD hr.units) og_eq (se_var 1) se_str rfl)
  (ss_one (ss_ret (se_tup (sa_cons (se_f (d_opposite L) (by decide) takes_cx hr (sa_cons (se_m (d_Build_less L) (by decide) takes_cx hr (se_var 0) (sa_cons (se_var 3) (sa_cons (se_var 2) sa_nil))) sa_nil)) sa_nil))))
  ss_nil)
  (ss_cons (ss_set 4 (se_dget hr (se_disp (sps_cons se_str (se_bd (d_Build_both L) (se_var 0)) (sps_cons se_str (se_bd (d_Build_either L) (se_var 0)) (sps_cons se_str (se_bd (d_Build_differ L) (se_var 0)) sps_nil)))) (se_var 1)) sc_Build_combine.nd)
  (ss_one (ss_ret (se_callTy (call_tuple_of) (lg_tuple) rfl L.n_tuple bt_tuple (sa_cons (se_frz (sl_comp sc_Build_combine.nd (si_zip rfl L.n_zip (sa_cons (se_var 2) (sa_cons (se_var 3) sa_nil))) (own := [("a", 6), ("b", 5)]) (blk_of rfl (by kernel_rfl)) (fun _ _ _ _ _ => (sg_tup 2 (sgs_cons (sg_name 6 sc_Build_combine.nd) (sgs_cons (sg_name 5 sc_Build_combine.nd) sgs_nil)))) (fun _ _ _ _ _ => sts_nil) (fun _ _ _ _ _ => (se_callM takes_no hr (fun t ht => by
    simp only [List.mem_cons, List.not_mem_nil, or_false] at ht
    rcases ht with rfl | rfl | rfl
    · exact bd_met (d_Build_both L) (by decide)
    · exact bd_met (d_Build_either L) (by decide)
    · exact bd_met (d_Build_differ L) (by decide)) rfl (by first | exact Or.inl rfl | exact Or.inr (Or.inl rfl) | exact Or.inr (Or.inr rfl)) (sa_cons (se_var 6) (sa_cons (se_var 5) sa_nil)))))) sa_nil)))))))))))
theorem sc_combined : FnScope ["net", "kind", "one", "other", "build", "found"] ["net", "kind", "one", "other"] (defScope s_combined) := ⟨rfl, rfl, rfl, by decide +kernel, rfl, by decide +kernel, by decide +kernel⟩
theorem d_combined (L : Lk K mg) : Fd P w K mg base 9 "combined" 4 F_combined := fd_of L.r_combined sc_combined end_gc fun f cdv A outer s H E hr =>
  (ss_cons (ss_expr (se_f (d_check_words L) (by decide) takes_cx hr (sa_cons (se_var 0) (sa_cons (se_frz (sl_lst (sa_cons (se_var 2) (sa_cons (se_var 3) sa_nil)))) sa_nil))))
  (ss_cons (ss_if (st_notIn hr (se_var 1) (se_g (L.c_KINDS)))
  (ss_one ss_never)
  ss_nil)
  (ss_cons (ss_set 4 (se_mkS (d_Build_init L) (by decide) takes_cx hr (se_var 0)) sc_combined.nd)
  (ss_cons (ss_set 5 (se_m (d_Build_combine L) (by decide) takes_cx hr (se_var 4) (sa_cons (se_var 1) (sa_cons (se_var 2) (sa_cons (se_var 3) sa_nil)))) sc_combined.nd)
  (ss_one (ss_ret (se_tup (sa_cons (se_m0 (d_Build_net L) (by decide) takes_cx hr (se_var 4)) (sa_cons (se_var 5) sa_nil)))))))))
theorem sc__law_both : FnScope ["net", "kind", "one", "other", "third", "left", "right"] ["net", "kind", "one", "other", "third"] (defScope s__law_both) := ⟨rfl, rfl, rfl, by decide +kernel, rfl, by decide +kernel, by decide +kernel⟩
theorem d__law_both (L : Lk K mg) : Fd P w K mg base 10 "_law_both" 5 F__law_both := fd_of L.r__law_both sc__law_both end_gc fun f cdv A outer s H E hr =>
  (ss_cons (ss_asg (se_f (d_combined L) (by decide) takes_cx hr (sa_cons (se_var 0) (sa_cons (se_var 1) (sa_cons (se_var 2) (sa_cons (se_var 3) sa_nil))))) (sg_tup 2 (sgs_cons (sg_name 0 sc__law_both.nd) (sgs_cons (sg_name 5 sc__law_both.nd) sgs_nil))))
  (ss_cons (ss_asg (se_f (d_combined L) (by decide) takes_cx hr (sa_cons (se_var 0) (sa_cons (se_var 1) (sa_cons (se_var 5) (sa_cons (se_var 4) sa_nil))))) (sg_tup 2 (sgs_cons (sg_name 0 sc__law_both.nd) (sgs_cons (sg_name 5 sc__law_both.nd) sgs_nil))))
  (ss_cons (ss_asg (se_f (d_combined L) (by decide) takes_cx hr (sa_cons (se_var 0) (sa_cons (se_var 1) (sa_cons (se_var 3) (sa_cons (se_var 4) sa_nil))))) (sg_tup 2 (sgs_cons (sg_name 0 sc__law_both.nd) (sgs_cons (sg_name 6 sc__law_both.nd) sgs_nil))))
  (ss_cons (ss_asg (se_f (d_combined L) (by decide) takes_cx hr (sa_cons (se_var 0) (sa_cons (se_var 1) (sa_cons (se_var 2) (sa_cons (se_var 6) sa_nil))))) (sg_tup 2 (sgs_cons (sg_name 0 sc__law_both.nd) (sgs_cons (sg_name 6 sc__law_both.nd) sgs_nil))))
  (ss_one (ss_ret (se_tup (sa_cons (se_var 0) (sa_cons (se_var 5) (sa_cons (se_var 6) sa_nil))))))))))
theorem sc_cone_of : FnScope ["net", "word", "free", "gates", "found", "node", "literal"] ["net", "word"] (defScope s_cone_of) := ⟨rfl, rfl, rfl, by decide +kernel, rfl, by decide +kernel, by decide +kernel⟩
theorem d_cone_of (L : Lk K mg) : Fd P w K mg base 1 "cone_of" 2 F_cone_of := fd_of L.r_cone_of sc_cone_of end_gc fun f cdv A outer s H E hr =>
  (ss_cons (ss_asg (se_var 0) (sg_tup 2 (sgs_cons (sg_name 2 sc_cone_of.nd) (sgs_cons (sg_name 3 sc_cone_of.nd) sgs_nil))))
  (ss_cons (ss_setDK 4 sc_cone_of.nd (si_seq (se_var 1)) (own := [("literal", 6)]) (blk_of rfl (by kernel_rfl)) (fun _ _ _ _ _ => (sg_name 6 sc_cone_of.nd)) (fun _ _ _ _ _ => sts_nil) (fun _ _ _ _ _ => (se_op op_fdiv og_div (se_var 6) se_int)) (fun _ _ _ _ _ => se_bl) (by rfl))
  (ss_cons (ss_for (si_range3 rfl L.n_range (sa_cons (se_op op_add og_add (se_var 2) (se_callB (cr_alt call_len (cr_alt call_lenD call_len_dT)) (lg_alt lg_len lg_lenD) rfl L.n_len bt_len (sa_cons (se_var 3) sa_nil))) (sa_cons (se_var 2) (sa_cons (se_un un_neg ug_neg se_int) sa_nil)))) (sg_name 5 sc_cone_of.nd)
  (ss_one (ss_if (st_in hr (se_var 5) (se_var 4))
  (ss_one (ss_expr (se_update (se_var 4) (sa_cons (se_dcK sc_cone_of.nd (si_seq (se_ix (se_var 3) (se_op op_sub og_sub (se_op op_sub og_sub (se_var 5) (se_var 2)) se_int))) (own := [("literal", 6)]) (blk_of rfl (by kernel_rfl)) (fun _ _ _ _ _ => (sg_name 6 sc_cone_of.nd)) (fun _ _ _ _ _ => sts_nil) (fun _ _ _ _ _ => (se_op op_fdiv og_div (se_var 6) se_int)) (fun _ _ _ _ _ => se_bl)) sa_nil))))
  ss_nil)) owns_cx)
  (ss_one (ss_ret (se_frz (sl_callB (cr_alt cr_sortedI (cr_sortedD rfl)) (ll_alt ll_sortI ll_sortD) rfl L.n_sorted bt_sorted (sa_cons (se_var 4) sa_nil))))))))
theorem sc_value_of : FnScope ["values", "literal", "value"] ["values", "literal"] (defScope s_value_of) := ⟨rfl, rfl, rfl, by decide +kernel, rfl, by decide +kernel, by decide +kernel⟩
theorem d_value_of (L : Lk K mg) : Fd P w K mg base 1 "value_of" 2 F_value_of := fd_of L.r_value_of sc_value_of end_gc fun f cdv A outer s H E hr =>
  (ss_cons (ss_set 2 (se_ix (se_var 0) (se_op op_fdiv og_div (se_var 1) se_int)) sc_value_of.nd)
  (ss_one (ss_ret (se_if (st_tru (se_op op_mod og_mod (se_var 1) se_int)) (se_op op_sub og_sub se_int (se_var 2)) (se_var 2)))))
theorem sc_values_of : FnScope ["net", "bits", "found", "a", "b"] ["net", "bits"] (defScope s_values_of) := ⟨rfl, rfl, rfl, by decide +kernel, rfl, by decide +kernel, by decide +kernel⟩
theorem d_values_of (L : Lk K mg) : Fd P w K mg base 2 "values_of" 2 F_values_of := fd_of L.r_values_of sc_values_of end_gcN fun f cdv A outer s H E hr =>
  (ss_cons (ss_set 2 (se_cell (sl_lst (sa_cons se_int (sa_star (se_var 1) sa_nil)))) sc_values_of.nd)
  (ss_cons (ss_for (si_seq (se_ix (se_var 0) se_int)) (sg_tup 2 (sgs_cons (sg_name 3 sc_values_of.nd) (sgs_cons (sg_name 4 sc_values_of.nd) sgs_nil)))
  (ss_one (ss_expr (se_append (se_var 2) (sa_cons (se_op op_mul og_mul (se_f (d_value_of L) (by decide) takes_cx hr (sa_cons (se_var 2) (sa_cons (se_var 3) sa_nil))) (se_f (d_value_of L) (by decide) takes_cx hr (sa_cons (se_var 2) (sa_cons (se_var 4) sa_nil)))) sa_nil)))) owns_cx)
  (ss_one (ss_ret (se_var 2)))))
theorem sc_number_of : FnScope ["values", "word", "at", "literal"] ["values", "word"] (defScope s_number_of) := ⟨rfl, rfl, rfl, by decide +kernel, rfl, by decide +kernel, by decide +kernel⟩
theorem d_number_of (L : Lk K mg) : Fd P w K mg base 2 "number_of" 2 F_number_of := fd_of L.r_number_of sc_number_of end_gc fun f cdv A outer s H E hr =>
  (ss_one (ss_ret (se_callB (cr_sum rfl) (lg_sum) rfl L.n_sum bt_sum (sa_cons (se_frz (sl_comp sc_number_of.nd (si_enum rfl L.n_enumerate (sa_cons (se_var 1) sa_nil)) (own := [("at", 2), ("literal", 3)]) (blk_of rfl (by kernel_rfl)) (fun _ _ _ _ _ => (sg_tup 2 (sgs_cons (sg_name 2 sc_number_of.nd) (sgs_cons (sg_name 3 sc_number_of.nd) sgs_nil)))) (fun _ _ _ _ _ => sts_nil) (fun _ _ _ _ _ => (se_op op_shl og_shl (se_f (d_value_of L) (by decide) takes_no hr (sa_cons (se_var 0) (sa_cons (se_var 3) sa_nil))) (se_var 2))))) sa_nil))))
theorem sc_agree : FnScope ["net", "one", "other", "nodes", "number", "bits", "at", "node", "values"] ["net", "one", "other"] (defScope s_agree) := ⟨rfl, rfl, rfl, by decide +kernel, rfl, by decide +kernel, by decide +kernel⟩
theorem d_agree (L : Lk K mg) : Fd P w K mg base 4 "agree" 3 F_agree := fd_of L.r_agree sc_agree end_gc fun f cdv A outer s H E hr =>
  (ss_cons (ss_expr (se_f (d_check_words L) (by decide) takes_cx hr (sa_cons (se_var 0) (sa_cons (se_frz (sl_lst (sa_cons (se_var 1) (sa_cons (se_var 2) sa_nil)))) sa_nil))))
  (ss_cons (ss_setLF 3 sc_agree.nd (si_seq (se_f (d_cone_of L) (by decide) takes_cx hr (sa_cons (se_var 0) (sa_cons (se_frz (sl_lst (sa_star (se_var 1) (sa_star (se_var 2) sa_nil)))) sa_nil)))) (own := [("node", 7)]) (blk_of rfl (by kernel_rfl)) (fun _ _ _ _ _ => (sg_name 7 sc_agree.nd)) (fun _ _ _ _ _ => (sts_one (st_chain op_le op_le og_le og_le se_int (se_var 7) (se_ix (se_var 0) se_int)))) (fun _ _ _ _ _ => (se_var 7)) (by rfl))
  (ss_cons (ss_if (st_cmp op_gt og_gt (se_callB (cr_alt call_len (cr_alt call_lenD call_len_dT)) (lg_alt lg_len lg_lenD) rfl L.n_len bt_len (sa_cons (se_var 3) sa_nil)) (se_g (L.c_MOST_LOOKED)) rfl)
  (ss_one ss_never)
  ss_nil)
  (ss_cons (ss_for (si_range1 rfl L.n_range (sa_cons (se_op op_shl og_shl se_int (se_callB (cr_alt call_len (cr_alt call_lenD call_len_dT)) (lg_alt lg_len lg_lenD) rfl L.n_len bt_len (sa_cons (se_var 3) sa_nil))) sa_nil)) (sg_name 4 sc_agree.nd)
  (ss_cons (ss_set 5 (se_cell (sl_op op_rep ol_rep (se_frz (sl_lst (sa_cons se_int sa_nil))) (se_ix (se_var 0) se_int))) sc_agree.nd)
  (ss_cons (ss_for (si_enum rfl L.n_enumerate (sa_cons (se_var 3) sa_nil)) (sg_tup 2 (sgs_cons (sg_name 6 sc_agree.nd) (sgs_cons (sg_name 7 sc_agree.nd) sgs_nil)))
  (ss_one (ss_put hr (se_var 5) (se_op op_sub og_sub (se_var 7) se_int) (se_op op_and og_band (se_op op_shr og_shr (se_var 4) (se_var 6)) se_int))) owns_cx)
  (ss_cons (ss_set 8 (se_f (d_values_of L) (by decide) takes_cx hr (sa_cons (se_var 0) (sa_cons (se_var 5) sa_nil))) sc_agree.nd)
  (ss_one (ss_if (st_cmp (op_neD hr.units) og_ne (se_f (d_number_of L) (by decide) takes_cx hr (sa_cons (se_var 8) (sa_cons (se_var 1) sa_nil))) (se_f (d_number_of L) (by decide) takes_cx hr (sa_cons (se_var 8) (sa_cons (se_var 2) sa_nil))) rfl)
  (ss_one (ss_ret se_bl))
  ss_nil))))) owns_cx)
  (ss_one (ss_ret se_bl))))))
theorem sc_are_bits : FnScope ["net", "bits", "bit"] ["net", "bits"] (defScope s_are_bits) := ⟨rfl, rfl, rfl, by decide +kernel, rfl, by decide +kernel, by decide +kernel⟩
theorem d_are_bits (L : Lk K mg) : Fd P w K mg base 1 "are_bits" 2 F_are_bits := fd_of L.r_are_bits sc_are_bits end_gc fun f cdv A outer s H E hr =>
  (ss_one (ss_ret (se_and (se_cmp (op_eqD hr.units) og_eq (se_callB (cr_alt call_len (cr_alt call_lenD call_len_dT)) (lg_alt lg_len lg_lenD) rfl L.n_len bt_len (sa_cons (se_var 1) sa_nil)) (se_ix (se_var 0) se_int) rfl) (se_one (se_callB (cr_all rfl) (lg_all) rfl L.n_all bt_all (sa_cons (se_frz (sl_comp sc_are_bits.nd (si_seq (se_var 1)) (own := [("bit", 2)]) (blk_of rfl (by kernel_rfl)) (fun _ _ _ _ _ => (sg_name 2 sc_are_bits.nd)) (fun _ _ _ _ _ => sts_nil) (fun _ _ _ _ _ => (se_in hr (se_var 2) (se_tup (sa_cons se_int (sa_cons se_int sa_nil))))))) sa_nil))))))
theorem sc_check_bits : FnScope ["net", "bits"] ["net", "bits"] (defScope s_check_bits) := ⟨rfl, rfl, rfl, by decide +kernel, rfl, by decide +kernel, by decide +kernel⟩
theorem d_check_bits (L : Lk K mg) : Fd P w K mg base 3 "check_bits" 2 F_check_bits := fd_of L.r_check_bits sc_check_bits end_gc fun f cdv A outer s H E hr =>
  (ss_cons (ss_expr (se_f (d_check_net L) (by decide) takes_cx hr (sa_cons (se_var 0) sa_nil)))
  (ss_one (ss_if (st_not (st_tru (se_f (d_are_bits L) (by decide) takes_cx hr (sa_cons (se_var 0) (sa_cons (se_var 1) sa_nil)))))
  (ss_one ss_never)
  ss_nil)))
theorem sc_word_number : FnScope ["net", "bits", "word"] ["net", "bits", "word"] (defScope s_word_number) := ⟨rfl, rfl, rfl, by decide +kernel, rfl, by decide +kernel, by decide +kernel⟩
theorem d_word_number (L : Lk K mg) : Fd P w K mg base 4 "word_number" 3 F_word_number := fd_of L.r_word_number sc_word_number end_gc fun f cdv A outer s H E hr =>
  (ss_cons (ss_expr (se_f (d_check_bits L) (by decide) takes_cx hr (sa_cons (se_var 0) (sa_cons (se_var 1) sa_nil))))
  (ss_cons (ss_expr (se_f (d_check_words L) (by decide) takes_cx hr (sa_cons (se_var 0) (sa_cons (se_frz (sl_lst (sa_cons (se_var 2) sa_nil))) sa_nil))))
  (ss_one (ss_ret (se_f (d_number_of L) (by decide) takes_cx hr (sa_cons (se_f (d_values_of L) (by decide) takes_cx hr (sa_cons (se_var 0) (sa_cons (se_var 1) sa_nil))) (sa_cons (se_var 2) sa_nil)))))))
theorem sc__law_sets : FnScope ["size", "found", "turn"] ["size"] (defScope s__law_sets) := ⟨rfl, rfl, rfl, by decide +kernel, rfl, by decide +kernel, by decide +kernel⟩
theorem d__law_sets (L : Lk K mg) : Fd P w K mg base 1 "_law_sets" 1 F__law_sets := fd_of L.r__law_sets sc__law_sets end_gc fun f cdv A outer s H E hr =>
  (ss_cons (ss_set 1 se_int sc__law_sets.nd)
  (ss_cons (ss_for (si_range1 rfl L.n_range (sa_cons (se_var 0) sa_nil)) (sg_name 2 sc__law_sets.nd)
  (ss_one (ss_set 1 (se_op op_mul og_mul se_int (se_var 1)) sc__law_sets.nd)) owns_cx)
  (ss_one (ss_ret (se_var 1)))))
theorem sc__law_join : FnScope ["op", "w", "one", "other", "bits", "both", "k", "pair"] ["op", "w", "one", "other"] (defScope s__law_join) := ⟨rfl, rfl, rfl, by decide +kernel, rfl, by decide +kernel, by decide +kernel⟩
theorem d__law_join (L : Lk K mg) : Fd P w K mg base 2 "_law_join" 4 F__law_join := fd_of L.r__law_join sc__law_join end_gc fun f cdv A outer s H E hr =>
  (ss_cons (ss_if (st_in hr (se_var 0) (se_frz (sl_lst (sa_cons se_str (sa_cons se_str (sa_cons se_str sa_nil))))))
  (ss_one (ss_ret (se_if (st_cmp (op_neD hr.units) og_ne (se_var 0) se_str rfl) (se_callTy (call_int1) (lg_int) rfl L.n_int bt_int (sa_cons (se_or (se_cmp (op_eqD hr.units) og_eq (se_var 2) (se_var 3) rfl) (se_one (se_and (se_cmp (op_eqD hr.units) og_eq (se_var 0) se_str rfl) (se_one (se_cmp op_lt og_lt (se_var 2) (se_var 3) rfl))))) sa_nil)) (se_callTy (call_int1) (lg_int) rfl L.n_int bt_int (sa_cons (se_cmp op_lt og_lt (se_var 2) (se_var 3) rfl) sa_nil)))))
  ss_nil)
  (ss_cons (ss_if (st_in hr (se_var 0) (se_frz (sl_lst (sa_cons se_str (sa_cons se_str (sa_cons se_str sa_nil))))))
  (ss_one (ss_ret (se_callTy (call_int1) (lg_int) rfl L.n_int bt_int (sa_cons (se_op op_mod og_mod (se_if (st_cmp (op_eqD hr.units) og_eq (se_var 0) se_str rfl) (se_op (or_alt op_add op_catA) (og_alt og_add og_catT) (se_var 2) (se_var 3)) (se_if (st_cmp (op_eqD hr.units) og_eq (se_var 0) se_str rfl) (se_op op_sub og_sub (se_var 2) (se_var 3)) (se_op op_mul og_mul (se_var 2) (se_var 3)))) (se_f (d__law_sets L) (by decide) takes_cx hr (sa_cons (se_var 1) sa_nil))) sa_nil))))
  ss_nil)
  (ss_cons (ss_setLF 4 sc__law_join.nd (si_range1 rfl L.n_range (sa_cons (se_var 1) sa_nil)) (own := [("k", 6)]) (blk_of rfl (by kernel_rfl)) (fun _ _ _ _ _ => (sg_name 6 sc__law_join.nd)) (fun _ _ _ _ _ => sts_nil) (fun _ _ _ _ _ => (se_tup (sa_cons (se_callTy (call_int1) (lg_int) rfl L.n_int bt_int (sa_cons (se_op op_mod og_mod (se_callTy (call_int1) (lg_int) rfl L.n_int bt_int (sa_cons (se_op op_fdiv og_div (se_var 2) (se_f (d__law_sets L) (by decide) takes_no hr (sa_cons (se_var 6) sa_nil))) sa_nil)) se_int) sa_nil)) (sa_cons (se_callTy (call_int1) (lg_int) rfl L.n_int bt_int (sa_cons (se_op op_mod og_mod (se_callTy (call_int1) (lg_int) rfl L.n_int bt_int (sa_cons (se_op op_fdiv og_div (se_var 3) (se_f (d__law_sets L) (by decide) takes_no hr (sa_cons (se_var 6) sa_nil))) sa_nil)) se_int) sa_nil)) sa_nil)))) (by rfl))
  (ss_cons (ss_set 5 (se_frz (sl_comp sc__law_join.nd (si_seq (se_var 4)) (own := [("pair", 7)]) (blk_of rfl (by kernel_rfl)) (fun _ _ _ _ _ => (sg_name 7 sc__law_join.nd)) (fun _ _ _ _ _ => sts_nil) (fun _ _ _ _ _ => (se_if (st_cmp (op_eqD hr.units) og_eq (se_var 0) se_str rfl) (se_callB (cr_minU rfl) (lg_minS) rfl L.n_min bt_min (sa_cons (se_var 7) sa_nil)) (se_if (st_cmp (op_eqD hr.units) og_eq (se_var 0) se_str rfl) (se_callB (cr_maxU rfl) (lg_maxS) rfl L.n_max bt_max (sa_cons (se_var 7) sa_nil)) (se_callTy (call_int1) (lg_int) rfl L.n_int bt_int (sa_cons (se_cmp (op_neD hr.units) og_ne (se_ix (se_var 7) se_int) (se_ix (se_var 7) se_int) rfl) sa_nil))))))) sc__law_join.nd)
  (ss_one (ss_ret (se_callB (cr_sum rfl) (lg_sum) rfl L.n_sum bt_sum (sa_cons (se_frz (sl_comp sc__law_join.nd (si_range1 rfl L.n_range (sa_cons (se_var 1) sa_nil)) (own := [("k", 6)]) (blk_of rfl (by kernel_rfl)) (fun _ _ _ _ _ => (sg_name 6 sc__law_join.nd)) (fun _ _ _ _ _ => sts_nil) (fun _ _ _ _ _ => (se_op op_mul og_mul (se_ix (se_var 5) (se_var 6)) (se_f (d__law_sets L) (by decide) takes_no hr (sa_cons (se_var 6) sa_nil)))))) sa_nil))))))))
theorem sc_cone : FnScope ["net", "word"] ["net", "word"] (defScope s_cone) := ⟨rfl, rfl, rfl, by decide +kernel, rfl, by decide +kernel, by decide +kernel⟩
theorem d_cone (L : Lk K mg) : Fd P w K mg base 4 "cone" 2 F_cone := fd_of L.r_cone sc_cone end_gc fun f cdv A outer s H E hr =>
  (ss_cons (ss_expr (se_f (d_check_words L) (by decide) takes_cx hr (sa_cons (se_var 0) (sa_cons (se_frz (sl_lst (sa_cons (se_var 1) sa_nil))) sa_nil))))
  (ss_one (ss_ret (se_callTy (call_tuple_of) (lg_tuple) rfl L.n_tuple bt_tuple (sa_cons (se_f (d_cone_of L) (by decide) takes_cx hr (sa_cons (se_var 0) (sa_cons (se_var 1) sa_nil))) sa_nil)))))
theorem sc_opposite_word : FnScope ["word", "literal"] ["word"] (defScope s_opposite_word) := ⟨rfl, rfl, rfl, by decide +kernel, rfl, by decide +kernel, by decide +kernel⟩
theorem d_opposite_word (L : Lk K mg) : Fd P w K mg base 2 "opposite_word" 1 F_opposite_word := fd_of L.r_opposite_word sc_opposite_word end_gc fun f cdv A outer s H E hr =>
  (ss_cons (ss_if (sw_pt (sw_or (st_not (st_chain op_le op_le og_le og_le se_int (se_callB (cr_alt call_len (cr_alt call_lenD call_len_dT)) (lg_alt lg_len lg_lenD) rfl L.n_len bt_len (sa_cons (se_var 0) sa_nil)) (se_g (L.c_MOST_WIDTH)))) (sw_or1 (st_not (st_tru (se_callB (cr_all rfl) (lg_all) rfl L.n_all bt_all (sa_cons (se_frz (sl_comp sc_opposite_word.nd (si_seq (se_var 0)) (own := [("literal", 1)]) (blk_of rfl (by kernel_rfl)) (fun _ _ _ _ _ => (sg_name 1 sc_opposite_word.nd)) (fun _ _ _ _ _ => sts_nil) (fun _ _ _ _ _ => (se_cmp op_ge og_ge (se_var 1) se_int rfl)))) sa_nil)))))))
  (ss_one ss_never)
  ss_nil)
  (ss_one (ss_ret (se_callTy (call_tuple_of) (lg_tuple) rfl L.n_tuple bt_tuple (sa_cons (se_frz (sl_comp sc_opposite_word.nd (si_seq (se_var 0)) (own := [("literal", 1)]) (blk_of rfl (by kernel_rfl)) (fun _ _ _ _ _ => (sg_name 1 sc_opposite_word.nd)) (fun _ _ _ _ _ => sts_nil) (fun _ _ _ _ _ => (se_f (d_opposite L) (by decide) takes_no hr (sa_cons (se_var 1) sa_nil))))) sa_nil)))))
theorem sc__law_sums_hold : FnScope ["net", "x", "y", "z", "total", "whole", "first", "second", "parts", "less", "turned", "again", "back", "below", "above", "same", "most", "both"] ["net", "x", "y", "z"] (defScope s__law_sums_hold) := ⟨rfl, rfl, rfl, by decide +kernel, rfl, by decide +kernel, by decide +kernel⟩
theorem d__law_sums_hold (L : Lk K mg) : Fd P w K mg base 10 "_law_sums_hold" 4 F__law_sums_hold := fd_of L.r__law_sums_hold sc__law_sums_hold end_gc fun f cdv A outer s H E hr =>
  (ss_cons (ss_asg (se_f (d_combined L) (by decide) takes_cx hr (sa_cons (se_var 0) (sa_cons se_str (sa_cons (se_var 2) (sa_cons (se_var 3) sa_nil))))) (sg_tup 2 (sgs_cons (sg_name 0 sc__law_sums_hold.nd) (sgs_cons (sg_name 4 sc__law_sums_hold.nd) sgs_nil))))
  (ss_cons (ss_asg (se_f (d_combined L) (by decide) takes_cx hr (sa_cons (se_var 0) (sa_cons se_str (sa_cons (se_var 1) (sa_cons (se_var 4) sa_nil))))) (sg_tup 2 (sgs_cons (sg_name 0 sc__law_sums_hold.nd) (sgs_cons (sg_name 5 sc__law_sums_hold.nd) sgs_nil))))
  (ss_cons (ss_asg (se_f (d_combined L) (by decide) takes_cx hr (sa_cons (se_var 0) (sa_cons se_str (sa_cons (se_var 1) (sa_cons (se_var 2) sa_nil))))) (sg_tup 2 (sgs_cons (sg_name 0 sc__law_sums_hold.nd) (sgs_cons (sg_name 6 sc__law_sums_hold.nd) sgs_nil))))
  (ss_cons (ss_asg (se_f (d_combined L) (by decide) takes_cx hr (sa_cons (se_var 0) (sa_cons se_str (sa_cons (se_var 1) (sa_cons (se_var 3) sa_nil))))) (sg_tup 2 (sgs_cons (sg_name 0 sc__law_sums_hold.nd) (sgs_cons (sg_name 7 sc__law_sums_hold.nd) sgs_nil))))
  (ss_cons (ss_asg (se_f (d_combined L) (by decide) takes_cx hr (sa_cons (se_var 0) (sa_cons se_str (sa_cons (se_var 6) (sa_cons (se_var 7) sa_nil))))) (sg_tup 2 (sgs_cons (sg_name 0 sc__law_sums_hold.nd) (sgs_cons (sg_name 8 sc__law_sums_hold.nd) sgs_nil))))
  (ss_cons (ss_asg (se_f (d_combined L) (by decide) takes_cx hr (sa_cons (se_var 0) (sa_cons se_str (sa_cons (se_var 1) (sa_cons (se_var 2) sa_nil))))) (sg_tup 2 (sgs_cons (sg_name 0 sc__law_sums_hold.nd) (sgs_cons (sg_name 9 sc__law_sums_hold.nd) sgs_nil))))
  (ss_cons (ss_asg (se_f (d_combined L) (by decide) takes_cx hr (sa_cons (se_var 0) (sa_cons se_str (sa_cons (se_f (d_opposite_word L) (by decide) takes_cx hr (sa_cons (se_var 2) sa_nil)) (sa_cons (se_f (d_number_word L) (by decide) takes_cx hr (sa_cons se_int (sa_cons se_int sa_nil))) sa_nil))))) (sg_tup 2 (sgs_cons (sg_name 0 sc__law_sums_hold.nd) (sgs_cons (sg_name 10 sc__law_sums_hold.nd) sgs_nil))))
  (ss_cons (ss_asg (se_f (d_combined L) (by decide) takes_cx hr (sa_cons (se_var 0) (sa_cons se_str (sa_cons (se_var 1) (sa_cons (se_var 10) sa_nil))))) (sg_tup 2 (sgs_cons (sg_name 0 sc__law_sums_hold.nd) (sgs_cons (sg_name 11 sc__law_sums_hold.nd) sgs_nil))))
  (ss_cons (ss_asg (se_f (d_combined L) (by decide) takes_cx hr (sa_cons (se_var 0) (sa_cons se_str (sa_cons (se_var 9) (sa_cons (se_var 2) sa_nil))))) (sg_tup 2 (sgs_cons (sg_name 0 sc__law_sums_hold.nd) (sgs_cons (sg_name 12 sc__law_sums_hold.nd) sgs_nil))))
  (ss_cons (ss_if (st_cmp (op_neD hr.units) og_ne (se_frz (sl_lst (sa_cons (se_f (d_agree L) (by decide) takes_cx hr (sa_cons (se_var 0) (sa_cons (se_var 5) (sa_cons (se_var 8) sa_nil)))) (sa_cons (se_f (d_agree L) (by decide) takes_cx hr (sa_cons (se_var 0) (sa_cons (se_var 9) (sa_cons (se_var 11) sa_nil)))) (sa_cons (se_f (d_agree L) (by decide) takes_cx hr (sa_cons (se_var 0) (sa_cons (se_var 12) (sa_cons (se_var 1) sa_nil)))) (sa_cons (se_f (d_agree L) (by decide) takes_cx hr (sa_cons (se_var 0) (sa_cons (se_f (d_opposite_word L) (by decide) takes_cx hr (sa_cons (se_f (d_opposite_word L) (by decide) takes_cx hr (sa_cons (se_var 1) sa_nil)) sa_nil)) (sa_cons (se_var 1) sa_nil)))) sa_nil)))))) (se_frz (sl_op op_rep ol_rep (se_frz (sl_lst (sa_cons se_bl sa_nil))) se_int)) rfl)
  (ss_one (ss_ret se_bl))
  ss_nil)
  (ss_cons (ss_asg (se_f (d_combined L) (by decide) takes_cx hr (sa_cons (se_var 0) (sa_cons se_str (sa_cons (se_var 1) (sa_cons (se_var 2) sa_nil))))) (sg_tup 2 (sgs_cons (sg_name 0 sc__law_sums_hold.nd) (sgs_cons (sg_name 13 sc__law_sums_hold.nd) sgs_nil))))
  (ss_cons (ss_asg (se_f (d_combined L) (by decide) takes_cx hr (sa_cons (se_var 0) (sa_cons se_str (sa_cons (se_var 2) (sa_cons (se_var 1) sa_nil))))) (sg_tup 2 (sgs_cons (sg_name 0 sc__law_sums_hold.nd) (sgs_cons (sg_name 14 sc__law_sums_hold.nd) sgs_nil))))
  (ss_cons (ss_asg (se_f (d_combined L) (by decide) takes_cx hr (sa_cons (se_var 0) (sa_cons se_str (sa_cons (se_var 1) (sa_cons (se_var 2) sa_nil))))) (sg_tup 2 (sgs_cons (sg_name 0 sc__law_sums_hold.nd) (sgs_cons (sg_name 15 sc__law_sums_hold.nd) sgs_nil))))
  (ss_cons (ss_asg (se_f (d_combined L) (by decide) takes_cx hr (sa_cons (se_var 0) (sa_cons se_str (sa_cons (se_var 1) (sa_cons (se_var 2) sa_nil))))) (sg_tup 2 (sgs_cons (sg_name 0 sc__law_sums_hold.nd) (sgs_cons (sg_name 16 sc__law_sums_hold.nd) sgs_nil))))
  (ss_cons (ss_asg (se_f (d_combined L) (by decide) takes_cx hr (sa_cons (se_var 0) (sa_cons se_str (sa_cons (se_var 16) (sa_cons (se_var 14) sa_nil))))) (sg_tup 2 (sgs_cons (sg_name 0 sc__law_sums_hold.nd) (sgs_cons (sg_name 17 sc__law_sums_hold.nd) sgs_nil))))
  (ss_one (ss_ret (se_and (se_cmp op_isBl og_is (se_f (d_agree L) (by decide) takes_cx hr (sa_cons (se_var 0) (sa_cons (se_var 13) (sa_cons (se_f (d_opposite_word L) (by decide) takes_cx hr (sa_cons (se_var 14) sa_nil)) sa_nil)))) se_bl rfl) (se_one (se_cmp op_isBl og_is (se_f (d_agree L) (by decide) takes_cx hr (sa_cons (se_var 0) (sa_cons (se_var 15) (sa_cons (se_var 17) sa_nil)))) se_bl rfl))))))))))))))))))))
theorem sc_Build_pick : FnScope ["self", "c", "one", "other", "a", "b"] ["self", "c", "one", "other"] (defScope s_Build_pick) := ⟨rfl, rfl, rfl, by decide +kernel, rfl, by decide +kernel, by decide +kernel⟩
theorem d_Build_pick (L : Lk K mg) : Md P w K mg base 6 "Build" "pick" 4 F_Build_pick := md_of L.r_Build_pick sc_Build_pick end_gc fun f cdv A outer s H E hr =>
  (ss_one (ss_ret (se_callTy (call_tuple_of) (lg_tuple) rfl L.n_tuple bt_tuple (sa_cons (se_frz (sl_comp sc_Build_pick.nd (si_zip rfl L.n_zip (sa_cons (se_var 2) (sa_cons (se_var 3) sa_nil))) (own := [("a", 4), ("b", 5)]) (blk_of rfl (by kernel_rfl)) (fun _ _ _ _ _ => (sg_tup 2 (sgs_cons (sg_name 4 sc_Build_pick.nd) (sgs_cons (sg_name 5 sc_Build_pick.nd) sgs_nil)))) (fun _ _ _ _ _ => sts_nil) (fun _ _ _ _ _ => (se_m (d_Build_choose L) (by decide) takes_no hr (se_var 0) (sa_cons (se_var 1) (sa_cons (se_var 4) (sa_cons (se_var 5) sa_nil))))))) sa_nil))))
theorem sc_picked : FnScope ["net", "c", "one", "other", "build", "found"] ["net", "c", "one", "other"] (defScope s_picked) := ⟨rfl, rfl, rfl, by decide +kernel, rfl, by decide +kernel, by decide +kernel⟩
theorem d_picked (L : Lk K mg) : Fd P w K mg base 7 "picked" 4 F_picked := fd_of L.r_picked sc_picked end_gc fun f cdv A outer s H E hr =>
  (ss_cons (ss_expr (se_f (d_check_literals L) (by decide) takes_cx hr (sa_cons (se_var 0) (sa_cons (se_frz (sl_lst (sa_cons (se_var 1) sa_nil))) sa_nil))))
  (ss_cons (ss_expr (se_f (d_check_words L) (by decide) takes_cx hr (sa_cons (se_var 0) (sa_cons (se_frz (sl_lst (sa_cons (se_var 2) (sa_cons (se_var 3) sa_nil)))) sa_nil))))
  (ss_cons (ss_set 4 (se_mkS (d_Build_init L) (by decide) takes_cx hr (se_var 0)) sc_picked.nd)
  (ss_cons (ss_set 5 (se_m (d_Build_pick L) (by decide) takes_cx hr (se_var 4) (sa_cons (se_var 1) (sa_cons (se_var 2) (sa_cons (se_var 3) sa_nil)))) sc_picked.nd)
  (ss_one (ss_ret (se_tup (sa_cons (se_m0 (d_Build_net L) (by decide) takes_cx hr (se_var 4)) (sa_cons (se_var 5) sa_nil)))))))))
theorem sc_node_values : FnScope ["net", "bits"] ["net", "bits"] (defScope s_node_values) := ⟨rfl, rfl, rfl, by decide +kernel, rfl, by decide +kernel, by decide +kernel⟩
theorem d_node_values (L : Lk K mg) : Fd P w K mg base 4 "node_values" 2 F_node_values := fd_of L.r_node_values sc_node_values end_gc fun f cdv A outer s H E hr =>
  (ss_cons (ss_expr (se_f (d_check_bits L) (by decide) takes_cx hr (sa_cons (se_var 0) (sa_cons (se_var 1) sa_nil))))
  (ss_one (ss_ret (se_callTy (call_tuple_of) (lg_tuple) rfl L.n_tuple bt_tuple (sa_cons (se_f (d_values_of L) (by decide) takes_cx hr (sa_cons (se_var 0) (sa_cons (se_var 1) sa_nil))) sa_nil)))))
theorem sc__law_picks_hold : FnScope ["draws", "net", "kind", "words", "bits", "x", "y", "z", "one", "other", "below", "literal", "turn", "chosen", "swapped", "single", "more", "first", "moved", "told", "values", "at", "number", "differ", "some", "lit"] ["draws", "net", "kind", "words", "bits"] (defScope s__law_picks_hold) := ⟨rfl, rfl, rfl, by decide +kernel, rfl, by decide +kernel, by decide +kernel⟩
theorem d__law_picks_hold (L : Lk K mg) : Fd P w K mg base 10 "_law_picks_hold" 5 F__law_picks_hold := fd_of L.r__law_picks_hold sc__law_picks_hold end_gc fun f cdv A outer s H E hr =>
  (ss_cons (ss_asg (se_var 3) (sg_tup 3 (sgs_cons (sg_name 5 sc__law_picks_hold.nd) (sgs_cons (sg_name 6 sc__law_picks_hold.nd) (sgs_cons (sg_name 7 sc__law_picks_hold.nd) sgs_nil)))))
  (ss_cons (ss_asg (se_f (d_combined L) (by decide) takes_cx hr (sa_cons (se_var 1) (sa_cons se_str (sa_cons (se_var 5) (sa_cons (se_var 6) sa_nil))))) (sg_tup 2 (sgs_cons (sg_name 1 sc__law_picks_hold.nd) (sgs_cons (sg_name 8 sc__law_picks_hold.nd) sgs_nil))))
  (ss_cons (ss_asg (se_f (d_combined L) (by decide) takes_cx hr (sa_cons (se_var 1) (sa_cons se_str (sa_cons (se_f (d_opposite_word L) (by decide) takes_cx hr (sa_cons (se_var 5) sa_nil)) (sa_cons (se_f (d_opposite_word L) (by decide) takes_cx hr (sa_cons (se_var 6) sa_nil)) sa_nil))))) (sg_tup 2 (sgs_cons (sg_name 1 sc__law_picks_hold.nd) (sgs_cons (sg_name 9 sc__law_picks_hold.nd) sgs_nil))))
  (ss_cons (ss_asg (se_f (d_combined L) (by decide) takes_cx hr (sa_cons (se_var 1) (sa_cons se_str (sa_cons (se_var 5) (sa_cons (se_var 6) sa_nil))))) (sg_tup 2 (sgs_cons (sg_name 1 sc__law_picks_hold.nd) (sgs_cons (sg_name 10 sc__law_picks_hold.nd) sgs_nil))))
  (ss_cons (ss_set 11 (se_f (d__law_pick L) (by decide) takes_cx hr (sa_cons (se_var 0) (sa_cons (se_frz (sl_lst (sa_cons se_int (sa_cons se_int (sa_cons se_int (sa_cons (se_ix (se_var 10) se_int) sa_nil)))))) sa_nil))) sc__law_picks_hold.nd)
  (ss_cons (ss_set 12 (se_if (st_cmp (op_eqD hr.units) og_eq (se_callTy (call_int1) (lg_int) rfl L.n_int bt_int (sa_cons (se_op op_mod og_mod (se_var 11) se_int) sa_nil)) se_int rfl) (se_op op_add og_add (se_var 11) se_int) (se_op op_sub og_sub (se_var 11) se_int)) sc__law_picks_hold.nd)
  (ss_cons (ss_asg (se_f (d_picked L) (by decide) takes_cx hr (sa_cons (se_var 1) (sa_cons (se_var 11) (sa_cons (se_var 5) (sa_cons (se_var 6) sa_nil))))) (sg_tup 2 (sgs_cons (sg_name 1 sc__law_picks_hold.nd) (sgs_cons (sg_name 13 sc__law_picks_hold.nd) sgs_nil))))
  (ss_cons (ss_asg (se_f (d_picked L) (by decide) takes_cx hr (sa_cons (se_var 1) (sa_cons (se_var 12) (sa_cons (se_var 6) (sa_cons (se_var 5) sa_nil))))) (sg_tup 2 (sgs_cons (sg_name 1 sc__law_picks_hold.nd) (sgs_cons (sg_name 14 sc__law_picks_hold.nd) sgs_nil))))
  (ss_cons (ss_asg (se_f (d_picked L) (by decide) takes_cx hr (sa_cons (se_var 1) (sa_cons (se_var 11) (sa_cons (se_var 7) (sa_cons (se_var 7) sa_nil))))) (sg_tup 2 (sgs_cons (sg_name 1 sc__law_picks_hold.nd) (sgs_cons (sg_name 15 sc__law_picks_hold.nd) sgs_nil))))
  (ss_cons (ss_if (st_cmp (op_neD hr.units) og_ne (se_frz (sl_lst (sa_cons (se_f (d_agree L) (by decide) takes_cx hr (sa_cons (se_var 1) (sa_cons (se_var 8) (sa_cons (se_f (d_opposite_word L) (by decide) takes_cx hr (sa_cons (se_var 9) sa_nil)) sa_nil)))) (sa_cons (se_f (d_agree L) (by decide) takes_cx hr (sa_cons (se_var 1) (sa_cons (se_var 13) (sa_cons (se_var 14) sa_nil)))) (sa_cons (se_f (d_agree L) (by decide) takes_cx hr (sa_cons (se_var 1) (sa_cons (se_var 15) (sa_cons (se_var 7) sa_nil)))) sa_nil))))) (se_frz (sl_op op_rep ol_rep (se_frz (sl_lst (sa_cons se_bl sa_nil))) se_int)) rfl)
  (ss_one (ss_ret se_bl))
  ss_nil)
  (ss_cons (ss_asg (se_f (d_picked L) (by decide) takes_cx hr (sa_cons (se_var 1) (sa_cons se_int (sa_cons (se_var 5) (sa_cons (se_var 6) sa_nil))))) (sg_tup 2 (sgs_cons (sg_name 16 sc__law_picks_hold.nd) (sgs_cons (sg_name 17 sc__law_picks_hold.nd) sgs_nil))))
  (ss_cons (ss_if (st_cmp op_notBl og_isNot (se_f (d_agree L) (by decide) takes_cx hr (sa_cons (se_var 16) (sa_cons (se_var 17) (sa_cons (se_var 5) sa_nil)))) se_bl rfl)
  (ss_one (ss_ret se_bl))
  ss_nil)
  (ss_cons (ss_asg (se_f (d_combined L) (by decide) takes_cx hr (sa_cons (se_var 1) (sa_cons (se_var 2) (sa_cons (se_var 13) (sa_cons (se_var 7) sa_nil))))) (sg_tup 2 (sgs_cons (sg_name 1 sc__law_picks_hold.nd) (sgs_cons (sg_name 18 sc__law_picks_hold.nd) sgs_nil))))
  (ss_cons (ss_asg (se_f (d_combined L) (by decide) takes_cx hr (sa_cons (se_var 1) (sa_cons (se_var 2) (sa_cons (se_var 14) (sa_cons (se_var 7) sa_nil))))) (sg_tup 2 (sgs_cons (sg_name 1 sc__law_picks_hold.nd) (sgs_cons (sg_name 19 sc__law_picks_hold.nd) sgs_nil))))
  (ss_cons (ss_if (st_cmp op_notBl og_isNot (se_f (d_agree L) (by decide) takes_cx hr (sa_cons (se_var 1) (sa_cons (se_var 18) (sa_cons (se_var 19) sa_nil)))) se_bl rfl)
  (ss_one (ss_ret se_bl))
  ss_nil)
  (ss_cons (ss_set 20 (se_frz (sl_comp sc__law_picks_hold.nd (si_seq (se_var 4)) (own := [("some", 24)]) (blk_of rfl (by kernel_rfl)) (fun _ _ _ _ _ => (sg_name 24 sc__law_picks_hold.nd)) (fun _ _ _ _ _ => sts_nil) (fun _ _ _ _ _ => (se_f (d_node_values L) (by decide) takes_no hr (sa_cons (se_var 1) (sa_cons (se_var 24) sa_nil)))))) sc__law_picks_hold.nd)
  (ss_cons (ss_for (si_range1 rfl L.n_range (sa_cons se_int sa_nil)) (sg_name 21 sc__law_picks_hold.nd)
  (ss_cons (ss_setLF 22 sc__law_picks_hold.nd (si_seq (se_var 18)) (own := [("lit", 25)]) (blk_of rfl (by kernel_rfl)) (fun _ _ _ _ _ => (sg_name 25 sc__law_picks_hold.nd)) (fun _ _ _ _ _ => sts_nil) (fun _ _ _ _ _ => (se_if (st_cmp (op_eqD hr.units) og_eq (se_callTy (call_int1) (lg_int) rfl L.n_int bt_int (sa_cons (se_op op_mod og_mod (se_var 25) se_int) sa_nil)) se_int rfl) (se_ix (se_ix (se_var 20) (se_var 21)) (se_op op_fdiv og_div (se_var 25) se_int)) (se_op op_sub og_sub se_int (se_ix (se_ix (se_var 20) (se_var 21)) (se_op op_fdiv og_div (se_var 25) se_int))))) (by rfl))
  (ss_one (ss_if (st_cmp (op_neD hr.units) og_ne (se_f (d_word_number L) (by decide) takes_cx hr (sa_cons (se_var 1) (sa_cons (se_ix (se_var 4) (se_var 21)) (sa_cons (se_var 18) sa_nil)))) (se_op op_add og_add (se_ix (se_var 22) se_int) (se_op op_mul og_mul se_int (se_ix (se_var 22) se_int))) rfl)
  (ss_one (ss_ret se_bl))
  ss_nil))) owns_cx)
  (ss_cons (ss_setLF 23 sc__law_picks_hold.nd (si_seq (se_var 4)) (own := [("some", 24)]) (blk_of rfl (by kernel_rfl)) (fun _ _ _ _ _ => (sg_name 24 sc__law_picks_hold.nd)) (fun _ _ _ _ _ => (sts_one (st_cmp (op_neD hr.units) og_ne (se_f (d_word_number L) (by decide) takes_no hr (sa_cons (se_var 1) (sa_cons (se_var 24) (sa_cons (se_var 5) sa_nil)))) (se_f (d_word_number L) (by decide) takes_no hr (sa_cons (se_var 1) (sa_cons (se_var 24) (sa_cons (se_var 6) sa_nil)))) rfl))) (fun _ _ _ _ _ => (se_var 24)) (by rfl))
  (ss_one (ss_ret (se_if (st_cmp (op_neD hr.units) og_ne (se_var 23) (se_frz (sl_lst sa_nil)) rfl) (se_cmp op_isBl og_is (se_f (d_agree L) (by decide) takes_cx hr (sa_cons (se_var 1) (sa_cons (se_var 5) (sa_cons (se_var 6) sa_nil)))) se_bl rfl) se_bl)))))))))))))))))))))
theorem sc__law_main : FnScope ["script", "draws", "net", "words", "x", "y", "z", "bits", "a", "b", "more", "literal", "kinds", "kind", "left", "right", "op", "one", "other", "some", "numbers", "word", "turn", "node"] ["script"] (defScope s__law_main) := ⟨rfl, rfl, rfl, by decide +kernel, rfl, by decide +kernel, by decide +kernel⟩
theorem d__law_main (L : Lk K mg) : Fd P w K mg base 11 "_law_main" 1 F__law_main := fd_of L.r__law_main sc__law_main end_gc fun f cdv A outer s H E hr =>
  (ss_cons (ss_set 1 (se_f (d__law_draws L) (by decide) takes_cx hr (sa_cons (se_var 0) sa_nil)) sc__law_main.nd)
  (ss_cons (ss_set 1 (se_f (d__law_more L) (by decide) takes_cx hr (sa_cons (se_var 1) (sa_cons se_int sa_nil))) sc__law_main.nd)
  (ss_cons (ss_set 2 (se_tup (sa_cons se_int (sa_cons (se_tup sa_nil) sa_nil))) sc__law_main.nd)
  (ss_cons (ss_set 3 (se_frz (sl_lst (sa_cons (se_tup (sa_cons se_int (sa_cons se_int sa_nil))) (sa_cons (se_tup (sa_cons se_int (sa_cons se_int sa_nil))) (sa_cons (se_tup (sa_cons se_int (sa_cons se_int sa_nil))) sa_nil))))) sc__law_main.nd)
  (ss_cons (ss_setLF 3 sc__law_main.nd (si_seq (se_var 3)) (own := [("word", 21)]) (blk_of rfl (by kernel_rfl)) (fun _ _ _ _ _ => (sg_name 21 sc__law_main.nd)) (fun _ _ _ _ _ => sts_nil) (fun _ _ _ _ _ => (se_callTy (call_tuple_of) (lg_tuple) rfl L.n_tuple bt_tuple (sa_cons (se_frz (sl_comp sc__law_main.nd (si_seq (se_var 21)) (own := [("literal", 11)]) (blk_of rfl (by kernel_rfl)) (fun _ _ _ _ _ => (sg_name 11 sc__law_main.nd)) (fun _ _ _ _ _ => sts_nil) (fun _ _ _ _ _ => (se_op op_add og_add (se_var 11) (se_op op_mod og_mod (se_callTy (call_int1) (lg_int) rfl L.n_int bt_int (sa_cons (se_f (d__law_next L) (by decide) takes_no hr (sa_cons (se_var 1) sa_nil)) sa_nil)) se_int))))) sa_nil))) (by rfl))
  (ss_cons (ss_setLF 3 sc__law_main.nd (si_seq (se_var 3)) (own := [("word", 21)]) (blk_of rfl (by kernel_rfl)) (fun _ _ _ _ _ => (sg_name 21 sc__law_main.nd)) (fun _ _ _ _ _ => sts_nil) (fun _ _ _ _ _ => (se_if (st_cmp op_gt og_gt (se_op op_mod og_mod (se_callTy (call_int1) (lg_int) rfl L.n_int bt_int (sa_cons (se_f (d__law_next L) (by decide) takes_no hr (sa_cons (se_var 1) sa_nil)) sa_nil)) se_int) se_int rfl) (se_var 21) (se_f (d_number_word L) (by decide) takes_no hr (sa_cons se_int (sa_cons (se_op op_mod og_mod (se_callTy (call_int1) (lg_int) rfl L.n_int bt_int (sa_cons (se_f (d__law_next L) (by decide) takes_no hr (sa_cons (se_var 1) sa_nil)) sa_nil)) se_int) sa_nil))))) (by rfl))
  (ss_cons (ss_asg (se_var 3) (sg_tup 3 (sgs_cons (sg_name 4 sc__law_main.nd) (sgs_cons (sg_name 5 sc__law_main.nd) (sgs_cons (sg_name 6 sc__law_main.nd) sgs_nil)))))
  (ss_cons (ss_setLF 7 sc__law_main.nd (si_range1 rfl L.n_range (sa_cons se_int sa_nil)) (own := [("turn", 22)]) (blk_of rfl (by kernel_rfl)) (fun _ _ _ _ _ => (sg_name 22 sc__law_main.nd)) (fun _ _ _ _ _ => sts_nil) (fun _ _ _ _ _ => (se_callTy (call_tuple_of) (lg_tuple) rfl L.n_tuple bt_tuple (sa_cons (se_frz (sl_comp sc__law_main.nd (si_range1 rfl L.n_range (sa_cons se_int sa_nil)) (own := [("node", 23)]) (blk_of rfl (by kernel_rfl)) (fun _ _ _ _ _ => (sg_name 23 sc__law_main.nd)) (fun _ _ _ _ _ => sts_nil) (fun _ _ _ _ _ => (se_op op_mod og_mod (se_callTy (call_int1) (lg_int) rfl L.n_int bt_int (sa_cons (se_f (d__law_next L) (by decide) takes_no hr (sa_cons (se_var 1) sa_nil)) sa_nil)) se_int)))) sa_nil))) (by rfl))
  (ss_cons (ss_par 8 9 (sa_cons (se_op op_add og_add se_int (se_op op_mod og_mod (se_callTy (call_int1) (lg_int) rfl L.n_int bt_int (sa_cons (se_f (d__law_next L) (by decide) takes_cx hr (sa_cons (se_var 1) sa_nil)) sa_nil)) se_int)) (sa_cons (se_op op_add og_add se_int (se_op op_mod og_mod (se_callTy (call_int1) (lg_int) rfl L.n_int bt_int (sa_cons (se_f (d__law_next L) (by decide) takes_cx hr (sa_cons (se_var 1) sa_nil)) sa_nil)) se_int)) sa_nil)) sc__law_main.nd)
  (ss_cons (ss_asg (se_f (d_joined L) (by decide) takes_cx hr (sa_cons (se_var 2) (sa_cons (se_var 8) (sa_cons (se_var 9) sa_nil)))) (sg_tup 2 (sgs_cons (sg_name 10 sc__law_main.nd) (sgs_cons (sg_name 11 sc__law_main.nd) sgs_nil))))
  (ss_cons (ss_if (sw_pt (sw_or (st_cmp (op_neD hr.units) og_ne (se_f (d_joined L) (by decide) takes_cx hr (sa_cons (se_var 2) (sa_cons (se_var 9) (sa_cons (se_var 8) sa_nil)))) (se_tup (sa_cons (se_var 10) (sa_cons (se_var 11) sa_nil))) rfl) (sw_or (st_cmp (op_neD hr.units) og_ne (se_f (d_joined L) (by decide) takes_cx hr (sa_cons (se_var 10) (sa_cons (se_var 8) (sa_cons (se_var 9) sa_nil)))) (se_tup (sa_cons (se_var 10) (sa_cons (se_var 11) sa_nil))) rfl) (sw_or (st_cmp (op_neD hr.units) og_ne (se_f (d_joined L) (by decide) takes_cx hr (sa_cons (se_var 2) (sa_cons (se_var 8) (sa_cons se_int sa_nil)))) (se_tup (sa_cons (se_var 2) (sa_cons (se_var 8) sa_nil))) rfl) (sw_or1 (st_cmp (op_neD hr.units) og_ne (se_f (d_joined L) (by decide) takes_cx hr (sa_cons (se_var 2) (sa_cons (se_var 8) (sa_cons se_int sa_nil)))) (se_tup (sa_cons (se_var 2) (sa_cons se_int sa_nil))) rfl))))))
  (ss_one (ss_ret se_bl))
  ss_nil)
  (ss_cons (ss_if (sw_pt (sw_or (st_cmp op_notBl og_isNot (se_f (d_is_net L) (by decide) takes_cx hr (sa_cons (se_var 10) sa_nil)) se_bl rfl) (sw_or (st_cmp op_notBl og_isNot (se_f (d_is_tidy L) (by decide) takes_cx hr (sa_cons (se_var 10) sa_nil)) se_bl rfl) (sw_or1 (st_cmp (op_neD hr.units) og_ne (se_f (d_joined L) (by decide) takes_cx hr (sa_cons (se_var 10) (sa_cons (se_var 11) (sa_cons (se_var 8) sa_nil)))) (se_tup (sa_cons (se_var 10) (sa_cons (se_var 11) sa_nil))) rfl)))))
  (ss_one (ss_ret se_bl))
  ss_nil)
  (ss_cons (ss_set 12 (se_frz (sl_lst (sa_cons se_str (sa_cons se_str (sa_cons se_str (sa_cons se_str (sa_cons se_str sa_nil))))))) sc__law_main.nd)
  (ss_cons (ss_set 13 (se_f (d__law_pick L) (by decide) takes_cx hr (sa_cons (se_var 1) (sa_cons (se_var 12) sa_nil))) sc__law_main.nd)
  (ss_cons (ss_asg (se_f (d__law_both L) (by decide) takes_cx hr (sa_cons (se_var 2) (sa_cons (se_var 13) (sa_cons (se_var 4) (sa_cons (se_var 5) (sa_cons (se_var 6) sa_nil)))))) (sg_tup 3 (sgs_cons (sg_name 2 sc__law_main.nd) (sgs_cons (sg_name 14 sc__law_main.nd) (sgs_cons (sg_name 15 sc__law_main.nd) sgs_nil)))))
  (ss_cons (ss_if (st_cmp op_notBl og_isNot (se_f (d_agree L) (by decide) takes_cx hr (sa_cons (se_var 2) (sa_cons (se_var 14) (sa_cons (se_var 15) sa_nil)))) se_bl rfl)
  (ss_one (ss_ret se_bl))
  ss_nil)
  (ss_cons (ss_for (si_seq (se_frz (sl_lst (sa_cons se_str (sa_cons se_str (sa_cons se_str (sa_cons se_str (sa_cons se_str (sa_cons se_str (sa_cons se_str (sa_cons se_str (sa_cons se_str sa_nil)))))))))))) (sg_name 16 sc__law_main.nd)
  (ss_cons (ss_asg (se_f (d_combined L) (by decide) takes_cx hr (sa_cons (se_var 2) (sa_cons (se_var 16) (sa_cons (se_var 4) (sa_cons (se_var 5) sa_nil))))) (sg_tup 2 (sgs_cons (sg_name 2 sc__law_main.nd) (sgs_cons (sg_name 17 sc__law_main.nd) sgs_nil))))
  (ss_cons (ss_asg (se_f (d_combined L) (by decide) takes_cx hr (sa_cons (se_var 2) (sa_cons (se_var 16) (sa_cons (se_var 5) (sa_cons (se_var 4) sa_nil))))) (sg_tup 2 (sgs_cons (sg_name 2 sc__law_main.nd) (sgs_cons (sg_name 18 sc__law_main.nd) sgs_nil))))
  (ss_cons (ss_if (sw_pt (sw_and (st_in hr (se_var 16) (se_frz (sl_op op_cat ol_cat (se_var 12) (se_frz (sl_lst (sa_cons se_str sa_nil)))))) (sw_and1 (st_cmp op_notBl og_isNot (se_f (d_agree L) (by decide) takes_cx hr (sa_cons (se_var 2) (sa_cons (se_var 17) (sa_cons (se_var 18) sa_nil)))) se_bl rfl))))
  (ss_one (ss_ret se_bl))
  ss_nil)
  (ss_cons (ss_for (si_seq (se_var 7)) (sg_name 19 sc__law_main.nd)
  (ss_cons (ss_setLF 20 sc__law_main.nd (si_seq (se_frz (sl_lst (sa_cons (se_var 4) (sa_cons (se_var 5) sa_nil))))) (own := [("word", 21)]) (blk_of rfl (by kernel_rfl)) (fun _ _ _ _ _ => (sg_name 21 sc__law_main.nd)) (fun _ _ _ _ _ => sts_nil) (fun _ _ _ _ _ => (se_f (d_word_number L) (by decide) takes_no hr (sa_cons (se_var 2) (sa_cons (se_var 19) (sa_cons (se_var 21) sa_nil))))) (by rfl))
  (ss_one (ss_if (sw_pt (sw_or (st_cmp (op_neD hr.units) og_ne (se_f (d_word_number L) (by decide) takes_cx hr (sa_cons (se_var 2) (sa_cons (se_var 19) (sa_cons (se_var 17) sa_nil)))) (se_f (d__law_join L) (by decide) takes_cx hr (sa_cons (se_var 16) (sa_cons se_int (sa_cons (se_ix (se_var 20) se_int) (sa_cons (se_ix (se_var 20) se_int) sa_nil))))) rfl) (sw_or1 (st_cmp (op_neD hr.units) og_ne (se_f (d_word_number L) (by decide) takes_cx hr (sa_cons (se_var 2) (sa_cons (se_var 19) (sa_cons (se_var 18) sa_nil)))) (se_f (d__law_join L) (by decide) takes_cx hr (sa_cons (se_var 16) (sa_cons se_int (sa_cons (se_ix (se_var 20) se_int) (sa_cons (se_ix (se_var 20) se_int) sa_nil))))) rfl))))
  (ss_one (ss_ret se_bl))
  ss_nil))) owns_cx)
  (ss_one (ss_if (sw_pt (sw_or (st_cmp op_notBl og_isNot (se_f (d_is_tidy L) (by decide) takes_cx hr (sa_cons (se_var 2) sa_nil)) se_bl rfl) (sw_or1 (st_not (st_tru (se_callB (cr_all rfl) (lg_all) rfl L.n_all bt_all (sa_cons (se_frz (sl_comp sc__law_main.nd (si_seq (se_f (d_cone L) (by decide) takes_cx hr (sa_cons (se_var 2) (sa_cons (se_var 17) sa_nil)))) (own := [("node", 23)]) (blk_of rfl (by kernel_rfl)) (fun _ _ _ _ _ => (sg_name 23 sc__law_main.nd)) (fun _ _ _ _ _ => sts_nil) (fun _ _ _ _ _ => (se_or (se_in hr (se_var 23) (se_op (or_alt op_add op_catA) (og_alt og_add og_catT) (se_op (or_alt op_add op_catA) (og_alt og_add og_catT) (se_tup (sa_cons se_int sa_nil)) (se_f (d_cone L) (by decide) takes_no hr (sa_cons (se_var 2) (sa_cons (se_var 4) sa_nil)))) (se_f (d_cone L) (by decide) takes_no hr (sa_cons (se_var 2) (sa_cons (se_var 5) sa_nil))))) (se_one (se_cmp op_gt og_gt (se_var 23) se_int rfl)))))) sa_nil)))))))
  (ss_one (ss_ret se_bl))
  ss_nil)))))) owns_cx)
  (ss_one (ss_ret (se_and (se_f (d__law_sums_hold L) (by decide) takes_cx hr (sa_cons (se_var 2) (sa_cons (se_var 4) (sa_cons (se_var 5) (sa_cons (se_var 6) sa_nil))))) (se_one (se_f (d__law_picks_hold L) (by decide) takes_cx hr (sa_cons (se_var 1) (sa_cons (se_var 2) (sa_cons (se_var 13) (sa_cons (se_var 3) (sa_cons (se_var 7) sa_nil)))))))))))))))))))))))))))
theorem sc_law : FnScope ["script"] ["script"] (defScope s_law) := ⟨rfl, rfl, rfl, by decide +kernel, rfl, by decide +kernel, by decide +kernel⟩
theorem ok_law (L : Lk K mg) : BodyOk P w K mg base 12 "law" s_law ["script"] body_law := fun f cdv A outer s H E hr =>
  (ss_one (ss_try0 (ss_one (ss_ret (se_f (d__law_main L) (by decide) takes_no hr (sa_cons (se_var 0) sa_nil))))))
end
end K42

/-! M1: the words of VM*.lean, run. -/
namespace VM
open PySem L2
open Classical
section
variable {sl : Sl} {cs : Cs}
@[simp] theorem ap_eVar (i : Nat) : eVar i sl cs = (match sl[i]? with | some (some b) => .ok b cs | _ => .no) := Eq.trans rfl rfl
@[simp] theorem ap_eD (x : D) : eD x sl cs = .ok (.d x) cs := Eq.trans rfl rfl
@[simp] theorem ap_eB (b : B) : eB b sl cs = .ok b cs := Eq.trans rfl rfl
@[simp] theorem ap_eBin (g : B → B → Cs → ER B) (f1 f2 : Fn B) : eBin g f1 f2 sl cs = (f1 sl cs).bind fun a cs1 => (f2 sl cs1).bind fun b cs2 => g a b cs2 := Eq.trans rfl rfl
@[simp] theorem ap_eUn (g : B → Cs → ER B) (f1 : Fn B) : eUn g f1 sl cs = (f1 sl cs).bind g := Eq.trans rfl rfl
@[simp] theorem ap_eT (f : Fn B) : eT f sl cs = (f sl cs).bind isB := Eq.trans rfl rfl
@[simp] theorem ap_eTru (f : Fn B) : eTru f sl cs = (f sl cs).bind gTru := Eq.trans rfl rfl
@[simp] theorem ap_eNot (t : Fn Bool) : eNot t sl cs = (t sl cs).bind fun k cs1 => .ok (!k) cs1 := Eq.trans rfl rfl
@[simp] theorem ap_eAnd (t u : Fn Bool) : eAnd t u sl cs = (t sl cs).bind fun k cs1 => if k = true then u sl cs1 else .ok false cs1 := Eq.trans rfl rfl
@[simp] theorem ap_eOr (t u : Fn Bool) : eOr t u sl cs = (t sl cs).bind fun k cs1 => if k = true then .ok true cs1 else u sl cs1 := Eq.trans rfl rfl
@[simp] theorem ap_eNotV (f : Fn B) : eNotV f sl cs = (f sl cs).bind fun b cs1 => onB b fun k => .ok (.d (.bool (!k))) cs1 := Eq.trans rfl rfl
@[simp] theorem ap_eAndV (f g : Fn B) : eAndV f g sl cs = (f sl cs).bind fun b cs1 => onB b fun k => if k = true then g sl cs1 else .ok (.d (.bool false)) cs1 := Eq.trans rfl rfl
@[simp] theorem ap_eOrV (f g : Fn B) : eOrV f g sl cs = (f sl cs).bind fun b cs1 => onB b fun k => if k = true then .ok (.d (.bool true)) cs1 else g sl cs1 := Eq.trans rfl rfl
@[simp] theorem ap_eIf (t : Fn Bool) (f g : Fn B) : eIf t f g sl cs = (t sl cs).bind fun k cs1 => if k = true then f sl cs1 else g sl cs1 := Eq.trans rfl rfl
@[simp] theorem ap_eChain (g g' : B → B → Cs → ER B) (f1 f2 f3 : Fn B) : eChain g g' f1 f2 f3 sl cs = (f1 sl cs).bind fun a cs1 => (f2 sl cs1).bind fun b cs2 => (g a b cs2).bind fun z cs3 =>
  onB z fun k => if k = true then (f3 sl cs3).bind fun c cs4 => g' b c cs4 else .ok (.d (.bool false)) cs3 := Eq.trans rfl rfl
@[simp] theorem ap_eFn (n : Nat) (g : List B → Cs → ER B) (fs : Fn (List B)) : eFn n g fs sl cs = (fs sl cs).bind fun bs cs1 => if bs.length = n then g bs cs1 else .no := Eq.trans rfl rfl
@[simp] theorem ap_eCall (g : List B → Cs → ER B) (fs : Fn (List B)) : eCall g fs sl cs = (fs sl cs).bind g := Eq.trans rfl rfl
@[simp] theorem ap_lCall (g : List B → Cs → ER (List B)) (fs : Fn (List B)) : lCall g fs sl cs = (fs sl cs).bind g := Eq.trans rfl rfl
@[simp] theorem ap_aNil : aNil sl cs = .ok [] cs := Eq.trans rfl rfl
@[simp] theorem ap_aCons (f : Fn B) (g : Fn (List B)) : aCons f g sl cs = (f sl cs).bind fun b cs1 => (g sl cs1).bind fun bs cs2 => .ok (b :: bs) cs2 := Eq.trans rfl rfl
@[simp] theorem ap_aStar (f : Fn B) (g : Fn (List B)) : aStar f g sl cs = (f sl cs).bind fun b cs1 => match bSeq cs1 b with
  | some xs => (g sl cs1).bind fun bs cs2 => .ok (xs ++ bs) cs2
  | none => .no := Eq.trans rfl rfl
@[simp] theorem ap_eTup (fs : Fn (List B)) : eTup fs sl cs = (fs sl cs).bind fun bs cs1 => match allD bs with
  | some ds => if ds.length ≤ sizeLine then .ok (.d (.tuple ds)) cs1 else .no
  | none => .no := Eq.trans rfl rfl
@[simp] theorem ap_lTake (fs : Fn (List B)) : lTake fs sl cs = (fs sl cs).bind fun bs cs1 => if bs.length ≤ sizeLine then .ok bs cs1 else .no := Eq.trans rfl rfl
@[simp] theorem ap_eFrz (g : Fn (List B)) : eFrz g sl cs = (g sl cs).bind fun bs cs1 => match allD bs with
  | some ds => .ok (.d (.list ds)) cs1
  | none => .no := Eq.trans rfl rfl
@[simp] theorem ap_eCell (g : Fn (List B)) : eCell g sl cs = (g sl cs).bind fun bs cs1 => .ok (.r cs1.length) (cs1 ++ [.lst bs]) := Eq.trans rfl rfl
@[simp] theorem ap_lBin (g : B → B → Cs → ER (List B)) (f1 f2 : Fn B) : lBin g f1 f2 sl cs = (f1 sl cs).bind fun a cs1 => (f2 sl cs1).bind fun b cs2 => g a b cs2 := Eq.trans rfl rfl
@[simp] theorem ap_eBM (is : Option Cell → Bool) (g : Nat → List B → Cs → ER B) (fo : Fn B) (fs : Fn (List B)) : eBM is g fo fs sl cs = (fo sl cs).bind fun b cs1 => match b with
  | .r k => if is cs1[k]? = true then (fs sl cs1).bind fun bs cs2 => g k bs cs2 else .no
  | _ => .no := Eq.trans rfl rfl
@[simp] theorem ap_eFld (cls fl : Str) (fo : Fn B) : eFld cls fl fo sl cs = (fo sl cs).bind fun b cs1 => match b with
  | .r k => match cs1[k]? with
    | some (.ins nm fs) => if nm = cls then match fs.lookup fl with
      | some v => .ok v cs1
      | none => .no else .no
    | _ => .no
  | _ => .no := Eq.trans rfl rfl
@[simp] theorem ap_eMeth (cls m : Str) (n : Nat) (g : List B → Cs → ER B) (fo : Fn B) (fs : Fn (List B)) : eMeth cls m n g fo fs sl cs = (fo sl cs).bind fun b cs1 => match b with
  | .r k => match cs1[k]? with
    | some (.ins nm fl) => if nm = cls ∧ fl.lookup m = none then (fs sl cs1).bind fun bs cs2 => if bs.length + 1 = n then g (.r k :: bs) cs2 else .no else .no
    | _ => .no
  | _ => .no := Eq.trans rfl rfl
@[simp] theorem ap_eMake (cls : Str) (n : Nat) (g : List B → Cs → ER B) (fs : Fn (List B)) : eMake cls n g fs sl cs = (fs sl cs).bind fun bs cs1 => if bs.length + 1 = n then (g (.r cs1.length :: bs) (cs1 ++ [.ins cls []])).bind fun b cs2 => match b with
  | .d .none => .ok (.r cs1.length) cs2
  | _ => .no else .no := Eq.trans rfl rfl
@[simp] theorem ap_eDNew (c : Cell) : eDNew c sl cs = .ok (.r cs.length) (cs ++ [c]) := Eq.trans rfl rfl
@[simp] theorem ap_eCutT (fo : Fn B) (f1 f2 : FnO) : eCutT fo f1 f2 sl cs = (fo sl cs).bind fun b cs1 => (f1 sl cs1).bind fun lo cs2 => (f2 sl cs2).bind fun hi cs3 => match b with
  | .d (.tuple xs) => .ok (.d (.tuple (cutB xs lo hi))) cs3
  | _ => .no := Eq.trans rfl rfl
@[simp] theorem ap_oNone : oNone sl cs = .ok none cs := Eq.trans rfl rfl
@[simp] theorem ap_oSome (f : Fn B) : oSome f sl cs = (f sl cs).bind fun b cs1 => match b with
  | .d (.int i) => .ok (some i) cs1
  | _ => .no := Eq.trans rfl rfl
@[simp] theorem ap_eDisp (ps : List (Fn B × Fn B)) : eDisp ps sl cs = (fPairs ps sl cs).bind fun kvs cs1 => if kvs.length ≤ 15 then .ok (.r cs1.length) (cs1 ++ [.dK (mergeB [] kvs)]) else .no := Eq.trans rfl rfl
@[simp] theorem ap_fPairs_nil : fPairs [] sl cs = .ok [] cs := Eq.trans rfl rfl
@[simp] theorem ap_fPairs_cons (p : Fn B × Fn B) (r : List (Fn B × Fn B)) : fPairs (p :: r) sl cs = (p.1 sl cs).bind fun y cs1 => (p.2 sl cs1).bind fun z cs2 => match y with
    | .d x => match keyD x with
      | some ky => (fPairs r sl cs2).bind fun kvs cs3 => .ok ((ky, z) :: kvs) cs3
      | none => .no
    | _ => .no := Eq.trans rfl rfl
@[simp] theorem ap_eBound (cls m : Str) (g : Addr) (fo : Fn B) : eBound cls m g fo sl cs = (fo sl cs).bind fun b cs1 => match b with
  | .r k => match cs1[k]? with
    | some (.ins nm fl) => if nm = cls ∧ fl.lookup m = none then .ok (.m g k) cs1 else .no
    | _ => .no
  | _ => .no := Eq.trans rfl rfl
@[simp] theorem ap_eCallM (i : Nat) (tb : MTab) (fs : Fn (List B)) : eCallM i tb fs sl cs = (match sl[i]? with
  | some (some (.m f k)) => match tb.find? (fun t => decide (t.1 = f)) with
    | some (_, n, g) => (fs sl cs).bind fun bs cs1 => if bs.length + 1 = n then g (.r k :: bs) cs1 else .no
    | none => .no
  | _ => .no) := Eq.trans rfl rfl
@[simp] theorem ap_eYes : eYes sl cs = .ok true cs := Eq.trans rfl rfl
@[simp] theorem ap_gAlt (g1 g2 : B → B → Cs → ER B) (a b : B) : gAlt g1 g2 a b cs = orE (g1 a b cs) (g2 a b cs) := Eq.trans rfl rfl
@[simp] theorem ap_gAlt1 (g1 g2 : List B → Cs → ER B) (a : List B) : gAlt1 g1 g2 a cs = orE (g1 a cs) (g2 a cs) := Eq.trans rfl rfl
@[simp] theorem ap_gAlt2 (g1 g2 : List B → Cs → ER (List B)) (a : List B) : gAlt2 g1 g2 a cs = orE (g1 a cs) (g2 a cs) := Eq.trans rfl rfl
@[simp] theorem ap_gInU (n : Bool) (a b : B) : gInU n a b cs = orE (gIn n a b cs) (gDIn n a b cs) := Eq.trans rfl rfl
@[simp] theorem ap_gLenU (a : List B) : gLenU a cs = orE (gLen a cs) (gLenD a cs) := Eq.trans rfl rfl
/-! statements -/
@[simp] theorem ap_sNext : sNext sl cs = .nx sl cs := Eq.trans rfl rfl
@[simp] theorem ap_sSeq (f g : FnS) : sSeq f g sl cs = (match f sl cs with | .nx sl1 cs1 => g sl1 cs1 | r => r) := Eq.trans rfl rfl
@[simp] theorem ap_sSet (i : Nat) (f : Fn B) : sSet i f sl cs = sE (f sl cs) sl fun b cs1 => .nx (sl.set i (some b)) cs1 := Eq.trans rfl rfl
@[simp] theorem ap_sExpr (f : Fn B) : sExpr f sl cs = sE (f sl cs) sl fun _ cs1 => .nx sl cs1 := Eq.trans rfl rfl
@[simp] theorem ap_sRet (f : Fn B) : sRet f sl cs = sE (f sl cs) sl fun b cs1 => .rt b cs1 := Eq.trans rfl rfl
@[simp] theorem ap_sIf (t : Fn Bool) (g1 g2 : FnS) : sIf t g1 g2 sl cs = sE (t sl cs) sl fun k cs1 => if k = true then g1 sl cs1 else g2 sl cs1 := Eq.trans rfl rfl
@[simp] theorem ap_sPass : sPass sl cs = .nx sl cs := Eq.trans rfl rfl
@[simp] theorem ap_sBreak : sBreak sl cs = .bk sl cs := Eq.trans rfl rfl
@[simp] theorem ap_sCont : sCont sl cs = .ct sl cs := Eq.trans rfl rfl
@[simp] theorem ap_sNever : sNever sl cs = .no := Eq.trans rfl rfl
@[simp] theorem ap_sPar (i j : Nat) (fs : Fn (List B)) : sPar i j fs sl cs = sE (fs sl cs) sl fun bs cs1 => match bs with
  | [x, y] => .nx ((sl.set i (some x)).set j (some y)) cs1
  | _ => .no := Eq.trans rfl rfl
@[simp] theorem ap_sAsg (tf : TgF) (f : Fn B) : sAsg tf f sl cs = sE (f sl cs) sl fun b cs1 => match tf b sl with
  | some sl1 => .nx sl1 cs1
  | none => .no := Eq.trans rfl rfl
@[simp] theorem ap_sFldSet (cls fl : Str) (fo fv : Fn B) : sFldSet cls fl fo fv sl cs = sE (fv sl cs) sl fun v cs1 => sE (fo sl cs1) sl fun b cs2 => match b with
  | .r k => match cs2[k]? with
    | some (.ins nm fs) => if nm = cls ∧ fs.length < 1000 then .nx sl (cs2.set k (.ins nm (putFB fl v fs))) else .no
    | _ => .no
  | _ => .no := Eq.trans rfl rfl
@[simp] theorem ap_sPut (fo fi fv : Fn B) : sPut fo fi fv sl cs = sE (fv sl cs) sl fun v cs1 => sE (fo sl cs1) sl fun o cs2 => sE (fi sl cs2) sl fun i cs3 => match putAt cs3 o i v with
  | some cs4 => .nx sl cs4
  | none => .no := Eq.trans rfl rfl
@[simp] theorem ap_sTry0 (g : FnS) : sTry0 g sl cs = (match g sl cs with | .ex _ _ _ => .no | r => r) := Eq.trans rfl rfl
@[simp] theorem ap_sFor (fi : Fn (List B × (Cs → Prop))) (tf : TgF) (body : FnS) : sFor fi tf body sl cs = sE (fi sl cs) sl fun a cs1 => sLoop a.2 tf body a.1 sl cs1 := Eq.trans rfl rfl
@[simp] theorem ap_tgName (i : Nat) (b : B) : tgName i b sl = some (sl.set i (some b)) := Eq.trans rfl rfl
@[simp] theorem ap_tgNil : tgNil [] sl = some sl := Eq.trans rfl rfl
@[simp] theorem ap_tgCons (f : TgF) (g : TgsF) (b : B) (r : List B) : tgCons f g (b :: r) sl = (f b sl).bind (g r) := Eq.trans rfl rfl
@[simp] theorem ap_tgTupT (n : Nat) (g : TgsF) (xs : List D) : tgTup n g (.d (.tuple xs)) sl = if xs.length = n then g (xs.map B.d) sl else none := Eq.trans rfl rfl
@[simp] theorem ap_tgTupL (n : Nat) (g : TgsF) (xs : List D) : tgTup n g (.d (.list xs)) sl = if xs.length = n then g (xs.map B.d) sl else none := Eq.trans rfl rfl
/-! ints -/
@[simp] theorem g_add (i j : Int) : gAdd (.d (.int i)) (.d (.int j)) cs = .ok (.d (.int (i + j))) cs := Eq.trans rfl rfl
@[simp] theorem g_sub (i j : Int) : gSub (.d (.int i)) (.d (.int j)) cs = .ok (.d (.int (i - j))) cs := Eq.trans rfl rfl
theorem g_mul (i j : Int) (h : CMul i j) : gMul (.d (.int i)) (.d (.int j)) cs = .ok (.d (.int (i * j))) cs := if_pos h
theorem g_div (i j : Int) (h : CDiv i j) : gDiv (.d (.int i)) (.d (.int j)) cs = .ok (.d (.int (i / j))) cs := if_pos h
theorem g_mod (i j : Int) (h : 0 < j) : gMod (.d (.int i)) (.d (.int j)) cs = .ok (.d (.int (i % j))) cs := if_pos h
theorem g_shl (i j : Int) (h : CPow i j) : gShl (.d (.int i)) (.d (.int j)) cs = .ok (.d (.int (i * 2 ^ j.toNat))) cs := if_pos h
theorem g_shr (i j : Int) (h : 0 ≤ j) : gShr (.d (.int i)) (.d (.int j)) cs = .ok (.d (.int (i / 2 ^ j.toNat))) cs := if_pos h
@[simp] theorem g_lt (i j : Int) : gLt (.d (.int i)) (.d (.int j)) cs = .ok (.d (.bool (decide (i < j)))) cs := Eq.trans rfl rfl
@[simp] theorem g_le (i j : Int) : gLe (.d (.int i)) (.d (.int j)) cs = .ok (.d (.bool (decide (i ≤ j)))) cs := Eq.trans rfl rfl
@[simp] theorem g_gt (i j : Int) : gGt (.d (.int i)) (.d (.int j)) cs = .ok (.d (.bool (decide (j < i)))) cs := Eq.trans rfl rfl
@[simp] theorem g_ge (i j : Int) : gGe (.d (.int i)) (.d (.int j)) cs = .ok (.d (.bool (decide (j ≤ i)))) cs := Eq.trans rfl rfl
@[simp] theorem isB_b (k : Bool) : isB (.d (.bool k)) cs = .ok k cs := Eq.trans rfl rfl
@[simp] theorem onB_b (k : Bool) (f : Bool → ER B) : onB (.d (.bool k)) f = f k := Eq.trans rfl rfl
@[simp] theorem tru_b (k : Bool) : gTru (.d (.bool k)) cs = .ok k cs := Eq.trans rfl rfl
@[simp] theorem tru_i (i : Int) : gTru (.d (.int i)) cs = .ok (i != 0) cs := Eq.trans rfl rfl
@[simp] theorem g_int (i : Int) : gInt [.d (.int i)] cs = .ok (.d (.int i)) cs := Eq.trans rfl rfl
@[simp] theorem g_intb (k : Bool) : gInt [.d (.bool k)] cs = .ok (.d (.int (if k then 1 else 0))) cs := Eq.trans rfl rfl
@[simp] theorem g_max (i j : Int) : gMax [.d (.int i), .d (.int j)] cs = .ok (.d (.int (if j > i then j else i))) cs := Eq.trans rfl rfl
@[simp] theorem g_min (i j : Int) : gMin [.d (.int i), .d (.int j)] cs = .ok (.d (.int (if j < i then j else i))) cs := Eq.trans rfl rfl
theorem mul_l {i j : Int} (h1 : -(2 ^ 64) < i) (h2 : i < 2 ^ 64) : CMul i j := .inl ⟨h1, h2⟩
theorem mul_r {i j : Int} (h1 : -(2 ^ 64) < j) (h2 : j < 2 ^ 64) : CMul i j := .inr ⟨h1, h2⟩
/-! what is left at a def's end -/
theorem gcOk_refl : GcOk cs cs := ⟨Nat.le_refl _, fun k c' _ e => .inl e⟩
@[simp] theorem gcR_same (x : D) : gcR cs (.ok (.d x) cs) = .ok (.d x) cs := by
  unfold gcR
  simp only
  rw [if_pos (show GcOk cs cs ∧ (B.d x).low cs.length from ⟨gcOk_refl, trivial⟩), List.take_length]
/-- the def's own cells are dropped -/
theorem gcR_app (x : D) (t : Cs) : gcR cs (.ok (.d x) (cs ++ t)) = .ok (.d x) cs := by
  have h : GcOk cs (cs ++ t) := ⟨by simp, fun k c' hk e => .inl (by rw [List.getElem?_append_left hk] at e; exact e)⟩
  unfold gcR
  simp only
  rw [if_pos (show GcOk cs (cs ++ t) ∧ (B.d x).low cs.length from ⟨h, trivial⟩), List.take_left]
@[simp] theorem retOf_nx (a : Sl) : retOf (.nx a cs) = .ok (.d .none) cs := Eq.trans rfl rfl
@[simp] theorem retOf_rt (b : B) : retOf (.rt b cs) = .ok b cs := Eq.trans rfl rfl
@[simp] theorem ap_mDef (n : Nat) (body : FnS) (end_ : Cs → ER B → ER B) (bs : List B) : mDef n body end_ bs cs = end_ cs (retOf (body (bs.map some ++ List.replicate (n - bs.length) none) cs)) := Eq.trans rfl rfl
@[simp] theorem keepR_ap (r : ER B) : keepR cs r = r := Eq.trans rfl rfl
end
end VM
namespace K42
open PySem VM L2
/-! ### literals -/
def opp (l : Nat) : Nat := if l % 2 = 1 then l - 1 else l + 1
theorem opp_int (l : Nat) : (l : Int) + 1 - 2 * ((l : Int) % 2) = ((opp l : Nat) : Int) := by
  unfold opp
  split <;> omega
theorem opp_opp (l : Nat) : opp (opp l) = l := by unfold opp; split <;> split <;> omega
theorem opp_div (l : Nat) : opp l / 2 = l / 2 := by unfold opp; split <;> omega
theorem opp_mod (l : Nat) : opp l % 2 = 1 - l % 2 := by unfold opp; split <;> omega
abbrev dN (n : Nat) : D := .int (n : Int)
theorem F_opp (l : Nat) (cs : Cs) : F_opposite [.d (dN l)] cs = .ok (.d (dN (opp l))) cs := by
  have h1 : CMul 2 ((l : Int) % 2) := mul_l (by decide) (by decide)
  simp [F_opposite, g_mod, g_mul _ _ h1, opp_int]
end K42

/-! M2: nets, plainly. -/
namespace K42
abbrev Gs := List (Nat × Nat)
/-- the nodes' values in any algebra -/
structure Alg (T : Type) where
  neg : T → T
  op : T → T → T
  z : T
variable {T : Type}
def lit (A : Alg T) (vs : List T) (l : Nat) : T := if l % 2 = 1 then A.neg (vs.getD (l / 2) A.z) else vs.getD (l / 2) A.z
def ev (A : Alg T) (vs : List T) : Gs → List T
  | [] => vs
  | g :: gs => ev A (vs ++ [A.op (lit A vs g.1) (lit A vs g.2)]) gs
theorem ev_app (A : Alg T) (gs hs : Gs) : ∀ vs, ev A vs (gs ++ hs) = ev A (ev A vs gs) hs := by
  induction gs with
  | nil => intro vs; rfl
  | cons g gs ih => intro vs; exact ih _
theorem ev_len (A : Alg T) (gs : Gs) : ∀ vs, (ev A vs gs).length = vs.length + gs.length := by
  induction gs with
  | nil => intro vs; rfl
  | cons g gs ih =>
    intro vs
    show (ev A (vs ++ [_]) gs).length = _
    rw [ih]
    simp
    omega
theorem ev_pre (A : Alg T) (gs : Gs) : ∀ vs, ∃ t, ev A vs gs = vs ++ t := by
  induction gs with
  | nil => intro vs; exact ⟨[], by simp [ev]⟩
  | cons g gs ih =>
    intro vs
    obtain ⟨t, e⟩ := ih (vs ++ [A.op (lit A vs g.1) (lit A vs g.2)])
    exact ⟨_ :: t, by show ev A (vs ++ [_]) gs = _; rw [e, List.append_assoc]; rfl⟩
theorem lit_pre (A : Alg T) (vs t : List T) (l : Nat) (h : l / 2 < vs.length) : lit A (vs ++ t) l = lit A vs l := by
  unfold lit
  rw [List.getD_eq_getElem?_getD, List.getD_eq_getElem?_getD, List.getElem?_append_left h]
theorem lit_ev (A : Alg T) (vs : List T) (gs : Gs) (l : Nat) (h : l / 2 < vs.length) : lit A (ev A vs gs) l = lit A vs l := by
  obtain ⟨t, e⟩ := ev_pre A gs vs
  rw [e, lit_pre A vs t l h]
/-- a literal's value in the net gs over the given nodes' ones -/
def L (A : Alg T) (v0 : List T) (gs : Gs) (l : Nat) : T := lit A (ev A v0 gs) l
theorem L_ext (A : Alg T) (v0 : List T) (gs t : Gs) (l : Nat) (h : l < 2 * (v0.length + gs.length)) : L A v0 (gs ++ t) l = L A v0 gs l := by
  unfold L
  rw [ev_app, lit_ev]
  rw [ev_len]
  omega
theorem L_new (A : Alg T) (v0 : List T) (gs : Gs) (a b : Nat) : L A v0 (gs ++ [(a, b)]) (2 * (v0.length + gs.length)) = A.op (L A v0 gs a) (L A v0 gs b) := by
  unfold L
  rw [ev_app]
  show lit A (ev A v0 gs ++ [A.op (lit A (ev A v0 gs) a) (lit A (ev A v0 gs) b)]) (2 * (v0.length + gs.length)) = _
  have e : (2 * (v0.length + gs.length)) / 2 = (ev A v0 gs).length := by rw [ev_len]; omega
  have m : ¬ (2 * (v0.length + gs.length)) % 2 = 1 := by omega
  unfold lit
  rw [if_neg m, e, List.getD_eq_getElem?_getD, List.getElem?_append_right (Nat.le_refl _)]
  simp
def wf (n : Nat) (gs : Gs) : Prop := ∀ i a b, gs[i]? = some (a, b) → a < 2 * (n + i) ∧ b < 2 * (n + i)
theorem L_at (A : Alg T) (v0 : List T) (gs : Gs) (hw : wf v0.length gs) (i a b : Nat) (h : gs[i]? = some (a, b)) : L A v0 gs (2 * (v0.length + i)) = A.op (L A v0 gs a) (L A v0 gs b) := by
  have hi : i < gs.length := (List.getElem?_eq_some_iff.mp h).1
  have hl : (gs.take i).length = i := by simp; omega
  have e : gs = gs.take i ++ [(a, b)] ++ gs.drop (i + 1) := by
    have := List.take_append_drop i gs
    rw [List.drop_eq_getElem_cons hi] at this
    rw [← (List.getElem?_eq_some_iff.mp h).2]
    simp
  obtain ⟨w1, w2⟩ := hw i a b h
  have k : ∀ l, l < 2 * (v0.length + i) → L A v0 gs l = L A v0 (gs.take i) l := fun l hl' => by
    conv => lhs; rw [e, List.append_assoc]
    exact L_ext A v0 _ _ l (by rw [hl]; exact hl')
  rw [k a w1, k b w2]
  have e2 : L A v0 gs (2 * (v0.length + i)) = L A v0 (gs.take i ++ [(a, b)]) (2 * (v0.length + i)) := by
    conv => lhs; rw [e]
    exact L_ext A v0 _ _ _ (by simp [hl])
  rw [e2]
  have := L_new A v0 (gs.take i) a b
  rw [hl] at this
  exact this
theorem L_opp (A : Alg T) (hn : ∀ x, A.neg (A.neg x) = x) (v0 : List T) (gs : Gs) (l : Nat) : L A v0 gs (opp l) = A.neg (L A v0 gs l) := by
  unfold L lit
  rw [opp_div, opp_mod]
  by_cases h : l % 2 = 1
  · rw [if_pos h, if_neg (by omega), hn]
  · rw [if_neg h, if_pos (by omega)]
/-! ### both -/
def pairOf (n : Nat) (gs : Gs) (l : Nat) : List Nat := if n ≤ l / 2 then (match gs[l / 2 - n]? with | some g => [g.1, g.2] | none => []) else []
def look1 (n : Nat) (gs : Gs) (one other : Nat) : Option Nat := if one % 2 = 0 ∧ other ∈ pairOf n gs one then some one else if one % 2 = 0 ∧ opp other ∈ pairOf n gs one then some 0 else none
def looked (n : Nat) (gs : Gs) (a b : Nat) : Option Nat := match look1 n gs a b with
  | some r => some r
  | none => look1 n gs b a
/-- n: the free ones and the one that is false -/
def bothS (n : Nat) (gs : Gs) (x y : Nat) : Gs × Nat :=
  if x = 0 ∨ y = opp x then (gs, 0) else if x = 1 ∨ x = y then (gs, y) else match gs.findIdx? (· == (x, y)) with
    | some i => (gs, 2 * (n + i))
    | none => match looked n gs x y with
      | some r => (gs, r)
      | none => (gs ++ [(x, y)], 2 * (n + gs.length))
def both (n : Nat) (gs : Gs) (a b : Nat) : Gs × Nat := bothS n gs (min a b) (max a b)
/-- what every net keeps -/
structure Ok (n : Nat) (gs : Gs) : Prop where
  wf : wf n gs
  tidy : ∀ g ∈ gs, 1 < g.1 ∧ g.1 < g.2 ∧ g.1 / 2 ≠ g.2 / 2
  nd : gs.Nodup
theorem Ok.nil (n : Nat) : Ok n [] := ⟨fun i a b h => by simp at h, by simp, List.nodup_nil⟩
/-- values, and which given nodes a literal hangs on -/
def aB : Alg Bool := ⟨fun x => !x, fun x y => x && y, false⟩
def aS : Alg (List Nat) := ⟨fun x => x, fun x y => x ++ y, []⟩
def v0 (β : List Bool) : List Bool := false :: β
def s0 (n : Nat) : List (List Nat) := (List.range n).map fun i => [i]
/-- l is a literal of gs, its value is F, it hangs on nodes of S alone -/
structure Dn (n : Nat) (S : Nat → Prop) (gs : Gs) (l : Nat) (F : List Bool → Bool) : Prop where
  lt : l < 2 * (n + gs.length)
  val : ∀ β : List Bool, β.length + 1 = n → L aB (v0 β) gs l = F β
  sup : ∀ k ∈ L aS (s0 n) gs l, k = 0 ∨ S k
@[simp] theorem s0_len (n : Nat) : (s0 n).length = n := by simp [s0]
@[simp] theorem v0_len (β : List Bool) : (v0 β).length = β.length + 1 := rfl
variable {n : Nat} {S : Nat → Prop} {gs : Gs} {F G : List Bool → Bool} {a b l : Nat}
theorem Dn.ext (h : Dn n S gs l F) (t : Gs) : Dn n S (gs ++ t) l F := by
  refine ⟨?_, fun β hβ => ?_, fun k hk => ?_⟩
  · have := h.lt
    rw [List.length_append]; omega
  · rw [L_ext]
    · exact h.val β hβ
    · rw [v0_len, hβ]; exact h.lt
  · rw [L_ext] at hk
    · exact h.sup k hk
    · rw [s0_len]; exact h.lt
theorem Dn.opp (h : Dn n S gs l F) : Dn n S gs (opp l) (fun β => !F β) := by
  refine ⟨?_, fun β hβ => ?_, fun k hk => ?_⟩
  · have := h.lt
    have e := opp_div l
    omega
  · rw [L_opp aB (fun x => by simp [aB]), h.val β hβ]; rfl
  · rw [L_opp aS (fun x => rfl)] at hk
    exact h.sup k hk
theorem dn_false (hn : 0 < n) (gs : Gs) : Dn n S gs 0 (fun _ => false) := by
  have e : (0 : Nat) < 2 * (n + 0) := by omega
  have h : Dn n S [] 0 (fun _ => false) := by
    refine ⟨e, fun β hβ => rfl, fun k hk => ?_⟩
    have : L aS (s0 n) [] 0 = [0] := by
      unfold L lit ev s0
      rw [if_neg (by omega), List.getD_eq_getElem?_getD, List.getElem?_map]
      simp [hn]
    rw [this] at hk
    exact .inl (by simpa using hk)
  exact h.ext gs
theorem Dn.imp (h : Dn n S gs l F) (e : ∀ β, F β = G β) : Dn n S gs l G := ⟨h.lt, fun β hβ => (h.val β hβ).trans (e β), h.sup⟩
theorem dn_true (hn : 0 < n) (gs : Gs) : Dn n S gs 1 (fun _ => true) := (dn_false hn gs).opp
/-- a gate that stands there -/
theorem dn_at (ok : Ok n gs) {i : Nat} (h : gs[i]? = some (a, b)) (ha : Dn n S gs a F) (hb : Dn n S gs b G) : Dn n S gs (2 * (n + i)) (fun β => F β && G β) := by
  have hi : i < gs.length := (List.getElem?_eq_some_iff.mp h).1
  refine ⟨by omega, fun β hβ => ?_, fun k hk => ?_⟩
  · have e := L_at aB (v0 β) gs (by rw [v0_len, hβ]; exact ok.wf) i a b h
    rw [v0_len, hβ] at e
    rw [e, ha.val β hβ, hb.val β hβ]; rfl
  · have e := L_at aS (s0 n) gs (by rw [s0_len]; exact ok.wf) i a b h
    rw [s0_len] at e
    rw [e] at hk
    rcases List.mem_append.mp hk with q | q
    · exact ha.sup k q
    · exact hb.sup k q
theorem Ok.add (ok : Ok n gs) (ha : a < 2 * (n + gs.length)) (hb : b < 2 * (n + gs.length)) (h1 : 1 < a) (h2 : a < b) (h3 : a / 2 ≠ b / 2) (h4 : (a, b) ∉ gs) : Ok n (gs ++ [(a, b)]) := by
  refine ⟨fun i c d h => ?_, fun g hg => ?_, ?_⟩
  · by_cases hi : i < gs.length
    · rw [List.getElem?_append_left hi] at h
      exact ok.wf i c d h
    · rw [List.getElem?_append_right (by omega)] at h
      have z : i - gs.length = 0 := by
        have := (List.getElem?_eq_some_iff.mp h).1
        simp at this; omega
      rw [z] at h
      simp at h
      obtain ⟨rfl, rfl⟩ := h
      have : i = gs.length := by omega
      rw [this]
      exact ⟨ha, hb⟩
  · rcases List.mem_append.mp hg with q | q
    · exact ok.tidy g q
    · simp at q; subst q; exact ⟨h1, h2, h3⟩
  · rw [List.nodup_append]
    exact ⟨ok.nd, by simp, fun x hx y hy e => h4 (by simp at hy; rw [← hy, ← e]; exact hx)⟩
theorem mem_pairOf {l x : Nat} (h : x ∈ pairOf n gs l) (he : l % 2 = 0) : ∃ i c d, l = 2 * (n + i) ∧ gs[i]? = some (c, d) ∧ (x = c ∨ x = d) := by
  unfold pairOf at h
  split at h
  · rename_i hn
    split at h
    · rename_i g e
      refine ⟨l / 2 - n, g.1, g.2, by omega, e, by simpa using h⟩
    · simp at h
  · simp at h
/-- what a literal of a gate means -/
theorem and_mem {c d x : Nat} (hm : x = c ∨ x = d) (vs : List Bool) : (lit aB vs c && lit aB vs d) = ((lit aB vs c && lit aB vs d) && lit aB vs x) := by
  rcases hm with rfl | rfl
  · cases lit aB vs x <;> simp
  · cases lit aB vs x <;> simp
theorem dn_eq (h : Dn n S gs l F) (e : ∀ β, β.length + 1 = n → F β = G β) : Dn n S gs l G := ⟨h.lt, fun β hβ => (h.val β hβ).trans (e β hβ), h.sup⟩
theorem look1_ok (hn : 0 < n) (ok : Ok n gs) {r : Nat} (ha : Dn n S gs a F) (hb : Dn n S gs b G) (h : look1 n gs a b = some r) : Dn n S gs r (fun β => F β && G β) := by
  unfold look1 at h
  split at h
  · rename_i hc
    cases h
    obtain ⟨i, c, d, e, hg, hm⟩ := mem_pairOf hc.2 hc.1
    refine dn_eq ha fun β hβ => ?_
    have e1 := L_at aB (v0 β) gs (by rw [v0_len, hβ]; exact ok.wf) i c d hg
    rw [v0_len, hβ, ← e, ha.val β hβ] at e1
    have e2 := and_mem hm (ev aB (v0 β) gs)
    have e3 : lit aB (ev aB (v0 β) gs) b = G β := hb.val β hβ
    have e4 : (lit aB (ev aB (v0 β) gs) c && lit aB (ev aB (v0 β) gs) d) = F β := e1.symm
    rw [e3, e4] at e2
    exact e2
  · split at h
    · rename_i hc
      cases h
      obtain ⟨i, c, d, e, hg, hm⟩ := mem_pairOf hc.2 hc.1
      refine dn_eq (dn_false hn gs) fun β hβ => ?_
      have e1 := L_at aB (v0 β) gs (by rw [v0_len, hβ]; exact ok.wf) i c d hg
      rw [v0_len, hβ, ← e, ha.val β hβ] at e1
      have e2 := and_mem hm (ev aB (v0 β) gs)
      have e3 : lit aB (ev aB (v0 β) gs) (opp b) = !G β := hb.opp.val β hβ
      have e4 : (lit aB (ev aB (v0 β) gs) c && lit aB (ev aB (v0 β) gs) d) = F β := e1.symm
      rw [e3, e4] at e2
      show false = (F β && G β)
      revert e2
      generalize F β = x
      generalize G β = y
      revert x y
      decide
    · cases h
/-- a step: what grows, what it gives -/
structure Stp (n : Nat) (S : Nat → Prop) (gs : Gs) (m : Nat) (p : Gs × Nat) (F : List Bool → Bool) : Prop where
  ex : ∃ t, p.1 = gs ++ t ∧ t.length ≤ m
  ok : Ok n p.1
  dn : Dn n S p.1 p.2 F
theorem Stp.of (ok : Ok n gs) (h : Dn n S gs l F) (m : Nat) : Stp n S gs m (gs, l) F := ⟨⟨[], by simp⟩, ok, h⟩
theorem bothS_ok (hn : 0 < n) (ok : Ok n gs) (hab : a ≤ b) (ha : Dn n S gs a F) (hb : Dn n S gs b G) : Stp n S gs 1 (bothS n gs a b) (fun β => F β && G β) := by
  unfold bothS
  split
  · rename_i h
    refine Stp.of ok (dn_eq (dn_false hn gs) fun β hβ => ?_) 1
    rcases h with h | h
    · have e := ha.val β hβ
      rw [h, (dn_false (S := S) hn gs).val β hβ] at e
      rw [← e]; rfl
    · have e := hb.val β hβ
      rw [h, ha.opp.val β hβ] at e
      rw [← e]
      cases F β <;> rfl
  · rename_i h0
    split
    · rename_i h
      refine Stp.of ok (dn_eq hb fun β hβ => ?_) 1
      rcases h with h | h
      · have e := ha.val β hβ
        rw [h, (dn_true (S := S) hn gs).val β hβ] at e
        rw [← e]; rfl
      · have e := ha.val β hβ
        rw [h, hb.val β hβ] at e
        rw [← e]
        cases G β <;> rfl
    · rename_i h1
      split
      · rename_i i hi
        have hq := List.findIdx?_eq_some_iff_getElem.mp hi
        obtain ⟨hl, he, _⟩ := hq
        have he' : gs[i] = (a, b) := by simpa using he
        exact Stp.of ok (dn_at ok (by rw [List.getElem?_eq_getElem hl, he']) ha hb) 1
      · rename_i hi
        have hnot : (a, b) ∉ gs := fun hm => by
          have := List.findIdx?_eq_none_iff.mp hi (a, b) hm
          simp at this
        split
        · rename_i r hr
          unfold looked at hr
          split at hr
          · rename_i r' hr'
            cases hr
            exact Stp.of ok (look1_ok hn ok ha hb hr') 1
          · exact Stp.of ok ((look1_ok hn ok hb ha hr).imp fun β => Bool.and_comm _ _) 1
        · have h0' : a ≠ 0 ∧ b ≠ opp a := ⟨fun z => h0 (.inl z), fun z => h0 (.inr z)⟩
          have h1' : a ≠ 1 ∧ a ≠ b := ⟨fun z => h1 (.inl z), fun z => h1 (.inr z)⟩
          have hd : a / 2 ≠ b / 2 := fun z => by
            have : b = opp a := by unfold opp; split <;> omega
            exact h0'.2 this
          have ok2 := ok.add ha.lt hb.lt (by omega) (by omega) hd hnot
          exact ⟨⟨[(a, b)], rfl, Nat.le_refl _⟩, ok2, dn_at ok2 (i := gs.length) (by simp) (ha.ext _) (hb.ext _)⟩
theorem both_ok (hn : 0 < n) (ok : Ok n gs) (ha : Dn n S gs a F) (hb : Dn n S gs b G) : Stp n S gs 1 (both n gs a b) (fun β => F β && G β) := by
  unfold both
  by_cases h : a ≤ b
  · rw [Nat.min_eq_left h, Nat.max_eq_right h]
    exact bothS_ok hn ok h ha hb
  · rw [Nat.min_eq_right (by omega), Nat.max_eq_left (by omega)]
    have q := bothS_ok hn ok (by omega : b ≤ a) hb ha
    exact ⟨q.ex, q.ok, q.dn.imp fun β => Bool.and_comm _ _⟩
end K42

/-! M3: the words of VM*.lean over ints, tuples of ints; loops. -/
namespace VM
open PySem L2
open Classical
section
variable {cs : Cs} {sl : Sl}
theorem atI_nat {α : Type} (xs : List α) (i : Int) (h0 : 0 ≤ i) (h1 : i < xs.length) : atI xs i = xs[i.toNat]? := by
  unfold atI ixN
  rw [if_pos h0, if_pos h1]; rfl
@[simp] theorem bData_int (i : Int) : bData cs (.d (.int i)) = some (.int i) := rfl
theorem shaped_int (i : Int) : SeqAt.shaped (.int i) = true := by
  unfold SeqAt.shaped
  rw [PyData.canLay0.eq_def, PyData.depth.eq_def]
  rfl
@[simp] theorem g_eqi (i j : Int) : gEq (.d (.int i)) (.d (.int j)) cs = .ok (.d (.bool (decide (i = j)))) cs := by
  unfold gEq
  simp only [bData_d]
  rw [if_pos ⟨shaped_int i, shaped_int j⟩, PyData.eqv.eq_def]
  simp only
  congr 3
@[simp] theorem g_nei (i j : Int) : gNe (.d (.int i)) (.d (.int j)) cs = .ok (.d (.bool (!decide (i = j)))) cs := by
  unfold gNe
  simp only [bData_d]
  rw [if_pos ⟨shaped_int i, shaped_int j⟩, PyData.eqv.eq_def]
  simp only
  congr 4
theorem all_flat (ys : List Int) : (ys.map PyData.int).all flatD = true := by
  rw [List.all_eq_true]
  intro x hx
  obtain ⟨i, _, rfl⟩ := List.mem_map.mp hx
  rfl
theorem inV_ints (x : Int) (ys : List Int) : inV (.int x) ((ys.map PyData.int).map dV) = decide (x ∈ ys) := by
  unfold inV
  rw [List.map_map, List.any_map]
  apply Bool.eq_iff_iff.mpr
  rw [List.any_eq_true, decide_eq_true_iff]
  constructor
  · rintro ⟨y, hy, e⟩
    have e : (y == x) = true := e
    rw [← eq_of_beq e]; exact hy
  · intro h
    exact ⟨x, h, by show (x == x) = true; simp⟩
theorem g_in_ints (neg : Bool) (x : Int) (ys : List Int) : gIn neg (.d (.int x)) (.d (.tuple (ys.map PyData.int))) cs = .ok (.d (.bool (if neg then !decide (x ∈ ys) else decide (x ∈ ys)))) cs := by
  unfold gIn
  simp only [bSeq_t, Option.bind_some, allD_mapd]
  rw [if_pos ⟨rfl, all_flat ys⟩]
  show ER.ok (B.d (.bool (if neg then !inV (.int x) ((ys.map PyData.int).map dV) else inV (.int x) ((ys.map PyData.int).map dV)))) cs = _
  rw [inV_ints]
theorem g_ix_t (xs : List D) (i : Int) (d : D) (h : atI xs i = some d) : gIx (.d (.tuple xs)) (.d (.int i)) cs = .ok (.d d) cs := by
  unfold gIx
  simp only [bSeq_t]
  have : atI (xs.map B.d) i = some (.d d) := by
    unfold atI at h ⊢
    rw [List.length_map]
    cases q : ixN xs.length i with
    | none => rw [q] at h; cases h
    | some j =>
      rw [q] at h
      have h : xs[j]? = some d := h
      show (xs.map B.d)[j]? = _
      rw [List.getElem?_map, h]; rfl
  rw [this]
theorem g_ix_l (xs : List D) (i : Int) (d : D) (h : atI xs i = some d) : gIx (.d (.list xs)) (.d (.int i)) cs = .ok (.d d) cs := by
  unfold gIx
  simp only [bSeq_l]
  have : atI (xs.map B.d) i = some (.d d) := by
    unfold atI at h ⊢
    rw [List.length_map]
    cases q : ixN xs.length i with
    | none => rw [q] at h; cases h
    | some j =>
      rw [q] at h
      have h : xs[j]? = some d := h
      show (xs.map B.d)[j]? = _
      rw [List.getElem?_map, h]; rfl
  rw [this]
theorem g_ix_r (k : Nat) (xs : List B) (i : Int) (b : B) (hk : cs[k]? = some (.lst xs)) (h : atI xs i = some b) : gIx (.r k) (.d (.int i)) cs = .ok b cs := by
  unfold gIx
  simp only [bSeq_r, bList_r hk, h]
/-! loops -/
theorem loop_inv {okc : Cs → Prop} {tf : TgF} {body : FnS} (I : Nat → Sl → Cs → Prop) : ∀ (items : List B) (j : Nat) (sl : Sl) (cs : Cs), I j sl cs → (∀ sl cs, I (j + items.length) sl cs → okc cs) →
    (∀ i b sl cs, items[i]? = some b → I (j + i) sl cs → okc cs ∧ ∃ sl1, tf b sl = some sl1 ∧ ∃ sl2 cs2, (body sl1 cs = .nx sl2 cs2 ∨ body sl1 cs = .ct sl2 cs2) ∧ I (j + i + 1) sl2 cs2) →
    ∃ sl' cs', sLoop okc tf body items sl cs = .nx sl' cs' ∧ I (j + items.length) sl' cs'
  | [], j, sl, cs, h0, he, _ => ⟨sl, cs, by unfold sLoop; rw [if_pos (he sl cs h0)], h0⟩
  | b :: bs, j, sl, cs, h0, he, hs => by
    obtain ⟨ok, sl1, e1, sl2, cs2, e2, h2⟩ := hs 0 b sl cs rfl h0
    have ih := loop_inv (okc := okc) (tf := tf) (body := body) I bs (j + 1) sl2 cs2 h2 (fun sl cs h => he sl cs (by rw [List.length_cons]; rw [show j + (bs.length + 1) = j + 1 + bs.length by omega]; exact h)) fun i b' sl cs hb h => by
      have := hs (i + 1) b' sl cs (by simpa using hb) (by rw [show j + (i + 1) = j + 1 + i by omega]; exact h)
      rw [show j + (i + 1) = j + 1 + i by omega] at this
      exact this
    obtain ⟨sl', cs', e3, h3⟩ := ih
    refine ⟨sl', cs', ?_, by rw [List.length_cons]; rw [show j + (bs.length + 1) = j + 1 + bs.length by omega]; exact h3⟩
    unfold sLoop
    rw [if_pos ok, e1]
    rcases e2 with e2 | e2 <;> simp only [e2] <;> exact e3
/-- .. that may be left -/
theorem loop_or {okc : Cs → Prop} {tf : TgF} {body : FnS} (I : Nat → Sl → Cs → Prop) (R : SR → Prop) : ∀ (items : List B) (j : Nat) (sl : Sl) (cs : Cs), I j sl cs → (∀ sl cs, I (j + items.length) sl cs → okc cs) →
    (∀ i b sl cs, items[i]? = some b → I (j + i) sl cs → okc cs ∧ ∃ sl1, tf b sl = some sl1 ∧ ((∃ sl2 cs2, (body sl1 cs = .nx sl2 cs2 ∨ body sl1 cs = .ct sl2 cs2) ∧ I (j + i + 1) sl2 cs2) ∨ (∃ x cs2, body sl1 cs = .rt x cs2 ∧ R (.rt x cs2)) ∨ ∃ sl2 cs2, body sl1 cs = .bk sl2 cs2 ∧ R (.nx sl2 cs2))) →
    (∃ sl' cs', sLoop okc tf body items sl cs = .nx sl' cs' ∧ I (j + items.length) sl' cs') ∨ R (sLoop okc tf body items sl cs)
  | [], j, sl, cs, h0, he, _ => .inl ⟨sl, cs, by unfold sLoop; rw [if_pos (he sl cs h0)], h0⟩
  | b :: bs, j, sl, cs, h0, he, hs => by
    obtain ⟨ok, sl1, e1, h⟩ := hs 0 b sl cs rfl h0
    rcases h with ⟨sl2, cs2, e2, h2⟩ | ⟨x, cs2, e2, h2⟩ | ⟨sl2, cs2, e2, h2⟩
    · have ih := loop_or (okc := okc) (tf := tf) (body := body) I R bs (j + 1) sl2 cs2 h2 (fun sl cs h => he sl cs (by rw [List.length_cons]; rw [show j + (bs.length + 1) = j + 1 + bs.length by omega]; exact h)) fun i b' sl cs hb h => by
        have := hs (i + 1) b' sl cs (by simpa using hb) (by rw [show j + (i + 1) = j + 1 + i by omega]; exact h)
        rw [show j + (i + 1) = j + 1 + i by omega] at this
        exact this
      have e4 : sLoop okc tf body (b :: bs) sl cs = sLoop okc tf body bs sl2 cs2 := by
        conv => lhs; unfold sLoop
        rw [if_pos ok, e1]
        rcases e2 with e2 | e2 <;> simp only [e2]
      rw [e4, List.length_cons, show j + (bs.length + 1) = j + 1 + bs.length by omega]
      exact ih
    · refine .inr ?_
      have e4 : sLoop okc tf body (b :: bs) sl cs = .rt x cs2 := by
        unfold sLoop
        rw [if_pos ok, e1]
        simp only [e2]
      rw [e4]; exact h2
    · refine .inr ?_
      have e4 : sLoop okc tf body (b :: bs) sl cs = .nx sl2 cs2 := by
        unfold sLoop
        rw [if_pos ok, e1]
        simp only [e2]
      rw [e4]; exact h2
/-- a comprehension whose turns change nothing -/
theorem lc_map {α : Type} {okc : Cs → Prop} {tf : TgF} {te : Fn B} {sl : Sl} {cs : Cs} (hok : okc cs) (enc : α → B) (h : α → B) : ∀ items : List α, (∀ a ∈ items, ∃ sl1, tf (enc a) sl = some sl1 ∧ te sl1 cs = .ok (h a) cs) → lcLoop okc tf eYes te sl (items.map enc) cs = .ok (items.map h) cs
  | [], _ => by unfold lcLoop; rw [List.map_nil]; simp only; rw [if_pos hok]; rfl
  | a :: r, hs => by
    obtain ⟨sl1, e1, e2⟩ := hs a List.mem_cons_self
    rw [List.map_cons]
    unfold lcLoop
    rw [if_pos hok, e1]
    simp only [ap_eYes, noEx_ok, ER.bind_ok, if_pos, e2]
    rw [lc_map hok enc h r fun b hb => hs b (List.mem_cons_of_mem _ hb)]
    rfl
theorem lc_filter {α : Type} {okc : Cs → Prop} {tf : TgF} {tt : Fn Bool} {te : Fn B} {sl : Sl} {cs : Cs} (hok : okc cs) (enc : α → B) (h : α → B) (p : α → Bool) : ∀ items : List α, (∀ a ∈ items, ∃ sl1, tf (enc a) sl = some sl1 ∧ tt sl1 cs = .ok (p a) cs ∧ (p a = true → te sl1 cs = .ok (h a) cs)) → lcLoop okc tf tt te sl (items.map enc) cs = .ok ((items.filter p).map h) cs
  | [], _ => by unfold lcLoop; rw [List.map_nil]; simp only; rw [if_pos hok]; rfl
  | a :: r, hs => by
    obtain ⟨sl1, e1, e2, e3⟩ := hs a List.mem_cons_self
    have ih := lc_filter hok enc h p r fun b hb => hs b (List.mem_cons_of_mem _ hb)
    rw [List.map_cons]
    unfold lcLoop
    rw [if_pos hok, e1]
    simp only [noEx_ok, ER.bind_ok, e2]
    cases hp : p a with
    | true =>
      simp only [if_pos, e3 hp, noEx_ok, ER.bind_ok, ih, List.filter_cons, hp, List.map_cons]
    | false =>
      rw [if_neg Bool.false_ne_true, ih, List.filter_cons, hp]
      rfl
theorem ap_lComp {fi : Fn (List B × (Cs → Prop))} {tf : TgF} {tt : Fn Bool} {te : Fn B} {vs : List Nat} {sl : Sl} {cs cs1 : Cs} {items : List B} {okc : Cs → Prop} (h : fi sl cs = .ok (items, okc) cs1) (hl : items.length < sizeLine) :
    lComp fi tf tt te vs sl cs = lcLoop okc tf tt te (wipeS sl vs) items cs1 := by
  unfold lComp
  rw [h, ER.bind_ok]
  simp only
  rw [if_pos hl]
@[simp] theorem i_seq_t (f : Fn B) (xs : List D) (cs1 : Cs) (h : f sl cs = .ok (.d (.tuple xs)) cs1) : iSeq f sl cs = .ok (xs.map B.d, fun _ => True) cs1 := by unfold iSeq; rw [h]; rfl
@[simp] theorem i_seq_l (f : Fn B) (xs : List D) (cs1 : Cs) (h : f sl cs = .ok (.d (.list xs)) cs1) : iSeq f sl cs = .ok (xs.map B.d, fun _ => True) cs1 := by unfold iSeq; rw [h]; rfl
end
end VM
namespace K42
open PySem VM L2
open Classical
abbrev dW (w : List Nat) : D := .tuple (w.map dN)
abbrev dG (g : Nat × Nat) : D := .tuple [dN g.1, dN g.2]
abbrev dGs (gs : Gs) : D := .tuple (gs.map dG)
abbrev dNet (f : Nat) (gs : Gs) : D := .tuple [dN f, dGs gs]
def kn (n : Nat) (gs : Gs) : List (List Key × B) := gs.zipIdx.map fun p => ([.inl (p.1.1 : Int), .inl (p.1.2 : Int)], .d (dN (2 * (n + p.2))))
/-- the cells of a Build, the first one at k -/
def BS (k f : Nat) (gs : Gs) : Cs := [.ins "Build" [("free", .d (dN f)), ("gates", .r (k + 1)), ("known", .r (k + 2))], .lst (gs.map fun g => .d (dG g)), .dT (kn (f + 1) gs)]
theorem dW_ints (w : List Nat) : w.map dN = (w.map fun n : Nat => (n : Int)).map PyData.int := by rw [List.map_map]; rfl
theorem in_word (neg : Bool) (x : Nat) (w : List Nat) (cs : Cs) : gIn neg (.d (dN x)) (.d (dW w)) cs = .ok (.d (.bool (if neg then !decide (x ∈ w) else decide (x ∈ w)))) cs := by
  have e : decide ((x : Int) ∈ w.map fun n : Nat => (n : Int)) = decide (x ∈ w) := by
    apply Bool.eq_iff_iff.mpr
    simp only [decide_eq_true_iff, List.mem_map]
    constructor
    · rintro ⟨a, h, e⟩
      rw [show x = a by omega]; exact h
    · exact fun h => ⟨x, h, rfl⟩
  show gIn neg (.d (.int (x : Int))) (.d (.tuple (w.map dN))) cs = _
  rw [dW_ints, g_in_ints, e]
end K42

/-! M4: Build's methods. -/
namespace K42
open PySem VM L2
open Classical
def ST (c0 : Cs) (f : Nat) (gs : Gs) (t : Cs) : Cs := c0 ++ (BS c0.length f gs ++ t)
section
variable {c0 t : Cs} {f : Nat} {gs gs' : Gs}
theorem bs0 : (ST c0 f gs t)[c0.length]? = some (.ins "Build" [("free", .d (dN f)), ("gates", .r (c0.length + 1)), ("known", .r (c0.length + 2))]) := by
  unfold ST
  rw [List.getElem?_append_right (Nat.le_refl _), Nat.sub_self]; rfl
theorem bs1 : (ST c0 f gs t)[c0.length + 1]? = some (.lst (gs.map fun g => .d (dG g))) := by
  unfold ST
  rw [List.getElem?_append_right (by omega), show c0.length + 1 - c0.length = 1 by omega]; rfl
theorem bs2 : (ST c0 f gs t)[c0.length + 2]? = some (.dT (kn (f + 1) gs)) := by
  unfold ST
  rw [List.getElem?_append_right (by omega), show c0.length + 2 - c0.length = 2 by omega]; rfl
theorem bs3 (i : Nat) : (ST c0 f gs t)[c0.length + 3 + i]? = t[i]? := by
  unfold ST
  rw [List.getElem?_append_right (by omega), show c0.length + 3 + i - c0.length = 3 + i by omega, List.getElem?_append_right (by simp [BS]), show 3 + i - (BS c0.length f gs).length = i by simp [BS]]
theorem bsl : (ST c0 f gs t).length = c0.length + 3 + t.length := by simp [ST, BS]; omega
theorem st_snoc (x : Cell) : ST c0 f gs t ++ [x] = ST c0 f gs (t ++ [x]) := by simp [ST]
theorem getB_map (n : Nat) (x y : Nat) : ∀ (gs : Gs) (j : Nat), getB (((gs.zipIdx j).map fun p => (([.inl (p.1.1 : Int), .inl (p.1.2 : Int)], .d (dN (2 * (n + p.2)))) : List Key × B))) [.inl (x : Int), .inl (y : Int)] = (gs.findIdx? (· == (x, y))).map fun i => .d (dN (2 * (n + (i + j))))
  | [], j => rfl
  | (a, b) :: gs, j => by
    rw [List.zipIdx_cons, List.map_cons, List.findIdx?_cons]
    by_cases h : (a, b) = (x, y)
    · obtain ⟨rfl, rfl⟩ := Prod.mk.inj h
      simp [getB]
    · have hk : ¬ (([.inl (a : Int), .inl (b : Int)] : List Key) = [.inl (x : Int), .inl (y : Int)]) := by
        intro z
        simp at z
        exact h (by rw [show a = x by omega, show b = y by omega])
      have ih := getB_map n x y gs (j + 1)
      have e : ((a, b) == (x, y)) = false := by simpa using h
      rw [e]
      unfold getB at ih ⊢
      rw [List.find?_cons]
      rw [show decide ((([.inl (a : Int), .inl (b : Int)], .d (dN (2 * (n + j)))) : List Key × B).1 = [.inl (x : Int), .inl (y : Int)]) = false from decide_eq_false hk]
      simp only [Bool.false_eq_true, if_false]
      rw [ih]
      cases gs.findIdx? (· == (x, y)) with
      | none => rfl
      | some i => simp; omega
theorem getB_kn (n x y : Nat) (gs : Gs) : getB (kn n gs) [.inl (x : Int), .inl (y : Int)] = (gs.findIdx? (· == (x, y))).map fun i => .d (dN (2 * (n + i))) := getB_map n x y gs 0
theorem any_getB {κ : Type} [DecidableEq κ] (kvs : List (κ × B)) (k : κ) : (kvs.any fun kv => decide (kv.1 = k)) = (getB kvs k).isSome := by
  unfold getB
  induction kvs with
  | nil => rfl
  | cons p r ih =>
    rw [List.any_cons, List.find?_cons]
    by_cases h : p.1 = k
    · simp [h]
    · simp only [h, decide_false, Bool.false_or, ih]
theorem putB_kn (n x y : Nat) (gs : Gs) (h : gs.findIdx? (· == (x, y)) = none) : putB (kn n gs) [.inl (x : Int), .inl (y : Int)] (.d (dN (2 * (n + gs.length)))) = kn n (gs ++ [(x, y)]) := by
  unfold putB
  rw [any_getB, getB_kn, h]
  simp only [Option.map_none, Option.isSome_none, Bool.false_eq_true, if_false]
  unfold kn
  rw [List.zipIdx_append, List.map_append]
  simp
theorem kn_len (n : Nat) (gs : Gs) : (kn n gs).length = gs.length := by simp [kn]
theorem kn_low (n : Nat) (gs : Gs) (m : Nat) : (Cell.dT (kn n gs)).low m := by
  intro p hp
  obtain ⟨q, _, rfl⟩ := List.mem_map.mp hp
  trivial
/-- a method's own cells go -/
theorem gcR_b (x : D) (u : Cs) : gcR (ST c0 f gs t) (.ok (.d x) (ST c0 f gs' (t ++ u))) = .ok (.d x) (ST c0 f gs' t) := by
  have hl : (ST c0 f gs t).length = (ST c0 f gs' t).length := by rw [bsl, bsl]
  have hu : ST c0 f gs' (t ++ u) = ST c0 f gs' t ++ u := by simp [ST]
  have h : GcOk (ST c0 f gs t) (ST c0 f gs' (t ++ u)) := by
    rw [hu]
    refine ⟨by rw [List.length_append]; omega, fun k c' hk e => ?_⟩
    rw [List.getElem?_append_left (by rw [← hl]; exact hk)] at e
    by_cases h0 : k < c0.length
    · unfold ST at e ⊢
      rw [List.getElem?_append_left h0] at e
      exact .inl (by rw [List.getElem?_append_left h0]; exact e)
    · by_cases h3 : c0.length + 3 ≤ k
      · obtain ⟨i, rfl⟩ : ∃ i, k = c0.length + 3 + i := ⟨k - (c0.length + 3), by omega⟩
        rw [bs3] at e
        exact .inl (by rw [bs3]; exact e)
      · have : k = c0.length ∨ k = c0.length + 1 ∨ k = c0.length + 2 := by omega
        rcases this with rfl | rfl | rfl
        · rw [bs0] at e; exact .inl (by rw [bs0]; exact e)
        · rw [bs1] at e
          cases e
          refine .inr fun b hb => ?_
          obtain ⟨g, _, rfl⟩ := List.mem_map.mp hb
          trivial
        · rw [bs2] at e
          cases e
          exact .inr (kn_low _ _ _)
  unfold gcR
  simp only
  rw [if_pos (show GcOk (ST c0 f gs t) (ST c0 f gs' (t ++ u)) ∧ (B.d x).low _ from ⟨h, trivial⟩), hl, hu, List.take_left]
theorem gcR_b0 (x : D) : gcR (ST c0 f gs t) (.ok (.d x) (ST c0 f gs' t)) = .ok (.d x) (ST c0 f gs' t) := by
  have := gcR_b (c0 := c0) (t := t) (f := f) (gs := gs) (gs' := gs') x []
  rwa [List.append_nil] at this
end
@[simp] theorem lk_free {a b : B} {x : D} : List.lookup ("free" : Str) [(("free" : Str), a), ("gates", b), ("known", c)] = some a := rfl
theorem str_ne1 : (("gates" : Str) == ("free" : Str)) = false := by decide
theorem str_ne2 : (("known" : Str) == ("free" : Str)) = false := by decide
theorem str_ne3 : (("known" : Str) == ("gates" : Str)) = false := by decide
@[simp] theorem lk_gates {a b c : B} : List.lookup ("gates" : Str) [(("free" : Str), a), ("gates", b), ("known", c)] = some b := by rw [List.lookup_cons, str_ne1]; rfl
@[simp] theorem lk_known {a b c : B} : List.lookup ("known" : Str) [(("free" : Str), a), ("gates", b), ("known", c)] = some c := by rw [List.lookup_cons, str_ne2, List.lookup_cons, str_ne3]; rfl
theorem lk_no {a b c : B} {m : Str} (h1 : (m == ("free" : Str)) = false) (h2 : (m == ("gates" : Str)) = false) (h3 : (m == ("known" : Str)) = false) : List.lookup m [(("free" : Str), a), ("gates", b), ("known", c)] = none := by
  rw [List.lookup_cons, h1, List.lookup_cons, h2, List.lookup_cons, h3]; rfl
@[simp] theorem lk_pair_of {a b c : B} : List.lookup ("pair_of" : Str) [(("free" : Str), a), ("gates", b), ("known", c)] = none := lk_no (by decide) (by decide) (by decide)
@[simp] theorem lk_looked {a b c : B} : List.lookup ("looked" : Str) [(("free" : Str), a), ("gates", b), ("known", c)] = none := lk_no (by decide) (by decide) (by decide)
@[simp] theorem lk_both {a b c : B} : List.lookup ("both" : Str) [(("free" : Str), a), ("gates", b), ("known", c)] = none := lk_no (by decide) (by decide) (by decide)
@[simp] theorem lk_either {a b c : B} : List.lookup ("either" : Str) [(("free" : Str), a), ("gates", b), ("known", c)] = none := lk_no (by decide) (by decide) (by decide)
@[simp] theorem lk_differ {a b c : B} : List.lookup ("differ" : Str) [(("free" : Str), a), ("gates", b), ("known", c)] = none := lk_no (by decide) (by decide) (by decide)
@[simp] theorem lk_choose {a b c : B} : List.lookup ("choose" : Str) [(("free" : Str), a), ("gates", b), ("known", c)] = none := lk_no (by decide) (by decide) (by decide)
@[simp] theorem lk_all_of {a b c : B} : List.lookup ("all_of" : Str) [(("free" : Str), a), ("gates", b), ("known", c)] = none := lk_no (by decide) (by decide) (by decide)
@[simp] theorem lk_add {a b c : B} : List.lookup ("add" : Str) [(("free" : Str), a), ("gates", b), ("known", c)] = none := lk_no (by decide) (by decide) (by decide)
@[simp] theorem lk_times {a b c : B} : List.lookup ("times" : Str) [(("free" : Str), a), ("gates", b), ("known", c)] = none := lk_no (by decide) (by decide) (by decide)
@[simp] theorem lk_same {a b c : B} : List.lookup ("same" : Str) [(("free" : Str), a), ("gates", b), ("known", c)] = none := lk_no (by decide) (by decide) (by decide)
@[simp] theorem lk_less {a b c : B} : List.lookup ("less" : Str) [(("free" : Str), a), ("gates", b), ("known", c)] = none := lk_no (by decide) (by decide) (by decide)
@[simp] theorem lk_combine {a b c : B} : List.lookup ("combine" : Str) [(("free" : Str), a), ("gates", b), ("known", c)] = none := lk_no (by decide) (by decide) (by decide)
@[simp] theorem lk_pick {a b c : B} : List.lookup ("pick" : Str) [(("free" : Str), a), ("gates", b), ("known", c)] = none := lk_no (by decide) (by decide) (by decide)
@[simp] theorem lk_net {a b c : B} : List.lookup ("net" : Str) [(("free" : Str), a), ("gates", b), ("known", c)] = none := lk_no (by decide) (by decide) (by decide)
section
variable {c0 t : Cs} {f : Nat} {gs : Gs}
theorem F_pair_of (l : Nat) (hl : l < 2 * (f + 1 + gs.length)) : F_Build_pair_of [.r c0.length, .d (dN l)] (ST c0 f gs t) = .ok (.d (dW (pairOf (f + 1) gs l))) (ST c0 f gs t) := by
  have e1 : ∀ cs : Cs, gDiv (.d (dN l)) (.d (.int 2)) cs = .ok (.d (.int ((l : Int) / 2))) cs := fun cs => g_div _ _ ⟨by decide, by decide⟩
  by_cases h : f + 1 ≤ l / 2
  · have hi : l / 2 - (f + 1) < gs.length := by omega
    have e2 : (l : Int) / 2 - (f : Int) - 1 = ((l / 2 - (f + 1) : Nat) : Int) := by omega
    have e3 : pairOf (f + 1) gs l = [gs[l / 2 - (f + 1)].1, gs[l / 2 - (f + 1)].2] := by
      unfold pairOf
      rw [if_pos h, List.getElem?_eq_getElem hi]
    have e4 : gIx (.r (c0.length + 1)) (.d (.int ((l / 2 - (f + 1) : Nat) : Int))) (ST c0 f gs t) = .ok (.d (dG gs[l / 2 - (f + 1)])) (ST c0 f gs t) := by
      refine g_ix_r _ _ _ _ bs1 ?_
      rw [atI_nat _ _ (by omega) (by rw [List.length_map]; omega), Int.toNat_natCast, List.getElem?_map, List.getElem?_eq_getElem hi]
      rfl
    rw [e3]
    simp only [F_Build_pair_of, ap_mDef, ap_sSeq, ap_sSet, ap_eBin, ap_eVar, ap_eD, ap_eFld, ap_sRet, ap_eIf, ap_eT, List.map_cons, List.map_nil, List.length_cons, List.length_nil, List.replicate, List.cons_append, List.nil_append, List.getElem?_cons_succ, List.getElem?_cons_zero,
      ER.bind_ok, e1, bs0, lk_free, lk_gates, g_sub, sE_ok, List.set_cons_succ, List.set_cons_zero, g_ge, isB_b, if_true, e2, e4, retOf_rt]
    rw [if_pos (decide_eq_true (by omega))]
    simp only [sE_ok, retOf_rt, gcR_same, e4]
    rfl
  · have e3 : pairOf (f + 1) gs l = [] := by
      unfold pairOf
      rw [if_neg h]
    rw [e3]
    simp only [F_Build_pair_of, ap_mDef, ap_sSeq, ap_sSet, ap_eBin, ap_eVar, ap_eD, ap_eFld, ap_sRet, ap_eIf, ap_eT, List.map_cons, List.map_nil, List.length_cons, List.length_nil, List.replicate, List.cons_append, List.nil_append, List.getElem?_cons_succ, List.getElem?_cons_zero,
      ER.bind_ok, e1, bs0, lk_free, lk_gates, g_sub, sE_ok, List.set_cons_succ, List.set_cons_zero, g_ge, isB_b, if_true, retOf_rt]
    rw [if_neg (by simp; omega)]
    simp [gcR_same]
theorem F_looked (a b : Nat) (ha : a < 2 * (f + 1 + gs.length)) (hb : b < 2 * (f + 1 + gs.length)) :
    F_Build_looked [.r c0.length, .d (dN a), .d (dN b)] (ST c0 f gs t) = .ok (.d (match looked (f + 1) gs a b with | some r => dN r | none => .none)) (ST c0 f gs t) := by
  have e1 : ∀ (l : Nat) (cs : Cs), gMod (.d (dN l)) (.d (.int 2)) cs = .ok (.d (.int ((l : Int) % 2))) cs := fun l cs => g_mod _ _ (by decide)
  have e2 : ∀ (x : Nat) (w : List Nat) (cs : Cs), gInU false (.d (dN x)) (.d (dW w)) cs = .ok (.d (.bool (decide (x ∈ w)))) cs := fun x w cs => by
    rw [ap_gInU, in_word]; rfl
  have hz : ((2 : Nat) ≤ sizeLine) := by decide
  have turn : ∀ (one other : Nat) (x3 x4 : Option B), one < 2 * (f + 1 + gs.length) → ∀ r, look1 (f + 1) gs one other = r → 
      (sSeq (sIf (eAnd (eT (eBin gEq (eBin gMod (eVar 3) (eD (.int 2))) (eD (.int 0)))) (eT (eBin (gInU false) (eVar 4) (eMeth "Build" "pair_of" 2 F_Build_pair_of (eVar 0) (aCons (eVar 3) aNil)))))
  (sRet (eVar 3))
  sNext)
  (sIf (eAnd (eT (eBin gEq (eBin gMod (eVar 3) (eD (.int 2))) (eD (.int 0)))) (eT (eBin (gInU false) (eFn 1 F_opposite (aCons (eVar 4) aNil)) (eMeth "Build" "pair_of" 2 F_Build_pair_of (eVar 0) (aCons (eVar 3) aNil)))))
  (sRet (eB b_FALSE))
  sNext)) [some (.r c0.length), x3, x4, some (.d (dN one)), some (.d (dN other))] (ST c0 f gs t) = (match r with
      | some r => .rt (.d (dN r)) (ST c0 f gs t)
      | none => .nx [some (.r c0.length), x3, x4, some (.d (dN one)), some (.d (dN other))] (ST c0 f gs t)) := by
    intro one other x3 x4 h1 r hr
    have e3 : decide ((one : Int) % 2 = 0) = decide (one % 2 = 0) := by
      apply Bool.eq_iff_iff.mpr
      simp only [decide_eq_true_iff]
      omega
    subst hr
    unfold look1
    have hm2 : ∀ p : Prop, one % 2 = 0 → ((one % 2 = 0 ∧ p) ↔ p) := fun p h => ⟨fun q => q.2, fun q => ⟨h, q⟩⟩
    by_cases hm : one % 2 = 0
    · by_cases hi : other ∈ pairOf (f + 1) gs one
      · simp only [ap_mDef, ap_sNext, ap_sSeq, ap_sSet, ap_sExpr, ap_sRet, ap_sIf, ap_sPar, ap_sAsg, ap_sFldSet, ap_sPut, ap_sFor, ap_sBreak, ap_sNever, ap_sPass, ap_sCont, ap_tgName, ap_tgNil, ap_tgCons, ap_tgTupT, ap_tgTupL, ap_eVar, ap_eD, ap_eB, ap_eBin, ap_eUn, ap_eT, ap_eTru, ap_eNot, ap_eAnd, ap_eOr, ap_eNotV, ap_eAndV, ap_eOrV, ap_eIf, ap_eChain, ap_eFn, ap_eCall, ap_lCall, ap_aNil, ap_aCons, ap_aStar, ap_eTup, ap_lTake, ap_eFrz, ap_eCell, ap_lBin, ap_eBM, ap_eFld, ap_eMeth, ap_eMake, ap_eDNew, ap_eCutT, ap_oNone, ap_oSome, ap_eYes, g_add, g_sub, g_lt, g_le, g_gt, g_ge, isB_b, onB_b, tru_b, tru_i, g_int, g_intb, g_max, g_min, g_eqi, g_nei, retOf_nx, retOf_rt, ER.bind_ok, sE_ok, noEx_ok, List.map_cons, List.map_nil, List.length_cons, List.length_nil, List.replicate, List.cons_append, List.nil_append, List.getElem?_cons_succ, List.getElem?_cons_zero, List.set_cons_succ, List.set_cons_zero, if_true, reduceIte, Nat.zero_add, Nat.reduceAdd, Nat.reduceSub, Option.bind_some, allD_cons, allD_nil, Option.map_some, orE_ok, orE_no, and_self, Bool.false_eq_true, if_false, decide_true, decide_false, Bool.not_true, Bool.not_false, e1, e3, bs0, lk_pair_of, F_pair_of one h1, e2, hm, hi]
      · by_cases hj : opp other ∈ pairOf (f + 1) gs one
        · simp only [ap_mDef, ap_sNext, ap_sSeq, ap_sSet, ap_sExpr, ap_sRet, ap_sIf, ap_sPar, ap_sAsg, ap_sFldSet, ap_sPut, ap_sFor, ap_sBreak, ap_sNever, ap_sPass, ap_sCont, ap_tgName, ap_tgNil, ap_tgCons, ap_tgTupT, ap_tgTupL, ap_eVar, ap_eD, ap_eB, ap_eBin, ap_eUn, ap_eT, ap_eTru, ap_eNot, ap_eAnd, ap_eOr, ap_eNotV, ap_eAndV, ap_eOrV, ap_eIf, ap_eChain, ap_eFn, ap_eCall, ap_lCall, ap_aNil, ap_aCons, ap_aStar, ap_eTup, ap_lTake, ap_eFrz, ap_eCell, ap_lBin, ap_eBM, ap_eFld, ap_eMeth, ap_eMake, ap_eDNew, ap_eCutT, ap_oNone, ap_oSome, ap_eYes, g_add, g_sub, g_lt, g_le, g_gt, g_ge, isB_b, onB_b, tru_b, tru_i, g_int, g_intb, g_max, g_min, g_eqi, g_nei, retOf_nx, retOf_rt, ER.bind_ok, sE_ok, noEx_ok, List.map_cons, List.map_nil, List.length_cons, List.length_nil, List.replicate, List.cons_append, List.nil_append, List.getElem?_cons_succ, List.getElem?_cons_zero, List.set_cons_succ, List.set_cons_zero, if_true, reduceIte, Nat.zero_add, Nat.reduceAdd, Nat.reduceSub, Option.bind_some, allD_cons, allD_nil, Option.map_some, orE_ok, orE_no, and_self, Bool.false_eq_true, if_false, decide_true, decide_false, Bool.not_true, Bool.not_false, e1, e3, bs0, lk_pair_of, F_pair_of one h1, e2, hm, hi, hj, F_opp, and_false, b_FALSE]; rfl
        · simp only [ap_mDef, ap_sNext, ap_sSeq, ap_sSet, ap_sExpr, ap_sRet, ap_sIf, ap_sPar, ap_sAsg, ap_sFldSet, ap_sPut, ap_sFor, ap_sBreak, ap_sNever, ap_sPass, ap_sCont, ap_tgName, ap_tgNil, ap_tgCons, ap_tgTupT, ap_tgTupL, ap_eVar, ap_eD, ap_eB, ap_eBin, ap_eUn, ap_eT, ap_eTru, ap_eNot, ap_eAnd, ap_eOr, ap_eNotV, ap_eAndV, ap_eOrV, ap_eIf, ap_eChain, ap_eFn, ap_eCall, ap_lCall, ap_aNil, ap_aCons, ap_aStar, ap_eTup, ap_lTake, ap_eFrz, ap_eCell, ap_lBin, ap_eBM, ap_eFld, ap_eMeth, ap_eMake, ap_eDNew, ap_eCutT, ap_oNone, ap_oSome, ap_eYes, g_add, g_sub, g_lt, g_le, g_gt, g_ge, isB_b, onB_b, tru_b, tru_i, g_int, g_intb, g_max, g_min, g_eqi, g_nei, retOf_nx, retOf_rt, ER.bind_ok, sE_ok, noEx_ok, List.map_cons, List.map_nil, List.length_cons, List.length_nil, List.replicate, List.cons_append, List.nil_append, List.getElem?_cons_succ, List.getElem?_cons_zero, List.set_cons_succ, List.set_cons_zero, if_true, reduceIte, Nat.zero_add, Nat.reduceAdd, Nat.reduceSub, Option.bind_some, allD_cons, allD_nil, Option.map_some, orE_ok, orE_no, and_self, Bool.false_eq_true, if_false, decide_true, decide_false, Bool.not_true, Bool.not_false, e1, e3, bs0, lk_pair_of, F_pair_of one h1, e2, hm, hi, hj, F_opp, and_false]
    · simp only [ap_mDef, ap_sNext, ap_sSeq, ap_sSet, ap_sExpr, ap_sRet, ap_sIf, ap_sPar, ap_sAsg, ap_sFldSet, ap_sPut, ap_sFor, ap_sBreak, ap_sNever, ap_sPass, ap_sCont, ap_tgName, ap_tgNil, ap_tgCons, ap_tgTupT, ap_tgTupL, ap_eVar, ap_eD, ap_eB, ap_eBin, ap_eUn, ap_eT, ap_eTru, ap_eNot, ap_eAnd, ap_eOr, ap_eNotV, ap_eAndV, ap_eOrV, ap_eIf, ap_eChain, ap_eFn, ap_eCall, ap_lCall, ap_aNil, ap_aCons, ap_aStar, ap_eTup, ap_lTake, ap_eFrz, ap_eCell, ap_lBin, ap_eBM, ap_eFld, ap_eMeth, ap_eMake, ap_eDNew, ap_eCutT, ap_oNone, ap_oSome, ap_eYes, g_add, g_sub, g_lt, g_le, g_gt, g_ge, isB_b, onB_b, tru_b, tru_i, g_int, g_intb, g_max, g_min, g_eqi, g_nei, retOf_nx, retOf_rt, ER.bind_ok, sE_ok, noEx_ok, List.map_cons, List.map_nil, List.length_cons, List.length_nil, List.replicate, List.cons_append, List.nil_append, List.getElem?_cons_succ, List.getElem?_cons_zero, List.set_cons_succ, List.set_cons_zero, if_true, reduceIte, Nat.zero_add, Nat.reduceAdd, Nat.reduceSub, Option.bind_some, allD_cons, allD_nil, Option.map_some, orE_ok, orE_no, and_self, Bool.false_eq_true, if_false, decide_true, decide_false, Bool.not_true, Bool.not_false, e1, e3, hm, false_and]
  unfold F_Build_looked
  simp only [ap_mDef, ap_sSeq, ap_sFor, List.map_cons, List.map_nil, List.length_cons, List.length_nil, List.replicate, List.cons_append, List.nil_append]
  rw [i_seq_t _ [.tuple [dN a, dN b], .tuple [dN b, dN a]] (ST c0 f gs t) (by simp [hz])]
  simp only [sE_ok, List.map_cons, List.map_nil]
  unfold sLoop
  simp only [if_true, ap_tgTupT, List.length_cons, List.length_nil, List.map_cons, List.map_nil, ap_tgCons, ap_tgName, ap_tgNil, Option.bind_some, List.set_cons_succ, List.set_cons_zero, Nat.zero_add, Nat.reduceAdd]
  rw [turn a b _ _ ha _ rfl]
  unfold looked
  cases h1 : look1 (f + 1) gs a b with
  | some r => simp
  | none =>
    simp only
    unfold sLoop
    simp only [if_true, ap_tgTupT, List.length_cons, List.length_nil, List.map_cons, List.map_nil, ap_tgCons, ap_tgName, ap_tgNil, Option.bind_some, List.set_cons_succ, List.set_cons_zero, Nat.zero_add, Nat.reduceAdd]
    rw [turn b a _ _ hb _ rfl]
    cases h2 : look1 (f + 1) gs b a with
    | some r => simp
    | none =>
      simp only
      unfold sLoop
      simp
end
end K42

/-! M5: both and what is made of it. -/
namespace K42
open PySem VM L2
open Classical
section
variable {c0 t : Cs} {f : Nat} {gs : Gs}
def MD (c0 : Cs) (f : Nat) (gs : Gs) (t : Cs) (x : Cell) : Cs := c0 ++ ([.ins "Build" [("free", .d (dN f)), ("gates", .r (c0.length + 1)), ("known", .r (c0.length + 2))], x, .dT (kn (f + 1) gs)] ++ t)
theorem set1 (x : Cell) : (ST c0 f gs t).set (c0.length + 1) x = MD c0 f gs t x := by
  unfold ST MD
  rw [List.set_append_right _ _ (by omega), show c0.length + 1 - c0.length = 1 by omega]; rfl
theorem md_at (x : Cell) (i : Nat) : (MD c0 f gs t x)[c0.length + i]? = ([.ins "Build" [("free", .d (dN f)), ("gates", .r (c0.length + 1)), ("known", .r (c0.length + 2))], x, .dT (kn (f + 1) gs)] ++ t : Cs)[i]? := by
  unfold MD
  rw [List.getElem?_append_right (by omega), show c0.length + i - c0.length = i by omega]
theorem min_i (a b : Nat) : (if (b : Int) < (a : Int) then (b : Int) else (a : Int)) = ((min a b : Nat) : Int) := by split <;> omega
theorem max_i (a b : Nat) : (if (b : Int) > (a : Int) then (b : Int) else (a : Int)) = ((max a b : Nat) : Int) := by split <;> omega
theorem eq_n (a b : Nat) : decide ((a : Int) = (b : Int)) = decide (a = b) := by
  apply Bool.eq_iff_iff.mpr
  simp only [decide_eq_true_iff]
  omega
theorem F_both (a b : Nat) (ha : a < 2 * (f + 1 + gs.length)) (hb : b < 2 * (f + 1 + gs.length)) (hl : gs.length < 20000) :
    F_Build_both [.r c0.length, .d (dN a), .d (dN b)] (ST c0 f gs t) = .ok (.d (dN (both (f + 1) gs a b).2)) (ST c0 f (both (f + 1) gs a b).1 t) := by
  unfold both
  have e1 : ∀ cs : Cs, gMin [.d (dN a), .d (dN b)] cs = .ok (.d (dN (min a b))) cs := fun cs => by rw [g_min, min_i]
  have e2 : ∀ cs : Cs, gMax [.d (dN a), .d (dN b)] cs = .ok (.d (dN (max a b))) cs := fun cs => by rw [g_max, max_i]
  have hx : min a b < 2 * (f + 1 + gs.length) := by omega
  have hy : max a b < 2 * (f + 1 + gs.length) := by omega
  generalize min a b = x at e1 hx
  generalize max a b = y at e2 hy
  have z0 : decide ((x : Int) = 0) = decide (x = 0) := eq_n x 0
  have z1 : decide ((x : Int) = 1) = decide (x = 1) := eq_n x 1
  have hz : ((2 : Nat) ≤ sizeLine) := by decide
  unfold bothS
  by_cases h0 : x = 0 ∨ y = opp x
  · rw [if_pos h0]
    rcases h0 with h | h
    · have m0 : decide (x = 0) = true := decide_eq_true h
      simp only [F_Build_both, ap_mDef, ap_sNext, ap_sSeq, ap_sSet, ap_sExpr, ap_sRet, ap_sIf, ap_sPar, ap_sAsg, ap_sFldSet, ap_sPut, ap_sFor, ap_sBreak, ap_sNever, ap_sPass, ap_sCont, ap_tgName, ap_tgNil, ap_tgCons, ap_tgTupT, ap_tgTupL, ap_eVar, ap_eD, ap_eB, ap_eBin, ap_eUn, ap_eT, ap_eTru, ap_eNot, ap_eAnd, ap_eOr, ap_eNotV, ap_eAndV, ap_eOrV, ap_eIf, ap_eChain, ap_eFn, ap_eCall, ap_lCall, ap_aNil, ap_aCons, ap_aStar, ap_eTup, ap_lTake, ap_eFrz, ap_eCell, ap_lBin, ap_eBM, ap_eFld, ap_eMeth, ap_eMake, ap_eDNew, ap_eCutT, ap_oNone, ap_oSome, ap_eYes, g_add, g_sub, g_lt, g_le, g_gt, g_ge, isB_b, onB_b, tru_b, tru_i, g_int, g_intb, g_max, g_min, g_eqi, g_nei, retOf_nx, retOf_rt, ER.bind_ok, sE_ok, noEx_ok, List.map_cons, List.map_nil, List.length_cons, List.length_nil, List.replicate, List.cons_append, List.nil_append, List.getElem?_cons_succ, List.getElem?_cons_zero, List.set_cons_succ, List.set_cons_zero, if_true, reduceIte, Nat.zero_add, Nat.reduceAdd, Nat.reduceSub, Option.bind_some, allD_cons, allD_nil, Option.map_some, orE_ok, orE_no, and_self, Bool.false_eq_true, if_false, decide_true, decide_false, Bool.not_true, Bool.not_false, e1, e2, b_FALSE, z0, m0, gcR_b0]; rfl
    · by_cases h' : x = 0
      · have m0 : decide (x = 0) = true := decide_eq_true h'
        simp only [F_Build_both, ap_mDef, ap_sNext, ap_sSeq, ap_sSet, ap_sExpr, ap_sRet, ap_sIf, ap_sPar, ap_sAsg, ap_sFldSet, ap_sPut, ap_sFor, ap_sBreak, ap_sNever, ap_sPass, ap_sCont, ap_tgName, ap_tgNil, ap_tgCons, ap_tgTupT, ap_tgTupL, ap_eVar, ap_eD, ap_eB, ap_eBin, ap_eUn, ap_eT, ap_eTru, ap_eNot, ap_eAnd, ap_eOr, ap_eNotV, ap_eAndV, ap_eOrV, ap_eIf, ap_eChain, ap_eFn, ap_eCall, ap_lCall, ap_aNil, ap_aCons, ap_aStar, ap_eTup, ap_lTake, ap_eFrz, ap_eCell, ap_lBin, ap_eBM, ap_eFld, ap_eMeth, ap_eMake, ap_eDNew, ap_eCutT, ap_oNone, ap_oSome, ap_eYes, g_add, g_sub, g_lt, g_le, g_gt, g_ge, isB_b, onB_b, tru_b, tru_i, g_int, g_intb, g_max, g_min, g_eqi, g_nei, retOf_nx, retOf_rt, ER.bind_ok, sE_ok, noEx_ok, List.map_cons, List.map_nil, List.length_cons, List.length_nil, List.replicate, List.cons_append, List.nil_append, List.getElem?_cons_succ, List.getElem?_cons_zero, List.set_cons_succ, List.set_cons_zero, if_true, reduceIte, Nat.zero_add, Nat.reduceAdd, Nat.reduceSub, Option.bind_some, allD_cons, allD_nil, Option.map_some, orE_ok, orE_no, and_self, Bool.false_eq_true, if_false, decide_true, decide_false, Bool.not_true, Bool.not_false, e1, e2, b_FALSE, z0, m0, gcR_b0]; rfl
      · have h3 : decide ((y : Int) = (opp x : Nat)) = true := by rw [eq_n]; exact decide_eq_true h
        simp only [F_Build_both, ap_mDef, ap_sNext, ap_sSeq, ap_sSet, ap_sExpr, ap_sRet, ap_sIf, ap_sPar, ap_sAsg, ap_sFldSet, ap_sPut, ap_sFor, ap_sBreak, ap_sNever, ap_sPass, ap_sCont, ap_tgName, ap_tgNil, ap_tgCons, ap_tgTupT, ap_tgTupL, ap_eVar, ap_eD, ap_eB, ap_eBin, ap_eUn, ap_eT, ap_eTru, ap_eNot, ap_eAnd, ap_eOr, ap_eNotV, ap_eAndV, ap_eOrV, ap_eIf, ap_eChain, ap_eFn, ap_eCall, ap_lCall, ap_aNil, ap_aCons, ap_aStar, ap_eTup, ap_lTake, ap_eFrz, ap_eCell, ap_lBin, ap_eBM, ap_eFld, ap_eMeth, ap_eMake, ap_eDNew, ap_eCutT, ap_oNone, ap_oSome, ap_eYes, g_add, g_sub, g_lt, g_le, g_gt, g_ge, isB_b, onB_b, tru_b, tru_i, g_int, g_intb, g_max, g_min, g_eqi, g_nei, retOf_nx, retOf_rt, ER.bind_ok, sE_ok, noEx_ok, List.map_cons, List.map_nil, List.length_cons, List.length_nil, List.replicate, List.cons_append, List.nil_append, List.getElem?_cons_succ, List.getElem?_cons_zero, List.set_cons_succ, List.set_cons_zero, if_true, reduceIte, Nat.zero_add, Nat.reduceAdd, Nat.reduceSub, Option.bind_some, allD_cons, allD_nil, Option.map_some, orE_ok, orE_no, and_self, Bool.false_eq_true, if_false, decide_true, decide_false, Bool.not_true, Bool.not_false, e1, e2, b_FALSE, z0, h', F_opp, h3, gcR_b0]; rfl
  · rw [if_neg h0]
    have n0 : decide (x = 0) = false := decide_eq_false fun z => h0 (.inl z)
    have n1 : decide ((y : Int) = (opp x : Nat)) = false := by rw [eq_n]; exact decide_eq_false fun z => h0 (.inr z)
    by_cases h1 : x = 1 ∨ x = y
    · rw [if_pos h1]
      by_cases h' : x = 1
      · have n2 : decide (x = 1) = true := decide_eq_true h'
        simp only [F_Build_both, ap_mDef, ap_sNext, ap_sSeq, ap_sSet, ap_sExpr, ap_sRet, ap_sIf, ap_sPar, ap_sAsg, ap_sFldSet, ap_sPut, ap_sFor, ap_sBreak, ap_sNever, ap_sPass, ap_sCont, ap_tgName, ap_tgNil, ap_tgCons, ap_tgTupT, ap_tgTupL, ap_eVar, ap_eD, ap_eB, ap_eBin, ap_eUn, ap_eT, ap_eTru, ap_eNot, ap_eAnd, ap_eOr, ap_eNotV, ap_eAndV, ap_eOrV, ap_eIf, ap_eChain, ap_eFn, ap_eCall, ap_lCall, ap_aNil, ap_aCons, ap_aStar, ap_eTup, ap_lTake, ap_eFrz, ap_eCell, ap_lBin, ap_eBM, ap_eFld, ap_eMeth, ap_eMake, ap_eDNew, ap_eCutT, ap_oNone, ap_oSome, ap_eYes, g_add, g_sub, g_lt, g_le, g_gt, g_ge, isB_b, onB_b, tru_b, tru_i, g_int, g_intb, g_max, g_min, g_eqi, g_nei, retOf_nx, retOf_rt, ER.bind_ok, sE_ok, noEx_ok, List.map_cons, List.map_nil, List.length_cons, List.length_nil, List.replicate, List.cons_append, List.nil_append, List.getElem?_cons_succ, List.getElem?_cons_zero, List.set_cons_succ, List.set_cons_zero, if_true, reduceIte, Nat.zero_add, Nat.reduceAdd, Nat.reduceSub, Option.bind_some, allD_cons, allD_nil, Option.map_some, orE_ok, orE_no, and_self, Bool.false_eq_true, if_false, decide_true, decide_false, Bool.not_true, Bool.not_false, e1, e2, b_FALSE, b_TRUE, z0, n0, F_opp, n1, z1, n2, gcR_b0]
      · have n2 : decide (x = 1) = false := decide_eq_false h'
        have n3 : decide ((x : Int) = (y : Int)) = true := by rw [eq_n]; exact decide_eq_true (h1.resolve_left h')
        simp only [F_Build_both, ap_mDef, ap_sNext, ap_sSeq, ap_sSet, ap_sExpr, ap_sRet, ap_sIf, ap_sPar, ap_sAsg, ap_sFldSet, ap_sPut, ap_sFor, ap_sBreak, ap_sNever, ap_sPass, ap_sCont, ap_tgName, ap_tgNil, ap_tgCons, ap_tgTupT, ap_tgTupL, ap_eVar, ap_eD, ap_eB, ap_eBin, ap_eUn, ap_eT, ap_eTru, ap_eNot, ap_eAnd, ap_eOr, ap_eNotV, ap_eAndV, ap_eOrV, ap_eIf, ap_eChain, ap_eFn, ap_eCall, ap_lCall, ap_aNil, ap_aCons, ap_aStar, ap_eTup, ap_lTake, ap_eFrz, ap_eCell, ap_lBin, ap_eBM, ap_eFld, ap_eMeth, ap_eMake, ap_eDNew, ap_eCutT, ap_oNone, ap_oSome, ap_eYes, g_add, g_sub, g_lt, g_le, g_gt, g_ge, isB_b, onB_b, tru_b, tru_i, g_int, g_intb, g_max, g_min, g_eqi, g_nei, retOf_nx, retOf_rt, ER.bind_ok, sE_ok, noEx_ok, List.map_cons, List.map_nil, List.length_cons, List.length_nil, List.replicate, List.cons_append, List.nil_append, List.getElem?_cons_succ, List.getElem?_cons_zero, List.set_cons_succ, List.set_cons_zero, if_true, reduceIte, Nat.zero_add, Nat.reduceAdd, Nat.reduceSub, Option.bind_some, allD_cons, allD_nil, Option.map_some, orE_ok, orE_no, and_self, Bool.false_eq_true, if_false, decide_true, decide_false, Bool.not_true, Bool.not_false, e1, e2, b_FALSE, b_TRUE, z0, n0, F_opp, n1, z1, n2, n3, gcR_b0]
    · rw [if_neg h1]
      have n2 : decide (x = 1) = false := decide_eq_false fun z => h1 (.inl z)
      have n3 : decide ((x : Int) = (y : Int)) = false := by rw [eq_n]; exact decide_eq_false fun z => h1 (.inr z)
      have k0 : gIn false (.d (.tuple [dN x, dN y])) (.r (c0.length + 2)) (ST c0 f gs t) = .no := by
        unfold gIn
        simp only [bSeq_r, bList, bs2, Option.bind_none]
      have k1 : dFind (ST c0 f gs t) (.r (c0.length + 2)) (.d (.tuple [dN x, dN y])) = some ((gs.findIdx? (· == (x, y))).map fun i => .d (dN (2 * (f + 1 + i)))) := by
        unfold dFind
        simp only [bs2, keyTD_tup, keysD_cons, keysD_nil, keyD_int, Option.bind_some, Option.map_some]
        rw [getB_kn]
      have k2 : gDIn false (.d (.tuple [dN x, dN y])) (.r (c0.length + 2)) (ST c0 f gs t) = .ok (.d (.bool (gs.findIdx? (· == (x, y))).isSome)) (ST c0 f gs t) := by
        unfold gDIn
        rw [k1]
        simp
      cases hf : gs.findIdx? (· == (x, y)) with
      | some i =>
        rw [hf] at k1 k2
        have k3 : gDGet (.r (c0.length + 2)) (.d (.tuple [dN x, dN y])) (ST c0 f gs t) = .ok (.d (dN (2 * (f + 1 + i)))) (ST c0 f gs t) := by
          unfold gDGet
          rw [k1]
          simp
        simp only [F_Build_both, ap_mDef, ap_sNext, ap_sSeq, ap_sSet, ap_sExpr, ap_sRet, ap_sIf, ap_sPar, ap_sAsg, ap_sFldSet, ap_sPut, ap_sFor, ap_sBreak, ap_sNever, ap_sPass, ap_sCont, ap_tgName, ap_tgNil, ap_tgCons, ap_tgTupT, ap_tgTupL, ap_eVar, ap_eD, ap_eB, ap_eBin, ap_eUn, ap_eT, ap_eTru, ap_eNot, ap_eAnd, ap_eOr, ap_eNotV, ap_eAndV, ap_eOrV, ap_eIf, ap_eChain, ap_eFn, ap_eCall, ap_lCall, ap_aNil, ap_aCons, ap_aStar, ap_eTup, ap_lTake, ap_eFrz, ap_eCell, ap_lBin, ap_eBM, ap_eFld, ap_eMeth, ap_eMake, ap_eDNew, ap_eCutT, ap_oNone, ap_oSome, ap_eYes, g_add, g_sub, g_lt, g_le, g_gt, g_ge, isB_b, onB_b, tru_b, tru_i, g_int, g_intb, g_max, g_min, g_eqi, g_nei, retOf_nx, retOf_rt, ER.bind_ok, sE_ok, noEx_ok, List.map_cons, List.map_nil, List.length_cons, List.length_nil, List.replicate, List.cons_append, List.nil_append, List.getElem?_cons_succ, List.getElem?_cons_zero, List.set_cons_succ, List.set_cons_zero, if_true, reduceIte, Nat.zero_add, Nat.reduceAdd, Nat.reduceSub, Option.bind_some, allD_cons, allD_nil, Option.map_some, orE_ok, orE_no, and_self, Bool.false_eq_true, if_false, decide_true, decide_false, Bool.not_true, Bool.not_false, e1, e2, b_FALSE, b_TRUE, z0, n0, F_opp, n1, z1, n2, n3, hz, bs0, lk_known, ap_gInU, k0, k2, k3, Option.isSome_some, gcR_b0]
      | none =>
        rw [hf] at k1 k2
        have lk := F_looked (c0 := c0) (t := t) x y hx hy
        cases hlo : looked (f + 1) gs x y with
        | some r =>
          rw [hlo] at lk
          have g1 : ∀ cs : Cs, gNotNU (.d (dN r)) (.d .none) cs = .ok (.d (.bool true)) cs := fun cs => rfl
          simp only [F_Build_both, ap_mDef, ap_sNext, ap_sSeq, ap_sSet, ap_sExpr, ap_sRet, ap_sIf, ap_sPar, ap_sAsg, ap_sFldSet, ap_sPut, ap_sFor, ap_sBreak, ap_sNever, ap_sPass, ap_sCont, ap_tgName, ap_tgNil, ap_tgCons, ap_tgTupT, ap_tgTupL, ap_eVar, ap_eD, ap_eB, ap_eBin, ap_eUn, ap_eT, ap_eTru, ap_eNot, ap_eAnd, ap_eOr, ap_eNotV, ap_eAndV, ap_eOrV, ap_eIf, ap_eChain, ap_eFn, ap_eCall, ap_lCall, ap_aNil, ap_aCons, ap_aStar, ap_eTup, ap_lTake, ap_eFrz, ap_eCell, ap_lBin, ap_eBM, ap_eFld, ap_eMeth, ap_eMake, ap_eDNew, ap_eCutT, ap_oNone, ap_oSome, ap_eYes, g_add, g_sub, g_lt, g_le, g_gt, g_ge, isB_b, onB_b, tru_b, tru_i, g_int, g_intb, g_max, g_min, g_eqi, g_nei, retOf_nx, retOf_rt, ER.bind_ok, sE_ok, noEx_ok, List.map_cons, List.map_nil, List.length_cons, List.length_nil, List.replicate, List.cons_append, List.nil_append, List.getElem?_cons_succ, List.getElem?_cons_zero, List.set_cons_succ, List.set_cons_zero, if_true, reduceIte, Nat.zero_add, Nat.reduceAdd, Nat.reduceSub, Option.bind_some, allD_cons, allD_nil, Option.map_some, orE_ok, orE_no, and_self, Bool.false_eq_true, if_false, decide_true, decide_false, Bool.not_true, Bool.not_false, e1, e2, b_FALSE, b_TRUE, z0, n0, F_opp, n1, z1, n2, n3, hz, bs0, lk_known, lk_looked, ap_gInU, k0, k2, Option.isSome_none, Option.map_none, lk, g1, gcR_b0]
        | none =>
          rw [hlo] at lk
          have g1 : ∀ cs : Cs, gNotNU (.d .none) (.d .none) cs = .ok (.d (.bool false)) cs := fun cs => rfl
          have g2 : gLenU [.r (c0.length + 1)] (ST c0 f gs t) = .ok (.d (dN gs.length)) (ST c0 f gs t) := by
            rw [ap_gLenU]
            unfold gLen
            simp only [bSeq_r, bList_r bs1, List.length_map, orE_ok]
          have g3 : decide (((gs.length : Nat) : Int) = 20000) = false := decide_eq_false (by omega)
          have g4 : gAppend (c0.length + 1) [.d (.tuple [dN x, dN y])] (ST c0 f gs t) = .ok (.d .none) (MD c0 f gs t (.lst ((gs ++ [(x, y)]).map fun g => .d (dG g)))) := by
            unfold gAppend
            simp only [bs1]
            rw [if_pos (by rw [List.length_map]; exact Nat.lt_trans hl (by decide)), set1, List.map_append]
            rfl
          have d0 : (MD c0 f gs t (.lst ((gs ++ [(x, y)]).map fun g => .d (dG g))))[c0.length]? = some (.ins "Build" [("free", .d (dN f)), ("gates", .r (c0.length + 1)), ("known", .r (c0.length + 2))]) := md_at _ 0
          have d1 : (MD c0 f gs t (.lst ((gs ++ [(x, y)]).map fun g => .d (dG g))))[c0.length + 1]? = some (.lst ((gs ++ [(x, y)]).map fun g => .d (dG g))) := md_at _ 1
          have d2 : (MD c0 f gs t (.lst ((gs ++ [(x, y)]).map fun g => .d (dG g))))[c0.length + 2]? = some (.dT (kn (f + 1) gs)) := md_at _ 2
          have d3 : (MD c0 f gs t (.lst ((gs ++ [(x, y)]).map fun g => .d (dG g)))).set (c0.length + 2) (.dT (kn (f + 1) (gs ++ [(x, y)]))) = ST c0 f (gs ++ [(x, y)]) t := by
            unfold MD ST
            rw [List.set_append_right _ _ (by omega), show c0.length + 2 - c0.length = 2 by omega]
            rfl
          generalize (MD c0 f gs t (.lst ((gs ++ [(x, y)]).map fun g => .d (dG g)))) = M at g4 d0 d1 d2 d3
          have g5 : gLenU [.r (c0.length + 1)] M = .ok (.d (dN (gs.length + 1))) M := by
            rw [ap_gLenU]
            unfold gLen
            simp only [bSeq_r, bList_r d1, List.length_map, orE_ok, List.length_append, List.length_cons, List.length_nil]
          have g6 : gMul (.d (.int 2)) (.d (.int ((f : Int) + ((gs.length + 1 : Nat) : Int)))) M = .ok (.d (dN (2 * (f + 1 + gs.length)))) M := by
            rw [g_mul _ _ (mul_l (by decide) (by decide))]
            congr 3
            omega
          have g7 : VM.putAt M (.r (c0.length + 2)) (.d (.tuple [dN x, dN y])) (.d (dN (2 * (f + 1 + gs.length)))) = some (ST c0 f (gs ++ [(x, y)]) t) := by
            unfold VM.putAt dPut
            simp only [d2, keyTD_tup, keysD_cons, keysD_nil, keyD_int, Option.bind_some, Option.map_some]
            rw [if_pos (by rw [kn_len]; exact Nat.lt_trans hl (by decide)), putB_kn _ _ _ _ hf, d3]
          have k4 : gDGet (.r (c0.length + 2)) (.d (.tuple [dN x, dN y])) (ST c0 f (gs ++ [(x, y)]) t) = .ok (.d (dN (2 * (f + 1 + gs.length)))) (ST c0 f (gs ++ [(x, y)]) t) := by
            unfold gDGet dFind
            simp only [bs2, keyTD_tup, keysD_cons, keysD_nil, keyD_int, Option.bind_some, Option.map_some]
            rw [getB_kn, List.findIdx?_append, hf]
            simp
          simp only [F_Build_both, ap_mDef, ap_sNext, ap_sSeq, ap_sSet, ap_sExpr, ap_sRet, ap_sIf, ap_sPar, ap_sAsg, ap_sFldSet, ap_sPut, ap_sFor, ap_sBreak, ap_sNever, ap_sPass, ap_sCont, ap_tgName, ap_tgNil, ap_tgCons, ap_tgTupT, ap_tgTupL, ap_eVar, ap_eD, ap_eB, ap_eBin, ap_eUn, ap_eT, ap_eTru, ap_eNot, ap_eAnd, ap_eOr, ap_eNotV, ap_eAndV, ap_eOrV, ap_eIf, ap_eChain, ap_eFn, ap_eCall, ap_lCall, ap_aNil, ap_aCons, ap_aStar, ap_eTup, ap_lTake, ap_eFrz, ap_eCell, ap_lBin, ap_eBM, ap_eFld, ap_eMeth, ap_eMake, ap_eDNew, ap_eCutT, ap_oNone, ap_oSome, ap_eYes, g_add, g_sub, g_lt, g_le, g_gt, g_ge, isB_b, onB_b, tru_b, tru_i, g_int, g_intb, g_max, g_min, g_eqi, g_nei, retOf_nx, retOf_rt, ER.bind_ok, sE_ok, noEx_ok, List.map_cons, List.map_nil, List.length_cons, List.length_nil, List.replicate, List.cons_append, List.nil_append, List.getElem?_cons_succ, List.getElem?_cons_zero, List.set_cons_succ, List.set_cons_zero, if_true, reduceIte, Nat.zero_add, Nat.reduceAdd, Nat.reduceSub, Option.bind_some, allD_cons, allD_nil, Option.map_some, orE_ok, orE_no, and_self, Bool.false_eq_true, if_false, decide_true, decide_false, Bool.not_true, Bool.not_false, e1, e2, b_FALSE, b_TRUE, b_MOST_GATES, z0, n0, F_opp, n1, z1, n2, n3, hz, bs0, bs1, lk_known, lk_gates, lk_free, lk_looked, ap_gInU, k0, k2, Option.isSome_none, Option.map_none, lk, g1, g2, g3, isLst, g4, d0, g5, g6, g7, k4, gcR_b0]
end
end K42

/-! M6: what a Build's methods give, by values. -/
namespace K42
open PySem VM L2
open Classical
def Ex (gs gs' : Gs) (m : Nat) : Prop := ∃ t, gs' = gs ++ t ∧ t.length ≤ m
theorem Ex.refl (gs : Gs) : Ex gs gs 0 := ⟨[], by simp, Nat.le_refl _⟩
theorem Ex.trans {gs gs1 gs2 : Gs} {m k : Nat} (a : Ex gs gs1 m) (b : Ex gs1 gs2 k) : Ex gs gs2 (m + k) := by
  obtain ⟨t, rfl, h1⟩ := a
  obtain ⟨u, rfl, h2⟩ := b
  exact ⟨t ++ u, by rw [List.append_assoc], by rw [List.length_append]; omega⟩
theorem Ex.mono {gs gs1 : Gs} {m k : Nat} (a : Ex gs gs1 m) (h : m ≤ k) : Ex gs gs1 k := let ⟨t, e, h1⟩ := a; ⟨t, e, Nat.le_trans h1 h⟩
theorem Ex.len {gs gs1 : Gs} {m : Nat} (a : Ex gs gs1 m) : gs1.length ≤ gs.length + m := by
  obtain ⟨t, rfl, h1⟩ := a
  rw [List.length_append]; omega
theorem Dn.up {n : Nat} {S : Nat → Prop} {gs gs1 : Gs} {m l : Nat} {F : List Bool → Bool} (h : Dn n S gs l F) (a : Ex gs gs1 m) : Dn n S gs1 l F := by
  obtain ⟨t, rfl, _⟩ := a
  exact h.ext t
section
variable {c0 t : Cs} {f : Nat} {S : Nat → Prop} {gs : Gs} {a b c l : Nat} {F G C : List Bool → Bool}
/-- the promise: r is the run's outcome, x what it gives, m the most gates -/
structure Gv (c0 t : Cs) (f : Nat) (S : Nat → Prop) (gs : Gs) (m : Nat) (r : ER B) (F : List Bool → Bool) : Prop where
  ex : ∃ gs' l, r = .ok (.d (dN l)) (ST c0 f gs' t) ∧ Ex gs gs' m ∧ Ok (f + 1) gs' ∧ Dn (f + 1) S gs' l F
theorem M_both (ok : Ok (f + 1) gs) (ha : Dn (f + 1) S gs a F) (hb : Dn (f + 1) S gs b G) (hl : gs.length + 1 ≤ 20000) : Gv c0 t f S gs 1 (F_Build_both [.r c0.length, .d (dN a), .d (dN b)] (ST c0 f gs t)) (fun β => F β && G β) := by
  have h := both_ok (Nat.succ_pos f) ok ha hb
  exact ⟨_, _, F_both a b ha.lt hb.lt (by omega), h.ex, h.ok, h.dn⟩
theorem M_either (ok : Ok (f + 1) gs) (ha : Dn (f + 1) S gs a F) (hb : Dn (f + 1) S gs b G) (hl : gs.length + 1 ≤ 20000) : Gv c0 t f S gs 1 (F_Build_either [.r c0.length, .d (dN a), .d (dN b)] (ST c0 f gs t)) (fun β => F β || G β) := by
  obtain ⟨gs', r, e, x, ok', d⟩ := (M_both (c0 := c0) (t := t) ok ha.opp hb.opp hl).ex
  refine ⟨gs', opp r, ?_, x, ok', d.opp.imp fun β => by simp⟩
  simp only [F_Build_either, ap_mDef, ap_sNext, ap_sSeq, ap_sSet, ap_sExpr, ap_sRet, ap_sIf, ap_sPar, ap_sAsg, ap_sFldSet, ap_sPut, ap_sFor, ap_sBreak, ap_sNever, ap_sPass, ap_sCont, ap_tgName, ap_tgNil, ap_tgCons, ap_tgTupT, ap_tgTupL, ap_eVar, ap_eD, ap_eB, ap_eBin, ap_eUn, ap_eT, ap_eTru, ap_eNot, ap_eAnd, ap_eOr, ap_eNotV, ap_eAndV, ap_eOrV, ap_eIf, ap_eChain, ap_eFn, ap_eCall, ap_lCall, ap_aNil, ap_aCons, ap_aStar, ap_eTup, ap_lTake, ap_eFrz, ap_eCell, ap_lBin, ap_eBM, ap_eFld, ap_eMeth, ap_eMake, ap_eDNew, ap_eCutT, ap_oNone, ap_oSome, ap_eYes, g_add, g_sub, g_lt, g_le, g_gt, g_ge, isB_b, onB_b, tru_b, tru_i, g_int, g_intb, g_max, g_min, g_eqi, g_nei, retOf_nx, retOf_rt, ER.bind_ok, sE_ok, noEx_ok, List.map_cons, List.map_nil, List.length_cons, List.length_nil, List.replicate, List.cons_append, List.nil_append, List.getElem?_cons_succ, List.getElem?_cons_zero, List.set_cons_succ, List.set_cons_zero, if_true, reduceIte, Nat.zero_add, Nat.reduceAdd, Nat.reduceSub, Option.bind_some, allD_cons, allD_nil, Option.map_some, orE_ok, orE_no, and_self, Bool.false_eq_true, if_false, decide_true, decide_false, Bool.not_true, Bool.not_false, F_opp, bs0, lk_both, e, gcR_b0]
theorem M_differ (ok : Ok (f + 1) gs) (ha : Dn (f + 1) S gs a F) (hb : Dn (f + 1) S gs b G) (hl : gs.length + 3 ≤ 20000) : Gv c0 t f S gs 3 (F_Build_differ [.r c0.length, .d (dN a), .d (dN b)] (ST c0 f gs t)) (fun β => F β ^^ G β) := by
  obtain ⟨g1, r1, e1, x1, ok1, d1⟩ := (M_either (c0 := c0) (t := t) ok ha hb (by omega)).ex
  have l1 := x1.len
  obtain ⟨g2, r2, e2, x2, ok2, d2⟩ := (M_both (c0 := c0) (t := t) ok1 (ha.up x1) (hb.up x1) (by omega)).ex
  have l2 := x2.len
  obtain ⟨g3, r3, e3, x3, ok3, d3⟩ := (M_both (c0 := c0) (t := t) ok2 (d1.up x2) d2.opp (by omega)).ex
  refine ⟨g3, r3, ?_, (x1.trans x2).trans x3, ok3, d3.imp fun β => by cases F β <;> cases G β <;> rfl⟩
  simp only [F_Build_differ, ap_mDef, ap_sNext, ap_sSeq, ap_sSet, ap_sExpr, ap_sRet, ap_sIf, ap_sPar, ap_sAsg, ap_sFldSet, ap_sPut, ap_sFor, ap_sBreak, ap_sNever, ap_sPass, ap_sCont, ap_tgName, ap_tgNil, ap_tgCons, ap_tgTupT, ap_tgTupL, ap_eVar, ap_eD, ap_eB, ap_eBin, ap_eUn, ap_eT, ap_eTru, ap_eNot, ap_eAnd, ap_eOr, ap_eNotV, ap_eAndV, ap_eOrV, ap_eIf, ap_eChain, ap_eFn, ap_eCall, ap_lCall, ap_aNil, ap_aCons, ap_aStar, ap_eTup, ap_lTake, ap_eFrz, ap_eCell, ap_lBin, ap_eBM, ap_eFld, ap_eMeth, ap_eMake, ap_eDNew, ap_eCutT, ap_oNone, ap_oSome, ap_eYes, g_add, g_sub, g_lt, g_le, g_gt, g_ge, isB_b, onB_b, tru_b, tru_i, g_int, g_intb, g_max, g_min, g_eqi, g_nei, retOf_nx, retOf_rt, ER.bind_ok, sE_ok, noEx_ok, List.map_cons, List.map_nil, List.length_cons, List.length_nil, List.replicate, List.cons_append, List.nil_append, List.getElem?_cons_succ, List.getElem?_cons_zero, List.set_cons_succ, List.set_cons_zero, if_true, reduceIte, Nat.zero_add, Nat.reduceAdd, Nat.reduceSub, Option.bind_some, allD_cons, allD_nil, Option.map_some, orE_ok, orE_no, and_self, Bool.false_eq_true, if_false, decide_true, decide_false, Bool.not_true, Bool.not_false, F_opp, bs0, lk_both, lk_either, e1, e2, e3, gcR_b0]
theorem M_choose (ok : Ok (f + 1) gs) (hc : Dn (f + 1) S gs c C) (ha : Dn (f + 1) S gs a F) (hb : Dn (f + 1) S gs b G) (hl : gs.length + 3 ≤ 20000) : Gv c0 t f S gs 3 (F_Build_choose [.r c0.length, .d (dN c), .d (dN a), .d (dN b)] (ST c0 f gs t)) (fun β => if C β then F β else G β) := by
  obtain ⟨g1, r1, e1, x1, ok1, d1⟩ := (M_both (c0 := c0) (t := t) ok hc ha (by omega)).ex
  have l1 := x1.len
  obtain ⟨g2, r2, e2, x2, ok2, d2⟩ := (M_both (c0 := c0) (t := t) ok1 (hc.up x1).opp (hb.up x1) (by omega)).ex
  have l2 := x2.len
  obtain ⟨g3, r3, e3, x3, ok3, d3⟩ := (M_either (c0 := c0) (t := t) ok2 (d1.up x2) d2 (by omega)).ex
  refine ⟨g3, r3, ?_, (x1.trans x2).trans x3, ok3, d3.imp fun β => by cases C β <;> cases F β <;> cases G β <;> rfl⟩
  simp only [F_Build_choose, ap_mDef, ap_sNext, ap_sSeq, ap_sSet, ap_sExpr, ap_sRet, ap_sIf, ap_sPar, ap_sAsg, ap_sFldSet, ap_sPut, ap_sFor, ap_sBreak, ap_sNever, ap_sPass, ap_sCont, ap_tgName, ap_tgNil, ap_tgCons, ap_tgTupT, ap_tgTupL, ap_eVar, ap_eD, ap_eB, ap_eBin, ap_eUn, ap_eT, ap_eTru, ap_eNot, ap_eAnd, ap_eOr, ap_eNotV, ap_eAndV, ap_eOrV, ap_eIf, ap_eChain, ap_eFn, ap_eCall, ap_lCall, ap_aNil, ap_aCons, ap_aStar, ap_eTup, ap_lTake, ap_eFrz, ap_eCell, ap_lBin, ap_eBM, ap_eFld, ap_eMeth, ap_eMake, ap_eDNew, ap_eCutT, ap_oNone, ap_oSome, ap_eYes, g_add, g_sub, g_lt, g_le, g_gt, g_ge, isB_b, onB_b, tru_b, tru_i, g_int, g_intb, g_max, g_min, g_eqi, g_nei, retOf_nx, retOf_rt, ER.bind_ok, sE_ok, noEx_ok, List.map_cons, List.map_nil, List.length_cons, List.length_nil, List.replicate, List.cons_append, List.nil_append, List.getElem?_cons_succ, List.getElem?_cons_zero, List.set_cons_succ, List.set_cons_zero, if_true, reduceIte, Nat.zero_add, Nat.reduceAdd, Nat.reduceSub, Option.bind_some, allD_cons, allD_nil, Option.map_some, orE_ok, orE_no, and_self, Bool.false_eq_true, if_false, decide_true, decide_false, Bool.not_true, Bool.not_false, F_opp, bs0, lk_both, lk_either, e1, e2, e3, gcR_b0]
/-- words of two -/
structure Gv2 (c0 t : Cs) (f : Nat) (S : Nat → Prop) (gs : Gs) (m : Nat) (r : ER B) (F G : List Bool → Bool) : Prop where
  ex : ∃ gs' l k, r = .ok (.d (dW [l, k])) (ST c0 f gs' t) ∧ Ex gs gs' m ∧ Ok (f + 1) gs' ∧ Dn (f + 1) S gs' l F ∧ Dn (f + 1) S gs' k G
end
end K42

/-! M7: words of two added, multiplied, compared. -/
namespace VM
open PySem L2
section
variable {sl : Sl} {cs : Cs}
theorem ap_iZip (fs : Fn (List B)) : VM.iZip fs sl cs = (fs sl cs).bind fun bs cs1 => (match bs with
  | [.d (.tuple xs), .d (.tuple ys)] => .ok (pairD xs ys, fun (_ : Cs) => True) cs1
  | [.d (.list xs), .d (.list ys)] => .ok (pairD xs ys, fun (_ : Cs) => True) cs1
  | _ => .no : ER (List B × (Cs → Prop))) := rfl
theorem pairD2 (a b c d : D) : pairD [a, b] [c, d] = [.d (.tuple [a, c]), .d (.tuple [b, d])] := rfl
theorem pairD1 (a c : D) : pairD [a] [c] = [.d (.tuple [a, c])] := rfl
theorem enumD2 (a b : D) : enumD [a, b] = [.d (.tuple [.int 0, a]), .d (.tuple [.int 1, b])] := rfl
theorem loop_cons {okc : Cs → Prop} {tf : TgF} {body : FnS} {b : B} {bs : List B} (h : okc cs) : sLoop okc tf body (b :: bs) sl cs = (match tf b sl with
    | none => .no
    | some sl1 => match body sl1 cs with
      | .nx sl2 cs2 => sLoop okc tf body bs sl2 cs2
      | .ct sl2 cs2 => sLoop okc tf body bs sl2 cs2
      | .bk sl2 cs2 => .nx sl2 cs2
      | r => r) := by
  conv => lhs; unfold sLoop
  rw [if_pos h]
  try rfl
theorem loop_nil {okc : Cs → Prop} {tf : TgF} {body : FnS} (h : okc cs) : sLoop okc tf body [] sl cs = .nx sl cs := by
  unfold sLoop
  rw [if_pos h]
theorem loop_consT {tf : TgF} {body : FnS} {b : B} {bs : List B} : sLoop (fun _ => True) tf body (b :: bs) sl cs = (match tf b sl with
    | none => .no
    | some sl1 => match body sl1 cs with
      | .nx sl2 cs2 => sLoop (fun _ => True) tf body bs sl2 cs2
      | .ct sl2 cs2 => sLoop (fun _ => True) tf body bs sl2 cs2
      | .bk sl2 cs2 => .nx sl2 cs2
      | r => r) := loop_cons (okc := fun _ => True) trivial
theorem loop_nilT {tf : TgF} {body : FnS} : sLoop (fun _ => True) tf body [] sl cs = .nx sl cs := loop_nil (okc := fun _ => True) trivial
theorem g_tup_t (xs : List D) : gTuple [.d (.tuple xs)] cs = .ok (.d (.tuple xs)) cs := rfl
theorem g_tup_l (xs : List D) : gTuple [.d (.list xs)] cs = .ok (.d (.tuple xs)) cs := by
  show (match (bList cs (.d (.list xs))).bind allD with | some ds => ER.ok (B.d (.tuple ds)) cs | none => .no) = _
  rw [bList_d, Option.bind_some, allD_mapd]
theorem g_tup_r (k : Nat) (xs : List D) (h : cs[k]? = some (.lst (xs.map B.d))) : gTuple [.r k] cs = .ok (.d (.tuple xs)) cs := by
  show (match (bList cs (.r k)).bind allD with | some ds => ER.ok (B.d (.tuple ds)) cs | none => .no) = _
  rw [bList_r h, Option.bind_some, allD_mapd]
theorem g_len_t (xs : List D) : gLenU [.d (.tuple xs)] cs = .ok (.d (.int xs.length)) cs := by
  rw [ap_gLenU]
  unfold gLen
  simp only [bSeq_t, List.length_map, orE_ok]
theorem g_len_l (xs : List D) : gLenU [.d (.list xs)] cs = .ok (.d (.int xs.length)) cs := by
  rw [ap_gLenU]
  unfold gLen
  simp only [bSeq_l, List.length_map, orE_ok]
theorem lc_cons {okc : Cs → Prop} {tf : TgF} {tt : Fn Bool} {te : Fn B} {b : B} {bs : List B} (h : okc cs) : lcLoop okc tf tt te sl (b :: bs) cs = (match tf b sl with
    | none => .no
    | some sl1 => (noEx (tt sl1 cs)).bind fun k cs1 => if k = true then (noEx (te sl1 cs1)).bind fun y cs2 => (lcLoop okc tf tt te sl bs cs2).bind fun ys cs3 => .ok (y :: ys) cs3 else lcLoop okc tf tt te sl bs cs1) := by
  conv => lhs; unfold lcLoop
  rw [if_pos h]
  try rfl
theorem lc_consT {tf : TgF} {tt : Fn Bool} {te : Fn B} {b : B} {bs : List B} : lcLoop (fun _ => True) tf tt te sl (b :: bs) cs = (match tf b sl with
    | none => .no
    | some sl1 => (noEx (tt sl1 cs)).bind fun k cs1 => if k = true then (noEx (te sl1 cs1)).bind fun y cs2 => (lcLoop (fun _ => True) tf tt te sl bs cs2).bind fun ys cs3 => .ok (y :: ys) cs3 else lcLoop (fun _ => True) tf tt te sl bs cs1) := lc_cons (okc := fun _ => True) trivial
theorem lc_nil {okc : Cs → Prop} {tf : TgF} {tt : Fn Bool} {te : Fn B} (h : okc cs) : lcLoop okc tf tt te sl [] cs = .ok [] cs := by
  unfold lcLoop
  rw [if_pos h]
theorem lc_nilT {tf : TgF} {tt : Fn Bool} {te : Fn B} : lcLoop (fun _ => True) tf tt te sl [] cs = .ok [] cs := lc_nil (okc := fun _ => True) trivial
end
end VM
namespace K42
open PySem VM L2
open Classical
section
variable {c0 t : Cs} {f : Nat} {S : Nat → Prop} {gs : Gs} {a b c l : Nat} {A F G C : List Bool → Bool}
theorem own_at {t : Cs} (xs : List B) : (ST c0 f gs (t ++ [.lst xs]))[c0.length + 3 + t.length]? = some (.lst xs) := by
  rw [bs3, List.getElem?_append_right (Nat.le_refl _), Nat.sub_self]; rfl
theorem app_own {t : Cs} (xs : List B) (y : B) (h : xs.length < 1000) : gAppend (c0.length + 3 + t.length) [y] (ST c0 f gs (t ++ [.lst xs])) = .ok (.d .none) (ST c0 f gs (t ++ [.lst (xs ++ [y])])) := by
  unfold gAppend
  simp only [own_at]
  rw [if_pos (Nat.lt_trans h (by decide))]
  congr 1
  unfold ST
  rw [List.set_append_right _ _ (by omega), List.set_append_right _ _ (by simp [BS]; omega), List.set_append_right _ _ (by simp [BS]; omega), show c0.length + 3 + t.length - c0.length - (BS c0.length f gs).length - t.length = 0 by simp [BS]; omega]
  rfl
noncomputable def addBody : FnS := (sSeq (sSet 7 (eMeth "Build" "differ" 3 F_Build_differ (eVar 0) (aCons (eVar 5) (aCons (eVar 6) aNil))))
  (sSeq (sExpr (eBM isLst gAppend (eVar 4) (aCons (eMeth "Build" "differ" 3 F_Build_differ (eVar 0) (aCons (eVar 7) (aCons (eVar 3) aNil))) aNil)))
  (sSet 3 (eMeth "Build" "either" 3 F_Build_either (eVar 0) (aCons (eMeth "Build" "both" 3 F_Build_both (eVar 0) (aCons (eVar 5) (aCons (eVar 6) aNil))) (aCons (eMeth "Build" "both" 3 F_Build_both (eVar 0) (aCons (eVar 7) (aCons (eVar 3) aNil))) aNil))))))
theorem add_turn (ok : Ok (f + 1) gs) (ha : Dn (f + 1) S gs a F) (hb : Dn (f + 1) S gs b G) (hc : Dn (f + 1) S gs c C) (hl : gs.length + 9 ≤ 20000) (xs : List B) (hx : xs.length < 1000) (x1 x2 x7 : Option B) :
    ∃ gs' s c' x7', addBody [some (.r c0.length), x1, x2, some (.d (dN c)), some (.r (c0.length + 3 + t.length)), some (.d (dN a)), some (.d (dN b)), x7] (ST c0 f gs (t ++ [.lst xs])) =
      .nx [some (.r c0.length), x1, x2, some (.d (dN c')), some (.r (c0.length + 3 + t.length)), some (.d (dN a)), some (.d (dN b)), x7'] (ST c0 f gs' (t ++ [.lst (xs ++ [.d (dN s)])])) ∧
      Ex gs gs' 9 ∧ Ok (f + 1) gs' ∧ Dn (f + 1) S gs' s (fun β => (F β ^^ G β) ^^ C β) ∧ Dn (f + 1) S gs' c' (fun β => (F β && G β) || ((F β ^^ G β) && C β)) := by
  obtain ⟨g1, r1, e1, x1', ok1, d1⟩ := (M_differ (c0 := c0) (t := t ++ [.lst xs]) ok ha hb (by omega)).ex
  have l1 := x1'.len
  obtain ⟨g2, r2, e2, x2', ok2, d2⟩ := (M_differ (c0 := c0) (t := t ++ [.lst xs]) ok1 d1 (hc.up x1') (by omega)).ex
  have l2 := x2'.len
  have x12 := x1'.trans x2'
  obtain ⟨g3, r3, e3, x3, ok3, d3⟩ := (M_both (c0 := c0) (t := t ++ [.lst (xs ++ [.d (dN r2)])]) ok2 (ha.up x12) (hb.up x12) (by omega)).ex
  have l3 := x3.len
  obtain ⟨g4, r4, e4, x4, ok4, d4⟩ := (M_both (c0 := c0) (t := t ++ [.lst (xs ++ [.d (dN r2)])]) ok3 ((d1.up x2').up x3) ((hc.up x12).up x3) (by omega)).ex
  have l4 := x4.len
  obtain ⟨g5, r5, e5, x5, ok5, d5⟩ := (M_either (c0 := c0) (t := t ++ [.lst (xs ++ [.d (dN r2)])]) ok4 (d3.up x4) d4 (by omega)).ex
  refine ⟨g5, r2, r5, some (.d (dN r1)), ?_, ((x12.trans x3).trans x4).trans x5, ok5, ((d2.up x3).up x4).up x5, d5⟩
  simp only [addBody, ap_mDef, ap_sNext, ap_sSeq, ap_sSet, ap_sExpr, ap_sRet, ap_sIf, ap_sPar, ap_sAsg, ap_sFldSet, ap_sPut, ap_sFor, ap_sBreak, ap_sNever, ap_sPass, ap_sCont, ap_tgName, ap_tgNil, ap_tgCons, ap_tgTupT, ap_tgTupL, ap_eVar, ap_eD, ap_eB, ap_eBin, ap_eUn, ap_eT, ap_eTru, ap_eNot, ap_eAnd, ap_eOr, ap_eNotV, ap_eAndV, ap_eOrV, ap_eIf, ap_eChain, ap_eFn, ap_eCall, ap_lCall, ap_aNil, ap_aCons, ap_aStar, ap_eTup, ap_lTake, ap_eFrz, ap_eCell, ap_lBin, ap_eBM, ap_eFld, ap_eMeth, ap_eMake, ap_eDNew, ap_eCutT, ap_oNone, ap_oSome, ap_eYes, g_add, g_sub, g_lt, g_le, g_gt, g_ge, isB_b, onB_b, tru_b, tru_i, g_int, g_intb, g_max, g_min, g_eqi, g_nei, retOf_nx, retOf_rt, ER.bind_ok, sE_ok, noEx_ok, List.map_cons, List.map_nil, List.length_cons, List.length_nil, List.replicate, List.cons_append, List.nil_append, List.getElem?_cons_succ, List.getElem?_cons_zero, List.set_cons_succ, List.set_cons_zero, if_true, reduceIte, Nat.zero_add, Nat.reduceAdd, Nat.reduceSub, Option.bind_some, allD_cons, allD_nil, Option.map_some, orE_ok, orE_no, and_self, Bool.false_eq_true, if_false, decide_true, decide_false, Bool.not_true, Bool.not_false, bs0, lk_differ, lk_both, lk_either, e1, e2, own_at, isLst, app_own _ _ hx, e3, e4, e5]
theorem M_add (ok : Ok (f + 1) gs) {a0 a1 b0 b1 : Nat} {F0 F1 G0 G1 : List Bool → Bool} (ha0 : Dn (f + 1) S gs a0 F0) (ha1 : Dn (f + 1) S gs a1 F1) (hb0 : Dn (f + 1) S gs b0 G0) (hb1 : Dn (f + 1) S gs b1 G1) (hc : Dn (f + 1) S gs c C) (hl : gs.length + 18 ≤ 20000) :
    Gv2 c0 t f S gs 18 (F_Build_add [.r c0.length, .d (dW [a0, a1]), .d (dW [b0, b1]), .d (dN c)] (ST c0 f gs t)) (fun β => (F0 β ^^ G0 β) ^^ C β) (fun β => (F1 β ^^ G1 β) ^^ ((F0 β && G0 β) || ((F0 β ^^ G0 β) && C β))) := by
  obtain ⟨g1, s0, c1, y7, e1, x1, ok1, d1, k1⟩ := add_turn (c0 := c0) (t := t) ok ha0 hb0 hc (by omega) [] (by simp) (some (.d (dW [a0, a1]))) (some (.d (dW [b0, b1]))) none
  have l1 := x1.len
  obtain ⟨g2, s1, c2, z7, e2, x2, ok2, d2, k2⟩ := add_turn (c0 := c0) (t := t) ok1 (ha1.up x1) (hb1.up x1) k1 (by omega) [.d (dN s0)] (by simp) (some (.d (dW [a0, a1]))) (some (.d (dW [b0, b1]))) y7
  refine ⟨g2, s0, s1, ?_, x1.trans x2, ok2, d1.up x2, d2⟩
  have hz : (0 : Nat) ≤ sizeLine := by decide
  have e0 : F_Build_add = mDef 8 (sSeq (sSet 4 (eCell (lTake aNil))) (sSeq (sFor (VM.iZip (aCons (eVar 1) (aCons (eVar 2) aNil))) (tgTup 2 (tgCons (tgName 5) (tgCons (tgName 6) tgNil))) addBody) (sRet (eCall gTuple (aCons (eVar 4) aNil))))) gcR := rfl
  have e3 : gTuple [.r (c0.length + 3 + t.length)] (ST c0 f g2 (t ++ [.lst [.d (dN s0), .d (dN s1)]])) = .ok (.d (dW [s0, s1])) (ST c0 f g2 (t ++ [.lst [.d (dN s0), .d (dN s1)]])) := g_tup_r _ [dN s0, dN s1] (own_at _)
  rw [e0]
  simp only [List.nil_append] at e1
  simp only [ap_mDef, ap_sSeq, ap_sSet, ap_eCell, ap_lTake, ap_aNil, ER.bind_ok, List.length_nil, hz, if_true, sE_ok, bsl, st_snoc, ap_sFor, ap_iZip, ap_aCons, ap_eVar, List.map_cons, List.map_nil, List.length_cons, List.replicate, List.cons_append, List.nil_append, List.getElem?_cons_succ, List.getElem?_cons_zero, List.set_cons_succ, List.set_cons_zero, Nat.zero_add, Nat.reduceAdd, Nat.reduceSub,
    pairD2, loop_consT, loop_nilT, ap_tgTupT, ap_tgCons, ap_tgName, ap_tgNil, Option.bind_some, e1, e2, ap_sRet, ap_eCall, e3, retOf_rt, gcR_b]
/-- all_of of two -/
theorem M_all (ok : Ok (f + 1) gs) (ha : Dn (f + 1) S gs a F) (hb : Dn (f + 1) S gs b G) (hl : gs.length + 2 ≤ 20000) :
    Gv c0 t f S gs 2 (F_Build_all_of [.r c0.length, .d (.list [dN a, dN b])] (ST c0 f gs t)) (fun β => F β && G β) := by
  obtain ⟨g1, r1, e1, x1, ok1, d1⟩ := (M_both (c0 := c0) (t := t) ok (dn_true (Nat.succ_pos f) gs) ha (by omega)).ex
  have l1 := x1.len
  obtain ⟨g2, r2, e2, x2, ok2, d2⟩ := (M_both (c0 := c0) (t := t) ok1 d1 (hb.up x1) (by omega)).ex
  refine ⟨g2, r2, ?_, x1.trans x2, ok2, d2.imp fun β => by simp⟩
  have e1 : F_Build_both [.r c0.length, .d (.int 1), .d (dN a)] (ST c0 f gs t) = .ok (.d (dN r1)) (ST c0 f g1 t) := e1
  unfold F_Build_all_of
  simp only [ap_mDef, ap_sSeq, ap_sSet, ap_eB, b_TRUE, sE_ok, List.map_cons, List.map_nil, List.length_cons, List.length_nil, List.replicate, List.cons_append, List.nil_append, List.set_cons_succ, List.set_cons_zero, ap_sFor, Nat.zero_add, Nat.reduceAdd, Nat.reduceSub]
  rw [i_seq_l _ [dN a, dN b] (ST c0 f gs t) rfl]
  simp only [ap_mDef, ap_sNext, ap_sSeq, ap_sSet, ap_sExpr, ap_sRet, ap_sIf, ap_sPar, ap_sAsg, ap_sFldSet, ap_sPut, ap_sFor, ap_sBreak, ap_sNever, ap_sPass, ap_sCont, ap_tgName, ap_tgNil, ap_tgCons, ap_tgTupT, ap_tgTupL, ap_eVar, ap_eD, ap_eB, ap_eBin, ap_eUn, ap_eT, ap_eTru, ap_eNot, ap_eAnd, ap_eOr, ap_eNotV, ap_eAndV, ap_eOrV, ap_eIf, ap_eChain, ap_eFn, ap_eCall, ap_lCall, ap_aNil, ap_aCons, ap_aStar, ap_eTup, ap_lTake, ap_eFrz, ap_eCell, ap_lBin, ap_eBM, ap_eFld, ap_eMeth, ap_eMake, ap_eDNew, ap_eCutT, ap_oNone, ap_oSome, ap_eYes, g_add, g_sub, g_lt, g_le, g_gt, g_ge, isB_b, onB_b, tru_b, tru_i, g_int, g_intb, g_max, g_min, g_eqi, g_nei, retOf_nx, retOf_rt, ER.bind_ok, sE_ok, noEx_ok, List.map_cons, List.map_nil, List.length_cons, List.length_nil, List.replicate, List.cons_append, List.nil_append, List.getElem?_cons_succ, List.getElem?_cons_zero, List.set_cons_succ, List.set_cons_zero, if_true, reduceIte, Nat.zero_add, Nat.reduceAdd, Nat.reduceSub, Option.bind_some, allD_cons, allD_nil, Option.map_some, orE_ok, orE_no, and_self, Bool.false_eq_true, if_false, decide_true, decide_false, Bool.not_true, Bool.not_false, loop_consT, loop_nilT, bs0, lk_both, e1, e2, gcR_b0]
theorem M_same (ok : Ok (f + 1) gs) {a0 a1 b0 b1 : Nat} {F0 F1 G0 G1 : List Bool → Bool} (ha0 : Dn (f + 1) S gs a0 F0) (ha1 : Dn (f + 1) S gs a1 F1) (hb0 : Dn (f + 1) S gs b0 G0) (hb1 : Dn (f + 1) S gs b1 G1) (hl : gs.length + 8 ≤ 20000) :
    Gv c0 t f S gs 8 (F_Build_same [.r c0.length, .d (dW [a0, a1]), .d (dW [b0, b1])] (ST c0 f gs t)) (fun β => (!(F0 β ^^ G0 β)) && (!(F1 β ^^ G1 β))) := by
  obtain ⟨g1, r1, e1, x1, ok1, d1⟩ := (M_differ (c0 := c0) (t := t) ok ha0 hb0 (by omega)).ex
  have l1 := x1.len
  obtain ⟨g2, r2, e2, x2, ok2, d2⟩ := (M_differ (c0 := c0) (t := t) ok1 (ha1.up x1) (hb1.up x1) (by omega)).ex
  have l2 := x2.len
  obtain ⟨g3, r3, e3, x3, ok3, d3⟩ := (M_all (c0 := c0) (t := t) ok2 (d1.opp.up x2) d2.opp (by omega)).ex
  refine ⟨g3, r3, ?_, (x1.trans x2).trans x3, ok3, d3⟩
  have hz : (2 : Nat) < sizeLine := by decide
  unfold F_Build_same
  simp only [ap_mDef, ap_sRet, ap_eMeth, ap_eVar, ap_aCons, ap_aNil, ap_eFrz, List.map_cons, List.map_nil, List.length_cons, List.length_nil, List.replicate, List.cons_append, List.nil_append, List.getElem?_cons_succ, List.getElem?_cons_zero, ER.bind_ok, bs0, lk_all_of, Nat.zero_add, Nat.reduceAdd, Nat.reduceSub, and_self, if_true]
  rw [ap_lComp (items := [.d (.tuple [dN a0, dN b0]), .d (.tuple [dN a1, dN b1])]) (okc := fun _ => True) (cs1 := ST c0 f gs t) rfl hz]
  simp only [wipeS, List.set_cons_succ, List.set_cons_zero]
  simp only [lc_consT, lc_nilT, ap_mDef, ap_sNext, ap_sSeq, ap_sSet, ap_sExpr, ap_sRet, ap_sIf, ap_sPar, ap_sAsg, ap_sFldSet, ap_sPut, ap_sFor, ap_sBreak, ap_sNever, ap_sPass, ap_sCont, ap_tgName, ap_tgNil, ap_tgCons, ap_tgTupT, ap_tgTupL, ap_eVar, ap_eD, ap_eB, ap_eBin, ap_eUn, ap_eT, ap_eTru, ap_eNot, ap_eAnd, ap_eOr, ap_eNotV, ap_eAndV, ap_eOrV, ap_eIf, ap_eChain, ap_eFn, ap_eCall, ap_lCall, ap_aNil, ap_aCons, ap_aStar, ap_eTup, ap_lTake, ap_eFrz, ap_eCell, ap_lBin, ap_eBM, ap_eFld, ap_eMeth, ap_eMake, ap_eDNew, ap_eCutT, ap_oNone, ap_oSome, ap_eYes, g_add, g_sub, g_lt, g_le, g_gt, g_ge, isB_b, onB_b, tru_b, tru_i, g_int, g_intb, g_max, g_min, g_eqi, g_nei, retOf_nx, retOf_rt, ER.bind_ok, sE_ok, noEx_ok, List.map_cons, List.map_nil, List.length_cons, List.length_nil, List.replicate, List.cons_append, List.nil_append, List.getElem?_cons_succ, List.getElem?_cons_zero, List.set_cons_succ, List.set_cons_zero, if_true, reduceIte, Nat.zero_add, Nat.reduceAdd, Nat.reduceSub, Option.bind_some, allD_cons, allD_nil, Option.map_some, orE_ok, orE_no, and_self, Bool.false_eq_true, if_false, decide_true, decide_false, Bool.not_true, Bool.not_false, bs0, lk_differ, e1, e2, F_opp, e3, gcR_b0]
theorem M_less (ok : Ok (f + 1) gs) {a0 a1 b0 b1 : Nat} {F0 F1 G0 G1 : List Bool → Bool} (ha0 : Dn (f + 1) S gs a0 F0) (ha1 : Dn (f + 1) S gs a1 F1) (hb0 : Dn (f + 1) S gs b0 G0) (hb1 : Dn (f + 1) S gs b1 G1) (hl : gs.length + 12 ≤ 20000) :
    Gv c0 t f S gs 12 (F_Build_less [.r c0.length, .d (dW [a0, a1]), .d (dW [b0, b1])] (ST c0 f gs t)) (fun β => if F1 β ^^ G1 β then G1 β else if F0 β ^^ G0 β then G0 β else false) := by
  obtain ⟨g1, r1, e1, x1, ok1, d1⟩ := (M_differ (c0 := c0) (t := t) ok ha0 hb0 (by omega)).ex
  have l1 := x1.len
  obtain ⟨g2, r2, e2, x2, ok2, d2⟩ := (M_choose (c0 := c0) (t := t) ok1 d1 (hb0.up x1) (dn_false (Nat.succ_pos f) g1) (by omega)).ex
  have l2 := x2.len
  have x12 := x1.trans x2
  obtain ⟨g3, r3, e3, x3, ok3, d3⟩ := (M_differ (c0 := c0) (t := t) ok2 (ha1.up x12) (hb1.up x12) (by omega)).ex
  have l3 := x3.len
  obtain ⟨g4, r4, e4, x4, ok4, d4⟩ := (M_choose (c0 := c0) (t := t) ok3 d3 ((hb1.up x12).up x3) (d2.up x3) (by omega)).ex
  refine ⟨g4, r4, ?_, (x12.trans x3).trans x4, ok4, d4⟩
  have e2 : F_Build_choose [.r c0.length, .d (dN r1), .d (dN b0), .d (.int 0)] (ST c0 f g1 t) = .ok (.d (dN r2)) (ST c0 f g2 t) := e2
  unfold F_Build_less
  simp only [ap_mDef, ap_sNext, ap_sSeq, ap_sSet, ap_sExpr, ap_sRet, ap_sIf, ap_sPar, ap_sAsg, ap_sFldSet, ap_sPut, ap_sFor, ap_sBreak, ap_sNever, ap_sPass, ap_sCont, ap_tgName, ap_tgNil, ap_tgCons, ap_tgTupT, ap_tgTupL, ap_eVar, ap_eD, ap_eB, ap_eBin, ap_eUn, ap_eT, ap_eTru, ap_eNot, ap_eAnd, ap_eOr, ap_eNotV, ap_eAndV, ap_eOrV, ap_eIf, ap_eChain, ap_eFn, ap_eCall, ap_lCall, ap_aNil, ap_aCons, ap_aStar, ap_eTup, ap_lTake, ap_eFrz, ap_eCell, ap_lBin, ap_eBM, ap_eFld, ap_eMeth, ap_eMake, ap_eDNew, ap_eCutT, ap_oNone, ap_oSome, ap_eYes, g_add, g_sub, g_lt, g_le, g_gt, g_ge, isB_b, onB_b, tru_b, tru_i, g_int, g_intb, g_max, g_min, g_eqi, g_nei, retOf_nx, retOf_rt, ER.bind_ok, sE_ok, noEx_ok, List.map_cons, List.map_nil, List.length_cons, List.length_nil, List.replicate, List.cons_append, List.nil_append, List.getElem?_cons_succ, List.getElem?_cons_zero, List.set_cons_succ, List.set_cons_zero, if_true, reduceIte, Nat.zero_add, Nat.reduceAdd, Nat.reduceSub, Option.bind_some, allD_cons, allD_nil, Option.map_some, orE_ok, orE_no, and_self, Bool.false_eq_true, if_false, decide_true, decide_false, Bool.not_true, Bool.not_false, b_FALSE, ap_iZip, pairD2, loop_consT, loop_nilT, bs0, lk_differ, lk_choose, e1, e2, e3, e4, gcR_b0]
end
end K42

/-! M8: words of two multiplied; all kinds; picking. -/
namespace VM
open PySem L2
section
variable {sl : Sl} {cs : Cs}
theorem ap_iEnum_t (fs : Fn (List B)) (xs : List D) (cs1 : Cs) (h : fs sl cs = .ok [.d (.tuple xs)] cs1) : VM.iEnum fs sl cs = .ok (enumD xs, fun _ => True) cs1 := by unfold VM.iEnum; rw [h]; rfl
theorem g_rep (xs : List D) (k : Int) (h : -1000 ≤ k ∧ k ≤ 1000 ∧ xs.length ≤ 1000) : gRepT (.d (.tuple xs)) (.d (.int k)) cs = .ok (.d (.tuple (List.replicate k.toNat xs).flatten)) cs := if_pos h
theorem g_catT (xs ys : List D) (h : xs.length + ys.length ≤ sizeLine) : gCatT (.d (.tuple xs)) (.d (.tuple ys)) cs = .ok (.d (.tuple (xs ++ ys))) cs := if_pos h
theorem rep0 : gRepT (.d (.tuple [.int 0])) (.d (.int 0)) cs = .ok (.d (.tuple [])) cs := g_rep _ _ (by decide)
theorem rep1 : gRepT (.d (.tuple [.int 0])) (.d (.int 1)) cs = .ok (.d (.tuple [.int 0])) cs := g_rep _ _ (by decide)
theorem rep2 : gRepT (.d (.tuple [.int 0])) (.d (.int 2)) cs = .ok (.d (.tuple [.int 0, .int 0])) cs := g_rep _ _ (by decide)
theorem cat_t (xs ys : List D) (h : xs.length + ys.length ≤ 1000) : gAlt gAdd gCatT (.d (.tuple xs)) (.d (.tuple ys)) cs = .ok (.d (.tuple (xs ++ ys))) cs := by
  rw [ap_gAlt, g_catT _ _ (Nat.le_trans h (by decide))]
  rfl
end
end VM
namespace K42
open PySem VM L2
open Classical
section
variable {c0 t : Cs} {f : Nat} {S : Nat → Prop} {gs : Gs} {a b c l : Nat} {A F G C : List Bool → Bool}
noncomputable def mulBody : FnS := (sSeq (sSet 6 (eCutT (eBin (gAlt gAdd gCatT) (eBin gRepT (eTup (aCons (eB b_FALSE) aNil)) (eVar 4)) (eCall gTuple (aCons (eVar 1) aNil))) oNone (oSome (eCall gLenU (aCons (eVar 1) aNil)))))
  (sSet 3 (eMeth "Build" "add" 4 F_Build_add (eVar 0) (aCons (eVar 3) (aCons (eCall gTuple (aCons (eFrz (lComp (iSeq (eVar 6)) (tgName 7) eYes (eMeth "Build" "both" 3 F_Build_both (eVar 0) (aCons (eVar 5) (aCons (eVar 7) aNil))) [7])) aNil)) (aCons (eB b_FALSE) aNil))))))
/-- one turn: the moved word is [m0, m1] -/
theorem mul_turn (ok : Ok (f + 1) gs) {a0 a1 p0 p1 m0 m1 at_ : Nat} {P0 P1 M0 M1 : List Bool → Bool} (hp0 : Dn (f + 1) S gs p0 P0) (hp1 : Dn (f + 1) S gs p1 P1) (hm0 : Dn (f + 1) S gs m0 M0) (hm1 : Dn (f + 1) S gs m1 M1) (hb : Dn (f + 1) S gs b G) (hl : gs.length + 20 ≤ 20000) (x2 x6 x7 : Option B)
    (hmv : ∀ cs : Cs, ∃ zs : List D, gRepT (.d (.tuple [.int 0])) (.d (.int (at_ : Int))) cs = .ok (.d (.tuple zs)) cs ∧ zs.length ≤ 2 ∧ cutB (zs ++ [dN a0, dN a1]) none (some 2) = [dN m0, dN m1]) :
    ∃ gs' s0 s1 x6', mulBody [some (.r c0.length), some (.d (dW [a0, a1])), x2, some (.d (dW [p0, p1])), some (.d (dN at_)), some (.d (dN b)), x6, x7] (ST c0 f gs t) =
      .nx [some (.r c0.length), some (.d (dW [a0, a1])), x2, some (.d (dW [s0, s1])), some (.d (dN at_)), some (.d (dN b)), x6', x7] (ST c0 f gs' t) ∧ Ex gs gs' 20 ∧ Ok (f + 1) gs' ∧
      Dn (f + 1) S gs' s0 (fun β => P0 β ^^ (G β && M0 β)) ∧ Dn (f + 1) S gs' s1 (fun β => (P1 β ^^ (G β && M1 β)) ^^ (P0 β && (G β && M0 β))) := by
  obtain ⟨g1, r1, e1, x1', ok1, d1⟩ := (M_both (c0 := c0) (t := t) ok hb hm0 (by omega)).ex
  have l1 := x1'.len
  obtain ⟨g2, r2, e2, x2', ok2, d2⟩ := (M_both (c0 := c0) (t := t) ok1 (hb.up x1') (hm1.up x1') (by omega)).ex
  have l2 := x2'.len
  have x12 := x1'.trans x2'
  obtain ⟨g3, s0, s1, e3, x3, ok3, d3, d4⟩ := (M_add (c0 := c0) (t := t) ok2 (hp0.up x12) (hp1.up x12) (d1.up x2') d2 (dn_false (Nat.succ_pos f) g2) (by omega)).ex
  refine ⟨g3, s0, s1, some (.d (dW [m0, m1])), ?_, x12.trans x3, ok3, d3.imp fun β => by simp, d4.imp fun β => by simp⟩
  have e3 : F_Build_add [.r c0.length, .d (dW [p0, p1]), .d (.tuple [dN r1, dN r2]), .d (.int 0)] (ST c0 f g2 t) = .ok (.d (dW [s0, s1])) (ST c0 f g3 t) := e3
  have hz : (2 : Nat) < sizeLine := by decide
  have hz1 : (1 : Nat) ≤ sizeLine := by decide
  obtain ⟨zs, z1, z2, z3⟩ := hmv (ST c0 f gs t)
  have z4 : gAlt gAdd gCatT (.d (.tuple zs)) (.d (.tuple [dN a0, dN a1])) (ST c0 f gs t) = .ok (.d (.tuple (zs ++ [dN a0, dN a1]))) (ST c0 f gs t) := cat_t _ _ (by simp; omega)
  have z5 : ∀ gs' : Gs, gLenU [.d (dW [a0, a1])] (ST c0 f gs' t) = .ok (.d (.int 2)) (ST c0 f gs' t) := fun gs' => g_len_t _
  have z6 : eFrz (lComp (iSeq (eVar 6)) (tgName 7) eYes (eMeth "Build" "both" 3 F_Build_both (eVar 0) (aCons (eVar 5) (aCons (eVar 7) aNil))) [7]) [some (.r c0.length), some (.d (dW [a0, a1])), x2, some (.d (dW [p0, p1])), some (.d (dN at_)), some (.d (dN b)), some (.d (.tuple [dN m0, dN m1])), x7] (ST c0 f gs t) = .ok (.d (.list [dN r1, dN r2])) (ST c0 f g2 t) := by
    rw [ap_eFrz, ap_lComp (items := [.d (dN m0), .d (dN m1)]) (okc := fun _ => True) (cs1 := ST c0 f gs t) rfl hz]
    simp only [wipeS, List.set_cons_succ, List.set_cons_zero]
    simp only [lc_consT, lc_nilT, ap_mDef, ap_sNext, ap_sSeq, ap_sSet, ap_sExpr, ap_sRet, ap_sIf, ap_sPar, ap_sAsg, ap_sFldSet, ap_sPut, ap_sFor, ap_sBreak, ap_sNever, ap_sPass, ap_sCont, ap_tgName, ap_tgNil, ap_tgCons, ap_tgTupT, ap_tgTupL, ap_eVar, ap_eD, ap_eB, ap_eBin, ap_eUn, ap_eT, ap_eTru, ap_eNot, ap_eAnd, ap_eOr, ap_eNotV, ap_eAndV, ap_eOrV, ap_eIf, ap_eChain, ap_eFn, ap_eCall, ap_lCall, ap_aNil, ap_aCons, ap_aStar, ap_eTup, ap_lTake, ap_eFrz, ap_eCell, ap_lBin, ap_eBM, ap_eFld, ap_eMeth, ap_eMake, ap_eDNew, ap_eCutT, ap_oNone, ap_oSome, ap_eYes, g_add, g_sub, g_lt, g_le, g_gt, g_ge, isB_b, onB_b, tru_b, tru_i, g_int, g_intb, g_max, g_min, g_eqi, g_nei, retOf_nx, retOf_rt, ER.bind_ok, sE_ok, noEx_ok, List.map_cons, List.map_nil, List.length_cons, List.length_nil, List.replicate, List.cons_append, List.nil_append, List.getElem?_cons_succ, List.getElem?_cons_zero, List.set_cons_succ, List.set_cons_zero, if_true, reduceIte, Nat.zero_add, Nat.reduceAdd, Nat.reduceSub, Option.bind_some, allD_cons, allD_nil, Option.map_some, orE_ok, orE_no, and_self, Bool.false_eq_true, if_false, decide_true, decide_false, Bool.not_true, Bool.not_false, bs0, lk_both, e1, e2]
  unfold mulBody
  simp only [ap_sSeq, ap_sSet, ap_eCutT, ap_eBin, ap_eTup, ap_aCons, ap_eB, b_FALSE, ap_aNil, ER.bind_ok, allD_cons, allD_nil, Option.map_some, List.length_cons, List.length_nil, Nat.zero_add, hz1, if_true, ap_eVar, List.getElem?_cons_succ, List.getElem?_cons_zero, z1, ap_eCall, g_tup_t, List.map_cons, List.map_nil, z4, ap_oNone, ap_oSome, z5, z3, sE_ok,
    List.set_cons_succ, List.set_cons_zero, ap_eMeth, bs0, lk_add, and_self, z6, g_tup_l, Nat.reduceAdd, e3]
  rfl
theorem M_times (ok : Ok (f + 1) gs) {a0 a1 b0 b1 : Nat} {F0 F1 G0 G1 : List Bool → Bool} (ha0 : Dn (f + 1) S gs a0 F0) (ha1 : Dn (f + 1) S gs a1 F1) (hb0 : Dn (f + 1) S gs b0 G0) (hb1 : Dn (f + 1) S gs b1 G1) (hl : gs.length + 40 ≤ 20000) :
    Gv2 c0 t f S gs 40 (F_Build_times [.r c0.length, .d (dW [a0, a1]), .d (dW [b0, b1])] (ST c0 f gs t)) (fun β => G0 β && F0 β) (fun β => (G0 β && F1 β) ^^ (G1 β && F0 β)) := by
  have z := dn_false (n := f + 1) (S := S) (Nat.succ_pos f) gs
  obtain ⟨g1, p0, p1, y6, e1, x1, ok1, d1, k1⟩ := mul_turn (c0 := c0) (t := t) (a0 := a0) (a1 := a1) (at_ := 0) ok z z ha0 ha1 hb0 (by omega) (some (.d (dW [b0, b1]))) none none (fun cs => ⟨[], rep0, by simp, rfl⟩)
  have l1 := x1.len
  have z1 := dn_false (n := f + 1) (S := S) (Nat.succ_pos f) g1
  obtain ⟨g2, s0, s1, z6, e2, x2, ok2, d2, k2⟩ := mul_turn (c0 := c0) (t := t) (a0 := a0) (a1 := a1) (at_ := 1) ok1 d1 k1 z1 (ha0.up x1) (hb1.up x1) (by omega) (some (.d (dW [b0, b1]))) y6 none (fun cs => ⟨[.int 0], rep1, by simp, rfl⟩)
  refine ⟨g2, s0, s1, ?_, x1.trans x2, ok2, d2.imp fun β => by simp, k2.imp fun β => by simp⟩
  have e0 : F_Build_times = mDef 8 (sSeq (sSet 3 (eBin gRepT (eTup (aCons (eB b_FALSE) aNil)) (eCall gLenU (aCons (eVar 1) aNil)))) (sSeq (sFor (VM.iEnum (aCons (eVar 2) aNil)) (tgTup 2 (tgCons (tgName 4) (tgCons (tgName 5) tgNil))) mulBody) (sRet (eVar 3)))) gcR := rfl
  have hz1 : (1 : Nat) ≤ sizeLine := by decide
  have z5 : ∀ gs' : Gs, gLenU [.d (dW [a0, a1])] (ST c0 f gs' t) = .ok (.d (.int 2)) (ST c0 f gs' t) := fun gs' => g_len_t _
  have e1 : mulBody [some (.r c0.length), some (.d (dW [a0, a1])), some (.d (dW [b0, b1])), some (.d (.tuple [.int 0, .int 0])), some (.d (.int 0)), some (.d (dN b0)), none, none] (ST c0 f gs t) = _ := e1
  have e2 : mulBody [some (.r c0.length), some (.d (dW [a0, a1])), some (.d (dW [b0, b1])), some (.d (dW [p0, p1])), some (.d (.int 1)), some (.d (dN b1)), y6, none] (ST c0 f g1 t) = _ := e2
  rw [e0]
  simp only [ap_mDef, ap_sSeq, ap_sSet, ap_eBin, ap_eTup, ap_aCons, ap_eB, b_FALSE, ap_aNil, ER.bind_ok, allD_cons, allD_nil, Option.map_some, List.length_cons, List.length_nil, Nat.zero_add, hz1, if_true, ap_eVar, List.getElem?_cons_succ, List.getElem?_cons_zero, ap_eCall, List.map_cons, List.map_nil, z5, rep2, sE_ok, List.set_cons_succ, List.set_cons_zero, ap_sFor, List.replicate, List.cons_append, List.nil_append, Nat.reduceAdd, Nat.reduceSub]
  rw [ap_iEnum_t (xs := [dN b0, dN b1]) (cs1 := ST c0 f gs t) (h := rfl)]
  simp only [sE_ok, enumD2, loop_consT, loop_nilT, ap_tgTupT, ap_tgCons, ap_tgName, ap_tgNil, Option.bind_some, List.map_cons, List.map_nil, List.length_cons, List.length_nil, Nat.zero_add, Nat.reduceAdd, if_true, List.set_cons_succ, List.set_cons_zero, e1, e2, ap_sRet, ap_eVar, List.getElem?_cons_succ, List.getElem?_cons_zero, retOf_rt, gcR_b0]
theorem sq_add_sub : (("add" : Str) == ("sub" : Str)) = false := by decide
theorem sq_add_mul : (("add" : Str) == ("mul" : Str)) = false := by decide
theorem sq_add_same : (("add" : Str) == ("same" : Str)) = false := by decide
theorem sq_add_less : (("add" : Str) == ("less" : Str)) = false := by decide
theorem sq_add_least : (("add" : Str) == ("least" : Str)) = false := by decide
theorem sq_sub_add : (("sub" : Str) == ("add" : Str)) = false := by decide
theorem sq_sub_mul : (("sub" : Str) == ("mul" : Str)) = false := by decide
theorem sq_sub_same : (("sub" : Str) == ("same" : Str)) = false := by decide
theorem sq_sub_less : (("sub" : Str) == ("less" : Str)) = false := by decide
theorem sq_sub_least : (("sub" : Str) == ("least" : Str)) = false := by decide
theorem sq_mul_add : (("mul" : Str) == ("add" : Str)) = false := by decide
theorem sq_mul_sub : (("mul" : Str) == ("sub" : Str)) = false := by decide
theorem sq_mul_same : (("mul" : Str) == ("same" : Str)) = false := by decide
theorem sq_mul_less : (("mul" : Str) == ("less" : Str)) = false := by decide
theorem sq_mul_least : (("mul" : Str) == ("least" : Str)) = false := by decide
theorem sq_and_add : (("and" : Str) == ("add" : Str)) = false := by decide
theorem sq_and_sub : (("and" : Str) == ("sub" : Str)) = false := by decide
theorem sq_and_mul : (("and" : Str) == ("mul" : Str)) = false := by decide
theorem sq_and_same : (("and" : Str) == ("same" : Str)) = false := by decide
theorem sq_and_less : (("and" : Str) == ("less" : Str)) = false := by decide
theorem sq_and_least : (("and" : Str) == ("least" : Str)) = false := by decide
theorem sq_or_add : (("or" : Str) == ("add" : Str)) = false := by decide
theorem sq_or_sub : (("or" : Str) == ("sub" : Str)) = false := by decide
theorem sq_or_mul : (("or" : Str) == ("mul" : Str)) = false := by decide
theorem sq_or_same : (("or" : Str) == ("same" : Str)) = false := by decide
theorem sq_or_less : (("or" : Str) == ("less" : Str)) = false := by decide
theorem sq_or_least : (("or" : Str) == ("least" : Str)) = false := by decide
theorem sq_xor_add : (("xor" : Str) == ("add" : Str)) = false := by decide
theorem sq_xor_sub : (("xor" : Str) == ("sub" : Str)) = false := by decide
theorem sq_xor_mul : (("xor" : Str) == ("mul" : Str)) = false := by decide
theorem sq_xor_same : (("xor" : Str) == ("same" : Str)) = false := by decide
theorem sq_xor_less : (("xor" : Str) == ("less" : Str)) = false := by decide
theorem sq_xor_least : (("xor" : Str) == ("least" : Str)) = false := by decide
theorem sq_same_add : (("same" : Str) == ("add" : Str)) = false := by decide
theorem sq_same_sub : (("same" : Str) == ("sub" : Str)) = false := by decide
theorem sq_same_mul : (("same" : Str) == ("mul" : Str)) = false := by decide
theorem sq_same_less : (("same" : Str) == ("less" : Str)) = false := by decide
theorem sq_same_least : (("same" : Str) == ("least" : Str)) = false := by decide
theorem sq_less_add : (("less" : Str) == ("add" : Str)) = false := by decide
theorem sq_less_sub : (("less" : Str) == ("sub" : Str)) = false := by decide
theorem sq_less_mul : (("less" : Str) == ("mul" : Str)) = false := by decide
theorem sq_less_same : (("less" : Str) == ("same" : Str)) = false := by decide
theorem sq_less_least : (("less" : Str) == ("least" : Str)) = false := by decide
theorem sq_least_add : (("least" : Str) == ("add" : Str)) = false := by decide
theorem sq_least_sub : (("least" : Str) == ("sub" : Str)) = false := by decide
theorem sq_least_mul : (("least" : Str) == ("mul" : Str)) = false := by decide
theorem sq_least_same : (("least" : Str) == ("same" : Str)) = false := by decide
theorem sq_least_less : (("least" : Str) == ("less" : Str)) = false := by decide
theorem so_add : PyData.strOk "add" = true := by decide +kernel
theorem so_sub : PyData.strOk "sub" = true := by decide +kernel
theorem so_mul : PyData.strOk "mul" = true := by decide +kernel
theorem so_and : PyData.strOk "and" = true := by decide +kernel
theorem so_or : PyData.strOk "or" = true := by decide +kernel
theorem so_xor : PyData.strOk "xor" = true := by decide +kernel
theorem so_same : PyData.strOk "same" = true := by decide +kernel
theorem so_less : PyData.strOk "less" = true := by decide +kernel
theorem so_least : PyData.strOk "least" = true := by decide +kernel
theorem shaped_str (x : Str) (h : PyData.strOk x = true) : SeqAt.shaped (.str x) = true := by
  unfold SeqAt.shaped
  rw [PyData.canLay0.eq_def, PyData.depth.eq_def]
  simp only [h]
  rfl
theorem g_eqs (x y : Str) (hx : PyData.strOk x = true) (hy : PyData.strOk y = true) (cs : Cs) : gEq (.d (.str x)) (.d (.str y)) cs = .ok (.d (.bool (x == y))) cs := by
  unfold gEq
  simp only [bData_d]
  rw [if_pos ⟨shaped_str x hx, shaped_str y hy⟩, PyData.eqv.eq_def]
/-- the outcome of combine: a word of one, of two -/
structure Gw (c0 t : Cs) (f : Nat) (S : Nat → Prop) (gs : Gs) (m : Nat) (r : ER B) (Fs : List (List Bool → Bool)) : Prop where
  ex : ∃ gs' w, r = .ok (.d (dW w)) (ST c0 f gs' t) ∧ Ex gs gs' m ∧ Ok (f + 1) gs' ∧ w.length = Fs.length ∧ ∀ (i : Nat) (l : Nat) (F : List Bool → Bool), w[i]? = some l → Fs[i]? = some F → Dn (f + 1) S gs' l F
theorem gw2 {m : Nat} {r : ER B} (h : Gv2 c0 t f S gs m r F G) : Gw c0 t f S gs m r [F, G] := by
  obtain ⟨gs', l, k, e, x, ok, d1, d2⟩ := h.ex
  refine ⟨gs', [l, k], e, x, ok, rfl, fun i l' F' h1 h2 => ?_⟩
  match i, h1, h2 with
  | 0, h1, h2 => cases h1; cases h2; exact d1
  | 1, h1, h2 => cases h1; cases h2; exact d2
  | i + 2, h1, h2 => cases h1
theorem K_add (ok : Ok (f + 1) gs) {a0 a1 b0 b1 : Nat} {F0 F1 G0 G1 : List Bool → Bool} (ha0 : Dn (f + 1) S gs a0 F0) (ha1 : Dn (f + 1) S gs a1 F1) (hb0 : Dn (f + 1) S gs b0 G0) (hb1 : Dn (f + 1) S gs b1 G1) (hl : gs.length + 40 ≤ 20000) : Gw c0 t f S gs 40 (F_Build_combine [.r c0.length, .d (.str "add"), .d (dW [a0, a1]), .d (dW [b0, b1])] (ST c0 f gs t)) [fun β => F0 β ^^ G0 β, fun β => (F1 β ^^ G1 β) ^^ (F0 β && G0 β)] := by
  obtain ⟨gs', l, k, e, x, ok', d1, d2⟩ := (M_add (c0 := c0) (t := t) ok ha0 ha1 hb0 hb1 (dn_false (Nat.succ_pos f) gs) (by omega)).ex
  have e : F_Build_add [.r c0.length, .d (dW [a0, a1]), .d (dW [b0, b1]), .d (.int 0)] (ST c0 f gs t) = .ok (.d (dW [l, k])) (ST c0 f gs' t) := e
  refine gw2 ⟨gs', l, k, ?_, x.mono (by omega), ok', d1.imp fun β => by simp, d2.imp fun β => by simp⟩
  have q_add : ∀ cs : Cs, gEq (.d (.str "add")) (.d (.str "add")) cs = .ok (.d (.bool true)) cs := fun cs => by rw [g_eqs _ _ so_add so_add]; rfl
  simp only [F_Build_combine, ap_mDef, ap_sNext, ap_sSeq, ap_sSet, ap_sExpr, ap_sRet, ap_sIf, ap_sPar, ap_sAsg, ap_sFldSet, ap_sPut, ap_sFor, ap_sBreak, ap_sNever, ap_sPass, ap_sCont, ap_tgName, ap_tgNil, ap_tgCons, ap_tgTupT, ap_tgTupL, ap_eVar, ap_eD, ap_eB, ap_eBin, ap_eUn, ap_eT, ap_eTru, ap_eNot, ap_eAnd, ap_eOr, ap_eNotV, ap_eAndV, ap_eOrV, ap_eIf, ap_eChain, ap_eFn, ap_eCall, ap_lCall, ap_aNil, ap_aCons, ap_aStar, ap_eTup, ap_lTake, ap_eFrz, ap_eCell, ap_lBin, ap_eBM, ap_eFld, ap_eMeth, ap_eMake, ap_eDNew, ap_eCutT, ap_oNone, ap_oSome, ap_eYes, g_add, g_sub, g_lt, g_le, g_gt, g_ge, isB_b, onB_b, tru_b, tru_i, g_int, g_intb, g_max, g_min, g_eqi, g_nei, retOf_nx, retOf_rt, ER.bind_ok, sE_ok, noEx_ok, List.map_cons, List.map_nil, List.length_cons, List.length_nil, List.replicate, List.cons_append, List.nil_append, List.getElem?_cons_succ, List.getElem?_cons_zero, List.set_cons_succ, List.set_cons_zero, if_true, reduceIte, Nat.zero_add, Nat.reduceAdd, Nat.reduceSub, Option.bind_some, allD_cons, allD_nil, Option.map_some, orE_ok, orE_no, and_self, Bool.false_eq_true, if_false, decide_true, decide_false, Bool.not_true, Bool.not_false, q_add, bs0, lk_add, b_FALSE, e, gcR_b0]
theorem K_sub (ok : Ok (f + 1) gs) {a0 a1 b0 b1 : Nat} {F0 F1 G0 G1 : List Bool → Bool} (ha0 : Dn (f + 1) S gs a0 F0) (ha1 : Dn (f + 1) S gs a1 F1) (hb0 : Dn (f + 1) S gs b0 G0) (hb1 : Dn (f + 1) S gs b1 G1) (hl : gs.length + 40 ≤ 20000) : Gw c0 t f S gs 40 (F_Build_combine [.r c0.length, .d (.str "sub"), .d (dW [a0, a1]), .d (dW [b0, b1])] (ST c0 f gs t)) [fun β => F0 β ^^ G0 β, fun β => (F1 β ^^ !G1 β) ^^ (F0 β || !G0 β)] := by
  obtain ⟨gs', l, k, e, x, ok', d1, d2⟩ := (M_add (c0 := c0) (t := t) ok ha0 ha1 hb0.opp hb1.opp (dn_true (Nat.succ_pos f) gs) (by omega)).ex
  have e : F_Build_add [.r c0.length, .d (dW [a0, a1]), .d (.tuple [dN (opp b0), dN (opp b1)]), .d (.int 1)] (ST c0 f gs t) = .ok (.d (dW [l, k])) (ST c0 f gs' t) := e
  refine gw2 ⟨gs', l, k, ?_, x.mono (by omega), ok', d1.imp fun β => by cases F0 β <;> cases G0 β <;> rfl, d2.imp fun β => by cases F0 β <;> cases G0 β <;> cases F1 β <;> cases G1 β <;> rfl⟩
  have q_add : ∀ cs : Cs, gEq (.d (.str "sub")) (.d (.str "add")) cs = .ok (.d (.bool false)) cs := fun cs => by rw [g_eqs _ _ so_sub so_add, sq_sub_add]
  have q_sub : ∀ cs : Cs, gEq (.d (.str "sub")) (.d (.str "sub")) cs = .ok (.d (.bool true)) cs := fun cs => by rw [g_eqs _ _ so_sub so_sub]; rfl
  have hz : (2 : Nat) < sizeLine := by decide
  have z6 : eFrz (lComp (iSeq (eVar 3)) (tgName 5) eYes (eFn 1 F_opposite (aCons (eVar 5) aNil)) [5]) [some (.r c0.length), some (.d (.str "sub")), some (.d (dW [a0, a1])), some (.d (dW [b0, b1])), none, none, none] (ST c0 f gs t) = .ok (.d (.list [dN (opp b0), dN (opp b1)])) (ST c0 f gs t) := by
    rw [ap_eFrz, ap_lComp (items := [.d (dN b0), .d (dN b1)]) (okc := fun _ => True) (cs1 := ST c0 f gs t) rfl hz]
    simp only [wipeS, List.set_cons_succ, List.set_cons_zero]
    simp only [lc_consT, lc_nilT, ap_mDef, ap_sNext, ap_sSeq, ap_sSet, ap_sExpr, ap_sRet, ap_sIf, ap_sPar, ap_sAsg, ap_sFldSet, ap_sPut, ap_sFor, ap_sBreak, ap_sNever, ap_sPass, ap_sCont, ap_tgName, ap_tgNil, ap_tgCons, ap_tgTupT, ap_tgTupL, ap_eVar, ap_eD, ap_eB, ap_eBin, ap_eUn, ap_eT, ap_eTru, ap_eNot, ap_eAnd, ap_eOr, ap_eNotV, ap_eAndV, ap_eOrV, ap_eIf, ap_eChain, ap_eFn, ap_eCall, ap_lCall, ap_aNil, ap_aCons, ap_aStar, ap_eTup, ap_lTake, ap_eFrz, ap_eCell, ap_lBin, ap_eBM, ap_eFld, ap_eMeth, ap_eMake, ap_eDNew, ap_eCutT, ap_oNone, ap_oSome, ap_eYes, g_add, g_sub, g_lt, g_le, g_gt, g_ge, isB_b, onB_b, tru_b, tru_i, g_int, g_intb, g_max, g_min, g_eqi, g_nei, retOf_nx, retOf_rt, ER.bind_ok, sE_ok, noEx_ok, List.map_cons, List.map_nil, List.length_cons, List.length_nil, List.replicate, List.cons_append, List.nil_append, List.getElem?_cons_succ, List.getElem?_cons_zero, List.set_cons_succ, List.set_cons_zero, if_true, reduceIte, Nat.zero_add, Nat.reduceAdd, Nat.reduceSub, Option.bind_some, allD_cons, allD_nil, Option.map_some, orE_ok, orE_no, and_self, Bool.false_eq_true, if_false, decide_true, decide_false, Bool.not_true, Bool.not_false, F_opp]
  unfold F_Build_combine
  simp only [ap_mDef, ap_sSeq, ap_sIf, ap_eT, ap_eBin, ap_eVar, ap_eD, List.map_cons, List.map_nil, List.length_cons, List.length_nil, List.replicate, List.cons_append, List.nil_append, List.getElem?_cons_succ, List.getElem?_cons_zero, ER.bind_ok, q_add, q_sub, isB_b, sE_ok, Bool.false_eq_true, if_false, if_true, ap_sNext, ap_sRet, ap_eMeth, bs0, lk_add, and_self, ap_aCons, ap_aNil, ap_eCall, ap_eB, b_TRUE, z6, g_tup_l, Nat.zero_add, Nat.reduceAdd, Nat.reduceSub, e, retOf_rt, gcR_b0]
theorem K_mul (ok : Ok (f + 1) gs) {a0 a1 b0 b1 : Nat} {F0 F1 G0 G1 : List Bool → Bool} (ha0 : Dn (f + 1) S gs a0 F0) (ha1 : Dn (f + 1) S gs a1 F1) (hb0 : Dn (f + 1) S gs b0 G0) (hb1 : Dn (f + 1) S gs b1 G1) (hl : gs.length + 40 ≤ 20000) : Gw c0 t f S gs 40 (F_Build_combine [.r c0.length, .d (.str "mul"), .d (dW [a0, a1]), .d (dW [b0, b1])] (ST c0 f gs t)) [fun β => G0 β && F0 β, fun β => (G0 β && F1 β) ^^ (G1 β && F0 β)] := by
  obtain ⟨gs', l, k, e, x, ok', d1, d2⟩ := (M_times (c0 := c0) (t := t) ok ha0 ha1 hb0 hb1 (by omega)).ex
  refine gw2 ⟨gs', l, k, ?_, x, ok', d1, d2⟩
  have q_add : ∀ cs : Cs, gEq (.d (.str "mul")) (.d (.str "add")) cs = .ok (.d (.bool false)) cs := fun cs => by rw [g_eqs _ _ so_mul so_add, sq_mul_add]
  have q_sub : ∀ cs : Cs, gEq (.d (.str "mul")) (.d (.str "sub")) cs = .ok (.d (.bool false)) cs := fun cs => by rw [g_eqs _ _ so_mul so_sub, sq_mul_sub]
  have q_mul : ∀ cs : Cs, gEq (.d (.str "mul")) (.d (.str "mul")) cs = .ok (.d (.bool true)) cs := fun cs => by rw [g_eqs _ _ so_mul so_mul]; rfl
  simp only [F_Build_combine, ap_mDef, ap_sNext, ap_sSeq, ap_sSet, ap_sExpr, ap_sRet, ap_sIf, ap_sPar, ap_sAsg, ap_sFldSet, ap_sPut, ap_sFor, ap_sBreak, ap_sNever, ap_sPass, ap_sCont, ap_tgName, ap_tgNil, ap_tgCons, ap_tgTupT, ap_tgTupL, ap_eVar, ap_eD, ap_eB, ap_eBin, ap_eUn, ap_eT, ap_eTru, ap_eNot, ap_eAnd, ap_eOr, ap_eNotV, ap_eAndV, ap_eOrV, ap_eIf, ap_eChain, ap_eFn, ap_eCall, ap_lCall, ap_aNil, ap_aCons, ap_aStar, ap_eTup, ap_lTake, ap_eFrz, ap_eCell, ap_lBin, ap_eBM, ap_eFld, ap_eMeth, ap_eMake, ap_eDNew, ap_eCutT, ap_oNone, ap_oSome, ap_eYes, g_add, g_sub, g_lt, g_le, g_gt, g_ge, isB_b, onB_b, tru_b, tru_i, g_int, g_intb, g_max, g_min, g_eqi, g_nei, retOf_nx, retOf_rt, ER.bind_ok, sE_ok, noEx_ok, List.map_cons, List.map_nil, List.length_cons, List.length_nil, List.replicate, List.cons_append, List.nil_append, List.getElem?_cons_succ, List.getElem?_cons_zero, List.set_cons_succ, List.set_cons_zero, if_true, reduceIte, Nat.zero_add, Nat.reduceAdd, Nat.reduceSub, Option.bind_some, allD_cons, allD_nil, Option.map_some, orE_ok, orE_no, and_self, Bool.false_eq_true, if_false, decide_true, decide_false, Bool.not_true, Bool.not_false, q_add, q_sub, q_mul, bs0, lk_times, e, gcR_b0]
theorem gw1 {m k : Nat} {r r' : ER B} (h : Gv c0 t f S gs m r F) (hm : m ≤ k) (hr : ∀ l gs', r = .ok (.d (dN l)) (ST c0 f gs' t) → r' = .ok (.d (dW [l])) (ST c0 f gs' t)) : Gw c0 t f S gs k r' [F] := by
  obtain ⟨gs', l, e, x, ok, d⟩ := h.ex
  refine ⟨gs', [l], hr l gs' e, x.mono hm, ok, rfl, fun i l' F' h1 h2 => ?_⟩
  match i, h1, h2 with
  | 0, h1, h2 => cases h1; cases h2; exact d
  | i + 1, h1, h2 => cases h1
theorem K_same (ok : Ok (f + 1) gs) {a0 a1 b0 b1 : Nat} {F0 F1 G0 G1 : List Bool → Bool} (ha0 : Dn (f + 1) S gs a0 F0) (ha1 : Dn (f + 1) S gs a1 F1) (hb0 : Dn (f + 1) S gs b0 G0) (hb1 : Dn (f + 1) S gs b1 G1) (hl : gs.length + 40 ≤ 20000) : Gw c0 t f S gs 40 (F_Build_combine [.r c0.length, .d (.str "same"), .d (dW [a0, a1]), .d (dW [b0, b1])] (ST c0 f gs t)) [fun β => (!(F0 β ^^ G0 β)) && (!(F1 β ^^ G1 β))] := by
  refine gw1 (M_same (c0 := c0) (t := t) ok ha0 ha1 hb0 hb1 (by omega)) (by omega) fun l gs' e => ?_
  have hz : (1 : Nat) ≤ sizeLine := by decide
  have q_add : ∀ cs : Cs, gEq (.d (.str "same")) (.d (.str "add")) cs = .ok (.d (.bool false)) cs := fun cs => by rw [g_eqs _ _ so_same so_add, sq_same_add]
  have q_sub : ∀ cs : Cs, gEq (.d (.str "same")) (.d (.str "sub")) cs = .ok (.d (.bool false)) cs := fun cs => by rw [g_eqs _ _ so_same so_sub, sq_same_sub]
  have q_mul : ∀ cs : Cs, gEq (.d (.str "same")) (.d (.str "mul")) cs = .ok (.d (.bool false)) cs := fun cs => by rw [g_eqs _ _ so_same so_mul, sq_same_mul]
  have q_same : ∀ cs : Cs, gEq (.d (.str "same")) (.d (.str "same")) cs = .ok (.d (.bool true)) cs := fun cs => by rw [g_eqs _ _ so_same so_same]; rfl
  simp only [F_Build_combine, ap_mDef, ap_sNext, ap_sSeq, ap_sSet, ap_sExpr, ap_sRet, ap_sIf, ap_sPar, ap_sAsg, ap_sFldSet, ap_sPut, ap_sFor, ap_sBreak, ap_sNever, ap_sPass, ap_sCont, ap_tgName, ap_tgNil, ap_tgCons, ap_tgTupT, ap_tgTupL, ap_eVar, ap_eD, ap_eB, ap_eBin, ap_eUn, ap_eT, ap_eTru, ap_eNot, ap_eAnd, ap_eOr, ap_eNotV, ap_eAndV, ap_eOrV, ap_eIf, ap_eChain, ap_eFn, ap_eCall, ap_lCall, ap_aNil, ap_aCons, ap_aStar, ap_eTup, ap_lTake, ap_eFrz, ap_eCell, ap_lBin, ap_eBM, ap_eFld, ap_eMeth, ap_eMake, ap_eDNew, ap_eCutT, ap_oNone, ap_oSome, ap_eYes, g_add, g_sub, g_lt, g_le, g_gt, g_ge, isB_b, onB_b, tru_b, tru_i, g_int, g_intb, g_max, g_min, g_eqi, g_nei, retOf_nx, retOf_rt, ER.bind_ok, sE_ok, noEx_ok, List.map_cons, List.map_nil, List.length_cons, List.length_nil, List.replicate, List.cons_append, List.nil_append, List.getElem?_cons_succ, List.getElem?_cons_zero, List.set_cons_succ, List.set_cons_zero, if_true, reduceIte, Nat.zero_add, Nat.reduceAdd, Nat.reduceSub, Option.bind_some, allD_cons, allD_nil, Option.map_some, orE_ok, orE_no, and_self, Bool.false_eq_true, if_false, decide_true, decide_false, Bool.not_true, Bool.not_false, q_add, q_sub, q_mul, q_same, bs0, lk_same, e, hz, gcR_b0]
  rfl
theorem K_less (ok : Ok (f + 1) gs) {a0 a1 b0 b1 : Nat} {F0 F1 G0 G1 : List Bool → Bool} (ha0 : Dn (f + 1) S gs a0 F0) (ha1 : Dn (f + 1) S gs a1 F1) (hb0 : Dn (f + 1) S gs b0 G0) (hb1 : Dn (f + 1) S gs b1 G1) (hl : gs.length + 40 ≤ 20000) : Gw c0 t f S gs 40 (F_Build_combine [.r c0.length, .d (.str "less"), .d (dW [a0, a1]), .d (dW [b0, b1])] (ST c0 f gs t)) [fun β => if F1 β ^^ G1 β then G1 β else if F0 β ^^ G0 β then G0 β else false] := by
  refine gw1 (M_less (c0 := c0) (t := t) ok ha0 ha1 hb0 hb1 (by omega)) (by omega) fun l gs' e => ?_
  have hz : (1 : Nat) ≤ sizeLine := by decide
  have q_add : ∀ cs : Cs, gEq (.d (.str "less")) (.d (.str "add")) cs = .ok (.d (.bool false)) cs := fun cs => by rw [g_eqs _ _ so_less so_add, sq_less_add]
  have q_sub : ∀ cs : Cs, gEq (.d (.str "less")) (.d (.str "sub")) cs = .ok (.d (.bool false)) cs := fun cs => by rw [g_eqs _ _ so_less so_sub, sq_less_sub]
  have q_mul : ∀ cs : Cs, gEq (.d (.str "less")) (.d (.str "mul")) cs = .ok (.d (.bool false)) cs := fun cs => by rw [g_eqs _ _ so_less so_mul, sq_less_mul]
  have q_same : ∀ cs : Cs, gEq (.d (.str "less")) (.d (.str "same")) cs = .ok (.d (.bool false)) cs := fun cs => by rw [g_eqs _ _ so_less so_same, sq_less_same]
  have q_less : ∀ cs : Cs, gEq (.d (.str "less")) (.d (.str "less")) cs = .ok (.d (.bool true)) cs := fun cs => by rw [g_eqs _ _ so_less so_less]; rfl
  simp only [F_Build_combine, ap_mDef, ap_sNext, ap_sSeq, ap_sSet, ap_sExpr, ap_sRet, ap_sIf, ap_sPar, ap_sAsg, ap_sFldSet, ap_sPut, ap_sFor, ap_sBreak, ap_sNever, ap_sPass, ap_sCont, ap_tgName, ap_tgNil, ap_tgCons, ap_tgTupT, ap_tgTupL, ap_eVar, ap_eD, ap_eB, ap_eBin, ap_eUn, ap_eT, ap_eTru, ap_eNot, ap_eAnd, ap_eOr, ap_eNotV, ap_eAndV, ap_eOrV, ap_eIf, ap_eChain, ap_eFn, ap_eCall, ap_lCall, ap_aNil, ap_aCons, ap_aStar, ap_eTup, ap_lTake, ap_eFrz, ap_eCell, ap_lBin, ap_eBM, ap_eFld, ap_eMeth, ap_eMake, ap_eDNew, ap_eCutT, ap_oNone, ap_oSome, ap_eYes, g_add, g_sub, g_lt, g_le, g_gt, g_ge, isB_b, onB_b, tru_b, tru_i, g_int, g_intb, g_max, g_min, g_eqi, g_nei, retOf_nx, retOf_rt, ER.bind_ok, sE_ok, noEx_ok, List.map_cons, List.map_nil, List.length_cons, List.length_nil, List.replicate, List.cons_append, List.nil_append, List.getElem?_cons_succ, List.getElem?_cons_zero, List.set_cons_succ, List.set_cons_zero, if_true, reduceIte, Nat.zero_add, Nat.reduceAdd, Nat.reduceSub, Option.bind_some, allD_cons, allD_nil, Option.map_some, orE_ok, orE_no, and_self, Bool.false_eq_true, if_false, decide_true, decide_false, Bool.not_true, Bool.not_false, q_add, q_sub, q_mul, q_same, q_less, bs0, lk_less, e, hz, gcR_b0]
  rfl
theorem K_least (ok : Ok (f + 1) gs) {a0 a1 b0 b1 : Nat} {F0 F1 G0 G1 : List Bool → Bool} (ha0 : Dn (f + 1) S gs a0 F0) (ha1 : Dn (f + 1) S gs a1 F1) (hb0 : Dn (f + 1) S gs b0 G0) (hb1 : Dn (f + 1) S gs b1 G1) (hl : gs.length + 40 ≤ 20000) : Gw c0 t f S gs 40 (F_Build_combine [.r c0.length, .d (.str "least"), .d (dW [a0, a1]), .d (dW [b0, b1])] (ST c0 f gs t)) [fun β => !(if G1 β ^^ F1 β then F1 β else if G0 β ^^ F0 β then F0 β else false)] := by
  obtain ⟨gs', l, e, x, ok', d⟩ := (M_less (c0 := c0) (t := t) ok hb0 hb1 ha0 ha1 (by omega)).ex
  have hz : (1 : Nat) ≤ sizeLine := by decide
  have q_add : ∀ cs : Cs, gEq (.d (.str "least")) (.d (.str "add")) cs = .ok (.d (.bool false)) cs := fun cs => by rw [g_eqs _ _ so_least so_add, sq_least_add]
  have q_sub : ∀ cs : Cs, gEq (.d (.str "least")) (.d (.str "sub")) cs = .ok (.d (.bool false)) cs := fun cs => by rw [g_eqs _ _ so_least so_sub, sq_least_sub]
  have q_mul : ∀ cs : Cs, gEq (.d (.str "least")) (.d (.str "mul")) cs = .ok (.d (.bool false)) cs := fun cs => by rw [g_eqs _ _ so_least so_mul, sq_least_mul]
  have q_same : ∀ cs : Cs, gEq (.d (.str "least")) (.d (.str "same")) cs = .ok (.d (.bool false)) cs := fun cs => by rw [g_eqs _ _ so_least so_same, sq_least_same]
  have q_less : ∀ cs : Cs, gEq (.d (.str "least")) (.d (.str "less")) cs = .ok (.d (.bool false)) cs := fun cs => by rw [g_eqs _ _ so_least so_less, sq_least_less]
  have q_least : ∀ cs : Cs, gEq (.d (.str "least")) (.d (.str "least")) cs = .ok (.d (.bool true)) cs := fun cs => by rw [g_eqs _ _ so_least so_least]; rfl
  refine ⟨gs', [opp l], ?_, x.mono (by omega), ok', rfl, fun i l' F' h1 h2 => ?_⟩
  case refine_2 =>
    match i, h1, h2 with
    | 0, h1, h2 => cases h1; cases h2; exact d.opp
    | i + 1, h1, h2 => cases h1
  simp only [F_Build_combine, ap_mDef, ap_sNext, ap_sSeq, ap_sSet, ap_sExpr, ap_sRet, ap_sIf, ap_sPar, ap_sAsg, ap_sFldSet, ap_sPut, ap_sFor, ap_sBreak, ap_sNever, ap_sPass, ap_sCont, ap_tgName, ap_tgNil, ap_tgCons, ap_tgTupT, ap_tgTupL, ap_eVar, ap_eD, ap_eB, ap_eBin, ap_eUn, ap_eT, ap_eTru, ap_eNot, ap_eAnd, ap_eOr, ap_eNotV, ap_eAndV, ap_eOrV, ap_eIf, ap_eChain, ap_eFn, ap_eCall, ap_lCall, ap_aNil, ap_aCons, ap_aStar, ap_eTup, ap_lTake, ap_eFrz, ap_eCell, ap_lBin, ap_eBM, ap_eFld, ap_eMeth, ap_eMake, ap_eDNew, ap_eCutT, ap_oNone, ap_oSome, ap_eYes, g_add, g_sub, g_lt, g_le, g_gt, g_ge, isB_b, onB_b, tru_b, tru_i, g_int, g_intb, g_max, g_min, g_eqi, g_nei, retOf_nx, retOf_rt, ER.bind_ok, sE_ok, noEx_ok, List.map_cons, List.map_nil, List.length_cons, List.length_nil, List.replicate, List.cons_append, List.nil_append, List.getElem?_cons_succ, List.getElem?_cons_zero, List.set_cons_succ, List.set_cons_zero, if_true, reduceIte, Nat.zero_add, Nat.reduceAdd, Nat.reduceSub, Option.bind_some, allD_cons, allD_nil, Option.map_some, orE_ok, orE_no, and_self, Bool.false_eq_true, if_false, decide_true, decide_false, Bool.not_true, Bool.not_false, q_add, q_sub, q_mul, q_same, q_less, q_least, bs0, lk_less, e, F_opp, hz, gcR_b0]
  rfl
end
end K42

/-! M9: and, or, xor; pick; a Build made, its net. -/
namespace K42
open PySem VM L2
open Classical
def dD (k : Nat) : List (Key × B) := [(.inr "and", .m a_Build_both k), (.inr "or", .m a_Build_either k), (.inr "xor", .m a_Build_differ k)]
theorem kne1 : ¬ ((Sum.inr "and" : Key) = .inr "or") := by decide
theorem kne2 : ¬ ((Sum.inr "and" : Key) = .inr "xor") := by decide
theorem kne3 : ¬ ((Sum.inr "or" : Key) = .inr "xor") := by decide
theorem kne4 : ¬ ((Sum.inr "or" : Key) = .inr "and") := by decide
theorem merge_d (k : Nat) : mergeB [] (dD k) = dD k := by
  unfold mergeB dD
  simp only [List.foldl, putB, List.any_nil, Bool.false_eq_true, if_false, List.nil_append, List.any_cons, kne1, kne2, kne3, decide_false, Bool.or_false, List.cons_append]
theorem get_and (k : Nat) : getB (dD k) (.inr "and") = some (.m a_Build_both k) := by
  unfold getB dD
  rw [List.find?_cons, show decide ((Sum.inr "and" : Key) = .inr "and") = true from decide_eq_true rfl]
  rfl
theorem get_or (k : Nat) : getB (dD k) (.inr "or") = some (.m a_Build_either k) := by
  unfold getB dD
  rw [List.find?_cons, show decide ((Sum.inr "and" : Key) = .inr "or") = false from decide_eq_false kne1, List.find?_cons, show decide ((Sum.inr "or" : Key) = .inr "or") = true from decide_eq_true rfl]
  rfl
theorem get_xor (k : Nat) : getB (dD k) (.inr "xor") = some (.m a_Build_differ k) := by
  unfold getB dD
  rw [List.find?_cons, show decide ((Sum.inr "and" : Key) = .inr "xor") = false from decide_eq_false kne2, List.find?_cons, show decide ((Sum.inr "or" : Key) = .inr "xor") = false from decide_eq_false kne3, List.find?_cons, show decide ((Sum.inr "xor" : Key) = .inr "xor") = true from decide_eq_true rfl]
  rfl
noncomputable def mtab : MTab := [(a_Build_both, 3, F_Build_both), (a_Build_either, 3, F_Build_either), (a_Build_differ, 3, F_Build_differ)]
theorem fnd1 : mtab.find? (fun t => decide (t.1 = a_Build_both)) = some (a_Build_both, 3, F_Build_both) := by
  unfold mtab
  rw [List.find?_cons, show decide (a_Build_both = a_Build_both) = true from decide_eq_true rfl]
theorem fnd2 : mtab.find? (fun t => decide (t.1 = a_Build_either)) = some (a_Build_either, 3, F_Build_either) := by
  unfold mtab
  rw [List.find?_cons, show decide (a_Build_both = a_Build_either) = false from by decide, List.find?_cons, show decide (a_Build_either = a_Build_either) = true from decide_eq_true rfl]
theorem fnd3 : mtab.find? (fun t => decide (t.1 = a_Build_differ)) = some (a_Build_differ, 3, F_Build_differ) := by
  unfold mtab
  rw [List.find?_cons, show decide (a_Build_both = a_Build_differ) = false from by decide, List.find?_cons, show decide (a_Build_either = a_Build_differ) = false from by decide, List.find?_cons, show decide (a_Build_differ = a_Build_differ) = true from decide_eq_true rfl]
section
variable {c0 t : Cs} {f : Nat} {S : Nat → Prop} {gs : Gs} {a b c l : Nat} {A F G C : List Bool → Bool}
/-- what a bound method of that place does -/
structure Mt (c0 : Cs) (f : Nat) (S : Nat → Prop) (ad : Addr) (g : List B → Cs → ER B) (op : Bool → Bool → Bool) : Prop where
  fnd : mtab.find? (fun t => decide (t.1 = ad)) = some (ad, 3, g)
  run : ∀ {t : Cs} {gs : Gs} {a b : Nat} {F G : List Bool → Bool}, Ok (f + 1) gs → Dn (f + 1) S gs a F → Dn (f + 1) S gs b G → gs.length + 3 ≤ 20000 → Gv c0 t f S gs 3 (g [.r c0.length, .d (dN a), .d (dN b)] (ST c0 f gs t)) (fun β => op (F β) (G β))
theorem Gv.up {m k : Nat} {r : ER B} (h : Gv c0 t f S gs m r F) (hm : m ≤ k) : Gv c0 t f S gs k r F := let ⟨g, l, e, x, o, d⟩ := h.ex; ⟨g, l, e, x.mono hm, o, d⟩
theorem mt_and : Mt c0 f S a_Build_both F_Build_both (fun x y => x && y) := ⟨fnd1, fun ok ha hb hl => (M_both ok ha hb (by omega)).up (by omega)⟩
theorem mt_or : Mt c0 f S a_Build_either F_Build_either (fun x y => x || y) := ⟨fnd2, fun ok ha hb hl => (M_either ok ha hb (by omega)).up (by omega)⟩
theorem mt_xor : Mt c0 f S a_Build_differ F_Build_differ (fun x y => x ^^ y) := ⟨fnd3, fun ok ha hb hl => M_differ ok ha hb hl⟩
noncomputable def lgEnd : Fn B := (eCall gTuple (aCons (eFrz (lComp (VM.iZip (aCons (eVar 2) (aCons (eVar 3) aNil))) (tgTup 2 (tgCons (tgName 6) (tgCons (tgName 5) tgNil))) eYes (eCallM 4 mtab (aCons (eVar 6) (aCons (eVar 5) aNil))) [6, 5])) aNil))
theorem own_atG {t : Cs} (x : Cell) : (ST c0 f gs (t ++ [x]))[c0.length + 3 + t.length]? = some x := by
  rw [bs3, List.getElem?_append_right (Nat.le_refl _), Nat.sub_self]; rfl
theorem lg_2 {ad : Addr} {g : List B → Cs → ER B} {op : Bool → Bool → Bool} (M : Mt c0 f S ad g op) (ok : Ok (f + 1) gs) {a0 a1 b0 b1 : Nat} {F0 F1 G0 G1 : List Bool → Bool} (ha0 : Dn (f + 1) S gs a0 F0) (ha1 : Dn (f + 1) S gs a1 F1) (hb0 : Dn (f + 1) S gs b0 G0) (hb1 : Dn (f + 1) S gs b1 G1) (hl : gs.length + 40 ≤ 20000) (x0 x1 x5 x6 : Option B) :
    ∃ gs' l k, lgEnd [x0, x1, some (.d (dW [a0, a1])), some (.d (dW [b0, b1])), some (.m ad c0.length), x5, x6] (ST c0 f gs t) = .ok (.d (dW [l, k])) (ST c0 f gs' t) ∧ Ex gs gs' 40 ∧ Ok (f + 1) gs' ∧ Dn (f + 1) S gs' l (fun β => op (F0 β) (G0 β)) ∧ Dn (f + 1) S gs' k (fun β => op (F1 β) (G1 β)) := by
  obtain ⟨g1, r1, e1, y1, ok1, d1⟩ := (M.run (t := t) ok ha0 hb0 (by omega)).ex
  have l1 := y1.len
  obtain ⟨g2, r2, e2, y2, ok2, d2⟩ := (M.run (t := t) ok1 (ha1.up y1) (hb1.up y1) (by omega)).ex
  refine ⟨g2, r1, r2, ?_, (y1.trans y2).mono (by omega), ok2, d1.up y2, d2⟩
  have hz : (2 : Nat) < sizeLine := by decide
  unfold lgEnd
  simp only [ap_eCall, ap_aCons, ap_eFrz, ap_aNil]
  rw [ap_lComp (items := [.d (.tuple [dN a0, dN b0]), .d (.tuple [dN a1, dN b1])]) (okc := fun _ => True) (cs1 := ST c0 f gs t) rfl hz]
  simp only [wipeS, List.set_cons_succ, List.set_cons_zero]
  simp only [lc_consT, lc_nilT, ap_mDef, ap_sNext, ap_sSeq, ap_sSet, ap_sExpr, ap_sRet, ap_sIf, ap_sPar, ap_sAsg, ap_sFldSet, ap_sPut, ap_sFor, ap_sBreak, ap_sNever, ap_sPass, ap_sCont, ap_tgName, ap_tgNil, ap_tgCons, ap_tgTupT, ap_tgTupL, ap_eVar, ap_eD, ap_eB, ap_eBin, ap_eUn, ap_eT, ap_eTru, ap_eNot, ap_eAnd, ap_eOr, ap_eNotV, ap_eAndV, ap_eOrV, ap_eIf, ap_eChain, ap_eFn, ap_eCall, ap_lCall, ap_aNil, ap_aCons, ap_aStar, ap_eTup, ap_lTake, ap_eFrz, ap_eCell, ap_lBin, ap_eBM, ap_eFld, ap_eMeth, ap_eMake, ap_eDNew, ap_eCutT, ap_oNone, ap_oSome, ap_eYes, g_add, g_sub, g_lt, g_le, g_gt, g_ge, isB_b, onB_b, tru_b, tru_i, g_int, g_intb, g_max, g_min, g_eqi, g_nei, retOf_nx, retOf_rt, ER.bind_ok, sE_ok, noEx_ok, List.map_cons, List.map_nil, List.length_cons, List.length_nil, List.replicate, List.cons_append, List.nil_append, List.getElem?_cons_succ, List.getElem?_cons_zero, List.set_cons_succ, List.set_cons_zero, if_true, reduceIte, Nat.zero_add, Nat.reduceAdd, Nat.reduceSub, Option.bind_some, allD_cons, allD_nil, Option.map_some, orE_ok, orE_no, and_self, Bool.false_eq_true, if_false, decide_true, decide_false, Bool.not_true, Bool.not_false, ap_eCallM, M.fnd, e1, e2, g_tup_l]
  rfl
theorem lg_1 {ad : Addr} {g : List B → Cs → ER B} {op : Bool → Bool → Bool} (M : Mt c0 f S ad g op) (ok : Ok (f + 1) gs) {a0 b0 : Nat} {F0 G0 : List Bool → Bool} (ha0 : Dn (f + 1) S gs a0 F0) (hb0 : Dn (f + 1) S gs b0 G0) (hl : gs.length + 40 ≤ 20000) (x0 x1 x5 x6 : Option B) :
    ∃ gs' l, lgEnd [x0, x1, some (.d (dW [a0])), some (.d (dW [b0])), some (.m ad c0.length), x5, x6] (ST c0 f gs t) = .ok (.d (dW [l])) (ST c0 f gs' t) ∧ Ex gs gs' 40 ∧ Ok (f + 1) gs' ∧ Dn (f + 1) S gs' l (fun β => op (F0 β) (G0 β)) := by
  obtain ⟨g1, r1, e1, y1, ok1, d1⟩ := (M.run (t := t) ok ha0 hb0 (by omega)).ex
  refine ⟨g1, r1, ?_, y1.mono (by omega), ok1, d1⟩
  have hz : (1 : Nat) < sizeLine := by decide
  unfold lgEnd
  simp only [ap_eCall, ap_aCons, ap_eFrz, ap_aNil]
  rw [ap_lComp (items := [.d (.tuple [dN a0, dN b0])]) (okc := fun _ => True) (cs1 := ST c0 f gs t) rfl hz]
  simp only [wipeS, List.set_cons_succ, List.set_cons_zero]
  simp only [lc_consT, lc_nilT, ap_mDef, ap_sNext, ap_sSeq, ap_sSet, ap_sExpr, ap_sRet, ap_sIf, ap_sPar, ap_sAsg, ap_sFldSet, ap_sPut, ap_sFor, ap_sBreak, ap_sNever, ap_sPass, ap_sCont, ap_tgName, ap_tgNil, ap_tgCons, ap_tgTupT, ap_tgTupL, ap_eVar, ap_eD, ap_eB, ap_eBin, ap_eUn, ap_eT, ap_eTru, ap_eNot, ap_eAnd, ap_eOr, ap_eNotV, ap_eAndV, ap_eOrV, ap_eIf, ap_eChain, ap_eFn, ap_eCall, ap_lCall, ap_aNil, ap_aCons, ap_aStar, ap_eTup, ap_lTake, ap_eFrz, ap_eCell, ap_lBin, ap_eBM, ap_eFld, ap_eMeth, ap_eMake, ap_eDNew, ap_eCutT, ap_oNone, ap_oSome, ap_eYes, g_add, g_sub, g_lt, g_le, g_gt, g_ge, isB_b, onB_b, tru_b, tru_i, g_int, g_intb, g_max, g_min, g_eqi, g_nei, retOf_nx, retOf_rt, ER.bind_ok, sE_ok, noEx_ok, List.map_cons, List.map_nil, List.length_cons, List.length_nil, List.replicate, List.cons_append, List.nil_append, List.getElem?_cons_succ, List.getElem?_cons_zero, List.set_cons_succ, List.set_cons_zero, if_true, reduceIte, Nat.zero_add, Nat.reduceAdd, Nat.reduceSub, Option.bind_some, allD_cons, allD_nil, Option.map_some, orE_ok, orE_no, and_self, Bool.false_eq_true, if_false, decide_true, decide_false, Bool.not_true, Bool.not_false, ap_eCallM, M.fnd, e1, g_tup_l]
  rfl
theorem comb_lg {kind : Str} {ad : Addr} {x y : D} (hs : PyData.strOk kind = true) (q : ∀ t ∈ (["add", "sub", "mul", "same", "less", "least"] : List Str), (kind == t) = false) (hg : getB (dD c0.length) (.inr kind) = some (.m ad c0.length)) :
    F_Build_combine [.r c0.length, .d (.str kind), .d x, .d y] (ST c0 f gs t) = gcR (ST c0 f gs t) (retOf (sE (lgEnd [some (.r c0.length), some (.d (.str kind)), some (.d x), some (.d y), some (.m ad c0.length), none, none] (ST c0 f gs (t ++ [.dK (dD c0.length)]))) [some (.r c0.length), some (.d (.str kind)), some (.d x), some (.d y), some (.m ad c0.length), none, none] fun b cs1 => .rt b cs1)) := by
  have q1 : ∀ cs : Cs, gEq (.d (.str kind)) (.d (.str "add")) cs = .ok (.d (.bool false)) cs := fun cs => by rw [g_eqs _ _ hs so_add, q _ (by simp)]
  have q2 : ∀ cs : Cs, gEq (.d (.str kind)) (.d (.str "sub")) cs = .ok (.d (.bool false)) cs := fun cs => by rw [g_eqs _ _ hs so_sub, q _ (by simp)]
  have q3 : ∀ cs : Cs, gEq (.d (.str kind)) (.d (.str "mul")) cs = .ok (.d (.bool false)) cs := fun cs => by rw [g_eqs _ _ hs so_mul, q _ (by simp)]
  have q4 : ∀ cs : Cs, gEq (.d (.str kind)) (.d (.str "same")) cs = .ok (.d (.bool false)) cs := fun cs => by rw [g_eqs _ _ hs so_same, q _ (by simp)]
  have q5 : ∀ cs : Cs, gEq (.d (.str kind)) (.d (.str "less")) cs = .ok (.d (.bool false)) cs := fun cs => by rw [g_eqs _ _ hs so_less, q _ (by simp)]
  have q6 : ∀ cs : Cs, gEq (.d (.str kind)) (.d (.str "least")) cs = .ok (.d (.bool false)) cs := fun cs => by rw [g_eqs _ _ hs so_least, q _ (by simp)]
  have hm : mergeB [] [(.inr "and", .m a_Build_both c0.length), (.inr "or", .m a_Build_either c0.length), (.inr "xor", .m a_Build_differ c0.length)] = dD c0.length := merge_d _
  have h15 : (3 : Nat) ≤ 15 := by decide
  have hget : gDGet (.r (c0.length + 3 + t.length)) (.d (.str kind)) (ST c0 f gs (t ++ [.dK (dD c0.length)])) = .ok (.m ad c0.length) (ST c0 f gs (t ++ [.dK (dD c0.length)])) := by
    unfold gDGet dFind
    simp only [own_atG, keyD_str, Option.map_some, hg]
  simp only [F_Build_combine, ap_mDef, ap_sNext, ap_sSeq, ap_sSet, ap_sExpr, ap_sRet, ap_sIf, ap_sPar, ap_sAsg, ap_sFldSet, ap_sPut, ap_sFor, ap_sBreak, ap_sNever, ap_sPass, ap_sCont, ap_tgName, ap_tgNil, ap_tgCons, ap_tgTupT, ap_tgTupL, ap_eVar, ap_eD, ap_eB, ap_eBin, ap_eUn, ap_eT, ap_eTru, ap_eNot, ap_eAnd, ap_eOr, ap_eNotV, ap_eAndV, ap_eOrV, ap_eIf, ap_eChain, ap_eFn, ap_eCall, ap_lCall, ap_aNil, ap_aCons, ap_aStar, ap_eTup, ap_lTake, ap_eFrz, ap_eCell, ap_lBin, ap_eBM, ap_eFld, ap_eMeth, ap_eMake, ap_eDNew, ap_eCutT, ap_oNone, ap_oSome, ap_eYes, g_add, g_sub, g_lt, g_le, g_gt, g_ge, isB_b, onB_b, tru_b, tru_i, g_int, g_intb, g_max, g_min, g_eqi, g_nei, retOf_nx, retOf_rt, ER.bind_ok, sE_ok, noEx_ok, List.map_cons, List.map_nil, List.length_cons, List.length_nil, List.replicate, List.cons_append, List.nil_append, List.getElem?_cons_succ, List.getElem?_cons_zero, List.set_cons_succ, List.set_cons_zero, if_true, reduceIte, Nat.zero_add, Nat.reduceAdd, Nat.reduceSub, Option.bind_some, allD_cons, allD_nil, Option.map_some, orE_ok, orE_no, and_self, Bool.false_eq_true, if_false, decide_true, decide_false, Bool.not_true, Bool.not_false, q1, q2, q3, q4, q5, q6, ap_eDisp, ap_fPairs_cons, ap_fPairs_nil, ap_eBound, bs0, lk_both, lk_either, lk_differ, keyD_str, hm, h15, bsl, st_snoc, hget, lgEnd, mtab]
theorem K_lg2 {kind : Str} {ad : Addr} {g : List B → Cs → ER B} {op : Bool → Bool → Bool} (M : Mt c0 f S ad g op) (hs : PyData.strOk kind = true) (q : ∀ t ∈ (["add", "sub", "mul", "same", "less", "least"] : List Str), (kind == t) = false) (hg : getB (dD c0.length) (.inr kind) = some (.m ad c0.length))
    (ok : Ok (f + 1) gs) {a0 a1 b0 b1 : Nat} {F0 F1 G0 G1 : List Bool → Bool} (ha0 : Dn (f + 1) S gs a0 F0) (ha1 : Dn (f + 1) S gs a1 F1) (hb0 : Dn (f + 1) S gs b0 G0) (hb1 : Dn (f + 1) S gs b1 G1) (hl : gs.length + 40 ≤ 20000) :
    Gw c0 t f S gs 40 (F_Build_combine [.r c0.length, .d (.str kind), .d (dW [a0, a1]), .d (dW [b0, b1])] (ST c0 f gs t)) [fun β => op (F0 β) (G0 β), fun β => op (F1 β) (G1 β)] := by
  obtain ⟨gs', l, k, e, x, ok', d1, d2⟩ := lg_2 (t := t ++ [.dK (dD c0.length)]) M ok ha0 ha1 hb0 hb1 hl (some (.r c0.length)) (some (.d (.str kind))) none none
  refine gw2 ⟨gs', l, k, ?_, x, ok', d1, d2⟩
  rw [comb_lg hs q hg, e]
  simp only [sE_ok, retOf_rt, gcR_b]
theorem K_lg1 {kind : Str} {ad : Addr} {g : List B → Cs → ER B} {op : Bool → Bool → Bool} (M : Mt c0 f S ad g op) (hs : PyData.strOk kind = true) (q : ∀ t ∈ (["add", "sub", "mul", "same", "less", "least"] : List Str), (kind == t) = false) (hg : getB (dD c0.length) (.inr kind) = some (.m ad c0.length))
    (ok : Ok (f + 1) gs) {a0 b0 : Nat} {F0 G0 : List Bool → Bool} (ha0 : Dn (f + 1) S gs a0 F0) (hb0 : Dn (f + 1) S gs b0 G0) (hl : gs.length + 40 ≤ 20000) :
    Gw c0 t f S gs 40 (F_Build_combine [.r c0.length, .d (.str kind), .d (dW [a0]), .d (dW [b0])] (ST c0 f gs t)) [fun β => op (F0 β) (G0 β)] := by
  obtain ⟨gs', l, e, x, ok', d1⟩ := lg_1 (t := t ++ [.dK (dD c0.length)]) M ok ha0 hb0 hl (some (.r c0.length)) (some (.d (.str kind))) none none
  refine gw1 (m := 40) (r := .ok (.d (dN l)) (ST c0 f gs' t)) ⟨gs', l, rfl, x, ok', d1⟩ (Nat.le_refl _) fun l2 g2 e2 => ?_
  rw [comb_lg hs q hg, e]
  simp only [sE_ok, retOf_rt, gcR_b]
  have e3 : (ER.ok (B.d (dN l)) (ST c0 f gs' t) : ER B) = .ok (.d (dN l2)) (ST c0 f g2 t) := e2
  injection e3 with e4 e5
  injection e4 with e6
  injection e6 with e7
  have e8 : l = l2 := by omega
  rw [e5, e8]
end
end K42

/-! M10: pick; a Build made, its net. -/
namespace K42
open PySem VM L2
open Classical
section
variable {c0 t : Cs} {f : Nat} {S : Nat → Prop} {gs : Gs} {a b c l : Nat} {A F G C : List Bool → Bool}
theorem M_pick (ok : Ok (f + 1) gs) {a0 a1 b0 b1 : Nat} {F0 F1 G0 G1 : List Bool → Bool} (hc : Dn (f + 1) S gs c C) (ha0 : Dn (f + 1) S gs a0 F0) (ha1 : Dn (f + 1) S gs a1 F1) (hb0 : Dn (f + 1) S gs b0 G0) (hb1 : Dn (f + 1) S gs b1 G1) (hl : gs.length + 40 ≤ 20000) :
    Gw c0 t f S gs 40 (F_Build_pick [.r c0.length, .d (dN c), .d (dW [a0, a1]), .d (dW [b0, b1])] (ST c0 f gs t)) [fun β => if C β then F0 β else G0 β, fun β => if C β then F1 β else G1 β] := by
  obtain ⟨g1, r1, e1, y1, ok1, d1⟩ := (M_choose (c0 := c0) (t := t) ok hc ha0 hb0 (by omega)).ex
  have l1 := y1.len
  obtain ⟨g2, r2, e2, y2, ok2, d2⟩ := (M_choose (c0 := c0) (t := t) ok1 (hc.up y1) (ha1.up y1) (hb1.up y1) (by omega)).ex
  refine gw2 ⟨g2, r1, r2, ?_, (y1.trans y2).mono (by omega), ok2, d1.up y2, d2⟩
  have hz : (2 : Nat) < sizeLine := by decide
  unfold F_Build_pick
  simp only [ap_mDef, ap_sRet, ap_eCall, ap_aCons, ap_eFrz, ap_aNil, List.map_cons, List.map_nil, List.length_cons, List.length_nil, List.replicate, List.cons_append, List.nil_append, Nat.zero_add, Nat.reduceAdd, Nat.reduceSub]
  rw [ap_lComp (items := [.d (.tuple [dN a0, dN b0]), .d (.tuple [dN a1, dN b1])]) (okc := fun _ => True) (cs1 := ST c0 f gs t) rfl hz]
  simp only [wipeS, List.set_cons_succ, List.set_cons_zero]
  simp only [lc_consT, lc_nilT, ap_mDef, ap_sNext, ap_sSeq, ap_sSet, ap_sExpr, ap_sRet, ap_sIf, ap_sPar, ap_sAsg, ap_sFldSet, ap_sPut, ap_sFor, ap_sBreak, ap_sNever, ap_sPass, ap_sCont, ap_tgName, ap_tgNil, ap_tgCons, ap_tgTupT, ap_tgTupL, ap_eVar, ap_eD, ap_eB, ap_eBin, ap_eUn, ap_eT, ap_eTru, ap_eNot, ap_eAnd, ap_eOr, ap_eNotV, ap_eAndV, ap_eOrV, ap_eIf, ap_eChain, ap_eFn, ap_eCall, ap_lCall, ap_aNil, ap_aCons, ap_aStar, ap_eTup, ap_lTake, ap_eFrz, ap_eCell, ap_lBin, ap_eBM, ap_eFld, ap_eMeth, ap_eMake, ap_eDNew, ap_eCutT, ap_oNone, ap_oSome, ap_eYes, g_add, g_sub, g_lt, g_le, g_gt, g_ge, isB_b, onB_b, tru_b, tru_i, g_int, g_intb, g_max, g_min, g_eqi, g_nei, retOf_nx, retOf_rt, ER.bind_ok, sE_ok, noEx_ok, List.map_cons, List.map_nil, List.length_cons, List.length_nil, List.replicate, List.cons_append, List.nil_append, List.getElem?_cons_succ, List.getElem?_cons_zero, List.set_cons_succ, List.set_cons_zero, if_true, reduceIte, Nat.zero_add, Nat.reduceAdd, Nat.reduceSub, Option.bind_some, allD_cons, allD_nil, Option.map_some, orE_ok, orE_no, and_self, Bool.false_eq_true, if_false, decide_true, decide_false, Bool.not_true, Bool.not_false, bs0, lk_choose, e1, e2, g_tup_l, gcR_b0]
  rfl
theorem F_net : gs.length ≤ 20000 → F_Build_net [.r c0.length] (ST c0 f gs t) = .ok (.d (dNet f gs)) (ST c0 f gs t) := fun hl => by
  have e1 : gTuple [.r (c0.length + 1)] (ST c0 f gs t) = .ok (.d (dGs gs)) (ST c0 f gs t) := by
    refine g_tup_r _ (gs.map dG) ?_
    rw [bs1, List.map_map]; rfl
  have hz : (2 : Nat) ≤ sizeLine := by decide
  simp only [F_Build_net, ap_mDef, ap_sNext, ap_sSeq, ap_sSet, ap_sExpr, ap_sRet, ap_sIf, ap_sPar, ap_sAsg, ap_sFldSet, ap_sPut, ap_sFor, ap_sBreak, ap_sNever, ap_sPass, ap_sCont, ap_tgName, ap_tgNil, ap_tgCons, ap_tgTupT, ap_tgTupL, ap_eVar, ap_eD, ap_eB, ap_eBin, ap_eUn, ap_eT, ap_eTru, ap_eNot, ap_eAnd, ap_eOr, ap_eNotV, ap_eAndV, ap_eOrV, ap_eIf, ap_eChain, ap_eFn, ap_eCall, ap_lCall, ap_aNil, ap_aCons, ap_aStar, ap_eTup, ap_lTake, ap_eFrz, ap_eCell, ap_lBin, ap_eBM, ap_eFld, ap_eMeth, ap_eMake, ap_eDNew, ap_eCutT, ap_oNone, ap_oSome, ap_eYes, g_add, g_sub, g_lt, g_le, g_gt, g_ge, isB_b, onB_b, tru_b, tru_i, g_int, g_intb, g_max, g_min, g_eqi, g_nei, retOf_nx, retOf_rt, ER.bind_ok, sE_ok, noEx_ok, List.map_cons, List.map_nil, List.length_cons, List.length_nil, List.replicate, List.cons_append, List.nil_append, List.getElem?_cons_succ, List.getElem?_cons_zero, List.set_cons_succ, List.set_cons_zero, if_true, reduceIte, Nat.zero_add, Nat.reduceAdd, Nat.reduceSub, Option.bind_some, allD_cons, allD_nil, Option.map_some, orE_ok, orE_no, and_self, Bool.false_eq_true, if_false, decide_true, decide_false, Bool.not_true, Bool.not_false, bs0, lk_free, lk_gates, e1, hz, gcR_b0]
def PK (c0 : Cs) (f : Nat) (gs : Gs) (i : Nat) : Cs := c0 ++ [.ins "Build" [("free", .d (dN f)), ("gates", .r (c0.length + 1)), ("known", .r (c0.length + 2))], .lst (gs.map fun g => .d (dG g)), .dT (kn (f + 1) (gs.take i))]
theorem pk_at (i j : Nat) : (PK c0 f gs i)[c0.length + j]? = ([.ins "Build" [("free", .d (dN f)), ("gates", .r (c0.length + 1)), ("known", .r (c0.length + 2))], .lst (gs.map fun g => .d (dG g)), .dT (kn (f + 1) (gs.take i))] : Cs)[j]? := by
  unfold PK
  rw [List.getElem?_append_right (by omega), show c0.length + j - c0.length = j by omega]
theorem put1 (v : B) : putFB "free" v [] = ([("free", v)] : List (Str × B)) := rfl
theorem put2 (v w : B) : putFB "gates" w [("free", v)] = ([("free", v), ("gates", w)] : List (Str × B)) := by
  unfold putFB
  rw [if_neg (by decide)]
  rfl
theorem put3 (v w x : B) : putFB "known" x [("free", v), ("gates", w)] = ([("free", v), ("gates", w), ("known", x)] : List (Str × B)) := by
  unfold putFB
  rw [if_neg (by decide)]
  unfold putFB
  rw [if_neg (by decide)]
  rfl
theorem take_succ_at {α : Type} {xs : List α} {i : Nat} {x : α} (h : xs[i]? = some x) : xs.take (i + 1) = xs.take i ++ [x] := by
  rw [List.take_add_one, h]; rfl
theorem find_none_take (hnd : gs.Nodup) {i : Nat} {g : Nat × Nat} (h : gs[i]? = some g) : (gs.take i).findIdx? (· == g) = none := by
  rw [List.findIdx?_eq_none_iff]
  intro x hx
  obtain ⟨j, hj, e⟩ := List.getElem_of_mem hx
  rw [List.length_take] at hj
  have hi := (List.getElem?_eq_some_iff.mp h).1
  rw [List.getElem_take] at e
  have e2 := (List.getElem?_eq_some_iff.mp h).2
  by_cases q : x = g
  · exfalso
    have hj' : j < gs.length := by omega
    have := (List.getElem_inj (h₀ := hj') (h₁ := hi) hnd).mp (by rw [e, e2, q])
    omega
  · simpa using q
theorem F_init (hnd : gs.Nodup) (hl : gs.length ≤ 20000) : F_Build_init [.r c0.length, .d (dN f), .d (dGs gs)] (c0 ++ [.ins "Build" []]) = .ok (.d .none) (ST c0 f gs []) := by
  have hsz : (gs.map dG).length < sizeLine := by rw [List.length_map]; exact Nat.lt_of_le_of_lt hl (by decide)
  have a0 : (c0 ++ [.ins "Build" []] : Cs)[c0.length]? = some (.ins "Build" []) := by rw [List.getElem?_append_right (Nat.le_refl _), Nat.sub_self]; rfl
  have s0 : (c0 ++ [.ins "Build" []] : Cs).set c0.length (.ins "Build" [("free", .d (dN f))]) = c0 ++ [.ins "Build" [("free", .d (dN f))]] := by rw [List.set_append_right _ _ (Nat.le_refl _), Nat.sub_self]; rfl
  have lcg : lComp (iSeq (eVar 2)) (tgName 4) eYes (eCall gTuple (aCons (eVar 4) aNil)) [4] [some (.r c0.length), some (.d (dN f)), some (.d (dGs gs)), none, none] (c0 ++ [.ins "Build" [("free", .d (dN f))]]) = .ok (gs.map fun g => .d (dG g)) (c0 ++ [.ins "Build" [("free", .d (dN f))]]) := by
    rw [ap_lComp (items := (gs.map dG).map B.d) (okc := fun _ => True) (cs1 := (c0 ++ [.ins "Build" [("free", .d (dN f))]] : Cs)) rfl (by rw [List.length_map]; exact hsz), List.map_map]
    refine lc_map (okc := fun _ => True) trivial (B.d ∘ dG) (fun g => B.d (dG g)) gs fun g hg => ?_
    refine ⟨_, rfl, ?_⟩
    simp only [wipeS, List.set_cons_succ, List.set_cons_zero, ap_eCall, ap_aCons, ap_eVar, ap_aNil, List.getElem?_cons_succ, List.getElem?_cons_zero, ER.bind_ok, Function.comp_apply, g_tup_t]
  have l1 : (c0 ++ [.ins "Build" [("free", .d (dN f))]] : Cs).length = c0.length + 1 := by simp
  have a1 : ((c0 ++ [.ins "Build" [("free", .d (dN f))]]) ++ [.lst (gs.map fun g => .d (dG g))] : Cs)[c0.length]? = some (.ins "Build" [("free", .d (dN f))]) := by
    rw [List.append_assoc, List.getElem?_append_right (Nat.le_refl _), Nat.sub_self]; rfl
  have s1 : ((c0 ++ [.ins "Build" [("free", .d (dN f))]]) ++ [.lst (gs.map fun g => .d (dG g))] : Cs).set c0.length (.ins "Build" [("free", .d (dN f)), ("gates", .r (c0.length + 1))]) = c0 ++ [.ins "Build" [("free", .d (dN f)), ("gates", .r (c0.length + 1))], .lst (gs.map fun g => .d (dG g))] := by
    rw [List.append_assoc, List.set_append_right _ _ (Nat.le_refl _), Nat.sub_self]; rfl
  have l2 : (c0 ++ [.ins "Build" [("free", .d (dN f)), ("gates", .r (c0.length + 1))], .lst (gs.map fun g => .d (dG g))] : Cs).length = c0.length + 2 := by simp
  have a2 : ((c0 ++ [.ins "Build" [("free", .d (dN f)), ("gates", .r (c0.length + 1))], .lst (gs.map fun g => .d (dG g))]) ++ [.dT []] : Cs)[c0.length]? = some (.ins "Build" [("free", .d (dN f)), ("gates", .r (c0.length + 1))]) := by
    rw [List.append_assoc, List.getElem?_append_right (Nat.le_refl _), Nat.sub_self]; rfl
  have s2 : ((c0 ++ [.ins "Build" [("free", .d (dN f)), ("gates", .r (c0.length + 1))], .lst (gs.map fun g => .d (dG g))]) ++ [.dT []] : Cs).set c0.length (.ins "Build" [("free", .d (dN f)), ("gates", .r (c0.length + 1)), ("known", .r (c0.length + 2))]) = PK c0 f gs 0 := by
    rw [List.append_assoc, List.set_append_right _ _ (Nat.le_refl _), Nat.sub_self]; rfl
  have p0 : ∀ i, (PK c0 f gs i)[c0.length]? = some (.ins "Build" [("free", .d (dN f)), ("gates", .r (c0.length + 1)), ("known", .r (c0.length + 2))]) := fun i => pk_at i 0
  have p1 : ∀ i, (PK c0 f gs i)[c0.length + 1]? = some (.lst (gs.map fun g => .d (dG g))) := fun i => pk_at i 1
  have p2 : ∀ i, (PK c0 f gs i)[c0.length + 2]? = some (.dT (kn (f + 1) (gs.take i))) := fun i => pk_at i 2
  have al : allD (gs.map fun g => .d (dG g)) = some (gs.map dG) := allD_map dG gs
  have ie : ∀ (x3 x4 : Option B), VM.iEnum (aCons (eFld "Build" "gates" (eVar 0)) aNil) [some (.r c0.length), some (.d (dN f)), some (.d (dGs gs)), x3, x4] (PK c0 f gs 0) = .ok (enumD (gs.map dG), fun c => c[c0.length + 1]? = some (.lst (gs.map fun g => .d (dG g)))) (PK c0 f gs 0) := fun x3 x4 => by
    unfold VM.iEnum
    simp only [ap_aCons, ap_eFld, ap_eVar, ap_aNil, List.getElem?_cons_zero, ER.bind_ok, p0, lk_gates, if_true, p1, al]
  obtain ⟨sl', cs', el, x3, x4, rfl, rfl⟩ := loop_inv (okc := fun c => c[c0.length + 1]? = some (.lst (gs.map fun g => .d (dG g)))) (tf := tgTup 2 (tgCons (tgName 3) (tgCons (tgName 4) tgNil)))
    (body := sExpr (eBM isDct gSetd (eFld "Build" "known" (eVar 0)) (aCons (eVar 4) (aCons (eBin gMul (eD (.int 2)) (eBin gAdd (eBin gAdd (eVar 1) (eD (.int 1))) (eVar 3))) aNil))))
    (fun i sl cs => ∃ x3 x4, sl = [some (.r c0.length), some (.d (dN f)), some (.d (dGs gs)), x3, x4] ∧ cs = PK c0 f gs i) (enumD (gs.map dG)) 0 [some (.r c0.length), some (.d (dN f)), some (.d (dGs gs)), none, none] (PK c0 f gs 0) ⟨none, none, rfl, rfl⟩
    (fun sl cs ⟨x3, x4, e1, e2⟩ => by rw [e2]; exact p1 _) (fun i b sl cs hb ⟨x3, x4, e1, e2⟩ => by
      rw [Nat.zero_add] at e2
      subst e1 e2
      obtain ⟨d, hd, rfl⟩ := enumD_get hb
      rw [List.getElem?_map] at hd
      obtain ⟨g, hg, rfl⟩ := Option.map_eq_some_iff.mp hd
      refine ⟨p1 i, _, rfl, [some (.r c0.length), some (.d (dN f)), some (.d (dGs gs)), some (.d (.int (i : Nat))), some (.d (dG g))], PK c0 f gs (i + 1), .inl ?_, _, _, rfl, by rw [Nat.zero_add]⟩
      have m1 : ∀ cs : Cs, gMul (.d (.int 2)) (.d (.int ((f : Int) + 1 + (i : Nat)))) cs = .ok (.d (dN (2 * (f + 1 + i)))) cs := fun cs => by
        rw [g_mul _ _ (mul_l (by decide) (by decide))]
        congr 3
      have hi := (List.getElem?_eq_some_iff.mp hg).1
      have hn := find_none_take hnd hg
      have tl : (gs.take i).length = i := by rw [List.length_take]; omega
      have m2 : gSetd (c0.length + 2) [.d (dG g), .d (dN (2 * (f + 1 + i)))] (PK c0 f gs i) = .ok (.d (dN (2 * (f + 1 + i)))) (PK c0 f gs (i + 1)) := by
        unfold gSetd
        simp only [p2, dG, keyTD_tup, keysD_cons, keysD_nil, keyD_int, Option.bind_some, Option.map_some]
        rw [if_pos (by rw [kn_len, tl]; exact Nat.lt_of_le_of_lt (by omega : i ≤ 20000) (by decide)), getB_kn, hn]
        simp only [Option.map_none]
        congr 1
        have pk := putB_kn (f + 1) g.1 g.2 (gs.take i) hn
        rw [tl] at pk
        rw [pk, take_succ_at hg |>.symm]
        unfold PK
        rw [List.set_append_right _ _ (by omega), show c0.length + 2 - c0.length = 2 by omega]
        rfl
      simp only [List.set_cons_succ, List.set_cons_zero, ap_sExpr, ap_eBM, ap_eFld, ap_eVar, List.getElem?_cons_zero, List.getElem?_cons_succ, ER.bind_ok, p0, lk_known, if_true, p2, isDct, ap_aCons, ap_eBin, ap_eD, ap_aNil, g_add, m1, m2, sE_ok])
  have fin : PK c0 f gs (0 + (enumD (gs.map dG)).length) = ST c0 f gs [] := by
    have : (enumD (gs.map dG)).length = gs.length := by simp [enumD]
    rw [this, Nat.zero_add]
    unfold PK ST BS
    rw [List.take_length, List.append_nil]
  rw [fin] at el
  have h1000 : ∀ {n : Nat}, n ≤ 2 → n < 1000 := fun h => by omega
  unfold F_Build_init
  simp only [ap_mDef, ap_sSeq, ap_sFldSet, ap_eVar, List.map_cons, List.map_nil, List.length_cons, List.length_nil, List.replicate, List.cons_append, List.nil_append, List.getElem?_cons_zero, List.getElem?_cons_succ, Nat.zero_add, Nat.reduceAdd, Nat.reduceSub, sE_ok, a0, put1, s0, ap_eCell, lcg, ER.bind_ok, l1, a1, put2, s1, ap_eDNew, l2, a2, put3, s2, ap_sFor, true_and, Nat.reduceLT, if_true, ie, el, retOf_nx, keepR_ap]
end
end K42

/-! M11: the checks; combined, joined, picked. -/
namespace VM
open PySem L2
section
variable {sl : Sl} {cs : Cs}
theorem gAll_l (ks : List Bool) : gAll [.d (.list (ks.map PyData.bool))] cs = .ok (.d (.bool (ks.all id))) cs := by
  unfold gAll
  have : bBools cs (.d (.list (ks.map PyData.bool))) = some ks := by
    unfold bBools
    rw [bList_d, Option.bind_some, allD_mapd, Option.bind_some, allB_mapb]
  simp only [this]
theorem gSum_l (ks : List Int) : gSum [.d (.list (ks.map PyData.int))] cs = .ok (.d (.int ks.sum)) cs := by
  unfold gSum
  have : bInts cs (.d (.list (ks.map PyData.int))) = some ks := by
    unfold bInts
    rw [bList_d, Option.bind_some, allD_mapd, Option.bind_some, allI_mapi]
  simp only [this]
/-- all([.. for x in row]): a list of tests, run -/
theorem all_comp {α : Type} {fi : Fn (List B × (Cs → Prop))} {tf : TgF} {te : Fn B} {vs : List Nat} (items : List α) (enc : α → B) (p : α → Bool) (hfi : fi sl cs = .ok (items.map enc, fun _ => True) cs) (hl : items.length < sizeLine)
    (h : ∀ a ∈ items, ∃ sl1, tf (enc a) (wipeS sl vs) = some sl1 ∧ te sl1 cs = .ok (.d (.bool (p a))) cs) : eCall gAll (aCons (eFrz (lComp fi tf eYes te vs)) aNil) sl cs = .ok (.d (.bool (items.all p))) cs := by
  have e : lComp fi tf eYes te vs sl cs = .ok (items.map fun a => .d (.bool (p a))) cs := by
    rw [ap_lComp hfi (by rw [List.length_map]; exact hl)]
    exact lc_map (okc := fun _ => True) trivial enc (fun a => .d (.bool (p a))) items h
  have al : allD (items.map fun a => B.d (.bool (p a))) = some (items.map fun a => .bool (p a)) := allD_map _ _
  simp only [ap_eCall, ap_aCons, ap_eFrz, e, ER.bind_ok, al, ap_aNil]
  have m : (items.map fun a => PyData.bool (p a)) = (items.map p).map PyData.bool := by rw [List.map_map]; rfl
  rw [m, gAll_l, List.all_map]
  rfl
end
end VM
namespace K42
open PySem VM L2
open Classical
section
variable {c0 cs t : Cs} {f : Nat} {S : Nat → Prop} {gs : Gs} {a b c l : Nat} {A F G C : List Bool → Bool}
def okW (n : Nat) (gs : Gs) (w : List Nat) : Prop := 1 ≤ w.length ∧ w.length ≤ 8 ∧ ∀ l ∈ w, l < 2 * (n + gs.length)
structure NetOk (f : Nat) (gs : Gs) : Prop where
  hf : f ≤ 200
  hl : gs.length ≤ 19000
  ok : Ok (f + 1) gs
theorem le_n (a b : Nat) : decide ((a : Int) ≤ (b : Int)) = decide (a ≤ b) := by
  apply Bool.eq_iff_iff.mpr
  simp only [decide_eq_true_iff]
  omega
theorem lt_n (a b : Nat) : decide ((a : Int) < (b : Int)) = decide (a < b) := by
  apply Bool.eq_iff_iff.mpr
  simp only [decide_eq_true_iff]
  omega
theorem ge0 (a : Nat) : decide ((0 : Int) ≤ (a : Int)) = true := decide_eq_true (by omega)
theorem F_isnet (N : NetOk f gs) : F_is_net [.d (dNet f gs)] cs = .ok (.d (.bool true)) cs := by
  have h1 := N.hl
  have h2 := N.hf
  have e1 : decide ((f : Int) ≤ 200) = true := decide_eq_true (by omega)
  have e2 : gLenU [.d (dGs gs)] cs = .ok (.d (.int (gs.length : Nat))) cs := by rw [show dGs gs = .tuple (gs.map dG) from rfl, g_len_t, List.length_map]
  have e3 : decide ((20000 : Int) < ((gs.length : Nat) : Int)) = false := decide_eq_false (by omega)
  obtain ⟨sl', cs1', el, x3, x4, e7, e8⟩ := loop_inv (okc := fun _ => True) (tf := tgTup 2 (tgCons (tgName 3) (tgCons (tgName 4) tgNil)))
    (body := (sIf (eOr (eT (eBin gNe (eCall gLenU (aCons (eVar 4) aNil)) (eD (.int 2)))) (eNot (eTru (eCall gAll (aCons (eFrz (lComp (iSeq (eVar 4)) (tgName 5) eYes (eChain gLe gLt (eD (.int 0)) (eVar 5) (eBin gMul (eD (.int 2)) (eBin gAdd (eBin gAdd (eVar 1) (eD (.int 1))) (eVar 3)))) [5])) aNil)))))
  (sRet (eD (.bool false)))
  sNext))
    (fun i sl cs' => ∃ x3 x4, sl = [some (.d (dNet f gs)), some (.d (dN f)), some (.d (dGs gs)), x3, x4, none] ∧ cs' = cs) (enumD (gs.map dG)) 0 [some (.d (dNet f gs)), some (.d (dN f)), some (.d (dGs gs)), none, none, none] cs ⟨none, none, rfl, rfl⟩
    (fun _ _ _ => trivial) (fun i b sl cs' hb ⟨x3, x4, e4, e5⟩ => by
      subst e4
      cases e5
      obtain ⟨d, hd, rfl⟩ := enumD_get hb
      rw [List.getElem?_map] at hd
      obtain ⟨g, hg, rfl⟩ := Option.map_eq_some_iff.mp hd
      refine ⟨trivial, _, rfl, [some (.d (dNet f gs)), some (.d (dN f)), some (.d (dGs gs)), some (.d (.int (i : Nat))), some (.d (dG g)), none], _, .inl ?_, _, _, rfl, rfl⟩
      obtain ⟨w1, w2⟩ := N.ok.wf i g.1 g.2 hg
      have m1 : gMul (.d (.int 2)) (.d (.int ((f : Int) + 1 + (i : Nat)))) cs = .ok (.d (dN (2 * (f + 1 + i)))) cs := by
        rw [g_mul _ _ (mul_l (by decide) (by decide))]
        congr 3
      have k1 : eCall gLenU (aCons (eVar 4) aNil) [some (.d (dNet f gs)), some (.d (dN f)), some (.d (dGs gs)), some (.d (.int (i : Nat))), some (.d (dG g)), none] cs = .ok (.d (.int 2)) cs := g_len_t _
      have k2 := all_comp (sl := [some (.d (dNet f gs)), some (.d (dN f)), some (.d (dGs gs)), some (.d (.int (i : Nat))), some (.d (dG g)), none]) (cs := cs) (fi := iSeq (eVar 4)) (tf := tgName 5) (te := (eChain gLe gLt (eD (.int 0)) (eVar 5) (eBin gMul (eD (.int 2)) (eBin gAdd (eBin gAdd (eVar 1) (eD (.int 1))) (eVar 3))))) (vs := [5])
        [g.1, g.2] (fun x => .d (dN x)) (fun x => decide (x < 2 * (f + 1 + i))) rfl (show (2 : Nat) < sizeLine by decide) (fun a _ => by
          refine ⟨_, rfl, ?_⟩
          simp only [wipeS, List.set_cons_succ, List.set_cons_zero, ap_eChain, ap_eD, ap_eVar, List.getElem?_cons_zero, List.getElem?_cons_succ, ER.bind_ok, g_le, ge0, onB_b, if_true, ap_eBin, g_add, m1, g_lt, lt_n])
      have k3 : ([g.1, g.2].all fun x => decide (x < 2 * (f + 1 + i))) = true := by simp; exact ⟨w1, w2⟩
      rw [k3] at k2
      simp only [List.set_cons_succ, List.set_cons_zero, ap_sIf, ap_eOr, ap_eT, ap_eNot, ap_eTru, k2, ap_eBin, ap_eD, ER.bind_ok, k1, g_nei, isB_b, decide_true, Bool.not_true, Bool.false_eq_true, if_false, tru_b, sE_ok, ap_sNext])
  rw [e7, e8] at el
  have ie := ap_iEnum_t (sl := [some (.d (dNet f gs)), some (.d (dN f)), some (.d (dGs gs)), none, none, none]) (cs := cs) (aCons (eVar 2) aNil) (gs.map dG) cs rfl
  have t1 : tgTup 2 (tgCons (tgName 1) (tgCons (tgName 2) tgNil)) (.d (dNet f gs)) [some (.d (dNet f gs)), none, none, none, none, none] = some [some (.d (dNet f gs)), some (.d (dN f)), some (.d (dGs gs)), none, none, none] := rfl
  unfold F_is_net
  simp only [ap_mDef, ap_sSeq, ap_sAsg, ap_eVar, List.map_cons, List.map_nil, List.length_cons, List.length_nil, List.replicate, List.cons_append, List.nil_append, List.getElem?_cons_zero, List.getElem?_cons_succ, Nat.zero_add, Nat.reduceAdd, Nat.reduceSub, sE_ok, t1, ap_sIf, ap_eOr, ap_eNot, ap_eT, ap_eChain, ap_eD, ap_eB, ER.bind_ok, g_le, ge0, onB_b, if_true, b_MOST_FREE, e1, isB_b, Bool.not_true, Bool.false_eq_true, if_false,
    ap_eBin, ap_eCall, ap_aCons, ap_aNil, e2, b_MOST_GATES, g_gt, e3, ap_sNext, ap_sFor, ie, el, ap_sRet, retOf_rt, gcR_same]
theorem F_chknet (N : NetOk f gs) : F_check_net [.d (dNet f gs)] cs = .ok (.d .none) cs := by
  simp only [F_check_net, ap_mDef, ap_sNext, ap_sSeq, ap_sSet, ap_sExpr, ap_sRet, ap_sIf, ap_sPar, ap_sAsg, ap_sFldSet, ap_sPut, ap_sFor, ap_sBreak, ap_sNever, ap_sPass, ap_sCont, ap_tgName, ap_tgNil, ap_tgCons, ap_tgTupT, ap_tgTupL, ap_eVar, ap_eD, ap_eB, ap_eBin, ap_eUn, ap_eT, ap_eTru, ap_eNot, ap_eAnd, ap_eOr, ap_eNotV, ap_eAndV, ap_eOrV, ap_eIf, ap_eChain, ap_eFn, ap_eCall, ap_lCall, ap_aNil, ap_aCons, ap_aStar, ap_eTup, ap_lTake, ap_eFrz, ap_eCell, ap_lBin, ap_eBM, ap_eFld, ap_eMeth, ap_eMake, ap_eDNew, ap_eCutT, ap_oNone, ap_oSome, ap_eYes, g_add, g_sub, g_lt, g_le, g_gt, g_ge, isB_b, onB_b, tru_b, tru_i, g_int, g_intb, g_max, g_min, g_eqi, g_nei, retOf_nx, retOf_rt, ER.bind_ok, sE_ok, noEx_ok, List.map_cons, List.map_nil, List.length_cons, List.length_nil, List.replicate, List.cons_append, List.nil_append, List.getElem?_cons_succ, List.getElem?_cons_zero, List.set_cons_succ, List.set_cons_zero, if_true, reduceIte, Nat.zero_add, Nat.reduceAdd, Nat.reduceSub, Option.bind_some, allD_cons, allD_nil, Option.map_some, orE_ok, orE_no, and_self, Bool.false_eq_true, if_false, decide_true, decide_false, Bool.not_true, Bool.not_false, F_isnet N, gcR_same]
theorem net_len : gLenU [.d (dGs gs)] cs = .ok (.d (.int (gs.length : Nat))) cs := by rw [show dGs gs = .tuple (gs.map dG) from rfl, g_len_t, List.length_map]
theorem net_ix0 : gIx (.d (dNet f gs)) (.d (.int 0)) cs = .ok (.d (dN f)) cs := g_ix_t _ _ _ rfl
theorem net_ix1 : gIx (.d (dNet f gs)) (.d (.int 1)) cs = .ok (.d (dGs gs)) cs := g_ix_t _ _ _ rfl
theorem F_islit : F_is_literal [.d (dNet f gs), .d (dN l)] cs = .ok (.d (.bool (decide (l < 2 * (f + 1 + gs.length))))) cs := by
  have m1 : gMul (.d (.int 2)) (.d (.int ((f : Int) + 1 + (gs.length : Nat)))) cs = .ok (.d (dN (2 * (f + 1 + gs.length)))) cs := by
    rw [g_mul _ _ (mul_l (by decide) (by decide))]
    congr 3
  simp only [F_is_literal, ap_mDef, ap_sNext, ap_sSeq, ap_sSet, ap_sExpr, ap_sRet, ap_sIf, ap_sPar, ap_sAsg, ap_sFldSet, ap_sPut, ap_sFor, ap_sBreak, ap_sNever, ap_sPass, ap_sCont, ap_tgName, ap_tgNil, ap_tgCons, ap_tgTupT, ap_tgTupL, ap_eVar, ap_eD, ap_eB, ap_eBin, ap_eUn, ap_eT, ap_eTru, ap_eNot, ap_eAnd, ap_eOr, ap_eNotV, ap_eAndV, ap_eOrV, ap_eIf, ap_eChain, ap_eFn, ap_eCall, ap_lCall, ap_aNil, ap_aCons, ap_aStar, ap_eTup, ap_lTake, ap_eFrz, ap_eCell, ap_lBin, ap_eBM, ap_eFld, ap_eMeth, ap_eMake, ap_eDNew, ap_eCutT, ap_oNone, ap_oSome, ap_eYes, g_add, g_sub, g_lt, g_le, g_gt, g_ge, isB_b, onB_b, tru_b, tru_i, g_int, g_intb, g_max, g_min, g_eqi, g_nei, retOf_nx, retOf_rt, ER.bind_ok, sE_ok, noEx_ok, List.map_cons, List.map_nil, List.length_cons, List.length_nil, List.replicate, List.cons_append, List.nil_append, List.getElem?_cons_succ, List.getElem?_cons_zero, List.set_cons_succ, List.set_cons_zero, if_true, reduceIte, Nat.zero_add, Nat.reduceAdd, Nat.reduceSub, Option.bind_some, allD_cons, allD_nil, Option.map_some, orE_ok, orE_no, and_self, Bool.false_eq_true, if_false, decide_true, decide_false, Bool.not_true, Bool.not_false, ge0, net_ix0, net_ix1, net_len, m1, lt_n, gcR_same]
theorem F_isword {w : List Nat} (h : okW (f + 1) gs w) : F_is_word [.d (dNet f gs), .d (dW w)] cs = .ok (.d (.bool true)) cs := by
  obtain ⟨h1, h2, h3⟩ := h
  have e1 : eCall gLenU (aCons (eVar 1) aNil) [some (.d (dNet f gs)), some (.d (dW w)), none] cs = .ok (.d (.int (w.length : Nat))) cs := by
    show gLenU [.d (dW w)] cs = _
    rw [show dW w = .tuple (w.map dN) from rfl, g_len_t, List.length_map]
  have e2 : decide ((1 : Int) ≤ ((w.length : Nat) : Int)) = true := decide_eq_true (by omega)
  have e3 : decide (((w.length : Nat) : Int) ≤ 8) = true := decide_eq_true (by omega)
  have k2 := all_comp (sl := [some (.d (dNet f gs)), some (.d (dW w)), none]) (cs := cs) (fi := iSeq (eVar 1)) (tf := tgName 2) (te := eFn 2 F_is_literal (aCons (eVar 0) (aCons (eVar 2) aNil))) (vs := [2])
    w (fun x => .d (dN x)) (fun x => decide (x < 2 * (f + 1 + gs.length))) (by rw [i_seq_t _ (w.map dN) cs rfl, List.map_map]; rfl) (Nat.lt_of_le_of_lt h2 (by decide)) (fun a _ => by
      refine ⟨_, rfl, ?_⟩
      simp only [wipeS, List.set_cons_succ, List.set_cons_zero, ap_eFn, ap_aCons, ap_aNil, ap_eVar, List.getElem?_cons_zero, List.getElem?_cons_succ, ER.bind_ok, List.length_cons, List.length_nil, Nat.zero_add, Nat.reduceAdd, if_true, F_islit])
  have k3 : (w.all fun x => decide (x < 2 * (f + 1 + gs.length))) = true := by
    rw [List.all_eq_true]
    exact fun x hx => decide_eq_true (h3 x hx)
  rw [k3] at k2
  unfold F_is_word
  simp only [ap_mDef, ap_sRet, ap_eAndV, k2, ap_eChain, ap_eD, ap_eB, b_MOST_WIDTH, List.map_cons, List.map_nil, List.length_cons, List.length_nil, List.replicate, List.cons_append, List.nil_append, Nat.zero_add, Nat.reduceAdd, Nat.reduceSub, ER.bind_ok, e1, g_le, e2, e3, onB_b, if_true, sE_ok, retOf_rt, gcR_same]
theorem F_chkwords {ws : List (List Nat)} (N : NetOk f gs) (hw : ∀ w ∈ ws, okW (f + 1) gs w) (hn : ws ≠ []) (hl : ws.length ≤ 2) (m : Nat) (hm : ∀ w ∈ ws, w.length = m) : F_check_words [.d (dNet f gs), .d (.list (ws.map dW))] cs = .ok (.d .none) cs := by
  have k2 := all_comp (sl := [some (.d (dNet f gs)), some (.d (.list (ws.map dW))), none]) (cs := cs) (fi := iSeq (eVar 1)) (tf := tgName 2) (te := eFn 2 F_is_word (aCons (eVar 0) (aCons (eVar 2) aNil))) (vs := [2])
    ws (fun w => .d (dW w)) (fun _ => true) (by rw [i_seq_l _ (ws.map dW) cs rfl, List.map_map]; rfl) (Nat.lt_of_le_of_lt hl (by decide)) (fun a ha => by
      refine ⟨_, rfl, ?_⟩
      simp only [wipeS, List.set_cons_succ, List.set_cons_zero, ap_eFn, ap_aCons, ap_aNil, ap_eVar, List.getElem?_cons_zero, List.getElem?_cons_succ, ER.bind_ok, List.length_cons, List.length_nil, Nat.zero_add, Nat.reduceAdd, if_true, F_isword (hw a ha)])
  rw [show (ws.all fun _ => true) = true from by simp] at k2
  have dl : ∀ (sl0 : Sl) (acc : List (Key × B)), (acc = [] ∨ acc = [(.inl (m : Int), .d (.bool true))]) → ∀ vs : List (List Nat), (∀ w ∈ vs, w.length = m) → ∀ x0 x1 x2, sl0 = [x0, x1, x2] → (vs ≠ [] ∨ acc ≠ []) →
      dcLoop keyD (fun _ => True) (tgName 2) eYes (eCall gLenU (aCons (eVar 2) aNil)) (eD (.bool true)) sl0 (vs.map fun w => .d (dW w)) acc cs = .ok [(.inl (m : Int), .d (.bool true))] cs := by
    intro sl0 acc hacc vs
    induction vs generalizing acc with
    | nil =>
      intro _ x0 x1 x2 _ hne
      unfold dcLoop
      simp only [List.map_nil, if_true]
      rcases hacc with rfl | rfl
      · exact absurd rfl (hne.resolve_left (by simp))
      · rfl
    | cons v vs ih =>
      intro hv x0 x1 x2 hsl _
      rw [List.map_cons]
      unfold dcLoop
      subst hsl
      have e1 : gLenU [.d (dW v)] cs = .ok (.d (.int (m : Nat))) cs := by rw [show dW v = .tuple (v.map dN) from rfl, g_len_t, List.length_map, hv v List.mem_cons_self]
      have e2 : putB acc (Sum.inl (m : Int)) (.d (.bool true)) = [(.inl (m : Int), .d (.bool true))] := by
        rcases hacc with rfl | rfl
        · rfl
        · simp [putB]
      simp only [if_true, ap_tgName, List.set_cons_succ, List.set_cons_zero, ap_eYes, noEx_ok, ER.bind_ok, ap_eCall, ap_aCons, ap_aNil, ap_eVar, List.getElem?_cons_zero, List.getElem?_cons_succ, e1, ap_eD, keyD_int, e2]
      exact ih _ (.inr rfl) (fun w hw => hv w (List.mem_cons_of_mem _ hw)) x0 x1 x2 rfl (.inr (by simp))
  have dc : eDcK (iSeq (eVar 1)) (tgName 2) eYes (eCall gLenU (aCons (eVar 2) aNil)) (eD (.bool true)) [2] [some (.d (dNet f gs)), some (.d (.list (ws.map dW))), none] cs = .ok (.r cs.length) (cs ++ [.dK [(.inl (m : Int), .d (.bool true))]]) := by
    unfold eDcK eDc
    rw [i_seq_l _ (ws.map dW) cs rfl, ER.bind_ok]
    simp only
    rw [if_pos (by rw [List.length_map, List.length_map]; exact Nat.lt_of_le_of_lt hl (by decide)), List.map_map, show (B.d ∘ dW) = fun w => B.d (dW w) from rfl, show wipeS [some (B.d (dNet f gs)), some (B.d (.list (ws.map dW))), none] [2] = [some (B.d (dNet f gs)), some (B.d (.list (ws.map dW))), none] from rfl, dl _ [] (.inl rfl) ws hm _ _ _ rfl (.inl hn), ER.bind_ok]
  have e5 : gLenU [.r cs.length] (cs ++ [.dK [(.inl (m : Int), .d (.bool true))]]) = .ok (.d (.int 1)) (cs ++ [.dK [(.inl (m : Int), .d (.bool true))]]) := by
    have a0 : (cs ++ [.dK [(.inl (m : Int), .d (.bool true))]] : Cs)[cs.length]? = some (.dK [(.inl (m : Int), .d (.bool true))]) := by rw [List.getElem?_append_right (Nat.le_refl _), Nat.sub_self]; rfl
    rw [ap_gLenU]
    unfold gLen gLenD
    simp only [bSeq_r, bList, a0, orE_no]
    rfl
  unfold F_check_words
  simp only [ap_mDef, ap_sSeq, ap_sExpr, ap_eFn, ap_aCons, ap_aNil, ap_eVar, List.map_cons, List.map_nil, List.length_cons, List.length_nil, List.replicate, List.cons_append, List.nil_append, List.getElem?_cons_zero, List.getElem?_cons_succ, Nat.zero_add, Nat.reduceAdd, Nat.reduceSub, ER.bind_ok, if_true, F_chknet N, sE_ok, ap_sIf, ap_eOr, ap_eNot, ap_eTru]
  have k2' : eCall gAll (aCons (eFrz (lComp (iSeq (eVar 1)) (tgName 2) eYes (eFn 2 F_is_word (aCons (eVar 0) (aCons (eVar 2) aNil))) [2])) aNil) [some (.d (dNet f gs)), some (.d (.list (ws.map dW))), none] cs = .ok (.d (.bool true)) cs := k2
  simp only [k2', ER.bind_ok, tru_b, Bool.not_true, Bool.false_eq_true, if_false, ap_eT, ap_eBin, ap_eCall, ap_aCons, ap_aNil, dc, e5, ap_eD, g_nei, decide_true, isB_b, sE_ok, ap_sNext, retOf_nx, gcR_app]
theorem F_chklits {ls : List Nat} (N : NetOk f gs) (hw : ∀ l ∈ ls, l < 2 * (f + 1 + gs.length)) (hl : ls.length ≤ 2) : F_check_literals [.d (dNet f gs), .d (.list (ls.map dN))] cs = .ok (.d .none) cs := by
  have k2 := all_comp (sl := [some (.d (dNet f gs)), some (.d (.list (ls.map dN))), none]) (cs := cs) (fi := iSeq (eVar 1)) (tf := tgName 2) (te := eFn 2 F_is_literal (aCons (eVar 0) (aCons (eVar 2) aNil))) (vs := [2])
    ls (fun w => .d (dN w)) (fun x => decide (x < 2 * (f + 1 + gs.length))) (by rw [i_seq_l _ (ls.map dN) cs rfl, List.map_map]; rfl) (Nat.lt_of_le_of_lt hl (by decide)) (fun a ha => by
      refine ⟨_, rfl, ?_⟩
      simp only [wipeS, List.set_cons_succ, List.set_cons_zero, ap_eFn, ap_aCons, ap_aNil, ap_eVar, List.getElem?_cons_zero, List.getElem?_cons_succ, ER.bind_ok, List.length_cons, List.length_nil, Nat.zero_add, Nat.reduceAdd, if_true, F_islit])
  have k3 : (ls.all fun x => decide (x < 2 * (f + 1 + gs.length))) = true := by
    rw [List.all_eq_true]
    exact fun x hx => decide_eq_true (hw x hx)
  rw [k3] at k2
  have k2' : eCall gAll (aCons (eFrz (lComp (iSeq (eVar 1)) (tgName 2) eYes (eFn 2 F_is_literal (aCons (eVar 0) (aCons (eVar 2) aNil))) [2])) aNil) [some (.d (dNet f gs)), some (.d (.list (ls.map dN))), none] cs = .ok (.d (.bool true)) cs := k2
  unfold F_check_literals
  simp only [ap_mDef, ap_sSeq, ap_sExpr, ap_eFn, ap_aCons, ap_aNil, ap_eVar, List.map_cons, List.map_nil, List.length_cons, List.length_nil, List.replicate, List.cons_append, List.nil_append, List.getElem?_cons_zero, List.getElem?_cons_succ, Nat.zero_add, Nat.reduceAdd, Nat.reduceSub, ER.bind_ok, if_true, F_chknet N, sE_ok, ap_sIf, ap_eNot, ap_eTru]
  simp only [k2', ER.bind_ok, tru_b, Bool.not_true, Bool.false_eq_true, if_false, sE_ok, ap_sNext, retOf_nx, gcR_same]
end
end K42

/-! M12: combined, joined, picked. -/
namespace VM
open PySem L2
section
variable {cs : Cs}
theorem all_flatS (ys : List Str) : (ys.map PyData.str).all flatD = true := by
  rw [List.all_eq_true]
  intro x hx
  obtain ⟨i, _, rfl⟩ := List.mem_map.mp hx
  rfl
theorem inV_strs (x : Str) (ys : List Str) : inV (.str x) ((ys.map PyData.str).map dV) = ys.any fun y => y == x := by
  unfold inV
  rw [List.map_map, List.any_map]
  rfl
theorem g_in_strs (neg : Bool) (x : Str) (ys : List Str) : gIn neg (.d (.str x)) (.d (.list (ys.map PyData.str))) cs = .ok (.d (.bool (if neg then !(ys.any fun y => y == x) else ys.any fun y => y == x))) cs := by
  unfold gIn
  simp only [bSeq_l, Option.bind_some, allD_mapd]
  rw [if_pos ⟨rfl, all_flatS ys⟩]
  show ER.ok (B.d (.bool (if neg then !inV (.str x) ((ys.map PyData.str).map dV) else inV (.str x) ((ys.map PyData.str).map dV)))) cs = _
  rw [inV_strs]
theorem g_in_strsK (neg : Bool) (x : Str) (ys : List Str) : gIn neg (.d (.str x)) (.k (.tuple (ys.map PyData.str))) cs = .ok (.d (.bool (if neg then !(ys.any fun y => y == x) else ys.any fun y => y == x))) cs := by
  unfold gIn
  have e : (ys.map PyData.str).map kB = (ys.map PyData.str).map B.d := by rw [List.map_map, List.map_map]; rfl
  simp only [bSeq_k, Option.bind_some, e, allD_mapd]
  rw [if_pos ⟨rfl, all_flatS ys⟩]
  show ER.ok (B.d (.bool (if neg then !inV (.str x) ((ys.map PyData.str).map dV) else inV (.str x) ((ys.map PyData.str).map dV)))) cs = _
  rw [inV_strs]
end
end VM
namespace K42
open PySem VM L2
open Classical
section
variable {c0 cs t : Cs} {f : Nat} {S : Nat → Prop} {gs : Gs} {a b c l : Nat} {A F G C : List Bool → Bool}
def KS : List Str := ["add", "sub", "mul", "and", "or", "xor", "same", "less", "least"]
theorem in_kinds {kind : Str} (h : (KS.any fun y => y == kind) = true) : gInU true (.d (.str kind)) b_KINDS cs = .ok (.d (.bool false)) cs := by
  have e : b_KINDS = .k (.tuple (KS.map PyData.str)) := rfl
  rw [ap_gInU, e, g_in_strsK, h]
  rfl
/-- a new net and a word -/
structure Cw (cs : Cs) (f : Nat) (S : Nat → Prop) (gs : Gs) (r : ER B) (Fs : List (List Bool → Bool)) : Prop where
  ex : ∃ gs' w, r = .ok (.d (.tuple [dNet f gs', dW w])) cs ∧ Ex gs gs' 40 ∧ Ok (f + 1) gs' ∧ w.length = Fs.length ∧ ∀ (i : Nat) (l : Nat) (F : List Bool → Bool), w[i]? = some l → Fs[i]? = some F → Dn (f + 1) S gs' l F
theorem st_nil : ST cs f gs [] = cs ++ BS cs.length f gs := by simp [ST]
theorem gcR_st (x : D) {gs' : Gs} : gcR cs (.ok (.d x) (ST cs f gs' [])) = .ok (.d x) cs := by rw [st_nil, gcR_app]
theorem mk_len : (cs ++ [Cell.ins "Build" []] : Cs).length = cs.length + 1 := by simp
theorem F_comb {kind : Str} {x y : List Nat} {Fs : List (List Bool → Bool)} (N : NetOk f gs) (hk : (KS.any fun y => y == kind) = true) (hx : okW (f + 1) gs x) (hy : okW (f + 1) gs y) (hxy : x.length = y.length)
    (h : Gw cs [] f S gs 40 (F_Build_combine [.r cs.length, .d (.str kind), .d (dW x), .d (dW y)] (ST cs f gs [])) Fs) : Cw cs f S gs (F_combined [.d (dNet f gs), .d (.str kind), .d (dW x), .d (dW y)] cs) Fs := by
  obtain ⟨gs', w, e, ex, ok, hw, hd⟩ := h.ex
  refine ⟨gs', w, ?_, ex, ok, hw, hd⟩
  have hz : (2 : Nat) ≤ sizeLine := by decide
  have c1 : F_check_words [.d (dNet f gs), .d (.list [dW x, dW y])] cs = .ok (.d .none) cs := F_chkwords (ws := [x, y]) N (fun w hw => by
    rcases List.mem_cons.mp hw with e | hw
    · rw [e]; exact hx
    · rw [List.mem_singleton.mp hw]; exact hy) (by simp) (by simp) x.length (fun w hw => by
    rcases List.mem_cons.mp hw with e | hw
    · rw [e]
    · rw [List.mem_singleton.mp hw, hxy])
  have c2 := F_init (c0 := cs) (f := f) (gs := gs) N.ok.nd (by have := N.hl; omega)
  have c3 : bSeq cs (.d (dNet f gs)) = some [.d (dN f), .d (dGs gs)] := rfl
  have hl := ex.len
  have hN := N.hl
  have c4 := F_net (c0 := cs) (t := []) (f := f) (gs := gs') (by omega)
  unfold F_combined
  simp only [ap_mDef, ap_sNext, ap_sSeq, ap_sSet, ap_sExpr, ap_sRet, ap_sIf, ap_sPar, ap_sAsg, ap_sFldSet, ap_sPut, ap_sFor, ap_sBreak, ap_sNever, ap_sPass, ap_sCont, ap_tgName, ap_tgNil, ap_tgCons, ap_tgTupT, ap_tgTupL, ap_eVar, ap_eD, ap_eB, ap_eBin, ap_eUn, ap_eT, ap_eTru, ap_eNot, ap_eAnd, ap_eOr, ap_eNotV, ap_eAndV, ap_eOrV, ap_eIf, ap_eChain, ap_eFn, ap_eCall, ap_lCall, ap_aNil, ap_aCons, ap_aStar, ap_eTup, ap_lTake, ap_eFrz, ap_eCell, ap_lBin, ap_eBM, ap_eFld, ap_eMeth, ap_eMake, ap_eDNew, ap_eCutT, ap_oNone, ap_oSome, ap_eYes, g_add, g_sub, g_lt, g_le, g_gt, g_ge, isB_b, onB_b, tru_b, tru_i, g_int, g_intb, g_max, g_min, g_eqi, g_nei, retOf_nx, retOf_rt, ER.bind_ok, sE_ok, noEx_ok, List.map_cons, List.map_nil, List.length_cons, List.length_nil, List.replicate, List.cons_append, List.nil_append, List.getElem?_cons_succ, List.getElem?_cons_zero, List.set_cons_succ, List.set_cons_zero, if_true, reduceIte, Nat.zero_add, Nat.reduceAdd, Nat.reduceSub, Option.bind_some, allD_cons, allD_nil, Option.map_some, orE_ok, orE_no, and_self, Bool.false_eq_true, if_false, decide_true, decide_false, Bool.not_true, Bool.not_false, hz, c1, in_kinds hk, c3, c2, e, bs0, lk_combine, lk_net, c4, List.append_nil, gcR_st]
theorem F_picks {x y : List Nat} {Fs : List (List Bool → Bool)} (N : NetOk f gs) (hc : c < 2 * (f + 1 + gs.length)) (hx : okW (f + 1) gs x) (hy : okW (f + 1) gs y) (hxy : x.length = y.length)
    (h : Gw cs [] f S gs 40 (F_Build_pick [.r cs.length, .d (dN c), .d (dW x), .d (dW y)] (ST cs f gs [])) Fs) : Cw cs f S gs (F_picked [.d (dNet f gs), .d (dN c), .d (dW x), .d (dW y)] cs) Fs := by
  obtain ⟨gs', w, e, ex, ok, hw, hd⟩ := h.ex
  refine ⟨gs', w, ?_, ex, ok, hw, hd⟩
  have hz : (2 : Nat) ≤ sizeLine := by decide
  have hz1 : (1 : Nat) ≤ sizeLine := by decide
  have c0 : F_check_literals [.d (dNet f gs), .d (.list [dN c])] cs = .ok (.d .none) cs := F_chklits (ls := [c]) N (fun l hl => by rw [List.mem_singleton.mp hl]; exact hc) (by simp)
  have c1 : F_check_words [.d (dNet f gs), .d (.list [dW x, dW y])] cs = .ok (.d .none) cs := F_chkwords (ws := [x, y]) N (fun w hw => by
    rcases List.mem_cons.mp hw with e | hw
    · rw [e]; exact hx
    · rw [List.mem_singleton.mp hw]; exact hy) (by simp) (by simp) x.length (fun w hw => by
    rcases List.mem_cons.mp hw with e | hw
    · rw [e]
    · rw [List.mem_singleton.mp hw, hxy])
  have c2 := F_init (c0 := cs) (f := f) (gs := gs) N.ok.nd (by have := N.hl; omega)
  have c3 : bSeq cs (.d (dNet f gs)) = some [.d (dN f), .d (dGs gs)] := rfl
  have hl := ex.len
  have hN := N.hl
  have c4 := F_net (c0 := cs) (t := []) (f := f) (gs := gs') (by omega)
  unfold F_picked
  simp only [ap_mDef, ap_sNext, ap_sSeq, ap_sSet, ap_sExpr, ap_sRet, ap_sIf, ap_sPar, ap_sAsg, ap_sFldSet, ap_sPut, ap_sFor, ap_sBreak, ap_sNever, ap_sPass, ap_sCont, ap_tgName, ap_tgNil, ap_tgCons, ap_tgTupT, ap_tgTupL, ap_eVar, ap_eD, ap_eB, ap_eBin, ap_eUn, ap_eT, ap_eTru, ap_eNot, ap_eAnd, ap_eOr, ap_eNotV, ap_eAndV, ap_eOrV, ap_eIf, ap_eChain, ap_eFn, ap_eCall, ap_lCall, ap_aNil, ap_aCons, ap_aStar, ap_eTup, ap_lTake, ap_eFrz, ap_eCell, ap_lBin, ap_eBM, ap_eFld, ap_eMeth, ap_eMake, ap_eDNew, ap_eCutT, ap_oNone, ap_oSome, ap_eYes, g_add, g_sub, g_lt, g_le, g_gt, g_ge, isB_b, onB_b, tru_b, tru_i, g_int, g_intb, g_max, g_min, g_eqi, g_nei, retOf_nx, retOf_rt, ER.bind_ok, sE_ok, noEx_ok, List.map_cons, List.map_nil, List.length_cons, List.length_nil, List.replicate, List.cons_append, List.nil_append, List.getElem?_cons_succ, List.getElem?_cons_zero, List.set_cons_succ, List.set_cons_zero, if_true, reduceIte, Nat.zero_add, Nat.reduceAdd, Nat.reduceSub, Option.bind_some, allD_cons, allD_nil, Option.map_some, orE_ok, orE_no, and_self, Bool.false_eq_true, if_false, decide_true, decide_false, Bool.not_true, Bool.not_false, hz, hz1, c0, c1, c3, c2, e, bs0, lk_pick, lk_net, c4, List.append_nil, gcR_st]
theorem F_join (N : NetOk f gs) (ha : a < 2 * (f + 1 + gs.length)) (hb : b < 2 * (f + 1 + gs.length)) (hl' : (both (f + 1) gs a b).1.length ≤ 20000) :
    F_joined [.d (dNet f gs), .d (dN a), .d (dN b)] cs = .ok (.d (.tuple [dNet f (both (f + 1) gs a b).1, dN (both (f + 1) gs a b).2])) cs := by
  have hz : (2 : Nat) ≤ sizeLine := by decide
  have c0 : F_check_literals [.d (dNet f gs), .d (.list [dN a, dN b])] cs = .ok (.d .none) cs := F_chklits (ls := [a, b]) N (fun l hl => by
    rcases List.mem_cons.mp hl with e | hl
    · rw [e]; exact ha
    · rw [List.mem_singleton.mp hl]; exact hb) (by simp)
  have hN := N.hl
  have c2 := F_init (c0 := cs) (f := f) (gs := gs) N.ok.nd (by omega)
  have c3 : bSeq cs (.d (dNet f gs)) = some [.d (dN f), .d (dGs gs)] := rfl
  have e := F_both (c0 := cs) (t := []) a b ha hb (by omega)
  have c4 := F_net (c0 := cs) (t := []) (f := f) (gs := (both (f + 1) gs a b).1) hl'
  unfold F_joined
  simp only [ap_mDef, ap_sNext, ap_sSeq, ap_sSet, ap_sExpr, ap_sRet, ap_sIf, ap_sPar, ap_sAsg, ap_sFldSet, ap_sPut, ap_sFor, ap_sBreak, ap_sNever, ap_sPass, ap_sCont, ap_tgName, ap_tgNil, ap_tgCons, ap_tgTupT, ap_tgTupL, ap_eVar, ap_eD, ap_eB, ap_eBin, ap_eUn, ap_eT, ap_eTru, ap_eNot, ap_eAnd, ap_eOr, ap_eNotV, ap_eAndV, ap_eOrV, ap_eIf, ap_eChain, ap_eFn, ap_eCall, ap_lCall, ap_aNil, ap_aCons, ap_aStar, ap_eTup, ap_lTake, ap_eFrz, ap_eCell, ap_lBin, ap_eBM, ap_eFld, ap_eMeth, ap_eMake, ap_eDNew, ap_eCutT, ap_oNone, ap_oSome, ap_eYes, g_add, g_sub, g_lt, g_le, g_gt, g_ge, isB_b, onB_b, tru_b, tru_i, g_int, g_intb, g_max, g_min, g_eqi, g_nei, retOf_nx, retOf_rt, ER.bind_ok, sE_ok, noEx_ok, List.map_cons, List.map_nil, List.length_cons, List.length_nil, List.replicate, List.cons_append, List.nil_append, List.getElem?_cons_succ, List.getElem?_cons_zero, List.set_cons_succ, List.set_cons_zero, if_true, reduceIte, Nat.zero_add, Nat.reduceAdd, Nat.reduceSub, Option.bind_some, allD_cons, allD_nil, Option.map_some, orE_ok, orE_no, and_self, Bool.false_eq_true, if_false, decide_true, decide_false, Bool.not_true, Bool.not_false, hz, c0, c3, c2, e, bs0, lk_both, lk_net, c4, List.append_nil, gcR_st]
end
end K42

/-! M13: values, numbers. -/
namespace K42
open PySem VM L2
open Classical
def bI (b : Bool) : Int := if b then 1 else 0
abbrev dB (b : Bool) : D := .int (bI b)
theorem bI_mul (x y : Bool) : bI x * bI y = bI (x && y) := by cases x <;> cases y <;> decide
theorem bI_lo (x : Bool) : -(2 ^ 64) < bI x := by cases x <;> decide
theorem bI_hi (x : Bool) : bI x < 2 ^ 64 := by cases x <;> decide
theorem bI_abs (x : Bool) : (bI x).natAbs < 2 ^ 64 := by cases x <;> decide
theorem bI_not (x : Bool) : 1 - bI x = bI (!x) := by cases x <;> decide
abbrev rowB (vs : List Bool) : List B := vs.map fun b => .d (dB b)
section
variable {cs : Cs} {f k l : Nat} {gs : Gs} {vs β : List Bool}
theorem rowB_at (i : Nat) (h : i < vs.length) : atI (rowB vs) (i : Int) = some (.d (dB (vs.getD i false))) := by
  rw [atI_nat _ _ (by omega) (by rw [List.length_map]; omega), Int.toNat_natCast, List.getElem?_map, List.getElem?_eq_getElem h, List.getD_eq_getElem?_getD, List.getElem?_eq_getElem h]
  rfl
theorem F_value (hk : cs[k]? = some (.lst (rowB vs))) (hl : l / 2 < vs.length) : F_value_of [.r k, .d (dN l)] cs = .ok (.d (dB (lit aB vs l))) cs := by
  have e1 : gDiv (.d (dN l)) (.d (.int 2)) cs = .ok (.d (.int ((l / 2 : Nat) : Int))) cs := by rw [g_div _ _ ⟨by decide, by decide⟩]; congr 3
  have e2 : gMod (.d (dN l)) (.d (.int 2)) cs = .ok (.d (.int ((l % 2 : Nat) : Int))) cs := by rw [g_mod _ _ (by decide)]; congr 3
  have e3 : gIx (.r k) (.d (.int ((l / 2 : Nat) : Int))) cs = .ok (.d (dB (vs.getD (l / 2) false))) cs := g_ix_r _ _ _ _ hk (rowB_at _ hl)
  have e4 : (((l % 2 : Nat) : Int) != 0) = decide (l % 2 = 1) := by
    by_cases h : l % 2 = 1
    · rw [h]; rfl
    · have : l % 2 = 0 := by omega
      rw [this]; rfl
  unfold lit aB
  by_cases h : l % 2 = 1
  · have e5 : decide (l % 2 = 1) = true := decide_eq_true h
    rw [if_pos h]
    simp only [F_value_of, ap_mDef, ap_sNext, ap_sSeq, ap_sSet, ap_sExpr, ap_sRet, ap_sIf, ap_sPar, ap_sAsg, ap_sFldSet, ap_sPut, ap_sFor, ap_sBreak, ap_sNever, ap_sPass, ap_sCont, ap_tgName, ap_tgNil, ap_tgCons, ap_tgTupT, ap_tgTupL, ap_eVar, ap_eD, ap_eB, ap_eBin, ap_eUn, ap_eT, ap_eTru, ap_eNot, ap_eAnd, ap_eOr, ap_eNotV, ap_eAndV, ap_eOrV, ap_eIf, ap_eChain, ap_eFn, ap_eCall, ap_lCall, ap_aNil, ap_aCons, ap_aStar, ap_eTup, ap_lTake, ap_eFrz, ap_eCell, ap_lBin, ap_eBM, ap_eFld, ap_eMeth, ap_eMake, ap_eDNew, ap_eCutT, ap_oNone, ap_oSome, ap_eYes, g_add, g_sub, g_lt, g_le, g_gt, g_ge, isB_b, onB_b, tru_b, tru_i, g_int, g_intb, g_max, g_min, g_eqi, g_nei, retOf_nx, retOf_rt, ER.bind_ok, sE_ok, noEx_ok, List.map_cons, List.map_nil, List.length_cons, List.length_nil, List.replicate, List.cons_append, List.nil_append, List.getElem?_cons_succ, List.getElem?_cons_zero, List.set_cons_succ, List.set_cons_zero, if_true, reduceIte, Nat.zero_add, Nat.reduceAdd, Nat.reduceSub, Option.bind_some, allD_cons, allD_nil, Option.map_some, orE_ok, orE_no, and_self, Bool.false_eq_true, if_false, decide_true, decide_false, Bool.not_true, Bool.not_false, e1, e2, e3, e4, e5, gcR_same, bI_not]
  · have e5 : decide (l % 2 = 1) = false := decide_eq_false h
    rw [if_neg h]
    simp only [F_value_of, ap_mDef, ap_sNext, ap_sSeq, ap_sSet, ap_sExpr, ap_sRet, ap_sIf, ap_sPar, ap_sAsg, ap_sFldSet, ap_sPut, ap_sFor, ap_sBreak, ap_sNever, ap_sPass, ap_sCont, ap_tgName, ap_tgNil, ap_tgCons, ap_tgTupT, ap_tgTupL, ap_eVar, ap_eD, ap_eB, ap_eBin, ap_eUn, ap_eT, ap_eTru, ap_eNot, ap_eAnd, ap_eOr, ap_eNotV, ap_eAndV, ap_eOrV, ap_eIf, ap_eChain, ap_eFn, ap_eCall, ap_lCall, ap_aNil, ap_aCons, ap_aStar, ap_eTup, ap_lTake, ap_eFrz, ap_eCell, ap_lBin, ap_eBM, ap_eFld, ap_eMeth, ap_eMake, ap_eDNew, ap_eCutT, ap_oNone, ap_oSome, ap_eYes, g_add, g_sub, g_lt, g_le, g_gt, g_ge, isB_b, onB_b, tru_b, tru_i, g_int, g_intb, g_max, g_min, g_eqi, g_nei, retOf_nx, retOf_rt, ER.bind_ok, sE_ok, noEx_ok, List.map_cons, List.map_nil, List.length_cons, List.length_nil, List.replicate, List.cons_append, List.nil_append, List.getElem?_cons_succ, List.getElem?_cons_zero, List.set_cons_succ, List.set_cons_zero, if_true, reduceIte, Nat.zero_add, Nat.reduceAdd, Nat.reduceSub, Option.bind_some, allD_cons, allD_nil, Option.map_some, orE_ok, orE_no, and_self, Bool.false_eq_true, if_false, decide_true, decide_false, Bool.not_true, Bool.not_false, e1, e2, e3, e4, e5, gcR_same]
theorem gcN_new (x : List B) (h : ∀ b ∈ x, b.low cs.length) : gcN cs (.ok (.r cs.length) (cs ++ [.lst x])) = .ok (.r cs.length) (cs ++ [.lst x]) := by
  have a0 : (cs ++ [.lst x] : Cs)[cs.length]? = some (.lst x) := by rw [List.getElem?_append_right (Nat.le_refl _), Nat.sub_self]; rfl
  have hg : GcOk cs (cs ++ [.lst x]) := ⟨by simp, fun k c' hk e => .inl (by rw [List.getElem?_append_left hk] at e; exact e)⟩
  unfold gcN
  simp only [a0]
  rw [if_pos (show GcOk cs (cs ++ [.lst x]) ∧ cs.length ≤ cs.length ∧ (Cell.lst x).low cs.length ∧ Cell.lst x ≠ Cell.dead from ⟨hg, Nat.le_refl _, h, by intro z; cases z⟩), List.take_left]
theorem row_low (n : Nat) : ∀ b ∈ rowB vs, b.low n := fun b hb => by
  obtain ⟨x, _, rfl⟩ := List.mem_map.mp hb
  trivial
theorem F_values {bb : B} (hb : bSeq cs bb = some (rowB β)) (N : NetOk f gs) (hf : β.length = f) : F_values_of [.d (dNet f gs), bb] cs = .ok (.r cs.length) (cs ++ [.lst (rowB (ev aB (v0 β) gs))]) := by
  have hN := N.hl
  have hF := N.hf
  have hs : β.length + 1 ≤ sizeLine := by rw [hf]; exact Nat.le_trans (by omega : f + 1 ≤ 201) (by decide)
  obtain ⟨sl', cs1, el, x3, x4, e7, e8⟩ := loop_inv (okc := fun _ => True) (tf := tgTup 2 (tgCons (tgName 3) (tgCons (tgName 4) tgNil)))
    (body := sExpr (eBM isLst gAppend (eVar 2) (aCons (eBin gMul (eFn 2 F_value_of (aCons (eVar 2) (aCons (eVar 3) aNil))) (eFn 2 F_value_of (aCons (eVar 2) (aCons (eVar 4) aNil)))) aNil)))
    (fun i sl c => ∃ x3 x4, sl = [some (.d (dNet f gs)), some bb, some (.r cs.length), x3, x4] ∧ c = cs ++ [.lst (rowB (ev aB (v0 β) (gs.take i)))]) ((gs.map dG).map B.d) 0 [some (.d (dNet f gs)), some bb, some (.r cs.length), none, none] (cs ++ [.lst (rowB (v0 β))]) ⟨none, none, rfl, rfl⟩
    (fun _ _ _ => trivial) (fun i b sl c hb ⟨x3, x4, e4, e5⟩ => by
      subst e4 e5
      rw [List.getElem?_map, List.getElem?_map] at hb
      obtain ⟨d, hd, rfl⟩ := Option.map_eq_some_iff.mp hb
      obtain ⟨g, hg, rfl⟩ := Option.map_eq_some_iff.mp hd
      rw [Nat.zero_add]
      refine ⟨trivial, _, rfl, [some (.d (dNet f gs)), some bb, some (.r cs.length), some (.d (dN g.1)), some (.d (dN g.2))], cs ++ [.lst (rowB (ev aB (v0 β) (gs.take (i + 1))))], .inl ?_, _, _, rfl, rfl⟩
      obtain ⟨w1, w2⟩ := N.ok.wf i g.1 g.2 hg
      have hi := (List.getElem?_eq_some_iff.mp hg).1
      have tl : (gs.take i).length = i := by rw [List.length_take]; omega
      have vl : (ev aB (v0 β) (gs.take i)).length = f + 1 + i := by rw [ev_len, v0_len, tl, hf]
      have a0 : (cs ++ [.lst (rowB (ev aB (v0 β) (gs.take i)))] : Cs)[cs.length]? = some (.lst (rowB (ev aB (v0 β) (gs.take i)))) := by rw [List.getElem?_append_right (Nat.le_refl _), Nat.sub_self]; rfl
      have e1 := F_value (l := g.1) a0 (by rw [vl]; omega)
      have e2 := F_value (l := g.2) a0 (by rw [vl]; omega)
      have e3 : ∀ c : Cs, gMul (.d (dB (lit aB (ev aB (v0 β) (gs.take i)) g.1))) (.d (dB (lit aB (ev aB (v0 β) (gs.take i)) g.2))) c = .ok (.d (dB (lit aB (ev aB (v0 β) (gs.take i)) g.1 && lit aB (ev aB (v0 β) (gs.take i)) g.2))) c := fun c => by
        rw [g_mul _ _ (mul_l (bI_lo _) (bI_hi _)), bI_mul]
      have e5 : ev aB (v0 β) (gs.take (i + 1)) = ev aB (v0 β) (gs.take i) ++ [lit aB (ev aB (v0 β) (gs.take i)) g.1 && lit aB (ev aB (v0 β) (gs.take i)) g.2] := by
        rw [take_succ_at hg, ev_app]; rfl
      have e4 : gAppend cs.length [.d (dB (lit aB (ev aB (v0 β) (gs.take i)) g.1 && lit aB (ev aB (v0 β) (gs.take i)) g.2))] (cs ++ [.lst (rowB (ev aB (v0 β) (gs.take i)))]) = .ok (.d .none) (cs ++ [.lst (rowB (ev aB (v0 β) (gs.take (i + 1))))]) := by
        unfold gAppend
        simp only [a0]
        rw [if_pos (by rw [List.length_map, vl]; exact Nat.lt_of_le_of_lt (by omega : f + 1 + i ≤ 20000) (by decide)), e5, List.set_append_right _ _ (Nat.le_refl _), Nat.sub_self]
        simp [rowB]
      simp only [List.set_cons_succ, List.set_cons_zero, ap_sExpr, ap_eBM, ap_eVar, List.getElem?_cons_zero, List.getElem?_cons_succ, ER.bind_ok, a0, isLst, if_true, ap_aCons, ap_eBin, ap_eFn, ap_aNil, List.length_cons, List.length_nil, Nat.zero_add, Nat.reduceAdd, e1, e2, e3, e4, sE_ok])
  rw [e7, e8] at el
  have fin : (0 + ((gs.map dG).map B.d).length) = gs.length := by simp
  rw [fin, List.take_length] at el
  have z0 : rowB (v0 β) = .d (.int 0) :: rowB β := rfl
  rw [z0] at el
  have i1 := i_seq_t (sl := [some (.d (dNet f gs)), some bb, some (.r cs.length), none, none]) (eBin gIx (eVar 0) (eD (.int 1))) (gs.map dG) (cs ++ [.lst (.d (.int 0) :: rowB β)]) (net_ix1 (f := f))
  have hs2 : (rowB β).length + 1 ≤ sizeLine := by rw [List.length_map]; exact hs
  unfold F_values_of
  simp only [ap_mDef, ap_sSeq, ap_sSet, ap_eCell, ap_lTake, ap_aCons, ap_eD, ap_aStar, ap_eVar, ap_aNil, List.map_cons, List.map_nil, List.length_cons, List.length_nil, List.replicate, List.cons_append, List.nil_append, List.getElem?_cons_zero, List.getElem?_cons_succ, Nat.zero_add, Nat.reduceAdd, Nat.reduceSub, ER.bind_ok, hb, List.append_nil, hs2, if_true, sE_ok, List.set_cons_succ, List.set_cons_zero, ap_sFor, i1, el, ap_sRet, retOf_rt, gcN_new _ (row_low _)]
/-- a word's bits as a number -/
def numI (bs : List Bool) : Int := (bs.zipIdx.map fun p => bI p.1 * 2 ^ p.2).sum
theorem zip_enum (w : List Nat) : enumD (w.map dN) = w.zipIdx.map fun p => .d (.tuple [.int (p.2 : Nat), dN p.1]) := by
  unfold enumD
  rw [List.zipIdx_map, List.map_map]
  rfl
theorem F_number {w : List Nat} (hk : cs[k]? = some (.lst (rowB vs))) (hw : ∀ l ∈ w, l / 2 < vs.length) (h8 : w.length ≤ 8) : F_number_of [.r k, .d (dW w)] cs = .ok (.d (.int (numI (w.map (lit aB vs))))) cs := by
  have i1 := ap_iEnum_t (sl := [some (.r k), some (.d (dW w)), none, none]) (cs := cs) (aCons (eVar 1) aNil) (w.map dN) cs rfl
  have lc : lComp (VM.iEnum (aCons (eVar 1) aNil)) (tgTup 2 (tgCons (tgName 2) (tgCons (tgName 3) tgNil))) eYes (eBin gShl (eFn 2 F_value_of (aCons (eVar 0) (aCons (eVar 3) aNil))) (eVar 2)) [2, 3] [some (.r k), some (.d (dW w)), none, none] cs =
      .ok (w.zipIdx.map fun p => .d (.int (bI (lit aB vs p.1) * 2 ^ p.2))) cs := by
    rw [ap_lComp i1 (by simp [enumD]; exact Nat.lt_of_le_of_lt h8 (by decide)), zip_enum]
    refine lc_map (okc := fun _ => True) trivial (fun p : Nat × Nat => B.d (.tuple [.int (p.2 : Nat), dN p.1])) (fun p => .d (.int (bI (lit aB vs p.1) * 2 ^ p.2))) _ fun p hp => ?_
    refine ⟨_, rfl, ?_⟩
    have h1 : p.1 ∈ w := (List.mem_zipIdx hp).2.2 ▸ List.getElem_mem _
    have h2 : p.2 < w.length := by have := (List.mem_zipIdx hp).2.1; omega
    have e1 := F_value hk (hw _ h1)
    have e2 : gShl (.d (dB (lit aB vs p.1))) (.d (.int (p.2 : Nat))) cs = .ok (.d (.int (bI (lit aB vs p.1) * 2 ^ p.2))) cs := by
      rw [g_shl _ _ ⟨by omega, by omega, bI_abs _⟩, Int.toNat_natCast]
    simp only [wipeS, List.set_cons_succ, List.set_cons_zero, ap_eBin, ap_eFn, ap_aCons, ap_aNil, ap_eVar, List.getElem?_cons_zero, List.getElem?_cons_succ, ER.bind_ok, List.length_cons, List.length_nil, Nat.zero_add, Nat.reduceAdd, if_true, e1, e2]
  have al : allD (w.zipIdx.map fun p => B.d (.int (bI (lit aB vs p.1) * 2 ^ p.2))) = some (w.zipIdx.map fun p => .int (bI (lit aB vs p.1) * 2 ^ p.2)) := allD_map _ _
  have sm : gSum [.d (.list (w.zipIdx.map fun p => .int (bI (lit aB vs p.1) * 2 ^ p.2)))] cs = .ok (.d (.int (numI (w.map (lit aB vs))))) cs := by
    have m : (w.zipIdx.map fun p => PyData.int (bI (lit aB vs p.1) * 2 ^ p.2)) = (w.zipIdx.map fun p => bI (lit aB vs p.1) * 2 ^ p.2).map PyData.int := by rw [List.map_map]; rfl
    rw [m, gSum_l]
    unfold numI
    rw [List.zipIdx_map, List.map_map]
    rfl
  unfold F_number_of
  simp only [ap_mDef, ap_sRet, ap_eCall, ap_aCons, ap_eFrz, List.map_cons, List.map_nil, List.length_cons, List.length_nil, List.replicate, List.cons_append, List.nil_append, Nat.zero_add, Nat.reduceAdd, Nat.reduceSub, lc, ER.bind_ok, al, ap_aNil, sm, sE_ok, retOf_rt, gcR_same]
end
end K42

/-! M14: words turned, numbers as words, bits, tidy. -/
namespace VM
open PySem L2
section
variable {sl : Sl} {cs : Cs}
theorem ap_rng1 (fs : Fn (List B)) (j : Nat) (cs1 : Cs) (h : fs sl cs = .ok [.d (.int (j : Int))] cs1) (hj : j < 1000000) : iRange1 fs sl cs = .ok (rngI 0 1 j, fun _ => True) cs1 := by
  unfold iRange1
  rw [h, ER.bind_ok]
  simp only
  rw [if_pos ⟨by omega, by omega⟩, Int.toNat_natCast]
theorem rng_at (j : Nat) : rngI 0 1 j = (List.range j).map fun i => .d (.int (i : Nat)) := by
  unfold rngI
  congr 1
  funext i
  congr 2
  omega
end
end VM
namespace K42
open PySem VM L2
open Classical
section
variable {cs : Cs} {f k l : Nat} {gs : Gs} {vs β : List Bool}
theorem F_oppw {w : List Nat} (h1 : 1 ≤ w.length) (h2 : w.length ≤ 8) : F_opposite_word [.d (dW w)] cs = .ok (.d (dW (w.map opp))) cs := by
  have e1 : eCall gLenU (aCons (eVar 0) aNil) [some (.d (dW w)), none] cs = .ok (.d (.int (w.length : Nat))) cs := by
    show gLenU [.d (dW w)] cs = _
    rw [show dW w = .tuple (w.map dN) from rfl, g_len_t, List.length_map]
  have e2 : decide ((1 : Int) ≤ ((w.length : Nat) : Int)) = true := decide_eq_true (by omega)
  have e3 : decide (((w.length : Nat) : Int) ≤ 8) = true := decide_eq_true (by omega)
  have hz : w.length < sizeLine := Nat.lt_of_le_of_lt h2 (by decide)
  have k2 := all_comp (sl := [some (.d (dW w)), none]) (cs := cs) (fi := iSeq (eVar 0)) (tf := tgName 1) (te := eBin gGe (eVar 1) (eD (.int 0))) (vs := [1])
    w (fun x => .d (dN x)) (fun _ => true) (by rw [i_seq_t _ (w.map dN) cs rfl, List.map_map]; rfl) hz (fun a _ => by
      refine ⟨_, rfl, ?_⟩
      simp only [wipeS, List.set_cons_succ, List.set_cons_zero, ap_eBin, ap_eVar, ap_eD, List.getElem?_cons_zero, List.getElem?_cons_succ, ER.bind_ok, g_ge, ge0])
  rw [show (w.all fun _ => true) = true from by simp] at k2
  have lc : lComp (iSeq (eVar 0)) (tgName 1) eYes (eFn 1 F_opposite (aCons (eVar 1) aNil)) [1] [some (.d (dW w)), none] cs = .ok ((w.map opp).map fun x => .d (dN x)) cs := by
    rw [ap_lComp (i_seq_t _ (w.map dN) cs rfl) (by rw [List.length_map, List.length_map]; exact hz), List.map_map, List.map_map]
    refine lc_map (okc := fun _ => True) trivial (B.d ∘ dN) _ w fun x _ => ?_
    refine ⟨_, rfl, ?_⟩
    simp only [wipeS, List.set_cons_succ, List.set_cons_zero, ap_eFn, ap_aCons, ap_aNil, ap_eVar, List.getElem?_cons_zero, List.getElem?_cons_succ, ER.bind_ok, List.length_cons, List.length_nil, Nat.zero_add, Nat.reduceAdd, if_true, Function.comp_apply, F_opp]
  have al : allD ((w.map opp).map fun x => B.d (dN x)) = some ((w.map opp).map dN) := allD_map _ _
  unfold F_opposite_word
  simp only [ap_mDef, ap_sSeq, ap_sIf, ap_eOr, ap_eNot, ap_eT, ap_eTru, k2, ap_eChain, ap_eD, ap_eB, b_MOST_WIDTH, List.map_cons, List.map_nil, List.length_cons, List.length_nil, List.replicate, List.cons_append, List.nil_append, Nat.zero_add, Nat.reduceAdd, Nat.reduceSub, ER.bind_ok, e1, g_le, e2, e3, onB_b, if_true, isB_b, tru_b, Bool.not_true, Bool.false_eq_true, if_false, sE_ok, ap_sNext, ap_sRet]
  simp only [ap_eCall, ap_aCons, ap_eFrz, lc, ER.bind_ok, al, ap_aNil, g_tup_l, sE_ok, retOf_rt, gcR_same]
theorem F_numw (n : Nat) (h : n < 4) : F_number_word [.d (.int 2), .d (dN n)] cs = .ok (.d (dW [n % 2, n / 2 % 2])) cs := by
  have e1 : gShl (.d (.int 1)) (.d (.int 2)) cs = .ok (.d (.int 4)) cs := by rw [g_shl _ _ ⟨by decide, by decide, by decide⟩]; rfl
  have e2 : decide ((n : Int) < 4) = true := decide_eq_true (by omega)
  have i1 := ap_rng1 (sl := [some (.d (.int 2)), some (.d (dN n)), none]) (cs := cs) (aCons (eVar 0) aNil) 2 cs rfl (by decide)
  have hz : (2 : Nat) < sizeLine := by decide
  have e3 : gShr (.d (dN n)) (.d (.int 0)) cs = .ok (.d (.int ((n : Int) / 2 ^ 0))) cs := g_shr _ _ (by decide)
  have e4 : gShr (.d (dN n)) (.d (.int 1)) cs = .ok (.d (.int ((n : Int) / 2 ^ 1))) cs := g_shr _ _ (by decide)
  have e5 : gBand (.d (.int ((n : Int) / 2 ^ 0))) (.d (.int 1)) cs = .ok (.d (dN (n % 2))) cs := by
    show ER.ok (B.d (.int (Builtin.bitAnd ((n : Int) / 2 ^ 0) 1))) cs = _
    rw [PyProof.Rows.bitAnd_m1]
    congr 3
    omega
  have e6 : gBand (.d (.int ((n : Int) / 2 ^ 1))) (.d (.int 1)) cs = .ok (.d (dN (n / 2 % 2))) cs := by
    show ER.ok (B.d (.int (Builtin.bitAnd ((n : Int) / 2 ^ 1) 1))) cs = _
    rw [PyProof.Rows.bitAnd_m1]
    congr 3
  have lc : lComp (iRange1 (aCons (eVar 0) aNil)) (tgName 2) eYes (eBin gBand (eBin gShr (eVar 1) (eVar 2)) (eD (.int 1))) [2] [some (.d (.int 2)), some (.d (dN n)), none] cs = .ok [.d (dN (n % 2)), .d (dN (n / 2 % 2))] cs := by
    rw [ap_lComp i1 (by rw [rng_at]; exact hz), rng_at, show ((List.range 2).map fun i => B.d (.int (i : Nat))) = [.d (.int 0), .d (.int 1)] from rfl]
    simp only [lc_consT, lc_nilT, ap_mDef, ap_sNext, ap_sSeq, ap_sSet, ap_sExpr, ap_sRet, ap_sIf, ap_sPar, ap_sAsg, ap_sFldSet, ap_sPut, ap_sFor, ap_sBreak, ap_sNever, ap_sPass, ap_sCont, ap_tgName, ap_tgNil, ap_tgCons, ap_tgTupT, ap_tgTupL, ap_eVar, ap_eD, ap_eB, ap_eBin, ap_eUn, ap_eT, ap_eTru, ap_eNot, ap_eAnd, ap_eOr, ap_eNotV, ap_eAndV, ap_eOrV, ap_eIf, ap_eChain, ap_eFn, ap_eCall, ap_lCall, ap_aNil, ap_aCons, ap_aStar, ap_eTup, ap_lTake, ap_eFrz, ap_eCell, ap_lBin, ap_eBM, ap_eFld, ap_eMeth, ap_eMake, ap_eDNew, ap_eCutT, ap_oNone, ap_oSome, ap_eYes, g_add, g_sub, g_lt, g_le, g_gt, g_ge, isB_b, onB_b, tru_b, tru_i, g_int, g_intb, g_max, g_min, g_eqi, g_nei, retOf_nx, retOf_rt, ER.bind_ok, sE_ok, noEx_ok, List.map_cons, List.map_nil, List.length_cons, List.length_nil, List.replicate, List.cons_append, List.nil_append, List.getElem?_cons_succ, List.getElem?_cons_zero, List.set_cons_succ, List.set_cons_zero, if_true, reduceIte, Nat.zero_add, Nat.reduceAdd, Nat.reduceSub, Option.bind_some, allD_cons, allD_nil, Option.map_some, orE_ok, orE_no, and_self, Bool.false_eq_true, if_false, decide_true, decide_false, Bool.not_true, Bool.not_false, wipeS, e3, e4, e5, e6]
  unfold F_number_word
  simp only [ap_mDef, ap_sNext, ap_sSeq, ap_sSet, ap_sExpr, ap_sRet, ap_sIf, ap_sPar, ap_sAsg, ap_sFldSet, ap_sPut, ap_sFor, ap_sBreak, ap_sNever, ap_sPass, ap_sCont, ap_tgName, ap_tgNil, ap_tgCons, ap_tgTupT, ap_tgTupL, ap_eVar, ap_eD, ap_eB, ap_eBin, ap_eUn, ap_eT, ap_eTru, ap_eNot, ap_eAnd, ap_eOr, ap_eNotV, ap_eAndV, ap_eOrV, ap_eIf, ap_eChain, ap_eFn, ap_eCall, ap_lCall, ap_aNil, ap_aCons, ap_aStar, ap_eTup, ap_lTake, ap_eFrz, ap_eCell, ap_lBin, ap_eBM, ap_eFld, ap_eMeth, ap_eMake, ap_eDNew, ap_eCutT, ap_oNone, ap_oSome, ap_eYes, g_add, g_sub, g_lt, g_le, g_gt, g_ge, isB_b, onB_b, tru_b, tru_i, g_int, g_intb, g_max, g_min, g_eqi, g_nei, retOf_nx, retOf_rt, ER.bind_ok, sE_ok, noEx_ok, List.map_cons, List.map_nil, List.length_cons, List.length_nil, List.replicate, List.cons_append, List.nil_append, List.getElem?_cons_succ, List.getElem?_cons_zero, List.set_cons_succ, List.set_cons_zero, if_true, reduceIte, Nat.zero_add, Nat.reduceAdd, Nat.reduceSub, Option.bind_some, allD_cons, allD_nil, Option.map_some, orE_ok, orE_no, and_self, Bool.false_eq_true, if_false, decide_true, decide_false, Bool.not_true, Bool.not_false, b_MOST_WIDTH, e1, ge0, e2, lc, g_tup_l, show decide ((1 : Int) ≤ 2) = true from rfl, show decide ((2 : Int) ≤ 8) = true from rfl, gcR_same]
  rfl
abbrev dBs (β : List Bool) : D := .tuple (β.map dB)
theorem bseq_bits : bSeq cs (.d (dBs β)) = some (rowB β) := by
  rw [bSeq_t, List.map_map]; rfl
theorem F_arebits (hf : β.length = f) (h : f ≤ 200) : F_are_bits [.d (dNet f gs), .d (dBs β)] cs = .ok (.d (.bool true)) cs := by
  have e1 : eCall gLenU (aCons (eVar 1) aNil) [some (.d (dNet f gs)), some (.d (dBs β)), none] cs = .ok (.d (.int (f : Nat))) cs := by
    show gLenU [.d (dBs β)] cs = _
    rw [show dBs β = .tuple (β.map dB) from rfl, g_len_t, List.length_map, hf]
  have hz : β.length < sizeLine := by rw [hf]; exact Nat.lt_of_le_of_lt h (by decide)
  have hz2 : (2 : Nat) ≤ sizeLine := by decide
  have k2 := all_comp (sl := [some (.d (dNet f gs)), some (.d (dBs β)), none]) (cs := cs) (fi := iSeq (eVar 1)) (tf := tgName 2) (te := eBin (gInU false) (eVar 2) (eTup (aCons (eD (.int 0)) (aCons (eD (.int 1)) aNil)))) (vs := [2])
    β (fun x => .d (dB x)) (fun _ => true) (by rw [i_seq_t _ (β.map dB) cs rfl, List.map_map]; rfl) hz (fun a _ => by
      refine ⟨_, rfl, ?_⟩
      have e2 : gInU false (.d (dB a)) (.d (.tuple [.int 0, .int 1])) cs = .ok (.d (.bool true)) cs := by
        rw [ap_gInU, show (PyData.tuple [.int 0, .int 1] : D) = .tuple (([0, 1] : List Int).map PyData.int) from rfl, g_in_ints]
        cases a <;> rfl
      simp only [wipeS, ap_mDef, ap_sNext, ap_sSeq, ap_sSet, ap_sExpr, ap_sRet, ap_sIf, ap_sPar, ap_sAsg, ap_sFldSet, ap_sPut, ap_sFor, ap_sBreak, ap_sNever, ap_sPass, ap_sCont, ap_tgName, ap_tgNil, ap_tgCons, ap_tgTupT, ap_tgTupL, ap_eVar, ap_eD, ap_eB, ap_eBin, ap_eUn, ap_eT, ap_eTru, ap_eNot, ap_eAnd, ap_eOr, ap_eNotV, ap_eAndV, ap_eOrV, ap_eIf, ap_eChain, ap_eFn, ap_eCall, ap_lCall, ap_aNil, ap_aCons, ap_aStar, ap_eTup, ap_lTake, ap_eFrz, ap_eCell, ap_lBin, ap_eBM, ap_eFld, ap_eMeth, ap_eMake, ap_eDNew, ap_eCutT, ap_oNone, ap_oSome, ap_eYes, g_add, g_sub, g_lt, g_le, g_gt, g_ge, isB_b, onB_b, tru_b, tru_i, g_int, g_intb, g_max, g_min, g_eqi, g_nei, retOf_nx, retOf_rt, ER.bind_ok, sE_ok, noEx_ok, List.map_cons, List.map_nil, List.length_cons, List.length_nil, List.replicate, List.cons_append, List.nil_append, List.getElem?_cons_succ, List.getElem?_cons_zero, List.set_cons_succ, List.set_cons_zero, if_true, reduceIte, Nat.zero_add, Nat.reduceAdd, Nat.reduceSub, Option.bind_some, allD_cons, allD_nil, Option.map_some, orE_ok, orE_no, and_self, Bool.false_eq_true, if_false, decide_true, decide_false, Bool.not_true, Bool.not_false, hz2, e2])
  rw [show (β.all fun _ => true) = true from by simp] at k2
  unfold F_are_bits
  simp only [ap_mDef, ap_sRet, ap_eAndV, k2, ap_eBin, ap_eVar, ap_eD, List.map_cons, List.map_nil, List.length_cons, List.length_nil, List.replicate, List.cons_append, List.nil_append, List.getElem?_cons_zero, List.getElem?_cons_succ, Nat.zero_add, Nat.reduceAdd, Nat.reduceSub, ER.bind_ok, e1, net_ix0, g_eqi, decide_true, onB_b, if_true, sE_ok, retOf_rt, gcR_same]
theorem F_chkbits (N : NetOk f gs) (hf : β.length = f) : F_check_bits [.d (dNet f gs), .d (dBs β)] cs = .ok (.d .none) cs := by
  simp only [F_check_bits, ap_mDef, ap_sNext, ap_sSeq, ap_sSet, ap_sExpr, ap_sRet, ap_sIf, ap_sPar, ap_sAsg, ap_sFldSet, ap_sPut, ap_sFor, ap_sBreak, ap_sNever, ap_sPass, ap_sCont, ap_tgName, ap_tgNil, ap_tgCons, ap_tgTupT, ap_tgTupL, ap_eVar, ap_eD, ap_eB, ap_eBin, ap_eUn, ap_eT, ap_eTru, ap_eNot, ap_eAnd, ap_eOr, ap_eNotV, ap_eAndV, ap_eOrV, ap_eIf, ap_eChain, ap_eFn, ap_eCall, ap_lCall, ap_aNil, ap_aCons, ap_aStar, ap_eTup, ap_lTake, ap_eFrz, ap_eCell, ap_lBin, ap_eBM, ap_eFld, ap_eMeth, ap_eMake, ap_eDNew, ap_eCutT, ap_oNone, ap_oSome, ap_eYes, g_add, g_sub, g_lt, g_le, g_gt, g_ge, isB_b, onB_b, tru_b, tru_i, g_int, g_intb, g_max, g_min, g_eqi, g_nei, retOf_nx, retOf_rt, ER.bind_ok, sE_ok, noEx_ok, List.map_cons, List.map_nil, List.length_cons, List.length_nil, List.replicate, List.cons_append, List.nil_append, List.getElem?_cons_succ, List.getElem?_cons_zero, List.set_cons_succ, List.set_cons_zero, if_true, reduceIte, Nat.zero_add, Nat.reduceAdd, Nat.reduceSub, Option.bind_some, allD_cons, allD_nil, Option.map_some, orE_ok, orE_no, and_self, Bool.false_eq_true, if_false, decide_true, decide_false, Bool.not_true, Bool.not_false, F_chknet N, F_arebits hf N.hf, gcR_same]
/-- a word's bits -/
def Wv (β : List Bool) (gs : Gs) (w : List Nat) : List Bool := w.map (L aB (v0 β) gs)
theorem F_wordnum {w : List Nat} (N : NetOk f gs) (hf : β.length = f) (hw : okW (f + 1) gs w) : F_word_number [.d (dNet f gs), .d (dBs β), .d (dW w)] cs = .ok (.d (.int (numI (Wv β gs w)))) cs := by
  have hz1 : (1 : Nat) ≤ sizeLine := by decide
  have c1 : F_check_words [.d (dNet f gs), .d (.list [dW w])] cs = .ok (.d .none) cs := F_chkwords (ws := [w]) N (fun x hx => by rw [List.mem_singleton.mp hx]; exact hw) (by simp) (by simp) w.length (fun x hx => by rw [List.mem_singleton.mp hx])
  have c2 := F_values (cs := cs) (bb := .d (dBs β)) (β := β) bseq_bits N hf
  have a0 : (cs ++ [.lst (rowB (ev aB (v0 β) gs))] : Cs)[cs.length]? = some (.lst (rowB (ev aB (v0 β) gs))) := by rw [List.getElem?_append_right (Nat.le_refl _), Nat.sub_self]; rfl
  have c3 := F_number (w := w) a0 (fun l hl => by have := hw.2.2 l hl; rw [ev_len, v0_len, hf]; omega) hw.2.1
  simp only [F_word_number, ap_mDef, ap_sNext, ap_sSeq, ap_sSet, ap_sExpr, ap_sRet, ap_sIf, ap_sPar, ap_sAsg, ap_sFldSet, ap_sPut, ap_sFor, ap_sBreak, ap_sNever, ap_sPass, ap_sCont, ap_tgName, ap_tgNil, ap_tgCons, ap_tgTupT, ap_tgTupL, ap_eVar, ap_eD, ap_eB, ap_eBin, ap_eUn, ap_eT, ap_eTru, ap_eNot, ap_eAnd, ap_eOr, ap_eNotV, ap_eAndV, ap_eOrV, ap_eIf, ap_eChain, ap_eFn, ap_eCall, ap_lCall, ap_aNil, ap_aCons, ap_aStar, ap_eTup, ap_lTake, ap_eFrz, ap_eCell, ap_lBin, ap_eBM, ap_eFld, ap_eMeth, ap_eMake, ap_eDNew, ap_eCutT, ap_oNone, ap_oSome, ap_eYes, g_add, g_sub, g_lt, g_le, g_gt, g_ge, isB_b, onB_b, tru_b, tru_i, g_int, g_intb, g_max, g_min, g_eqi, g_nei, retOf_nx, retOf_rt, ER.bind_ok, sE_ok, noEx_ok, List.map_cons, List.map_nil, List.length_cons, List.length_nil, List.replicate, List.cons_append, List.nil_append, List.getElem?_cons_succ, List.getElem?_cons_zero, List.set_cons_succ, List.set_cons_zero, if_true, reduceIte, Nat.zero_add, Nat.reduceAdd, Nat.reduceSub, Option.bind_some, allD_cons, allD_nil, Option.map_some, orE_ok, orE_no, and_self, Bool.false_eq_true, if_false, decide_true, decide_false, Bool.not_true, Bool.not_false, hz1, F_chkbits N hf, c1, c2, c3, gcR_app]
  rfl
theorem F_nodev (N : NetOk f gs) (hf : β.length = f) : F_node_values [.d (dNet f gs), .d (dBs β)] cs = .ok (.d (dBs (ev aB (v0 β) gs))) cs := by
  have c2 := F_values (cs := cs) (bb := .d (dBs β)) (β := β) bseq_bits N hf
  have a0 : (cs ++ [.lst (rowB (ev aB (v0 β) gs))] : Cs)[cs.length]? = some (.lst ((ev aB (v0 β) gs).map dB |>.map B.d)) := by rw [List.getElem?_append_right (Nat.le_refl _), Nat.sub_self, List.map_map]; rfl
  have c3 := g_tup_r _ _ a0
  simp only [F_node_values, ap_mDef, ap_sNext, ap_sSeq, ap_sSet, ap_sExpr, ap_sRet, ap_sIf, ap_sPar, ap_sAsg, ap_sFldSet, ap_sPut, ap_sFor, ap_sBreak, ap_sNever, ap_sPass, ap_sCont, ap_tgName, ap_tgNil, ap_tgCons, ap_tgTupT, ap_tgTupL, ap_eVar, ap_eD, ap_eB, ap_eBin, ap_eUn, ap_eT, ap_eTru, ap_eNot, ap_eAnd, ap_eOr, ap_eNotV, ap_eAndV, ap_eOrV, ap_eIf, ap_eChain, ap_eFn, ap_eCall, ap_lCall, ap_aNil, ap_aCons, ap_aStar, ap_eTup, ap_lTake, ap_eFrz, ap_eCell, ap_lBin, ap_eBM, ap_eFld, ap_eMeth, ap_eMake, ap_eDNew, ap_eCutT, ap_oNone, ap_oSome, ap_eYes, g_add, g_sub, g_lt, g_le, g_gt, g_ge, isB_b, onB_b, tru_b, tru_i, g_int, g_intb, g_max, g_min, g_eqi, g_nei, retOf_nx, retOf_rt, ER.bind_ok, sE_ok, noEx_ok, List.map_cons, List.map_nil, List.length_cons, List.length_nil, List.replicate, List.cons_append, List.nil_append, List.getElem?_cons_succ, List.getElem?_cons_zero, List.set_cons_succ, List.set_cons_zero, if_true, reduceIte, Nat.zero_add, Nat.reduceAdd, Nat.reduceSub, Option.bind_some, allD_cons, allD_nil, Option.map_some, orE_ok, orE_no, and_self, Bool.false_eq_true, if_false, decide_true, decide_false, Bool.not_true, Bool.not_false, F_chkbits N hf, c2, c3, gcR_app]
end
end K42

/-! M15: tidy nets. -/
namespace K42
open PySem VM L2
open Classical
section
variable {cs : Cs} {f k l : Nat} {gs : Gs} {vs β : List Bool}
def keyG (g : Nat × Nat) : List Key := [.inl (g.1 : Int), .inl (g.2 : Int)]
theorem keyG_inj {g h : Nat × Nat} (e : keyG g = keyG h) : g = h := by
  unfold keyG at e
  injection e with e1 e2
  injection e2 with e2 _
  injection e1 with e1
  injection e2 with e2
  exact Prod.ext (by omega) (by omega)
theorem dct_loop (sl : Sl) (x0 x1 : Option B) (hsl : ∃ x2 x3 x4, sl = [x0, x1, x2, x3, x4]) : ∀ (r p : Gs), (p ++ r).Nodup → dcLoop keyTD (fun _ => True) (tgName 2) eYes (eVar 2) (eD (.bool true)) sl (r.map fun g => .d (dG g)) (p.map fun g => (keyG g, .d (.bool true))) cs = .ok ((p ++ r).map fun g => (keyG g, .d (.bool true))) cs
  | [], p, _ => by
    unfold dcLoop
    rw [List.append_nil]
    simp
  | g :: r, p, hn => by
    obtain ⟨x2, x3, x4, rfl⟩ := hsl
    have ih := dct_loop [x0, x1, x2, x3, x4] x0 x1 ⟨x2, x3, x4, rfl⟩ r (p ++ [g]) (by rw [List.append_assoc]; exact hn)
    have hg : g ∉ p := fun h => by
      rw [List.nodup_append] at hn
      exact hn.2.2 g h g List.mem_cons_self rfl
    have e1 : putB (p.map fun g => (keyG g, B.d (.bool true))) (keyG g) (.d (.bool true)) = (p ++ [g]).map fun g => (keyG g, B.d (.bool true)) := by
      unfold putB
      rw [if_neg, List.map_append]
      · rfl
      · rw [List.any_map]
        intro h
        obtain ⟨x, hx, e⟩ := List.any_eq_true.mp h
        have e : keyG x = keyG g := of_decide_eq_true e
        exact hg (keyG_inj e ▸ hx)
    rw [List.map_cons]
    unfold dcLoop
    simp only [if_true, ap_tgName, List.set_cons_succ, List.set_cons_zero, ap_eYes, noEx_ok, ER.bind_ok, ap_eVar, List.getElem?_cons_zero, List.getElem?_cons_succ, ap_eD, keyTD_tup, keysD_cons, keysD_nil, keyD_int, Option.bind_some, Option.map_some]
    have e2 : putB (p.map fun g => (keyG g, B.d (.bool true))) [Sum.inl (g.1 : Int), Sum.inl (g.2 : Int)] (.d (.bool true)) = (p ++ [g]).map fun g => (keyG g, B.d (.bool true)) := e1
    rw [e2, show p ++ g :: r = p ++ [g] ++ r by simp]
    have dl : ∀ (sl : Sl) (q : Option B), True := fun _ _ => trivial
    exact ih
theorem F_tidy (N : NetOk f gs) : F_is_tidy [.d (dNet f gs)] cs = .ok (.d (.bool true)) cs := by
  have hN := N.hl
  have hz : gs.length < sizeLine := Nat.lt_of_le_of_lt hN (by decide)
  have lc : lComp (iSeq (eBin gIx (eVar 0) (eD (.int 1)))) (tgName 2) eYes (eCall gTuple (aCons (eVar 2) aNil)) [2] [some (.d (dNet f gs)), none, none, none, none] cs = .ok (gs.map fun g => .d (dG g)) cs := by
    rw [ap_lComp (i_seq_t _ (gs.map dG) cs (net_ix1 (f := f))) (by rw [List.length_map, List.length_map]; exact hz), List.map_map]
    refine lc_map (okc := fun _ => True) trivial (B.d ∘ dG) _ gs fun g _ => ?_
    refine ⟨_, rfl, ?_⟩
    simp only [wipeS, List.set_cons_succ, List.set_cons_zero, ap_eCall, ap_aCons, ap_eVar, ap_aNil, List.getElem?_cons_succ, List.getElem?_cons_zero, ER.bind_ok, Function.comp_apply, g_tup_t]
  have al : allD (gs.map fun g => B.d (dG g)) = some (gs.map dG) := allD_map _ _
  have k2 := all_comp (sl := [some (.d (dNet f gs)), some (.d (.list (gs.map dG))), none, none, none]) (cs := cs) (fi := iSeq (eVar 1)) (tf := tgTup 2 (tgCons (tgName 3) (tgCons (tgName 4) tgNil))) (te := eAndV (eChain gLt gLt (eD (.int 1)) (eVar 3) (eVar 4)) (eBin gNe (eBin gDiv (eVar 3) (eD (.int 2))) (eBin gDiv (eVar 4) (eD (.int 2))))) (vs := [3, 4])
    gs (fun g => .d (dG g)) (fun _ => true) (by rw [i_seq_l _ (gs.map dG) cs rfl, List.map_map]; rfl) hz (fun g hg => by
      refine ⟨_, rfl, ?_⟩
      obtain ⟨t1, t2, t3⟩ := N.ok.tidy g hg
      have d1 : decide ((1 : Int) < (g.1 : Int)) = true := decide_eq_true (by omega)
      have d2 : decide ((g.1 : Int) < (g.2 : Int)) = true := decide_eq_true (by omega)
      have d3 : gDiv (.d (dN g.1)) (.d (.int 2)) cs = .ok (.d (.int ((g.1 / 2 : Nat) : Int))) cs := by rw [g_div _ _ ⟨by decide, by decide⟩]; congr 3
      have d4 : gDiv (.d (dN g.2)) (.d (.int 2)) cs = .ok (.d (.int ((g.2 / 2 : Nat) : Int))) cs := by rw [g_div _ _ ⟨by decide, by decide⟩]; congr 3
      have d5 : decide (((g.1 / 2 : Nat) : Int) = ((g.2 / 2 : Nat) : Int)) = false := by rw [eq_n]; exact decide_eq_false t3
      simp only [wipeS, ap_mDef, ap_sNext, ap_sSeq, ap_sSet, ap_sExpr, ap_sRet, ap_sIf, ap_sPar, ap_sAsg, ap_sFldSet, ap_sPut, ap_sFor, ap_sBreak, ap_sNever, ap_sPass, ap_sCont, ap_tgName, ap_tgNil, ap_tgCons, ap_tgTupT, ap_tgTupL, ap_eVar, ap_eD, ap_eB, ap_eBin, ap_eUn, ap_eT, ap_eTru, ap_eNot, ap_eAnd, ap_eOr, ap_eNotV, ap_eAndV, ap_eOrV, ap_eIf, ap_eChain, ap_eFn, ap_eCall, ap_lCall, ap_aNil, ap_aCons, ap_aStar, ap_eTup, ap_lTake, ap_eFrz, ap_eCell, ap_lBin, ap_eBM, ap_eFld, ap_eMeth, ap_eMake, ap_eDNew, ap_eCutT, ap_oNone, ap_oSome, ap_eYes, g_add, g_sub, g_lt, g_le, g_gt, g_ge, isB_b, onB_b, tru_b, tru_i, g_int, g_intb, g_max, g_min, g_eqi, g_nei, retOf_nx, retOf_rt, ER.bind_ok, sE_ok, noEx_ok, List.map_cons, List.map_nil, List.length_cons, List.length_nil, List.replicate, List.cons_append, List.nil_append, List.getElem?_cons_succ, List.getElem?_cons_zero, List.set_cons_succ, List.set_cons_zero, if_true, reduceIte, Nat.zero_add, Nat.reduceAdd, Nat.reduceSub, Option.bind_some, allD_cons, allD_nil, Option.map_some, orE_ok, orE_no, and_self, Bool.false_eq_true, if_false, decide_true, decide_false, Bool.not_true, Bool.not_false, d1, d2, d3, d4, d5])
  rw [show (gs.all fun _ => true) = true from by simp] at k2
  have dc : eDcT (iSeq (eVar 1)) (tgName 2) eYes (eVar 2) (eD (.bool true)) [2] [some (.d (dNet f gs)), some (.d (.list (gs.map dG))), none, none, none] cs = .ok (.r cs.length) (cs ++ [.dT (gs.map fun g => (keyG g, .d (.bool true)))]) := by
    unfold eDcT eDc
    rw [i_seq_l _ (gs.map dG) cs rfl, ER.bind_ok]
    simp only
    rw [if_pos (by rw [List.length_map, List.length_map]; exact hz), List.map_map, show (B.d ∘ dG) = fun g => B.d (dG g) from rfl, show wipeS [some (.d (dNet f gs)), some (.d (.list (gs.map dG))), none, none, none] [2] = [some (.d (dNet f gs)), some (.d (.list (gs.map dG))), none, none, none] from rfl]
    have q := dct_loop (cs := cs) [some (.d (dNet f gs)), some (.d (.list (gs.map dG))), none, none, none] _ _ ⟨_, _, _, rfl⟩ gs [] N.ok.nd
    rw [List.map_nil, List.nil_append] at q
    rw [q, ER.bind_ok]
  have a0 : (cs ++ [.dT (gs.map fun g => (keyG g, .d (.bool true)))] : Cs)[cs.length]? = some (.dT (gs.map fun g => (keyG g, .d (.bool true)))) := by rw [List.getElem?_append_right (Nat.le_refl _), Nat.sub_self]; rfl
  have e5 : gLenU [.r cs.length] (cs ++ [.dT (gs.map fun g => (keyG g, .d (.bool true)))]) = .ok (.d (.int (gs.length : Nat))) (cs ++ [.dT (gs.map fun g => (keyG g, .d (.bool true)))]) := by
    rw [ap_gLenU]
    unfold gLen gLenD
    simp only [bSeq_r, bList, a0, orE_no, List.length_map]
  have e6 : gLenU [.d (.list (gs.map dG))] (cs ++ [.dT (gs.map fun g => (keyG g, .d (.bool true)))]) = .ok (.d (.int (gs.length : Nat))) (cs ++ [.dT (gs.map fun g => (keyG g, .d (.bool true)))]) := by rw [g_len_l, List.length_map]
  unfold F_is_tidy
  simp only [ap_mDef, ap_sSeq, ap_sExpr, ap_eFn, ap_aCons, ap_aNil, ap_eVar, List.map_cons, List.map_nil, List.length_cons, List.length_nil, List.replicate, List.cons_append, List.nil_append, List.getElem?_cons_zero, List.getElem?_cons_succ, Nat.zero_add, Nat.reduceAdd, Nat.reduceSub, ER.bind_ok, if_true, F_chknet N, sE_ok, ap_sSet, ap_eFrz, lc, al, List.set_cons_succ, List.set_cons_zero, ap_sIf, ap_eNot, ap_eTru, ap_sRet, ap_eBin]
  have k2' : eCall gAll (aCons (eFrz (lComp (iSeq (eVar 1)) (tgTup 2 (tgCons (tgName 3) (tgCons (tgName 4) tgNil))) eYes (eAndV (eChain gLt gLt (eD (.int 1)) (eVar 3) (eVar 4)) (eBin gNe (eBin gDiv (eVar 3) (eD (.int 2))) (eBin gDiv (eVar 4) (eD (.int 2))))) [3, 4])) aNil) [some (.d (dNet f gs)), some (.d (.list (gs.map dG))), none, none, none] cs = .ok (.d (.bool true)) cs := k2
  simp only [k2', ER.bind_ok, tru_b, Bool.not_true, Bool.false_eq_true, if_false, sE_ok, ap_sNext]
  simp only [ap_eCall, ap_aCons, dc, ER.bind_ok, ap_aNil, e5, ap_eVar, List.getElem?_cons_zero, List.getElem?_cons_succ, e6, g_eqi, decide_true, sE_ok, retOf_rt, gcR_app]
end
end K42

/-! M16: cones. -/
namespace VM
open PySem L2
theorem ap_rng3 {sl : Sl} {cs : Cs} (fs : Fn (List B)) (i j : Nat) (cs1 : Cs) (h : fs sl cs = .ok [.d (.int (i : Int)), .d (.int (j : Int)), .d (.int (-1))] cs1) (hi : i < 1000000) (hj : j ≤ i) : iRange3 fs sl cs = .ok (rngI i (-1) (i - j), fun _ => True) cs1 := by
  unfold iRange3
  rw [h, ER.bind_ok]
  simp only
  rw [if_pos ⟨trivial, by omega, by omega, by omega, by omega⟩, show ((i : Int) - (j : Int)).toNat = i - j by omega]
end VM
namespace K42
open PySem VM L2
open Classical
def fdc (fd : List Nat) : List (Key × B) := fd.map fun m : Nat => (.inl (m : Int), .d (.bool true))
def addN (fd : List Nat) (m : Nat) : List Nat := if m ∈ fd then fd else fd ++ [m]
theorem mem_addN {fd : List Nat} {m x : Nat} : x ∈ addN fd m ↔ x ∈ fd ∨ x = m := by
  unfold addN
  split
  · rename_i h
    exact ⟨.inl, fun q => q.elim id fun e => e ▸ h⟩
  · simp
theorem any_fdc (fd : List Nat) (m : Nat) : ((fdc fd).any fun kv => decide (kv.1 = (Sum.inl (m : Int) : Key))) = decide (m ∈ fd) := by
  unfold fdc
  rw [List.any_map]
  apply Bool.eq_iff_iff.mpr
  rw [List.any_eq_true, decide_eq_true_iff]
  constructor
  · rintro ⟨x, hx, e⟩
    have e : (Sum.inl (x : Int) : Key) = Sum.inl (m : Int) := of_decide_eq_true e
    injection e with e
    have : x = m := by omega
    exact this ▸ hx
  · exact fun h => ⟨m, h, decide_eq_true rfl⟩
theorem put_fdc (fd : List Nat) (m : Nat) : putB (fdc fd) (.inl (m : Int)) (.d (.bool true)) = fdc (addN fd m) := by
  unfold putB addN
  rw [any_fdc]
  by_cases h : m ∈ fd
  · rw [if_pos (decide_eq_true h), if_pos h]
    unfold fdc
    rw [List.map_map]
    apply List.map_congr_left
    intro x _
    show (if (Sum.inl (x : Int) : Key) = Sum.inl (m : Int) then ((Sum.inl (x : Int) : Key), B.d (.bool true)) else (Sum.inl (x : Int), .d (.bool true))) = _
    split <;> rfl
  · rw [if_neg (by simpa using h), if_neg h]
    unfold fdc
    rw [List.map_append]; rfl
theorem get_fdc (fd : List Nat) (m : Nat) : (getB (fdc fd) (.inl (m : Int))).isSome = decide (m ∈ fd) := by rw [← any_getB, any_fdc]
theorem fold_mem : ∀ (ms fd : List Nat) (x : Nat), x ∈ ms.foldl addN fd ↔ x ∈ fd ∨ x ∈ ms
  | [], fd, x => by simp
  | m :: ms, fd, x => by
    rw [List.foldl_cons, fold_mem ms, mem_addN, List.mem_cons, or_assoc]
theorem fold_len : ∀ (ms fd : List Nat), (ms.foldl addN fd).length ≤ fd.length + ms.length
  | [], fd => by simp
  | m :: ms, fd => by
    rw [List.foldl_cons, List.length_cons]
    have h1 := fold_len ms (addN fd m)
    have h2 : (addN fd m).length ≤ fd.length + 1 := by unfold addN; split <;> simp
    omega
theorem nd_addN {fd : List Nat} {m : Nat} (h : fd.Nodup) : (addN fd m).Nodup := by
  unfold addN
  split
  · exact h
  · rename_i hm
    rw [List.nodup_append]
    exact ⟨h, by simp, fun x hx y hy e => hm (by simp at hy; rw [← hy, ← e]; exact hx)⟩
theorem fold2 (a b : Nat) (fd : List Nat) : ([a, b].foldl addN []).foldl addN fd = [a, b].foldl addN fd := by
  by_cases hh : b = a
  · subst hh
    simp [addN]
    split <;> simp [*]
  · simp [addN, hh]
theorem fold_nd : ∀ (ms fd : List Nat), fd.Nodup → (ms.foldl addN fd).Nodup
  | [], fd, h => h
  | m :: ms, fd, h => fold_nd ms _ (nd_addN h)
theorem merge_fdc : ∀ (ms fd : List Nat), mergeB (fdc fd) (fdc ms) = fdc (ms.foldl addN fd)
  | [], fd => rfl
  | m :: ms, fd => by
    show mergeB (putB (fdc fd) (.inl (m : Int)) (.d (.bool true))) (fdc ms) = _
    rw [put_fdc, merge_fdc ms, List.foldl_cons]
section
variable {cs : Cs} {f k l : Nat} {gs : Gs} {vs β : List Bool}
/-- {literal // 2: True for literal in row}, the name in the slot 6 -/
theorem dck_loop (x0 x1 x2 x3 x4 x5 : Option B) : ∀ (ls fd : List Nat) (x6 : Option B), dcLoop keyD (fun _ => True) (tgName 6) eYes (eBin gDiv (eVar 6) (eD (.int 2))) (eD (.bool true)) [x0, x1, x2, x3, x4, x5, x6] (ls.map fun l => .d (dN l)) (fdc fd) cs = .ok (fdc ((ls.map (· / 2)).foldl addN fd)) cs
  | [], fd, x6 => by
    unfold dcLoop
    simp
  | l :: ls, fd, x6 => by
    have e1 : gDiv (.d (dN l)) (.d (.int 2)) cs = .ok (.d (.int ((l / 2 : Nat) : Int))) cs := by rw [g_div _ _ ⟨by decide, by decide⟩]; congr 3
    rw [List.map_cons]
    unfold dcLoop
    simp only [if_true, ap_tgName, List.set_cons_succ, List.set_cons_zero, ap_eYes, noEx_ok, ER.bind_ok, ap_eBin, ap_eVar, List.getElem?_cons_zero, List.getElem?_cons_succ, ap_eD, e1, keyD_int, put_fdc]
    rw [dck_loop x0 x1 x2 x3 x4 x5 ls _ x6, List.map_cons, List.foldl_cons]
theorem dck {fi : Fn (List B × (Cs → Prop))} (x0 x1 x2 x3 x4 x5 x6 : Option B) (ls : List Nat) (hfi : fi [x0, x1, x2, x3, x4, x5, x6] cs = .ok (ls.map fun l => .d (dN l), fun _ => True) cs) (hl : ls.length < sizeLine) :
    eDcK fi (tgName 6) eYes (eBin gDiv (eVar 6) (eD (.int 2))) (eD (.bool true)) [6] [x0, x1, x2, x3, x4, x5, x6] cs = .ok (.r cs.length) (cs ++ [.dK (fdc ((ls.map (· / 2)).foldl addN []))]) := by
  unfold eDcK eDc
  rw [hfi, ER.bind_ok]
  simp only
  rw [if_pos (by rw [List.length_map]; exact hl), show wipeS [x0, x1, x2, x3, x4, x5, x6] [6] = [x0, x1, x2, x3, x4, x5, none] from rfl]
  have := dck_loop (cs := cs) x0 x1 x2 x3 x4 x5 ls [] none
  rw [show fdc [] = [] from rfl] at this
  rw [this, ER.bind_ok]
/-- which given nodes the node m hangs on -/
def sp (n : Nat) (gs : Gs) (m : Nat) : List Nat := (ev aS (s0 n) gs).getD m []
theorem L_sp (n : Nat) (gs : Gs) (l : Nat) : L aS (s0 n) gs l = sp n gs (l / 2) := by
  unfold L lit sp aS
  split <;> rfl
theorem sp_low {n m : Nat} (h : m < n) : sp n gs m = [m] := by
  have e := L_ext aS (s0 n) [] gs (2 * m) (by rw [s0_len]; simp; omega)
  rw [List.nil_append, L_sp, show 2 * m / 2 = m by omega] at e
  rw [e, L_sp, show 2 * m / 2 = m by omega]
  unfold sp ev s0
  rw [List.getD_eq_getElem?_getD, List.getElem?_map]
  simp [h]
theorem sp_gate {n i a b : Nat} (ok : Ok n gs) (h : gs[i]? = some (a, b)) : sp n gs (n + i) = sp n gs (a / 2) ++ sp n gs (b / 2) := by
  have e := L_at aS (s0 n) gs (by rw [s0_len]; exact ok.wf) i a b h
  rw [s0_len, L_sp, L_sp, L_sp, show 2 * (n + i) / 2 = n + i by omega] at e
  exact e
/-- the cone's keys -/
structure Fd (n : Nat) (gs : Gs) (w : List Nat) (q : Nat) (fd : List Nat) : Prop where
  nd : fd.Nodup
  lt : ∀ m ∈ fd, m < n + gs.length
  mem : ∀ x, (∃ l ∈ w, x ∈ sp n gs (l / 2)) ↔ ∃ m ∈ fd, m < q ∧ x ∈ sp n gs m
theorem fd_start {n : Nat} {w : List Nat} (hw : ∀ l ∈ w, l < 2 * (n + gs.length)) : Fd n gs w (n + gs.length) ((w.map (· / 2)).foldl addN []) := by
  have hm : ∀ m, m ∈ (w.map (· / 2)).foldl addN [] ↔ ∃ l ∈ w, l / 2 = m := fun m => by rw [fold_mem]; simp
  have lt : ∀ m ∈ (w.map (· / 2)).foldl addN [], m < n + gs.length := fun m h => by
    obtain ⟨l, hl, rfl⟩ := (hm m).mp h
    have := hw l hl
    omega
  refine ⟨fold_nd _ _ List.nodup_nil, lt, fun x => ⟨fun ⟨l, hl, hx⟩ => ⟨l / 2, (hm _).mpr ⟨l, hl, rfl⟩, ?_, hx⟩, fun ⟨m, hm', _, hx⟩ => ?_⟩⟩
  · exact lt _ ((hm _).mpr ⟨l, hl, rfl⟩)
  · obtain ⟨l, hl, rfl⟩ := (hm m).mp hm'
    exact ⟨l, hl, hx⟩
theorem fd_step {n i a b : Nat} {w fd : List Nat} (ok : Ok n gs) (F : Fd n gs w (n + i + 1) fd) (h : gs[i]? = some (a, b)) : Fd n gs w (n + i) (if n + i ∈ fd then ([a, b].map (· / 2)).foldl addN fd else fd) := by
  obtain ⟨w1, w2⟩ := ok.wf i a b h
  have hi := (List.getElem?_eq_some_iff.mp h).1
  have g := sp_gate ok h
  by_cases hm : n + i ∈ fd
  · rw [if_pos hm]
    have hmem : ∀ x, x ∈ ([a, b].map (· / 2)).foldl addN fd ↔ x ∈ fd ∨ (x = a / 2 ∨ x = b / 2) := fun x => by rw [fold_mem]; simp
    refine ⟨fold_nd _ _ F.nd, fun m hm' => ?_, fun x => ⟨fun hx => ?_, fun ⟨m, hm', hq, hx⟩ => ?_⟩⟩
    · rcases (hmem m).mp hm' with q | q | q
      · exact F.lt m q
      · omega
      · omega
    · obtain ⟨m, h1, h2, h3⟩ := (F.mem x).mp hx
      by_cases e : m = n + i
      · subst e
        rw [g] at h3
        rcases List.mem_append.mp h3 with q | q
        · exact ⟨a / 2, (hmem _).mpr (.inr (.inl rfl)), by omega, q⟩
        · exact ⟨b / 2, (hmem _).mpr (.inr (.inr rfl)), by omega, q⟩
      · exact ⟨m, (hmem _).mpr (.inl h1), by omega, h3⟩
    · rcases (hmem m).mp hm' with q | q | q
      · exact (F.mem x).mpr ⟨m, q, by omega, hx⟩
      · exact (F.mem x).mpr ⟨n + i, hm, by omega, by rw [g]; exact List.mem_append_left _ (q ▸ hx)⟩
      · exact (F.mem x).mpr ⟨n + i, hm, by omega, by rw [g]; exact List.mem_append_right _ (q ▸ hx)⟩
  · rw [if_neg hm]
    refine ⟨F.nd, F.lt, fun x => ⟨fun hx => ?_, fun ⟨m, h1, h2, h3⟩ => (F.mem x).mpr ⟨m, h1, by omega, h3⟩⟩⟩
    obtain ⟨m, h1, h2, h3⟩ := (F.mem x).mp hx
    have : m ≠ n + i := fun e => hm (e ▸ h1)
    exact ⟨m, h1, by omega, h3⟩
theorem cone_rng (wB : B) (m : Nat) (N : NetOk f gs) : iRange3 (aCons (eBin gAdd (eVar 2) (eCall gLenU (aCons (eVar 3) aNil))) (aCons (eVar 2) (aCons (eUn gNeg (eD (.int 1))) aNil))) [some (.d (dNet f gs)), some wB, some (.d (dN f)), some (.d (dGs gs)), some (.r m), none, none] cs = .ok (rngI ((f + gs.length : Nat) : Int) (-1) gs.length, fun _ => True) cs := by
  have hN := N.hl
  have hF := N.hf
  have h0 : aCons (eBin gAdd (eVar 2) (eCall gLenU (aCons (eVar 3) aNil))) (aCons (eVar 2) (aCons (eUn gNeg (eD (.int 1))) aNil)) [some (.d (dNet f gs)), some wB, some (.d (dN f)), some (.d (dGs gs)), some (.r m), none, none] cs = .ok [.d (.int ((f + gs.length : Nat) : Int)), .d (.int (f : Int)), .d (.int (-1))] cs := by
    have g1 : gNeg (.d (.int 1)) cs = .ok (.d (.int (-1))) cs := rfl
    simp only [ap_aCons, ap_eBin, ap_eVar, ap_eCall, ap_aNil, ap_eUn, ap_eD, List.getElem?_cons_zero, List.getElem?_cons_succ, ER.bind_ok, net_len, g_add, g1, Int.natCast_add]
  rw [ap_rng3 _ _ _ _ h0 (by omega) (by omega), show f + gs.length - f = gs.length by omega]
def coneI (cs : Cs) (f : Nat) (gs : Gs) (w : List Nat) (wB : B) (i : Nat) (sl : Sl) (c : Cs) : Prop := ∃ x5 x6 fd u, sl = [some (.d (dNet f gs)), some wB, some (.d (dN f)), some (.d (dGs gs)), some (.r cs.length), x5, x6] ∧ c = cs ++ (.dK (fdc fd) :: u) ∧ Fd (f + 1) gs w (f + 1 + gs.length - i) fd ∧ fd.length ≤ 16 + 2 * i
noncomputable def coneBody : FnS := (sIf (eT (eBin (gInU false) (eVar 5) (eVar 4)))
  (sExpr (eBM isDct gUpdD (eVar 4) (aCons (eDcK (iSeq (eBin gIx (eVar 3) (eBin gSub (eBin gSub (eVar 5) (eVar 2)) (eD (.int 1))))) (tgName 6) eYes (eBin gDiv (eVar 6) (eD (.int 2))) (eD (.bool true)) [6]) aNil)))
  sNext)
theorem cone_turn {w : List Nat} (N : NetOk f gs) (wB : B) : ∀ i b sl c, (rngI ((f + gs.length : Nat) : Int) (-1) gs.length)[i]? = some b → coneI cs f gs w wB (0 + i) sl c → True ∧ ∃ sl1, tgName 5 b sl = some sl1 ∧ ∃ sl2 cs2, (coneBody sl1 c = .nx sl2 cs2 ∨ coneBody sl1 c = .ct sl2 cs2) ∧ coneI cs f gs w wB (0 + i + 1) sl2 cs2 := by
  have hN := N.hl
  have hF := N.hf
  have hS : sizeLine = 16777216 := sizeLine_eq
  have a0 : ∀ (fd : List Nat) (u : Cs), (cs ++ (.dK (fdc fd) :: u) : Cs)[cs.length]? = some (.dK (fdc fd)) := fun fd u => by rw [List.getElem?_append_right (Nat.le_refl _), Nat.sub_self]; rfl
  exact fun i b sl c hb ⟨x5, x6, fd, u, e4, e5, e6, ez⟩ => by
      have hb2 := rngI_get hb
      have hi : i < gs.length := by
        have := (List.getElem?_eq_some_iff.mp hb).1
        rwa [rngI_len] at this
      rw [Nat.zero_add] at e6 ez ⊢
      subst e4 e5
      have eb : b = .d (dN (f + gs.length - i)) := by rw [hb2]; congr 2; omega
      subst eb
      obtain ⟨j, hj⟩ : ∃ j, j + 1 + i = gs.length := ⟨gs.length - i - 1, by omega⟩
      have nj : f + gs.length - i = f + 1 + j := by omega
      have qj : f + 1 + gs.length - i = f + 1 + j + 1 := by omega
      have qj' : f + 1 + gs.length - (i + 1) = f + 1 + j := by omega
      rw [nj]
      rw [qj] at e6
      have hjl : j < gs.length := by omega
      obtain ⟨g, hg⟩ : ∃ g, gs[j]? = some g := ⟨gs[j], List.getElem?_eq_getElem hjl⟩
      have st := fd_step (a := g.1) (b := g.2) N.ok e6 hg
      have k1 : gInU false (.d (dN (f + 1 + j))) (.r cs.length) (cs ++ (.dK (fdc fd) :: u)) = .ok (.d (.bool (decide (f + 1 + j ∈ fd)))) (cs ++ (.dK (fdc fd) :: u)) := by
        rw [ap_gInU]
        unfold gIn gDIn dFind
        simp only [bSeq_r, bList, a0, Option.bind_none, orE_no, keyD_int, Option.map_some, get_fdc, Bool.false_eq_true, if_false]
      by_cases hm : f + 1 + j ∈ fd
      · rw [if_pos hm] at st
        refine ⟨trivial, _, rfl, [some (.d (dNet f gs)), some wB, some (.d (dN f)), some (.d (dGs gs)), some (.r cs.length), some (.d (dN (f + 1 + j))), x6], cs ++ (.dK (fdc (([g.1, g.2].map (· / 2)).foldl addN fd)) :: (u ++ [.dK (fdc (([g.1, g.2].map (· / 2)).foldl addN []))])), .inl ?_, _, _, _, _, rfl, rfl, by rw [qj']; exact st, ?_⟩
        · have k2 : gIx (.d (dGs gs)) (.d (.int (((f + 1 + j : Nat) : Int) - (f : Int) - 1))) (cs ++ (.dK (fdc fd) :: u)) = .ok (.d (dG g)) (cs ++ (.dK (fdc fd) :: u)) := by
            have : (((f + 1 + j : Nat) : Int) - (f : Int) - 1) = ((j : Nat) : Int) := by omega
            rw [this]
            refine g_ix_t _ _ _ ?_
            rw [atI_nat _ _ (by omega) (by rw [List.length_map]; omega), Int.toNat_natCast, List.getElem?_map, hg]; rfl
          have k3 := dck (cs := cs ++ (.dK (fdc fd) :: u)) (fi := iSeq (eBin gIx (eVar 3) (eBin gSub (eBin gSub (eVar 5) (eVar 2)) (eD (.int 1))))) (some (.d (dNet f gs))) (some wB) (some (.d (dN f))) (some (.d (dGs gs))) (some (.r cs.length)) (some (.d (dN (f + 1 + j)))) x6 [g.1, g.2] (by
            rw [i_seq_t _ [dN g.1, dN g.2] (cs ++ (.dK (fdc fd) :: u)) (by
              simp only [ap_eBin, ap_eVar, ap_eD, List.getElem?_cons_zero, List.getElem?_cons_succ, ER.bind_ok, g_sub, k2])]
            rfl) (show (2 : Nat) < sizeLine by decide)
          have hlu : (cs ++ (.dK (fdc fd) :: u) : Cs).length = cs.length + 1 + u.length := by simp; omega
          rw [hlu, List.append_assoc, List.cons_append] at k3
          have k4 : gUpdD cs.length [.r (cs.length + 1 + u.length)] (cs ++ (.dK (fdc fd) :: (u ++ [.dK (fdc (([g.1, g.2].map (· / 2)).foldl addN []))]))) = .ok (.d .none) (cs ++ (.dK (fdc (([g.1, g.2].map (· / 2)).foldl addN fd)) :: (u ++ [.dK (fdc (([g.1, g.2].map (· / 2)).foldl addN []))]))) := by
            have b1 : (cs ++ (.dK (fdc fd) :: (u ++ [.dK (fdc (([g.1, g.2].map (· / 2)).foldl addN []))])) : Cs)[cs.length + 1 + u.length]? = some (.dK (fdc (([g.1, g.2].map (· / 2)).foldl addN []))) := by
              rw [List.getElem?_append_right (by omega), show cs.length + 1 + u.length - cs.length = u.length + 1 by omega, List.getElem?_cons_succ, List.getElem?_append_right (Nat.le_refl _), Nat.sub_self]; rfl
            have ml := fold_len ([g.1, g.2].map (· / 2)) []
            unfold gUpdD
            simp only [a0, b1]
            rw [if_pos ⟨by omega, by
              unfold fdc
              rw [List.length_map, List.length_map]
              simp only [List.length_nil, List.length_map, List.length_cons] at ml
              omega⟩, merge_fdc, List.set_append_right _ _ (Nat.le_refl _), Nat.sub_self]
            rw [show [g.1, g.2].map (· / 2) = [g.1 / 2, g.2 / 2] from rfl, fold2]
            rfl
          simp only [coneBody, ap_tgName, List.set_cons_succ, List.set_cons_zero, ap_sIf, ap_eT, ap_eBin, ap_eVar, List.getElem?_cons_zero, List.getElem?_cons_succ, ER.bind_ok, k1, isB_b, decide_eq_true hm, sE_ok, if_true, ap_sExpr, ap_eBM, a0, isDct, ap_aCons, k3, ap_aNil, k4]
        · have := fold_len ([g.1, g.2].map (· / 2)) fd
          simp only [List.length_map, List.length_cons, List.length_nil] at this
          omega
      · rw [if_neg hm] at st
        refine ⟨trivial, _, rfl, [some (.d (dNet f gs)), some wB, some (.d (dN f)), some (.d (dGs gs)), some (.r cs.length), some (.d (dN (f + 1 + j))), x6], cs ++ (.dK (fdc fd) :: u), .inl ?_, _, _, _, _, rfl, rfl, by rw [qj']; exact st, by omega⟩
        simp only [coneBody, ap_tgName, List.set_cons_succ, List.set_cons_zero, ap_sIf, ap_eT, ap_eBin, ap_eVar, List.getElem?_cons_zero, List.getElem?_cons_succ, ER.bind_ok, k1, isB_b, decide_eq_false hm, sE_ok, Bool.false_eq_true, if_false, ap_sNext]
end
end K42

namespace K42
open PySem VM L2
open Classical
section
variable {cs : Cs} {f k l : Nat} {gs : Gs} {vs β : List Bool}
theorem F_coneof {w : List Nat} {wB : B} (N : NetOk f gs) (hw : ∀ l ∈ w, l < 2 * (f + 1 + gs.length)) (hl : w.length ≤ 16) (hwB : wB = .d (dW w) ∨ wB = .d (.list (w.map dN))) :
    ∃ fd, F_cone_of [.d (dNet f gs), wB] cs = .ok (.d (.list ((sortI (fd.map fun m : Nat => (m : Int))).map PyData.int))) cs ∧ Fd (f + 1) gs w (f + 1) fd := by
  have hN := N.hl
  have hF := N.hf
  have hS : sizeLine = 16777216 := sizeLine_eq
  have wl : w.length < sizeLine := by omega
  have iw : ∀ (x2 x3 x4 x5 x6 : Option B) (c : Cs), iSeq (eVar 1) [some (.d (dNet f gs)), some wB, x2, x3, x4, x5, x6] c = .ok (w.map fun l => .d (dN l), fun _ => True) c := fun x2 x3 x4 x5 x6 c => by
    rcases hwB with rfl | rfl
    · rw [i_seq_t _ (w.map dN) c rfl, List.map_map]; rfl
    · rw [i_seq_l _ (w.map dN) c rfl, List.map_map]; rfl
  have d1 := dck (cs := cs) (some (.d (dNet f gs))) (some wB) (some (.d (dN f))) (some (.d (dGs gs))) none none none w (iw _ _ _ _ _ cs) wl
  have d0 : fdc ((w.map (· / 2)).foldl addN []) = fdc ((w.map (· / 2)).foldl addN []) := rfl
  generalize hfd0 : (w.map (· / 2)).foldl addN [] = fd0 at d1 d0
  have F0 : Fd (f + 1) gs w (f + 1 + gs.length) fd0 := hfd0 ▸ fd_start hw
  have z0 : fd0.length ≤ 16 := by
    rw [← hfd0]
    have := fold_len (w.map (· / 2)) []
    rw [List.length_map] at this
    simp at this
    omega
  have a0 : ∀ (fd : List Nat) (u : Cs), (cs ++ (.dK (fdc fd) :: u) : Cs)[cs.length]? = some (.dK (fdc fd)) := fun fd u => by rw [List.getElem?_append_right (Nat.le_refl _), Nat.sub_self]; rfl
  obtain ⟨sl', cs1, el, x5, x6, fd, u, e7, e8, e9, e10⟩ := loop_inv (okc := fun _ => True) (tf := tgName 5)
    (body := coneBody)
    (coneI cs f gs w wB) (rngI ((f + gs.length : Nat) : Int) (-1) gs.length) 0
    [some (.d (dNet f gs)), some wB, some (.d (dN f)), some (.d (dGs gs)), some (.r cs.length), none, none] (cs ++ [.dK (fdc fd0)]) ⟨none, none, fd0, [], rfl, rfl, F0, z0⟩
    (fun _ _ _ => trivial) (cone_turn N wB)
  rw [e7, e8] at el
  rw [rngI_len] at e9 e10
  refine ⟨fd, ?_, by rw [show f + 1 + gs.length - (0 + gs.length) = f + 1 by omega] at e9; exact e9⟩
  have t1 : tgTup 2 (tgCons (tgName 2) (tgCons (tgName 3) tgNil)) (.d (dNet f gs)) [some (.d (dNet f gs)), some wB, none, none, none, none, none] = some [some (.d (dNet f gs)), some wB, some (.d (dN f)), some (.d (dGs gs)), none, none, none] := rfl
  have r1 := cone_rng (cs := cs ++ [.dK (fdc fd0)]) wB (cs.length) N
  have ki : keyInts ((fdc fd).map (·.1)) = some (fd.map fun m : Nat => (m : Int)) := by
    have : (fdc fd).map (·.1) = (fd.map fun m : Nat => (m : Int)).map Sum.inl := by unfold fdc; rw [List.map_map, List.map_map]; rfl
    rw [this, keyInts_inl]
  have so : lCall gSorted (aCons (eVar 4) aNil) [some (.d (dNet f gs)), some wB, some (.d (dN f)), some (.d (dGs gs)), some (.r cs.length), x5, x6] (cs ++ (.dK (fdc fd) :: u)) = .ok ((sortI (fd.map fun m : Nat => (m : Int))).map fun i => .d (.int i)) (cs ++ (.dK (fdc fd) :: u)) := by
    simp only [ap_lCall, ap_aCons, ap_eVar, ap_aNil, List.getElem?_cons_zero, List.getElem?_cons_succ, ER.bind_ok]
    unfold gSorted
    rw [ap_gAlt2]
    unfold gSortI gSortD
    simp only [bInts, bList, a0, Option.bind_none, orE_no, ki]
    rw [if_pos (by rw [List.length_map]; omega)]
  have al : allD ((sortI (fd.map fun m : Nat => (m : Int))).map fun i => B.d (.int i)) = some ((sortI (fd.map fun m : Nat => (m : Int))).map PyData.int) := allD_map _ _
  have b1 : sAsg (tgTup 2 (tgCons (tgName 2) (tgCons (tgName 3) tgNil))) (eVar 0) [some (.d (dNet f gs)), some wB, none, none, none, none, none] cs = .nx [some (.d (dNet f gs)), some wB, some (.d (dN f)), some (.d (dGs gs)), none, none, none] cs := by
    simp only [ap_sAsg, ap_eVar, List.getElem?_cons_zero, sE_ok, t1]
  have b2 : sSet 4 (eDcK (iSeq (eVar 1)) (tgName 6) eYes (eBin gDiv (eVar 6) (eD (.int 2))) (eD (.bool true)) [6]) [some (.d (dNet f gs)), some wB, some (.d (dN f)), some (.d (dGs gs)), none, none, none] cs = .nx [some (.d (dNet f gs)), some wB, some (.d (dN f)), some (.d (dGs gs)), some (.r cs.length), none, none] (cs ++ [.dK (fdc fd0)]) := by
    rw [ap_sSet, d1, sE_ok]
    rfl
  have b3 : sFor (iRange3 (aCons (eBin gAdd (eVar 2) (eCall gLenU (aCons (eVar 3) aNil))) (aCons (eVar 2) (aCons (eUn gNeg (eD (.int 1))) aNil)))) (tgName 5) coneBody [some (.d (dNet f gs)), some wB, some (.d (dN f)), some (.d (dGs gs)), some (.r cs.length), none, none] (cs ++ [.dK (fdc fd0)]) = .nx [some (.d (dNet f gs)), some wB, some (.d (dN f)), some (.d (dGs gs)), some (.r cs.length), x5, x6] (cs ++ (.dK (fdc fd) :: u)) := by
    rw [ap_sFor, r1, sE_ok]
    exact el
  have b4 : sRet (eFrz (lCall gSorted (aCons (eVar 4) aNil))) [some (.d (dNet f gs)), some wB, some (.d (dN f)), some (.d (dGs gs)), some (.r cs.length), x5, x6] (cs ++ (.dK (fdc fd) :: u)) = .rt (.d (.list ((sortI (fd.map fun m : Nat => (m : Int))).map PyData.int))) (cs ++ (.dK (fdc fd) :: u)) := by
    rw [ap_sRet, ap_eFrz, so, ER.bind_ok, al, sE_ok]
  have eF : F_cone_of = mDef 7 (sSeq (sAsg (tgTup 2 (tgCons (tgName 2) (tgCons (tgName 3) tgNil))) (eVar 0)) (sSeq (sSet 4 (eDcK (iSeq (eVar 1)) (tgName 6) eYes (eBin gDiv (eVar 6) (eD (.int 2))) (eD (.bool true)) [6])) (sSeq (sFor (iRange3 (aCons (eBin gAdd (eVar 2) (eCall gLenU (aCons (eVar 3) aNil))) (aCons (eVar 2) (aCons (eUn gNeg (eD (.int 1))) aNil)))) (tgName 5) coneBody) (sRet (eFrz (lCall gSorted (aCons (eVar 4) aNil))))))) gcR := rfl
  have e0 : ([.d (dNet f gs), wB] : List B).map some ++ List.replicate (7 - ([.d (dNet f gs), wB] : List B).length) none = [some (.d (dNet f gs)), some wB, none, none, none, none, none] := rfl
  rw [eF, ap_mDef, e0, ap_sSeq, b1]
  simp only
  rw [ap_sSeq, b2]
  simp only
  rw [ap_sSeq, b3]
  simp only
  rw [b4, retOf_rt, gcR_app]
end
end K42

/-! M17: agree. -/
namespace K42
open PySem VM L2
open Classical
section
variable {cs : Cs} {f k l : Nat} {gs : Gs} {vs β β' : List Bool}
/-- what a literal's value hangs on -/
theorem cone_val {n : Nat} (ok : Ok n gs) (h1 : β.length + 1 = n) (h2 : β'.length + 1 = n) : ∀ (q l : Nat), l / 2 < q → l < 2 * (n + gs.length) → (∀ x ∈ sp n gs (l / 2), 1 ≤ x → β.getD (x - 1) false = β'.getD (x - 1) false) → L aB (v0 β) gs l = L aB (v0 β') gs l
  | 0, l, h, _, _ => by omega
  | q + 1, l, h, hl, hx => by
    by_cases hn : l / 2 < n
    · have e1 := L_ext aB (v0 β) [] gs l (by rw [v0_len, h1]; simp; omega)
      have e2 := L_ext aB (v0 β') [] gs l (by rw [v0_len, h2]; simp; omega)
      rw [List.nil_append] at e1 e2
      rw [e1, e2]
      have key : (v0 β).getD (l / 2) false = (v0 β').getD (l / 2) false := by
        rcases Nat.eq_zero_or_pos (l / 2) with z | z
        · rw [z]; rfl
        · have := hx (l / 2) (by rw [sp_low hn]; simp) z
          obtain ⟨m, hm⟩ : ∃ m, l / 2 = m + 1 := ⟨l / 2 - 1, by omega⟩
          rw [hm] at this ⊢
          exact this
      unfold L lit ev aB
      simp only
      rw [key]
    · obtain ⟨i, hi⟩ : ∃ i, l / 2 = n + i := ⟨l / 2 - n, by omega⟩
      have hil : i < gs.length := by omega
      obtain ⟨g, hg⟩ : ∃ g, gs[i]? = some g := ⟨gs[i], List.getElem?_eq_getElem hil⟩
      obtain ⟨w1, w2⟩ := ok.wf i g.1 g.2 hg
      have sg := sp_gate (a := g.1) (b := g.2) ok hg
      rw [hi, sg] at hx
      have i1 := cone_val ok h1 h2 q g.1 (by omega) (by omega) fun x h => hx x (List.mem_append_left _ h)
      have i2 := cone_val ok h1 h2 q g.2 (by omega) (by omega) fun x h => hx x (List.mem_append_right _ h)
      have a1 := L_at aB (v0 β) gs (by rw [v0_len, h1]; exact ok.wf) i g.1 g.2 hg
      have a2 := L_at aB (v0 β') gs (by rw [v0_len, h2]; exact ok.wf) i g.1 g.2 hg
      rw [v0_len, h1] at a1
      rw [v0_len, h2] at a2
      have e : L aB (v0 β) gs (2 * (n + i)) = L aB (v0 β') gs (2 * (n + i)) := by rw [a1, a2, i1, i2]
      by_cases hp : l % 2 = 1
      · have el : l = opp (2 * (n + i)) := by unfold opp; split <;> omega
        rw [el, L_opp aB (fun x => by simp [aB]), L_opp aB (fun x => by simp [aB]), e]
      · rw [show l = 2 * (n + i) by omega, e]
/-- the bits of a number at the places ns -/
def setsB (m : Nat) : List Nat → Nat → List Bool → List Bool
  | [], _, bs => bs
  | n :: ns, i, bs => setsB m ns (i + 1) (bs.set (n - 1) (decide (m / 2 ^ i % 2 = 1)))
theorem setsB_len (m : Nat) : ∀ (ns : List Nat) (i : Nat) (bs : List Bool), (setsB m ns i bs).length = bs.length
  | [], _, _ => rfl
  | n :: ns, i, bs => by
    show (setsB m ns (i + 1) _).length = _
    rw [setsB_len, List.length_set]
theorem setsB_app (m : Nat) (x : Nat) : ∀ (ns : List Nat) (i : Nat) (bs : List Bool), setsB m (ns ++ [x]) i bs = (setsB m ns i bs).set (x - 1) (decide (m / 2 ^ (i + ns.length) % 2 = 1))
  | [], i, bs => rfl
  | n :: ns, i, bs => by
    show setsB m (ns ++ [x]) (i + 1) _ = (setsB m ns (i + 1) _).set _ _
    rw [setsB_app m x ns, List.length_cons, show i + 1 + ns.length = i + (ns.length + 1) by omega]
theorem setsB_other (m : Nat) : ∀ (ns : List Nat) (i : Nat) (bs : List Bool) (y : Nat), (∀ x ∈ ns, x - 1 ≠ y) → (setsB m ns i bs).getD y false = bs.getD y false
  | [], _, _, _, _ => rfl
  | n :: ns, i, bs, y, h => by
    show (setsB m ns (i + 1) _).getD y false = _
    rw [setsB_other m ns _ _ y fun x hx => h x (List.mem_cons_of_mem _ hx), List.getD_eq_getElem?_getD, List.getElem?_set_ne (h n List.mem_cons_self), ← List.getD_eq_getElem?_getD]
theorem setsB_at (m f : Nat) : ∀ (ns : List Nat) (i : Nat) (bs : List Bool) (j n : Nat), ns.Nodup → (∀ x ∈ ns, 1 ≤ x ∧ x ≤ f) → bs.length = f → ns[j]? = some n → (setsB m ns i bs).getD (n - 1) false = decide (m / 2 ^ (i + j) % 2 = 1)
  | [], _, _, j, n, _, _, _, h => by simp at h
  | x :: ns, i, bs, 0, n, hd, hr, hl, h => by
    simp at h
    subst h
    obtain ⟨h1, h2⟩ := List.nodup_cons.mp hd
    have hx := hr x List.mem_cons_self
    show (setsB m ns (i + 1) _).getD (x - 1) false = _
    rw [setsB_other m ns _ _ _ fun y hy e => h1 (by
      have := hr y (List.mem_cons_of_mem _ hy)
      rw [show x = y by omega]; exact hy), List.getD_eq_getElem?_getD, List.getElem?_set_self (by omega)]
    rfl
  | x :: ns, i, bs, j + 1, n, hd, hr, hl, h => by
    show (setsB m ns (i + 1) _).getD (n - 1) false = _
    rw [setsB_at m f ns (i + 1) _ j n (List.nodup_cons.mp hd).2 (fun y hy => hr y (List.mem_cons_of_mem _ hy)) (by rw [List.length_set]; exact hl) (by simpa using h), show i + 1 + j = i + (j + 1) by omega]
/-- a number with given bits -/
theorem num_with (c : Nat → Bool) : ∀ k, ∃ m, m < 2 ^ k ∧ ∀ i, i < k → decide (m / 2 ^ i % 2 = 1) = c i
  | 0 => ⟨0, by simp, fun i h => by omega⟩
  | k + 1 => by
    obtain ⟨m, h1, h2⟩ := num_with (fun i => c (i + 1)) k
    refine ⟨2 * m + (if c 0 then 1 else 0), by rw [Nat.pow_succ]; split <;> omega, fun i hi => ?_⟩
    cases i with
    | zero =>
      rw [Nat.pow_zero, Nat.div_one]
      cases c 0
      · simp
      · simp
    | succ i =>
      rw [← h2 i (by omega), Nat.pow_succ, Nat.mul_comm (2 ^ i) 2, ← Nat.div_div_eq_div_mul]
      have e : (2 * m + (if c 0 = true then 1 else 0)) / 2 = m := by split <;> omega
      rw [e]
/-- .. of the word's bits: equal numbers, equal bits, for words of one and of two -/
theorem num1 (a : Bool) : numI [a] = bI a := by cases a <;> rfl
theorem num2 (a b : Bool) : numI [a, b] = bI a + 2 * bI b := by cases a <;> cases b <;> rfl
theorem g_bandi (m i : Nat) : gBand (.d (.int ((m : Int) / 2 ^ i))) (.d (.int 1)) cs = .ok (.d (dB (decide (m / 2 ^ i % 2 = 1)))) cs := by
  show ER.ok (B.d (.int (Builtin.bitAnd ((m : Int) / 2 ^ i) 1))) cs = _
  rw [PyProof.Rows.bitAnd_m1]
  congr 2
  have e : ((m : Int) / 2 ^ i) % 2 = ((m / 2 ^ i % 2 : Nat) : Int) := by
    rw [Int.natCast_emod, Int.natCast_ediv, Int.natCast_pow]; rfl
  rw [e]
  congr 1
  unfold bI
  by_cases h : m / 2 ^ i % 2 = 1
  · rw [if_pos (decide_eq_true h), h]; rfl
  · rw [if_neg (by simpa using h)]
    omega
noncomputable def agrBits : FnS := sPut (eVar 5) (eBin gSub (eVar 7) (eD (.int 1))) (eBin gBand (eBin gShr (eVar 4) (eVar 6)) (eD (.int 1)))
/-- the bits' cell is filled -/
theorem agr_bits {c : Cs} (x0 x1 x2 x6 x7 x8 : Option B) (m : Nat) (ns : List Nat) (hr : ∀ x ∈ ns, 1 ≤ x ∧ x ≤ f) (bs : List Bool) (hb : bs.length = f) :
    ∃ y6 y7, sFor (VM.iEnum (aCons (eVar 3) aNil)) (tgTup 2 (tgCons (tgName 6) (tgCons (tgName 7) tgNil))) agrBits [x0, x1, x2, some (.d (.list (ns.map dN))), some (.d (dN m)), some (.r c.length), x6, x7, x8] (c ++ [.lst (rowB bs)]) =
      .nx [x0, x1, x2, some (.d (.list (ns.map dN))), some (.d (dN m)), some (.r c.length), y6, y7, x8] (c ++ [.lst (rowB (setsB m ns 0 bs))]) := by
  obtain ⟨sl', cs1, el, y6, y7, e7, e8⟩ := loop_inv (okc := fun _ => True) (tf := tgTup 2 (tgCons (tgName 6) (tgCons (tgName 7) tgNil))) (body := agrBits)
    (fun i sl c' => ∃ x6 x7, sl = [x0, x1, x2, some (.d (.list (ns.map dN))), some (.d (dN m)), some (.r c.length), x6, x7, x8] ∧ c' = c ++ [.lst (rowB (setsB m (ns.take i) 0 bs))]) (enumD (ns.map dN)) 0
    [x0, x1, x2, some (.d (.list (ns.map dN))), some (.d (dN m)), some (.r c.length), x6, x7, x8] (c ++ [.lst (rowB bs)]) ⟨x6, x7, rfl, rfl⟩ (fun _ _ _ => trivial) (fun i b sl c' hbb ⟨x6, x7, e4, e5⟩ => by
      rw [Nat.zero_add] at e5 ⊢
      subst e4 e5
      obtain ⟨d, hd, rfl⟩ := enumD_get hbb
      rw [List.getElem?_map] at hd
      obtain ⟨n, hn, rfl⟩ := Option.map_eq_some_iff.mp hd
      have hi := (List.getElem?_eq_some_iff.mp hn).1
      have hnr := hr n (List.mem_of_getElem? hn)
      have tl : (ns.take i).length = i := by rw [List.length_take]; omega
      refine ⟨trivial, _, rfl, [x0, x1, x2, some (.d (.list (ns.map dN))), some (.d (dN m)), some (.r c.length), some (.d (.int (i : Nat))), some (.d (dN n)), x8], c ++ [.lst (rowB (setsB m (ns.take (i + 1)) 0 bs))], .inl ?_, _, _, rfl, rfl⟩
      have a0 : (c ++ [.lst (rowB (setsB m (ns.take i) 0 bs))] : Cs)[c.length]? = some (.lst (rowB (setsB m (ns.take i) 0 bs))) := by rw [List.getElem?_append_right (Nat.le_refl _), Nat.sub_self]; rfl
      have e1 : gShr (.d (dN m)) (.d (.int (i : Nat))) (c ++ [.lst (rowB (setsB m (ns.take i) 0 bs))]) = .ok (.d (.int ((m : Int) / 2 ^ i))) (c ++ [.lst (rowB (setsB m (ns.take i) 0 bs))]) := by rw [g_shr _ _ (by omega), Int.toNat_natCast]
      have e2 : ((n : Int) - 1) = ((n - 1 : Nat) : Int) := by omega
      have e3 : VM.putAt (c ++ [.lst (rowB (setsB m (ns.take i) 0 bs))]) (.r c.length) (.d (.int ((n - 1 : Nat) : Int))) (.d (dB (decide (m / 2 ^ i % 2 = 1)))) = some (c ++ [.lst (rowB (setsB m (ns.take (i + 1)) 0 bs))]) := by
        unfold VM.putAt
        simp only [a0]
        have ix : ixN (rowB (setsB m (ns.take i) 0 bs)).length ((n - 1 : Nat) : Int) = some (n - 1) := by
          unfold ixN
          rw [List.length_map, setsB_len, hb, if_pos (by omega), if_pos (by omega), Int.toNat_natCast]
        rw [ix, Option.map_some, take_succ_at hn, setsB_app, tl, Nat.zero_add, List.set_append_right _ _ (Nat.le_refl _), Nat.sub_self]
        show some (c ++ [Cell.lst ((rowB (setsB m (ns.take i) 0 bs)).set (n - 1) _)]) = _
        unfold rowB
        rw [List.map_set]
      simp only [agrBits, ap_tgTupT, List.length_cons, List.length_nil, List.map_cons, List.map_nil, ap_tgCons, ap_tgName, ap_tgNil, Option.bind_some, Nat.zero_add, Nat.reduceAdd, if_true, List.set_cons_succ, List.set_cons_zero, ap_sPut, ap_eBin, ap_eVar, ap_eD, List.getElem?_cons_zero, List.getElem?_cons_succ, ER.bind_ok, e1, g_bandi, sE_ok, g_sub, e2, e3])
  rw [e7, e8] at el
  have fin : 0 + (enumD (ns.map dN)).length = ns.length := by simp [enumD]
  rw [fin, List.take_length] at el
  have ie : VM.iEnum (aCons (eVar 3) aNil) [x0, x1, x2, some (.d (.list (ns.map dN))), some (.d (dN m)), some (.r c.length), x6, x7, x8] (c ++ [.lst (rowB bs)]) = .ok (enumD (ns.map dN), fun _ => True) (c ++ [.lst (rowB bs)]) := rfl
  exact ⟨y6, y7, by rw [ap_sFor, ie, sE_ok]; exact el⟩
end
end K42

/-! M18: agree, to the end; cone. -/
namespace K42
open PySem VM L2
open Classical
theorem nodup_le : ∀ (f : Nat) (ns : List Nat), ns.Nodup → (∀ x ∈ ns, 1 ≤ x ∧ x ≤ f) → ns.length ≤ f
  | 0, ns, _, h => by
    cases ns with
    | nil => simp
    | cons x r => have := h x List.mem_cons_self; omega
  | f + 1, ns, hd, h => by
    have ih := nodup_le f (ns.erase (f + 1)) (hd.erase _) fun x hx => by
      obtain ⟨h1, h2⟩ := (List.Nodup.mem_erase_iff hd).mp hx
      have := h x h2
      omega
    have := List.length_erase (a := f + 1) (l := ns)
    split at this <;> omega
theorem sort_nat (fd : List Nat) : ∃ ns : List Nat, ns.Perm fd ∧ sortI (fd.map fun m : Nat => (m : Int)) = ns.map fun m : Nat => (m : Int) := by
  refine ⟨(sortI (fd.map fun m : Nat => (m : Int))).map Int.toNat, ?_, ?_⟩
  · have := (sortI_p (fd.map fun m : Nat => (m : Int))).map Int.toNat
    rw [List.map_map] at this
    have e : (Int.toNat ∘ fun m : Nat => (m : Int)) = id := by funext m; simp
    rw [e, List.map_id] at this
    exact this
  · rw [List.map_map]
    conv => lhs; rw [← List.map_id (sortI (fd.map fun m : Nat => (m : Int)))]
    apply List.map_congr_left
    intro x hx
    have := (sortI_p _).mem_iff.mp hx
    obtain ⟨m, _, rfl⟩ := List.mem_map.mp this
    simp
section
variable {cs : Cs} {f k l : Nat} {gs : Gs} {vs β β' : List Bool}
noncomputable def agrBody : FnS := (sSeq (sSet 5 (eCell (lBin gRep (eFrz (lTake (aCons (eD (.int 0)) aNil))) (eBin gIx (eVar 0) (eD (.int 0))))))
  (sSeq (sFor (VM.iEnum (aCons (eVar 3) aNil)) (tgTup 2 (tgCons (tgName 6) (tgCons (tgName 7) tgNil))) agrBits)
  (sSeq (sSet 8 (eFn 2 F_values_of (aCons (eVar 0) (aCons (eVar 5) aNil))))
  (sIf (eT (eBin gNe (eFn 2 F_number_of (aCons (eVar 8) (aCons (eVar 1) aNil))) (eFn 2 F_number_of (aCons (eVar 8) (aCons (eVar 2) aNil)))))
  (sRet (eD (.bool false)))
  sNext))))
theorem seq_nx {f g : FnS} {sl sl1 : Sl} {c c1 : Cs} (h : f sl c = .nx sl1 c1) : sSeq f g sl c = g sl1 c1 := by unfold sSeq; rw [h]
theorem sif_of {t : Fn Bool} {f g : FnS} {sl : Sl} {c c1 : Cs} {k : Bool} (h : t sl c = .ok k c1) : sIf t f g sl c = if k = true then f sl c1 else g sl c1 := by unfold sIf; rw [h, sE_ok]
theorem some_at {sl : Sl} {i : Nat} {b : B} (h : sl[i]? = some (some b)) : sl[i]? = some (some b) := h
theorem fn2 {sl : Sl} {c : Cs} {g : List B → Cs → ER B} {i j : Nat} {a b : B} {r : ER B} (h1 : sl[i]? = some (some a)) (h2 : sl[j]? = some (some b)) (h : g [a, b] c = r) : eFn 2 g (aCons (eVar i) (aCons (eVar j) aNil)) sl c = r := by
  simp only [ap_eFn, ap_aCons, ap_eVar, h1, h2, ER.bind_ok, ap_aNil, List.length_cons, List.length_nil, Nat.zero_add, Nat.reduceAdd, if_true, h]
theorem rep_row (f : Nat) : (List.replicate f [B.d (.int 0)]).flatten = rowB (List.replicate f false) := by
  induction f with
  | zero => rfl
  | succ f ih => rw [List.replicate_succ, List.flatten_cons, ih, List.replicate_succ]; rfl
theorem g_rep_l (N : NetOk f gs) : gRep (.d (.list [.int 0])) (.d (dN f)) cs = .ok (rowB (List.replicate f false)) cs := by
  have hF := N.hf
  have hS : sizeLine = 16777216 := sizeLine_eq
  unfold gRep
  simp only [bCell, List.map_cons, List.map_nil, Int.toNat_natCast]
  rw [if_pos ⟨by omega, by omega, by simp; omega⟩, rep_row]
theorem lt0 {sl : Sl} {c : Cs} : lTake (aCons (eD (.int 0)) aNil) sl c = .ok [.d (.int 0)] c := by
  rw [ap_lTake, ap_aCons, ap_eD, ER.bind_ok, ap_aNil, ER.bind_ok, ER.bind_ok, if_pos (show [B.d (PyData.int 0)].length ≤ sizeLine by rw [sizeLine_eq, List.length_cons]; simp)]
theorem lt1 {sl : Sl} {c : Cs} : eFrz (lTake (aCons (eD (.int 0)) aNil)) sl c = .ok (.d (.list [.int 0])) c := by
  rw [ap_eFrz, lt0, ER.bind_ok]
  rfl
theorem lt2 {sl : Sl} {c : Cs} (N : NetOk f gs) (h0 : sl[0]? = some (some (.d (dNet f gs)))) : lBin gRep (eFrz (lTake (aCons (eD (.int 0)) aNil))) (eBin gIx (eVar 0) (eD (.int 0))) sl c = .ok (rowB (List.replicate f false)) c := by
  rw [ap_lBin, lt1, ER.bind_ok, ap_eBin, ap_eVar, h0]
  simp only
  rw [ER.bind_ok, ap_eD, ER.bind_ok, net_ix0, ER.bind_ok, g_rep_l N]
theorem lt3 {sl : Sl} {c : Cs} (N : NetOk f gs) (h0 : sl[0]? = some (some (.d (dNet f gs)))) : sSet 5 (eCell (lBin gRep (eFrz (lTake (aCons (eD (.int 0)) aNil))) (eBin gIx (eVar 0) (eD (.int 0))))) sl c = .nx (sl.set 5 (some (.r c.length))) (c ++ [.lst (rowB (List.replicate f false))]) := by
  rw [ap_sSet, ap_eCell, lt2 N h0, ER.bind_ok, sE_ok]
theorem agr_turn {one other : List Nat} (N : NetOk f gs) (h1 : okW (f + 1) gs one) (h2 : okW (f + 1) gs other) (m : Nat) (ns : List Nat) (hr : ∀ x ∈ ns, 1 ≤ x ∧ x ≤ f) (x5 x6 x7 x8 : Option B) (u : Cs) :
    ∃ y5 y6 y7 y8 v, agrBody [some (.d (dNet f gs)), some (.d (dW one)), some (.d (dW other)), some (.d (.list (ns.map dN))), some (.d (dN m)), x5, x6, x7, x8] (cs ++ u) =
      (if numI (Wv (setsB m ns 0 (List.replicate f false)) gs one) = numI (Wv (setsB m ns 0 (List.replicate f false)) gs other) then
        .nx [some (.d (dNet f gs)), some (.d (dW one)), some (.d (dW other)), some (.d (.list (ns.map dN))), some (.d (dN m)), y5, y6, y7, y8] (cs ++ v) else .rt (.d (.bool false)) (cs ++ v)) := by
  have hz1 : (1 : Nat) ≤ sizeLine := by decide
  have bl : (List.replicate f false).length = f := List.length_replicate
  obtain ⟨y6, y7, e1⟩ := agr_bits (c := cs ++ u) (some (.d (dNet f gs))) (some (.d (dW one))) (some (.d (dW other))) x6 x7 x8 m ns hr (List.replicate f false) bl
  have sl := setsB_len m ns 0 (List.replicate f false)
  rw [bl] at sl
  generalize setsB m ns 0 (List.replicate f false) = β at e1 sl
  have a0 : ((cs ++ u) ++ [.lst (rowB β)] : Cs)[(cs ++ u).length]? = some (.lst (rowB β)) := by rw [List.getElem?_append_right (Nat.le_refl _), Nat.sub_self]; rfl
  have e2 := F_values (cs := (cs ++ u) ++ [.lst (rowB β)]) (bb := .r (cs ++ u).length) (β := β) (by rw [bSeq_r, bList_r a0]) N sl
  have a1 : (((cs ++ u) ++ [Cell.lst (rowB β)]) ++ [.lst (rowB (ev aB (v0 β) gs))] : Cs)[((cs ++ u) ++ [Cell.lst (rowB β)]).length]? = some (.lst (rowB (ev aB (v0 β) gs))) := by rw [List.getElem?_append_right (Nat.le_refl _), Nat.sub_self]; rfl
  have e3 := F_number (w := one) a1 (fun l hl => by have := h1.2.2 l hl; rw [ev_len, v0_len, sl]; omega) h1.2.1
  have e4 := F_number (w := other) a1 (fun l hl => by have := h2.2.2 l hl; rw [ev_len, v0_len, sl]; omega) h2.2.1
  refine ⟨some (.r (cs ++ u).length), y6, y7, some (.r ((cs ++ u) ++ [Cell.lst (rowB β)]).length), u ++ [Cell.lst (rowB β), Cell.lst (rowB (ev aB (v0 β) gs))], ?_⟩
  have b1 : sSet 5 (eCell (lBin gRep (eFrz (lTake (aCons (eD (.int 0)) aNil))) (eBin gIx (eVar 0) (eD (.int 0))))) [some (.d (dNet f gs)), some (.d (dW one)), some (.d (dW other)), some (.d (.list (ns.map dN))), some (.d (dN m)), x5, x6, x7, x8] (cs ++ u) =
      .nx [some (.d (dNet f gs)), some (.d (dW one)), some (.d (dW other)), some (.d (.list (ns.map dN))), some (.d (dN m)), some (.r (cs ++ u).length), x6, x7, x8] ((cs ++ u) ++ [.lst (rowB (List.replicate f false))]) := lt3 N rfl
  have b3 : sSet 8 (eFn 2 F_values_of (aCons (eVar 0) (aCons (eVar 5) aNil))) [some (.d (dNet f gs)), some (.d (dW one)), some (.d (dW other)), some (.d (.list (ns.map dN))), some (.d (dN m)), some (.r (cs ++ u).length), y6, y7, x8] ((cs ++ u) ++ [Cell.lst (rowB β)]) =
      .nx [some (.d (dNet f gs)), some (.d (dW one)), some (.d (dW other)), some (.d (.list (ns.map dN))), some (.d (dN m)), some (.r (cs ++ u).length), y6, y7, some (.r ((cs ++ u) ++ [Cell.lst (rowB β)]).length)] (((cs ++ u) ++ [Cell.lst (rowB β)]) ++ [.lst (rowB (ev aB (v0 β) gs))]) := by
    simp only [ap_sSet, ap_eFn, ap_aCons, ap_eVar, ap_aNil, List.getElem?_cons_zero, List.getElem?_cons_succ, ER.bind_ok, List.length_cons, List.length_nil, Nat.zero_add, Nat.reduceAdd, if_true, e2, sE_ok, List.set_cons_succ, List.set_cons_zero]
  have ap : ((cs ++ u) ++ [Cell.lst (rowB β)]) ++ [.lst (rowB (ev aB (v0 β) gs))] = cs ++ (u ++ [Cell.lst (rowB β), Cell.lst (rowB (ev aB (v0 β) gs))]) := by simp
  rw [ap] at e3 e4
  have t1 : eT (eBin gNe (eFn 2 F_number_of (aCons (eVar 8) (aCons (eVar 1) aNil))) (eFn 2 F_number_of (aCons (eVar 8) (aCons (eVar 2) aNil)))) [some (.d (dNet f gs)), some (.d (dW one)), some (.d (dW other)), some (.d (.list (ns.map dN))), some (.d (dN m)), some (.r (cs ++ u).length), y6, y7, some (.r ((cs ++ u) ++ [Cell.lst (rowB β)]).length)] (cs ++ (u ++ [Cell.lst (rowB β), Cell.lst (rowB (ev aB (v0 β) gs))])) =
      .ok (!decide (numI (one.map (lit aB (ev aB (v0 β) gs))) = numI (other.map (lit aB (ev aB (v0 β) gs))))) (cs ++ (u ++ [Cell.lst (rowB β), Cell.lst (rowB (ev aB (v0 β) gs))])) := by
    rw [ap_eT, ap_eBin, fn2 (some_at rfl) (some_at rfl) e3, ER.bind_ok, fn2 (some_at rfl) (some_at rfl) e4, ER.bind_ok, g_nei, ER.bind_ok, isB_b]
  rw [ap] at b3
  have e0 : agrBody = sSeq (sSet 5 (eCell (lBin gRep (eFrz (lTake (aCons (eD (.int 0)) aNil))) (eBin gIx (eVar 0) (eD (.int 0)))))) (sSeq (sFor (VM.iEnum (aCons (eVar 3) aNil)) (tgTup 2 (tgCons (tgName 6) (tgCons (tgName 7) tgNil))) agrBits) (sSeq (sSet 8 (eFn 2 F_values_of (aCons (eVar 0) (aCons (eVar 5) aNil)))) (sIf (eT (eBin gNe (eFn 2 F_number_of (aCons (eVar 8) (aCons (eVar 1) aNil))) (eFn 2 F_number_of (aCons (eVar 8) (aCons (eVar 2) aNil))))) (sRet (eD (.bool false))) sNext))) := rfl
  rw [e0, seq_nx b1, seq_nx e1, seq_nx b3, sif_of t1]
  by_cases h : numI (one.map (lit aB (ev aB (v0 β) gs))) = numI (other.map (lit aB (ev aB (v0 β) gs)))
  · rw [if_pos (show numI (Wv β gs one) = numI (Wv β gs other) from h), decide_eq_true h]
    rfl
  · rw [if_neg (show ¬ numI (Wv β gs one) = numI (Wv β gs other) from h), decide_eq_false h]
    rfl
end
end K42

/-! M19: agree, whole. -/
namespace K42
open PySem VM L2
open Classical
section
variable {cs : Cs} {f k l : Nat} {gs : Gs} {vs β β' : List Bool}
/-- all numbers' bits agree just when all bits agree -/
theorem agr_iff {one other ns : List Nat} (N : NetOk f gs) (h1 : okW (f + 1) gs one) (h2 : okW (f + 1) gs other) (hd : ns.Nodup) (hr : ∀ x ∈ ns, 1 ≤ x ∧ x ≤ f)
    (hs : ∀ l ∈ one ++ other, ∀ x ∈ sp (f + 1) gs (l / 2), 1 ≤ x → x ∈ ns) :
    (∀ m, m < 2 ^ ns.length → numI (Wv (setsB m ns 0 (List.replicate f false)) gs one) = numI (Wv (setsB m ns 0 (List.replicate f false)) gs other)) ↔ ∀ β : List Bool, β.length = f → numI (Wv β gs one) = numI (Wv β gs other) := by
  have bl : (List.replicate f false).length = f := List.length_replicate
  constructor
  · intro H β hβ
    obtain ⟨m, m1, m2⟩ := num_with (fun i => β.getD (ns.getD i 0 - 1) false) ns.length
    have key : ∀ l ∈ one ++ other, L aB (v0 β) gs l = L aB (v0 (setsB m ns 0 (List.replicate f false))) gs l := fun l hl => by
      refine cone_val N.ok (by rw [hβ]) (by rw [setsB_len, bl]) (l / 2 + 1) l (by omega) ?_ fun x hx h0 => ?_
      · rcases List.mem_append.mp hl with h | h
        · exact h1.2.2 l h
        · exact h2.2.2 l h
      · obtain ⟨j, hj⟩ := List.getElem?_of_mem (hs l hl x hx h0)
        have jl := (List.getElem?_eq_some_iff.mp hj).1
        rw [setsB_at m f ns 0 _ j x hd hr bl hj, Nat.zero_add, m2 j jl, List.getD_eq_getElem?_getD (l := ns), hj]
        rfl
    have w1 : Wv β gs one = Wv (setsB m ns 0 (List.replicate f false)) gs one := List.map_congr_left fun l hl => key l (List.mem_append_left _ hl)
    have w2 : Wv β gs other = Wv (setsB m ns 0 (List.replicate f false)) gs other := List.map_congr_left fun l hl => key l (List.mem_append_right _ hl)
    rw [w1, w2]
    exact H m m1
  · intro H m _
    exact H _ (by rw [setsB_len, bl])
/-- the nodes -/
theorem agr_nodes {one other : List Nat} (N : NetOk f gs) (h1 : okW (f + 1) gs one) (h2 : okW (f + 1) gs other) (x3 x4 x5 x6 x7 x8 : Option B) :
    ∃ ns : List Nat, ns.Nodup ∧ (∀ x ∈ ns, 1 ≤ x ∧ x ≤ f) ∧ (∀ l ∈ one ++ other, ∀ x ∈ sp (f + 1) gs (l / 2), 1 ≤ x → x ∈ ns) ∧
      eFrz (lComp (iSeq (eFn 2 F_cone_of (aCons (eVar 0) (aCons (eFrz (lTake (aStar (eVar 1) (aStar (eVar 2) aNil)))) aNil)))) (tgName 7) (eT (eChain gLe gLe (eD (.int 1)) (eVar 7) (eBin gIx (eVar 0) (eD (.int 0))))) (eVar 7) [7])
        [some (.d (dNet f gs)), some (.d (dW one)), some (.d (dW other)), x3, x4, x5, x6, x7, x8] cs = .ok (.d (.list (ns.map dN))) cs := by
  have hF := N.hf
  have hS : sizeLine = 16777216 := sizeLine_eq
  have l1 := h1.2.1
  have l2 := h2.2.1
  have wl : (one ++ other).length ≤ 16 := by rw [List.length_append]; omega
  obtain ⟨fd, c1, c2⟩ := F_coneof (cs := cs) (w := one ++ other) (wB := .d (.list ((one ++ other).map dN))) N (fun l hl => by
    rcases List.mem_append.mp hl with h | h
    · exact h1.2.2 l h
    · exact h2.2.2 l h) wl (.inr rfl)
  obtain ⟨ns, p1, p2⟩ := sort_nat fd
  rw [p2, List.map_map] at c1
  have nl : ns.length < sizeLine := by
    have hd : ns.Nodup := p1.nodup_iff.mpr c2.nd
    have hl : ∀ x ∈ ns.map (· + 1), 1 ≤ x ∧ x ≤ f + 1 + gs.length := fun x hx => by
      obtain ⟨y, hy, rfl⟩ := List.mem_map.mp hx
      have := c2.lt y (p1.mem_iff.mp hy)
      omega
    have := nodup_le _ _ (List.Pairwise.map (R := (· ≠ ·)) (S := (· ≠ ·)) (· + 1) (fun a b h => by simpa using h) hd) hl
    rw [List.length_map] at this
    have := N.hl
    omega
  refine ⟨ns.filter fun x => decide (1 ≤ x ∧ x ≤ f), (p1.nodup_iff.mpr c2.nd).filter _, fun x hx => by simpa using (List.mem_filter.mp hx).2, fun l hl x hx h0 => ?_, ?_⟩
  · obtain ⟨m, m1, m2, m3⟩ := (c2.mem x).mp ⟨l, hl, hx⟩
    rw [sp_low m2, List.mem_singleton] at m3
    subst m3
    exact List.mem_filter.mpr ⟨p1.mem_iff.mpr m1, by simp; omega⟩
  · have s1 : eFrz (lTake (aStar (eVar 1) (aStar (eVar 2) aNil))) [some (.d (dNet f gs)), some (.d (dW one)), some (.d (dW other)), x3, x4, x5, x6, x7, x8] cs = .ok (.d (.list ((one ++ other).map dN))) cs := by
      have t1 : aStar (eVar 1) (aStar (eVar 2) aNil) [some (.d (dNet f gs)), some (.d (dW one)), some (.d (dW other)), x3, x4, x5, x6, x7, x8] cs = .ok ((one ++ other).map fun l => .d (dN l)) cs := by
        rw [ap_aStar, show eVar 1 [some (.d (dNet f gs)), some (.d (dW one)), some (.d (dW other)), x3, x4, x5, x6, x7, x8] cs = .ok (.d (dW one)) cs from rfl, ER.bind_ok]
        simp only [bSeq_t]
        rw [ap_aStar, show eVar 2 [some (.d (dNet f gs)), some (.d (dW one)), some (.d (dW other)), x3, x4, x5, x6, x7, x8] cs = .ok (.d (dW other)) cs from rfl, ER.bind_ok]
        simp only [bSeq_t]
        rw [ap_aNil, ER.bind_ok, ER.bind_ok, List.append_nil, List.map_append, List.map_map, List.map_map]
        rfl
      rw [ap_eFrz, ap_lTake, t1, ER.bind_ok, if_pos (by rw [List.length_map]; omega), ER.bind_ok, allD_map]
    have i1 : iSeq (eFn 2 F_cone_of (aCons (eVar 0) (aCons (eFrz (lTake (aStar (eVar 1) (aStar (eVar 2) aNil)))) aNil))) [some (.d (dNet f gs)), some (.d (dW one)), some (.d (dW other)), x3, x4, x5, x6, x7, x8] cs = .ok (ns.map fun m : Nat => .d (dN m), fun _ => True) cs := by
      rw [i_seq_l _ (ns.map fun m : Nat => .int (m : Int)) cs ?_, List.map_map]
      · rfl
      · rw [ap_eFn, ap_aCons, show eVar 0 [some (.d (dNet f gs)), some (.d (dW one)), some (.d (dW other)), x3, x4, x5, x6, x7, x8] cs = .ok (.d (dNet f gs)) cs from rfl, ER.bind_ok, ap_aCons, s1, ER.bind_ok, ap_aNil, ER.bind_ok, ER.bind_ok, ER.bind_ok, if_pos (show ([_, _] : List B).length = 2 from rfl)]
        exact c1
    have lc := lc_filter (okc := fun _ => True) (tf := tgName 7) (tt := eT (eChain gLe gLe (eD (.int 1)) (eVar 7) (eBin gIx (eVar 0) (eD (.int 0))))) (te := eVar 7) (sl := [some (.d (dNet f gs)), some (.d (dW one)), some (.d (dW other)), x3, x4, x5, x6, none, x8]) (cs := cs) trivial (fun m : Nat => B.d (dN m)) (fun m : Nat => B.d (dN m)) (fun x => decide (1 ≤ x ∧ x ≤ f)) ns (fun m _ => by
      refine ⟨[some (.d (dNet f gs)), some (.d (dW one)), some (.d (dW other)), x3, x4, x5, x6, some (.d (dN m)), x8], rfl, ?_, fun _ => rfl⟩
      rw [ap_eT, ap_eChain, ap_eD, ER.bind_ok, show eVar 7 [some (.d (dNet f gs)), some (.d (dW one)), some (.d (dW other)), x3, x4, x5, x6, some (.d (dN m)), x8] cs = .ok (.d (dN m)) cs from rfl, ER.bind_ok, g_le, ER.bind_ok, onB_b]
      by_cases h : 1 ≤ m
      · rw [if_pos (decide_eq_true (by omega)), ap_eBin, show eVar 0 [some (.d (dNet f gs)), some (.d (dW one)), some (.d (dW other)), x3, x4, x5, x6, some (.d (dN m)), x8] cs = .ok (.d (dNet f gs)) cs from rfl, ER.bind_ok, ap_eD, ER.bind_ok, net_ix0, ER.bind_ok, g_le, ER.bind_ok, isB_b]
        congr 1
        apply decide_eq_decide.mpr
        omega
      · rw [if_neg (by simp; omega), ER.bind_ok, isB_b]
        congr 1
        exact (decide_eq_false (by omega)).symm)
    rw [ap_eFrz, ap_lComp i1 (by rw [List.length_map]; exact nl), show wipeS [some (.d (dNet f gs)), some (.d (dW one)), some (.d (dW other)), x3, x4, x5, x6, x7, x8] [7] = [some (.d (dNet f gs)), some (.d (dW one)), some (.d (dW other)), x3, x4, x5, x6, none, x8] from rfl, lc, ER.bind_ok, allD_map]
theorem agr_for {one other ns : List Nat} (N : NetOk f gs) (h1 : okW (f + 1) gs one) (h2 : okW (f + 1) gs other) (h12 : ns.length ≤ 12) (hr : ∀ x ∈ ns, 1 ≤ x ∧ x ≤ f) :
    ∃ v, retOf (sSeq (sFor (iRange1 (aCons (eBin gShl (eD (.int 1)) (eCall gLenU (aCons (eVar 3) aNil))) aNil)) (tgName 4) agrBody) (sRet (eD (.bool true))) [some (.d (dNet f gs)), some (.d (dW one)), some (.d (dW other)), some (.d (.list (ns.map dN))), none, none, none, none, none] cs) =
      .ok (.d (.bool (decide (∀ m, m < 2 ^ ns.length → numI (Wv (setsB m ns 0 (List.replicate f false)) gs one) = numI (Wv (setsB m ns 0 (List.replicate f false)) gs other))))) (cs ++ v) := by
  have pw : 2 ^ ns.length ≤ 4096 := Nat.pow_le_pow_right (by omega) h12
  have cp : CPow 1 ((ns.length : Nat) : Int) := by
    constructor <;> simp <;> omega
  have r1 : iRange1 (aCons (eBin gShl (eD (.int 1)) (eCall gLenU (aCons (eVar 3) aNil))) aNil) [some (.d (dNet f gs)), some (.d (dW one)), some (.d (dW other)), some (.d (.list (ns.map dN))), none, none, none, none, none] cs = .ok (rngI 0 1 (2 ^ ns.length), fun _ => True) cs := by
    refine ap_rng1 _ _ _ ?_ (by omega)
    have e1 : eCall gLenU (aCons (eVar 3) aNil) [some (.d (dNet f gs)), some (.d (dW one)), some (.d (dW other)), some (.d (.list (ns.map dN))), none, none, none, none, none] cs = .ok (.d (.int (ns.length : Nat))) cs := by
      show gLenU [.d (.list (ns.map dN))] cs = _
      rw [g_len_l, List.length_map]
    rw [ap_aCons, ap_eBin, ap_eD, ER.bind_ok, e1, ER.bind_ok, g_shl _ _ cp, ER.bind_ok, ap_aNil, ER.bind_ok, Int.toNat_natCast, Int.one_mul]
    congr 4
  have lo := loop_or (okc := fun _ => True) (tf := tgName 4) (body := agrBody)
    (fun i sl c => ∃ x4 x5 x6 x7 x8 v, sl = [some (.d (dNet f gs)), some (.d (dW one)), some (.d (dW other)), some (.d (.list (ns.map dN))), x4, x5, x6, x7, x8] ∧ c = cs ++ v ∧ ∀ m, m < i → numI (Wv (setsB m ns 0 (List.replicate f false)) gs one) = numI (Wv (setsB m ns 0 (List.replicate f false)) gs other))
    (fun r => ∃ v, r = .rt (.d (.bool false)) (cs ++ v) ∧ ∃ m, m < 2 ^ ns.length ∧ ¬ numI (Wv (setsB m ns 0 (List.replicate f false)) gs one) = numI (Wv (setsB m ns 0 (List.replicate f false)) gs other))
    (rngI 0 1 (2 ^ ns.length)) 0 [some (.d (dNet f gs)), some (.d (dW one)), some (.d (dW other)), some (.d (.list (ns.map dN))), none, none, none, none, none] cs ⟨none, none, none, none, none, [], rfl, by rw [List.append_nil], fun m h => by omega⟩ (fun _ _ _ => trivial)
    (fun i b sl c hb ⟨x4, x5, x6, x7, x8, v, e1, e2, e3⟩ => by
      rw [Nat.zero_add] at e3 ⊢
      subst e1 e2
      rw [rng_at, List.getElem?_map] at hb
      obtain ⟨m, hm, rfl⟩ := Option.map_eq_some_iff.mp hb
      have il := (List.getElem?_eq_some_iff.mp hm).1
      rw [List.length_range] at il
      rw [List.getElem?_range il] at hm
      obtain rfl : i = m := by simpa using hm
      refine ⟨trivial, [some (.d (dNet f gs)), some (.d (dW one)), some (.d (dW other)), some (.d (.list (ns.map dN))), some (.d (dN i)), x5, x6, x7, x8], rfl, ?_⟩
      obtain ⟨y5, y6, y7, y8, u, eb⟩ := agr_turn (cs := cs) N h1 h2 i ns hr x5 x6 x7 x8 v
      by_cases h : numI (Wv (setsB i ns 0 (List.replicate f false)) gs one) = numI (Wv (setsB i ns 0 (List.replicate f false)) gs other)
      · rw [if_pos h] at eb
        refine .inl ⟨_, _, .inl eb, _, y5, y6, y7, y8, u, rfl, rfl, fun m hm => ?_⟩
        rcases Nat.lt_succ_iff_lt_or_eq.mp hm with h' | h'
        · exact e3 m h'
        · rw [h']; exact h
      · rw [if_neg h] at eb
        exact .inr (.inl ⟨_, _, eb, u, rfl, i, il, h⟩))
  have f1 : sFor (iRange1 (aCons (eBin gShl (eD (.int 1)) (eCall gLenU (aCons (eVar 3) aNil))) aNil)) (tgName 4) agrBody [some (.d (dNet f gs)), some (.d (dW one)), some (.d (dW other)), some (.d (.list (ns.map dN))), none, none, none, none, none] cs = sLoop (fun _ => True) (tgName 4) agrBody (rngI 0 1 (2 ^ ns.length)) [some (.d (dNet f gs)), some (.d (dW one)), some (.d (dW other)), some (.d (.list (ns.map dN))), none, none, none, none, none] cs := by
    rw [ap_sFor, r1, sE_ok]
  rcases lo with ⟨sl', cs', e1, x4, x5, x6, x7, x8, v, rfl, rfl, h⟩ | ⟨v, e1, h⟩
  · rw [rngI_len, Nat.zero_add] at h
    rw [← f1] at e1
    refine ⟨v, ?_⟩
    rw [decide_eq_true h, seq_nx e1]
    rfl
  · rw [← f1] at e1
    refine ⟨v, ?_⟩
    obtain ⟨m, hm, hx⟩ := h
    rw [decide_eq_false (fun H => hx (H m hm)), ap_sSeq, e1]
    rfl
theorem F_agr {one other : List Nat} (N : NetOk f gs) (hf : f ≤ 12) (h1 : okW (f + 1) gs one) (h2 : okW (f + 1) gs other) (hl : one.length = other.length) :
    F_agree [.d (dNet f gs), .d (dW one), .d (dW other)] cs = .ok (.d (.bool (decide (∀ β : List Bool, β.length = f → numI (Wv β gs one) = numI (Wv β gs other))))) cs := by
  obtain ⟨ns, n1, n2, n3, n4⟩ := agr_nodes (cs := cs) N h1 h2 none none none none none none
  have nl : ns.length ≤ 12 := Nat.le_trans (nodup_le f ns n1 n2) hf
  obtain ⟨v, e⟩ := agr_for (cs := cs) N h1 h2 nl n2
  have c1 : F_check_words [.d (dNet f gs), .d (.list ([one, other].map dW))] cs = .ok (.d .none) cs := F_chkwords (ws := [one, other]) N (fun x hx => by
    rcases List.mem_cons.mp hx with h | h
    · rw [h]; exact h1
    · rw [List.mem_singleton.mp h]; exact h2) (by simp) (by simp) one.length (fun x hx => by
    rcases List.mem_cons.mp hx with h | h
    · rw [h]
    · rw [List.mem_singleton.mp h, hl])
  have e0 : F_agree = mDef 9 (sSeq (sExpr (eFn 2 F_check_words (aCons (eVar 0) (aCons (eFrz (lTake (aCons (eVar 1) (aCons (eVar 2) aNil)))) aNil))))
    (sSeq (sSet 3 (eFrz (lComp (iSeq (eFn 2 F_cone_of (aCons (eVar 0) (aCons (eFrz (lTake (aStar (eVar 1) (aStar (eVar 2) aNil)))) aNil)))) (tgName 7) (eT (eChain gLe gLe (eD (.int 1)) (eVar 7) (eBin gIx (eVar 0) (eD (.int 0))))) (eVar 7) [7])))
    (sSeq (sIf (eT (eBin gGt (eCall gLenU (aCons (eVar 3) aNil)) (eB b_MOST_LOOKED))) sNever sNext)
    (sSeq (sFor (iRange1 (aCons (eBin gShl (eD (.int 1)) (eCall gLenU (aCons (eVar 3) aNil))) aNil)) (tgName 4) agrBody) (sRet (eD (.bool true))))))) gcR := rfl
  have s1 : sExpr (eFn 2 F_check_words (aCons (eVar 0) (aCons (eFrz (lTake (aCons (eVar 1) (aCons (eVar 2) aNil)))) aNil))) [some (.d (dNet f gs)), some (.d (dW one)), some (.d (dW other)), none, none, none, none, none, none] cs = .nx [some (.d (dNet f gs)), some (.d (dW one)), some (.d (dW other)), none, none, none, none, none, none] cs := by
    have t0 : lTake (aCons (eVar 1) (aCons (eVar 2) aNil)) [some (.d (dNet f gs)), some (.d (dW one)), some (.d (dW other)), none, none, none, none, none, none] cs = .ok [.d (dW one), .d (dW other)] cs := by
      rw [ap_lTake, show aCons (eVar 1) (aCons (eVar 2) aNil) [some (.d (dNet f gs)), some (.d (dW one)), some (.d (dW other)), none, none, none, none, none, none] cs = .ok [.d (dW one), .d (dW other)] cs from rfl, ER.bind_ok, if_pos (show [B.d (dW one), B.d (dW other)].length ≤ sizeLine by rw [sizeLine_eq, List.length_cons, List.length_cons]; simp)]
    have t1 : eFrz (lTake (aCons (eVar 1) (aCons (eVar 2) aNil))) [some (.d (dNet f gs)), some (.d (dW one)), some (.d (dW other)), none, none, none, none, none, none] cs = .ok (.d (.list ([one, other].map dW))) cs := by
      rw [ap_eFrz, t0, ER.bind_ok]
      rfl
    rw [ap_sExpr, ap_eFn, ap_aCons, show eVar 0 [some (.d (dNet f gs)), some (.d (dW one)), some (.d (dW other)), none, none, none, none, none, none] cs = .ok (.d (dNet f gs)) cs from rfl, ER.bind_ok, ap_aCons, t1, ER.bind_ok, ap_aNil, ER.bind_ok, ER.bind_ok, ER.bind_ok, if_pos (show ([_, _] : List B).length = 2 from rfl), c1, sE_ok]
  have s2 : sSet 3 (eFrz (lComp (iSeq (eFn 2 F_cone_of (aCons (eVar 0) (aCons (eFrz (lTake (aStar (eVar 1) (aStar (eVar 2) aNil)))) aNil)))) (tgName 7) (eT (eChain gLe gLe (eD (.int 1)) (eVar 7) (eBin gIx (eVar 0) (eD (.int 0))))) (eVar 7) [7])) [some (.d (dNet f gs)), some (.d (dW one)), some (.d (dW other)), none, none, none, none, none, none] cs = .nx [some (.d (dNet f gs)), some (.d (dW one)), some (.d (dW other)), some (.d (.list (ns.map dN))), none, none, none, none, none] cs := by
    rw [ap_sSet, n4, sE_ok]
    rfl
  have t3 : eT (eBin gGt (eCall gLenU (aCons (eVar 3) aNil)) (eB b_MOST_LOOKED)) [some (.d (dNet f gs)), some (.d (dW one)), some (.d (dW other)), some (.d (.list (ns.map dN))), none, none, none, none, none] cs = .ok false cs := by
    have e1 : eCall gLenU (aCons (eVar 3) aNil) [some (.d (dNet f gs)), some (.d (dW one)), some (.d (dW other)), some (.d (.list (ns.map dN))), none, none, none, none, none] cs = .ok (.d (.int (ns.length : Nat))) cs := by
      show gLenU [.d (.list (ns.map dN))] cs = _
      rw [g_len_l, List.length_map]
    rw [ap_eT, ap_eBin, e1, ER.bind_ok, ap_eB, ER.bind_ok, show b_MOST_LOOKED = .d (.int 12) from rfl, g_gt, ER.bind_ok, isB_b, decide_eq_false (by omega)]
  have s3 : sIf (eT (eBin gGt (eCall gLenU (aCons (eVar 3) aNil)) (eB b_MOST_LOOKED))) sNever sNext [some (.d (dNet f gs)), some (.d (dW one)), some (.d (dW other)), some (.d (.list (ns.map dN))), none, none, none, none, none] cs = .nx [some (.d (dNet f gs)), some (.d (dW one)), some (.d (dW other)), some (.d (.list (ns.map dN))), none, none, none, none, none] cs := by
    rw [sif_of t3]
    rfl
  have ei : ([.d (dNet f gs), .d (dW one), .d (dW other)] : List B).map some ++ List.replicate (9 - ([.d (dNet f gs), .d (dW one), .d (dW other)] : List B).length) none = [some (.d (dNet f gs)), some (.d (dW one)), some (.d (dW other)), none, none, none, none, none, none] := rfl
  rw [e0, ap_mDef, ei, seq_nx s1, seq_nx s2, seq_nx s3, e, gcR_app]
  congr 3
  apply decide_eq_decide.mpr
  exact agr_iff N h1 h2 n1 n2 n3
end
end K42

/-! M20: combined, by its numbers. -/
namespace K42
open PySem VM L2
open Classical
inductive Kd where
  | add | sub | mul | and | or | xor | same | less | least
def Kd.s : Kd → Str
  | .add => "add" | .sub => "sub" | .mul => "mul" | .and => "and" | .or => "or" | .xor => "xor" | .same => "same" | .less => "less" | .least => "least"
def Kd.w : Kd → Nat
  | .same => 1 | .less => 1 | .least => 1 | _ => 2
/-- what two numbers below 4 give -/
def opN : Kd → Int → Int → Int
  | .add, a, b => (a + b) % 4
  | .sub, a, b => (a - b) % 4
  | .mul, a, b => (a * b) % 4
  | .and, a, b => min (a % 2) (b % 2) + min (a / 2 % 2) (b / 2 % 2) * 2
  | .or, a, b => max (a % 2) (b % 2) + max (a / 2 % 2) (b / 2 % 2) * 2
  | .xor, a, b => (if a % 2 = b % 2 then 0 else 1) + (if a / 2 % 2 = b / 2 % 2 then 0 else 1) * 2
  | .same, a, b => if a = b then 1 else 0
  | .less, a, b => if a < b then 1 else 0
  | .least, a, b => if a ≤ b then 1 else 0
/-- .. and by bits -/
def opF : Kd → (List Bool → Bool) → (List Bool → Bool) → (List Bool → Bool) → (List Bool → Bool) → List (List Bool → Bool)
  | .add, F0, F1, G0, G1 => [fun β => F0 β ^^ G0 β, fun β => (F1 β ^^ G1 β) ^^ (F0 β && G0 β)]
  | .sub, F0, F1, G0, G1 => [fun β => F0 β ^^ G0 β, fun β => (F1 β ^^ !G1 β) ^^ (F0 β || !G0 β)]
  | .mul, F0, F1, G0, G1 => [fun β => G0 β && F0 β, fun β => (G0 β && F1 β) ^^ (G1 β && F0 β)]
  | .and, F0, F1, G0, G1 => [fun β => F0 β && G0 β, fun β => F1 β && G1 β]
  | .or, F0, F1, G0, G1 => [fun β => F0 β || G0 β, fun β => F1 β || G1 β]
  | .xor, F0, F1, G0, G1 => [fun β => F0 β ^^ G0 β, fun β => F1 β ^^ G1 β]
  | .same, F0, F1, G0, G1 => [fun β => (!(F0 β ^^ G0 β)) && (!(F1 β ^^ G1 β))]
  | .less, F0, F1, G0, G1 => [fun β => if F1 β ^^ G1 β then G1 β else if F0 β ^^ G0 β then G0 β else false]
  | .least, F0, F1, G0, G1 => [fun β => !(if G1 β ^^ F1 β then F1 β else if G0 β ^^ F0 β then F0 β else false)]
theorem opF_len (K : Kd) (F0 F1 G0 G1 : List Bool → Bool) : (opF K F0 F1 G0 G1).length = K.w := by cases K <;> rfl
theorem opF_num (K : Kd) (F0 F1 G0 G1 : List Bool → Bool) (β : List Bool) : numI ((opF K F0 F1 G0 G1).map fun F => F β) = opN K (numI [F0 β, F1 β]) (numI [G0 β, G1 β]) := by
  cases K <;> simp only [opF, List.map_cons, List.map_nil] <;> generalize F0 β = p <;> generalize F1 β = q <;> generalize G0 β = r <;> generalize G1 β = s <;> cases p <;> cases q <;> cases r <;> cases s <;> rfl
theorem Kd.mem (K : Kd) : (KS.any fun y => y == K.s) = true := by cases K <;> decide
section
variable {cs : Cs} {f k l : Nat} {gs gs' : Gs} {S : Nat → Prop}
theorem dn_self {n l : Nat} (h : l < 2 * (n + gs.length)) (hs : ∀ k ∈ L aS (s0 n) gs l, k = 0 ∨ S k) : Dn n S gs l fun β => L aB (v0 β) gs l := ⟨h, fun _ _ => rfl, hs⟩
theorem two {x : List Nat} (h : x.length = 2) : ∃ a b, x = [a, b] := by
  match x, h with
  | [a, b], _ => exact ⟨a, b, rfl⟩
theorem one1 {x : List Nat} (h : x.length = 1) : ∃ a, x = [a] := by
  match x, h with
  | [a], _ => exact ⟨a, rfl⟩
theorem okW.up {n m : Nat} {x : List Nat} (h : okW n gs x) (e : Ex gs gs' m) : okW n gs' x := by
  obtain ⟨t, rfl, _⟩ := e
  exact ⟨h.1, h.2.1, fun l hl => by have := h.2.2 l hl; rw [List.length_append]; omega⟩
theorem Wv_up {m : Nat} {x : List Nat} {β : List Bool} (hβ : β.length = f) (h : okW (f + 1) gs x) (e : Ex gs gs' m) : Wv β gs' x = Wv β gs x := by
  obtain ⟨t, rfl, _⟩ := e
  exact List.map_congr_left fun l hl => L_ext aB (v0 β) gs t l (by have := h.2.2 l hl; rw [v0_len, hβ]; exact this)
theorem NetOk.of {m : Nat} (N : NetOk f gs) (e : Ex gs gs' m) (ok : Ok (f + 1) gs') (h : gs.length + m ≤ 19000) : NetOk f gs' := ⟨N.hf, by have := e.len; omega, ok⟩
/-- what a combination gives -/
structure Cmb (V : List Bool → Int) (T : Nat → Prop) (f m : Nat) (gs gs' : Gs) (w : List Nat) : Prop where
  ex : Ex gs gs' 40
  net : NetOk f gs'
  wl : w.length = m
  wo : okW (f + 1) gs' w
  num : ∀ β : List Bool, β.length = f → numI (Wv β gs' w) = V β
  sup : ∀ l ∈ w, ∀ k ∈ L aS (s0 (f + 1)) gs' l, k = 0 ∨ T k
theorem cw_cmb {r : ER B} {Fs : List (List Bool → Bool)} {T : Nat → Prop} (N : NetOk f gs) (h40 : gs.length + 40 ≤ 19000) (hf : 1 ≤ Fs.length ∧ Fs.length ≤ 8) (h : Cw cs f T gs r Fs) :
    ∃ gs' w, r = .ok (.d (.tuple [dNet f gs', dW w])) cs ∧ Cmb (fun β => numI (Fs.map fun F => F β)) T f Fs.length gs gs' w := by
  obtain ⟨gs', w, e, x, ok, wl, d⟩ := h.ex
  have hd : ∀ l ∈ w, ∃ F, Dn (f + 1) T gs' l F := fun l hl => by
    obtain ⟨i, hi⟩ := List.getElem?_of_mem hl
    have il := (List.getElem?_eq_some_iff.mp hi).1
    exact ⟨_, d i l Fs[i] hi (List.getElem?_eq_getElem (by omega))⟩
  refine ⟨gs', w, e, x, N.of x ok h40, wl, ⟨by omega, by omega, fun l hl => ?_⟩, fun β hβ => ?_, fun l hl => ?_⟩
  · obtain ⟨F, h⟩ := hd l hl
    exact h.lt
  · congr 1
    apply List.ext_getElem?
    intro i
    unfold Wv
    rw [List.getElem?_map, List.getElem?_map]
    by_cases hi : i < w.length
    · rw [List.getElem?_eq_getElem hi, List.getElem?_eq_getElem (by omega : i < Fs.length)]
      have := (d i w[i] Fs[i] (List.getElem?_eq_getElem hi) (List.getElem?_eq_getElem (by omega))).val β (by omega)
      simp only [Option.map_some, this]
    · rw [List.getElem?_eq_none (by omega), List.getElem?_eq_none (by omega)]
      rfl
  · obtain ⟨F, h⟩ := hd l hl
    exact h.sup
theorem comb2 (K : Kd) (N : NetOk f gs) (h40 : gs.length + 40 ≤ 19000) {x y : List Nat} (hx : okW (f + 1) gs x) (hx2 : x.length = 2) (hy : okW (f + 1) gs y) (hy2 : y.length = 2) :
    ∃ gs' w, F_combined [.d (dNet f gs), .d (.str K.s), .d (dW x), .d (dW y)] cs = .ok (.d (.tuple [dNet f gs', dW w])) cs ∧
      Cmb (fun β => opN K (numI (Wv β gs x)) (numI (Wv β gs y))) (fun k => ∃ l ∈ x ++ y, k ∈ L aS (s0 (f + 1)) gs l) f K.w gs gs' w := by
  obtain ⟨a0, a1, rfl⟩ := two hx2
  obtain ⟨b0, b1, rfl⟩ := two hy2
  have dd : ∀ l ∈ [a0, a1] ++ [b0, b1], Dn (f + 1) (fun k => ∃ l ∈ [a0, a1] ++ [b0, b1], k ∈ L aS (s0 (f + 1)) gs l) gs l fun β => L aB (v0 β) gs l := fun l hl => dn_self (by
    rcases List.mem_append.mp hl with h | h
    · exact hx.2.2 l h
    · exact hy.2.2 l h) fun k hk => .inr ⟨l, hl, hk⟩
  have da0 := dd a0 (by simp)
  have da1 := dd a1 (by simp)
  have db0 := dd b0 (by simp)
  have db1 := dd b1 (by simp)
  have h2 : gs.length + 40 ≤ 20000 := by omega
  have g : Gw cs [] f (fun k => ∃ l ∈ [a0, a1] ++ [b0, b1], k ∈ L aS (s0 (f + 1)) gs l) gs 40 (F_Build_combine [.r cs.length, .d (.str K.s), .d (dW [a0, a1]), .d (dW [b0, b1])] (ST cs f gs []))
      (opF K (fun β => L aB (v0 β) gs a0) (fun β => L aB (v0 β) gs a1) (fun β => L aB (v0 β) gs b0) (fun β => L aB (v0 β) gs b1)) := by
    cases K with
    | add => exact K_add N.ok da0 da1 db0 db1 h2
    | sub => exact K_sub N.ok da0 da1 db0 db1 h2
    | mul => exact K_mul N.ok da0 da1 db0 db1 h2
    | and => exact K_lg2 mt_and so_and (by decide) rfl N.ok da0 da1 db0 db1 h2
    | or => exact K_lg2 mt_or so_or (by decide) rfl N.ok da0 da1 db0 db1 h2
    | xor => exact K_lg2 mt_xor so_xor (by decide) rfl N.ok da0 da1 db0 db1 h2
    | same => exact K_same N.ok da0 da1 db0 db1 h2
    | less => exact K_less N.ok da0 da1 db0 db1 h2
    | least => exact K_least N.ok da0 da1 db0 db1 h2
  obtain ⟨gs', w, e, c⟩ := cw_cmb N h40 (by rw [opF_len]; cases K <;> decide) (F_comb N K.mem hx hy rfl g)
  rw [opF_len] at c
  exact ⟨gs', w, e, c.ex, c.net, c.wl, c.wo, fun β hβ => by rw [c.num β hβ, opF_num]; rfl, c.sup⟩
/-- and, at width one -/
theorem comb1 (N : NetOk f gs) (h40 : gs.length + 40 ≤ 19000) {x y : List Nat} (hx : okW (f + 1) gs x) (hx1 : x.length = 1) (hy : okW (f + 1) gs y) (hy1 : y.length = 1) :
    ∃ gs' w, F_combined [.d (dNet f gs), .d (.str "and"), .d (dW x), .d (dW y)] cs = .ok (.d (.tuple [dNet f gs', dW w])) cs ∧
      Cmb (fun β => min (numI (Wv β gs x)) (numI (Wv β gs y))) (fun _ => True) f 1 gs gs' w := by
  obtain ⟨a0, rfl⟩ := one1 hx1
  obtain ⟨b0, rfl⟩ := one1 hy1
  have g : Gw cs [] f (fun _ => True) gs 40 (F_Build_combine [.r cs.length, .d (.str "and"), .d (dW [a0]), .d (dW [b0])] (ST cs f gs [])) [fun β => L aB (v0 β) gs a0 && L aB (v0 β) gs b0] :=
    K_lg1 mt_and so_and (by decide) rfl N.ok (dn_self (hx.2.2 a0 (by simp)) fun _ _ => .inr trivial) (dn_self (hy.2.2 b0 (by simp)) fun _ _ => .inr trivial) (by omega)
  obtain ⟨gs', w, e, c⟩ := cw_cmb N h40 ⟨Nat.le_refl _, by simp⟩ (F_comb N (kind := "and") (by decide) hx hy rfl g)
  refine ⟨gs', w, e, c.ex, c.net, c.wl, c.wo, fun β hβ => ?_, c.sup⟩
  rw [c.num β hβ]
  show numI [L aB (v0 β) gs a0 && L aB (v0 β) gs b0] = min (numI [L aB (v0 β) gs a0]) (numI [L aB (v0 β) gs b0])
  cases L aB (v0 β) gs a0 <;> cases L aB (v0 β) gs b0 <;> rfl
/-- a pick -/
theorem pick2 (N : NetOk f gs) (h40 : gs.length + 40 ≤ 19000) {c : Nat} {x y : List Nat} (hc : c < 2 * (f + 1 + gs.length)) (hx : okW (f + 1) gs x) (hx2 : x.length = 2) (hy : okW (f + 1) gs y) (hy2 : y.length = 2) :
    ∃ gs' w, F_picked [.d (dNet f gs), .d (dN c), .d (dW x), .d (dW y)] cs = .ok (.d (.tuple [dNet f gs', dW w])) cs ∧
      Cmb (fun β => if L aB (v0 β) gs c = true then numI (Wv β gs x) else numI (Wv β gs y)) (fun _ => True) f 2 gs gs' w := by
  obtain ⟨a0, a1, rfl⟩ := two hx2
  obtain ⟨b0, b1, rfl⟩ := two hy2
  have dd : ∀ l, l < 2 * (f + 1 + gs.length) → Dn (f + 1) (fun _ => True) gs l fun β => L aB (v0 β) gs l := fun l hl => dn_self hl fun _ _ => .inr trivial
  have g := M_pick (c0 := cs) (t := []) N.ok (dd c hc) (dd a0 (hx.2.2 a0 (by simp))) (dd a1 (hx.2.2 a1 (by simp))) (dd b0 (hy.2.2 b0 (by simp))) (dd b1 (hy.2.2 b1 (by simp))) (by omega)
  obtain ⟨gs', w, e, q⟩ := cw_cmb N h40 ⟨by simp, by simp⟩ (F_picks N hc hx hy rfl g)
  refine ⟨gs', w, e, q.ex, q.net, q.wl, q.wo, fun β hβ => ?_, q.sup⟩
  rw [q.num β hβ]
  show numI [if L aB (v0 β) gs c = true then L aB (v0 β) gs a0 else L aB (v0 β) gs b0, if L aB (v0 β) gs c = true then L aB (v0 β) gs a1 else L aB (v0 β) gs b1] = if L aB (v0 β) gs c = true then numI [L aB (v0 β) gs a0, L aB (v0 β) gs a1] else numI [L aB (v0 β) gs b0, L aB (v0 β) gs b1]
  split <;> rfl
end
end K42

/-! M21: what is known of words; statements that combine. -/
namespace VM
open PySem L2
section
variable {sl sl1 : Sl} {cs cs1 : Cs}
theorem fn_1 {g : List B → Cs → ER B} {f1 : Fn B} {b1 : B} {r : ER B} (h1 : f1 sl cs = .ok b1 cs) (h : g [b1] cs = r) : eFn 1 g (aCons f1 aNil) sl cs = r := by
  rw [ap_eFn, ap_aCons, h1, ER.bind_ok, ap_aNil, ER.bind_ok, ER.bind_ok, if_pos (show ([b1] : List B).length = 1 from rfl), h]
theorem fn_2 {g : List B → Cs → ER B} {f1 f2 : Fn B} {b1 b2 : B} {r : ER B} (h1 : f1 sl cs = .ok b1 cs) (h2 : f2 sl cs = .ok b2 cs) (h : g [b1, b2] cs = r) : eFn 2 g (aCons f1 (aCons f2 aNil)) sl cs = r := by
  rw [ap_eFn, ap_aCons, h1, ER.bind_ok, ap_aCons, h2, ER.bind_ok, ap_aNil, ER.bind_ok, ER.bind_ok, ER.bind_ok, if_pos (show ([b1, b2] : List B).length = 2 from rfl), h]
theorem fn_3 {g : List B → Cs → ER B} {f1 f2 f3 : Fn B} {b1 b2 b3 : B} {r : ER B} (h1 : f1 sl cs = .ok b1 cs) (h2 : f2 sl cs = .ok b2 cs) (h3 : f3 sl cs = .ok b3 cs) (h : g [b1, b2, b3] cs = r) : eFn 3 g (aCons f1 (aCons f2 (aCons f3 aNil))) sl cs = r := by
  rw [ap_eFn, ap_aCons, h1, ER.bind_ok, ap_aCons, h2, ER.bind_ok, ap_aCons, h3, ER.bind_ok, ap_aNil, ER.bind_ok, ER.bind_ok, ER.bind_ok, ER.bind_ok, if_pos (show ([b1, b2, b3] : List B).length = 3 from rfl), h]
theorem fn_4 {g : List B → Cs → ER B} {f1 f2 f3 f4 : Fn B} {b1 b2 b3 b4 : B} {r : ER B} (h1 : f1 sl cs = .ok b1 cs) (h2 : f2 sl cs = .ok b2 cs) (h3 : f3 sl cs = .ok b3 cs) (h4 : f4 sl cs = .ok b4 cs) (h : g [b1, b2, b3, b4] cs = r) : eFn 4 g (aCons f1 (aCons f2 (aCons f3 (aCons f4 aNil)))) sl cs = r := by
  rw [ap_eFn, ap_aCons, h1, ER.bind_ok, ap_aCons, h2, ER.bind_ok, ap_aCons, h3, ER.bind_ok, ap_aCons, h4, ER.bind_ok, ap_aNil, ER.bind_ok, ER.bind_ok, ER.bind_ok, ER.bind_ok, ER.bind_ok, if_pos (show ([b1, b2, b3, b4] : List B).length = 4 from rfl), h]
theorem fn_5 {g : List B → Cs → ER B} {f1 f2 f3 f4 f5 : Fn B} {b1 b2 b3 b4 b5 : B} {r : ER B} (h1 : f1 sl cs = .ok b1 cs) (h2 : f2 sl cs = .ok b2 cs) (h3 : f3 sl cs = .ok b3 cs) (h4 : f4 sl cs = .ok b4 cs) (h5 : f5 sl cs = .ok b5 cs) (h : g [b1, b2, b3, b4, b5] cs = r) : eFn 5 g (aCons f1 (aCons f2 (aCons f3 (aCons f4 (aCons f5 aNil))))) sl cs = r := by
  rw [ap_eFn, ap_aCons, h1, ER.bind_ok, ap_aCons, h2, ER.bind_ok, ap_aCons, h3, ER.bind_ok, ap_aCons, h4, ER.bind_ok, ap_aCons, h5, ER.bind_ok, ap_aNil, ER.bind_ok, ER.bind_ok, ER.bind_ok, ER.bind_ok, ER.bind_ok, ER.bind_ok, if_pos (show ([b1, b2, b3, b4, b5] : List B).length = 5 from rfl), h]
/-- statements, one by one -/
theorem p_asg2 {P : SR → Prop} {i j : Nat} {f : Fn B} {r : FnS} {a b : D} (h : f sl cs = .ok (.d (.tuple [a, b])) cs1) (e : (sl.set i (some (.d a))).set j (some (.d b)) = sl1) (k : P (r sl1 cs1)) : P (sSeq (sAsg (tgTup 2 (tgCons (tgName i) (tgCons (tgName j) tgNil))) f) r sl cs) := by
  have : sAsg (tgTup 2 (tgCons (tgName i) (tgCons (tgName j) tgNil))) f sl cs = .nx sl1 cs1 := by
    rw [ap_sAsg, h, sE_ok, ← e]
    rfl
  rw [ap_sSeq, this]
  exact k
theorem p_asg3 {P : SR → Prop} {i j k : Nat} {f : Fn B} {r : FnS} {a b c : D} {t : D} (h : f sl cs = .ok (.d t) cs1) (ht : t = .tuple [a, b, c] ∨ t = .list [a, b, c]) (e : ((sl.set i (some (.d a))).set j (some (.d b))).set k (some (.d c)) = sl1) (q : P (r sl1 cs1)) : P (sSeq (sAsg (tgTup 3 (tgCons (tgName i) (tgCons (tgName j) (tgCons (tgName k) tgNil)))) f) r sl cs) := by
  have : sAsg (tgTup 3 (tgCons (tgName i) (tgCons (tgName j) (tgCons (tgName k) tgNil)))) f sl cs = .nx sl1 cs1 := by
    rw [ap_sAsg, h, sE_ok, ← e]
    rcases ht with rfl | rfl <;> rfl
  rw [ap_sSeq, this]
  exact q
theorem p_set {P : SR → Prop} {i : Nat} {f : Fn B} {r : FnS} {b : B} (h : f sl cs = .ok b cs1) (e : sl.set i (some b) = sl1) (k : P (r sl1 cs1)) : P (sSeq (sSet i f) r sl cs) := by
  rw [ap_sSeq, ap_sSet, h, sE_ok, e]
  exact k
theorem p_set1 {P : SR → Prop} {i : Nat} {f : Fn B} {b : B} (h : f sl cs = .ok b cs1) (k : P (.nx (sl.set i (some b)) cs1)) : P (sSet i f sl cs) := by
  rw [ap_sSet, h, sE_ok]
  exact k
theorem p_expr {P : SR → Prop} {f : Fn B} {r : FnS} {b : B} (h : f sl cs = .ok b cs1) (k : P (r sl cs1)) : P (sSeq (sExpr f) r sl cs) := by
  rw [ap_sSeq, ap_sExpr, h, sE_ok]
  exact k
/-- an if that is passed by -/
theorem p_if0 {P : SR → Prop} {t : Fn Bool} {f r : FnS} (h : t sl cs = .ok false cs1) (k : P (r sl cs1)) : P (sSeq (sIf t f sNext) r sl cs) := by
  rw [ap_sSeq, ap_sIf, h, sE_ok, if_neg Bool.false_ne_true, ap_sNext]
  exact k
theorem p_if1 {P : SR → Prop} {t : Fn Bool} {f : FnS} (h : t sl cs = .ok false cs1) (k : P (.nx sl cs1)) : P (sIf t f sNext sl cs) := by
  rw [ap_sIf, h, sE_ok, if_neg Bool.false_ne_true, ap_sNext]
  exact k
theorem p_ret {P : SR → Prop} {f : Fn B} {b : B} (h : f sl cs = .ok b cs1) (k : P (.rt b cs1)) : P (sRet f sl cs) := by
  rw [ap_sRet, h, sE_ok]
  exact k
theorem p_nx {P : SR → Prop} {f r : FnS} (h : f sl cs = .nx sl1 cs1) (k : P (r sl1 cs1)) : P (sSeq f r sl cs) := by
  rw [ap_sSeq, h]
  exact k
/-- tests -/
theorem t_isNot {f : Fn B} (h : f sl cs = .ok (.d (.bool true)) cs1) : eT (eBin gIsNot f (eD (.bool true))) sl cs = .ok false cs1 := by
  rw [ap_eT, ap_eBin, h, ER.bind_ok, ap_eD, ER.bind_ok]
  rfl
theorem t_is {f : Fn B} {k : Bool} (h : f sl cs = .ok (.d (.bool k)) cs1) : eBin gIs f (eD (.bool true)) sl cs = .ok (.d (.bool k)) cs1 := by
  rw [ap_eBin, h, ER.bind_ok, ap_eD, ER.bind_ok]
  show ER.ok (B.d (.bool (decide (k = true)))) cs1 = _
  cases k <;> rfl
theorem t_or0 {t u : Fn Bool} (h : t sl cs = .ok false cs) (k : u sl cs = .ok false cs) : eOr t u sl cs = .ok false cs := by
  rw [ap_eOr, h, ER.bind_ok, if_neg Bool.false_ne_true, k]
theorem t_and0 {t u : Fn Bool} (h : t sl cs = .ok false cs) : eAnd t u sl cs = .ok false cs := by
  rw [ap_eAnd, h, ER.bind_ok, if_neg Bool.false_ne_true]
theorem t_and1 {t u : Fn Bool} {k : Bool} (h : t sl cs = .ok true cs) (q : u sl cs = .ok k cs) : eAnd t u sl cs = .ok k cs := by
  rw [ap_eAnd, h, ER.bind_ok, if_pos rfl, q]
theorem v_and {f g : Fn B} {r : ER B} (h : f sl cs = .ok (.d (.bool true)) cs) (k : g sl cs = r) : eAndV f g sl cs = r := by
  rw [ap_eAndV, h, ER.bind_ok, onB_b, if_pos rfl, k]
/-- rows, taken -/
theorem tk_len {bs : List B} (h : bs.length ≤ 1000) : bs.length ≤ sizeLine := by rw [sizeLine_eq]; omega
theorem l_one {f1 : Fn B} {d1 : D} (h1 : f1 sl cs = .ok (.d d1) cs) : eFrz (lTake (aCons f1 aNil)) sl cs = .ok (.d (.list [d1])) cs := by
  rw [ap_eFrz, ap_lTake, ap_aCons, h1, ER.bind_ok, ap_aNil, ER.bind_ok, ER.bind_ok, if_pos (tk_len (show ([B.d d1] : List B).length ≤ 1000 by simp))]
  rfl
theorem l_two {f1 f2 : Fn B} {d1 d2 : D} (h1 : f1 sl cs = .ok (.d d1) cs) (h2 : f2 sl cs = .ok (.d d2) cs) : eFrz (lTake (aCons f1 (aCons f2 aNil))) sl cs = .ok (.d (.list [d1, d2])) cs := by
  rw [ap_eFrz, ap_lTake, ap_aCons, h1, ER.bind_ok, ap_aCons, h2, ER.bind_ok, ap_aNil, ER.bind_ok, ER.bind_ok, ER.bind_ok, if_pos (tk_len (show ([B.d d1, B.d d2] : List B).length ≤ 1000 by simp))]
  rfl
theorem l_three {f1 f2 f3 : Fn B} {d1 d2 d3 : D} (h1 : f1 sl cs = .ok (.d d1) cs) (h2 : f2 sl cs = .ok (.d d2) cs) (h3 : f3 sl cs = .ok (.d d3) cs) : eFrz (lTake (aCons f1 (aCons f2 (aCons f3 aNil)))) sl cs = .ok (.d (.list [d1, d2, d3])) cs := by
  rw [ap_eFrz, ap_lTake, ap_aCons, h1, ER.bind_ok, ap_aCons, h2, ER.bind_ok, ap_aCons, h3, ER.bind_ok, ap_aNil, ER.bind_ok, ER.bind_ok, ER.bind_ok, ER.bind_ok, if_pos (tk_len (show ([B.d d1, B.d d2, B.d d3] : List B).length ≤ 1000 by simp))]
  rfl
theorem l_four {f1 f2 f3 f4 : Fn B} {d1 d2 d3 d4 : D} (h1 : f1 sl cs = .ok (.d d1) cs) (h2 : f2 sl cs = .ok (.d d2) cs) (h3 : f3 sl cs = .ok (.d d3) cs) (h4 : f4 sl cs = .ok (.d d4) cs) : eFrz (lTake (aCons f1 (aCons f2 (aCons f3 (aCons f4 aNil))))) sl cs = .ok (.d (.list [d1, d2, d3, d4])) cs := by
  rw [ap_eFrz, ap_lTake, ap_aCons, h1, ER.bind_ok, ap_aCons, h2, ER.bind_ok, ap_aCons, h3, ER.bind_ok, ap_aCons, h4, ER.bind_ok, ap_aNil, ER.bind_ok, ER.bind_ok, ER.bind_ok, ER.bind_ok, ER.bind_ok, if_pos (tk_len (show ([B.d d1, B.d d2, B.d d3, B.d d4] : List B).length ≤ 1000 by simp))]
  rfl
theorem tup_two {f1 f2 : Fn B} {d1 d2 : D} (h1 : f1 sl cs = .ok (.d d1) cs) (h2 : f2 sl cs = .ok (.d d2) cs) : eTup (aCons f1 (aCons f2 aNil)) sl cs = .ok (.d (.tuple [d1, d2])) cs := by
  rw [ap_eTup, ap_aCons, h1, ER.bind_ok, ap_aCons, h2, ER.bind_ok, ap_aNil, ER.bind_ok, ER.bind_ok, ER.bind_ok]
  show (if ([d1, d2] : List D).length ≤ sizeLine then ER.ok (B.d (.tuple [d1, d2])) cs else .no) = _
  rw [if_pos (by rw [sizeLine_eq, List.length_cons, List.length_cons, List.length_nil]; omega)]
theorem tup_three {f1 f2 f3 : Fn B} {d1 d2 d3 : D} (h1 : f1 sl cs = .ok (.d d1) cs) (h2 : f2 sl cs = .ok (.d d2) cs) (h3 : f3 sl cs = .ok (.d d3) cs) : eTup (aCons f1 (aCons f2 (aCons f3 aNil))) sl cs = .ok (.d (.tuple [d1, d2, d3])) cs := by
  rw [ap_eTup, ap_aCons, h1, ER.bind_ok, ap_aCons, h2, ER.bind_ok, ap_aCons, h3, ER.bind_ok, ap_aNil, ER.bind_ok, ER.bind_ok, ER.bind_ok, ER.bind_ok]
  show (if ([d1, d2, d3] : List D).length ≤ sizeLine then ER.ok (B.d (.tuple [d1, d2, d3])) cs else .no) = _
  rw [if_pos (by rw [sizeLine_eq, List.length_cons, List.length_cons, List.length_cons, List.length_nil]; omega)]
/-- a thing is not unequal to itself -/
theorem ne_self {x : D} (h : SeqAt.shaped x = true) : gNe (.d x) (.d x) cs = .ok (.d (.bool false)) cs := by
  have hl : x.canLay0 = true := by
    unfold SeqAt.shaped at h
    rw [Bool.and_eq_true] at h
    exact h.1
  have e : bData cs (.d x) = some x := rfl
  unfold gNe
  rw [e]
  simp only
  rw [if_pos ⟨h, h⟩, SeqAt.eqv_refl x hl]
  rfl
theorem t_ne {f g : Fn B} {x : D} (hs : SeqAt.shaped x = true) (h : f sl cs = .ok (.d x) cs) (k : g sl cs = .ok (.d x) cs) : eT (eBin gNe f g) sl cs = .ok false cs := by
  rw [ap_eT, ap_eBin, h, ER.bind_ok, k, ER.bind_ok, ne_self hs, ER.bind_ok]
  rfl
/-- trues -/
theorem trues_ok {n : Int} {k : Nat} (hk : k ≤ 10) (h : n.toNat = k) (h0 : 0 ≤ n) : eFrz (lBin gRep (eFrz (lTake (aCons (eD (.bool true)) aNil))) (eD (.int n))) sl cs = .ok (.d (.list (List.replicate k (.bool true)))) cs := by
  have e : gRep (.d (.list [.bool true])) (.d (.int n)) cs = .ok ((List.replicate k (PyData.bool true)).map B.d) cs := by
    unfold gRep
    simp only [bCell, List.map_cons, List.map_nil]
    rw [if_pos ⟨by omega, by omega, by rw [sizeLine_eq, h]; simp; omega⟩, h]
    congr 1
    clear h hk h0
    induction k with
    | zero => rfl
    | succ k ih => rw [List.replicate_succ, List.flatten_cons, ih, List.replicate_succ]; rfl
  rw [ap_eFrz, ap_lBin, l_one (d1 := .bool true) rfl, ER.bind_ok, ap_eD, ER.bind_ok, e, ER.bind_ok, allD_mapd]
theorem t_trues {f : Fn B} {n : Int} {k : Nat} (hk : k ≤ 10) (hn : n.toNat = k) (h0 : 0 ≤ n) (hs : SeqAt.shaped (.list (List.replicate k (.bool true))) = true) (h : f sl cs = .ok (.d (.list (List.replicate k (.bool true)))) cs) : eT (eBin gNe f (eFrz (lBin gRep (eFrz (lTake (aCons (eD (.bool true)) aNil))) (eD (.int n))))) sl cs = .ok false cs := t_ne hs h (trues_ok hk hn h0)
end
end VM
namespace K42
open PySem VM L2
open Classical
section
variable {cs : Cs} {f k l m n : Nat} {gs gs' : Gs} {x y z w : List Nat} {V U : List Bool → Int}
/-- what is known of a word -/
structure Kn (f : Nat) (gs : Gs) (w : List Nat) (m : Nat) (V : List Bool → Int) : Prop where
  wl : w.length = m
  wo : okW (f + 1) gs w
  num : ∀ β : List Bool, β.length = f → numI (Wv β gs w) = V β
theorem Kn.up (h : Kn f gs w m V) (e : Ex gs gs' n) : Kn f gs' w m V := ⟨h.wl, h.wo.up e, fun β hβ => by rw [Wv_up hβ h.wo e]; exact h.num β hβ⟩
theorem Kn.congr (h : Kn f gs w m V) (e : ∀ β : List Bool, β.length = f → V β = U β) : Kn f gs w m U := ⟨h.wl, h.wo, fun β hβ => (h.num β hβ).trans (e β hβ)⟩
theorem num2_fin (a b : Bool) : ∃ i : Fin 4, numI [a, b] = ((i.val : Nat) : Int) := by
  cases a <;> cases b
  · exact ⟨0, rfl⟩
  · exact ⟨2, rfl⟩
  · exact ⟨1, rfl⟩
  · exact ⟨3, rfl⟩
theorem num1_fin (a : Bool) : ∃ i : Fin 2, numI [a] = ((i.val : Nat) : Int) := by
  cases a
  · exact ⟨0, rfl⟩
  · exact ⟨1, rfl⟩
theorem Kn.fin (h : Kn f gs w 2 V) {β : List Bool} (hβ : β.length = f) : ∃ i : Fin 4, V β = ((i.val : Nat) : Int) := by
  obtain ⟨a, b, rfl⟩ := two h.wl
  rw [← h.num β hβ]
  exact num2_fin _ _
theorem Kn.fin1 (h : Kn f gs w 1 V) {β : List Bool} (hβ : β.length = f) : ∃ i : Fin 2, V β = ((i.val : Nat) : Int) := by
  obtain ⟨a, rfl⟩ := one1 h.wl
  rw [← h.num β hβ]
  exact num1_fin _
theorem L_not {β : List Bool} : L aB (v0 β) gs (opp l) = !L aB (v0 β) gs l := L_opp aB (fun x => by simp [aB]) _ _ _
/-- a word turned -/
theorem Kn.opp2 (h : Kn f gs w 2 V) : Kn f gs (w.map opp) 2 (fun β => 3 - V β) := by
  obtain ⟨a, b, rfl⟩ := two h.wl
  have ho : ∀ {l}, l < 2 * (f + 1 + gs.length) → opp l < 2 * (f + 1 + gs.length) := fun {l} hl => by have := opp_div l; omega
  refine ⟨rfl, ⟨by simp, by simp, fun l hl => ?_⟩, fun β hβ => ?_⟩
  · obtain ⟨l', h', rfl⟩ := List.mem_map.mp hl
    exact ho (h.wo.2.2 l' h')
  · show numI [L aB (v0 β) gs (opp a), L aB (v0 β) gs (opp b)] = 3 - V β
    rw [← h.num β hβ, L_not, L_not]
    show _ = 3 - numI [L aB (v0 β) gs a, L aB (v0 β) gs b]
    cases L aB (v0 β) gs a <;> cases L aB (v0 β) gs b <;> rfl
theorem Kn.opp1 (h : Kn f gs w 1 V) : Kn f gs (w.map opp) 1 (fun β => 1 - V β) := by
  obtain ⟨a, rfl⟩ := one1 h.wl
  have ho : ∀ {l}, l < 2 * (f + 1 + gs.length) → opp l < 2 * (f + 1 + gs.length) := fun {l} hl => by have := opp_div l; omega
  refine ⟨rfl, ⟨by simp, by simp, fun l hl => ?_⟩, fun β hβ => ?_⟩
  · obtain ⟨l', h', rfl⟩ := List.mem_map.mp hl
    exact ho (h.wo.2.2 l' h')
  · show numI [L aB (v0 β) gs (opp a)] = 1 - V β
    rw [← h.num β hβ, L_not]
    show _ = 1 - numI [L aB (v0 β) gs a]
    cases L aB (v0 β) gs a <;> rfl
theorem kn_opp {V : List Bool → Int} (h : Kn f gs w m V) (hm : m = 1 ∨ m = 2) : F_opposite_word [.d (dW w)] cs = .ok (.d (dW (w.map opp))) cs := F_oppw (by rw [h.wl]; omega) (by rw [h.wl]; omega)
/-- a number's word -/
theorem kn_const (f : Nat) (gs : Gs) : ∀ i : Fin 4, Kn f gs [i.val % 2, i.val / 2 % 2] 2 (fun _ => ((i.val : Nat) : Int)) := fun i => by
  have h0 : ∀ β : List Bool, β.length = f → L aB (v0 β) gs 0 = false := fun β hβ => (dn_false (S := fun _ => True) (Nat.succ_pos f) gs).val β (by omega)
  have h1 : ∀ β : List Bool, β.length = f → L aB (v0 β) gs 1 = true := fun β hβ => (dn_true (S := fun _ => True) (Nat.succ_pos f) gs).val β (by omega)
  refine ⟨rfl, ⟨by simp, by simp, fun l hl => ?_⟩, fun β hβ => ?_⟩
  · have : l < 2 := by
      rcases List.mem_cons.mp hl with h | h
      · omega
      · rw [List.mem_singleton.mp h]; omega
    omega
  · show numI [L aB (v0 β) gs (i.val % 2), L aB (v0 β) gs (i.val / 2 % 2)] = _
    match i with
    | 0 => show numI [L aB (v0 β) gs 0, L aB (v0 β) gs 0] = _; rw [h0 β hβ]; rfl
    | 1 => show numI [L aB (v0 β) gs 1, L aB (v0 β) gs 0] = _; rw [h0 β hβ, h1 β hβ]; rfl
    | 2 => show numI [L aB (v0 β) gs 0, L aB (v0 β) gs 1] = _; rw [h0 β hβ, h1 β hβ]; rfl
    | 3 => show numI [L aB (v0 β) gs 1, L aB (v0 β) gs 1] = _; rw [h1 β hβ]; rfl
/-- a combination -/
theorem kcomb (K : Kd) (N : NetOk f gs) (h40 : gs.length + 40 ≤ 19000) (kx : Kn f gs x 2 V) (ky : Kn f gs y 2 U) :
    ∃ gs' w, F_combined [.d (dNet f gs), .d (.str K.s), .d (dW x), .d (dW y)] cs = .ok (.d (.tuple [dNet f gs', dW w])) cs ∧ Ex gs gs' 40 ∧ NetOk f gs' ∧ Kn f gs' w K.w (fun β => opN K (V β) (U β)) ∧
      ∀ l ∈ w, ∀ k ∈ L aS (s0 (f + 1)) gs' l, k = 0 ∨ ∃ l ∈ x ++ y, k ∈ L aS (s0 (f + 1)) gs l := by
  obtain ⟨gs', w, e, c⟩ := comb2 (cs := cs) K N h40 kx.wo kx.wl ky.wo ky.wl
  exact ⟨gs', w, e, c.ex, c.net, ⟨c.wl, c.wo, fun β hβ => by rw [c.num β hβ, kx.num β hβ, ky.num β hβ]⟩, c.sup⟩
theorem kcomb1 (N : NetOk f gs) (h40 : gs.length + 40 ≤ 19000) (kx : Kn f gs x 1 V) (ky : Kn f gs y 1 U) :
    ∃ gs' w, F_combined [.d (dNet f gs), .d (.str "and"), .d (dW x), .d (dW y)] cs = .ok (.d (.tuple [dNet f gs', dW w])) cs ∧ Ex gs gs' 40 ∧ NetOk f gs' ∧ Kn f gs' w 1 (fun β => min (V β) (U β)) := by
  obtain ⟨gs', w, e, c⟩ := comb1 (cs := cs) N h40 kx.wo kx.wl ky.wo ky.wl
  exact ⟨gs', w, e, c.ex, c.net, ⟨c.wl, c.wo, fun β hβ => by rw [c.num β hβ, kx.num β hβ, ky.num β hβ]⟩⟩
theorem kpick (N : NetOk f gs) (h40 : gs.length + 40 ≤ 19000) {c : Nat} (hc : c < 2 * (f + 1 + gs.length)) (kx : Kn f gs x 2 V) (ky : Kn f gs y 2 U) :
    ∃ gs' w, F_picked [.d (dNet f gs), .d (dN c), .d (dW x), .d (dW y)] cs = .ok (.d (.tuple [dNet f gs', dW w])) cs ∧ Ex gs gs' 40 ∧ NetOk f gs' ∧ Kn f gs' w 2 (fun β => if L aB (v0 β) gs c = true then V β else U β) := by
  obtain ⟨gs', w, e, q⟩ := pick2 (cs := cs) N h40 hc kx.wo kx.wl ky.wo ky.wl
  exact ⟨gs', w, e, q.ex, q.net, ⟨q.wl, q.wo, fun β hβ => by rw [q.num β hβ, kx.num β hβ, ky.num β hβ]⟩⟩
/-- words that agree -/
theorem kagr (N : NetOk 6 gs) (kx : Kn 6 gs x m V) (ky : Kn 6 gs y m U) (h : ∀ β : List Bool, β.length = 6 → V β = U β) : F_agree [.d (dNet 6 gs), .d (dW x), .d (dW y)] cs = .ok (.d (.bool true)) cs := by
  rw [F_agr N (by decide) kx.wo ky.wo (by rw [kx.wl, ky.wl]), decide_eq_true]
  intro β hβ
  rw [kx.num β hβ, ky.num β hβ, h β hβ]
/-- (one kind other) kind third -/
def Kd.asc : Kd → Bool
  | .add => true | .mul => true | .and => true | .or => true | .xor => true | _ => false
theorem asc_ok : ∀ K : Kd, K.asc = true → ∀ a b c : Fin 4, opN K (opN K a.val b.val) c.val = opN K a.val (opN K b.val c.val) := by
  intro K h
  cases K <;> first | (cases h; done) | decide
theorem asc_w : ∀ K : Kd, K.asc = true → K.w = 2 := by
  intro K h
  cases K <;> first | (cases h; done) | rfl
theorem F_law_both {K : Kd} (hK : K.asc = true) (N : NetOk 6 gs) (hl : gs.length ≤ 2000) {X Y Z : List Bool → Int} (kx : Kn 6 gs x 2 X) (ky : Kn 6 gs y 2 Y) (kz : Kn 6 gs z 2 Z) :
    ∃ gs' l r, F__law_both [.d (dNet 6 gs), .d (.str K.s), .d (dW x), .d (dW y), .d (dW z)] cs = .ok (.d (.tuple [dNet 6 gs', dW l, dW r])) cs ∧ Ex gs gs' 160 ∧ NetOk 6 gs' ∧
      Kn 6 gs' l 2 (fun β => opN K (opN K (X β) (Y β)) (Z β)) ∧ Kn 6 gs' r 2 (fun β => opN K (X β) (opN K (Y β) (Z β))) := by
  have hw := asc_w K hK
  obtain ⟨g1, w1, e1, x1, N1, k1, _⟩ := kcomb (cs := cs) K N (by omega) kx ky
  rw [hw] at k1
  have l1 := x1.len
  obtain ⟨g2, w2, e2, x2, N2, k2, _⟩ := kcomb (cs := cs) K N1 (by omega) k1 (kz.up x1)
  rw [hw] at k2
  have l2 := x2.len
  have x12 := x1.trans x2
  obtain ⟨g3, w3, e3, x3, N3, k3, _⟩ := kcomb (cs := cs) K N2 (by omega) (ky.up x12) (kz.up x12)
  rw [hw] at k3
  have l3 := x3.len
  have x13 := x12.trans x3
  obtain ⟨g4, w4, e4, x4, N4, k4, _⟩ := kcomb (cs := cs) K N3 (by omega) (kx.up x13) k3
  rw [hw] at k4
  refine ⟨g4, w2, w4, ?_, (x13.trans x4).mono (by decide), N4, k2.up (x3.trans x4), k4⟩
  unfold F__law_both
  rw [ap_mDef]
  show gcR cs (retOf _) = _
  refine p_asg2 (P := fun r => gcR cs (retOf r) = _) (fn_4 rfl rfl rfl rfl e1) rfl ?_
  refine p_asg2 (P := fun r => gcR cs (retOf r) = _) (fn_4 rfl rfl rfl rfl e2) rfl ?_
  refine p_asg2 (P := fun r => gcR cs (retOf r) = _) (fn_4 rfl rfl rfl rfl e3) rfl ?_
  refine p_asg2 (P := fun r => gcR cs (retOf r) = _) (fn_4 rfl rfl rfl rfl e4) rfl ?_
  refine p_ret (P := fun r => gcR cs (retOf r) = _) (tup_three rfl rfl rfl) ?_
  rw [retOf_rt, gcR_same]
end
end K42

/-! M22: cones, told. -/
namespace VM
open PySem L2
section
variable {cs cs1 : Cs} {sl : Sl}
theorem bin_ok {g : B → B → Cs → ER B} {f1 f2 : Fn B} {a b : B} {r : ER B} (h1 : f1 sl cs = .ok a cs) (h2 : f2 sl cs = .ok b cs) (h : g a b cs = r) : eBin g f1 f2 sl cs = r := by rw [ap_eBin, h1, ER.bind_ok, h2, ER.bind_ok, h]
theorem bin_dif {g : B → B → Cs → ER B} {f1 f2 : Fn B} {a b : B} {r : ER B} (h1 : f1 sl cs = .ok a cs1) (h2 : f2 sl cs1 = .ok b cs1) (h : g a b cs1 = r) : eBin g f1 f2 sl cs = r := by rw [ap_eBin, h1, ER.bind_ok, h2, ER.bind_ok, h]
theorem call_1 {g : List B → Cs → ER B} {f1 : Fn B} {a : B} {r : ER B} (h1 : f1 sl cs = .ok a cs1) (h : g [a] cs1 = r) : eCall g (aCons f1 aNil) sl cs = r := by rw [ap_eCall, ap_aCons, h1, ER.bind_ok, ap_aNil, ER.bind_ok, ER.bind_ok, h]
theorem v_or {f g : Fn B} {k q : Bool} (h : f sl cs = .ok (.d (.bool k)) cs) (h2 : g sl cs = .ok (.d (.bool q)) cs) : eOrV f g sl cs = .ok (.d (.bool (k || q))) cs := by
  rw [ap_eOrV, h, ER.bind_ok, onB_b]
  cases k
  · rw [if_neg Bool.false_ne_true, h2]; rfl
  · rw [if_pos rfl]; rfl
theorem cat_big (xs ys : List D) (h : xs.length + ys.length ≤ 100000) : gAlt gAdd gCatT (.d (.tuple xs)) (.d (.tuple ys)) cs = .ok (.d (.tuple (xs ++ ys))) cs := by
  rw [ap_gAlt, g_catT xs ys (by rw [sizeLine_eq]; omega)]
  rfl
end
end VM
namespace K42
open PySem VM L2
open Classical
section
variable {cs : Cs} {f k l m n : Nat} {gs gs' : Gs} {x y z w : List Nat} {V U : List Bool → Int}
/-- the cone's nodes -/
structure Co (f : Nat) (gs : Gs) (w ns : List Nat) : Prop where
  len : ns.length ≤ 19300
  lo : ∀ m ∈ ns, m ≤ f → ∃ l ∈ w, m ∈ sp (f + 1) gs (l / 2)
  hi : ∀ l ∈ w, ∀ m ∈ sp (f + 1) gs (l / 2), m ≤ f → m ∈ ns
theorem F_cone_ok (N : NetOk f gs) (hw : okW (f + 1) gs w) : ∃ ns, F_cone [.d (dNet f gs), .d (dW w)] cs = .ok (.d (dW ns)) cs ∧ Co f gs w ns := by
  have hF := N.hf
  have hN := N.hl
  have h8 := hw.2.1
  obtain ⟨fd, c1, c2⟩ := F_coneof (cs := cs) (w := w) (wB := .d (dW w)) N hw.2.2 (by omega) (.inl rfl)
  obtain ⟨ns, p1, p2⟩ := sort_nat fd
  rw [p2, List.map_map] at c1
  have hd : ns.Nodup := p1.nodup_iff.mpr c2.nd
  have nl : ns.length ≤ f + 1 + gs.length := by
    have hl : ∀ x ∈ ns.map (· + 1), 1 ≤ x ∧ x ≤ f + 1 + gs.length := fun x hx => by
      obtain ⟨y, hy, rfl⟩ := List.mem_map.mp hx
      have := c2.lt y (p1.mem_iff.mp hy)
      omega
    have := nodup_le _ _ (List.Pairwise.map (R := (· ≠ ·)) (S := (· ≠ ·)) (· + 1) (fun a b h => by simpa using h) hd) hl
    rw [List.length_map] at this
    exact this
  refine ⟨ns, ?_, by omega, fun m hm h => ?_, fun l hl m hm h => ?_⟩
  · unfold F_cone
    rw [ap_mDef]
    refine p_expr (P := fun r => gcR cs (retOf r) = _) (fn_2 rfl (l_one rfl) (F_chkwords (ws := [w]) N (fun a ha => by rw [List.mem_singleton.mp ha]; exact hw) (by simp) (by simp) w.length (fun a ha => by rw [List.mem_singleton.mp ha]))) ?_
    refine p_ret (P := fun r => gcR cs (retOf r) = _) (b := .d (dW ns)) (cs1 := cs) ?_ ?_
    · rw [ap_eCall, ap_aCons, fn_2 rfl rfl c1, ER.bind_ok, ap_aNil, ER.bind_ok, ER.bind_ok, g_tup_l]
      rfl
    · rw [retOf_rt, gcR_same]
  · obtain ⟨l, hl, hx⟩ := (c2.mem m).mpr ⟨m, p1.mem_iff.mp hm, by omega, by rw [sp_low (by omega)]; simp⟩
    exact ⟨l, hl, hx⟩
  · obtain ⟨m', m1, m2, m3⟩ := (c2.mem m).mp ⟨l, hl, hm⟩
    rw [sp_low m2, List.mem_singleton] at m3
    subst m3
    exact p1.mem_iff.mpr m1
noncomputable def coneTest : Fn Bool := eTru (eCall gAll (aCons (eFrz (lComp (iSeq (eFn 2 F_cone (aCons (eVar 2) (aCons (eVar 17) aNil)))) (tgName 23) eYes (eOrV (eBin (gInU false) (eVar 23) (eBin (gAlt gAdd gCatT) (eBin (gAlt gAdd gCatT) (eTup (aCons (eD (.int 0)) aNil)) (eFn 2 F_cone (aCons (eVar 2) (aCons (eVar 4) aNil)))) (eFn 2 F_cone (aCons (eVar 2) (aCons (eVar 5) aNil))))) (eBin gGt (eVar 23) (eD (.int 6)))) [23])) aNil))
theorem cone_test (N : NetOk 6 gs) (hw : okW 7 gs w) (hx : okW 7 gs x) (hy : okW 7 gs y) (hs : ∀ l ∈ w, ∀ k ∈ sp 7 gs (l / 2), k = 0 ∨ ∃ l ∈ x ++ y, k ∈ sp 7 gs (l / 2))
    (x0 x1 x3 x6 x7 x8 x9 x10 x11 x12 x13 x14 x15 x16 x18 x19 x20 x21 x22 x23 : Option B) :
    coneTest [x0, x1, some (.d (dNet 6 gs)), x3, some (.d (dW x)), some (.d (dW y)), x6, x7, x8, x9, x10, x11, x12, x13, x14, x15, x16, some (.d (dW w)), x18, x19, x20, x21, x22, x23] cs = .ok true cs := by
  obtain ⟨nw, ew, cw⟩ := F_cone_ok (cs := cs) N hw
  obtain ⟨nx, ex, cx⟩ := F_cone_ok (cs := cs) N hx
  obtain ⟨ny, ey, cy⟩ := F_cone_ok (cs := cs) N hy
  have l1 := cw.len
  have l2 := cx.len
  have l3 := cy.len
  unfold coneTest
  rw [ap_eTru, all_comp (items := nw) (enc := fun m => .d (dN m)) (p := fun m => decide (m ∈ (0 :: nx) ++ ny) || decide (6 < m)) (hfi := ?_) (hl := ?_) (h := ?_), ER.bind_ok, tru_b]
  · congr 1
    rw [List.all_eq_true]
    intro m hm
    rw [Bool.or_eq_true]
    by_cases h6 : m ≤ 6
    · left
      apply decide_eq_true
      obtain ⟨l, hl, hml⟩ := cw.lo m hm h6
      rcases hs l hl m hml with rfl | ⟨l', hl', hm'⟩
      · simp
      · rcases List.mem_append.mp hl' with h | h
        · exact List.mem_append_left _ (List.mem_cons_of_mem _ (cx.hi l' h m hm' h6))
        · exact List.mem_append_right _ (cy.hi l' h m hm' h6)
    · right
      exact decide_eq_true (by omega)
  · rw [i_seq_t _ (nw.map dN) cs (fn_2 rfl rfl ew), List.map_map]
    rfl
  · rw [sizeLine_eq]; omega
  · intro m _
    refine ⟨_, rfl, ?_⟩
    have t1 : ∀ sl : Sl, eTup (aCons (eD (.int 0)) aNil) sl cs = .ok (.d (dW [0])) cs := fun sl => by
      rw [ap_eTup, ap_aCons, ap_eD, ER.bind_ok, ap_aNil, ER.bind_ok, ER.bind_ok]
      show (if ([.int 0] : List D).length ≤ sizeLine then ER.ok (B.d (.tuple [.int 0])) cs else .no) = _
      rw [if_pos (by rw [sizeLine_eq]; decide)]
      rfl
    have c1 : ((0 :: nx).map dN).length + (ny.map dN).length ≤ 100000 := by simp; omega
    have c0 : ([0].map dN).length + (nx.map dN).length ≤ 100000 := by simp; omega
    have e0 : ([0].map dN) ++ (nx.map dN) = (0 :: nx).map dN := rfl
    have q0 : gAlt gAdd gCatT (.d (dW [0])) (.d (dW nx)) cs = .ok (.d (dW (0 :: nx))) cs := cat_big _ _ c0
    have q1 : gAlt gAdd gCatT (.d (dW (0 :: nx))) (.d (dW ny)) cs = .ok (.d (dW (0 :: nx ++ ny))) cs := by
      rw [show dW (0 :: nx ++ ny) = .tuple (((0 :: nx).map dN) ++ ny.map dN) by rw [← List.map_append]]
      exact cat_big _ _ c1
    have gi : gInU false (.d (dN m)) (.d (dW (0 :: nx ++ ny))) cs = .ok (.d (.bool (decide (m ∈ 0 :: nx ++ ny)))) cs := by
      rw [ap_gInU, in_word]
      rfl
    have gg : gGt (.d (dN m)) (.d (.int 6)) cs = .ok (.d (.bool (decide (6 < m)))) cs := by
      rw [g_gt]
      congr 3
      apply decide_eq_decide.mpr
      omega
    exact v_or (bin_ok rfl (bin_ok (bin_ok (t1 _) (fn_2 rfl rfl ex) q0) (fn_2 rfl rfl ey) q1) gi) (bin_ok rfl rfl gg)
end
end K42

/-! M23: _law_sums_hold. -/
namespace K42
open PySem VM L2
open Classical
theorem al1 : ∀ a b c : Fin 4, opN .mul a.val (opN .add b.val c.val) = opN .add (opN .mul a.val b.val) (opN .mul a.val c.val) := by decide
theorem al2 : ∀ a b : Fin 4, opN .sub a.val b.val = opN .add a.val (opN .add (3 - b.val) 1) := by decide
theorem al3 : ∀ a b : Fin 4, opN .add (opN .sub a.val b.val) b.val = a.val := by decide
theorem al5 : ∀ a b : Fin 4, opN .less a.val b.val = 1 - opN .least b.val a.val := by decide
theorem al6 : ∀ a b : Fin 4, opN .same a.val b.val = min (opN .least a.val b.val) (opN .least b.val a.val) := by decide
theorem sh_tr4 : SeqAt.shaped (.list (List.replicate 4 (.bool true))) = true := by decide +kernel
theorem sh_tr3 : SeqAt.shaped (.list (List.replicate 3 (.bool true))) = true := by decide +kernel
section
variable {cs : Cs} {gs : Gs} {x y z : List Nat} {X Y Z : List Bool → Int}
theorem F_sums (N0 : NetOk 6 gs) (hl : gs.length ≤ 5000) (kx : Kn 6 gs x 2 X) (ky : Kn 6 gs y 2 Y) (kz : Kn 6 gs z 2 Z) :
    F__law_sums_hold [.d (dNet 6 gs), .d (dW x), .d (dW y), .d (dW z)] cs = .ok (.d (.bool true)) cs := by
  obtain ⟨g1, w1, e1, x1, N1, k1, _⟩ := kcomb (cs := cs) .add N0 (by omega) ky kz
  have l1 := x1.len
  replace kx := kx.up x1
  replace ky := ky.up x1
  replace kz := kz.up x1
  obtain ⟨g2, w2, e2, x2, N2, k2, _⟩ := kcomb (cs := cs) .mul N1 (by omega) kx k1
  have l2 := x2.len
  replace kx := kx.up x2
  replace ky := ky.up x2
  replace kz := kz.up x2
  replace k1 := k1.up x2
  obtain ⟨g3, w3, e3, x3, N3, k3, _⟩ := kcomb (cs := cs) .mul N2 (by omega) kx ky
  have l3 := x3.len
  replace kx := kx.up x3
  replace ky := ky.up x3
  replace kz := kz.up x3
  replace k2 := k2.up x3
  obtain ⟨g4, w4, e4, x4, N4, k4, _⟩ := kcomb (cs := cs) .mul N3 (by omega) kx kz
  have l4 := x4.len
  replace kx := kx.up x4
  replace ky := ky.up x4
  replace kz := kz.up x4
  replace k2 := k2.up x4
  replace k3 := k3.up x4
  obtain ⟨g5, w5, e5, x5, N5, k5, _⟩ := kcomb (cs := cs) .add N4 (by omega) k3 k4
  have l5 := x5.len
  replace kx := kx.up x5
  replace ky := ky.up x5
  replace kz := kz.up x5
  replace k2 := k2.up x5
  replace k3 := k3.up x5
  replace k4 := k4.up x5
  obtain ⟨g6, w6, e6, x6, N6, k6, _⟩ := kcomb (cs := cs) .sub N5 (by omega) kx ky
  have l6 := x6.len
  replace kx := kx.up x6
  replace ky := ky.up x6
  replace kz := kz.up x6
  replace k2 := k2.up x6
  replace k5 := k5.up x6
  obtain ⟨g7, w7, e7, x7, N7, k7, _⟩ := kcomb (cs := cs) .add N6 (by omega) ky.opp2 (kn_const 6 _ 1)
  have l7 := x7.len
  replace kx := kx.up x7
  replace ky := ky.up x7
  replace kz := kz.up x7
  replace k2 := k2.up x7
  replace k5 := k5.up x7
  replace k6 := k6.up x7
  obtain ⟨g8, w8, e8, x8, N8, k8, _⟩ := kcomb (cs := cs) .add N7 (by omega) kx k7
  have l8 := x8.len
  replace kx := kx.up x8
  replace ky := ky.up x8
  replace kz := kz.up x8
  replace k2 := k2.up x8
  replace k5 := k5.up x8
  replace k6 := k6.up x8
  replace k7 := k7.up x8
  obtain ⟨g9, w9, e9, x9, N9, k9, _⟩ := kcomb (cs := cs) .add N8 (by omega) k6 ky
  have l9 := x9.len
  replace kx := kx.up x9
  replace ky := ky.up x9
  replace kz := kz.up x9
  replace k2 := k2.up x9
  replace k5 := k5.up x9
  replace k6 := k6.up x9
  replace k8 := k8.up x9
  have a1 := kagr (cs := cs) N9 k2 k5 (fun β hβ => by
    obtain ⟨a, ha⟩ := kx.fin hβ; obtain ⟨b, hb⟩ := ky.fin hβ; obtain ⟨c, hc⟩ := kz.fin hβ
    (try dsimp only); rw [ha, hb, hc]; exact al1 a b c)
  have a2 := kagr (cs := cs) N9 k6 k8 (fun β hβ => by
    obtain ⟨a, ha⟩ := kx.fin hβ; obtain ⟨b, hb⟩ := ky.fin hβ
    (try dsimp only); rw [ha, hb]; exact al2 a b)
  have a3 := kagr (cs := cs) N9 k9 kx (fun β hβ => by
    obtain ⟨a, ha⟩ := kx.fin hβ; obtain ⟨b, hb⟩ := ky.fin hβ
    (try dsimp only); rw [ha, hb]; exact al3 a b)
  have a4 := kagr (cs := cs) N9 kx.opp2.opp2 kx (fun β hβ => by
    (try dsimp only); omega)
  obtain ⟨g10, w10, e10, x10, N10, k10, _⟩ := kcomb (cs := cs) .less N9 (by omega) kx ky
  have l10 := x10.len
  replace kx := kx.up x10
  replace ky := ky.up x10
  obtain ⟨g11, w11, e11, x11, N11, k11, _⟩ := kcomb (cs := cs) .least N10 (by omega) ky kx
  have l11 := x11.len
  replace kx := kx.up x11
  replace ky := ky.up x11
  replace k10 := k10.up x11
  obtain ⟨g12, w12, e12, x12, N12, k12, _⟩ := kcomb (cs := cs) .same N11 (by omega) kx ky
  have l12 := x12.len
  replace kx := kx.up x12
  replace ky := ky.up x12
  replace k10 := k10.up x12
  replace k11 := k11.up x12
  obtain ⟨g13, w13, e13, x13, N13, k13, _⟩ := kcomb (cs := cs) .least N12 (by omega) kx ky
  have l13 := x13.len
  replace kx := kx.up x13
  replace ky := ky.up x13
  replace k10 := k10.up x13
  replace k11 := k11.up x13
  replace k12 := k12.up x13
  obtain ⟨g14, w14, e14, x14, N14, k14⟩ := kcomb1 (cs := cs) N13 (by omega) k13 k11
  have l14 := x14.len
  replace kx := kx.up x14
  replace ky := ky.up x14
  replace k10 := k10.up x14
  replace k11 := k11.up x14
  replace k12 := k12.up x14
  replace k13 := k13.up x14
  have a5 := kagr (cs := cs) N14 k10 k11.opp1 (fun β hβ => by
    obtain ⟨a, ha⟩ := kx.fin hβ; obtain ⟨b, hb⟩ := ky.fin hβ
    (try dsimp only); rw [ha, hb]; exact al5 a b)
  have a6 := kagr (cs := cs) N14 k12 k14 (fun β hβ => by
    obtain ⟨a, ha⟩ := kx.fin hβ; obtain ⟨b, hb⟩ := ky.fin hβ
    (try dsimp only); rw [ha, hb]; exact al6 a b)
  unfold F__law_sums_hold
  rw [ap_mDef]
  show gcR cs (retOf ((_ : FnS) [some (.d (dNet 6 gs)), some (.d (dW x)), some (.d (dW y)), some (.d (dW z)), none, none, none, none, none, none, none, none, none, none, none, none, none, none] cs)) = _
  refine p_asg2 (P := fun r => gcR cs (retOf r) = _) (sl1 := [some (.d (dNet 6 g1)), some (.d (dW x)), some (.d (dW y)), some (.d (dW z)), some (.d (dW w1)), none, none, none, none, none, none, none, none, none, none, none, none, none]) (fn_4 rfl rfl rfl rfl e1) rfl ?_
  refine p_asg2 (P := fun r => gcR cs (retOf r) = _) (sl1 := [some (.d (dNet 6 g2)), some (.d (dW x)), some (.d (dW y)), some (.d (dW z)), some (.d (dW w1)), some (.d (dW w2)), none, none, none, none, none, none, none, none, none, none, none, none]) (fn_4 rfl rfl rfl rfl e2) rfl ?_
  refine p_asg2 (P := fun r => gcR cs (retOf r) = _) (sl1 := [some (.d (dNet 6 g3)), some (.d (dW x)), some (.d (dW y)), some (.d (dW z)), some (.d (dW w1)), some (.d (dW w2)), some (.d (dW w3)), none, none, none, none, none, none, none, none, none, none, none]) (fn_4 rfl rfl rfl rfl e3) rfl ?_
  refine p_asg2 (P := fun r => gcR cs (retOf r) = _) (sl1 := [some (.d (dNet 6 g4)), some (.d (dW x)), some (.d (dW y)), some (.d (dW z)), some (.d (dW w1)), some (.d (dW w2)), some (.d (dW w3)), some (.d (dW w4)), none, none, none, none, none, none, none, none, none, none]) (fn_4 rfl rfl rfl rfl e4) rfl ?_
  refine p_asg2 (P := fun r => gcR cs (retOf r) = _) (sl1 := [some (.d (dNet 6 g5)), some (.d (dW x)), some (.d (dW y)), some (.d (dW z)), some (.d (dW w1)), some (.d (dW w2)), some (.d (dW w3)), some (.d (dW w4)), some (.d (dW w5)), none, none, none, none, none, none, none, none, none]) (fn_4 rfl rfl rfl rfl e5) rfl ?_
  refine p_asg2 (P := fun r => gcR cs (retOf r) = _) (sl1 := [some (.d (dNet 6 g6)), some (.d (dW x)), some (.d (dW y)), some (.d (dW z)), some (.d (dW w1)), some (.d (dW w2)), some (.d (dW w3)), some (.d (dW w4)), some (.d (dW w5)), some (.d (dW w6)), none, none, none, none, none, none, none, none]) (fn_4 rfl rfl rfl rfl e6) rfl ?_
  refine p_asg2 (P := fun r => gcR cs (retOf r) = _) (sl1 := [some (.d (dNet 6 g7)), some (.d (dW x)), some (.d (dW y)), some (.d (dW z)), some (.d (dW w1)), some (.d (dW w2)), some (.d (dW w3)), some (.d (dW w4)), some (.d (dW w5)), some (.d (dW w6)), some (.d (dW w7)), none, none, none, none, none, none, none]) (fn_4 rfl rfl (fn_1 rfl (kn_opp ky (.inr rfl))) (fn_2 rfl rfl (F_numw 1 (by decide))) e7) rfl ?_
  refine p_asg2 (P := fun r => gcR cs (retOf r) = _) (sl1 := [some (.d (dNet 6 g8)), some (.d (dW x)), some (.d (dW y)), some (.d (dW z)), some (.d (dW w1)), some (.d (dW w2)), some (.d (dW w3)), some (.d (dW w4)), some (.d (dW w5)), some (.d (dW w6)), some (.d (dW w7)), some (.d (dW w8)), none, none, none, none, none, none]) (fn_4 rfl rfl rfl rfl e8) rfl ?_
  refine p_asg2 (P := fun r => gcR cs (retOf r) = _) (sl1 := [some (.d (dNet 6 g9)), some (.d (dW x)), some (.d (dW y)), some (.d (dW z)), some (.d (dW w1)), some (.d (dW w2)), some (.d (dW w3)), some (.d (dW w4)), some (.d (dW w5)), some (.d (dW w6)), some (.d (dW w7)), some (.d (dW w8)), some (.d (dW w9)), none, none, none, none, none]) (fn_4 rfl rfl rfl rfl e9) rfl ?_
  refine p_if0 (P := fun r => gcR cs (retOf r) = _) (t_trues (k := 4) (by decide) rfl (by decide) sh_tr4 (l_four (fn_3 rfl rfl rfl a1) (fn_3 rfl rfl rfl a2) (fn_3 rfl rfl rfl a3) (fn_3 rfl (fn_1 (fn_1 rfl (kn_opp kx (.inr rfl))) (kn_opp kx.opp2 (.inr rfl))) rfl a4))) ?_
  refine p_asg2 (P := fun r => gcR cs (retOf r) = _) (sl1 := [some (.d (dNet 6 g10)), some (.d (dW x)), some (.d (dW y)), some (.d (dW z)), some (.d (dW w1)), some (.d (dW w2)), some (.d (dW w3)), some (.d (dW w4)), some (.d (dW w5)), some (.d (dW w6)), some (.d (dW w7)), some (.d (dW w8)), some (.d (dW w9)), some (.d (dW w10)), none, none, none, none]) (fn_4 rfl rfl rfl rfl e10) rfl ?_
  refine p_asg2 (P := fun r => gcR cs (retOf r) = _) (sl1 := [some (.d (dNet 6 g11)), some (.d (dW x)), some (.d (dW y)), some (.d (dW z)), some (.d (dW w1)), some (.d (dW w2)), some (.d (dW w3)), some (.d (dW w4)), some (.d (dW w5)), some (.d (dW w6)), some (.d (dW w7)), some (.d (dW w8)), some (.d (dW w9)), some (.d (dW w10)), some (.d (dW w11)), none, none, none]) (fn_4 rfl rfl rfl rfl e11) rfl ?_
  refine p_asg2 (P := fun r => gcR cs (retOf r) = _) (sl1 := [some (.d (dNet 6 g12)), some (.d (dW x)), some (.d (dW y)), some (.d (dW z)), some (.d (dW w1)), some (.d (dW w2)), some (.d (dW w3)), some (.d (dW w4)), some (.d (dW w5)), some (.d (dW w6)), some (.d (dW w7)), some (.d (dW w8)), some (.d (dW w9)), some (.d (dW w10)), some (.d (dW w11)), some (.d (dW w12)), none, none]) (fn_4 rfl rfl rfl rfl e12) rfl ?_
  refine p_asg2 (P := fun r => gcR cs (retOf r) = _) (sl1 := [some (.d (dNet 6 g13)), some (.d (dW x)), some (.d (dW y)), some (.d (dW z)), some (.d (dW w1)), some (.d (dW w2)), some (.d (dW w3)), some (.d (dW w4)), some (.d (dW w5)), some (.d (dW w6)), some (.d (dW w7)), some (.d (dW w8)), some (.d (dW w9)), some (.d (dW w10)), some (.d (dW w11)), some (.d (dW w12)), some (.d (dW w13)), none]) (fn_4 rfl rfl rfl rfl e13) rfl ?_
  refine p_asg2 (P := fun r => gcR cs (retOf r) = _) (sl1 := [some (.d (dNet 6 g14)), some (.d (dW x)), some (.d (dW y)), some (.d (dW z)), some (.d (dW w1)), some (.d (dW w2)), some (.d (dW w3)), some (.d (dW w4)), some (.d (dW w5)), some (.d (dW w6)), some (.d (dW w7)), some (.d (dW w8)), some (.d (dW w9)), some (.d (dW w10)), some (.d (dW w11)), some (.d (dW w12)), some (.d (dW w13)), some (.d (dW w14))]) (fn_4 rfl rfl rfl rfl e14) rfl ?_
  refine p_ret (P := fun r => gcR cs (retOf r) = _) (v_and (t_is (fn_3 rfl rfl (fn_1 rfl (kn_opp k11 (.inl rfl))) a5)) (t_is (fn_3 rfl rfl rfl a6))) ?_
  rw [retOf_rt, gcR_same]
end
end K42

/-! M24: _law_sets, _law_join. -/
namespace K42
open PySem VM L2
open Classical
section
variable {cs : Cs}
theorem p_ifr {P : SR → Prop} {sl : Sl} {cs1 cs2 : Cs} {t : Fn Bool} {e : Fn B} {g r : FnS} {b : B} (h : t sl cs = .ok true cs1) (he : e sl cs1 = .ok b cs2) (k : P (.rt b cs2)) : P (sSeq (sIf t (sRet e) g) r sl cs) := by
  rw [ap_sSeq, ap_sIf, h, sE_ok, if_pos rfl, ap_sRet, he, sE_ok]
  exact k
theorem ev2 (i : Int) : gMul (.d (.int 2)) (.d (.int i)) cs = .ok (.d (.int (2 * i))) cs := g_mul _ _ (mul_l (by decide) (by decide))
theorem F_sets0 : F__law_sets [.d (.int 0)] cs = .ok (.d (.int 1)) cs := by
  have r : iRange1 (aCons (eVar 0) aNil) [some (.d (.int 0)), some (.d (.int 1)), none] cs = .ok (rngI 0 1 0, fun _ => True) cs := ap_rng1 _ 0 _ rfl (by decide)
  unfold F__law_sets
  simp only [ap_mDef, ap_sNext, ap_sSeq, ap_sSet, ap_sExpr, ap_sRet, ap_sIf, ap_sPar, ap_sAsg, ap_sFldSet, ap_sPut, ap_sFor, ap_sBreak, ap_sNever, ap_sPass, ap_sCont, ap_tgName, ap_tgNil, ap_tgCons, ap_tgTupT, ap_tgTupL, ap_eVar, ap_eD, ap_eB, ap_eBin, ap_eUn, ap_eT, ap_eTru, ap_eNot, ap_eAnd, ap_eOr, ap_eNotV, ap_eAndV, ap_eOrV, ap_eIf, ap_eChain, ap_eFn, ap_eCall, ap_lCall, ap_aNil, ap_aCons, ap_aStar, ap_eTup, ap_lTake, ap_eFrz, ap_eCell, ap_lBin, ap_eBM, ap_eFld, ap_eMeth, ap_eMake, ap_eDNew, ap_eCutT, ap_oNone, ap_oSome, ap_eYes, g_add, g_sub, g_lt, g_le, g_gt, g_ge, isB_b, onB_b, tru_b, tru_i, g_int, g_intb, g_max, g_min, g_eqi, g_nei, retOf_nx, retOf_rt, ER.bind_ok, sE_ok, noEx_ok, List.map_cons, List.map_nil, List.length_cons, List.length_nil, List.replicate, List.cons_append, List.nil_append, List.getElem?_cons_succ, List.getElem?_cons_zero, List.set_cons_succ, List.set_cons_zero, if_true, reduceIte, Nat.zero_add, Nat.reduceAdd, Nat.reduceSub, Option.bind_some, allD_cons, allD_nil, Option.map_some, orE_ok, orE_no, and_self, Bool.false_eq_true, if_false, decide_true, decide_false, Bool.not_true, Bool.not_false, r, show rngI 0 1 0 = [] from rfl, loop_nilT, gcR_same]
theorem F_sets1 : F__law_sets [.d (.int 1)] cs = .ok (.d (.int 2)) cs := by
  have r : iRange1 (aCons (eVar 0) aNil) [some (.d (.int 1)), some (.d (.int 1)), none] cs = .ok (rngI 0 1 1, fun _ => True) cs := ap_rng1 _ 1 _ rfl (by decide)
  unfold F__law_sets
  simp only [ap_mDef, ap_sNext, ap_sSeq, ap_sSet, ap_sExpr, ap_sRet, ap_sIf, ap_sPar, ap_sAsg, ap_sFldSet, ap_sPut, ap_sFor, ap_sBreak, ap_sNever, ap_sPass, ap_sCont, ap_tgName, ap_tgNil, ap_tgCons, ap_tgTupT, ap_tgTupL, ap_eVar, ap_eD, ap_eB, ap_eBin, ap_eUn, ap_eT, ap_eTru, ap_eNot, ap_eAnd, ap_eOr, ap_eNotV, ap_eAndV, ap_eOrV, ap_eIf, ap_eChain, ap_eFn, ap_eCall, ap_lCall, ap_aNil, ap_aCons, ap_aStar, ap_eTup, ap_lTake, ap_eFrz, ap_eCell, ap_lBin, ap_eBM, ap_eFld, ap_eMeth, ap_eMake, ap_eDNew, ap_eCutT, ap_oNone, ap_oSome, ap_eYes, g_add, g_sub, g_lt, g_le, g_gt, g_ge, isB_b, onB_b, tru_b, tru_i, g_int, g_intb, g_max, g_min, g_eqi, g_nei, retOf_nx, retOf_rt, ER.bind_ok, sE_ok, noEx_ok, List.map_cons, List.map_nil, List.length_cons, List.length_nil, List.replicate, List.cons_append, List.nil_append, List.getElem?_cons_succ, List.getElem?_cons_zero, List.set_cons_succ, List.set_cons_zero, if_true, reduceIte, Nat.zero_add, Nat.reduceAdd, Nat.reduceSub, Option.bind_some, allD_cons, allD_nil, Option.map_some, orE_ok, orE_no, and_self, Bool.false_eq_true, if_false, decide_true, decide_false, Bool.not_true, Bool.not_false, r, show rngI 0 1 1 = [.d (.int 0)] from rfl, loop_consT, loop_nilT, ev2, show (2 : Int) * 1 = 2 from rfl, gcR_same]
theorem F_sets2 : F__law_sets [.d (.int 2)] cs = .ok (.d (.int 4)) cs := by
  have r : iRange1 (aCons (eVar 0) aNil) [some (.d (.int 2)), some (.d (.int 1)), none] cs = .ok (rngI 0 1 2, fun _ => True) cs := ap_rng1 _ 2 _ rfl (by decide)
  unfold F__law_sets
  simp only [ap_mDef, ap_sNext, ap_sSeq, ap_sSet, ap_sExpr, ap_sRet, ap_sIf, ap_sPar, ap_sAsg, ap_sFldSet, ap_sPut, ap_sFor, ap_sBreak, ap_sNever, ap_sPass, ap_sCont, ap_tgName, ap_tgNil, ap_tgCons, ap_tgTupT, ap_tgTupL, ap_eVar, ap_eD, ap_eB, ap_eBin, ap_eUn, ap_eT, ap_eTru, ap_eNot, ap_eAnd, ap_eOr, ap_eNotV, ap_eAndV, ap_eOrV, ap_eIf, ap_eChain, ap_eFn, ap_eCall, ap_lCall, ap_aNil, ap_aCons, ap_aStar, ap_eTup, ap_lTake, ap_eFrz, ap_eCell, ap_lBin, ap_eBM, ap_eFld, ap_eMeth, ap_eMake, ap_eDNew, ap_eCutT, ap_oNone, ap_oSome, ap_eYes, g_add, g_sub, g_lt, g_le, g_gt, g_ge, isB_b, onB_b, tru_b, tru_i, g_int, g_intb, g_max, g_min, g_eqi, g_nei, retOf_nx, retOf_rt, ER.bind_ok, sE_ok, noEx_ok, List.map_cons, List.map_nil, List.length_cons, List.length_nil, List.replicate, List.cons_append, List.nil_append, List.getElem?_cons_succ, List.getElem?_cons_zero, List.set_cons_succ, List.set_cons_zero, if_true, reduceIte, Nat.zero_add, Nat.reduceAdd, Nat.reduceSub, Option.bind_some, allD_cons, allD_nil, Option.map_some, orE_ok, orE_no, and_self, Bool.false_eq_true, if_false, decide_true, decide_false, Bool.not_true, Bool.not_false, r, show rngI 0 1 2 = [.d (.int 0), .d (.int 1)] from rfl, loop_consT, loop_nilT, ev2, show (2 : Int) * 1 = 2 from rfl, show (2 : Int) * 2 = 4 from rfl, gcR_same]
abbrev in3 (x a b c : Str) : Bool := [a, b, c].any fun y => y == x
theorem in_3 {x a b c : Str} {sl : Sl} {f : Fn B} (h : f sl cs = .ok (.d (.str x)) cs) : eT (eBin (gInU false) f (eFrz (lTake (aCons (eD (.str a)) (aCons (eD (.str b)) (aCons (eD (.str c)) aNil)))))) sl cs = .ok (in3 x a b c) cs := by
  have g : gInU false (.d (.str x)) (.d (.list [.str a, .str b, .str c])) cs = .ok (.d (.bool (in3 x a b c))) cs := by
    rw [ap_gInU, show ([.str a, .str b, .str c] : List D) = [a, b, c].map PyData.str from rfl, g_in_strs]
    rfl
  rw [ap_eT, bin_ok h (l_three rfl rfl rfl) g, ER.bind_ok, isB_b]
noncomputable def jW (K : Kd) (a b : Int) : Sl := [some (.d (.str K.s)), some (.d (.int 2)), some (.d (.int a)), some (.d (.int b)), none, none, none, none]
theorem so (K : Kd) : PyData.strOk K.s = true := by cases K <;> decide +kernel
/-- the comparing kinds -/
theorem join1 (K : Kd) (hK : K.w = 1) (a b : Int) : F__law_join [.d (.str K.s), .d (.int 2), .d (.int a), .d (.int b)] cs = .ok (.d (.int (opN K a b))) cs := by
  have h1 : in3 K.s "same" "less" "least" = true := by cases K <;> first | (cases hK; done) | decide
  unfold F__law_join
  rw [ap_mDef]
  have e : ∀ r : FnS, retOf (sSeq (sIf (eT (eBin (gInU false) (eVar 0) (eFrz (lTake (aCons (eD (.str "same")) (aCons (eD (.str "less")) (aCons (eD (.str "least")) aNil)))))))
  (sRet (eIf (eT (eBin gNe (eVar 0) (eD (.str "less")))) (eCall gInt (aCons (eOrV (eBin gEq (eVar 2) (eVar 3)) (eAndV (eBin gEq (eVar 0) (eD (.str "least"))) (eBin gLt (eVar 2) (eVar 3)))) aNil)) (eCall gInt (aCons (eBin gLt (eVar 2) (eVar 3)) aNil))))
  sNext) r (jW K a b) cs) = .ok (.d (.int (opN K a b))) cs := fun r => by
    have gn : gNe (.d (.str K.s)) (.d (.str "less")) cs = .ok (.d (.bool (!(K.s == ("less" : Str))))) cs := by
      unfold gNe
      simp only [bData]
      rw [if_pos ⟨shaped_str _ (so K), shaped_str _ so_less⟩, PyData.eqv.eq_def]
    have ge : gEq (.d (.str K.s)) (.d (.str "least")) cs = .ok (.d (.bool (K.s == ("least" : Str)))) cs := g_eqs _ _ (so K) so_least cs
    rw [ap_sSeq, sif_of (in_3 (x := K.s) rfl), if_pos h1, ap_sRet, ap_eIf, ap_eT, bin_ok (b := .d (.str "less")) (a := .d (.str K.s)) rfl rfl gn, ER.bind_ok, isB_b, ER.bind_ok]
    cases K <;> first | (cases hK; done) | skip
    · rw [if_pos (by decide), call_1 (v_or (bin_ok (a := .d (.int a)) (b := .d (.int b)) rfl rfl (g_eqi a b)) (q := false) (by
        rw [ap_eAndV, bin_ok (b := .d (.str "least")) (a := .d (.str Kd.same.s)) rfl rfl ge, ER.bind_ok, onB_b, if_neg (by decide)])) (g_intb _)]
      show ER.ok (B.d (.int (if (decide (a = b) || false) = true then 1 else 0))) cs = _
      rw [Bool.or_false]
      simp only [decide_eq_true_eq]
      rfl
    · rw [if_neg (by decide), call_1 (bin_ok (a := .d (.int a)) (b := .d (.int b)) rfl rfl (g_lt a b)) (g_intb _)]
      show ER.ok (B.d (.int (if (decide (a < b)) = true then 1 else 0))) cs = _
      simp only [decide_eq_true_eq]
      rfl
    · rw [if_pos (by decide), call_1 (v_or (bin_ok (a := .d (.int a)) (b := .d (.int b)) rfl rfl (g_eqi a b)) (q := decide (a < b)) (by
        rw [ap_eAndV, bin_ok (b := .d (.str "least")) (a := .d (.str Kd.least.s)) rfl rfl ge, ER.bind_ok, onB_b, if_pos (by decide), bin_ok (a := .d (.int a)) (b := .d (.int b)) rfl rfl (g_lt a b)])) (g_intb _)]
      show ER.ok (B.d (.int (if (decide (a = b) || decide (a < b)) = true then 1 else 0))) cs = ER.ok (B.d (.int (if a ≤ b then 1 else 0))) cs
      congr 3
      by_cases h : a ≤ b
      · rw [if_pos h, if_pos (by simp; omega)]
      · rw [if_neg h, if_neg (by simp; omega)]
  show gcR cs (retOf _) = _
  rw [show ([.d (.str K.s), .d (.int 2), .d (.int a), .d (.int b)] : List B).map some ++ List.replicate (8 - ([.d (.str K.s), .d (.int 2), .d (.int a), .d (.int b)] : List B).length) none = jW K a b from rfl, e, gcR_same]
def Kd.ar : Kd → Bool
  | .add => true | .sub => true | .mul => true | _ => false
theorem mod4 (i : Int) : gMod (.d (.int i)) (.d (.int 4)) cs = .ok (.d (.int (i % 4))) cs := g_mod _ _ (by decide)
theorem mod2 (i : Int) : gMod (.d (.int i)) (.d (.int 2)) cs = .ok (.d (.int (i % 2))) cs := g_mod _ _ (by decide)
/-- the kinds that reckon -/
theorem join2 (K : Kd) (hK : K.ar = true) (a b : Int) (ha : -(2 ^ 64) < a ∧ a < 2 ^ 64) : F__law_join [.d (.str K.s), .d (.int 2), .d (.int a), .d (.int b)] cs = .ok (.d (.int (opN K a b))) cs := by
  have h1 : in3 K.s "same" "less" "least" = false := by cases K <;> first | (cases hK; done) | decide
  have h2 : in3 K.s "add" "sub" "mul" = true := by cases K <;> first | (cases hK; done) | decide
  unfold F__law_join
  rw [ap_mDef]
  show gcR cs (retOf _) = _
  refine p_if0 (P := fun r => gcR cs (retOf r) = _) ((in_3 (x := K.s) rfl).trans (by rw [h1])) ?_
  have g1 : gEq (.d (.str K.s)) (.d (.str "add")) cs = .ok (.d (.bool (K.s == ("add" : Str)))) cs := g_eqs _ _ (so K) so_add cs
  have g2 : gEq (.d (.str K.s)) (.d (.str "sub")) cs = .ok (.d (.bool (K.s == ("sub" : Str)))) cs := g_eqs _ _ (so K) so_sub cs
  have key : ∀ sl : Sl, sl = jW K a b → eIf (eT (eBin gEq (eVar 0) (eD (.str "add")))) (eBin (gAlt gAdd gCatT) (eVar 2) (eVar 3)) (eIf (eT (eBin gEq (eVar 0) (eD (.str "sub")))) (eBin gSub (eVar 2) (eVar 3)) (eBin gMul (eVar 2) (eVar 3))) sl cs = .ok (.d (.int (match K with | .add => a + b | .sub => a - b | _ => a * b))) cs := fun sl hs => by
    subst hs
    rw [ap_eIf, ap_eT, bin_ok (b := .d (.str "add")) (a := .d (.str K.s)) rfl rfl g1, ER.bind_ok, isB_b, ER.bind_ok]
    cases K <;> first | (cases hK; done) | skip
    · rw [if_pos (by decide)]
      exact bin_ok (a := .d (.int a)) (b := .d (.int b)) rfl rfl rfl
    · rw [if_neg (by decide), ap_eIf, ap_eT, bin_ok (b := .d (.str "sub")) (a := .d (.str Kd.sub.s)) rfl rfl g2, ER.bind_ok, isB_b, ER.bind_ok, if_pos (by decide)]
      exact bin_ok (a := .d (.int a)) (b := .d (.int b)) rfl rfl rfl
    · rw [if_neg (by decide), ap_eIf, ap_eT, bin_ok (b := .d (.str "sub")) (a := .d (.str Kd.mul.s)) rfl rfl g2, ER.bind_ok, isB_b, ER.bind_ok, if_neg (by decide)]
      exact bin_ok (a := .d (.int a)) (b := .d (.int b)) rfl rfl (g_mul _ _ (mul_l ha.1 ha.2))
  refine p_ifr (P := fun r => gcR cs (retOf r) = _) ((in_3 (x := K.s) rfl).trans (by rw [h2])) (call_1 (bin_ok (key _ rfl) (fn_1 rfl F_sets2) (mod4 _)) (g_int _)) ?_
  rw [retOf_rt, gcR_same]
  cases K <;> first | (cases hK; done) | rfl
def Kd.lg : Kd → Bool
  | .and => true | .or => true | .xor => true | _ => false
theorem div1 (i : Int) : gDiv (.d (.int i)) (.d (.int 1)) cs = .ok (.d (.int i)) cs := by
  rw [g_div _ _ ⟨by decide, by decide⟩, Int.ediv_one]
theorem div2 (i : Int) : gDiv (.d (.int i)) (.d (.int 2)) cs = .ok (.d (.int (i / 2))) cs := g_div _ _ ⟨by decide, by decide⟩
/-- a number's bits -/
def pt (c : Int) : Int → Int := fun i => if i = 0 then c % 2 else c / 2 % 2
def jB (K : Kd) (p q : Int) : Int := match K with | .and => if p < q then p else q | .or => if p > q then p else q | _ => if p = q then 0 else 1
noncomputable abbrev bitE (v : Nat) : Fn B := eCall gInt (aCons (eBin gMod (eCall gInt (aCons (eBin gDiv (eVar v) (eFn 1 F__law_sets (aCons (eVar 6) aNil))) aNil)) (eD (.int 2))) aNil)
theorem bit_e {sl : Sl} {v : Nat} {c i : Int} (hi : i = 0 ∨ i = 1) (h6 : eVar 6 sl cs = .ok (.d (.int i)) cs) (hv : eVar v sl cs = .ok (.d (.int c)) cs) : bitE v sl cs = .ok (.d (.int (pt c i))) cs := by
  rcases hi with rfl | rfl
  · exact call_1 (bin_ok (call_1 (bin_ok hv (fn_1 h6 F_sets0) (div1 c)) (g_int _)) rfl (mod2 _)) (g_int _)
  · exact call_1 (bin_ok (call_1 (bin_ok hv (fn_1 h6 F_sets1) (div2 c)) (g_int _)) rfl (mod2 _)) (g_int _)
abbrev dP (a b i : Int) : D := .tuple [.int (pt a i), .int (pt b i)]
theorem rng2 {sl : Sl} (h : eVar 1 sl cs = .ok (.d (.int 2)) cs) : iRange1 (aCons (eVar 1) aNil) sl cs = .ok (([0, 1] : List Int).map fun i => .d (.int i), fun _ => True) cs := by
  rw [ap_rng1 _ 2 cs ?_ (by decide)]
  · rfl
  · rw [ap_aCons, h, ER.bind_ok, ap_aNil, ER.bind_ok]
    rfl
theorem len2 {α : Type} {f : Int → α} : (([0, 1] : List Int).map f).length < sizeLine := by rw [sizeLine_eq, List.length_map]; decide
theorem mem01 {i : Int} (h : i ∈ ([0, 1] : List Int)) : i = 0 ∨ i = 1 := by simpa using h
/-- the kinds by bits -/
theorem join3 (K : Kd) (hK : K.lg = true) (a b : Int) : F__law_join [.d (.str K.s), .d (.int 2), .d (.int a), .d (.int b)] cs = .ok (.d (.int (jB K (pt a 0) (pt b 0) * 1 + (jB K (pt a 1) (pt b 1) * 2 + 0)))) cs := by
  have h1 : in3 K.s "same" "less" "least" = false := by cases K <;> first | (cases hK; done) | decide
  have h2 : in3 K.s "add" "sub" "mul" = false := by cases K <;> first | (cases hK; done) | decide
  unfold F__law_join
  rw [ap_mDef]
  show gcR cs (retOf _) = _
  refine p_if0 (P := fun r => gcR cs (retOf r) = _) ((in_3 (x := K.s) rfl).trans (by rw [h1])) ?_
  refine p_if0 (P := fun r => gcR cs (retOf r) = _) ((in_3 (x := K.s) rfl).trans (by rw [h2])) ?_
  refine p_set (P := fun r => gcR cs (retOf r) = _) (cs1 := cs) (b := .d (.list [dP a b 0, dP a b 1])) (sl1 := [some (.d (.str K.s)), some (.d (.int 2)), some (.d (.int a)), some (.d (.int b)), some (.d (.list [dP a b 0, dP a b 1])), none, none, none]) ?_ rfl ?_
  · rw [ap_eFrz, ap_lComp (rng2 rfl) len2, lc_map (okc := fun _ => True) trivial (fun i : Int => B.d (.int i)) (fun i : Int => B.d (dP a b i)) [0, 1] (fun i hi => ⟨[some (.d (.str K.s)), some (.d (.int 2)), some (.d (.int a)), some (.d (.int b)), none, none, some (.d (.int i)), none], rfl, tup_two (bit_e (mem01 hi) rfl rfl) (bit_e (mem01 hi) rfl rfl)⟩), ER.bind_ok]
    rfl
  refine p_set (P := fun r => gcR cs (retOf r) = _) (cs1 := cs) (b := .d (.list [.int (jB K (pt a 0) (pt b 0)), .int (jB K (pt a 1) (pt b 1))])) (sl1 := [some (.d (.str K.s)), some (.d (.int 2)), some (.d (.int a)), some (.d (.int b)), some (.d (.list [dP a b 0, dP a b 1])), some (.d (.list [.int (jB K (pt a 0) (pt b 0)), .int (jB K (pt a 1) (pt b 1))])), none, none]) ?_ rfl ?_
  · have g1 : gEq (.d (.str K.s)) (.d (.str "and")) cs = .ok (.d (.bool (K.s == ("and" : Str)))) cs := g_eqs _ _ (so K) so_and cs
    have g2 : gEq (.d (.str K.s)) (.d (.str "or")) cs = .ok (.d (.bool (K.s == ("or" : Str)))) cs := g_eqs _ _ (so K) so_or cs
    have sq : iSeq (eVar 4) [some (.d (.str K.s)), some (.d (.int 2)), some (.d (.int a)), some (.d (.int b)), some (.d (.list [dP a b 0, dP a b 1])), none, none, none] cs = .ok (([0, 1] : List Int).map fun i => .d (dP a b i), fun _ => True) cs := rfl
    rw [ap_eFrz, ap_lComp sq len2, lc_map (okc := fun _ => True) trivial (fun i : Int => B.d (dP a b i)) (fun i : Int => B.d (.int (jB K (pt a i) (pt b i)))) [0, 1] (fun i hi => ⟨[some (.d (.str K.s)), some (.d (.int 2)), some (.d (.int a)), some (.d (.int b)), some (.d (.list [dP a b 0, dP a b 1])), none, none, some (.d (dP a b i))], rfl, ?_⟩), ER.bind_ok]
    · rfl
    · rw [ap_eIf, ap_eT, bin_ok (b := .d (.str "and")) (a := .d (.str K.s)) rfl rfl g1, ER.bind_ok, isB_b, ER.bind_ok]
      cases K <;> first | (cases hK; done) | skip
      · rw [if_pos (by decide)]
        exact call_1 (a := .d (dP a b i)) rfl rfl
      · rw [if_neg (by decide), ap_eIf, ap_eT, bin_ok (b := .d (.str "or")) (a := .d (.str Kd.or.s)) rfl rfl g2, ER.bind_ok, isB_b, ER.bind_ok, if_pos (by decide)]
        exact call_1 (a := .d (dP a b i)) rfl rfl
      · rw [if_neg (by decide), ap_eIf, ap_eT, bin_ok (b := .d (.str "or")) (a := .d (.str Kd.xor.s)) rfl rfl g2, ER.bind_ok, isB_b, ER.bind_ok, if_neg (by decide)]
        rw [call_1 (bin_ok (a := .d (.int (pt a i))) (b := .d (.int (pt b i))) (bin_ok (a := .d (dP a b i)) (b := .d (.int 0)) rfl rfl (g_ix_t _ _ _ rfl)) (bin_ok (a := .d (dP a b i)) (b := .d (.int 1)) rfl rfl (g_ix_t _ _ _ rfl)) (g_nei _ _)) (g_intb _)]
        show ER.ok (B.d (.int (if (!decide (pt a i = pt b i)) = true then 1 else 0))) cs = ER.ok (B.d (.int (if pt a i = pt b i then 0 else 1))) cs
        congr 3
        by_cases h : pt a i = pt b i
        · rw [if_neg (by simp [h]), if_pos h]
        · rw [if_pos (by simp [h]), if_neg h]
  refine p_ret (P := fun r => gcR cs (retOf r) = _) (b := .d (.int (jB K (pt a 0) (pt b 0) * 1 + (jB K (pt a 1) (pt b 1) * 2 + 0)))) (cs1 := cs) ?_ ?_
  · refine call_1 (a := .d (.list ([jB K (pt a 0) (pt b 0) * 1, jB K (pt a 1) (pt b 1) * 2].map PyData.int))) (cs1 := cs) ?_ (gSum_l _)
    rw [ap_eFrz, ap_lComp (rng2 rfl) len2, lc_map (okc := fun _ => True) trivial (fun i : Int => B.d (.int i)) (fun i : Int => B.d (.int (jB K (pt a i) (pt b i) * (if i = 0 then 1 else 2)))) [0, 1] (fun i hi => ⟨[some (.d (.str K.s)), some (.d (.int 2)), some (.d (.int a)), some (.d (.int b)), some (.d (.list [dP a b 0, dP a b 1])), some (.d (.list [.int (jB K (pt a 0) (pt b 0)), .int (jB K (pt a 1) (pt b 1))])), some (.d (.int i)), none], rfl, ?_⟩), ER.bind_ok]
    · rfl
    · rcases mem01 hi with rfl | rfl
      · exact bin_ok (bin_ok (a := .d (.list [.int (jB K (pt a 0) (pt b 0)), .int (jB K (pt a 1) (pt b 1))])) (b := .d (.int 0)) rfl rfl (g_ix_l _ _ _ rfl)) (fn_1 rfl F_sets0) (g_mul _ _ (mul_r (by decide) (by decide)))
      · exact bin_ok (bin_ok (a := .d (.list [.int (jB K (pt a 0) (pt b 0)), .int (jB K (pt a 1) (pt b 1))])) (b := .d (.int 1)) rfl rfl (g_ix_l _ _ _ rfl)) (fn_1 rfl F_sets1) (g_mul _ _ (mul_r (by decide) (by decide)))
  · rw [retOf_rt, gcR_same]
theorem join3_num : ∀ K : Kd, K.lg = true → ∀ a b : Fin 4, jB K (pt a.val 0) (pt b.val 0) * 1 + (jB K (pt a.val 1) (pt b.val 1) * 2 + 0) = opN K a.val b.val := by
  intro K h
  cases K <;> first | (cases h; done) | decide
theorem F_joins (K : Kd) (a b : Fin 4) : F__law_join [.d (.str K.s), .d (.int 2), .d (.int (a.val : Nat)), .d (.int (b.val : Nat))] cs = .ok (.d (.int (opN K a.val b.val))) cs := by
  have ha := a.isLt
  cases h1 : K.lg with
  | true => rw [join3 K h1, join3_num K h1]
  | false =>
    cases h2 : K.ar with
    | true => exact join2 K h2 _ _ (by omega)
    | false => exact join1 K (by cases K <;> first | (cases h1; done) | (cases h2; done) | rfl) _ _
end
end K42

/-! M25: what is drawn. -/
namespace VM
open PySem L2
open Classical
section
variable {sl : Sl} {cs cs1 cs2 cs3 : Cs}
theorem bin_gen {g : B → B → Cs → ER B} {f1 f2 : Fn B} {a b : B} {r : ER B} (h1 : f1 sl cs = .ok a cs1) (h2 : f2 sl cs1 = .ok b cs2) (h : g a b cs2 = r) : eBin g f1 f2 sl cs = r := by rw [ap_eBin, h1, ER.bind_ok, h2, ER.bind_ok, h]
theorem fn_g1 {g : List B → Cs → ER B} {f1 : Fn B} {b1 : B} {r : ER B} (h1 : f1 sl cs = .ok b1 cs1) (h : g [b1] cs1 = r) : eFn 1 g (aCons f1 aNil) sl cs = r := by
  rw [ap_eFn, ap_aCons, h1, ER.bind_ok, ap_aNil, ER.bind_ok, ER.bind_ok, if_pos (show ([b1] : List B).length = 1 from rfl), h]
/-- a cell of ints -/
abbrev IL (xs : List Int) : Cell := .lst (xs.map fun i => .d (.int i))
theorem il_low (xs : List Int) (n : Nat) : (IL xs).low n := by
  intro b hb
  obtain ⟨i, _, rfl⟩ := List.mem_map.mp hb
  trivial
theorem il_app (xs : List Int) (i : Int) : Cell.lst ((xs.map fun i => B.d (.int i)) ++ [.d (.int i)]) = IL (xs ++ [i]) := by rw [show IL (xs ++ [i]) = .lst ((xs ++ [i]).map fun i => .d (.int i)) from rfl, List.map_append]; rfl
theorem app_il {k : Nat} {xs : List Int} {i : Int} {f : Fn B} (hk : cs[k]? = some (IL xs)) (hl : xs.length ≤ 100000) {j : Nat} (hj : eVar j sl cs = .ok (.r k) cs) (hf : f sl cs = .ok (.d (.int i)) cs) : eBM isLst gAppend (eVar j) (aCons f aNil) sl cs = .ok (.d .none) (cs.set k (IL (xs ++ [i]))) := by
  rw [ap_eBM, hj, ER.bind_ok]
  simp only
  rw [hk, if_pos (show isLst (some (IL xs)) = true from rfl), ap_aCons, hf, ER.bind_ok, ap_aNil, ER.bind_ok, ER.bind_ok]
  unfold gAppend
  simp only [hk]
  rw [if_pos (by rw [List.length_map, sizeLine_eq]; omega), il_app]
/-- a row whose turns draw -/
theorem lc_ex {tf : TgF} {te : Fn B} {sl : Sl} (I : Cs → Prop) (Q : B → B → Prop) : ∀ (items : List B), (∀ b ∈ items, ∀ cs, I cs → ∃ sl1 v cs1, tf b sl = some sl1 ∧ te sl1 cs = .ok v cs1 ∧ I cs1 ∧ Q b v) → ∀ cs, I cs → ∃ vs cs1, lcLoop (fun _ => True) tf eYes te sl items cs = .ok vs cs1 ∧ I cs1 ∧ Paired Q items vs
  | [], _, cs, h => ⟨[], cs, by rw [lc_nilT], h, .nil⟩
  | b :: r, hs, cs, h => by
    obtain ⟨sl1, v, cs1, e1, e2, h1, q⟩ := hs b List.mem_cons_self cs h
    obtain ⟨vs, cs2, e3, h2, p⟩ := lc_ex I Q r (fun b hb => hs b (List.mem_cons_of_mem _ hb)) cs1 h1
    refine ⟨v :: vs, cs2, ?_, h2, .cons q p⟩
    unfold lcLoop
    rw [if_pos trivial, e1]
    simp only [ap_eYes, noEx_ok, ER.bind_ok, if_true, e2, e3]
end
end VM
namespace K42
open PySem VM L2
open Classical
section
variable {cs : Cs}
theorem F_num (i : Int) : ∃ j : Int, F__law_number [.d (.int i)] cs = .ok (.d (.int j)) cs := by
  refine ⟨if i < 0 then 0 - i else i, ?_⟩
  unfold F__law_number
  by_cases h : i < 0
  · simp only [ap_mDef, ap_sNext, ap_sSeq, ap_sSet, ap_sExpr, ap_sRet, ap_sIf, ap_sPar, ap_sAsg, ap_sFldSet, ap_sPut, ap_sFor, ap_sBreak, ap_sNever, ap_sPass, ap_sCont, ap_tgName, ap_tgNil, ap_tgCons, ap_tgTupT, ap_tgTupL, ap_eVar, ap_eD, ap_eB, ap_eBin, ap_eUn, ap_eT, ap_eTru, ap_eNot, ap_eAnd, ap_eOr, ap_eNotV, ap_eAndV, ap_eOrV, ap_eIf, ap_eChain, ap_eFn, ap_eCall, ap_lCall, ap_aNil, ap_aCons, ap_aStar, ap_eTup, ap_lTake, ap_eFrz, ap_eCell, ap_lBin, ap_eBM, ap_eFld, ap_eMeth, ap_eMake, ap_eDNew, ap_eCutT, ap_oNone, ap_oSome, ap_eYes, g_add, g_sub, g_lt, g_le, g_gt, g_ge, isB_b, onB_b, tru_b, tru_i, g_int, g_intb, g_max, g_min, g_eqi, g_nei, retOf_nx, retOf_rt, ER.bind_ok, sE_ok, noEx_ok, List.map_cons, List.map_nil, List.length_cons, List.length_nil, List.replicate, List.cons_append, List.nil_append, List.getElem?_cons_succ, List.getElem?_cons_zero, List.set_cons_succ, List.set_cons_zero, if_true, reduceIte, Nat.zero_add, Nat.reduceAdd, Nat.reduceSub, Option.bind_some, allD_cons, allD_nil, Option.map_some, orE_ok, orE_no, and_self, Bool.false_eq_true, if_false, decide_true, decide_false, Bool.not_true, Bool.not_false, h, gcR_same]
  · simp only [ap_mDef, ap_sNext, ap_sSeq, ap_sSet, ap_sExpr, ap_sRet, ap_sIf, ap_sPar, ap_sAsg, ap_sFldSet, ap_sPut, ap_sFor, ap_sBreak, ap_sNever, ap_sPass, ap_sCont, ap_tgName, ap_tgNil, ap_tgCons, ap_tgTupT, ap_tgTupL, ap_eVar, ap_eD, ap_eB, ap_eBin, ap_eUn, ap_eT, ap_eTru, ap_eNot, ap_eAnd, ap_eOr, ap_eNotV, ap_eAndV, ap_eOrV, ap_eIf, ap_eChain, ap_eFn, ap_eCall, ap_lCall, ap_aNil, ap_aCons, ap_aStar, ap_eTup, ap_lTake, ap_eFrz, ap_eCell, ap_lBin, ap_eBM, ap_eFld, ap_eMeth, ap_eMake, ap_eDNew, ap_eCutT, ap_oNone, ap_oSome, ap_eYes, g_add, g_sub, g_lt, g_le, g_gt, g_ge, isB_b, onB_b, tru_b, tru_i, g_int, g_intb, g_max, g_min, g_eqi, g_nei, retOf_nx, retOf_rt, ER.bind_ok, sE_ok, noEx_ok, List.map_cons, List.map_nil, List.length_cons, List.length_nil, List.replicate, List.cons_append, List.nil_append, List.getElem?_cons_succ, List.getElem?_cons_zero, List.set_cons_succ, List.set_cons_zero, if_true, reduceIte, Nat.zero_add, Nat.reduceAdd, Nat.reduceSub, Option.bind_some, allD_cons, allD_nil, Option.map_some, orE_ok, orE_no, and_self, Bool.false_eq_true, if_false, decide_true, decide_false, Bool.not_true, Bool.not_false, h, gcR_same]
theorem div1000 (i : Int) : gDiv (.d (.int i)) (.d (.int 1000)) cs = .ok (.d (.int (i / 1000))) cs := g_div _ _ ⟨by decide, by decide⟩
theorem modN (i j : Int) (h : 0 < j) : gMod (.d (.int i)) (.d (.int j)) cs = .ok (.d (.int (i % j))) cs := g_mod _ _ h
theorem mulR (i j : Int) (h1 : -(2 ^ 64) < j) (h2 : j < 2 ^ 64) : gMul (.d (.int i)) (.d (.int j)) cs = .ok (.d (.int (i * j))) cs := g_mul _ _ (mul_r h1 h2)
theorem mulL (i j : Int) (h1 : -(2 ^ 64) < i) (h2 : i < 2 ^ 64) : gMul (.d (.int i)) (.d (.int j)) cs = .ok (.d (.int (i * j))) cs := g_mul _ _ (mul_l h1 h2)
/-- the slots and cells while it is drawn -/
def DI (s : B) (m : Nat) (sl : Sl) (cs : Cs) : Prop := ∃ x2 x3 x4 x5 x6 xs t, sl = [some s, some (.r 0), x2, x3, x4, x5, x6] ∧ cs = IL xs :: t ∧ xs.length ≤ m
def DJ (s : B) (m : Nat) (sl : Sl) (cs : Cs) : Prop := ∃ x2 r x4 x5 x6 xs t, sl = [some s, some (.r 0), x2, some (.d (.int r)), x4, x5, x6] ∧ cs = IL xs :: t ∧ xs.length ≤ m
noncomputable def drIn : FnS := (sSeq (sIf (eT (eBin gEq (eVar 3) (eD (.int 0))))
  sBreak
  sNext)
  (sSeq (sExpr (eBM isLst gAppend (eVar 1) (aCons (eBin gMod (eCall gInt (aCons (eVar 3) aNil)) (eD (.int 1000))) aNil)))
  (sSet 3 (eBin gDiv (eVar 3) (eD (.int 1000))))))
theorem dr_in (s : B) (m : Nat) (hm : m ≤ 50000) (x2 x4 x5 x6 : Option B) (r : Int) (xs : List Int) (t : Cs) (hx : xs.length ≤ m) :
    ∃ sl' cs', sFor (iRange1 (aCons (eD (.int 60)) aNil)) (tgName 4) drIn [some s, some (.r 0), x2, some (.d (.int r)), x4, x5, x6] (IL xs :: t) = .nx sl' cs' ∧ DI s (m + 60) sl' cs' := by
  have r1 : iRange1 (aCons (eD (.int 60)) aNil) [some s, some (.r 0), x2, some (.d (.int r)), x4, x5, x6] (IL xs :: t) = .ok (rngI 0 1 60, fun _ => True) (IL xs :: t) := ap_rng1 _ 60 _ rfl (by decide)
  rw [ap_sFor, r1, sE_ok]
  have lo := loop_or (okc := fun _ => True) (tf := tgName 4) (body := drIn) (fun i sl c => DJ s (m + i) sl c) (fun r => ∃ sl' cs', r = .nx sl' cs' ∧ DI s (m + 60) sl' cs') (rngI 0 1 60) 0 [some s, some (.r 0), x2, some (.d (.int r)), x4, x5, x6] (IL xs :: t) ⟨x2, r, x4, x5, x6, xs, t, rfl, rfl, hx⟩ (fun _ _ _ => trivial)
    (by
      rintro i b sl c hb ⟨x2, r, x4, x5, x6, xs, t, rfl, rfl, h3⟩
      have hi := (List.getElem?_eq_some_iff.mp hb).1
      rw [rngI_len] at hi
      refine ⟨trivial, [some s, some (.r 0), x2, some (.d (.int r)), some b, x5, x6], rfl, ?_⟩
      by_cases h0 : r = 0
      · refine .inr (.inr ⟨_, _, ?_, _, _, rfl, x2, some (.d (.int r)), some b, x5, x6, xs, t, rfl, rfl, by omega⟩)
        unfold drIn
        rw [ap_sSeq, sif_of (k := true) (c1 := IL xs :: t) (by rw [ap_eT, bin_ok (a := .d (.int r)) (b := .d (.int 0)) rfl rfl (g_eqi r 0), ER.bind_ok, isB_b, h0]; rfl), if_pos rfl, ap_sBreak]
      · refine .inl ⟨_, _, .inl ?_, x2, r / 1000, some b, x5, x6, xs ++ [r % 1000], t, rfl, rfl, by rw [List.length_append]; simp; omega⟩
        unfold drIn
        refine p_if0 (P := fun z => z = _) (cs1 := IL xs :: t) (by rw [ap_eT, bin_ok (a := .d (.int r)) (b := .d (.int 0)) rfl rfl (g_eqi r 0), ER.bind_ok, isB_b, decide_eq_false h0]) ?_
        refine p_expr (P := fun z => z = _) (app_il (k := 0) (xs := xs) (i := r % 1000) rfl (by omega) rfl (bin_ok (call_1 (a := .d (.int r)) rfl (g_int r)) rfl (modN _ _ (by decide)))) ?_
        refine p_set1 (P := fun z => z = _) (cs1 := IL (xs ++ [r % 1000]) :: t) (bin_ok (a := .d (.int r)) rfl rfl (div1000 r)) rfl)
  rcases lo with ⟨sl', cs', e, x2, r, x4, x5, x6, xs, t, h1, h2, h3⟩ | h
  · exact ⟨sl', cs', e, x2, _, x4, x5, x6, xs, t, h1, h2, by rw [rngI_len] at h3; omega⟩
  · exact h
noncomputable def drBody : FnS := (sSeq (sSet 3 (eFn 1 F__law_number (aCons (eVar 2) aNil)))
  (sIf (eT (eBin gGe (eVar 3) (eD (.int 1000000000000000000))))
  (sFor (iRange1 (aCons (eD (.int 60)) aNil)) (tgName 4) drIn)
  (sSeq (sSet 5 (eBin gMod (eCall gInt (aCons (eBin gAdd (eBin gMul (eVar 3) (eD (.int 48271))) (eD (.int 11))) aNil)) (eD (.int 2147483647))))
  (sSeq (sSet 6 (eBin gMod (eCall gInt (aCons (eBin gAdd (eBin gMul (eVar 5) (eD (.int 69621))) (eVar 3)) aNil)) (eD (.int 2147483629))))
  (sExpr (eBM isLst gExtend (eVar 1) (aCons (eCell (lTake (aCons (eBin gMod (eCall gInt (aCons (eVar 3) aNil)) (eD (.int 1000))) (aCons (eBin gMod (eCall gInt (aCons (eVar 5) aNil)) (eD (.int 1000))) (aCons (eBin gMod (eCall gInt (aCons (eVar 6) aNil)) (eD (.int 1000))) aNil))))) aNil)))))))
theorem dr_turn (s : B) (m : Nat) (hm : m ≤ 50000) (n : Int) (sl : Sl) (c : Cs) (h : DI s m sl c) : ∃ sl1, tgName 2 (.d (.int n)) sl = some sl1 ∧ ∃ sl2 cs2, drBody sl1 c = .nx sl2 cs2 ∧ DI s (m + 60) sl2 cs2 := by
  obtain ⟨x2, x3, x4, x5, x6, xs, t, rfl, rfl, hx⟩ := h
  refine ⟨[some s, some (.r 0), some (.d (.int n)), x3, x4, x5, x6], rfl, ?_⟩
  obtain ⟨r, hr⟩ := F_num (cs := IL xs :: t) n
  unfold drBody
  refine p_set (P := fun z => ∃ sl2 cs2, z = .nx sl2 cs2 ∧ DI s (m + 60) sl2 cs2) (sl1 := [some s, some (.r 0), some (.d (.int n)), some (.d (.int r)), x4, x5, x6]) (fn_1 rfl hr) rfl ?_
  try dsimp only
  rw [sif_of (c1 := IL xs :: t) (k := decide (1000000000000000000 ≤ r)) (by rw [ap_eT, bin_ok (a := .d (.int r)) (b := .d (.int 1000000000000000000)) rfl rfl (g_ge r _), ER.bind_ok, isB_b])]
  by_cases hg : 1000000000000000000 ≤ r
  · rw [if_pos (decide_eq_true hg)]
    exact dr_in s m hm _ x4 x5 x6 r xs t hx
  · rw [if_neg (by simp; omega)]
    refine p_set (P := fun z => ∃ sl2 cs2, z = .nx sl2 cs2 ∧ DI s (m + 60) sl2 cs2) (sl1 := [some s, some (.r 0), some (.d (.int n)), some (.d (.int r)), x4, some (.d (.int ((r * 48271 + 11) % 2147483647))), x6]) (bin_ok (call_1 (bin_ok (bin_ok (a := .d (.int r)) rfl rfl (mulR r _ (by decide) (by decide))) rfl (g_add _ _)) (g_int _)) rfl (modN _ _ (by decide))) rfl ?_
    generalize (r * 48271 + 11) % 2147483647 = o
    refine p_set (P := fun z => ∃ sl2 cs2, z = .nx sl2 cs2 ∧ DI s (m + 60) sl2 cs2) (sl1 := [some s, some (.r 0), some (.d (.int n)), some (.d (.int r)), x4, some (.d (.int o)), some (.d (.int ((o * 69621 + r) % 2147483629)))]) (bin_ok (call_1 (bin_ok (bin_ok (a := .d (.int o)) rfl rfl (mulR o _ (by decide) (by decide))) (b := .d (.int r)) rfl (g_add _ _)) (g_int _)) rfl (modN _ _ (by decide))) rfl ?_
    generalize (o * 69621 + r) % 2147483629 = q
    try dsimp only
    have tk : eCell (lTake (aCons (eBin gMod (eCall gInt (aCons (eVar 3) aNil)) (eD (.int 1000))) (aCons (eBin gMod (eCall gInt (aCons (eVar 5) aNil)) (eD (.int 1000))) (aCons (eBin gMod (eCall gInt (aCons (eVar 6) aNil)) (eD (.int 1000))) aNil)))) [some s, some (.r 0), some (.d (.int n)), some (.d (.int r)), x4, some (.d (.int o)), some (.d (.int q))] (IL xs :: t) = .ok (.r (t.length + 1)) (IL xs :: t ++ [IL [r % 1000, o % 1000, q % 1000]]) := by
      rw [ap_eCell, ap_lTake, ap_aCons, bin_ok (call_1 (a := .d (.int r)) rfl (g_int r)) rfl (modN _ 1000 (by decide)), ER.bind_ok, ap_aCons, bin_ok (call_1 (a := .d (.int o)) rfl (g_int o)) rfl (modN _ 1000 (by decide)), ER.bind_ok, ap_aCons, bin_ok (call_1 (a := .d (.int q)) rfl (g_int q)) rfl (modN _ 1000 (by decide)), ER.bind_ok, ap_aNil, ER.bind_ok, ER.bind_ok, ER.bind_ok, ER.bind_ok, if_pos (tk_len (by simp)), ER.bind_ok]
      rfl
    have ex : eBM isLst gExtend (eVar 1) (aCons (eCell (lTake (aCons (eBin gMod (eCall gInt (aCons (eVar 3) aNil)) (eD (.int 1000))) (aCons (eBin gMod (eCall gInt (aCons (eVar 5) aNil)) (eD (.int 1000))) (aCons (eBin gMod (eCall gInt (aCons (eVar 6) aNil)) (eD (.int 1000))) aNil))))) aNil) [some s, some (.r 0), some (.d (.int n)), some (.d (.int r)), x4, some (.d (.int o)), some (.d (.int q))] (IL xs :: t) = .ok (.d .none) (IL (xs ++ [r % 1000, o % 1000, q % 1000]) :: (t ++ [IL [r % 1000, o % 1000, q % 1000]])) := by
      rw [ap_eBM, show eVar 1 [some s, some (.r 0), some (.d (.int n)), some (.d (.int r)), x4, some (.d (.int o)), some (.d (.int q))] (IL xs :: t) = .ok (.r 0) (IL xs :: t) from rfl, ER.bind_ok]
      simp only
      rw [if_pos (show isLst (IL xs :: t : Cs)[0]? = true from rfl), ap_aCons, tk, ER.bind_ok, ap_aNil, ER.bind_ok, ER.bind_ok]
      have e1 : (IL xs :: t ++ [IL [r % 1000, o % 1000, q % 1000]] : Cs)[t.length + 1]? = some (IL [r % 1000, o % 1000, q % 1000]) := by
        rw [List.getElem?_append_right (by simp)]
        simp
      have e0 : (IL xs :: t ++ [IL [r % 1000, o % 1000, q % 1000]] : Cs)[0]? = some (IL xs) := rfl
      unfold gExtend
      simp only [e0, e1]
      rw [if_pos (by rw [List.length_map, List.length_map, sizeLine_eq]; simp; omega), ← List.map_append]
      rfl
    rw [ap_sExpr, ex, sE_ok]
    exact ⟨_, _, rfl, _, _, _, _, _, _, _, rfl, rfl, by rw [List.length_append]; simp; omega⟩
theorem F_draws (ns : List Int) (hn : ns.length ≤ 63) : ∃ xs : List Int, F__law_draws [.k (.list (ns.map PyData.int))] [] = .ok (.r 0) [IL xs] ∧ xs.length ≤ 3780 := by
  have e0 : F__law_draws = mDef 7 (sSeq (sSet 1 (eCell (lTake aNil))) (sSeq (sFor (iSeq (eVar 0)) (tgName 2) drBody) (sSeq (sExpr (eBM isLst gReverse (eVar 1) aNil)) (sRet (eVar 1))))) gcN := rfl
  have i1 : iSeq (eVar 0) [some (.k (.list (ns.map PyData.int))), some (.r 0), none, none, none, none, none] [IL []] = .ok (ns.map fun i => .d (.int i), fun _ => True) [IL []] := by
    have : iSeq (eVar 0) [some (.k (.list (ns.map PyData.int))), some (.r 0), none, none, none, none, none] [IL []] = .ok ((ns.map PyData.int).map kB, fun _ => True) [IL []] := rfl
    rw [this, List.map_map]
    rfl
  obtain ⟨sl', cs', el, hh⟩ := loop_inv (okc := fun _ => True) (tf := tgName 2) (body := drBody) (fun i sl c => i ≤ 63 → DI (.k (.list (ns.map PyData.int))) (60 * i) sl c) (ns.map fun i => .d (.int i)) 0 [some (.k (.list (ns.map PyData.int))), some (.r 0), none, none, none, none, none] [IL []] (fun _ => ⟨none, none, none, none, none, [], [], rfl, rfl, by simp⟩) (fun _ _ _ => trivial) (fun i b sl c hb h => by
    have il := (List.getElem?_eq_some_iff.mp hb).1
    rw [List.length_map] at il
    rw [List.getElem?_map] at hb
    obtain ⟨n, _, rfl⟩ := Option.map_eq_some_iff.mp hb
    obtain ⟨sl1, e1, sl2, cs2, e2, h2⟩ := dr_turn _ (60 * (0 + i)) (by omega) n sl c (h (by omega))
    exact ⟨trivial, sl1, e1, sl2, cs2, .inl e2, fun _ => by rw [show 60 * (0 + i + 1) = 60 * (0 + i) + 60 by omega]; exact h2⟩)
  rw [List.length_map, Nat.zero_add] at hh
  obtain ⟨x2, x3, x4, x5, x6, xs, t, rfl, rfl, h3⟩ := hh hn
  refine ⟨xs.reverse, ?_, by rw [List.length_reverse]; omega⟩
  rw [e0, ap_mDef]
  show gcN [] (retOf ((_ : FnS) [some (.k (.list (ns.map PyData.int))), none, none, none, none, none, none] [])) = _
  refine p_set (P := fun r => gcN [] (retOf r) = _) (cs1 := [IL []]) (sl1 := [some (.k (.list (ns.map PyData.int))), some (.r 0), none, none, none, none, none]) (b := .r 0) ?_ rfl ?_
  · rw [ap_eCell, ap_lTake, ap_aNil, ER.bind_ok, if_pos (tk_len (by simp)), ER.bind_ok]
    rfl
  refine p_nx (P := fun r => gcN [] (retOf r) = _) (by rw [ap_sFor, i1, sE_ok]; exact el) ?_
  refine p_expr (P := fun r => gcN [] (retOf r) = _) (cs1 := IL xs.reverse :: t) (b := .d .none) ?_ ?_
  · rw [ap_eBM, show eVar 1 [some (.k (.list (ns.map PyData.int))), some (.r 0), x2, x3, x4, x5, x6] (IL xs :: t) = .ok (.r 0) (IL xs :: t) from rfl, ER.bind_ok]
    simp only
    rw [if_pos (show isLst (IL xs :: t : Cs)[0]? = true from rfl), ap_aNil, ER.bind_ok]
    show ER.ok (B.d .none) ((IL xs :: t).set 0 (.lst (xs.map fun i => B.d (.int i)).reverse)) = _
    rw [← List.map_reverse]
    rfl
  refine p_ret (P := fun r => gcN [] (retOf r) = _) (b := .r 0) (cs1 := IL xs.reverse :: t) rfl ?_
  rw [retOf_rt]
  unfold gcN
  simp only [List.getElem?_cons_zero]
  rw [if_pos ⟨⟨Nat.zero_le _, fun k c hk _ => absurd hk (Nat.not_lt_zero k)⟩, Nat.zero_le _, il_low _ _, fun h => by cases h⟩]
  rfl
/-- the next one -/
theorem F_next (k : Nat) (xs : List Int) (hk : cs[k]? = some (IL xs)) : ∃ i xs', F__law_next [.r k] cs = .ok (.d (.int i)) (cs.set k (IL xs')) ∧ xs'.length ≤ xs.length := by
  have hkl := (List.getElem?_eq_some_iff.mp hk).1
  have gc : ∀ (i : Int) (xs' : List Int), gcR cs (.ok (.d (.int i)) (cs.set k (IL xs'))) = .ok (.d (.int i)) (cs.set k (IL xs')) := fun i xs' => by
    have hg : GcOk cs (cs.set k (IL xs')) := ⟨by rw [List.length_set]; exact Nat.le_refl _, fun j c hj e => by
      by_cases hjk : k = j
      · subst hjk
        rw [List.getElem?_set_self hkl] at e
        cases e
        exact .inr (il_low _ _)
      · rw [List.getElem?_set_ne hjk] at e
        exact .inl e⟩
    unfold gcR
    simp only
    rw [if_pos ⟨hg, trivial⟩, List.take_of_length_le (by rw [List.length_set]; exact Nat.le_refl _)]
  have tr : gTru (.r k) cs = .ok (!(xs.map fun i => B.d (.int i)).isEmpty) cs := by
    unfold gTru
    simp only [bSeq_r, bList_r hk]
  have t0 : eTru (eVar 0) [some (.r k)] cs = .ok (!(xs.map fun i => B.d (.int i)).isEmpty) cs := by
    rw [ap_eTru, show eVar 0 [some (.r k)] cs = .ok (.r k) cs from rfl, ER.bind_ok, tr]
  rcases List.eq_nil_or_concat xs with rfl | ⟨ys, i, hc⟩
  · refine ⟨0, [], ?_, Nat.le_refl _⟩
    unfold F__law_next
    rw [ap_mDef]
    show gcR cs (retOf ((_ : FnS) [some (.r k)] cs)) = _
    refine p_if0 (P := fun r => gcR cs (retOf r) = _) t0 ?_
    refine p_ret (P := fun r => gcR cs (retOf r) = _) (b := .d (.int 0)) (cs1 := cs) rfl ?_
    have e : cs.set k (IL []) = cs := by
      apply List.ext_getElem?
      intro j
      by_cases hjk : k = j
      · subst hjk; rw [List.getElem?_set_self hkl, hk]
      · rw [List.getElem?_set_ne hjk]
    have := gc 0 []
    rw [e] at this ⊢
    exact this
  · rw [List.concat_eq_append] at hc
    subst hc
    refine ⟨i, ys, ?_, by rw [List.length_append]; omega⟩
    unfold F__law_next
    rw [ap_mDef]
    show gcR cs (retOf ((_ : FnS) [some (.r k)] cs)) = _
    refine p_ifr (P := fun r => gcR cs (retOf r) = _) (b := .d (.int i)) (cs2 := cs.set k (IL ys)) (cs1 := cs) (t0.trans (by simp)) ?_ ?_
    · rw [ap_eBM, show eVar 0 [some (.r k)] cs = .ok (.r k) cs from rfl, ER.bind_ok]
      simp only
      rw [hk, if_pos (show isLst (some (IL (ys ++ [i]))) = true from rfl), ap_aNil, ER.bind_ok]
      have hm : ((ys ++ [i]).map fun i => B.d (.int i)) = (ys.map fun i => B.d (.int i)) ++ [.d (.int i)] := by rw [List.map_append]; rfl
      have hg : (((ys ++ [i]).map fun i => B.d (.int i)) : List B)[((ys ++ [i]).map fun i => B.d (.int i)).length - 1]? = some (.d (.int i)) := by
        rw [hm, List.length_append, List.getElem?_append_right (by simp)]
        simp
      unfold gPop
      simp only [hk, hg]
      rw [hm, List.dropLast_concat]
    · rw [retOf_rt, gc]
end
end K42

/-! M26: more draws, words, bits. -/
namespace VM
open PySem L2
open Classical
section
theorem pair_enc {α : Type} (enc : α → B) (P : α → Prop) : ∀ {items vs : List B}, Paired (fun _ v => ∃ a, v = enc a ∧ P a) items vs → ∃ as : List α, vs = as.map enc ∧ as.length = items.length ∧ ∀ a ∈ as, P a
  | _, _, .nil => ⟨[], rfl, rfl, by simp⟩
  | _, _, .cons ⟨a, h1, h2⟩ r => by
    obtain ⟨as, e1, e2, e3⟩ := pair_enc enc P r
    refine ⟨a :: as, by rw [List.map_cons, h1, e1], by rw [List.length_cons, List.length_cons, e2], fun b hb => ?_⟩
    rcases List.mem_cons.mp hb with h | h
    · rw [h]; exact h2
    · exact e3 b h
end
end VM
namespace K42
open PySem VM L2
open Classical
section
variable {cs : Cs} {sl : Sl}
/-- the cells of the law's main part -/
def DM (cs : Cs) : Prop := ∃ xs ys, cs = [IL xs, IL ys]
theorem nx_main (h : DM cs) : ∃ i cs', F__law_next [.r 1] cs = .ok (.d (.int i)) cs' ∧ DM cs' := by
  obtain ⟨xs, ys, rfl⟩ := h
  obtain ⟨i, zs, e, _⟩ := F_next (cs := [IL xs, IL ys]) 1 ys rfl
  exact ⟨i, _, e, xs, zs, rfl⟩
noncomputable abbrev rnd (v : Nat) (j : Int) : Fn B := eBin gMod (eCall gInt (aCons (eFn 1 F__law_next (aCons (eVar v) aNil)) aNil)) (eD (.int j))
theorem rnd_ok {v : Nat} {j : Int} (hj : 0 < j) (h : DM cs) (hv : sl[v]? = some (some (.r 1))) : ∃ i cs', rnd v j sl cs = .ok (.d (.int (i % j))) cs' ∧ DM cs' := by
  obtain ⟨i, cs', e, h'⟩ := nx_main h
  refine ⟨i, cs', ?_, h'⟩
  have ev : eVar v sl cs = .ok (.r 1) cs := by rw [ap_eVar, hv]
  exact bin_gen (call_1 (fn_1 ev e) (g_int i)) rfl (modN _ _ hj)
theorem F_more (xs : List Int) (hx : xs.length ≤ 4000) : ∃ cs', F__law_more [.r 0, .d (.int 150)] [IL xs] = .ok (.r 1) cs' ∧ DM cs' := by
  obtain ⟨i, x1, e1, l1⟩ := F_next (cs := [IL xs]) 0 xs rfl
  obtain ⟨j, x2, e2, l2⟩ := F_next (cs := [IL x1]) 0 x1 rfl
  have e0 : F__law_more = mDef 5 (sSeq (sSet 2 (eBin gAdd (eBin gAdd (eBin gMul (eD (.int 1000)) (eFn 1 F__law_next (aCons (eVar 0) aNil))) (eFn 1 F__law_next (aCons (eVar 0) aNil))) (eD (.int 1))))
    (sSeq (sSet 3 (eCell (lTake aNil))) (sSeq (sFor (iRange1 (aCons (eVar 1) aNil)) (tgName 4)
  (sSeq (sSet 2 (eBin gMod (eCall gInt (aCons (eBin gAdd (eBin gMul (eVar 2) (eD (.int 48271))) (eD (.int 12345))) aNil)) (eD (.int 2147483647))))
  (sExpr (eBM isLst gAppend (eVar 3) (aCons (eBin gMod (eCall gInt (aCons (eBin gDiv (eVar 2) (eD (.int 7))) aNil)) (eD (.int 1000))) aNil))))) (sRet (eCell (lBin gCat (eVar 3) (eVar 0))))))) gcN := rfl
  rw [e0, ap_mDef]
  show ∃ cs', gcN [IL xs] (retOf ((_ : FnS) [some (.r 0), some (.d (.int 150)), none, none, none] [IL xs])) = .ok (.r 1) cs' ∧ DM cs'
  refine p_set (P := fun r => ∃ cs', gcN [IL xs] (retOf r) = .ok (.r 1) cs' ∧ DM cs') (cs1 := [IL x2]) (sl1 := [some (.r 0), some (.d (.int 150)), some (.d (.int (1000 * i + j + 1))), none, none]) (b := .d (.int (1000 * i + j + 1))) ?_ rfl ?_
  · exact bin_gen (bin_gen (bin_gen (a := .d (.int 1000)) rfl (fn_1 rfl e1) (mulL _ _ (by decide) (by decide))) (fn_1 rfl e2) (g_add _ _)) rfl (g_add _ _)
  generalize 1000 * i + j + 1 = s
  refine p_set (P := fun r => ∃ cs', gcN [IL xs] (retOf r) = .ok (.r 1) cs' ∧ DM cs') (cs1 := [IL x2, IL []]) (sl1 := [some (.r 0), some (.d (.int 150)), some (.d (.int s)), some (.r 1), none]) (b := .r 1) ?_ rfl ?_
  · rw [ap_eCell, ap_lTake, ap_aNil, ER.bind_ok, if_pos (tk_len (by simp)), ER.bind_ok]
    rfl
  have r1 : iRange1 (aCons (eVar 1) aNil) [some (.r 0), some (.d (.int 150)), some (.d (.int s)), some (.r 1), none] [IL x2, IL []] = .ok (rngI 0 1 150, fun _ => True) [IL x2, IL []] := ap_rng1 _ 150 _ rfl (by decide)
  obtain ⟨sl', cs', el, s', x4, ys, h1, h2, h3⟩ := loop_inv (okc := fun _ => True) (tf := tgName 4) (body := (sSeq (sSet 2 (eBin gMod (eCall gInt (aCons (eBin gAdd (eBin gMul (eVar 2) (eD (.int 48271))) (eD (.int 12345))) aNil)) (eD (.int 2147483647))))
  (sExpr (eBM isLst gAppend (eVar 3) (aCons (eBin gMod (eCall gInt (aCons (eBin gDiv (eVar 2) (eD (.int 7))) aNil)) (eD (.int 1000))) aNil)))))
    (fun i sl c => ∃ (s : Int) (x4 : Option B) (ys : List Int), sl = [some (.r 0), some (.d (.int 150)), some (.d (.int s)), some (.r 1), x4] ∧ c = [IL x2, IL ys] ∧ ys.length ≤ i) (rngI 0 1 150) 0 [some (.r 0), some (.d (.int 150)), some (.d (.int s)), some (.r 1), none] [IL x2, IL []] ⟨s, none, [], rfl, rfl, by simp⟩ (fun _ _ _ => trivial) (by
      rintro i b sl c hb ⟨s, x4, ys, rfl, rfl, h3⟩
      have hi := (List.getElem?_eq_some_iff.mp hb).1
      rw [rngI_len] at hi
      refine ⟨trivial, [some (.r 0), some (.d (.int 150)), some (.d (.int s)), some (.r 1), some b], rfl, _, _, .inl ?_, (s * 48271 + 12345) % 2147483647, some b, ys ++ [(s * 48271 + 12345) % 2147483647 / 7 % 1000], rfl, rfl, by rw [List.length_append]; simp; omega⟩
      refine p_set (P := fun z => z = _) (cs1 := [IL x2, IL ys]) (sl1 := [some (.r 0), some (.d (.int 150)), some (.d (.int ((s * 48271 + 12345) % 2147483647))), some (.r 1), some b]) (b := .d (.int ((s * 48271 + 12345) % 2147483647))) (bin_ok (call_1 (bin_ok (bin_ok (a := .d (.int s)) rfl rfl (mulR _ _ (by decide) (by decide))) rfl (g_add _ _)) (g_int _)) rfl (modN _ _ (by decide))) rfl ?_
      generalize (s * 48271 + 12345) % 2147483647 = q
      try dsimp only
      rw [ap_sExpr, app_il (k := 1) (xs := ys) (i := q / 7 % 1000) rfl (by omega) rfl (bin_ok (call_1 (bin_ok (a := .d (.int q)) rfl rfl (g_div _ _ ⟨by decide, by decide⟩)) (g_int _)) rfl (modN _ _ (by decide))), sE_ok]
      rfl)
  subst h1 h2
  rw [rngI_len] at h3
  refine p_nx (P := fun r => ∃ cs', gcN [IL xs] (retOf r) = .ok (.r 1) cs' ∧ DM cs') (by rw [ap_sFor, r1, sE_ok]; exact el) ?_
  refine p_ret (P := fun r => ∃ cs', gcN [IL xs] (retOf r) = .ok (.r 1) cs' ∧ DM cs') (b := .r 2) (cs1 := [IL x2, IL ys, IL (ys ++ x2)]) ?_ ?_
  · have g : gCat (.r 1) (.r 0) [IL x2, IL ys] = .ok ((ys ++ x2).map fun i => .d (.int i)) [IL x2, IL ys] := by
      unfold gCat
      simp only [bCell, List.getElem?_cons_zero, List.getElem?_cons_succ]
      rw [if_pos (by rw [List.length_map, List.length_map, sizeLine_eq]; omega), List.map_append]
    rw [ap_eCell, ap_lBin, show eVar 3 [some (.r 0), some (.d (.int 150)), some (.d (.int s')), some (.r 1), x4] [IL x2, IL ys] = .ok (.r 1) [IL x2, IL ys] from rfl, ER.bind_ok, show eVar 0 [some (.r 0), some (.d (.int 150)), some (.d (.int s')), some (.r 1), x4] [IL x2, IL ys] = .ok (.r 0) [IL x2, IL ys] from rfl, ER.bind_ok, g, ER.bind_ok]
    rfl
  · rw [retOf_rt]
    refine ⟨[IL x2, IL (ys ++ x2)], ?_, x2, _, rfl⟩
    unfold gcN
    simp only [List.getElem?_cons_zero, List.getElem?_cons_succ]
    have hg : GcOk [IL xs] [IL x2, IL ys, IL (ys ++ x2)] := ⟨by simp, fun k c hk e => by
      have : k = 0 := by simpa using hk
      subst this
      cases e
      exact .inr (il_low _ _)⟩
    rw [if_pos ⟨hg, by simp, il_low _ _, fun h => by cases h⟩]
    rfl
/-- one of some -/
theorem F_pick {ds : List D} (h : DM cs) (h0 : 0 < ds.length) : ∃ d cs', F__law_pick [.r 1, .d (.list ds)] cs = .ok (.d d) cs' ∧ DM cs' ∧ d ∈ ds := by
  obtain ⟨i, cs', e, h'⟩ := nx_main h
  have hi : 0 ≤ i % (ds.length : Nat) ∧ i % (ds.length : Nat) < (ds.length : Nat) := ⟨Int.emod_nonneg _ (by omega), Int.emod_lt_of_pos _ (by omega)⟩
  have hlt : (i % (ds.length : Nat)).toNat < ds.length := by omega
  refine ⟨ds[(i % (ds.length : Nat)).toNat], cs', ?_, h', List.getElem_mem _⟩
  unfold F__law_pick
  rw [ap_mDef]
  show gcR cs (retOf ((_ : FnS) [some (.r 1), some (.d (.list ds))] cs)) = _
  refine p_ret (P := fun r => gcR cs (retOf r) = _) (b := .d ds[(i % (ds.length : Nat)).toNat]) (cs1 := cs') ?_ ?_
  · refine bin_gen (a := .d (.list ds)) rfl (bin_gen (call_1 (fn_1 rfl e) (g_int i)) (call_1 rfl (g_len_l ds)) (modN _ _ (by omega))) ?_
    exact g_ix_l _ _ _ (by rw [atI_nat _ _ hi.1 hi.2, List.getElem?_eq_getElem hlt])
  · rw [retOf_rt]
    obtain ⟨xs, ys, rfl⟩ := h
    obtain ⟨xs', ys', rfl⟩ := h'
    unfold gcR
    simp only
    have hg : GcOk [IL xs, IL ys] [IL xs', IL ys'] := ⟨by simp, fun k c hk e => by
      match k, hk, e with
      | 0, _, e => cases e; exact .inr (il_low _ _)
      | 1, _, e => cases e; exact .inr (il_low _ _)
      | k + 2, hk, _ => simp at hk; omega⟩
    rw [if_pos ⟨hg, trivial⟩]
    rfl
end
end K42

/-! M27: words, bits drawn. -/
namespace K42
open PySem VM L2
open Classical
section
variable {cs : Cs}
def Wd (w : List Nat) : Prop := w.length = 2 ∧ ∀ l ∈ w, l < 14
abbrev Sl24 (f : Nat → Option B) : Sl := (List.range 24).map f
theorem allD_enc {α : Type} (g : α → D) (as : List α) : allD (as.map fun a => B.d (g a)) = some (as.map g) := allD_map _ _
/-- a word, each literal turned or not -/
theorem word1 (x0 x2 x3 x4 x5 x6 x7 x8 x9 x10 x11 x12 x13 x14 x15 x16 x17 x18 x19 x20 x22 x23 : Option B) (w : List Nat) (hw : w.length = 2 ∧ ∀ l ∈ w, l < 13) (h : DM cs) :
    ∃ (w' : List Nat) (cs' : Cs), eCall gTuple (aCons (eFrz (lComp (iSeq (eVar 21)) (tgName 11) eYes (eBin gAdd (eVar 11) (eBin gMod (eCall gInt (aCons (eFn 1 F__law_next (aCons (eVar 1) aNil)) aNil)) (eD (.int 2)))) [11])) aNil)
      [x0, some (.r 1), x2, x3, x4, x5, x6, x7, x8, x9, x10, x11, x12, x13, x14, x15, x16, x17, x18, x19, x20, some (.d (dW w)), x22, x23] cs = .ok (.d (dW w')) cs' ∧ DM cs' ∧ Wd w' := by
  have i1 : iSeq (eVar 21) [x0, some (.r 1), x2, x3, x4, x5, x6, x7, x8, x9, x10, x11, x12, x13, x14, x15, x16, x17, x18, x19, x20, some (.d (dW w)), x22, x23] cs = .ok (w.map fun l => .d (dN l), fun _ => True) cs := by
    rw [i_seq_t _ (w.map dN) cs rfl, List.map_map]
    rfl
  obtain ⟨vs, cs1, e1, h1, p⟩ := lc_ex (tf := tgName 11) (te := eBin gAdd (eVar 11) (eBin gMod (eCall gInt (aCons (eFn 1 F__law_next (aCons (eVar 1) aNil)) aNil)) (eD (.int 2)))) (sl := [x0, some (.r 1), x2, x3, x4, x5, x6, x7, x8, x9, x10, none, x12, x13, x14, x15, x16, x17, x18, x19, x20, some (.d (dW w)), x22, x23]) DM (fun _ v => ∃ p : Nat, v = .d (dN p) ∧ p < 14) (w.map fun l => .d (dN l)) (fun b hb cs h => by
    obtain ⟨l, hl, rfl⟩ := List.mem_map.mp hb
    have hl2 := hw.2 l hl
    obtain ⟨i, cs', e, h'⟩ := rnd_ok (sl := [x0, some (.r 1), x2, x3, x4, x5, x6, x7, x8, x9, x10, some (.d (dN l)), x12, x13, x14, x15, x16, x17, x18, x19, x20, some (.d (dW w)), x22, x23]) (v := 1) (j := 2) (by decide) h rfl
    have hi : 0 ≤ i % 2 ∧ i % 2 < 2 := ⟨Int.emod_nonneg _ (by decide), Int.emod_lt_of_pos _ (by decide)⟩
    refine ⟨[x0, some (.r 1), x2, x3, x4, x5, x6, x7, x8, x9, x10, some (.d (dN l)), x12, x13, x14, x15, x16, x17, x18, x19, x20, some (.d (dW w)), x22, x23], .d (dN (l + (i % 2).toNat)), cs', rfl, ?_, h', l + (i % 2).toNat, rfl, by omega⟩
    refine bin_gen (a := .d (dN l)) rfl e ?_
    show gAdd (.d (.int (l : Int))) (.d (.int (i % 2))) cs' = _
    rw [g_add]
    congr 3
    omega) cs h
  obtain ⟨w', rfl, l', q⟩ := pair_enc (fun p : Nat => B.d (dN p)) (fun p => p < 14) p
  refine ⟨w', cs1, ?_, h1, by rw [l', List.length_map, hw.1], q⟩
  refine call_1 (a := .d (.list (w'.map dN))) (cs1 := cs1) ?_ (g_tup_l _)
  rw [ap_eFrz, ap_lComp i1 (by rw [List.length_map, hw.1, sizeLine_eq]; decide)]
  rw [show wipeS [x0, some (.r 1), x2, x3, x4, x5, x6, x7, x8, x9, x10, x11, x12, x13, x14, x15, x16, x17, x18, x19, x20, some (.d (dW w)), x22, x23] [11] = [x0, some (.r 1), x2, x3, x4, x5, x6, x7, x8, x9, x10, none, x12, x13, x14, x15, x16, x17, x18, x19, x20, some (.d (dW w)), x22, x23] from rfl, e1, ER.bind_ok, allD_enc]
/-- the words, at first -/
theorem words1 (x0 x2 x4 x5 x6 x7 x8 x9 x10 x11 x12 x13 x14 x15 x16 x17 x18 x19 x20 x21 x22 x23 : Option B) (ws : List (List Nat)) (hws : ws.length = 3 ∧ ∀ w ∈ ws, w.length = 2 ∧ ∀ l ∈ w, l < 13) (h : DM cs) :
    ∃ (us : List (List Nat)) (cs' : Cs), eFrz (lComp (iSeq (eVar 3)) (tgName 21) eYes (eCall gTuple (aCons (eFrz (lComp (iSeq (eVar 21)) (tgName 11) eYes (eBin gAdd (eVar 11) (eBin gMod (eCall gInt (aCons (eFn 1 F__law_next (aCons (eVar 1) aNil)) aNil)) (eD (.int 2)))) [11])) aNil)) [21])
      [x0, some (.r 1), x2, some (.d (.list (ws.map dW))), x4, x5, x6, x7, x8, x9, x10, x11, x12, x13, x14, x15, x16, x17, x18, x19, x20, x21, x22, x23] cs = .ok (.d (.list (us.map dW))) cs' ∧ DM cs' ∧ us.length = 3 ∧ ∀ w ∈ us, Wd w := by
  have i1 : iSeq (eVar 3) [x0, some (.r 1), x2, some (.d (.list (ws.map dW))), x4, x5, x6, x7, x8, x9, x10, x11, x12, x13, x14, x15, x16, x17, x18, x19, x20, x21, x22, x23] cs = .ok (ws.map fun w => .d (dW w), fun _ => True) cs := by
    rw [i_seq_l _ (ws.map dW) cs rfl, List.map_map]
    rfl
  obtain ⟨vs, cs1, e1, h1, p⟩ := lc_ex (tf := tgName 21) (te := eCall gTuple (aCons (eFrz (lComp (iSeq (eVar 21)) (tgName 11) eYes (eBin gAdd (eVar 11) (eBin gMod (eCall gInt (aCons (eFn 1 F__law_next (aCons (eVar 1) aNil)) aNil)) (eD (.int 2)))) [11])) aNil)) (sl := [x0, some (.r 1), x2, some (.d (.list (ws.map dW))), x4, x5, x6, x7, x8, x9, x10, x11, x12, x13, x14, x15, x16, x17, x18, x19, x20, none, x22, x23]) DM (fun _ v => ∃ w : List Nat, v = .d (dW w) ∧ Wd w) (ws.map fun w => .d (dW w)) (fun b hb cs h => by
    obtain ⟨w, hw, rfl⟩ := List.mem_map.mp hb
    obtain ⟨w', cs', e, h', q⟩ := word1 (cs := cs) x0 x2 (some (.d (.list (ws.map dW)))) x4 x5 x6 x7 x8 x9 x10 x11 x12 x13 x14 x15 x16 x17 x18 x19 x20 x22 x23 w (hws.2 w hw) h
    exact ⟨_, _, cs', rfl, e, h', w', rfl, q⟩) cs h
  obtain ⟨us, rfl, l', q⟩ := pair_enc (fun w : List Nat => B.d (dW w)) Wd p
  refine ⟨us, cs1, ?_, h1, by rw [l', List.length_map, hws.1], q⟩
  rw [ap_eFrz, ap_lComp i1 (by rw [List.length_map, hws.1, sizeLine_eq]; decide)]
  rw [show wipeS [x0, some (.r 1), x2, some (.d (.list (ws.map dW))), x4, x5, x6, x7, x8, x9, x10, x11, x12, x13, x14, x15, x16, x17, x18, x19, x20, x21, x22, x23] [21] = [x0, some (.r 1), x2, some (.d (.list (ws.map dW))), x4, x5, x6, x7, x8, x9, x10, x11, x12, x13, x14, x15, x16, x17, x18, x19, x20, none, x22, x23] from rfl, e1, ER.bind_ok, allD_enc]
noncomputable abbrev word2E : Fn B := eIf (eT (eBin gGt (eBin gMod (eCall gInt (aCons (eFn 1 F__law_next (aCons (eVar 1) aNil)) aNil)) (eD (.int 4))) (eD (.int 0)))) (eVar 21) (eFn 2 F_number_word (aCons (eD (.int 2)) (aCons (eBin gMod (eCall gInt (aCons (eFn 1 F__law_next (aCons (eVar 1) aNil)) aNil)) (eD (.int 4))) aNil)))
theorem word2 {sl : Sl} (w : List Nat) (hw : Wd w) (h : DM cs) (h1 : sl[1]? = some (some (.r 1))) (h21 : sl[21]? = some (some (.d (dW w)))) : ∃ (w' : List Nat) (cs' : Cs), word2E sl cs = .ok (.d (dW w')) cs' ∧ DM cs' ∧ Wd w' := by
  obtain ⟨i, cs1, e1, d1⟩ := rnd_ok (sl := sl) (v := 1) (j := 4) (by decide) h h1
  obtain ⟨j, cs2, e2, d2⟩ := rnd_ok (sl := sl) (v := 1) (j := 4) (by decide) d1 h1
  have hj : 0 ≤ j % 4 ∧ j % 4 < 4 := ⟨Int.emod_nonneg _ (by decide), Int.emod_lt_of_pos _ (by decide)⟩
  have t : eT (eBin gGt (eBin gMod (eCall gInt (aCons (eFn 1 F__law_next (aCons (eVar 1) aNil)) aNil)) (eD (.int 4))) (eD (.int 0))) sl cs = .ok (decide (0 < i % 4)) cs1 := by
    rw [ap_eT, bin_gen (cs2 := cs1) e1 rfl (g_gt _ _), ER.bind_ok, isB_b]
  by_cases h0 : 0 < i % 4
  · refine ⟨w, cs1, ?_, d1, hw⟩
    unfold word2E
    rw [ap_eIf, t, ER.bind_ok, if_pos (decide_eq_true h0), ap_eVar, h21]
  · refine ⟨[(j % 4).toNat % 2, (j % 4).toNat / 2 % 2], cs2, ?_, d2, rfl, fun l hl => ?_⟩
    · unfold word2E
      unfold rnd at e2
      rw [ap_eIf, t, ER.bind_ok, if_neg (by simpa using h0), ap_eFn, ap_aCons, ap_eD, ER.bind_ok, ap_aCons, e2, ER.bind_ok, ap_aNil, ER.bind_ok, ER.bind_ok, ER.bind_ok, if_pos (show ([_, _] : List B).length = 2 from rfl)]
      rw [show j % 4 = (((j % 4).toNat : Nat) : Int) by omega]
      exact F_numw _ (by omega)
    · rcases List.mem_cons.mp hl with e | e
      · omega
      · rw [List.mem_singleton.mp e]; omega
theorem words2 (x0 x2 x4 x5 x6 x7 x8 x9 x10 x11 x12 x13 x14 x15 x16 x17 x18 x19 x20 x21 x22 x23 : Option B) (ws : List (List Nat)) (hws : ws.length = 3 ∧ ∀ w ∈ ws, Wd w) (h : DM cs) :
    ∃ (us : List (List Nat)) (cs' : Cs), eFrz (lComp (iSeq (eVar 3)) (tgName 21) eYes word2E [21])
      [x0, some (.r 1), x2, some (.d (.list (ws.map dW))), x4, x5, x6, x7, x8, x9, x10, x11, x12, x13, x14, x15, x16, x17, x18, x19, x20, x21, x22, x23] cs = .ok (.d (.list (us.map dW))) cs' ∧ DM cs' ∧ us.length = 3 ∧ ∀ w ∈ us, Wd w := by
  have i1 : iSeq (eVar 3) [x0, some (.r 1), x2, some (.d (.list (ws.map dW))), x4, x5, x6, x7, x8, x9, x10, x11, x12, x13, x14, x15, x16, x17, x18, x19, x20, x21, x22, x23] cs = .ok (ws.map fun w => .d (dW w), fun _ => True) cs := by
    rw [i_seq_l _ (ws.map dW) cs rfl, List.map_map]
    rfl
  obtain ⟨vs, cs1, e1, h1, p⟩ := lc_ex (tf := tgName 21) (te := word2E) (sl := [x0, some (.r 1), x2, some (.d (.list (ws.map dW))), x4, x5, x6, x7, x8, x9, x10, x11, x12, x13, x14, x15, x16, x17, x18, x19, x20, none, x22, x23]) DM (fun _ v => ∃ w : List Nat, v = .d (dW w) ∧ Wd w) (ws.map fun w => .d (dW w)) (fun b hb cs h => by
    obtain ⟨w, hw, rfl⟩ := List.mem_map.mp hb
    obtain ⟨w', cs', e, h', q⟩ := word2 (cs := cs) (sl := [x0, some (.r 1), x2, some (.d (.list (ws.map dW))), x4, x5, x6, x7, x8, x9, x10, x11, x12, x13, x14, x15, x16, x17, x18, x19, x20, some (.d (dW w)), x22, x23]) w (hws.2 w hw) h rfl rfl
    exact ⟨_, _, cs', rfl, e, h', w', rfl, q⟩) cs h
  obtain ⟨us, rfl, l', q⟩ := pair_enc (fun w : List Nat => B.d (dW w)) Wd p
  refine ⟨us, cs1, ?_, h1, by rw [l', List.length_map, hws.1], q⟩
  rw [ap_eFrz, ap_lComp i1 (by rw [List.length_map, hws.1, sizeLine_eq]; decide)]
  rw [show wipeS [x0, some (.r 1), x2, some (.d (.list (ws.map dW))), x4, x5, x6, x7, x8, x9, x10, x11, x12, x13, x14, x15, x16, x17, x18, x19, x20, x21, x22, x23] [21] = [x0, some (.r 1), x2, some (.d (.list (ws.map dW))), x4, x5, x6, x7, x8, x9, x10, x11, x12, x13, x14, x15, x16, x17, x18, x19, x20, none, x22, x23] from rfl, e1, ER.bind_ok, allD_enc]
/-- six bits -/
noncomputable abbrev bits1E : Fn B := eCall gTuple (aCons (eFrz (lComp (iRange1 (aCons (eD (.int 6)) aNil)) (tgName 23) eYes (eBin gMod (eCall gInt (aCons (eFn 1 F__law_next (aCons (eVar 1) aNil)) aNil)) (eD (.int 2))) [23])) aNil)
theorem bits1 (x0 x2 x3 x4 x5 x6 x7 x8 x9 x10 x11 x12 x13 x14 x15 x16 x17 x18 x19 x20 x21 x22 x23 : Option B) (h : DM cs) :
    ∃ (β : List Bool) (cs' : Cs), bits1E [x0, some (.r 1), x2, x3, x4, x5, x6, x7, x8, x9, x10, x11, x12, x13, x14, x15, x16, x17, x18, x19, x20, x21, x22, x23] cs = .ok (.d (dBs β)) cs' ∧ DM cs' ∧ β.length = 6 := by
  have i1 : iRange1 (aCons (eD (.int 6)) aNil) [x0, some (.r 1), x2, x3, x4, x5, x6, x7, x8, x9, x10, x11, x12, x13, x14, x15, x16, x17, x18, x19, x20, x21, x22, x23] cs = .ok (rngI 0 1 6, fun _ => True) cs := ap_rng1 _ 6 _ rfl (by decide)
  obtain ⟨vs, cs1, e1, h1, p⟩ := lc_ex (tf := tgName 23) (te := eBin gMod (eCall gInt (aCons (eFn 1 F__law_next (aCons (eVar 1) aNil)) aNil)) (eD (.int 2))) (sl := [x0, some (.r 1), x2, x3, x4, x5, x6, x7, x8, x9, x10, x11, x12, x13, x14, x15, x16, x17, x18, x19, x20, x21, x22, none]) DM (fun _ v => ∃ b : Bool, v = .d (dB b) ∧ True) (rngI 0 1 6) (fun b hb cs h => by
    obtain ⟨i, cs', e, h'⟩ := rnd_ok (sl := [x0, some (.r 1), x2, x3, x4, x5, x6, x7, x8, x9, x10, x11, x12, x13, x14, x15, x16, x17, x18, x19, x20, x21, x22, some b]) (v := 1) (j := 2) (by decide) h rfl
    have hi : 0 ≤ i % 2 ∧ i % 2 < 2 := ⟨Int.emod_nonneg _ (by decide), Int.emod_lt_of_pos _ (by decide)⟩
    refine ⟨_, _, cs', rfl, e, h', decide (i % 2 = 1), ?_, trivial⟩
    congr 2
    unfold bI
    by_cases h2 : i % 2 = 1
    · simp [h2]
    · simp [h2]; omega) cs h
  obtain ⟨β, rfl, l', _⟩ := pair_enc (fun b : Bool => B.d (dB b)) (fun _ => True) p
  refine ⟨β, cs1, ?_, h1, by rw [l', rngI_len]⟩
  refine call_1 (a := .d (.list (β.map dB))) (cs1 := cs1) ?_ (g_tup_l _)
  rw [ap_eFrz, ap_lComp i1 (by rw [rngI_len, sizeLine_eq]; decide)]
  rw [show wipeS [x0, some (.r 1), x2, x3, x4, x5, x6, x7, x8, x9, x10, x11, x12, x13, x14, x15, x16, x17, x18, x19, x20, x21, x22, x23] [23] = [x0, some (.r 1), x2, x3, x4, x5, x6, x7, x8, x9, x10, x11, x12, x13, x14, x15, x16, x17, x18, x19, x20, x21, x22, none] from rfl, e1, ER.bind_ok, allD_enc]
theorem bits5 (x0 x2 x3 x4 x5 x6 x7 x8 x9 x10 x11 x12 x13 x14 x15 x16 x17 x18 x19 x20 x21 x22 x23 : Option B) (h : DM cs) :
    ∃ (βs : List (List Bool)) (cs' : Cs), eFrz (lComp (iRange1 (aCons (eD (.int 5)) aNil)) (tgName 22) eYes bits1E [22]) [x0, some (.r 1), x2, x3, x4, x5, x6, x7, x8, x9, x10, x11, x12, x13, x14, x15, x16, x17, x18, x19, x20, x21, x22, x23] cs = .ok (.d (.list (βs.map dBs))) cs' ∧ DM cs' ∧ βs.length = 5 ∧ ∀ β ∈ βs, β.length = 6 := by
  have i1 : iRange1 (aCons (eD (.int 5)) aNil) [x0, some (.r 1), x2, x3, x4, x5, x6, x7, x8, x9, x10, x11, x12, x13, x14, x15, x16, x17, x18, x19, x20, x21, x22, x23] cs = .ok (rngI 0 1 5, fun _ => True) cs := ap_rng1 _ 5 _ rfl (by decide)
  obtain ⟨vs, cs1, e1, h1, p⟩ := lc_ex (tf := tgName 22) (te := bits1E) (sl := [x0, some (.r 1), x2, x3, x4, x5, x6, x7, x8, x9, x10, x11, x12, x13, x14, x15, x16, x17, x18, x19, x20, x21, none, x23]) DM (fun _ v => ∃ β : List Bool, v = .d (dBs β) ∧ β.length = 6) (rngI 0 1 5) (fun b hb cs h => by
    obtain ⟨β, cs', e, h', q⟩ := bits1 (cs := cs) x0 x2 x3 x4 x5 x6 x7 x8 x9 x10 x11 x12 x13 x14 x15 x16 x17 x18 x19 x20 x21 (some b) x23 h
    exact ⟨_, _, cs', rfl, e, h', β, rfl, q⟩) cs h
  obtain ⟨βs, rfl, l', q⟩ := pair_enc (fun β : List Bool => B.d (dBs β)) (fun β => β.length = 6) p
  refine ⟨βs, cs1, ?_, h1, by rw [l', rngI_len], q⟩
  rw [ap_eFrz, ap_lComp i1 (by rw [rngI_len, sizeLine_eq]; decide)]
  rw [show wipeS [x0, some (.r 1), x2, x3, x4, x5, x6, x7, x8, x9, x10, x11, x12, x13, x14, x15, x16, x17, x18, x19, x20, x21, x22, x23] [22] = [x0, some (.r 1), x2, x3, x4, x5, x6, x7, x8, x9, x10, x11, x12, x13, x14, x15, x16, x17, x18, x19, x20, x21, none, x23] from rfl, e1, ER.bind_ok, allD_enc]
/-- joined, reckoned -/
theorem join_facts : ∀ a b : Fin 12, both 7 [] (b.val + 2) (a.val + 2) = both 7 [] (a.val + 2) (b.val + 2) ∧ both 7 (both 7 [] (a.val + 2) (b.val + 2)).1 (a.val + 2) (b.val + 2) = both 7 [] (a.val + 2) (b.val + 2) ∧
    both 7 [] (a.val + 2) 1 = ([], a.val + 2) ∧ both 7 [] (a.val + 2) 0 = ([], 0) ∧ both 7 (both 7 [] (a.val + 2) (b.val + 2)).1 (both 7 [] (a.val + 2) (b.val + 2)).2 (a.val + 2) = both 7 [] (a.val + 2) (b.val + 2) ∧
    (both 7 [] (a.val + 2) (b.val + 2)).1.length ≤ 1 ∧ (both 7 [] (a.val + 2) (b.val + 2)).2 < 2 * (7 + (both 7 [] (a.val + 2) (b.val + 2)).1.length) := by decide +kernel
end
end K42

/-! M28: the loop over all kinds. -/
namespace VM
open PySem L2
open Classical
section
variable {sl : Sl} {cs cs1 : Cs}
theorem t_not0 {t : Fn Bool} (h : t sl cs = .ok true cs1) : eNot t sl cs = .ok false cs1 := by rw [ap_eNot, h, ER.bind_ok]; rfl
theorem t_neI {f g : Fn B} {i : Int} (h : f sl cs = .ok (.d (.int i)) cs) (k : g sl cs = .ok (.d (.int i)) cs) : eT (eBin gNe f g) sl cs = .ok false cs := by
  rw [ap_eT, bin_ok h k (g_nei i i), ER.bind_ok, isB_b]
  simp
theorem p_if1' {P : SR → Prop} {t : Fn Bool} {f : FnS} (h : t sl cs = .ok false cs1) (k : P (.nx sl cs1)) : P (sIf t f sNext sl cs) := by
  rw [ap_sIf, h, sE_ok, if_neg Bool.false_ne_true, ap_sNext]
  exact k
end
end VM
namespace K42
open PySem VM L2
open Classical
section
variable {cs : Cs} {gs g1 g2 : Gs} {x y z w : List Nat} {X Y Z : List Bool → Int}
theorem sup_up (h : ∀ l ∈ w, ∀ k ∈ L aS (s0 7) g1 l, k = 0 ∨ ∃ l' ∈ x ++ y, k ∈ L aS (s0 7) gs l') (hw : okW 7 g1 w) (hx : okW 7 gs x) (hy : okW 7 gs y) (e1 : Ex gs g1 40) (e2 : Ex g1 g2 40) :
    ∀ l ∈ w, ∀ k ∈ sp 7 g2 (l / 2), k = 0 ∨ ∃ l' ∈ x ++ y, k ∈ sp 7 g2 (l' / 2) := by
  obtain ⟨t1, rfl, _⟩ := e1
  obtain ⟨t2, rfl, _⟩ := e2
  intro l hl k hk
  rw [← L_sp, L_ext aS (s0 7) (gs ++ t1) t2 l (by rw [s0_len]; exact hw.2.2 l hl)] at hk
  rcases h l hl k hk with h0 | ⟨l', hl', hk'⟩
  · exact .inl h0
  · refine .inr ⟨l', hl', ?_⟩
    have hlt : l' < 2 * (7 + gs.length) := by
      rcases List.mem_append.mp hl' with q | q
      · exact hx.2.2 l' q
      · exact hy.2.2 l' q
    rw [← L_sp, List.append_assoc, L_ext aS (s0 7) gs (t1 ++ t2) l' (by rw [s0_len]; exact hlt)]
    exact hk'
def KC : List Str := ["add", "mul", "and", "or", "xor"]
def KC6 : List Str := ["add", "mul", "and", "or", "xor", "same"]
def Kd.com (K : Kd) : Bool := KC6.any fun y => y == K.s
theorem com_ok : ∀ K : Kd, K.com = true → ∀ a b : Fin 4, opN K a.val b.val = opN K b.val a.val := by
  intro K h
  cases K <;> first | (revert h; decide) | decide
theorem in_com {sl : Sl} (K : Kd) (h16 : eVar 16 sl cs = .ok (.d (.str K.s)) cs) (h12 : eVar 12 sl cs = .ok (.d (.list (KC.map PyData.str))) cs) :
    eT (eBin (gInU false) (eVar 16) (eFrz (lBin gCat (eVar 12) (eFrz (lTake (aCons (eD (.str "same")) aNil)))))) sl cs = .ok K.com cs := by
  have c : gCat (.d (.list (KC.map PyData.str))) (.d (.list [.str "same"])) cs = .ok ((KC6.map PyData.str).map B.d) cs := by
    unfold gCat
    simp only [bCell]
    rw [if_pos (by rw [sizeLine_eq]; decide)]
    rfl
  have l : eFrz (lBin gCat (eVar 12) (eFrz (lTake (aCons (eD (.str "same")) aNil)))) sl cs = .ok (.d (.list (KC6.map PyData.str))) cs := by
    rw [ap_eFrz, ap_lBin, h12, ER.bind_ok, l_one (d1 := .str "same") rfl, ER.bind_ok, c, ER.bind_ok, allD_mapd]
  have g : gInU false (.d (.str K.s)) (.d (.list (KC6.map PyData.str))) cs = .ok (.d (.bool K.com)) cs := by
    rw [ap_gInU, g_in_strs]
    rfl
  rw [ap_eT, bin_ok h16 l g, ER.bind_ok, isB_b]
noncomputable def numBody : FnS := (sSeq (sSet 20 (eFrz (lComp (iSeq (eFrz (lTake (aCons (eVar 4) (aCons (eVar 5) aNil))))) (tgName 21) eYes (eFn 3 F_word_number (aCons (eVar 2) (aCons (eVar 19) (aCons (eVar 21) aNil)))) [21])))
  (sIf (eOr (eT (eBin gNe (eFn 3 F_word_number (aCons (eVar 2) (aCons (eVar 19) (aCons (eVar 17) aNil)))) (eFn 4 F__law_join (aCons (eVar 16) (aCons (eD (.int 2)) (aCons (eBin gIx (eVar 20) (eD (.int 0))) (aCons (eBin gIx (eVar 20) (eD (.int 1))) aNil))))))) (eT (eBin gNe (eFn 3 F_word_number (aCons (eVar 2) (aCons (eVar 19) (aCons (eVar 18) aNil)))) (eFn 4 F__law_join (aCons (eVar 16) (aCons (eD (.int 2)) (aCons (eBin gIx (eVar 20) (eD (.int 1))) (aCons (eBin gIx (eVar 20) (eD (.int 0))) aNil))))))))
  (sRet (eD (.bool false)))
  sNext))
theorem num_turn (K : Kd) (N : NetOk 6 gs) (kx : Kn 6 gs x 2 X) (ky : Kn 6 gs y 2 Y) {w1 w2 : List Nat} (k1 : Kn 6 gs w1 K.w (fun β => opN K (X β) (Y β))) (k2 : Kn 6 gs w2 K.w (fun β => opN K (Y β) (X β))) (β : List Bool) (hβ : β.length = 6)
    (x0 x1 x3 x6 x7 x8 x9 x10 x11 x12 x13 x14 x15 x20 x21 x22 x23 : Option B) :
    ∃ y20 y21, numBody [x0, x1, some (.d (dNet 6 gs)), x3, some (.d (dW x)), some (.d (dW y)), x6, x7, x8, x9, x10, x11, x12, x13, x14, x15, some (.d (.str K.s)), some (.d (dW w1)), some (.d (dW w2)), some (.d (dBs β)), x20, x21, x22, x23] cs =
      .nx [x0, x1, some (.d (dNet 6 gs)), x3, some (.d (dW x)), some (.d (dW y)), x6, x7, x8, x9, x10, x11, x12, x13, x14, x15, some (.d (.str K.s)), some (.d (dW w1)), some (.d (dW w2)), some (.d (dBs β)), y20, y21, x22, x23] cs := by
  obtain ⟨a, ha⟩ := kx.fin hβ
  obtain ⟨b, hb⟩ := ky.fin hβ
  have nx := F_wordnum (cs := cs) N hβ kx.wo
  have ny := F_wordnum (cs := cs) N hβ ky.wo
  have n1 := F_wordnum (cs := cs) N hβ k1.wo
  have n2 := F_wordnum (cs := cs) N hβ k2.wo
  rw [kx.num β hβ, ha] at nx
  rw [ky.num β hβ, hb] at ny
  rw [k1.num β hβ, ha, hb] at n1
  rw [k2.num β hβ, ha, hb] at n2
  refine ⟨some (.d (.list [.int (a.val : Nat), .int (b.val : Nat)])), x21, ?_⟩
  have i1 : iSeq (eFrz (lTake (aCons (eVar 4) (aCons (eVar 5) aNil)))) [x0, x1, some (.d (dNet 6 gs)), x3, some (.d (dW x)), some (.d (dW y)), x6, x7, x8, x9, x10, x11, x12, x13, x14, x15, some (.d (.str K.s)), some (.d (dW w1)), some (.d (dW w2)), some (.d (dBs β)), x20, x21, x22, x23] cs = .ok ([(x, a), (y, b)].map fun p : List Nat × Fin 4 => .d (dW p.1), fun _ => True) cs := i_seq_l _ _ cs (l_two rfl rfl)
  unfold numBody
  refine p_set (P := fun r => r = _) (cs1 := cs) (sl1 := [x0, x1, some (.d (dNet 6 gs)), x3, some (.d (dW x)), some (.d (dW y)), x6, x7, x8, x9, x10, x11, x12, x13, x14, x15, some (.d (.str K.s)), some (.d (dW w1)), some (.d (dW w2)), some (.d (dBs β)), some (.d (.list [.int (a.val : Nat), .int (b.val : Nat)])), x21, x22, x23]) (b := .d (.list [.int (a.val : Nat), .int (b.val : Nat)])) ?_ rfl ?_
  · rw [ap_eFrz, ap_lComp i1 (by rw [sizeLine_eq, List.length_map]; exact (by decide : (2 : Nat) < 16777216)), lc_map (okc := fun _ => True) trivial (fun p : List Nat × Fin 4 => B.d (dW p.1)) (fun p : List Nat × Fin 4 => B.d (.int (p.2.val : Nat))) [(x, a), (y, b)] (fun p hp => ?_), ER.bind_ok]
    · rfl
    · refine ⟨[x0, x1, some (.d (dNet 6 gs)), x3, some (.d (dW x)), some (.d (dW y)), x6, x7, x8, x9, x10, x11, x12, x13, x14, x15, some (.d (.str K.s)), some (.d (dW w1)), some (.d (dW w2)), some (.d (dBs β)), x20, some (.d (dW p.1)), x22, x23], rfl, fn_3 rfl rfl rfl ?_⟩
      rcases List.mem_cons.mp hp with h | h
      · rw [h]; exact nx
      · rw [List.mem_singleton.mp h]; exact ny
  refine p_if1' (P := fun r => r = _) (cs1 := cs) (t_or0 (t_neI (fn_3 rfl rfl rfl n1) (fn_4 rfl rfl (bin_ok (a := .d (.list [.int (a.val : Nat), .int (b.val : Nat)])) rfl rfl (g_ix_l _ _ _ rfl)) (bin_ok (a := .d (.list [.int (a.val : Nat), .int (b.val : Nat)])) rfl rfl (g_ix_l _ _ _ rfl)) (F_joins K a b))) (t_neI (fn_3 rfl rfl rfl n2) (fn_4 rfl rfl (bin_ok (a := .d (.list [.int (a.val : Nat), .int (b.val : Nat)])) rfl rfl (g_ix_l _ _ _ rfl)) (bin_ok (a := .d (.list [.int (a.val : Nat), .int (b.val : Nat)])) rfl rfl (g_ix_l _ _ _ rfl)) (F_joins K b a)))) rfl
noncomputable def kdBody : FnS := (sSeq (sAsg (tgTup 2 (tgCons (tgName 2) (tgCons (tgName 17) tgNil))) (eFn 4 F_combined (aCons (eVar 2) (aCons (eVar 16) (aCons (eVar 4) (aCons (eVar 5) aNil))))))
  (sSeq (sAsg (tgTup 2 (tgCons (tgName 2) (tgCons (tgName 18) tgNil))) (eFn 4 F_combined (aCons (eVar 2) (aCons (eVar 16) (aCons (eVar 5) (aCons (eVar 4) aNil))))))
  (sSeq (sIf (eAnd (eT (eBin (gInU false) (eVar 16) (eFrz (lBin gCat (eVar 12) (eFrz (lTake (aCons (eD (.str "same")) aNil))))))) (eT (eBin gIsNot (eFn 3 F_agree (aCons (eVar 2) (aCons (eVar 17) (aCons (eVar 18) aNil)))) (eD (.bool true)))))
  (sRet (eD (.bool false)))
  sNext)
  (sSeq (sFor (iSeq (eVar 7)) (tgName 19) numBody)
  (sIf (eOr (eT (eBin gIsNot (eFn 1 F_is_tidy (aCons (eVar 2) aNil)) (eD (.bool true)))) (eNot coneTest))
  (sRet (eD (.bool false)))
  sNext)))))
theorem kd_turn (K : Kd) (N : NetOk 6 gs) (hl : gs.length ≤ 5000) (kx : Kn 6 gs x 2 X) (ky : Kn 6 gs y 2 Y) (βs : List (List Bool)) (hβs : ∀ β ∈ βs, β.length = 6)
    (x0 x1 x3 x6 x8 x9 x10 x11 x13 x14 x15 x17 x18 x19 x20 x21 x22 x23 : Option B) :
    ∃ g2 y17 y18 y19 y20 y21, kdBody [x0, x1, some (.d (dNet 6 gs)), x3, some (.d (dW x)), some (.d (dW y)), x6, some (.d (.list (βs.map dBs))), x8, x9, x10, x11, some (.d (.list (KC.map PyData.str))), x13, x14, x15, some (.d (.str K.s)), x17, x18, x19, x20, x21, x22, x23] cs =
      .nx [x0, x1, some (.d (dNet 6 g2)), x3, some (.d (dW x)), some (.d (dW y)), x6, some (.d (.list (βs.map dBs))), x8, x9, x10, x11, some (.d (.list (KC.map PyData.str))), x13, x14, x15, some (.d (.str K.s)), y17, y18, y19, y20, y21, x22, x23] cs ∧ NetOk 6 g2 ∧ Ex gs g2 80 := by
  obtain ⟨g1, w1, e1, p1, N1, k1, s1⟩ := kcomb (cs := cs) K N (by omega) kx ky
  have l1 := p1.len
  obtain ⟨g2, w2, e2, p2, N2, k2, _⟩ := kcomb (cs := cs) K N1 (by omega) (ky.up p1) (kx.up p1)
  have p12 := p1.trans p2
  have kx2 := kx.up p12
  have ky2 := ky.up p12
  have k12 := k1.up p2
  have tst : ∀ sl : Sl, eVar 2 sl cs = .ok (.d (dNet 6 g2)) cs → eVar 17 sl cs = .ok (.d (dW w1)) cs → eVar 18 sl cs = .ok (.d (dW w2)) cs → eVar 16 sl cs = .ok (.d (.str K.s)) cs → eVar 12 sl cs = .ok (.d (.list (KC.map PyData.str))) cs →
      eAnd (eT (eBin (gInU false) (eVar 16) (eFrz (lBin gCat (eVar 12) (eFrz (lTake (aCons (eD (.str "same")) aNil))))))) (eT (eBin gIsNot (eFn 3 F_agree (aCons (eVar 2) (aCons (eVar 17) (aCons (eVar 18) aNil)))) (eD (.bool true)))) sl cs = .ok false cs := fun sl h2 h17 h18 h16 h12 => by
    cases hc : K.com with
    | false => exact t_and0 ((in_com K h16 h12).trans (by rw [hc]))
    | true =>
      refine t_and1 ((in_com K h16 h12).trans (by rw [hc])) (t_isNot (fn_3 h2 h17 h18 (kagr N2 k12 k2 fun β hβ => ?_)))
      obtain ⟨a, ha⟩ := kx.fin hβ
      obtain ⟨b, hb⟩ := ky.fin hβ
      try dsimp only
      rw [ha, hb]
      exact com_ok K hc a b
  obtain ⟨sl', cs', el, y19, y20, y21, h1, h2⟩ := loop_inv (okc := fun _ => True) (tf := tgName 19) (body := numBody) (fun i sl c => ∃ y19 y20 y21, sl = [x0, x1, some (.d (dNet 6 g2)), x3, some (.d (dW x)), some (.d (dW y)), x6, some (.d (.list (βs.map dBs))), x8, x9, x10, x11, some (.d (.list (KC.map PyData.str))), x13, x14, x15, some (.d (.str K.s)), some (.d (dW w1)), some (.d (dW w2)), y19, y20, y21, x22, x23] ∧ c = cs)
    (βs.map fun β => .d (dBs β)) 0 _ cs ⟨x19, x20, x21, rfl, rfl⟩ (fun _ _ _ => trivial) (by
      rintro i b sl c hb ⟨y19, y20, y21, rfl, rfl⟩
      rw [List.getElem?_map] at hb
      obtain ⟨β, hm, rfl⟩ := Option.map_eq_some_iff.mp hb
      obtain ⟨z20, z21, e⟩ := num_turn (cs := c) K N2 kx2 ky2 k12 k2 β (hβs β (List.mem_of_getElem? hm)) x0 x1 x3 x6 (some (.d (.list (βs.map dBs)))) x8 x9 x10 x11 (some (.d (.list (KC.map PyData.str)))) x13 x14 x15 y20 y21 x22 x23
      exact ⟨trivial, _, rfl, _, _, .inl e, some (.d (dBs β)), z20, z21, rfl, rfl⟩)
  subst h1 h2
  refine ⟨g2, some (.d (dW w1)), some (.d (dW w2)), y19, y20, y21, ?_, N2, p12⟩
  unfold kdBody
  refine p_asg2 (P := fun r => r = _) (sl1 := [x0, x1, some (.d (dNet 6 g1)), x3, some (.d (dW x)), some (.d (dW y)), x6, some (.d (.list (βs.map dBs))), x8, x9, x10, x11, some (.d (.list (KC.map PyData.str))), x13, x14, x15, some (.d (.str K.s)), some (.d (dW w1)), x18, x19, x20, x21, x22, x23]) (fn_4 rfl rfl rfl rfl e1) rfl ?_
  refine p_asg2 (P := fun r => r = _) (sl1 := [x0, x1, some (.d (dNet 6 g2)), x3, some (.d (dW x)), some (.d (dW y)), x6, some (.d (.list (βs.map dBs))), x8, x9, x10, x11, some (.d (.list (KC.map PyData.str))), x13, x14, x15, some (.d (.str K.s)), some (.d (dW w1)), some (.d (dW w2)), x19, x20, x21, x22, x23]) (fn_4 rfl rfl rfl rfl e2) rfl ?_
  refine p_if0 (P := fun r => r = _) (tst _ rfl rfl rfl rfl rfl) ?_
  refine p_nx (P := fun r => r = _) (sl1 := [x0, x1, some (.d (dNet 6 g2)), x3, some (.d (dW x)), some (.d (dW y)), x6, some (.d (.list (βs.map dBs))), x8, x9, x10, x11, some (.d (.list (KC.map PyData.str))), x13, x14, x15, some (.d (.str K.s)), some (.d (dW w1)), some (.d (dW w2)), y19, y20, y21, x22, x23]) (cs1 := cs') ?_ ?_
  · rw [ap_sFor, i_seq_l _ (βs.map dBs) cs' rfl, sE_ok, List.map_map]
    exact el
  · exact p_if1' (P := fun r => r = _) (cs1 := cs') (t_or0 (t_isNot (fn_1 rfl (F_tidy N2))) (t_not0 (cone_test N2 k12.wo kx2.wo ky2.wo (sup_up s1 k1.wo kx.wo ky.wo p1 p2) _ _ _ _ _ _ _ _ _ _ _ _ _ _ _ _ _ _ _ _))) rfl
end
end K42

/-! M29: _law_picks_hold. -/
namespace K42
open PySem VM L2
open Classical
section
variable {cs : Cs} {gs g1 g2 : Gs} {x y z w : List Nat} {X Y Z : List Bool → Int}
theorem al7 : ∀ a b : Fin 4, opN .and a.val b.val = 3 - opN .or (3 - a.val) (3 - b.val) := by decide
theorem L_up {n l : Nat} {β : List Bool} (hβ : β.length = 6) (hl : l < 2 * (7 + gs.length)) (e : Ex gs g1 n) : L aB (v0 β) g1 l = L aB (v0 β) gs l := by
  obtain ⟨t, rfl, _⟩ := e
  exact L_ext aB (v0 β) gs t l (by rw [v0_len, hβ]; exact hl)
theorem opp_lt {l : Nat} (hl : l < 2 * (7 + gs.length)) : opp l < 2 * (7 + gs.length) := by have := opp_div l; omega
theorem lays_ints : ∀ β : List Bool, PyData.canLayAll0 (β.map dB) = true
  | [] => by simp [PyData.canLayAll0]
  | b :: β => by simp [PyData.canLayAll0, PyData.canLay0, lays_ints β]
theorem deps_ints : ∀ β : List Bool, PyData.depthAll (β.map dB) = 0
  | [] => by simp [PyData.depthAll]
  | b :: β => by simp [PyData.depthAll, PyData.depth, deps_ints β]
theorem lays_bits : ∀ βs : List (List Bool), PyData.canLayAll0 (βs.map dBs) = true
  | [] => by simp [PyData.canLayAll0]
  | β :: βs => by simp only [List.map_cons, PyData.canLayAll0, PyData.canLay0, lays_ints, lays_bits βs, Bool.and_self]
theorem deps_bits : ∀ βs : List (List Bool), PyData.depthAll (βs.map dBs) ≤ 1
  | [] => by simp [PyData.depthAll]
  | β :: βs => by
    have := deps_bits βs
    simp only [List.map_cons, PyData.depthAll, PyData.depth, deps_ints]
    omega
theorem sh_bits (βs : List (List Bool)) : SeqAt.shaped (.list (βs.map dBs)) = true := by
  have h := deps_bits βs
  unfold SeqAt.shaped
  rw [Bool.and_eq_true]
  refine ⟨by simp only [PyData.canLay0, lays_bits], decide_eq_true ?_⟩
  simp only [PyData.depth]
  omega
theorem ne_empty (βs : List (List Bool)) : gNe (.d (.list (βs.map dBs))) (.d (.list [])) cs = .ok (.d (.bool (decide (βs ≠ [])))) cs := by
  have e1 : bData cs (.d (.list (βs.map dBs))) = some (.list (βs.map dBs)) := rfl
  have e2 : bData cs (.d (.list [])) = some (.list []) := rfl
  unfold gNe
  rw [e1, e2]
  simp only
  rw [if_pos ⟨sh_bits βs, by decide +kernel⟩, PyData.eqv.eq_def]
  simp only
  cases βs with
  | nil => simp [PyData.eqvAll]
  | cons b r => simp [PyData.eqvAll]
noncomputable def litE : Fn B := eIf (eT (eBin gEq (eCall gInt (aCons (eBin gMod (eVar 25) (eD (.int 2))) aNil)) (eD (.int 0)))) (eBin gIx (eBin gIx (eVar 20) (eVar 21)) (eBin gDiv (eVar 25) (eD (.int 2)))) (eBin gSub (eD (.int 1)) (eBin gIx (eBin gIx (eVar 20) (eVar 21)) (eBin gDiv (eVar 25) (eD (.int 2)))))
theorem lit_e {sl : Sl} {l i : Nat} {vss : List (List Bool)} {vs : List Bool} (hl : l / 2 < vs.length) (hi : vss[i]? = some vs) (h25 : eVar 25 sl cs = .ok (.d (dN l)) cs) (h20 : eVar 20 sl cs = .ok (.d (.list (vss.map dBs))) cs) (h21 : eVar 21 sl cs = .ok (.d (.int (i : Nat))) cs) : litE sl cs = .ok (.d (dB (lit aB vs l))) cs := by
  have il := (List.getElem?_eq_some_iff.mp hi).1
  have ix1 : gIx (.d (.list (vss.map dBs))) (.d (.int (i : Nat))) cs = .ok (.d (dBs vs)) cs := g_ix_l _ _ _ (by rw [atI_nat _ _ (by omega) (by rw [List.length_map]; omega), Int.toNat_natCast, List.getElem?_map, hi]; rfl)
  have ix2 : gIx (.d (dBs vs)) (.d (.int ((l : Int) / 2))) cs = .ok (.d (dB (vs.getD (l / 2) false))) cs := g_ix_t _ _ _ (by
    rw [atI_nat _ _ (by omega) (by rw [List.length_map]; omega), show ((l : Int) / 2).toNat = l / 2 by omega, List.getElem?_map, List.getD_eq_getElem?_getD, List.getElem?_eq_getElem hl]
    rfl)
  have g : eBin gIx (eBin gIx (eVar 20) (eVar 21)) (eBin gDiv (eVar 25) (eD (.int 2))) sl cs = .ok (.d (dB (vs.getD (l / 2) false))) cs := bin_ok (bin_ok h20 h21 ix1) (bin_ok h25 rfl (div2 _)) ix2
  have t : eT (eBin gEq (eCall gInt (aCons (eBin gMod (eVar 25) (eD (.int 2))) aNil)) (eD (.int 0))) sl cs = .ok (decide ((l : Int) % 2 = 0)) cs := by
    rw [ap_eT, bin_ok (call_1 (bin_ok h25 rfl (mod2 _)) (g_int _)) rfl (g_eqi _ _), ER.bind_ok, isB_b]
  unfold litE
  rw [ap_eIf, t, ER.bind_ok]
  unfold lit
  by_cases h : l % 2 = 1
  · rw [if_neg (by simp; omega), if_pos h, bin_ok rfl g (g_sub _ _), bI_not]
    rfl
  · rw [if_pos (decide_eq_true (by omega)), if_neg h, g]
    rfl
noncomputable def pkBody : FnS := (sSeq (sSet 22 (eFrz (lComp (iSeq (eVar 18)) (tgName 25) eYes litE [25])))
  (sIf (eT (eBin gNe (eFn 3 F_word_number (aCons (eVar 1) (aCons (eBin gIx (eVar 4) (eVar 21)) (aCons (eVar 18) aNil)))) (eBin gAdd (eBin gIx (eVar 22) (eD (.int 0))) (eBin gMul (eD (.int 2)) (eBin gIx (eVar 22) (eD (.int 1)))))))
  (sRet (eD (.bool false)))
  sNext))
theorem fn_2' {sl : Sl} {cs : Cs} {g : List B → Cs → ER B} {f1 f2 : Fn B} {b1 b2 : B} {r : ER B} (h1 : f1 sl cs = .ok b1 cs) (h2 : f2 sl cs = .ok b2 cs) (h : g [b1, b2] cs = r) : eFn 2 g (aCons f1 (aCons f2 aNil)) sl cs = r := fn_2 h1 h2 h
theorem turn_e {sl : Sl} {l : Nat} (h : eVar 11 sl cs = .ok (.d (dN l)) cs) : eIf (eT (eBin gEq (eCall gInt (aCons (eBin gMod (eVar 11) (eD (.int 2))) aNil)) (eD (.int 0)))) (eBin gAdd (eVar 11) (eD (.int 1))) (eBin gSub (eVar 11) (eD (.int 1))) sl cs = .ok (.d (dN (opp l))) cs := by
  have t : eT (eBin gEq (eCall gInt (aCons (eBin gMod (eVar 11) (eD (.int 2))) aNil)) (eD (.int 0))) sl cs = .ok (decide ((l : Int) % 2 = 0)) cs := by
    rw [ap_eT, bin_ok (call_1 (bin_ok h rfl (mod2 _)) (g_int _)) rfl (g_eqi _ _), ER.bind_ok, isB_b]
  rw [ap_eIf, t, ER.bind_ok]
  unfold opp
  by_cases hl : l % 2 = 1
  · rw [if_neg (by simp; omega), if_pos hl, bin_ok h rfl (g_sub _ _)]
    congr 3
    omega
  · rw [if_pos (decide_eq_true (by omega)), if_neg hl, bin_ok h rfl (g_add _ _)]
    rfl
theorem F_picks_hold {K : Kd} (N0 : NetOk 6 gs) (hl : gs.length ≤ 5000) (kx : Kn 6 gs x 2 X) (ky : Kn 6 gs y 2 Y) (kz : Kn 6 gs z 2 Z) (hK : K.w = 2) (βs : List (List Bool)) (hb5 : βs.length = 5) (hβs : ∀ β ∈ βs, β.length = 6) (hcs : DM cs) :
    ∃ cs', DM cs' ∧ F__law_picks_hold [.r 1, .d (dNet 6 gs), .d (.str K.s), .d (.list [dW x, dW y, dW z]), .d (.list (βs.map dBs))] cs = .ok (.d (.bool true)) cs' := by
  obtain ⟨g1, w1, e1, p1, N1, kw1, _⟩ := kcomb (cs := cs) .and N0 (by omega) kx ky
  have l1 := p1.len
  have kx1 := kx.up p1
  have ky1 := ky.up p1
  obtain ⟨g2, w2, e2, p2, N2, kw2, _⟩ := kcomb (cs := cs) .or N1 (by omega) kx1.opp2 ky1.opp2
  have l2 := p2.len
  have p12 := p1.trans p2
  replace kw1 := kw1.up p2
  obtain ⟨g3, w3, e3, p3, N3, kw3, _⟩ := kcomb (cs := cs) .less N2 (by omega) (kx.up p12) (ky.up p12)
  have l3 := p3.len
  have p13 := p12.trans p3
  replace kw1 := kw1.up p3
  replace kw2 := kw2.up p3
  obtain ⟨b0, rfl⟩ := one1 kw3.wl
  obtain ⟨d, cs1, ep, hcs1, hd⟩ := F_pick (ds := [.int 2, .int 7, .int 10, dN b0]) hcs (by simp)
  have hb0 : b0 < 2 * (7 + g3.length) := kw3.wo.2.2 b0 (by simp)
  obtain ⟨l, rfl, hll⟩ : ∃ l : Nat, d = dN l ∧ l < 2 * (7 + g3.length) := by
    rcases List.mem_cons.mp hd with h | hd
    · exact ⟨2, h, by omega⟩
    rcases List.mem_cons.mp hd with h | hd
    · exact ⟨7, h, by omega⟩
    rcases List.mem_cons.mp hd with h | hd
    · exact ⟨10, h, by omega⟩
    exact ⟨b0, List.mem_singleton.mp hd, hb0⟩
  obtain ⟨g4, w4, e4, p4, N4, kw4⟩ := kpick (cs := cs1) N3 (by omega) hll (kx.up p13) (ky.up p13)
  have l4 := p4.len
  have g34 : g3.length ≤ g4.length := by obtain ⟨t, rfl, _⟩ := p4; rw [List.length_append]; omega
  have p14 := p13.trans p4
  have hl4 : l < 2 * (7 + g4.length) := by omega
  obtain ⟨g5, w5, e5, p5, N5, kw5⟩ := kpick (cs := cs1) N4 (by omega) (opp_lt hl4) (ky.up p14) (kx.up p14)
  have l5 := p5.len
  have g45 : g4.length ≤ g5.length := by obtain ⟨t, rfl, _⟩ := p5; rw [List.length_append]; omega
  have p15 := p14.trans p5
  have hl5 : l < 2 * (7 + g5.length) := by omega
  obtain ⟨g6, w6, e6, p6, N6, kw6⟩ := kpick (cs := cs1) N5 (by omega) hl5 (kz.up p15) (kz.up p15)
  have l6 := p6.len
  have p16 := p15.trans p6
  replace kw1 := ((kw1.up p4).up p5).up p6
  replace kw2 := ((kw2.up p4).up p5).up p6
  replace kw4 := (kw4.up p5).up p6
  replace kw5 := kw5.up p6
  have kx6 := kx.up p16
  have ky6 := ky.up p16
  have kz6 := kz.up p16
  have veq : ∀ β : List Bool, β.length = 6 → (if L aB (v0 β) g3 l = true then X β else Y β) = if L aB (v0 β) g4 (opp l) = true then Y β else X β := fun β hβ => by
    rw [L_not, L_up hβ hll p4]
    cases L aB (v0 β) g3 l <;> rfl
  have a1 := kagr (cs := cs1) N6 kw1 kw2.opp2 (fun β hβ => by
    obtain ⟨a, ha⟩ := kx.fin hβ; obtain ⟨b, hb⟩ := ky.fin hβ
    (try dsimp only); rw [ha, hb]; exact al7 a b)
  have a2 := kagr (cs := cs1) N6 kw4 kw5 veq
  have a3 := kagr (cs := cs1) N6 kw6 kz6 (fun β hβ => by (try dsimp only); rw [ite_self])
  obtain ⟨g7, w7, e7, p7, N7, kw7⟩ := kpick (cs := cs1) (c := 1) N6 (by omega) (by omega) kx6 ky6
  have a4 := kagr (cs := cs1) N7 kw7 (kx6.up p7) (fun β hβ => by
    have h1 : L aB (v0 β) g6 1 = true := (dn_true (S := fun _ => True) (Nat.succ_pos 6) g6).val β (by omega)
    (try dsimp only); rw [h1, if_pos rfl])
  obtain ⟨g8, w8, e8, p8, N8, kw8, _⟩ := kcomb (cs := cs1) K N6 (by omega) kw4 kz6
  rw [hK] at kw8
  have l8 := p8.len
  obtain ⟨g9, w9, e9, p9, N9, kw9, _⟩ := kcomb (cs := cs1) K N8 (by omega) (kw5.up p8) (kz6.up p8)
  rw [hK] at kw9
  replace kw8 := kw8.up p9
  have kx9 := (kx6.up p8).up p9
  have ky9 := (ky6.up p8).up p9
  have a5 := kagr (cs := cs1) N9 kw8 kw9 (fun β hβ => by (try dsimp only); rw [veq β hβ])
  unfold F__law_picks_hold
  rw [ap_mDef]
  have gc : ∀ {r : ER B}, (∃ t, r = .ok (.d (.bool true)) t ∧ DM t) → ∃ cs', DM cs' ∧ gcR cs r = .ok (.d (.bool true)) cs' := by
    rintro r ⟨t, rfl, ht⟩
    refine ⟨t, ht, ?_⟩
    obtain ⟨xs, ys, rfl⟩ := hcs
    obtain ⟨xs', ys', rfl⟩ := ht
    unfold gcR
    simp only
    have hg : GcOk [IL xs, IL ys] [IL xs', IL ys'] := ⟨by simp, fun k c hk e => by
      match k, hk, e with
      | 0, _, e => cases e; exact .inr (il_low _ _)
      | 1, _, e => cases e; exact .inr (il_low _ _)
      | k + 2, hk, _ => simp at hk; omega⟩
    rw [if_pos ⟨hg, trivial⟩]
    rfl
  apply gc
  show ∃ t, retOf ((_ : FnS) [some (.r 1), some (.d (dNet 6 gs)), some (.d (.str K.s)), some (.d (.list [dW x, dW y, dW z])), some (.d (.list (βs.map dBs))), none, none, none, none, none, none, none, none, none, none, none, none, none, none, none, none, none, none, none, none, none] cs) = .ok (.d (.bool true)) t ∧ DM t
  refine p_asg3 (P := fun r => ∃ t, retOf r = .ok (.d (.bool true)) t ∧ DM t) (sl1 := [some (.r 1), some (.d (dNet 6 gs)), some (.d (.str K.s)), some (.d (.list [dW x, dW y, dW z])), some (.d (.list (βs.map dBs))), some (.d (dW x)), some (.d (dW y)), some (.d (dW z)), none, none, none, none, none, none, none, none, none, none, none, none, none, none, none, none, none, none]) (cs1 := cs) (t := .list [dW x, dW y, dW z]) rfl (.inr rfl) rfl ?_
  refine p_asg2 (P := fun r => ∃ t, retOf r = .ok (.d (.bool true)) t ∧ DM t) (sl1 := [some (.r 1), some (.d (dNet 6 g1)), some (.d (.str K.s)), some (.d (.list [dW x, dW y, dW z])), some (.d (.list (βs.map dBs))), some (.d (dW x)), some (.d (dW y)), some (.d (dW z)), some (.d (dW w1)), none, none, none, none, none, none, none, none, none, none, none, none, none, none, none, none, none]) (fn_4 rfl rfl rfl rfl e1) rfl ?_
  refine p_asg2 (P := fun r => ∃ t, retOf r = .ok (.d (.bool true)) t ∧ DM t) (sl1 := [some (.r 1), some (.d (dNet 6 g2)), some (.d (.str K.s)), some (.d (.list [dW x, dW y, dW z])), some (.d (.list (βs.map dBs))), some (.d (dW x)), some (.d (dW y)), some (.d (dW z)), some (.d (dW w1)), some (.d (dW w2)), none, none, none, none, none, none, none, none, none, none, none, none, none, none, none, none]) (fn_4 rfl rfl (fn_1 rfl (kn_opp kx1 (.inr rfl))) (fn_1 rfl (kn_opp ky1 (.inr rfl))) e2) rfl ?_
  refine p_asg2 (P := fun r => ∃ t, retOf r = .ok (.d (.bool true)) t ∧ DM t) (sl1 := [some (.r 1), some (.d (dNet 6 g3)), some (.d (.str K.s)), some (.d (.list [dW x, dW y, dW z])), some (.d (.list (βs.map dBs))), some (.d (dW x)), some (.d (dW y)), some (.d (dW z)), some (.d (dW w1)), some (.d (dW w2)), some (.d (dW [b0])), none, none, none, none, none, none, none, none, none, none, none, none, none, none, none]) (fn_4 rfl rfl rfl rfl e3) rfl ?_
  refine p_set (P := fun r => ∃ t, retOf r = .ok (.d (.bool true)) t ∧ DM t) (cs1 := cs1) (sl1 := [some (.r 1), some (.d (dNet 6 g3)), some (.d (.str K.s)), some (.d (.list [dW x, dW y, dW z])), some (.d (.list (βs.map dBs))), some (.d (dW x)), some (.d (dW y)), some (.d (dW z)), some (.d (dW w1)), some (.d (dW w2)), some (.d (dW [b0])), some (.d (dN l)), none, none, none, none, none, none, none, none, none, none, none, none, none, none]) (b := .d (dN l)) (fn_2' rfl (l_four rfl rfl rfl (bin_ok (a := .d (dW [b0])) (b := .d (.int 0)) rfl rfl (g_ix_t _ _ _ rfl))) ep) rfl ?_
  refine p_set (P := fun r => ∃ t, retOf r = .ok (.d (.bool true)) t ∧ DM t) (cs1 := cs1) (sl1 := [some (.r 1), some (.d (dNet 6 g3)), some (.d (.str K.s)), some (.d (.list [dW x, dW y, dW z])), some (.d (.list (βs.map dBs))), some (.d (dW x)), some (.d (dW y)), some (.d (dW z)), some (.d (dW w1)), some (.d (dW w2)), some (.d (dW [b0])), some (.d (dN l)), some (.d (dN (opp l))), none, none, none, none, none, none, none, none, none, none, none, none, none]) (b := .d (dN (opp l))) (turn_e rfl) rfl ?_
  refine p_asg2 (P := fun r => ∃ t, retOf r = .ok (.d (.bool true)) t ∧ DM t) (sl1 := [some (.r 1), some (.d (dNet 6 g4)), some (.d (.str K.s)), some (.d (.list [dW x, dW y, dW z])), some (.d (.list (βs.map dBs))), some (.d (dW x)), some (.d (dW y)), some (.d (dW z)), some (.d (dW w1)), some (.d (dW w2)), some (.d (dW [b0])), some (.d (dN l)), some (.d (dN (opp l))), some (.d (dW w4)), none, none, none, none, none, none, none, none, none, none, none, none]) (fn_4 rfl rfl rfl rfl e4) rfl ?_
  refine p_asg2 (P := fun r => ∃ t, retOf r = .ok (.d (.bool true)) t ∧ DM t) (sl1 := [some (.r 1), some (.d (dNet 6 g5)), some (.d (.str K.s)), some (.d (.list [dW x, dW y, dW z])), some (.d (.list (βs.map dBs))), some (.d (dW x)), some (.d (dW y)), some (.d (dW z)), some (.d (dW w1)), some (.d (dW w2)), some (.d (dW [b0])), some (.d (dN l)), some (.d (dN (opp l))), some (.d (dW w4)), some (.d (dW w5)), none, none, none, none, none, none, none, none, none, none, none]) (fn_4 rfl rfl rfl rfl e5) rfl ?_
  refine p_asg2 (P := fun r => ∃ t, retOf r = .ok (.d (.bool true)) t ∧ DM t) (sl1 := [some (.r 1), some (.d (dNet 6 g6)), some (.d (.str K.s)), some (.d (.list [dW x, dW y, dW z])), some (.d (.list (βs.map dBs))), some (.d (dW x)), some (.d (dW y)), some (.d (dW z)), some (.d (dW w1)), some (.d (dW w2)), some (.d (dW [b0])), some (.d (dN l)), some (.d (dN (opp l))), some (.d (dW w4)), some (.d (dW w5)), some (.d (dW w6)), none, none, none, none, none, none, none, none, none, none]) (fn_4 rfl rfl rfl rfl e6) rfl ?_
  refine p_if0 (P := fun r => ∃ t, retOf r = .ok (.d (.bool true)) t ∧ DM t) (t_trues (k := 3) (by decide) rfl (by decide) sh_tr3 (l_three (fn_3 rfl rfl (fn_1 rfl (kn_opp kw2 (.inr rfl))) a1) (fn_3 rfl rfl rfl a2) (fn_3 rfl rfl rfl a3))) ?_
  refine p_asg2 (P := fun r => ∃ t, retOf r = .ok (.d (.bool true)) t ∧ DM t) (sl1 := [some (.r 1), some (.d (dNet 6 g6)), some (.d (.str K.s)), some (.d (.list [dW x, dW y, dW z])), some (.d (.list (βs.map dBs))), some (.d (dW x)), some (.d (dW y)), some (.d (dW z)), some (.d (dW w1)), some (.d (dW w2)), some (.d (dW [b0])), some (.d (dN l)), some (.d (dN (opp l))), some (.d (dW w4)), some (.d (dW w5)), some (.d (dW w6)), some (.d (dNet 6 g7)), some (.d (dW w7)), none, none, none, none, none, none, none, none]) (fn_4 rfl rfl rfl rfl e7) rfl ?_
  refine p_if0 (P := fun r => ∃ t, retOf r = .ok (.d (.bool true)) t ∧ DM t) (t_isNot (fn_3 rfl rfl rfl a4)) ?_
  refine p_asg2 (P := fun r => ∃ t, retOf r = .ok (.d (.bool true)) t ∧ DM t) (sl1 := [some (.r 1), some (.d (dNet 6 g8)), some (.d (.str K.s)), some (.d (.list [dW x, dW y, dW z])), some (.d (.list (βs.map dBs))), some (.d (dW x)), some (.d (dW y)), some (.d (dW z)), some (.d (dW w1)), some (.d (dW w2)), some (.d (dW [b0])), some (.d (dN l)), some (.d (dN (opp l))), some (.d (dW w4)), some (.d (dW w5)), some (.d (dW w6)), some (.d (dNet 6 g7)), some (.d (dW w7)), some (.d (dW w8)), none, none, none, none, none, none, none]) (fn_4 rfl rfl rfl rfl e8) rfl ?_
  refine p_asg2 (P := fun r => ∃ t, retOf r = .ok (.d (.bool true)) t ∧ DM t) (sl1 := [some (.r 1), some (.d (dNet 6 g9)), some (.d (.str K.s)), some (.d (.list [dW x, dW y, dW z])), some (.d (.list (βs.map dBs))), some (.d (dW x)), some (.d (dW y)), some (.d (dW z)), some (.d (dW w1)), some (.d (dW w2)), some (.d (dW [b0])), some (.d (dN l)), some (.d (dN (opp l))), some (.d (dW w4)), some (.d (dW w5)), some (.d (dW w6)), some (.d (dNet 6 g7)), some (.d (dW w7)), some (.d (dW w8)), some (.d (dW w9)), none, none, none, none, none, none]) (fn_4 rfl rfl rfl rfl e9) rfl ?_
  refine p_if0 (P := fun r => ∃ t, retOf r = .ok (.d (.bool true)) t ∧ DM t) (t_isNot (fn_3 rfl rfl rfl a5)) ?_
  have valsE : eFrz (lComp (iSeq (eVar 4)) (tgName 24) eYes (eFn 2 F_node_values (aCons (eVar 1) (aCons (eVar 24) aNil))) [24]) [some (.r 1), some (.d (dNet 6 g9)), some (.d (.str K.s)), some (.d (.list [dW x, dW y, dW z])), some (.d (.list (βs.map dBs))), some (.d (dW x)), some (.d (dW y)), some (.d (dW z)), some (.d (dW w1)), some (.d (dW w2)), some (.d (dW [b0])), some (.d (dN l)), some (.d (dN (opp l))), some (.d (dW w4)), some (.d (dW w5)), some (.d (dW w6)), some (.d (dNet 6 g7)), some (.d (dW w7)), some (.d (dW w8)), some (.d (dW w9)), none, none, none, none, none, none] cs1 = .ok (.d (.list ((βs.map fun β => ev aB (v0 β) g9).map dBs))) cs1 := by
    have i1 : iSeq (eVar 4) [some (.r 1), some (.d (dNet 6 g9)), some (.d (.str K.s)), some (.d (.list [dW x, dW y, dW z])), some (.d (.list (βs.map dBs))), some (.d (dW x)), some (.d (dW y)), some (.d (dW z)), some (.d (dW w1)), some (.d (dW w2)), some (.d (dW [b0])), some (.d (dN l)), some (.d (dN (opp l))), some (.d (dW w4)), some (.d (dW w5)), some (.d (dW w6)), some (.d (dNet 6 g7)), some (.d (dW w7)), some (.d (dW w8)), some (.d (dW w9)), none, none, none, none, none, none] cs1 = .ok (βs.map fun β => .d (dBs β), fun _ => True) cs1 := by
      rw [i_seq_l _ (βs.map dBs) cs1 rfl, List.map_map]
      rfl
    rw [ap_eFrz, ap_lComp i1 (by rw [List.length_map, hb5, sizeLine_eq]; decide), lc_map (okc := fun _ => True) trivial (fun β : List Bool => B.d (dBs β)) (fun β : List Bool => B.d (dBs (ev aB (v0 β) g9))) βs (fun β hβ => ⟨[some (.r 1), some (.d (dNet 6 g9)), some (.d (.str K.s)), some (.d (.list [dW x, dW y, dW z])), some (.d (.list (βs.map dBs))), some (.d (dW x)), some (.d (dW y)), some (.d (dW z)), some (.d (dW w1)), some (.d (dW w2)), some (.d (dW [b0])), some (.d (dN l)), some (.d (dN (opp l))), some (.d (dW w4)), some (.d (dW w5)), some (.d (dW w6)), some (.d (dNet 6 g7)), some (.d (dW w7)), some (.d (dW w8)), some (.d (dW w9)), none, none, none, none, some (.d (dBs β)), none], rfl, fn_2 rfl rfl (F_nodev N9 (hβs β hβ))⟩), ER.bind_ok, allD_map, List.map_map]
    rfl
  refine p_set (P := fun r => ∃ t, retOf r = .ok (.d (.bool true)) t ∧ DM t) (cs1 := cs1) (sl1 := [some (.r 1), some (.d (dNet 6 g9)), some (.d (.str K.s)), some (.d (.list [dW x, dW y, dW z])), some (.d (.list (βs.map dBs))), some (.d (dW x)), some (.d (dW y)), some (.d (dW z)), some (.d (dW w1)), some (.d (dW w2)), some (.d (dW [b0])), some (.d (dN l)), some (.d (dN (opp l))), some (.d (dW w4)), some (.d (dW w5)), some (.d (dW w6)), some (.d (dNet 6 g7)), some (.d (dW w7)), some (.d (dW w8)), some (.d (dW w9)), some (.d (.list ((βs.map fun β => ev aB (v0 β) g9).map dBs))), none, none, none, none, none]) (b := .d (.list ((βs.map fun β => ev aB (v0 β) g9).map dBs))) valsE rfl ?_
  have lo := loop_inv (okc := fun _ => True) (tf := tgName 21) (body := pkBody) (fun i sl c => ∃ x21 x22, sl = [some (.r 1), some (.d (dNet 6 g9)), some (.d (.str K.s)), some (.d (.list [dW x, dW y, dW z])), some (.d (.list (βs.map dBs))), some (.d (dW x)), some (.d (dW y)), some (.d (dW z)), some (.d (dW w1)), some (.d (dW w2)), some (.d (dW [b0])), some (.d (dN l)), some (.d (dN (opp l))), some (.d (dW w4)), some (.d (dW w5)), some (.d (dW w6)), some (.d (dNet 6 g7)), some (.d (dW w7)), some (.d (dW w8)), some (.d (dW w9)), some (.d (.list ((βs.map fun β => ev aB (v0 β) g9).map dBs))), x21, x22, none, none, none] ∧ c = cs1) (rngI 0 1 5) 0 [some (.r 1), some (.d (dNet 6 g9)), some (.d (.str K.s)), some (.d (.list [dW x, dW y, dW z])), some (.d (.list (βs.map dBs))), some (.d (dW x)), some (.d (dW y)), some (.d (dW z)), some (.d (dW w1)), some (.d (dW w2)), some (.d (dW [b0])), some (.d (dN l)), some (.d (dN (opp l))), some (.d (dW w4)), some (.d (dW w5)), some (.d (dW w6)), some (.d (dNet 6 g7)), some (.d (dW w7)), some (.d (dW w8)), some (.d (dW w9)), some (.d (.list ((βs.map fun β => ev aB (v0 β) g9).map dBs))), none, none, none, none, none] cs1 ⟨none, none, rfl, rfl⟩ (fun _ _ _ => trivial) (by
    rintro i b sl c hb ⟨x21, x22, rfl, rfl⟩
    rw [rng_at, List.getElem?_map] at hb
    obtain ⟨m, hm, rfl⟩ := Option.map_eq_some_iff.mp hb
    have il := (List.getElem?_eq_some_iff.mp hm).1
    rw [List.length_range] at il
    rw [List.getElem?_range il] at hm
    obtain rfl : i = m := by simpa using hm
    obtain ⟨β, hβ⟩ : ∃ β, βs[i]? = some β := ⟨βs[i]'(by omega), List.getElem?_eq_getElem _⟩
    have hβ6 := hβs β (List.mem_of_getElem? hβ)
    have hvs : (βs.map fun β => ev aB (v0 β) g9)[i]? = some (ev aB (v0 β) g9) := by rw [List.getElem?_map, hβ]; rfl
    obtain ⟨m0, m1, hw8⟩ := two kw8.wl
    have lt : ∀ l ∈ w8, l / 2 < (ev aB (v0 β) g9).length := fun l hl => by
      have := kw8.wo.2.2 l hl
      rw [ev_len, v0_len, hβ6]
      omega
    have bx : gIx (.d (.list (βs.map dBs))) (.d (.int (i : Nat))) c = .ok (.d (dBs β)) c := g_ix_l _ _ _ (by rw [atI_nat _ _ (by omega) (by rw [List.length_map]; omega), Int.toNat_natCast, List.getElem?_map, hβ]; rfl)
    refine ⟨trivial, _, rfl, _, _, .inl ?_, some (.d (.int (i : Nat))), some (.d (.list [dB (lit aB (ev aB (v0 β) g9) m0), dB (lit aB (ev aB (v0 β) g9) m1)])), rfl, rfl⟩
    have ni : iSeq (eVar 18) [some (.r 1), some (.d (dNet 6 g9)), some (.d (.str K.s)), some (.d (.list [dW x, dW y, dW z])), some (.d (.list (βs.map dBs))), some (.d (dW x)), some (.d (dW y)), some (.d (dW z)), some (.d (dW w1)), some (.d (dW w2)), some (.d (dW [b0])), some (.d (dN l)), some (.d (dN (opp l))), some (.d (dW w4)), some (.d (dW w5)), some (.d (dW w6)), some (.d (dNet 6 g7)), some (.d (dW w7)), some (.d (dW w8)), some (.d (dW w9)), some (.d (.list ((βs.map fun β => ev aB (v0 β) g9).map dBs))), some (.d (.int (i : Nat))), x22, none, none, none] c = .ok (w8.map fun l => .d (dN l), fun _ => True) c := by
      rw [i_seq_t _ (w8.map dN) c rfl, List.map_map]
      rfl
    have ne : eFrz (lComp (iSeq (eVar 18)) (tgName 25) eYes litE [25]) [some (.r 1), some (.d (dNet 6 g9)), some (.d (.str K.s)), some (.d (.list [dW x, dW y, dW z])), some (.d (.list (βs.map dBs))), some (.d (dW x)), some (.d (dW y)), some (.d (dW z)), some (.d (dW w1)), some (.d (dW w2)), some (.d (dW [b0])), some (.d (dN l)), some (.d (dN (opp l))), some (.d (dW w4)), some (.d (dW w5)), some (.d (dW w6)), some (.d (dNet 6 g7)), some (.d (dW w7)), some (.d (dW w8)), some (.d (dW w9)), some (.d (.list ((βs.map fun β => ev aB (v0 β) g9).map dBs))), some (.d (.int (i : Nat))), x22, none, none, none] c = .ok (.d (.list [dB (lit aB (ev aB (v0 β) g9) m0), dB (lit aB (ev aB (v0 β) g9) m1)])) c := by
      rw [ap_eFrz, ap_lComp ni (by rw [List.length_map, kw8.wl, sizeLine_eq]; decide), lc_map (okc := fun _ => True) trivial (fun q : Nat => B.d (dN q)) (fun q : Nat => B.d (dB (lit aB (ev aB (v0 β) g9) q))) w8 (fun q hq => ⟨[some (.r 1), some (.d (dNet 6 g9)), some (.d (.str K.s)), some (.d (.list [dW x, dW y, dW z])), some (.d (.list (βs.map dBs))), some (.d (dW x)), some (.d (dW y)), some (.d (dW z)), some (.d (dW w1)), some (.d (dW w2)), some (.d (dW [b0])), some (.d (dN l)), some (.d (dN (opp l))), some (.d (dW w4)), some (.d (dW w5)), some (.d (dW w6)), some (.d (dNet 6 g7)), some (.d (dW w7)), some (.d (dW w8)), some (.d (dW w9)), some (.d (.list ((βs.map fun β => ev aB (v0 β) g9).map dBs))), some (.d (.int (i : Nat))), x22, none, none, some (.d (dN q))], rfl, lit_e (lt q hq) hvs rfl rfl rfl⟩), ER.bind_ok, allD_map, hw8]
      rfl
    unfold pkBody
    refine p_set (P := fun r => r = _) (cs1 := c) (sl1 := [some (.r 1), some (.d (dNet 6 g9)), some (.d (.str K.s)), some (.d (.list [dW x, dW y, dW z])), some (.d (.list (βs.map dBs))), some (.d (dW x)), some (.d (dW y)), some (.d (dW z)), some (.d (dW w1)), some (.d (dW w2)), some (.d (dW [b0])), some (.d (dN l)), some (.d (dN (opp l))), some (.d (dW w4)), some (.d (dW w5)), some (.d (dW w6)), some (.d (dNet 6 g7)), some (.d (dW w7)), some (.d (dW w8)), some (.d (dW w9)), some (.d (.list ((βs.map fun β => ev aB (v0 β) g9).map dBs))), some (.d (.int (i : Nat))), some (.d (.list [dB (lit aB (ev aB (v0 β) g9) m0), dB (lit aB (ev aB (v0 β) g9) m1)])), none, none, none]) (b := .d (.list [dB (lit aB (ev aB (v0 β) g9) m0), dB (lit aB (ev aB (v0 β) g9) m1)])) ne rfl ?_
    have wn := F_wordnum (cs := c) N9 hβ6 kw8.wo
    rw [show Wv β g9 w8 = [lit aB (ev aB (v0 β) g9) m0, lit aB (ev aB (v0 β) g9) m1] by rw [hw8]; rfl, num2] at wn
    refine p_if1' (P := fun r => r = _) (cs1 := c) (t_neI (fn_3 rfl (bin_ok rfl rfl bx) rfl wn) (bin_ok (bin_ok (a := .d (.list [dB (lit aB (ev aB (v0 β) g9) m0), dB (lit aB (ev aB (v0 β) g9) m1)])) rfl rfl (g_ix_l _ _ _ rfl)) (bin_ok rfl (bin_ok (a := .d (.list [dB (lit aB (ev aB (v0 β) g9) m0), dB (lit aB (ev aB (v0 β) g9) m1)])) rfl rfl (g_ix_l _ _ _ rfl)) (mulL _ _ (by decide) (by decide))) (g_add _ _))) rfl)
  obtain ⟨sl', cs', el, x21, x22, h1, h2⟩ := lo
  subst h1 h2
  refine p_nx (P := fun r => ∃ t, retOf r = .ok (.d (.bool true)) t ∧ DM t) (by rw [ap_sFor, ap_rng1 _ 5 cs' rfl (by decide), sE_ok]; exact el) ?_
  have difE : eFrz (lComp (iSeq (eVar 4)) (tgName 24) (eT (eBin gNe (eFn 3 F_word_number (aCons (eVar 1) (aCons (eVar 24) (aCons (eVar 5) aNil)))) (eFn 3 F_word_number (aCons (eVar 1) (aCons (eVar 24) (aCons (eVar 6) aNil)))))) (eVar 24) [24]) [some (.r 1), some (.d (dNet 6 g9)), some (.d (.str K.s)), some (.d (.list [dW x, dW y, dW z])), some (.d (.list (βs.map dBs))), some (.d (dW x)), some (.d (dW y)), some (.d (dW z)), some (.d (dW w1)), some (.d (dW w2)), some (.d (dW [b0])), some (.d (dN l)), some (.d (dN (opp l))), some (.d (dW w4)), some (.d (dW w5)), some (.d (dW w6)), some (.d (dNet 6 g7)), some (.d (dW w7)), some (.d (dW w8)), some (.d (dW w9)), some (.d (.list ((βs.map fun β => ev aB (v0 β) g9).map dBs))), x21, x22, none, none, none] cs' = .ok (.d (.list ((βs.filter fun β => !decide (X β = Y β)).map dBs))) cs' := by
    have i1 : iSeq (eVar 4) [some (.r 1), some (.d (dNet 6 g9)), some (.d (.str K.s)), some (.d (.list [dW x, dW y, dW z])), some (.d (.list (βs.map dBs))), some (.d (dW x)), some (.d (dW y)), some (.d (dW z)), some (.d (dW w1)), some (.d (dW w2)), some (.d (dW [b0])), some (.d (dN l)), some (.d (dN (opp l))), some (.d (dW w4)), some (.d (dW w5)), some (.d (dW w6)), some (.d (dNet 6 g7)), some (.d (dW w7)), some (.d (dW w8)), some (.d (dW w9)), some (.d (.list ((βs.map fun β => ev aB (v0 β) g9).map dBs))), x21, x22, none, none, none] cs' = .ok (βs.map fun β => .d (dBs β), fun _ => True) cs' := by
      rw [i_seq_l _ (βs.map dBs) cs' rfl, List.map_map]
      rfl
    rw [ap_eFrz, ap_lComp i1 (by rw [List.length_map, hb5, sizeLine_eq]; decide), lc_filter (okc := fun _ => True) trivial (fun β : List Bool => B.d (dBs β)) (fun β : List Bool => B.d (dBs β)) (fun β => !decide (X β = Y β)) βs (fun β hβ => ⟨[some (.r 1), some (.d (dNet 6 g9)), some (.d (.str K.s)), some (.d (.list [dW x, dW y, dW z])), some (.d (.list (βs.map dBs))), some (.d (dW x)), some (.d (dW y)), some (.d (dW z)), some (.d (dW w1)), some (.d (dW w2)), some (.d (dW [b0])), some (.d (dN l)), some (.d (dN (opp l))), some (.d (dW w4)), some (.d (dW w5)), some (.d (dW w6)), some (.d (dNet 6 g7)), some (.d (dW w7)), some (.d (dW w8)), some (.d (dW w9)), some (.d (.list ((βs.map fun β => ev aB (v0 β) g9).map dBs))), x21, x22, none, some (.d (dBs β)), none], rfl, by
      have n1 := F_wordnum (cs := cs') N9 (hβs β hβ) kx9.wo
      have n2 := F_wordnum (cs := cs') N9 (hβs β hβ) ky9.wo
      rw [kx9.num β (hβs β hβ)] at n1
      rw [ky9.num β (hβs β hβ)] at n2
      rw [ap_eT, bin_ok (fn_3 rfl rfl rfl n1) (fn_3 rfl rfl rfl n2) (g_nei _ _), ER.bind_ok, isB_b], fun _ => rfl⟩), ER.bind_ok, allD_map]
  refine p_set (P := fun r => ∃ t, retOf r = .ok (.d (.bool true)) t ∧ DM t) (cs1 := cs') (sl1 := [some (.r 1), some (.d (dNet 6 g9)), some (.d (.str K.s)), some (.d (.list [dW x, dW y, dW z])), some (.d (.list (βs.map dBs))), some (.d (dW x)), some (.d (dW y)), some (.d (dW z)), some (.d (dW w1)), some (.d (dW w2)), some (.d (dW [b0])), some (.d (dN l)), some (.d (dN (opp l))), some (.d (dW w4)), some (.d (dW w5)), some (.d (dW w6)), some (.d (dNet 6 g7)), some (.d (dW w7)), some (.d (dW w8)), some (.d (dW w9)), some (.d (.list ((βs.map fun β => ev aB (v0 β) g9).map dBs))), x21, x22, some (.d (.list ((βs.filter fun β => !decide (X β = Y β)).map dBs))), none, none]) (b := .d (.list ((βs.filter fun β => !decide (X β = Y β)).map dBs))) difE rfl ?_
  refine p_ret (P := fun r => ∃ t, retOf r = .ok (.d (.bool true)) t ∧ DM t) (b := .d (.bool true)) (cs1 := cs') ?_ ⟨cs', rfl, hcs1⟩
  have t : eT (eBin gNe (eVar 23) (eFrz (lTake aNil))) [some (.r 1), some (.d (dNet 6 g9)), some (.d (.str K.s)), some (.d (.list [dW x, dW y, dW z])), some (.d (.list (βs.map dBs))), some (.d (dW x)), some (.d (dW y)), some (.d (dW z)), some (.d (dW w1)), some (.d (dW w2)), some (.d (dW [b0])), some (.d (dN l)), some (.d (dN (opp l))), some (.d (dW w4)), some (.d (dW w5)), some (.d (dW w6)), some (.d (dNet 6 g7)), some (.d (dW w7)), some (.d (dW w8)), some (.d (dW w9)), some (.d (.list ((βs.map fun β => ev aB (v0 β) g9).map dBs))), x21, x22, some (.d (.list ((βs.filter fun β => !decide (X β = Y β)).map dBs))), none, none] cs' = .ok (decide ((βs.filter fun β => !decide (X β = Y β)) ≠ [])) cs' := by
    rw [ap_eT, bin_ok rfl (b := .d (.list [])) (by rw [ap_eFrz, ap_lTake, ap_aNil, ER.bind_ok, if_pos (tk_len (by simp)), ER.bind_ok]; rfl) (ne_empty _), ER.bind_ok, isB_b]
  rw [ap_eIf, t, ER.bind_ok]
  by_cases hd : (βs.filter fun β => !decide (X β = Y β)) = []
  · rw [if_neg (by simp [hd])]
    rfl
  · rw [if_pos (by simp [hd])]
    obtain ⟨β, hβ⟩ := List.exists_mem_of_ne_nil _ hd
    obtain ⟨m1, m2⟩ := List.mem_filter.mp hβ
    have ag := F_agr (cs := cs') N9 (by decide) kx9.wo ky9.wo (by rw [kx9.wl, ky9.wl])
    rw [decide_eq_false (fun H => by
      have := H β (hβs β m1)
      rw [kx9.num β (hβs β m1), ky9.num β (hβs β m1)] at this
      simp [this] at m2)] at ag
    exact bin_ok (fn_3 rfl rfl rfl ag) rfl rfl
end
end K42

/-! M30: the law. -/
namespace VM
open PySem L2
section
variable {sl sl1 : Sl} {cs cs1 cs2 : Cs}
theorem p_par {P : SR → Prop} {i j : Nat} {f g r : FnS} {fs : Fn (List B)} {a b : B} (h : fs sl cs = .ok [a, b] cs1) (e : (sl.set i (some a)).set j (some b) = sl1) (k : P (r sl1 cs1)) : P (sSeq (sPar i j fs) r sl cs) := by
  rw [ap_sSeq, ap_sPar, h, sE_ok]
  simp only [e]
  exact k
theorem p_asg3t {P : SR → Prop} {i j k : Nat} {f : Fn B} {r : FnS} {a b c : D} (h : f sl cs = .ok (.d (.tuple [a, b, c])) cs1) (e : ((sl.set i (some (.d a))).set j (some (.d b))).set k (some (.d c)) = sl1) (q : P (r sl1 cs1)) : P (sSeq (sAsg (tgTup 3 (tgCons (tgName i) (tgCons (tgName j) (tgCons (tgName k) tgNil)))) f) r sl cs) := p_asg3 (t := .tuple [a, b, c]) h (.inl rfl) e q
end
end VM
namespace K42
open PySem VM L2
open Classical
section
theorem lays_gs : ∀ gs : Gs, PyData.canLayAll0 (gs.map dG) = true
  | [] => by simp [PyData.canLayAll0]
  | g :: gs => by simp [PyData.canLayAll0, PyData.canLay0, lays_gs gs]
theorem deps_gs : ∀ gs : Gs, PyData.depthAll (gs.map dG) ≤ 1
  | [] => by simp [PyData.depthAll]
  | g :: gs => by
    have := deps_gs gs
    simp only [List.map_cons, PyData.depthAll, PyData.depth]
    omega
theorem sh_net (f l : Nat) (gs : Gs) : SeqAt.shaped (.tuple [dNet f gs, dN l]) = true := by
  have h := deps_gs gs
  unfold SeqAt.shaped
  rw [Bool.and_eq_true]
  refine ⟨by simp only [PyData.canLay0, PyData.canLayAll0, lays_gs, Bool.and_self], decide_eq_true ?_⟩
  simp only [PyData.depth, PyData.depthAll]
  omega
theorem kd_of {b : B} (h : b ∈ KS.map fun s => B.d (.str s)) : ∃ K : Kd, b = .d (.str K.s) := by
  obtain ⟨s, hs, rfl⟩ := List.mem_map.mp h
  simp only [KS, List.mem_cons, List.not_mem_nil, or_false] at hs
  rcases hs with rfl | rfl | rfl | rfl | rfl | rfl | rfl | rfl | rfl
  · exact ⟨.add, rfl⟩
  · exact ⟨.sub, rfl⟩
  · exact ⟨.mul, rfl⟩
  · exact ⟨.and, rfl⟩
  · exact ⟨.or, rfl⟩
  · exact ⟨.xor, rfl⟩
  · exact ⟨.same, rfl⟩
  · exact ⟨.less, rfl⟩
  · exact ⟨.least, rfl⟩
theorem asc_of {d : D} (h : d ∈ KC.map PyData.str) : ∃ K : Kd, d = .str K.s ∧ K.asc = true := by
  obtain ⟨s, hs, rfl⟩ := List.mem_map.mp h
  simp only [KC, List.mem_cons, List.not_mem_nil, or_false] at hs
  rcases hs with rfl | rfl | rfl | rfl | rfl
  · exact ⟨.add, rfl, rfl⟩
  · exact ⟨.mul, rfl, rfl⟩
  · exact ⟨.and, rfl, rfl⟩
  · exact ⟨.or, rfl, rfl⟩
  · exact ⟨.xor, rfl, rfl⟩
theorem fin12 {cs : Cs} {sl : Sl} (h : DM cs) (h1 : sl[1]? = some (some (.r 1))) : ∃ (a : Fin 12) (cs' : Cs), eBin gAdd (eD (.int 2)) (eBin gMod (eCall gInt (aCons (eFn 1 F__law_next (aCons (eVar 1) aNil)) aNil)) (eD (.int 12))) sl cs = .ok (.d (dN (a.val + 2))) cs' ∧ DM cs' := by
  obtain ⟨i, cs', e, h'⟩ := rnd_ok (sl := sl) (v := 1) (j := 12) (by decide) h h1
  have hi : 0 ≤ i % 12 ∧ i % 12 < 12 := ⟨Int.emod_nonneg _ (by decide), Int.emod_lt_of_pos _ (by decide)⟩
  refine ⟨⟨(i % 12).toNat, by omega⟩, cs', ?_, h'⟩
  refine bin_gen (a := .d (.int 2)) rfl e ?_
  rw [g_add]
  congr 3
  show 2 + i % 12 = (((i % 12).toNat + 2 : Nat) : Int)
  omega
theorem wd_kn {w : List Nat} (h : Wd w) : Kn 6 [] w 2 (fun β => numI (Wv β [] w)) := ⟨h.1, ⟨by rw [h.1]; decide, by rw [h.1]; decide, fun l hl => by have := h.2 l hl; simp; omega⟩, fun _ _ => rfl⟩
theorem lits2 {sl : Sl} {cs : Cs} (a b : Nat) : eTup (aCons (eD (.int (a : Nat))) (aCons (eD (.int (b : Nat))) aNil)) sl cs = .ok (.d (dW [a, b])) cs := tup_two rfl rfl
theorem tup0 {sl : Sl} {cs : Cs} : eTup aNil sl cs = .ok (.d (.tuple [])) cs := by
  rw [ap_eTup, ap_aNil, ER.bind_ok]
  show (if ([] : List D).length ≤ sizeLine then ER.ok (B.d (.tuple [])) cs else .no) = _
  rw [if_pos (by simp)]
theorem kinds5 {sl : Sl} {cs : Cs} : eFrz (lTake (aCons (eD (.str "add")) (aCons (eD (.str "mul")) (aCons (eD (.str "and")) (aCons (eD (.str "or")) (aCons (eD (.str "xor")) aNil)))))) sl cs = .ok (.d (.list (KC.map PyData.str))) cs := by
  rw [ap_eFrz, ap_lTake, show aCons (eD (.str "add")) (aCons (eD (.str "mul")) (aCons (eD (.str "and")) (aCons (eD (.str "or")) (aCons (eD (.str "xor")) aNil)))) sl cs = .ok ((KC.map PyData.str).map B.d) cs from rfl, ER.bind_ok, if_pos (tk_len (by simp [KC])), ER.bind_ok, allD_mapd]
theorem kinds9 {sl : Sl} {cs : Cs} : eFrz (lTake (aCons (eD (.str "add")) (aCons (eD (.str "sub")) (aCons (eD (.str "mul")) (aCons (eD (.str "and")) (aCons (eD (.str "or")) (aCons (eD (.str "xor")) (aCons (eD (.str "same")) (aCons (eD (.str "less")) (aCons (eD (.str "least")) aNil)))))))))) sl cs = .ok (.d (.list (KS.map PyData.str))) cs := by
  rw [ap_eFrz, ap_lTake, show aCons (eD (.str "add")) (aCons (eD (.str "sub")) (aCons (eD (.str "mul")) (aCons (eD (.str "and")) (aCons (eD (.str "or")) (aCons (eD (.str "xor")) (aCons (eD (.str "same")) (aCons (eD (.str "less")) (aCons (eD (.str "least")) aNil)))))))) sl cs = .ok ((KS.map PyData.str).map B.d) cs from rfl, ER.bind_ok, if_pos (tk_len (by simp [KS])), ER.bind_ok, allD_mapd]
def ws0 : List (List Nat) := [[2, 4], [6, 8], [10, 12]]
theorem ws0_ok : ws0.length = 3 ∧ ∀ w ∈ ws0, w.length = 2 ∧ ∀ l ∈ w, l < 13 := by decide
theorem F_main (ns : List Int) (hn : ns.length ≤ 63) : F__law_main [.k (.list (ns.map PyData.int))] [] = .ok (.d (.bool true)) [] := by
  obtain ⟨xs, ed, hxs⟩ := F_draws ns hn
  obtain ⟨c1, em, d1⟩ := F_more xs (by omega)
  obtain ⟨u1, c2, ew1, d2, hu1⟩ := words1 (cs := c1) (some (.k (.list (ns.map PyData.int)))) (some (.d (dNet 6 []))) none none none none none none none none none none none none none none none none none none none none ws0 ws0_ok d1
  obtain ⟨u2, c3, ew2, d3, hu2, hw2⟩ := words2 (cs := c2) (some (.k (.list (ns.map PyData.int)))) (some (.d (dNet 6 []))) none none none none none none none none none none none none none none none none none none none none u1 hu1 d2
  obtain ⟨x, y, z, rfl⟩ : ∃ x y z, u2 = [x, y, z] := by
    match u2, hu2 with
    | [x, y, z], _ => exact ⟨x, y, z, rfl⟩
  have kx := wd_kn (hw2 x (by simp))
  have ky := wd_kn (hw2 y (by simp))
  have kz := wd_kn (hw2 z (by simp))
  obtain ⟨βs, c4, eb, d4, hb5, hβs⟩ := bits5 (cs := c3) (some (.k (.list (ns.map PyData.int)))) (some (.d (dNet 6 []))) (some (.d (.list [dW x, dW y, dW z]))) (some (.d (dW x))) (some (.d (dW y))) (some (.d (dW z))) none none none none none none none none none none none none none none none none none d3
  obtain ⟨a, c5, ea, d5⟩ := fin12 (cs := c4) (sl := [some (.k (.list (ns.map PyData.int))), some (.r 1), some (.d (dNet 6 [])), some (.d (.list [dW x, dW y, dW z])), some (.d (dW x)), some (.d (dW y)), some (.d (dW z)), some (.d (.list (βs.map dBs))), none, none, none, none, none, none, none, none, none, none, none, none, none, none, none, none]) d4 rfl
  obtain ⟨b, c6, ebb, d6⟩ := fin12 (cs := c5) (sl := [some (.k (.list (ns.map PyData.int))), some (.r 1), some (.d (dNet 6 [])), some (.d (.list [dW x, dW y, dW z])), some (.d (dW x)), some (.d (dW y)), some (.d (dW z)), some (.d (.list (βs.map dBs))), none, none, none, none, none, none, none, none, none, none, none, none, none, none, none, none]) d5 rfl
  obtain ⟨j1, j2, j3, j4, j5, j6, j7⟩ := join_facts a b
  have NE : NetOk 6 [] := ⟨by decide, by decide, Ok.nil 7⟩
  have al := a.isLt
  have bl := b.isLt
  have dd : ∀ l, l < 14 → Dn 7 (fun _ => True) [] l fun β => L aB (v0 β) [] l := fun l h => dn_self (by simpa using h) fun _ _ => .inr trivial
  have okm := (both_ok (n := 7) (S := fun _ => True) (by decide) (Ok.nil 7) (dd (a.val + 2) (by omega)) (dd (b.val + 2) (by omega))).ok
  have J1 := F_join (cs := c6) (a := a.val + 2) (b := b.val + 2) NE (by simp; omega) (by simp; omega) (Nat.le_trans j6 (by decide))
  have J2 := F_join (cs := c6) (a := b.val + 2) (b := a.val + 2) NE (by simp; omega) (by simp; omega) (by
    show (both 7 [] (b.val + 2) (a.val + 2)).1.length ≤ 20000
    rw [j1]
    exact Nat.le_trans j6 (by decide))
  have J4 := F_join (cs := c6) (a := a.val + 2) (b := 1) NE (by simp; omega) (by simp) (by
    show (both 7 [] (a.val + 2) 1).1.length ≤ 20000
    rw [j3]
    exact Nat.zero_le _)
  have J5 := F_join (cs := c6) (a := a.val + 2) (b := 0) NE (by simp; omega) (by simp) (by
    show (both 7 [] (a.val + 2) 0).1.length ≤ 20000
    rw [j4]
    exact Nat.zero_le _)
  change F_joined _ c6 = .ok (.d (.tuple [dNet 6 (both 7 [] (a.val + 2) (b.val + 2)).1, dN (both 7 [] (a.val + 2) (b.val + 2)).2])) c6 at J1
  change F_joined _ c6 = .ok (.d (.tuple [dNet 6 (both 7 [] (b.val + 2) (a.val + 2)).1, dN (both 7 [] (b.val + 2) (a.val + 2)).2])) c6 at J2
  change F_joined _ c6 = .ok (.d (.tuple [dNet 6 (both 7 [] (a.val + 2) 1).1, dN (both 7 [] (a.val + 2) 1).2])) c6 at J4
  change F_joined _ c6 = .ok (.d (.tuple [dNet 6 (both 7 [] (a.val + 2) 0).1, dN (both 7 [] (a.val + 2) 0).2])) c6 at J5
  rw [j1] at J2
  rw [j3] at J4
  rw [j4] at J5
  clear j1 j3 j4
  generalize both 7 [] (a.val + 2) (b.val + 2) = p at j2 j5 j6 j7 okm J1 J2
  obtain ⟨m, l⟩ := p
  have NM : NetOk 6 m := ⟨by decide, Nat.le_trans j6 (by decide), okm⟩
  have J3 := F_join (cs := c6) (a := a.val + 2) (b := b.val + 2) NM (by omega) (by omega) (by
    show (both 7 m (a.val + 2) (b.val + 2)).1.length ≤ 20000
    rw [j2]
    exact Nat.le_trans j6 (by decide))
  have J6 := F_join (cs := c6) (a := l) (b := a.val + 2) NM j7 (by omega) (by
    show (both 7 m l (a.val + 2)).1.length ≤ 20000
    rw [j5]
    exact Nat.le_trans j6 (by decide))
  change F_joined _ c6 = .ok (.d (.tuple [dNet 6 (both 7 m (a.val + 2) (b.val + 2)).1, dN (both 7 m (a.val + 2) (b.val + 2)).2])) c6 at J3
  change F_joined _ c6 = .ok (.d (.tuple [dNet 6 (both 7 m l (a.val + 2)).1, dN (both 7 m l (a.val + 2)).2])) c6 at J6
  rw [j2] at J3
  rw [j5] at J6
  obtain ⟨d, c7, ek, d7, hd⟩ := F_pick (ds := KC.map PyData.str) d6 (by simp [KC])
  obtain ⟨K, rfl, hK⟩ := asc_of hd
  obtain ⟨g0, wl, wr, el, p0, N0, kl, kr⟩ := F_law_both (cs := c7) hK NE (by simp) kx ky kz
  have ag := kagr (cs := c7) N0 kl kr (fun β hβ => by
    obtain ⟨i, hi⟩ := kx.fin hβ; obtain ⟨j, hj⟩ := ky.fin hβ; obtain ⟨k, hk⟩ := kz.fin hβ
    (try dsimp only); (try dsimp only at hi hj hk); rw [hi, hj, hk]; exact asc_ok K hK i j k)
  have kx0 := kx.up p0
  have ky0 := ky.up p0
  have kz0 := kz.up p0
  have l0 := p0.len
  have lo := loop_inv (okc := fun _ => True) (tf := tgName 16) (body := kdBody) (fun i sl c => ∃ g x16 x17 x18 x19 x20 x21, sl = [some (.k (.list (ns.map PyData.int))), some (.r 1), some (.d (dNet 6 g)), some (.d (.list [dW x, dW y, dW z])), some (.d (dW x)), some (.d (dW y)), some (.d (dW z)), some (.d (.list (βs.map dBs))), some (.d (dN (a.val + 2))), some (.d (dN (b.val + 2))), some (.d (dNet 6 m)), some (.d (dN l)), some (.d (.list (KC.map PyData.str))), some (.d (.str K.s)), some (.d (dW wl)), some (.d (dW wr)), x16, x17, x18, x19, x20, x21, none, none] ∧ c = c7 ∧ NetOk 6 g ∧ g.length ≤ 400 + 80 * i ∧ Kn 6 g x 2 (fun β => numI (Wv β [] x)) ∧ Kn 6 g y 2 (fun β => numI (Wv β [] y)) ∧ Kn 6 g z 2 (fun β => numI (Wv β [] z))) (KS.map fun s => B.d (.str s)) 0 [some (.k (.list (ns.map PyData.int))), some (.r 1), some (.d (dNet 6 g0)), some (.d (.list [dW x, dW y, dW z])), some (.d (dW x)), some (.d (dW y)), some (.d (dW z)), some (.d (.list (βs.map dBs))), some (.d (dN (a.val + 2))), some (.d (dN (b.val + 2))), some (.d (dNet 6 m)), some (.d (dN l)), some (.d (.list (KC.map PyData.str))), some (.d (.str K.s)), some (.d (dW wl)), some (.d (dW wr)), none, none, none, none, none, none, none, none] c7
    ⟨g0, none, none, none, none, none, none, rfl, rfl, N0, by simp at l0; omega, kx0, ky0, kz0⟩ (fun _ _ _ => trivial) (by
      rintro i b sl c hb ⟨g, x16, x17, x18, x19, x20, x21, rfl, rfl, N, hl, k1, k2, k3⟩
      have hi := (List.getElem?_eq_some_iff.mp hb).1
      have hi9 : i < 9 := by simpa [KS] using hi
      obtain ⟨K2, rfl⟩ := kd_of (List.mem_of_getElem? hb)
      obtain ⟨g2, y17, y18, y19, y20, y21, e, N2, q2⟩ := kd_turn (cs := c) K2 N (by omega) k1 k2 βs hβs (some (.k (.list (ns.map PyData.int)))) (some (.r 1)) (some (.d (.list [dW x, dW y, dW z]))) (some (.d (dW z))) (some (.d (dN (a.val + 2)))) (some (.d (dN (b.val + 2)))) (some (.d (dNet 6 m))) (some (.d (dN l))) (some (.d (.str K.s))) (some (.d (dW wl))) (some (.d (dW wr))) x17 x18 x19 x20 x21 none none
      have l2 := q2.len
      exact ⟨trivial, _, rfl, _, _, .inl e, g2, _, y17, y18, y19, y20, y21, rfl, rfl, N2, by omega, k1.up q2, k2.up q2, k3.up q2⟩)
  obtain ⟨sl', c8, elo, g, x16, x17, x18, x19, x20, x21, h1, h2, N9, hl9, k1, k2, k3⟩ := lo
  subst h1 h2
  have hl9' : g.length ≤ 5000 := by
    have : (KS.map fun s => B.d (.str s)).length = 9 := by simp [KS]
    omega
  have es := F_sums (cs := c8) N9 hl9' k1 k2 k3
  obtain ⟨c9, d9, ep2⟩ := F_picks_hold (K := K) N9 hl9' k1 k2 k3 (asc_w K hK) βs hb5 hβs d7
  unfold F__law_main
  rw [ap_mDef]
  have gc : ∀ {r : ER B}, (∃ t, r = .ok (.d (.bool true)) t) → gcR [] r = .ok (.d (.bool true)) [] := by
    rintro r ⟨t, rfl⟩
    exact gcR_app (cs := []) (.bool true) t
  apply gc
  show ∃ t, retOf ((_ : FnS) [some (.k (.list (ns.map PyData.int))), none, none, none, none, none, none, none, none, none, none, none, none, none, none, none, none, none, none, none, none, none, none, none] []) = .ok (.d (.bool true)) t
  refine p_set (P := fun r => ∃ t, retOf r = .ok (.d (.bool true)) t) (cs1 := [IL xs]) (sl1 := [some (.k (.list (ns.map PyData.int))), some (.r 0), none, none, none, none, none, none, none, none, none, none, none, none, none, none, none, none, none, none, none, none, none, none]) (b := .r 0) (fn_g1 rfl ed) rfl ?_
  refine p_set (P := fun r => ∃ t, retOf r = .ok (.d (.bool true)) t) (cs1 := c1) (sl1 := [some (.k (.list (ns.map PyData.int))), some (.r 1), none, none, none, none, none, none, none, none, none, none, none, none, none, none, none, none, none, none, none, none, none, none]) (b := .r 1) (fn_2 rfl rfl em) rfl ?_
  refine p_set (P := fun r => ∃ t, retOf r = .ok (.d (.bool true)) t) (cs1 := c1) (sl1 := [some (.k (.list (ns.map PyData.int))), some (.r 1), some (.d (dNet 6 [])), none, none, none, none, none, none, none, none, none, none, none, none, none, none, none, none, none, none, none, none, none]) (b := .d (dNet 6 [])) (tup_two rfl tup0) rfl ?_
  refine p_set (P := fun r => ∃ t, retOf r = .ok (.d (.bool true)) t) (cs1 := c1) (sl1 := [some (.k (.list (ns.map PyData.int))), some (.r 1), some (.d (dNet 6 [])), some (.d (.list (ws0.map dW))), none, none, none, none, none, none, none, none, none, none, none, none, none, none, none, none, none, none, none, none]) (b := .d (.list (ws0.map dW))) (l_three (lits2 2 4) (lits2 6 8) (lits2 10 12)) rfl ?_
  refine p_set (P := fun r => ∃ t, retOf r = .ok (.d (.bool true)) t) (cs1 := c2) (sl1 := [some (.k (.list (ns.map PyData.int))), some (.r 1), some (.d (dNet 6 [])), some (.d (.list (u1.map dW))), none, none, none, none, none, none, none, none, none, none, none, none, none, none, none, none, none, none, none, none]) (b := .d (.list (u1.map dW))) ew1 rfl ?_
  refine p_set (P := fun r => ∃ t, retOf r = .ok (.d (.bool true)) t) (cs1 := c3) (sl1 := [some (.k (.list (ns.map PyData.int))), some (.r 1), some (.d (dNet 6 [])), some (.d (.list [dW x, dW y, dW z])), none, none, none, none, none, none, none, none, none, none, none, none, none, none, none, none, none, none, none, none]) (b := .d (.list [dW x, dW y, dW z])) ew2 rfl ?_
  refine p_asg3 (P := fun r => ∃ t, retOf r = .ok (.d (.bool true)) t) (cs1 := c3) (sl1 := [some (.k (.list (ns.map PyData.int))), some (.r 1), some (.d (dNet 6 [])), some (.d (.list [dW x, dW y, dW z])), some (.d (dW x)), some (.d (dW y)), some (.d (dW z)), none, none, none, none, none, none, none, none, none, none, none, none, none, none, none, none, none]) (t := .list [dW x, dW y, dW z]) rfl (.inr rfl) rfl ?_
  refine p_set (P := fun r => ∃ t, retOf r = .ok (.d (.bool true)) t) (cs1 := c4) (sl1 := [some (.k (.list (ns.map PyData.int))), some (.r 1), some (.d (dNet 6 [])), some (.d (.list [dW x, dW y, dW z])), some (.d (dW x)), some (.d (dW y)), some (.d (dW z)), some (.d (.list (βs.map dBs))), none, none, none, none, none, none, none, none, none, none, none, none, none, none, none, none]) (b := .d (.list (βs.map dBs))) eb rfl ?_
  have ep : (aCons (eBin gAdd (eD (.int 2)) (eBin gMod (eCall gInt (aCons (eFn 1 F__law_next (aCons (eVar 1) aNil)) aNil)) (eD (.int 12)))) (aCons (eBin gAdd (eD (.int 2)) (eBin gMod (eCall gInt (aCons (eFn 1 F__law_next (aCons (eVar 1) aNil)) aNil)) (eD (.int 12)))) aNil)) [some (.k (.list (ns.map PyData.int))), some (.r 1), some (.d (dNet 6 [])), some (.d (.list [dW x, dW y, dW z])), some (.d (dW x)), some (.d (dW y)), some (.d (dW z)), some (.d (.list (βs.map dBs))), none, none, none, none, none, none, none, none, none, none, none, none, none, none, none, none] c4 = .ok [.d (dN (a.val + 2)), .d (dN (b.val + 2))] c6 := by
    rw [ap_aCons, ea, ER.bind_ok, ap_aCons, ebb, ER.bind_ok, ap_aNil, ER.bind_ok, ER.bind_ok]
  refine p_par (P := fun r => ∃ t, retOf r = .ok (.d (.bool true)) t) (f := sNext) (g := sNext) (cs1 := c6) (sl1 := [some (.k (.list (ns.map PyData.int))), some (.r 1), some (.d (dNet 6 [])), some (.d (.list [dW x, dW y, dW z])), some (.d (dW x)), some (.d (dW y)), some (.d (dW z)), some (.d (.list (βs.map dBs))), some (.d (dN (a.val + 2))), some (.d (dN (b.val + 2))), none, none, none, none, none, none, none, none, none, none, none, none, none, none]) ep rfl ?_
  refine p_asg2 (P := fun r => ∃ t, retOf r = .ok (.d (.bool true)) t) (cs1 := c6) (sl1 := [some (.k (.list (ns.map PyData.int))), some (.r 1), some (.d (dNet 6 [])), some (.d (.list [dW x, dW y, dW z])), some (.d (dW x)), some (.d (dW y)), some (.d (dW z)), some (.d (.list (βs.map dBs))), some (.d (dN (a.val + 2))), some (.d (dN (b.val + 2))), some (.d (dNet 6 m)), some (.d (dN l)), none, none, none, none, none, none, none, none, none, none, none, none]) (fn_3 rfl rfl rfl J1) rfl ?_
  refine p_if0 (P := fun r => ∃ t, retOf r = .ok (.d (.bool true)) t) (t_or0 (t_ne (sh_net 6 l m) (fn_3 rfl rfl rfl J2) (tup_two rfl rfl)) (t_or0 (t_ne (sh_net 6 l m) (fn_3 rfl rfl rfl J3) (tup_two rfl rfl)) (t_or0 (t_ne (sh_net 6 (a.val + 2) []) (fn_3 rfl rfl rfl J4) (tup_two rfl rfl)) (t_ne (sh_net 6 0 []) (fn_3 rfl rfl rfl J5) (tup_two rfl rfl))))) ?_
  refine p_if0 (P := fun r => ∃ t, retOf r = .ok (.d (.bool true)) t) (t_or0 (t_isNot (fn_1 rfl (F_isnet NM))) (t_or0 (t_isNot (fn_1 rfl (F_tidy NM))) (t_ne (sh_net 6 l m) (fn_3 rfl rfl rfl J6) (tup_two rfl rfl)))) ?_
  refine p_set (P := fun r => ∃ t, retOf r = .ok (.d (.bool true)) t) (cs1 := c6) (sl1 := [some (.k (.list (ns.map PyData.int))), some (.r 1), some (.d (dNet 6 [])), some (.d (.list [dW x, dW y, dW z])), some (.d (dW x)), some (.d (dW y)), some (.d (dW z)), some (.d (.list (βs.map dBs))), some (.d (dN (a.val + 2))), some (.d (dN (b.val + 2))), some (.d (dNet 6 m)), some (.d (dN l)), some (.d (.list (KC.map PyData.str))), none, none, none, none, none, none, none, none, none, none, none]) (b := .d (.list (KC.map PyData.str))) kinds5 rfl ?_
  refine p_set (P := fun r => ∃ t, retOf r = .ok (.d (.bool true)) t) (cs1 := c8) (sl1 := [some (.k (.list (ns.map PyData.int))), some (.r 1), some (.d (dNet 6 [])), some (.d (.list [dW x, dW y, dW z])), some (.d (dW x)), some (.d (dW y)), some (.d (dW z)), some (.d (.list (βs.map dBs))), some (.d (dN (a.val + 2))), some (.d (dN (b.val + 2))), some (.d (dNet 6 m)), some (.d (dN l)), some (.d (.list (KC.map PyData.str))), some (.d (.str K.s)), none, none, none, none, none, none, none, none, none, none]) (b := .d (.str K.s)) (fn_2 rfl rfl ek) rfl ?_
  refine p_asg3t (P := fun r => ∃ t, retOf r = .ok (.d (.bool true)) t) (cs1 := c8) (sl1 := [some (.k (.list (ns.map PyData.int))), some (.r 1), some (.d (dNet 6 g0)), some (.d (.list [dW x, dW y, dW z])), some (.d (dW x)), some (.d (dW y)), some (.d (dW z)), some (.d (.list (βs.map dBs))), some (.d (dN (a.val + 2))), some (.d (dN (b.val + 2))), some (.d (dNet 6 m)), some (.d (dN l)), some (.d (.list (KC.map PyData.str))), some (.d (.str K.s)), some (.d (dW wl)), some (.d (dW wr)), none, none, none, none, none, none, none, none]) (fn_5 rfl rfl rfl rfl rfl el) rfl ?_
  refine p_if0 (P := fun r => ∃ t, retOf r = .ok (.d (.bool true)) t) (t_isNot (fn_3 rfl rfl rfl ag)) ?_
  refine p_nx (P := fun r => ∃ t, retOf r = .ok (.d (.bool true)) t) (by rw [ap_sFor, i_seq_l _ (KS.map PyData.str) _ kinds9, sE_ok, List.map_map]; exact elo) ?_
  exact p_ret (P := fun r => ∃ t, retOf r = .ok (.d (.bool true)) t) (cs1 := c9) (b := .d (.bool true)) (v_and (fn_4 rfl rfl rfl rfl es) (fn_5 rfl rfl rfl rfl rfl ep2)) ⟨c9, rfl⟩
theorem law_true : ∀ ns : List Int, ns.length ≤ 63 → F_law [.k (.list (ns.map PyData.int))] [] = .ok (.d (.bool true)) [] := fun ns hn => by
  unfold F_law body_law
  rw [ap_mDef, ap_sTry0]
  show gcR [] (retOf (match sRet (eFn 1 F__law_main (aCons (eVar 0) aNil)) [some (.k (.list (ns.map PyData.int)))] [] with | .ex _ _ _ => .no | r => r)) = _
  rw [ap_sRet, fn_1 rfl (F_main ns hn), sE_ok]
  exact gcR_app (cs := []) (.bool true) []
end
end K42

namespace K42
open PySem PySem.Spec PyProof.Rows L2 VM
open Classical
theorem lk_mk {K : PySem.W.Frag} {h : Heap} {mg : Str → Option Value} {C_Build A_KINDS f__law_number f__law_draws f__law_next f__law_more f_number_word f_is_net f_check_net f_is_literal f_check_literals f_Build_init T_Build_init f_opposite f_Build_pair_of f_Build_looked f_Build_net f_joined f_is_tidy f__law_pick f_is_word f_check_words f_Build_add f_Build_times f_Build_all_of f_Build_same f_Build_choose f_Build_less f_Build_combine f_combined f__law_both f_cone_of f_value_of f_values_of f_number_of f_agree f_are_bits f_check_bits f_word_number f__law_sets f__law_join f_cone f_opposite_word f__law_sums_hold f_Build_pick f_picked f_node_values f__law_picks_hold f__law_main f_law : Addr} {t1 t2 t3 t4 t5 t6 t7 t8 t9 t10 t11 t12 t13 t14 t15 : Tok} {od_KINDS : Option Addr} {sl_KINDS : Array (Option Value)} {n_KINDS : Nat}
  {od__law_number an__law_number : Option Addr} {sl__law_number : Array (Option Value)} {oc__law_number kV__law_number dc__law_number pm__law_number cd__law_number ct__law_number : Value}
  {od__law_draws an__law_draws : Option Addr} {sl__law_draws : Array (Option Value)} {oc__law_draws kV__law_draws dc__law_draws pm__law_draws cd__law_draws ct__law_draws : Value}
  {od__law_next an__law_next : Option Addr} {sl__law_next : Array (Option Value)} {oc__law_next kV__law_next dc__law_next pm__law_next cd__law_next ct__law_next : Value}
  {od__law_more an__law_more : Option Addr} {sl__law_more : Array (Option Value)} {oc__law_more kV__law_more dc__law_more pm__law_more cd__law_more ct__law_more : Value}
  {od_number_word an_number_word : Option Addr} {sl_number_word : Array (Option Value)} {oc_number_word kV_number_word dc_number_word pm_number_word cd_number_word ct_number_word : Value}
  {od_is_net an_is_net : Option Addr} {sl_is_net : Array (Option Value)} {oc_is_net kV_is_net dc_is_net pm_is_net cd_is_net ct_is_net : Value}
  {od_check_net an_check_net : Option Addr} {sl_check_net : Array (Option Value)} {oc_check_net kV_check_net dc_check_net pm_check_net cd_check_net ct_check_net : Value}
  {od_is_literal an_is_literal : Option Addr} {sl_is_literal : Array (Option Value)} {oc_is_literal kV_is_literal dc_is_literal pm_is_literal cd_is_literal ct_is_literal : Value}
  {od_check_literals an_check_literals : Option Addr} {sl_check_literals : Array (Option Value)} {oc_check_literals kV_check_literals dc_check_literals pm_check_literals cd_check_literals ct_check_literals : Value}
  {od_Build_init an_Build_init : Option Addr} {sl_Build_init : Array (Option Value)} {oc_Build_init kV_Build_init dc_Build_init pm_Build_init cd_Build_init ct_Build_init : Value}
  {od2_Build_init : Option Addr} {sl2_Build_init : Array (Option Value)} {oc2_Build_init : Value} {n2_Build_init : Nat} {e_Build_init : Addr}
  {od_opposite an_opposite : Option Addr} {sl_opposite : Array (Option Value)} {oc_opposite kV_opposite dc_opposite pm_opposite cd_opposite ct_opposite : Value}
  {od_Build_pair_of an_Build_pair_of : Option Addr} {sl_Build_pair_of : Array (Option Value)} {oc_Build_pair_of kV_Build_pair_of dc_Build_pair_of pm_Build_pair_of cd_Build_pair_of ct_Build_pair_of : Value}
  {od_Build_looked an_Build_looked : Option Addr} {sl_Build_looked : Array (Option Value)} {oc_Build_looked kV_Build_looked dc_Build_looked pm_Build_looked cd_Build_looked ct_Build_looked : Value}
  {od_Build_both an_Build_both : Option Addr} {sl_Build_both : Array (Option Value)} {oc_Build_both kV_Build_both dc_Build_both pm_Build_both cd_Build_both ct_Build_both : Value}
  {od_Build_net an_Build_net : Option Addr} {sl_Build_net : Array (Option Value)} {oc_Build_net kV_Build_net dc_Build_net pm_Build_net cd_Build_net ct_Build_net : Value}
  {od_joined an_joined : Option Addr} {sl_joined : Array (Option Value)} {oc_joined kV_joined dc_joined pm_joined cd_joined ct_joined : Value}
  {od_is_tidy an_is_tidy : Option Addr} {sl_is_tidy : Array (Option Value)} {oc_is_tidy kV_is_tidy dc_is_tidy pm_is_tidy cd_is_tidy ct_is_tidy : Value}
  {od__law_pick an__law_pick : Option Addr} {sl__law_pick : Array (Option Value)} {oc__law_pick kV__law_pick dc__law_pick pm__law_pick cd__law_pick ct__law_pick : Value}
  {od_is_word an_is_word : Option Addr} {sl_is_word : Array (Option Value)} {oc_is_word kV_is_word dc_is_word pm_is_word cd_is_word ct_is_word : Value}
  {od_check_words an_check_words : Option Addr} {sl_check_words : Array (Option Value)} {oc_check_words kV_check_words dc_check_words pm_check_words cd_check_words ct_check_words : Value}
  {od_Build_either an_Build_either : Option Addr} {sl_Build_either : Array (Option Value)} {oc_Build_either kV_Build_either dc_Build_either pm_Build_either cd_Build_either ct_Build_either : Value}
  {od_Build_differ an_Build_differ : Option Addr} {sl_Build_differ : Array (Option Value)} {oc_Build_differ kV_Build_differ dc_Build_differ pm_Build_differ cd_Build_differ ct_Build_differ : Value}
  {od_Build_add an_Build_add : Option Addr} {sl_Build_add : Array (Option Value)} {oc_Build_add kV_Build_add dc_Build_add pm_Build_add cd_Build_add ct_Build_add : Value}
  {od_Build_times an_Build_times : Option Addr} {sl_Build_times : Array (Option Value)} {oc_Build_times kV_Build_times dc_Build_times pm_Build_times cd_Build_times ct_Build_times : Value}
  {od_Build_all_of an_Build_all_of : Option Addr} {sl_Build_all_of : Array (Option Value)} {oc_Build_all_of kV_Build_all_of dc_Build_all_of pm_Build_all_of cd_Build_all_of ct_Build_all_of : Value}
  {od_Build_same an_Build_same : Option Addr} {sl_Build_same : Array (Option Value)} {oc_Build_same kV_Build_same dc_Build_same pm_Build_same cd_Build_same ct_Build_same : Value}
  {od_Build_choose an_Build_choose : Option Addr} {sl_Build_choose : Array (Option Value)} {oc_Build_choose kV_Build_choose dc_Build_choose pm_Build_choose cd_Build_choose ct_Build_choose : Value}
  {od_Build_less an_Build_less : Option Addr} {sl_Build_less : Array (Option Value)} {oc_Build_less kV_Build_less dc_Build_less pm_Build_less cd_Build_less ct_Build_less : Value}
  {od_Build_combine an_Build_combine : Option Addr} {sl_Build_combine : Array (Option Value)} {oc_Build_combine kV_Build_combine dc_Build_combine pm_Build_combine cd_Build_combine ct_Build_combine : Value}
  {od_combined an_combined : Option Addr} {sl_combined : Array (Option Value)} {oc_combined kV_combined dc_combined pm_combined cd_combined ct_combined : Value}
  {od__law_both an__law_both : Option Addr} {sl__law_both : Array (Option Value)} {oc__law_both kV__law_both dc__law_both pm__law_both cd__law_both ct__law_both : Value}
  {od_cone_of an_cone_of : Option Addr} {sl_cone_of : Array (Option Value)} {oc_cone_of kV_cone_of dc_cone_of pm_cone_of cd_cone_of ct_cone_of : Value}
  {od_value_of an_value_of : Option Addr} {sl_value_of : Array (Option Value)} {oc_value_of kV_value_of dc_value_of pm_value_of cd_value_of ct_value_of : Value}
  {od_values_of an_values_of : Option Addr} {sl_values_of : Array (Option Value)} {oc_values_of kV_values_of dc_values_of pm_values_of cd_values_of ct_values_of : Value}
  {od_number_of an_number_of : Option Addr} {sl_number_of : Array (Option Value)} {oc_number_of kV_number_of dc_number_of pm_number_of cd_number_of ct_number_of : Value}
  {od_agree an_agree : Option Addr} {sl_agree : Array (Option Value)} {oc_agree kV_agree dc_agree pm_agree cd_agree ct_agree : Value}
  {od_are_bits an_are_bits : Option Addr} {sl_are_bits : Array (Option Value)} {oc_are_bits kV_are_bits dc_are_bits pm_are_bits cd_are_bits ct_are_bits : Value}
  {od_check_bits an_check_bits : Option Addr} {sl_check_bits : Array (Option Value)} {oc_check_bits kV_check_bits dc_check_bits pm_check_bits cd_check_bits ct_check_bits : Value}
  {od_word_number an_word_number : Option Addr} {sl_word_number : Array (Option Value)} {oc_word_number kV_word_number dc_word_number pm_word_number cd_word_number ct_word_number : Value}
  {od__law_sets an__law_sets : Option Addr} {sl__law_sets : Array (Option Value)} {oc__law_sets kV__law_sets dc__law_sets pm__law_sets cd__law_sets ct__law_sets : Value}
  {od__law_join an__law_join : Option Addr} {sl__law_join : Array (Option Value)} {oc__law_join kV__law_join dc__law_join pm__law_join cd__law_join ct__law_join : Value}
  {od_cone an_cone : Option Addr} {sl_cone : Array (Option Value)} {oc_cone kV_cone dc_cone pm_cone cd_cone ct_cone : Value}
  {od_opposite_word an_opposite_word : Option Addr} {sl_opposite_word : Array (Option Value)} {oc_opposite_word kV_opposite_word dc_opposite_word pm_opposite_word cd_opposite_word ct_opposite_word : Value}
  {od__law_sums_hold an__law_sums_hold : Option Addr} {sl__law_sums_hold : Array (Option Value)} {oc__law_sums_hold kV__law_sums_hold dc__law_sums_hold pm__law_sums_hold cd__law_sums_hold ct__law_sums_hold : Value}
  {od_Build_pick an_Build_pick : Option Addr} {sl_Build_pick : Array (Option Value)} {oc_Build_pick kV_Build_pick dc_Build_pick pm_Build_pick cd_Build_pick ct_Build_pick : Value}
  {od_picked an_picked : Option Addr} {sl_picked : Array (Option Value)} {oc_picked kV_picked dc_picked pm_picked cd_picked ct_picked : Value}
  {od_node_values an_node_values : Option Addr} {sl_node_values : Array (Option Value)} {oc_node_values kV_node_values dc_node_values pm_node_values cd_node_values ct_node_values : Value}
  {od__law_picks_hold an__law_picks_hold : Option Addr} {sl__law_picks_hold : Array (Option Value)} {oc__law_picks_hold kV__law_picks_hold dc__law_picks_hold pm__law_picks_hold cd__law_picks_hold ct__law_picks_hold : Value}
  {od__law_main an__law_main : Option Addr} {sl__law_main : Array (Option Value)} {oc__law_main kV__law_main dc__law_main pm__law_main cd__law_main ct__law_main : Value}
  {od_law an_law : Option Addr} {sl_law : Array (Option Value)} {oc_law kV_law dc_law pm_law cd_law ct_law : Value}
  (X : K.In h) (G : h.Ns mainGlobals mg)
  (cA_Build : PySem.W.nsIn K mainGlobals "Build" = some (some (.ref C_Build)))
  (cP_Build : PySem.W.plainGet K C_Build Str.empty = true)
  (cH_Build : PySem.W.hasDictIn K C_Build = true)
  (cO_Build : PySem.W.plainOver K C_Build = true)
  (cS_Build : PySem.W.findIn K (.ref C_Build) "__setattr__" = some (some (.builtin "object.__setattr__")))
  (cM_Build : PySem.W.makesIn K C_Build = true)
  (cK_Build : PySem.W.keepIn K (.ref C_Build) = true)
  (fl_Build_free : PySem.W.findIn K (.ref C_Build) "free" = some none)
  (fl_Build_gates : PySem.W.findIn K (.ref C_Build) "gates" = some none)
  (fl_Build_known : PySem.W.findIn K (.ref C_Build) "known" = some none)
  (bn_all : PySem.W.nsIn K mainGlobals "all" = some none)
  (bn_enumerate : PySem.W.nsIn K mainGlobals "enumerate" = some none)
  (bn_int : PySem.W.nsIn K mainGlobals "int" = some none)
  (bn_len : PySem.W.nsIn K mainGlobals "len" = some none)
  (bn_max : PySem.W.nsIn K mainGlobals "max" = some none)
  (bn_min : PySem.W.nsIn K mainGlobals "min" = some none)
  (bn_range : PySem.W.nsIn K mainGlobals "range" = some none)
  (bn_sorted : PySem.W.nsIn K mainGlobals "sorted" = some none)
  (bn_sum : PySem.W.nsIn K mainGlobals "sum" = some none)
  (bn_tuple : PySem.W.nsIn K mainGlobals "tuple" = some none)
  (bn_zip : PySem.W.nsIn K mainGlobals "zip" = some none)
  (k_FALSE : PySem.W.nsIn K mainGlobals "FALSE" = some (some (.int 0 t1)))
  (k_KINDS : PySem.W.nsIn K mainGlobals "KINDS" = some (some (.ref A_KINDS)))
  (l_KINDS : K.lookup A_KINDS = some ⟨.type "tuple", od_KINDS, .seq #[(.str "add" t2), (.str "sub" t3), (.str "mul" t4), (.str "and" t5), (.str "or" t6), (.str "xor" t7), (.str "same" t8), (.str "less" t9), (.str "least" t10)] n_KINDS, sl_KINDS⟩)
  (k_MOST_FREE : PySem.W.nsIn K mainGlobals "MOST_FREE" = some (some (.int 200 t11)))
  (k_MOST_GATES : PySem.W.nsIn K mainGlobals "MOST_GATES" = some (some (.int 20000 t12)))
  (k_MOST_LOOKED : PySem.W.nsIn K mainGlobals "MOST_LOOKED" = some (some (.int 12 t13)))
  (k_MOST_WIDTH : PySem.W.nsIn K mainGlobals "MOST_WIDTH" = some (some (.int 8 t14)))
  (k_TRUE : PySem.W.nsIn K mainGlobals "TRUE" = some (some (.int 1 t15)))
  (fa__law_number : PySem.W.nsIn K mainGlobals "_law_number" = some (some (.ref f__law_number)))
  (fl__law_number : K.lookup f__law_number = some ⟨oc__law_number, od__law_number, .func (PySem.W.fnOf "_law_number" "_law_number" (defArgs s__law_number) (defBody s__law_number) (defScope s__law_number) .none kV__law_number dc__law_number pm__law_number an__law_number cd__law_number ct__law_number), sl__law_number⟩)
  (fc__law_number : PySem.W.codeIn K cd__law_number "_law_number" = true)
  (fk__law_number : PySem.W.keepIn K (.ref f__law_number) = true)
  (fa__law_draws : PySem.W.nsIn K mainGlobals "_law_draws" = some (some (.ref f__law_draws)))
  (fl__law_draws : K.lookup f__law_draws = some ⟨oc__law_draws, od__law_draws, .func (PySem.W.fnOf "_law_draws" "_law_draws" (defArgs s__law_draws) (defBody s__law_draws) (defScope s__law_draws) .none kV__law_draws dc__law_draws pm__law_draws an__law_draws cd__law_draws ct__law_draws), sl__law_draws⟩)
  (fc__law_draws : PySem.W.codeIn K cd__law_draws "_law_draws" = true)
  (fk__law_draws : PySem.W.keepIn K (.ref f__law_draws) = true)
  (fa__law_next : PySem.W.nsIn K mainGlobals "_law_next" = some (some (.ref f__law_next)))
  (fl__law_next : K.lookup f__law_next = some ⟨oc__law_next, od__law_next, .func (PySem.W.fnOf "_law_next" "_law_next" (defArgs s__law_next) (defBody s__law_next) (defScope s__law_next) .none kV__law_next dc__law_next pm__law_next an__law_next cd__law_next ct__law_next), sl__law_next⟩)
  (fc__law_next : PySem.W.codeIn K cd__law_next "_law_next" = true)
  (fk__law_next : PySem.W.keepIn K (.ref f__law_next) = true)
  (fa__law_more : PySem.W.nsIn K mainGlobals "_law_more" = some (some (.ref f__law_more)))
  (fl__law_more : K.lookup f__law_more = some ⟨oc__law_more, od__law_more, .func (PySem.W.fnOf "_law_more" "_law_more" (defArgs s__law_more) (defBody s__law_more) (defScope s__law_more) .none kV__law_more dc__law_more pm__law_more an__law_more cd__law_more ct__law_more), sl__law_more⟩)
  (fc__law_more : PySem.W.codeIn K cd__law_more "_law_more" = true)
  (fk__law_more : PySem.W.keepIn K (.ref f__law_more) = true)
  (fa_number_word : PySem.W.nsIn K mainGlobals "number_word" = some (some (.ref f_number_word)))
  (fl_number_word : K.lookup f_number_word = some ⟨oc_number_word, od_number_word, .func (PySem.W.fnOf "number_word" "number_word" (defArgs s_number_word) (defBody s_number_word) (defScope s_number_word) .none kV_number_word dc_number_word pm_number_word an_number_word cd_number_word ct_number_word), sl_number_word⟩)
  (fc_number_word : PySem.W.codeIn K cd_number_word "number_word" = true)
  (fk_number_word : PySem.W.keepIn K (.ref f_number_word) = true)
  (fa_is_net : PySem.W.nsIn K mainGlobals "is_net" = some (some (.ref f_is_net)))
  (fl_is_net : K.lookup f_is_net = some ⟨oc_is_net, od_is_net, .func (PySem.W.fnOf "is_net" "is_net" (defArgs s_is_net) (defBody s_is_net) (defScope s_is_net) .none kV_is_net dc_is_net pm_is_net an_is_net cd_is_net ct_is_net), sl_is_net⟩)
  (fc_is_net : PySem.W.codeIn K cd_is_net "is_net" = true)
  (fk_is_net : PySem.W.keepIn K (.ref f_is_net) = true)
  (fa_check_net : PySem.W.nsIn K mainGlobals "check_net" = some (some (.ref f_check_net)))
  (fl_check_net : K.lookup f_check_net = some ⟨oc_check_net, od_check_net, .func (PySem.W.fnOf "check_net" "check_net" (defArgs s_check_net) (defBody s_check_net) (defScope s_check_net) .none kV_check_net dc_check_net pm_check_net an_check_net cd_check_net ct_check_net), sl_check_net⟩)
  (fc_check_net : PySem.W.codeIn K cd_check_net "check_net" = true)
  (fk_check_net : PySem.W.keepIn K (.ref f_check_net) = true)
  (fa_is_literal : PySem.W.nsIn K mainGlobals "is_literal" = some (some (.ref f_is_literal)))
  (fl_is_literal : K.lookup f_is_literal = some ⟨oc_is_literal, od_is_literal, .func (PySem.W.fnOf "is_literal" "is_literal" (defArgs s_is_literal) (defBody s_is_literal) (defScope s_is_literal) .none kV_is_literal dc_is_literal pm_is_literal an_is_literal cd_is_literal ct_is_literal), sl_is_literal⟩)
  (fc_is_literal : PySem.W.codeIn K cd_is_literal "is_literal" = true)
  (fk_is_literal : PySem.W.keepIn K (.ref f_is_literal) = true)
  (fa_check_literals : PySem.W.nsIn K mainGlobals "check_literals" = some (some (.ref f_check_literals)))
  (fl_check_literals : K.lookup f_check_literals = some ⟨oc_check_literals, od_check_literals, .func (PySem.W.fnOf "check_literals" "check_literals" (defArgs s_check_literals) (defBody s_check_literals) (defScope s_check_literals) .none kV_check_literals dc_check_literals pm_check_literals an_check_literals cd_check_literals ct_check_literals), sl_check_literals⟩)
  (fc_check_literals : PySem.W.codeIn K cd_check_literals "check_literals" = true)
  (fk_check_literals : PySem.W.keepIn K (.ref f_check_literals) = true)
  (fa_Build_init : PySem.W.findIn K (.ref C_Build) "__init__" = some (some (.ref f_Build_init)))
  (fi_Build_init : PySem.W.isFn K (.ref f_Build_init) = true)
  (fl_Build_init : K.lookup f_Build_init = some ⟨oc_Build_init, od_Build_init, .func (PySem.W.fnOf "__init__" "Build.__init__" (defArgs s_Build_init) (defBody s_Build_init) (defScope s_Build_init) (.ref T_Build_init) kV_Build_init dc_Build_init pm_Build_init an_Build_init cd_Build_init ct_Build_init), sl_Build_init⟩)
  (fc_Build_init : PySem.W.codeIn K cd_Build_init "Build.__init__" = true)
  (fk_Build_init : PySem.W.keepIn K (.ref f_Build_init) = true)
  (fT_Build_init : K.lookup T_Build_init = some ⟨oc2_Build_init, od2_Build_init, .seq #[.ref e_Build_init] n2_Build_init, sl2_Build_init⟩)
  (fa_opposite : PySem.W.nsIn K mainGlobals "opposite" = some (some (.ref f_opposite)))
  (fl_opposite : K.lookup f_opposite = some ⟨oc_opposite, od_opposite, .func (PySem.W.fnOf "opposite" "opposite" (defArgs s_opposite) (defBody s_opposite) (defScope s_opposite) .none kV_opposite dc_opposite pm_opposite an_opposite cd_opposite ct_opposite), sl_opposite⟩)
  (fc_opposite : PySem.W.codeIn K cd_opposite "opposite" = true)
  (fk_opposite : PySem.W.keepIn K (.ref f_opposite) = true)
  (fa_Build_pair_of : PySem.W.findIn K (.ref C_Build) "pair_of" = some (some (.ref f_Build_pair_of)))
  (fi_Build_pair_of : PySem.W.isFn K (.ref f_Build_pair_of) = true)
  (fl_Build_pair_of : K.lookup f_Build_pair_of = some ⟨oc_Build_pair_of, od_Build_pair_of, .func (PySem.W.fnOf "pair_of" "Build.pair_of" (defArgs s_Build_pair_of) (defBody s_Build_pair_of) (defScope s_Build_pair_of) .none kV_Build_pair_of dc_Build_pair_of pm_Build_pair_of an_Build_pair_of cd_Build_pair_of ct_Build_pair_of), sl_Build_pair_of⟩)
  (fc_Build_pair_of : PySem.W.codeIn K cd_Build_pair_of "Build.pair_of" = true)
  (fk_Build_pair_of : PySem.W.keepIn K (.ref f_Build_pair_of) = true)
  (fa_Build_looked : PySem.W.findIn K (.ref C_Build) "looked" = some (some (.ref f_Build_looked)))
  (fi_Build_looked : PySem.W.isFn K (.ref f_Build_looked) = true)
  (fl_Build_looked : K.lookup f_Build_looked = some ⟨oc_Build_looked, od_Build_looked, .func (PySem.W.fnOf "looked" "Build.looked" (defArgs s_Build_looked) (defBody s_Build_looked) (defScope s_Build_looked) .none kV_Build_looked dc_Build_looked pm_Build_looked an_Build_looked cd_Build_looked ct_Build_looked), sl_Build_looked⟩)
  (fc_Build_looked : PySem.W.codeIn K cd_Build_looked "Build.looked" = true)
  (fk_Build_looked : PySem.W.keepIn K (.ref f_Build_looked) = true)
  (fa_Build_both : PySem.W.findIn K (.ref C_Build) "both" = some (some (.ref a_Build_both)))
  (fi_Build_both : PySem.W.isFn K (.ref a_Build_both) = true)
  (fg_Build_both : PySem.W.specialIn K (.ref a_Build_both) "__get__" = some (some (.builtin "function.__get__")))
  (ft_Build_both : PySem.W.takesIn K (.ref a_Build_both) = some false)
  (fn_Build_both : PySem.W.fnIn K a_Build_both = true)
  (fl_Build_both : K.lookup a_Build_both = some ⟨oc_Build_both, od_Build_both, .func (PySem.W.fnOf "both" "Build.both" (defArgs s_Build_both) (defBody s_Build_both) (defScope s_Build_both) .none kV_Build_both dc_Build_both pm_Build_both an_Build_both cd_Build_both ct_Build_both), sl_Build_both⟩)
  (fc_Build_both : PySem.W.codeIn K cd_Build_both "Build.both" = true)
  (fk_Build_both : PySem.W.keepIn K (.ref a_Build_both) = true)
  (fa_Build_net : PySem.W.findIn K (.ref C_Build) "net" = some (some (.ref f_Build_net)))
  (fi_Build_net : PySem.W.isFn K (.ref f_Build_net) = true)
  (fl_Build_net : K.lookup f_Build_net = some ⟨oc_Build_net, od_Build_net, .func (PySem.W.fnOf "net" "Build.net" (defArgs s_Build_net) (defBody s_Build_net) (defScope s_Build_net) .none kV_Build_net dc_Build_net pm_Build_net an_Build_net cd_Build_net ct_Build_net), sl_Build_net⟩)
  (fc_Build_net : PySem.W.codeIn K cd_Build_net "Build.net" = true)
  (fk_Build_net : PySem.W.keepIn K (.ref f_Build_net) = true)
  (fa_joined : PySem.W.nsIn K mainGlobals "joined" = some (some (.ref f_joined)))
  (fl_joined : K.lookup f_joined = some ⟨oc_joined, od_joined, .func (PySem.W.fnOf "joined" "joined" (defArgs s_joined) (defBody s_joined) (defScope s_joined) .none kV_joined dc_joined pm_joined an_joined cd_joined ct_joined), sl_joined⟩)
  (fc_joined : PySem.W.codeIn K cd_joined "joined" = true)
  (fk_joined : PySem.W.keepIn K (.ref f_joined) = true)
  (fa_is_tidy : PySem.W.nsIn K mainGlobals "is_tidy" = some (some (.ref f_is_tidy)))
  (fl_is_tidy : K.lookup f_is_tidy = some ⟨oc_is_tidy, od_is_tidy, .func (PySem.W.fnOf "is_tidy" "is_tidy" (defArgs s_is_tidy) (defBody s_is_tidy) (defScope s_is_tidy) .none kV_is_tidy dc_is_tidy pm_is_tidy an_is_tidy cd_is_tidy ct_is_tidy), sl_is_tidy⟩)
  (fc_is_tidy : PySem.W.codeIn K cd_is_tidy "is_tidy" = true)
  (fk_is_tidy : PySem.W.keepIn K (.ref f_is_tidy) = true)
  (fa__law_pick : PySem.W.nsIn K mainGlobals "_law_pick" = some (some (.ref f__law_pick)))
  (fl__law_pick : K.lookup f__law_pick = some ⟨oc__law_pick, od__law_pick, .func (PySem.W.fnOf "_law_pick" "_law_pick" (defArgs s__law_pick) (defBody s__law_pick) (defScope s__law_pick) .none kV__law_pick dc__law_pick pm__law_pick an__law_pick cd__law_pick ct__law_pick), sl__law_pick⟩)
  (fc__law_pick : PySem.W.codeIn K cd__law_pick "_law_pick" = true)
  (fk__law_pick : PySem.W.keepIn K (.ref f__law_pick) = true)
  (fa_is_word : PySem.W.nsIn K mainGlobals "is_word" = some (some (.ref f_is_word)))
  (fl_is_word : K.lookup f_is_word = some ⟨oc_is_word, od_is_word, .func (PySem.W.fnOf "is_word" "is_word" (defArgs s_is_word) (defBody s_is_word) (defScope s_is_word) .none kV_is_word dc_is_word pm_is_word an_is_word cd_is_word ct_is_word), sl_is_word⟩)
  (fc_is_word : PySem.W.codeIn K cd_is_word "is_word" = true)
  (fk_is_word : PySem.W.keepIn K (.ref f_is_word) = true)
  (fa_check_words : PySem.W.nsIn K mainGlobals "check_words" = some (some (.ref f_check_words)))
  (fl_check_words : K.lookup f_check_words = some ⟨oc_check_words, od_check_words, .func (PySem.W.fnOf "check_words" "check_words" (defArgs s_check_words) (defBody s_check_words) (defScope s_check_words) .none kV_check_words dc_check_words pm_check_words an_check_words cd_check_words ct_check_words), sl_check_words⟩)
  (fc_check_words : PySem.W.codeIn K cd_check_words "check_words" = true)
  (fk_check_words : PySem.W.keepIn K (.ref f_check_words) = true)
  (fa_Build_either : PySem.W.findIn K (.ref C_Build) "either" = some (some (.ref a_Build_either)))
  (fi_Build_either : PySem.W.isFn K (.ref a_Build_either) = true)
  (fg_Build_either : PySem.W.specialIn K (.ref a_Build_either) "__get__" = some (some (.builtin "function.__get__")))
  (ft_Build_either : PySem.W.takesIn K (.ref a_Build_either) = some false)
  (fn_Build_either : PySem.W.fnIn K a_Build_either = true)
  (fl_Build_either : K.lookup a_Build_either = some ⟨oc_Build_either, od_Build_either, .func (PySem.W.fnOf "either" "Build.either" (defArgs s_Build_either) (defBody s_Build_either) (defScope s_Build_either) .none kV_Build_either dc_Build_either pm_Build_either an_Build_either cd_Build_either ct_Build_either), sl_Build_either⟩)
  (fc_Build_either : PySem.W.codeIn K cd_Build_either "Build.either" = true)
  (fk_Build_either : PySem.W.keepIn K (.ref a_Build_either) = true)
  (fa_Build_differ : PySem.W.findIn K (.ref C_Build) "differ" = some (some (.ref a_Build_differ)))
  (fi_Build_differ : PySem.W.isFn K (.ref a_Build_differ) = true)
  (fg_Build_differ : PySem.W.specialIn K (.ref a_Build_differ) "__get__" = some (some (.builtin "function.__get__")))
  (ft_Build_differ : PySem.W.takesIn K (.ref a_Build_differ) = some false)
  (fn_Build_differ : PySem.W.fnIn K a_Build_differ = true)
  (fl_Build_differ : K.lookup a_Build_differ = some ⟨oc_Build_differ, od_Build_differ, .func (PySem.W.fnOf "differ" "Build.differ" (defArgs s_Build_differ) (defBody s_Build_differ) (defScope s_Build_differ) .none kV_Build_differ dc_Build_differ pm_Build_differ an_Build_differ cd_Build_differ ct_Build_differ), sl_Build_differ⟩)
  (fc_Build_differ : PySem.W.codeIn K cd_Build_differ "Build.differ" = true)
  (fk_Build_differ : PySem.W.keepIn K (.ref a_Build_differ) = true)
  (fa_Build_add : PySem.W.findIn K (.ref C_Build) "add" = some (some (.ref f_Build_add)))
  (fi_Build_add : PySem.W.isFn K (.ref f_Build_add) = true)
  (fl_Build_add : K.lookup f_Build_add = some ⟨oc_Build_add, od_Build_add, .func (PySem.W.fnOf "add" "Build.add" (defArgs s_Build_add) (defBody s_Build_add) (defScope s_Build_add) .none kV_Build_add dc_Build_add pm_Build_add an_Build_add cd_Build_add ct_Build_add), sl_Build_add⟩)
  (fc_Build_add : PySem.W.codeIn K cd_Build_add "Build.add" = true)
  (fk_Build_add : PySem.W.keepIn K (.ref f_Build_add) = true)
  (fa_Build_times : PySem.W.findIn K (.ref C_Build) "times" = some (some (.ref f_Build_times)))
  (fi_Build_times : PySem.W.isFn K (.ref f_Build_times) = true)
  (fl_Build_times : K.lookup f_Build_times = some ⟨oc_Build_times, od_Build_times, .func (PySem.W.fnOf "times" "Build.times" (defArgs s_Build_times) (defBody s_Build_times) (defScope s_Build_times) .none kV_Build_times dc_Build_times pm_Build_times an_Build_times cd_Build_times ct_Build_times), sl_Build_times⟩)
  (fc_Build_times : PySem.W.codeIn K cd_Build_times "Build.times" = true)
  (fk_Build_times : PySem.W.keepIn K (.ref f_Build_times) = true)
  (fa_Build_all_of : PySem.W.findIn K (.ref C_Build) "all_of" = some (some (.ref f_Build_all_of)))
  (fi_Build_all_of : PySem.W.isFn K (.ref f_Build_all_of) = true)
  (fl_Build_all_of : K.lookup f_Build_all_of = some ⟨oc_Build_all_of, od_Build_all_of, .func (PySem.W.fnOf "all_of" "Build.all_of" (defArgs s_Build_all_of) (defBody s_Build_all_of) (defScope s_Build_all_of) .none kV_Build_all_of dc_Build_all_of pm_Build_all_of an_Build_all_of cd_Build_all_of ct_Build_all_of), sl_Build_all_of⟩)
  (fc_Build_all_of : PySem.W.codeIn K cd_Build_all_of "Build.all_of" = true)
  (fk_Build_all_of : PySem.W.keepIn K (.ref f_Build_all_of) = true)
  (fa_Build_same : PySem.W.findIn K (.ref C_Build) "same" = some (some (.ref f_Build_same)))
  (fi_Build_same : PySem.W.isFn K (.ref f_Build_same) = true)
  (fl_Build_same : K.lookup f_Build_same = some ⟨oc_Build_same, od_Build_same, .func (PySem.W.fnOf "same" "Build.same" (defArgs s_Build_same) (defBody s_Build_same) (defScope s_Build_same) .none kV_Build_same dc_Build_same pm_Build_same an_Build_same cd_Build_same ct_Build_same), sl_Build_same⟩)
  (fc_Build_same : PySem.W.codeIn K cd_Build_same "Build.same" = true)
  (fk_Build_same : PySem.W.keepIn K (.ref f_Build_same) = true)
  (fa_Build_choose : PySem.W.findIn K (.ref C_Build) "choose" = some (some (.ref f_Build_choose)))
  (fi_Build_choose : PySem.W.isFn K (.ref f_Build_choose) = true)
  (fl_Build_choose : K.lookup f_Build_choose = some ⟨oc_Build_choose, od_Build_choose, .func (PySem.W.fnOf "choose" "Build.choose" (defArgs s_Build_choose) (defBody s_Build_choose) (defScope s_Build_choose) .none kV_Build_choose dc_Build_choose pm_Build_choose an_Build_choose cd_Build_choose ct_Build_choose), sl_Build_choose⟩)
  (fc_Build_choose : PySem.W.codeIn K cd_Build_choose "Build.choose" = true)
  (fk_Build_choose : PySem.W.keepIn K (.ref f_Build_choose) = true)
  (fa_Build_less : PySem.W.findIn K (.ref C_Build) "less" = some (some (.ref f_Build_less)))
  (fi_Build_less : PySem.W.isFn K (.ref f_Build_less) = true)
  (fl_Build_less : K.lookup f_Build_less = some ⟨oc_Build_less, od_Build_less, .func (PySem.W.fnOf "less" "Build.less" (defArgs s_Build_less) (defBody s_Build_less) (defScope s_Build_less) .none kV_Build_less dc_Build_less pm_Build_less an_Build_less cd_Build_less ct_Build_less), sl_Build_less⟩)
  (fc_Build_less : PySem.W.codeIn K cd_Build_less "Build.less" = true)
  (fk_Build_less : PySem.W.keepIn K (.ref f_Build_less) = true)
  (fa_Build_combine : PySem.W.findIn K (.ref C_Build) "combine" = some (some (.ref f_Build_combine)))
  (fi_Build_combine : PySem.W.isFn K (.ref f_Build_combine) = true)
  (fl_Build_combine : K.lookup f_Build_combine = some ⟨oc_Build_combine, od_Build_combine, .func (PySem.W.fnOf "combine" "Build.combine" (defArgs s_Build_combine) (defBody s_Build_combine) (defScope s_Build_combine) .none kV_Build_combine dc_Build_combine pm_Build_combine an_Build_combine cd_Build_combine ct_Build_combine), sl_Build_combine⟩)
  (fc_Build_combine : PySem.W.codeIn K cd_Build_combine "Build.combine" = true)
  (fk_Build_combine : PySem.W.keepIn K (.ref f_Build_combine) = true)
  (fa_combined : PySem.W.nsIn K mainGlobals "combined" = some (some (.ref f_combined)))
  (fl_combined : K.lookup f_combined = some ⟨oc_combined, od_combined, .func (PySem.W.fnOf "combined" "combined" (defArgs s_combined) (defBody s_combined) (defScope s_combined) .none kV_combined dc_combined pm_combined an_combined cd_combined ct_combined), sl_combined⟩)
  (fc_combined : PySem.W.codeIn K cd_combined "combined" = true)
  (fk_combined : PySem.W.keepIn K (.ref f_combined) = true)
  (fa__law_both : PySem.W.nsIn K mainGlobals "_law_both" = some (some (.ref f__law_both)))
  (fl__law_both : K.lookup f__law_both = some ⟨oc__law_both, od__law_both, .func (PySem.W.fnOf "_law_both" "_law_both" (defArgs s__law_both) (defBody s__law_both) (defScope s__law_both) .none kV__law_both dc__law_both pm__law_both an__law_both cd__law_both ct__law_both), sl__law_both⟩)
  (fc__law_both : PySem.W.codeIn K cd__law_both "_law_both" = true)
  (fk__law_both : PySem.W.keepIn K (.ref f__law_both) = true)
  (fa_cone_of : PySem.W.nsIn K mainGlobals "cone_of" = some (some (.ref f_cone_of)))
  (fl_cone_of : K.lookup f_cone_of = some ⟨oc_cone_of, od_cone_of, .func (PySem.W.fnOf "cone_of" "cone_of" (defArgs s_cone_of) (defBody s_cone_of) (defScope s_cone_of) .none kV_cone_of dc_cone_of pm_cone_of an_cone_of cd_cone_of ct_cone_of), sl_cone_of⟩)
  (fc_cone_of : PySem.W.codeIn K cd_cone_of "cone_of" = true)
  (fk_cone_of : PySem.W.keepIn K (.ref f_cone_of) = true)
  (fa_value_of : PySem.W.nsIn K mainGlobals "value_of" = some (some (.ref f_value_of)))
  (fl_value_of : K.lookup f_value_of = some ⟨oc_value_of, od_value_of, .func (PySem.W.fnOf "value_of" "value_of" (defArgs s_value_of) (defBody s_value_of) (defScope s_value_of) .none kV_value_of dc_value_of pm_value_of an_value_of cd_value_of ct_value_of), sl_value_of⟩)
  (fc_value_of : PySem.W.codeIn K cd_value_of "value_of" = true)
  (fk_value_of : PySem.W.keepIn K (.ref f_value_of) = true)
  (fa_values_of : PySem.W.nsIn K mainGlobals "values_of" = some (some (.ref f_values_of)))
  (fl_values_of : K.lookup f_values_of = some ⟨oc_values_of, od_values_of, .func (PySem.W.fnOf "values_of" "values_of" (defArgs s_values_of) (defBody s_values_of) (defScope s_values_of) .none kV_values_of dc_values_of pm_values_of an_values_of cd_values_of ct_values_of), sl_values_of⟩)
  (fc_values_of : PySem.W.codeIn K cd_values_of "values_of" = true)
  (fk_values_of : PySem.W.keepIn K (.ref f_values_of) = true)
  (fa_number_of : PySem.W.nsIn K mainGlobals "number_of" = some (some (.ref f_number_of)))
  (fl_number_of : K.lookup f_number_of = some ⟨oc_number_of, od_number_of, .func (PySem.W.fnOf "number_of" "number_of" (defArgs s_number_of) (defBody s_number_of) (defScope s_number_of) .none kV_number_of dc_number_of pm_number_of an_number_of cd_number_of ct_number_of), sl_number_of⟩)
  (fc_number_of : PySem.W.codeIn K cd_number_of "number_of" = true)
  (fk_number_of : PySem.W.keepIn K (.ref f_number_of) = true)
  (fa_agree : PySem.W.nsIn K mainGlobals "agree" = some (some (.ref f_agree)))
  (fl_agree : K.lookup f_agree = some ⟨oc_agree, od_agree, .func (PySem.W.fnOf "agree" "agree" (defArgs s_agree) (defBody s_agree) (defScope s_agree) .none kV_agree dc_agree pm_agree an_agree cd_agree ct_agree), sl_agree⟩)
  (fc_agree : PySem.W.codeIn K cd_agree "agree" = true)
  (fk_agree : PySem.W.keepIn K (.ref f_agree) = true)
  (fa_are_bits : PySem.W.nsIn K mainGlobals "are_bits" = some (some (.ref f_are_bits)))
  (fl_are_bits : K.lookup f_are_bits = some ⟨oc_are_bits, od_are_bits, .func (PySem.W.fnOf "are_bits" "are_bits" (defArgs s_are_bits) (defBody s_are_bits) (defScope s_are_bits) .none kV_are_bits dc_are_bits pm_are_bits an_are_bits cd_are_bits ct_are_bits), sl_are_bits⟩)
  (fc_are_bits : PySem.W.codeIn K cd_are_bits "are_bits" = true)
  (fk_are_bits : PySem.W.keepIn K (.ref f_are_bits) = true)
  (fa_check_bits : PySem.W.nsIn K mainGlobals "check_bits" = some (some (.ref f_check_bits)))
  (fl_check_bits : K.lookup f_check_bits = some ⟨oc_check_bits, od_check_bits, .func (PySem.W.fnOf "check_bits" "check_bits" (defArgs s_check_bits) (defBody s_check_bits) (defScope s_check_bits) .none kV_check_bits dc_check_bits pm_check_bits an_check_bits cd_check_bits ct_check_bits), sl_check_bits⟩)
  (fc_check_bits : PySem.W.codeIn K cd_check_bits "check_bits" = true)
  (fk_check_bits : PySem.W.keepIn K (.ref f_check_bits) = true)
  (fa_word_number : PySem.W.nsIn K mainGlobals "word_number" = some (some (.ref f_word_number)))
  (fl_word_number : K.lookup f_word_number = some ⟨oc_word_number, od_word_number, .func (PySem.W.fnOf "word_number" "word_number" (defArgs s_word_number) (defBody s_word_number) (defScope s_word_number) .none kV_word_number dc_word_number pm_word_number an_word_number cd_word_number ct_word_number), sl_word_number⟩)
  (fc_word_number : PySem.W.codeIn K cd_word_number "word_number" = true)
  (fk_word_number : PySem.W.keepIn K (.ref f_word_number) = true)
  (fa__law_sets : PySem.W.nsIn K mainGlobals "_law_sets" = some (some (.ref f__law_sets)))
  (fl__law_sets : K.lookup f__law_sets = some ⟨oc__law_sets, od__law_sets, .func (PySem.W.fnOf "_law_sets" "_law_sets" (defArgs s__law_sets) (defBody s__law_sets) (defScope s__law_sets) .none kV__law_sets dc__law_sets pm__law_sets an__law_sets cd__law_sets ct__law_sets), sl__law_sets⟩)
  (fc__law_sets : PySem.W.codeIn K cd__law_sets "_law_sets" = true)
  (fk__law_sets : PySem.W.keepIn K (.ref f__law_sets) = true)
  (fa__law_join : PySem.W.nsIn K mainGlobals "_law_join" = some (some (.ref f__law_join)))
  (fl__law_join : K.lookup f__law_join = some ⟨oc__law_join, od__law_join, .func (PySem.W.fnOf "_law_join" "_law_join" (defArgs s__law_join) (defBody s__law_join) (defScope s__law_join) .none kV__law_join dc__law_join pm__law_join an__law_join cd__law_join ct__law_join), sl__law_join⟩)
  (fc__law_join : PySem.W.codeIn K cd__law_join "_law_join" = true)
  (fk__law_join : PySem.W.keepIn K (.ref f__law_join) = true)
  (fa_cone : PySem.W.nsIn K mainGlobals "cone" = some (some (.ref f_cone)))
  (fl_cone : K.lookup f_cone = some ⟨oc_cone, od_cone, .func (PySem.W.fnOf "cone" "cone" (defArgs s_cone) (defBody s_cone) (defScope s_cone) .none kV_cone dc_cone pm_cone an_cone cd_cone ct_cone), sl_cone⟩)
  (fc_cone : PySem.W.codeIn K cd_cone "cone" = true)
  (fk_cone : PySem.W.keepIn K (.ref f_cone) = true)
  (fa_opposite_word : PySem.W.nsIn K mainGlobals "opposite_word" = some (some (.ref f_opposite_word)))
  (fl_opposite_word : K.lookup f_opposite_word = some ⟨oc_opposite_word, od_opposite_word, .func (PySem.W.fnOf "opposite_word" "opposite_word" (defArgs s_opposite_word) (defBody s_opposite_word) (defScope s_opposite_word) .none kV_opposite_word dc_opposite_word pm_opposite_word an_opposite_word cd_opposite_word ct_opposite_word), sl_opposite_word⟩)
  (fc_opposite_word : PySem.W.codeIn K cd_opposite_word "opposite_word" = true)
  (fk_opposite_word : PySem.W.keepIn K (.ref f_opposite_word) = true)
  (fa__law_sums_hold : PySem.W.nsIn K mainGlobals "_law_sums_hold" = some (some (.ref f__law_sums_hold)))
  (fl__law_sums_hold : K.lookup f__law_sums_hold = some ⟨oc__law_sums_hold, od__law_sums_hold, .func (PySem.W.fnOf "_law_sums_hold" "_law_sums_hold" (defArgs s__law_sums_hold) (defBody s__law_sums_hold) (defScope s__law_sums_hold) .none kV__law_sums_hold dc__law_sums_hold pm__law_sums_hold an__law_sums_hold cd__law_sums_hold ct__law_sums_hold), sl__law_sums_hold⟩)
  (fc__law_sums_hold : PySem.W.codeIn K cd__law_sums_hold "_law_sums_hold" = true)
  (fk__law_sums_hold : PySem.W.keepIn K (.ref f__law_sums_hold) = true)
  (fa_Build_pick : PySem.W.findIn K (.ref C_Build) "pick" = some (some (.ref f_Build_pick)))
  (fi_Build_pick : PySem.W.isFn K (.ref f_Build_pick) = true)
  (fl_Build_pick : K.lookup f_Build_pick = some ⟨oc_Build_pick, od_Build_pick, .func (PySem.W.fnOf "pick" "Build.pick" (defArgs s_Build_pick) (defBody s_Build_pick) (defScope s_Build_pick) .none kV_Build_pick dc_Build_pick pm_Build_pick an_Build_pick cd_Build_pick ct_Build_pick), sl_Build_pick⟩)
  (fc_Build_pick : PySem.W.codeIn K cd_Build_pick "Build.pick" = true)
  (fk_Build_pick : PySem.W.keepIn K (.ref f_Build_pick) = true)
  (fa_picked : PySem.W.nsIn K mainGlobals "picked" = some (some (.ref f_picked)))
  (fl_picked : K.lookup f_picked = some ⟨oc_picked, od_picked, .func (PySem.W.fnOf "picked" "picked" (defArgs s_picked) (defBody s_picked) (defScope s_picked) .none kV_picked dc_picked pm_picked an_picked cd_picked ct_picked), sl_picked⟩)
  (fc_picked : PySem.W.codeIn K cd_picked "picked" = true)
  (fk_picked : PySem.W.keepIn K (.ref f_picked) = true)
  (fa_node_values : PySem.W.nsIn K mainGlobals "node_values" = some (some (.ref f_node_values)))
  (fl_node_values : K.lookup f_node_values = some ⟨oc_node_values, od_node_values, .func (PySem.W.fnOf "node_values" "node_values" (defArgs s_node_values) (defBody s_node_values) (defScope s_node_values) .none kV_node_values dc_node_values pm_node_values an_node_values cd_node_values ct_node_values), sl_node_values⟩)
  (fc_node_values : PySem.W.codeIn K cd_node_values "node_values" = true)
  (fk_node_values : PySem.W.keepIn K (.ref f_node_values) = true)
  (fa__law_picks_hold : PySem.W.nsIn K mainGlobals "_law_picks_hold" = some (some (.ref f__law_picks_hold)))
  (fl__law_picks_hold : K.lookup f__law_picks_hold = some ⟨oc__law_picks_hold, od__law_picks_hold, .func (PySem.W.fnOf "_law_picks_hold" "_law_picks_hold" (defArgs s__law_picks_hold) (defBody s__law_picks_hold) (defScope s__law_picks_hold) .none kV__law_picks_hold dc__law_picks_hold pm__law_picks_hold an__law_picks_hold cd__law_picks_hold ct__law_picks_hold), sl__law_picks_hold⟩)
  (fc__law_picks_hold : PySem.W.codeIn K cd__law_picks_hold "_law_picks_hold" = true)
  (fk__law_picks_hold : PySem.W.keepIn K (.ref f__law_picks_hold) = true)
  (fa__law_main : PySem.W.nsIn K mainGlobals "_law_main" = some (some (.ref f__law_main)))
  (fl__law_main : K.lookup f__law_main = some ⟨oc__law_main, od__law_main, .func (PySem.W.fnOf "_law_main" "_law_main" (defArgs s__law_main) (defBody s__law_main) (defScope s__law_main) .none kV__law_main dc__law_main pm__law_main an__law_main cd__law_main ct__law_main), sl__law_main⟩)
  (fc__law_main : PySem.W.codeIn K cd__law_main "_law_main" = true)
  (fk__law_main : PySem.W.keepIn K (.ref f__law_main) = true)
  (fa_law : PySem.W.nsIn K mainGlobals "law" = some (some (.ref f_law)))
  (fl_law : K.lookup f_law = some ⟨oc_law, od_law, .func (PySem.W.fnOf "law" "law" (defArgs s_law) (defBody s_law) (defScope s_law) .none kV_law dc_law pm_law an_law cd_law ct_law), sl_law⟩)
  (fc_law : PySem.W.codeIn K cd_law "law" = true)
  (fk_law : PySem.W.keepIn K (.ref f_law) = true) : Lk K mg where
  c_FALSE := ⟨(.int 0), (.int 0 t1), PySem.W.mg_of X G k_FALSE, ⟨t1, rfl⟩, fun _ _ => (.int 0)⟩
  c_KINDS := ⟨.ref A_KINDS, .ref A_KINDS, PySem.W.mg_of X G k_KINDS, rfl, fun _ _ => Dp.tup (xs := [(.str "add"), (.str "sub"), (.str "mul"), (.str "and"), (.str "or"), (.str "xor"), (.str "same"), (.str "less"), (.str "least")]) (.inr ⟨_, #[(.str "add" t2), (.str "sub" t3), (.str "mul" t4), (.str "and" t5), (.str "or" t6), (.str "xor" t7), (.str "same" t8), (.str "less" t9), (.str "least" t10)], n_KINDS, l_KINDS, rfl, rfl, (by show 9 ≤ sizeLine; decide), (.cons ⟨t2, rfl⟩ (.cons ⟨t3, rfl⟩ (.cons ⟨t4, rfl⟩ (.cons ⟨t5, rfl⟩ (.cons ⟨t6, rfl⟩ (.cons ⟨t7, rfl⟩ (.cons ⟨t8, rfl⟩ (.cons ⟨t9, rfl⟩ (.cons ⟨t10, rfl⟩ .nil)))))))))⟩) (.cons (.str "add") (.cons (.str "sub") (.cons (.str "mul") (.cons (.str "and") (.cons (.str "or") (.cons (.str "xor") (.cons (.str "same") (.cons (.str "less") (.cons (.str "least") .nil)))))))))⟩
  c_MOST_FREE := ⟨(.int 200), (.int 200 t11), PySem.W.mg_of X G k_MOST_FREE, ⟨t11, rfl⟩, fun _ _ => (.int 200)⟩
  c_MOST_GATES := ⟨(.int 20000), (.int 20000 t12), PySem.W.mg_of X G k_MOST_GATES, ⟨t12, rfl⟩, fun _ _ => (.int 20000)⟩
  c_MOST_LOOKED := ⟨(.int 12), (.int 12 t13), PySem.W.mg_of X G k_MOST_LOOKED, ⟨t13, rfl⟩, fun _ _ => (.int 12)⟩
  c_MOST_WIDTH := ⟨(.int 8), (.int 8 t14), PySem.W.mg_of X G k_MOST_WIDTH, ⟨t14, rfl⟩, fun _ _ => (.int 8)⟩
  c_TRUE := ⟨(.int 1), (.int 1 t15), PySem.W.mg_of X G k_TRUE, ⟨t15, rfl⟩, fun _ _ => (.int 1)⟩
  f_Build_free := ⟨C_Build, PySem.W.mg_of X G cA_Build, ⟨cP_Build, cH_Build, cO_Build, cS_Build⟩, fl_Build_free⟩
  f_Build_gates := ⟨C_Build, PySem.W.mg_of X G cA_Build, ⟨cP_Build, cH_Build, cO_Build, cS_Build⟩, fl_Build_gates⟩
  f_Build_known := ⟨C_Build, PySem.W.mg_of X G cA_Build, ⟨cP_Build, cH_Build, cO_Build, cS_Build⟩, fl_Build_known⟩
  n_all := PySem.W.mg_none_of X G bn_all
  n_enumerate := PySem.W.mg_none_of X G bn_enumerate
  n_int := PySem.W.mg_none_of X G bn_int
  n_len := PySem.W.mg_none_of X G bn_len
  n_max := PySem.W.mg_none_of X G bn_max
  n_min := PySem.W.mg_none_of X G bn_min
  n_range := PySem.W.mg_none_of X G bn_range
  n_sorted := PySem.W.mg_none_of X G bn_sorted
  n_sum := PySem.W.mg_none_of X G bn_sum
  n_tuple := PySem.W.mg_none_of X G bn_tuple
  n_zip := PySem.W.mg_none_of X G bn_zip
  r__law_number := ⟨f__law_number, _, PySem.W.mg_of X G fa__law_number, (funA_mk fl__law_number fc__law_number fk__law_number), ((fun_mk fl__law_number fc__law_number fk__law_number).binds (ps := ["cell"]) fun _ _ _ _ _ _ us hl => match us, hl with | [_], _ => rfl)⟩
  r__law_draws := ⟨f__law_draws, _, PySem.W.mg_of X G fa__law_draws, (funA_mk fl__law_draws fc__law_draws fk__law_draws), ((fun_mk fl__law_draws fc__law_draws fk__law_draws).binds (ps := ["script"]) fun _ _ _ _ _ _ us hl => match us, hl with | [_], _ => rfl)⟩
  r__law_next := ⟨f__law_next, _, PySem.W.mg_of X G fa__law_next, (funA_mk fl__law_next fc__law_next fk__law_next), ((fun_mk fl__law_next fc__law_next fk__law_next).binds (ps := ["draws"]) fun _ _ _ _ _ _ us hl => match us, hl with | [_], _ => rfl)⟩
  r__law_more := ⟨f__law_more, _, PySem.W.mg_of X G fa__law_more, (funA_mk fl__law_more fc__law_more fk__law_more), ((fun_mk fl__law_more fc__law_more fk__law_more).binds (ps := ["draws", "many"]) fun _ _ _ _ _ _ us hl => match us, hl with | [_, _], _ => rfl)⟩
  r_number_word := ⟨f_number_word, _, PySem.W.mg_of X G fa_number_word, (funA_mk fl_number_word fc_number_word fk_number_word), ((fun_mk fl_number_word fc_number_word fk_number_word).binds (ps := ["width", "number"]) fun _ _ _ _ _ _ us hl => match us, hl with | [_, _], _ => rfl)⟩
  r_is_net := ⟨f_is_net, _, PySem.W.mg_of X G fa_is_net, (funA_mk fl_is_net fc_is_net fk_is_net), ((fun_mk fl_is_net fc_is_net fk_is_net).binds (ps := ["net"]) fun _ _ _ _ _ _ us hl => match us, hl with | [_], _ => rfl)⟩
  r_check_net := ⟨f_check_net, _, PySem.W.mg_of X G fa_check_net, (funA_mk fl_check_net fc_check_net fk_check_net), ((fun_mk fl_check_net fc_check_net fk_check_net).binds (ps := ["net"]) fun _ _ _ _ _ _ us hl => match us, hl with | [_], _ => rfl)⟩
  r_is_literal := ⟨f_is_literal, _, PySem.W.mg_of X G fa_is_literal, (funA_mk fl_is_literal fc_is_literal fk_is_literal), ((fun_mk fl_is_literal fc_is_literal fk_is_literal).binds (ps := ["net", "literal"]) fun _ _ _ _ _ _ us hl => match us, hl with | [_, _], _ => rfl)⟩
  r_check_literals := ⟨f_check_literals, _, PySem.W.mg_of X G fa_check_literals, (funA_mk fl_check_literals fc_check_literals fk_check_literals), ((fun_mk fl_check_literals fc_check_literals fk_check_literals).binds (ps := ["net", "literals"]) fun _ _ _ _ _ _ us hl => match us, hl with | [_, _], _ => rfl)⟩
  r_Build_init := ⟨C_Build, f_Build_init, _, PySem.W.mg_of X G cA_Build, ⟨cM_Build, fa_Build_init, fi_Build_init, cK_Build⟩, (funA_mk fl_Build_init fc_Build_init fk_Build_init), (binds_dflt fl_Build_init fc_Build_init fk_Build_init fT_Build_init (v := .ref e_Build_init) rfl fun _ _ _ _ _ _ _ us its hl h1 => match us, its, hl, h1 with | [_, _, _], [_], _, _ => ⟨_, rfl, rfl⟩)⟩
  r_opposite := ⟨f_opposite, _, PySem.W.mg_of X G fa_opposite, (funA_mk fl_opposite fc_opposite fk_opposite), ((fun_mk fl_opposite fc_opposite fk_opposite).binds (ps := ["literal"]) fun _ _ _ _ _ _ us hl => match us, hl with | [_], _ => rfl)⟩
  r_Build_pair_of := ⟨C_Build, f_Build_pair_of, _, PySem.W.mg_of X G cA_Build, ⟨cP_Build, cH_Build, cO_Build, cS_Build⟩, ⟨fa_Build_pair_of, fi_Build_pair_of, fk_Build_pair_of⟩, (funA_mk fl_Build_pair_of fc_Build_pair_of fk_Build_pair_of), ((fun_mk fl_Build_pair_of fc_Build_pair_of fk_Build_pair_of).binds (ps := ["self", "literal"]) fun _ _ _ _ _ _ us hl => match us, hl with | [_, _], _ => rfl)⟩
  r_Build_looked := ⟨C_Build, f_Build_looked, _, PySem.W.mg_of X G cA_Build, ⟨cP_Build, cH_Build, cO_Build, cS_Build⟩, ⟨fa_Build_looked, fi_Build_looked, fk_Build_looked⟩, (funA_mk fl_Build_looked fc_Build_looked fk_Build_looked), ((fun_mk fl_Build_looked fc_Build_looked fk_Build_looked).binds (ps := ["self", "a", "b"]) fun _ _ _ _ _ _ us hl => match us, hl with | [_, _, _], _ => rfl)⟩
  r_Build_both := ⟨C_Build, _, PySem.W.mg_of X G cA_Build, ⟨cP_Build, cH_Build, cO_Build, cS_Build⟩, ⟨⟨fa_Build_both, fi_Build_both, fk_Build_both⟩, fg_Build_both, ft_Build_both, by decide +kernel, fn_Build_both⟩, (funA_mk fl_Build_both fc_Build_both fk_Build_both), ((fun_mk fl_Build_both fc_Build_both fk_Build_both).binds (ps := ["self", "a", "b"]) fun _ _ _ _ _ _ us hl => match us, hl with | [_, _, _], _ => rfl)⟩
  r_Build_net := ⟨C_Build, f_Build_net, _, PySem.W.mg_of X G cA_Build, ⟨cP_Build, cH_Build, cO_Build, cS_Build⟩, ⟨fa_Build_net, fi_Build_net, fk_Build_net⟩, (funA_mk fl_Build_net fc_Build_net fk_Build_net), ((fun_mk fl_Build_net fc_Build_net fk_Build_net).binds (ps := ["self"]) fun _ _ _ _ _ _ us hl => match us, hl with | [_], _ => rfl)⟩
  r_joined := ⟨f_joined, _, PySem.W.mg_of X G fa_joined, (funA_mk fl_joined fc_joined fk_joined), ((fun_mk fl_joined fc_joined fk_joined).binds (ps := ["net", "a", "b"]) fun _ _ _ _ _ _ us hl => match us, hl with | [_, _, _], _ => rfl)⟩
  r_is_tidy := ⟨f_is_tidy, _, PySem.W.mg_of X G fa_is_tidy, (funA_mk fl_is_tidy fc_is_tidy fk_is_tidy), ((fun_mk fl_is_tidy fc_is_tidy fk_is_tidy).binds (ps := ["net"]) fun _ _ _ _ _ _ us hl => match us, hl with | [_], _ => rfl)⟩
  r__law_pick := ⟨f__law_pick, _, PySem.W.mg_of X G fa__law_pick, (funA_mk fl__law_pick fc__law_pick fk__law_pick), ((fun_mk fl__law_pick fc__law_pick fk__law_pick).binds (ps := ["draws", "some"]) fun _ _ _ _ _ _ us hl => match us, hl with | [_, _], _ => rfl)⟩
  r_is_word := ⟨f_is_word, _, PySem.W.mg_of X G fa_is_word, (funA_mk fl_is_word fc_is_word fk_is_word), ((fun_mk fl_is_word fc_is_word fk_is_word).binds (ps := ["net", "word"]) fun _ _ _ _ _ _ us hl => match us, hl with | [_, _], _ => rfl)⟩
  r_check_words := ⟨f_check_words, _, PySem.W.mg_of X G fa_check_words, (funA_mk fl_check_words fc_check_words fk_check_words), ((fun_mk fl_check_words fc_check_words fk_check_words).binds (ps := ["net", "words"]) fun _ _ _ _ _ _ us hl => match us, hl with | [_, _], _ => rfl)⟩
  r_Build_either := ⟨C_Build, _, PySem.W.mg_of X G cA_Build, ⟨cP_Build, cH_Build, cO_Build, cS_Build⟩, ⟨⟨fa_Build_either, fi_Build_either, fk_Build_either⟩, fg_Build_either, ft_Build_either, by decide +kernel, fn_Build_either⟩, (funA_mk fl_Build_either fc_Build_either fk_Build_either), ((fun_mk fl_Build_either fc_Build_either fk_Build_either).binds (ps := ["self", "a", "b"]) fun _ _ _ _ _ _ us hl => match us, hl with | [_, _, _], _ => rfl)⟩
  r_Build_differ := ⟨C_Build, _, PySem.W.mg_of X G cA_Build, ⟨cP_Build, cH_Build, cO_Build, cS_Build⟩, ⟨⟨fa_Build_differ, fi_Build_differ, fk_Build_differ⟩, fg_Build_differ, ft_Build_differ, by decide +kernel, fn_Build_differ⟩, (funA_mk fl_Build_differ fc_Build_differ fk_Build_differ), ((fun_mk fl_Build_differ fc_Build_differ fk_Build_differ).binds (ps := ["self", "a", "b"]) fun _ _ _ _ _ _ us hl => match us, hl with | [_, _, _], _ => rfl)⟩
  r_Build_add := ⟨C_Build, f_Build_add, _, PySem.W.mg_of X G cA_Build, ⟨cP_Build, cH_Build, cO_Build, cS_Build⟩, ⟨fa_Build_add, fi_Build_add, fk_Build_add⟩, (funA_mk fl_Build_add fc_Build_add fk_Build_add), ((fun_mk fl_Build_add fc_Build_add fk_Build_add).binds (ps := ["self", "one", "other", "carry"]) fun _ _ _ _ _ _ us hl => match us, hl with | [_, _, _, _], _ => rfl)⟩
  r_Build_times := ⟨C_Build, f_Build_times, _, PySem.W.mg_of X G cA_Build, ⟨cP_Build, cH_Build, cO_Build, cS_Build⟩, ⟨fa_Build_times, fi_Build_times, fk_Build_times⟩, (funA_mk fl_Build_times fc_Build_times fk_Build_times), ((fun_mk fl_Build_times fc_Build_times fk_Build_times).binds (ps := ["self", "one", "other"]) fun _ _ _ _ _ _ us hl => match us, hl with | [_, _, _], _ => rfl)⟩
  r_Build_all_of := ⟨C_Build, f_Build_all_of, _, PySem.W.mg_of X G cA_Build, ⟨cP_Build, cH_Build, cO_Build, cS_Build⟩, ⟨fa_Build_all_of, fi_Build_all_of, fk_Build_all_of⟩, (funA_mk fl_Build_all_of fc_Build_all_of fk_Build_all_of), ((fun_mk fl_Build_all_of fc_Build_all_of fk_Build_all_of).binds (ps := ["self", "literals"]) fun _ _ _ _ _ _ us hl => match us, hl with | [_, _], _ => rfl)⟩
  r_Build_same := ⟨C_Build, f_Build_same, _, PySem.W.mg_of X G cA_Build, ⟨cP_Build, cH_Build, cO_Build, cS_Build⟩, ⟨fa_Build_same, fi_Build_same, fk_Build_same⟩, (funA_mk fl_Build_same fc_Build_same fk_Build_same), ((fun_mk fl_Build_same fc_Build_same fk_Build_same).binds (ps := ["self", "one", "other"]) fun _ _ _ _ _ _ us hl => match us, hl with | [_, _, _], _ => rfl)⟩
  r_Build_choose := ⟨C_Build, f_Build_choose, _, PySem.W.mg_of X G cA_Build, ⟨cP_Build, cH_Build, cO_Build, cS_Build⟩, ⟨fa_Build_choose, fi_Build_choose, fk_Build_choose⟩, (funA_mk fl_Build_choose fc_Build_choose fk_Build_choose), ((fun_mk fl_Build_choose fc_Build_choose fk_Build_choose).binds (ps := ["self", "c", "a", "b"]) fun _ _ _ _ _ _ us hl => match us, hl with | [_, _, _, _], _ => rfl)⟩
  r_Build_less := ⟨C_Build, f_Build_less, _, PySem.W.mg_of X G cA_Build, ⟨cP_Build, cH_Build, cO_Build, cS_Build⟩, ⟨fa_Build_less, fi_Build_less, fk_Build_less⟩, (funA_mk fl_Build_less fc_Build_less fk_Build_less), ((fun_mk fl_Build_less fc_Build_less fk_Build_less).binds (ps := ["self", "one", "other"]) fun _ _ _ _ _ _ us hl => match us, hl with | [_, _, _], _ => rfl)⟩
  r_Build_combine := ⟨C_Build, f_Build_combine, _, PySem.W.mg_of X G cA_Build, ⟨cP_Build, cH_Build, cO_Build, cS_Build⟩, ⟨fa_Build_combine, fi_Build_combine, fk_Build_combine⟩, (funA_mk fl_Build_combine fc_Build_combine fk_Build_combine), ((fun_mk fl_Build_combine fc_Build_combine fk_Build_combine).binds (ps := ["self", "kind", "one", "other"]) fun _ _ _ _ _ _ us hl => match us, hl with | [_, _, _, _], _ => rfl)⟩
  r_combined := ⟨f_combined, _, PySem.W.mg_of X G fa_combined, (funA_mk fl_combined fc_combined fk_combined), ((fun_mk fl_combined fc_combined fk_combined).binds (ps := ["net", "kind", "one", "other"]) fun _ _ _ _ _ _ us hl => match us, hl with | [_, _, _, _], _ => rfl)⟩
  r__law_both := ⟨f__law_both, _, PySem.W.mg_of X G fa__law_both, (funA_mk fl__law_both fc__law_both fk__law_both), ((fun_mk fl__law_both fc__law_both fk__law_both).binds (ps := ["net", "kind", "one", "other", "third"]) fun _ _ _ _ _ _ us hl => match us, hl with | [_, _, _, _, _], _ => rfl)⟩
  r_cone_of := ⟨f_cone_of, _, PySem.W.mg_of X G fa_cone_of, (funA_mk fl_cone_of fc_cone_of fk_cone_of), ((fun_mk fl_cone_of fc_cone_of fk_cone_of).binds (ps := ["net", "word"]) fun _ _ _ _ _ _ us hl => match us, hl with | [_, _], _ => rfl)⟩
  r_value_of := ⟨f_value_of, _, PySem.W.mg_of X G fa_value_of, (funA_mk fl_value_of fc_value_of fk_value_of), ((fun_mk fl_value_of fc_value_of fk_value_of).binds (ps := ["values", "literal"]) fun _ _ _ _ _ _ us hl => match us, hl with | [_, _], _ => rfl)⟩
  r_values_of := ⟨f_values_of, _, PySem.W.mg_of X G fa_values_of, (funA_mk fl_values_of fc_values_of fk_values_of), ((fun_mk fl_values_of fc_values_of fk_values_of).binds (ps := ["net", "bits"]) fun _ _ _ _ _ _ us hl => match us, hl with | [_, _], _ => rfl)⟩
  r_number_of := ⟨f_number_of, _, PySem.W.mg_of X G fa_number_of, (funA_mk fl_number_of fc_number_of fk_number_of), ((fun_mk fl_number_of fc_number_of fk_number_of).binds (ps := ["values", "word"]) fun _ _ _ _ _ _ us hl => match us, hl with | [_, _], _ => rfl)⟩
  r_agree := ⟨f_agree, _, PySem.W.mg_of X G fa_agree, (funA_mk fl_agree fc_agree fk_agree), ((fun_mk fl_agree fc_agree fk_agree).binds (ps := ["net", "one", "other"]) fun _ _ _ _ _ _ us hl => match us, hl with | [_, _, _], _ => rfl)⟩
  r_are_bits := ⟨f_are_bits, _, PySem.W.mg_of X G fa_are_bits, (funA_mk fl_are_bits fc_are_bits fk_are_bits), ((fun_mk fl_are_bits fc_are_bits fk_are_bits).binds (ps := ["net", "bits"]) fun _ _ _ _ _ _ us hl => match us, hl with | [_, _], _ => rfl)⟩
  r_check_bits := ⟨f_check_bits, _, PySem.W.mg_of X G fa_check_bits, (funA_mk fl_check_bits fc_check_bits fk_check_bits), ((fun_mk fl_check_bits fc_check_bits fk_check_bits).binds (ps := ["net", "bits"]) fun _ _ _ _ _ _ us hl => match us, hl with | [_, _], _ => rfl)⟩
  r_word_number := ⟨f_word_number, _, PySem.W.mg_of X G fa_word_number, (funA_mk fl_word_number fc_word_number fk_word_number), ((fun_mk fl_word_number fc_word_number fk_word_number).binds (ps := ["net", "bits", "word"]) fun _ _ _ _ _ _ us hl => match us, hl with | [_, _, _], _ => rfl)⟩
  r__law_sets := ⟨f__law_sets, _, PySem.W.mg_of X G fa__law_sets, (funA_mk fl__law_sets fc__law_sets fk__law_sets), ((fun_mk fl__law_sets fc__law_sets fk__law_sets).binds (ps := ["size"]) fun _ _ _ _ _ _ us hl => match us, hl with | [_], _ => rfl)⟩
  r__law_join := ⟨f__law_join, _, PySem.W.mg_of X G fa__law_join, (funA_mk fl__law_join fc__law_join fk__law_join), ((fun_mk fl__law_join fc__law_join fk__law_join).binds (ps := ["op", "w", "one", "other"]) fun _ _ _ _ _ _ us hl => match us, hl with | [_, _, _, _], _ => rfl)⟩
  r_cone := ⟨f_cone, _, PySem.W.mg_of X G fa_cone, (funA_mk fl_cone fc_cone fk_cone), ((fun_mk fl_cone fc_cone fk_cone).binds (ps := ["net", "word"]) fun _ _ _ _ _ _ us hl => match us, hl with | [_, _], _ => rfl)⟩
  r_opposite_word := ⟨f_opposite_word, _, PySem.W.mg_of X G fa_opposite_word, (funA_mk fl_opposite_word fc_opposite_word fk_opposite_word), ((fun_mk fl_opposite_word fc_opposite_word fk_opposite_word).binds (ps := ["word"]) fun _ _ _ _ _ _ us hl => match us, hl with | [_], _ => rfl)⟩
  r__law_sums_hold := ⟨f__law_sums_hold, _, PySem.W.mg_of X G fa__law_sums_hold, (funA_mk fl__law_sums_hold fc__law_sums_hold fk__law_sums_hold), ((fun_mk fl__law_sums_hold fc__law_sums_hold fk__law_sums_hold).binds (ps := ["net", "x", "y", "z"]) fun _ _ _ _ _ _ us hl => match us, hl with | [_, _, _, _], _ => rfl)⟩
  r_Build_pick := ⟨C_Build, f_Build_pick, _, PySem.W.mg_of X G cA_Build, ⟨cP_Build, cH_Build, cO_Build, cS_Build⟩, ⟨fa_Build_pick, fi_Build_pick, fk_Build_pick⟩, (funA_mk fl_Build_pick fc_Build_pick fk_Build_pick), ((fun_mk fl_Build_pick fc_Build_pick fk_Build_pick).binds (ps := ["self", "c", "one", "other"]) fun _ _ _ _ _ _ us hl => match us, hl with | [_, _, _, _], _ => rfl)⟩
  r_picked := ⟨f_picked, _, PySem.W.mg_of X G fa_picked, (funA_mk fl_picked fc_picked fk_picked), ((fun_mk fl_picked fc_picked fk_picked).binds (ps := ["net", "c", "one", "other"]) fun _ _ _ _ _ _ us hl => match us, hl with | [_, _, _, _], _ => rfl)⟩
  r_node_values := ⟨f_node_values, _, PySem.W.mg_of X G fa_node_values, (funA_mk fl_node_values fc_node_values fk_node_values), ((fun_mk fl_node_values fc_node_values fk_node_values).binds (ps := ["net", "bits"]) fun _ _ _ _ _ _ us hl => match us, hl with | [_, _], _ => rfl)⟩
  r__law_picks_hold := ⟨f__law_picks_hold, _, PySem.W.mg_of X G fa__law_picks_hold, (funA_mk fl__law_picks_hold fc__law_picks_hold fk__law_picks_hold), ((fun_mk fl__law_picks_hold fc__law_picks_hold fk__law_picks_hold).binds (ps := ["draws", "net", "kind", "words", "bits"]) fun _ _ _ _ _ _ us hl => match us, hl with | [_, _, _, _, _], _ => rfl)⟩
  r__law_main := ⟨f__law_main, _, PySem.W.mg_of X G fa__law_main, (funA_mk fl__law_main fc__law_main fk__law_main), ((fun_mk fl__law_main fc__law_main fk__law_main).binds (ps := ["script"]) fun _ _ _ _ _ _ us hl => match us, hl with | [_], _ => rfl)⟩
  r_law := ⟨f_law, _, PySem.W.mg_of X G fa_law, (funA_mk fl_law fc_law fk_law), fun _ _ => .of_eq rfl⟩
theorem walk (hm : ∀ ns : List Int, ns.length ≤ 63 → F_law [.k (.list (ns.map PyData.int))] [] = .ok (.d (.bool true)) []) {l : PySem.W.OpenLaw} {q : Program} {loose : List Str} {XP : (Str → Option Value) → Heap → Prop} {YP : World → Heap → Prop} {d : DefRec} {K : Params → PySem.W.Frag} (hn : l.most = some 63) (hdf : d.params.defaults = [])
    (hY : ∀ (w : World) (h : Heap), YP w h → (K w.params).In h) (hx : d.name = "law") (F : ∀ (w : World) (mg : Str → Option Value) (h : Heap), (K w.params).In h → h.Ns mainGlobals mg → Lk (K w.params) mg) :
    PySem.W.WalkO q loose XP YP l.row.toRowW d [] (fun f vs => PySem.call f vs) :=
  walk_end (k := 12) hn hdf ⟨rfl, by decide, by decide⟩ hY hx sc_law hm fun w mg h hK hG => ⟨(F w mg h hK hG).r_law, fun base => ok_law (F w mg h hK hG)⟩
end K42
open PySem PySem.W PyProof.Rows
set_option maxRecDepth 100000 in
set_option maxHeartbeats 0 in
theorem PySem.Challenge.cw_runsproven_k42_words_reckoned_in_any_ord_holds : PySem.Challenge.rw_runsproven_k42_words_reckoned_in_any_ord.Holds := by
  w_on; o_law; k_head; (case hw => w_witness2)
  k_fill
  refine K42.walk K42.law_true (l := PySem.Challenge.rw_runsproven_k42_words_reckoned_in_any_ord) rfl rfl (fun w h Y => PySem.W.kIn_of Y) rfl ?F
  case F =>
    intro w mg h KX G
    refine' K42.lk_mk KX G ?cA_Build ?cP_Build ?cH_Build ?cO_Build ?cS_Build ?cM_Build ?cK_Build ?fl_Build_free ?fl_Build_gates ?fl_Build_known ?bn_all ?bn_enumerate ?bn_int ?bn_len ?bn_max ?bn_min ?bn_range ?bn_sorted ?bn_sum ?bn_tuple ?bn_zip ?k_FALSE ?k_KINDS ?l_KINDS ?k_MOST_FREE ?k_MOST_GATES ?k_MOST_LOOKED ?k_MOST_WIDTH ?k_TRUE ?fa__law_number ?fl__law_number ?fc__law_number ?fk__law_number ?fa__law_draws ?fl__law_draws ?fc__law_draws ?fk__law_draws ?fa__law_next ?fl__law_next ?fc__law_next ?fk__law_next ?fa__law_more ?fl__law_more ?fc__law_more ?fk__law_more ?fa_number_word ?fl_number_word ?fc_number_word ?fk_number_word ?fa_is_net ?fl_is_net ?fc_is_net ?fk_is_net ?fa_check_net ?fl_check_net ?fc_check_net ?fk_check_net ?fa_is_literal ?fl_is_literal ?fc_is_literal ?fk_is_literal ?fa_check_literals ?fl_check_literals ?fc_check_literals ?fk_check_literals ?fa_Build_init ?fi_Build_init ?fl_Build_init ?fc_Build_init ?fk_Build_init ?fT_Build_init ?fa_opposite ?fl_opposite ?fc_opposite ?fk_opposite ?fa_Build_pair_of ?fi_Build_pair_of ?fl_Build_pair_of ?fc_Build_pair_of ?fk_Build_pair_of ?fa_Build_looked ?fi_Build_looked ?fl_Build_looked ?fc_Build_looked ?fk_Build_looked ?fa_Build_both ?fi_Build_both ?fg_Build_both ?ft_Build_both ?fn_Build_both ?fl_Build_both ?fc_Build_both ?fk_Build_both ?fa_Build_net ?fi_Build_net ?fl_Build_net ?fc_Build_net ?fk_Build_net ?fa_joined ?fl_joined ?fc_joined ?fk_joined ?fa_is_tidy ?fl_is_tidy ?fc_is_tidy ?fk_is_tidy ?fa__law_pick ?fl__law_pick ?fc__law_pick ?fk__law_pick ?fa_is_word ?fl_is_word ?fc_is_word ?fk_is_word ?fa_check_words ?fl_check_words ?fc_check_words ?fk_check_words ?fa_Build_either ?fi_Build_either ?fg_Build_either ?ft_Build_either ?fn_Build_either ?fl_Build_either ?fc_Build_either ?fk_Build_either ?fa_Build_differ ?fi_Build_differ ?fg_Build_differ ?ft_Build_differ ?fn_Build_differ ?fl_Build_differ ?fc_Build_differ ?fk_Build_differ ?fa_Build_add ?fi_Build_add ?fl_Build_add ?fc_Build_add ?fk_Build_add ?fa_Build_times ?fi_Build_times ?fl_Build_times ?fc_Build_times ?fk_Build_times ?fa_Build_all_of ?fi_Build_all_of ?fl_Build_all_of ?fc_Build_all_of ?fk_Build_all_of ?fa_Build_same ?fi_Build_same ?fl_Build_same ?fc_Build_same ?fk_Build_same ?fa_Build_choose ?fi_Build_choose ?fl_Build_choose ?fc_Build_choose ?fk_Build_choose ?fa_Build_less ?fi_Build_less ?fl_Build_less ?fc_Build_less ?fk_Build_less ?fa_Build_combine ?fi_Build_combine ?fl_Build_combine ?fc_Build_combine ?fk_Build_combine ?fa_combined ?fl_combined ?fc_combined ?fk_combined ?fa__law_both ?fl__law_both ?fc__law_both ?fk__law_both ?fa_cone_of ?fl_cone_of ?fc_cone_of ?fk_cone_of ?fa_value_of ?fl_value_of ?fc_value_of ?fk_value_of ?fa_values_of ?fl_values_of ?fc_values_of ?fk_values_of ?fa_number_of ?fl_number_of ?fc_number_of ?fk_number_of ?fa_agree ?fl_agree ?fc_agree ?fk_agree ?fa_are_bits ?fl_are_bits ?fc_are_bits ?fk_are_bits ?fa_check_bits ?fl_check_bits ?fc_check_bits ?fk_check_bits ?fa_word_number ?fl_word_number ?fc_word_number ?fk_word_number ?fa__law_sets ?fl__law_sets ?fc__law_sets ?fk__law_sets ?fa__law_join ?fl__law_join ?fc__law_join ?fk__law_join ?fa_cone ?fl_cone ?fc_cone ?fk_cone ?fa_opposite_word ?fl_opposite_word ?fc_opposite_word ?fk_opposite_word ?fa__law_sums_hold ?fl__law_sums_hold ?fc__law_sums_hold ?fk__law_sums_hold ?fa_Build_pick ?fi_Build_pick ?fl_Build_pick ?fc_Build_pick ?fk_Build_pick ?fa_picked ?fl_picked ?fc_picked ?fk_picked ?fa_node_values ?fl_node_values ?fc_node_values ?fk_node_values ?fa__law_picks_hold ?fl__law_picks_hold ?fc__law_picks_hold ?fk__law_picks_hold ?fa__law_main ?fl__law_main ?fc__law_main ?fk__law_main ?fa_law ?fl_law ?fc_law ?fk_law
    (case cA_Build => k_is)
    (case cP_Build => k_is)
    (case cH_Build => k_is)
    (case cO_Build => k_is)
    (case cS_Build => k_is)
    (case cM_Build => k_is)
    (case cK_Build => k_is)
    (case fl_Build_free => k_is)
    (case fl_Build_gates => k_is)
    (case fl_Build_known => k_is)
    (case bn_all => k_is)
    (case bn_enumerate => k_is)
    (case bn_int => k_is)
    (case bn_len => k_is)
    (case bn_max => k_is)
    (case bn_min => k_is)
    (case bn_range => k_is)
    (case bn_sorted => k_is)
    (case bn_sum => k_is)
    (case bn_tuple => k_is)
    (case bn_zip => k_is)
    (case k_FALSE => k_is)
    (case k_KINDS => k_is)
    (case l_KINDS => k_is)
    (case k_MOST_FREE => k_is)
    (case k_MOST_GATES => k_is)
    (case k_MOST_LOOKED => k_is)
    (case k_MOST_WIDTH => k_is)
    (case k_TRUE => k_is)
    (case fa__law_number => k_is)
    (case fl__law_number => k_is)
    (case fc__law_number => k_is)
    (case fk__law_number => k_is)
    (case fa__law_draws => k_is)
    (case fl__law_draws => k_is)
    (case fc__law_draws => k_is)
    (case fk__law_draws => k_is)
    (case fa__law_next => k_is)
    (case fl__law_next => k_is)
    (case fc__law_next => k_is)
    (case fk__law_next => k_is)
    (case fa__law_more => k_is)
    (case fl__law_more => k_is)
    (case fc__law_more => k_is)
    (case fk__law_more => k_is)
    (case fa_number_word => k_is)
    (case fl_number_word => k_is)
    (case fc_number_word => k_is)
    (case fk_number_word => k_is)
    (case fa_is_net => k_is)
    (case fl_is_net => k_is)
    (case fc_is_net => k_is)
    (case fk_is_net => k_is)
    (case fa_check_net => k_is)
    (case fl_check_net => k_is)
    (case fc_check_net => k_is)
    (case fk_check_net => k_is)
    (case fa_is_literal => k_is)
    (case fl_is_literal => k_is)
    (case fc_is_literal => k_is)
    (case fk_is_literal => k_is)
    (case fa_check_literals => k_is)
    (case fl_check_literals => k_is)
    (case fc_check_literals => k_is)
    (case fk_check_literals => k_is)
    (case fa_Build_init => k_is)
    (case fi_Build_init => k_is)
    (case fl_Build_init => k_is)
    (case fc_Build_init => k_is)
    (case fk_Build_init => k_is)
    (case fT_Build_init => k_is)
    (case fa_opposite => k_is)
    (case fl_opposite => k_is)
    (case fc_opposite => k_is)
    (case fk_opposite => k_is)
    (case fa_Build_pair_of => k_is)
    (case fi_Build_pair_of => k_is)
    (case fl_Build_pair_of => k_is)
    (case fc_Build_pair_of => k_is)
    (case fk_Build_pair_of => k_is)
    (case fa_Build_looked => k_is)
    (case fi_Build_looked => k_is)
    (case fl_Build_looked => k_is)
    (case fc_Build_looked => k_is)
    (case fk_Build_looked => k_is)
    (case fa_Build_both => k_is)
    (case fi_Build_both => k_is)
    (case fg_Build_both => k_is)
    (case ft_Build_both => k_is)
    (case fn_Build_both => k_is)
    (case fl_Build_both => k_is)
    (case fc_Build_both => k_is)
    (case fk_Build_both => k_is)
    (case fa_Build_net => k_is)
    (case fi_Build_net => k_is)
    (case fl_Build_net => k_is)
    (case fc_Build_net => k_is)
    (case fk_Build_net => k_is)
    (case fa_joined => k_is)
    (case fl_joined => k_is)
    (case fc_joined => k_is)
    (case fk_joined => k_is)
    (case fa_is_tidy => k_is)
    (case fl_is_tidy => k_is)
    (case fc_is_tidy => k_is)
    (case fk_is_tidy => k_is)
    (case fa__law_pick => k_is)
    (case fl__law_pick => k_is)
    (case fc__law_pick => k_is)
    (case fk__law_pick => k_is)
    (case fa_is_word => k_is)
    (case fl_is_word => k_is)
    (case fc_is_word => k_is)
    (case fk_is_word => k_is)
    (case fa_check_words => k_is)
    (case fl_check_words => k_is)
    (case fc_check_words => k_is)
    (case fk_check_words => k_is)
    (case fa_Build_either => k_is)
    (case fi_Build_either => k_is)
    (case fg_Build_either => k_is)
    (case ft_Build_either => k_is)
    (case fn_Build_either => k_is)
    (case fl_Build_either => k_is)
    (case fc_Build_either => k_is)
    (case fk_Build_either => k_is)
    (case fa_Build_differ => k_is)
    (case fi_Build_differ => k_is)
    (case fg_Build_differ => k_is)
    (case ft_Build_differ => k_is)
    (case fn_Build_differ => k_is)
    (case fl_Build_differ => k_is)
    (case fc_Build_differ => k_is)
    (case fk_Build_differ => k_is)
    (case fa_Build_add => k_is)
    (case fi_Build_add => k_is)
    (case fl_Build_add => k_is)
    (case fc_Build_add => k_is)
    (case fk_Build_add => k_is)
    (case fa_Build_times => k_is)
    (case fi_Build_times => k_is)
    (case fl_Build_times => k_is)
    (case fc_Build_times => k_is)
    (case fk_Build_times => k_is)
    (case fa_Build_all_of => k_is)
    (case fi_Build_all_of => k_is)
    (case fl_Build_all_of => k_is)
    (case fc_Build_all_of => k_is)
    (case fk_Build_all_of => k_is)
    (case fa_Build_same => k_is)
    (case fi_Build_same => k_is)
    (case fl_Build_same => k_is)
    (case fc_Build_same => k_is)
    (case fk_Build_same => k_is)
    (case fa_Build_choose => k_is)
    (case fi_Build_choose => k_is)
    (case fl_Build_choose => k_is)
    (case fc_Build_choose => k_is)
    (case fk_Build_choose => k_is)
    (case fa_Build_less => k_is)
    (case fi_Build_less => k_is)
    (case fl_Build_less => k_is)
    (case fc_Build_less => k_is)
    (case fk_Build_less => k_is)
    (case fa_Build_combine => k_is)
    (case fi_Build_combine => k_is)
    (case fl_Build_combine => k_is)
    (case fc_Build_combine => k_is)
    (case fk_Build_combine => k_is)
    (case fa_combined => k_is)
    (case fl_combined => k_is)
    (case fc_combined => k_is)
    (case fk_combined => k_is)
    (case fa__law_both => k_is)
    (case fl__law_both => k_is)
    (case fc__law_both => k_is)
    (case fk__law_both => k_is)
    (case fa_cone_of => k_is)
    (case fl_cone_of => k_is)
    (case fc_cone_of => k_is)
    (case fk_cone_of => k_is)
    (case fa_value_of => k_is)
    (case fl_value_of => k_is)
    (case fc_value_of => k_is)
    (case fk_value_of => k_is)
    (case fa_values_of => k_is)
    (case fl_values_of => k_is)
    (case fc_values_of => k_is)
    (case fk_values_of => k_is)
    (case fa_number_of => k_is)
    (case fl_number_of => k_is)
    (case fc_number_of => k_is)
    (case fk_number_of => k_is)
    (case fa_agree => k_is)
    (case fl_agree => k_is)
    (case fc_agree => k_is)
    (case fk_agree => k_is)
    (case fa_are_bits => k_is)
    (case fl_are_bits => k_is)
    (case fc_are_bits => k_is)
    (case fk_are_bits => k_is)
    (case fa_check_bits => k_is)
    (case fl_check_bits => k_is)
    (case fc_check_bits => k_is)
    (case fk_check_bits => k_is)
    (case fa_word_number => k_is)
    (case fl_word_number => k_is)
    (case fc_word_number => k_is)
    (case fk_word_number => k_is)
    (case fa__law_sets => k_is)
    (case fl__law_sets => k_is)
    (case fc__law_sets => k_is)
    (case fk__law_sets => k_is)
    (case fa__law_join => k_is)
    (case fl__law_join => k_is)
    (case fc__law_join => k_is)
    (case fk__law_join => k_is)
    (case fa_cone => k_is)
    (case fl_cone => k_is)
    (case fc_cone => k_is)
    (case fk_cone => k_is)
    (case fa_opposite_word => k_is)
    (case fl_opposite_word => k_is)
    (case fc_opposite_word => k_is)
    (case fk_opposite_word => k_is)
    (case fa__law_sums_hold => k_is)
    (case fl__law_sums_hold => k_is)
    (case fc__law_sums_hold => k_is)
    (case fk__law_sums_hold => k_is)
    (case fa_Build_pick => k_is)
    (case fi_Build_pick => k_is)
    (case fl_Build_pick => k_is)
    (case fc_Build_pick => k_is)
    (case fk_Build_pick => k_is)
    (case fa_picked => k_is)
    (case fl_picked => k_is)
    (case fc_picked => k_is)
    (case fk_picked => k_is)
    (case fa_node_values => k_is)
    (case fl_node_values => k_is)
    (case fc_node_values => k_is)
    (case fk_node_values => k_is)
    (case fa__law_picks_hold => k_is)
    (case fl__law_picks_hold => k_is)
    (case fc__law_picks_hold => k_is)
    (case fk__law_picks_hold => k_is)
    (case fa__law_main => k_is)
    (case fl__law_main => k_is)
    (case fc__law_main => k_is)
    (case fk__law_main => k_is)
    (case fa_law => k_is)
    (case fl_law => k_is)
    (case fc_law => k_is)
    (case fk_law => k_is)
