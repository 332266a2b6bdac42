import PyProof.Rows.All
import HandS.ForMost
import HandS.TupLe
import HandS.TupAny
import HandS.Strs
import HandS.Deep
import HandS.IsInst
import HandS.Iter
import HandS.SortInts
import HandS.Conv
import HandS.Defaults
import HandS.Head0
import HandS.Head1
import HandS.Head2
import HandS.HeadEnd
import HandS.HeadHook1
import HandS.HeadHook2
import HandS.Gcd
import HandS.SetFor
import HandS.Zip
import HandS.Dict
import HandS.SetBool
import HandS.Head3
import HandS.TupSets
import PySem.Challenge.RW_squarewords_k59_two_lines_solved
set_option Elab.async false
set_option linter.all false
set_option maxRecDepth 100000
set_option maxHeartbeats 4000000
/-! VL0: value trees, the nondeterminism monad, what stands for a tree in the heap -/
namespace VL
open PySem PySem.Spec PyProof.Rows L2

inductive Tr where
  | non | bl (b : Bool) | int (i : Int) | str (x : Str) | ls (xs : List Tr) | tp (xs : List Tr)

inductive M (α : Type) where
  | ret (a : α) | bad | exc (c : Nat) (t : Tr) | draw (n : Int) (k : Int → M α)

namespace M
def bind {α β : Type} : M α → (α → M β) → M β
  | ret a, f => f a
  | bad, _ => bad
  | exc c t, _ => exc c t
  | draw n k, f => draw n fun r => (k r).bind f
def noExc {α : Type} : M α → M α
  | ret a => ret a
  | bad => bad
  | exc _ _ => bad
  | draw n k => draw n fun r => (k r).noExc
def ofOpt {α : Type} : Option α → M α
  | some a => ret a
  | none => bad
end M
/-- every way ends well -/
def good {α : Type} (E : Nat → Tr → Prop) : M α → (α → Prop) → Prop
  | .ret a, Q => Q a
  | .bad, _ => False
  | .exc c t, _ => E c t
  | .draw n k, Q => 0 < n ∧ ∀ r, 0 ≤ r → r < n → good E (k r) Q
theorem good_bind {α β : Type} {E : Nat → Tr → Prop} {f : α → M β} {Q : β → Prop} : ∀ {m : M α}, good E (m.bind f) Q ↔ good E m fun a => good E (f a) Q
  | .ret _ => Iff.rfl
  | .bad => Iff.rfl
  | .exc _ _ => Iff.rfl
  | .draw n k => by
    show (0 < n ∧ ∀ r, 0 ≤ r → r < n → good E ((k r).bind f) Q) ↔ (0 < n ∧ ∀ r, 0 ≤ r → r < n → good E (k r) fun a => good E (f a) Q)
    constructor
    · rintro ⟨h0, h⟩
      exact ⟨h0, fun r h1 h2 => good_bind.mp (h r h1 h2)⟩
    · rintro ⟨h0, h⟩
      exact ⟨h0, fun r h1 h2 => good_bind.mpr (h r h1 h2)⟩
theorem good_mono {α : Type} {E E' : Nat → Tr → Prop} {Q Q' : α → Prop} (hE : ∀ c t, E c t → E' c t) (hQ : ∀ a, Q a → Q' a) : ∀ {m : M α}, good E m Q → good E' m Q'
  | .ret a, h => hQ a h
  | .bad, h => h
  | .exc c t, h => hE c t h
  | .draw n k, h => ⟨h.1, fun r h1 h2 => good_mono hE hQ (h.2 r h1 h2)⟩
theorem good_imp {α : Type} {E : Nat → Tr → Prop} {Q Q' : α → Prop} {m : M α} (h : good E m Q) (hQ : ∀ a, Q a → Q' a) : good E m Q' := good_mono (fun _ _ x => x) hQ h
theorem good_noExc {α : Type} {E : Nat → Tr → Prop} {Q : α → Prop} : ∀ {m : M α}, good E m.noExc Q → good (fun _ _ => False) m Q
  | .ret _, h => h
  | .bad, h => h
  | .exc _ _, h => h
  | .draw n k, h => ⟨h.1, fun r h1 h2 => good_noExc (h.2 r h1 h2)⟩
theorem good_opt {α : Type} {E : Nat → Tr → Prop} {Q : α → Prop} {o : Option α} (h : good E (M.ofOpt o) Q) : ∃ a, o = some a ∧ Q a := by
  cases o with
  | none => exact h.elim
  | some a => exact ⟨a, rfl, h⟩

/-! ### footprints: the list nodes of a tree by depth -/
abbrev FP := List (Nat × Addr)
def up (F : FP) : FP := F.map fun p => (p.1 + 1, p.2)
def ads (F : FP) : List Addr := F.map (·.2)
theorem up_append (F G : FP) : up (F ++ G) = up F ++ up G := List.map_append
theorem ads_append (F G : FP) : ads (F ++ G) = ads F ++ ads G := List.map_append
theorem ads_up (F : FP) : ads (up F) = ads F := by simp [ads, up, Function.comp_def]
theorem mem_up {F : FP} {d : Nat} {a : Addr} : (d, a) ∈ up F ↔ ∃ d', d = d' + 1 ∧ (d', a) ∈ F := by
  simp only [up, List.mem_map, Prod.exists, Prod.mk.injEq]
  constructor
  · rintro ⟨d', a', h, rfl, rfl⟩
    exact ⟨d', rfl, h⟩
  · rintro ⟨d', rfl, h⟩
    exact ⟨d', a, h, rfl, rfl⟩
theorem mem_ads {F : FP} {a : Addr} : a ∈ ads F ↔ ∃ d, (d, a) ∈ F := by
  simp [ads]

mutual
/-- v stands for t; F: its list nodes that may be changed by someone -/
def Rep (K : PySem.W.Frag) (H : Hp) (fd : List Addr) : Tr → V → FP → Prop
  | .non, v, F => v = .non ∧ F = []
  | .bl b, v, F => v = .bl b ∧ F = []
  | .int i, v, F => v = .int i ∧ F = []
  | .str x, v, F => v = .str x ∧ x.length ≤ sizeLine ∧ F = [] ∧ PyData.strOk x = true
  | .ls ts, v, F => ∃ a xs G, v = .ref a ∧ RepL K H fd ts xs G ∧ xs.length ≤ sizeLine ∧ H a = some (.lst xs) ∧ a ∉ fd ∧ F = (0, a) :: up G
  | .tp ts, v, F => ∃ a xs G, v = .ref a ∧ RepL K H fd ts xs G ∧ xs.length ≤ sizeLine ∧ SqT K H a xs ∧ a ∉ fd ∧ F = up G
def RepL (K : PySem.W.Frag) (H : Hp) (fd : List Addr) : List Tr → List V → FP → Prop
  | [], xs, F => xs = [] ∧ F = []
  | t :: ts, xs, F => ∃ x ys G1 G2, xs = x :: ys ∧ Rep K H fd t x G1 ∧ RepL K H fd ts ys G2 ∧ F = G1 ++ G2
end

section
variable {K : PySem.W.Frag} {H H' : Hp} {fd : List Addr}
theorem RepL.length : ∀ {ts : List Tr} {xs : List V} {F : FP}, RepL K H fd ts xs F → ts.length = xs.length
  | [], _, _, ⟨h, _⟩ => by rw [h]; rfl
  | _ :: ts, _, _, ⟨x, ys, G1, G2, h, _, h2, _⟩ => by rw [h, List.length_cons, List.length_cons, RepL.length h2]

mutual
/-- the nodes stand in the heap as lists -/
theorem Rep.node : ∀ {t : Tr} {v : V} {F : FP}, Rep K H fd t v F → ∀ {d a}, (d, a) ∈ F → (∃ xs, H a = some (.lst xs)) ∧ a ∉ fd
  | .non, _, _, h, d, a, m => by rw [h.2] at m; cases m
  | .bl _, _, _, h, d, a, m => by rw [h.2] at m; cases m
  | .int _, _, _, h, d, a, m => by rw [h.2] at m; cases m
  | .str _, _, _, h, d, a, m => by rw [h.2.2.1] at m; cases m
  | .ls ts, _, _, h, d, a, m => by
    obtain ⟨b, xs, G, _, hl, _, h⟩ := h
    rw [h.2.2] at m
    rcases List.mem_cons.mp m with e | m
    · cases e; exact ⟨⟨xs, h.1⟩, h.2.1⟩
    · obtain ⟨d', _, m⟩ := mem_up.mp m
      exact RepL.node hl m
  | .tp ts, _, _, h, d, a, m => by
    obtain ⟨b, xs, G, _, hl, _, _, _, h⟩ := h
    rw [h] at m
    obtain ⟨d', _, m⟩ := mem_up.mp m
    exact RepL.node hl m
theorem RepL.node : ∀ {ts : List Tr} {xs : List V} {F : FP}, RepL K H fd ts xs F → ∀ {d a}, (d, a) ∈ F → (∃ xs, H a = some (.lst xs)) ∧ a ∉ fd
  | [], _, _, h, d, a, m => by rw [h.2] at m; cases m
  | t :: ts, _, _, h, d, a, m => by
    obtain ⟨x, ys, G1, G2, _, h1, h2, e⟩ := h
    rw [e] at m
    rcases List.mem_append.mp m with m | m
    · exact Rep.node h1 m
    · exact RepL.node h2 m
end

/-- what is there stays, but for the objects fd -/
def ExtF (fd : List Addr) (H H' : Hp) : Prop := ∀ b o, H b = some o → b ∉ fd → H' b = some o
theorem ExtF.refl : ExtF fd H H := fun _ _ h _ => h
theorem ExtF.trans {H1 H2 H3 : Hp} (a : ExtF fd H1 H2) (b : ExtF fd H2 H3) : ExtF fd H1 H3 := fun c o h n => b c o (a c o h n) n
theorem ExtF.new {p : Addr} {o : HO} (h : H p = none) : ExtF fd H (upd H p o) := fun b u e _ => by
  rw [upd_ne (ne_of_none e h)]; exact e

/-- what a tree leans on stays -/
structure Keeps (fd : List Addr) (F : FP) (H H' : Hp) : Prop where
  nodes : ∀ d a, (d, a) ∈ F → H' a = H a
  tups : ∀ a xs, H a = some (.tup xs) → H' a = some (.tup xs)
  frzs : ∀ a o u, H a = some (.frz o u) → H' a = some (.frz o u)
  tups' : ∀ a o xs, H a = some (.frz o (.tup xs)) → H' a = some (.frz o (.tup xs))
theorem Keeps.sub {F F' : FP} (k : Keeps fd F H H') (h : ∀ p ∈ F', p ∈ F) : Keeps fd F' H H' := ⟨fun d a m => k.nodes d a (h _ m), k.tups, k.frzs, k.tups'⟩
theorem SqT.keeps {F : FP} {a : Addr} {xs : List V} (k : Keeps fd F H H') (h : SqT K H a xs) : SqT K H' a xs := by
  rcases h with (h | ⟨o, h⟩) | h
  · exact .inl (.inl (k.tups _ _ h))
  · exact .inl (.inr ⟨o, k.tups' _ _ _ h⟩)
  · exact .inr h
theorem Keeps.up {F : FP} (k : Keeps fd (up F) H H') : Keeps fd F H H' := ⟨fun d a m => k.nodes (d + 1) a (mem_up.mpr ⟨d, rfl, m⟩), k.tups, k.frzs, k.tups'⟩
mutual
theorem Rep.keeps : ∀ {t : Tr} {v : V} {F : FP}, Rep K H fd t v F → Keeps fd F H H' → Rep K H' fd t v F
  | .non, _, _, h, _ => h
  | .bl _, _, _, h, _ => h
  | .int _, _, _, h, _ => h
  | .str _, _, _, h, _ => h
  | .ls ts, _, _, h, k => by
    obtain ⟨a, xs, G, hv, hl, hz, h1, h2, rfl⟩ := h
    exact ⟨a, xs, G, hv, RepL.keeps hl (k.sub fun p hp => List.mem_cons_of_mem _ hp).up, hz, (k.nodes 0 a List.mem_cons_self).trans h1, h2, rfl⟩
  | .tp ts, _, _, h, k => by
    obtain ⟨a, xs, G, hv, hl, hz, h1, h2, rfl⟩ := h
    exact ⟨a, xs, G, hv, RepL.keeps hl k.up, hz, SqT.keeps k h1, h2, rfl⟩
theorem RepL.keeps : ∀ {ts : List Tr} {xs : List V} {F : FP}, RepL K H fd ts xs F → Keeps fd F H H' → RepL K H' fd ts xs F
  | [], _, _, h, _ => h
  | t :: ts, _, _, h, k => by
    obtain ⟨x, ys, G1, G2, e, h1, h2, rfl⟩ := h
    exact ⟨x, ys, G1, G2, e, Rep.keeps h1 (k.sub fun p hp => List.mem_append_left _ hp), RepL.keeps h2 (k.sub fun p hp => List.mem_append_right _ hp), rfl⟩
end
/-- the feed: an object of four, and the list of the script's ints -/
def FeedOk (fd : List Addr) (H : Hp) : Prop := fd = [] ∨ ∃ (a s : Addr) (ns : List Int) (p c x : Int), fd = [a, s] ∧ a ≠ s ∧ H a = some (.lst [.ref s, .int p, .int c, .int x]) ∧ H s = some (.lst (ns.map V.int)) ∧ ns.length ≤ 63 ∧ 0 ≤ p ∧ p ≤ 63 ∧ 0 ≤ c ∧ 0 ≤ x ∧ x < 2147483647
theorem FeedOk.lst (h : FeedOk fd H) {a : Addr} (m : a ∈ fd) : ∃ xs, H a = some (.lst xs) := by
  rcases h with rfl | ⟨a', s, ns, p, c, x, rfl, _, h1, h2, _⟩
  · cases m
  · rcases List.mem_cons.mp m with rfl | m
    · exact ⟨_, h1⟩
    · rcases List.mem_cons.mp m with rfl | m
      · exact ⟨_, h2⟩
      · cases m
theorem ExtF.keeps {t : Tr} {v : V} {F : FP} (x : ExtF fd H H') (f : FeedOk fd H) (r : Rep K H fd t v F) : Keeps fd F H H' := by
  have nl : ∀ {a o}, H a = some o → (∀ xs, o ≠ .lst xs) → a ∉ fd := fun {a o} h n m => by
    obtain ⟨xs, e⟩ := f.lst m
    rw [h] at e
    exact n xs (Option.some.inj e)
  refine ⟨fun d a m => ?_, fun a xs h => x a _ h (nl h fun _ e => by cases e), fun a o u h => x a _ h (nl h fun _ e => by cases e), fun a o xs h => x a _ h (nl h fun _ e => by cases e)⟩
  obtain ⟨⟨xs, h⟩, n⟩ := r.node m
  rw [x a _ h n, h]
theorem Rep.ext {t : Tr} {v : V} {F : FP} (r : Rep K H fd t v F) (x : ExtF fd H H') (f : FeedOk fd H) : Rep K H' fd t v F := r.keeps (x.keeps f r)
theorem Keeps.upd {F : FP} {p : Addr} {xs ys : List V} (h : H p = some (.lst xs)) (n : p ∉ ads F) : Keeps fd F H (upd H p (.lst ys)) :=
  ⟨fun d a m => upd_ne fun e => n (by rw [← e]; exact mem_ads.mpr ⟨d, m⟩), fun a xs e => by rw [upd_ne (fun z => by subst z; rw [h] at e; cases e)]; exact e,
   fun a o u e => by rw [upd_ne (fun z => by subst z; rw [h] at e; cases e)]; exact e, fun a o u e => by rw [upd_ne (fun z => by subst z; rw [h] at e; cases e)]; exact e⟩
theorem Keeps.new {F : FP} {p : Addr} {o : HO} (h : H p = none) {t : Tr} {v : V} (r : Rep K H fd t v F) : Keeps fd F H (L2.upd H p o) :=
  ⟨fun d a m => by
    obtain ⟨⟨xs, e⟩, _⟩ := r.node m
    rw [upd_ne (ne_of_none e h)], fun a xs e => by rw [upd_ne (ne_of_none e h)]; exact e,
   fun a o u e => by rw [upd_ne (ne_of_none e h)]; exact e, fun a o u e => by rw [upd_ne (ne_of_none e h)]; exact e⟩
theorem Rep.fresh {t : Tr} {v : V} {F : FP} (r : Rep K H fd t v F) {a : Addr} (h : H a = none) : a ∉ ads F := fun m => by
  obtain ⟨d, m⟩ := mem_ads.mp m
  obtain ⟨⟨xs, e⟩, _⟩ := r.node m
  rw [h] at e; cases e
theorem RepL.fresh {ts : List Tr} {xs : List V} {F : FP} (r : RepL K H fd ts xs F) {a : Addr} (h : H a = none) : a ∉ ads F := fun m => by
  obtain ⟨d, m⟩ := mem_ads.mp m
  obtain ⟨⟨xs, e⟩, _⟩ := r.node m
  rw [h] at e; cases e
end

/-! ### flat trees: no lists within -/
mutual
def Tr.flat : Tr → Bool
  | .ls _ => false
  | .tp ts => flatL ts
  | _ => true
def flatL : List Tr → Bool
  | [] => true
  | t :: ts => t.flat && flatL ts
end
section
variable {K : PySem.W.Frag} {H H' : Hp} {fd : List Addr}
mutual
theorem Rep.flat : ∀ {t : Tr} {v : V} {F : FP}, Rep K H fd t v F → t.flat = true → F = []
  | .non, _, _, h, _ => h.2
  | .bl _, _, _, h, _ => h.2
  | .int _, _, _, h, _ => h.2
  | .str _, _, _, h, _ => h.2.2.1
  | .ls _, _, _, _, f => by simp [Tr.flat] at f
  | .tp ts, _, _, h, f => by
    obtain ⟨a, xs, G, _, hl, _, _, _, rfl⟩ := h
    rw [RepL.flat hl (by simpa [Tr.flat] using f)]
    rfl
theorem RepL.flat : ∀ {ts : List Tr} {xs : List V} {F : FP}, RepL K H fd ts xs F → flatL ts = true → F = []
  | [], _, _, h, _ => h.2
  | t :: ts, _, _, h, f => by
    obtain ⟨x, ys, G1, G2, _, h1, h2, rfl⟩ := h
    simp only [flatL, Bool.and_eq_true] at f
    rw [Rep.flat h1 f.1, RepL.flat h2 f.2]
    rfl
end
end
end VL

set_option Elab.async false
set_option linter.all false
set_option maxRecDepth 100000
set_option maxHeartbeats 4000000
/-! VL1: frames of value trees; expressions -/
namespace VL
open PySem PySem.Spec PyProof.Rows L2

/-- a slot: dead, a value with its level, the feed -/
inductive Sl where
  | no | v (t : Tr) (k : Nat) | feed
abbrev En := List Sl
def owns (d k : Nat) : Prop := d < k ∨ 99 ≤ k
theorem owns_mono {d k k' : Nat} (h : owns d k) (l : k ≤ k') : owns d k' := by
  rcases h with h | h
  · exact .inl (by omega)
  · exact .inr (by omega)
theorem owns_zero {d : Nat} : ¬ owns d 0 := by
  rintro (h | h) <;> omega
def lv0 (t : Tr) : Nat := if t.flat then 99 else 0
abbrev Tmp := Tr × V × FP
/-- the frame: the heap at its entry H0, the feed's objects fd, the nodes of the arguments B -/
structure Rel (K : PySem.W.Frag) (H0 : Hp) (fd B : List Addr) (ρ : En) (σ : L2.St) (H : Hp) (ψ : List FP) (Y : List Tmp) : Prop where
  lns : σ.length = ρ.length
  lnp : ψ.length = ρ.length
  rep : ∀ (i : Nat) (t : Tr) (k : Nat), ρ[i]? = some (.v t k) → ∃ v F, σ[i]? = some (some v) ∧ ψ[i]? = some F ∧ Rep K H fd t v F
  dead : ∀ (i : Nat), ρ[i]? = some .no → ψ[i]? = some []
  fed : ∀ (i : Nat), ρ[i]? = some .feed → ψ[i]? = some [] ∧ ∃ a s, fd = [a, s] ∧ σ[i]? = some (some (.ref a))
  tmp : ∀ y ∈ Y, Rep K H fd y.1 y.2.1 y.2.2
  own : ∀ (i : Nat) (t : Tr) (k : Nat) (F : FP) (d : Nat) (a : Addr), ρ[i]? = some (.v t k) → ψ[i]? = some F → (d, a) ∈ F → owns d k → H0 a = none ∧ (∀ (j : Nat) (G : FP), j ≠ i → ψ[j]? = some G → a ∉ ads G) ∧ (∀ y ∈ Y, a ∉ ads y.2.2) ∧ (ads F).count a ≤ 1
  dom : ∀ a, ((∃ F, F ∈ ψ ∧ a ∈ ads F) ∨ (∃ y, y ∈ Y ∧ a ∈ ads y.2.2)) → H0 a = none ∨ a ∈ B
  ext : ExtF fd H0 H
  fok : FeedOk fd H

section
variable {K : PySem.W.Frag} {H0 H H' : Hp} {fd B : List Addr} {ρ : En} {σ : L2.St} {ψ : List FP} {Y : List Tmp}
theorem Rel.ps (R : Rel K H0 fd B ρ σ H ψ Y) {i : Nat} {F : FP} (h : ψ[i]? = some F) : F = [] ∨ ∃ t k v, ρ[i]? = some (.v t k) ∧ σ[i]? = some (some v) ∧ Rep K H fd t v F := by
  have hl : i < ρ.length := by rw [← R.lnp]; exact (List.getElem?_eq_some_iff.mp h).1
  cases e : ρ[i]? with
  | none => rw [List.getElem?_eq_none_iff] at e; omega
  | some o =>
    cases o with
    | no =>
      have := R.dead i e
      rw [h] at this; exact .inl (Option.some.inj this)
    | feed =>
      have := (R.fed i e).1
      rw [h] at this; exact .inl (Option.some.inj this)
    | v t k =>
      obtain ⟨v, F', h1, h2, h3⟩ := R.rep i t k e
      rw [h] at h2; cases h2
      exact .inr ⟨t, k, v, rfl, h1, h3⟩
theorem Rel.nodeψ (R : Rel K H0 fd B ρ σ H ψ Y) {i : Nat} {F : FP} (h : ψ[i]? = some F) {a : Addr} (m : a ∈ ads F) : (∃ xs, H a = some (.lst xs)) ∧ a ∉ fd := by
  obtain ⟨d, m⟩ := mem_ads.mp m
  rcases R.ps h with rfl | ⟨t, k, v, _, _, r⟩
  · cases m
  · exact r.node m
theorem Rel.nodeY (R : Rel K H0 fd B ρ σ H ψ Y) {y : Tmp} (h : y ∈ Y) {a : Addr} (m : a ∈ ads y.2.2) : (∃ xs, H a = some (.lst xs)) ∧ a ∉ fd := by
  obtain ⟨d, m⟩ := mem_ads.mp m
  exact (R.tmp y h).node m
theorem Rel.none0 (R : Rel K H0 fd B ρ σ H ψ Y) {a : Addr} (h : H a = none) (n : a ∉ fd) : H0 a = none := by
  cases e : H0 a with
  | none => rfl
  | some o => rw [R.ext a o e n] at h; cases h
/-- the heap grows -/
theorem Rel.grow (R : Rel K H0 fd B ρ σ H ψ Y) (x : ExtF fd H H') (f : FeedOk fd H') : Rel K H0 fd B ρ σ H' ψ Y where
  lns := R.lns
  lnp := R.lnp
  rep := fun i t k h => by
    obtain ⟨v, F, h1, h2, h3⟩ := R.rep i t k h
    exact ⟨v, F, h1, h2, h3.ext x R.fok⟩
  dead := R.dead
  fed := R.fed
  tmp := fun y h => (R.tmp y h).ext x R.fok
  own := R.own
  dom := R.dom
  ext := R.ext.trans x
  fok := f
/-- a temporary that comes beside -/
theorem Rel.pop {y : Tmp} (R : Rel K H0 fd B ρ σ H ψ (y :: Y)) : Rel K H0 fd B ρ σ H ψ Y where
  lns := R.lns
  lnp := R.lnp
  rep := R.rep
  dead := R.dead
  fed := R.fed
  tmp := fun z h => R.tmp z (List.mem_cons_of_mem _ h)
  own := fun i t k F d a h1 h2 h3 h4 => by
    obtain ⟨p, q, r, s⟩ := R.own i t k F d a h1 h2 h3 h4
    exact ⟨p, q, fun z hz => r z (List.mem_cons_of_mem _ hz), s⟩
  dom := fun a h => R.dom a (h.imp id fun ⟨z, hz, m⟩ => ⟨z, List.mem_cons_of_mem _ hz, m⟩)
  ext := R.ext
  fok := R.fok
end

/-! ### what an expression hands back -/
abbrev RD := List (Nat × Nat)
structure Res (K : PySem.W.Frag) (fd : List Addr) (ψ : List FP) (rd : RD) (H : Hp) (r : Tr × Nat) (v : V) (H' : Hp) (F : FP) : Prop where
  ext : ExtF fd H H'
  fok : FeedOk fd H'
  rep : Rep K H' fd r.1 v F
  own : ∀ d a, (d, a) ∈ F → owns d r.2 → H a = none ∧ (ads F).count a ≤ 1
  al : ∀ d a, (d, a) ∈ F → H a = none ∨ ∃ (j m d' : Nat) (G : FP), (j, m) ∈ rd ∧ ψ[j]? = some G ∧ (d', a) ∈ G ∧ m ≤ d'
abbrev Ex := En → M (Tr × Nat)
/-- what is wanted of exceptions -/
abbrev WH := Hp → List Addr → Nat → Tr → Prop
def TEv (K : PySem.W.Frag) (W : WH) (s : Ex) (rd : RD) : TE := fun σ H Q => ∃ H0 fd B ρ ψ Y, Rel K H0 fd B ρ σ H ψ Y ∧ good (W H0 fd) (s ρ) fun r => ∀ v H' F, Res K fd ψ rd H r v H' F → Q v H'
abbrev VE (X : Cx) (W : WH) (e : Expr) (s : Ex) (rd : RD) : Prop := PE X e (TEv X.K W s rd)
theorem pe_imp {X : Cx} {e : Expr} {t t' : TE} (h : PE X e t) (i : ∀ σ H Q, t' σ H Q → t σ H Q) : PE X e t' := ⟨fun pins s σ H Q I q => h.run pins s σ H Q I (i σ H Q q)⟩
theorem pt_imp {X : Cx} {e : Expr} {t t' : TT} (h : PT X e t) (i : ∀ σ H Q, t' σ H Q → t σ H Q) : PT X e t' := ⟨fun pins s σ H Q I q => h.run pins s σ H Q I (i σ H Q q)⟩
theorem ps_imp {X : Cx} {e : Stmt} {t t' : TS} (h : PS X e t) (i : ∀ D σ H, t' D σ H → t D σ H) : PS X e t' := ⟨fun pins s σ H D I q => h.run pins s σ H D I (i D σ H q)⟩
theorem pss_imp {X : Cx} {e : List Stmt} {t t' : TS} (h : PSs X e t) (i : ∀ D σ H, t' D σ H → t D σ H) : PSs X e t' := ⟨fun pins s σ H D I q => h.run pins s σ H D I (i D σ H q)⟩
theorem pa_imp {X : Cx} {e : List Expr} {t t' : TA} (h : PA X e t) (i : ∀ σ H Q, t' σ H Q → t σ H Q) : PA X e t' := ⟨fun pos pins s σ H Q I q => h.run pos pins s σ H Q I (i σ H Q q)⟩

section
variable {X : Cx} {W : WH}
/-! ### scalars -/
def sv : Tr → V
  | .non => .non
  | .bl b => .bl b
  | .int i => .int i
  | .str x => .str x
  | _ => .non
def isSc : Tr → Bool
  | .non => true
  | .bl _ => true
  | .int _ => true
  | .str x => Nat.ble x.length 16777216 && PyData.strOk x
  | _ => false
theorem line_eq {n : Nat} (h : Nat.ble n 16777216 = true) : n ≤ sizeLine := by rw [sizeLine_eq]; exact Nat.le_of_ble_eq_true h
theorem Rep.sc {K : PySem.W.Frag} {H : Hp} {fd : List Addr} : ∀ {t : Tr}, isSc t = true → Rep K H fd t (sv t) []
  | .non, _ => ⟨rfl, rfl⟩
  | .bl _, _ => ⟨rfl, rfl⟩
  | .int _, _ => ⟨rfl, rfl⟩
  | .str x, h => ⟨rfl, line_eq (Bool.and_eq_true_iff.mp h).1, rfl, (Bool.and_eq_true_iff.mp h).2⟩
  | .ls _, h => by cases h
  | .tp _, h => by cases h
theorem Res.sc {K : PySem.W.Frag} {fd : List Addr} {ψ : List FP} {rd : RD} {H H' : Hp} {t : Tr} {k : Nat} (h : isSc t = true) (x : ExtF fd H H') (f : FeedOk fd H') : Res K fd ψ rd H (t, k) (sv t) H' [] :=
  ⟨x, f, Rep.sc h, fun _ _ m => (nomatch m), fun _ _ m => (nomatch m)⟩
theorem rep_int {K : PySem.W.Frag} {H : Hp} {fd : List Addr} {i : Int} {v : V} {F : FP} (h : Rep K H fd (.int i) v F) : v = .int i := h.1
theorem rep_bl {K : PySem.W.Frag} {H : Hp} {fd : List Addr} {i : Bool} {v : V} {F : FP} (h : Rep K H fd (.bl i) v F) : v = .bl i := h.1
theorem rep_str {K : PySem.W.Frag} {H : Hp} {fd : List Addr} {i : Str} {v : V} {F : FP} (h : Rep K H fd (.str i) v F) : v = .str i := h.1
theorem rep_non {K : PySem.W.Frag} {H : Hp} {fd : List Addr} {v : V} {F : FP} (h : Rep K H fd .non v F) : v = .non := h.1

/-! ### names, constants -/
def eVar (i : Nat) : Ex := fun ρ => match ρ[i]? with
  | some (.v t _) => .ret (t, lv0 t)
  | _ => .bad
def eC (t : Tr) : Ex := fun _ => .ret (t, 99)
theorem ve_var {i : Nat} {x : Str} {pos : Pos} (h : PE X (.Name x pos) (tVar i)) : VE X W (.Name x pos) (eVar i) [(i, 0)] := by
  refine pe_imp h fun σ H Q q => ?_
  obtain ⟨H0, fd, B, ρ, ψ, Y, R, g⟩ := q
  unfold eVar at g
  cases e : ρ[i]? with
  | none => rw [e] at g; exact g.elim
  | some o =>
    cases o with
    | no => rw [e] at g; exact g.elim
    | feed => rw [e] at g; exact g.elim
    | v t k =>
      rw [e] at g
      obtain ⟨v, F, h1, h2, h3⟩ := R.rep i t k e
      refine ⟨v, h1, g v H F ⟨.refl, R.fok, h3, fun d a m o => ?_, fun d a m => .inr ⟨i, 0, d, F, by simp, h2, m, Nat.zero_le _⟩⟩⟩
      have o : owns d (lv0 t) := o
      unfold lv0 at o
      by_cases f : t.flat = true
      · rw [h3.flat f] at m; cases m
      · rw [if_neg f] at o
        exact absurd o owns_zero
theorem ve_const {e : Expr} {t : Tr} (h : PE X e (tC (sv t))) (s : isSc t = true := by rfl) : VE X W e (eC t) [] := by
  refine pe_imp h fun σ H Q q => ?_
  obtain ⟨H0, fd, B, ρ, ψ, Y, R, g⟩ := q
  exact g _ H [] (.sc s .refl R.fok)

/-! ### two in a row -/
/-- what two values are, behind both -/
structure Two (K : PySem.W.Frag) (fd : List Addr) (ψ : List FP) (rd1 rd2 : RD) (H H2 : Hp) (r1 r2 : Tr × Nat) (x y : V) (F1 F2 : FP) : Prop where
  ext : ExtF fd H H2
  fok : FeedOk fd H2
  rep1 : Rep K H2 fd r1.1 x F1
  rep2 : Rep K H2 fd r2.1 y F2
  own1 : ∀ d a, (d, a) ∈ F1 → owns d r1.2 → H a = none ∧ (ads F1).count a ≤ 1
  own2 : ∀ d a, (d, a) ∈ F2 → owns d r2.2 → H a = none ∧ (ads F2).count a ≤ 1 ∧ a ∉ ads F1
  al1 : ∀ d a, (d, a) ∈ F1 → H a = none ∨ ∃ (j m d' : Nat) (G : FP), (j, m) ∈ rd1 ∧ ψ[j]? = some G ∧ (d', a) ∈ G ∧ m ≤ d'
  al2 : ∀ d a, (d, a) ∈ F2 → H a = none ∨ ∃ (j m d' : Nat) (G : FP), (j, m) ∈ rd2 ∧ ψ[j]? = some G ∧ (d', a) ∈ G ∧ m ≤ d'
theorem ext_none {fd : List Addr} {H H' : Hp} {a : Addr} (x : ExtF fd H H') (n : a ∉ fd) (h : H' a = none) : H a = none := by
  cases e : H a with
  | none => rfl
  | some o => rw [x a o e n] at h; cases h
theorem Two.of {K : PySem.W.Frag} {fd : List Addr} {ψ : List FP} {rd1 rd2 : RD} {H H1 H2 : Hp} {r1 r2 : Tr × Nat} {x y : V} {F1 F2 : FP} (f : FeedOk fd H) (a : Res K fd ψ rd1 H r1 x H1 F1) (b : Res K fd ψ rd2 H1 r2 y H2 F2) : Two K fd ψ rd1 rd2 H H2 r1 r2 x y F1 F2 where
  ext := a.ext.trans b.ext
  fok := b.fok
  rep1 := a.rep.ext b.ext a.fok
  rep2 := b.rep
  own1 := a.own
  own2 := fun d c m o => by
    obtain ⟨h1, h2⟩ := b.own d c m o
    exact ⟨ext_none a.ext (b.rep.node m).2 h1, h2, a.rep.fresh h1⟩
  al1 := a.al
  al2 := fun d c m => by
    rcases b.al d c m with h | h
    · exact .inl (ext_none a.ext (b.rep.node m).2 h)
    · exact .inr h
/-- the composition of two expressions, for rules -/
theorem two_run {s1 s2 : Ex} {rd1 rd2 : RD} {σ : L2.St} {H : Hp} {H0 : Hp} {fd B : List Addr} {ρ : En} {ψ : List FP} {Y : List Tmp} {f : Tr × Nat → Tr × Nat → M (Tr × Nat)} {P : Tr × Nat → Prop} {R2 : V → V → Hp → Prop} {K : PySem.W.Frag} (R : Rel K H0 fd B ρ σ H ψ Y)
    (g : good (W H0 fd) ((s1 ρ).bind fun a => (s2 ρ).bind fun b => f a b) P)
    (k : ∀ r1 r2 x y H2 F1 F2, Two K fd ψ rd1 rd2 H H2 r1 r2 x y F1 F2 → Rel K H0 fd B ρ σ H2 ψ Y → good (W H0 fd) (f r1 r2) P → R2 x y H2) :
    TEv K W s1 rd1 σ H fun x H1 => TEv K W s2 rd2 σ H1 fun y H2 => R2 x y H2 := by
  rw [good_bind] at g
  refine ⟨H0, fd, B, ρ, ψ, Y, R, good_imp g fun r1 g1 x H1 F1 a => ?_⟩
  rw [good_bind] at g1
  exact ⟨H0, fd, B, ρ, ψ, Y, R.grow a.ext a.fok, good_imp g1 fun r2 g2 y H2 F2 b => k r1 r2 x y H2 F1 F2 (Two.of R.fok a b) (R.grow (a.ext.trans b.ext) b.fok) g2⟩
end
end VL

set_option Elab.async false
set_option linter.all false
set_option maxRecDepth 100000
set_option maxHeartbeats 4000000
/-! VL2: operators, comparisons, tests -/
namespace VL
open PySem PySem.Spec PyProof.Rows L2
section
variable {X : Cx} {W : WH}
/-! ### binary operators -/
def eBin (f : Tr → Tr → Option Tr) (a b : Ex) : Ex := fun ρ => (a ρ).bind fun x => (b ρ).bind fun y => match f x.1 y.1 with
  | some z => .ret (z, 99)
  | none => .bad
def OpS (X : Cx) (g : Value → Value → Sem Value) (f : Tr → Tr → Option Tr) : Prop := ∃ r : R2, OpR X g r ∧ ∀ (H : Hp) (fd : List Addr) (tx ty z : Tr) (x y : V) (F1 F2 : FP) (Q : VK),
  Rep X.K H fd tx x F1 → Rep X.K H fd ty y F2 → f tx ty = some z → isSc z = true ∧ (Q (sv z) H → r x y H Q)
theorem bin_tail {f : Tr → Tr → Option Tr} {tx ty : Tr} {E : Nat → Tr → Prop} {P : Tr × Nat → Prop} (g : good E (match f tx ty with | some z => M.ret (z, 99) | none => M.bad) P) : ∃ z, f tx ty = some z ∧ P (z, 99) := by
  cases e : f tx ty with
  | none => rw [e] at g; exact g.elim
  | some z => rw [e] at g; exact ⟨z, rfl, g⟩
theorem te_bin {g : Value → Value → Sem Value} {f : Tr → Tr → Option Tr} {r : R2} {s1 s2 : Ex} {rd1 rd2 : RD} {σ : L2.St} {H : Hp} {Q : VK}
    (h : ∀ (H : Hp) (fd : List Addr) (tx ty z : Tr) (x y : V) (F1 F2 : FP) (Q : VK), Rep X.K H fd tx x F1 → Rep X.K H fd ty y F2 → f tx ty = some z → isSc z = true ∧ (Q (sv z) H → r x y H Q))
    (q : TEv X.K W (eBin f s1 s2) [] σ H Q) : tOp r (TEv X.K W s1 rd1) (TEv X.K W s2 rd2) σ H Q := by
  obtain ⟨H0, fd, B, ρ, ψ, Y, R, g⟩ := q
  refine two_run R g fun r1 r2 x y H2 F1 F2 T R2 g2 => ?_
  obtain ⟨z, e, p⟩ := bin_tail g2
  obtain ⟨hs, k⟩ := h H2 fd r1.1 r2.1 z x y F1 F2 Q T.rep1 T.rep2 e
  exact k (p (sv z) H2 [] (.sc hs T.ext T.fok))
theorem ve_bin {op : Operator} {f : Tr → Tr → Option Tr} {a b : Expr} {s1 s2 : Ex} {rd1 rd2 : RD} {pos : Pos} (ho : OpS X (binaryOp op) f) (ha : VE X W a s1 rd1) (hb : VE X W b s2 rd2) : VE X W (.BinOp a op b pos) (eBin f s1 s2) [] := by
  obtain ⟨r, hr, h⟩ := ho
  exact pe_imp (pe_op hr ha hb) fun σ H Q q => te_bin (g := binaryOp op) h q

def small (i : Int) : Bool := decide (-18446744073709551616 < i) && decide (i < 18446744073709551616)
theorem small_ok {i : Int} (h : small i = true) : -(2 ^ 64) < i ∧ i < 2 ^ 64 := by
  obtain ⟨h1, h2⟩ := Bool.and_eq_true_iff.mp h
  exact ⟨of_decide_eq_true h1, of_decide_eq_true h2⟩
def oSub : Tr → Tr → Option Tr
  | .int i, .int j => some (.int (i - j))
  | _, _ => none
def oMul : Tr → Tr → Option Tr
  | .int i, .int j => if small i || small j then some (.int (i * j)) else none
  | _, _ => none
def oFdv : Tr → Tr → Option Tr
  | .int i, .int j => if decide (0 < j) && decide (j < 1073741824) then some (.int (i / j)) else none
  | _, _ => none
def oMod : Tr → Tr → Option Tr
  | .int i, .int j => if decide (0 < j) then some (.int (i % j)) else none
  | _, _ => none
def oPow : Tr → Tr → Option Tr
  | .int i, .int j => if decide (0 ≤ j) && decide (j ≤ 1000000) && Nat.ble (i.natAbs + 1) 18446744073709551616 then some (.int (i ^ j.toNat)) else none
  | _, _ => none
def oXor : Tr → Tr → Option Tr
  | .int i, .int j => some (.int (Builtin.bitXor i j))
  | _, _ => none
theorem os_sub : OpS X (binaryOp .Sub) oSub := ⟨_, op_sub, fun H fd tx ty z x y F1 F2 Q h1 h2 e => by
  unfold oSub at e
  split at e
  · cases e; obtain rfl := rep_int h1; obtain rfl := rep_int h2
    exact ⟨rfl, fun q => ⟨_, _, rfl, rfl, q⟩⟩
  · cases e⟩
theorem os_mul : OpS X (binaryOp .Mult) oMul := ⟨_, op_mul, fun H fd tx ty z x y F1 F2 Q h1 h2 e => by
  unfold oMul at e
  split at e
  · split at e
    · rename_i c
      cases e; obtain rfl := rep_int h1; obtain rfl := rep_int h2
      refine ⟨rfl, fun q => ⟨_, _, rfl, rfl, ?_, q⟩⟩
      rcases Bool.or_eq_true_iff.mp c with c | c
      · exact .inl (small_ok c)
      · exact .inr (small_ok c)
    · cases e
  · cases e⟩
theorem os_fdv : OpS X (binaryOp .FloorDiv) oFdv := ⟨_, op_fdiv, fun H fd tx ty z x y F1 F2 Q h1 h2 e => by
  unfold oFdv at e
  split at e
  · split at e
    · rename_i c
      cases e; obtain rfl := rep_int h1; obtain rfl := rep_int h2
      obtain ⟨c1, c2⟩ := Bool.and_eq_true_iff.mp c
      exact ⟨rfl, fun q => ⟨_, _, rfl, rfl, ⟨of_decide_eq_true c1, of_decide_eq_true c2⟩, q⟩⟩
    · cases e
  · cases e⟩
theorem os_mod : OpS X (binaryOp .Mod) oMod := ⟨_, op_mod, fun H fd tx ty z x y F1 F2 Q h1 h2 e => by
  unfold oMod at e
  split at e
  · split at e
    · rename_i c
      cases e; obtain rfl := rep_int h1; obtain rfl := rep_int h2
      exact ⟨rfl, fun q => ⟨_, _, rfl, rfl, of_decide_eq_true c, q⟩⟩
    · cases e
  · cases e⟩
theorem os_pow : OpS X (binaryOp .Pow) oPow := ⟨_, op_pow, fun H fd tx ty z x y F1 F2 Q h1 h2 e => by
  unfold oPow at e
  split at e
  · split at e
    · rename_i c
      cases e; obtain rfl := rep_int h1; obtain rfl := rep_int h2
      obtain ⟨c, c3⟩ := Bool.and_eq_true_iff.mp c
      obtain ⟨c1, c2⟩ := Bool.and_eq_true_iff.mp c
      exact ⟨rfl, fun q => ⟨_, _, rfl, rfl, ⟨of_decide_eq_true c1, of_decide_eq_true c2, Nat.le_of_ble_eq_true c3⟩, q⟩⟩
    · cases e
  · cases e⟩
theorem os_xor : OpS X (binaryOp .BitXor) oXor := ⟨_, op_xor, fun H fd tx ty z x y F1 F2 Q h1 h2 e => by
  unfold oXor at e
  split at e
  · cases e; obtain rfl := rep_int h1; obtain rfl := rep_int h2
    exact ⟨rfl, fun q => ⟨_, _, rfl, rfl, q⟩⟩
  · cases e⟩
/-! ### unary -/
def eNeg (a : Ex) : Ex := fun ρ => (a ρ).bind fun x => match x.1 with
  | .int i => .ret (.int (-i), 99)
  | _ => .bad
theorem ve_neg {a : Expr} {s : Ex} {rd : RD} {pos : Pos} (ha : VE X W a s rd) : VE X W (.UnaryOp .USub a pos) (eNeg s) [] := by
  refine pe_imp (pe_un un_neg ha) fun σ H Q q => ?_
  obtain ⟨H0, fd, B, ρ, ψ, Y, R, g⟩ := q
  unfold eNeg at g
  rw [good_bind] at g
  refine ⟨H0, fd, B, ρ, ψ, Y, R, good_imp g fun r g1 x H1 F1 a => ?_⟩
  obtain ⟨t, k⟩ := r
  cases t <;> first | exact g1.elim | skip
  obtain rfl := rep_int a.rep
  exact ⟨_, rfl, g1 _ H1 [] (.sc rfl a.ext a.fok)⟩

/-! ### equality of trees -/
def dataOf : Tr → PyData
  | .non => .none
  | .bl b => .bool b
  | .int i => .int i
  | .str x => .str x
  | .ls xs => .list (go xs)
  | .tp xs => .tuple (go xs)
where go : List Tr → List PyData
  | [] => []
  | t :: ts => dataOf t :: go ts
/-- the depth is at most n -/
def dpF : Nat → Tr → Bool
  | 0, .ls _ => false
  | 0, .tp _ => false
  | n + 1, .ls ts => ts.all (dpF n)
  | n + 1, .tp ts => ts.all (dpF n)
  | _, _ => true
def eqAllF (e : Tr → Tr → Bool) : List Tr → List Tr → Bool
  | [], [] => true
  | x :: xs, y :: ys => e x y && eqAllF e xs ys
  | _, _ => false
def eqF : Nat → Tr → Tr → Bool
  | _, .non, .non => true
  | _, .bl a, .bl b => a == b
  | _, .bl a, .int j => (if a then 1 else 0) == j
  | _, .int i, .bl b => i == (if b then 1 else 0)
  | _, .int i, .int j => decide (i = j)
  | _, .str x, .str y => x == y
  | n + 1, .ls xs, .ls ys => eqAllF (eqF n) xs ys
  | n + 1, .tp xs, .tp ys => eqAllF (eqF n) xs ys
  | _, _, _ => false
theorem eqAllF_go {n : Nat} {e : Tr → Tr → Bool} : ∀ {xs ys : List Tr}, (∀ x ∈ xs, ∀ y, e x y = PyData.eqv (dataOf x) (dataOf y)) → eqAllF e xs ys = PyData.eqvAll (dataOf.go xs) (dataOf.go ys)
  | [], [], _ => by simp [eqAllF, dataOf.go, PyData.eqvAll]
  | [], _ :: _, _ => by simp [eqAllF, dataOf.go, PyData.eqvAll]
  | _ :: _, [], _ => by simp [eqAllF, dataOf.go, PyData.eqvAll]
  | x :: xs, y :: ys, h => by
    simp only [eqAllF, dataOf.go, PyData.eqvAll]
    rw [h x List.mem_cons_self y, eqAllF_go (n := n) (ys := ys) fun z hz => h z (List.mem_cons_of_mem _ hz)]
theorem eqF_data : ∀ (n : Nat) (a b : Tr), dpF n a = true → eqF n a b = PyData.eqv (dataOf a) (dataOf b) := by
  intro n
  induction n with
  | zero => intro a b h; cases a <;> cases b <;> first | (exfalso; simp [dpF] at h; done) | (simp [eqF, dataOf, PyData.eqv]; done) | (simp only [eqF, dataOf, PyData.eqv, Bool.beq_eq_decide_eq]; done) | (simp [eqF, dataOf, PyData.eqv, beq_eq_decide])
  | succ n ih =>
    intro a b h
    cases a <;> cases b <;> first
      | (simp [eqF, dataOf, PyData.eqv]; done)
      | (simp [eqF, dataOf, PyData.eqv, beq_eq_decide]; done)
      | (simp only [eqF, dataOf, PyData.eqv, Bool.beq_eq_decide_eq]; done)
      | (simp only [eqF, dataOf, PyData.eqv]
         simp only [dpF, List.all_eq_true] at h
         exact eqAllF_go (n := n) fun x hx y => ih x y (h x hx))
theorem go_depth {n : Nat} : ∀ {ts : List Tr}, (∀ t ∈ ts, (dataOf t).depth ≤ n) → PyData.depthAll (dataOf.go ts) ≤ n
  | [], _ => Nat.zero_le _
  | t :: ts, h => by
    simp only [dataOf.go, PyData.depthAll]
    exact Nat.max_le.mpr ⟨h t List.mem_cons_self, go_depth fun z hz => h z (List.mem_cons_of_mem _ hz)⟩
theorem dpF_depth : ∀ (n : Nat) (a : Tr), dpF n a = true → (dataOf a).depth ≤ n := by
  intro n
  induction n with
  | zero => intro a h; cases a <;> first | (exfalso; simp [dpF] at h; done) | simp [dataOf, PyData.depth]
  | succ n ih =>
    intro a h
    cases a <;> first
      | (simp [dataOf, PyData.depth]; done)
      | (simp only [dpF, List.all_eq_true] at h
         simp only [dataOf, PyData.depth]
         exact Nat.succ_le_succ (go_depth fun t ht => ih t (h t ht)))
mutual
theorem Rep.lay {K : PySem.W.Frag} {H : Hp} {fd : List Addr} : ∀ {t : Tr} {v : V} {F : FP}, Rep K H fd t v F → (dataOf t).canLay0 = true
  | .non, _, _, _ => by simp [dataOf, PyData.canLay0]
  | .bl _, _, _, _ => by simp [dataOf, PyData.canLay0]
  | .int _, _, _, _ => by simp [dataOf, PyData.canLay0]
  | .str x, _, _, h => by simpa [dataOf, PyData.canLay0] using h.2.2.2
  | .ls ts, _, _, h => by
    obtain ⟨a, xs, G, _, hl, _⟩ := h
    simpa [dataOf, PyData.canLay0] using RepL.lay hl
  | .tp ts, _, _, h => by
    obtain ⟨a, xs, G, _, hl, _⟩ := h
    simpa [dataOf, PyData.canLay0] using RepL.lay hl
theorem RepL.lay {K : PySem.W.Frag} {H : Hp} {fd : List Addr} : ∀ {ts : List Tr} {xs : List V} {F : FP}, RepL K H fd ts xs F → PyData.canLayAll0 (dataOf.go ts) = true
  | [], _, _, _ => by simp [dataOf.go, PyData.canLayAll0]
  | t :: ts, _, _, h => by
    obtain ⟨x, ys, G1, G2, _, h1, h2, _⟩ := h
    simp [dataOf.go, PyData.canLayAll0, Rep.lay h1, RepL.lay h2]
end
mutual
theorem Rep.dp {K : PySem.W.Frag} {H : Hp} {fd : List Addr} : ∀ {t : Tr} {v : V} {F : FP}, Rep K H fd t v F → Dp K H v (dataOf t)
  | .non, _, _, h => by rw [h.1]; exact .non
  | .bl _, _, _, h => by rw [h.1]; exact .bl _
  | .int _, _, _, h => by rw [h.1]; exact .int _
  | .str x, _, _, h => by rw [h.1]; exact .str _
  | .ls ts, _, _, h => by
    obtain ⟨a, xs, G, rfl, hl, _, e, _⟩ := h
    simp only [dataOf]
    exact .lst (SqL.of e) (RepL.dp hl)
  | .tp ts, _, _, h => by
    obtain ⟨a, xs, G, rfl, hl, _, e, _⟩ := h
    simp only [dataOf]
    exact .tup e (RepL.dp hl)
theorem RepL.dp {K : PySem.W.Frag} {H : Hp} {fd : List Addr} : ∀ {ts : List Tr} {xs : List V} {F : FP}, RepL K H fd ts xs F → DpAll K H xs (dataOf.go ts)
  | [], _, _, h => by rw [h.1]; exact .nil
  | t :: ts, _, _, h => by
    obtain ⟨x, ys, G1, G2, rfl, h1, h2, _⟩ := h
    simp only [dataOf.go]
    exact .cons (Rep.dp h1) (RepL.dp h2)
end
def rEqV (K : PySem.W.Frag) (neg : Bool) : R2 := fun x y H Q => ∃ d e, Dp K H x d ∧ Dp K H y e ∧ d.canLay0 = true ∧ e.canLay0 = true ∧ d.depth ≤ 64 ∧ Q (.bl (if neg then !PyData.eqv d e else PyData.eqv d e)) H
theorem op_eqV (hu : X.A.units + 64 < cLine) : OpR X (compareOp .Eq) (rEqV X.K false) := by
  intro pins s σ H x y v u Q I rx ry h
  obtain ⟨d, e, hd, he, sd, se, hz, q⟩ := h
  obtain ⟨as, r1⟩ := Dp.reads I d x v hd rx
  obtain ⟨bs, r2⟩ := Dp.reads I e y u he ry
  exact SeqAt.compareEq_reads r1 r2 sd se (by have := Nat.min_le_left d.depth e.depth; omega) ⟨.bl _, H, I, rfl, q⟩
theorem op_neV (hu : X.A.units + 64 < cLine) : OpR X (compareOp .NotEq) (rEqV X.K true) := by
  intro pins s σ H x y v u Q I rx ry h
  obtain ⟨d, e, hd, he, sd, se, hz, q⟩ := h
  obtain ⟨as, r1⟩ := Dp.reads I d x v hd rx
  obtain ⟨bs, r2⟩ := Dp.reads I e y u he ry
  exact SeqAt.compareNe_reads r1 r2 sd se (by have := Nat.min_le_left d.depth e.depth; omega) ⟨.bl _, H, I, rfl, q⟩
def oEq (a b : Tr) : Option Tr := if dpF 60 a then some (.bl (eqF 60 a b)) else none
def oNe (a b : Tr) : Option Tr := if dpF 60 a then some (.bl (!eqF 60 a b)) else none
theorem os_eq (hu : X.A.units + 64 < cLine) : OpS X (compareOp .Eq) oEq := ⟨_, op_eqV hu, fun H fd tx ty z x y F1 F2 Q h1 h2 e => by
  unfold oEq at e
  split at e
  · rename_i c
    cases e
    refine ⟨rfl, fun q => ⟨_, _, h1.dp, h2.dp, h1.lay, h2.lay, Nat.le_trans (dpF_depth _ _ c) (by decide), ?_⟩⟩
    rw [if_neg Bool.false_ne_true, ← eqF_data 60 tx ty c]; exact q
  · cases e⟩
theorem os_ne (hu : X.A.units + 64 < cLine) : OpS X (compareOp .NotEq) oNe := ⟨_, op_neV hu, fun H fd tx ty z x y F1 F2 Q h1 h2 e => by
  unfold oNe at e
  split at e
  · rename_i c
    cases e
    refine ⟨rfl, fun q => ⟨_, _, h1.dp, h2.dp, h1.lay, h2.lay, Nat.le_trans (dpF_depth _ _ c) (by decide), ?_⟩⟩
    rw [if_pos rfl, ← eqF_data 60 tx ty c]; exact q
  · cases e⟩
end
end VL

set_option Elab.async false
set_option linter.all false
set_option maxRecDepth 100000
set_option maxHeartbeats 4000000
/-! VL3: comparisons, tests -/
namespace VL
open PySem PySem.Spec PyProof.Rows L2
section
variable {X : Cx} {W : WH}
def oLt : Tr → Tr → Option Tr
  | .int i, .int j => some (.bl (decide (i < j)))
  | _, _ => none
def oLe : Tr → Tr → Option Tr
  | .int i, .int j => some (.bl (decide (i ≤ j)))
  | _, _ => none
def oGt : Tr → Tr → Option Tr
  | .int i, .int j => some (.bl (decide (j < i)))
  | _, _ => none
def oGe : Tr → Tr → Option Tr
  | .int i, .int j => some (.bl (decide (j ≤ i)))
  | _, _ => none
theorem os_lt : OpS X (compareOp .Lt) oLt := ⟨_, op_lt, fun H fd tx ty z x y F1 F2 Q h1 h2 e => by
  unfold oLt at e
  split at e
  · cases e; obtain rfl := rep_int h1; obtain rfl := rep_int h2
    exact ⟨rfl, fun q => ⟨_, _, rfl, rfl, q⟩⟩
  · cases e⟩
theorem os_le : OpS X (compareOp .LtE) oLe := ⟨_, op_le, fun H fd tx ty z x y F1 F2 Q h1 h2 e => by
  unfold oLe at e
  split at e
  · cases e; obtain rfl := rep_int h1; obtain rfl := rep_int h2
    exact ⟨rfl, fun q => ⟨_, _, rfl, rfl, q⟩⟩
  · cases e⟩
theorem os_gt : OpS X (compareOp .Gt) oGt := ⟨_, op_gt, fun H fd tx ty z x y F1 F2 Q h1 h2 e => by
  unfold oGt at e
  split at e
  · cases e; obtain rfl := rep_int h1; obtain rfl := rep_int h2
    exact ⟨rfl, fun q => ⟨_, _, rfl, rfl, q⟩⟩
  · cases e⟩
theorem os_ge : OpS X (compareOp .GtE) oGe := ⟨_, op_ge, fun H fd tx ty z x y F1 F2 Q h1 h2 e => by
  unfold oGe at e
  split at e
  · cases e; obtain rfl := rep_int h1; obtain rfl := rep_int h2
    exact ⟨rfl, fun q => ⟨_, _, rfl, rfl, q⟩⟩
  · cases e⟩
/-- is None, is not None -/
def oIsN : Tr → Tr → Option Tr
  | .non, .non => some (.bl true)
  | _, .non => some (.bl false)
  | .bl a, .bl b => some (.bl (a == b))
  | .int _, .bl _ => some (.bl false)
  | _, _ => none
def oNotN : Tr → Tr → Option Tr
  | .non, .non => some (.bl false)
  | _, .non => some (.bl true)
  | .bl a, .bl b => some (.bl (!(a == b)))
  | _, _ => none
theorem rep_not_non {K : PySem.W.Frag} {H : Hp} {fd : List Addr} {t : Tr} {v : V} {F : FP} (h : Rep K H fd t v F) (n : t ≠ .non) : decide (v = .non) = false := by
  cases t with
  | non => exact absurd rfl n
  | bl _ => rw [h.1]; rfl
  | int _ => rw [h.1]; rfl
  | str _ => rw [h.1]; rfl
  | ls _ => obtain ⟨a, xs, G, rfl, _⟩ := h; rfl
  | tp _ => obtain ⟨a, xs, G, rfl, _⟩ := h; rfl
theorem op_is_ib : OpR X (compareOp .Is) (fun x y H Q => ∃ a b, x = .int a ∧ y = .bl b ∧ Q (.bl false) H) := by
  intro pins s σ H x y v u Q I rx ry h
  obtain ⟨a, b, rfl, rfl, q⟩ := h
  obtain ⟨t, rfl⟩ := rx
  cases ry
  have e : compareOp .Is (.int a t) (.bool b) = pure (Value.bool false) := by
    first | rfl | (cases b <;> rfl)
  rw [e]
  exact wpAny_pure ⟨.bl false, H, I, rfl, q⟩
theorem os_isN : OpS X (compareOp .Is) oIsN := ⟨_, op_isN.or (op_is_bl.or op_is_ib), fun H fd tx ty z x y F1 F2 Q h1 h2 e => by
  unfold oIsN at e
  split at e
  · cases e; obtain rfl := rep_non h1; obtain rfl := rep_non h2
    exact ⟨rfl, fun q => .inl ⟨rfl, q⟩⟩
  · rename_i hn
    cases e; obtain rfl := rep_non h2
    refine ⟨rfl, fun q => .inl ⟨rfl, ?_⟩⟩
    rw [rep_not_non h1 (by intro z; first | exact hn z | exact hn z rfl | (subst z; exact hn rfl rfl))]; exact q
  · cases e; obtain rfl := rep_bl h1; obtain rfl := rep_bl h2
    refine ⟨rfl, fun q => .inr (.inl ⟨_, _, rfl, rfl, ?_⟩)⟩
    rw [← Bool.beq_eq_decide_eq]; exact q
  · cases e; obtain rfl := rep_int h1; obtain rfl := rep_bl h2
    exact ⟨rfl, fun q => .inr (.inr ⟨_, _, rfl, rfl, q⟩)⟩
  · cases e⟩
theorem os_notN : OpS X (compareOp .IsNot) oNotN := ⟨_, op_notN.or op_isnot_bl, fun H fd tx ty z x y F1 F2 Q h1 h2 e => by
  unfold oNotN at e
  split at e
  · cases e; obtain rfl := rep_non h1; obtain rfl := rep_non h2
    exact ⟨rfl, fun q => .inl ⟨rfl, q⟩⟩
  · rename_i hn
    cases e; obtain rfl := rep_non h2
    refine ⟨rfl, fun q => .inl ⟨rfl, ?_⟩⟩
    rw [rep_not_non h1 (by intro z; first | exact hn z | exact hn z rfl | (subst z; exact hn rfl rfl))]; exact q
  · cases e; obtain rfl := rep_bl h1; obtain rfl := rep_bl h2
    refine ⟨rfl, fun q => .inr ⟨_, _, rfl, rfl, ?_⟩⟩
    rw [← Bool.beq_eq_decide_eq]; exact q
  · cases e⟩
/-- x in a list (data of any depth) or a tuple (scalars) -/
def oIn : Tr → Tr → Option Tr
  | x, .ls ts => if dpF 50 x && ts.all (dpF 50) then some (.bl (ts.any fun z => eqF 50 z x)) else none
  | x, .tp ts => if isSc x && ts.all isSc then some (.bl (ts.any fun z => eqF 50 z x)) else none
  | _, _ => none
def oNotIn (x y : Tr) : Option Tr := match oIn x y with
  | some (.bl b) => some (.bl (!b))
  | _ => none
theorem go_any {f : Tr → Bool} {g : PyData → Bool} : ∀ {ts : List Tr}, (∀ t ∈ ts, f t = g (dataOf t)) → ts.any f = (dataOf.go ts).any g
  | [], _ => rfl
  | t :: ts, h => by
    simp only [dataOf.go, List.any_cons]
    rw [h t List.mem_cons_self, go_any fun z hz => h z (List.mem_cons_of_mem _ hz)]
theorem sh_of {K : PySem.W.Frag} {H : Hp} {fd : List Addr} {t : Tr} {v : V} {F : FP} {n : Nat} (h : Rep K H fd t v F) (d : dpF n t = true) (hn : n ≤ 64) : SeqAt.shaped (dataOf t) = true :=
  Bool.and_eq_true_iff.mpr ⟨h.lay, decide_eq_true (Nat.le_trans (dpF_depth _ _ d) hn)⟩
theorem in_ls {H : Hp} {fd : List Addr} {tx : Tr} {ts : List Tr} {x y : V} {F1 F2 : FP} (h1 : Rep X.K H fd tx x F1) (h2 : Rep X.K H fd (.ls ts) y F2) (c : (dpF 50 tx && ts.all (dpF 50)) = true) :
    ∃ d ds, Dp X.K H x d ∧ Dp X.K H y (.list ds) ∧ SeqAt.shaped d = true ∧ SeqAt.shaped (.list ds) = true ∧ (ts.any fun z => eqF 50 z tx) = ds.any fun z => PyData.eqv z d := by
  obtain ⟨c1, c2⟩ := Bool.and_eq_true_iff.mp c
  have hy := h2.dp
  simp only [dataOf] at hy
  have hs : SeqAt.shaped (dataOf (.ls ts)) = true := sh_of (n := 51) h2 (by simpa [dpF] using c2) (by decide)
  simp only [dataOf] at hs
  refine ⟨_, _, h1.dp, hy, sh_of h1 c1 (by decide), hs, go_any fun t ht => eqF_data 50 t tx (List.all_eq_true.mp c2 t ht)⟩
theorem RepL.flatV {K : PySem.W.Frag} {H : Hp} {fd : List Addr} : ∀ {ts : List Tr} {xs : List V} {F : FP}, RepL K H fd ts xs F → ts.all isSc = true → xs = ts.map sv ∧ xs.all L2.flatV = true
  | [], _, _, h, _ => by rw [h.1]; exact ⟨rfl, rfl⟩
  | t :: ts, _, _, h, c => by
    obtain ⟨x, ys, G1, G2, rfl, h1, h2, _⟩ := h
    rw [List.all_cons, Bool.and_eq_true] at c
    obtain ⟨e1, e2⟩ := RepL.flatV h2 c.2
    have : x = sv t ∧ L2.flatV x = true := by
      cases t with
      | non => rw [h1.1]; exact ⟨rfl, rfl⟩
      | bl _ => rw [h1.1]; exact ⟨rfl, rfl⟩
      | int _ => rw [h1.1]; exact ⟨rfl, rfl⟩
      | str _ => rw [h1.1]; exact ⟨rfl, rfl⟩
      | ls _ => cases c.1
      | tp _ => cases c.1
    rw [List.map_cons, ← e1, ← this.1, List.all_cons, this.2, e2]
    exact ⟨rfl, rfl⟩
theorem sc_eqV {a b : Tr} (ha : isSc a = true) (hb : isSc b = true) : eqV (sv a) (sv b) = eqF 50 a b := by
  cases a <;> cases b <;> first | (exfalso; cases ha; done) | (exfalso; cases hb; done) | (simp [eqV, sv, eqF]; done) | (simp [eqV, sv, eqF, beq_eq_decide]; done) | (simp only [eqV, sv, eqF, Bool.beq_eq_decide_eq]; done) | (simp [eqV, sv, eqF, Bool.beq_eq_decide_eq, eq_comm])
theorem in_tp {H : Hp} {fd : List Addr} {tx : Tr} {ts : List Tr} {x y : V} {F1 F2 : FP} (h1 : Rep X.K H fd tx x F1) (h2 : Rep X.K H fd (.tp ts) y F2) (c : (isSc tx && ts.all isSc) = true) :
    ∃ p xs, y = .ref p ∧ SqT X.K H p xs ∧ L2.flatV x = true ∧ xs.all L2.flatV = true ∧ inV x xs = ts.any fun z => eqF 50 z tx := by
  obtain ⟨c1, c2⟩ := Bool.and_eq_true_iff.mp c
  obtain ⟨p, xs, G, rfl, hl, _, hq, _⟩ := h2
  obtain ⟨e1, e2⟩ := RepL.flatV hl c2
  have hx : RepL X.K H fd [tx] [x] (F1 ++ []) := ⟨x, [], F1, [], rfl, h1, ⟨rfl, rfl⟩, rfl⟩
  obtain ⟨f1, f2⟩ := RepL.flatV hx (by simpa using c1)
  have ex : x = sv tx := by simpa using f1
  refine ⟨p, xs, rfl, hq, by simpa using f2, e2, ?_⟩
  unfold inV
  rw [e1, List.any_map, ex]
  have : ∀ (l : List Tr), l.all isSc = true → l.any ((fun y => eqV y (sv tx)) ∘ sv) = l.any fun z => eqF 50 z tx := by
    intro l
    induction l with
    | nil => intro _; rfl
    | cons t l ih =>
      intro h
      rw [List.all_cons, Bool.and_eq_true] at h
      rw [List.any_cons, List.any_cons, ih h.2, Function.comp_apply, sc_eqV h.1 c1]
  exact this ts c2
theorem os_in (hu : X.A.units + 65 < cLine) : OpS X (compareOp .In) oIn := ⟨_, (op_inD hu).or op_in_seq, fun H fd tx ty z x y F1 F2 Q h1 h2 e => by
  unfold oIn at e
  split at e
  · split at e
    · rename_i c
      cases e
      obtain ⟨d, ds, a1, a2, a3, a4, a5⟩ := in_ls h1 h2 c
      exact ⟨rfl, fun q => .inl ⟨d, ds, a1, a2, a3, a4, by rw [← a5]; exact q⟩⟩
    · cases e
  · split at e
    · rename_i c
      cases e
      obtain ⟨p, xs, a1, a2, a3, a4, a5⟩ := in_tp h1 h2 c
      exact ⟨rfl, fun q => .inr ⟨p, xs, a1, .inr a2, a3, a4, by rw [if_neg Bool.false_ne_true, a5]; exact q⟩⟩
    · cases e
  · cases e⟩
theorem os_notIn (hu : X.A.units + 65 < cLine) : OpS X (compareOp .NotIn) oNotIn := ⟨_, (op_notInD hu).or op_notIn_seq, fun H fd tx ty z x y F1 F2 Q h1 h2 e => by
  unfold oNotIn at e
  cases e' : oIn tx ty with
  | none => rw [e'] at e; cases e
  | some w =>
    rw [e'] at e
    unfold oIn at e'
    split at e'
    · split at e'
      · rename_i c
        cases e'; cases e
        obtain ⟨d, ds, a1, a2, a3, a4, a5⟩ := in_ls h1 h2 c
        exact ⟨rfl, fun q => .inl ⟨d, ds, a1, a2, a3, a4, by rw [← a5]; exact q⟩⟩
      · cases e'
    · split at e'
      · rename_i c
        cases e'; cases e
        obtain ⟨p, xs, a1, a2, a3, a4, a5⟩ := in_tp h1 h2 c
        exact ⟨rfl, fun q => .inr ⟨p, xs, a1, .inr a2, a3, a4, by rw [if_pos rfl, a5]; exact q⟩⟩
      · cases e'
    · cases e'⟩

theorem ve_cmp {op : CmpOp} {f : Tr → Tr → Option Tr} {a b : Expr} {s1 s2 : Ex} {rd1 rd2 : RD} {pos : Pos} (ho : OpS X (compareOp op) f) (ha : VE X W a s1 rd1) (hb : VE X W b s2 rd2) (hm : behindInMarks op b = false := by first | exact nomark _ | rfl) : VE X W (.Compare a [op] [b] pos) (eBin f s1 s2) [] := by
  obtain ⟨r, hr, h⟩ := ho
  exact pe_imp (pe_cmpR hr ha hb hm) fun σ H Q q => te_bin (g := compareOp op) h q

/-! ### tests -/
abbrev Tx := En → M Bool
def TTv (K : PySem.W.Frag) (W : WH) (s : Tx) : TT := fun σ H Q => ∃ H0 fd B ρ ψ Y, Rel K H0 fd B ρ σ H ψ Y ∧ good (W H0 fd) (s ρ) fun b => ∀ H', ExtF fd H H' → FeedOk fd H' → Q b H'
abbrev VT (X : Cx) (W : WH) (e : Expr) (s : Tx) : Prop := PT X e (TTv X.K W s)
abbrev VW (X : Cx) (W : WH) (e : Expr) (s : Tx) : Prop := PW X e (TTv X.K W s)
/-- the test of an expression whose value is True or False -/
def tB (a : Ex) : Tx := fun ρ => (a ρ).bind fun r => match r.1 with
  | .bl b => .ret b
  | _ => .bad
def tTru (a : Ex) : Tx := fun ρ => (a ρ).bind fun r => match r.1 with
  | .bl b => .ret b
  | .non => .ret false
  | .int i => .ret (!decide (i = 0))
  | .str x => .ret (!decide ((x.length : Int) = 0))
  | .ls ts => .ret (!ts.isEmpty)
  | .tp ts => .ret (!ts.isEmpty)
theorem vt_cmp {op : CmpOp} {f : Tr → Tr → Option Tr} {a b : Expr} {s1 s2 : Ex} {rd1 rd2 : RD} {pos : Pos} (ho : OpS X (compareOp op) f) (ha : VE X W a s1 rd1) (hb : VE X W b s2 rd2) (hm : behindInMarks op b = false := by first | exact nomark _ | rfl) : VT X W (.Compare a [op] [b] pos) (tB (eBin f s1 s2)) := by
  obtain ⟨r, hr, h⟩ := ho
  refine pt_imp (pt_cmpR hr ha hb hm) fun σ H Q q => ?_
  obtain ⟨H0, fd, B, ρ, ψ, Y, R, g⟩ := q
  refine te_bin (g := compareOp op) (f := f) h ?_
  unfold tB at g
  rw [good_bind] at g
  refine ⟨H0, fd, B, ρ, ψ, Y, R, good_imp g fun z g1 v H' F a => ?_⟩
  obtain ⟨t, k⟩ := z
  cases t <;> first | exact g1.elim | skip
  obtain rfl := rep_bl a.rep
  exact ⟨_, rfl, g1 H' a.ext a.fok⟩
theorem vt_tru {a : Expr} {s : Ex} {rd : RD} (ha : VE X W a s rd) (he : ∀ whole, isTrue a X.env whole = (do let v ← whole; standAt a.pos; holding [v] (truthy v)) := by intro _; rfl) : VT X W a (tTru s) := by
  refine pt_imp (pt_truth ha he) fun σ H Q q => ?_
  obtain ⟨H0, fd, B, ρ, ψ, Y, R, g⟩ := q
  unfold tTru at g
  rw [good_bind] at g
  refine ⟨H0, fd, B, ρ, ψ, Y, R, good_imp g fun z g1 v H' F a => ?_⟩
  obtain ⟨t, k⟩ := z
  have r := a.rep
  cases t with
  | non => obtain rfl := rep_non r; exact ⟨_, rfl, g1 H' a.ext a.fok⟩
  | bl b => obtain rfl := rep_bl r; exact ⟨_, rfl, g1 H' a.ext a.fok⟩
  | int i => obtain rfl := rep_int r; exact ⟨(i != 0), rfl, by have := g1 H' a.ext a.fok; rw [bne, Bool.beq_eq_decide_eq]; exact this⟩
  | str x => obtain rfl := rep_str r; exact ⟨((x.length : Int) != 0), ⟨r.2.1, rfl⟩, by have := g1 H' a.ext a.fok; rw [bne, Bool.beq_eq_decide_eq]; exact this⟩
  | ls ts =>
    obtain ⟨p, xs, G, rfl, hl, hz, e, _⟩ := r
    have e2 : ts.isEmpty = xs.isEmpty := by have := hl.length; cases ts <;> cases xs <;> simp_all
    exact ⟨!xs.isEmpty, .inl ⟨xs, SqL.of e, rfl⟩, by rw [← e2]; exact g1 H' a.ext a.fok⟩
  | tp ts =>
    obtain ⟨p, xs, G, rfl, hl, hz, e, _⟩ := r
    have e2 : ts.isEmpty = xs.isEmpty := by have := hl.length; cases ts <;> cases xs <;> simp_all
    exact ⟨!xs.isEmpty, .inr (.inl ⟨xs, e, rfl⟩), by rw [← e2]; exact g1 H' a.ext a.fok⟩
def tNt (a : Tx) : Tx := fun ρ => (a ρ).bind fun b => .ret (!b)
theorem vt_not {a : Expr} {s : Tx} {pos : Pos} (ha : VT X W a s) : VT X W (.UnaryOp .Not a pos) (tNt s) := by
  refine pt_imp (pt_not ha) fun σ H Q q => ?_
  obtain ⟨H0, fd, B, ρ, ψ, Y, R, g⟩ := q
  unfold tNt at g
  rw [good_bind] at g
  exact ⟨H0, fd, B, ρ, ψ, Y, R, good_imp g fun b g1 => g1⟩
def tAnd (a b : Tx) : Tx := fun ρ => (a ρ).bind fun x => if x then b ρ else .ret false
def tOr (a b : Tx) : Tx := fun ρ => (a ρ).bind fun x => if x then .ret true else b ρ
theorem vw_and1 {a : Expr} {s : Tx} {pos : Pos} (h : VT X W a s) : VW X W (.BoolOp .And [a] pos) s := pw_and1 h
theorem vw_or1 {a : Expr} {s : Tx} {pos : Pos} (h : VT X W a s) : VW X W (.BoolOp .Or [a] pos) s := pw_or1 h
theorem pw_imp {X : Cx} {e : Expr} {t t' : TT} (h : PW X e t) (i : ∀ σ H Q, t' σ H Q → t σ H Q) : PW X e t' := ⟨fun wh pins s σ H Q I q => h.run wh pins s σ H Q I (i σ H Q q)⟩
theorem vw_and {a b : Expr} {rest : List Expr} {s1 s2 : Tx} {pos : Pos} (ha : VT X W a s1) (hb : VW X W (.BoolOp .And (b :: rest) pos) s2) : VW X W (.BoolOp .And (a :: b :: rest) pos) (tAnd s1 s2) := by
  refine pw_imp (pw_and ha hb) fun σ H Q q => ?_
  obtain ⟨H0, fd, B, ρ, ψ, Y, R, g⟩ := q
  unfold tAnd at g
  rw [good_bind] at g
  refine ⟨H0, fd, B, ρ, ψ, Y, R, good_imp g fun b g1 H1 x f => ?_⟩
  cases b with
  | true => rw [if_pos rfl]; exact ⟨H0, fd, B, ρ, ψ, Y, R.grow x f, good_imp g1 fun c k H2 x2 f2 => k H2 (x.trans x2) f2⟩
  | false => rw [if_neg Bool.false_ne_true]; exact g1 H1 x f
theorem vw_or {a b : Expr} {rest : List Expr} {s1 s2 : Tx} {pos : Pos} (ha : VT X W a s1) (hb : VW X W (.BoolOp .Or (b :: rest) pos) s2) : VW X W (.BoolOp .Or (a :: b :: rest) pos) (tOr s1 s2) := by
  refine pw_imp (pw_or ha hb) fun σ H Q q => ?_
  obtain ⟨H0, fd, B, ρ, ψ, Y, R, g⟩ := q
  unfold tOr at g
  rw [good_bind] at g
  refine ⟨H0, fd, B, ρ, ψ, Y, R, good_imp g fun b g1 H1 x f => ?_⟩
  cases b with
  | true => rw [if_pos rfl]; exact g1 H1 x f
  | false => rw [if_neg Bool.false_ne_true]; exact ⟨H0, fd, B, ρ, ψ, Y, R.grow x f, good_imp g1 fun c k H2 x2 f2 => k H2 (x.trans x2) f2⟩
theorem vt_bop {e : Expr} {s : Tx} (h : VW X W e s) : VT X W e s := h.pt
/-! ### and, or, not as values: all but the last True or False -/
def eAnd (a b : Ex) : Ex := fun ρ => (a ρ).bind fun x => match x.1 with
  | .bl true => b ρ
  | .bl false => .ret (.bl false, 99)
  | _ => .bad
def eOr (a b : Ex) : Ex := fun ρ => (a ρ).bind fun x => match x.1 with
  | .bl true => .ret (.bl true, 99)
  | .bl false => b ρ
  | _ => .bad
def eNot (a : Ex) : Ex := fun ρ => (a ρ).bind fun x => match x.1 with
  | .bl b => .ret (.bl (!b), 99)
  | _ => .bad
theorem ve_one {op} {a : Expr} {s : Ex} {rd : RD} {pos : Pos} (h : VE X W a s rd) : VE X W (.BoolOp op [a] pos) s rd := pe_one h
theorem Res.later {K : PySem.W.Frag} {fd : List Addr} {ψ : List FP} {rd : RD} {H H1 H2 : Hp} {r : Tr × Nat} {v : V} {F : FP} (x : ExtF fd H H1) (a : Res K fd ψ rd H1 r v H2 F) : Res K fd ψ rd H r v H2 F :=
  ⟨x.trans a.ext, a.fok, a.rep, fun d c m o => ⟨ext_none x (a.rep.node m).2 (a.own d c m o).1, (a.own d c m o).2⟩, fun d c m => (a.al d c m).imp (ext_none x (a.rep.node m).2) id⟩
theorem Res.more {K : PySem.W.Frag} {fd : List Addr} {ψ : List FP} {rd rd' : RD} {H H2 : Hp} {r : Tr × Nat} {v : V} {F : FP} (a : Res K fd ψ rd H r v H2 F) (s : ∀ p ∈ rd, p ∈ rd') : Res K fd ψ rd' H r v H2 F :=
  ⟨a.ext, a.fok, a.rep, a.own, fun d c m => (a.al d c m).imp id fun ⟨j, m', d', G, h1, h2⟩ => ⟨j, m', d', G, s _ h1, h2⟩⟩
theorem ve_and {a b : Expr} {rest : List Expr} {s1 s2 : Ex} {rd1 rd2 : RD} {pos : Pos} (ha : VE X W a s1 rd1) (hb : VE X W (.BoolOp .And (b :: rest) pos) s2 rd2) : VE X W (.BoolOp .And (a :: b :: rest) pos) (eAnd s1 s2) rd2 := by
  refine pe_imp (pe_and ha hb) fun σ H Q q => ?_
  obtain ⟨H0, fd, B, ρ, ψ, Y, R, g⟩ := q
  unfold eAnd at g
  rw [good_bind] at g
  refine ⟨H0, fd, B, ρ, ψ, Y, R, good_imp g fun z g1 v H1 F a => ?_⟩
  obtain ⟨t, k⟩ := z
  cases t <;> first | exact g1.elim | skip
  rename_i b
  obtain rfl := rep_bl a.rep
  refine ⟨b, rfl, ?_⟩
  cases b with
  | true => rw [if_pos rfl]; exact ⟨H0, fd, B, ρ, ψ, Y, R.grow a.ext a.fok, good_imp g1 fun c k v2 H2 F2 a2 => k v2 H2 F2 (a2.later a.ext)⟩
  | false => rw [if_neg Bool.false_ne_true]; exact g1 _ H1 [] (.sc rfl a.ext a.fok)
theorem ve_or {a b : Expr} {rest : List Expr} {s1 s2 : Ex} {rd1 rd2 : RD} {pos : Pos} (ha : VE X W a s1 rd1) (hb : VE X W (.BoolOp .Or (b :: rest) pos) s2 rd2) : VE X W (.BoolOp .Or (a :: b :: rest) pos) (eOr s1 s2) rd2 := by
  refine pe_imp (pe_or ha hb) fun σ H Q q => ?_
  obtain ⟨H0, fd, B, ρ, ψ, Y, R, g⟩ := q
  unfold eOr at g
  rw [good_bind] at g
  refine ⟨H0, fd, B, ρ, ψ, Y, R, good_imp g fun z g1 v H1 F a => ?_⟩
  obtain ⟨t, k⟩ := z
  cases t <;> first | exact g1.elim | skip
  rename_i b
  obtain rfl := rep_bl a.rep
  refine ⟨b, rfl, ?_⟩
  cases b with
  | true => rw [if_pos rfl]; exact g1 _ H1 [] (.sc rfl a.ext a.fok)
  | false => rw [if_neg Bool.false_ne_true]; exact ⟨H0, fd, B, ρ, ψ, Y, R.grow a.ext a.fok, good_imp g1 fun c k v2 H2 F2 a2 => k v2 H2 F2 (a2.later a.ext)⟩
theorem ve_not {a : Expr} {s : Ex} {rd : RD} {pos : Pos} (ha : VE X W a s rd) : VE X W (.UnaryOp .Not a pos) (eNot s) [] := by
  refine pe_imp (pe_not ha) fun σ H Q q => ?_
  obtain ⟨H0, fd, B, ρ, ψ, Y, R, g⟩ := q
  unfold eNot at g
  rw [good_bind] at g
  refine ⟨H0, fd, B, ρ, ψ, Y, R, good_imp g fun z g1 v H1 F a => ?_⟩
  obtain ⟨t, k⟩ := z
  cases t <;> first | exact g1.elim | skip
  obtain rfl := rep_bl a.rep
  exact ⟨_, rfl, g1 _ H1 [] (.sc rfl a.ext a.fok)⟩
def eIf (c : Tx) (a b : Ex) : Ex := fun ρ => (c ρ).bind fun x => if x then a ρ else b ρ
theorem ve_if {c a b : Expr} {sc : Tx} {s1 s2 : Ex} {rd1 rd2 : RD} {pos : Pos} (hc : VT X W c sc) (ha : VE X W a s1 rd1) (hb : VE X W b s2 rd2) : VE X W (.IfExp c a b pos) (eIf sc s1 s2) (rd1 ++ rd2) := by
  refine pe_imp (pe_ifExp hc ha hb) fun σ H Q q => ?_
  obtain ⟨H0, fd, B, ρ, ψ, Y, R, g⟩ := q
  unfold eIf at g
  rw [good_bind] at g
  refine ⟨H0, fd, B, ρ, ψ, Y, R, good_imp g fun b g1 H1 x f => ?_⟩
  cases b with
  | true => rw [if_pos rfl]; exact ⟨H0, fd, B, ρ, ψ, Y, R.grow x f, good_imp g1 fun c k v2 H2 F2 a2 => k v2 H2 F2 ((a2.later x).more fun p hp => List.mem_append_left _ hp)⟩
  | false => rw [if_neg Bool.false_ne_true]; exact ⟨H0, fd, B, ρ, ψ, Y, R.grow x f, good_imp g1 fun c k v2 H2 F2 a2 => k v2 H2 F2 ((a2.later x).more fun p hp => List.mem_append_right _ hp)⟩
/-! ### a op b op c -/
def eChain (f g : Tr → Tr → Option Tr) (a b c : Ex) : Ex := fun ρ => (a ρ).bind fun x => (b ρ).bind fun y => match f x.1 y.1 with
  | some (.bl true) => (c ρ).bind fun z => match g y.1 z.1 with
    | some w => .ret (w, 99)
    | none => .bad
  | some (.bl false) => .ret (.bl false, 99)
  | _ => .bad
end
end VL

set_option Elab.async false
set_option linter.all false
set_option maxRecDepth 100000
set_option maxHeartbeats 4000000
/-! VL4: arguments, displays, subscripts, slices, calls of what is built in -/
namespace VL
open PySem PySem.Spec PyProof.Rows L2
section
variable {X : Cx} {W : WH}
/-! ### lists of values -/
structure ResL (K : PySem.W.Frag) (fd : List Addr) (ψ : List FP) (rd : RD) (H : Hp) (ts : List Tr) (deep : Bool) (vs : List V) (H' : Hp) (F : FP) : Prop where
  ext : ExtF fd H H'
  fok : FeedOk fd H'
  rep : RepL K H' fd ts vs F
  own : deep = true → ∀ d a, (d, a) ∈ F → H a = none ∧ (ads F).count a ≤ 1
  al : ∀ d a, (d, a) ∈ F → H a = none ∨ ∃ (j m d' : Nat) (G : FP), (j, m) ∈ rd ∧ ψ[j]? = some G ∧ (d', a) ∈ G ∧ m ≤ d'
abbrev Ax := En → M (List Tr × Bool)
def TAv (K : PySem.W.Frag) (W : WH) (s : Ax) (rd : RD) : TA := fun σ H Q => ∃ H0 fd B ρ ψ Y, Rel K H0 fd B ρ σ H ψ Y ∧ good (W H0 fd) (s ρ) fun r => ∀ vs H' F, ResL K fd ψ rd H r.1 r.2 vs H' F → Q vs H'
abbrev VA (X : Cx) (W : WH) (es : List Expr) (s : Ax) (rd : RD) : Prop := PA X es (TAv X.K W s rd)
def aNil : Ax := fun _ => .ret ([], true)
def aCons (a : Ex) (r : Ax) : Ax := fun ρ => (a ρ).bind fun x => (r ρ).bind fun y => .ret (x.1 :: y.1, Nat.ble 99 x.2 && y.2)
theorem va_nil : VA X W [] aNil [] := pa_imp pa_nil fun σ H Q q => by
  obtain ⟨H0, fd, B, ρ, ψ, Y, R, g⟩ := q
  exact g [] H [] ⟨.refl, R.fok, ⟨rfl, rfl⟩, fun _ _ _ m => (nomatch m), fun _ _ m => (nomatch m)⟩
theorem va_cons {e : Expr} {es : List Expr} {s1 : Ex} {s2 : Ax} {rd1 rd2 : RD} (ha : VE X W e s1 rd1) (hr : VA X W es s2 rd2) (hs : starEach (e :: es) X.env = (false, eval e X.env) :: starEach es X.env := by rfl) : VA X W (e :: es) (aCons s1 s2) (rd1 ++ rd2) := by
  refine pa_imp (pa_cons ha hr hs) fun σ H Q q => ?_
  obtain ⟨H0, fd, B, ρ, ψ, Y, R, g⟩ := q
  unfold aCons at g
  rw [good_bind] at g
  refine ⟨H0, fd, B, ρ, ψ, Y, R, good_imp g fun r1 g1 x H1 F1 a => ?_⟩
  rw [good_bind] at g1
  refine ⟨H0, fd, B, ρ, ψ, Y, R.grow a.ext a.fok, good_imp g1 fun r2 g2 ys H2 F2 b => ?_⟩
  refine g2 (x :: ys) H2 (F1 ++ F2) ⟨a.ext.trans b.ext, b.fok, ⟨x, ys, F1, F2, rfl, a.rep.ext b.ext a.fok, b.rep, rfl⟩, fun hd d c m => ?_, fun d c m => ?_⟩
  · obtain ⟨h1, h2⟩ := Bool.and_eq_true_iff.mp hd
    have o1 : ∀ d c, (d, c) ∈ F1 → H c = none ∧ (ads F1).count c ≤ 1 := fun d c m => a.own d c m (.inr (Nat.le_of_ble_eq_true h1))
    have o2 := b.own h2
    have dj : ∀ {d c}, (d, c) ∈ F1 → c ∉ ads F2 := fun {d c} m n => by
      obtain ⟨d', n⟩ := mem_ads.mp n
      obtain ⟨⟨xs, e⟩, _⟩ := a.rep.node m
      rw [(o2 d' c n).1] at e; cases e
    rw [ads_append, List.count_append]
    rcases List.mem_append.mp m with m | m
    · obtain ⟨p, q⟩ := o1 d c m
      rw [List.count_eq_zero_of_not_mem (dj m)]
      exact ⟨p, q⟩
    · obtain ⟨p, q⟩ := o2 d c m
      have n : c ∉ ads F1 := fun z => by
        obtain ⟨d', z⟩ := mem_ads.mp z
        exact dj z (mem_ads.mpr ⟨d, m⟩)
      rw [List.count_eq_zero_of_not_mem n, Nat.zero_add]
      exact ⟨ext_none a.ext (b.rep.node m).2 p, q⟩
  · rcases List.mem_append.mp m with m | m
    · exact (a.al d c m).imp id fun ⟨j, m', d', G, h1, h2⟩ => ⟨j, m', d', G, List.mem_append_left _ h1, h2⟩
    · exact (b.al d c m).imp (ext_none a.ext (b.rep.node m).2) fun ⟨j, m', d', G, h1, h2⟩ => ⟨j, m', d', G, List.mem_append_right _ h1, h2⟩
/-! ### new lists and tuples -/
theorem RepL.new {K : PySem.W.Frag} {H : Hp} {fd : List Addr} {p : Addr} {o : HO} (h : H p = none) : ∀ {ts : List Tr} {xs : List V} {F : FP}, RepL K H fd ts xs F → RepL K (L2.upd H p o) fd ts xs F
  | [], _, _, r => r
  | t :: ts, _, _, r => by
    obtain ⟨x, ys, G1, G2, e, h1, h2, rfl⟩ := r
    exact ⟨x, ys, G1, G2, e, h1.keeps (Keeps.new h h1), RepL.new h h2, rfl⟩
theorem FeedOk.new {fd : List Addr} {H : Hp} {p : Addr} {o : HO} (f : FeedOk fd H) (h : H p = none) : FeedOk fd (L2.upd H p o) := by
  rcases f with rfl | ⟨a, s, ns, p', c, x, rfl, ne, h1, h2, r⟩
  · exact .inl rfl
  · exact .inr ⟨a, s, ns, p', c, x, rfl, ne, by rw [upd_ne (ne_of_none h1 h)]; exact h1, by rw [upd_ne (ne_of_none h2 h)]; exact h2, r⟩
theorem FeedOk.notIn {fd : List Addr} {H : Hp} {p : Addr} (f : FeedOk fd H) (h : H p = none) : p ∉ fd := fun m => by
  obtain ⟨xs, e⟩ := f.lst m
  rw [h] at e; cases e
theorem Rep.newL {K : PySem.W.Frag} {H : Hp} {fd : List Addr} {p : Addr} {ts : List Tr} {xs : List V} {G : FP} (f : FeedOk fd H) (h : H p = none) (r : RepL K H fd ts xs G) (hz : xs.length ≤ sizeLine) : Rep K (L2.upd H p (.lst xs)) fd (.ls ts) (.ref p) ((0, p) :: up G) :=
  ⟨p, xs, G, rfl, r.new h, hz, upd_same, f.notIn h, rfl⟩
theorem Rep.newT {K : PySem.W.Frag} {H : Hp} {fd : List Addr} {p : Addr} {ts : List Tr} {xs : List V} {G : FP} (f : FeedOk fd H) (h : H p = none) (r : RepL K H fd ts xs G) (hz : xs.length ≤ sizeLine) : Rep K (L2.upd H p (.tup xs)) fd (.tp ts) (.ref p) (up G) :=
  ⟨p, xs, G, rfl, r.new h, hz, SqT.of upd_same, f.notIn h, rfl⟩
def lvL (deep : Bool) : Nat := if deep then 99 else 1
def lvT (deep : Bool) : Nat := if deep then 99 else 0
/-- a new list of what came -/
theorem ResL.list {K : PySem.W.Frag} {fd : List Addr} {ψ : List FP} {rd : RD} {H H1 : Hp} {ts : List Tr} {deep : Bool} {vs : List V} {F : FP} {p : Addr} (a : ResL K fd ψ rd H ts deep vs H1 F) (h : H1 p = none) (hz : vs.length ≤ sizeLine) :
    Res K fd ψ rd H (.ls ts, lvL deep) (.ref p) (L2.upd H1 p (.lst vs)) ((0, p) :: up F) where
  ext := a.ext.trans (.new h)
  fok := a.fok.new h
  rep := Rep.newL a.fok h a.rep hz
  own := fun d c m o => by
    have np : p ∉ ads (up F) := by rw [ads_up]; exact a.rep.fresh h
    have hp : H p = none := ext_none a.ext (a.fok.notIn h) h
    rcases List.mem_cons.mp m with e | m
    · cases e
      exact ⟨hp, by show List.count p (p :: ads (up F)) ≤ 1; rw [List.count_cons_self, List.count_eq_zero_of_not_mem np]; exact Nat.le_refl 1⟩
    · have hd : deep = true := by
        cases deep with
        | true => rfl
        | false =>
          obtain ⟨d', rfl, _⟩ := mem_up.mp m
          rcases o with o | o
          · have o : d' + 1 < 1 := o
            omega
          · have o : 99 ≤ 1 := o
            omega
      obtain ⟨d', rfl, m'⟩ := mem_up.mp m
      obtain ⟨q1, q2⟩ := a.own hd d' c m'
      have ne : p ≠ c := fun z => np (by rw [z]; exact mem_ads.mpr ⟨_, m⟩)
      refine ⟨q1, ?_⟩
      show List.count c (p :: ads (up F)) ≤ 1
      rw [List.count_cons_of_ne ne, ads_up]; exact q2
  al := fun d c m => by
    rcases List.mem_cons.mp m with e | m
    · cases e; exact .inl (ext_none a.ext (a.fok.notIn h) h)
    · obtain ⟨d', rfl, m'⟩ := mem_up.mp m
      exact a.al d' c m'
theorem ResL.tuple {K : PySem.W.Frag} {fd : List Addr} {ψ : List FP} {rd : RD} {H H1 : Hp} {ts : List Tr} {deep : Bool} {vs : List V} {F : FP} {p : Addr} (a : ResL K fd ψ rd H ts deep vs H1 F) (h : H1 p = none) (hz : vs.length ≤ sizeLine) :
    Res K fd ψ rd H (.tp ts, lvT deep) (.ref p) (L2.upd H1 p (.tup vs)) (up F) where
  ext := a.ext.trans (.new h)
  fok := a.fok.new h
  rep := Rep.newT a.fok h a.rep hz
  own := fun d c m o => by
    have hd : deep = true := by
      cases deep with
      | true => rfl
      | false => exact absurd o owns_zero
    obtain ⟨d', rfl, m'⟩ := mem_up.mp m
    rw [ads_up]
    exact a.own hd d' c m'
  al := fun d c m => by
    obtain ⟨d', rfl, m'⟩ := mem_up.mp m
    exact a.al d' c m'
def lenOk {α : Type} (ts : List α) : Bool := Nat.ble ts.length 16777216
def eLst (a : Ax) : Ex := fun ρ => (a ρ).bind fun r => if lenOk r.1 then .ret (.ls r.1, lvL r.2) else .bad
def eTup (a : Ax) : Ex := fun ρ => (a ρ).bind fun r => if lenOk r.1 then .ret (.tp r.1, lvT r.2) else .bad
theorem if_good {α : Type} {E : Nat → Tr → Prop} {c : Bool} {m : M α} {P : α → Prop} (g : good E (if c then m else .bad) P) : c = true ∧ good E m P := by
  cases c with
  | true => exact ⟨rfl, g⟩
  | false => exact g.elim
theorem ve_lst {es : List Expr} {s : Ax} {rd : RD} {pos : Pos} (h : VA X W es s rd) : VE X W (.List es pos) (eLst s) rd := by
  refine pe_imp (pe_lst h) fun σ H Q q => ?_
  obtain ⟨H0, fd, B, ρ, ψ, Y, R, g⟩ := q
  unfold eLst at g
  rw [good_bind] at g
  refine ⟨H0, fd, B, ρ, ψ, Y, R, good_imp g fun r g1 vs H1 F a => ?_⟩
  obtain ⟨c, g1⟩ := if_good g1
  have hz : vs.length ≤ sizeLine := by rw [← a.rep.length]; exact line_eq c
  exact ⟨hz, fun p hp => g1 _ _ _ (a.list hp hz)⟩
theorem ve_tup {es : List Expr} {s : Ax} {rd : RD} {x1} {pos : Pos} (h : VA X W es s rd) : VE X W (.Tuple es x1 pos) (eTup s) rd := by
  refine pe_imp (pe_tup h) fun σ H Q q => ?_
  obtain ⟨H0, fd, B, ρ, ψ, Y, R, g⟩ := q
  unfold eTup at g
  rw [good_bind] at g
  refine ⟨H0, fd, B, ρ, ψ, Y, R, good_imp g fun r g1 vs H1 F a => ?_⟩
  obtain ⟨c, g1⟩ := if_good g1
  have hz : vs.length ≤ sizeLine := by rw [← a.rep.length]; exact line_eq c
  exact ⟨hz, fun p hp => g1 _ _ _ (a.tuple hp hz)⟩
/-! ### items -/
theorem RepL.get {K : PySem.W.Frag} {H : Hp} {fd : List Addr} : ∀ {ts : List Tr} {xs : List V} {F : FP} {i : Nat} {t : Tr}, RepL K H fd ts xs F → ts[i]? = some t → ∃ x G1 G G2, xs[i]? = some x ∧ Rep K H fd t x G ∧ F = G1 ++ (G ++ G2)
  | [], _, _, _, _, _, h => by simp at h
  | t :: ts, _, _, 0, u, r, h => by
    obtain ⟨x, ys, G1, G2, rfl, h1, h2, rfl⟩ := r
    obtain rfl : t = u := by simpa using h
    exact ⟨x, [], G1, G2, rfl, h1, rfl⟩
  | t :: ts, _, _, i + 1, u, r, h => by
    obtain ⟨x, ys, G1, G2, rfl, h1, h2, rfl⟩ := r
    obtain ⟨x', A, G, C, h3, h4, rfl⟩ := RepL.get (i := i) h2 (by simpa using h)
    exact ⟨x', G1 ++ A, G, C, by simpa using h3, h4, by simp⟩
theorem atI_len {α β : Type} {xs : List α} {ys : List β} (h : xs.length = ys.length) {i : Int} {t : α} (e : atI xs i = some t) : ∃ j, xs[j]? = some t ∧ ixN ys.length i = some j := by
  unfold atI at e
  rw [h] at e
  cases e' : ixN ys.length i with
  | none => rw [e'] at e; cases e
  | some j => rw [e'] at e; exact ⟨j, e, rfl⟩
def oIx : Tr → Tr → Option Tr
  | .ls ts, .int i => atI ts i
  | .tp ts, .int i => atI ts i
  | .str x, .int i => if Nat.ble x.length 16777216 then (atI x.cps.toList i).map fun c => .str ⟨#[c]⟩ else none
  | _, _ => none
def lvI (t : Tr) (k : Nat) : Nat := if t.flat then 99 else if Nat.ble 99 k then 99 else 0
def eIx (a b : Ex) : Ex := fun ρ => (a ρ).bind fun x => (b ρ).bind fun y => match oIx x.1 y.1 with
  | some t => .ret (t, lvI t x.2)
  | none => .bad
/-- what an item is: it comes of the whole -/
theorem ix_rep {K : PySem.W.Frag} {H : Hp} {fd : List Addr} {tx ty t : Tr} {x y : V} {F F2 : FP} {Q : VK} (r : Rep K H fd tx x F) (r2 : Rep K H fd ty y F2) (e : oIx tx ty = some t)
    (q : ∀ v G A C, Rep K H fd t v G → ((∃ P, F = P ++ up (A ++ (G ++ C))) ∨ (G = [] ∧ t.flat = true)) → Q v H) : rIx K x y H Q := by
  unfold oIx at e
  split at e
  · rename_i ts i
    obtain ⟨p, xs, G, rfl, hl, hz, hp, _, rfl⟩ := r
    obtain rfl := rep_int r2
    obtain ⟨j, h1, h2⟩ := atI_len hl.length e
    obtain ⟨v, A, G', C, h3, h4, rfl⟩ := hl.get h1
    exact .inl ⟨p, xs, i, v, rfl, rfl, SqL.of hp, by unfold atI; rw [h2]; exact h3, q v G' A C h4 (.inl ⟨[(0, p)], rfl⟩)⟩
  · rename_i ts i
    obtain ⟨p, xs, G, rfl, hl, hz, hp, _, rfl⟩ := r
    obtain rfl := rep_int r2
    obtain ⟨j, h1, h2⟩ := atI_len hl.length e
    obtain ⟨v, A, G', C, h3, h4, rfl⟩ := hl.get h1
    exact .inr (.inl ⟨p, xs, i, v, rfl, rfl, hp, by unfold atI; rw [h2]; exact h3, q v G' A C h4 (.inl ⟨[], rfl⟩)⟩)
  · rename_i z i
    split at e
    · rename_i c
      obtain rfl := rep_str r
      obtain rfl := rep_int r2
      cases e' : atI z.cps.toList i with
      | none => rw [e'] at e; cases e
      | some k =>
        rw [e'] at e
        cases e
        refine .inr (.inr ⟨z, i, k, rfl, rfl, line_eq c, e', q _ [] [] [] ⟨rfl, by rw [sizeLine_eq]; exact (by decide : 1 ≤ 16777216), rfl, ?_⟩ (.inr ⟨rfl, rfl⟩)⟩)
        have hk := r.2.2.2
        unfold PyData.strOk at hk ⊢
        rw [Array.all_eq_true'] at hk
        have hm : k ∈ z.cps := by
          unfold atI at e'
          cases e2 : ixN z.cps.toList.length i with
          | none => rw [e2] at e'; cases e'
          | some j =>
            rw [e2] at e'
            exact Array.mem_toList_iff.mp (List.mem_of_getElem? e')
        simpa using hk k hm
    · cases e
  · cases e
theorem item_res {K : PySem.W.Frag} {fd : List Addr} {ψ : List FP} {rd1 rd2 : RD} {H H2 : Hp} {r1 r2 : Tr × Nat} {x y v : V} {F1 F2 P A G C : FP} {t : Tr} (T : Two K fd ψ rd1 rd2 H H2 r1 r2 x y F1 F2) (r : Rep K H2 fd t v G)
    (h : (∃ P, F1 = P ++ up (A ++ (G ++ C))) ∨ (G = [] ∧ t.flat = true)) : Res K fd ψ rd1 H (t, lvI t r1.2) v H2 G := by
  rcases h with ⟨P, rfl⟩ | ⟨rfl, hf⟩
  · have sub : ∀ {d a}, (d, a) ∈ G → (d + 1, a) ∈ P ++ up (A ++ (G ++ C)) := fun {d a} m =>
      List.mem_append_right _ (mem_up.mpr ⟨d, rfl, List.mem_append_right _ (List.mem_append_left _ m)⟩)
    refine ⟨T.ext, T.fok, r, fun d a m o => ?_, fun d a m => T.al1 _ _ (sub m)⟩
    have o : owns d (lvI t r1.2) := o
    unfold lvI at o
    by_cases hf : t.flat = true
    · rw [r.flat hf] at m; cases m
    · rw [if_neg hf] at o
      by_cases hk : Nat.ble 99 r1.2 = true
      · obtain ⟨p, q⟩ := T.own1 _ _ (sub m) (.inr (Nat.le_of_ble_eq_true hk))
        refine ⟨p, Nat.le_trans ?_ q⟩
        rw [ads_append, ads_up, ads_append, ads_append, List.count_append, List.count_append, List.count_append]
        omega
      · rw [if_neg hk] at o
        exact absurd o owns_zero
  · exact ⟨T.ext, T.fok, r, fun d a m => (nomatch m), fun d a m => (nomatch m)⟩
theorem ve_ix {a b : Expr} {s1 s2 : Ex} {rd1 rd2 : RD} {pos : Pos} (ha : VE X W a s1 rd1) (hb : VE X W b s2 rd2) (hs : PlainIx b := by exact fun _ _ => rfl) : VE X W (.Subscript a b pos) (eIx s1 s2) rd1 := by
  refine pe_imp (pe_ix ix_seq ha hb hs) fun σ H Q q => ?_
  obtain ⟨H0, fd, B, ρ, ψ, Y, R, g⟩ := q
  refine two_run R g fun r1 r2 x y H2 F1 F2 T R2 g2 => ?_
  cases e : oIx r1.1 r2.1 with
  | none => rw [e] at g2; exact g2.elim
  | some t =>
    rw [e] at g2
    exact ix_rep T.rep1 T.rep2 e fun v G A C r h => g2 v H2 G (item_res (P := []) (A := A) (C := C) T r h)
/-! ### calls of what is built in, to scalars -/
def eCall (f : List Tr → Option Tr) (a : Ax) : Ex := fun ρ => (a ρ).bind fun r => match f r.1 with
  | some z => .ret (z, 99)
  | none => .bad
def BiS (X : Cx) (fv : Value) (f : List Tr → Option Tr) : Prop := ∃ r, CallR X fv r ∧ ∀ (H : Hp) (fd : List Addr) (ts : List Tr) (vs : List V) (F : FP) (z : Tr) (Q : VK), RepL X.K H fd ts vs F → f ts = some z → isSc z = true ∧ (Q (sv z) H → r vs H Q)
theorem te_call {f : List Tr → Option Tr} {r : List V → Hp → VK → Prop} {s : Ax} {rd : RD} {σ : L2.St} {H : Hp} {Q : VK}
    (h : ∀ (H : Hp) (fd : List Addr) (ts : List Tr) (vs : List V) (F : FP) (z : Tr) (Q : VK), RepL X.K H fd ts vs F → f ts = some z → isSc z = true ∧ (Q (sv z) H → r vs H Q))
    (q : TEv X.K W (eCall f s) [] σ H Q) : tCB r (TAv X.K W s rd) σ H Q := by
  obtain ⟨H0, fd, B, ρ, ψ, Y, R, g⟩ := q
  unfold eCall at g
  rw [good_bind] at g
  refine ⟨H0, fd, B, ρ, ψ, Y, R, good_imp g fun z g1 vs H' F a => ?_⟩
  cases e : f z.1 with
  | none => rw [e] at g1; exact g1.elim
  | some t =>
    rw [e] at g1
    obtain ⟨hs, k⟩ := h H' fd z.1 vs F t Q a.rep e
    exact k (g1 (sv t) H' [] (.sc hs a.ext a.fok))
theorem ve_callB {id : String} {x : Str} {p pos : Pos} {f : List Tr → Option Tr} {e : Expr} {es : List Expr} {s : Ax} {rd : RD} (hc : BiS X (.builtin id) f) (hg : Gl X x) (hm : X.mg x = none) (hv : bootBuiltins x = some (.builtin id)) (ha : VA X W (e :: es) s rd)
    (hn : x ≠ "__name__" := by decide) (hdb : (x == ("__debug__" : Str)) = false := by decide) (he : starEach (e :: es) X.env = (false, eval e X.env) :: starEach es X.env := by rfl) (hpl : (backTo pos (starEach es X.env)).any (·.1) = false := by rfl) : VE X W (.Call (.Name x p) (e :: es) [] pos) (eCall f s) [] := by
  obtain ⟨r, hr, h⟩ := hc
  exact pe_imp (pe_callB hr hg hm hv ha hn hdb he hpl) fun σ H Q q => te_call h q
theorem ve_callTy {T : String} {x : Str} {p pos : Pos} {f : List Tr → Option Tr} {e : Expr} {es : List Expr} {s : Ax} {rd : RD} (hc : BiS X (.type T) f) (hg : Gl X x) (hm : X.mg x = none) (hv : bootBuiltins x = some (.type T)) (ha : VA X W (e :: es) s rd)
    (hn : x ≠ "__name__" := by decide) (hdb : (x == ("__debug__" : Str)) = false := by decide) (he : starEach (e :: es) X.env = (false, eval e X.env) :: starEach es X.env := by rfl) (hpl : (backTo pos (starEach es X.env)).any (·.1) = false := by rfl) : VE X W (.Call (.Name x p) (e :: es) [] pos) (eCall f s) [] := by
  obtain ⟨r, hr, h⟩ := hc
  exact pe_imp (pe_callTy hr hg hm hv ha hn hdb he hpl) fun σ H Q q => te_call h q
theorem repL1 {K : PySem.W.Frag} {H : Hp} {fd : List Addr} {t : Tr} {vs : List V} {F : FP} (h : RepL K H fd [t] vs F) : ∃ x, vs = [x] ∧ Rep K H fd t x F := by
  obtain ⟨x, ys, G1, G2, rfl, h1, ⟨rfl, rfl⟩, rfl⟩ := h
  exact ⟨x, rfl, by rw [List.append_nil]; exact h1⟩
theorem repL2 {K : PySem.W.Frag} {H : Hp} {fd : List Addr} {t u : Tr} {vs : List V} {F : FP} (h : RepL K H fd [t, u] vs F) : ∃ x y G1 G2, vs = [x, y] ∧ Rep K H fd t x G1 ∧ Rep K H fd u y G2 ∧ F = G1 ++ G2 := by
  obtain ⟨x, ys, G1, G2, rfl, h1, h2, rfl⟩ := h
  obtain ⟨y, rfl, h3⟩ := repL1 h2
  exact ⟨x, y, G1, G2, rfl, h1, h3, rfl⟩
def fLen : List Tr → Option Tr
  | [.ls ts] => some (.int ts.length)
  | [.tp ts] => some (.int ts.length)
  | [.str x] => some (.int x.length)
  | _ => none
theorem bi_len : BiS X (.builtin "len") fLen := ⟨_, call_len_seq.or call_len_str, fun H fd ts vs F z Q r e => by
  unfold fLen at e
  split at e
  · cases e
    obtain ⟨x, rfl, h⟩ := repL1 r
    obtain ⟨p, xs, G, rfl, hl, hz, hp, _⟩ := h
    exact ⟨rfl, fun q => .inl ⟨p, xs, rfl, .inl (SqL.of hp), by rw [← hl.length]; exact q⟩⟩
  · cases e
    obtain ⟨x, rfl, h⟩ := repL1 r
    obtain ⟨p, xs, G, rfl, hl, hz, hp, _⟩ := h
    exact ⟨rfl, fun q => .inl ⟨p, xs, rfl, .inr hp, by rw [← hl.length]; exact q⟩⟩
  · cases e
    obtain ⟨x, rfl, h⟩ := repL1 r
    obtain rfl := rep_str h
    exact ⟨rfl, fun q => .inr ⟨_, rfl, h.2.1, q⟩⟩
  · cases e⟩
def fAbs : List Tr → Option Tr
  | [.int i] => some (.int (if i < 0 then -i else i))
  | _ => none
theorem bi_abs : BiS X (.builtin "abs") fAbs := ⟨_, call_abs, fun H fd ts vs F z Q r e => by
  unfold fAbs at e
  split at e
  · cases e
    obtain ⟨x, rfl, h⟩ := repL1 r
    obtain rfl := rep_int h
    exact ⟨rfl, fun q => ⟨_, rfl, q⟩⟩
  · cases e⟩
def fInt : List Tr → Option Tr
  | [.int i] => some (.int i)
  | [.bl b] => some (.int (if b then 1 else 0))
  | _ => none
theorem bi_int : BiS X (.type "int") fInt := ⟨_, call_int1, fun H fd ts vs F z Q r e => by
  unfold fInt at e
  split at e
  · cases e
    obtain ⟨x, rfl, h⟩ := repL1 r
    obtain rfl := rep_int h
    exact ⟨rfl, fun q => .inl ⟨_, rfl, q⟩⟩
  · cases e
    obtain ⟨x, rfl, h⟩ := repL1 r
    obtain rfl := rep_bl h
    exact ⟨rfl, fun q => .inr ⟨_, rfl, q⟩⟩
  · cases e⟩
/-- the ints of a list -/
def intsT : List Tr → Option (List Int)
  | [] => some []
  | .int i :: r => (intsT r).map (i :: ·)
  | _ => none
theorem intsT_eq : ∀ {ts : List Tr} {ns : List Int}, intsT ts = some ns → ts = ns.map .int
  | [], ns, h => by cases h; rfl
  | t :: r, ns, h => by
    cases t <;> simp only [intsT] at h <;> first | cases h | skip
    cases e : intsT r with
    | none => rw [e] at h; cases h
    | some ms => rw [e] at h; cases h; rw [List.map_cons, intsT_eq e]
theorem repL_ints {K : PySem.W.Frag} {H : Hp} {fd : List Addr} : ∀ {ns : List Int} {xs : List V} {F : FP}, RepL K H fd (ns.map .int) xs F → xs = ns.map .int ∧ F = []
  | [], _, _, h => ⟨h.1, h.2⟩
  | n :: ns, _, _, h => by
    obtain ⟨x, ys, G1, G2, rfl, h1, h2, rfl⟩ := h
    obtain ⟨e1, e2⟩ := repL_ints h2
    obtain ⟨e3, e4⟩ := h1
    rw [e1, e3, e4, e2]; exact ⟨rfl, rfl⟩
def fSum : List Tr → Option Tr
  | [.ls ts] => (intsT ts).map fun ns => .int ns.sum
  | _ => none
theorem bi_sum (hc : X.calm = true) : BiS X (.builtin "sum") fSum := ⟨_, cr_sum hc, fun H fd ts vs F z Q r e => by
  unfold fSum at e
  split at e
  · rename_i ts
    cases e' : intsT ts with
    | none => rw [e'] at e; cases e
    | some ns =>
      rw [e'] at e; cases e
      obtain ⟨x, rfl, h⟩ := repL1 r
      obtain ⟨p, xs, G, rfl, hl, hz, hp, _⟩ := h
      rw [intsT_eq e'] at hl
      obtain ⟨rfl, _⟩ := repL_ints hl
      exact ⟨rfl, fun q => ⟨p, ns, rfl, SqL.of hp, q⟩⟩
  · cases e⟩
def maxI : List Int → Int
  | [] => 0
  | [x] => x
  | x :: y :: r => if maxI (y :: r) < x then x else maxI (y :: r)
def minI : List Int → Int
  | [] => 0
  | [x] => x
  | x :: y :: r => if x < minI (y :: r) then x else minI (y :: r)
theorem maxI_spec : ∀ {ns : List Int}, 0 < ns.length → maxI ns ∈ ns ∧ ∀ y ∈ ns, y ≤ maxI ns
  | [], h => by cases h
  | [x], _ => ⟨by simp [maxI], fun y hy => by simp [maxI] at hy ⊢; omega⟩
  | x :: y :: r, _ => by
    obtain ⟨h1, h2⟩ := maxI_spec (ns := y :: r) (by simp)
    unfold maxI
    by_cases c : maxI (y :: r) < x
    · rw [if_pos c]
      refine ⟨List.mem_cons_self, fun z hz => ?_⟩
      rcases List.mem_cons.mp hz with rfl | hz
      · exact Int.le_refl _
      · have := h2 z hz; omega
    · rw [if_neg c]
      refine ⟨List.mem_cons_of_mem _ h1, fun z hz => ?_⟩
      rcases List.mem_cons.mp hz with rfl | hz
      · omega
      · exact h2 z hz
theorem minI_spec : ∀ {ns : List Int}, 0 < ns.length → minI ns ∈ ns ∧ ∀ y ∈ ns, minI ns ≤ y
  | [], h => by cases h
  | [x], _ => ⟨by simp [minI], fun y hy => by simp [minI] at hy ⊢; omega⟩
  | x :: y :: r, _ => by
    obtain ⟨h1, h2⟩ := minI_spec (ns := y :: r) (by simp)
    unfold minI
    by_cases c : x < minI (y :: r)
    · rw [if_pos c]
      refine ⟨List.mem_cons_self, fun z hz => ?_⟩
      rcases List.mem_cons.mp hz with rfl | hz
      · exact Int.le_refl _
      · have := h2 z hz; omega
    · rw [if_neg c]
      refine ⟨List.mem_cons_of_mem _ h1, fun z hz => ?_⟩
      rcases List.mem_cons.mp hz with rfl | hz
      · omega
      · exact h2 z hz
def fMax : List Tr → Option Tr
  | [.ls ts] => match intsT ts with
    | some (n :: ns) => some (.int (maxI (n :: ns)))
    | _ => none
  | [.int i, .int j] => some (.int (if j > i then j else i))
  | _ => none
def fMin : List Tr → Option Tr
  | [.ls ts] => match intsT ts with
    | some (n :: ns) => some (.int (minI (n :: ns)))
    | _ => none
  | [.int i, .int j] => some (.int (if j < i then j else i))
  | _ => none
theorem bi_max (hc : X.calm = true) : BiS X (.builtin "max") fMax := ⟨_, (cr_max hc).or (call_max2 hc), fun H fd ts vs F z Q r e => by
  unfold fMax at e
  split at e
  · rename_i ts
    split at e
    · rename_i n ns e'
      cases e
      obtain ⟨x, rfl, h⟩ := repL1 r
      obtain ⟨p, xs, G, rfl, hl, hz, hp, _⟩ := h
      rw [intsT_eq e'] at hl
      obtain ⟨rfl, _⟩ := repL_ints hl
      refine ⟨rfl, fun q => .inl ⟨p, n :: ns, rfl, SqL.of hp, by simp, fun m hm hle => ?_⟩⟩
      obtain ⟨h1, h2⟩ := maxI_spec (ns := n :: ns) (by simp)
      have : m = maxI (n :: ns) := by have := hle _ h1; have := h2 _ hm; omega
      rw [this]; exact q
    · cases e
  · cases e
    obtain ⟨x, y, G1, G2, rfl, h1, h2, _⟩ := repL2 r
    obtain rfl := rep_int h1
    obtain rfl := rep_int h2
    exact ⟨rfl, fun q => .inr ⟨_, _, rfl, q⟩⟩
  · cases e⟩
theorem bi_min (hc : X.calm = true) : BiS X (.builtin "min") fMin := ⟨_, (cr_min hc).or (call_min2 hc), fun H fd ts vs F z Q r e => by
  unfold fMin at e
  split at e
  · rename_i ts
    split at e
    · rename_i n ns e'
      cases e
      obtain ⟨x, rfl, h⟩ := repL1 r
      obtain ⟨p, xs, G, rfl, hl, hz, hp, _⟩ := h
      rw [intsT_eq e'] at hl
      obtain ⟨rfl, _⟩ := repL_ints hl
      refine ⟨rfl, fun q => .inl ⟨p, n :: ns, rfl, SqL.of hp, by simp, fun m hm hle => ?_⟩⟩
      obtain ⟨h1, h2⟩ := minI_spec (ns := n :: ns) (by simp)
      have : m = minI (n :: ns) := by have := hle _ h1; have := h2 _ hm; omega
      rw [this]; exact q
    · cases e
  · cases e
    obtain ⟨x, y, G1, G2, rfl, h1, h2, _⟩ := repL2 r
    obtain rfl := rep_int h1
    obtain rfl := rep_int h2
    exact ⟨rfl, fun q => .inr ⟨_, _, rfl, q⟩⟩
  · cases e⟩
def blsT : List Tr → Option (List Bool)
  | [] => some []
  | .bl b :: r => (blsT r).map (b :: ·)
  | _ => none
theorem blsT_eq : ∀ {ts : List Tr} {ns : List Bool}, blsT ts = some ns → ts = ns.map .bl
  | [], ns, h => by cases h; rfl
  | t :: r, ns, h => by
    cases t <;> simp only [blsT] at h <;> first | cases h | skip
    cases e : blsT r with
    | none => rw [e] at h; cases h
    | some ms => rw [e] at h; cases h; rw [List.map_cons, blsT_eq e]
theorem repL_bls {K : PySem.W.Frag} {H : Hp} {fd : List Addr} : ∀ {ns : List Bool} {xs : List V} {F : FP}, RepL K H fd (ns.map .bl) xs F → xs = ns.map .bl
  | [], _, _, h => h.1
  | n :: ns, _, _, h => by
    obtain ⟨x, ys, G1, G2, rfl, h1, h2, rfl⟩ := h
    rw [repL_bls h2, h1.1]; rfl
def fAll : List Tr → Option Tr
  | [.ls ts] => (blsT ts).map fun bs => .bl (bs.all id)
  | _ => none
def fAny : List Tr → Option Tr
  | [.ls ts] => (blsT ts).map fun bs => .bl (bs.any id)
  | _ => none
theorem bi_all (hc : X.calm = true) : BiS X (.builtin "all") fAll := ⟨_, cr_all hc, fun H fd ts vs F z Q r e => by
  unfold fAll at e
  split at e
  · rename_i ts
    cases e' : blsT ts with
    | none => rw [e'] at e; cases e
    | some ns =>
      rw [e'] at e; cases e
      obtain ⟨x, rfl, h⟩ := repL1 r
      obtain ⟨p, xs, G, rfl, hl, hz, hp, _⟩ := h
      rw [blsT_eq e'] at hl
      obtain rfl := repL_bls hl
      exact ⟨rfl, fun q => ⟨p, ns, rfl, SqL.of hp, q⟩⟩
  · cases e⟩
theorem bi_any (hc : X.calm = true) : BiS X (.builtin "any") fAny := ⟨_, cr_any hc, fun H fd ts vs F z Q r e => by
  unfold fAny at e
  split at e
  · rename_i ts
    cases e' : blsT ts with
    | none => rw [e'] at e; cases e
    | some ns =>
      rw [e'] at e; cases e
      obtain ⟨x, rfl, h⟩ := repL1 r
      obtain ⟨p, xs, G, rfl, hl, hz, hp, _⟩ := h
      rw [blsT_eq e'] at hl
      obtain rfl := repL_bls hl
      exact ⟨rfl, fun q => ⟨p, ns, rfl, SqL.of hp, q⟩⟩
  · cases e⟩
/-! ### isinstance -/
inductive Ty where
  | int | bool | list | tuple | str
def Ty.name : Ty → String
  | .int => "int" | .bool => "bool" | .list => "list" | .tuple => "tuple" | .str => "str"
def tyN : Tr → String
  | .non => "NoneType" | .bl _ => "bool" | .int _ => "int" | .str _ => "str" | .ls _ => "list" | .tp _ => "tuple"
def isiT : Ty → Tr → Bool
  | .int, .int _ => true | .int, .bl _ => true | .bool, .bl _ => true | .list, .ls _ => true | .tuple, .tp _ => true | .str, .str _ => true
  | _, _ => false
theorem isi_kit (n : Ty) (t : Tr) : kitB (tyN t) n.name = some (isiT n t) := by
  cases n <;> cases t <;> first | rfl | decide +kernel | (simp only [tyN, isiT, Ty.name]; decide +kernel)
theorem Rep.ty {K : PySem.W.Frag} {H : Hp} {fd : List Addr} {t : Tr} {v : V} {F : FP} (h : Rep K H fd t v F) : TyX K H v (.type (tyN t)) := by
  cases t with
  | non => rw [h.1]; exact .base .non
  | bl _ => rw [h.1]; exact .base (.bl _)
  | int _ => rw [h.1]; exact .base (.int _)
  | str _ => rw [h.1]; exact .base (.str _)
  | ls _ => obtain ⟨a, xs, G, rfl, _, _, e, _⟩ := h; exact .base (.lst e)
  | tp _ =>
    obtain ⟨a, xs, G, rfl, _, _, e, _⟩ := h
    rcases e with (e | ⟨o, e⟩) | ⟨o, its, n, e, c, _⟩
    · exact .base (.tup e)
    · exact .fTuple e
    · exact .kTuple e c
def eIsi (n : Ty) (a : Ex) : Ex := fun ρ => (a ρ).bind fun x => .ret (.bl (isiT n x.1), 99)
theorem ve_isi {n : Ty} {x : Str} {e e2 : Expr} {s : Ex} {rd : RD} {p pos : Pos} (hg : Gl X x) (hm : X.mg x = none) (hv : bootBuiltins x = some (.builtin "isinstance")) (ha : VE X W e s rd) (h2 : PE X e2 (tC (.ty n.name)))
    (hn : x ≠ "__name__" := by decide) (hdb : (x == ("__debug__" : Str)) = false := by decide) (hs : starEach (e :: [e2]) X.env = (false, eval e X.env) :: starEach [e2] X.env := by rfl) (hs2 : starEach (e2 :: []) X.env = (false, eval e2 X.env) :: starEach [] X.env := by rfl) (hpl : (backTo pos (starEach [e2] X.env)).any (·.1) = false := by rfl) :
    VE X W (.Call (.Name x p) [e, e2] [] pos) (eIsi n s) [] := by
  refine pe_imp (pe_callB call_isi hg hm hv (pa_cons ha (pa_cons h2 pa_nil hs2) hs) hn hdb hs hpl) fun σ H Q q => ?_
  obtain ⟨H0, fd, B, ρ, ψ, Y, R, g⟩ := q
  unfold eIsi at g
  rw [good_bind] at g
  refine ⟨H0, fd, B, ρ, ψ, Y, R, good_imp g fun r g1 v H' F a => ?_⟩
  exact ⟨v, .ty n.name, _, _, _, rfl, .ty _, a.rep.ty, kit_ty (isi_kit n r.1), g1 _ H' [] (.sc rfl a.ext a.fok)⟩
end
end VL

set_option Elab.async false
set_option linter.all false
set_option maxRecDepth 100000
set_option maxHeartbeats 4000000
/-! VL5: what makes lists: +, *, list(), tuple(), slices -/
namespace VL
open PySem PySem.Spec PyProof.Rows L2
section
variable {X : Cx} {W : WH}
theorem RepL.append {K : PySem.W.Frag} {H : Hp} {fd : List Addr} : ∀ {ts us : List Tr} {xs ys : List V} {F G : FP}, RepL K H fd ts xs F → RepL K H fd us ys G → RepL K H fd (ts ++ us) (xs ++ ys) (F ++ G)
  | [], _, _, _, _, _, h, h2 => by rw [h.1, h.2]; exact h2
  | t :: ts, us, _, ys, _, G, h, h2 => by
    obtain ⟨x, zs, G1, G2, rfl, h1, h3, rfl⟩ := h
    exact ⟨x, zs ++ ys, G1, G2 ++ G, rfl, h1, RepL.append h3 h2, by rw [List.append_assoc]⟩
theorem RepL.split {K : PySem.W.Frag} {H : Hp} {fd : List Addr} (n : Nat) : ∀ {ts : List Tr} {xs : List V} {F : FP}, RepL K H fd ts xs F → ∃ F1 F2, F = F1 ++ F2 ∧ RepL K H fd (ts.take n) (xs.take n) F1 ∧ RepL K H fd (ts.drop n) (xs.drop n) F2 := by
  induction n with
  | zero => intro ts xs F h; exact ⟨[], F, rfl, ⟨rfl, rfl⟩, h⟩
  | succ n ih =>
    intro ts xs F h
    cases ts with
    | nil => obtain ⟨rfl, rfl⟩ := h; exact ⟨[], [], rfl, ⟨rfl, rfl⟩, ⟨rfl, rfl⟩⟩
    | cons t ts =>
      obtain ⟨x, ys, G1, G2, rfl, h1, h2, rfl⟩ := h
      obtain ⟨A, B, rfl, h3, h4⟩ := ih h2
      exact ⟨G1 ++ A, B, by rw [List.append_assoc], ⟨x, _, G1, A, rfl, h1, h3, rfl⟩, h4⟩
/-- a list's own parts -/
theorem rep_ls {K : PySem.W.Frag} {H : Hp} {fd : List Addr} {ts : List Tr} {v : V} {F : FP} (h : Rep K H fd (.ls ts) v F) : ∃ a xs G, v = .ref a ∧ RepL K H fd ts xs G ∧ xs.length ≤ sizeLine ∧ H a = some (.lst xs) ∧ a ∉ fd ∧ F = (0, a) :: up G := h
theorem rep_tp {K : PySem.W.Frag} {H : Hp} {fd : List Addr} {ts : List Tr} {v : V} {F : FP} (h : Rep K H fd (.tp ts) v F) : ∃ a xs G, v = .ref a ∧ RepL K H fd ts xs G ∧ xs.length ≤ sizeLine ∧ SqT K H a xs ∧ a ∉ fd ∧ F = up G := h
/-- a new list (at p) of things that stand -/
def lvF (ts : List Tr) : Nat := if flatL ts then 99 else 1
def lvFT (ts : List Tr) : Nat := if flatL ts then 99 else 0
theorem new_list {K : PySem.W.Frag} {fd : List Addr} {ψ : List FP} {rd : RD} {H H1 : Hp} {ts : List Tr} {xs : List V} {G : FP} {p : Addr} (x : ExtF fd H H1) (f : FeedOk fd H1) (r : RepL K H1 fd ts xs G) (h : H1 p = none) (hz : xs.length ≤ sizeLine)
    (al : ∀ d a, (d, a) ∈ G → H a = none ∨ ∃ (j m d' : Nat) (G : FP), (j, m) ∈ rd ∧ ψ[j]? = some G ∧ (d', a) ∈ G ∧ m ≤ d') : Res K fd ψ rd H (.ls ts, lvF ts) (.ref p) (L2.upd H1 p (.lst xs)) ((0, p) :: up G) := by
  by_cases hf : flatL ts = true
  · have e := r.flat hf
    subst e
    have := ResL.list (ψ := ψ) (rd := rd) (H := H) (deep := true) ⟨x, f, r, fun _ _ _ m => (nomatch m), fun _ _ m => (nomatch m)⟩ h hz
    unfold lvF; rw [if_pos hf]; exact this
  · have := ResL.list (ψ := ψ) (rd := rd) (H := H) (deep := false) ⟨x, f, r, fun e => (nomatch e), al⟩ h hz
    unfold lvF; rw [if_neg hf]; exact this
theorem new_tuple {K : PySem.W.Frag} {fd : List Addr} {ψ : List FP} {rd : RD} {H H1 : Hp} {ts : List Tr} {xs : List V} {G : FP} {p : Addr} (x : ExtF fd H H1) (f : FeedOk fd H1) (r : RepL K H1 fd ts xs G) (h : H1 p = none) (hz : xs.length ≤ sizeLine)
    (al : ∀ d a, (d, a) ∈ G → H a = none ∨ ∃ (j m d' : Nat) (G : FP), (j, m) ∈ rd ∧ ψ[j]? = some G ∧ (d', a) ∈ G ∧ m ≤ d') : Res K fd ψ rd H (.tp ts, lvFT ts) (.ref p) (L2.upd H1 p (.tup xs)) (up G) := by
  by_cases hf : flatL ts = true
  · have e := r.flat hf
    subst e
    have := ResL.tuple (ψ := ψ) (rd := rd) (H := H) (deep := true) ⟨x, f, r, fun _ _ _ m => (nomatch m), fun _ _ m => (nomatch m)⟩ h hz
    unfold lvFT; rw [if_pos hf]; exact this
  · have := ResL.tuple (ψ := ψ) (rd := rd) (H := H) (deep := false) ⟨x, f, r, fun e => (nomatch e), al⟩ h hz
    unfold lvFT; rw [if_neg hf]; exact this
/-! ### general binary operators -/
def OpG (X : Cx) (g : Value → Value → Sem Value) (f : Tr → Tr → Option (Tr × Nat)) : Prop := ∃ r : R2, OpR X g r ∧ ∀ (fd : List Addr) (ψ : List FP) (rd1 rd2 : RD) (H H2 : Hp) (r1 r2 : Tr × Nat) (x y : V) (F1 F2 : FP) (z : Tr × Nat) (Q : VK),
  Two X.K fd ψ rd1 rd2 H H2 r1 r2 x y F1 F2 → f r1.1 r2.1 = some z → (∀ v H' F, Res X.K fd ψ (rd1 ++ rd2) H z v H' F → Q v H') → r x y H2 Q
def eBinG (f : Tr → Tr → Option (Tr × Nat)) (a b : Ex) : Ex := fun ρ => (a ρ).bind fun x => (b ρ).bind fun y => M.ofOpt (f x.1 y.1)
theorem te_binG {g : Value → Value → Sem Value} {f : Tr → Tr → Option (Tr × Nat)} {r : R2} {s1 s2 : Ex} {rd1 rd2 : RD} {σ : L2.St} {H : Hp} {Q : VK}
    (h : ∀ (fd : List Addr) (ψ : List FP) (rd1 rd2 : RD) (H H2 : Hp) (r1 r2 : Tr × Nat) (x y : V) (F1 F2 : FP) (z : Tr × Nat) (Q : VK), Two X.K fd ψ rd1 rd2 H H2 r1 r2 x y F1 F2 → f r1.1 r2.1 = some z → (∀ v H' F, Res X.K fd ψ (rd1 ++ rd2) H z v H' F → Q v H') → r x y H2 Q)
    (q : TEv X.K W (eBinG f s1 s2) (rd1 ++ rd2) σ H Q) : tOp r (TEv X.K W s1 rd1) (TEv X.K W s2 rd2) σ H Q := by
  obtain ⟨H0, fd, B, ρ, ψ, Y, R, g⟩ := q
  refine two_run R g fun r1 r2 x y H2 F1 F2 T R2 g2 => ?_
  obtain ⟨z, e, p⟩ := good_opt g2
  exact h fd ψ rd1 rd2 H H2 r1 r2 x y F1 F2 z Q T e p
theorem ve_binG {op : Operator} {f : Tr → Tr → Option (Tr × Nat)} {a b : Expr} {s1 s2 : Ex} {rd1 rd2 : RD} {pos : Pos} (ho : OpG X (binaryOp op) f) (ha : VE X W a s1 rd1) (hb : VE X W b s2 rd2) : VE X W (.BinOp a op b pos) (eBinG f s1 s2) (rd1 ++ rd2) := by
  obtain ⟨r, hr, h⟩ := ho
  exact pe_imp (pe_op hr ha hb) fun σ H Q q => te_binG (g := binaryOp op) h q
def oAdd : Tr → Tr → Option (Tr × Nat)
  | .int i, .int j => some (.int (i + j), 99)
  | .int i, .bl b => some (.int (i + if b then 1 else 0), 99)
  | .str x, .str y => if Nat.ble (x.length + y.length) 16777216 && PyData.strOk (x ++ y) then some (.str (x ++ y), 99) else none
  | .ls xs, .ls ys => if Nat.ble (xs.length + ys.length) 16777216 then some (.ls (xs ++ ys), lvF (xs ++ ys)) else none
  | .tp xs, .tp ys => if Nat.ble (xs.length + ys.length) 16777216 && !xs.isEmpty && !ys.isEmpty then some (.tp (xs ++ ys), lvFT (xs ++ ys)) else none
  | _, _ => none
theorem og_add : OpG X (binaryOp .Add) oAdd := ⟨_, op_add.or (op_add_ib.or (op_add_str.or (op_cat.or op_catT))), fun fd ψ rd1 rd2 H H2 r1 r2 x y F1 F2 z Q T e q => by
  obtain ⟨t1, k1⟩ := r1
  obtain ⟨t2, k2⟩ := r2
  have R1 := T.rep1
  have R2 := T.rep2
  simp only at e R1 R2
  unfold oAdd at e
  split at e
  · cases e; obtain rfl := rep_int R1; obtain rfl := rep_int R2
    exact .inl ⟨_, _, rfl, rfl, q _ H2 [] (.sc rfl T.ext T.fok)⟩
  · rename_i i b
    cases e; obtain rfl := rep_int R1; obtain rfl := rep_bl R2
    refine .inr (.inl ⟨_, _, rfl, rfl, ?_⟩)
    have : b2i b = if b then 1 else 0 := by cases b <;> rfl
    rw [this]
    exact q _ H2 [] (.sc rfl T.ext T.fok)
  · rename_i sx sy
    split at e
    · rename_i c
      cases e; obtain rfl := rep_str R1; obtain rfl := rep_str R2
      obtain ⟨c1, c2⟩ := Bool.and_eq_true_iff.mp c
      have hl := line_eq c1
      refine .inr (.inr (.inl ⟨sx, sy, rfl, rfl, hl, ?_⟩))
      refine q _ H2 [] (.sc ?_ T.ext T.fok)
      show (Nat.ble (sx ++ sy).length 16777216 && PyData.strOk (sx ++ sy)) = true
      rw [c2, Bool.and_true]
      have : (sx ++ sy).length = sx.length + sy.length := by
        show (sx.cps ++ sy.cps).size = _
        rw [Array.size_append]; rfl
      rw [this]; exact c1
    · cases e
  · rename_i ts us
    split at e
    · rename_i c
      cases e
      obtain ⟨a, xs, G1, rfl, hl1, hz1, hp1, _, rfl⟩ := rep_ls R1
      obtain ⟨b, ys, G2, rfl, hl2, hz2, hp2, _, rfl⟩ := rep_ls R2
      have hz := line_eq c
      rw [hl1.length, hl2.length] at hz
      refine .inr (.inr (.inr (.inl ⟨a, b, xs, ys, rfl, rfl, hp1, hp2, hz, fun p hp => ?_⟩)))
      refine q _ _ _ (new_list T.ext T.fok (hl1.append hl2) hp (by rw [List.length_append]; exact hz) fun d c m => ?_)
      rcases List.mem_append.mp m with m | m
      · exact (T.al1 (d + 1) c (List.mem_cons_of_mem _ (mem_up.mpr ⟨d, rfl, m⟩))).imp id fun ⟨j, m', d', G, h1, h2⟩ => ⟨j, m', d', G, List.mem_append_left _ h1, h2⟩
      · exact (T.al2 (d + 1) c (List.mem_cons_of_mem _ (mem_up.mpr ⟨d, rfl, m⟩))).imp id fun ⟨j, m', d', G, h1, h2⟩ => ⟨j, m', d', G, List.mem_append_right _ h1, h2⟩
    · cases e
  · rename_i ts us
    split at e
    · rename_i c
      cases e
      obtain ⟨a, xs, G1, rfl, hl1, hz1, hp1, _, rfl⟩ := rep_tp R1
      obtain ⟨b, ys, G2, rfl, hl2, hz2, hp2, _, rfl⟩ := rep_tp R2
      obtain ⟨c, c3⟩ := Bool.and_eq_true_iff.mp c
      obtain ⟨c1, c2⟩ := Bool.and_eq_true_iff.mp c
      have hz := line_eq c1
      rw [hl1.length, hl2.length] at hz
      have n1 : xs ≠ [] := fun e => by
        subst e
        have := hl1.length
        cases ts <;> simp_all
      have n2 : ys ≠ [] := fun e => by
        subst e
        have := hl2.length
        cases us <;> simp_all
      refine .inr (.inr (.inr (.inr ⟨a, b, xs, ys, rfl, rfl, hp1, hp2, n1, hz, fun e => absurd e n2, fun _ p hp => ?_⟩)))
      refine q _ _ _ (new_tuple T.ext T.fok (hl1.append hl2) hp (by rw [List.length_append]; exact hz) fun d c m => ?_)
      rcases List.mem_append.mp m with m | m
      · exact (T.al1 (d + 1) c (mem_up.mpr ⟨d, rfl, m⟩)).imp id fun ⟨j, m', d', G, h1, h2⟩ => ⟨j, m', d', G, List.mem_append_left _ h1, h2⟩
      · exact (T.al2 (d + 1) c (mem_up.mpr ⟨d, rfl, m⟩)).imp id fun ⟨j, m', d', G, h1, h2⟩ => ⟨j, m', d', G, List.mem_append_right _ h1, h2⟩
    · cases e
  · cases e⟩
/-! ### *: ints, and a list (of flat things) times a number -/
theorem RepL.rep {K : PySem.W.Frag} {H : Hp} {fd : List Addr} {ts : List Tr} {xs : List V} (h : RepL K H fd ts xs []) : ∀ k : Nat, RepL K H fd (List.replicate k ts).flatten (List.replicate k xs).flatten []
  | 0 => ⟨rfl, rfl⟩
  | k + 1 => by
    rw [List.replicate_succ, List.replicate_succ, List.flatten_cons, List.flatten_cons]
    exact h.append (RepL.rep h k)
theorem flatL_append : ∀ {ts us : List Tr}, flatL (ts ++ us) = (flatL ts && flatL us)
  | [], us => by simp [flatL]
  | t :: ts, us => by simp [flatL, flatL_append, Bool.and_assoc]
theorem flatL_rep {ts : List Tr} (h : flatL ts = true) : ∀ k : Nat, flatL (List.replicate k ts).flatten = true
  | 0 => by simp [flatL]
  | k + 1 => by rw [List.replicate_succ, List.flatten_cons, flatL_append, h, flatL_rep h k]; rfl
def repT (k : Nat) (ts : List Tr) : List Tr := match ts with
  | [t] => List.replicate k t
  | _ => (List.replicate k ts).flatten
theorem repT_eq (k : Nat) (ts : List Tr) : repT k ts = (List.replicate k ts).flatten := by
  unfold repT
  split
  · rename_i t
    induction k with
    | zero => rfl
    | succ k ih => rw [List.replicate_succ, List.replicate_succ, List.flatten_cons, ih]; rfl
  · rfl
def oMulG : Tr → Tr → Option (Tr × Nat)
  | .int i, .int j => if small i || small j then some (.int (i * j), 99) else none
  | .ls ts, .int k => if flatL ts && decide (k ≤ 16777216) && decide (-16777216 ≤ k) && Nat.ble (ts.length * k.toNat) 16777216 then some (.ls (repT k.toNat ts), 99) else none
  | _, _ => none
theorem og_mul : OpG X (binaryOp .Mult) oMulG := ⟨_, op_mul.or op_rep, fun fd ψ rd1 rd2 H H2 r1 r2 x y F1 F2 z Q T e q => by
  obtain ⟨t1, k1⟩ := r1
  obtain ⟨t2, k2⟩ := r2
  have R1 := T.rep1
  have R2 := T.rep2
  simp only at e R1 R2
  unfold oMulG at e
  split at e
  · split at e
    · rename_i c
      cases e; obtain rfl := rep_int R1; obtain rfl := rep_int R2
      refine .inl ⟨_, _, rfl, rfl, ?_, q _ H2 [] (.sc rfl T.ext T.fok)⟩
      rcases Bool.or_eq_true_iff.mp c with c | c
      · exact .inl (small_ok c)
      · exact .inr (small_ok c)
    · cases e
  · rename_i ts k
    split at e
    · rename_i c
      cases e
      obtain ⟨c, c4⟩ := Bool.and_eq_true_iff.mp c
      obtain ⟨c, c3⟩ := Bool.and_eq_true_iff.mp c
      obtain ⟨c1, c2⟩ := Bool.and_eq_true_iff.mp c
      have c2 := of_decide_eq_true c2
      have c3 := of_decide_eq_true c3
      obtain ⟨a, xs, G1, rfl, hl1, hz1, hp1, _, rfl⟩ := rep_ls R1
      obtain rfl := rep_int R2
      have eG := hl1.flat c1
      subst eG
      have hz := line_eq c4
      rw [hl1.length] at hz
      refine .inr ⟨a, k, xs, rfl, rfl, hp1, by omega, by omega, hz, fun p hp => ?_⟩
      have := new_list (ψ := ψ) (rd := rd1 ++ rd2) T.ext T.fok (hl1.rep k.toNat) hp (by rw [List.length_flatten, List.map_replicate, List.sum_replicate_nat, Nat.mul_comm]; exact hz) fun d c m => (nomatch m)
      unfold lvF at this
      rw [if_pos (flatL_rep c1 _)] at this
      rw [repT_eq] at q
      exact q _ _ _ this
    · cases e
  · cases e⟩
end
end VL

set_option Elab.async false
set_option linter.all false
set_option maxRecDepth 100000
set_option maxHeartbeats 4000000
/-! VL6: frames change; statements -/
namespace VL
open PySem PySem.Spec PyProof.Rows L2
/-! ### levels are lowered -/
def capS (m : Nat) : Sl → Sl
  | .v t k => .v t (if Nat.ble k (min m 50) then k else min m 50)
  | s => s
def capAt : Nat → Nat → En → En
  | _, _, [] => []
  | 0, m, s :: r => capS m s :: r
  | j + 1, m, s :: r => s :: capAt j m r
def lower : RD → En → En
  | [], ρ => ρ
  | (j, m) :: r, ρ => lower r (capAt j m ρ)
def lowIf (k : Nat) (rd : RD) (ρ : En) : En := if Nat.ble 99 k then ρ else lower rd ρ
theorem capAt_length : ∀ (j m : Nat) (ρ : En), (capAt j m ρ).length = ρ.length
  | _, _, [] => by simp [capAt]
  | 0, m, s :: r => by simp [capAt]
  | j + 1, m, s :: r => by simp [capAt, capAt_length j m r]
theorem lower_length : ∀ (rd : RD) (ρ : En), (lower rd ρ).length = ρ.length
  | [], _ => rfl
  | (j, m) :: r, ρ => by unfold lower; rw [lower_length r, capAt_length]
theorem lowIf_length (k : Nat) (rd : RD) (ρ : En) : (lowIf k rd ρ).length = ρ.length := by
  unfold lowIf
  split
  · rfl
  · exact lower_length rd ρ
/-- s is s' but for a lesser level -/
def SlLe : Sl → Sl → Prop
  | .no, .no => True
  | .feed, .feed => True
  | .v t k, .v t' k' => t = t' ∧ k ≤ k'
  | _, _ => False
theorem SlLe.refl : ∀ s : Sl, SlLe s s
  | .no => trivial
  | .feed => trivial
  | .v _ _ => ⟨rfl, Nat.le_refl _⟩
theorem SlLe.trans : ∀ {a b c : Sl}, SlLe a b → SlLe b c → SlLe a c
  | .no, .no, .no, _, _ => trivial
  | .feed, .feed, .feed, _, _ => trivial
  | .v _ _, .v _ _, .v _ _, ⟨h1, h2⟩, ⟨h3, h4⟩ => ⟨h1.trans h3, Nat.le_trans h2 h4⟩
  | .no, .feed, _, h, _ => h.elim
  | .no, .v _ _, _, h, _ => h.elim
  | .feed, .no, _, h, _ => h.elim
  | .feed, .v _ _, _, h, _ => h.elim
  | .v _ _, .no, _, h, _ => h.elim
  | .v _ _, .feed, _, h, _ => h.elim
  | .no, .no, .feed, _, h => h.elim
  | .no, .no, .v _ _, _, h => h.elim
  | .feed, .feed, .no, _, h => h.elim
  | .feed, .feed, .v _ _, _, h => h.elim
  | .v _ _, .v _ _, .no, _, h => h.elim
  | .v _ _, .v _ _, .feed, _, h => h.elim
theorem capS_le (m : Nat) : ∀ s : Sl, SlLe (capS m s) s ∧ ∀ t k, capS m s = .v t k → k ≤ m ∧ k ≤ 50
  | .no => ⟨trivial, fun _ _ e => by cases e⟩
  | .feed => ⟨trivial, fun _ _ e => by cases e⟩
  | .v t k => by
    have e0 : capS m (.v t k) = .v t (if Nat.ble k (min m 50) then k else min m 50) := rfl
    rw [e0]
    by_cases c : Nat.ble k (min m 50) = true
    · rw [if_pos c]
      have := Nat.le_of_ble_eq_true c
      exact ⟨⟨rfl, Nat.le_refl _⟩, fun t' k' e => by cases e; omega⟩
    · rw [if_neg c]
      have : ¬ k ≤ min m 50 := fun z => c (Nat.ble_eq_true_of_le z)
      exact ⟨⟨rfl, by omega⟩, fun t' k' e => by cases e; omega⟩
theorem capAt_get : ∀ (j m : Nat) (ρ : En) (i : Nat) (s : Sl), (capAt j m ρ)[i]? = some s → ∃ s', ρ[i]? = some s' ∧ SlLe s s' ∧ (i = j → ∀ t k, s = .v t k → k ≤ m ∧ k ≤ 50)
  | j, m, [], i, s, h => by simp [capAt] at h
  | 0, m, s0 :: r, 0, s, h => by
    simp only [capAt, List.getElem?_cons_zero, Option.some.injEq] at h
    subst h
    exact ⟨s0, rfl, (capS_le m s0).1, fun _ => (capS_le m s0).2⟩
  | 0, m, s0 :: r, i + 1, s, h => by
    simp only [capAt, List.getElem?_cons_succ] at h
    exact ⟨s, by simpa using h, .refl s, fun e => by cases e⟩
  | j + 1, m, s0 :: r, 0, s, h => by
    simp only [capAt, List.getElem?_cons_zero, Option.some.injEq] at h
    subst h
    exact ⟨s0, rfl, .refl _, fun e => by cases e⟩
  | j + 1, m, s0 :: r, i + 1, s, h => by
    simp only [capAt, List.getElem?_cons_succ] at h
    obtain ⟨s', h1, h2, h3⟩ := capAt_get j m r i s h
    exact ⟨s', by simpa using h1, h2, fun e => h3 (by omega)⟩
theorem lower_get : ∀ (rd : RD) (ρ : En) (i : Nat) (s : Sl), (lower rd ρ)[i]? = some s → ∃ s', ρ[i]? = some s' ∧ SlLe s s' ∧ ∀ m, (i, m) ∈ rd → ∀ t k, s = .v t k → k ≤ m ∧ k ≤ 50
  | [], ρ, i, s, h => ⟨s, h, .refl s, fun _ hm => (nomatch hm)⟩
  | (j, m) :: r, ρ, i, s, h => by
    unfold lower at h
    obtain ⟨s1, h1, h2, h3⟩ := lower_get r _ i s h
    obtain ⟨s2, h4, h5, h6⟩ := capAt_get j m ρ i s1 h1
    refine ⟨s2, h4, h2.trans h5, fun m' hm t k e => ?_⟩
    rcases List.mem_cons.mp hm with q | hm
    · cases q
      subst e
      cases s1 with
      | no => exact h2.elim
      | feed => exact h2.elim
      | v t1 k1 =>
        have := h6 rfl t1 k1 rfl
        have := h2.2
        omega
    · exact h3 m' hm t k e
theorem lowIf_get {k : Nat} {rd : RD} {ρ : En} {i : Nat} {s : Sl} (h : (lowIf k rd ρ)[i]? = some s) : ∃ s', ρ[i]? = some s' ∧ SlLe s s' ∧ (99 ≤ k ∨ ∀ m, (i, m) ∈ rd → ∀ t k, s = .v t k → k ≤ m ∧ k ≤ 50) := by
  unfold lowIf at h
  split at h
  · rename_i c
    exact ⟨s, h, .refl s, .inl (Nat.le_of_ble_eq_true c)⟩
  · obtain ⟨s', h1, h2, h3⟩ := lower_get rd ρ i s h
    exact ⟨s', h1, h2, .inr h3⟩

section
variable {K : PySem.W.Frag} {H0 H H' : Hp} {fd B : List Addr} {ρ ρ' : En} {σ : L2.St} {ψ : List FP} {Y : List Tmp}
theorem Rel.weak (R : Rel K H0 fd B ρ σ H ψ Y) (hl : ρ'.length = ρ.length) (h : ∀ (i : Nat) (s : Sl), ρ'[i]? = some s → ∃ s', ρ[i]? = some s' ∧ SlLe s s') : Rel K H0 fd B ρ' σ H ψ Y where
  lns := R.lns.trans hl.symm
  lnp := R.lnp.trans hl.symm
  rep := fun i t k e => by
    obtain ⟨s, h1, h2⟩ := h i _ e
    cases s with
    | no => exact h2.elim
    | feed => exact h2.elim
    | v t' k' => obtain ⟨rfl, _⟩ := h2; exact R.rep i t k' h1
  dead := fun i e => by
    obtain ⟨s, h1, h2⟩ := h i _ e
    cases s with
    | no => exact R.dead i h1
    | feed => exact h2.elim
    | v t' k' => exact h2.elim
  fed := fun i e => by
    obtain ⟨s, h1, h2⟩ := h i _ e
    cases s with
    | no => exact h2.elim
    | feed => exact R.fed i h1
    | v t' k' => exact h2.elim
  tmp := R.tmp
  own := fun i t k F d a e h1 h2 h3 => by
    obtain ⟨s, h4, h5⟩ := h i _ e
    cases s with
    | no => exact h5.elim
    | feed => exact h5.elim
    | v t' k' => obtain ⟨rfl, hk⟩ := h5; exact R.own i t k' F d a h4 h1 h2 (owns_mono h3 hk)
  dom := R.dom
  ext := R.ext
  fok := R.fok
theorem Rel.low (R : Rel K H0 fd B ρ σ H ψ Y) (k : Nat) (rd : RD) : Rel K H0 fd B (lowIf k rd ρ) σ H ψ Y :=
  R.weak (lowIf_length k rd ρ) fun i s h => let ⟨s', h1, h2, _⟩ := lowIf_get h; ⟨s', h1, h2⟩
theorem uniq_pos {F : FP} {d d' : Nat} {a : Addr} (h1 : (d, a) ∈ F) (h2 : (d', a) ∈ F) (h : (ads F).count a ≤ 1) : d = d' := by
  induction F with
  | nil => cases h1
  | cons p F ih =>
    obtain ⟨e, b⟩ := p
    rw [show ads ((e, b) :: F) = b :: ads F from rfl] at h
    by_cases c : b = a
    · subst c
      rw [List.count_cons_self] at h
      have n : b ∉ ads F := fun m => by
        have := List.count_pos_iff.mpr m
        omega
      have out : ∀ {x}, (x, b) ∈ (e, b) :: F → x = e := fun {x} m => by
        rcases List.mem_cons.mp m with q | m
        · cases q; rfl
        · exact absurd (mem_ads.mpr ⟨x, m⟩) n
      rw [out h1, out h2]
    · rw [List.count_cons_of_ne (by exact c)] at h
      have out : ∀ {x}, (x, a) ∈ (e, b) :: F → (x, a) ∈ F := fun {x} m => by
        rcases List.mem_cons.mp m with q | m
        · cases q; exact absurd rfl c
        · exact m
      exact ih (out h1) (out h2) h
/-- what the slots own is not in F -/
def Sep (ρ : En) (ψ : List FP) (F : FP) : Prop := ∀ (j : Nat) (t : Tr) (k : Nat) (G : FP) (d : Nat) (a : Addr), ρ[j]? = some (.v t k) → ψ[j]? = some G → (d, a) ∈ G → owns d k → a ∉ ads F
theorem Rel.sep {rd : RD} {r : Tr × Nat} {v : V} {F : FP} (R : Rel K H0 fd B ρ σ H ψ Y) (a : Res K fd ψ rd H r v H' F) : Sep (lowIf r.2 rd ρ) ψ F := by
  intro j t k G d c e hG m o mF
  obtain ⟨d', mF⟩ := mem_ads.mp mF
  obtain ⟨s, h1, h2, h3⟩ := lowIf_get e
  obtain ⟨⟨xs, hx⟩, _⟩ := R.nodeψ hG (mem_ads.mpr ⟨d, m⟩)
  cases s with
  | no => exact h2.elim
  | feed => exact h2.elim
  | v t' k' =>
    obtain ⟨rfl, hk⟩ := h2
    rcases h3 with h3 | h3
    · have := (a.own d' c mF (.inr h3)).1
      rw [hx] at this; cases this
    · rcases a.al d' c mF with z | ⟨j', m', d'', G', q1, q2, q3, q4⟩
      · rw [hx] at z; cases z
      · obtain ⟨o1, o2, o3, o4⟩ := R.own j t k' G d c h1 hG m (owns_mono o hk)
        by_cases ej : j' = j
        · subst ej
          rw [hG] at q2
          cases q2
          have := uniq_pos m q3 o4
          obtain ⟨b1, b2⟩ := h3 m' q1 t k rfl
          rcases o with o | o <;> omega
        · exact o2 j' G' ej q2 (mem_ads.mpr ⟨d'', q3⟩)
/-- a slot gets a value -/
theorem Rel.put {i k : Nat} {t : Tr} {v : V} {F : FP} (R : Rel K H0 fd B ρ σ H ψ Y) (r : Rep K H fd t v F) (s : Sep ρ ψ F)
    (ow : ∀ d a, (d, a) ∈ F → owns d k → H0 a = none ∧ (∀ (j : Nat) (G : FP), j ≠ i → ψ[j]? = some G → a ∉ ads G) ∧ (∀ y ∈ Y, a ∉ ads y.2.2) ∧ (ads F).count a ≤ 1)
    (dm : ∀ a, a ∈ ads F → H0 a = none ∨ a ∈ B) : Rel K H0 fd B (ρ.set i (.v t k)) (σ.set i (some v)) H (ψ.set i F) Y where
  lns := by rw [List.length_set, List.length_set]; exact R.lns
  lnp := by rw [List.length_set, List.length_set]; exact R.lnp
  rep := fun j t' k' h => by
    by_cases e : i = j
    · subst e
      have hi : i < ρ.length := by have := (List.getElem?_eq_some_iff.mp h).1; simpa using this
      rw [List.getElem?_set_self hi] at h
      cases h
      exact ⟨v, F, List.getElem?_set_self (by rw [R.lns]; exact hi), List.getElem?_set_self (by rw [R.lnp]; exact hi), r⟩
    · rw [List.getElem?_set_ne e] at h
      obtain ⟨v', F', h1, h2, h3⟩ := R.rep j t' k' h
      exact ⟨v', F', by rw [List.getElem?_set_ne e]; exact h1, by rw [List.getElem?_set_ne e]; exact h2, h3⟩
  dead := fun j h => by
    by_cases e : i = j
    · subst e
      have hi : i < ρ.length := by have := (List.getElem?_eq_some_iff.mp h).1; simpa using this
      rw [List.getElem?_set_self hi] at h
      cases h
    · rw [List.getElem?_set_ne e] at h ⊢
      exact R.dead j h
  fed := fun j h => by
    by_cases e : i = j
    · subst e
      have hi : i < ρ.length := by have := (List.getElem?_eq_some_iff.mp h).1; simpa using this
      rw [List.getElem?_set_self hi] at h
      cases h
    · rw [List.getElem?_set_ne e] at h
      obtain ⟨h1, a, s, h2, h3⟩ := R.fed j h
      exact ⟨by rw [List.getElem?_set_ne e]; exact h1, a, s, h2, by rw [List.getElem?_set_ne e]; exact h3⟩
  tmp := R.tmp
  own := fun j t' k' G d a h hG m o => by
    by_cases e : i = j
    · subst e
      have hi : i < ρ.length := by have := (List.getElem?_eq_some_iff.mp h).1; simpa using this
      rw [List.getElem?_set_self hi] at h
      cases h
      rw [List.getElem?_set_self (by rw [R.lnp]; exact hi)] at hG
      cases hG
      obtain ⟨h1, h2, h3, h4⟩ := ow d a m o
      refine ⟨h1, fun j G hj hG => ?_, h3, h4⟩
      rw [List.getElem?_set_ne (Ne.symm hj)] at hG
      exact h2 j G hj hG
    · rw [List.getElem?_set_ne e] at h hG
      obtain ⟨h1, h2, h3, h4⟩ := R.own j t' k' G d a h hG m o
      refine ⟨h1, fun l G' hl hG' => ?_, h3, h4⟩
      by_cases el : i = l
      · subst el
        have hi : i < ψ.length := by have := (List.getElem?_eq_some_iff.mp hG').1; simpa using this
        rw [List.getElem?_set_self hi] at hG'
        cases hG'
        exact s j t' k' G d a h hG m o
      · rw [List.getElem?_set_ne el] at hG'
        exact h2 l G' hl hG'
  dom := fun a h => by
    rcases h with ⟨G, hm, ha⟩ | h
    · rcases List.mem_or_eq_of_mem_set hm with hm | rfl
      · exact R.dom a (.inl ⟨G, hm, ha⟩)
      · exact dm a ha
    · exact R.dom a (.inr h)
  ext := R.ext
  fok := R.fok
theorem Rel.domR {rd : RD} {r : Tr × Nat} {v : V} {F : FP} (R : Rel K H0 fd B ρ σ H ψ Y) (a : Res K fd ψ rd H r v H' F) : ∀ c, c ∈ ads F → H0 c = none ∨ c ∈ B := fun c m => by
  obtain ⟨d, m⟩ := mem_ads.mp m
  rcases a.al d c m with z | ⟨j, m', d'', G', q1, q2, q3, q4⟩
  · exact .inl (R.none0 z (a.rep.node m).2)
  · exact R.dom c (.inl ⟨G', List.mem_of_getElem? q2, mem_ads.mpr ⟨d'', q3⟩⟩)
theorem Rel.ownR {rd : RD} {r : Tr × Nat} {v : V} {F : FP} (R : Rel K H0 fd B ρ σ H ψ Y) (a : Res K fd ψ rd H r v H' F) : ∀ d c, (d, c) ∈ F → owns d r.2 → H0 c = none ∧ (∀ (j : Nat) (G : FP), ψ[j]? = some G → c ∉ ads G) ∧ (∀ y ∈ Y, c ∉ ads y.2.2) ∧ (ads F).count c ≤ 1 := fun d c m o => by
  obtain ⟨h1, h2⟩ := a.own d c m o
  refine ⟨R.none0 h1 (a.rep.node m).2, fun j G hG z => ?_, fun y hy z => ?_, h2⟩
  · obtain ⟨⟨xs, e⟩, _⟩ := R.nodeψ hG z
    rw [h1] at e; cases e
  · obtain ⟨⟨xs, e⟩, _⟩ := R.nodeY hy z
    rw [h1] at e; cases e
theorem Rel.set {i : Nat} {rd : RD} {r : Tr × Nat} {v : V} {F : FP} (R : Rel K H0 fd B ρ σ H ψ Y) (a : Res K fd ψ rd H r v H' F) : Rel K H0 fd B ((lowIf r.2 rd ρ).set i (.v r.1 r.2)) (σ.set i (some v)) H' (ψ.set i F) Y :=
  ((R.low r.2 rd).grow a.ext a.fok).put a.rep (R.sep a) (fun d c m o => let ⟨h1, h2, h3, h4⟩ := R.ownR a d c m o; ⟨h1, fun j G _ hG => h2 j G hG, h3, h4⟩) (R.domR a)
/-- a slot dies -/
theorem Rel.kill {i : Nat} (R : Rel K H0 fd B ρ σ H ψ Y) : Rel K H0 fd B (ρ.set i .no) σ H (ψ.set i []) Y where
  lns := by rw [List.length_set]; exact R.lns
  lnp := by rw [List.length_set, List.length_set]; exact R.lnp
  rep := fun j t' k' h => by
    by_cases e : i = j
    · subst e
      have hi : i < ρ.length := by have := (List.getElem?_eq_some_iff.mp h).1; simpa using this
      rw [List.getElem?_set_self hi] at h
      cases h
    · rw [List.getElem?_set_ne e] at h
      obtain ⟨v', F', h1, h2, h3⟩ := R.rep j t' k' h
      exact ⟨v', F', h1, by rw [List.getElem?_set_ne e]; exact h2, h3⟩
  dead := fun j h => by
    by_cases e : i = j
    · subst e
      have hi : i < ρ.length := by have := (List.getElem?_eq_some_iff.mp h).1; simpa using this
      exact List.getElem?_set_self (by rw [R.lnp]; exact hi)
    · rw [List.getElem?_set_ne e] at h ⊢
      exact R.dead j h
  fed := fun j h => by
    by_cases e : i = j
    · subst e
      have hi : i < ρ.length := by have := (List.getElem?_eq_some_iff.mp h).1; simpa using this
      rw [List.getElem?_set_self hi] at h
      cases h
    · rw [List.getElem?_set_ne e] at h
      obtain ⟨h1, h2⟩ := R.fed j h
      exact ⟨by rw [List.getElem?_set_ne e]; exact h1, h2⟩
  tmp := R.tmp
  own := fun j t' k' G d a h hG m o => by
    by_cases e : i = j
    · subst e
      have hi : i < ρ.length := by have := (List.getElem?_eq_some_iff.mp h).1; simpa using this
      rw [List.getElem?_set_self hi] at h
      cases h
    · rw [List.getElem?_set_ne e] at h hG
      obtain ⟨h1, h2, h3, h4⟩ := R.own j t' k' G d a h hG m o
      refine ⟨h1, fun l G' hl hG' => ?_, h3, h4⟩
      by_cases el : i = l
      · subst el
        have hi : i < ψ.length := by have := (List.getElem?_eq_some_iff.mp hG').1; simpa using this
        rw [List.getElem?_set_self hi] at hG'
        cases hG'
        exact fun z => (nomatch z)
      · rw [List.getElem?_set_ne el] at hG'
        exact h2 l G' hl hG'
  dom := fun a h => by
    rcases h with ⟨G, hm, ha⟩ | h
    · rcases List.mem_or_eq_of_mem_set hm with hm | rfl
      · exact R.dom a (.inl ⟨G, hm, ha⟩)
      · cases ha
    · exact R.dom a (.inr h)
  ext := R.ext
  fok := R.fok
/-- a temporary comes beside -/
theorem Rel.push {y : Tmp} (R : Rel K H0 fd B ρ σ H ψ Y) (r : Rep K H fd y.1 y.2.1 y.2.2) (s : Sep ρ ψ y.2.2) (dm : ∀ a, a ∈ ads y.2.2 → H0 a = none ∨ a ∈ B) : Rel K H0 fd B ρ σ H ψ (y :: Y) where
  lns := R.lns
  lnp := R.lnp
  rep := R.rep
  dead := R.dead
  fed := R.fed
  tmp := fun z hz => by
    rcases List.mem_cons.mp hz with rfl | hz
    · exact r
    · exact R.tmp z hz
  own := fun i t k F d a h1 h2 h3 h4 => by
    obtain ⟨p, q, u, w⟩ := R.own i t k F d a h1 h2 h3 h4
    refine ⟨p, q, fun z hz => ?_, w⟩
    rcases List.mem_cons.mp hz with rfl | hz
    · exact s i t k F d a h1 h2 h3 h4
    · exact u z hz
  dom := fun a h => by
    rcases h with h | ⟨z, hz, m⟩
    · exact R.dom a (.inl h)
    · rcases List.mem_cons.mp hz with rfl | hz
      · exact dm a m
      · exact R.dom a (.inr ⟨z, hz, m⟩)
  ext := R.ext
  fok := R.fok
theorem FeedOk.write {p : Addr} {o : HO} (f : FeedOk fd H) (h : p ∉ fd) : FeedOk fd (L2.upd H p o) := by
  rcases f with rfl | ⟨a, s, ns, p', c, x, rfl, ne, h1, h2, r⟩
  · exact .inl rfl
  · simp only [List.mem_cons, List.not_mem_nil, or_false, not_or] at h
    exact .inr ⟨a, s, ns, p', c, x, rfl, ne, by rw [upd_ne (Ne.symm h.1)]; exact h1, by rw [upd_ne (Ne.symm h.2)]; exact h2, r⟩
/-- the list of a slot is changed: ts', xs', G' in place of what was -/
theorem Rel.mut {i k k' : Nat} {ts ts' : List Tr} {xs xs' : List V} {G G' : FP} {p : Addr} (R : Rel K H0 fd B ρ σ H ψ Y) (hi : ρ[i]? = some (.v (.ls ts) k)) (hk : 1 ≤ k) (hψ : ψ[i]? = some ((0, p) :: up G)) (hσ : σ[i]? = some (some (.ref p))) (hp : H p = some (.lst xs)) (hpf : p ∉ fd)
    (r : RepL K H fd ts' xs' G') (hz : xs'.length ≤ sizeLine) (np : p ∉ ads G') (s : ∀ (j : Nat) (t : Tr) (k : Nat) (G : FP) (d : Nat) (a : Addr), j ≠ i → ρ[j]? = some (.v t k) → ψ[j]? = some G → (d, a) ∈ G → owns d k → a ∉ ads G')
    (ow : ∀ d a, (d, a) ∈ G' → owns (d + 1) k' → H0 a = none ∧ (∀ (j : Nat) (G : FP), j ≠ i → ψ[j]? = some G → a ∉ ads G) ∧ (∀ y ∈ Y, a ∉ ads y.2.2) ∧ (ads G').count a ≤ 1)
    (dm : ∀ a, a ∈ ads G' → H0 a = none ∨ a ∈ B) : Rel K H0 fd B (ρ.set i (.v (.ls ts') k')) σ (L2.upd H p (.lst xs')) (ψ.set i ((0, p) :: up G')) Y := by
  have hil : i < ρ.length := (List.getElem?_eq_some_iff.mp hi).1
  obtain ⟨o1, o2, o3, o4⟩ := R.own i (.ls ts) k _ 0 p hi hψ List.mem_cons_self (.inl hk)
  have R1 : Rel K H0 fd B (ρ.set i .no) σ (L2.upd H p (.lst xs')) (ψ.set i []) Y := by
    have Rk := R.kill (i := i)
    refine ⟨Rk.lns, Rk.lnp, fun j t k h => ?_, Rk.dead, fun j h => ?_, fun y hy => ?_, Rk.own, Rk.dom, fun b o e n => ?_, R.fok.write hpf⟩
    · obtain ⟨v, F, h1, h2, h3⟩ := Rk.rep j t k h
      have ne : i ≠ j := fun e => by
        subst e
        rw [List.getElem?_set_self hil] at h; cases h
      refine ⟨v, F, h1, h2, h3.keeps (Keeps.upd hp ?_)⟩
      rw [List.getElem?_set_ne ne] at h2
      exact o2 j F (Ne.symm ne) h2
    · exact Rk.fed j h
    · exact (R.tmp y hy).keeps (Keeps.upd hp (o3 y hy))
    · have nb : b ≠ p := fun z => by subst z; rw [o1] at e; cases e
      rw [upd_ne nb]
      exact R.ext b o e n
  have rp : Rep K (L2.upd H p (.lst xs')) fd (.ls ts') (.ref p) ((0, p) :: up G') := by
    refine ⟨p, xs', G', rfl, ?_, hz, upd_same, hpf, rfl⟩
    have : ∀ {us : List Tr} {ys : List V} {A : FP}, RepL K H fd us ys A → p ∉ ads A → RepL K (L2.upd H p (.lst xs')) fd us ys A := fun {us ys A} q n => q.keeps (Keeps.upd hp n)
    exact this r np
  have R2 := R1.put (i := i) (k := k') rp (fun j t k G d a h hG m o => ?_) (fun d a m o => ?_) (fun a m => ?_)
  · rw [List.set_set, List.set_set] at R2
    have e : σ.set i (some (.ref p)) = σ := by
      apply List.ext_getElem?
      intro j
      by_cases ej : i = j
      · subst ej
        rw [List.getElem?_set_self (by rw [R.lns]; exact hil), hσ]
      · rw [List.getElem?_set_ne ej]
    rw [e] at R2
    exact R2
  · have ne : i ≠ j := fun e => by
      subst e
      rw [List.getElem?_set_self hil] at h; cases h
    rw [List.getElem?_set_ne ne] at h hG
    intro z
    rcases List.mem_cons.mp (show a ∈ p :: ads (up G') from z) with z | z
    · subst z
      exact o2 j G (Ne.symm ne) hG (mem_ads.mpr ⟨d, m⟩)
    · rw [ads_up] at z
      exact s j t k G d a (Ne.symm ne) h hG m o z
  · rcases List.mem_cons.mp m with e | m
    · cases e
      refine ⟨o1, fun j G hj hG => ?_, o3, ?_⟩
      · rw [List.getElem?_set_ne (Ne.symm hj)] at hG
        exact o2 j G hj hG
      · show List.count p (p :: ads (up G')) ≤ 1
        rw [List.count_cons_self, ads_up, List.count_eq_zero_of_not_mem np]; exact Nat.le_refl 1
    · obtain ⟨d', rfl, m'⟩ := mem_up.mp m
      obtain ⟨q1, q2, q3, q4⟩ := ow d' a m' o
      refine ⟨q1, fun j G hj hG => ?_, q3, ?_⟩
      · rw [List.getElem?_set_ne (Ne.symm hj)] at hG
        exact q2 j G hj hG
      · have ne : p ≠ a := fun z => np (by rw [z]; exact mem_ads.mpr ⟨_, m'⟩)
        show List.count a (p :: ads (up G')) ≤ 1
        rw [List.count_cons_of_ne ne, ads_up]; exact q4
  · rcases List.mem_cons.mp (show a ∈ p :: ads (up G') from m) with z | z
    · subst z; exact .inl o1
    · rw [ads_up] at z; exact dm a z
end
end VL

set_option Elab.async false
set_option linter.all false
set_option maxRecDepth 100000
set_option maxHeartbeats 4000000
/-! VL7: statements, loops -/
namespace VL
open PySem PySem.Spec PyProof.Rows L2
theorem up_inj : ∀ {F G : FP}, up F = up G → F = G
  | [], [], _ => rfl
  | [], _ :: _, h => by cases h
  | _ :: _, [], h => by cases h
  | (d, a) :: F, (d', a') :: G, h => by
    have h' : (d + 1, a) :: up F = (d' + 1, a') :: up G := h
    obtain ⟨h1, h2⟩ := List.cons.inj h'
    simp only [Prod.mk.injEq] at h1
    rw [up_inj h2, show d = d' by omega, h1.2]
inductive Fl where
  | nx (ρ : En) | rt (t : Tr) (k : Nat) | bk (ρ : En) | ct (ρ : En)
abbrev Sx := En → M Fl
structure RetOk (K : PySem.W.Frag) (H0 : Hp) (fd B : List Addr) (t : Tr) (k : Nat) (v : V) (H' : Hp) (F : FP) : Prop where
  ext : ExtF fd H0 H'
  fok : FeedOk fd H'
  rep : Rep K H' fd t v F
  own : ∀ d a, (d, a) ∈ F → owns d k → H0 a = none ∧ (ads F).count a ≤ 1
  dom : ∀ a, a ∈ ads F → H0 a = none ∨ a ∈ B
def FlP (K : PySem.W.Frag) (H0 : Hp) (fd B : List Addr) (Y : List Tmp) (D : Ends) : Fl → Prop
  | .nx ρ => ∀ σ H ψ, Rel K H0 fd B ρ σ H ψ Y → D.nx σ H
  | .bk ρ => ∀ σ H ψ, Rel K H0 fd B ρ σ H ψ Y → D.bk σ H
  | .ct ρ => ∀ σ H ψ, Rel K H0 fd B ρ σ H ψ Y → D.ct σ H
  | .rt t k => ∀ v H F, RetOk K H0 fd B t k v H F → D.rt v H
def TSv (K : PySem.W.Frag) (W : WH) (s : Sx) : TS := fun D σ H => ∃ H0 fd B ρ ψ Y, Rel K H0 fd B ρ σ H ψ Y ∧ good (W H0 fd) (s ρ) (FlP K H0 fd B Y D)
abbrev VS (X : Cx) (W : WH) (st : Stmt) (s : Sx) : Prop := PS X st (TSv X.K W s)
abbrev VSs (X : Cx) (W : WH) (st : List Stmt) (s : Sx) : Prop := PSs X st (TSv X.K W s)
section
variable {X : Cx} {W : WH}
def sSkip : Sx := fun ρ => .ret (.nx ρ)
def sBreak : Sx := fun ρ => .ret (.bk ρ)
def sCont : Sx := fun ρ => .ret (.ct ρ)
def sSeq (s t : Sx) : Sx := fun ρ => (s ρ).bind fun fl => match fl with
  | .nx ρ' => t ρ'
  | x => .ret x
theorem vss_nil : VSs X W [] sSkip := pss_imp pss_nil fun D σ H q => by
  obtain ⟨H0, fd, B, ρ, ψ, Y, R, g⟩ := q
  exact g σ H ψ R
theorem vss_cons {st : Stmt} {rest : List Stmt} {s t : Sx} (h1 : VS X W st s) (h2 : VSs X W rest t) : VSs X W (st :: rest) (sSeq s t) := pss_imp (pss_cons h1 h2) fun D σ H q => by
  obtain ⟨H0, fd, B, ρ, ψ, Y, R, g⟩ := q
  unfold sSeq at g
  rw [good_bind] at g
  refine ⟨H0, fd, B, ρ, ψ, Y, R, good_imp g fun fl g1 => ?_⟩
  cases fl with
  | nx ρ' => exact fun σ' H' ψ' R' => ⟨H0, fd, B, ρ', ψ', Y, R', g1⟩
  | bk ρ' => exact g1
  | ct ρ' => exact g1
  | rt t k => exact g1
theorem vss_one {st : Stmt} {s : Sx} (h : VS X W st s) : VSs X W [st] s := pss_one h
theorem vs_pass {pos : Pos} : VS X W (.Pass pos) sSkip := ps_imp ps_pass fun D σ H q => by
  obtain ⟨H0, fd, B, ρ, ψ, Y, R, g⟩ := q
  exact g σ H ψ R
theorem vs_break {pos : Pos} : VS X W (.Break pos) sBreak := ps_imp ps_break fun D σ H q => by
  obtain ⟨H0, fd, B, ρ, ψ, Y, R, g⟩ := q
  exact g σ H ψ R
theorem vs_continue {pos : Pos} : VS X W (.Continue pos) sCont := ps_imp ps_continue fun D σ H q => by
  obtain ⟨H0, fd, B, ρ, ψ, Y, R, g⟩ := q
  exact g σ H ψ R
def sIf (c : Tx) (a b : Sx) : Sx := fun ρ => (c ρ).bind fun x => if x then a ρ else b ρ
theorem vs_if {c : Expr} {a b : List Stmt} {sc : Tx} {s t : Sx} {pos : Pos} (hc : VT X W c sc) (ha : VSs X W a s) (hb : VSs X W b t) : VS X W (.If c a b pos) (sIf sc s t) := ps_imp (ps_if hc ha hb) fun D σ H q => by
  obtain ⟨H0, fd, B, ρ, ψ, Y, R, g⟩ := q
  unfold sIf at g
  rw [good_bind] at g
  refine ⟨H0, fd, B, ρ, ψ, Y, R, good_imp g fun b g1 H1 x f => ?_⟩
  cases b with
  | true => rw [if_pos rfl]; exact ⟨H0, fd, B, ρ, ψ, Y, R.grow x f, g1⟩
  | false => rw [if_neg Bool.false_ne_true]; exact ⟨H0, fd, B, ρ, ψ, Y, R.grow x f, g1⟩
def sRet (a : Ex) : Sx := fun ρ => (a ρ).bind fun r => .ret (.rt r.1 r.2)
theorem vs_ret {e : Expr} {s : Ex} {rd : RD} {pos : Pos} (h : VE X W e s rd) : VS X W (.Return (some e) pos) (sRet s) := ps_imp (ps_ret h) fun D σ H q => by
  obtain ⟨H0, fd, B, ρ, ψ, Y, R, g⟩ := q
  unfold sRet at g
  rw [good_bind] at g
  refine ⟨H0, fd, B, ρ, ψ, Y, R, good_imp g fun r g1 v H' F a => g1 v H' F ⟨R.ext.trans a.ext, a.fok, a.rep, fun d c m o => ?_, R.domR a⟩⟩
  obtain ⟨h1, _, _, h2⟩ := R.ownR a d c m o
  exact ⟨h1, h2⟩
def sRetN : Sx := fun _ => .ret (.rt .non 99)
theorem vs_retN {pos : Pos} : VS X W (.Return none pos) sRetN := ps_imp ps_retN fun D σ H q => by
  obtain ⟨H0, fd, B, ρ, ψ, Y, R, g⟩ := q
  exact g .non H [] ⟨R.ext, R.fok, ⟨rfl, rfl⟩, fun _ _ m => (nomatch m), fun _ m => (nomatch m)⟩
/-- return x, with what x owns -/
def sRetV (i : Nat) : Sx := fun ρ => match ρ[i]? with
  | some (.v t k) => .ret (.rt t k)
  | _ => .bad
theorem vs_retV {i : Nat} {x : Str} {p pos : Pos} (h : PE X (.Name x p) (tVar i)) : VS X W (.Return (some (.Name x p)) pos) (sRetV i) := ps_imp (ps_ret h) fun D σ H q => by
  obtain ⟨H0, fd, B, ρ, ψ, Y, R, g⟩ := q
  unfold sRetV at g
  cases e : ρ[i]? with
  | none => rw [e] at g; exact g.elim
  | some o =>
    cases o with
    | no => rw [e] at g; exact g.elim
    | feed => rw [e] at g; exact g.elim
    | v t k =>
      rw [e] at g
      obtain ⟨v, F, h1, h2, h3⟩ := R.rep i t k e
      refine ⟨v, h1, g v H F ⟨R.ext, R.fok, h3, fun d c m o => ?_, fun c m => R.dom c (.inl ⟨F, List.mem_of_getElem? h2, m⟩)⟩⟩
      obtain ⟨o1, _, _, o4⟩ := R.own i t k F d c e h2 m o
      exact ⟨o1, o4⟩
/-! ### x = e -/
def sAsg (i : Nat) (rd : RD) (a : Ex) : Sx := fun ρ => (a ρ).bind fun r => .ret (.nx ((lowIf r.2 rd ρ).set i (.v r.1 r.2)))
theorem vs_asg {i : Nat} {x : Str} {e : Expr} {s : Ex} {rd : RD} {pos pos' : Pos} (hN : X.N.Nodup) (hi : X.N[i]? = some x) (hx : Loc X.env.scope x) (he : VE X W e s rd) (hs : swapsWith e (some (.Name x pos')) pos.line X.env = pure false := by rfl) (hf : X.fn x = true ∨ X.env.scope.names.lookup x = some .local := by first | exact .inl rfl | exact .inr rfl | assumption) :
    VS X W (.Assign [.Name x pos'] e pos) (sAsg i rd s) := ps_imp (ps_set hN hi hx he hs hf) fun D σ H q => by
  obtain ⟨H0, fd, B, ρ, ψ, Y, R, g⟩ := q
  unfold sAsg at g
  rw [good_bind] at g
  exact ⟨H0, fd, B, ρ, ψ, Y, R, good_imp g fun r g1 v H' F a => g1 _ _ _ (R.set (i := i) a)⟩
/-- x = y, y not asked any more -/
def sMove (i j : Nat) : Sx := fun ρ => match ρ[j]? with
  | some (.v t k) => .ret (.nx ((ρ.set j .no).set i (.v t k)))
  | _ => .bad
theorem vs_move {i j : Nat} {x y : Str} {p pos pos' : Pos} (hN : X.N.Nodup) (hi : X.N[i]? = some x) (hx : Loc X.env.scope x) (he : PE X (.Name y p) (tVar j)) (hs : swapsWith (.Name y p) (some (.Name x pos')) pos.line X.env = pure false := by rfl) (hf : X.fn x = true ∨ X.env.scope.names.lookup x = some .local := by first | exact .inl rfl | exact .inr rfl | assumption) :
    VS X W (.Assign [.Name x pos'] (.Name y p) pos) (sMove i j) := ps_imp (ps_set hN hi hx he hs hf) fun D σ H q => by
  obtain ⟨H0, fd, B, ρ, ψ, Y, R, g⟩ := q
  unfold sMove at g
  cases e : ρ[j]? with
  | none => rw [e] at g; exact g.elim
  | some o =>
    cases o with
    | no => rw [e] at g; exact g.elim
    | feed => rw [e] at g; exact g.elim
    | v t k =>
      rw [e] at g
      obtain ⟨v, F, h1, h2, h3⟩ := R.rep j t k e
      have hj : j < ρ.length := (List.getElem?_eq_some_iff.mp e).1
      refine ⟨v, h1, g _ _ _ ((R.kill (i := j)).put (i := i) h3 (fun l t' k' G d a h hG m o z => ?_) (fun d a m o => ?_) fun a m => R.dom a (.inl ⟨F, List.mem_of_getElem? h2, m⟩))⟩
      · have ne : j ≠ l := fun e => by
          subst e
          rw [List.getElem?_set_self hj] at h; cases h
        rw [List.getElem?_set_ne ne] at h hG
        exact (R.own l t' k' G d a h hG m o).2.1 j F ne h2 z
      · obtain ⟨o1, o2, o3, o4⟩ := R.own j t k F d a e h2 m o
        refine ⟨o1, fun l G hl hG => ?_, o3, o4⟩
        by_cases el : j = l
        · subst el
          rw [List.getElem?_set_self (by rw [R.lnp]; exact hj)] at hG
          cases hG
          exact fun z => (nomatch z)
        · rw [List.getElem?_set_ne el] at hG
          exact o2 l G (Ne.symm el) hG
/-! ### x op= e, to scalars -/
def sAug (i : Nat) (f : Tr → Tr → Option Tr) (a : Ex) : Sx := fun ρ => match ρ[i]? with
  | some (.v t _) => (a ρ).bind fun r => match f t r.1 with
    | some z => .ret (.nx (ρ.set i (.v z 99)))
    | none => .bad
  | _ => .bad
theorem vs_aug {i : Nat} {x : Str} {e : Expr} {op : Operator} {f : Tr → Tr → Option Tr} {s : Ex} {rd : RD} {pos pos' : Pos} (ho : OpS X (inplaceOp op) f) (hN : X.N.Nodup) (hi : X.N[i]? = some x) (hx : Loc X.env.scope x) (he : VE X W e s rd) (hf : X.fn x = true ∨ X.env.scope.names.lookup x = some .local := by first | exact .inl rfl | exact .inr rfl | assumption) :
    VS X W (.AugAssign (.Name x pos') op e pos) (sAug i f s) := by
  obtain ⟨r, hr, h⟩ := ho
  refine ps_imp (ps_aug hN hi hx he hr hf) fun D σ H q => ?_
  obtain ⟨H0, fd, B, ρ, ψ, Y, R, g⟩ := q
  unfold sAug at g
  cases e : ρ[i]? with
  | none => rw [e] at g; exact g.elim
  | some o =>
    cases o with
    | no => rw [e] at g; exact g.elim
    | feed => rw [e] at g; exact g.elim
    | v t k =>
      rw [e] at g
      have g : good (W H0 fd) ((s ρ).bind fun r => match f t r.1 with | some z => M.ret (Fl.nx (ρ.set i (.v z 99))) | none => M.bad) (FlP X.K H0 fd B Y D) := g
      rw [good_bind] at g
      obtain ⟨v, F, h1, h2, h3⟩ := R.rep i t k e
      refine ⟨v, h1, H0, fd, B, ρ, ψ, Y, R, good_imp g fun r2 g1 y H' F2 a => ?_⟩
      cases e2 : f t r2.1 with
      | none => rw [e2] at g1; exact g1.elim
      | some z =>
        rw [e2] at g1
        obtain ⟨hs, k2⟩ := h H' fd t r2.1 z v y F F2 (fun z' H2 => D.nx (σ.set i (some z')) H2) (h3.ext a.ext R.fok) a.rep e2
        refine k2 (g1 _ _ _ ((R.grow a.ext a.fok).put (i := i) (.sc hs) (fun _ _ _ _ _ _ _ _ _ _ m => (nomatch m)) (fun _ _ m => (nomatch m)) fun _ m => (nomatch m)))
def oAddS : Tr → Tr → Option Tr
  | .int i, .int j => some (.int (i + j))
  | _, _ => none
theorem os_iadd : OpS X (inplaceOp .Add) oAddS := ⟨_, iop_add, fun H fd tx ty z x y F1 F2 Q h1 h2 e => by
  unfold oAddS at e
  split at e
  · cases e; obtain rfl := rep_int h1; obtain rfl := rep_int h2
    exact ⟨rfl, fun q => ⟨_, _, rfl, rfl, q⟩⟩
  · cases e⟩
theorem os_isub : OpS X (inplaceOp .Sub) oSub := ⟨_, iop_sub, fun H fd tx ty z x y F1 F2 Q h1 h2 e => by
  unfold oSub at e
  split at e
  · cases e; obtain rfl := rep_int h1; obtain rfl := rep_int h2
    exact ⟨rfl, fun q => ⟨_, _, rfl, rfl, q⟩⟩
  · cases e⟩
theorem os_imul : OpS X (inplaceOp .Mult) oMul := ⟨_, iop_mul, fun H fd tx ty z x y F1 F2 Q h1 h2 e => by
  unfold oMul at e
  split at e
  · split at e
    · rename_i c
      cases e; obtain rfl := rep_int h1; obtain rfl := rep_int h2
      refine ⟨rfl, fun q => ⟨_, _, rfl, rfl, ?_, q⟩⟩
      rcases Bool.or_eq_true_iff.mp c with c | c
      · exact .inl (small_ok c)
      · exact .inr (small_ok c)
    · cases e
  · cases e⟩
theorem os_ifdv : OpS X (inplaceOp .FloorDiv) oFdv := ⟨_, iop_fdiv, fun H fd tx ty z x y F1 F2 Q h1 h2 e => by
  unfold oFdv at e
  split at e
  · split at e
    · rename_i c
      cases e; obtain rfl := rep_int h1; obtain rfl := rep_int h2
      obtain ⟨c1, c2⟩ := Bool.and_eq_true_iff.mp c
      exact ⟨rfl, fun q => ⟨_, _, rfl, rfl, ⟨of_decide_eq_true c1, of_decide_eq_true c2⟩, q⟩⟩
    · cases e
  · cases e⟩
/-! ### an expression alone; x.append(e) -/
def sExpr (a : Ex) : Sx := fun ρ => (a ρ).bind fun _ => .ret (.nx ρ)
theorem vs_expr {e : Expr} {s : Ex} {rd : RD} {pos : Pos} (he : VE X W e s rd) (hs : swapsWith e none pos.line X.env = pure false := by rfl) : VS X W (.Expr e pos) (sExpr s) := ps_imp (ps_expr he hs) fun D σ H q => by
  obtain ⟨H0, fd, B, ρ, ψ, Y, R, g⟩ := q
  unfold sExpr at g
  rw [good_bind] at g
  exact ⟨H0, fd, B, ρ, ψ, Y, R, good_imp g fun r g1 v H' F a => g1 _ _ _ (R.grow a.ext a.fok)⟩
def isLs : Option Sl → Bool
  | some (.v (.ls _) _) => true
  | _ => false
theorem isLs_of {o : Option Sl} (h : isLs o = true) : ∃ ts k, o = some (.v (.ls ts) k) := by
  unfold isLs at h
  split at h
  · exact ⟨_, _, rfl⟩
  · cases h
def sApp (i : Nat) (rd : RD) (a : Ex) : Sx := fun ρ => if isLs ρ[i]? then (a ρ).bind fun r => match (lowIf r.2 rd ρ)[i]? with
  | some (.v (.ls ts) k) => if Nat.ble 1 k && Nat.blt ts.length 16777216 then .ret (.nx ((lowIf r.2 rd ρ).set i (.v (.ls (ts ++ [r.1])) (if Nat.ble 99 r.2 then k else if Nat.ble k 1 then k else 1)))) else .bad
  | _ => .bad
  else .bad
theorem vs_app {i : Nat} {x : Str} {e : Expr} {s : Ex} {rd : RD} {p apos cpos pos : Pos} (hv : PE X (.Name x p) (tVar i)) (he : VE X W e s rd)
    (hs : swapsWith (.Call (.Attribute (.Name x p) "append" apos) [e] [] cpos) none pos.line X.env = pure false := by rfl)
    (hbase : attributeBase (.Name x p) "append" X.env (eval (.Name x p) X.env) = eval (.Name x p) X.env := by rfl)
    (hfew : ((backTo cpos (starEach [e] X.env)).all (fun x => !x.1) && (backToKw cpos (keywordEach [] X.env)).all (fun x => x.1.isSome)
      && decide (([e] : List Expr).length + ([] : List Keyword).length + (if ([] : List Keyword).isEmpty then 0 else 1) < 30)) = true := by rfl)
    (hline : (apos.endLine == cpos.line) = true := by rfl) (hst : starEach (e :: []) X.env = (false, eval e X.env) :: starEach [] X.env := by rfl) (hplain : (backTo cpos (starEach [] X.env)).any (·.1) = false := by rfl) :
    VS X W (.Expr (.Call (.Attribute (.Name x p) "append" apos) [e] [] cpos) pos) (sApp i rd s) := by
  refine ps_imp (ps_expr (pe_bm PySem.F.plainAttrs_list PySem.F.slot_list_append PySem.F.type_list_append mt_append hv (pa_cons he pa_nil hst) hbase hfew hline hst hplain) hs) fun D σ H q => ?_
  obtain ⟨H0, fd, B, ρ, ψ, Y, R, g⟩ := q
  unfold sApp at g
  obtain ⟨c0, g⟩ := if_good g
  obtain ⟨ts0, k0, hslot⟩ := isLs_of c0
  rw [good_bind] at g
  obtain ⟨v, F, h1, h2, h3⟩ := R.rep i _ k0 hslot
  obtain ⟨p0, xs, G, rfl, hl, hz, hp, hpf, rfl⟩ := rep_ls h3
  refine ⟨_, h1, .inl ⟨rfl, _, SqL.of hp⟩, H0, fd, B, ρ, ψ, Y, R, good_imp g fun r g1 y H2 F2 a => ?_⟩
  have R2 := (R.low r.2 rd).grow a.ext a.fok
  cases e1 : (lowIf r.2 rd ρ)[i]? with
  | none => rw [e1] at g1; exact g1.elim
  | some s1 =>
    obtain ⟨s', q1, q2, _⟩ := lowIf_get e1
    rw [hslot] at q1; cases q1
    cases s1 with
    | no => exact q2.elim
    | feed => exact q2.elim
    | v t k =>
      obtain ⟨rfl, hk0⟩ := q2
      rw [e1] at g1
      obtain ⟨c, g2⟩ := if_good g1
      obtain ⟨c1, c2⟩ := Bool.and_eq_true_iff.mp c
      have hk1 : 1 ≤ k := Nat.le_of_ble_eq_true c1
      have hlen : xs.length < sizeLine := by
        rw [← hl.length, sizeLine_eq]
        exact Nat.le_of_ble_eq_true c2
      have hp2 : H2 p0 = some (.lst xs) := a.ext p0 _ hp hpf
      have hl2 : RepL X.K H2 fd ts0 xs G := by
        have := h3.ext a.ext R.fok
        obtain ⟨p1, xs1, G1, e3, hl1, _, hp1, _, e4⟩ := rep_ls this
        cases e3
        rw [hp2] at hp1
        cases hp1
        have e5 := (List.cons.inj e4).2
        have : G = G1 := up_inj e5
        rw [this]; exact hl1
      have sp := R.sep a
      obtain ⟨o1, o2, o3, o4⟩ := (R.low r.2 rd).own i _ k _ 0 p0 e1 h2 List.mem_cons_self (.inl hk1)
      have nG : p0 ∉ ads G := fun z => by
        have : 1 ≤ (ads G).count p0 := List.count_pos_iff.mpr z
        have e : (ads ((0, p0) :: up G)).count p0 = 1 + (ads G).count p0 := by
          show List.count p0 (p0 :: ads (up G)) = _
          rw [List.count_cons_self, ads_up, Nat.add_comm]
        omega
      have nF : p0 ∉ ads F2 := sp i _ k _ 0 p0 e1 h2 List.mem_cons_self (.inl hk1)
      refine ⟨p0, xs, y, rfl, rfl, hp2, hlen, ?_⟩
      refine g2 σ _ _ (R2.mut e1 hk1 h2 h1 hp2 hpf (hl2.append (show RepL X.K H2 fd [r.1] [y] F2 from ⟨y, [], F2, [], rfl, a.rep, ⟨rfl, rfl⟩, by simp⟩)) (by rw [List.length_append]; exact hlen) ?_ ?_ ?_ ?_)
      · rw [ads_append]
        intro z
        rcases List.mem_append.mp z with z | z
        · exact nG z
        · exact nF z
      · intro j t' k' G' d c hj h hG m o z
        rw [ads_append] at z
        rcases List.mem_append.mp z with z | z
        · exact ((R.low r.2 rd).own j t' k' G' d c h hG m o).2.1 i _ (Ne.symm hj) h2 (by show c ∈ p0 :: ads (up G); rw [ads_up]; exact List.mem_cons_of_mem _ z)
        · exact sp j t' k' G' d c h hG m o z
      · intro d c m o
        have hk' : 99 ≤ r.2 ∧ owns (d + 1) k := by
          by_cases c9 : Nat.ble 99 r.2 = true
          · rw [if_pos c9] at o
            exact ⟨Nat.le_of_ble_eq_true c9, o⟩
          · rw [if_neg c9] at o
            by_cases c8 : Nat.ble k 1 = true
            · rw [if_pos c8] at o
              have := Nat.le_of_ble_eq_true c8
              rcases o with o | o <;> omega
            · rw [if_neg c8] at o
              rcases o with o | o <;> omega
        obtain ⟨k9, o⟩ := hk'
        rw [ads_append, List.count_append]
        rcases List.mem_append.mp m with m | m
        · have mG : (d + 1, c) ∈ (0, p0) :: up G := List.mem_cons_of_mem _ (mem_up.mpr ⟨d, rfl, m⟩)
          obtain ⟨u1, u2, u3, u4⟩ := (R.low r.2 rd).own i _ k _ (d + 1) c e1 h2 mG o
          refine ⟨u1, u2, u3, ?_⟩
          rw [List.count_eq_zero_of_not_mem (sp i _ k _ (d + 1) c e1 h2 mG o)]
          have ne : p0 ≠ c := fun z => nG (by rw [z]; exact mem_ads.mpr ⟨d, m⟩)
          have e : (ads ((0, p0) :: up G)).count c = (ads G).count c := by
            show List.count c (p0 :: ads (up G)) = _
            rw [List.count_cons_of_ne ne, ads_up]
          omega
        · obtain ⟨u1, u2, u3, u4⟩ := R.ownR a d c m (.inr k9)
          refine ⟨u1, fun j G' hj hG => u2 j G' hG, u3, ?_⟩
          have nc : c ∉ ads G := fun z => by
            obtain ⟨d', z⟩ := mem_ads.mp z
            exact u2 i _ h2 (by show c ∈ p0 :: ads (up G); rw [ads_up]; exact List.mem_cons_of_mem _ (mem_ads.mpr ⟨d', z⟩))
          rw [List.count_eq_zero_of_not_mem nc, Nat.zero_add]
          exact u4
      · intro c m
        rw [ads_append] at m
        rcases List.mem_append.mp m with m | m
        · exact R.dom c (.inl ⟨_, List.mem_of_getElem? h2, by show c ∈ p0 :: ads (up G); rw [ads_up]; exact List.mem_cons_of_mem _ m⟩)
        · exact R.domR a c m
end
end VL

set_option Elab.async false
set_option linter.all false
set_option maxRecDepth 100000
set_option maxHeartbeats 4000000
/-! VL8: targets, what is walked, for, while, comprehensions -/
namespace VL
open PySem PySem.Spec PyProof.Rows L2
section
variable {X : Cx} {W : WH}
/-! ### targets -/
abbrev Gx := Tr → En → M En
def TGv (K : PySem.W.Frag) (W : WH) (g : Gx) : TG := fun v σ H Q => ∃ H0 fd B ρ ψ Y t F, Rel K H0 fd B ρ σ H ψ Y ∧ Rep K H fd t v F ∧ Sep ρ ψ F ∧ (∀ a, a ∈ ads F → H0 a = none ∨ a ∈ B) ∧
  good (W H0 fd) (g t ρ) fun ρ' => ∀ σ' ψ', Rel K H0 fd B ρ' σ' H ψ' Y → (∀ F', Sep ρ ψ F' → Sep ρ' ψ' F') → Q σ' H
def TGsv (K : PySem.W.Frag) (W : WH) (g : List Tr → En → M En) : TGs := fun vs σ H Q => ∃ H0 fd B ρ ψ Y ts F, Rel K H0 fd B ρ σ H ψ Y ∧ RepL K H fd ts vs F ∧ Sep ρ ψ F ∧ (∀ a, a ∈ ads F → H0 a = none ∨ a ∈ B) ∧
  good (W H0 fd) (g ts ρ) fun ρ' => ∀ σ' ψ', Rel K H0 fd B ρ' σ' H ψ' Y → (∀ F', Sep ρ ψ F' → Sep ρ' ψ' F') → Q σ' H
abbrev VG (X : Cx) (W : WH) (tg : Expr) (g : Gx) : Prop := PG X tg (TGv X.K W g)
abbrev VGs (X : Cx) (W : WH) (ts : List Expr) (g : List Tr → En → M En) : Prop := PGs X ts (TGsv X.K W g)
theorem pg_imp {X : Cx} {e : Expr} {t t' : TG} (h : PG X e t) (i : ∀ v σ H Q, t' v σ H Q → t v σ H Q) : PG X e t' := ⟨fun pins s σ H v u Q I r q => h.run pins s σ H v u Q I r (i v σ H Q q)⟩
theorem pgs_imp {X : Cx} {e : List Expr} {t t' : TGs} (h : PGs X e t) (i : ∀ v σ H Q, t' v σ H Q → t v σ H Q) : PGs X e t' := ⟨fun pins s σ H v u Q I r q => h.run pins s σ H v u Q I r (i v σ H Q q)⟩
def gN (i : Nat) : Gx := fun t ρ => .ret (ρ.set i (.v t (lv0 t)))
def gsN : List Tr → En → M En := fun ts ρ => match ts with
  | [] => .ret ρ
  | _ => .bad
def gsC (g : Gx) (gs : List Tr → En → M En) : List Tr → En → M En := fun ts ρ => match ts with
  | t :: r => (g t ρ).bind (gs r)
  | [] => .bad
def gT (n : Nat) (gs : List Tr → En → M En) : Gx := fun t ρ => match t with
  | .tp ts => if Nat.beq ts.length n then gs ts ρ else .bad
  | _ => .bad
theorem vg_name {i : Nat} {x : Str} {pos : Pos} (h : PG X (.Name x pos) (gName i)) : VG X W (.Name x pos) (gN i) := pg_imp h fun v σ H Q q => by
  obtain ⟨H0, fd, B, ρ, ψ, Y, t, F, R, r, s, dm, g⟩ := q
  refine g _ _ (R.put (i := i) r s (fun d a m o => ?_) dm) fun F' s' j t' k' G d a h hG m o => ?_
  · have o : owns d (lv0 t) := o
    unfold lv0 at o
    by_cases f : t.flat = true
    · rw [r.flat f] at m; cases m
    · rw [if_neg f] at o
      exact absurd o owns_zero
  · by_cases e : i = j
    · subst e
      have hi : i < ρ.length := by have := (List.getElem?_eq_some_iff.mp h).1; simpa using this
      rw [List.getElem?_set_self hi] at h
      rw [List.getElem?_set_self (by rw [R.lnp]; exact hi)] at hG
      cases hG
      cases h
      unfold lv0 at o
      by_cases f : t.flat = true
      · rw [r.flat f] at m; cases m
      · rw [if_neg f] at o
        exact absurd o owns_zero
    · rw [List.getElem?_set_ne e] at h hG
      exact s' j t' k' G d a h hG m o
theorem vgs_nil : VGs X W [] gsN := pgs_imp pgs_nil fun v σ H Q q => by
  obtain ⟨H0, fd, B, ρ, ψ, Y, ts, F, R, r, s, dm, g⟩ := q
  cases ts with
  | nil => exact ⟨r.1, g _ _ R fun _ z => z⟩
  | cons t ts => exact g.elim
theorem sep_sub {ρ : En} {ψ : List FP} {F F' : FP} (s : Sep ρ ψ F) (h : ∀ a, a ∈ ads F' → a ∈ ads F) : Sep ρ ψ F' := fun j t k G d a e hG m o z => s j t k G d a e hG m o (h a z)
theorem vgs_cons {e : Expr} {es : List Expr} {g : Gx} {gs : List Tr → En → M En} (h1 : VG X W e g) (h2 : VGs X W es gs) (hs : (assignEach (e :: es) X.env).map (·.2) = assign e X.env :: (assignEach es X.env).map (·.2) := by rfl) : VGs X W (e :: es) (gsC g gs) := pgs_imp (pgs_cons h1 h2 hs) fun v σ H Q q => by
  obtain ⟨H0, fd, B, ρ, ψ, Y, ts, F, R, r, s, dm, g⟩ := q
  cases ts with
  | nil => exact g.elim
  | cons t ts =>
    have g := good_bind.mp g
    obtain ⟨x, ys, G1, G2, rfl, r1, r2, rfl⟩ := r
    refine ⟨x, ys, rfl, H0, fd, B, ρ, ψ, Y, t, G1, R, r1, sep_sub s fun a m => by rw [ads_append]; exact List.mem_append_left _ m, fun a m => dm a (by rw [ads_append]; exact List.mem_append_left _ m), good_imp g fun ρ1 g1 σ1 ψ1 R1 S1 => ?_⟩
    exact ⟨H0, fd, B, ρ1, ψ1, Y, ts, G2, R1, r2, S1 _ (sep_sub s fun a m => by rw [ads_append]; exact List.mem_append_right _ m), fun a m => dm a (by rw [ads_append]; exact List.mem_append_right _ m), good_imp g1 fun ρ2 g2 σ2 ψ2 R2 S2 => g2 σ2 ψ2 R2 fun F' z => S2 F' (S1 F' z)⟩
theorem vg_tup {es : List Expr} {k : Nat} {gs : List Tr → En → M En} {n : Nat} {pos : Pos} (hc : X.calm = true) (h : VGs X W es gs) (hn : (assignEach es X.env).length = n := by rfl) (hst : (assignEach es X.env).findIdx? (·.1) = none := by rfl) : VG X W (.Tuple es k pos) (gT n gs) := pg_imp (pg_tup hc h hn hst) fun v σ H Q q => by
  obtain ⟨H0, fd, B, ρ, ψ, Y, t, F, R, r, s, dm, g⟩ := q
  cases t <;> first | exact g.elim | skip
  rename_i ts
  have g : good (W H0 fd) (if Nat.beq ts.length n then gs ts ρ else .bad) _ := g
  obtain ⟨c, g⟩ := if_good g
  obtain ⟨a, xs, G, rfl, hl, hz, hq, _, rfl⟩ := rep_tp r
  exact ⟨a, xs, rfl, hq, by rw [← hl.length]; exact Nat.eq_of_beq_eq_true c, H0, fd, B, ρ, ψ, Y, ts, G, R, hl, sep_sub s fun a m => by rw [ads_up]; exact m, fun a m => dm a (by rw [ads_up]; exact m), g⟩
def sAsgG (rd : RD) (g : Gx) (a : Ex) : Sx := fun ρ => (a ρ).bind fun r => (g r.1 (lowIf r.2 rd ρ)).bind fun ρ' => .ret (.nx ρ')
theorem vs_asgG {tg e : Expr} {g : Gx} {s : Ex} {rd : RD} {pos : Pos} (he : VE X W e s rd) (hg : VG X W tg g) (hs : swapsWithSole [tg] e pos.line X.env = pure false := by rfl) (hw : swappedStores [tg] e X.env = pure none := by rfl) (h1 : (assignEach [tg] X.env).map (·.2) = [assign tg X.env] := by rfl) :
    VS X W (.Assign [tg] e pos) (sAsgG rd g s) := ps_imp (ps_asg he hg hs hw h1) fun D σ H q => by
  obtain ⟨H0, fd, B, ρ, ψ, Y, R, g⟩ := q
  have g := good_bind.mp g
  refine ⟨H0, fd, B, ρ, ψ, Y, R, good_imp g fun r g1 v H' F a => ?_⟩
  have g1 := good_bind.mp g1
  exact ⟨H0, fd, B, _, ψ, Y, r.1, F, (R.low r.2 rd).grow a.ext a.fok, a.rep, R.sep a, R.domR a, good_imp g1 fun ρ' g2 σ' ψ' R' _ => g2 _ _ _ R'⟩
/-! ### what is walked -/
structure ItOk (K : PySem.W.Frag) (fd : List Addr) (ψ : List FP) (rd : RD) (H : Hp) (r : List Tr × Nat) (J : It) (H' : Hp) (ys : List Tmp) : Prop where
  ext : ExtF fd H H'
  fok : FeedOk fd H'
  rep : ∀ y, y ∈ ys → Rep K H' fd y.1 y.2.1 y.2.2
  own : ∀ y, y ∈ ys → ∀ d a, (d, a) ∈ y.2.2 → 99 ≤ r.2 → H a = none
  al : ∀ y, y ∈ ys → ∀ d a, (d, a) ∈ y.2.2 → H a = none ∨ ∃ (j m d' : Nat) (G : FP), (j, m) ∈ rd ∧ ψ[j]? = some G ∧ (d', a) ∈ G ∧ m ≤ d'
  its : ∀ (i : Nat) (H2 : Hp), (∀ y, y ∈ ys → Rep K H2 fd y.1 y.2.1 y.2.2) → FeedOk fd H2 → (∀ t, r.1[i]? = some t → J.go i H2 ∧ ∀ x H3, J.yld i H2 x H3 → ExtF fd H2 H3 ∧ FeedOk fd H3 ∧ ∃ F, Rep K H3 fd t x F ∧ ∀ a, a ∈ ads F → ∃ y, y ∈ ys ∧ a ∈ ads y.2.2) ∧ (r.1.length ≤ i → J.stop i H2)
theorem ItOk.sep {K : PySem.W.Frag} {H0 H H' : Hp} {fd B : List Addr} {ρ : En} {σ : L2.St} {ψ : List FP} {Y : List Tmp} {rd : RD} {r : List Tr × Nat} {J : It} {ys : List Tmp} (R : Rel K H0 fd B ρ σ H ψ Y) (io : ItOk K fd ψ rd H r J H' ys) {y : Tmp} (hy : y ∈ ys) : Sep (lowIf r.2 rd ρ) ψ y.2.2 := by
  intro j t k G d c e hG m o mF
  obtain ⟨d', mF⟩ := mem_ads.mp mF
  obtain ⟨s, h1, h2, h3⟩ := lowIf_get e
  obtain ⟨⟨xs, hx⟩, _⟩ := R.nodeψ hG (mem_ads.mpr ⟨d, m⟩)
  cases s with
  | no => exact h2.elim
  | feed => exact h2.elim
  | v t' k' =>
    obtain ⟨rfl, hk⟩ := h2
    rcases h3 with h3 | h3
    · have := io.own y hy d' c mF h3
      rw [hx] at this; cases this
    · rcases io.al y hy d' c mF with z | ⟨j', m', d'', G', q1, q2, q3, q4⟩
      · rw [hx] at z; cases z
      · obtain ⟨o1, o2, o3, o4⟩ := R.own j t k' G d c h1 hG m (owns_mono o hk)
        by_cases ej : j' = j
        · subst ej
          rw [hG] at q2
          cases q2
          have := uniq_pos m q3 o4
          obtain ⟨b1, b2⟩ := h3 m' q1 t k rfl
          rcases o with o | o <;> omega
        · exact o2 j' G' ej q2 (mem_ads.mpr ⟨d'', q3⟩)
theorem ItOk.dom {K : PySem.W.Frag} {H0 H H' : Hp} {fd B : List Addr} {ρ : En} {σ : L2.St} {ψ : List FP} {Y : List Tmp} {rd : RD} {r : List Tr × Nat} {J : It} {ys : List Tmp} (R : Rel K H0 fd B ρ σ H ψ Y) (io : ItOk K fd ψ rd H r J H' ys) {y : Tmp} (hy : y ∈ ys) : ∀ c, c ∈ ads y.2.2 → H0 c = none ∨ c ∈ B := fun c m => by
  obtain ⟨d, m⟩ := mem_ads.mp m
  rcases io.al y hy d c m with z | ⟨j, m', d'', G', q1, q2, q3, q4⟩
  · exact .inl (R.none0 z ((io.rep y hy).node m).2)
  · exact R.dom c (.inl ⟨G', List.mem_of_getElem? q2, mem_ads.mpr ⟨d'', q3⟩⟩)
theorem Rel.pushL {K : PySem.W.Frag} {H0 H : Hp} {fd B : List Addr} {ρ : En} {σ : L2.St} {ψ : List FP} {Y : List Tmp} (R : Rel K H0 fd B ρ σ H ψ Y) : ∀ {ys : List Tmp}, (∀ y, y ∈ ys → Rep K H fd y.1 y.2.1 y.2.2) → (∀ y, y ∈ ys → Sep ρ ψ y.2.2) → (∀ y, y ∈ ys → ∀ a, a ∈ ads y.2.2 → H0 a = none ∨ a ∈ B) → Rel K H0 fd B ρ σ H ψ (ys ++ Y)
  | [], _, _, _ => R
  | y :: ys, h1, h2, h3 => (Rel.pushL R (fun z hz => h1 z (List.mem_cons_of_mem _ hz)) (fun z hz => h2 z (List.mem_cons_of_mem _ hz)) (fun z hz => h3 z (List.mem_cons_of_mem _ hz))).push (h1 y List.mem_cons_self) (h2 y List.mem_cons_self) (h3 y List.mem_cons_self)
theorem Rel.popL {K : PySem.W.Frag} {H0 H : Hp} {fd B : List Addr} {ρ : En} {σ : L2.St} {ψ : List FP} {Y : List Tmp} : ∀ {ys : List Tmp}, Rel K H0 fd B ρ σ H ψ (ys ++ Y) → Rel K H0 fd B ρ σ H ψ Y
  | [], R => R
  | _ :: _, R => Rel.popL (Rel.pop R)
def TIv (K : PySem.W.Frag) (W : WH) (s : En → M (List Tr × Nat)) (rd : RD) : TI := fun σ H R => ∃ H0 fd B ρ ψ Y, Rel K H0 fd B ρ σ H ψ Y ∧ good (W H0 fd) (s ρ) fun r => ∀ J H' ys, ItOk K fd ψ rd H r J H' ys → R J H'
abbrev VI (X : Cx) (W : WH) (tg iter : Expr) (s : En → M (List Tr × Nat)) (rd : RD) : Prop := PI X tg iter (TIv X.K W s rd)
theorem pi_imp {X : Cx} {tg e : Expr} {t t' : TI} (h : PI X tg e t) (i : ∀ σ H R, t' σ H R → t σ H R) : PI X tg e t' := ⟨fun pins s σ H R I q => h.run pins s σ H R I (i σ H R q)⟩
def iAny (K : PySem.W.Frag) (tl : TE) : TI := fun σ H R => tl σ H fun x H1 => (∃ a, x = .ref a ∧ (∃ xs, SqL K H1 a xs) ∧ R (Itl K a) H1) ∨ ∃ a, x = .ref a ∧ (∃ xs, SqT K H1 a xs) ∧ R (Itt K a) H1
theorem pi_any {tg l : Expr} {tl : TE} (hl : PE X l tl) : PI X tg l (iAny X.K tl) := by
  refine ⟨fun pins s σ H R I h => ?_⟩
  refine thn (hl.run pins s σ H _ I h) fun v s1 ⟨x, H1, I1, r1, q1⟩ => ?_
  rcases q1 with ⟨a, e, ⟨xs, hq⟩, q⟩ | ⟨a, e, ⟨xs, hq⟩, q⟩
  · subst e
    cases r1
    obtain ⟨its, rv, p, hz⟩ := I1.list hq
    refine wpAny_pyIter_list p.isList ?_
    refine ⟨s1.heap.objs.size, [s1.heap.objs.size], _, _, H1, rfl, I1.kept (t' := s1.toks) fun b o e => Heap.get?_push_of_some _ e, turn_list a _, ⟨_, Heap.get?_push_size _ rfl, rfl, rfl⟩, fun b hb => ?_, q⟩
    have e : b = s1.heap.objs.size := by simpa using hb
    subst e
    exact I1.fpOk (Nat.le_refl _) (I1.hok.fresh (Nat.le_refl _))
  · subst e
    cases r1
    obtain ⟨its, rv, p, hz⟩ := I1.tuple hq
    refine wpAny_pyIter_tuple (show s1.heap.IsTuple a its.toArray from p) ?_
    refine ⟨s1.heap.objs.size, [s1.heap.objs.size], _, _, H1, rfl, I1.kept (t' := s1.toks) fun b o e => Heap.get?_push_of_some _ e, turn_tuple a _, ⟨_, Heap.get?_push_size _ rfl, rfl, rfl⟩, fun b hb => ?_, q⟩
    have e : b = s1.heap.objs.size := by simpa using hb
    subst e
    exact I1.fpOk (Nat.le_refl _) (I1.hok.fresh (Nat.le_refl _))
def iSeq (a : Ex) : En → M (List Tr × Nat) := fun ρ => (a ρ).bind fun r => match r.1 with
  | .ls ts => .ret (ts, r.2)
  | .tp ts => .ret (ts, r.2)
  | _ => .bad
theorem rep_item {K : PySem.W.Frag} {H : Hp} {fd : List Addr} {ts : List Tr} {xs : List V} {G : FP} {i : Nat} {t : Tr} {x : V} (r : RepL K H fd ts xs G) (h : ts[i]? = some t) (hx : xs[i]? = some x) : ∃ F, Rep K H fd t x F ∧ ∀ a, a ∈ ads F → a ∈ ads G := by
  obtain ⟨x', A, F, C, h1, h2, rfl⟩ := r.get h
  rw [hx] at h1; cases h1
  exact ⟨F, h2, fun a m => by rw [ads_append, ads_append]; exact List.mem_append_right _ (List.mem_append_left _ m)⟩
theorem ItOk.one {K : PySem.W.Frag} {fd : List Addr} {ψ : List FP} {rd : RD} {H H' : Hp} {its : List Tr} {k : Nat} {J : It} {y : Tmp} (a : Res K fd ψ rd H (y.1, k) y.2.1 H' y.2.2)
    (h : ∀ (i : Nat) (H2 : Hp), Rep K H2 fd y.1 y.2.1 y.2.2 → FeedOk fd H2 → (∀ t, its[i]? = some t → J.go i H2 ∧ ∀ x H3, J.yld i H2 x H3 → ExtF fd H2 H3 ∧ FeedOk fd H3 ∧ ∃ F, Rep K H3 fd t x F ∧ ∀ a, a ∈ ads F → a ∈ ads y.2.2) ∧ (its.length ≤ i → J.stop i H2)) : ItOk K fd ψ rd H (its, k) J H' [y] where
  ext := a.ext
  fok := a.fok
  rep := fun z hz => by rw [List.mem_singleton.mp hz]; exact a.rep
  own := fun z hz d c m k9 => by rw [List.mem_singleton.mp hz] at m; exact (a.own d c m (.inr k9)).1
  al := fun z hz d c m => by rw [List.mem_singleton.mp hz] at m; exact a.al d c m
  its := fun i H2 r f => by
    obtain ⟨h1, h2⟩ := h i H2 (r y (List.mem_singleton.mpr rfl)) f
    refine ⟨fun t ht => ?_, h2⟩
    obtain ⟨g, hy⟩ := h1 t ht
    refine ⟨g, fun x H3 yy => ?_⟩
    obtain ⟨p, q, F, rF, s⟩ := hy x H3 yy
    exact ⟨p, q, F, rF, fun a m => ⟨y, List.mem_singleton.mpr rfl, s a m⟩⟩
theorem vi_seq {tg e : Expr} {s : Ex} {rd : RD} (h : VE X W e s rd) : VI X W tg e (iSeq s) rd := pi_imp (pi_any h) fun σ H R q => by
  obtain ⟨H0, fd, B, ρ, ψ, Y, R0, g⟩ := q
  have g := good_bind.mp g
  refine ⟨H0, fd, B, ρ, ψ, Y, R0, good_imp g fun r g1 v H' F a => ?_⟩
  obtain ⟨t, k⟩ := r
  cases t <;> first | exact g1.elim | skip
  · rename_i ts
    obtain ⟨p, xs, G, rfl, hl, hz, hp, hpf, rfl⟩ := rep_ls a.rep
    refine .inl ⟨p, rfl, ⟨xs, SqL.of hp⟩, g1 _ _ [(.ls ts, .ref p, (0, p) :: up G)] (ItOk.one a fun i H2 r2 f2 => ?_)⟩
    obtain ⟨p2, xs2, G2, e2, hl2, hz2, hp2, _, e3⟩ := rep_ls r2
    cases e2
    have e4 := up_inj (List.cons.inj e3).2
    subst e4
    refine ⟨fun t ht => ?_, fun hi => ⟨xs2, SqL.of hp2, by rw [← hl2.length]; exact hi⟩⟩
    obtain ⟨x, A, F1, C, h1, h2, h3⟩ := hl2.get ht
    refine ⟨⟨xs2, x, SqL.of hp2, h1⟩, fun x' H3 y => ?_⟩
    obtain ⟨e, y⟩ := y
    subst e
    have := y xs2 (SqL.of hp2)
    rw [h1] at this; cases this
    refine ⟨.refl, f2, F1, h2, fun a m => ?_⟩
    show a ∈ p :: ads (up G)
    rw [ads_up, h3, ads_append, ads_append]
    exact List.mem_cons_of_mem _ (List.mem_append_right _ (List.mem_append_left _ m))
  · rename_i ts
    obtain ⟨p, xs, G, rfl, hl, hz, hp, hpf, rfl⟩ := rep_tp a.rep
    refine .inr ⟨p, rfl, ⟨xs, hp⟩, g1 _ _ [(.tp ts, .ref p, up G)] (ItOk.one a fun i H2 r2 f2 => ?_)⟩
    obtain ⟨p2, xs2, G2, e2, hl2, hz2, hp2, _, e3⟩ := rep_tp r2
    cases e2
    have e4 := up_inj e3
    subst e4
    refine ⟨fun t ht => ?_, fun hi => ⟨xs2, hp2, by rw [← hl2.length]; exact hi⟩⟩
    obtain ⟨x, A, F1, C, h1, h2, h3⟩ := hl2.get ht
    refine ⟨⟨xs2, x, hp2, h1⟩, fun x' H3 y => ?_⟩
    obtain ⟨e, y⟩ := y
    subst e
    have := y xs2 hp2
    rw [h1] at this; cases this
    refine ⟨.refl, f2, F1, h2, fun a m => ?_⟩
    show a ∈ ads (up G)
    rw [ads_up, h3, ads_append, ads_append]
    exact List.mem_append_right _ (List.mem_append_left _ m)
def bigOk (i : Int) : Bool := decide (-4611686018427387904 ≤ i) && decide (i < 4611686018427387904)
theorem bigOk_ok {i : Int} (h : bigOk i = true) : -(2 ^ 62) ≤ i ∧ i < 2 ^ 62 := by
  obtain ⟨h1, h2⟩ := Bool.and_eq_true_iff.mp h
  exact ⟨of_decide_eq_true h1, of_decide_eq_true h2⟩
def rangeT (lo hi : Int) : List Tr := (List.range (hi - lo).toNat).map fun (i : Nat) => .int (lo + i)
def iRng1 (a : Ex) : En → M (List Tr × Nat) := fun ρ => (a ρ).bind fun r => match r.1 with
  | .int hi => if bigOk hi then .ret (rangeT 0 hi, 99) else .bad
  | _ => .bad
def iRng2 (a b : Ex) : En → M (List Tr × Nat) := fun ρ => (a ρ).bind fun r => (b ρ).bind fun r2 => match r.1, r2.1 with
  | .int lo, .int hi => if bigOk lo && bigOk hi then .ret (rangeT lo hi, 99) else .bad
  | _, _ => .bad
theorem itr_ok {K : PySem.W.Frag} {fd : List Addr} {ψ : List FP} {rd : RD} {H H' : Hp} {lo hi : Int} (x : ExtF fd H H') (f : FeedOk fd H') : ItOk K fd ψ rd H (rangeT lo hi, 99) (Itr lo (hi - lo).toNat) H' [] := by
  refine ⟨x, f, fun _ h => (nomatch h), fun _ h => (nomatch h), fun _ h => (nomatch h), fun i H2 _ f2 => ⟨fun t ht => ?_, fun hle => ?_⟩⟩
  · unfold rangeT at ht
    rw [List.getElem?_map] at ht
    by_cases c : i < (hi - lo).toNat
    · rw [List.getElem?_range c] at ht
      obtain rfl : Tr.int (lo + (i : Int)) = t := by simpa using ht
      refine ⟨c, fun x H3 y => ?_⟩
      obtain ⟨e, y⟩ := y
      subst e y
      exact ⟨.refl, f2, [], ⟨rfl, rfl⟩, fun a m => (nomatch m)⟩
    · rw [List.getElem?_eq_none (by rw [List.length_range]; omega)] at ht
      cases ht
  · have h' : (rangeT lo hi).length ≤ i := hle
    unfold rangeT at h'
    rw [List.length_map, List.length_range] at h'
    exact h'
theorem vi_range1 {tg a : Expr} {s : Ex} {rd : RD} {p pos : Pos} (hg : Gl X "range") (hm : X.mg "range" = none) (ha : VE X W a s rd) (hs : starEach [a] X.env = [(false, eval a X.env)] := by rfl) (hs' : starEach (a :: []) X.env = (false, eval a X.env) :: starEach [] X.env := by rfl) : VI X W tg (.Call (.Name "range" p) [a] [] pos) (iRng1 s) [] := pi_imp (pi_range1 hg hm (pa_cons ha pa_nil hs') hs) fun σ H R q => by
  obtain ⟨H0, fd, B, ρ, ψ, Y, R0, g⟩ := q
  have g := good_bind.mp g
  refine ⟨H0, fd, B, ρ, ψ, Y, R0, good_imp g fun r g1 v H' F a => ?_⟩
  obtain ⟨t, k⟩ := r
  cases t <;> first | exact g1.elim | skip
  rename_i hi
  have g1 : good (W H0 fd) (if bigOk hi then M.ret (rangeT 0 hi, 99) else .bad) _ := g1
  obtain ⟨c, g2⟩ := if_good g1
  obtain rfl := rep_int a.rep
  obtain ⟨b1, b2⟩ := bigOk_ok c
  have := g2 _ _ _ (itr_ok (lo := 0) (hi := hi) a.ext a.fok)
  rw [Int.sub_zero] at this
  exact ⟨hi, rfl, b1, b2, this⟩
theorem vi_range2 {tg a b : Expr} {s1 s2 : Ex} {rd1 rd2 : RD} {p pos : Pos} (hg : Gl X "range") (hm : X.mg "range" = none) (ha : VE X W a s1 rd1) (hb : VE X W b s2 rd2) (hs : starEach [a, b] X.env = [(false, eval a X.env), (false, eval b X.env)] := by rfl) (hs2 : starEach [b] X.env = [(false, eval b X.env)] := by rfl)
    (h1 : starEach (a :: [b]) X.env = (false, eval a X.env) :: starEach [b] X.env := by rfl) (h2 : starEach (b :: []) X.env = (false, eval b X.env) :: starEach [] X.env := by rfl) : VI X W tg (.Call (.Name "range" p) [a, b] [] pos) (iRng2 s1 s2) [] := pi_imp (pi_range2 hg hm (pa_cons ha (pa_cons hb pa_nil h2) h1) hs hs2) fun σ H R q => by
  obtain ⟨H0, fd, B, ρ, ψ, Y, R0, g⟩ := q
  have g := good_bind.mp g
  refine ⟨H0, fd, B, ρ, ψ, Y, R0, good_imp g fun r g1 v H1 F a => ?_⟩
  have g1 := good_bind.mp g1
  refine ⟨H0, fd, B, ρ, ψ, Y, R0.grow a.ext a.fok, good_imp g1 fun r2 g2 v2 H2 F2 a2 => ?_⟩
  clear g1 g
  obtain ⟨t, k⟩ := r
  obtain ⟨t2, k2⟩ := r2
  cases t <;> first | exact g2.elim | skip
  rename_i lo
  cases t2 <;> first | exact g2.elim | skip
  rename_i hi
  have g2 : good (W H0 fd) (if bigOk lo && bigOk hi then M.ret (rangeT lo hi, 99) else .bad) _ := g2
  obtain ⟨c, g3⟩ := if_good g2
  obtain ⟨c1, c2⟩ := Bool.and_eq_true_iff.mp c
  obtain rfl := rep_int a.rep
  obtain rfl := rep_int a2.rep
  obtain ⟨b1, b2⟩ := bigOk_ok c1
  obtain ⟨b3, b4⟩ := bigOk_ok c2
  exact ⟨lo, hi, rfl, ⟨b1, b2, b3, b4⟩, g3 _ _ _ (itr_ok (lo := lo) (hi := hi) (a.ext.trans a2.ext) a2.fok)⟩
/-! ### for -/
def loopF (g : Gx) (body : Sx) : List Tr → En → M Fl
  | [], ρ => .ret (.nx ρ)
  | t :: ts, ρ => (g t ρ).bind fun ρ1 => (body ρ1).bind fun fl => match fl with
    | .nx ρ' => loopF g body ts ρ'
    | .ct ρ' => loopF g body ts ρ'
    | .bk ρ' => .ret (.nx ρ')
    | .rt t k => .ret (.rt t k)
def sFor (rd : RD) (src : En → M (List Tr × Nat)) (g : Gx) (body : Sx) : Sx := fun ρ => (src ρ).bind fun r => loopF g body r.1 (lowIf r.2 rd ρ)
theorem drop_cons {α : Type} {l : List α} {i : Nat} {t : α} (h : l[i]? = some t) : l.drop i = t :: l.drop (i + 1) := by
  obtain ⟨h1, h2⟩ := List.getElem?_eq_some_iff.mp h
  rw [← h2]
  exact (List.drop_eq_getElem_cons h1)
theorem vs_for {tg iter : Expr} {body : List Stmt} {src : En → M (List Tr × Nat)} {rd : RD} {g : Gx} {b : Sx} {pos : Pos} (hp : PassesOwn (model X.prog X.w) X.A X.env X.xe) (hc : X.calm = true) (hi : VI X W tg iter src rd) (hg : VG X W tg g) (hb : VSs X W body b)
    (hs : ∀ x, foldedSetIterable iter X.env x = pure x := by intro _; rfl) : VS X W (.For tg iter body [] pos) (sFor rd src g b) := ps_imp (ps_for hp hc hi hg hb hs) fun D σ H q => by
  obtain ⟨H0, fd, B, ρ, ψ, Y, R, gd⟩ := q
  have gd := good_bind.mp gd
  refine ⟨H0, fd, B, ρ, ψ, Y, R, good_imp gd fun r g1 J H' ys io => ?_⟩
  have R1 : Rel X.K H0 fd B (lowIf r.2 rd ρ) σ H' ψ (ys ++ Y) := ((R.low r.2 rd).grow io.ext io.fok).pushL io.rep (fun y hy => io.sep R hy) (fun y hy => io.dom R hy)
  refine ⟨fun i m σ H => m = r.1.length - i ∧ ∃ ρi ψi, Rel X.K H0 fd B ρi σ H ψi (ys ++ Y) ∧ good (W H0 fd) (loopF g b (r.1.drop i) ρi) (FlP X.K H0 fd B Y D), ⟨_, rfl, _, ψ, R1, g1⟩, ?_⟩
  rintro i m σi Hi ⟨rfl, ρi, ψi, Ri, gi⟩
  have ry : ∀ y, y ∈ ys → Rep X.K Hi fd y.1 y.2.1 y.2.2 := fun y hy => Ri.tmp y (List.mem_append_left _ hy)
  obtain ⟨io1, io2⟩ := io.its i Hi ry Ri.fok
  cases e : r.1[i]? with
  | none =>
    have hle : r.1.length ≤ i := List.getElem?_eq_none_iff.mp e
    rw [List.drop_eq_nil_of_le hle] at gi
    exact .inl ⟨io2 hle, gi σi Hi ψi Ri.popL⟩
  | some t =>
    obtain ⟨go, yl⟩ := io1 t e
    have hlt : i < r.1.length := (List.getElem?_eq_some_iff.mp e).1
    rw [drop_cons e] at gi
    have gi := good_bind.mp gi
    refine .inr ⟨go, fun σ' H' => ∃ ρ' ψ', Rel X.K H0 fd B ρ' σ' H' ψ' (ys ++ Y) ∧ good (W H0 fd) (loopF g b (r.1.drop (i + 1)) ρ') (FlP X.K H0 fd B Y D), fun σ' H' ⟨ρ', ψ', R', g'⟩ => ⟨_, by omega, rfl, ρ', ψ', R', g'⟩, fun x H3 yy => ?_⟩
    obtain ⟨x3, f3, F, rF, sub⟩ := yl x H3 yy
    have R3 := Ri.grow x3 f3
    refine ⟨H0, fd, B, ρi, ψi, ys ++ Y, t, F, R3, rF, fun j t' k' G d a h hG m o z => (let ⟨y, hy, hz⟩ := sub a z; (R3.own j t' k' G d a h hG m o).2.2.1 y (List.mem_append_left _ hy) hz), fun a m => (let ⟨y, hy, hz⟩ := sub a m; R3.dom a (.inr ⟨y, List.mem_append_left _ hy, hz⟩)), good_imp gi fun ρ1 g2 σ1 ψ1 R4 _ => ?_⟩
    have g2 := good_bind.mp g2
    refine ⟨H0, fd, B, ρ1, ψ1, ys ++ Y, R4, good_imp g2 fun fl g3 => ?_⟩
    cases fl with
    | nx ρ' => exact fun σ' H' ψ' R' => ⟨ρ', ψ', R', g3⟩
    | ct ρ' => exact fun σ' H' ψ' R' => ⟨ρ', ψ', R', g3⟩
    | bk ρ' => exact fun σ' H' ψ' R' => g3 σ' H' ψ' R'.popL
    | rt t k => exact g3
/-! ### while -/
def whileF (c : Tx) (body : Sx) : Nat → En → M Fl
  | 0, _ => .bad
  | n + 1, ρ => (c ρ).bind fun b => if b then (body ρ).bind fun fl => match fl with
      | .nx ρ' => whileF c body n ρ'
      | .ct ρ' => whileF c body n ρ'
      | .bk ρ' => .ret (.nx ρ')
      | .rt t k => .ret (.rt t k)
    else .ret (.nx ρ)
def sWhile (n : Nat) (c : Tx) (body : Sx) : Sx := whileF c body n
theorem vs_while {c : Expr} {body : List Stmt} {tc : Tx} {b : Sx} {n : Nat} {pos : Pos} (hp : PassesOwn (model X.prog X.w) X.A X.env X.xe) (hc : VT X W c tc) (hb : VSs X W body b) : VS X W (.While c body [] pos) (sWhile n tc b) := ps_imp (ps_while hp hc hb) fun D σ H q => by
  obtain ⟨H0, fd, B, ρ, ψ, Y, R, gd⟩ := q
  refine ⟨fun m σ H => ∃ ρi ψi, Rel X.K H0 fd B ρi σ H ψi Y ∧ good (W H0 fd) (whileF tc b m ρi) (FlP X.K H0 fd B Y D), ⟨n, ρ, ψ, R, gd⟩, ?_⟩
  rintro m σi Hi ⟨ρi, ψi, Ri, gi⟩
  cases m with
  | zero => exact gi.elim
  | succ m =>
    have gi := good_bind.mp gi
    refine ⟨H0, fd, B, ρi, ψi, Y, Ri, good_imp gi fun bb g1 H1 x f => ?_⟩
    have R1 := Ri.grow x f
    cases bb with
    | false => dsimp only; rw [if_neg Bool.false_ne_true]; exact g1 σi H1 ψi R1
    | true =>
      dsimp only
      rw [if_pos rfl]
      have g1 := good_bind.mp g1
      refine ⟨fun σ' H' => ∃ ρ' ψ', Rel X.K H0 fd B ρ' σ' H' ψ' Y ∧ good (W H0 fd) (whileF tc b m ρ') (FlP X.K H0 fd B Y D), fun σ' H' ⟨ρ', ψ', R', g'⟩ => ⟨m, Nat.lt_succ_self m, ρ', ψ', R', g'⟩, H0, fd, B, ρi, ψi, Y, R1, good_imp g1 fun fl g3 => ?_⟩
      cases fl with
      | nx ρ' => exact fun σ' H' ψ' R' => ⟨ρ', ψ', R', g3⟩
      | ct ρ' => exact fun σ' H' ψ' R' => ⟨ρ', ψ', R', g3⟩
      | bk ρ' => exact g3
      | rt t k => exact g3
/-! ### comprehensions -/
def zeroS : Sl → Sl
  | .v t _ => .v t 0
  | s => s
def wipeE (vs : List Nat) (ρ : En) : En := match vs with
  | [] => ρ.map zeroS
  | v :: vs => (wipeE vs ρ).set v .no
def wipeP (vs : List Nat) (ψ : List FP) : List FP := match vs with
  | [] => ψ
  | v :: vs => (wipeP vs ψ).set v []
theorem Rel.wipe {K : PySem.W.Frag} {H0 H : Hp} {fd B : List Addr} {ρ : En} {σ : L2.St} {ψ : List FP} {Y : List Tmp} (R : Rel K H0 fd B ρ σ H ψ Y) : ∀ vs : List Nat, Rel K H0 fd B (wipeE vs ρ) (L2.wipe σ vs) H (wipeP vs ψ) Y
  | [] => R.weak (by show (ρ.map zeroS).length = _; rw [List.length_map]) fun i s h => by
    have h : (ρ.map zeroS)[i]? = some s := h
    rw [List.getElem?_map] at h
    cases e : ρ[i]? with
    | none => rw [e] at h; cases h
    | some s' =>
      rw [e] at h
      cases h
      refine ⟨s', rfl, ?_⟩
      cases s' with
      | no => trivial
      | feed => trivial
      | v t k => exact ⟨rfl, Nat.zero_le _⟩
  | v :: vs => by
    have Rk := (R.wipe vs).kill (i := v)
    refine ⟨by show ((L2.wipe σ vs).set v none).length = _; rw [List.length_set]; exact Rk.lns, Rk.lnp, fun i t k h => ?_, Rk.dead, fun i h => ?_, Rk.tmp, Rk.own, Rk.dom, Rk.ext, Rk.fok⟩
    · obtain ⟨x, F, h1, h2, h3⟩ := Rk.rep i t k h
      have ne : v ≠ i := fun e => by
        subst e
        have hi : v < (wipeE vs ρ).length := by
          have : v < ((wipeE vs ρ).set v .no).length := (List.getElem?_eq_some_iff.mp h).1
          simpa using this
        have h : ((wipeE vs ρ).set v .no)[v]? = some (.v t k) := h
        rw [List.getElem?_set_self hi] at h; cases h
      exact ⟨x, F, by show ((L2.wipe σ vs).set v none)[i]? = _; rw [List.getElem?_set_ne ne]; exact h1, h2, h3⟩
    · obtain ⟨h1, a, s, h2, h3⟩ := Rk.fed i h
      have ne : v ≠ i := fun e => by
        subst e
        have hi : v < (wipeE vs ρ).length := by
          have : v < ((wipeE vs ρ).set v .no).length := (List.getElem?_eq_some_iff.mp h).1
          simpa using this
        have h : ((wipeE vs ρ).set v .no)[v]? = some .feed := h
        rw [List.getElem?_set_self hi] at h; cases h
      exact ⟨h1, a, s, h2, by show ((L2.wipe σ vs).set v none)[i]? = _; rw [List.getElem?_set_ne ne]; exact h3⟩
theorem wipeP_get {ψ : List FP} {j : Nat} {G : FP} : ∀ {vs : List Nat}, (wipeP vs ψ)[j]? = some G → G = [] ∨ (ψ[j]? = some G ∧ j ∉ vs)
  | [], h => .inr ⟨h, fun z => (nomatch z)⟩
  | v :: vs, h => by
    have h : ((wipeP vs ψ).set v [])[j]? = some G := h
    by_cases e : v = j
    · subst e
      have hi : v < (wipeP vs ψ).length := by have := (List.getElem?_eq_some_iff.mp h).1; simpa using this
      rw [List.getElem?_set_self hi] at h
      cases h
      exact .inl rfl
    · rw [List.getElem?_set_ne e] at h
      rcases wipeP_get h with h | ⟨h, n⟩
      · exact .inl h
      · exact .inr ⟨h, fun z => by rcases List.mem_cons.mp z with z | z; exact e z.symm; exact n z⟩
/-- slots that are not of the block stay; the block's own hold parts of what is walked -/
def Own (vs : List Nat) (ψw ψ1 : List FP) (Fy : FP) : Prop := ∀ (j : Nat) (G : FP), ψ1[j]? = some G → (j ∉ vs → ψw[j]? = some G) ∧ (j ∈ vs → ∀ a, a ∈ ads G → a ∈ ads Fy)
/-- a target of a comprehension: only own slots change -/
def TGc (K : PySem.W.Frag) (W : WH) (vs : List Nat) (g : Gx) : TG := fun v σ H Q => ∃ H0 fd B ρ ψ Y t F, Rel K H0 fd B ρ σ H ψ Y ∧ Rep K H fd t v F ∧ Sep ρ ψ F ∧ (∀ a, a ∈ ads F → H0 a = none ∨ a ∈ B) ∧
  good (W H0 fd) (g t ρ) fun ρ' => ∀ σ' ψ', Rel K H0 fd B ρ' σ' H ψ' Y → (∀ F', Sep ρ ψ F' → Sep ρ' ψ' F') → (∀ j, j ∉ vs → σ'[j]? = σ[j]? ∧ ψ'[j]? = ψ[j]?) → (∀ (j : Nat) G, ψ'[j]? = some G → ψ[j]? = some G ∨ ∀ a, a ∈ ads G → a ∈ ads F) → σ'.length = σ.length → Q σ' H
def TGsc (K : PySem.W.Frag) (W : WH) (vs : List Nat) (g : List Tr → En → M En) : TGs := fun v σ H Q => ∃ H0 fd B ρ ψ Y ts F, Rel K H0 fd B ρ σ H ψ Y ∧ RepL K H fd ts v F ∧ Sep ρ ψ F ∧ (∀ a, a ∈ ads F → H0 a = none ∨ a ∈ B) ∧
  good (W H0 fd) (g ts ρ) fun ρ' => ∀ σ' ψ', Rel K H0 fd B ρ' σ' H ψ' Y → (∀ F', Sep ρ ψ F' → Sep ρ' ψ' F') → (∀ j, j ∉ vs → σ'[j]? = σ[j]? ∧ ψ'[j]? = ψ[j]?) → (∀ (j : Nat) G, ψ'[j]? = some G → ψ[j]? = some G ∨ ∀ a, a ∈ ads G → a ∈ ads F) → σ'.length = σ.length → Q σ' H
abbrev VGc (X : Cx) (W : WH) (vs : List Nat) (tg : Expr) (g : Gx) : Prop := PG X tg (TGc X.K W vs g)
abbrev VGsc (X : Cx) (W : WH) (vs : List Nat) (ts : List Expr) (g : List Tr → En → M En) : Prop := PGs X ts (TGsc X.K W vs g)
theorem vgc_name {i : Nat} {x : Str} {vs : List Nat} {pos : Pos} (h : PG X (.Name x pos) (gName i)) (hm : vs.contains i = true) : VGc X W vs (.Name x pos) (gN i) := pg_imp h fun v σ H Q q => by
  obtain ⟨H0, fd, B, ρ, ψ, Y, t, F, R, r, s, dm, g⟩ := q
  have hv : ∀ d a, (d, a) ∈ F → ¬ owns d (lv0 t) := fun d a m o => by
    unfold lv0 at o
    by_cases f : t.flat = true
    · rw [r.flat f] at m; cases m
    · rw [if_neg f] at o
      exact absurd o owns_zero
  refine g _ _ (R.put (i := i) r s (fun d a m o => absurd o (hv d a m)) dm) (fun F' s' j t' k' G d a h hG m o => ?_) (fun j hj => ?_) (fun j G h => ?_) (by rw [List.length_set])
  · by_cases e : i = j
    · subst e
      have hi : i < ρ.length := by have := (List.getElem?_eq_some_iff.mp h).1; simpa using this
      rw [List.getElem?_set_self hi] at h
      rw [List.getElem?_set_self (by rw [R.lnp]; exact hi)] at hG
      cases hG
      cases h
      exact absurd o (hv d a m)
    · rw [List.getElem?_set_ne e] at h hG
      exact s' j t' k' G d a h hG m o
  · have ne : i ≠ j := fun e => hj (by rw [← e]; exact List.contains_iff_mem.mp hm)
    rw [List.getElem?_set_ne ne, List.getElem?_set_ne ne]
    exact ⟨rfl, rfl⟩
  · by_cases e : i = j
    · subst e
      have hi : i < ψ.length := by have := (List.getElem?_eq_some_iff.mp h).1; simpa using this
      rw [List.getElem?_set_self hi] at h
      cases h
      exact .inr fun a m => m
    · rw [List.getElem?_set_ne e] at h
      exact .inl h
theorem vgsc_nil {vs : List Nat} : VGsc X W vs [] gsN := pgs_imp pgs_nil fun v σ H Q q => by
  obtain ⟨H0, fd, B, ρ, ψ, Y, ts, F, R, r, s, dm, g⟩ := q
  cases ts with
  | nil => exact ⟨r.1, g _ _ R (fun _ z => z) (fun _ _ => ⟨rfl, rfl⟩) (fun _ _ h => .inl h) rfl⟩
  | cons t ts => exact g.elim
theorem vgsc_cons {vs : List Nat} {e : Expr} {es : List Expr} {g : Gx} {gs : List Tr → En → M En} (h1 : VGc X W vs e g) (h2 : VGsc X W vs es gs) (hs : (assignEach (e :: es) X.env).map (·.2) = assign e X.env :: (assignEach es X.env).map (·.2) := by rfl) : VGsc X W vs (e :: es) (gsC g gs) := pgs_imp (pgs_cons h1 h2 hs) fun v σ H Q q => by
  obtain ⟨H0, fd, B, ρ, ψ, Y, ts, F, R, r, s, dm, g⟩ := q
  cases ts with
  | nil => exact g.elim
  | cons t ts =>
    have g := good_bind.mp g
    obtain ⟨x, ys, G1, G2, rfl, r1, r2, rfl⟩ := r
    have s1 : ∀ a, a ∈ ads G1 → a ∈ ads (G1 ++ G2) := fun a m => by rw [ads_append]; exact List.mem_append_left _ m
    have s2 : ∀ a, a ∈ ads G2 → a ∈ ads (G1 ++ G2) := fun a m => by rw [ads_append]; exact List.mem_append_right _ m
    refine ⟨x, ys, rfl, H0, fd, B, ρ, ψ, Y, t, G1, R, r1, sep_sub s s1, fun a m => dm a (s1 a m), good_imp g fun ρ1 g1 σ1 ψ1 R1 S1 T1 U1 L1 => ?_⟩
    refine ⟨H0, fd, B, ρ1, ψ1, Y, ts, G2, R1, r2, S1 _ (sep_sub s s2), fun a m => dm a (s2 a m), good_imp g1 fun ρ2 g2 σ2 ψ2 R2 S2 T2 U2 L2 => g2 σ2 ψ2 R2 (fun F' z => S2 F' (S1 F' z)) (fun j hj => ?_) (fun j G h => ?_) (L2.trans L1)⟩
    · exact ⟨(T2 j hj).1.trans (T1 j hj).1, (T2 j hj).2.trans (T1 j hj).2⟩
    · rcases U2 j G h with h | h
      · rcases U1 j G h with h | h
        · exact .inl h
        · exact .inr fun a m => s1 a (h a m)
      · exact .inr fun a m => s2 a (h a m)
theorem vgc_tup {vs : List Nat} {es : List Expr} {k : Nat} {gs : List Tr → En → M En} {n : Nat} {pos : Pos} (hc : X.calm = true) (h : VGsc X W vs es gs) (hn : (assignEach es X.env).length = n := by rfl) (hst : (assignEach es X.env).findIdx? (·.1) = none := by rfl) : VGc X W vs (.Tuple es k pos) (gT n gs) := pg_imp (pg_tup hc h hn hst) fun v σ H Q q => by
  obtain ⟨H0, fd, B, ρ, ψ, Y, t, F, R, r, s, dm, g⟩ := q
  cases t <;> first | exact g.elim | skip
  rename_i ts
  have g : good (W H0 fd) (if Nat.beq ts.length n then gs ts ρ else .bad) _ := g
  obtain ⟨c, g⟩ := if_good g
  obtain ⟨a, xs, G, rfl, hl, hz, hq, _, rfl⟩ := rep_tp r
  have su : ∀ a, a ∈ ads G → a ∈ ads (up G) := fun a m => by rw [ads_up]; exact m
  exact ⟨a, xs, rfl, hq, by rw [← hl.length]; exact Nat.eq_of_beq_eq_true c, H0, fd, B, ρ, ψ, Y, ts, G, R, hl, sep_sub s su, fun a m => dm a (su a m), good_imp g fun ρ' g' σ' ψ' R' S' T' U' L' => g' σ' ψ' R' S' T' (fun j G' h' => (U' j G' h').imp id fun z a m => su a (z a m)) L'⟩
def tYesV : Tx := fun _ => .ret true
def compL (g : Gx) (tt : Tx) (te : Ex) (ρ : En) : List Tr → M (List Tr × Bool)
  | [] => .ret ([], true)
  | t :: ts => (g t ρ).bind fun ρ1 => (tt ρ1).bind fun b => if b then (te ρ1).bind fun r => (compL g tt te ρ ts).bind fun q => .ret (r.1 :: q.1, Nat.ble 99 r.2 && q.2) else compL g tt te ρ ts
def eComp (src : En → M (List Tr × Nat)) (vs : List Nat) (g : Gx) (tt : Tx) (te : Ex) : Ex := fun ρ => (src ρ).bind fun r => if lenOk r.1 then (compL g tt te (wipeE vs ρ) r.1).bind fun q => .ret (.ls q.1, lvL q.2) else .bad
/-- the tests of a comprehension -/
abbrev VTs (X : Cx) (W : WH) (ifs : List Expr) (s : Tx) : Prop := PTs X ifs (TTv X.K W s)
theorem vts_nil : VTs X W [] tYesV := ⟨fun pins s σ H Q I q => pts_nil.run pins s σ H Q I (by
  obtain ⟨H0, fd, B, ρ, ψ, Y, R, g⟩ := q
  exact g H .refl R.fok)⟩
theorem vts_one {c : Expr} {s : Tx} (h : VT X W c s) : VTs X W [c] s := pts_one h
/-- aliases of a comprehension's elements -/
def rdC (rd1 : RD) (vs : List Nat) (rd2 : RD) : RD := rd1 ++ rd2.filter fun p => !vs.contains p.1
theorem wipeE_zero : ∀ {vs : List Nat} {ρ : En} {j : Nat} {t : Tr} {k : Nat}, (wipeE vs ρ)[j]? = some (.v t k) → k = 0
  | [], ρ, j, t, k, h => by
    have h : (ρ.map zeroS)[j]? = some (.v t k) := h
    rw [List.getElem?_map] at h
    cases e : ρ[j]? with
    | none => rw [e] at h; cases h
    | some s =>
      rw [e] at h
      cases s with
      | no => cases h
      | feed => cases h
      | v t' k' => cases h; rfl
  | v :: vs, ρ, j, t, k, h => by
    have h : ((wipeE vs ρ).set v .no)[j]? = some (.v t k) := h
    by_cases e : v = j
    · subst e
      have hi : v < (wipeE vs ρ).length := by have := (List.getElem?_eq_some_iff.mp h).1; simpa using this
      rw [List.getElem?_set_self hi] at h; cases h
    · rw [List.getElem?_set_ne e] at h
      exact wipeE_zero h
theorem wipeE_own {vs : List Nat} {ρ : En} {j : Nat} {t : Tr} {k d : Nat} (h : (wipeE vs ρ)[j]? = some (.v t k)) : ¬ owns d k := by
  rw [wipeE_zero h]; exact owns_zero
theorem wipe_get {σ : L2.St} {j : Nat} : ∀ {vs : List Nat}, j ∉ vs → (L2.wipe σ vs)[j]? = σ[j]?
  | [], _ => rfl
  | v :: vs, h => by
    show ((L2.wipe σ vs).set v none)[j]? = _
    rw [List.getElem?_set_ne (fun e => h (by rw [e]; exact List.mem_cons_self)), wipe_get fun z => h (List.mem_cons_of_mem _ z)]
theorem wipe_in {σ : L2.St} {j : Nat} : ∀ {vs : List Nat}, j ∈ vs → j < σ.length → (L2.wipe σ vs)[j]? = some none
  | v :: vs, h, hl => by
    show ((L2.wipe σ vs).set v none)[j]? = _
    by_cases e : v = j
    · subst e
      rw [List.getElem?_set_self (by rw [wipe_length]; exact hl)]
    · rw [List.getElem?_set_ne e]
      rcases List.mem_cons.mp h with z | z
      · exact absurd z.symm e
      · exact wipe_in z hl
theorem wipe_same {σ σ1 : L2.St} {vs : List Nat} (hl : σ1.length = (L2.wipe σ vs).length) (h : ∀ (j : Nat), j ∉ vs → σ1[j]? = (L2.wipe σ vs)[j]?) : L2.wipe σ1 vs = L2.wipe σ vs := by
  apply List.ext_getElem?
  intro j
  by_cases c : j ∈ vs
  · by_cases hj : j < σ.length
    · rw [wipe_in c hj, wipe_in c (by rw [hl, wipe_length]; exact hj)]
    · have e1 : σ1.length = σ.length := hl.trans (wipe_length σ vs)
      rw [List.getElem?_eq_none (show (L2.wipe σ1 vs).length ≤ j by rw [wipe_length]; omega), List.getElem?_eq_none (show (L2.wipe σ vs).length ≤ j by rw [wipe_length]; omega)]
  · rw [wipe_get c, h j c]
theorem RepL.extL {K : PySem.W.Frag} {H H' : Hp} {fd : List Addr} : ∀ {ts : List Tr} {xs : List V} {F : FP}, RepL K H fd ts xs F → ExtF fd H H' → FeedOk fd H → RepL K H' fd ts xs F
  | [], _, _, h, _, _ => h
  | t :: ts, _, _, h, x, f => by
    obtain ⟨v, ys, G1, G2, rfl, h1, h2, rfl⟩ := h
    exact ⟨v, ys, G1, G2, rfl, h1.ext x f, h2.extL x f, rfl⟩
theorem te_comp {src : En → M (List Tr × Nat)} {rd1 rd2 : RD} {vs : List Nat} {g : Gx} {tt : Tx} {te : Ex} {σ : L2.St} {H : Hp} {Q : VK} {K : PySem.W.Frag}
    (q : TEv K W (eComp src vs g tt te) (rdC rd1 vs rd2) σ H Q) : tLc (TIv K W src rd1) (TGc K W vs g) (TTv K W tt) (TEv K W te rd2) vs σ H Q := by
  obtain ⟨H0, fd, B, ρ, ψ, Y, R, gd⟩ := q
  have gd := good_bind.mp gd
  refine ⟨H0, fd, B, ρ, ψ, Y, R, good_imp gd fun r g1 J H1 ys io => ?_⟩
  obtain ⟨c, g1⟩ := if_good g1
  have g1 := good_bind.mp g1
  intro D hD
  have x1 := io.ext
  have f1 := io.fok
  have hDfd : D ∉ fd := f1.notIn hD
  have hDn : H D = none := ext_none x1 hDfd hD
  -- the state between two turns
  let P : Nat → Hp → Prop := fun i H' => i ≤ r.1.length ∧ ExtF fd (L2.upd H1 D (.lst [])) (L2.upd H' D (.lst [])) ∧ FeedOk fd H' ∧ ∃ ts xs G deep, H' D = some (.lst xs) ∧ RepL K H' fd ts xs G ∧ D ∉ ads G ∧ ts.length ≤ i ∧
      (deep = true → ∀ d a, (d, a) ∈ G → H a = none ∧ (ads G).count a ≤ 1) ∧ (∀ d a, (d, a) ∈ G → H a = none ∨ ∃ (j m d' : Nat) (A : FP), (j, m) ∈ rdC rd1 vs rd2 ∧ ψ[j]? = some A ∧ (d', a) ∈ A ∧ m ≤ d') ∧
      good (W H0 fd) (compL g tt te (wipeE vs ρ) (r.1.drop i)) fun q => ∀ v H' F, Res K fd ψ (rdC rd1 vs rd2) H (.ls (ts ++ q.1), lvL (deep && q.2)) v H' F → Q v H'
  refine ⟨fun i m H' => m = r.1.length - i ∧ P i H', ⟨r.1.length, rfl, Nat.zero_le _, by rw [upd_upd]; exact .refl, f1.new hD, [], [], [], true, upd_same, ⟨rfl, rfl⟩, fun z => (nomatch z), Nat.le_refl _, fun _ _ _ m => (nomatch m), fun _ _ m => (nomatch m), good_imp g1 fun q k v H' F a => k v H' F (by rw [List.nil_append] at a; exact a)⟩, ?_⟩
  rintro i m Hi ⟨rfl, hi, xi, fi, ts, xs, G, deep, eD, rG, nD, hl, ow, al, gi⟩
  have xi1 : ExtF fd H1 Hi := fun b o e n => by
    have nb : b ≠ D := fun z => by subst z; rw [hD] at e; cases e
    have := xi b o (by rw [upd_ne nb]; exact e) n
    rw [upd_ne nb] at this; exact this
  have xHi : ExtF fd H Hi := x1.trans xi1
  have ry : ∀ y, y ∈ ys → Rep K Hi fd y.1 y.2.1 y.2.2 := fun y hy => (io.rep y hy).ext xi1 f1
  have nDy : ∀ y, y ∈ ys → D ∉ ads y.2.2 := fun y hy => (io.rep y hy).fresh hD
  obtain ⟨io1, io2⟩ := io.its i Hi ry fi
  cases e : r.1[i]? with
  | none =>
    have hle : r.1.length ≤ i := List.getElem?_eq_none_iff.mp e
    rw [List.drop_eq_nil_of_le hle] at gi
    refine .inl ⟨io2 hle, gi (.ref D) Hi ((0, D) :: up G) ?_⟩
    rw [List.append_nil, Bool.and_true]
    refine ⟨xHi, fi, ⟨D, xs, G, rfl, rG, ?_, eD, hDfd, rfl⟩, fun d a m o => ?_, fun d a m => ?_⟩
    · rw [← rG.length, sizeLine_eq]
      have := Nat.le_of_ble_eq_true c
      omega
    · rcases List.mem_cons.mp m with e | m
      · cases e
        refine ⟨hDn, ?_⟩
        show List.count D (D :: ads (up G)) ≤ 1
        rw [List.count_cons_self, ads_up, List.count_eq_zero_of_not_mem nD]; exact Nat.le_refl 1
      · obtain ⟨d', rfl, m'⟩ := mem_up.mp m
        have hd : deep = true := by
          cases deep with
          | true => rfl
          | false =>
            rcases o with o | o
            · have o : d' + 1 < 1 := o
              omega
            · have o : 99 ≤ 1 := o
              omega
        obtain ⟨q1, q2⟩ := ow hd d' a m'
        refine ⟨q1, ?_⟩
        have ne : D ≠ a := fun z => nD (by rw [z]; exact mem_ads.mpr ⟨_, m'⟩)
        show List.count a (D :: ads (up G)) ≤ 1
        rw [List.count_cons_of_ne ne, ads_up]; exact q2
    · rcases List.mem_cons.mp m with e | m
      · cases e; exact .inl hDn
      · obtain ⟨d', rfl, m'⟩ := mem_up.mp m
        exact al d' a m'
  | some t =>
    obtain ⟨go, yl⟩ := io1 t e
    have hlt : i < r.1.length := (List.getElem?_eq_some_iff.mp e).1
    rw [drop_cons e] at gi
    have gi := good_bind.mp gi
    refine .inr ⟨go, P (i + 1), fun H' h => ⟨r.1.length - (i + 1), (by omega : r.1.length - (i + 1) < r.1.length - i), rfl, h⟩, fun x H2 yy => ?_⟩
    obtain ⟨x2, f2, F, rF, sub⟩ := yl x H2 yy
    have xH2 := xHi.trans x2
    -- the block's frame
    have RB : Rel K H0 fd B (wipeE vs ρ) (L2.wipe σ vs) H2 (wipeP vs ψ) (ys ++ Y) :=
      ((R.wipe vs).grow xH2 f2).pushL (fun y hy => (ry y hy).ext x2 fi) (fun y hy j t' k' G' d a h hG m o => absurd o (wipeE_own h)) (fun y hy => io.dom R hy)
    refine ⟨H0, fd, B, wipeE vs ρ, wipeP vs ψ, ys ++ Y, t, F, RB, rF, fun j t' k' G' d a h hG m o => absurd o (wipeE_own h), fun a m => (let ⟨y, hy, hz⟩ := sub a m; io.dom R hy a hz), good_imp gi fun ρ1 g2 σ1 ψ1 R1 S1 T1 U1 L1 => ⟨?_, ?_⟩⟩
    · exact wipe_same L1 fun j hj => (T1 j hj).1
    have g2 := good_bind.mp g2
    refine ⟨H0, fd, B, ρ1, ψ1, ys ++ Y, R1, good_imp g2 fun b g3 H3 x3 f3 => ?_⟩
    have eD2 : H2 D = some (.lst xs) := x2 D _ eD hDfd
    have eD3 : H3 D = some (.lst xs) := x3 D _ eD2 hDfd
    have rG3 : RepL K H3 fd ts xs G := (rG.extL x2 fi).extL x3 f2
    have next : ∀ {H4 : Hp} {zs : List V} , ExtF fd Hi H4 → ExtF fd (L2.upd H1 D (.lst [])) (L2.upd (L2.upd H4 D (.lst zs)) D (.lst [])) := fun {H4 zs} x4 => by
      rw [upd_upd]
      intro b o eb nb
      by_cases c : b = D
      · subst c
        rw [upd_same] at eb ⊢
        exact eb
      · rw [upd_ne c] at eb ⊢
        exact x4 b o (xi1 b o eb nb) nb
    cases b with
    | false =>
      dsimp only
      rw [if_neg Bool.false_ne_true]
      refine ⟨hlt, ?_, f3, ts, xs, G, deep, eD3, rG3, nD, by omega, ow, al, g3⟩
      intro b o eb nb
      by_cases c : b = D
      · subst c
        rw [upd_same] at eb ⊢
        exact eb
      · rw [upd_ne c] at eb ⊢
        exact x3 b o (x2 b o (xi1 b o eb nb) nb) nb
    | true =>
      dsimp only
      rw [if_pos rfl]
      have g3 := good_bind.mp g3
      have R3 := R1.grow x3 f3
      refine ⟨H0, fd, B, ρ1, ψ1, ys ++ Y, R3, good_imp g3 fun z g4 v H4 F4 a4 => ?_⟩
      have eD4 : H4 D = some (.lst xs) := a4.ext D _ eD3 hDfd
      have rG4 := rG3.extL a4.ext f3
      have nDF : D ∉ ads F4 := fun m => by
        obtain ⟨d, m⟩ := mem_ads.mp m
        rcases a4.al d D m with z | ⟨j, m', d', A, q1, q2, q3, q4⟩
        · rw [eD3] at z; cases z
        · rcases U1 j A q2 with h | h
          · rcases wipeP_get h with rfl | ⟨h, _⟩
            · cases q3
            · obtain ⟨⟨ys, ey⟩, _⟩ := R.nodeψ h (mem_ads.mpr ⟨d', q3⟩)
              rw [hDn] at ey; cases ey
          · obtain ⟨y, hy, hz⟩ := sub D (h D (mem_ads.mpr ⟨d', q3⟩))
            exact nDy y hy hz
      have hlen : xs.length < sizeLine := by
        rw [← rG.length, sizeLine_eq]
        have := Nat.le_of_ble_eq_true c
        omega
      refine ⟨xs, eD4, hlen, hlt, next ((x2.trans x3).trans a4.ext), ?_, ts ++ [z.1], xs ++ [v], G ++ F4, deep && Nat.ble 99 z.2, upd_same, ?_, ?_, ?_, ?_, ?_, ?_⟩
      · exact a4.fok.write hDfd
      · have hA : RepL K H4 fd (ts ++ [z.1]) (xs ++ [v]) (G ++ F4) := rG4.append (show RepL K H4 fd [z.1] [v] F4 from ⟨v, [], F4, [], rfl, a4.rep, ⟨rfl, rfl⟩, by simp⟩)
        refine RepL.keeps hA (Keeps.upd eD4 ?_)
        rw [ads_append]
        exact fun m => (List.mem_append.mp m).elim nD nDF
      · rw [ads_append]
        exact fun m => (List.mem_append.mp m).elim nD nDF
      · rw [List.length_append]; exact Nat.succ_le_succ hl
      · intro hd d a m
        obtain ⟨h1, h2⟩ := Bool.and_eq_true_iff.mp hd
        have o2 : ∀ d a, (d, a) ∈ F4 → H3 a = none ∧ (ads F4).count a ≤ 1 := fun d a m => a4.own d a m (.inr (Nat.le_of_ble_eq_true h2))
        have dj : ∀ {d a}, (d, a) ∈ G → a ∉ ads F4 := fun {d a} m n => by
          obtain ⟨d', n⟩ := mem_ads.mp n
          obtain ⟨⟨ys, ey⟩, _⟩ := rG3.node m
          rw [(o2 d' a n).1] at ey; cases ey
        rw [ads_append, List.count_append]
        rcases List.mem_append.mp m with m | m
        · obtain ⟨p, q⟩ := ow h1 d a m
          rw [List.count_eq_zero_of_not_mem (dj m)]
          exact ⟨p, q⟩
        · obtain ⟨p, q⟩ := o2 d a m
          have n : a ∉ ads G := fun z => by
            obtain ⟨d', z⟩ := mem_ads.mp z
            exact dj z (mem_ads.mpr ⟨d, m⟩)
          rw [List.count_eq_zero_of_not_mem n, Nat.zero_add]
          exact ⟨ext_none (xH2.trans x3) (a4.rep.node m).2 p, q⟩
      · intro d a m
        rcases List.mem_append.mp m with m | m
        · exact al d a m
        · rcases a4.al d a m with z | ⟨j, m', d', A, q1, q2, q3, q4⟩
          · exact .inl (ext_none (xH2.trans x3) (a4.rep.node m).2 z)
          · have viaY : ∀ y, y ∈ ys → a ∈ ads y.2.2 → H a = none ∨ ∃ (j m d' : Nat) (A : FP), (j, m) ∈ rdC rd1 vs rd2 ∧ ψ[j]? = some A ∧ (d', a) ∈ A ∧ m ≤ d' := fun y hy z => by
              obtain ⟨d2, z⟩ := mem_ads.mp z
              exact (io.al y hy d2 a z).imp id fun ⟨j, m, d', A, p1, p2⟩ => ⟨j, m, d', A, List.mem_append_left _ p1, p2⟩
            rcases U1 j A q2 with h | h
            · rcases wipeP_get h with rfl | ⟨h, nv⟩
              · cases q3
              · refine .inr ⟨j, m', d', A, List.mem_append_right _ (List.mem_filter.mpr ⟨q1, ?_⟩), h, q3, q4⟩
                simp only [Bool.not_eq_true']
                exact Bool.eq_false_iff.mpr fun z => nv (List.contains_iff_mem.mp z)
            · obtain ⟨y, hy, hz⟩ := sub a (h a (mem_ads.mpr ⟨d', q3⟩))
              exact viaY y hy hz
      · have g4 := good_bind.mp g4
        refine good_imp g4 fun q k v' H' F' a' => k v' H' F' ?_
        rw [List.append_assoc] at a'
        rw [Bool.and_assoc] at a'
        exact a'
end
end VL

set_option Elab.async false
set_option linter.all false
set_option maxRecDepth 100000
set_option maxHeartbeats 4000000
/-! VL9: comprehensions over the layer, calls of defs, a def's promise -/
namespace VL
open PySem PySem.Spec PyProof.Rows L2
section
variable {X : Cx} {W : WH}
theorem ve_comp {elt tg iter : Expr} {ifs : List Expr} {scope : Scope} {own : List (Str × Nat)} {pos : Pos} {src : En → M (List Tr × Nat)} {rd1 rd2 : RD} {g : Gx} {tt : Tx} {te : Ex} {vs : List Nat} (hvs : own.map (·.2) = vs) (hc : X.calm = true) (hN : X.N.Nodup) (hi : VI X W tg iter src rd1) (ok : BlkOk X.N X.env.scope scope own)
    (hg : ∀ (s : Shared) (H : Hp) (C : Addr) (cl : List (Str × Addr)) (fp : List Addr), VGc (X.blk s H scope (compEnvC scope cl C X.env) fp) W vs tg g) (ht : ∀ (s : Shared) (H : Hp) (C : Addr) (cl : List (Str × Addr)) (fp : List Addr), VTs (X.blk s H scope (compEnvC scope cl C X.env) fp) W ifs tt)
    (he : ∀ (s : Shared) (H : Hp) (C : Addr) (cl : List (Str × Addr)) (fp : List Addr), VE (X.blk s H scope (compEnvC scope cl C X.env) fp) W elt te rd2) (hs : ∀ x, foldedSetIterable iter X.env x = pure x := by intro _; rfl) :
    VE X W (.ListComp elt [⟨tg, iter, ifs, 0⟩] scope pos) (eComp src vs g tt te) (rdC rd1 vs rd2) := by
  subst hvs
  exact pe_imp (pe_lc hc hN hi ok hg ht he hs) fun σ H Q q => te_comp q
/-- x = [..] on one line -/
theorem vs_comp {i : Nat} {y : Str} {py : Pos} {elt tg iter : Expr} {ifs : List Expr} {scope : Scope} {own : List (Str × Nat)} {pos spos : Pos} {src : En → M (List Tr × Nat)} {rd1 rd2 : RD} {g : Gx} {tt : Tx} {te : Ex} {vs : List Nat} (hvs : own.map (·.2) = vs) (hc : X.calm = true) (hN : X.N.Nodup) (hy : X.N[i]? = some y) (hyl : X.env.scope.names.lookup y = some .local)
    (hsw : swapsWith (.ListComp elt [⟨tg, iter, ifs, 0⟩] scope pos) (some (.Name y py)) spos.line X.env = pure true) (hi : VI X W tg iter src rd1) (ok : BlkOk X.N X.env.scope scope own)
    (hg : ∀ (s : Shared) (H : Hp) (C : Addr) (cl : List (Str × Addr)) (fp : List Addr), VGc (X.blk s H scope (compEnvC scope cl C X.env) fp) W vs tg g) (ht : ∀ (s : Shared) (H : Hp) (C : Addr) (cl : List (Str × Addr)) (fp : List Addr), VTs (X.blk s H scope (compEnvC scope cl C X.env) fp) W ifs tt)
    (he : ∀ (s : Shared) (H : Hp) (C : Addr) (cl : List (Str × Addr)) (fp : List Addr), VE (X.blk s H scope (compEnvC scope cl C X.env) fp) W elt te rd2) (hs : ∀ x, foldedSetIterable iter X.env x = pure x := by intro _; rfl) :
    VS X W (.Assign [.Name y py] (.ListComp elt [⟨tg, iter, ifs, 0⟩] scope pos) spos) (sAsg i (rdC rd1 vs rd2) (eComp src vs g tt te)) := by
  subst hvs
  refine ps_imp (ps_setLc (wi := TIv X.K W src rd1) (g := TGc X.K W (own.map (·.2)) g) (tt := TTv X.K W tt) (te := TEv X.K W te rd2) hc hN hy hyl hsw hi ok hg ht he hs) fun D σ H q => ?_
  obtain ⟨H0, fd, B, ρ, ψ, Y, R, gd⟩ := q
  have gd := good_bind.mp gd
  exact te_comp (Q := fun x H1 => gName i x σ H1 D.nx) ⟨H0, fd, B, ρ, ψ, Y, R, good_imp gd fun r g1 v H' F a => g1 _ _ _ (R.set (i := i) a)⟩
/-! ### a def's promise -/
abbrev Fn := List Tr → M (Tr × Nat)
structure FnRes (K : PySem.W.Frag) (fd : List Addr) (H : Hp) (F : FP) (r : Tr × Nat) (v : V) (H' : Hp) (G : FP) : Prop where
  ext : ExtF fd H H'
  fok : FeedOk fd H'
  rep : Rep K H' fd r.1 v G
  own : ∀ d a, (d, a) ∈ G → owns d r.2 → H a = none ∧ (ads G).count a ≤ 1
  dom : ∀ a, a ∈ ads G → H a = none ∨ a ∈ ads F
def spV (K : PySem.W.Frag) (n : Nat) (f : Fn) : Sp := fun vs H Q _ => ∃ (fd : List Addr) (ts : List Tr) (F : FP), ts.length = n ∧ FeedOk fd H ∧ RepL K H fd ts vs F ∧ good (fun _ _ => False) (f ts) fun r => ∀ v H' G, FnRes K fd H F r v H' G → Q v H'
/-- with the feed as the first argument -/
def spVf (K : PySem.W.Frag) (n : Nat) (f : Fn) : Sp := fun vs H Q _ => ∃ (a s : Addr) (ts : List Tr) (ws : List V) (F : FP), vs = .ref a :: ws ∧ ts.length = n ∧ FeedOk [a, s] H ∧ RepL K H [a, s] ts ws F ∧ good (fun _ _ => False) (f ts) fun r => ∀ v H' G, FnRes K [a, s] H F r v H' G → Q v H'
theorem ResL.fn {K : PySem.W.Frag} {fd : List Addr} {ψ : List FP} {rd : RD} {H H1 H2 : Hp} {ts : List Tr} {dp : Bool} {vs : List V} {F G : FP} {r : Tr × Nat} {v : V} (a : ResL K fd ψ rd H ts dp vs H1 F) (b : FnRes K fd H1 F r v H2 G) : Res K fd ψ rd H r v H2 G where
  ext := a.ext.trans b.ext
  fok := b.fok
  rep := b.rep
  own := fun d c m o => ⟨ext_none a.ext (b.rep.node m).2 (b.own d c m o).1, (b.own d c m o).2⟩
  al := fun d c m => by
    rcases b.dom c (mem_ads.mpr ⟨d, m⟩) with z | z
    · exact .inl (ext_none a.ext (b.rep.node m).2 z)
    · obtain ⟨d', z⟩ := mem_ads.mp z
      exact (a.al d' c z).imp id fun ⟨j, m', d'', A, h1, h2, h3, h4⟩ => ⟨j, m', d'', A, h1, h2, h3, h4⟩
def eFn (n : Nat) (f : Fn) (a : Ax) : Ex := fun ρ => (a ρ).bind fun r => if Nat.beq r.1.length n then (f r.1).noExc else .bad
theorem ve_fn {k n : Nat} {f : Addr} {fd : FuncData} {ps : List Str} {x : Str} {p pos : Pos} {e : Expr} {es : List Expr} {F : Fn} {s : Ax} {rd : RD} (G : FnOk X.prog X.w X.K X.mg X.base CX0 k f fd ps (spV X.K n F)) (hr : Room k X.A) (hg : Gl X x) (hm : X.mg x = some (.ref f)) (hk : PySem.W.keepIn X.K (.ref f) = true) (hb : Binds X.K fd ps [])
    (ha : VA X W (e :: es) s rd) (hdb : (x == ("__debug__" : Str)) = false := by decide) (he : starEach (e :: es) X.env = (false, eval e X.env) :: starEach es X.env := by rfl) (hpl : (backTo pos (starEach es X.env)).any (·.1) = false := by rfl) :
    VE X W (.Call (.Name x p) (e :: es) [] pos) (eFn n F s) rd := pe_imp (pe_call G hr hg hm hk hb .nil pass0 ha hdb he hpl) fun σ H Q q => by
  obtain ⟨H0, fd', B, ρ, ψ, Y, R, g⟩ := q
  have g := good_bind.mp g
  refine ⟨H0, fd', B, ρ, ψ, Y, R, good_imp g fun r g1 vs H1 F1 a => ?_⟩
  obtain ⟨c, g1⟩ := if_good g1
  show spV X.K n F (vs ++ []) H1 Q E0
  rw [List.append_nil]
  exact ⟨fd', r.1, F1, Nat.eq_of_beq_eq_true c, a.fok, a.rep, good_imp (good_noExc g1) fun z k v H' G' b => k v H' G' (a.fn b)⟩
theorem ve_fn0 {k : Nat} {f : Addr} {fd : FuncData} {ps : List Str} {x : Str} {p pos : Pos} {F : Fn} (G : FnOk X.prog X.w X.K X.mg X.base CX0 k f fd ps (spV X.K 0 F)) (hr : Room k X.A) (hg : Gl X x) (hm : X.mg x = some (.ref f)) (hk : PySem.W.keepIn X.K (.ref f) = true) (hb : Binds X.K fd ps [])
    (hdb : (x == ("__debug__" : Str)) = false := by decide) : VE X W (.Call (.Name x p) [] [] pos) (eFn 0 F aNil) [] := pe_imp (pe_call0 G hr hg hm hk hb .nil pass0 hdb) fun σ H Q q => by
  obtain ⟨H0, fd', B, ρ, ψ, Y, R, g⟩ := q
  have g := good_bind.mp g
  have g : good (W H0 fd') (F []).noExc _ := g
  show spV X.K 0 F ([] ++ []) H Q E0
  exact ⟨fd', [], [], rfl, R.fok, ⟨rfl, rfl⟩, good_imp (good_noExc g) fun z k v H' G' b => k v H' G' (ResL.fn (ψ := ψ) (rd := []) (dp := true) (ts := []) (vs := []) (F := []) (H := H) ⟨.refl, R.fok, ⟨rfl, rfl⟩, fun _ _ _ m => (nomatch m), fun _ _ m => (nomatch m)⟩ b)⟩
/-- f(feed, ..): the feed in slot i -/
def isFd : Option Sl → Bool
  | some .feed => true
  | _ => false
def eFnF (i n : Nat) (f : Fn) (a : Ax) : Ex := fun ρ => if isFd ρ[i]? then (a ρ).bind fun r => if Nat.beq r.1.length n then (f r.1).noExc else .bad else .bad
theorem isFd_of {o : Option Sl} (h : isFd o = true) : o = some .feed := by
  unfold isFd at h
  split at h
  · rfl
  · cases h
theorem ve_fnF {i k n : Nat} {f : Addr} {fd : FuncData} {ps : List Str} {x xf : Str} {p pf pos : Pos} {es : List Expr} {F : Fn} {s : Ax} {rd : RD} (G : FnOk X.prog X.w X.K X.mg X.base CX0 k f fd ps (spVf X.K n F)) (hr : Room k X.A) (hg : Gl X x) (hm : X.mg x = some (.ref f)) (hk : PySem.W.keepIn X.K (.ref f) = true) (hb : Binds X.K fd ps [])
    (hv : PE X (.Name xf pf) (tVar i)) (ha : VA X W es s rd) (hdb : (x == ("__debug__" : Str)) = false := by decide) (he : starEach (.Name xf pf :: es) X.env = (false, eval (.Name xf pf) X.env) :: starEach es X.env := by rfl) (hpl : (backTo pos (starEach es X.env)).any (·.1) = false := by rfl) :
    VE X W (.Call (.Name x p) (.Name xf pf :: es) [] pos) (eFnF i n F s) rd := pe_imp (pe_call G hr hg hm hk hb .nil pass0 (pa_cons hv ha he) hdb he hpl) fun σ H Q q => by
  obtain ⟨H0, fd', B, ρ, ψ, Y, R, g⟩ := q
  obtain ⟨c0, g⟩ := if_good g
  have g := good_bind.mp g
  obtain ⟨_, a0, s0, hfd, hσ⟩ := R.fed i (isFd_of c0)
  subst hfd
  refine ⟨.ref a0, hσ, H0, [a0, s0], B, ρ, ψ, Y, R, good_imp g fun r g1 vs H1 F1 a => ?_⟩
  obtain ⟨c, g1⟩ := if_good g1
  show spVf X.K n F ((.ref a0 :: vs) ++ []) H1 Q E0
  rw [List.append_nil]
  exact ⟨a0, s0, r.1, vs, F1, rfl, Nat.eq_of_beq_eq_true c, a.fok, a.rep, good_imp (good_noExc g1) fun z k v H' G' b => k v H' G' (a.fn b)⟩
end
/-! ### a def's body -/
def noes : Nat → En
  | 0 => []
  | n + 1 => .no :: noes n
def argsE : List Tr → En
  | [] => []
  | t :: ts => .v t 0 :: argsE ts
def outF : Fl → M (Tr × Nat)
  | .nx _ => .ret (.non, 99)
  | .rt t k => .ret (t, k)
  | _ => .bad
/-- m: the slots that are not parameters -/
def runB (m : Nat) (s : Sx) : Fn := fun ts => (s (argsE ts ++ noes m)).bind outF
def runBf (m : Nat) (s : Sx) : Fn := fun ts => (s (.feed :: (argsE ts ++ noes m))).bind outF
theorem noes_length : ∀ n, (noes n).length = n
  | 0 => rfl
  | n + 1 => by show (noes n).length + 1 = _; rw [noes_length n]
theorem noes_get : ∀ {n i : Nat} {s : Sl}, (noes n)[i]? = some s → s = .no
  | 0, i, s, h => by simp [noes] at h
  | n + 1, 0, s, h => by simpa [noes] using h.symm
  | n + 1, i + 1, s, h => noes_get (n := n) (i := i) (by simpa [noes] using h)
/-- the footprints of the arguments, one by one -/
theorem RepL.each {K : PySem.W.Frag} {H : Hp} {fd : List Addr} : ∀ {ts : List Tr} {vs : List V} {F : FP}, RepL K H fd ts vs F → ∃ Fs : List FP, Fs.length = ts.length ∧ (∀ G, G ∈ Fs → ∀ a, a ∈ ads G → a ∈ ads F) ∧
    ∀ (i : Nat) (s : Sl), (argsE ts)[i]? = some s → ∃ t v G, s = .v t 0 ∧ vs[i]? = some v ∧ Fs[i]? = some G ∧ Rep K H fd t v G
  | [], _, _, h => ⟨[], rfl, fun _ m => (nomatch m), fun i s e => by simp [argsE] at e⟩
  | t :: ts, _, _, h => by
    obtain ⟨x, ys, G1, G2, rfl, h1, h2, rfl⟩ := h
    obtain ⟨Fs, hl, hm, hr⟩ := RepL.each h2
    refine ⟨G1 :: Fs, by simp [hl], fun G m a ha => ?_, fun i s e => ?_⟩
    · rw [ads_append]
      rcases List.mem_cons.mp m with rfl | m
      · exact List.mem_append_left _ ha
      · exact List.mem_append_right _ (hm G m a ha)
    · cases i with
      | zero =>
        obtain rfl : Sl.v t 0 = s := by simpa [argsE] using e
        exact ⟨t, x, G1, rfl, rfl, rfl, h1⟩
      | succ i =>
        obtain ⟨t', v, G, e1, e2, e3, e4⟩ := hr i s (by simpa [argsE] using e)
        exact ⟨t', v, G, e1, by simpa using e2, by simpa using e3, e4⟩
theorem argsE_length : ∀ ts, (argsE ts).length = ts.length
  | [] => rfl
  | t :: ts => by show (argsE ts).length + 1 = _; rw [argsE_length ts]; rfl
theorem start_get {N : List Str} {vs : List V} {i : Nat} {v : V} (h : vs[i]? = some v) : (L2.start N vs)[i]? = some (some v) := by
  unfold L2.start
  have hi := (List.getElem?_eq_some_iff.mp h).1
  rw [List.getElem?_append_left (by rw [List.length_map]; exact hi), List.getElem?_map, h]
  rfl
/-- the frame at a def's entry -/
theorem rel_start {K : PySem.W.Frag} {H : Hp} {fd : List Addr} {ts : List Tr} {vs : List V} {F : FP} {N : List Str} {m : Nat} (f : FeedOk fd H) (r : RepL K H fd ts vs F) (hN : N.length = ts.length + m) : ∃ ψ, Rel K H fd (ads F) (argsE ts ++ noes m) (L2.start N vs) H ψ [] := by
  obtain ⟨Fs, hl, hm, hr⟩ := r.each
  have hlv := r.length
  have split : ∀ {i : Nat} {s : Sl}, (argsE ts ++ noes m)[i]? = some s → (argsE ts)[i]? = some s ∨ (s = .no ∧ ts.length ≤ i) := fun {i s} h => by
    by_cases c : i < ts.length
    · rw [List.getElem?_append_left (by rw [argsE_length]; exact c)] at h
      exact .inl h
    · rw [List.getElem?_append_right (by rw [argsE_length]; omega)] at h
      exact .inr ⟨noes_get h, by omega⟩
  have psi : ∀ {i : Nat} {G : FP}, (Fs ++ List.replicate m ([] : FP))[i]? = some G → G = [] ∨ G ∈ Fs := fun {i G} h => by
    rcases List.mem_append.mp (List.mem_of_getElem? h) with z | z
    · exact .inr z
    · exact .inl (List.mem_replicate.mp z).2
  refine ⟨Fs ++ List.replicate m [], ?_, ?_, fun i t k h => ?_, fun i h => ?_, fun i h => ?_, fun y hy => (nomatch hy), fun i t k G d a h hG mm o => ?_, fun a h => ?_, .refl, f⟩
  · unfold L2.start
    rw [List.length_append, List.length_map, List.length_replicate, List.length_append, argsE_length, noes_length]
    omega
  · rw [List.length_append, List.length_replicate, List.length_append, argsE_length, noes_length, hl]
  · rcases split h with h | ⟨h, _⟩
    · obtain ⟨t', v, G, e1, e2, e3, e4⟩ := hr i _ h
      cases e1
      refine ⟨v, G, start_get e2, ?_, e4⟩
      rw [List.getElem?_append_left (List.getElem?_eq_some_iff.mp e3).1]
      exact e3
    · cases h
  · rcases split h with h' | ⟨_, hi⟩
    · obtain ⟨_, _, _, e1, _⟩ := hr i _ h'
      cases e1
    · have hi2 : i < ts.length + m := by
        have := (List.getElem?_eq_some_iff.mp h).1
        rw [List.length_append, argsE_length, noes_length] at this
        exact this
      rw [List.getElem?_append_right (by omega), List.getElem?_replicate, if_pos (by omega)]
  · rcases split h with h' | ⟨e, _⟩
    · obtain ⟨_, _, _, e1, _⟩ := hr i _ h'
      cases e1
    · cases e
  · rcases split h with h' | ⟨e, _⟩
    · obtain ⟨_, _, _, e1, _⟩ := hr i _ h'
      cases e1
      exact absurd o owns_zero
    · cases e
  · rcases h with ⟨G, hG, ha⟩ | ⟨y, hy, _⟩
    · obtain ⟨i, hi⟩ := List.getElem?_of_mem hG
      rcases psi hi with rfl | z
      · cases ha
      · exact .inr (hm G z a ha)
    · cases hy
theorem rel_startF {K : PySem.W.Frag} {H : Hp} {a s : Addr} {ts : List Tr} {vs : List V} {F : FP} {N : List Str} {m : Nat} (f : FeedOk [a, s] H) (r : RepL K H [a, s] ts vs F) (hN : N.length = ts.length + m + 1) : ∃ ψ, Rel K H [a, s] (ads F) (.feed :: (argsE ts ++ noes m)) (L2.start N (.ref a :: vs)) H ψ [] := by
  obtain ⟨ψ, R⟩ := rel_start (N := N.tail) (m := m) f r (by rw [List.length_tail]; omega)
  have es : L2.start N (.ref a :: vs) = some (.ref a) :: L2.start N.tail vs := by
    unfold L2.start
    rw [List.map_cons, List.length_cons, List.length_tail, List.cons_append]
    congr 3
    omega
  rw [es]
  refine ⟨[] :: ψ, by simp [R.lns], by simp [R.lnp], fun i t k h => ?_, fun i h => ?_, fun i h => ?_, fun y hy => (nomatch hy), fun i t k G d b h hG mm o => ?_, fun b h => ?_, R.ext, R.fok⟩
  · cases i with
    | zero => simp at h
    | succ i => simpa using R.rep i t k (by simpa using h)
  · cases i with
    | zero => simp at h
    | succ i => simpa using R.dead i (by simpa using h)
  · cases i with
    | zero => exact ⟨rfl, a, s, rfl, rfl⟩
    | succ i => simpa using R.fed i (by simpa using h)
  · cases i with
    | zero => simp at h
    | succ i =>
      obtain ⟨q1, q2, q3, q4⟩ := R.own i t k G d b (by simpa using h) (by simpa using hG) mm o
      refine ⟨q1, fun j G' hj hG' => ?_, q3, q4⟩
      cases j with
      | zero =>
        obtain rfl : ([] : FP) = G' := by simpa using hG'
        exact fun z => (nomatch z)
      | succ j => exact q2 j G' (by omega) (by simpa using hG')
  · rcases h with ⟨G, hG, hb⟩ | h
    · rcases List.mem_cons.mp hG with rfl | hG
      · cases hb
      · exact R.dom b (.inl ⟨G, hG, hb⟩)
    · exact R.dom b (.inr h)
theorem fl_out {K : PySem.W.Frag} {H : Hp} {fd : List Addr} {F : FP} {Q : VK} {s : M Fl} (g : good (fun _ _ => False) (s.bind outF) fun r => ∀ v H' G, FnRes K fd H F r v H' G → Q v H') :
    good (fun _ _ => False) s (FlP K H fd (ads F) [] { nx := fun _ H' => Q .non H', rt := Q }) := good_imp (good_bind.mp g) fun fl g1 => by
  cases fl with
  | nx ρ => exact fun σ H' ψ R => g1 .non H' [] ⟨R.ext, R.fok, ⟨rfl, rfl⟩, fun _ _ m => (nomatch m), fun _ m => (nomatch m)⟩
  | bk ρ => exact g1.elim
  | ct ρ => exact g1.elim
  | rt t k => exact fun v H' G r => g1 v H' G ⟨r.ext, r.fok, r.rep, r.own, r.dom⟩
section
variable {P : Program} {w : World} {K : PySem.W.Frag} {mg : Str → Option Value} {base : Heap}
abbrev W0 : WH := fun _ _ _ _ => False
/-- the body's own context -/
abbrev Bx (P : Program) (w : World) (K : PySem.W.Frag) (mg : Str → Option Value) (base : Heap) (N : List Str) (qual : Str) (scope : Scope) (f : Addr) (cdv : Value) (A : Around) (outer : List Env) (s : Shared) (H : Hp) (E : XK) : Cx := (cxOf CX0 P w K mg base N qual scope f cdv A outer s H E).nox
theorem fn_ok {x qual : Str} {st : Stmt} {f : Addr} {fd : FuncData} {N ps : List Str} {k n m : Nat} {s : Sx} (F : Fun K x qual st f fd) (S : FnScope N ps (defScope st)) (hn : ps.length = n) (hm : N.length = n + m)
    (hb : ∀ (cdv : Value) (A : Around) (outer : List Env) (s' : Shared) (H : Hp) (E : XK), Room k (A.deeper (envOfC qual (defScope st) s'.heap.objs.size f cdv)) → VSs (Bx P w K mg base N qual (defScope st) f cdv A outer s' H E) W0 (defBody st) s) :
    FnOk P w K mg base CX0 (k + 1) f fd ps (spV K n (runB m s)) := by
  refine F.ok S (fun vs H Q E h => ?_) (fun cdv A outer s' H vs Q E hr h => ?_)
  · obtain ⟨fd', ts, F', hl, _, r, _⟩ := h
    rw [← r.length, hl, hn]
  · obtain ⟨fd', ts, F', hl, hf, r, g⟩ := h
    obtain ⟨ψ, R⟩ := rel_start (N := N) (m := m) hf r (by rw [hm, hl])
    exact ⟨_, hb cdv A outer s' H E hr, H, fd', ads F', _, ψ, [], R, fl_out g⟩
theorem fn_okF {x qual : Str} {st : Stmt} {f : Addr} {fd : FuncData} {N ps : List Str} {k n m : Nat} {s : Sx} (F : Fun K x qual st f fd) (S : FnScope N ps (defScope st)) (hn : ps.length = n + 1) (hm : N.length = n + m + 1)
    (hb : ∀ (cdv : Value) (A : Around) (outer : List Env) (s' : Shared) (H : Hp) (E : XK), Room k (A.deeper (envOfC qual (defScope st) s'.heap.objs.size f cdv)) → VSs (Bx P w K mg base N qual (defScope st) f cdv A outer s' H E) W0 (defBody st) s) :
    FnOk P w K mg base CX0 (k + 1) f fd ps (spVf K n (runBf m s)) := by
  refine F.ok S (fun vs H Q E h => ?_) (fun cdv A outer s' H vs Q E hr h => ?_)
  · obtain ⟨a, s0, ts, ws, F', rfl, hl, _, r, _⟩ := h
    rw [List.length_cons, ← r.length, hl, hn]
  · obtain ⟨a, s0, ts, ws, F', rfl, hl, hf, r, g⟩ := h
    obtain ⟨ψ, R⟩ := rel_startF (N := N) (m := m) hf r (by rw [hm, hl])
    exact ⟨_, hb cdv A outer s' H E hr, H, [a, s0], ads F', _, ψ, [], R, fl_out g⟩
end
end VL

set_option Elab.async false
set_option linter.all false
set_option maxRecDepth 100000
set_option maxHeartbeats 4000000
/-! VL10: the draws of a law -/
namespace VL
open PySem PySem.Spec PyProof.Rows L2
abbrev rLenS (K : PySem.W.Frag) : List V → Hp → VK → Prop := fun xs H Q => ∃ p ys, xs = [.ref p] ∧ (SqL K H p ys ∨ SqT K H p ys) ∧ Q (.int ys.length) H
abbrev rAbsI : List V → Hp → VK → Prop := fun xs H Q => ∃ i, xs = [.int i] ∧ Q (.int (if i < 0 then -i else i)) H
abbrev rIntI : List V → Hp → VK → Prop := fun xs H Q => (∃ i, xs = [.int i] ∧ Q (.int i) H) ∨ ∃ k, xs = [.bl k] ∧ Q (.int (if k then 1 else 0)) H
abbrev rListO (K : PySem.W.Frag) : List V → Hp → VK → Prop := fun xs H Q => ∃ p ys, xs = [.ref p] ∧ (SqL K H p ys ∨ SqT K H p ys) ∧ ∀ l, H l = none → Q (.ref l) (upd H l (.lst ys))
abbrev ixF (K : PySem.W.Frag) (i : Int) : TE := tOp (rIxL K) (tVar 0) (tC (.int i))
abbrev rAddI : R2 := rI0 fun i j => .int (i + j)
abbrev rMulI : R2 := rI CMul fun i j => .int (i * j)
abbrev rModI : R2 := rI (fun _ j => 0 < j) fun i j => .int (i % j)
abbrev rFdvI : R2 := rI CDiv fun i j => .int (i / j)
abbrev tSet (te : TE) (i : Int) : TS := tAsg te (gSub (tVar 0) (tC (.int i)) rSetL)
abbrev tIntC (t : TE) : TE := tCB rIntI (tCons t tNil)
def t_cell (K : PySem.W.Frag) : TS :=
  tSeq (tAsg (tCB rAbsI (tCons (tIntC (tOp (rIxL K) (ixF K 0) (ixF K 1))) tNil)) (gName 2))
    (tSeq (tAugS (tVar 0) (tC (.int 1)) (tC (.int 1)) (rIxL K) (ipI fun i j => i + j) rSetL)
      (tIfS (tTest (tOp (rI0 fun i j => .bl (decide (j ≤ i))) (tVar 2) (tOp (rI CPow fun i j => .int (i ^ j.toNat)) (tC (.int 10)) (tC (.int 18)))))
        (tSet (tVar 2) 2)
        (tSet (tOp rModI (tIntC (tOp rAddI (tOp rAddI (tOp rMulI (ixF K 3) (tC (.int 48271))) (tOp rMulI (tVar 2) (tC (.int 69621)))) (ixF K 1))) (tC (.int 2147483647))) 3)))
def t_big (K : PySem.W.Frag) : TS :=
  tSeq (tAsg (tOp rModI (tIntC (ixF K 2)) (tVar 1)) (gName 3)) (tSeq (tSet (tOp rFdvI (ixF K 2) (tVar 1)) 2) (tRet (tVar 3)))
def t_last (K : PySem.W.Frag) : TS :=
  tSeq (tSet (tOp rModI (tIntC (tOp rAddI (tOp rMulI (ixF K 3) (tC (.int 16807))) (tC (.int 12345)))) (tC (.int 2147483647))) 3)
    (tSeq (tAsg (tOp rModI (tIntC (tOp rAddI (tOp rMulI (ixF K 3) (ixF K 3)) (ixF K 3))) (tC (.int 2147483629))) (gName 4))
      (tRet (tOp rModI (tOp rFdvI (tVar 4) (tC (.int 11))) (tVar 1))))
def t_draw (K : PySem.W.Frag) : TS :=
  tSeq (tIfS (L2.tAnd (tTest (tOp rEq (ixF K 2) (tC (.int 0)))) (tTest (tOp (rI0 fun i j => .bl (decide (i < j))) (ixF K 1) (tCB (rLenS K) (tCons (ixF K 0) tNil))))) (t_cell K) tNext)
    (tSeq (tIfS (tTest (tOp (rI0 fun i j => .bl (decide (j < i))) (ixF K 2) (tC (.int 0)))) (t_big K) tNext) (t_last K))
/-- any number below many -/
def fDraw : Fn := fun ts => match ts with
  | [.int m] => if decide (0 < m) && decide (m < 1073741824) then .draw m fun r => .ret (.int r, 99) else .bad
  | _ => .bad
/-- the feed's object holds p, c, x -/
structure FeedAt (a s : Addr) (ns : List Int) (H0 H : Hp) (p c x : Int) : Prop where
  ne : a ≠ s
  at_ : H a = some (.lst [.ref s, .int p, .int c, .int x])
  scr : H s = some (.lst (ns.map V.int))
  len : ns.length ≤ 63
  p0 : 0 ≤ p
  p1 : p ≤ 63
  c0 : 0 ≤ c
  x0 : 0 ≤ x
  x1 : x < 2147483647
  ext : ExtF [a, s] H0 H
theorem FeedAt.ok {a s : Addr} {ns : List Int} {H0 H : Hp} {p c x : Int} (f : FeedAt a s ns H0 H p c x) : FeedOk [a, s] H := .inr ⟨a, s, ns, p, c, x, rfl, f.ne, f.at_, f.scr, f.len, f.p0, f.p1, f.c0, f.x0, f.x1⟩
theorem FeedAt.upd {a s : Addr} {ns : List Int} {H0 H : Hp} {p c x p' c' x' : Int} (f : FeedAt a s ns H0 H p c x) (h : 0 ≤ p' ∧ p' ≤ 63) (h2 : 0 ≤ c') (h3 : 0 ≤ x' ∧ x' < 2147483647) : FeedAt a s ns H0 (L2.upd H a (.lst [.ref s, .int p', .int c', .int x'])) p' c' x' :=
  ⟨f.ne, upd_same, by rw [upd_ne (Ne.symm f.ne)]; exact f.scr, f.len, h.1, h.2, h2, h3.1, h3.2, fun b o e n => by
    rw [upd_ne (fun z => n (by rw [z]; exact List.mem_cons_self))]
    exact f.ext b o e n⟩
section
variable {K : PySem.W.Frag} {a s : Addr} {ns : List Int} {H0 H : Hp} {p c x : Int} {σ : L2.St}
theorem ix_ok (f : FeedAt a s ns H0 H p c x) (h : σ[0]? = some (some (.ref a))) (i : Int) {v : V} {Q : VK} (e : atI [V.ref s, .int p, .int c, .int x] i = some v) (q : Q v H) : ixF K i σ H Q :=
  ⟨_, h, a, _, i, v, rfl, rfl, SqL.of f.at_, e, q⟩
theorem last_ok (f : FeedAt a s ns H0 H p c x) {m : Int} (h0 : σ[0]? = some (some (.ref a))) (h1 : σ[1]? = some (some (.int m))) (hl : σ.length = 5) (hm : 0 < m) {D : Ends} (q : ∀ r H', 0 ≤ r → r < m → ExtF [a, s] H0 H' → FeedOk [a, s] H' → D.rt (.int r) H') : t_last K D σ H := by
  have hx := f.x0
  have hx1 := f.x1
  refine ix_ok f h0 3 rfl ⟨x, 16807, rfl, rfl, .inl ⟨by omega, by omega⟩, _, _, rfl, rfl, .inl ⟨_, rfl, _, _, rfl, rfl, (by decide : (0 : Int) < 2147483647), _, h0, a, _, 3, 3, rfl, rfl, f.at_, rfl, ?_⟩⟩
  show tSeq _ _ _ σ (L2.upd H a (.lst [.ref s, .int p, .int c, .int ((x * 16807 + 12345) % 2147483647)]))
  have n0 : (0 : Int) ≤ (x * 16807 + 12345) % 2147483647 := Int.emod_nonneg _ (by decide)
  have n1 : (x * 16807 + 12345) % 2147483647 < 2147483647 := Int.emod_lt_of_pos _ (by decide)
  have f2 : FeedAt a s ns H0 (L2.upd H a (.lst [.ref s, .int p, .int c, .int ((x * 16807 + 12345) % 2147483647)])) p c ((x * 16807 + 12345) % 2147483647) := f.upd ⟨f.p0, f.p1⟩ f.c0 ⟨n0, n1⟩
  revert n0 n1 f2
  generalize (x * 16807 + 12345) % 2147483647 = y
  intro n0 n1 f2
  refine ix_ok f2 h0 3 rfl ?_
  refine ix_ok f2 h0 3 rfl ⟨y, y, rfl, rfl, .inl ⟨by omega, by omega⟩, ?_⟩
  refine ix_ok f2 h0 3 rfl ⟨_, _, rfl, rfl, .inl ⟨_, rfl, _, _, rfl, rfl, (by decide : (0 : Int) < 2147483629), ?_⟩⟩
  have h4 : (σ.set 4 (some (V.int ((y * y + y) % 2147483629))))[4]? = some (some (.int ((y * y + y) % 2147483629))) := List.getElem?_set_self (by omega)
  have h1' : (σ.set 4 (some (V.int ((y * y + y) % 2147483629))))[1]? = some (some (.int m)) := by rw [List.getElem?_set_ne (by decide)]; exact h1
  refine ⟨_, h4, _, _, rfl, rfl, ⟨by decide, by decide⟩, _, h1', _, _, rfl, rfl, hm, ?_⟩
  exact q _ _ (Int.emod_nonneg _ (by omega)) (Int.emod_lt_of_pos _ hm) f2.ext f2.ok
theorem big_ok (f : FeedAt a s ns H0 H p c x) {m : Int} (h0 : σ[0]? = some (some (.ref a))) (h1 : σ[1]? = some (some (.int m))) (hl : σ.length = 5) (hm : 0 < m) (hm1 : m < 1073741824) {D : Ends} (q : ∀ r H', 0 ≤ r → r < m → ExtF [a, s] H0 H' → FeedOk [a, s] H' → D.rt (.int r) H') : t_big K D σ H := by
  refine ix_ok f h0 2 rfl (.inl ⟨_, rfl, _, h1, _, _, rfl, rfl, hm, ?_⟩)
  have h0' : (σ.set 3 (some (V.int (c % m))))[0]? = some (some (.ref a)) := by rw [List.getElem?_set_ne (by decide)]; exact h0
  have h1' : (σ.set 3 (some (V.int (c % m))))[1]? = some (some (.int m)) := by rw [List.getElem?_set_ne (by decide)]; exact h1
  have h3' : (σ.set 3 (some (V.int (c % m))))[3]? = some (some (.int (c % m))) := List.getElem?_set_self (by omega)
  refine ix_ok f h0' 2 rfl ⟨_, h1', _, _, rfl, rfl, ⟨hm, hm1⟩, _, h0', a, _, 2, 2, rfl, rfl, f.at_, rfl, ?_⟩
  have f2 : FeedAt a s ns H0 (L2.upd H a (.lst [.ref s, .int p, .int (c / m), .int x])) p (c / m) x := f.upd ⟨f.p0, f.p1⟩ (Int.ediv_nonneg f.c0 (by omega)) ⟨f.x0, f.x1⟩
  exact ⟨_, h3', q _ _ (Int.emod_nonneg _ (by omega)) (Int.emod_lt_of_pos _ hm) f2.ext f2.ok⟩
theorem tail_ok (f : FeedAt a s ns H0 H p c x) {m : Int} (h0 : σ[0]? = some (some (.ref a))) (h1 : σ[1]? = some (some (.int m))) (hl : σ.length = 5) (hm : 0 < m) (hm1 : m < 1073741824) {D : Ends} (q : ∀ r H', 0 ≤ r → r < m → ExtF [a, s] H0 H' → FeedOk [a, s] H' → D.rt (.int r) H') :
    tSeq (tIfS (tTest (tOp (rI0 fun i j => .bl (decide (j < i))) (ixF K 2) (tC (.int 0)))) (t_big K) tNext) (t_last K) D σ H := by
  refine ix_ok f h0 2 rfl ⟨c, 0, rfl, rfl, _, rfl, ?_⟩
  by_cases h : (0 : Int) < c
  · rw [decide_eq_true h]; dsimp only; rw [if_pos rfl]
    exact big_ok f h0 h1 hl hm hm1 q
  · rw [decide_eq_false h]; dsimp only; rw [if_neg Bool.false_ne_true]
    exact last_ok f h0 h1 hl hm q
theorem cell_ok (f : FeedAt a s ns H0 H p c x) {m : Int} (h0 : σ[0]? = some (some (.ref a))) (h1 : σ[1]? = some (some (.int m))) (hl : σ.length = 5) (hm : 0 < m) (hm1 : m < 1073741824) (hc : c = 0) (hp : p < ns.length) {D : Ends} (q : ∀ r H', 0 ≤ r → r < m → ExtF [a, s] H0 H' → FeedOk [a, s] H' → D.rt (.int r) H') :
    t_cell K { D with nx := tSeq (tIfS (tTest (tOp (rI0 fun i j => .bl (decide (j < i))) (ixF K 2) (tC (.int 0)))) (t_big K) tNext) (t_last K) D } σ H := by
  have hp0 := f.p0
  obtain ⟨j, rfl⟩ : ∃ j : Nat, p = (j : Int) := ⟨p.toNat, by omega⟩
  have hj : j < ns.length := by omega
  have hs : atI (ns.map V.int) (j : Int) = some (.int ns[j]) := atI_nat (by rw [List.getElem?_map, List.getElem?_eq_getElem hj]; rfl)
  refine ix_ok f h0 0 rfl ?_
  refine ix_ok f h0 1 rfl ⟨s, _, (j : Int), _, rfl, rfl, SqL.of f.scr, hs, .inl ⟨_, rfl, _, rfl, ?_⟩⟩
  generalize hcell : (if ns[j] < 0 then -ns[j] else ns[j]) = cell
  have hcell0 : 0 ≤ cell := by
    rw [← hcell]
    split <;> omega
  have h0' : (σ.set 2 (some (V.int cell)))[0]? = some (some (.ref a)) := by rw [List.getElem?_set_ne (by decide)]; exact h0
  have h1' : (σ.set 2 (some (V.int cell)))[1]? = some (some (.int m)) := by rw [List.getElem?_set_ne (by decide)]; exact h1
  have h2' : (σ.set 2 (some (V.int cell)))[2]? = some (some (.int cell)) := List.getElem?_set_self (by omega)
  have hl' : (σ.set 2 (some (V.int cell))).length = 5 := by rw [List.length_set]; exact hl
  show tSeq _ _ _ (σ.set 2 (some (V.int cell))) H
  revert h0' h1' h2' hl'
  generalize σ.set 2 (some (V.int cell)) = σ2
  intro h0' h1' h2' hl'
  have flen := f.len
  refine ⟨_, h0', a, _, 1, _, rfl, rfl, SqL.of f.at_, rfl, _, _, rfl, rfl, a, _, 1, 1, rfl, rfl, f.at_, rfl, ?_⟩
  have f2 : FeedAt a s ns H0 (L2.upd H a (.lst [.ref s, .int ((j : Int) + 1), .int c, .int x])) ((j : Int) + 1) c x := f.upd ⟨by omega, by omega⟩ f.c0 ⟨f.x0, f.x1⟩
  dsimp only
  show tIfS _ _ _ _ σ2 (L2.upd H a (.lst [.ref s, .int ((j : Int) + 1), .int c, .int x]))
  revert f2
  generalize L2.upd H a (.lst [.ref s, .int ((j : Int) + 1), .int c, .int x]) = H2
  intro f2
  refine ⟨_, h2', _, _, rfl, rfl, ⟨by decide, by decide, by decide⟩, _, _, rfl, rfl, _, rfl, ?_⟩
  by_cases hb : ((10 : Int) ^ (18 : Int).toNat) ≤ cell
  · rw [decide_eq_true hb]; dsimp only; rw [if_pos rfl]
    refine ⟨_, h2', _, h0', a, _, 2, 2, rfl, rfl, f2.at_, rfl, ?_⟩
    exact tail_ok (f2.upd (p' := (j : Int) + 1) (c' := cell) (x' := x) ⟨by omega, by omega⟩ hcell0 ⟨f.x0, f.x1⟩) h0' h1' hl' hm hm1 q
  · rw [decide_eq_false hb]; dsimp only; rw [if_neg Bool.false_ne_true]
    have hx := f.x0
    have hx1 := f.x1
    refine ix_ok f2 h0' 3 rfl ⟨x, 48271, rfl, rfl, .inl ⟨by omega, by omega⟩, _, h2', _, _, rfl, rfl, .inr ⟨by decide, by decide⟩, _, _, rfl, rfl, ?_⟩
    refine ix_ok f2 h0' 1 rfl ⟨_, _, rfl, rfl, .inl ⟨_, rfl, _, _, rfl, rfl, (by decide : (0 : Int) < 2147483647), _, h0', a, _, 3, 3, rfl, rfl, f2.at_, rfl, ?_⟩⟩
    exact tail_ok (f2.upd (p' := (j : Int) + 1) (c' := c) (x' := (x * 48271 + cell * 69621 + ((j : Int) + 1)) % 2147483647) ⟨by omega, by omega⟩ f.c0 ⟨Int.emod_nonneg _ (by decide), Int.emod_lt_of_pos _ (by decide)⟩) h0' h1' hl' hm hm1 q
theorem draw_pure {vs : List V} {Q : VK} {E : XK} {N : List Str} (hN : N.length = 5) (h : spVf K 1 fDraw vs H Q E) : t_draw K { nx := fun _ H' => Q .non H', rt := Q } (L2.start N vs) H := by
  obtain ⟨a, s, ts, ws, F, rfl, hl, hf, r, g⟩ := h
  match ts, hl with
  | [t], _ =>
    obtain ⟨y, rfl, hy⟩ := repL1 r
    cases t <;> first | exact g.elim | skip
    rename_i m _
    have g : good (fun _ _ => False) (if decide (0 < m) && decide (m < 1073741824) then (M.draw m fun r => .ret (Tr.int r, 99) : M (Tr × Nat)) else .bad) _ := g
    obtain ⟨cc, g⟩ := if_good g
    obtain ⟨c1, c2⟩ := Bool.and_eq_true_iff.mp cc
    have hm := of_decide_eq_true c1
    have hm1 := of_decide_eq_true c2
    obtain rfl := rep_int hy
    rcases hf with e | ⟨a', s', ns, p, c, x, e, ne, ha, hs, hlen, hp0, hp1, hc0, hx0, hx1⟩
    · cases e
    · have e1 : a = a' := (List.cons.inj e).1
      have e2 : s = s' := (List.cons.inj (List.cons.inj e).2).1
      subst e1 e2
      have f : FeedAt a s ns H H p c x := ⟨ne, ha, hs, hlen, hp0, hp1, hc0, hx0, hx1, .refl⟩
      have q : ∀ (r : Int) H', 0 ≤ r → r < m → ExtF [a, s] H H' → FeedOk [a, s] H' → Q (.int r) H' := fun r H' r0 r1 x f => g.2 r r0 r1 _ H' [] ⟨x, f, ⟨rfl, rfl⟩, fun _ _ m => (nomatch m), fun _ m => (nomatch m)⟩
      have h0 : (L2.start N [.ref a, .int m])[0]? = some (some (.ref a)) := start_get rfl
      have h1 : (L2.start N [.ref a, .int m])[1]? = some (some (.int m)) := start_get rfl
      have hl : (L2.start N [.ref a, .int m]).length = 5 := by
        unfold L2.start
        rw [List.length_append, List.length_map, List.length_replicate, hN]; rfl
      refine ix_ok f h0 2 rfl ⟨rfl, _, rfl, ?_⟩
      by_cases hc : c = 0
      · rw [decide_eq_true (by rw [hc])]; dsimp only; rw [if_pos rfl]
        refine ix_ok f h0 1 rfl (ix_ok f h0 0 rfl ⟨s, _, rfl, .inl (SqL.of f.scr), _, _, rfl, rfl, _, rfl, ?_⟩)
        rw [List.length_map]
        by_cases hp : p < ns.length
        · rw [decide_eq_true hp]; dsimp only; rw [if_pos rfl]
          exact cell_ok f h0 h1 hl hm hm1 hc hp q
        · rw [decide_eq_false hp]; dsimp only; rw [if_neg Bool.false_ne_true]
          exact tail_ok f h0 h1 hl hm hm1 q
      · rw [decide_eq_false (fun z => hc (V.int.inj z))]; dsimp only; rw [if_neg Bool.false_ne_true, if_neg Bool.false_ne_true]
        exact tail_ok f h0 h1 hl hm hm1 q
end
end VL

set_option Elab.async false
set_option linter.all false
set_option maxRecDepth 100000
set_option maxHeartbeats 4000000
/-! VL11: the feed is made; a law -/
namespace VL
open PySem PySem.Spec PyProof.Rows L2
def t_feed (K : PySem.W.Frag) : TS := tRet (tLst (tCons (tCB (rListO K) (tCons (tVar 0) tNil)) (tCons (tC (.int 0)) (tCons (tC (.int 0)) (tCons (tC (.int 1)) tNil)))))
def spFeed (K : PySem.W.Frag) : Sp := fun vs H Q _ => ∃ (a : Addr) (ns : List Int), vs = [.ref a] ∧ SqL K H a (ns.map V.int) ∧ ns.length ≤ 63 ∧ ∀ f s H', FeedOk [f, s] H' → Q (.ref f) H'
theorem feed_pure {K : PySem.W.Frag} {vs : List V} {H : Hp} {Q : VK} {E : XK} {N : List Str} (h : spFeed K vs H Q E) : t_feed K { nx := fun _ H' => Q .non H', rt := Q } (L2.start N vs) H := by
  obtain ⟨a, ns, rfl, hs, hl, q⟩ := h
  refine ⟨.ref a, start_get rfl, a, ns.map V.int, rfl, .inl hs, fun s ns' => ?_⟩
  refine ⟨by rw [sizeLine_eq]; exact (by decide : 4 ≤ 16777216), fun f nf => ?_⟩
  have ne : f ≠ s := fun e => by
    subst e
    rw [upd_same] at nf; cases nf
  exact q f s _ (.inr ⟨f, s, ns, 0, 0, 1, rfl, ne, upd_same, by rw [upd_ne (Ne.symm ne), upd_same], hl, by decide, by decide, by decide, by decide, by decide⟩)
def spLaw (K : PySem.W.Frag) : Sp := fun vs H Q _ => ∃ (a : Addr) (ns : List Int), vs = [.ref a] ∧ SqL K H a (ns.map V.int) ∧ ns.length ≤ 63 ∧ ∀ H', Q (.bl true) H'
def lawOk (m : Nat) (s : Sx) : Prop := good (fun _ _ => False) ((s (.no :: .feed :: noes m)).bind outF) fun r => r.1 = .bl true
structure LawOk (m : Nat) (s : Sx) : Prop where
  ok : lawOk m s
/-- feed = _law_feed(script), and what follows -/
def t_law (K : PySem.W.Frag) (s : Sx) : TS := tSeq (tAsg (tCall (spFeed K) [] E0 (tCons (tVar 0) tNil)) (gName 1)) (TSv K W0 s)
theorem law_pure {K : PySem.W.Frag} {vs : List V} {H : Hp} {Q : VK} {E : XK} {N : List Str} {m : Nat} {s : Sx} (hN : N.length = m + 2) (hg : lawOk m s) (h : spLaw K vs H Q E) : t_law K s { nx := fun _ H' => Q .non H', rt := Q } (L2.start N vs) H := by
  obtain ⟨a, ns, rfl, hs, hl, q⟩ := h
  refine ⟨.ref a, start_get rfl, a, ns, rfl, hs, hl, fun f s0 H' fo => ?_⟩
  have hst : L2.start N [.ref a] = some (.ref a) :: none :: List.replicate m none := by
    unfold L2.start
    rw [hN]; rfl
  show TSv K W0 s _ ((L2.start N [.ref a]).set 1 (some (.ref f))) H'
  rw [hst]
  have R : Rel K H' [f, s0] [] (.no :: .feed :: noes m) (some (.ref a) :: some (.ref f) :: List.replicate m none) H' ([] :: [] :: List.replicate m []) [] := by
    have rp : ∀ {i : Nat} {G : FP}, (([] : FP) :: [] :: List.replicate m ([] : FP))[i]? = some G → G = [] := fun {i G} h => by
      have := List.mem_of_getElem? h
      simp only [List.mem_cons, List.mem_replicate] at this
      rcases this with z | z | z
      · exact z
      · exact z
      · exact z.2
    refine ⟨by simp [noes_length], by simp [noes_length], fun i t k h => ?_, fun i h => ?_, fun i h => ?_, fun y hy => (nomatch hy), fun i t k G d b h hG mm o => ?_, fun b h => ?_, .refl, fo⟩
    · match i, h with
      | 0, h => simp at h
      | 1, h => simp at h
      | i + 2, h =>
        have h' : (noes m)[i]? = _ := (List.getElem?_cons_succ (l := Sl.feed :: noes m) (i := i + 1) (a := .no)).symm.trans h
        exact nomatch noes_get h'
    · have hi := (List.getElem?_eq_some_iff.mp h).1
      have hi2 : i < ([] :: [] :: List.replicate m ([] : FP)).length := by simpa [noes_length] using hi
      have := rp (i := i) (G := ([] :: [] :: List.replicate m ([] : FP))[i]) (List.getElem?_eq_getElem hi2)
      rw [List.getElem?_eq_getElem hi2, this]
    · match i, h with
      | 0, h => simp at h
      | 1, h => exact ⟨rfl, f, s0, rfl, rfl⟩
      | i + 2, h =>
        have h' : (noes m)[i]? = _ := (List.getElem?_cons_succ (l := Sl.feed :: noes m) (i := i + 1) (a := .no)).symm.trans h
        exact nomatch noes_get h'
    · have e := rp hG
      subst e
      cases mm
    · rcases h with ⟨G, hG, hb⟩ | ⟨y, hy, _⟩
      · obtain ⟨i, hi⟩ := List.getElem?_of_mem hG
        have e := rp hi
        subst e
        cases hb
      · cases hy
  refine ⟨H', [f, s0], [], _, _, [], R, good_imp (good_bind.mp hg) fun fl g1 => ?_⟩
  cases fl with
  | nx ρ => exact nomatch (show Tr.non = Tr.bl true from g1)
  | bk ρ => exact g1.elim
  | ct ρ => exact g1.elim
  | rt t k =>
    intro v H2 F r
    obtain rfl : t = .bl true := g1
    rw [show v = .bl true from r.rep.1]
    exact q H2
end VL

set_option Elab.async false
set_option linter.all false
set_option maxRecDepth 100000
set_option maxHeartbeats 4000000
/-! VL12: enumerate, zip, reversed, slices, list(), more operators -/
namespace VL
open PySem PySem.Spec PyProof.Rows L2
section
variable {X : Cx} {W : WH}
/-! ### enumerate -/
def enumT : Int → List Tr → List Tr
  | _, [] => []
  | n, t :: ts => .tp [.int n, t] :: enumT (n + 1) ts
theorem enumT_get : ∀ {ts : List Tr} {n : Int} {i : Nat} {t : Tr}, (enumT n ts)[i]? = some t → ∃ u, ts[i]? = some u ∧ t = .tp [.int (n + (i : Nat)), u]
  | [], n, i, t, h => by simp [enumT] at h
  | u :: ts, n, 0, t, h => by
    simp only [enumT, List.getElem?_cons_zero, Option.some.injEq] at h
    exact ⟨u, rfl, by rw [← h]; simp⟩
  | u :: ts, n, i + 1, t, h => by
    simp only [enumT, List.getElem?_cons_succ] at h
    obtain ⟨w, h1, h2⟩ := enumT_get h
    refine ⟨w, by simpa using h1, ?_⟩
    rw [h2]
    congr 3
    omega
theorem enumT_length : ∀ {ts : List Tr} {n : Int}, (enumT n ts).length = ts.length
  | [], _ => rfl
  | _ :: ts, n => by simp [enumT, enumT_length (ts := ts)]
def iEnum (a : Ex) : En → M (List Tr × Nat) := fun ρ => (a ρ).bind fun r => match r.1 with
  | .ls ts => .ret (enumT 0 ts, r.2)
  | _ => .bad
/-- two things beside each other in a new tuple -/
theorem pair_new {K : PySem.W.Frag} {H : Hp} {fd : List Addr} {t u : Tr} {x y : V} {F G : FP} {T : Addr} (f : FeedOk fd H) (h : H T = none) (r1 : Rep K H fd t x F) (r2 : Rep K H fd u y G) : Rep K (L2.upd H T (.tup [x, y])) fd (.tp [t, u]) (.ref T) (up (F ++ (G ++ []))) :=
  Rep.newT f h (show RepL K H fd [t, u] [x, y] (F ++ (G ++ [])) from ⟨x, [y], F, G ++ [], rfl, r1, ⟨y, [], G, [], rfl, r2, ⟨rfl, rfl⟩, rfl⟩, rfl⟩) (by rw [sizeLine_eq]; exact (by decide : 2 ≤ 16777216))
theorem vi_enum {e : Expr} {s : Ex} {rd : RD} {p pos tpos : Pos} {elts : List Expr} {kk : Nat} (hg : Gl X "enumerate") (hm : X.mg "enumerate" = none) (ha : VE X W e s rd) (hs : starEach [e] X.env = [(false, eval e X.env)] := by rfl) (hs' : starEach (e :: []) X.env = (false, eval e X.env) :: starEach [] X.env := by rfl) :
    VI X W (.Tuple elts kk tpos) (.Call (.Name "enumerate" p) [e] [] pos) (iEnum s) rd := pi_imp (pi_enum hg hm (pa_cons ha pa_nil hs') hs) fun σ H R q => by
  obtain ⟨H0, fd, B, ρ, ψ, Y, R0, g⟩ := q
  have g := good_bind.mp g
  refine ⟨H0, fd, B, ρ, ψ, Y, R0, good_imp g fun r g1 v H' F a => ?_⟩
  obtain ⟨t, k⟩ := r
  cases t <;> first | exact g1.elim | skip
  rename_i ts
  obtain ⟨p0, xs, G, rfl, hl, hz, hp, hpf, rfl⟩ := rep_ls a.rep
  refine ⟨p0, xs, rfl, SqL.of hp, g1 _ _ [(.ls ts, .ref p0, (0, p0) :: up G)] (ItOk.one a fun i H2 r2 f2 => ?_)⟩
  obtain ⟨p2, xs2, G2, e2, hl2, hz2, hp2, _, e3⟩ := rep_ls r2
  cases e2
  have e4 := up_inj (List.cons.inj e3).2
  subst e4
  refine ⟨fun t ht => ?_, fun hi => ⟨xs2, SqL.of hp2, by rw [← hl2.length, ← enumT_length (n := 0)]; exact hi⟩⟩
  obtain ⟨u, hu, rfl⟩ := enumT_get ht
  obtain ⟨x, A, F1, C, h1, h2, h3⟩ := hl2.get hu
  refine ⟨⟨xs2, x, SqL.of hp2, h1⟩, fun x' H3 y => ?_⟩
  obtain ⟨T, x2, rfl, nT, rfl, fx⟩ := y
  have := fx xs2 (SqL.of hp2)
  rw [h1] at this; cases this
  refine ⟨.new nT, f2.new nT, up ([] ++ (F1 ++ [])), ?_, fun a m => ?_⟩
  · rw [Int.zero_add]
    exact pair_new f2 nT (⟨rfl, rfl⟩ : Rep X.K H2 fd (.int (i : Nat)) (.int (i : Nat)) []) h2
  · rw [ads_up, List.nil_append, List.append_nil] at m
    show a ∈ p0 :: ads (up G)
    rw [ads_up, h3, ads_append, ads_append]
    exact List.mem_cons_of_mem _ (List.mem_append_right _ (List.mem_append_left _ m))
/-! ### zip of two lists -/
def zipT : List Tr → List Tr → List Tr
  | a :: as, b :: bs => .tp [a, b] :: zipT as bs
  | _, _ => []
theorem zipT_get : ∀ {ts us : List Tr} {i : Nat} {t : Tr}, (zipT ts us)[i]? = some t → ∃ a b, ts[i]? = some a ∧ us[i]? = some b ∧ t = .tp [a, b]
  | [], us, i, t, h => by simp [zipT] at h
  | a :: ts, [], i, t, h => by simp [zipT] at h
  | a :: ts, b :: us, 0, t, h => by
    simp only [zipT, List.getElem?_cons_zero, Option.some.injEq] at h
    exact ⟨a, b, rfl, rfl, h.symm⟩
  | a :: ts, b :: us, i + 1, t, h => by
    simp only [zipT, List.getElem?_cons_succ] at h
    obtain ⟨c, d, h1, h2, h3⟩ := zipT_get h
    exact ⟨c, d, by simpa using h1, by simpa using h2, h3⟩
theorem zipT_length : ∀ {ts us : List Tr}, (zipT ts us).length = min ts.length us.length
  | [], us => by simp [zipT]
  | _ :: ts, [] => by simp [zipT]
  | _ :: ts, _ :: us => by simp [zipT, zipT_length (ts := ts) (us := us)]
def iZip (a b : Ex) : En → M (List Tr × Nat) := fun ρ => (a ρ).bind fun r => (b ρ).bind fun r2 => match r.1, r2.1 with
  | .ls ts, .ls us => .ret (zipT ts us, if Nat.ble 99 r.2 && Nat.ble 99 r2.2 then 99 else 0)
  | _, _ => .bad
theorem vi_zip {e e2 : Expr} {s1 s2 : Ex} {rd1 rd2 : RD} {p pos tpos : Pos} {elts : List Expr} {kk : Nat} (hg : Gl X "zip") (hm : X.mg "zip" = none) (ha : VE X W e s1 rd1) (hb : VE X W e2 s2 rd2) (hs : starEach [e, e2] X.env = (false, eval e X.env) :: starEach [e2] X.env := by rfl) (hpl : (backTo pos (starEach [e2] X.env)).any (·.1) = false := by rfl)
    (hs2 : starEach (e2 :: []) X.env = (false, eval e2 X.env) :: starEach [] X.env := by rfl) : VI X W (.Tuple elts kk tpos) (.Call (.Name "zip" p) [e, e2] [] pos) (iZip s1 s2) (rd1 ++ rd2) := pi_imp (pi_zip hg hm (pa_cons ha (pa_cons hb pa_nil hs2) hs) hs hpl) fun σ H R q => by
  obtain ⟨H0, fd, B, ρ, ψ, Y, R0, g⟩ := q
  have g := good_bind.mp g
  refine ⟨H0, fd, B, ρ, ψ, Y, R0, good_imp g fun r g1 v H1 F a => ?_⟩
  have g1 := good_bind.mp g1
  refine ⟨H0, fd, B, ρ, ψ, Y, R0.grow a.ext a.fok, good_imp g1 fun r2 g2 v2 H2 F2 a2 => ?_⟩
  clear g1 g
  have T := Two.of R0.fok a a2
  obtain ⟨t, k⟩ := r
  obtain ⟨t2, k2⟩ := r2
  cases t <;> first | exact g2.elim | skip
  rename_i ts
  cases t2 <;> first | exact g2.elim | skip
  rename_i us
  have g2 : good (W H0 fd) (M.ret (zipT ts us, if Nat.ble 99 k && Nat.ble 99 k2 then 99 else 0) : M (List Tr × Nat)) _ := g2
  obtain ⟨pa, xs, G, rfl, hl, hz, hp, hpf, rfl⟩ := rep_ls T.rep1
  obtain ⟨pb, ys, G', rfl, hl', hz', hp', hpf', rfl⟩ := rep_ls T.rep2
  refine ⟨pa, pb, xs, ys, rfl, SqL.of hp, SqL.of hp', g2 _ _ [(.ls ts, .ref pa, (0, pa) :: up G), (.ls us, .ref pb, (0, pb) :: up G')] ⟨T.ext, T.fok, fun y hy => ?_, fun y hy d c m k9 => ?_, fun y hy d c m => ?_, fun i H3 ry f3 => ?_⟩⟩
  · rcases List.mem_cons.mp hy with rfl | hy
    · exact T.rep1
    · rw [List.mem_singleton.mp hy]; exact T.rep2
  · have hk : 99 ≤ k ∧ 99 ≤ k2 := by
      have k9 : 99 ≤ (if Nat.ble 99 k && Nat.ble 99 k2 then 99 else 0) := k9
      by_cases c : (Nat.ble 99 k && Nat.ble 99 k2) = true
      · obtain ⟨c1, c2⟩ := Bool.and_eq_true_iff.mp c
        exact ⟨Nat.le_of_ble_eq_true c1, Nat.le_of_ble_eq_true c2⟩
      · rw [if_neg c] at k9; omega
    rcases List.mem_cons.mp hy with rfl | hy
    · exact (T.own1 d c m (.inr hk.1)).1
    · rw [List.mem_singleton.mp hy] at m; exact (T.own2 d c m (.inr hk.2)).1
  · rcases List.mem_cons.mp hy with rfl | hy
    · exact (T.al1 d c m).imp id fun ⟨j, m', d', A, h1, h2⟩ => ⟨j, m', d', A, List.mem_append_left _ h1, h2⟩
    · rw [List.mem_singleton.mp hy] at m
      exact (T.al2 d c m).imp id fun ⟨j, m', d', A, h1, h2⟩ => ⟨j, m', d', A, List.mem_append_right _ h1, h2⟩
  · obtain ⟨q1, xs3, G3, e1, hl3, _, hq1, _, e3⟩ := rep_ls (ry _ List.mem_cons_self)
    cases e1
    have e4 := up_inj (List.cons.inj e3).2
    subst e4
    obtain ⟨q2, ys3, G4, e2, hl4, _, hq2, _, e5⟩ := rep_ls (ry _ (List.mem_cons_of_mem _ List.mem_cons_self))
    cases e2
    have e6 := up_inj (List.cons.inj e5).2
    subst e6
    refine ⟨fun t ht => ?_, fun hi => ⟨xs3, ys3, SqL.of hq1, SqL.of hq2, ?_⟩⟩
    · obtain ⟨u, w, hu, hw, rfl⟩ := zipT_get ht
      obtain ⟨x, A, F3, C, h1, h2, h3⟩ := hl3.get hu
      obtain ⟨y, A', F4, C', h1', h2', h3'⟩ := hl4.get hw
      refine ⟨⟨xs3, ys3, x, y, SqL.of hq1, SqL.of hq2, h1, h1'⟩, fun z H4 yy => ?_⟩
      obtain ⟨TT, x2, y2, rfl, nT, rfl, fx, fy⟩ := yy
      have := fx xs3 (SqL.of hq1)
      rw [h1] at this; cases this
      have := fy ys3 (SqL.of hq2)
      rw [h1'] at this; cases this
      refine ⟨.new nT, f3.new nT, _, pair_new f3 nT h2 h2', fun a m => ?_⟩
      rw [ads_up, List.append_nil, ads_append] at m
      rcases List.mem_append.mp m with m | m
      · refine ⟨_, List.mem_cons_self, ?_⟩
        show a ∈ pa :: ads (up G)
        rw [ads_up, h3, ads_append, ads_append]
        exact List.mem_cons_of_mem _ (List.mem_append_right _ (List.mem_append_left _ m))
      · refine ⟨_, List.mem_cons_of_mem _ List.mem_cons_self, ?_⟩
        show a ∈ pb :: ads (up G')
        rw [ads_up, h3', ads_append, ads_append]
        exact List.mem_cons_of_mem _ (List.mem_append_right _ (List.mem_append_left _ m))
    · have hi : (zipT ts us).length ≤ i := hi
      rw [zipT_length] at hi
      rw [← hl3.length, ← hl4.length]
      omega
/-! ### list(x) -/
def eList (a : Ex) : Ex := fun ρ => (a ρ).bind fun r => match r.1 with
  | .ls ts => .ret (.ls ts, if Nat.ble 99 r.2 then 99 else lvF ts)
  | .tp ts => .ret (.ls ts, if Nat.ble 99 r.2 then 99 else lvF ts)
  | _ => .bad
/-- a new list of the parts of a list or tuple -/
theorem relist {K : PySem.W.Frag} {fd : List Addr} {ψ : List FP} {rd : RD} {H H1 : Hp} {t : Tr} {k : Nat} {v : V} {F G : FP} {ts : List Tr} {xs : List V} {p : Addr} (f : FeedOk fd H) (a : Res K fd ψ rd H (t, k) v H1 F) (r : RepL K H1 fd ts xs G) (hz : xs.length ≤ sizeLine) (hp : H1 p = none)
    (sub : ∀ d c, (d, c) ∈ G → (d + 1, c) ∈ F) (cnt : ∀ c, (ads G).count c ≤ (ads F).count c) : Res K fd ψ rd H (.ls ts, if Nat.ble 99 k then 99 else lvF ts) (.ref p) (L2.upd H1 p (.lst xs)) ((0, p) :: up G) := by
  by_cases c : Nat.ble 99 k = true
  · rw [if_pos c]
    have k9 := Nat.le_of_ble_eq_true c
    exact ResL.list (deep := true) ⟨a.ext, a.fok, r, fun _ d c m => (let ⟨h1, h2⟩ := a.own _ c (sub d c m) (.inr k9); ⟨h1, Nat.le_trans (cnt c) h2⟩), fun d c m => a.al _ c (sub d c m)⟩ hp hz
  · rw [if_neg c]
    exact new_list a.ext a.fok r hp hz fun d c m => a.al _ c (sub d c m)
theorem ve_list {e : Expr} {s : Ex} {rd : RD} {x : Str} {p pos : Pos} (hg : Gl X x) (hm : X.mg x = none) (hv : bootBuiltins x = some (.type "list")) (ha : VE X W e s rd) (hn : x ≠ "__name__" := by decide) (hdb : (x == ("__debug__" : Str)) = false := by decide) (he : starEach (e :: []) X.env = (false, eval e X.env) :: starEach [] X.env := by rfl) (hpl : (backTo pos (starEach [] X.env)).any (·.1) = false := by rfl) :
    VE X W (.Call (.Name x p) [e] [] pos) (eList s) rd := pe_imp (pe_callTy call_list_of hg hm hv (pa_cons ha pa_nil he) hn hdb he hpl) fun σ H Q q => by
  obtain ⟨H0, fd, B, ρ, ψ, Y, R, g⟩ := q
  have g := good_bind.mp g
  refine ⟨H0, fd, B, ρ, ψ, Y, R, good_imp g fun r g1 v H1 F a => ?_⟩
  obtain ⟨t, k⟩ := r
  cases t <;> first | exact g1.elim | skip
  · rename_i ts
    obtain ⟨p0, xs, G, rfl, hl, hz, hp, hpf, rfl⟩ := rep_ls a.rep
    refine ⟨p0, xs, rfl, .inl (SqL.of hp), fun l nl => g1 _ _ _ (relist R.fok a hl hz nl (fun d c m => List.mem_cons_of_mem _ (mem_up.mpr ⟨d, rfl, m⟩)) fun c => ?_)⟩
    show _ ≤ List.count c (p0 :: ads (up G))
    rw [ads_up, List.count_cons]
    omega
  · rename_i ts
    obtain ⟨p0, xs, G, rfl, hl, hz, hp, hpf, rfl⟩ := rep_tp a.rep
    refine ⟨p0, xs, rfl, .inr hp, fun l nl => g1 _ _ _ (relist R.fok a hl hz nl (fun d c m => mem_up.mpr ⟨d, rfl, m⟩) fun c => ?_)⟩
    rw [ads_up]; exact Nat.le_refl _
/-! ### slices of lists -/
def cutT (ts : List Tr) (lo hi : Option Int) : List Tr := (ts.drop (HT.sIx ts.length 0 lo)).take (HT.sIx ts.length ts.length hi - HT.sIx ts.length 0 lo)
def eSl (a : Ex) (lo hi : En → M (Option Int)) : Ex := fun ρ => (a ρ).bind fun r => (lo ρ).bind fun l => (hi ρ).bind fun h => match r.1 with
  | .ls ts => .ret (.ls (cutT ts l h), if Nat.ble 99 r.2 then 99 else lvF (cutT ts l h))
  | _ => .bad
def noPart : En → M (Option Int) := fun _ => .ret none
def aPart (a : Ex) : En → M (Option Int) := fun ρ => (a ρ).bind fun r => match r.1 with
  | .int i => .ret (some i)
  | _ => .bad
def TOv (K : PySem.W.Frag) (W : WH) (s : En → M (Option Int)) : TO := fun σ H Q => ∃ H0 fd B ρ ψ Y, Rel K H0 fd B ρ σ H ψ Y ∧ good (W H0 fd) (s ρ) fun o => ∀ H', ExtF fd H H' → FeedOk fd H' → Q o H'
abbrev VO (X : Cx) (W : WH) (e : Option Expr) (s : En → M (Option Int)) : Prop := PO X e (TOv X.K W s)
theorem po_imp {X : Cx} {e : Option Expr} {t t' : TO} (h : PO X e t) (i : ∀ σ H Q, t' σ H Q → t σ H Q) : PO X e t' := ⟨fun pins s σ H Q I q => h.run pins s σ H Q I (i σ H Q q)⟩
theorem vo_none : VO X W none noPart := po_imp po_none fun σ H Q q => by
  obtain ⟨H0, fd, B, ρ, ψ, Y, R, g⟩ := q
  exact g H .refl R.fok
theorem vo_some {e : Expr} {s : Ex} {rd : RD} (h : VE X W e s rd) : VO X W (some e) (aPart s) := po_imp (po_some h) fun σ H Q q => by
  obtain ⟨H0, fd, B, ρ, ψ, Y, R, g⟩ := q
  have g := good_bind.mp g
  refine ⟨H0, fd, B, ρ, ψ, Y, R, good_imp g fun r g1 v H1 F a => ?_⟩
  obtain ⟨t, k⟩ := r
  cases t <;> first | exact g1.elim | skip
  obtain rfl := rep_int a.rep
  exact ⟨_, rfl, g1 H1 a.ext a.fok⟩
theorem RepL.cut {K : PySem.W.Frag} {H : Hp} {fd : List Addr} {ts : List Tr} {xs : List V} {F : FP} (r : RepL K H fd ts xs F) (lo hi : Option Int) : ∃ G, RepL K H fd (cutT ts lo hi) (cutV xs lo hi) G ∧ (∀ p, p ∈ G → p ∈ F) ∧ ∀ c, (ads G).count c ≤ (ads F).count c := by
  unfold cutT cutV
  rw [r.length]
  obtain ⟨A, B, rfl, _, r2⟩ := r.split (HT.sIx xs.length 0 lo)
  obtain ⟨C, D, rfl, r3, _⟩ := r2.split (HT.sIx xs.length xs.length hi - HT.sIx xs.length 0 lo)
  refine ⟨C, r3, fun p m => List.mem_append_right _ (List.mem_append_left _ m), fun c => ?_⟩
  rw [ads_append, ads_append, List.count_append, List.count_append]
  omega
theorem ve_slice {e : Expr} {lo hi : Option Expr} {s : Ex} {rd : RD} {sl sh : En → M (Option Int)} {pos p2 : Pos} (he : VE X W e s rd) (hl : VO X W lo sl) (hu : VO X W hi sh) : VE X W (.Subscript e (.Slice lo hi none p2) pos) (eSl s sl sh) rd := pe_imp (pe_slice sl_list he hl hu) fun σ H Q q => by
  obtain ⟨H0, fd, B, ρ, ψ, Y, R, g⟩ := q
  have g := good_bind.mp g
  refine ⟨H0, fd, B, ρ, ψ, Y, R, good_imp g fun r g1 v H1 F a => ?_⟩
  have g1 := good_bind.mp g1
  refine ⟨H0, fd, B, ρ, ψ, Y, R.grow a.ext a.fok, good_imp g1 fun l g2 H2 x2 f2 => ?_⟩
  have g2 := good_bind.mp g2
  refine ⟨H0, fd, B, ρ, ψ, Y, R.grow (a.ext.trans x2) f2, good_imp g2 fun h g3 H3 x3 f3 => ?_⟩
  clear g1 g2 g
  have a3 : Res X.K fd ψ rd H r v H3 F := ⟨a.ext.trans (x2.trans x3), f3, (a.rep.ext x2 a.fok).ext x3 f2, a.own, a.al⟩
  clear a
  obtain ⟨t, k⟩ := r
  cases t <;> first | exact g3.elim | skip
  rename_i ts
  obtain ⟨p0, xs, G, rfl, hl, hz, hp, hpf, rfl⟩ := rep_ls a3.rep
  obtain ⟨G2, r2, sub, cnt⟩ := hl.cut l h
  refine ⟨p0, xs, rfl, SqL.of hp, fun q nq => g3 _ _ _ (relist R.fok a3 r2 (Nat.le_trans (cutV_length xs l h) hz) nq (fun d c m => List.mem_cons_of_mem _ (mem_up.mpr ⟨d, rfl, sub _ m⟩)) fun c => ?_)⟩
  show _ ≤ List.count c (p0 :: ads (up G))
  rw [ads_up, List.count_cons]
  have := cnt c
  omega
/-! ### more -/
def oShl : Tr → Tr → Option Tr
  | .int i, .int j => if decide (0 ≤ j) && decide (j ≤ 1000000) && Nat.ble (i.natAbs + 1) 18446744073709551616 then some (.int (i * 2 ^ j.toNat)) else none
  | _, _ => none
theorem os_shl : OpS X (binaryOp .LShift) oShl := ⟨_, op_shl, fun H fd tx ty z x y F1 F2 Q h1 h2 e => by
  unfold oShl at e
  split at e
  · split at e
    · rename_i c
      cases e; obtain rfl := rep_int h1; obtain rfl := rep_int h2
      obtain ⟨c, c3⟩ := Bool.and_eq_true_iff.mp c
      obtain ⟨c1, c2⟩ := Bool.and_eq_true_iff.mp c
      exact ⟨rfl, fun q => ⟨_, _, rfl, rfl, ⟨of_decide_eq_true c1, of_decide_eq_true c2, Nat.le_of_ble_eq_true c3⟩, q⟩⟩
    · cases e
  · cases e⟩
/-- a module's int -/
theorem ve_gint {x : Str} {i : Int} {pos : Pos} (hg : Gl X x) (hm : ∃ t, X.mg x = some (.int i t)) (hd : (x == ("__debug__" : Str)) = false := by decide) : VE X W (.Name x pos) (eC (.int i)) [] := by
  obtain ⟨t, ht⟩ := hm
  exact ve_const (pe_glob hg ht ⟨t, rfl⟩ hd) rfl
def oEqI (f : Tr → Tr → Option Tr) := f
end
end VL

set_option Elab.async false
set_option linter.all false
set_option maxRecDepth 100000
set_option maxHeartbeats 4000000
/-! VL13: defs as the head tells them; the ends -/
namespace VL
open PySem PySem.Spec PyProof.Rows L2
theorem pg_getL {X : Cx} : PGet X (rIxL X.K) := by
  intro pins s σ H x y v u Q I rx ry h
  obtain ⟨p, xs, i, z, rfl, rfl, hq, he, q⟩ := h
  cases rx
  obtain ⟨t, rfl⟩ := ry
  obtain ⟨its, r, pl, hz⟩ := I.list hq
  obtain ⟨j, h1, h2, h3, h4, h5⟩ := atI_get he
  obtain ⟨w, ew, rw'⟩ := r.get h2
  have hl := r.length
  have hn := line63
  have fin : EP X pins σ Q w s := ⟨z, H, I, rw', q⟩
  by_cases h0 : 0 ≤ i
  · have hj : i.toNat = j := by
      rw [seqIndex_of h0 h5] at h1
      exact Option.some.inj h1
    exact wpAny_getItem_list pl.isList h0 (by omega) (by rw [hj]; simpa using ew) fin
  · have hj : (i + (its.toArray.size : Int)).toNat = j := by
      rw [seqIndex_neg (by omega) h4] at h1
      rw [List.size_toArray, ← hl]
      exact Option.some.inj h1
    exact wpAny_getItem_list_neg (Q := EP X pins σ Q) pl.isList (by omega) (by rw [List.size_toArray] <;> omega) (by omega) (by rw [hj]; simpa using ew) fin
section
variable {P : Program} {w : World} {K : PySem.W.Frag} {mg : Str → Option Value} {base : Heap} {x qual : Str} {params : Arguments} {body : List Stmt} {scope : Scope} {f : Addr} {fd : FuncData}
theorem fnD_ok {N ps : List Str} {k n m : Nat} {s : Sx} (F : FunD K x qual params body scope [] [] f fd) (S : FnScope N ps scope) (hn : ps.length = n) (hm : N.length = n + m)
    (hb : ∀ (cdv : Value) (A : Around) (outer : List Env) (s' : Shared) (H : Hp) (E : XK), Room k (A.deeper (envOfC qual scope s'.heap.objs.size f cdv)) → VSs (Bx P w K mg base N qual scope f cdv A outer s' H E) W0 body s) :
    FnOk P w K mg base CX0 (k + 1) f fd ps (spV K n (runB m s)) := by
  refine F.ok S (fun vs H Q E h => ?_) (fun cdv A outer s' H vs Q E hr h => ?_)
  · obtain ⟨fd', ts, F', hl, _, r, _⟩ := h
    rw [← r.length, hl, hn]
  · obtain ⟨fd', ts, F', hl, hf, r, g⟩ := h
    obtain ⟨ψ, R⟩ := rel_start (N := N) (m := m) hf r (by rw [hm, hl])
    exact ⟨_, (hb cdv A outer s' H E hr).nox, H, fd', ads F', _, ψ, [], R, fl_out g⟩
theorem fnD_okF {N ps : List Str} {k n m : Nat} {s : Sx} (F : FunD K x qual params body scope [] [] f fd) (S : FnScope N ps scope) (hn : ps.length = n + 1) (hm : N.length = n + m + 1)
    (hb : ∀ (cdv : Value) (A : Around) (outer : List Env) (s' : Shared) (H : Hp) (E : XK), Room k (A.deeper (envOfC qual scope s'.heap.objs.size f cdv)) → VSs (Bx P w K mg base N qual scope f cdv A outer s' H E) W0 body s) :
    FnOk P w K mg base CX0 (k + 1) f fd ps (spVf K n (runBf m s)) := by
  refine F.ok S (fun vs H Q E h => ?_) (fun cdv A outer s' H vs Q E hr h => ?_)
  · obtain ⟨a, s0, ts, ws, F', rfl, hl, _, r, _⟩ := h
    rw [List.length_cons, ← r.length, hl, hn]
  · obtain ⟨a, s0, ts, ws, F', rfl, hl, hf, r, g⟩ := h
    obtain ⟨ψ, R⟩ := rel_startF (N := N) (m := m) hf r (by rw [hm, hl])
    exact ⟨_, (hb cdv A outer s' H E hr).nox, H, [a, s0], ads F', _, ψ, [], R, fl_out g⟩
theorem drawD_ok {N : List Str} {ps : List Str} (F : FunD K x qual params body scope [] [] f fd) (S : FnScope N ps scope) (hn : ps.length = 2) (hm : N.length = 5)
    (hb : ∀ (cdv : Value) (A : Around) (outer : List Env) (s' : Shared) (H : Hp) (E : XK), PSs (Bx P w K mg base N qual scope f cdv A outer s' H E) body (t_draw K)) :
    FnOk P w K mg base CX0 1 f fd ps (spVf K 1 fDraw) := by
  refine F.ok S (fun vs H Q E h => ?_) (fun cdv A outer s' H vs Q E hr h => ⟨_, (hb cdv A outer s' H E).nox, draw_pure hm h⟩)
  obtain ⟨a, s0, ts, ws, F', rfl, hl, _, r, _⟩ := h
  rw [List.length_cons, ← r.length, hl, hn]
theorem feedD_ok {N : List Str} {ps : List Str} (F : FunD K x qual params body scope [] [] f fd) (S : FnScope N ps scope) (hn : ps.length = 1)
    (hb : ∀ (cdv : Value) (A : Around) (outer : List Env) (s' : Shared) (H : Hp) (E : XK), PSs (Bx P w K mg base N qual scope f cdv A outer s' H E) body (t_feed K)) :
    FnOk P w K mg base CX0 1 f fd ps (spFeed K) := by
  refine F.ok S (fun vs H Q E h => ?_) (fun cdv A outer s' H vs Q E hr h => ⟨_, (hb cdv A outer s' H E).nox, feed_pure h⟩)
  obtain ⟨a, ns, rfl, _⟩ := h
  rw [hn]; rfl
theorem lawD_ok {N : List Str} {ps : List Str} {k m : Nat} {s : Sx} (F : FunD K x qual params body scope [] [] f fd) (S : FnScope N ps scope) (hn : ps.length = 1) (hm : N.length = m + 2) (hg : LawOk m s)
    (hb : ∀ (cdv : Value) (A : Around) (outer : List Env) (s' : Shared) (H : Hp) (E : XK), Room k (A.deeper (envOfC qual scope s'.heap.objs.size f cdv)) → PSs (Bx P w K mg base N qual scope f cdv A outer s' H E) body (t_law K s)) :
    FnOk P w K mg base CX0 (k + 1) f fd ps (spLaw K) := by
  refine F.ok S (fun vs H Q E h => ?_) (fun cdv A outer s' H vs Q E hr h => ⟨_, (hb cdv A outer s' H E hr).nox, law_pure hm hg.ok h⟩)
  obtain ⟨a, ns, rfl, _⟩ := h
  rw [hn]; rfl
end
end VL

set_option Elab.async false
set_option linter.all false
set_option maxRecDepth 100000
set_option maxHeartbeats 4000000
/-! VL14: a def with all that its calls want; slots forgotten; checks by the kernel -/
namespace VL
open PySem PySem.Spec PyProof.Rows L2
/-! ### forgetting slots -/
def killE : List Nat → En → En
  | [], ρ => ρ
  | i :: is, ρ => killE is (ρ.set i .no)
def killP : List Nat → List FP → List FP
  | [], ψ => ψ
  | i :: is, ψ => killP is (ψ.set i [])
theorem Rel.kills {K : PySem.W.Frag} {H0 H : Hp} {fd B : List Addr} {σ : L2.St} {Y : List Tmp} : ∀ (ds : List Nat) {ρ : En} {ψ : List FP}, Rel K H0 fd B ρ σ H ψ Y → Rel K H0 fd B (killE ds ρ) σ H (killP ds ψ) Y
  | [], _, _, R => R
  | i :: is, _, _, R => Rel.kills is (R.kill (i := i))
def sKill (ds : List Nat) (s : Sx) : Sx := fun ρ => s (killE ds ρ)
section
variable {X : Cx} {W : WH}
theorem vs_kill {st : Stmt} {s : Sx} (ds : List Nat) (h : VS X W st s) : VS X W st (sKill ds s) := ps_imp h fun D σ H q => by
  obtain ⟨H0, fd, B, ρ, ψ, Y, R, g⟩ := q
  exact ⟨H0, fd, B, _, _, Y, R.kills ds, g⟩
theorem vss_kill {st : List Stmt} {s : Sx} (ds : List Nat) (h : VSs X W st s) : VSs X W st (sKill ds s) := pss_imp h fun D σ H q => by
  obtain ⟨H0, fd, B, ρ, ψ, Y, R, g⟩ := q
  exact ⟨H0, fd, B, _, _, Y, R.kills ds, g⟩
end
theorem room5 {k : Nat} {A : Around} (r : Room k A) : A.units + 65 < cLine := by have := r.un; omega
/-! ### a def with all that its calls want -/
def Refn (G F : Fn) : Prop := ∀ (ts : List Tr) (Q : Tr × Nat → Prop), good (fun _ _ => False) (G ts) Q → good (fun _ _ => False) (F ts) Q
section
variable {P : Program} {w : World} {K : PySem.W.Frag} {mg : Str → Option Value} {base : Heap}
structure DefF (P : Program) (w : World) (K : PySem.W.Frag) (mg : Str → Option Value) (base : Heap) (k : Nat) (x : Str) (sp : Sp) : Prop where
  ex : ∃ f fd ps, FnOk P w K mg base CX0 k f fd ps sp ∧ PySem.W.keepIn K (.ref f) = true ∧ Binds K fd ps [] ∧ mg x = some (.ref f)
theorem DefF.mono {j k : Nat} {x : Str} {sp : Sp} (D : DefF P w K mg base j x sp) (h : j ≤ k) : DefF P w K mg base k x sp := by
  obtain ⟨f, fd, ps, h1, h2⟩ := D.ex
  exact ⟨f, fd, ps, h1.mono h, h2⟩
theorem DefF.ref {k n : Nat} {x : Str} {F G : Fn} (D : DefF P w K mg base k x (spV K n F)) (h : Refn G F) : DefF P w K mg base k x (spV K n G) := by
  obtain ⟨f, fd, ps, h1, h2⟩ := D.ex
  refine ⟨f, fd, ps, h1.imp fun vs H Q E q => ?_, h2⟩
  obtain ⟨fd', ts, F', hl, hf, r, g⟩ := q
  exact ⟨fd', ts, F', hl, hf, r, h _ _ g⟩
theorem DefF.refF {k n : Nat} {x : Str} {F G : Fn} (D : DefF P w K mg base k x (spVf K n F)) (h : Refn G F) : DefF P w K mg base k x (spVf K n G) := by
  obtain ⟨f, fd, ps, h1, h2⟩ := D.ex
  refine ⟨f, fd, ps, h1.imp fun vs H Q E q => ?_, h2⟩
  obtain ⟨a, s, ts, ws, F', e, hl, hf, r, g⟩ := q
  exact ⟨a, s, ts, ws, F', e, hl, hf, r, h _ _ g⟩
def fBad : Fn := fun _ => .bad
theorem FnOk.bad {k n : Nat} {f : Addr} {fd : FuncData} {ps : List Str} : FnOk P w K mg base CX0 k f fd ps (spV K n fBad) := by
  refine ⟨fun vs H Q E h => ?_, fun A outer s H args us vs Q E _ _ _ _ h => ?_⟩
  all_goals obtain ⟨_, _, _, _, _, _, g⟩ := h
  all_goals exact g.elim
theorem FnOk.badF {k n : Nat} {f : Addr} {fd : FuncData} {ps : List Str} : FnOk P w K mg base CX0 k f fd ps (spVf K n fBad) := by
  refine ⟨fun vs H Q E h => ?_, fun A outer s H args us vs Q E _ _ _ _ h => ?_⟩
  all_goals obtain ⟨_, _, _, _, _, _, _, _, _, g⟩ := h
  all_goals exact g.elim
end
section
variable {X : Cx} {W : WH}
theorem ve_fnD {j k n : Nat} {x : Str} {p pos : Pos} {e : Expr} {es : List Expr} {F : Fn} {s : Ax} {rd : RD} (D : DefF X.prog X.w X.K X.mg X.base j x (spV X.K n F)) (hr : Room k X.A) (hg : Gl X x)
    (ha : VA X W (e :: es) s rd) (hjk : j ≤ k := by decide) (hdb : (x == ("__debug__" : Str)) = false := by decide) (he : starEach (e :: es) X.env = (false, eval e X.env) :: starEach es X.env := by rfl) (hpl : (backTo pos (starEach es X.env)).any (·.1) = false := by rfl) :
    VE X W (.Call (.Name x p) (e :: es) [] pos) (eFn n F s) rd := by
  obtain ⟨f, fd, ps, h1, h2, h3, h4⟩ := D.ex
  exact ve_fn h1 (hr.mono hjk) hg h4 h2 h3 ha hdb he hpl
theorem ve_fnD0 {j k : Nat} {x : Str} {p pos : Pos} {F : Fn} (D : DefF X.prog X.w X.K X.mg X.base j x (spV X.K 0 F)) (hr : Room k X.A) (hg : Gl X x) (hjk : j ≤ k := by decide) (hdb : (x == ("__debug__" : Str)) = false := by decide) :
    VE X W (.Call (.Name x p) [] [] pos) (eFn 0 F aNil) [] := by
  obtain ⟨f, fd, ps, h1, h2, h3, h4⟩ := D.ex
  exact ve_fn0 h1 (hr.mono hjk) hg h4 h2 h3 hdb
theorem ve_fnDF {i j k n : Nat} {x xf : Str} {p pf pos : Pos} {es : List Expr} {F : Fn} {s : Ax} {rd : RD} (D : DefF X.prog X.w X.K X.mg X.base j x (spVf X.K n F)) (hr : Room k X.A) (hg : Gl X x)
    (hv : PE X (.Name xf pf) (tVar i)) (ha : VA X W es s rd) (hjk : j ≤ k := by decide) (hdb : (x == ("__debug__" : Str)) = false := by decide) (he : starEach (.Name xf pf :: es) X.env = (false, eval (.Name xf pf) X.env) :: starEach es X.env := by rfl) (hpl : (backTo pos (starEach es X.env)).any (·.1) = false := by rfl) :
    VE X W (.Call (.Name x p) (.Name xf pf :: es) [] pos) (eFnF i n F s) rd := by
  obtain ⟨f, fd, ps, h1, h2, h3, h4⟩ := D.ex
  exact ve_fnF h1 (hr.mono hjk) hg h4 h2 h3 hv ha hdb he hpl
/-- feed = _law_feed(script) -/
theorem law_first {k : Nat} {x y z : Str} {p1 p2 p3 pos cpos : Pos} {rest : List Stmt} {s : Sx} (D : DefF X.prog X.w X.K X.mg X.base 1 x (spFeed X.K)) (hr : Room k X.A) (hg : Gl X x) (hv : PE X (.Name z p1) (tVar 0)) (hN : X.N.Nodup) (hi : X.N[1]? = some y) (hx : Loc X.env.scope y) (hb : VSs X W0 rest s) (hk : 1 ≤ k := by decide)
    (hdb : (x == ("__debug__" : Str)) = false := by decide) (he : starEach (.Name z p1 :: []) X.env = (false, eval (.Name z p1) X.env) :: starEach [] X.env := by rfl) (hpl : (backTo cpos (starEach [] X.env)).any (·.1) = false := by rfl)
    (hs : swapsWith (.Call (.Name x p2) [.Name z p1] [] cpos) (some (.Name y p3)) pos.line X.env = pure false := by rfl) (hf : X.fn y = true ∨ X.env.scope.names.lookup y = some .local := by first | exact .inl rfl | exact .inr rfl | assumption) :
    PSs X (.Assign [.Name y p3] (.Call (.Name x p2) [.Name z p1] [] cpos) pos :: rest) (t_law X.K s) := by
  obtain ⟨f, fd, ps, h1, h2, h3, h4⟩ := D.ex
  exact pss_cons (ps_set (i := 1) hN hi hx (pe_call h1 (hr.mono hk) hg h4 h2 h3 .nil pass0 (pa_cons hv pa_nil he) hdb he hpl) hs hf) hb
end
/-! ### checks by the kernel -/
def allR : Nat → (Nat → Bool) → Bool
  | 0, _ => true
  | n + 1, f => f n && allR n f
theorem allR_ok : ∀ {n : Nat} {f : Nat → Bool}, allR n f = true → ∀ i, i < n → f i = true
  | n + 1, f, h, i, hi => by
    obtain ⟨h1, h2⟩ := Bool.and_eq_true_iff.mp (show (f n && allR n f) = true from h)
    by_cases e : i = n
    · rw [e]; exact h1
    · exact allR_ok h2 i (by omega)
def chk {α : Type} (q : α → Bool) : M α → Bool
  | .ret a => q a
  | .bad => false
  | .exc _ _ => false
  | .draw n k => decide (0 < n) && allR n.toNat fun i => chk q (k i)
theorem chk_good {α : Type} {E : Nat → Tr → Prop} {q : α → Bool} : ∀ {m : M α}, chk q m = true → good E m fun a => q a = true
  | .ret a, h => h
  | .draw n k, h => by
    obtain ⟨h1, h2⟩ := Bool.and_eq_true_iff.mp (show (decide (0 < n) && allR n.toNat fun i => chk q (k i)) = true from h)
    refine ⟨of_decide_eq_true h1, fun r r0 r1 => ?_⟩
    have := allR_ok h2 r.toNat (by omega)
    rw [Int.toNat_of_nonneg r0] at this
    exact chk_good this
def isTrueT : Tr × Nat → Bool
  | (.bl true, _) => true
  | _ => false
theorem lawOk_chk {m : Nat} {s : Sx} (h : chk isTrueT ((s (.no :: .feed :: noes m)).bind outF) = true) : LawOk m s := ⟨good_imp (chk_good h) fun r hr => by
  obtain ⟨t, k⟩ := r
  unfold isTrueT at hr
  split at hr
  · rename_i e
    cases e; rfl
  · cases hr⟩
/-- a loop from the invariant to the invariant -/
theorem good_loop {E : Nat → Tr → Prop} {g : Gx} {body : Sx} {I : En → Prop} {Q : Fl → Prop} : ∀ {ts : List Tr} {ρ : En}, I ρ → (∀ t ∈ ts, ∀ ρ, I ρ → good E ((g t ρ).bind body) fun fl => match fl with
      | .nx ρ => I ρ
      | .ct ρ => I ρ
      | .bk ρ => Q (.nx ρ)
      | .rt t k => Q (.rt t k)) → (∀ ρ, I ρ → Q (.nx ρ)) → good E (loopF g body ts ρ) Q
  | [], ρ, h, _, hq => hq ρ h
  | t :: ts, ρ, h, hs, hq => by
    have h1 := hs t List.mem_cons_self ρ h
    unfold loopF
    rw [good_bind] at h1
    refine good_bind.mpr (good_imp h1 fun ρ1 h1 => good_bind.mpr (good_imp h1 fun fl h2 => ?_))
    cases fl with
    | nx ρ2 => exact good_loop h2 (fun t m => hs t (List.mem_cons_of_mem _ m)) hq
    | ct ρ2 => exact good_loop h2 (fun t m => hs t (List.mem_cons_of_mem _ m)) hq
    | bk ρ2 => exact h2
    | rt t k => exact h2
end VL

set_option Elab.async false
set_option linter.all false
set_option maxRecDepth 100000
set_option maxHeartbeats 4000000
/-! VL15: slots forgotten and levels zeroed; what a statement leaves alone; loops over draws -/
namespace VL
open PySem PySem.Spec PyProof.Rows L2
theorem wipeE_get : ∀ (ds : List Nat) (ρ : En) (j : Nat), (wipeE ds ρ)[j]? = if j ∈ ds then (ρ[j]?).map (fun _ => Sl.no) else (ρ[j]?).map zeroS
  | [], ρ, j => by
    show (ρ.map zeroS)[j]? = _
    rw [List.getElem?_map, if_neg (by simp)]
  | d :: ds, ρ, j => by
    show ((wipeE ds ρ).set d .no)[j]? = _
    rw [List.getElem?_set, wipeE_get ds ρ j]
    by_cases e : d = j
    · subst e
      rw [if_pos rfl, if_pos List.mem_cons_self]
      have hl : (wipeE ds ρ).length = ρ.length := by
        clear wipeE_get
        induction ds with
        | nil => show (ρ.map zeroS).length = _; rw [List.length_map]
        | cons a r ih => show ((wipeE r ρ).set a .no).length = _; rw [List.length_set]; exact ih
      by_cases hd : d < ρ.length
      · rw [if_pos (by rw [hl]; exact hd), List.getElem?_eq_getElem hd]; rfl
      · rw [if_neg (by rw [hl]; exact hd), List.getElem?_eq_none (by omega)]; rfl
    · rw [if_neg e]
      by_cases m : j ∈ ds
      · rw [if_pos m, if_pos (List.mem_cons_of_mem _ m)]
      · rw [if_neg m, if_neg (by rw [List.mem_cons]; rintro (z | z); exact e z.symm; exact m z)]
theorem zero_zero : ∀ s : Sl, zeroS (zeroS s) = zeroS s
  | .no => rfl
  | .feed => rfl
  | .v _ _ => rfl
theorem wipe_wipe {ds ds' : List Nat} (h : ∀ i ∈ ds, i ∈ ds') (ρ : En) : wipeE ds' (wipeE ds ρ) = wipeE ds' ρ := List.ext_getElem? fun j => by
  rw [wipeE_get, wipeE_get, wipeE_get]
  by_cases m : j ∈ ds'
  · rw [if_pos m, if_pos m]
    cases ρ[j]? <;> (split <;> rfl)
  · rw [if_neg m, if_neg m, if_neg (fun z => m (h j z))]
    cases ρ[j]? with
    | none => rfl
    | some s => simp [zero_zero]
theorem wipe_self (ds : List Nat) (ρ : En) : wipeE ds (wipeE ds ρ) = wipeE ds ρ := wipe_wipe (fun _ h => h) ρ
theorem wipe_set {ds : List Nat} {i : Nat} (h : i ∈ ds) (ρ : En) (s : Sl) : wipeE ds (ρ.set i s) = wipeE ds ρ := List.ext_getElem? fun j => by
  rw [wipeE_get, wipeE_get]
  by_cases e : i = j
  · subst e
    rw [if_pos h, if_pos h, List.getElem?_set, if_pos rfl]
    by_cases hi : i < ρ.length
    · rw [if_pos hi, List.getElem?_eq_getElem hi]; rfl
    · rw [if_neg hi, List.getElem?_eq_none (by omega)]
  · rw [List.getElem?_set, if_neg e]
theorem zero_cap (m : Nat) : ∀ s : Sl, zeroS (capS m s) = zeroS s
  | .no => rfl
  | .feed => rfl
  | .v _ _ => rfl
theorem capAt_at : ∀ (j m : Nat) (ρ : En) (i : Nat), (capAt j m ρ)[i]? = (ρ[i]?).map fun s => if i = j then capS m s else s
  | _, _, [], i => by simp [capAt]
  | 0, m, s :: r, 0 => by simp [capAt]
  | 0, m, s :: r, i + 1 => by simp [capAt]
  | j + 1, m, s :: r, 0 => by simp [capAt]
  | j + 1, m, s :: r, i + 1 => by
    simp only [capAt, List.getElem?_cons_succ, capAt_at j m r i]
    by_cases e : i = j
    · subst e; simp
    · simp [e]
theorem wipe_cap (ds : List Nat) (j m : Nat) (ρ : En) : wipeE ds (capAt j m ρ) = wipeE ds ρ := List.ext_getElem? fun i => by
  rw [wipeE_get, wipeE_get, capAt_at]
  cases ρ[i]? with
  | none => rfl
  | some s =>
    split
    · rfl
    · show some (zeroS (if i = j then capS m s else s)) = some (zeroS s)
      split
      · rw [zero_cap]
      · rfl
theorem wipe_lower (ds : List Nat) : ∀ (rd : RD) (ρ : En), wipeE ds (lower rd ρ) = wipeE ds ρ
  | [], _ => rfl
  | (j, m) :: r, ρ => by unfold lower; rw [wipe_lower ds r, wipe_cap]
theorem wipe_low (ds : List Nat) (k : Nat) (rd : RD) (ρ : En) : wipeE ds (lowIf k rd ρ) = wipeE ds ρ := by
  unfold lowIf
  split
  · rfl
  · exact wipe_lower ds rd ρ
/-! ### soundness -/
theorem Rel.nrm {K : PySem.W.Frag} {H0 H : Hp} {fd B : List Addr} {ρ : En} {σ : L2.St} {ψ : List FP} {Y : List Tmp} (R : Rel K H0 fd B ρ σ H ψ Y) : ∀ ds : List Nat, Rel K H0 fd B (wipeE ds ρ) σ H (wipeP ds ψ) Y
  | [] => R.weak (by show (ρ.map zeroS).length = _; rw [List.length_map]) fun i s h => by
    have h : (ρ.map zeroS)[i]? = some s := h
    rw [List.getElem?_map] at h
    cases e : ρ[i]? with
    | none => rw [e] at h; cases h
    | some s' =>
      rw [e] at h
      cases h
      refine ⟨s', rfl, ?_⟩
      cases s' with
      | no => exact SlLe.refl _
      | feed => exact SlLe.refl _
      | v t k => exact ⟨rfl, Nat.zero_le _⟩
  | d :: ds => (Rel.nrm R ds).kill (i := d)
def sNrm (ds : List Nat) (s : Sx) : Sx := fun ρ => s (wipeE ds ρ)
section
variable {X : Cx} {W : WH}
theorem vs_nrm {st : Stmt} {s : Sx} (ds : List Nat) (h : VS X W st s) : VS X W st (sNrm ds s) := ps_imp h fun D σ H q => by
  obtain ⟨H0, fd, B, ρ, ψ, Y, R, g⟩ := q
  exact ⟨H0, fd, B, _, _, Y, R.nrm ds, g⟩
theorem vss_nrm {st : List Stmt} {s : Sx} (ds : List Nat) (h : VSs X W st s) : VSs X W st (sNrm ds s) := pss_imp h fun D σ H q => by
  obtain ⟨H0, fd, B, ρ, ψ, Y, R, g⟩ := q
  exact ⟨H0, fd, B, _, _, Y, R.nrm ds, g⟩
end
/-! ### what a statement leaves alone -/
def allM {α : Type} (R : α → Prop) : M α → Prop
  | .ret a => R a
  | .bad => True
  | .exc _ _ => True
  | .draw _ k => ∀ r, allM R (k r)
theorem allM_bind {α β : Type} {R : β → Prop} {f : α → M β} : ∀ {m : M α}, allM (fun a => allM R (f a)) m → allM R (m.bind f)
  | .ret _, h => h
  | .bad, _ => trivial
  | .exc _ _, _ => trivial
  | .draw n k, h => fun r => allM_bind (h r)
theorem allM_imp {α : Type} {R R' : α → Prop} (i : ∀ a, R a → R' a) : ∀ {m : M α}, allM R m → allM R' m
  | .ret a, h => i a h
  | .bad, _ => trivial
  | .exc _ _, _ => trivial
  | .draw n k, h => fun r => allM_imp i (h r)
theorem allM_any {α : Type} {R : α → Prop} (h : ∀ a, R a) : ∀ m : M α, allM R m
  | .ret a => h a
  | .bad => trivial
  | .exc _ _ => trivial
  | .draw n k => fun r => allM_any h (k r)
theorem good_and {α : Type} {E : Nat → Tr → Prop} {Q R : α → Prop} : ∀ {m : M α}, good E m Q → allM R m → good E m fun a => Q a ∧ R a
  | .ret a, h, h2 => ⟨h, h2⟩
  | .bad, h, _ => h
  | .exc _ _, h, _ => h
  | .draw n k, h, h2 => ⟨h.1, fun r r0 r1 => good_and (h.2 r r0 r1) (h2 r)⟩
def FrP (ds : List Nat) (ρ : En) : Fl → Prop
  | .nx ρ' => wipeE ds ρ' = wipeE ds ρ
  | .bk ρ' => wipeE ds ρ' = wipeE ds ρ
  | .ct ρ' => wipeE ds ρ' = wipeE ds ρ
  | .rt _ _ => True
def Fr (ds : List Nat) (s : Sx) : Prop := ∀ ρ, allM (FrP ds ρ) (s ρ)
def FrG (ds : List Nat) (g : Gx) : Prop := ∀ t ρ, allM (fun ρ' => wipeE ds ρ' = wipeE ds ρ) (g t ρ)
def FrGs (ds : List Nat) (g : List Tr → En → M En) : Prop := ∀ t ρ, allM (fun ρ' => wipeE ds ρ' = wipeE ds ρ) (g t ρ)
theorem FrP.eq {ds : List Nat} {ρ ρ1 : En} (e : wipeE ds ρ1 = wipeE ds ρ) : ∀ {fl : Fl}, FrP ds ρ1 fl → FrP ds ρ fl
  | .nx _, h => h.trans e
  | .bk _, h => h.trans e
  | .ct _, h => h.trans e
  | .rt _ _, _ => trivial
section
variable {ds : List Nat}
theorem fr_skip : Fr ds sSkip := fun ρ => rfl
theorem fr_break : Fr ds sBreak := fun ρ => rfl
theorem fr_cont : Fr ds sCont := fun ρ => rfl
theorem fr_ret {a : Ex} : Fr ds (sRet a) := fun ρ => allM_bind (allM_any (fun _ => trivial) _)
theorem fr_retN : Fr ds sRetN := fun ρ => trivial
theorem fr_retV {i : Nat} : Fr ds (sRetV i) := fun ρ => by
  unfold sRetV
  split <;> trivial
theorem fr_seq {s t : Sx} (h1 : Fr ds s) (h2 : Fr ds t) : Fr ds (sSeq s t) := fun ρ => allM_bind (allM_imp (fun fl h => by
  cases fl with
  | nx ρ' => exact allM_imp (fun fl h' => FrP.eq h h') (h2 ρ')
  | bk ρ' => exact h
  | ct ρ' => exact h
  | rt t k => exact h) (h1 ρ))
theorem fr_if {c : Tx} {s t : Sx} (h1 : Fr ds s) (h2 : Fr ds t) : Fr ds (sIf c s t) := fun ρ => allM_bind (allM_any (fun b => by
  cases b
  · exact h2 ρ
  · exact h1 ρ) _)
theorem fr_asg {i : Nat} {rd : RD} {a : Ex} (hi : i ∈ ds) : Fr ds (sAsg i rd a) := fun ρ => allM_bind (allM_any (fun r => by
  show wipeE ds _ = wipeE ds ρ
  rw [wipe_set hi, wipe_low]) _)
theorem fr_move {i j : Nat} (hi : i ∈ ds) (hj : j ∈ ds) : Fr ds (sMove i j) := fun ρ => by
  unfold sMove
  split
  · show wipeE ds _ = wipeE ds ρ
    rw [wipe_set hi, wipe_set hj]
  · trivial
theorem fr_aug {i : Nat} {f : Tr → Tr → Option Tr} {a : Ex} (hi : i ∈ ds) : Fr ds (sAug i f a) := fun ρ => by
  unfold sAug
  split
  · refine allM_bind (allM_any (fun r => ?_) _)
    split
    · show wipeE ds _ = wipeE ds ρ
      rw [wipe_set hi]
    · trivial
  · trivial
theorem fr_app {i : Nat} {rd : RD} {a : Ex} (hi : i ∈ ds) : Fr ds (sApp i rd a) := fun ρ => by
  unfold sApp
  split
  · refine allM_bind (allM_any (fun r => ?_) _)
    split
    · split
      · show wipeE ds _ = wipeE ds ρ
        rw [wipe_set hi, wipe_low]
      · trivial
    · trivial
  · trivial
theorem fr_expr {a : Ex} : Fr ds (sExpr a) := fun ρ => allM_bind (allM_any (fun _ => rfl) _)
theorem fr_kill {d2 : List Nat} {s : Sx} (h : ∀ i ∈ d2, i ∈ ds) (hs : Fr ds s) : Fr ds (sKill d2 s) := fun ρ => allM_imp (fun fl h' => FrP.eq (by
  clear hs h'
  induction d2 generalizing ρ with
  | nil => rfl
  | cons d r ih => exact (ih (fun i m => h i (List.mem_cons_of_mem _ m)) (ρ.set d .no)).trans (wipe_set (h d List.mem_cons_self) ρ .no)) h') (hs _)
theorem fr_nrm {d2 : List Nat} {s : Sx} (h : ∀ i ∈ d2, i ∈ ds) (hs : Fr ds s) : Fr ds (sNrm d2 s) := fun ρ => allM_imp (fun fl h' => FrP.eq (wipe_wipe h ρ) h') (hs _)
theorem frg_name {i : Nat} (hi : i ∈ ds) : FrG ds (gN i) := fun t ρ => wipe_set hi ρ _
theorem frgs_nil : FrGs ds gsN := fun ts ρ => by
  unfold gsN
  split
  · rfl
  · trivial
theorem frgs_cons {g : Gx} {gs : List Tr → En → M En} (h1 : FrG ds g) (h2 : FrGs ds gs) : FrGs ds (gsC g gs) := fun ts ρ => by
  unfold gsC
  split
  · exact allM_bind (allM_imp (fun ρ' h => allM_imp (fun ρ2 h' => h'.trans h) (h2 _ ρ')) (h1 _ ρ))
  · trivial
theorem frg_tup {n : Nat} {gs : List Tr → En → M En} (h : FrGs ds gs) : FrG ds (gT n gs) := fun t ρ => by
  unfold gT
  split
  · split
    · exact h _ ρ
    · trivial
  · trivial
theorem fr_asgG {rd : RD} {g : Gx} {a : Ex} (hg : FrG ds g) : Fr ds (sAsgG rd g a) := fun ρ => by
  refine allM_bind (allM_any (fun r => ?_) _)
  refine allM_bind (allM_imp (fun ρ' h => ?_) (hg r.1 (lowIf r.2 rd ρ)))
  show wipeE ds ρ' = wipeE ds ρ
  rw [h, wipe_low]
theorem fr_loop {g : Gx} {b : Sx} (hg : FrG ds g) (hb : Fr ds b) : ∀ (ts : List Tr) (ρ : En), allM (FrP ds ρ) (loopF g b ts ρ)
  | [], ρ => rfl
  | t :: ts, ρ => allM_bind (allM_imp (fun ρ1 h1 => allM_bind (allM_imp (fun fl h2 => by
    have h2 := FrP.eq h1 h2
    cases fl with
    | nx ρ' => exact allM_imp (fun fl h3 => FrP.eq h2 h3) (fr_loop hg hb ts ρ')
    | ct ρ' => exact allM_imp (fun fl h3 => FrP.eq h2 h3) (fr_loop hg hb ts ρ')
    | bk ρ' => exact h2
    | rt t k => trivial) (hb ρ1))) (hg t ρ))
theorem fr_for {rd : RD} {src : En → M (List Tr × Nat)} {g : Gx} {b : Sx} (hg : FrG ds g) (hb : Fr ds b) : Fr ds (sFor rd src g b) := fun ρ => by
  refine allM_bind (allM_any (fun r => ?_) _)
  exact allM_imp (fun fl h => FrP.eq (wipe_low ds _ _ ρ) h) (fr_loop hg hb r.1 _)
theorem fr_while {c : Tx} {b : Sx} (hb : Fr ds b) : ∀ n, Fr ds (sWhile n c b)
  | 0 => fun ρ => trivial
  | n + 1 => fun ρ => allM_bind (allM_any (fun x => by
    cases x
    · exact (rfl : wipeE ds ρ = wipeE ds ρ)
    · refine allM_bind (allM_imp (fun fl h2 => ?_) (hb ρ))
      cases fl with
      | nx ρ' => exact allM_imp (fun fl h3 => FrP.eq h2 h3) (fr_while hb n ρ')
      | ct ρ' => exact allM_imp (fun fl h3 => FrP.eq h2 h3) (fr_while hb n ρ')
      | bk ρ' => exact h2
      | rt t k => trivial) _)
end
/-! ### runs in parts -/
theorem good_seq {E : Nat → Tr → Prop} {s t : Sx} {ρ : En} {Q : Fl → Prop} (h : good E (s ρ) fun fl => match fl with
    | .nx ρ' => good E (t ρ') Q
    | fl => Q fl) : good E (sSeq s t ρ) Q := good_bind.mpr (good_imp h fun fl h => by
  cases fl <;> exact h)
def isNx : Fl → Bool
  | .nx _ => true
  | .ct _ => true
  | _ => false
/-- a loop over draws: no turn leaves anything that a later one looks at -/
theorem for_nrm {E : Nat → Tr → Prop} {ds : List Nat} {rd : RD} {src : En → M (List Tr × Nat)} {i : Nat} {b : Sx} {ρ : En} {Q : Fl → Prop} (hi : i ∈ ds) (hs : good E (src ρ) fun _ => True) (hf : Fr ds b) (hb : good E (b (wipeE ds ρ)) fun fl => isNx fl = true)
    (hq : ∀ ρ', wipeE ds ρ' = wipeE ds ρ → Q (.nx ρ')) : good E (sFor rd src (gN i) (sNrm ds b) ρ) Q := good_bind.mpr (good_imp hs fun r _ => by
  refine good_loop (I := fun ρ' => wipeE ds ρ' = wipeE ds ρ) (wipe_low ds _ _ ρ) (fun t _ ρ1 h1 => ?_) hq
  show good E (b (wipeE ds (ρ1.set i _))) _
  rw [wipe_set hi, h1]
  refine good_imp (good_and hb (hf (wipeE ds ρ))) fun fl h => ?_
  cases fl with
  | nx ρ' => exact h.2.trans (wipe_self ds ρ)
  | ct ρ' => exact h.2.trans (wipe_self ds ρ)
  | bk ρ' => exact nomatch h.1
  | rt t k => exact nomatch h.1)
/-- a statement run by the kernel -/
def outN : M Fl → En
  | .ret (.nx ρ) => ρ
  | _ => []
def isRetN : M Fl → Bool
  | .ret (.nx _) => true
  | _ => false
theorem good_det {E : Nat → Tr → Prop} {s t : Sx} {ρ ρ' : En} {Q : Fl → Prop} (h : s ρ = .ret (.nx ρ')) (g : good E (t ρ') Q) : good E (sSeq s t ρ) Q := good_seq (by rw [h]; exact g)
theorem isRetN_eq {m : M Fl} (h : isRetN m = true) : m = .ret (.nx (outN m)) := by
  unfold isRetN at h
  split at h
  · rfl
  · cases h
end VL

set_option Elab.async false
set_option linter.all false
set_option maxRecDepth 100000
set_option maxHeartbeats 4000000
/-! VL16: trees alike; a def's promise in other words -/
namespace VL
open PySem PySem.Spec PyProof.Rows L2
mutual
def beqT : Tr → Tr → Bool
  | .non, .non => true
  | .bl a, .bl b => a == b
  | .int a, .int b => decide (a = b)
  | .str a, .str b => decide (a = b)
  | .ls a, .ls b => beqL a b
  | .tp a, .tp b => beqL a b
  | _, _ => false
def beqL : List Tr → List Tr → Bool
  | [], [] => true
  | a :: as, b :: bs => beqT a b && beqL as bs
  | _, _ => false
end
mutual
theorem beqT_eq : ∀ {a b : Tr}, beqT a b = true → a = b
  | .non, .non, _ => rfl
  | .bl a, .bl b, h => by simp [beqT] at h; rw [h]
  | .int a, .int b, h => by simp [beqT] at h; rw [h]
  | .str a, .str b, h => by simp [beqT] at h; rw [h]
  | .ls a, .ls b, h => by rw [beqL_eq (a := a) (b := b) (by simpa [beqT] using h)]
  | .tp a, .tp b, h => by rw [beqL_eq (a := a) (b := b) (by simpa [beqT] using h)]
  | .non, .bl _, h => by simp [beqT] at h
  | .non, .int _, h => by simp [beqT] at h
  | .non, .str _, h => by simp [beqT] at h
  | .non, .ls _, h => by simp [beqT] at h
  | .non, .tp _, h => by simp [beqT] at h
  | .bl _, .non, h => by simp [beqT] at h
  | .bl _, .int _, h => by simp [beqT] at h
  | .bl _, .str _, h => by simp [beqT] at h
  | .bl _, .ls _, h => by simp [beqT] at h
  | .bl _, .tp _, h => by simp [beqT] at h
  | .int _, .non, h => by simp [beqT] at h
  | .int _, .bl _, h => by simp [beqT] at h
  | .int _, .str _, h => by simp [beqT] at h
  | .int _, .ls _, h => by simp [beqT] at h
  | .int _, .tp _, h => by simp [beqT] at h
  | .str _, .non, h => by simp [beqT] at h
  | .str _, .bl _, h => by simp [beqT] at h
  | .str _, .int _, h => by simp [beqT] at h
  | .str _, .ls _, h => by simp [beqT] at h
  | .str _, .tp _, h => by simp [beqT] at h
  | .ls _, .non, h => by simp [beqT] at h
  | .ls _, .bl _, h => by simp [beqT] at h
  | .ls _, .int _, h => by simp [beqT] at h
  | .ls _, .str _, h => by simp [beqT] at h
  | .ls _, .tp _, h => by simp [beqT] at h
  | .tp _, .non, h => by simp [beqT] at h
  | .tp _, .bl _, h => by simp [beqT] at h
  | .tp _, .int _, h => by simp [beqT] at h
  | .tp _, .str _, h => by simp [beqT] at h
  | .tp _, .ls _, h => by simp [beqT] at h
theorem beqL_eq : ∀ {a b : List Tr}, beqL a b = true → a = b
  | [], [], _ => rfl
  | a :: as, b :: bs, h => by
    have h : (beqT a b && beqL as bs) = true := by simpa [beqL] using h
    obtain ⟨h1, h2⟩ := Bool.and_eq_true_iff.mp h
    rw [beqT_eq h1, beqL_eq h2]
  | [], _ :: _, h => by simp [beqL] at h
  | _ :: _, [], h => by simp [beqL] at h
end
def isT99 : Tr × Nat → Bool
  | (.bl true, k) => Nat.beq k 99
  | _ => false
theorem isT99_eq {r : Tr × Nat} (h : isT99 r = true) : r = (.bl true, 99) := by
  unfold isT99 at h
  split at h
  · rw [Nat.eq_of_beq_eq_true h]
  · cases h
/-- True at the arguments that p tells, else what f says -/
def orT (p : List Tr → Bool) (f : Fn) : Fn := fun ts => if p ts then .ret (.bl true, 99) else f ts
theorem ref_orT {p : List Tr → Bool} {f : Fn} (h : ∀ ts, p ts = true → chk isT99 (f ts) = true) : Refn (orT p f) f := fun ts Q g => by
  unfold orT at g
  by_cases c : p ts = true
  · rw [if_pos c] at g
    exact good_imp (chk_good (h ts c)) fun r hr => by rw [isT99_eq hr]; exact g
  · rw [if_neg c] at g
    exact g
/-- figures to the base b -/
def wdT (b : Nat) : Nat → Nat → List Tr
  | 0, _ => []
  | n + 1, i => .int (i % b : Nat) :: wdT b n (i / b)
def cdT (b : Nat) : List Tr → Nat
  | [] => 0
  | .int i :: r => i.toNat + b * cdT b r
  | _ :: r => b * cdT b r
end VL
namespace VL
theorem lawTail {m : M (Tr × Nat)} (h : chk isTrueT m = true) : good (fun _ _ => False) m fun r => r.1 = .bl true := good_imp (chk_good h) fun r hr => by
  obtain ⟨t, k⟩ := r
  unfold isTrueT at hr
  split at hr
  · rename_i e
    cases e; rfl
  · cases hr
end VL
namespace VL
def allL {α : Type} : List α → (α → Bool) → Bool
  | [], _ => true
  | a :: r, f => f a && allL r f
theorem allL_ok {α : Type} : ∀ {l : List α} {f : α → Bool}, allL l f = true → ∀ a ∈ l, f a = true
  | b :: r, f, h, a, m => by
    obtain ⟨h1, h2⟩ := Bool.and_eq_true_iff.mp (show (f b && allL r f) = true from h)
    rcases List.mem_cons.mp m with rfl | m
    · exact h1
    · exact allL_ok h2 a m
def memT (t : Tr) : List Tr → Bool
  | [] => false
  | a :: r => beqT t a || memT t r
theorem memT_ok {t : Tr} : ∀ {l : List Tr}, memT t l = true → t ∈ l
  | a :: r, h => by
    rcases Bool.or_eq_true_iff.mp (show (beqT t a || memT t r) = true from h) with h | h
    · rw [beqT_eq h]; exact List.mem_cons_self
    · exact List.mem_cons_of_mem _ (memT_ok h)
theorem wipe_len : ∀ (ds : List Nat) (ρ : En), (wipeE ds ρ).length = ρ.length
  | [], ρ => by show (ρ.map zeroS).length = _; rw [List.length_map]
  | d :: ds, ρ => by show ((wipeE ds ρ).set d .no).length = _; rw [List.length_set]; exact wipe_len ds ρ
/-- a loop whose turns are all alike, whatever the item -/
theorem for_items {E : Nat → Tr → Prop} (P : Tr → Prop) {ds : List Nat} {rd : RD} {src : En → M (List Tr × Nat)} {i : Nat} {b : Sx} {ρ : En} {Q : Fl → Prop} (hi : i ∉ ds) (hs : good E (src ρ) fun r => ∀ t ∈ r.1, P t) (hf : Fr (i :: ds) b)
    (hb : ∀ t, P t → good E (b ((wipeE ds ρ).set i (.v t 0))) fun fl => isNx fl = true) (hq : ∀ ρ', wipeE (i :: ds) ρ' = wipeE (i :: ds) ρ → Q (.nx ρ')) : good E (sFor rd src (gN i) (sNrm ds b) ρ) Q := good_bind.mpr (good_imp hs fun r hr => by
  refine good_loop (I := fun ρ' => wipeE (i :: ds) ρ' = wipeE (i :: ds) ρ) (wipe_low (i :: ds) _ _ ρ) (fun t ht ρ1 h1 => ?_) hq
  have e : wipeE ds (ρ1.set i (.v t (lv0 t))) = (wipeE ds ρ).set i (.v t 0) := List.ext_getElem? fun j => by
    have hl : ρ1.length = ρ.length := by
      have := congrArg List.length h1
      rwa [wipe_len, wipe_len] at this
    have hj := congrArg (fun l => l[j]?) h1
    simp only [wipeE_get] at hj
    rw [wipeE_get, List.getElem?_set, List.getElem?_set, wipe_len, hl]
    by_cases ej : i = j
    · subst ej
      rw [if_neg hi, if_pos rfl, if_pos rfl]
      split <;> rfl
    · rw [if_neg ej, if_neg ej, wipeE_get]
      by_cases m : j ∈ ds
      · rw [if_pos m, if_pos m]
        rw [if_pos (List.mem_cons_of_mem _ m), if_pos (List.mem_cons_of_mem _ m)] at hj
        exact hj
      · rw [if_neg m, if_neg m]
        rw [if_neg (by rw [List.mem_cons]; rintro (z | z); exact ej z.symm; exact m z), if_neg (by rw [List.mem_cons]; rintro (z | z); exact ej z.symm; exact m z)] at hj
        exact hj
  have h0 := hb t (hr t ht)
  rw [← e] at h0
  refine good_imp (good_and h0 (hf (wipeE ds (ρ1.set i (.v t (lv0 t)))))) fun fl h => ?_
  have e2 : wipeE (i :: ds) (wipeE ds (ρ1.set i (.v t (lv0 t)))) = wipeE (i :: ds) ρ := by rw [wipe_wipe (fun _ m => List.mem_cons_of_mem _ m), wipe_set List.mem_cons_self, h1]
  cases fl with
  | nx ρ' => exact h.2.trans e2
  | ct ρ' => exact h.2.trans e2
  | bk ρ' => exact nomatch h.1
  | rt t k => exact nomatch h.1)
theorem good_draw {α : Type} {E : Nat → Tr → Prop} {n : Int} {k : Int → M α} {Q : α → Prop} (h : 0 < n) (g : ∀ r, 0 ≤ r → r < n → good E (k r) Q) : good E (.draw n k) Q := ⟨h, g⟩
end VL
namespace VL
/-! ### a law's run, told so that no elaborator runs it -/
structure Gd (u : Sx) (ρ : En) (Q : Fl → Prop) : Prop where
  ok : good (fun _ _ => False) (u ρ) Q
def Qf : Fl → Prop := fun fl => good (fun _ _ => False) (outF fl) fun r => r.1 = .bl true
theorem gd_step {u s t : Sx} {ρ ρ' : En} {Q : Fl → Prop} (hu : u = sSeq s t) (h : s ρ = .ret (.nx ρ')) (g : Gd t ρ' Q) : Gd u ρ Q := ⟨by rw [hu]; exact good_det h g.ok⟩
theorem gd_for {u t b : Sx} {ds : List Nat} {rd : RD} {src : En → M (List Tr × Nat)} {i : Nat} {ρ : En} {Q : Fl → Prop} (hu : u = sSeq (sFor rd src (gN i) (sNrm ds b)) t) (hi : i ∈ ds) (hs : good (fun _ _ => False) (src ρ) fun _ => True) (hf : Fr ds b) (hb : Gd b (wipeE ds ρ) fun fl => isNx fl = true)
    (hq : ∀ ρ', wipeE ds ρ' = wipeE ds ρ → Gd t ρ' Q) : Gd u ρ Q := ⟨by
  rw [hu]
  exact good_seq (for_nrm hi hs hf hb.ok fun ρ' e => (hq ρ' e).ok)⟩
theorem gd_nrm {u s : Sx} {ds : List Nat} {ρ ρ2 : En} {Q : Fl → Prop} (hu : u = sNrm ds s) (e : wipeE ds ρ = ρ2) (g : Gd s ρ2 Q) : Gd u ρ Q := ⟨by
  rw [hu]
  show good _ (s (wipeE ds ρ)) Q
  rw [e]; exact g.ok⟩
theorem gd_chk {u : Sx} {ρ : En} (h : chk isTrueT ((u ρ).bind outF) = true) : Gd u ρ Qf := ⟨good_bind.mp (lawTail h)⟩
theorem gd_law {m : Nat} {s : Sx} {ρ : En} (e : ρ = .no :: .feed :: noes m) (g : Gd s ρ Qf) : LawOk m s := ⟨by
  subst e
  exact good_bind.mpr g.ok⟩
end VL

set_option Elab.async false
set_option linter.all false
set_option maxRecDepth 100000
set_option maxHeartbeats 4000000
/-! VL17: functions of math by their names; the head's hook tells them -/
namespace VL
open PySem PySem.Spec PyProof.Rows L2
section
variable {X : Cx} {W : WH}
theorem ve_callFun {id : String} {x : Str} {p pos : Pos} {f : List Tr → Option Tr} {e : Expr} {es : List Expr} {s : Ax} {rd : RD} (hc : BiS X (.builtin id) f) (hg : Gl X x) (hm : X.mg x = some (.builtin id)) (ha : VA X W (e :: es) s rd)
    (hdb : (x == ("__debug__" : Str)) = false := by decide) (he : starEach (e :: es) X.env = (false, eval e X.env) :: starEach es X.env := by rfl) (hpl : (backTo pos (starEach es X.env)).any (·.1) = false := by rfl) : VE X W (.Call (.Name x p) (e :: es) [] pos) (eCall f s) [] := by
  obtain ⟨r, hr, h⟩ := hc
  exact pe_imp (pe_callBfun hr hg hm ha hdb he hpl) fun σ H Q q => te_call h q
def fIsqrt : List Tr → Option Tr
  | [.int i] => if decide (0 ≤ i) && decide (i < 18446744073709551616) then some (.int ((Float64.isqrt i.toNat : Nat) : Int)) else none
  | _ => none
def rIsqrt : List V → Hp → VK → Prop := fun vs H Q => ∃ a : Int, vs = [.int a] ∧ 0 ≤ a ∧ a < 2 ^ 64 ∧ Q (.int ((Float64.isqrt a.toNat : Nat) : Int)) H
theorem cr_isqrt : CallR X (.builtin "math.isqrt") rIsqrt := by
  intro pins s σ H vs us Q I r h
  obtain ⟨a, rfl, h0, h1, q⟩ := h
  cases r with
  | cons r t =>
  cases t
  obtain ⟨t, rfl⟩ := r
  exact PySem.W.mg_isqrt h0 h1 ⟨.int _, H, I.tok _, ⟨_, rfl⟩, q⟩
theorem bi_isqrt : BiS X (.builtin "math.isqrt") fIsqrt := ⟨_, cr_isqrt, fun H fd ts vs F z Q r e => by
  unfold fIsqrt at e
  split at e
  · split at e
    · rename_i c
      obtain ⟨c1, c2⟩ := Bool.and_eq_true_iff.mp c
      cases e
      obtain ⟨x, rfl, h⟩ := repL1 r
      obtain rfl := rep_int h
      exact ⟨rfl, fun q => ⟨_, rfl, of_decide_eq_true c1, (by have := of_decide_eq_true c2; exact this), q⟩⟩
    · cases e
  · cases e⟩
def fGcd : List Tr → Option Tr
  | [.int i, .int j] => some (.int ((Nat.gcd i.natAbs j.natAbs : Nat) : Int))
  | _ => none
theorem bi_gcd : BiS X (.builtin "math.gcd") fGcd := ⟨_, cr_gcd, fun H fd ts vs F z Q r e => by
  unfold fGcd at e
  split at e
  · cases e
    obtain ⟨x, ys, F1, F2, rfl, h1, h2, rfl⟩ := r
    obtain ⟨y, rfl, h3⟩ := repL1 h2
    obtain rfl := rep_int h1
    obtain rfl := rep_int h3
    exact ⟨rfl, fun q => ⟨_, _, rfl, q⟩⟩
  · cases e⟩
end
/-! ### the head's hook -/
abbrev AlE : Type := Bool × He.AlD
def obsE (bs : List (Str × String)) (fa : List He.Fa) (fn : List He.DefD) (K : PySem.W.Frag) : AlE := (bs.all fun b => He.eqO (PySem.W.nsIn K mainGlobals b.1) (some (some (.builtin b.2))), He.obsD fa fn K)
def SaysE (bs : List (Str × String)) (fa : List He.Fa) (fn : List He.DefD) (K : PySem.W.Frag) : Prop := obsE bs fa fn K = (true, He.valD fn)
def obsEG (n : Nat) (bs : List (Str × String)) (fa : List He.Fa) (fn : List He.DefD) (g : Addr → Option Obj) : AlE := obsE bs fa fn (He.frG g (He.asD g n))
def hookE (n : Nat) (bs : List (Str × String)) (fa : List He.Fa) (fn : List He.DefD) : PySem.W.Hook where
  α := AlE
  obs := fun s => obsEG n bs fa fn s.heap.get?
  val := fun _ => (true, He.valD fn)
  says := fun _ h => ∃ K : PySem.W.Frag, K.In h ∧ SaysE bs fa fn K
  of := fun _ _ e => ⟨_, He.frG_in, e⟩
  keeps := fun _ _ _ ⟨K, hK, c⟩ k => ⟨K, PySem.W.Frag.In.keeps hK k, c⟩
theorem obsEG_eq {n : Nat} {bs : List (Str × String)} {fa : List He.Fa} {fn : List He.DefD} {g : Addr → Option Obj} {s : Shared} (h : ∀ a, g a = s.heap.get? a) : obsEG n bs fa fn g = (hookE n bs fa fn).obs s := by
  have e : g = s.heap.get? := funext h
  rw [e] <;> rfl
theorem SaysE.d {bs : List (Str × String)} {fa : List He.Fa} {fn : List He.DefD} {K : PySem.W.Frag} (c : SaysE bs fa fn K) : He.SaysD fa fn K := congrArg (fun z : AlE => z.2) c
theorem SaysE.b {bs : List (Str × String)} {fa : List He.Fa} {fn : List He.DefD} {K : PySem.W.Frag} {h : Heap} {mg : Str → Option Value} (c : SaysE bs fa fn K) (X : K.In h) (G : h.Ns mainGlobals mg) (i : Nat) {b : Str × String} (hb : bs[i]? = some b := by rfl) : mg b.1 = some (.builtin b.2) :=
  PySem.W.mg_of X G (He.eqO_ok (List.all_eq_true.mp (congrArg (fun z : AlE => z.1) c) b (List.mem_of_getElem? hb)))
end VL

set_option Elab.async false
set_option linter.all false
set_option maxRecDepth 100000
set_option maxHeartbeats 4000000
/-! VL18: rules for good, construct by construct -/
namespace VL
open PySem PySem.Spec PyProof.Rows L2
variable {E : Nat → Tr → Prop} {ρ : En}
theorem gd_asg {i : Nat} {rd : RD} {a : Ex} {t : Sx} {Q : Fl → Prop} (h : good E (a ρ) fun r => good E (t ((lowIf r.2 rd ρ).set i (.v r.1 r.2))) Q) : good E (sSeq (sAsg i rd a) t ρ) Q := good_seq (good_bind.mpr (good_imp h fun r h => h))
theorem gd_draw {i : Nat} {a : Ax} {R : Tr × Nat → Prop} (hf : isFd ρ[i]? = true) (h : good E (a ρ) fun r => ∃ m, r.1 = [.int m] ∧ 0 < m ∧ m < 1073741824 ∧ ∀ x, 0 ≤ x → x < m → R (.int x, 99)) : good E (eFnF i 1 fDraw a ρ) R := by
  unfold eFnF
  rw [if_pos hf]
  refine good_bind.mpr (good_imp h fun r h => ?_)
  obtain ⟨m, e, h0, h1, g⟩ := h
  rw [e]
  have e2 : fDraw [.int m] = .draw m fun r => .ret (.int r, 99) := by
    show (if decide (0 < m) && decide (m < 1073741824) then (M.draw m fun r => .ret (Tr.int r, 99) : M (Tr × Nat)) else .bad) = _
    rw [if_pos (by rw [decide_eq_true h0, decide_eq_true h1]; rfl)]
  show good E (fDraw [.int m]).noExc R
  rw [e2]
  exact ⟨h0, g⟩
theorem gd_add {i : Int} {b : Ex} {R : Tr × Nat → Prop} (h : good E (b ρ) fun y => ∃ x, y = (.int x, 99) ∧ R (.int (i + x), 99)) : good E (eBinG oAdd (eC (.int i)) b ρ) R := by
  show good E (M.bind (b ρ) fun y => M.ofOpt (oAdd (.int i) y.1)) R
  refine good_bind.mpr (good_imp h fun y h => ?_)
  obtain ⟨x, rfl, g⟩ := h
  exact g
theorem gd_cons {a : Ex} {s : Ax} {R : List Tr × Bool → Prop} (h : good E (a ρ) fun x => good E (s ρ) fun y => R (x.1 :: y.1, Nat.ble 99 x.2 && y.2)) : good E (aCons a s ρ) R := good_bind.mpr (good_imp h fun x h => good_bind.mpr (good_imp h fun y h => h))
theorem gd_ix {a b : Ex} {R : Tr × Nat → Prop} (h : good E (a ρ) fun x => good E (b ρ) fun y => ∃ z, oIx x.1 y.1 = some z ∧ R (z, lvI z x.2)) : good E (eIx a b ρ) R := good_bind.mpr (good_imp h fun x h => good_bind.mpr (good_imp h fun y h => by
  obtain ⟨z, e, g⟩ := h
  rw [e]; exact g))
theorem gd_bin {f : Tr → Tr → Option Tr} {a b : Ex} {R : Tr × Nat → Prop} (h : good E (a ρ) fun x => good E (b ρ) fun y => ∃ z, f x.1 y.1 = some z ∧ R (z, 99)) : good E (eBin f a b ρ) R := good_bind.mpr (good_imp h fun x h => good_bind.mpr (good_imp h fun y h => by
  obtain ⟨z, e, g⟩ := h
  rw [e]; exact g))
theorem gd_call {f : List Tr → Option Tr} {a : Ax} {R : Tr × Nat → Prop} (h : good E (a ρ) fun x => ∃ z, f x.1 = some z ∧ R (z, 99)) : good E (eCall f a ρ) R := good_bind.mpr (good_imp h fun x h => by
  obtain ⟨z, e, g⟩ := h
  rw [e]; exact g)
theorem gd_eq {α : Type} {m : M α} {a : α} {R : α → Prop} (e : m = .ret a) (h : R a) : good E m R := by rw [e]; exact h
end VL

set_option Elab.async false
set_option linter.all false
set_option maxRecDepth 100000
set_option maxHeartbeats 4000000
/-! VL19: what never runs, chained comparisons, x[i] = e, x[i] op= e, ranges with a step, reversed, any of ints -/
namespace VL
open PySem PySem.Spec PyProof.Rows L2
section
variable {X : Cx} {W : WH}
/-! ### a statement that is never reached (raise) -/
def sBad : Sx := fun _ => .bad
theorem vs_bad {st : Stmt} : VS X W st sBad := ps_imp ps_never fun D σ H q => by
  obtain ⟨H0, fd, B, ρ, ψ, Y, R, g⟩ := q
  exact g.elim
/-! ### a op b op c -/
theorem te_chain {op op' : CmpOp} {f g : Tr → Tr → Option Tr} {r r' : R2} {s1 s2 s3 : Ex} {rd1 rd2 rd3 : RD} {σ : L2.St} {H : Hp} {Q : VK}
    (h : ∀ (H : Hp) (fd : List Addr) (tx ty z : Tr) (x y : V) (F1 F2 : FP) (Q : VK), Rep X.K H fd tx x F1 → Rep X.K H fd ty y F2 → f tx ty = some z → isSc z = true ∧ (Q (sv z) H → r x y H Q))
    (h' : ∀ (H : Hp) (fd : List Addr) (tx ty z : Tr) (x y : V) (F1 F2 : FP) (Q : VK), Rep X.K H fd tx x F1 → Rep X.K H fd ty y F2 → g tx ty = some z → isSc z = true ∧ (Q (sv z) H → r' x y H Q))
    (q : TEv X.K W (eChain f g s1 s2 s3) [] σ H Q) : tChain r r' (TEv X.K W s1 rd1) (TEv X.K W s2 rd2) (TEv X.K W s3 rd3) σ H Q := by
  obtain ⟨H0, fd, B, ρ, ψ, Y, R, g0⟩ := q
  unfold eChain at g0
  refine two_run R g0 fun r1 r2 x y H2 F1 F2 T R2 g2 => ?_
  clear g0
  cases e : f r1.1 r2.1 with
  | none => rw [e] at g2; exact g2.elim
  | some z =>
    rw [e] at g2
    cases z <;> first | exact g2.elim | skip
    rename_i b
    obtain ⟨_, k⟩ := h H2 fd r1.1 r2.1 _ x y F1 F2 (fun z H3 => ∃ k, z = .bl k ∧ (if k = true then TEv X.K W s3 rd3 σ H3 fun w' H4 => r' y w' H4 Q else Q (.bl false) H3)) T.rep1 T.rep2 e
    refine k ⟨b, rfl, ?_⟩
    cases b with
    | false => rw [if_neg Bool.false_ne_true]; exact g2 (.bl false) H2 [] (.sc rfl T.ext T.fok)
    | true =>
      rw [if_pos rfl]
      have g3 := good_bind.mp g2
      refine ⟨H0, fd, B, ρ, ψ, Y, R2, good_imp g3 fun r3 g4 v H3 F a => ?_⟩
      cases e3 : g r2.1 r3.1 with
      | none => rw [e3] at g4; exact g4.elim
      | some z =>
        rw [e3] at g4
        obtain ⟨hs, k2⟩ := h' H3 fd r2.1 r3.1 z y v F2 F Q (T.rep2.ext a.ext T.fok) a.rep e3
        exact k2 (g4 (sv z) H3 [] (.sc hs (T.ext.trans a.ext) a.fok))
theorem ve_chain {op op' : CmpOp} {f g : Tr → Tr → Option Tr} {a b c : Expr} {s1 s2 s3 : Ex} {rd1 rd2 rd3 : RD} {pos : Pos} (ho : OpS X (compareOp op) f) (ho' : OpS X (compareOp op') g) (ha : VE X W a s1 rd1) (hb : VE X W b s2 rd2) (hc : VE X W c s3 rd3)
    (hm : lastMarks [op, op'] [b, c] = false := by with_unfolding_all rfl) : VE X W (.Compare a [op, op'] [b, c] pos) (eChain f g s1 s2 s3) [] := by
  obtain ⟨r, hr, h⟩ := ho
  obtain ⟨r', hr', h'⟩ := ho'
  exact pe_imp (pe_chain hr hr' ha hb hc hm) fun σ H Q q => te_chain (op := op) (op' := op') h h' q
theorem vt_chain {op op' : CmpOp} {f g : Tr → Tr → Option Tr} {a b c : Expr} {s1 s2 s3 : Ex} {rd1 rd2 rd3 : RD} {pos : Pos} (ho : OpS X (compareOp op) f) (ho' : OpS X (compareOp op') g) (ha : VE X W a s1 rd1) (hb : VE X W b s2 rd2) (hc : VE X W c s3 rd3)
    (hm : lastMarks [op, op'] [b, c] = false := by with_unfolding_all rfl) : VT X W (.Compare a [op, op'] [b, c] pos) (tB (eChain f g s1 s2 s3)) := by
  obtain ⟨r, hr, h⟩ := ho
  obtain ⟨r', hr', h'⟩ := ho'
  refine pt_imp (pt_chain hr hr' ha hb hc hm) fun σ H Q q => ?_
  obtain ⟨H0, fd, B, ρ, ψ, Y, R, g⟩ := q
  refine te_chain (op := op) (op' := op') h h' ?_
  unfold tB at g
  rw [good_bind] at g
  refine ⟨H0, fd, B, ρ, ψ, Y, R, good_imp g fun z g1 v H' F a => ?_⟩
  obtain ⟨t, k⟩ := z
  cases t <;> first | exact g1.elim | skip
  obtain rfl := rep_bl a.rep
  exact ⟨_, rfl, g1 H' a.ext a.fok⟩
/-! ### x[i] = e, e a scalar in the place of a flat thing -/
def putL (ts : List Tr) (j : Int) (z : Tr) : Option (List Tr) := match ixN ts.length j with
  | some n => match ts[n]? with
    | some t => if t.flat && isSc z then some (ts.set n z) else none
    | none => none
  | none => none
theorem RepL.setFlat {K : PySem.W.Frag} {H : Hp} {fd : List Addr} : ∀ {ts : List Tr} {xs : List V} {F : FP} {n : Nat} {t z : Tr} {y : V}, RepL K H fd ts xs F → ts[n]? = some t → t.flat = true → Rep K H fd z y [] → RepL K H fd (ts.set n z) (xs.set n y) F
  | [], _, _, _, _, _, _, _, h, _, _ => by simp at h
  | u :: ts, _, _, 0, t, z, y, r, h, f, hz => by
    obtain ⟨x, ys, G1, G2, rfl, h1, h2, rfl⟩ := r
    obtain rfl : u = t := by simpa using h
    rw [h1.flat f]
    exact ⟨y, ys, [], G2, rfl, hz, h2, rfl⟩
  | u :: ts, _, _, n + 1, t, z, y, r, h, f, hz => by
    obtain ⟨x, ys, G1, G2, rfl, h1, h2, rfl⟩ := r
    exact ⟨x, ys.set n y, G1, G2, rfl, h1, RepL.setFlat (n := n) h2 (by simpa using h) f hz, rfl⟩
theorem sc_flat : ∀ {t : Tr}, isSc t = true → t.flat = true
  | .non, _ => rfl
  | .bl _, _ => rfl
  | .int _, _ => rfl
  | .str _, _ => rfl
  | .ls _, h => by cases h
  | .tp _, h => by cases h
theorem putL_ok {ts ts' : List Tr} {j : Int} {z : Tr} (h : putL ts j z = some ts') : ∃ n t, ixN ts.length j = some n ∧ ts[n]? = some t ∧ t.flat = true ∧ isSc z = true ∧ ts' = ts.set n z := by
  unfold putL at h
  split at h
  · rename_i n hn
    split at h
    · rename_i t ht
      split at h
      · rename_i c
        cases h
        obtain ⟨c1, c2⟩ := Bool.and_eq_true_iff.mp c
        exact ⟨n, t, hn, ht, c1, c2, rfl⟩
      · cases h
    · cases h
  · cases h
/-- the list at slot i has another scalar at a place -/
theorem Rel.put1 {K : PySem.W.Frag} {H0 H : Hp} {fd B : List Addr} {ρ : En} {σ : L2.St} {ψ : List FP} {Y : List Tmp} {i k n : Nat} {ts : List Tr} {t z : Tr} {xs : List V} {y : V} {G : FP} {p : Addr} (R : Rel K H0 fd B ρ σ H ψ Y) (hi : ρ[i]? = some (.v (.ls ts) k)) (hk : 1 ≤ k) (hψ : ψ[i]? = some ((0, p) :: up G)) (hσ : σ[i]? = some (some (.ref p))) (hl : RepL K H fd ts xs G) (hz : xs.length ≤ sizeLine) (hp : H p = some (.lst xs)) (hpf : p ∉ fd)
    (ht : ts[n]? = some t) (f : t.flat = true) (rz : Rep K H fd z y []) : Rel K H0 fd B (ρ.set i (.v (.ls (ts.set n z)) k)) σ (L2.upd H p (.lst (xs.set n y))) (ψ.set i ((0, p) :: up G)) Y := by
  obtain ⟨o1, o2, o3, o4⟩ := R.own i _ k _ 0 p hi hψ List.mem_cons_self (.inl hk)
  have sub : ∀ c, c ∈ ads G → c ∈ ads ((0, p) :: up G) := fun c m => by
    show c ∈ p :: ads (up G)
    rw [ads_up]; exact List.mem_cons_of_mem _ m
  have cnt : ∀ c, (ads G).count c ≤ (ads ((0, p) :: up G)).count c := fun c => by
    show _ ≤ List.count c (p :: ads (up G))
    rw [ads_up, List.count_cons]; omega
  have nG : p ∉ ads G := fun m => by
    have h1 : 1 ≤ (ads G).count p := List.count_pos_iff.mpr m
    have h2 : (ads ((0, p) :: up G)).count p = (ads G).count p + 1 := by
      show List.count p (p :: ads (up G)) = _
      rw [List.count_cons_self, ads_up]
    omega
  refine R.mut hi hk hψ hσ hp hpf (hl.setFlat ht f rz) (by rw [List.length_set]; exact hz) nG (fun j t' k' G' d c hj h hG m o m2 => ?_) (fun d c m o => ?_) (fun c m => R.dom c (.inl ⟨_, List.mem_of_getElem? hψ, sub c m⟩))
  · exact (R.own j t' k' G' d c h hG m o).2.1 i _ (Ne.symm hj) hψ (sub c m2)
  · obtain ⟨u1, u2, u3, u4⟩ := R.own i _ k _ (d + 1) c hi hψ (List.mem_cons_of_mem _ (mem_up.mpr ⟨d, rfl, m⟩)) o
    exact ⟨u1, u2, u3, Nat.le_trans (cnt c) u4⟩
def sPut (i : Nat) (b a : Ex) : Sx := fun ρ => match ρ[i]? with
  | some (.v (.ls ts) k) => (a ρ).bind fun r => (b ρ).bind fun r2 => match r2.1 with
    | .int j => match putL ts j r.1 with
      | some ts' => if Nat.ble 1 k then .ret (.nx (ρ.set i (.v (.ls ts') k))) else .bad
      | none => .bad
    | _ => .bad
  | _ => .bad
theorem vs_put {i : Nat} {x : Str} {e idx : Expr} {s1 s2 : Ex} {rd1 rd2 : RD} {p tpos pos : Pos} (he : VE X W e s1 rd1) (ha : PG X (.Subscript (.Name x p) idx tpos) (gSub (tVar i) (TEv X.K W s2 rd2) rSetL))
    (hs : swapsWithSole [.Subscript (.Name x p) idx tpos] e pos.line X.env = pure false := by rfl) (hw : swappedStores [.Subscript (.Name x p) idx tpos] e X.env = pure none := by rfl)
    (h1 : (assignEach [.Subscript (.Name x p) idx tpos] X.env).map (·.2) = [assign (.Subscript (.Name x p) idx tpos) X.env] := by rfl) :
    VS X W (.Assign [.Subscript (.Name x p) idx tpos] e pos) (sPut i s2 s1) := ps_imp (ps_asg he ha hs hw h1) fun D σ H q => by
  obtain ⟨H0, fd, B, ρ, ψ, Y, R, g⟩ := q
  unfold sPut at g
  cases e0 : ρ[i]? with
  | none => rw [e0] at g; exact g.elim
  | some o =>
    cases o with
    | no => rw [e0] at g; exact g.elim
    | feed => rw [e0] at g; exact g.elim
    | v t k =>
      cases t <;> first | (rw [e0] at g; exact g.elim) | skip
      rename_i ts
      rw [e0] at g
      have g := good_bind.mp g
      obtain ⟨v0, F0, q1, q2, q3⟩ := R.rep i _ k e0
      obtain ⟨p0, xs, G, rfl, hl, hz, hp, hpf, rfl⟩ := rep_ls q3
      refine ⟨H0, fd, B, ρ, ψ, Y, R, good_imp g fun r g1 v H1 F a => ?_⟩
      have g1 := good_bind.mp g1
      have R1 := R.grow a.ext a.fok
      refine ⟨_, q1, H0, fd, B, ρ, ψ, Y, R1, good_imp g1 fun r2 g2 w H2 F2 a2 => ?_⟩
      have R2 := R1.grow a2.ext a2.fok
      obtain ⟨t2, k2⟩ := r2
      cases t2 <;> first | exact g2.elim | skip
      rename_i j
      cases e2 : putL ts j r.1 with
      | none =>
        have g2 : good (W H0 fd) (match putL ts j r.1 with
          | some ts' => if Nat.ble 1 k then M.ret (Fl.nx (ρ.set i (.v (.ls ts') k))) else .bad
          | none => .bad) _ := g2
        rw [e2] at g2; exact g2.elim
      | some ts' =>
        have g2 : good (W H0 fd) (match putL ts j r.1 with
          | some ts' => if Nat.ble 1 k then M.ret (Fl.nx (ρ.set i (.v (.ls ts') k))) else .bad
          | none => .bad) _ := g2
        rw [e2] at g2
        obtain ⟨c, g3⟩ := if_good g2
        obtain ⟨n, t, hn, ht, f, sc, rfl⟩ := putL_ok e2
        obtain rfl := rep_int a2.rep
        have hF : F = [] := a.rep.flat (sc_flat sc)
        subst hF
        have q4 := q3.ext (a.ext.trans a2.ext) R.fok
        obtain ⟨p1, xs1, G1, e3, hl1, hz1, hp1, _, e4⟩ := rep_ls q4
        cases e3
        have e5 : G = G1 := up_inj (List.cons.inj e4).2
        subst e5
        have hx : xs1.length = ts.length := hl1.length.symm
        refine ⟨p0, xs1, j, n, rfl, rfl, hp1, by rw [hx]; exact hn, ?_⟩
        exact g3 σ _ _ (R2.put1 e0 (Nat.le_of_ble_eq_true c) q2 q1 hl1 hz1 hp1 hpf ht f (a.rep.ext a2.ext a.fok))
/-! ### x[i] op= e, scalars -/
def sPutA (i : Nat) (f : Tr → Tr → Option Tr) (b a : Ex) : Sx := fun ρ => match ρ[i]? with
  | some (.v (.ls ts) k) => (b ρ).bind fun r2 => match r2.1 with
    | .int j => match atI ts j with
      | some t => (a ρ).bind fun r => match f t r.1 with
        | some z => match putL ts j z with
          | some ts' => if Nat.ble 1 k then .ret (.nx (ρ.set i (.v (.ls ts') k))) else .bad
          | none => .bad
        | none => .bad
      | none => .bad
    | _ => .bad
  | _ => .bad
/-! ### range with a step -/
def rgOk (i j c : Int) : Bool := decide (c ≠ 0) && decide (c.natAbs < 1073741824) && Builtin.Range.small i j c && decide (Builtin.Range.rangeSize i j c = ((Builtin.Range.rangeSize i j c).toNat : Int))
def rangeT3 (i j c : Int) : List Tr := (List.range (Builtin.Range.rangeSize i j c).toNat).map fun (n : Nat) => .int (i + n * c)
def iRng3 (a b d : Ex) : En → M (List Tr × Nat) := fun ρ => (a ρ).bind fun r => (b ρ).bind fun r2 => (d ρ).bind fun r3 => match r.1, r2.1, r3.1 with
  | .int i, .int j, .int c => if rgOk i j c then .ret (rangeT3 i j c, 99) else .bad
  | _, _, _ => .bad
theorem itc_ok {K : PySem.W.Frag} {fd : List Addr} {ψ : List FP} {rd : RD} {H H' : Hp} {i j c : Int} (x : ExtF fd H H') (f : FeedOk fd H') : ItOk K fd ψ rd H (rangeT3 i j c, 99) (Itc i c (Builtin.Range.rangeSize i j c).toNat) H' [] := by
  refine ⟨x, f, fun _ h => (nomatch h), fun _ h => (nomatch h), fun _ h => (nomatch h), fun n H2 _ f2 => ⟨fun t ht => ?_, fun hle => ?_⟩⟩
  · unfold rangeT3 at ht
    rw [List.getElem?_map] at ht
    by_cases q : n < (Builtin.Range.rangeSize i j c).toNat
    · rw [List.getElem?_range q] at ht
      obtain rfl : Tr.int (i + (n : Int) * c) = t := by simpa using ht
      refine ⟨q, fun x H3 y => ?_⟩
      obtain ⟨e, y⟩ := y
      subst e y
      exact ⟨.refl, f2, [], ⟨rfl, rfl⟩, fun a m => (nomatch m)⟩
    · rw [List.getElem?_eq_none (by rw [List.length_range]; omega)] at ht
      cases ht
  · have h' : (rangeT3 i j c).length ≤ n := hle
    unfold rangeT3 at h'
    rw [List.length_map, List.length_range] at h'
    exact h'
theorem vi_range3 {tg a b d : Expr} {s1 s2 s3 : Ex} {rd1 rd2 rd3 : RD} {p pos : Pos} (hg : Gl X "range") (hm : X.mg "range" = none) (ha : VE X W a s1 rd1) (hb : VE X W b s2 rd2) (hd : VE X W d s3 rd3)
    (hs : starEach [a, b, d] X.env = (false, eval a X.env) :: starEach [b, d] X.env := by rfl) (hpl : (backTo pos (starEach [b, d] X.env)).any (·.1) = false := by rfl)
    (h2 : starEach (b :: [d]) X.env = (false, eval b X.env) :: starEach [d] X.env := by rfl) (h3 : starEach (d :: []) X.env = (false, eval d X.env) :: starEach [] X.env := by rfl) : VI X W tg (.Call (.Name "range" p) [a, b, d] [] pos) (iRng3 s1 s2 s3) [] := pi_imp (pi_range3 hg hm (pa_cons ha (pa_cons hb (pa_cons hd pa_nil h3) h2) hs) hs hpl) fun σ H R q => by
  obtain ⟨H0, fd, B, ρ, ψ, Y, R0, g⟩ := q
  have g := good_bind.mp g
  refine ⟨H0, fd, B, ρ, ψ, Y, R0, good_imp g fun r g1 v H1 F a => ?_⟩
  have g1 := good_bind.mp g1
  refine ⟨H0, fd, B, ρ, ψ, Y, R0.grow a.ext a.fok, good_imp g1 fun r2 g2 v2 H2 F2 a2 => ?_⟩
  have g2 := good_bind.mp g2
  refine ⟨H0, fd, B, ρ, ψ, Y, R0.grow (a.ext.trans a2.ext) a2.fok, good_imp g2 fun r3 g3 v3 H3 F3 a3 => ?_⟩
  clear g2 g1 g
  obtain ⟨t, k⟩ := r
  obtain ⟨t2, k2⟩ := r2
  obtain ⟨t3, k3⟩ := r3
  cases t <;> first | exact g3.elim | skip
  rename_i i
  cases t2 <;> first | exact g3.elim | skip
  rename_i j
  cases t3 <;> first | exact g3.elim | skip
  rename_i c
  have g3 : good (W H0 fd) (if rgOk i j c then M.ret (rangeT3 i j c, 99) else .bad) _ := g3
  obtain ⟨ck, g4⟩ := if_good g3
  obtain ⟨ck, c4⟩ := Bool.and_eq_true_iff.mp ck
  obtain ⟨ck, c3⟩ := Bool.and_eq_true_iff.mp ck
  obtain ⟨c1, c2⟩ := Bool.and_eq_true_iff.mp ck
  obtain rfl := rep_int a.rep
  obtain rfl := rep_int a2.rep
  obtain rfl := rep_int a3.rep
  exact ⟨i, j, c, _, rfl, ⟨of_decide_eq_true c1, of_decide_eq_true c2, c3, of_decide_eq_true c4⟩, g4 _ _ _ (itc_ok (i := i) (j := j) (c := c) ((a.ext.trans a2.ext).trans a3.ext) a3.fok)⟩
/-! ### reversed(list) -/
def iRev (a : Ex) : En → M (List Tr × Nat) := fun ρ => (a ρ).bind fun r => match r.1 with
  | .ls ts => .ret (ts.reverse, r.2)
  | _ => .bad
theorem vi_rev {tg e : Expr} {s : Ex} {rd : RD} {p pos : Pos} (hg : Gl X "reversed") (hm : X.mg "reversed" = none) (h : VE X W e s rd) (hs : starEach [e] X.env = [(false, eval e X.env)] := by rfl) (hs' : starEach (e :: []) X.env = (false, eval e X.env) :: starEach [] X.env := by rfl) : VI X W tg (.Call (.Name "reversed" p) [e] [] pos) (iRev s) rd := pi_imp (pi_reversed hg hm (pa_cons h pa_nil hs') hs) fun σ H R q => by
  obtain ⟨H0, fd, B, ρ, ψ, Y, R0, g⟩ := q
  have g := good_bind.mp g
  refine ⟨H0, fd, B, ρ, ψ, Y, R0, good_imp g fun r g1 v H' F a => ?_⟩
  obtain ⟨t, k⟩ := r
  cases t <;> first | exact g1.elim | skip
  rename_i ts
  obtain ⟨p, xs, G, rfl, hl, hz, hp, hpf, rfl⟩ := rep_ls a.rep
  have hlen := hl.length
  refine ⟨p, xs, rfl, SqL.of hp, g1 _ _ [(.ls ts, .ref p, (0, p) :: up G)] (ItOk.one a fun i H2 r2 f2 => ?_)⟩
  obtain ⟨p2, xs2, G2, e2, hl2, hz2, hp2, _, e3⟩ := rep_ls r2
  cases e2
  have e4 := up_inj (List.cons.inj e3).2
  subst e4
  refine ⟨fun t ht => ?_, fun hi => ?_⟩
  · have hi : i < ts.length := by
      have := (List.getElem?_eq_some_iff.mp ht).1
      simpa using this
    have ht' : ts[ts.length - 1 - i]? = some t := by rw [List.getElem?_reverse hi] at ht; exact ht
    obtain ⟨x, A, F1, C, h1, h2, h3⟩ := hl2.get ht'
    rw [hlen] at h1 hi
    refine ⟨⟨hi, xs2, x, SqL.of hp2, h1⟩, fun x' H3 y => ?_⟩
    obtain ⟨e, y⟩ := y
    subst e
    have := y xs2 (SqL.of hp2)
    rw [h1] at this; cases this
    refine ⟨.refl, f2, F1, h2, fun a m => ?_⟩
    show a ∈ p :: ads (up G)
    rw [ads_up, h3, ads_append, ads_append]
    exact List.mem_cons_of_mem _ (List.mem_append_right _ (List.mem_append_left _ m))
  · have hi : ts.reverse.length ≤ i := hi
    show xs.length ≤ i
    rw [← hlen]
    simpa using hi
/-! ### any of ints -/
def rAnyI (K : PySem.W.Frag) : List V → Hp → VK → Prop := fun vs H Q => ∃ (a : Addr) (ns : List Int), vs = [V.ref a] ∧ SqL K H a (ns.map V.int) ∧ Q (.bl (ns.any (· != 0))) H
theorem any_nums : ∀ ns : List Int, (List.range ns.length).any (fun i => ns.getD i 0 != 0) = ns.any (· != 0)
  | [] => rfl
  | n :: ns => by
    rw [List.length_cons, List.range_succ_eq_map, List.any_cons, List.any_map, List.any_cons, ← any_nums ns]; rfl
theorem nums_at : ∀ {its : List Value} {ns : List Int} {i : Nat} {v : Value}, PyProof.Rows.IntsAre its ns → its[i]? = some v → ∃ n t, ns[i]? = some n ∧ v = .int n t
  | _, _, _, _, .nil, h => by simp at h
  | _, _, 0, _, .cons n t _, h => ⟨n, t, rfl, by simpa using h.symm⟩
  | _, _, i + 1, _, .cons n t r, h => by
    obtain ⟨m, u, h1, h2⟩ := nums_at (i := i) r (by simpa using h)
    exact ⟨m, u, by simpa using h1, h2⟩
theorem truth_nums {prog : Program} {w : World} {A : Around} {its : List Value} {ns : List Int} (h : PyProof.Rows.IntsAre its ns) : TruthOf prog w A (fun i v => its.toArray[i]? = some v) (fun i => ns.getD i 0 != 0) := fun i v s Q E hv hq => by
  obtain ⟨n, t, h1, rfl⟩ := nums_at (i := i) h (by simpa using hv)
  have e : ns.getD i 0 = n := by rw [List.getD_eq_getElem?_getD, h1]; rfl
  refine PyProof.Rows.truthy_int ?_
  rw [← e]; exact hq
theorem cr_anyI (hc : X.calm = true) : CallR X (.builtin "any") (rAnyI X.K) := by
  intro pins s σ H vs us Q I r h
  obtain ⟨a, ns, rfl, hs, q⟩ := h
  obtain ⟨its, rv, hl, hz⟩ := I.list hs; rw [Vals.ref1 r]
  have hb := rv.ints
  have hlen : its.length = ns.length := by rw [← rv.length, List.length_map]
  refine call_any_walk (iter_any hl.isList fun s₂ e2 st ne => ?_); subst e2
  refine ⟨_, _, _, _, _, _, _, rfl, Walks.list (A := X.A.in1) (I.ok.hd hc) _ a ne its.toArray, st, truth_nums hb, fun h' tk hk => ?_⟩
  refine ⟨.bl _, H, I.kept fun b o eo => hk b o (fun m => ?_) (Heap.get?_push_of_some _ eo), ?_, q⟩
  · rcases List.mem_cons.mp m with rfl | m
    · exact Nat.lt_irrefl _ (Heap.lt_size eo)
    · cases m
  · show Value.bool _ = Value.bool _
    rw [← any_nums, List.size_toArray, hlen]
def fAny2 : List Tr → Option Tr
  | [.ls ts] => match blsT ts with
    | some bs => some (.bl (bs.any id))
    | none => match intsT ts with
      | some ns => some (.bl (ns.any (· != 0)))
      | none => none
  | _ => none
theorem bi_any2 (hc : X.calm = true) : BiS X (.builtin "any") fAny2 := ⟨_, (cr_any hc).or (cr_anyI hc), fun H fd ts vs F z Q r e => by
  unfold fAny2 at e
  split at e
  · rename_i ts
    obtain ⟨x, rfl, h⟩ := repL1 r
    obtain ⟨p, xs, G, rfl, hl, hz, hp, _⟩ := h
    split at e
    · rename_i bs e'
      cases e
      rw [blsT_eq e'] at hl
      obtain rfl := repL_bls hl
      exact ⟨rfl, fun q => .inl ⟨p, bs, rfl, SqL.of hp, q⟩⟩
    · split at e
      · rename_i ns e'
        cases e
        rw [intsT_eq e'] at hl
        obtain ⟨rfl, _⟩ := repL_ints hl
        exact ⟨rfl, fun q => .inr ⟨p, ns, rfl, SqL.of hp, q⟩⟩
      · cases e
  · cases e⟩
end
/-! ### a new list of flat things, of flat arguments, is owned -/
def flatLs : Tr → Bool
  | .ls us => flatL us
  | _ => false
def frh (F : Fn) : Fn := fun ts => (F ts).bind fun r => .ret (r.1, if flatL ts && flatLs r.1 then 99 else r.2)
theorem FnRes.lift {K : PySem.W.Frag} {fd : List Addr} {H H' : Hp} {ts : List Tr} {vs : List V} {F G : FP} {r : Tr × Nat} {v : V} (ra : RepL K H fd ts vs F) (b : FnRes K fd H F r v H' G) : FnRes K fd H F (r.1, if flatL ts && flatLs r.1 then 99 else r.2) v H' G where
  ext := b.ext
  fok := b.fok
  rep := b.rep
  own := fun d c m o => by
    by_cases q : (flatL ts && flatLs r.1) = true
    · obtain ⟨q1, q2⟩ := Bool.and_eq_true_iff.mp q
      have hF : F = [] := ra.flat q1
      obtain ⟨t, k⟩ := r
      cases t <;> first | cases q2 | skip
      rename_i us
      refine ⟨?_, ?_⟩
      · rcases b.dom c (mem_ads.mpr ⟨d, m⟩) with z | z
        · exact z
        · rw [hF] at z; cases z
      · obtain ⟨p, xs, G', _, hl, _, _, _, rfl⟩ := rep_ls b.rep
        have hG : G' = [] := hl.flat q2
        subst hG
        show List.count c [p] ≤ 1
        exact Nat.le_trans List.count_le_length (Nat.le_refl _)
    · rw [if_neg q] at o
      exact b.own d c m o
  dom := b.dom
theorem DefF.lift {P : Program} {w : World} {K : PySem.W.Frag} {mg : Str → Option Value} {base : Heap} {k n : Nat} {x : Str} {F : Fn} (D : DefF P w K mg base k x (spV K n F)) : DefF P w K mg base k x (spV K n (frh F)) := by
  obtain ⟨f, fd, ps, h1, h2⟩ := D.ex
  refine ⟨f, fd, ps, h1.imp fun vs H Q E q => ?_, h2⟩
  obtain ⟨fd', ts, F', hl, hf, r, g⟩ := q
  refine ⟨fd', ts, F', hl, hf, r, ?_⟩
  exact good_imp (good_bind.mp g) fun z q v H' G b => q v H' G (b.lift r)
end VL

set_option Elab.async false
set_option linter.all false
set_option maxRecDepth 100000
set_option maxHeartbeats 4000000
/-! VL20: comprehensions with two fors, of flat things -/
namespace VL
open PySem PySem.Spec PyProof.Rows L2
section
variable {X : Cx} {W : WH}
def comp1A (g1 : Gx) (tt1 : Tx) (te : Ex) (ρ : En) : List Tr → Nat → M (List Tr)
  | [], _ => .ret []
  | t :: ts, n => (g1 t ρ).bind fun ρ1 => (tt1 ρ1).bind fun b => if b then (te ρ1).bind fun r => if r.1.flat && Nat.blt n 16777216 then (comp1A g1 tt1 te ρ ts (n + 1)).bind fun q => .ret (r.1 :: q) else .bad else comp1A g1 tt1 te ρ ts n
def comp2L (g : Gx) (tt : Tx) (src1 : En → M (List Tr × Nat)) (vs1 : List Nat) (g1 : Gx) (tt1 : Tx) (te : Ex) (ρ : En) : List Tr → Nat → M (List Tr)
  | [], _ => .ret []
  | t :: ts, n => (g t ρ).bind fun ρ1 => (tt ρ1).bind fun b => if b then (src1 ρ1).bind fun r => (comp1A g1 tt1 te (wipeE vs1 ρ1) r.1 n).bind fun q => (comp2L g tt src1 vs1 g1 tt1 te ρ ts (n + q.length)).bind fun q2 => .ret (q ++ q2) else comp2L g tt src1 vs1 g1 tt1 te ρ ts n
def eComp2 (src : En → M (List Tr × Nat)) (vs : List Nat) (g : Gx) (tt : Tx) (src1 : En → M (List Tr × Nat)) (vs1 : List Nat) (g1 : Gx) (tt1 : Tx) (te : Ex) : Ex := fun ρ => (src ρ).bind fun r => (comp2L g tt src1 vs1 g1 tt1 te (wipeE vs ρ) r.1 0).bind fun q => .ret (.ls q, 99)
theorem ext_upd {fd : List Addr} {H H' : Hp} {D : Addr} {o : HO} (x : ExtF fd H H') : ExtF fd (L2.upd H D o) (L2.upd H' D o) := fun b u e n => by
  by_cases c : b = D
  · subst c
    rw [upd_same] at e ⊢; exact e
  · rw [upd_ne c] at e ⊢; exact x b u e n
theorem ext_off {fd : List Addr} {H1 Hi : Hp} {D : Addr} {o o' : HO} (hD : H1 D = none) (x : ExtF fd (L2.upd H1 D o) (L2.upd Hi D o')) : ExtF fd H1 Hi := fun b u e n => by
  have nb : b ≠ D := fun z => by subst z; rw [hD] at e; cases e
  have := x b u (by rw [upd_ne nb]; exact e) n
  rwa [upd_ne nb] at this
theorem Rel.off {K : PySem.W.Frag} {H0 H : Hp} {fd B : List Addr} {ρ : En} {σ : L2.St} {ψ : List FP} {Y : List Tmp} {D : Addr} {xs ys : List V} (R : Rel K H0 fd B ρ σ H ψ Y) (hD : H D = some (.lst xs)) (h0 : H0 D = none) (hfd : D ∉ fd) (nψ : ∀ (j : Nat) G, ψ[j]? = some G → D ∉ ads G) (nY : ∀ y, y ∈ Y → D ∉ ads y.2.2) : Rel K H0 fd B ρ σ (L2.upd H D (.lst ys)) ψ Y :=
  ⟨R.lns, R.lnp, fun i t k h => (let ⟨v, F, h1, h2, h3⟩ := R.rep i t k h; ⟨v, F, h1, h2, h3.keeps (Keeps.upd (fd := fd) hD (nψ i F h2))⟩), R.dead, R.fed, fun y hy => (R.tmp y hy).keeps (Keeps.upd (fd := fd) hD (nY y hy)), R.own, R.dom, fun b o e n => by
    rw [upd_ne (fun z => by subst z; rw [h0] at e; cases e)]
    exact R.ext b o e n, R.fok.write hfd⟩
theorem upd_back {H : Hp} {D : Addr} {o o' : HO} (h : H D = some o) : L2.upd (L2.upd H D o') D o = H := by
  rw [upd_upd]
  exact funext fun b => by
    by_cases c : b = D
    · subst c; rw [upd_same, h]
    · rw [upd_ne c]
theorem te_comp2 {src src1 : En → M (List Tr × Nat)} {rd1 rd2 rd3 : RD} {vs vs1 : List Nat} {g g1 : Gx} {tt tt1 : Tx} {te : Ex} {σ : L2.St} {H : Hp} {Q : VK} {K : PySem.W.Frag}
    (q : TEv K W (eComp2 src vs g tt src1 vs1 g1 tt1 te) [] σ H Q) : tLc2 (TIv K W src rd1) (TGc K W vs g) (TTv K W tt) (TIv K W src1 rd3) (TGc K W vs1 g1) (TTv K W tt1) (TEv K W te rd2) vs vs1 σ H Q := by
  obtain ⟨H0, fd, B, ρ, ψ, Y, R, gd⟩ := q
  have gd := good_bind.mp gd
  refine ⟨H0, fd, B, ρ, ψ, Y, R, good_imp gd fun r g0 J H1 ys io => ?_⟩
  have g0 := good_bind.mp g0
  intro D hD
  have x1 := io.ext
  have f1 := io.fok
  have hDfd : D ∉ fd := f1.notIn hD
  have hDn : H D = none := ext_none x1 hDfd hD
  let P : Nat → Hp → Prop := fun i H' => i ≤ r.1.length ∧ ExtF fd (L2.upd H1 D (.lst [])) (L2.upd H' D (.lst [])) ∧ FeedOk fd H' ∧ ∃ ts xs, H' D = some (.lst xs) ∧ RepL K H' fd ts xs [] ∧ xs.length ≤ sizeLine ∧
      good (W H0 fd) (comp2L g tt src1 vs1 g1 tt1 te (wipeE vs ρ) (r.1.drop i) ts.length) fun q => ∀ v H' F, Res K fd ψ [] H (.ls (ts ++ q), 99) v H' F → Q v H'
  refine ⟨fun i m H' => m = r.1.length - i ∧ P i H', ⟨r.1.length, rfl, Nat.zero_le _, by rw [upd_upd]; exact .refl, f1.new hD, [], [], upd_same, ⟨rfl, rfl⟩, Nat.zero_le _, good_imp g0 fun q k v H' F a => k v H' F (by rw [List.nil_append] at a; exact a)⟩, ?_⟩
  rintro i m Hi ⟨rfl, hi, xi, fi, ts, xs, eD, rG, hz, gi⟩
  have xi1 : ExtF fd H1 Hi := ext_off hD xi
  have xHi : ExtF fd H Hi := x1.trans xi1
  have ry : ∀ y, y ∈ ys → Rep K Hi fd y.1 y.2.1 y.2.2 := fun y hy => (io.rep y hy).ext xi1 f1
  obtain ⟨io1, io2⟩ := io.its i Hi ry fi
  cases e : r.1[i]? with
  | none =>
    have hle : r.1.length ≤ i := List.getElem?_eq_none_iff.mp e
    rw [List.drop_eq_nil_of_le hle] at gi
    refine .inl ⟨io2 hle, gi (.ref D) Hi [(0, D)] ?_⟩
    rw [List.append_nil]
    refine ⟨xHi, fi, ⟨D, xs, [], rfl, rG, hz, eD, hDfd, rfl⟩, fun d a m o => ?_, fun d a m => ?_⟩
    · cases List.mem_singleton.mp m
      exact ⟨hDn, Nat.le_trans List.count_le_length (Nat.le_refl _)⟩
    · cases List.mem_singleton.mp m
      exact .inl hDn
  | some t =>
    obtain ⟨go, yl⟩ := io1 t e
    have hlt : i < r.1.length := (List.getElem?_eq_some_iff.mp e).1
    rw [drop_cons e] at gi
    have gi := good_bind.mp gi
    refine .inr ⟨go, P (i + 1), fun H' h => ⟨r.1.length - (i + 1), (by omega : r.1.length - (i + 1) < r.1.length - i), rfl, h⟩, fun x H2 yy => ?_⟩
    obtain ⟨x2, f2, F, rF, sub⟩ := yl x H2 yy
    have xH2 := xHi.trans x2
    have RB : Rel K H0 fd B (wipeE vs ρ) (L2.wipe σ vs) H2 (wipeP vs ψ) (ys ++ Y) :=
      ((R.wipe vs).grow xH2 f2).pushL (fun y hy => (ry y hy).ext x2 fi) (fun y hy j t' k' G' d a h hG m o => absurd o (wipeE_own h)) (fun y hy => io.dom R hy)
    refine ⟨H0, fd, B, wipeE vs ρ, wipeP vs ψ, ys ++ Y, t, F, RB, rF, fun j t' k' G' d a h hG m o => absurd o (wipeE_own h), fun a m => (let ⟨y, hy, hz⟩ := sub a m; io.dom R hy a hz), good_imp gi fun ρ1 g2 σ1 ψ1 R1 S1 T1 U1 L1 => ⟨?_, ?_⟩⟩
    · exact wipe_same L1 fun j hj => (T1 j hj).1
    have g2 := good_bind.mp g2
    refine ⟨H0, fd, B, ρ1, ψ1, ys ++ Y, R1, good_imp g2 fun b g3 H3 x3 f3 => ?_⟩
    have eD3 : H3 D = some (.lst xs) := x3 D _ (x2 D _ eD hDfd) hDfd
    have rG3 : RepL K H3 fd ts xs [] := (rG.extL x2 fi).extL x3 f2
    cases b with
    | false =>
      dsimp only
      rw [if_neg Bool.false_ne_true]
      exact ⟨hlt, xi.trans (ext_upd (x2.trans x3)), f3, ts, xs, eD3, rG3, hz, g3⟩
    | true =>
      dsimp only
      rw [if_pos rfl]
      have g3 := good_bind.mp g3
      have R3 := R1.grow x3 f3
      refine ⟨H0, fd, B, ρ1, ψ1, ys ++ Y, R3, good_imp g3 fun r1 g4 J1 H4 ys1 jo => ?_⟩
      have g4 := good_bind.mp g4
      have x4 := jo.ext
      have f4 := jo.fok
      have eD4 : H4 D = some (.lst xs) := x4 D _ eD3 hDfd
      let P1 : Nat → Hp → Prop := fun j H' => j ≤ r1.1.length ∧ ExtF fd H4 (L2.upd H' D (.lst xs)) ∧ FeedOk fd H' ∧ ∃ ts' xs', H' D = some (.lst xs') ∧ RepL K H' fd ts' xs' [] ∧ xs'.length ≤ sizeLine ∧
        good (W H0 fd) (comp1A g1 tt1 te (wipeE vs1 ρ1) (r1.1.drop j) ts'.length) fun q => good (W H0 fd) ((comp2L g tt src1 vs1 g1 tt1 te (wipeE vs ρ) (r.1.drop (i + 1)) (ts'.length + q.length)).bind fun q2 => .ret (q ++ q2)) fun q3 => ∀ v H' F, Res K fd ψ [] H (.ls (ts' ++ q3), 99) v H' F → Q v H'
      refine ⟨fun j k H' => k = r1.1.length - j ∧ P1 j H', ⟨r1.1.length, rfl, Nat.zero_le _, ?_, f4, ts, xs, eD4, rG3.extL x4 f3, hz, g4⟩, ?_⟩
      · intro b u e n
        by_cases c : b = D
        · subst c
          rw [upd_same]; rw [eD4] at e; exact e
        · rw [upd_ne c]; exact e
      rintro j k Hj ⟨rfl, hj, xj, fj, ts', xs', eDj, rGj, hz', gj⟩
      have nY0 : ∀ y, y ∈ ys ++ Y → D ∉ ads y.2.2 := fun y hy m => by
        rcases List.mem_append.mp hy with hy | hy
        · exact (io.rep y hy).fresh hD m
        · obtain ⟨⟨zs, ez⟩, _⟩ := R.nodeY hy m
          rw [hDn] at ez; cases ez
      have nψ1 : ∀ (j : Nat) G, ψ1[j]? = some G → D ∉ ads G := fun j G h m => by
        rcases U1 j G h with h | h
        · rcases wipeP_get h with rfl | ⟨h, _⟩
          · cases m
          · obtain ⟨⟨zs, ez⟩, _⟩ := R.nodeψ h m
            rw [hDn] at ez; cases ez
        · obtain ⟨y, hy, hz⟩ := sub D (h D m)
          exact nY0 y (List.mem_append_left _ hy) hz
      have fU : FeedOk fd (L2.upd Hj D (.lst xs)) := fj.write hDfd
      have Rj : Rel K H0 fd B ρ1 σ1 Hj ψ1 (ys ++ Y) := by
        have k2 := ((R3.grow x4 f4).grow xj fU).off (ys := xs') upd_same (R.none0 hDn hDfd) hDfd nψ1 nY0
        rwa [upd_back eDj] at k2
      have nY1 : ∀ y, y ∈ ys1 → D ∉ ads y.2.2 := fun y hy m => by
        obtain ⟨d, m⟩ := mem_ads.mp m
        rcases jo.al y hy d D m with z | ⟨j', m', d', A, q1, q2, q3, q4⟩
        · rw [eD3] at z; cases z
        · exact nψ1 j' A q2 (mem_ads.mpr ⟨d', q3⟩)
      have ry1 : ∀ y, y ∈ ys1 → Rep K Hj fd y.1 y.2.1 y.2.2 := fun y hy => by
        have k2 := ((jo.rep y hy).ext xj f4).keeps (Keeps.upd (fd := fd) (p := D) (ys := xs') upd_same (nY1 y hy))
        rwa [upd_back eDj] at k2
      obtain ⟨jo1, jo2⟩ := jo.its j Hj ry1 fj
      cases e1 : r1.1[j]? with
      | none =>
        have hle : r1.1.length ≤ j := List.getElem?_eq_none_iff.mp e1
        rw [List.drop_eq_nil_of_le hle] at gj
        refine .inl ⟨jo2 hle, hlt, ?_, fj, ts', xs', eDj, rGj, hz', good_imp (good_bind.mp gj) fun q2 k v H' F a => k v H' F a⟩
        have y1 : ExtF fd (L2.upd Hi D (.lst [])) (L2.upd H4 D (.lst [])) := ext_upd ((x2.trans x3).trans x4)
        have y2 : ExtF fd (L2.upd H4 D (.lst [])) (L2.upd (L2.upd Hj D (.lst xs)) D (.lst [])) := ext_upd xj
        rw [upd_upd] at y2
        exact (xi.trans y1).trans y2
      | some t1 =>
        obtain ⟨go1, yl1⟩ := jo1 t1 e1
        have hlt1 : j < r1.1.length := (List.getElem?_eq_some_iff.mp e1).1
        rw [drop_cons e1] at gj
        have gj := good_bind.mp gj
        refine .inr ⟨go1, P1 (j + 1), fun H' h => ⟨r1.1.length - (j + 1), (by omega : r1.1.length - (j + 1) < r1.1.length - j), rfl, h⟩, fun x' H5 yy1 => ?_⟩
        obtain ⟨x5, f5, F5, rF5, sub5⟩ := yl1 x' H5 yy1
        have RB1 : Rel K H0 fd B (wipeE vs1 ρ1) (L2.wipe σ1 vs1) H5 (wipeP vs1 ψ1) (ys1 ++ (ys ++ Y)) :=
          ((Rj.wipe vs1).grow x5 f5).pushL (fun y hy => (ry1 y hy).ext x5 fj) (fun y hy j t' k' G' d a h hG m o => absurd o (wipeE_own h)) (fun y hy => jo.dom R3 hy)
        refine ⟨H0, fd, B, wipeE vs1 ρ1, wipeP vs1 ψ1, ys1 ++ (ys ++ Y), t1, F5, RB1, rF5, fun j t' k' G' d a h hG m o => absurd o (wipeE_own h), fun a m => (let ⟨y, hy, hz⟩ := sub5 a m; jo.dom R3 hy a hz), good_imp gj fun ρ2 g5 σ2 ψ2 R5 S2 T2 U2 L2' => ⟨?_, ?_⟩⟩
        · exact wipe_same L2' fun j hj => (T2 j hj).1
        have g5 := good_bind.mp g5
        refine ⟨H0, fd, B, ρ2, ψ2, ys1 ++ (ys ++ Y), R5, good_imp g5 fun b g6 H6 x6 f6 => ?_⟩
        have eD6 : H6 D = some (.lst xs') := x6 D _ (x5 D _ eDj hDfd) hDfd
        have rG6 : RepL K H6 fd ts' xs' [] := (rGj.extL x5 fj).extL x6 f5
        cases b with
        | false =>
          dsimp only
          rw [if_neg Bool.false_ne_true]
          exact ⟨hlt1, xj.trans (ext_upd (x5.trans x6)), f6, ts', xs', eD6, rG6, hz', g6⟩
        | true =>
          dsimp only
          rw [if_pos rfl]
          have g6 := good_bind.mp g6
          refine ⟨H0, fd, B, ρ2, ψ2, ys1 ++ (ys ++ Y), R5.grow x6 f6, good_imp g6 fun z g7 v H7 F7 a7 => ?_⟩
          obtain ⟨cz, g7⟩ := if_good g7
          obtain ⟨c1, c2⟩ := Bool.and_eq_true_iff.mp cz
          have hF7 : F7 = [] := a7.rep.flat c1
          subst hF7
          have eD7 : H7 D = some (.lst xs') := a7.ext D _ eD6 hDfd
          have hlen : xs'.length < sizeLine := by
            rw [← rGj.length, sizeLine_eq]
            exact Nat.le_of_ble_eq_true c2
          have g7 := good_bind.mp g7
          refine ⟨xs', eD7, hlen, hlt1, ?_, a7.fok.write hDfd, ts' ++ [z.1], xs' ++ [v], upd_same, ?_, by rw [List.length_append]; exact hlen, ?_⟩
          · rw [upd_upd]
            exact xj.trans (ext_upd ((x5.trans x6).trans a7.ext))
          · have hA : RepL K H7 fd (ts' ++ [z.1]) (xs' ++ [v]) ([] ++ []) := (rG6.extL a7.ext f6).append (show RepL K H7 fd [z.1] [v] [] from ⟨v, [], [], [], rfl, a7.rep, ⟨rfl, rfl⟩, rfl⟩)
            exact RepL.keeps hA (Keeps.upd eD7 fun m => (nomatch m))
          · have el : (ts' ++ [z.1]).length = ts'.length + 1 := by rw [List.length_append]; rfl
            rw [el]
            refine good_imp g7 fun q gq => ?_
            have en : ts'.length + 1 + q.length = ts'.length + (z.1 :: q).length := by rw [List.length_cons]; omega
            rw [en]
            have gq := good_bind.mp gq
            refine good_bind.mpr (good_imp gq fun q2 k v H' F a => k v H' F ?_)
            rw [List.append_assoc] at a
            exact a
theorem ve_comp2 {elt tg iter tg1 iter1 : Expr} {ifs ifs1 : List Expr} {scope : Scope} {own : List (Str × Nat)} {pos : Pos} {src src1 : En → M (List Tr × Nat)} {rd1 rd2 rd3 : RD} {g g1 : Gx} {tt tt1 : Tx} {te : Ex} {vs vs1 : List Nat} (hvs : own.map (·.2) = vs) (hc : X.calm = true) (hN : X.N.Nodup) (hv : ∀ i ∈ vs1, i ∈ own.map (·.2)) (hi : VI X W tg iter src rd1) (ok : BlkOk X.N X.env.scope scope own)
    (hg : ∀ (s : Shared) (H : Hp) (C : Addr) (cl : List (Str × Addr)) (fp : List Addr), VGc (X.blk s H scope (compEnvC scope cl C X.env) fp) W vs tg g) (ht : ∀ (s : Shared) (H : Hp) (C : Addr) (cl : List (Str × Addr)) (fp : List Addr), VTs (X.blk s H scope (compEnvC scope cl C X.env) fp) W ifs tt)
    (hi1 : ∀ (s : Shared) (H : Hp) (C : Addr) (cl : List (Str × Addr)) (fp : List Addr), VI (X.blk s H scope (compEnvC scope cl C X.env) fp) W tg1 iter1 src1 rd3)
    (hg1 : ∀ (s : Shared) (H : Hp) (C : Addr) (cl : List (Str × Addr)) (fp : List Addr), VGc (X.blk s H scope (compEnvC scope cl C X.env) fp) W vs1 tg1 g1) (ht1 : ∀ (s : Shared) (H : Hp) (C : Addr) (cl : List (Str × Addr)) (fp : List Addr), VTs (X.blk s H scope (compEnvC scope cl C X.env) fp) W ifs1 tt1)
    (he : ∀ (s : Shared) (H : Hp) (C : Addr) (cl : List (Str × Addr)) (fp : List Addr), VE (X.blk s H scope (compEnvC scope cl C X.env) fp) W elt te rd2) (hs : ∀ x, foldedSetIterable iter X.env x = pure x := by intro _; rfl) (hs1 : ∀ env x, foldedSetIterable iter1 env x = pure x := by intro _ _; rfl) :
    VE X W (.ListComp elt [⟨tg, iter, ifs, 0⟩, ⟨tg1, iter1, ifs1, 0⟩] scope pos) (eComp2 src vs g tt src1 vs1 g1 tt1 te) [] := by
  subst hvs
  exact pe_imp (pe_lc2 hc hN hi ok hv hg ht hi1 hg1 ht1 he hs hs1) fun σ H Q q => te_comp2 q
theorem vs_comp2 {i : Nat} {y : Str} {py : Pos} {elt tg iter tg1 iter1 : Expr} {ifs ifs1 : List Expr} {scope : Scope} {own : List (Str × Nat)} {pos spos : Pos} {src src1 : En → M (List Tr × Nat)} {rd1 rd2 rd3 : RD} {g g1 : Gx} {tt tt1 : Tx} {te : Ex} {vs vs1 : List Nat} (hvs : own.map (·.2) = vs) (hc : X.calm = true) (hN : X.N.Nodup) (hy : X.N[i]? = some y) (hyl : X.env.scope.names.lookup y = some .local)
    (hsw : swapsWith (.ListComp elt [⟨tg, iter, ifs, 0⟩, ⟨tg1, iter1, ifs1, 0⟩] scope pos) (some (.Name y py)) spos.line X.env = pure true) (hv : ∀ i ∈ vs1, i ∈ own.map (·.2)) (hi : VI X W tg iter src rd1) (ok : BlkOk X.N X.env.scope scope own)
    (hg : ∀ (s : Shared) (H : Hp) (C : Addr) (cl : List (Str × Addr)) (fp : List Addr), VGc (X.blk s H scope (compEnvC scope cl C X.env) fp) W vs tg g) (ht : ∀ (s : Shared) (H : Hp) (C : Addr) (cl : List (Str × Addr)) (fp : List Addr), VTs (X.blk s H scope (compEnvC scope cl C X.env) fp) W ifs tt)
    (hi1 : ∀ (s : Shared) (H : Hp) (C : Addr) (cl : List (Str × Addr)) (fp : List Addr), VI (X.blk s H scope (compEnvC scope cl C X.env) fp) W tg1 iter1 src1 rd3)
    (hg1 : ∀ (s : Shared) (H : Hp) (C : Addr) (cl : List (Str × Addr)) (fp : List Addr), VGc (X.blk s H scope (compEnvC scope cl C X.env) fp) W vs1 tg1 g1) (ht1 : ∀ (s : Shared) (H : Hp) (C : Addr) (cl : List (Str × Addr)) (fp : List Addr), VTs (X.blk s H scope (compEnvC scope cl C X.env) fp) W ifs1 tt1)
    (he : ∀ (s : Shared) (H : Hp) (C : Addr) (cl : List (Str × Addr)) (fp : List Addr), VE (X.blk s H scope (compEnvC scope cl C X.env) fp) W elt te rd2) (hs : ∀ x, foldedSetIterable iter X.env x = pure x := by intro _; rfl) (hs1 : ∀ env x, foldedSetIterable iter1 env x = pure x := by intro _ _; rfl) :
    VS X W (.Assign [.Name y py] (.ListComp elt [⟨tg, iter, ifs, 0⟩, ⟨tg1, iter1, ifs1, 0⟩] scope pos) spos) (sAsg i [] (eComp2 src vs g tt src1 vs1 g1 tt1 te)) := by
  subst hvs
  refine ps_imp (ps_setLc2 (wi := TIv X.K W src rd1) (g := TGc X.K W (own.map (·.2)) g) (tt := TTv X.K W tt) (wi1 := TIv X.K W src1 rd3) (g1 := TGc X.K W vs1 g1) (tt1 := TTv X.K W tt1) (te := TEv X.K W te rd2) hc hN hy hyl hsw hi ok hv hg ht hi1 hg1 ht1 he hs hs1) fun D σ H q => ?_
  obtain ⟨H0, fd, B, ρ, ψ, Y, R, gd⟩ := q
  have gd := good_bind.mp gd
  exact te_comp2 (rd1 := rd1) (rd2 := rd2) (rd3 := rd3) (Q := fun x H1 => gName i x σ H1 D.nx) ⟨H0, fd, B, ρ, ψ, Y, R, good_imp gd fun r g1 v H' F a => g1 _ _ _ (R.set (i := i) a)⟩
end
end VL

set_option Elab.async false
set_option linter.all false
set_option maxRecDepth 100000
set_option maxHeartbeats 4000000
/-! VL21: x.count(e), x.index(e), sorted, x.extend(e), len(set(e)), all of ints -/
namespace VL
open PySem PySem.Spec PyProof.Rows L2
section
variable {X : Cx} {W : WH}
/-! ### methods of a list with a scalar answer -/
def isLsT : Tr → Bool
  | .ls _ => true
  | _ => false
def eMeth (f : Tr → List Tr → Option Tr) (o : Ex) (a : Ax) : Ex := fun ρ => (o ρ).bind fun x => if isLsT x.1 then (a ρ).bind fun r => match f x.1 r.1 with
  | some z => .ret (z, 99)
  | none => .bad
  else .bad
def MeS (X : Cx) (id : String) (f : Tr → List Tr → Option Tr) : Prop := ∃ r, MtR X id r ∧ ∀ (H : Hp) (fd : List Addr) (tx : Tr) (ts : List Tr) (x : V) (vs : List V) (F1 F2 : FP) (z : Tr) (Q : VK), Rep X.K H fd tx x F1 → RepL X.K H fd ts vs F2 → f tx ts = some z → isSc z = true ∧ (Q (sv z) H → r x vs H Q)
theorem ve_methL {id : String} {name : Str} {o e : Expr} {es : List Expr} {f : Tr → List Tr → Option Tr} {s : Ex} {sa : Ax} {rd1 rd2 : RD} {apos cpos : Pos} (slot : Slot "list" name id) (hty : typeOf (.builtin id) = pure (.type "method_descriptor")) (hm : MeS X id f) (ho : VE X W o s rd1) (ha : VA X W (e :: es) sa rd2)
    (hbase : attributeBase o name X.env (eval o X.env) = eval o X.env := by rfl)
    (hfew : ((backTo cpos (starEach (e :: es) X.env)).all (fun x => !x.1) && (backToKw cpos (keywordEach [] X.env)).all (fun x => x.1.isSome) && decide ((e :: es).length + ([] : List Keyword).length + (if ([] : List Keyword).isEmpty then 0 else 1) < 30)) = true := by rfl)
    (hline : (apos.endLine == cpos.line) = true := by rfl) (hs : starEach (e :: es) X.env = (false, eval e X.env) :: starEach es X.env := by rfl) (hplain : (backTo cpos (starEach es X.env)).any (·.1) = false := by rfl) :
    VE X W (.Call (.Attribute o name apos) (e :: es) [] cpos) (eMeth f s sa) [] := by
  obtain ⟨r, hr, hk⟩ := hm
  refine pe_imp (pe_bm PySem.F.plainAttrs_list slot hty hr ho ha hbase hfew hline hs hplain) fun σ H Q q => ?_
  obtain ⟨H0, fd, B, ρ, ψ, Y, R, g⟩ := q
  have g := good_bind.mp g
  refine ⟨H0, fd, B, ρ, ψ, Y, R, good_imp g fun z g1 v H1 F a => ?_⟩
  obtain ⟨c, g1⟩ := if_good g1
  have g1 := good_bind.mp g1
  obtain ⟨t, k⟩ := z
  obtain ⟨us, rfl⟩ : ∃ us, t = .ls us := by cases t <;> first | exact ⟨_, rfl⟩ | cases c
  obtain ⟨p, xs, G, rfl, hl, hz, hp, hpf, rfl⟩ := rep_ls a.rep
  refine ⟨.inl ⟨rfl, _, SqL.of hp⟩, H0, fd, B, ρ, ψ, Y, R.grow a.ext a.fok, good_imp g1 fun z2 g2 vs H2 F2 a2 => ?_⟩
  cases e2 : f (.ls us) z2.1 with
  | none => rw [e2] at g2; exact g2.elim
  | some t2 =>
    rw [e2] at g2
    obtain ⟨q1, q2⟩ := hk H2 fd (.ls us) z2.1 (.ref p) vs _ F2 t2 Q (a.rep.ext a2.ext a.fok) a2.rep e2
    exact q2 (g2 (sv t2) H2 [] (.sc q1 (a.ext.trans a2.ext) a2.fok))
def fCount : Tr → List Tr → Option Tr
  | .ls ts, [.int k] => (intsT ts).map fun ns => .int ((ns.count k : Nat) : Int)
  | _, _ => none
theorem me_count : MeS X "list.count" fCount := ⟨_, mt_lcount, fun H fd tx ts x vs F1 F2 z Q r1 r2 e => by
  unfold fCount at e
  split at e
  · rename_i us k
    cases e' : intsT us with
    | none => rw [e'] at e; cases e
    | some ns =>
      rw [e'] at e; cases e
      obtain ⟨y, rfl, h⟩ := repL1 r2
      obtain rfl := rep_int h
      obtain ⟨p, xs, G, rfl, hl, hz, hp, _⟩ := rep_ls r1
      rw [intsT_eq e'] at hl
      obtain ⟨rfl, _⟩ := repL_ints hl
      exact ⟨rfl, fun q => ⟨p, ns, k, rfl, rfl, SqL.of hp, q⟩⟩
  · cases e⟩
def idxI (k : Int) : List Int → Option Nat
  | [] => none
  | n :: ns => if n == k then some 0 else (idxI k ns).map (· + 1)
theorem idxI_ok {k : Int} : ∀ {ns : List Int} {j : Nat}, idxI k ns = some j → ns[j]? = some k ∧ ∀ (m : Nat) z, m < j → ns[m]? = some z → (z == k) = false
  | [], _, h => by cases h
  | n :: ns, j, h => by
    unfold idxI at h
    by_cases c : (n == k) = true
    · rw [if_pos c] at h
      cases h
      refine ⟨by simpa using c, fun m z hm => by omega⟩
    · rw [if_neg c] at h
      cases e : idxI k ns with
      | none => rw [e] at h; cases h
      | some i =>
        rw [e] at h
        obtain rfl : i + 1 = j := by simpa using h
        obtain ⟨h1, h2⟩ := idxI_ok e
        refine ⟨by simpa using h1, fun m z hm hz => ?_⟩
        cases m with
        | zero =>
          obtain rfl : n = z := by simpa using hz
          exact Bool.eq_false_iff.mpr c
        | succ m => exact h2 m z (by omega) (by simpa using hz)
def fIndex : Tr → List Tr → Option Tr
  | .ls ts, [.int k] => match intsT ts with
    | some ns => (idxI k ns).map fun j => .int (j : Int)
    | none => none
  | _, _ => none
theorem flat_ints : ∀ ns : List Int, (ns.map V.int).all flatV = true
  | [] => rfl
  | n :: ns => by
    rw [List.map_cons, List.all_cons, flat_ints ns]; rfl
theorem me_index : MeS X "list.index" fIndex := ⟨_, mt_index, fun H fd tx ts x vs F1 F2 z Q r1 r2 e => by
  unfold fIndex at e
  split at e
  · rename_i us k
    split at e
    · rename_i ns e'
      cases e2 : idxI k ns with
      | none => rw [e2] at e; cases e
      | some j =>
        rw [e2] at e; cases e
        obtain ⟨y, rfl, h⟩ := repL1 r2
        obtain rfl := rep_int h
        obtain ⟨p, xs, G, rfl, hl, hz, hp, _⟩ := rep_ls r1
        rw [intsT_eq e'] at hl
        obtain ⟨rfl, _⟩ := repL_ints hl
        obtain ⟨h1, h2⟩ := idxI_ok e2
        refine ⟨rfl, fun q => ⟨p, ns.map V.int, .int k, j, .int k, rfl, rfl, SqL.of hp, rfl, flat_ints ns, by rw [List.getElem?_map, h1]; rfl, ?_, fun m z' hm hz' => ?_, q⟩⟩
        · show (k == k) = true
          exact beq_self_eq_true k
        · rw [List.getElem?_map] at hz'
          cases e3 : ns[m]? with
          | none => rw [e3] at hz'; cases hz'
          | some w =>
            rw [e3] at hz'
            obtain rfl : V.int w = z' := by simpa using hz'
            exact h2 m w hm e3
    · cases e
  · cases e⟩
/-! ### sorted(ints) -/
def insI (n : Int) : List Int → List Int
  | [] => [n]
  | m :: ms => if n ≤ m then n :: m :: ms else m :: insI n ms
def isortI : List Int → List Int
  | [] => []
  | n :: ns => insI n (isortI ns)
theorem insI_perm (n : Int) : ∀ ms, (insI n ms).Perm (n :: ms)
  | [] => .refl _
  | m :: ms => by
    unfold insI
    by_cases c : n ≤ m
    · rw [if_pos c]
    · rw [if_neg c]
      exact ((insI_perm n ms).cons m).trans (.swap n m ms)
theorem insI_sorted (n : Int) : ∀ {ms : List Int}, ms.Pairwise (· ≤ ·) → (insI n ms).Pairwise (· ≤ ·)
  | [], _ => List.pairwise_singleton _ _
  | m :: ms, h => by
    obtain ⟨h1, h2⟩ := List.pairwise_cons.mp h
    unfold insI
    by_cases c : n ≤ m
    · rw [if_pos c]
      refine List.pairwise_cons.mpr ⟨fun z hz => ?_, h⟩
      rcases List.mem_cons.mp hz with rfl | hz
      · exact c
      · exact Int.le_trans c (h1 z hz)
    · rw [if_neg c]
      refine List.pairwise_cons.mpr ⟨fun z hz => ?_, insI_sorted n h2⟩
      rcases List.mem_cons.mp ((insI_perm n ms).mem_iff.mp hz) with rfl | hz
      · omega
      · exact h1 z hz
theorem isortI_perm : ∀ ns, (isortI ns).Perm ns
  | [] => .refl _
  | n :: ns => (insI_perm n _).trans ((isortI_perm ns).cons n)
theorem isortI_sorted : ∀ ns, (isortI ns).Pairwise (· ≤ ·)
  | [] => .nil
  | n :: ns => insI_sorted n (isortI_sorted ns)
def eSort (a : Ex) : Ex := fun ρ => (a ρ).bind fun r => match r.1 with
  | .ls ts => match intsT ts with
    | some ns => .ret (.ls ((isortI ns).map .int), lvF ((isortI ns).map .int))
    | none => .bad
  | _ => .bad
theorem repL_int {K : PySem.W.Frag} {H : Hp} {fd : List Addr} : ∀ ns : List Int, RepL K H fd (ns.map .int) (ns.map .int) []
  | [] => ⟨rfl, rfl⟩
  | n :: ns => ⟨_, _, [], [], rfl, ⟨rfl, rfl⟩, repL_int ns, rfl⟩
theorem ve_sort {e : Expr} {s : Ex} {rd : RD} {p pos : Pos} (hg : Gl X "sorted") (hm : X.mg "sorted" = none) (hv : bootBuiltins "sorted" = some (.builtin "sorted")) (ha : VE X W e s rd)
    (he : starEach (e :: []) X.env = (false, eval e X.env) :: starEach [] X.env := by rfl) (hpl : (backTo pos (starEach [] X.env)).any (·.1) = false := by rfl) : VE X W (.Call (.Name "sorted" p) [e] [] pos) (eSort s) [] := by
  refine pe_imp (pe_callB (t := tCons (TEv X.K W s rd) tNil) cr_sortedI hg hm hv (pa_cons ha pa_nil he) (by decide) (by decide) he hpl) fun σ H Q q => ?_
  obtain ⟨H0, fd, B, ρ, ψ, Y, R, g⟩ := q
  have g := good_bind.mp g
  refine ⟨H0, fd, B, ρ, ψ, Y, R, good_imp g fun r g1 v H' F a => ?_⟩
  obtain ⟨t, k⟩ := r
  cases t <;> first | exact g1.elim | skip
  rename_i us
  cases e' : intsT us with
  | none =>
    have g1 : good (W H0 fd) (match intsT us with
      | some ns => M.ret ((.ls ((isortI ns).map .int) : Tr), lvF ((isortI ns).map .int))
      | none => .bad) _ := g1
    rw [e'] at g1; exact g1.elim
  | some ns =>
    have g1 : good (W H0 fd) (match intsT us with
      | some ns => M.ret ((.ls ((isortI ns).map .int) : Tr), lvF ((isortI ns).map .int))
      | none => .bad) _ := g1
    rw [e'] at g1
    obtain ⟨p, xs, G, rfl, hl, hz, hp, _⟩ := rep_ls a.rep
    rw [intsT_eq e'] at hl
    obtain ⟨rfl, _⟩ := repL_ints hl
    refine ⟨p, ns, rfl, SqL.of hp, fun ns' p' hp1 hp2 hn => ?_⟩
    have e3 : ns' = isortI ns := List.Perm.eq_of_pairwise (fun _ _ _ _ a b => Int.le_antisymm a b) hp2 (isortI_sorted ns) (hp1.trans (isortI_perm ns).symm)
    subst e3
    refine g1 _ _ _ (new_list a.ext a.fok (repL_int _) hn ?_ fun _ _ m => (nomatch m))
    rw [List.length_map, (isortI_perm ns).length_eq]
    simpa using hz
/-! ### x.extend(e), flat things -/
def sExt (i : Nat) (a : Ex) : Sx := fun ρ => if isLs ρ[i]? then (a ρ).bind fun r => match ρ[i]?, r.1 with
  | some (.v (.ls ts) k), .ls us => if (Nat.ble 1 k && Nat.ble 99 r.2) && (flatL us && Nat.ble (ts.length + us.length) 16777216) then .ret (.nx (ρ.set i (.v (.ls (ts ++ us)) k))) else .bad
  | _, _ => .bad
  else .bad
/-! ### len(set(ints)) -/
def tLenSetN (K : PySem.W.Frag) (ta : TE) : TE := fun σ H Q => ta σ H fun x H1 => ∃ (l : Addr) (ns : List Int), x = .ref l ∧ SqL K H1 l (ns.map V.int) ∧ ns.length ≤ 4000 ∧ Q (.int ((PyProof.Rows.firstMet (fun i => ns.getD i 0) ns.length).length : Nat)) H1
theorem pe_lenSetN {a : Expr} {ta : TE} {p p2 q pos : Pos} (hg : Gl X "len") (hm : X.mg "len" = none) (hg2 : Gl X "set") (hm2 : X.mg "set" = none) (ha : PE X a ta) (hc : X.calm = true := by rfl)
    (na : starEach [a] X.env = (false, eval a X.env) :: starEach [] X.env := by rfl) : PE X (.Call (.Name "len" p) [.Call (.Name "set" p2) [a] [] q] [] pos) (tLenSetN X.K ta) := by
  refine ⟨fun pins s σ H Q I h => Call_ (ld_blt I hg hm boot_len (PyProof.Rows.callWith_builtin1 (PyProof.Rows.args_cons (Call_ (ld_blt I hg2 hm2 boot_set (PyProof.Rows.callWith_type1 (PyProof.Rows.args_cons (thn (ha.run pins s σ H _ I h) fun v s1 ⟨x, H1, I1, r1, q1⟩ => PyProof.Rows.args_nil ?_) na) na rfl))) rfl) rfl rfl))⟩
  obtain ⟨l, ns, rfl, hq, hl, q1⟩ := q1; cases r1
  obtain ⟨its, r, pl, hz⟩ := I1.list hq
  have hlen : its.toArray.size = ns.length := by rw [List.size_toArray, ← r.length, List.length_map]
  refine call_set_list (I1.ok.hd hc) pl.isList (by simpa using RZ.intsAre_vals r) (by rw [hlen]; unfold scanBound; omega) fun h' tk hS hk => PyProof.Rows.args_nil ?_
  rw [hlen] at hS
  obtain ⟨o, es, ep, t, ho, hex, hd, _, _, _, hf, hn⟩ := hS
  have I2 : Inv X pins σ H1 { s1 with heap := h', toks := tk } := I1.kept fun b o e => hk b o (Heap.lt_size e) e
  have hle := PyProof.Rows.firstMet_length_le (fun i => ns.getD i 0) ns.length
  exact call_len_set ho hex hd hf (by rw [hn] <;> omega) ⟨.int (PyProof.Rows.firstMet (fun i => ns.getD i 0) ns.length).length, H1, I2.tok _, ⟨_, by rw [hn]⟩, q1⟩
def eLenSet (a : Ex) : Ex := fun ρ => (a ρ).bind fun r => match r.1 with
  | .ls ts => match intsT ts with
    | some ns => if Nat.ble ns.length 4000 then .ret (.int ((PyProof.Rows.firstMet (fun i => ns.getD i 0) ns.length).length : Nat), 99) else .bad
    | none => .bad
  | _ => .bad
theorem ve_lenSet {a : Expr} {s : Ex} {rd : RD} {p p2 q pos : Pos} (hg : Gl X "len") (hm : X.mg "len" = none) (hg2 : Gl X "set") (hm2 : X.mg "set" = none) (ha : VE X W a s rd) (hc : X.calm = true := by rfl)
    (na : starEach [a] X.env = (false, eval a X.env) :: starEach [] X.env := by rfl) : VE X W (.Call (.Name "len" p) [.Call (.Name "set" p2) [a] [] q] [] pos) (eLenSet s) [] := pe_imp (pe_lenSetN hg hm hg2 hm2 ha hc na) fun σ H Q q => by
  obtain ⟨H0, fd, B, ρ, ψ, Y, R, g⟩ := q
  have g := good_bind.mp g
  refine ⟨H0, fd, B, ρ, ψ, Y, R, good_imp g fun r g1 v H' F a => ?_⟩
  obtain ⟨t, k⟩ := r
  cases t <;> first | exact g1.elim | skip
  rename_i us
  have g1 : good (W H0 fd) (match intsT us with
    | some ns => if Nat.ble ns.length 4000 then M.ret ((.int ((PyProof.Rows.firstMet (fun i => ns.getD i 0) ns.length).length : Nat) : Tr), 99) else .bad
    | none => .bad) _ := g1
  cases e' : intsT us with
  | none => rw [e'] at g1; exact g1.elim
  | some ns =>
    rw [e'] at g1
    obtain ⟨c, g2⟩ := if_good g1
    obtain ⟨p, xs, G, rfl, hl, hz, hp, _⟩ := rep_ls a.rep
    rw [intsT_eq e'] at hl
    obtain ⟨rfl, _⟩ := repL_ints hl
    exact ⟨p, ns, rfl, SqL.of hp, Nat.le_of_ble_eq_true c, g2 _ _ [] (.sc rfl a.ext a.fok)⟩
end
end VL

set_option Elab.async false
set_option linter.all false
set_option maxRecDepth 100000
set_option maxHeartbeats 4000000
/-! VL22: {int: e, ..}[e], {int: e, ..}.get(e, e), x.extend(e) -/
namespace VL
open PySem PySem.Spec PyProof.Rows L2
section
variable {X : Cx} {W : WH}
theorem tav_cons {K : PySem.W.Frag} {s1 : Ex} {s2 : Ax} {rd1 rd2 : RD} {σ : L2.St} {H : Hp} {Q : List V → Hp → Prop} (q : TAv K W (aCons s1 s2) (rd1 ++ rd2) σ H Q) : TEv K W s1 rd1 σ H fun x H1 => TAv K W s2 rd2 σ H1 fun xs H2 => Q (x :: xs) H2 := by
  obtain ⟨H0, fd, B, ρ, ψ, Y, R, g⟩ := q
  have g := good_bind.mp g
  refine ⟨H0, fd, B, ρ, ψ, Y, R, good_imp g fun r1 g1 x H1 F1 a => ?_⟩
  have g1 := good_bind.mp g1
  refine ⟨H0, fd, B, ρ, ψ, Y, R.grow a.ext a.fok, good_imp g1 fun r2 g2 ys H2 F2 b => ?_⟩
  refine g2 (x :: ys) H2 (F1 ++ F2) ⟨a.ext.trans b.ext, b.fok, ⟨x, ys, F1, F2, rfl, a.rep.ext b.ext a.fok, b.rep, rfl⟩, fun hd d c m => ?_, fun d c m => ?_⟩
  · obtain ⟨h1, h2⟩ := Bool.and_eq_true_iff.mp hd
    have o1 : ∀ d c, (d, c) ∈ F1 → H c = none ∧ (ads F1).count c ≤ 1 := fun d c m => a.own d c m (.inr (Nat.le_of_ble_eq_true h1))
    have o2 := b.own h2
    have dj : ∀ {d c}, (d, c) ∈ F1 → c ∉ ads F2 := fun {d c} m n => by
      obtain ⟨d', n⟩ := mem_ads.mp n
      obtain ⟨⟨xs, e⟩, _⟩ := a.rep.node m
      rw [(o2 d' c n).1] at e; cases e
    rw [ads_append, List.count_append]
    rcases List.mem_append.mp m with m | m
    · obtain ⟨p, q⟩ := o1 d c m
      rw [List.count_eq_zero_of_not_mem (dj m)]
      exact ⟨p, q⟩
    · obtain ⟨p, q⟩ := o2 d c m
      have n : c ∉ ads F1 := fun z => by
        obtain ⟨d', z⟩ := mem_ads.mp z
        exact dj z (mem_ads.mpr ⟨d, m⟩)
      rw [List.count_eq_zero_of_not_mem n, Nat.zero_add]
      exact ⟨ext_none a.ext (b.rep.node m).2 p, q⟩
  · rcases List.mem_append.mp m with m | m
    · exact (a.al d c m).imp id fun ⟨j, m', d', G, h1, h2⟩ => ⟨j, m', d', G, List.mem_append_left _ h1, h2⟩
    · exact (b.al d c m).imp (ext_none a.ext (b.rep.node m).2) fun ⟨j, m', d', G, h1, h2⟩ => ⟨j, m', d', G, List.mem_append_right _ h1, h2⟩
/-! ### the pairs of a display with int keys -/
def mkP : List Int → List V → List (Key × V)
  | k :: ks, v :: vs => (.inl k, v) :: mkP ks vs
  | _, _ => []
theorem mkP_len : ∀ (ks : List Int) (vs : List V), (mkP ks vs).length ≤ ks.length
  | [], _ => Nat.zero_le _
  | _ :: _, [] => Nat.zero_le _
  | k :: ks, v :: vs => Nat.succ_le_succ (mkP_len ks vs)
structure DP (X : Cx) (W : WH) (pos : Pos) (keys : List (Option Expr)) (values : List Expr) (ks : List Int) (s : Ax) (rd : RD) : Prop where
  run : ∃ trs, PPs X pos keys values trs ∧ ∀ σ H (Q : List (V × V) → Hp → Prop), TAv X.K W s rd σ H (fun vs H' => Q ((mkP ks vs).map fun kv => (kV kv.1, kv.2)) H') → tPairs trs σ H Q
theorem dp_nil {pos : Pos} : DP X W pos [] [] [] aNil [] := ⟨[], pps_nil, fun σ H Q q => by
  obtain ⟨H0, fd, B, ρ, ψ, Y, R, g⟩ := q
  exact g [] H [] ⟨.refl, R.fok, ⟨rfl, rfl⟩, fun _ _ _ m => (nomatch m), fun _ _ m => (nomatch m)⟩⟩
theorem dp_cons {pos kp : Pos} {k : Int} {j} {v : Expr} {keys : List (Option Expr)} {values : List Expr} {ks : List Int} {s1 : Ex} {s2 : Ax} {rd1 rd2 : RD} (hv : VE X W v s1 rd1) (hr : DP X W pos keys values ks s2 rd2) : DP X W pos (some (.Constant (.int k) j kp) :: keys) (v :: values) (k :: ks) (aCons s1 s2) (rd1 ++ rd2) := by
  obtain ⟨trs, h1, h2⟩ := hr.run
  refine ⟨(tC (.int k), TEv X.K W s1 rd1) :: trs, pps_cons pe_int hv h1, fun σ H Q q => ?_⟩
  show TEv X.K W s1 rd1 σ H fun y H2 => tPairs trs σ H2 fun ps H3 => Q ((V.int k, y) :: ps) H3
  obtain ⟨H0, fd, B, ρ, ψ, Y, R, g⟩ := tav_cons q
  exact ⟨H0, fd, B, ρ, ψ, Y, R, good_imp g fun r g1 v H' F a => h2 _ _ _ (g1 v H' F a)⟩
/-! ### what a key finds -/
def lookK : List Int → List Tr → Int → Option Tr → Option Tr
  | k :: ks, t :: ts, j, o => lookK ks ts j (if j = k then some t else o)
  | _, _, _, o => o
def Hit (K : PySem.W.Frag) (H : Hp) (fd : List Addr) (F0 : FP) (o : Option Tr) (r : Option V) : Prop := match o with
  | some t => ∃ v A G C, r = some v ∧ Rep K H fd t v G ∧ F0 = A ++ (G ++ C)
  | none => r = none
theorem look_ok {K : PySem.W.Frag} {H : Hp} {fd : List Addr} {j : Int} : ∀ {ks : List Int} {ts : List Tr} {vs : List V} {A F : FP} {o : Option Tr} {acc : List (Key × V)}, RepL K H fd ts vs F → Hit K H fd (A ++ F) o (valV acc (.inl j)) → Hit K H fd (A ++ F) (lookK ks ts j o) (valV (mergeK acc (mkP ks vs)) (.inl j))
  | [], _, vs, _, _, _, _, _, h => by cases vs <;> exact h
  | k :: ks, [], vs, _, _, _, _, r, h => by
    rw [r.1]; exact h
  | k :: ks, t :: ts, vs, A, F, o, acc, r, h => by
    obtain ⟨v, ys, G1, G2, rfl, h1, h2, rfl⟩ := r
    have e : A ++ (G1 ++ G2) = (A ++ G1) ++ G2 := (List.append_assoc _ _ _).symm
    rw [e]
    refine look_ok (ks := ks) (A := A ++ G1) (acc := putK acc (.inl k) v) h2 ?_
    rw [← e, valV_put]
    by_cases c : j = k
    · subst c
      rw [if_pos rfl, if_pos rfl]
      exact ⟨v, A, G1, G2, rfl, h1, rfl⟩
    · rw [if_neg c, if_neg (by simp [c])]
      exact h
theorem Hit.ext {K : PySem.W.Frag} {H H' : Hp} {fd : List Addr} {F0 : FP} {o : Option Tr} {r : Option V} (h : Hit K H fd F0 o r) (x : ExtF fd H H') (f : FeedOk fd H) : Hit K H' fd F0 o r := by
  cases o with
  | none => exact h
  | some t =>
    obtain ⟨v, A, G, C, h1, h2, h3⟩ := h
    exact ⟨v, A, G, C, h1, h2.ext x f, h3⟩
theorem sub_own {K : PySem.W.Frag} {fd : List Addr} {ψ : List FP} {rd : RD} {H H1 H2 : Hp} {ts : List Tr} {deep : Bool} {vs : List V} {F0 A G C : FP} {t : Tr} {v : V} (a : ResL K fd ψ rd H ts deep vs H1 F0) (x : ExtF fd H H2) (f : FeedOk fd H2) (r : Rep K H2 fd t v G) (e : F0 = A ++ (G ++ C)) : Res K fd ψ rd H (t, if deep then 99 else 0) v H2 G where
  ext := x
  fok := f
  rep := r
  own := fun d c m o => by
    have hd : deep = true := by
      cases deep with
      | true => rfl
      | false => exact absurd o owns_zero
    have m0 : (d, c) ∈ F0 := by rw [e]; exact List.mem_append_right _ (List.mem_append_left _ m)
    obtain ⟨q1, q2⟩ := a.own hd d c m0
    refine ⟨q1, Nat.le_trans ?_ q2⟩
    rw [e, ads_append, ads_append, List.count_append, List.count_append]; omega
  al := fun d c m => a.al d c (by rw [e]; exact List.mem_append_right _ (List.mem_append_left _ m))
def eDIx (ks : List Int) (a : Ax) (b : Ex) : Ex := fun ρ => (a ρ).bind fun r => (b ρ).bind fun q => match q.1 with
  | .int j => match lookK ks r.1 j none with
    | some t => .ret (t, if r.2 then 99 else 0)
    | none => .bad
  | _ => .bad
theorem dict_start {K : PySem.W.Frag} {trs : List (TE × TE)} {ks : List Int} {s : Ax} {rd : RD} {σ : L2.St} {H H0 : Hp} {fd B : List Addr} {ρ : En} {ψ : List FP} {Y : List Tmp} {Qd : VK} {m : List Tr × Bool → M (Tr × Nat)} {P : Tr × Nat → Prop} (h2 : ∀ σ H (Q : List (V × V) → Hp → Prop), TAv K W s rd σ H (fun vs H' => Q ((mkP ks vs).map fun kv => (kV kv.1, kv.2)) H') → tPairs trs σ H Q) (hk : ks.length ≤ 15)
    (R : Rel K H0 fd B ρ σ H ψ Y) (g : good (W H0 fd) ((s ρ).bind m) P)
    (k : ∀ (r : List Tr × Bool) (p : Addr) (vs : List V) (H2 : Hp) (F : FP), H p = none → p ∉ fd → ResL K fd ψ rd H r.1 r.2 vs H2 F → H2 p = some (.dK (mergeK [] (mkP ks vs))) → Rel K H0 fd B ρ σ H2 ψ Y → good (W H0 fd) (m r) P → Qd (.ref p) H2) : tDisp trs σ H Qd := by
  intro p hp
  have hpf : p ∉ fd := R.fok.notIn hp
  have g := good_bind.mp g
  refine h2 _ _ _ ⟨H0, fd, B, ρ, ψ, Y, R.grow (.new hp) (R.fok.new hp), good_imp g fun r g1 vs H2 F a => ?_⟩
  have e2 : H2 p = some (.dK []) := a.ext p _ upd_same hpf
  refine ⟨e2, mkP ks vs, rfl, Nat.le_trans (mkP_len ks vs) hk, ?_⟩
  have xn : ∀ {b}, b ∉ fd → L2.upd H p (.dK []) b = none → H b = none := fun {b} n z => ext_none (.new hp) n z
  have x2 : ExtF fd H (L2.upd H2 p (.dK (mergeK [] (mkP ks vs)))) := fun b o e n => by
    have nb : b ≠ p := fun z => by subst z; rw [hp] at e; cases e
    rw [upd_ne nb]
    exact a.ext b o (by rw [upd_ne nb]; exact e) n
  have f2 : FeedOk fd (L2.upd H2 p (.dK (mergeK [] (mkP ks vs)))) := a.fok.write hpf
  have kp : Keeps fd F H2 (L2.upd H2 p (.dK (mergeK [] (mkP ks vs)))) := by
    refine ⟨fun d c m => upd_ne fun z => ?_, fun c xs e => ?_, fun c o u e => ?_, fun c o xs e => ?_⟩
    · obtain ⟨⟨xs, ex⟩, _⟩ := a.rep.node m
      rw [z, e2] at ex; cases ex
    · rw [upd_ne (fun z => by subst z; rw [e2] at e; cases e)]; exact e
    · rw [upd_ne (fun z => by subst z; rw [e2] at e; cases e)]; exact e
    · rw [upd_ne (fun z => by subst z; rw [e2] at e; cases e)]; exact e
  refine k r p vs _ F hp hpf ⟨x2, f2, a.rep.keeps kp, fun hd d c m => ?_, fun d c m => (a.al d c m).imp (xn (a.rep.node m).2) id⟩ upd_same (R.grow x2 f2) g1
  obtain ⟨q1, q2⟩ := a.own hd d c m
  exact ⟨xn (a.rep.node m).2 q1, q2⟩
theorem ve_dix {pos pos' : Pos} {keys : List (Option Expr)} {values : List Expr} {b : Expr} {ks : List Int} {s : Ax} {sb : Ex} {rd rd2 : RD} (h : DP X W pos' keys values ks s rd) (hb : VE X W b sb rd2) (hu : X.A.units + 1 < cLine) (hk : ks.length ≤ 15 := by decide)
    (hall : keys.all (·.isSome) = true := by rfl) (hl : keys.length = values.length := by rfl) (h0 : keys ≠ [] := by intro h; cases h) (h15 : keys.length ≤ 15 := by decide) (hs : NoSl b := by intro _ _; rfl) : VE X W (.Subscript (.Dict keys values pos') b pos) (eDIx ks s sb) rd := by
  obtain ⟨trs, h1, h2⟩ := h.run
  refine pe_imp (pe_dget hu (pe_disp h1 hall hl h0 h15) hb hs) fun σ H Q q => ?_
  obtain ⟨H0, fd, B, ρ, ψ, Y, R, g⟩ := q
  refine dict_start (W := W) h2 hk R g fun r p vs H2 F hp hpf a ed R2 g1 => ?_
  have g1 := good_bind.mp g1
  refine ⟨H0, fd, B, ρ, ψ, Y, R2, good_imp g1 fun z g2 w H3 F3 a3 => ?_⟩
  obtain ⟨t, k⟩ := z
  cases t <;> first | exact g2.elim | skip
  rename_i j
  obtain rfl := rep_int a3.rep
  have hit : Hit X.K H2 fd ([] ++ F) (lookK ks r.1 j none) (valV (mergeK [] (mkP ks vs)) (.inl j)) := look_ok (A := []) (o := none) (acc := []) a.rep rfl
  have ed3 : H3 p = some (.dK (mergeK [] (mkP ks vs))) := a3.ext p _ ed hpf
  have hit := hit.ext a3.ext a.fok
  cases e : lookK ks r.1 j none with
  | none =>
    have g2 : good (W H0 fd) (match lookK ks r.1 j none with
      | some t => M.ret (t, if r.2 then 99 else 0)
      | none => .bad) _ := g2
    rw [e] at g2; exact g2.elim
  | some t =>
    have g2 : good (W H0 fd) (match lookK ks r.1 j none with
      | some t => M.ret (t, if r.2 then 99 else 0)
      | none => .bad) _ := g2
    rw [e] at g2 hit
    obtain ⟨v, A, G, C, e1, e2, e3⟩ := hit
    refine ⟨p, v, rfl, ?_, g2 v H3 G (sub_own a (a.ext.trans a3.ext) a3.fok e2 (by rw [← e3]; rfl))⟩
    rw [← e1]
    exact DGet.k (k := .inl j) ed3
def eDGet (ks : List Int) (a : Ax) (b d : Ex) : Ex := fun ρ => (a ρ).bind fun r => (b ρ).bind fun q => (d ρ).bind fun z => match q.1 with
  | .int j => match lookK ks r.1 j none with
    | some t => .ret (t, if r.2 then 99 else 0)
    | none => .ret z
  | _ => .bad
theorem ve_dget2 {pos' apos cpos : Pos} {keys : List (Option Expr)} {values : List Expr} {b d : Expr} {ks : List Int} {s : Ax} {sb sd : Ex} {rd rd2 rd3 : RD} (h : DP X W pos' keys values ks s rd) (hb : VE X W b sb rd2) (hd : VE X W d sd rd3) (hu : X.A.units + 1 < cLine) (m : M2 X (.Dict keys values pos') "get" apos b d cpos) (hk : ks.length ≤ 15 := by decide)
    (hall : keys.all (·.isSome) = true := by rfl) (hl : keys.length = values.length := by rfl) (h0 : keys ≠ [] := by intro h; cases h) (h15 : keys.length ≤ 15 := by decide) : VE X W (.Call (.Attribute (.Dict keys values pos') "get" apos) [b, d] [] cpos) (eDGet ks s sb sd) (rd ++ rd3) := by
  obtain ⟨trs, h1, h2⟩ := h.run
  refine pe_imp (pe_dget2 hu (pe_disp h1 hall hl h0 h15) hb hd m) fun σ H Q q => ?_
  obtain ⟨H0, fd, B, ρ, ψ, Y, R, g⟩ := q
  refine dict_start (W := W) h2 hk R g fun r p vs H2 F hp hpf a ed R2 g1 => ?_
  have g1 := good_bind.mp g1
  refine ⟨p, rfl, .inl ⟨_, .inl ed⟩, H0, fd, B, ρ, ψ, Y, R2, good_imp g1 fun z g2 w H3 F3 a3 => ?_⟩
  have g2 := good_bind.mp g2
  refine ⟨H0, fd, B, ρ, ψ, Y, R2.grow a3.ext a3.fok, good_imp g2 fun z4 g4 w4 H4 F4 a4 => ?_⟩
  clear g2
  obtain ⟨t, k⟩ := z
  cases t <;> first | exact g4.elim | skip
  rename_i j
  obtain rfl := rep_int a3.rep
  have hit : Hit X.K H2 fd ([] ++ F) (lookK ks r.1 j none) (valV (mergeK [] (mkP ks vs)) (.inl j)) := look_ok (A := []) (o := none) (acc := []) a.rep rfl
  have x4 := a3.ext.trans a4.ext
  have ed4 : H4 p = some (.dK (mergeK [] (mkP ks vs))) := x4 p _ ed hpf
  have hit := hit.ext x4 a.fok
  have g4 : good (W H0 fd) (match lookK ks r.1 j none with
    | some t => M.ret (t, if r.2 then 99 else 0)
    | none => .ret z4) _ := g4
  refine ⟨_, DGet.k (k := .inl j) ed4, ?_⟩
  cases e : lookK ks r.1 j none with
  | none =>
    rw [e] at g4 hit
    rw [show valV (mergeK [] (mkP ks vs)) (.inl j) = none from hit]
    exact g4 w4 H4 F4 ((a4.later (a.ext.trans a3.ext)).more fun q hq => List.mem_append_right _ hq)
  | some t =>
    rw [e] at g4 hit
    obtain ⟨v, A, G, C, e1, e2, e3⟩ := hit
    rw [e1]
    exact g4 v H4 G ((sub_own a (a.ext.trans x4) a4.fok e2 (by rw [← e3]; rfl)).more fun q hq => List.mem_append_left _ hq)
end
end VL

set_option Elab.async false
set_option linter.all false
set_option maxRecDepth 100000
set_option maxHeartbeats 4000000
/-! VL23: a search that finds nothing, told by a table -/
namespace VL
open PySem PySem.Spec PyProof.Rows L2
def isNon1 : M (Tr × Nat) → Bool
  | .ret (.non, n) => Nat.beq n 99
  | _ => false
theorem isNon1_eq : ∀ {m : M (Tr × Nat)}, isNon1 m = true → m = .ret (.non, 99)
  | .ret (.non, n), h => by rw [Nat.eq_of_beq_eq_true h]
  | .ret (.bl _, _), h => by cases h
  | .ret (.int _, _), h => by cases h
  | .ret (.str _, _), h => by cases h
  | .ret (.ls _, _), h => by cases h
  | .ret (.tp _, _), h => by cases h
  | .bad, h => by cases h
  | .exc _ _, h => by cases h
  | .draw _ _, h => by cases h
def ckN (G : Fn) : Tr → Bool
  | .ls ts => isNon1 (G ts)
  | _ => false
def spT (tbl : List Tr) (G : Fn) : Fn := fun ts => if memT (.ls ts) tbl then .ret (.non, 99) else G ts
theorem spT_eq {tbl : List Tr} {G : Fn} (h : allL tbl (ckN G) = true) : spT tbl G = G := funext fun ts => by
  unfold spT
  by_cases c : memT (.ls ts) tbl = true
  · rw [if_pos c]
    exact (isNon1_eq (show isNon1 (G ts) = true from allL_ok h _ (memT_ok c))).symm
  · rw [if_neg c]
theorem allL_cons {α : Type} {f : α → Bool} {x : α} {xs : List α} (h1 : f x = true) (h2 : allL xs f = true) : allL (x :: xs) f = true := by
  show (f x && allL xs f) = true
  rw [h1, h2]; rfl
theorem refn_spT {tbl : List Tr} {G : Fn} (h : allL tbl (ckN G) = true) : Refn (spT tbl G) G := by
  rw [spT_eq h]
  exact fun _ _ g => g
end VL

set_option Elab.async false
set_option linter.all false
set_option maxRecDepth 100000
set_option maxHeartbeats 4000000
/-! VL24: room for one call -/
namespace VL
open PySem PySem.Spec PyProof.Rows L2
theorem room1 {k : Nat} {A : Around} (r : Room k A) : A.units + 1 < cLine := by have := room5 r; omega
end VL

set_option Elab.async false
set_option linter.all false
set_option maxRecDepth 100000
set_option maxHeartbeats 4000000
/-! VL25: row = x[a]; for b in line: row[b] = row[b] + 1, the row written through its name -/
namespace VL
open PySem PySem.Spec PyProof.Rows L2
section
variable {X : Cx} {W : WH}
theorem upd_id {H : Hp} {p : Addr} {o : HO} (h : H p = some o) : L2.upd H p o = H := funext fun b => by
  by_cases c : b = p
  · subst c; rw [upd_same, h]
  · rw [upd_ne c]
/-- a slot that is not asked any more may hold anything -/
theorem Rel.junk {K : PySem.W.Frag} {H0 H : Hp} {fd B : List Addr} {ρ : En} {σ σ' : L2.St} {ψ : List FP} {Y : List Tmp} {i : Nat} (R : Rel K H0 fd B ρ σ H ψ Y) (hl : σ'.length = σ.length) (hs : ∀ (j : Nat), j ≠ i → σ'[j]? = σ[j]?) : Rel K H0 fd B (ρ.set i .no) σ' H (ψ.set i []) Y := by
  have Rk := R.kill (i := i)
  have at_ : ∀ {j : Nat} {s : Sl}, (ρ.set i .no)[j]? = some s → s ≠ .no → j ≠ i := fun {j s} h n e => by
    subst e
    have hi : j < ρ.length := by have := (List.getElem?_eq_some_iff.mp h).1; simpa using this
    rw [List.getElem?_set_self hi] at h
    exact n (Option.some.inj h).symm
  refine ⟨hl.trans Rk.lns, Rk.lnp, fun j t k h => ?_, Rk.dead, fun j h => ?_, Rk.tmp, Rk.own, Rk.dom, Rk.ext, Rk.fok⟩
  · obtain ⟨v, F, h1, h2, h3⟩ := Rk.rep j t k h
    exact ⟨v, F, (hs j (at_ h fun z => by cases z)).trans h1, h2, h3⟩
  · obtain ⟨h1, a, s, h2, h3⟩ := Rk.fed j h
    exact ⟨h1, a, s, h2, (hs j (at_ h fun z => by cases z)).trans h3⟩
/-- a node of slot c (owned) holds something else; the footprint stays -/
theorem Rel.nest {K : PySem.W.Frag} {H0 H : Hp} {fd B : List Addr} {ρ : En} {σ : L2.St} {ψ : List FP} {Y : List Tmp} {c k d : Nat} {t t' : Tr} {v : V} {F : FP} {p : Addr} {xs ys : List V} (R : Rel K H0 fd B ρ σ H ψ Y) (hc : ρ[c]? = some (.v t k)) (hσ : σ[c]? = some (some v)) (hψ : ψ[c]? = some F) (m : (d, p) ∈ F) (o : owns d k) (hp : H p = some (.lst xs)) (hpf : p ∉ fd) (r : Rep K (L2.upd H p (.lst ys)) fd t' v F) :
    Rel K H0 fd B (ρ.set c (.v t' k)) σ (L2.upd H p (.lst ys)) ψ Y := by
  obtain ⟨o1, o2, o3, o4⟩ := R.own c t k F d p hc hψ m o
  have hcl : c < ρ.length := (List.getElem?_eq_some_iff.mp hc).1
  refine ⟨by rw [List.length_set]; exact R.lns, by rw [List.length_set]; exact R.lnp, fun j t2 k2 h => ?_, fun j h => ?_, fun j h => ?_, fun y hy => (R.tmp y hy).keeps (Keeps.upd (fd := fd) hp (o3 y hy)), fun j t2 k2 G d2 a h hG m2 ow => ?_, R.dom, fun b u e n => ?_, R.fok.write hpf⟩
  · by_cases e : c = j
    · subst e
      rw [List.getElem?_set_self hcl] at h
      cases h
      exact ⟨v, F, hσ, hψ, r⟩
    · rw [List.getElem?_set_ne e] at h
      obtain ⟨v2, G, h1, h2, h3⟩ := R.rep j t2 k2 h
      exact ⟨v2, G, h1, h2, h3.keeps (Keeps.upd (fd := fd) hp (o2 j G (Ne.symm e) h2))⟩
  · by_cases e : c = j
    · subst e
      rw [List.getElem?_set_self hcl] at h; cases h
    · rw [List.getElem?_set_ne e] at h
      exact R.dead j h
  · by_cases e : c = j
    · subst e
      rw [List.getElem?_set_self hcl] at h; cases h
    · rw [List.getElem?_set_ne e] at h
      exact R.fed j h
  · by_cases e : c = j
    · subst e
      rw [List.getElem?_set_self hcl] at h
      cases h
      exact R.own c t k G d2 a hc hG m2 ow
    · rw [List.getElem?_set_ne e] at h
      exact R.own j t2 k2 G d2 a h hG m2 ow
  · rw [upd_ne (fun z => by subst z; rw [o1] at e; cases e)]
    exact R.ext b u e n
def bumpI (row : List Int) : List Int → Option (List Int)
  | [] => some row
  | b :: bs => match ixN row.length b with
    | some j => match row[j]? with
      | some x => bumpI (row.set j (x + 1)) bs
      | none => none
    | none => none
theorem bumpI_len : ∀ {bs row ms : List Int}, bumpI row bs = some ms → ms.length = row.length
  | [], _, _, h => by cases h; rfl
  | b :: bs, row, ms, h => by
    unfold bumpI at h
    split at h
    · split at h
      · rw [bumpI_len h, List.length_set]
      · cases h
    · cases h
def bumpT (ts : List Tr) (i : Int) (ls : List Tr) : Option (List Tr) := match ixN ts.length i with
  | some n => match ts[n]? with
    | some (.ls rs) => match intsT rs, intsT ls with
      | some ns, some bs => match bumpI ns bs with
        | some ms => some (ts.set n (.ls (ms.map .int)))
        | none => none
      | _, _ => none
    | _ => none
  | none => none
theorem bumpT_ok {ts ls ts' : List Tr} {i : Int} (h : bumpT ts i ls = some ts') : ∃ n ns bs ms, ixN ts.length i = some n ∧ ts[n]? = some (.ls (ns.map .int)) ∧ ls = bs.map .int ∧ bumpI ns bs = some ms ∧ ts' = ts.set n (.ls (ms.map .int)) := by
  unfold bumpT at h
  split at h
  · rename_i n hn
    split at h
    · rename_i rs hr
      split at h
      · rename_i ns bs h1 h2
        split at h
        · rename_i ms h3
          cases h
          refine ⟨n, ns, bs, ms, hn, ?_, intsT_eq h2, h3, rfl⟩
          rw [hr, intsT_eq h1]
        · cases h
      · cases h
    · cases h
  · cases h
def sBump (c a l r b : Nat) : Sx := fun ρ => match ρ[c]?, ρ[a]?, ρ[l]? with
  | some (.v (.ls ts) k), some (.v (.int i) _), some (.v (.ls ls) _) => match bumpT ts i ls with
    | some ts' => if Nat.ble 2 k && (Nat.blt r ρ.length && Nat.blt b ρ.length) then .ret (.nx (((ρ.set c (.v (.ls ts') k)).set r .no).set b .no)) else .bad
    | none => .bad
  | _, _, _ => .bad
/-- the whole, a row of ints exchanged for another (at the same node) -/
theorem RepL.row {K : PySem.W.Frag} {H : Hp} {fd : List Addr} {ns : List Int} : ∀ {ts : List Tr} {xs : List V} {G : FP} {n : Nat}, RepL K H fd ts xs G → ts[n]? = some (.ls (ns.map .int)) →
    ∃ pr, xs[n]? = some (.ref pr) ∧ H pr = some (.lst (ns.map .int)) ∧ pr ∉ fd ∧ (0, pr) ∈ G ∧ ∀ ms : List Int, ms.length = ns.length → (ads G).count pr ≤ 1 → RepL K (L2.upd H pr (.lst (ms.map .int))) fd (ts.set n (.ls (ms.map .int))) xs G
  | [], _, _, _, _, h => by simp at h
  | u :: ts, _, _, 0, r, h => by
    obtain ⟨x, ys, G1, G2, rfl, h1, h2, rfl⟩ := r
    obtain rfl : u = .ls (ns.map .int) := by simpa using h
    obtain ⟨pr, zs, G3, rfl, hl, hz, hp, hpf, rfl⟩ := rep_ls h1
    obtain ⟨rfl, hG⟩ := repL_ints hl
    subst hG
    refine ⟨pr, rfl, hp, hpf, List.mem_cons_self, fun ms hm hc => ?_⟩
    have n2 : pr ∉ ads G2 := fun z => by
      have h3 := List.count_pos_iff.mpr z
      rw [ads_append, List.count_append] at hc
      have h4 : (ads ((0, pr) :: up [])).count pr = 1 := by
        show List.count pr [pr] = 1
        rw [List.count_cons_self]; rfl
      rw [h4] at hc
      omega
    exact ⟨.ref pr, ys, _, G2, rfl, ⟨pr, _, [], rfl, repL_int ms, by rw [List.length_map, hm, ← List.length_map (f := V.int)]; exact hz, upd_same, hpf, rfl⟩, RepL.keeps h2 (Keeps.upd hp n2), rfl⟩
  | u :: ts, _, _, n + 1, r, h => by
    obtain ⟨x, ys, G1, G2, rfl, h1, h2, rfl⟩ := r
    obtain ⟨pr, q1, q2, q3, q4, q5⟩ := RepL.row (n := n) h2 (by simpa using h)
    refine ⟨pr, by simpa using q1, q2, q3, List.mem_append_right _ q4, fun ms hm hc => ?_⟩
    rw [ads_append, List.count_append] at hc
    have h3 := List.count_pos_iff.mpr (mem_ads.mpr ⟨0, q4⟩)
    have n1 : pr ∉ ads G1 := fun z => by
      have := List.count_pos_iff.mpr z
      omega
    exact ⟨x, ys, G1, G2, rfl, h1.keeps (Keeps.upd (fd := fd) q2 n1), q5 ms hm (by omega), rfl⟩
theorem ixN_at {n : Nat} {i : Int} {j : Nat} {α : Type} {xs : List α} {x : α} (hn : ixN n i = some j) (hl : xs.length = n) (hx : xs[j]? = some x) : atI xs i = some x := by
  unfold atI
  rw [hl, hn]; exact hx
theorem vss_bump {st1 st2 : Stmt} {rest : List Stmt} {t : Sx} {c a l r b : Nat} {rA : R2} (hA : ∀ (i j : Int) (H : Hp) (Q : VK), Q (.int (i + j)) H → rA (.int i) (.int j) H Q)
    (h1 : PS X st1 (tAsg (tOp (rIxL X.K) (tVar c) (tVar a)) (gName r)))
    (h2 : PS X st2 (tFor (iAny X.K (tVar l)) (gName b) (tAsg (tOp rA (tOp (rIxL X.K) (tVar r) (tVar b)) (tC (.int 1))) (gSub (tVar r) (tVar b) rSetL))))
    (h3 : VSs X W rest t) (n1 : c ≠ r := by decide) (n2 : c ≠ b := by decide) (n3 : l ≠ r := by decide) (n4 : l ≠ b := by decide) (n5 : r ≠ b := by decide) (n6 : l ≠ c := by decide) : VSs X W (st1 :: st2 :: rest) (sSeq (sBump c a l r b) t) := pss_imp (pss_cons h1 (pss_cons h2 h3)) fun D σ H q => by
  obtain ⟨H0, fd, B, ρ, ψ, Y, R, g⟩ := q
  have g := good_bind.mp g
  unfold sBump at g
  cases ec : ρ[c]? with
  | none => rw [ec] at g; exact g.elim
  | some sc =>
    rw [ec] at g
    cases sc with
    | no => exact g.elim
    | feed => exact g.elim
    | v tc k =>
      cases tc <;> first | exact g.elim | skip
      rename_i ts
      cases ea : ρ[a]? with
      | none => rw [ea] at g; exact g.elim
      | some sa =>
        rw [ea] at g
        cases sa with
        | no => exact g.elim
        | feed => exact g.elim
        | v ta ka =>
          cases ta <;> first | exact g.elim | skip
          rename_i i
          cases el : ρ[l]? with
          | none => rw [el] at g; exact g.elim
          | some sl =>
            rw [el] at g
            cases sl with
            | no => exact g.elim
            | feed => exact g.elim
            | v tl kl =>
              cases tl <;> first | exact g.elim | skip
              rename_i ls
              cases eb : bumpT ts i ls with
              | none =>
                have g : good (W H0 fd) (match bumpT ts i ls with
                  | some ts' => if Nat.ble 2 k && (Nat.blt r ρ.length && Nat.blt b ρ.length) then M.ret (Fl.nx (((ρ.set c (.v (.ls ts') k)).set r .no).set b .no)) else .bad
                  | none => .bad) _ := g
                rw [eb] at g; exact g.elim
              | some ts' =>
                have g : good (W H0 fd) (match bumpT ts i ls with
                  | some ts' => if Nat.ble 2 k && (Nat.blt r ρ.length && Nat.blt b ρ.length) then M.ret (Fl.nx (((ρ.set c (.v (.ls ts') k)).set r .no).set b .no)) else .bad
                  | none => .bad) _ := g
                rw [eb] at g
                obtain ⟨ck, g⟩ := if_good g
                obtain ⟨ck, ck2⟩ := Bool.and_eq_true_iff.mp ck
                obtain ⟨cr, cb⟩ := Bool.and_eq_true_iff.mp ck2
                have hk : 2 ≤ k := Nat.le_of_ble_eq_true ck
                have hrl : r < σ.length := by rw [R.lns]; exact Nat.le_of_ble_eq_true cr
                have hbl0 : b < σ.length := by rw [R.lns]; exact Nat.le_of_ble_eq_true cb
                obtain ⟨n, ns, bs, ms, hn, ht, rfl, hb, rfl⟩ := bumpT_ok eb
                obtain ⟨vc, Fc, c1, c2, c3⟩ := R.rep c _ k ec
                obtain ⟨va, Fa, a1, a2, a3⟩ := R.rep a _ ka ea
                obtain ⟨vl, Fl', l1, l2, l3⟩ := R.rep l _ kl el
                obtain rfl := rep_int a3
                obtain ⟨p0, xs, G, rfl, hl, hz, hp0, hpf0, rfl⟩ := rep_ls c3
                obtain ⟨pl, zs, Gl, rfl, hll, hzl, hpl, hpfl, rfl⟩ := rep_ls l3
                obtain ⟨rfl, _⟩ := repL_ints hll
                obtain ⟨pr, q1, q2, q3, q4, q5⟩ := hl.row ht
                have m1 : (1, pr) ∈ (0, p0) :: up G := List.mem_cons_of_mem _ (mem_up.mpr ⟨0, rfl, q4⟩)
                have ow1 : owns 1 k := .inl (by omega)
                obtain ⟨o1, o2, o3, o4⟩ := R.own c _ k _ 1 pr ec c2 m1 ow1
                have ecnt : (ads ((0, p0) :: up G)).count pr = (if p0 = pr then 1 else 0) + (ads G).count pr := by
                  show List.count pr (p0 :: ads (up G)) = _
                  rw [ads_up, List.count_cons]
                  by_cases c : p0 = pr
                  · simp [c]; omega
                  · simp [c]
                have pos := List.count_pos_iff.mpr (mem_ads.mpr ⟨0, q4⟩)
                have npr : p0 ≠ pr := fun z => by rw [if_pos z] at ecnt; omega
                have cG : (ads G).count pr ≤ 1 := by omega
                have npl : pl ≠ pr := fun z => o2 l _ n6 l2 (by rw [← z]; exact List.mem_cons_self)
                have hx : xs.length = ts.length := hl.length.symm
                -- row = x[a]
                refine ⟨_, c1, _, a1, p0, xs, i, .ref pr, rfl, rfl, SqL.of hp0, ixN_at hn hx q1, ?_⟩
                show tFor (iAny X.K (tVar l)) (gName b) (tAsg (tOp rA (tOp (rIxL X.K) (tVar r) (tVar b)) (tC (.int 1))) (gSub (tVar r) (tVar b) rSetL)) _ (σ.set r (some (.ref pr))) H
                have lr : (σ.set r (some (.ref pr)))[l]? = some (some (.ref pl)) := by rw [List.getElem?_set_ne (Ne.symm n3)]; exact l1
                refine ⟨_, lr, .inl ⟨pl, rfl, ⟨_, SqL.of hpl⟩, ?_⟩⟩
                have eH : L2.upd H pr (.lst (ns.map V.int)) = H := upd_id q2
                refine for_list (xs := bs.map V.int) (fun j σj Hj => j ≤ bs.length ∧ ∃ cur : List Int, cur.length = ns.length ∧ bumpI cur (bs.drop j) = some ms ∧ Hj = L2.upd H pr (.lst (cur.map V.int)) ∧ σj.length = σ.length ∧ σj[r]? = some (some (.ref pr)) ∧ ∀ m : Nat, m ≠ r → m ≠ b → σj[m]? = σ[m]?) ?_ ?_ ?_ ?_
                · refine ⟨Nat.zero_le _, ns, rfl, hb, eH.symm, by rw [List.length_set], List.getElem?_set_self hrl, fun m h1 _ => List.getElem?_set_ne (Ne.symm h1)⟩
                · intro j σj Hj _ hj
                  obtain ⟨_, cur, _, _, rfl, _⟩ := hj
                  exact SqL.of (by rw [upd_ne npl]; exact hpl)
                · intro j x σj Hj hx hj
                  obtain ⟨hj, cur, hc, hbj, rfl, hls, hr, hoth⟩ := hj
                  rw [List.getElem?_map] at hx
                  cases ebj : bs[j]? with
                  | none => rw [ebj] at hx; cases hx
                  | some bj =>
                    rw [ebj] at hx
                    obtain rfl : V.int bj = x := by simpa using hx
                    have hjl : j < bs.length := (List.getElem?_eq_some_iff.mp ebj).1
                    rw [drop_cons ebj] at hbj
                    unfold bumpI at hbj
                    split at hbj
                    · rename_i jj hjj
                      split at hbj
                      · rename_i xx hxx
                        have hbl : b < σj.length := by rw [hls]; exact hbl0
                        have sr : (σj.set b (some (.int bj)))[r]? = some (some (.ref pr)) := by rw [List.getElem?_set_ne (Ne.symm n5)]; exact hr
                        have sb : (σj.set b (some (.int bj)))[b]? = some (some (.int bj)) := List.getElem?_set_self hbl
                        have hq : SqL X.K (L2.upd H pr (.lst (cur.map V.int))) pr (cur.map V.int) := SqL.of upd_same
                        refine ⟨_, sr, _, sb, pr, cur.map V.int, bj, .int xx, rfl, rfl, hq, ixN_at hjj (List.length_map _) (by rw [List.getElem?_map, hxx]; rfl), hA xx 1 _ _ ?_⟩
                        refine ⟨_, sr, _, sb, pr, cur.map V.int, bj, jj, rfl, rfl, upd_same, by rw [List.length_map]; exact hjj, ?_⟩
                        refine ⟨hjl, cur.set jj (xx + 1), by rw [List.length_set]; exact hc, hbj, ?_, by rw [List.length_set]; exact hls, sr, fun m h1 h2 => by rw [List.getElem?_set_ne (Ne.symm h2)]; exact hoth m h1 h2⟩
                        rw [upd_upd, List.map_set]
                      · cases hbj
                    · cases hbj
                · intro σj Hj hj
                  obtain ⟨_, cur, hc, hbj, rfl, hls, hr, hoth⟩ := hj
                  rw [List.length_map, List.drop_length] at hbj
                  have e0 : cur = ms := by
                    unfold bumpI at hbj
                    exact Option.some.inj hbj
                  subst e0
                  have R1 : Rel X.K H0 fd B (ρ.set c (.v (.ls (ts.set n (.ls (cur.map .int)))) k)) σ (L2.upd H pr (.lst (cur.map V.int))) ψ Y :=
                    R.nest ec c1 c2 m1 ow1 q2 q3 ⟨p0, xs, G, rfl, q5 cur hc cG, hz, by rw [upd_ne npr]; exact hp0, hpf0, rfl⟩
                  have R2 := (R1.junk (i := r) (σ' := σ.set r (some (.ref pr))) (by rw [List.length_set]) fun m h => List.getElem?_set_ne (Ne.symm h)).junk (i := b) (σ' := σj) (by rw [List.length_set]; exact hls) fun m h => by
                    by_cases e : m = r
                    · subst e
                      rw [hr, List.getElem?_set_self hrl]
                    · rw [List.getElem?_set_ne (Ne.symm e)]
                      exact hoth m e h
                  exact ⟨H0, fd, B, _, _, Y, R2, g⟩
end
end VL

set_option Elab.async false
set_option linter.all false
set_option maxRecDepth 100000
set_option maxHeartbeats 4000000
/-! VL26: slots forgotten and levels zeroed, but for one slot that keeps its level -/
namespace VL
open PySem PySem.Spec PyProof.Rows L2
def keepE (ds : List Nat) (k : Nat) (ρ : En) : En := match ρ[k]? with
  | some s => (wipeE ds ρ).set k s
  | none => wipeE ds ρ
theorem keep_get (ds : List Nat) (k : Nat) (ρ : En) (j : Nat) : (keepE ds k ρ)[j]? = if k = j then ρ[k]? else (wipeE ds ρ)[j]? := by
  have hl : (wipeE ds ρ).length = ρ.length := wipe_len ds ρ
  unfold keepE
  cases e : ρ[k]? with
  | none =>
    by_cases c : k = j
    · subst c
      rw [if_pos rfl, wipeE_get, e]; split <;> rfl
    · rw [if_neg c]
  | some s =>
    have hk : k < ρ.length := (List.getElem?_eq_some_iff.mp e).1
    show ((wipeE ds ρ).set k s)[j]? = _
    rw [List.getElem?_set]
    by_cases c : k = j
    · rw [if_pos c, if_pos c, if_pos (by rw [hl]; exact hk)]
    · rw [if_neg c, if_neg c]
theorem keep_cong {ds : List Nat} {k : Nat} {ρ ρ' : En} (h1 : wipeE ds ρ' = wipeE ds ρ) (h2 : ρ'[k]? = ρ[k]?) : keepE ds k ρ' = keepE ds k ρ := by
  unfold keepE
  rw [h1, h2]
theorem wipe_keep {ds : List Nat} {k : Nat} (ρ : En) : wipeE ds (keepE ds k ρ) = wipeE ds ρ := List.ext_getElem? fun j => by
  rw [wipeE_get, keep_get]
  by_cases c : k = j
  · subst c
    rw [if_pos rfl, wipeE_get]
  · rw [if_neg c, wipeE_get]
    by_cases m : j ∈ ds
    · rw [if_pos m, if_pos m]
      cases ρ[j]? <;> rfl
    · rw [if_neg m, if_neg m]
      cases ρ[j]? with
      | none => rfl
      | some s => simp [zero_zero]
theorem keep_at (ds : List Nat) (k : Nat) (ρ : En) : (keepE ds k ρ)[k]? = ρ[k]? := by rw [keep_get, if_pos rfl]
theorem keep_keep {ds ds' : List Nat} {k : Nat} (h : ∀ i ∈ ds, i ∈ ds') (ρ : En) : keepE ds' k (keepE ds k ρ) = keepE ds' k ρ := keep_cong (by rw [← wipe_wipe h (keepE ds k ρ), wipe_keep, wipe_wipe h]) (keep_at ds k ρ)
theorem low_at {k n : Nat} {rd : RD} {ρ : En} (h : ∀ p ∈ rd, p.1 ≠ k) : (lowIf n rd ρ)[k]? = ρ[k]? := by
  unfold lowIf
  split
  · rfl
  · induction rd generalizing ρ with
    | nil => rfl
    | cons p r ih =>
      obtain ⟨j, m⟩ := p
      unfold lower
      rw [ih fun q hq => h q (List.mem_cons_of_mem _ hq), capAt_at]
      have nj : ¬ k = j := fun e => h (j, m) List.mem_cons_self e.symm
      cases ρ[k]? with
      | none => rfl
      | some s => simp [nj]
theorem allM_and {α : Type} {R R' : α → Prop} : ∀ {m : M α}, allM R m → allM R' m → allM (fun a => R a ∧ R' a) m
  | .ret _, h, h2 => ⟨h, h2⟩
  | .bad, _, _ => trivial
  | .exc _ _, _, _ => trivial
  | .draw _ _, h, h2 => fun r => allM_and (h r) (h2 r)
/-! ### soundness -/
theorem Rel.keep {K : PySem.W.Frag} {H0 H : Hp} {fd B : List Addr} {ρ : En} {σ : L2.St} {ψ : List FP} {Y : List Tmp} {k : Nat} (R : Rel K H0 fd B ρ σ H ψ Y) : ∀ {ds : List Nat}, k ∉ ds → Rel K H0 fd B (keepE ds k ρ) σ H (wipeP ds ψ) Y
  | [], _ => R.weak (by
      unfold keepE
      split
      · rw [List.length_set, wipe_len]
      · rw [wipe_len]) fun i s h => by
    rw [keep_get] at h
    by_cases c : k = i
    · subst c
      rw [if_pos rfl] at h
      exact ⟨s, h, SlLe.refl _⟩
    · rw [if_neg c] at h
      have h : (ρ.map zeroS)[i]? = some s := h
      rw [List.getElem?_map] at h
      cases e : ρ[i]? with
      | none => rw [e] at h; cases h
      | some s' =>
        rw [e] at h
        cases h
        refine ⟨s', rfl, ?_⟩
        cases s' with
        | no => exact SlLe.refl _
        | feed => exact SlLe.refl _
        | v t k => exact ⟨rfl, Nat.zero_le _⟩
  | d :: ds, hk => by
    have nk : k ≠ d := fun e => hk (by rw [e]; exact List.mem_cons_self)
    have e : keepE (d :: ds) k ρ = (keepE ds k ρ).set d .no := by
      unfold keepE
      cases ρ[k]? with
      | none => rfl
      | some s =>
        show ((wipeE ds ρ).set d .no).set k s = ((wipeE ds ρ).set k s).set d .no
        rw [List.set_comm _ _ (Ne.symm nk)]
    rw [e]
    exact (Rel.keep R fun z => hk (List.mem_cons_of_mem _ z)).kill (i := d)
def sNrm1 (ds : List Nat) (k : Nat) (s : Sx) : Sx := fun ρ => s (keepE ds k ρ)
section
variable {X : Cx} {W : WH}
theorem vs_nrm1 {st : Stmt} {s : Sx} (ds : List Nat) (k : Nat) (h : VS X W st s) (hk : k ∉ ds := by decide) : VS X W st (sNrm1 ds k s) := ps_imp h fun D σ H q => by
  obtain ⟨H0, fd, B, ρ, ψ, Y, R, g⟩ := q
  exact ⟨H0, fd, B, _, _, Y, R.keep hk, g⟩
theorem vss_nrm1 {st : List Stmt} {s : Sx} (ds : List Nat) (k : Nat) (h : VSs X W st s) (hk : k ∉ ds := by decide) : VSs X W st (sNrm1 ds k s) := pss_imp h fun D σ H q => by
  obtain ⟨H0, fd, B, ρ, ψ, Y, R, g⟩ := q
  exact ⟨H0, fd, B, _, _, Y, R.keep hk, g⟩
end
/-! ### a slot that a statement leaves as it is, level and all -/
def FkP (k : Nat) (ρ : En) : Fl → Prop
  | .nx ρ' => ρ'[k]? = ρ[k]?
  | .bk ρ' => ρ'[k]? = ρ[k]?
  | .ct ρ' => ρ'[k]? = ρ[k]?
  | .rt _ _ => True
def Fk (k : Nat) (s : Sx) : Prop := ∀ ρ, allM (FkP k ρ) (s ρ)
theorem FkP.eq {k : Nat} {ρ ρ1 : En} (e : ρ1[k]? = ρ[k]?) : ∀ {fl : Fl}, FkP k ρ1 fl → FkP k ρ fl
  | .nx _, h => h.trans e
  | .bk _, h => h.trans e
  | .ct _, h => h.trans e
  | .rt _ _, _ => trivial
section
variable {k : Nat}
theorem fk_skip : Fk k sSkip := fun ρ => rfl
theorem fk_ret {a : Ex} : Fk k (sRet a) := fun ρ => allM_bind (allM_any (fun _ => trivial) _)
theorem fk_seq {s t : Sx} (h1 : Fk k s) (h2 : Fk k t) : Fk k (sSeq s t) := fun ρ => allM_bind (allM_imp (fun fl h => by
  cases fl with
  | nx ρ' => exact allM_imp (fun fl h' => FkP.eq h h') (h2 ρ')
  | bk ρ' => exact h
  | ct ρ' => exact h
  | rt t k => exact h) (h1 ρ))
theorem fk_if {c : Tx} {s t : Sx} (h1 : Fk k s) (h2 : Fk k t) : Fk k (sIf c s t) := fun ρ => allM_bind (allM_any (fun b => by
  cases b
  · exact h2 ρ
  · exact h1 ρ) _)
theorem fk_asg {i : Nat} {rd : RD} {a : Ex} (hi : i ≠ k) (hr : ∀ p ∈ rd, p.1 ≠ k) : Fk k (sAsg i rd a) := fun ρ => allM_bind (allM_any (fun r => by
  show ((lowIf r.2 rd ρ).set i _)[k]? = ρ[k]?
  rw [List.getElem?_set_ne hi, low_at hr]) _)
end
theorem for_nrm1 {E : Nat → Tr → Prop} {ds : List Nat} {k : Nat} {rd : RD} {src : En → M (List Tr × Nat)} {i : Nat} {b : Sx} {ρ : En} {Q : Fl → Prop} (hi : i ∈ ds) (hk : k ∉ ds) (hr : ∀ p ∈ rd, p.1 ≠ k) (hs : good E (src ρ) fun _ => True) (hf : Fr ds b) (hk2 : Fk k b) (hb : good E (b (keepE ds k ρ)) fun fl => isNx fl = true)
    (hq : ∀ ρ', keepE ds k ρ' = keepE ds k ρ → Q (.nx ρ')) : good E (sFor rd src (gN i) (sNrm1 ds k b) ρ) Q := good_bind.mpr (good_imp hs fun r _ => by
  have nik : i ≠ k := fun e => hk (by rw [← e]; exact hi)
  refine good_loop (I := fun ρ' => keepE ds k ρ' = keepE ds k ρ) (keep_cong (wipe_low ds _ _ ρ) (low_at hr)) (fun t _ ρ1 h1 => ?_) hq
  show good E (b (keepE ds k (ρ1.set i _))) _
  rw [keep_cong (wipe_set hi ρ1 _) (List.getElem?_set_ne nik), h1]
  refine good_imp (good_and hb (allM_and (hf (keepE ds k ρ)) (hk2 (keepE ds k ρ)))) fun fl h => ?_
  have fin : ∀ {ρ' : En}, wipeE ds ρ' = wipeE ds (keepE ds k ρ) → ρ'[k]? = (keepE ds k ρ)[k]? → keepE ds k ρ' = keepE ds k ρ := fun a b => keep_cong (a.trans (wipe_keep ρ)) (b.trans (keep_at ds k ρ))
  cases fl with
  | nx ρ' => exact fin h.2.1 h.2.2
  | ct ρ' => exact fin h.2.1 h.2.2
  | bk ρ' => exact nomatch h.1
  | rt t k => exact nomatch h.1)
theorem gd_for1 {u t b : Sx} {ds : List Nat} {k : Nat} {rd : RD} {src : En → M (List Tr × Nat)} {i : Nat} {ρ : En} {Q : Fl → Prop} (hu : u = sSeq (sFor rd src (gN i) (sNrm1 ds k b)) t) (hi : i ∈ ds) (hk : k ∉ ds) (hr : ∀ p ∈ rd, p.1 ≠ k) (hs : good (fun _ _ => False) (src ρ) fun _ => True) (hf : Fr ds b) (hk2 : Fk k b) (hb : Gd b (keepE ds k ρ) fun fl => isNx fl = true)
    (hq : ∀ ρ', keepE ds k ρ' = keepE ds k ρ → Gd t ρ' Q) : Gd u ρ Q := ⟨by
  rw [hu]
  exact good_seq (for_nrm1 hi hk hr hs hf hk2 hb.ok fun ρ' e => (hq ρ' e).ok)⟩
theorem gd_nrm1 {u s : Sx} {ds : List Nat} {k : Nat} {ρ ρ2 : En} {Q : Fl → Prop} (hu : u = sNrm1 ds k s) (e : keepE ds k ρ = ρ2) (g : Gd s ρ2 Q) : Gd u ρ Q := ⟨by
  rw [hu]
  show good _ (s (keepE ds k ρ)) Q
  rw [e]; exact g.ok⟩
theorem gd_body {b : Sx} {ρ : En} (h : chk isNx (b ρ) = true) : Gd b ρ fun fl => isNx fl = true := ⟨chk_good h⟩
end VL

set_option Elab.async false
set_option linter.all false
set_option maxRecDepth 100000
set_option maxHeartbeats 4000000
/-! VL27: a def told by a table -/
namespace VL
open PySem PySem.Spec PyProof.Rows L2
def lookT (t : Tr) : List (Tr × Tr) → Option Tr
  | [] => none
  | p :: r => if beqT p.1 t then some p.2 else lookT t r
theorem lookT_ok {t z : Tr} : ∀ {l : List (Tr × Tr)}, lookT t l = some z → ∃ p ∈ l, p.1 = t ∧ p.2 = z
  | [], h => by cases h
  | p :: r, h => by
    unfold lookT at h
    by_cases c : beqT p.1 t = true
    · rw [if_pos c] at h
      exact ⟨p, List.mem_cons_self, beqT_eq c, Option.some.inj h⟩
    · rw [if_neg c] at h
      obtain ⟨q, m, e⟩ := lookT_ok h
      exact ⟨q, List.mem_cons_of_mem _ m, e⟩
def spA (tbl : List (Tr × Tr)) (G : Fn) : Fn := fun ts => match lookT (.ls ts) tbl with
  | some z => .ret (z, 99)
  | none => G ts
def resIs (z : Tr) : M (Tr × Nat) → Bool
  | .ret (y, n) => beqT y z && Nat.beq n 99
  | _ => false
theorem resIs_eq {z : Tr} : ∀ {m : M (Tr × Nat)}, resIs z m = true → m = .ret (z, 99)
  | .ret (y, n), h => by
    obtain ⟨h1, h2⟩ := Bool.and_eq_true_iff.mp h
    rw [beqT_eq h1, Nat.eq_of_beq_eq_true h2]
  | .bad, h => by cases h
  | .exc _ _, h => by cases h
  | .draw _ _, h => by cases h
def ckE (G : Fn) (p : Tr × Tr) : Bool := match p.1 with
  | .ls ts => resIs p.2 (G ts)
  | _ => false
theorem spA_eq {tbl : List (Tr × Tr)} {G : Fn} (h : allL tbl (ckE G) = true) : spA tbl G = G := funext fun ts => by
  unfold spA
  cases e : lookT (.ls ts) tbl with
  | none => rfl
  | some z =>
    obtain ⟨p, m, e1, e2⟩ := lookT_ok e
    have := allL_ok h p m
    unfold ckE at this
    rw [e1] at this
    subst e2
    exact (resIs_eq this).symm
theorem refn_spA {tbl : List (Tr × Tr)} {G : Fn} (h : allL tbl (ckE G) = true) : Refn (spA tbl G) G := by
  rw [spA_eq h]
  exact fun _ _ g => g
theorem allL_app {α : Type} {f : α → Bool} : ∀ {a b : List α}, allL a f = true → allL b f = true → allL (a ++ b) f = true
  | [], _, _, h => h
  | x :: a, b, h, h2 => by
    obtain ⟨h1, h3⟩ := Bool.and_eq_true_iff.mp (show (f x && allL a f) = true from h)
    show (f x && allL (a ++ b) f) = true
    rw [h1, allL_app h3 h2]; rfl
end VL

set_option Elab.async false
set_option linter.all false
set_option maxRecDepth 100000
set_option maxHeartbeats 4000000
/-! VL28: x.extend(e) of flat things; a list of lists spoilt and forgotten -/
namespace VL
open PySem PySem.Spec PyProof.Rows L2
/-- the list at slot i has other items, over the same nodes -/
theorem Rel.mutG {K : PySem.W.Frag} {H0 H : Hp} {fd B : List Addr} {ρ : En} {σ : L2.St} {ψ : List FP} {Y : List Tmp} {i k : Nat} {ts ts' : List Tr} {xs xs' : List V} {G : FP} {p : Addr} (R : Rel K H0 fd B ρ σ H ψ Y) (hi : ρ[i]? = some (.v (.ls ts) k)) (hk : 1 ≤ k) (hψ : ψ[i]? = some ((0, p) :: up G)) (hσ : σ[i]? = some (some (.ref p))) (hp : H p = some (.lst xs)) (hpf : p ∉ fd)
    (hl : RepL K H fd ts' xs' G) (hz : xs'.length ≤ sizeLine) : Rel K H0 fd B (ρ.set i (.v (.ls ts') k)) σ (L2.upd H p (.lst xs')) (ψ.set i ((0, p) :: up G)) Y := by
  obtain ⟨o1, o2, o3, o4⟩ := R.own i _ k _ 0 p hi hψ List.mem_cons_self (.inl hk)
  have sub : ∀ c, c ∈ ads G → c ∈ ads ((0, p) :: up G) := fun c m => by
    show c ∈ p :: ads (up G)
    rw [ads_up]; exact List.mem_cons_of_mem _ m
  have cnt : ∀ c, (ads G).count c ≤ (ads ((0, p) :: up G)).count c := fun c => by
    show _ ≤ List.count c (p :: ads (up G))
    rw [ads_up, List.count_cons]; omega
  have nG : p ∉ ads G := fun m => by
    have h1 : 1 ≤ (ads G).count p := List.count_pos_iff.mpr m
    have h2 : (ads ((0, p) :: up G)).count p = (ads G).count p + 1 := by
      show List.count p (p :: ads (up G)) = _
      rw [List.count_cons_self, ads_up]
    omega
  refine R.mut hi hk hψ hσ hp hpf hl hz nG (fun j t' k' G' d c hj h hG m o m2 => ?_) (fun d c m o => ?_) (fun c m => R.dom c (.inl ⟨_, List.mem_of_getElem? hψ, sub c m⟩))
  · exact (R.own j t' k' G' d c h hG m o).2.1 i _ (Ne.symm hj) hψ (sub c m2)
  · obtain ⟨u1, u2, u3, u4⟩ := R.own i _ k _ (d + 1) c hi hψ (List.mem_cons_of_mem _ (mem_up.mpr ⟨d, rfl, m⟩)) o
    exact ⟨u1, u2, u3, Nat.le_trans (cnt c) u4⟩
section
variable {X : Cx} {W : WH}
theorem vs_ext {i : Nat} {x : Str} {e : Expr} {s : Ex} {rd : RD} {p apos cpos pos : Pos} (hv : PE X (.Name x p) (tVar i)) (he : VE X W e s rd)
    (hs : swapsWith (.Call (.Attribute (.Name x p) "extend" apos) [e] [] cpos) none pos.line X.env = pure false := by rfl)
    (hbase : attributeBase (.Name x p) "extend" X.env (eval (.Name x p) X.env) = eval (.Name x p) X.env := by rfl)
    (hfew : ((backTo cpos (starEach [e] X.env)).all (fun x => !x.1) && (backToKw cpos (keywordEach [] X.env)).all (fun x => x.1.isSome) && decide (([e] : List Expr).length + ([] : List Keyword).length + (if ([] : List Keyword).isEmpty then 0 else 1) < 30)) = true := by rfl)
    (hline : (apos.endLine == cpos.line) = true := by rfl) (hst : starEach (e :: []) X.env = (false, eval e X.env) :: starEach [] X.env := by rfl) (hplain : (backTo cpos (starEach [] X.env)).any (·.1) = false := by rfl) :
    VS X W (.Expr (.Call (.Attribute (.Name x p) "extend" apos) [e] [] cpos) pos) (sExt i s) := by
  refine ps_imp (ps_expr (pe_bm PySem.F.plainAttrs_list PySem.F.slot_list_extend PySem.F.type_list_extend mt_extend hv (pa_cons he pa_nil hst) hbase hfew hline hst hplain) hs) fun D σ H q => ?_
  obtain ⟨H0, fd, B, ρ, ψ, Y, R, g⟩ := q
  unfold sExt at g
  obtain ⟨c0, g⟩ := if_good g
  obtain ⟨ts, k, hslot⟩ := isLs_of c0
  have g := good_bind.mp g
  obtain ⟨v, F, h1, h2, h3⟩ := R.rep i _ k hslot
  obtain ⟨p0, xs, G, rfl, hl, hz, hp, hpf, rfl⟩ := rep_ls h3
  refine ⟨_, h1, .inl ⟨rfl, _, SqL.of hp⟩, H0, fd, B, ρ, ψ, Y, R, good_imp g fun r g1 y H2 F2 a => ?_⟩
  have R2 := R.grow a.ext a.fok
  rw [hslot] at g1
  obtain ⟨t, kr⟩ := r
  cases t <;> first | exact g1.elim | skip
  rename_i us
  have g1 : good (W H0 fd) (if (Nat.ble 1 k && Nat.ble 99 kr) && (flatL us && Nat.ble (ts.length + us.length) 16777216) then M.ret (Fl.nx (ρ.set i (.v (.ls (ts ++ us)) k))) else .bad) _ := g1
  obtain ⟨c, g2⟩ := if_good g1
  obtain ⟨c1, c2⟩ := Bool.and_eq_true_iff.mp c
  obtain ⟨c1, _⟩ := Bool.and_eq_true_iff.mp c1
  obtain ⟨c3, c4⟩ := Bool.and_eq_true_iff.mp c2
  obtain ⟨b, zs, G2, rfl, hl2, hz2, hb, hbf, rfl⟩ := rep_ls a.rep
  have hG2 : G2 = [] := hl2.flat c3
  subst hG2
  have hp2 : H2 p0 = some (.lst xs) := a.ext p0 _ hp hpf
  have hl3 : RepL X.K H2 fd ts xs G := hl.extL a.ext R.fok
  have hlen : (xs ++ zs).length ≤ sizeLine := by
    rw [List.length_append, ← hl.length, ← hl2.length, sizeLine_eq]
    exact Nat.le_of_ble_eq_true c4
  refine ⟨p0, b, xs, zs, rfl, rfl, hp2, hb, by rw [List.length_append] at hlen; exact hlen, ?_⟩
  refine g2 σ _ _ (R2.mutG hslot (Nat.le_of_ble_eq_true c1) h2 h1 hp2 hpf ?_ hlen)
  have := hl3.append hl2
  rwa [List.append_nil] at this
end
end VL

set_option Elab.async false
set_option linter.all false
set_option maxRecDepth 100000
set_option maxHeartbeats 4000000
/-! VL29: for line in x: line.append(c); x.append([]); x not asked any more -/
namespace VL
open PySem PySem.Spec PyProof.Rows L2
section
variable {X : Cx} {W : WH}
theorem FeedOk.same {fd : List Addr} {H H' : Hp} (f : FeedOk fd H) (h : ∀ a ∈ fd, H' a = H a) : FeedOk fd H' := by
  rcases f with rfl | ⟨a, s, ns, p, c, x, rfl, n, h1, h2, r⟩
  · exact .inl rfl
  · exact .inr ⟨a, s, ns, p, c, x, rfl, n, (h a List.mem_cons_self).trans h1, (h s (List.mem_cons_of_mem _ List.mem_cons_self)).trans h2, r⟩
theorem Rel.same {K : PySem.W.Frag} {H0 H H' : Hp} {fd B : List Addr} {ρ : En} {σ : L2.St} {ψ : List FP} {Y : List Tmp} (R : Rel K H0 fd B ρ σ H ψ Y) (hψ : ∀ (j : Nat) F, ψ[j]? = some F → ∀ d a, (d, a) ∈ F → H' a = H a) (hY : ∀ y, y ∈ Y → ∀ d a, (d, a) ∈ y.2.2 → H' a = H a)
    (ht : ∀ a o, H a = some o → (∀ xs, o ≠ .lst xs) → H' a = some o) (hx : ExtF fd H0 H') (hf : FeedOk fd H') : Rel K H0 fd B ρ σ H' ψ Y := by
  have kp : ∀ {F : FP}, (∀ d a, (d, a) ∈ F → H' a = H a) → Keeps fd F H H' := fun h => ⟨h, fun a xs e => ht a _ e (fun _ z => by cases z), fun a o u e => ht a _ e (fun _ z => by cases z), fun a o xs e => ht a _ e (fun _ z => by cases z)⟩
  exact ⟨R.lns, R.lnp, fun i t k h => (let ⟨v, F, h1, h2, h3⟩ := R.rep i t k h; ⟨v, F, h1, h2, h3.keeps (kp (hψ i F h2))⟩), R.dead, R.fed, fun y hy => (R.tmp y hy).keeps (kp (hY y hy)), R.own, R.dom, hx, hf⟩
def rowsOk (m : Nat) : List Tr → Bool
  | [] => true
  | .ls rs :: r => Nat.ble (rs.length + m) 16777216 && rowsOk m r
  | _ => false
theorem rows_at {K : PySem.W.Frag} {H : Hp} {fd : List Addr} {m : Nat} : ∀ {ts : List Tr} {xs : List V} {G : FP}, RepL K H fd ts xs G → rowsOk m ts = true → ∀ x ∈ xs, ∃ pr ys, x = .ref pr ∧ H pr = some (.lst ys) ∧ pr ∉ fd ∧ (0, pr) ∈ G ∧ ys.length + m ≤ sizeLine
  | [], _, _, r, _, x, hx => by rw [r.1] at hx; cases hx
  | t :: ts, _, _, r, c, x, hx => by
    obtain ⟨v, ys, G1, G2, rfl, h1, h2, rfl⟩ := r
    cases t <;> first | cases c | skip
    rename_i rs
    obtain ⟨c1, c2⟩ := Bool.and_eq_true_iff.mp (show (Nat.ble (rs.length + m) 16777216 && rowsOk m ts) = true from c)
    rcases List.mem_cons.mp hx with rfl | hx
    · obtain ⟨pr, zs, G3, rfl, hl, hz, hp, hpf, rfl⟩ := rep_ls h1
      refine ⟨pr, zs, rfl, hp, hpf, List.mem_append_left _ List.mem_cons_self, ?_⟩
      rw [← hl.length, sizeLine_eq]
      exact Nat.le_of_ble_eq_true c1
    · obtain ⟨pr, zs, q1, q2, q3, q4, q5⟩ := rows_at h2 c2 x hx
      exact ⟨pr, zs, q1, q2, q3, List.mem_append_right _ q4, q5⟩
def sSpoil (t l : Nat) : Sx := fun ρ => match ρ[t]? with
  | some (.v (.ls ts) k) => if (Nat.ble 2 k && Nat.blt l ρ.length) && (rowsOk ts.length ts && Nat.blt ts.length 16777216) then .ret (.nx ((ρ.set t .no).set l .no)) else .bad
  | _ => .bad
theorem vss_spoil {st1 st2 : Stmt} {rest : List Stmt} {u : Sx} {t l : Nat} {c : V}
    (h1 : PS X st1 (tFor (iAny X.K (tVar t)) (gName l) (tDrop (tBM X.K "list" rAppend (tVar l) (tCons (tC c) tNil)))))
    (h2 : PS X st2 (tDrop (tBM X.K "list" rAppend (tVar t) (tCons (tLst tNil) tNil))))
    (h3 : VSs X W rest u) (n1 : t ≠ l := by decide) : VSs X W (st1 :: st2 :: rest) (sSeq (sSpoil t l) u) := pss_imp (pss_cons h1 (pss_cons h2 h3)) fun D σ H q => by
  obtain ⟨H0, fd, B, ρ, ψ, Y, R, g⟩ := q
  have g := good_bind.mp g
  unfold sSpoil at g
  cases et : ρ[t]? with
  | none => rw [et] at g; exact g.elim
  | some s =>
    rw [et] at g
    cases s with
    | no => exact g.elim
    | feed => exact g.elim
    | v tt k =>
      cases tt <;> first | exact g.elim | skip
      rename_i ts
      have g : good (W H0 fd) (if (Nat.ble 2 k && Nat.blt l ρ.length) && (rowsOk ts.length ts && Nat.blt ts.length 16777216) then M.ret (Fl.nx ((ρ.set t .no).set l .no)) else .bad) _ := g
      obtain ⟨ck, g⟩ := if_good g
      obtain ⟨ck1, ck2⟩ := Bool.and_eq_true_iff.mp ck
      obtain ⟨ca, cb⟩ := Bool.and_eq_true_iff.mp ck1
      obtain ⟨cr, cl⟩ := Bool.and_eq_true_iff.mp ck2
      have hk : 2 ≤ k := Nat.le_of_ble_eq_true ca
      have hll : l < σ.length := by rw [R.lns]; exact Nat.le_of_ble_eq_true cb
      obtain ⟨vt, F, t1, t2, t3⟩ := R.rep t _ k et
      obtain ⟨p0, xs, G, rfl, hl, hz, hp0, hpf0, rfl⟩ := rep_ls t3
      have hrows := rows_at hl cr
      have hn : ts.length = xs.length := hl.length
      have hlt : xs.length < sizeLine := by
        rw [← hn, sizeLine_eq]
        exact Nat.le_of_ble_eq_true cl
      obtain ⟨o1, o2, o3, o4⟩ := R.own t _ k _ 0 p0 et t2 List.mem_cons_self (.inl (by omega))
      have np0 : ∀ pr, V.ref pr ∈ xs → pr ≠ p0 := fun pr hm e => by
        subst e
        obtain ⟨pr', ys, e1, _, _, q4, _⟩ := hrows _ hm
        cases e1
        have c1 : (ads ((0, pr) :: up G)).count pr = (ads G).count pr + 1 := by
          show List.count pr (pr :: ads (up G)) = _
          rw [List.count_cons_self, ads_up]
        have := List.count_pos_iff.mpr (mem_ads.mpr ⟨0, q4⟩)
        omega
      have own1 : ∀ pr, V.ref pr ∈ xs → H0 pr = none ∧ (∀ (j : Nat) G', j ≠ t → ψ[j]? = some G' → pr ∉ ads G') ∧ ∀ y ∈ Y, pr ∉ ads y.2.2 := fun pr hm => by
        obtain ⟨pr', ys, e1, _, _, q4, _⟩ := hrows _ hm
        cases e1
        obtain ⟨w1, w2, w3, _⟩ := R.own t _ k _ 1 pr et t2 (List.mem_cons_of_mem _ (mem_up.mpr ⟨0, rfl, q4⟩)) (.inl (by omega))
        exact ⟨w1, w2, w3⟩
      refine ⟨_, t1, .inl ⟨p0, rfl, ⟨_, SqL.of hp0⟩, ?_⟩⟩
      refine for_list (xs := xs) (fun i σi Hi => i ≤ xs.length ∧ (∀ b, V.ref b ∉ xs → Hi b = H b) ∧ (∀ b, V.ref b ∈ xs → ∃ ys, Hi b = some (.lst ys) ∧ ys.length + (xs.length - i) ≤ sizeLine) ∧ σi.length = σ.length ∧ ∀ m : Nat, m ≠ l → σi[m]? = σ[m]?) ⟨Nat.zero_le _, fun _ _ => rfl, fun b hb => ?_, rfl, fun _ _ => rfl⟩ ?_ ?_ ?_
      · obtain ⟨pr, ys, e1, e2, _, _, q5⟩ := hrows _ hb
        cases e1
        exact ⟨ys, e2, by rw [Nat.sub_zero, ← hn]; exact q5⟩
      · intro i σi Hi _ hi
        refine SqL.of ?_
        rw [hi.2.1 p0 fun hm => np0 p0 hm rfl]
        exact hp0
      · intro i x σi Hi hx hi
        obtain ⟨hil, hoff, hrow, hls, hoth⟩ := hi
        have hm : x ∈ xs := List.mem_of_getElem? hx
        have hlt' : i < xs.length := (List.getElem?_eq_some_iff.mp hx).1
        obtain ⟨pr, ys0, rfl, _, _, _, _⟩ := hrows x hm
        obtain ⟨ys, ey, hy⟩ := hrow pr hm
        have sl : (σi.set l (some (.ref pr)))[l]? = some (some (.ref pr)) := List.getElem?_set_self (by rw [hls]; exact hll)
        refine ⟨_, sl, .inl ⟨rfl, _, SqL.of ey⟩, pr, ys, c, rfl, rfl, ey, by omega, hlt', fun b hb => ?_, fun b hb => ?_, by rw [List.length_set]; exact hls, fun m h => by rw [List.getElem?_set_ne (Ne.symm h)]; exact hoth m h⟩
        · rw [upd_ne (fun z => hb (by rw [z]; exact hm))]
          exact hoff b hb
        · by_cases e : b = pr
          · subst e
            exact ⟨_, upd_same, by rw [List.length_append]; show ys.length + 1 + (xs.length - (i + 1)) ≤ sizeLine; omega⟩
          · obtain ⟨zs, e1, e2⟩ := hrow b hb
            exact ⟨zs, by rw [upd_ne e]; exact e1, by omega⟩
      · intro σn Hn hi
        obtain ⟨_, hoff, hrow, hls, hoth⟩ := hi
        have hp0n : Hn p0 = some (.lst xs) := (hoff p0 fun hm => np0 p0 hm rfl).trans hp0
        refine ⟨_, (hoth t n1).trans t1, .inl ⟨rfl, _, SqL.of hp0n⟩, Nat.zero_le _, fun p1 hp1 => ?_⟩
        have n10 : p0 ≠ p1 := fun z => by subst z; rw [hp0n] at hp1; cases hp1
        have n1r : V.ref p1 ∉ xs := fun hm => by
          obtain ⟨ys, e, _⟩ := hrow p1 hm
          rw [hp1] at e; cases e
        have hp1H : H p1 = none := by rw [← hoff p1 n1r]; exact hp1
        refine ⟨p0, xs, .ref p1, rfl, rfl, by rw [upd_ne n10]; exact hp0n, hlt, ?_⟩
        have offH : ∀ b, b ≠ p0 → b ≠ p1 → V.ref b ∉ xs → L2.upd (L2.upd Hn p1 (.lst [])) p0 (.lst (xs ++ [.ref p1])) b = H b := fun b h1 h2 h3 => by
          rw [upd_ne h1, upd_ne h2]
          exact hoff b h3
        have Rk := ((R.kill (i := t)).junk (i := l) (σ' := σn) hls fun j h => hoth j h)
        refine ⟨H0, fd, B, _, _, Y, Rk.same (fun j F h d a m => ?_) (fun y hy d a m => ?_) (fun a o e n => ?_) (fun b o e n => ?_) (R.fok.same fun a m => ?_), g⟩
        · have hj : j ≠ t ∧ ψ[j]? = some F := by
            by_cases e : l = j
            · subst e
              have hlen : l < ((ψ.set t []).set l []).length := (List.getElem?_eq_some_iff.mp h).1
              rw [List.getElem?_set_self (by simpa using hlen)] at h
              cases h; cases m
            · rw [List.getElem?_set_ne e] at h
              by_cases e2 : t = j
              · subst e2
                have hlen : t < (ψ.set t []).length := (List.getElem?_eq_some_iff.mp h).1
                rw [List.getElem?_set_self (by simpa using hlen)] at h
                cases h; cases m
              · rw [List.getElem?_set_ne e2] at h
                exact ⟨Ne.symm e2, h⟩
          have ma : a ∈ ads F := mem_ads.mpr ⟨d, m⟩
          obtain ⟨⟨zs, ez⟩, _⟩ := R.nodeψ hj.2 ma
          refine offH a (fun z => o2 j F hj.1 hj.2 (by rw [← z]; exact ma)) (fun z => by rw [z, hp1H] at ez; cases ez) fun z => (own1 a z).2.1 j F hj.1 hj.2 ma
        · have ma : a ∈ ads y.2.2 := mem_ads.mpr ⟨d, m⟩
          obtain ⟨⟨zs, ez⟩, _⟩ := R.nodeY hy ma
          exact offH a (fun z => o3 y hy (by rw [← z]; exact ma)) (fun z => by rw [z, hp1H] at ez; cases ez) fun z => (own1 a z).2.2 y hy ma
        · rw [offH a (fun z => by rw [z, hp0] at e; cases e; exact n _ rfl) (fun z => by rw [z, hp1H] at e; cases e) fun z => by
            obtain ⟨pr, ys, e1, e2, _⟩ := hrows _ z
            cases e1
            rw [e2] at e; cases e; exact n _ rfl]
          exact e
        · have eb := R.ext b o e n
          rw [offH b (fun z => by rw [z, o1] at e; cases e) (fun z => by rw [z, hp1H] at eb; cases eb) fun z => by rw [(own1 b z).1] at e; cases e]
          exact eb
        · refine offH a (fun z => hpf0 (by rw [← z]; exact m)) (fun z => ?_) fun z => ?_
          · obtain ⟨zs, ez⟩ := R.fok.lst m
            rw [z, hp1H] at ez; cases ez
          · obtain ⟨pr, ys, e1, _, e3, _⟩ := hrows _ z
            cases e1
            exact e3 m
end
end VL

set_option Elab.async false
set_option linter.all false
set_option maxRecDepth 100000
set_option maxHeartbeats 4000000
/-! VL30: x.append(y), y not asked any more: what y owns goes over -/
namespace VL
open PySem PySem.Spec PyProof.Rows L2
section
variable {X : Cx} {W : WH}
def sAppV (i j : Nat) : Sx := fun ρ => match ρ[i]?, ρ[j]? with
  | some (.v (.ls ts) k), some (.v t kj) => if Nat.ble 1 k && Nat.blt ts.length 16777216 then .ret (.nx ((ρ.set j .no).set i (.v (.ls (ts ++ [t])) (if Nat.ble 99 kj then k else if Nat.ble k 1 then k else 1)))) else .bad
  | _, _ => .bad
theorem vs_appV {i j : Nat} {x y : Str} {p py apos cpos pos : Pos} (hv : PE X (.Name x p) (tVar i)) (hy : PE X (.Name y py) (tVar j)) (hij : i ≠ j := by decide)
    (hs : swapsWith (.Call (.Attribute (.Name x p) "append" apos) [.Name y py] [] cpos) none pos.line X.env = pure false := by rfl)
    (hbase : attributeBase (.Name x p) "append" X.env (eval (.Name x p) X.env) = eval (.Name x p) X.env := by rfl)
    (hfew : ((backTo cpos (starEach [.Name y py] X.env)).all (fun x => !x.1) && (backToKw cpos (keywordEach [] X.env)).all (fun x => x.1.isSome) && decide (([.Name y py] : List Expr).length + ([] : List Keyword).length + (if ([] : List Keyword).isEmpty then 0 else 1) < 30)) = true := by rfl)
    (hline : (apos.endLine == cpos.line) = true := by rfl) (hst : starEach (.Name y py :: []) X.env = (false, eval (.Name y py) X.env) :: starEach [] X.env := by rfl) (hplain : (backTo cpos (starEach [] X.env)).any (·.1) = false := by rfl) :
    VS X W (.Expr (.Call (.Attribute (.Name x p) "append" apos) [.Name y py] [] cpos) pos) (sAppV i j) := by
  refine ps_imp (ps_expr (pe_bm PySem.F.plainAttrs_list PySem.F.slot_list_append PySem.F.type_list_append mt_append hv (pa_cons hy pa_nil hst) hbase hfew hline hst hplain) hs) fun D σ H q => ?_
  obtain ⟨H0, fd, B, ρ, ψ, Y, R, g⟩ := q
  unfold sAppV at g
  cases ei : ρ[i]? with
  | none => rw [ei] at g; exact g.elim
  | some si =>
    rw [ei] at g
    cases si with
    | no => exact g.elim
    | feed => exact g.elim
    | v ti k =>
      cases ti <;> first | exact g.elim | skip
      rename_i ts
      cases ej : ρ[j]? with
      | none => rw [ej] at g; exact g.elim
      | some sj =>
        rw [ej] at g
        cases sj with
        | no => exact g.elim
        | feed => exact g.elim
        | v t kj =>
          have g : good (W H0 fd) (if Nat.ble 1 k && Nat.blt ts.length 16777216 then M.ret (Fl.nx ((ρ.set j .no).set i (.v (.ls (ts ++ [t])) (if Nat.ble 99 kj then k else if Nat.ble k 1 then k else 1)))) else .bad) _ := g
          obtain ⟨c, g⟩ := if_good g
          obtain ⟨c1, c2⟩ := Bool.and_eq_true_iff.mp c
          have hk : 1 ≤ k := Nat.le_of_ble_eq_true c1
          obtain ⟨vi, Fi, i1, i2, i3⟩ := R.rep i _ k ei
          obtain ⟨p0, xs, G, rfl, hl, hz, hp, hpf, rfl⟩ := rep_ls i3
          obtain ⟨v, F, j1, j2, j3⟩ := R.rep j _ kj ej
          have hlen : xs.length < sizeLine := by
            rw [← hl.length, sizeLine_eq]
            exact Nat.le_of_ble_eq_true c2
          refine ⟨_, i1, .inl ⟨rfl, _, SqL.of hp⟩, v, j1, p0, xs, v, rfl, rfl, hp, hlen, ?_⟩
          have Rk := R.kill (i := j)
          have at_ : ∀ {m : Nat} {s : Sl}, (ρ.set j .no)[m]? = some s → s ≠ .no → m ≠ j ∧ ρ[m]? = some s := fun {m s} h n => by
            by_cases e : j = m
            · subst e
              have hm : j < ρ.length := by have := (List.getElem?_eq_some_iff.mp h).1; simpa using this
              rw [List.getElem?_set_self hm] at h
              exact absurd (Option.some.inj h).symm n
            · rw [List.getElem?_set_ne e] at h
              exact ⟨Ne.symm e, h⟩
          have atψ : ∀ {m : Nat} {G' : FP}, (ψ.set j [])[m]? = some G' → G' = [] ∨ (m ≠ j ∧ ψ[m]? = some G') := fun {m G'} h => by
            by_cases e : j = m
            · subst e
              have hm : j < ψ.length := by have := (List.getElem?_eq_some_iff.mp h).1; simpa using this
              rw [List.getElem?_set_self hm] at h
              exact .inl (Option.some.inj h).symm
            · rw [List.getElem?_set_ne e] at h
              exact .inr ⟨Ne.symm e, h⟩
          obtain ⟨o1, o2, o3, o4⟩ := R.own i _ k _ 0 p0 ei i2 List.mem_cons_self (.inl hk)
          have sub : ∀ a, a ∈ ads G → a ∈ ads ((0, p0) :: up G) := fun a m => by
            show a ∈ p0 :: ads (up G)
            rw [ads_up]; exact List.mem_cons_of_mem _ m
          have nG : p0 ∉ ads G := fun m => by
            have h1 : 1 ≤ (ads G).count p0 := List.count_pos_iff.mpr m
            have h2 : (ads ((0, p0) :: up G)).count p0 = (ads G).count p0 + 1 := by
              show List.count p0 (p0 :: ads (up G)) = _
              rw [List.count_cons_self, ads_up]
            omega
          have nF : p0 ∉ ads F := o2 j F (Ne.symm hij) j2
          have hi2 : (ρ.set j .no)[i]? = some (.v (.ls ts) k) := by rw [List.getElem?_set_ne (Ne.symm hij)]; exact ei
          have hψ2 : (ψ.set j [])[i]? = some ((0, p0) :: up G) := by rw [List.getElem?_set_ne (Ne.symm hij)]; exact i2
          refine g σ _ _ (Rk.mut hi2 hk hψ2 i1 hp hpf (hl.append (show RepL X.K H fd [t] [v] F from ⟨v, [], F, [], rfl, j3, ⟨rfl, rfl⟩, by simp⟩)) (by rw [List.length_append]; exact hlen) ?_ ?_ ?_ ?_)
          · rw [ads_append]
            intro z
            rcases List.mem_append.mp z with z | z
            · exact nG z
            · exact nF z
          · intro m t' k' G' d a hm h hG ma o z
            obtain ⟨mj, h'⟩ := at_ h fun z => by cases z
            rcases atψ hG with rfl | ⟨_, hG'⟩
            · cases ma
            · obtain ⟨_, w2, _, _⟩ := R.own m t' k' G' d a h' hG' ma o
              rw [ads_append] at z
              rcases List.mem_append.mp z with z | z
              · exact w2 i _ (Ne.symm hm) i2 (sub a z)
              · exact w2 j F (Ne.symm mj) j2 z
          · intro d a ma o
            have hk' : 99 ≤ kj ∧ owns (d + 1) k := by
              by_cases c9 : Nat.ble 99 kj = true
              · rw [if_pos c9] at o
                exact ⟨Nat.le_of_ble_eq_true c9, o⟩
              · rw [if_neg c9] at o
                by_cases c8 : Nat.ble k 1 = true
                · rw [if_pos c8] at o
                  have := Nat.le_of_ble_eq_true c8
                  rcases o with o | o <;> omega
                · rw [if_neg c8] at o
                  rcases o with o | o <;> omega
            obtain ⟨k9, o⟩ := hk'
            rw [ads_append, List.count_append]
            rcases List.mem_append.mp ma with ma | ma
            · obtain ⟨u1, u2, u3, u4⟩ := R.own i _ k _ (d + 1) a ei i2 (List.mem_cons_of_mem _ (mem_up.mpr ⟨d, rfl, ma⟩)) o
              refine ⟨u1, fun m G' hm hG => ?_, u3, ?_⟩
              · rcases atψ hG with rfl | ⟨_, hG'⟩
                · exact fun z => (nomatch z)
                · exact u2 m G' hm hG'
              · rw [List.count_eq_zero_of_not_mem (u2 j F (Ne.symm hij) j2)]
                have : (ads G).count a ≤ (ads ((0, p0) :: up G)).count a := by
                  show _ ≤ List.count a (p0 :: ads (up G))
                  rw [ads_up, List.count_cons]; omega
                omega
            · obtain ⟨u1, u2, u3, u4⟩ := R.own j _ kj _ d a ej j2 ma (.inr k9)
              refine ⟨u1, fun m G' hm hG => ?_, u3, ?_⟩
              · rcases atψ hG with rfl | ⟨mj, hG'⟩
                · exact fun z => (nomatch z)
                · exact u2 m G' mj hG'
              · rw [List.count_eq_zero_of_not_mem fun z => u2 i _ hij i2 (sub a z), Nat.zero_add]
                exact u4
          · intro a ma
            rw [ads_append] at ma
            rcases List.mem_append.mp ma with ma | ma
            · exact R.dom a (.inl ⟨_, List.mem_of_getElem? i2, sub a ma⟩)
            · exact R.dom a (.inl ⟨F, List.mem_of_getElem? j2, ma⟩)
end
end VL

set_option Elab.async false
set_option linter.all false
set_option maxRecDepth 100000
set_option maxHeartbeats 4000000
/-! VL31: a set comprehension of ints, sorted -/
namespace VL
open PySem PySem.Spec PyProof.Rows L2
section
variable {X : Cx} {W : WH}
/-- the empty set, a set with one more -/
def so0 (w : World) (D : Addr) : HO := SetO w D (fun _ => false) 0
def so1 (w : World) (D : Addr) (S : Int → Bool) (n : Nat) (c : Int) : HO := SetO w D (fun j => S j || decide (j = c)) (if S c = true then n else n + 1)
/-- what a turn of the block comes to: y goes into the set at D, then N -/
def putO (w : World) (D : Addr) (N : Hp → Prop) : VK := fun y H => ∃ (c : Int) (S : Int → Bool) (n : Nat), y = .int c ∧ H D = some (SetO w D S n) ∧ n + 1 < scanBound ∧ N (upd H D (so1 w D S n c))
def tSci (w : World) (wi : TI) (g : TG) (tt : TT) (te : TE) (vs : List Nat) : TE := fun σ H Q => wi σ H fun J H1 => ∀ D, H1 D = none → ∃ Wt : Nat → Nat → Hp → Prop, (∃ m, Wt 0 m (upd H1 D (so0 w D))) ∧ ∀ i m H, Wt i m H →
  (J.stop i H ∧ Q (.ref D) H) ∨ (J.go i H ∧ ∃ N : Hp → Prop, (∀ H', N H' → ∃ m', m' < m ∧ Wt (i + 1) m' H') ∧ ∀ x H', J.yld i H x H' → g x (wipe σ vs) H' fun σ2 H2 => wipe σ2 vs = wipe σ vs ∧ tt σ2 H2 fun b H3 => if b = true then te σ2 H3 (putO w D N) else N H3)
theorem so_put {pins : List (Addr × Obj)} {σ : L2.St} {H : Hp} {s : Shared} {D : Addr} {S : Int → Bool} {n : Nat} {c : Int} {tk : Tok} {E : Value → Shared → Prop} {Q : Value → Shared → Prop} (I : Inv X pins σ H s) (hD : H D = some (SetO X.w D S n)) (room : n + 1 < scanBound) (he : ∀ v s, X.xe v s → E v s)
    (h : ∀ v s', Inv X pins σ (upd H D (so1 X.w D S n c)) s' → Q v s') : wpAny (model X.prog X.w) X.A (call (.builtin "set.add") [.ref D, .int c tk]) Q E s :=
  wpAny_mono (mt_sadd pins s σ H (.ref D) [.int c] (.ref D) [.int c tk] (fun _ H' => H' = upd H D (so1 X.w D S n c)) I rfl (.cons ⟨tk, rfl⟩ .nil) ⟨D, c, S, n, rfl, rfl, hD, room, rfl⟩) (fun v s' hv => by
    obtain ⟨x, H', I', r, q⟩ := hv
    subst q
    exact h v s' I') he
theorem sci_core {pins : List (Addr × Obj)} {s : Shared} {σ : L2.St} {H : Hp} {Q : VK} {elt tg iter : Expr} {ifs : List Expr} {scope : Scope} {own : List (Str × Nat)} {pos pos' : Pos} {wi : TI} {g : TG} {tt : TT} {te : TE} {use : Option (Value → Sem Unit)} {Qf : Value → Shared → Prop}
    (hc : X.calm = true) (hN : X.N.Nodup) (I : Inv X pins σ H s) (hi : PI X tg iter wi) (ok : BlkOk X.N X.env.scope scope own)
    (hg : ∀ (s : Shared) (H : Hp) (C : Addr) (cl : List (Str × Addr)) (fp : List Addr), PG (X.blk s H scope (compEnvC scope cl C X.env) fp) tg g)
    (ht : ∀ (s : Shared) (H : Hp) (C : Addr) (cl : List (Str × Addr)) (fp : List Addr), PTs (X.blk s H scope (compEnvC scope cl C X.env) fp) ifs tt)
    (he : ∀ (s : Shared) (H : Hp) (C : Addr) (cl : List (Str × Addr)) (fp : List Addr), PE (X.blk s H scope (compEnvC scope cl C X.env) fp) elt te)
    (hs : ∀ x, foldedSetIterable iter X.env x = pure x) (h : tSci X.w wi g tt te (own.map (·.2)) σ H Q)
    (fin : ∀ D C s' m H', Inv X pins σ H' s' → Q (.ref D) H' → s'.heap.Ns C m → FpOk X pins H' C → compPost (model X.prog X.w) X.A X.xe use Qf (.ref D) C (.ok .next) s') :
    wpAny (model X.prog X.w) X.A (comprehension (.SetComp elt [⟨tg, iter, ifs, 0⟩] scope pos) scope X.env pos' (newSet (.type "set")) false (eval iter X.env) use) Qf X.xe s := by
  have free : ∀ y ∈ scope.names, y.2 = .free → ∃ c, X.env.cells.lookup y.1 = some c := fun y hy e => (ok.free y hy e).elim (fun k => I.ok.has _ (.inl k)) fun k => I.ok.has _ (.inr k)
  refine wpAny_comprehension_free (use := use) rfl hs (closure_ok free) ok.kind (fun y hy e => by rw [ok.uniq y hy, e]) (thn (hi.run pins s σ H _ I h) fun _ s1 h1 => thn h1 fun _ s2 h2 => ?_)
  obtain ⟨it, fp, tn, J, H2, rfl, I2, T, st2, f2, q⟩ := h2
  refine PpSet.newSet_ok (newEnv_comp ?_)
  generalize eD : s2.heap.objs.size = D
  have nD : H2 D = none := I2.hok.fresh (Nat.le_of_eq eD)
  obtain ⟨Wt, ⟨m0, w0⟩, turn⟩ := q D nD
  generalize e3 : ({ s2 with heap := s2.heap.push { cls := .type "set", dict := none, data := .set #[] 0 (.fresh 0 0 (!X.w.params.followText "set-order")) } } : Shared) = s3
  have p3 : s3.heap = s2.heap.push { cls := .type "set", dict := none, data := .set #[] 0 (.fresh 0 0 (!X.w.params.followText "set-order")) } := by rw [← e3]
  have old : ∀ {b : Addr} {o : Obj}, s2.heap.get? b = some o → s3.heap.get? b = some o := fun e => by rw [p3]; exact Heap.get?_push_of_some _ e
  generalize eE : upd H2 D (so0 X.w D) = H3 at w0
  have I3 : Inv X pins σ H3 s3 := by
    rw [← eE, ← e3]
    refine I2.laid (t' := s2.toks) (fun _ _ e => Heap.get?_push_of_some _ e) (Nat.le_of_eq eD) ?_
    rw [← eD]; exact setO_new (setR_fresh X.w)
  have lt2 : ∀ b ∈ fp, b < s2.heap.objs.size := fun b hb => (let ⟨o, e, _⟩ := T.obj _ _ st2 b hb; Heap.lt_size e)
  have f3 : ∀ b ∈ fp, FpOk X pins H3 b ∧ b < s3.heap.objs.size := fun b hb => by
    have l := lt2 b hb
    exact ⟨⟨by rw [← eE, upd_ne (by rw [← eD]; exact Nat.ne_of_lt l)]; exact (f2 b hb).1, (f2 b hb).2⟩, by rw [p3, Heap.size_push]; exact Nat.lt_succ_of_lt l⟩
  have st3 : tn 0 s3.heap := T.keep _ _ _ st2 fun _ _ _ e => old e
  have I4 := block_start I3 ok hN f3
  have pg := hg s3 H3 s3.heap.objs.size (cellsFrom (s3.heap.objs.size + 1) scope.names (cloFrom X.env.cells scope.names [])) fp
  have pt := ht s3 H3 s3.heap.objs.size (cellsFrom (s3.heap.objs.size + 1) scope.names (cloFrom X.env.cells scope.names [])) fp
  have pe := he s3 H3 s3.heap.objs.size (cellsFrom (s3.heap.objs.size + 1) scope.names (cloFrom X.env.cells scope.names [])) fp
  show codeAny _ _ (.compStart (.SetComp elt [⟨tg, iter, ifs, 0⟩] scope pos) 0 (.ref it) (.ref D) (compEnvC scope (cellsFrom (s3.heap.objs.size + 1) scope.names (cloFrom X.env.cells scope.names [])) s3.heap.objs.size X.env)) (compPost (model X.prog X.w) X.A X.xe use Qf (.ref D) s3.heap.objs.size)
    { s3 with heap := pushCells (s3.heap.push { cls := .type "dict", data := .dict #[] }) scope.names }
  generalize ec : compEnvC scope (cellsFrom (s3.heap.objs.size + 1) scope.names (cloFrom X.env.cells scope.names [])) s3.heap.objs.size X.env = ce at I4 pg pt pe ⊢
  have el : ce.locals = s3.heap.objs.size := by rw [← ec]; rfl
  generalize e4 : ({ s3 with heap := pushCells (s3.heap.push { cls := .type "dict", data := .dict #[] }) scope.names } : Shared) = s4 at I4 ⊢
  have st4 : tn 0 s4.heap := T.keep _ _ _ st3 fun _ _ _ e => by rw [← e4]; exact pushCells_keeps _ _ _ _ (Heap.get?_push_of_some _ e)
  have fpk : ∀ {σ' : L2.St} {H' : Hp} {s' : Shared}, Inv (X.blk s3 H3 scope ce fp) [] σ' H' s' → (∀ b ∈ fp, H' b = none) → ∀ b ∈ fp, FpOk (X.blk s3 H3 scope ce fp) [] H' b := fun I' hn b hb =>
    ⟨hn b hb, (I'.ok.exf b hb).1, I'.ok.exfs b hb, .inl hb, fun x c e => (I'.ok.exf b hb).2 x c e, fun p hp => absurd (show p ∈ ([] : List (Addr × Obj)) ++ [] from hp) (by simp)⟩
  have lp : codeAny (model X.prog X.w) X.A (.compLoop (.SetComp elt [⟨tg, iter, ifs, 0⟩] scope pos) 0 (.ref it) (.ref D) ce) (compPost (model X.prog X.w) X.A X.xe use Qf (.ref D) s3.heap.objs.size) s4 := by
    refine PpSet.compLoopS_any (fun n s' => ∃ i H', Inv (X.blk s3 H3 scope ce fp) [] (wipe σ (own.map (·.2))) H' s' ∧ tn i s'.heap ∧ (∀ b ∈ fp, H' b = none) ∧ Wt i n H') ?_ m0 ⟨0, H3, I4, st4, fun b hb => (f3 b hb).1.1, w0⟩
    rintro n s5 ⟨i, H5, I5, st5, n5, w5⟩
    rcases turn i n H5 w5 with ⟨stop, qq⟩ | ⟨go, N, hNx, step⟩
    · refine thnF (T.done (X.blk s3 H3 scope ce fp) rfl rfl rfl hc i [] s5 _ H5 (fun _ _ => False) I5 (fpk I5 n5) st5 stop) fun r s6 ⟨hr, I6⟩ => ?_
      subst hr
      obtain ⟨m, hn, _⟩ := I6.loc
      have nC : H5 s3.heap.objs.size = none := el ▸ (show H5 ce.locals = none from I6.free)
      exact fin D s3.heap.objs.size s6 m H5 (I3.call' (ch := fp) I6.os I6.base I6.hok I6.bare fun b hb => (let z := (f3 b hb).1.2; ⟨z.2.2.1, z.1, z.2.2.2.1, z.2.2.2.2⟩)) qq (el ▸ (show s6.heap.Ns ce.locals m from hn)) (I3.fpOk (Nat.le_refl _) nC)
    · refine thnF (T.item (X.blk s3 H3 scope ce fp) rfl rfl rfl hc i [] s5 _ H5 (fun _ _ => False) I5 (fpk I5 n5) st5 go) fun r s6 ⟨u, hr, h6⟩ => ?_
      subst hr
      refine thnF h6 fun _ s7 ⟨x, H7, I7, r7, y7, st7, n7⟩ => thnF (pg.run _ s7 _ H7 x u _ (I7.pinned (fpk I7 n7) (T.obj _ _ st7)) r7 (step x H7 y7)) fun _ s8 ⟨σ8, H8, I8, hw8, q8⟩ => thnF (pt.run _ s8 σ8 H8 _ I8 q8) fun b s9 ⟨H9, I9, q9⟩ => ?_
      have over : ∀ {s' : Shared} {H' : Hp}, Inv (X.blk s3 H3 scope ce fp) ([] ++ pinsAt fp s7.heap) σ8 H' s' → N H' → ∃ m, m < n ∧ ∃ i H', Inv (X.blk s3 H3 scope ce fp) [] (wipe σ (own.map (·.2))) H' s' ∧ tn i s'.heap ∧ (∀ b ∈ fp, H' b = none) ∧ Wt i m H' := fun {s' H'} I' nx => by
        obtain ⟨m', hm, w'⟩ := hNx H' nx
        have pn : ∀ b ∈ fp, ∀ o, s7.heap.get? b = some o → s'.heap.get? b = some o ∧ H' b = none := fun b hb o e => (let z := I'.pin (b, o) (List.mem_append_right _ (List.mem_append_right _ (mem_pinsAt hb e))); ⟨z.1, z.2.1⟩)
        refine ⟨m', hm, i + 1, H', (I'.unpinned (pins := [])).weak (by rw [← hw8, wipe_length]) (fun j v e => (wipe_some (vs := own.map (·.2)) (by rw [hw8]; exact e)).1), T.keep _ _ _ st7 fun b hb o e => (pn b hb o e).1, fun b hb => ?_, w'⟩
        obtain ⟨o, e, _⟩ := T.obj _ _ st7 b hb
        exact (pn b hb o e).2
      cases b with
      | false =>
        simp only [Bool.false_eq_true, if_false] at q9 ⊢
        exact over I9 q9
      | true =>
        simp only [if_true] at q9 ⊢
        refine thnF (pe.run _ s9 σ8 H9 _ I9 q9) fun z s10 ⟨y, H10, I10, r10, c, S, k, ey, hD, hk, nx⟩ => ?_
        subst ey
        obtain ⟨tk, rfl⟩ := r10
        exact so_put (X := X.blk s3 H3 scope ce fp) I10 hD hk (fun _ _ z => z.elim) fun v s11 I11 => over I11 nx
  exact PpSet.codeAny_compStart_set lp (T.self X.A 0 _ _ _ st4 lp)
theorem pe_sci {elt tg iter : Expr} {ifs : List Expr} {scope : Scope} {own : List (Str × Nat)} {pos : Pos} {wi : TI} {g : TG} {tt : TT} {te : TE} (hc : X.calm = true) (hN : X.N.Nodup) (hi : PI X tg iter wi) (ok : BlkOk X.N X.env.scope scope own)
    (hg : ∀ (s : Shared) (H : Hp) (C : Addr) (cl : List (Str × Addr)) (fp : List Addr), PG (X.blk s H scope (compEnvC scope cl C X.env) fp) tg g)
    (ht : ∀ (s : Shared) (H : Hp) (C : Addr) (cl : List (Str × Addr)) (fp : List Addr), PTs (X.blk s H scope (compEnvC scope cl C X.env) fp) ifs tt)
    (he : ∀ (s : Shared) (H : Hp) (C : Addr) (cl : List (Str × Addr)) (fp : List Addr), PE (X.blk s H scope (compEnvC scope cl C X.env) fp) elt te) (hs : ∀ x, foldedSetIterable iter X.env x = pure x := by intro _; rfl) :
    PE X (.SetComp elt [⟨tg, iter, ifs, 0⟩] scope pos) (tSci X.w wi g tt te (own.map (·.2))) := ⟨fun pins s σ H Q I h => by
  rw [PpSet.eval_SetComp]
  refine sci_core hc hN I hi ok hg ht he hs h fun D C s' m H' I' q hn f => ⟨m, hn, fun h'' sb => ?_⟩
  exact ⟨.ref D, H', I'.turned (t' := s'.toks) (fun b o hb e => (sb.2 b hb).trans e) f.1 f.2.1 f.2.2.2.1 f.2.2.2.2.1 f.2.2.2.2.2, rfl, q⟩⟩
end
end VL

set_option Elab.async false
set_option linter.all false
set_option maxRecDepth 100000
set_option maxHeartbeats 4000000
/-! VL32: sorted({e for x in ..}), ints -/
namespace VL
open PySem PySem.Spec PyProof.Rows L2
section
variable {X : Cx} {W : WH}
/-- the ints, each once, in the order in which they came -/
def addI (ns : List Int) (c : Int) : List Int := if ns.contains c then ns else ns ++ [c]
def compS (g : Gx) (tt : Tx) (te : Ex) (ρ : En) : List Tr → List Int → M (List Int)
  | [], ns => .ret ns
  | t :: ts, ns => (g t ρ).bind fun ρ1 => (tt ρ1).bind fun b => if b then (te ρ1).bind fun r => match r.1 with
      | .int c => if Nat.blt (ns.length + 1) 64 then compS g tt te ρ ts (addI ns c) else .bad
      | _ => .bad
    else compS g tt te ρ ts ns
def eSortSet (src : En → M (List Tr × Nat)) (vs : List Nat) (g : Gx) (tt : Tx) (te : Ex) : Ex := fun ρ => (src ρ).bind fun r => (compS g tt te (wipeE vs ρ) r.1 []).bind fun ns => .ret (.ls ((isortI ns).map .int), lvF ((isortI ns).map .int))
theorem addI_nodup {ns : List Int} {c : Int} (h : ns.Nodup) : (addI ns c).Nodup := by
  unfold addI
  by_cases k : ns.contains c = true
  · rw [if_pos k]; exact h
  · rw [if_neg k]
    exact List.nodup_append.mpr ⟨h, List.nodup_cons.mpr ⟨List.not_mem_nil, List.nodup_nil⟩, fun a ha b hb e => by
      rw [List.mem_singleton] at hb
      subst hb e
      exact k (List.contains_iff_mem.mpr ha)⟩
theorem addI_mem {ns : List Int} {c j : Int} : j ∈ addI ns c ↔ j ∈ ns ∨ j = c := by
  unfold addI
  by_cases k : ns.contains c = true
  · rw [if_pos k]
    exact ⟨.inl, fun h => h.elim id fun e => by rw [e]; exact List.contains_iff_mem.mp k⟩
  · rw [if_neg k, List.mem_append, List.mem_singleton]
theorem addI_len {ns : List Int} {c : Int} : (addI ns c).length = if ns.contains c then ns.length else ns.length + 1 := by
  unfold addI
  split
  · rfl
  · rw [List.length_append]; rfl
def setF (ns : List Int) : Int → Bool := fun j => ns.contains j
theorem setF_add (ns : List Int) (c : Int) : (fun j => setF ns j || decide (j = c)) = setF (addI ns c) := funext fun j => by
  unfold setF
  rw [Bool.eq_iff_iff, Bool.or_eq_true, List.contains_iff_mem, List.contains_iff_mem, decide_eq_true_eq, addI_mem]
theorem sorted_uniq {ks ns : List Int} (hs : ks.Pairwise (· < ·)) (hm : ∀ k, k ∈ ks ↔ setF ns k = true) (hn : ns.Nodup) : ks = isortI ns := by
  have nk : ks.Nodup := hs.imp fun h => Int.ne_of_lt h
  have p : ks.Perm ns := (List.perm_ext_iff_of_nodup nk hn).mpr fun a => by rw [hm a]; unfold setF; exact List.contains_iff_mem
  exact List.Perm.eq_of_pairwise (fun _ _ _ _ a b => Int.le_antisymm a b) (hs.imp fun h => Int.le_of_lt h) (isortI_sorted ns) (p.trans (isortI_perm ns).symm)
theorem so1_eq {w : World} {D : Addr} {ns : List Int} {c : Int} : so1 w D (setF ns) ns.length c = SetO w D (setF (addI ns c)) (addI ns c).length := by
  unfold so1
  rw [setF_add, addI_len]
  rfl
theorem te_sortSet {X : Cx} {src : En → M (List Tr × Nat)} {rd1 rd2 : RD} {vs : List Nat} {g : Gx} {tt : Tx} {te : Ex} {σ : L2.St} {H : Hp} {Q : VK}
    (q : TEv X.K W (eSortSet src vs g tt te) [] σ H Q) : tSci X.w (TIv X.K W src rd1) (TGc X.K W vs g) (TTv X.K W tt) (TEv X.K W te rd2) vs σ H fun x H1 => rSortedSet X.w [x] H1 Q := by
  obtain ⟨H0, fd, B, ρ, ψ, Y, R, gd⟩ := q
  have gd := good_bind.mp gd
  refine ⟨H0, fd, B, ρ, ψ, Y, R, good_imp gd fun r g0 J H1 ys io => ?_⟩
  have g0 := good_bind.mp g0
  intro D hD
  have x1 := io.ext
  have f1 := io.fok
  have hDfd : D ∉ fd := f1.notIn hD
  have hDn : H D = none := ext_none x1 hDfd hD
  let P : Nat → Hp → Prop := fun i H' => i ≤ r.1.length ∧ ExtF fd (L2.upd H1 D (so0 X.w D)) (L2.upd H' D (so0 X.w D)) ∧ FeedOk fd H' ∧ ∃ ns : List Int, ns.Nodup ∧ ns.length < 64 ∧ H' D = some (SetO X.w D (setF ns) ns.length) ∧
      good (W H0 fd) (compS g tt te (wipeE vs ρ) (r.1.drop i) ns) fun ms => ∀ v H' F, Res X.K fd ψ [] H (.ls ((isortI ms).map .int), lvF ((isortI ms).map .int)) v H' F → Q v H'
  refine ⟨fun i m H' => m = r.1.length - i ∧ P i H', ⟨r.1.length, rfl, Nat.zero_le _, by rw [upd_upd]; exact .refl, f1.new hD, [], List.nodup_nil, by decide, upd_same, good_imp g0 fun ms k v H' F a => k v H' F a⟩, ?_⟩
  rintro i m Hi ⟨rfl, hi, xi, fi, ns, nd, h64, eD, gi⟩
  have xi1 : ExtF fd H1 Hi := ext_off hD xi
  have xHi : ExtF fd H Hi := x1.trans xi1
  have ry : ∀ y, y ∈ ys → Rep X.K Hi fd y.1 y.2.1 y.2.2 := fun y hy => (io.rep y hy).ext xi1 f1
  obtain ⟨io1, io2⟩ := io.its i Hi ry fi
  cases e : r.1[i]? with
  | none =>
    have hle : r.1.length ≤ i := List.getElem?_eq_none_iff.mp e
    rw [List.drop_eq_nil_of_le hle] at gi
    refine .inl ⟨io2 hle, D, setF ns, ns.length, rfl, eD, h64, fun ks p hs hm hl hn => ?_⟩
    have ek := sorted_uniq hs hm nd
    subst ek
    refine gi _ _ _ (new_list xHi fi (repL_int _) hn ?_ fun _ _ m => (nomatch m))
    rw [List.length_map, hl, sizeLine_eq]; omega
  | some t =>
    obtain ⟨go, yl⟩ := io1 t e
    have hlt : i < r.1.length := (List.getElem?_eq_some_iff.mp e).1
    rw [drop_cons e] at gi
    have gi := good_bind.mp gi
    refine .inr ⟨go, P (i + 1), fun H' h => ⟨r.1.length - (i + 1), (by omega : r.1.length - (i + 1) < r.1.length - i), rfl, h⟩, fun x H2 yy => ?_⟩
    obtain ⟨x2, f2, F, rF, sub⟩ := yl x H2 yy
    have xH2 := xHi.trans x2
    have RB : Rel X.K H0 fd B (wipeE vs ρ) (L2.wipe σ vs) H2 (wipeP vs ψ) (ys ++ Y) :=
      ((R.wipe vs).grow xH2 f2).pushL (fun y hy => (ry y hy).ext x2 fi) (fun y hy j t' k' G' d a h hG m o => absurd o (wipeE_own h)) (fun y hy => io.dom R hy)
    refine ⟨H0, fd, B, wipeE vs ρ, wipeP vs ψ, ys ++ Y, t, F, RB, rF, fun j t' k' G' d a h hG m o => absurd o (wipeE_own h), fun a m => (let ⟨y, hy, hz⟩ := sub a m; io.dom R hy a hz), good_imp gi fun ρ1 g2 σ1 ψ1 R1 S1 T1 U1 L1 => ⟨?_, ?_⟩⟩
    · exact wipe_same L1 fun j hj => (T1 j hj).1
    have g2 := good_bind.mp g2
    refine ⟨H0, fd, B, ρ1, ψ1, ys ++ Y, R1, good_imp g2 fun b g3 H3 x3 f3 => ?_⟩
    have eD3 : H3 D = some (SetO X.w D (setF ns) ns.length) := x3 D _ (x2 D _ eD hDfd) hDfd
    cases b with
    | false =>
      dsimp only
      rw [if_neg Bool.false_ne_true]
      exact ⟨hlt, xi.trans (ext_upd (x2.trans x3)), f3, ns, nd, h64, eD3, g3⟩
    | true =>
      dsimp only
      rw [if_pos rfl]
      have g3 := good_bind.mp g3
      refine ⟨H0, fd, B, ρ1, ψ1, ys ++ Y, R1.grow x3 f3, good_imp g3 fun z g4 v H4 F4 a4 => ?_⟩
      obtain ⟨tz, kz⟩ := z
      cases tz <;> first | exact g4.elim | skip
      rename_i c
      have g4 : good (W H0 fd) (if Nat.blt (ns.length + 1) 64 then compS g tt te (wipeE vs ρ) (r.1.drop (i + 1)) (addI ns c) else .bad) _ := g4
      obtain ⟨ck, g5⟩ := if_good g4
      obtain rfl := rep_int a4.rep
      have hk : ns.length + 1 < 64 := Nat.le_of_ble_eq_true ck
      have eD4 := a4.ext D _ eD3 hDfd
      refine ⟨c, setF ns, ns.length, rfl, eD4, by unfold scanBound; omega, hlt, ?_, a4.fok.write hDfd, addI ns c, addI_nodup nd, ?_, by rw [upd_same, so1_eq], g5⟩
      · rw [upd_upd]
        exact xi.trans (ext_upd ((x2.trans x3).trans a4.ext))
      · rw [addI_len]; split <;> omega
theorem ve_sortSet {elt tg iter : Expr} {ifs : List Expr} {scope : Scope} {own : List (Str × Nat)} {p spos pos : Pos} {src : En → M (List Tr × Nat)} {rd1 rd2 : RD} {g : Gx} {tt : Tx} {te : Ex} {vs : List Nat} (hG : Gl X "sorted") (hM : X.mg "sorted" = none) (hv : bootBuiltins "sorted" = some (.builtin "sorted")) (hvs : own.map (·.2) = vs) (hc : X.calm = true) (hN : X.N.Nodup) (hi : VI X W tg iter src rd1) (ok : BlkOk X.N X.env.scope scope own)
    (hg : ∀ (s : Shared) (H : Hp) (C : Addr) (cl : List (Str × Addr)) (fp : List Addr), VGc (X.blk s H scope (compEnvC scope cl C X.env) fp) W vs tg g) (ht : ∀ (s : Shared) (H : Hp) (C : Addr) (cl : List (Str × Addr)) (fp : List Addr), VTs (X.blk s H scope (compEnvC scope cl C X.env) fp) W ifs tt)
    (he : ∀ (s : Shared) (H : Hp) (C : Addr) (cl : List (Str × Addr)) (fp : List Addr), VE (X.blk s H scope (compEnvC scope cl C X.env) fp) W elt te rd2) (hs : ∀ x, foldedSetIterable iter X.env x = pure x := by intro _; rfl)
    (h1 : starEach (.SetComp elt [⟨tg, iter, ifs, 0⟩] scope spos :: []) X.env = (false, eval (.SetComp elt [⟨tg, iter, ifs, 0⟩] scope spos) X.env) :: starEach [] X.env := by rfl) (hpl : (backTo pos (starEach [] X.env)).any (·.1) = false := by rfl) :
    VE X W (.Call (.Name "sorted" p) [.SetComp elt [⟨tg, iter, ifs, 0⟩] scope spos] [] pos) (eSortSet src vs g tt te) [] := by
  subst hvs
  exact pe_imp (pe_callB (cr_sortedSet hc) hG hM hv (pa_cons (pe_sci hc hN hi ok hg ht he hs) pa_nil h1) (by decide) (by decide) h1 hpl) fun σ H Q q => te_sortSet (rd1 := rd1) (rd2 := rd2) q
end
end VL

set_option Elab.async false
set_option linter.all false
set_option maxRecDepth 100000
set_option maxHeartbeats 4000000
/-! VL33: runs told exactly, construct by construct -/
namespace VL
open PySem PySem.Spec PyProof.Rows L2
theorem ix_run {a b : Ex} {ρ : En} {x y : Tr × Nat} {z : Tr} (h1 : a ρ = .ret x) (h2 : b ρ = .ret y) (h : oIx x.1 y.1 = some z) : eIx a b ρ = .ret (z, lvI z x.2) := by
  unfold eIx
  rw [h1]
  show M.bind (b ρ) _ = _
  rw [h2]
  show (match oIx x.1 y.1 with
    | some t => M.ret (t, lvI t x.2)
    | none => .bad) = _
  rw [h]
theorem bin_run {f : Tr → Tr → Option Tr} {a b : Ex} {ρ : En} {x y : Tr × Nat} {z : Tr} (h1 : a ρ = .ret x) (h2 : b ρ = .ret y) (h : f x.1 y.1 = some z) : eBin f a b ρ = .ret (z, 99) := by
  unfold eBin
  rw [h1]
  show M.bind (b ρ) _ = _
  rw [h2]
  show (match f x.1 y.1 with
    | some z => M.ret (z, 99)
    | none => M.bad) = _
  rw [h]
theorem asg_run {i : Nat} {rd : RD} {a : Ex} {ρ : En} {r : Tr × Nat} (h : a ρ = .ret r) : sAsg i rd a ρ = .ret (.nx ((lowIf r.2 rd ρ).set i (.v r.1 r.2))) := by
  unfold sAsg
  rw [h]; rfl
theorem seq_run {s t : Sx} {ρ ρ' : En} (h : s ρ = .ret (.nx ρ')) : sSeq s t ρ = t ρ' := by
  unfold sSeq
  rw [h]; rfl
theorem if_run {c : Tx} {s1 s2 : Sx} {ρ : En} {b : Bool} (h : c ρ = .ret b) : sIf c s1 s2 ρ = if b then s1 ρ else s2 ρ := by
  unfold sIf
  rw [h]; rfl
theorem tru_run {a : Ex} {ρ : En} {b : Bool} {k : Nat} (h : a ρ = .ret (.bl b, k)) : tTru a ρ = .ret b := by
  unfold tTru
  rw [h]; rfl
theorem and_run {a b : Ex} {ρ : En} {x : Bool} {k : Nat} (h : a ρ = .ret (.bl x, k)) : eAnd a b ρ = if x then b ρ else .ret (.bl false, 99) := by
  unfold eAnd
  rw [h]
  cases x <;> rfl
/-- a loop that always goes on: what R tells of the frame -/
theorem loop_ex {α : Type} {R : α → En → Prop} {g : Gx} {body : Sx} {step : α → Tr → α} : ∀ {ts : List Tr}, (∀ t ∈ ts, ∀ a ρ, R a ρ → ∃ ρ1, g t ρ = .ret ρ1 ∧ ∃ ρ', body ρ1 = .ret (.nx ρ') ∧ R (step a t) ρ') → ∀ {a : α} {ρ : En}, R a ρ → ∃ ρ', loopF g body ts ρ = .ret (.nx ρ') ∧ R (ts.foldl step a) ρ'
  | [], _, a, ρ, h => ⟨ρ, rfl, h⟩
  | t :: ts, hs, a, ρ, h => by
    obtain ⟨ρ1, h1, ρ2, h2, h3⟩ := hs t List.mem_cons_self a ρ h
    obtain ⟨ρ3, h4, h5⟩ := loop_ex (ts := ts) (fun t m => hs t (List.mem_cons_of_mem _ m)) h3
    refine ⟨ρ3, ?_, h5⟩
    unfold loopF
    rw [h1]
    show M.bind (body ρ1) _ = _
    rw [h2]
    exact h4
theorem for_ex {α : Type} {R : α → En → Prop} {rd : RD} {src : En → M (List Tr × Nat)} {g : Gx} {body : Sx} {step : α → Tr → α} {r : List Tr × Nat} {ρ : En} {a : α} (hs : src ρ = .ret r) (h0 : R a (lowIf r.2 rd ρ)) (h : ∀ t ∈ r.1, ∀ a ρ, R a ρ → ∃ ρ1, g t ρ = .ret ρ1 ∧ ∃ ρ', body ρ1 = .ret (.nx ρ') ∧ R (step a t) ρ') : ∃ ρ', sFor rd src g body ρ = .ret (.nx ρ') ∧ R (r.1.foldl step a) ρ' := by
  obtain ⟨ρ', h1, h2⟩ := loop_ex h h0
  refine ⟨ρ', ?_, h2⟩
  unfold sFor
  rw [hs]
  exact h1
/-- a comprehension without tests -/
theorem compL_map {g : Gx} {te : Ex} {ρ : En} {f : Tr → Tr} : ∀ {ts : List Tr}, (∀ t ∈ ts, ∃ ρ1, g t ρ = .ret ρ1 ∧ te ρ1 = .ret (f t, 99)) → compL g tYesV te ρ ts = .ret (ts.map f, true)
  | [], _ => rfl
  | t :: ts, h => by
    obtain ⟨ρ1, h1, h2⟩ := h t List.mem_cons_self
    unfold compL
    rw [h1]
    show M.bind (te ρ1) _ = _
    rw [h2]
    show M.bind (compL g tYesV te ρ ts) _ = _
    rw [compL_map fun t m => h t (List.mem_cons_of_mem _ m)]
    rfl
theorem comp_map {src : En → M (List Tr × Nat)} {vs : List Nat} {g : Gx} {te : Ex} {ρ : En} {r : List Tr × Nat} {f : Tr → Tr} (hs : src ρ = .ret r) (hl : lenOk r.1 = true) (h : ∀ t ∈ r.1, ∃ ρ1, g t (wipeE vs ρ) = .ret ρ1 ∧ te ρ1 = .ret (f t, 99)) : eComp src vs g tYesV te ρ = .ret (.ls (r.1.map f), 99) := by
  unfold eComp
  rw [hs]
  show (if lenOk r.1 then (compL g tYesV te (wipeE vs ρ) r.1).bind _ else .bad) = _
  rw [if_pos hl, compL_map h]
  rfl
/-- a comprehension with a test -/
theorem compL_filter {g : Gx} {tt : Tx} {te : Ex} {ρ : En} {f : Tr → Tr} {p : Tr → Bool} : ∀ {ts : List Tr}, (∀ t ∈ ts, ∃ ρ1, g t ρ = .ret ρ1 ∧ tt ρ1 = .ret (p t) ∧ (p t = true → te ρ1 = .ret (f t, 99))) → compL g tt te ρ ts = .ret ((ts.filter p).map f, true)
  | [], _ => rfl
  | t :: ts, h => by
    obtain ⟨ρ1, h1, h2, h3⟩ := h t List.mem_cons_self
    unfold compL
    rw [h1]
    show M.bind (tt ρ1) _ = _
    rw [h2]
    show (if p t then _ else compL g tt te ρ ts) = _
    cases e : p t with
    | false =>
      rw [if_neg Bool.false_ne_true, compL_filter fun t m => h t (List.mem_cons_of_mem _ m), List.filter_cons_of_neg (by rw [e]; exact Bool.false_ne_true)]
    | true =>
      rw [if_pos rfl, h3 e]
      show M.bind (compL g tt te ρ ts) _ = _
      rw [compL_filter fun t m => h t (List.mem_cons_of_mem _ m), List.filter_cons_of_pos e]
      rfl
theorem call_run {f : List Tr → Option Tr} {a : Ax} {ρ : En} {ts : List Tr} {b : Bool} {z : Tr} (ha : a ρ = .ret (ts, b)) (hf : f ts = some z) : eCall f a ρ = .ret (z, 99) := by
  unfold eCall
  rw [ha]
  show (match f ts with
    | some z => M.ret (z, 99)
    | none => M.bad) = _
  rw [hf]
theorem cons_run {a : Ex} {r : Ax} {ρ : En} {x : Tr × Nat} {y : List Tr × Bool} (h1 : a ρ = .ret x) (h2 : r ρ = .ret y) : aCons a r ρ = .ret (x.1 :: y.1, Nat.ble 99 x.2 && y.2) := by
  unfold aCons
  rw [h1]
  show M.bind (r ρ) _ = _
  rw [h2]; rfl
theorem eFn_run {n : Nat} {f : Fn} {a : Ax} {ρ : En} {ts : List Tr} {b : Bool} {r : Tr × Nat} (h : a ρ = .ret (ts, b)) (hn : Nat.beq ts.length n = true) (hf : f ts = .ret r) : eFn n f a ρ = .ret r := by
  unfold eFn
  rw [h]
  show (if Nat.beq ts.length n then (f ts).noExc else .bad) = _
  rw [if_pos hn, hf]; rfl
theorem app_run {i : Nat} {rd : RD} {a : Ex} {ρ : En} {r : Tr × Nat} {ts : List Tr} (hi : ρ[i]? = some (.v (.ls ts) 99)) (ha : a ρ = .ret (r.1, 99)) (hl : Nat.blt ts.length 16777216 = true) : sApp i rd a ρ = .ret (.nx (ρ.set i (.v (.ls (ts ++ [r.1])) 99))) := by
  unfold sApp
  rw [hi]
  show (if isLs (some (.v (.ls ts) 99)) then (a ρ).bind _ else M.bad) = _
  rw [if_pos (show isLs (some (.v (.ls ts) 99)) = true from rfl), ha]
  have e : lowIf 99 rd ρ = ρ := rfl
  show (match (lowIf 99 rd ρ)[i]? with
    | some (.v (.ls ts) k) => if Nat.ble 1 k && Nat.blt ts.length 16777216 then M.ret (Fl.nx ((lowIf 99 rd ρ).set i (.v (.ls (ts ++ [r.1])) (if Nat.ble 99 99 then k else if Nat.ble k 1 then k else 1)))) else .bad
    | _ => .bad) = _
  rw [e, hi]
  show (if Nat.ble 1 99 && Nat.blt ts.length 16777216 then _ else M.bad) = _
  rw [hl]; rfl
/-- the same with the turn's number -/
theorem loop_ix {α : Type} {R : Nat → α → En → Prop} {g : Gx} {body : Sx} {step : α → Tr → α} : ∀ {ts : List Tr} {n : Nat}, (∀ i t, ts[i]? = some t → ∀ a ρ, R (n + i) a ρ → ∃ ρ1, g t ρ = .ret ρ1 ∧ ∃ ρ', body ρ1 = .ret (.nx ρ') ∧ R (n + i + 1) (step a t) ρ') → ∀ {a : α} {ρ : En}, R n a ρ → ∃ ρ', loopF g body ts ρ = .ret (.nx ρ') ∧ R (n + ts.length) (ts.foldl step a) ρ'
  | [], n, _, a, ρ, h => ⟨ρ, rfl, h⟩
  | t :: ts, n, hs, a, ρ, h => by
    obtain ⟨ρ1, h1, ρ2, h2, h3⟩ := hs 0 t rfl a ρ h
    obtain ⟨ρ3, h4, h5⟩ := loop_ix (ts := ts) (n := n + 1) (fun i t m a ρ r => by
      have := hs (i + 1) t (by simpa using m) a ρ (by rw [show n + (i + 1) = n + 1 + i by omega]; exact r)
      rw [show n + (i + 1) + 1 = n + 1 + i + 1 by omega] at this
      exact this) h3
    refine ⟨ρ3, ?_, ?_⟩
    · unfold loopF
      rw [h1]
      show M.bind (body ρ1) _ = _
      rw [h2]
      exact h4
    · rw [show n + (t :: ts).length = n + 1 + ts.length by rw [List.length_cons]; omega]
      exact h5
theorem for_ix {α : Type} {R : Nat → α → En → Prop} {rd : RD} {src : En → M (List Tr × Nat)} {g : Gx} {body : Sx} {step : α → Tr → α} {r : List Tr × Nat} {ρ : En} {a : α} (hs : src ρ = .ret r) (h0 : R 0 a (lowIf r.2 rd ρ)) (h : ∀ i t, r.1[i]? = some t → ∀ a ρ, R i a ρ → ∃ ρ1, g t ρ = .ret ρ1 ∧ ∃ ρ', body ρ1 = .ret (.nx ρ') ∧ R (i + 1) (step a t) ρ') : ∃ ρ', sFor rd src g body ρ = .ret (.nx ρ') ∧ R r.1.length (r.1.foldl step a) ρ' := by
  obtain ⟨ρ', h1, h2⟩ := loop_ix (n := 0) (R := R) (fun i t m a ρ q => by rw [Nat.zero_add] at q ⊢; exact h i t m a ρ q) h0
  refine ⟨ρ', ?_, by rwa [Nat.zero_add] at h2⟩
  unfold sFor
  rw [hs]
  exact h1
theorem range_at {q i : Nat} {t : Tr} (h : (rangeT 0 (q : Int))[i]? = some t) : i < q ∧ t = .int (i : Int) := by
  unfold rangeT at h
  rw [List.getElem?_map] at h
  have e : ((q : Int) - 0).toNat = q := by omega
  rw [e] at h
  by_cases c : i < q
  · rw [List.getElem?_range c] at h
    obtain rfl : Tr.int (0 + (i : Int)) = t := by simpa using h
    exact ⟨c, by rw [Int.zero_add]⟩
  · rw [List.getElem?_eq_none (by rw [List.length_range]; omega)] at h
    cases h
theorem range_len {q : Nat} : (rangeT 0 (q : Int)).length = q := by
  unfold rangeT
  rw [List.length_map, List.length_range]; omega
theorem bigOk_small {q : Nat} (hq : q ≤ 1000000) : bigOk (q : Int) = true := by
  unfold bigOk
  exact Bool.and_eq_true_iff.mpr ⟨decide_eq_true (by omega), decide_eq_true (by omega)⟩
def rgM (hi : Int) : M (List Tr × Nat) := if bigOk hi then .ret (rangeT 0 hi, 99) else .bad
theorem rgM_eq {hi : Int} (h : bigOk hi = true) : rgM hi = .ret (rangeT 0 hi, 99) := by
  unfold rgM
  rw [if_pos h]
theorem iRng1_eq (a : Ex) : iRng1 a = fun ρ => (a ρ).bind fun r => match r.1 with
  | .int hi => rgM hi
  | _ => .bad := rfl
theorem rng_gen {F : Int → M (List Tr × Nat)} {x : M (Tr × Nat)} {q : Int} {k : Nat} (h : x = .ret (.int q, k)) : (x.bind fun r => match r.1 with
  | .int hi => F hi
  | _ => .bad) = F q := by
  rw [h]; rfl
theorem rng_run1 {a : Ex} {ρ : En} {q : Int} {k : Nat} (h : a ρ = .ret (.int q, k)) : iRng1 a ρ = rgM q := by
  rw [iRng1_eq]
  exact rng_gen (F := rgM) h
theorem rng_run2 {a : Ex} {ρ : En} {q : Int} {k : Nat} (h : a ρ = .ret (.int q, k)) (hq : bigOk q = true) : iRng1 a ρ = .ret (rangeT 0 q, 99) := (rng_run1 h).trans (rgM_eq hq)
theorem rng_run {a : Ex} {ρ : En} {q k : Nat} (h : a ρ = .ret (.int q, k)) (hq : q ≤ 1000000) : iRng1 a ρ = .ret (rangeT 0 (q : Int), 99) := rng_run2 h (bigOk_small hq)
theorem range_fold {α : Type} {f : α → Tr → α} {g : α → Nat → α} (h : ∀ a (i : Nat), f a (.int (i : Int)) = g a i) (q : Nat) (a : α) : (rangeT 0 (q : Int)).foldl f a = (List.range q).foldl g a := by
  have e : ∀ (l : List Nat) (a : α), (l.map fun (i : Nat) => Tr.int (0 + (i : Int))).foldl f a = l.foldl g a := by
    intro l
    induction l with
    | nil => intro a; rfl
    | cons x l ih =>
      intro a
      rw [List.map_cons, List.foldl_cons, List.foldl_cons, Int.zero_add, h, ih]
  unfold rangeT
  rw [show ((q : Int) - 0).toNat = q by omega]
  exact e _ a
theorem comp_run {src : En → M (List Tr × Nat)} {vs : List Nat} {g : Gx} {tt : Tx} {te : Ex} {ρ : En} {r : List Tr × Nat} {us : List Tr} {d : Bool} (hs : src ρ = .ret r) (hl : lenOk r.1 = true) (h : compL g tt te (wipeE vs ρ) r.1 = .ret (us, d)) : eComp src vs g tt te ρ = .ret (.ls us, lvL d) := by
  unfold eComp
  rw [hs]
  show (if lenOk r.1 then (compL g tt te (wipeE vs ρ) r.1).bind _ else .bad) = _
  rw [if_pos hl, h]
  rfl
theorem asgG_run {rd : RD} {g : Gx} {a : Ex} {ρ ρ' : En} {r : Tr × Nat} (h : a ρ = .ret r) (hg : g r.1 (lowIf r.2 rd ρ) = .ret ρ') : sAsgG rd g a ρ = .ret (.nx ρ') := by
  unfold sAsgG
  rw [h]
  show M.bind (g r.1 (lowIf r.2 rd ρ)) _ = _
  rw [hg]
  rfl
theorem seq_rt {s u : Sx} {ρ : En} {t : Tr} {k : Nat} (h : s ρ = .ret (.rt t k)) : sSeq s u ρ = .ret (.rt t k) := by
  unfold sSeq
  rw [h]; rfl
theorem if_skip {c : Tx} {s u : Sx} {ρ : En} (h : c ρ = .ret false) : sSeq (sIf c s sSkip) u ρ = u ρ := by
  unfold sSeq sIf
  rw [h]; rfl
theorem if_then {c : Tx} {s v : Sx} {ρ : En} (h : c ρ = .ret true) : sIf c s v ρ = s ρ := by
  unfold sIf
  rw [h]; rfl
theorem ret_run {a : Ex} {ρ : En} {r : Tr × Nat} (h : a ρ = .ret r) : sRet a ρ = .ret (.rt r.1 r.2) := by
  unfold sRet
  rw [h]; rfl
theorem not_run {c : Tx} {ρ : En} {b : Bool} (h : c ρ = .ret b) : tNt c ρ = .ret (!b) := by
  unfold tNt
  rw [h]; rfl
theorem or_run {a b : Tx} {ρ : En} (h : a ρ = .ret false) : tOr a b ρ = b ρ := by
  unfold tOr
  rw [h]; rfl
theorem tand_run {a b : Tx} {ρ : En} (h : a ρ = .ret true) : tAnd a b ρ = b ρ := by
  unfold tAnd
  rw [h]; rfl
theorem tB_run {a : Ex} {ρ : En} {b : Bool} {k : Nat} (h : a ρ = .ret (.bl b, k)) : tB a ρ = .ret b := by
  unfold tB
  rw [h]; rfl
theorem binG_run {f : Tr → Tr → Option (Tr × Nat)} {a b : Ex} {ρ : En} {x y z : Tr × Nat} (h1 : a ρ = .ret x) (h2 : b ρ = .ret y) (h : f x.1 y.1 = some z) : eBinG f a b ρ = .ret z := by
  unfold eBinG
  rw [h1]
  show M.bind (b ρ) _ = _
  rw [h2]
  show M.ofOpt (f x.1 y.1) = _
  rw [h]; rfl
end VL


set_option Elab.async false
set_option linter.all false
set_option maxRecDepth 100000
set_option maxHeartbeats 40000000
namespace Lk59
open PySem PySem.Spec PyProof.Rows L2 VL
def top (i : Nat) : Stmt := PySem.Challenge.pw_squarewords_k59_two_lines_solved.main.body.getD i (.Pass ⟨0, 0, 0, 0⟩)
theorem boot_intT : bootBuiltins "int" = some (.type "int") := by decide +kernel
theorem boot_listT : bootBuiltins "list" = some (.type "list") := by decide +kernel
theorem boot_tupleT : bootBuiltins "tuple" = some (.type "tuple") := by decide +kernel
theorem boot_boolT : bootBuiltins "bool" = some (.type "bool") := by decide +kernel
theorem boot_strT : bootBuiltins "str" = some (.type "str") := by decide +kernel
theorem boot_lenT : bootBuiltins "len" = some (.builtin "len") := by decide +kernel
theorem boot_absT : bootBuiltins "abs" = some (.builtin "abs") := by decide +kernel
theorem boot_sumT : bootBuiltins "sum" = some (.builtin "sum") := by decide +kernel
theorem boot_maxT : bootBuiltins "max" = some (.builtin "max") := by decide +kernel
theorem boot_minT : bootBuiltins "min" = some (.builtin "min") := by decide +kernel
theorem boot_allT : bootBuiltins "all" = some (.builtin "all") := by decide +kernel
theorem boot_anyT : bootBuiltins "any" = some (.builtin "any") := by decide +kernel
theorem boot_isinstanceT : bootBuiltins "isinstance" = some (.builtin "isinstance") := by decide +kernel
theorem boot_sortedT : bootBuiltins "sorted" = some (.builtin "sorted") := by decide +kernel
abbrev s_law_pairs : Stmt := top 29
abbrev N_law_pairs : List Str := ["tables", "q", "lines", "found", "x", "y", "fits", "line", "left"]
theorem sc_law_pairs : FnScope N_law_pairs ["tables", "q", "lines"] (defScope s_law_pairs) := ⟨rfl, rfl, rfl, by decide +kernel, rfl, by decide +kernel, by decide +kernel⟩
abbrev s_law_same : Stmt := top 21
abbrev N_law_same : List Str := ["actual", "due", "k"]
theorem sc_law_same : FnScope N_law_same ["actual", "due"] (defScope s_law_same) := ⟨rfl, rfl, rfl, by decide +kernel, rfl, by decide +kernel, by decide +kernel⟩
abbrev s_prime_and_degree : Stmt := top 5
abbrev N_prime_and_degree : List Str := ["q", "p", "degree", "rest"]
theorem sc_prime_and_degree : FnScope N_prime_and_degree ["q"] (defScope s_prime_and_degree) := ⟨rfl, rfl, rfl, by decide +kernel, rfl, by decide +kernel, by decide +kernel⟩
abbrev s_figures : Stmt := top 7
abbrev N_figures : List Str := ["number", "p", "many", "found", "_"]
theorem sc_figures : FnScope N_figures ["number", "p", "many"] (defScope s_figures) := ⟨rfl, rfl, rfl, by decide +kernel, rfl, by decide +kernel, by decide +kernel⟩
abbrev s_number_of : Stmt := top 8
abbrev N_number_of : List Str := ["coefficients", "p", "told", "coefficient"]
theorem sc_number_of : FnScope N_number_of ["coefficients", "p"] (defScope s_number_of) := ⟨rfl, rfl, rfl, by decide +kernel, rfl, by decide +kernel, by decide +kernel⟩
abbrev s_rest_by : Stmt := top 9
abbrev N_rest_by : List Str := ["coefficients", "rule", "p", "rest", "degree", "top", "many", "at"]
theorem sc_rest_by : FnScope N_rest_by ["coefficients", "rule", "p"] (defScope s_rest_by) := ⟨rfl, rfl, rfl, by decide +kernel, rfl, by decide +kernel, by decide +kernel⟩
abbrev s_power_of : Stmt := top 6
abbrev N_power_of : List Str := ["p", "degree", "told", "_"]
theorem sc_power_of : FnScope N_power_of ["p", "degree"] (defScope s_power_of) := ⟨rfl, rfl, rfl, by decide +kernel, rfl, by decide +kernel, by decide +kernel⟩
abbrev s_rules_of_degree : Stmt := top 10
abbrev N_rules_of_degree : List Str := ["p", "degree", "number"]
theorem sc_rules_of_degree : FnScope N_rules_of_degree ["p", "degree"] (defScope s_rules_of_degree) := ⟨rfl, rfl, rfl, by decide +kernel, rfl, by decide +kernel, by decide +kernel⟩
abbrev s_is_product : Stmt := top 11
abbrev N_is_product : List Str := ["rule", "p", "degree", "lesser", "divisor"]
theorem sc_is_product : FnScope N_is_product ["rule", "p"] (defScope s_is_product) := ⟨rfl, rfl, rfl, by decide +kernel, rfl, by decide +kernel, by decide +kernel⟩
abbrev s_rule_of : Stmt := top 12
abbrev N_rule_of : List Str := ["q", "p", "degree", "rule"]
theorem sc_rule_of : FnScope N_rule_of ["q"] (defScope s_rule_of) := ⟨rfl, rfl, rfl, by decide +kernel, rfl, by decide +kernel, by decide +kernel⟩
abbrev s_times_unknown : Stmt := top 13
abbrev N_times_unknown : List Str := ["coefficients", "rule", "p", "top", "below", "back"]
theorem sc_times_unknown : FnScope N_times_unknown ["coefficients", "rule", "p"] (defScope s_times_unknown) := ⟨rfl, rfl, rfl, by decide +kernel, rfl, by decide +kernel, by decide +kernel⟩
abbrev s_products_of : Stmt := top 14
abbrev N_products_of : List Str := ["q", "p", "degree", "rule", "products", "a", "steps", "line", "b", "many", "at", "m", "step"]
theorem sc_products_of : FnScope N_products_of ["q"] (defScope s_products_of) := ⟨rfl, rfl, rfl, by decide +kernel, rfl, by decide +kernel, by decide +kernel⟩
abbrev s_sums_of : Stmt := top 15
abbrev N_sums_of : List Str := ["q", "p", "degree", "own", "number", "one", "other", "x", "y"]
theorem sc_sums_of : FnScope N_sums_of ["q"] (defScope s_sums_of) := ⟨rfl, rfl, rfl, by decide +kernel, rfl, by decide +kernel, by decide +kernel⟩
abbrev s_field_of : Stmt := top 16
abbrev N_field_of : List Str := ["q"]
theorem sc_field_of : FnScope N_field_of ["q"] (defScope s_field_of) := ⟨rfl, rfl, rfl, by decide +kernel, rfl, by decide +kernel, by decide +kernel⟩
abbrev s_solve_two : Stmt := top 17
abbrev N_solve_two : List Str := ["q", "lines", "sums", "products", "found", "x", "y", "a", "b", "c"]
theorem sc_solve_two : FnScope N_solve_two ["q", "lines"] (defScope s_solve_two) := ⟨rfl, rfl, rfl, by decide +kernel, rfl, by decide +kernel, by decide +kernel⟩
abbrev s_law_asked : Stmt := top 30
abbrev N_law_asked : List Str := ["tables", "q", "lines", "due", "given", "told", "one", "other"]
theorem sc_law_asked : FnScope N_law_asked ["tables", "q", "lines"] (defScope s_law_asked) := ⟨rfl, rfl, rfl, by decide +kernel, rfl, by decide +kernel, by decide +kernel⟩
abbrev s_law_draw : Stmt := top 20
abbrev N_law_draw : List Str := ["feed", "many", "cell", "told", "mixed"]
theorem sc_law_draw : FnScope N_law_draw ["feed", "many"] (defScope s_law_draw) := ⟨rfl, rfl, rfl, by decide +kernel, rfl, by decide +kernel, by decide +kernel⟩
abbrev s_law_feed : Stmt := top 19
abbrev N_law_feed : List Str := ["script"]
theorem sc_law_feed : FnScope N_law_feed ["script"] (defScope s_law_feed) := ⟨rfl, rfl, rfl, by decide +kernel, rfl, by decide +kernel, by decide +kernel⟩
abbrev s_law_figures : Stmt := top 24
abbrev N_law_figures : List Str := ["a", "p", "many", "found", "k"]
theorem sc_law_figures : FnScope N_law_figures ["a", "p", "many"] (defScope s_law_figures) := ⟨rfl, rfl, rfl, by decide +kernel, rfl, by decide +kernel, by decide +kernel⟩
abbrev s_law_number : Stmt := top 25
abbrev N_law_number : List Str := ["figures_v", "p", "told", "k"]
theorem sc_law_number : FnScope N_law_number ["figures_v", "p"] (defScope s_law_number) := ⟨rfl, rfl, rfl, by decide +kernel, rfl, by decide +kernel, by decide +kernel⟩
abbrev s_law_plus : Stmt := top 27
abbrev N_law_plus : List Str := ["p", "many", "a", "b", "mine", "theirs", "k"]
theorem sc_law_plus : FnScope N_law_plus ["p", "many", "a", "b"] (defScope s_law_plus) := ⟨rfl, rfl, rfl, by decide +kernel, rfl, by decide +kernel, by decide +kernel⟩
abbrev s_law_prime : Stmt := top 22
abbrev N_law_prime : List Str := ["q"]
theorem sc_law_prime : FnScope N_law_prime ["q"] (defScope s_law_prime) := ⟨rfl, rfl, rfl, by decide +kernel, rfl, by decide +kernel, by decide +kernel⟩
abbrev s_law_rule : Stmt := top 23
abbrev N_law_rule : List Str := ["q"]
theorem sc_law_rule : FnScope N_law_rule ["q"] (defScope s_law_rule) := ⟨rfl, rfl, rfl, by decide +kernel, rfl, by decide +kernel, by decide +kernel⟩
abbrev s_law_times : Stmt := top 26
abbrev N_law_times : List Str := ["p", "rule", "a", "b", "many", "mine", "theirs", "here", "step", "top", "more", "k"]
theorem sc_law_times : FnScope N_law_times ["p", "rule", "a", "b"] (defScope s_law_times) := ⟨rfl, rfl, rfl, by decide +kernel, rfl, by decide +kernel, by decide +kernel⟩
abbrev s_law_tables : Stmt := top 28
abbrev N_law_tables : List Str := ["q", "p", "rule", "sums", "products", "a", "b"]
theorem sc_law_tables : FnScope N_law_tables ["q"] (defScope s_law_tables) := ⟨rfl, rfl, rfl, by decide +kernel, rfl, by decide +kernel, by decide +kernel⟩
abbrev s_law : Stmt := top 31
abbrev N_law : List Str := ["script", "feed", "numbers", "q", "tables", "one", "other", "more", "line", "nothing", "lines", "a"]
theorem sc_law : FnScope N_law ["script"] (defScope s_law) := ⟨rfl, rfl, rfl, by decide +kernel, rfl, by decide +kernel, by decide +kernel⟩
def b_law_pairs : Sx := (sSeq (sAsg 3 [] (eLst aNil)) (sSeq (sFor [] (iRng1 (eVar 1)) (gN 4) (sFor [] (iRng1 (eVar 1)) (gN 5) (sSeq (sAsg 6 [] (eC (.bl true))) (sSeq (sFor [(2, 0)] (iSeq (eVar 2)) (gN 7) (sSeq (sAsg 8 [(0, 0)] (eIx (eIx (eIx (eVar 0) (eC (.int 0))) (eIx (eIx (eIx (eVar 0) (eC (.int 1))) (eIx (eVar 7) (eC (.int 0)))) (eVar 4))) (eIx (eIx (eIx (eVar 0) (eC (.int 1))) (eIx (eVar 7) (eC (.int 1)))) (eVar 5)))) (sAsg 6 [] (eAnd (eVar 6) (eBin oEq (eVar 8) (eIx (eVar 7) (eC (.int 2)))))))) (sIf (tTru (eVar 6)) (sApp 3 ([(4, 0)] ++ ([(5, 0)] ++ [])) (eTup (aCons (eVar 4) (aCons (eVar 5) aNil)))) sSkip))))) (sRetV 3)))
def f_law_pairs : VL.Fn := runB 6 b_law_pairs
def b_law_same (rc : VL.Fn) : Sx := (sSeq (sIf (tTru (eIsi .list (eVar 1))) (sSeq (sIf (tOr (tNt (tTru (eIsi .list (eVar 0)))) (tB (eBin oNe (eCall fLen (aCons (eVar 0) aNil)) (eCall fLen (aCons (eVar 1) aNil))))) (sRet (eC (.bl false))) sSkip) (sRet (eCall fAll (aCons (eComp (iRng1 (eCall fLen (aCons (eVar 1) aNil))) [2] (gN 2) tYesV (eFn 2 rc (aCons (eIx (eVar 0) (eVar 2)) (aCons (eIx (eVar 1) (eVar 2)) aNil)))) aNil)))) sSkip) (sSeq (sIf (tTru (eIsi .tuple (eVar 1))) (sSeq (sIf (tOr (tNt (tTru (eIsi .tuple (eVar 0)))) (tB (eBin oNe (eCall fLen (aCons (eVar 0) aNil)) (eCall fLen (aCons (eVar 1) aNil))))) (sRet (eC (.bl false))) sSkip) (sRet (eCall fAll (aCons (eComp (iRng1 (eCall fLen (aCons (eVar 1) aNil))) [2] (gN 2) tYesV (eFn 2 rc (aCons (eIx (eVar 0) (eVar 2)) (aCons (eIx (eVar 1) (eVar 2)) aNil)))) aNil)))) sSkip) (sSeq (sIf (tB (eBin oIsN (eVar 1) (eC (.non)))) (sRet (eBin oIsN (eVar 0) (eC (.non)))) sSkip) (sSeq (sIf (tTru (eIsi .bool (eVar 1))) (sRet (eAnd (eIsi .bool (eVar 0)) (eBin oEq (eVar 0) (eVar 1)))) sSkip) (sSeq (sIf (tTru (eIsi .str (eVar 1))) (sRet (eAnd (eIsi .str (eVar 0)) (eBin oEq (eVar 0) (eVar 1)))) sSkip) (sRet (eAnd (eIsi .int (eVar 0)) (eAnd (eNot (eIsi .bool (eVar 0))) (eBin oEq (eVar 0) (eVar 1))))))))))
def g_law_same : Nat → VL.Fn
  | 0 => fBad
  | n + 1 => runB 1 (b_law_same (g_law_same n))
abbrev f_law_same : VL.Fn := g_law_same 6
def b_prime_and_degree : Sx := (sSeq (sIf (tNt (tB (eChain oLe oLe (eC (.int 2)) (eVar 0) (eC (.int 16))))) (sRet (eC (.non))) sSkip) (sSeq (sAsg 1 [] (eC (.int 2))) (sSeq (sWhile 2000 (tB (eBin oGt (eBin oMod (eVar 0) (eVar 1)) (eC (.int 0)))) (sAug 1 oAddS (eC (.int 1)))) (sSeq (sAsg 2 [] (eC (.int 0))) (sSeq (sMove 3 0) (sSeq (sWhile 2000 (tB (eBin oEq (eBin oMod (eVar 3) (eVar 1)) (eC (.int 0)))) (sSeq (sAug 3 oFdv (eVar 1)) (sAug 2 oAddS (eC (.int 1))))) (sSeq (sIf (tB (eBin oGt (eVar 3) (eC (.int 1)))) (sRet (eC (.non))) sSkip) (sRet (eTup (aCons (eVar 1) (aCons (eVar 2) aNil)))))))))))
def f_prime_and_degree : VL.Fn := runB 3 b_prime_and_degree
def b_figures : Sx := (sSeq (sAsg 3 [] (eLst aNil)) (sSeq (sFor [] (iRng1 (eVar 2)) (gN 4) (sSeq (sApp 3 [] (eBin oMod (eVar 0) (eVar 1))) (sAug 0 oFdv (eVar 1)))) (sRetV 3)))
def f_figures : VL.Fn := runB 2 b_figures
def b_number_of : Sx := (sSeq (sAsg 2 [] (eC (.int 0))) (sSeq (sFor [(0, 0)] (iRev (eVar 0)) (gN 3) (sAsg 2 (([(2, 0)] ++ [(1, 0)]) ++ [(3, 0)]) (eBinG oAdd (eBinG oMulG (eVar 2) (eVar 1)) (eVar 3)))) (sRetV 2)))
def f_number_of : VL.Fn := runB 2 b_number_of
def b_rest_by : Sx := (sSeq (sAsg 3 [(0, 0)] (eList (eVar 0))) (sSeq (sAsg 4 [] (eBin oSub (eCall fLen (aCons (eVar 1) aNil)) (eC (.int 1)))) (sSeq (sFor [] (iRng3 (eBin oSub (eCall fLen (aCons (eVar 3) aNil)) (eC (.int 1))) (eBin oSub (eVar 4) (eC (.int 1))) (eNeg (eC (.int 1)))) (gN 5) (sSeq (sAsg 6 [(3, 0)] (eIx (eVar 3) (eVar 5))) (sFor [] (iRng1 (eBinG oAdd (eVar 4) (eC (.int 1)))) (gN 7) (sPut 3 (eBinG oAdd (eBin oSub (eVar 5) (eVar 4)) (eVar 7)) (eBin oMod (eBin oSub (eIx (eVar 3) (eBinG oAdd (eBin oSub (eVar 5) (eVar 4)) (eVar 7))) (eBinG oMulG (eVar 6) (eIx (eVar 1) (eVar 7)))) (eVar 2)))))) (sRet (eSl (eVar 3) noPart (aPart (eVar 4)))))))
def f_rest_by : VL.Fn := runB 5 b_rest_by
def b_power_of : Sx := (sSeq (sAsg 2 [] (eC (.int 1))) (sSeq (sFor [] (iRng1 (eVar 1)) (gN 3) (sAug 2 oMul (eVar 0))) (sRetV 2)))
def f_power_of : VL.Fn := runB 2 b_power_of
def b_rules_of_degree : Sx := (sRet (eComp (iRng1 (eFn 2 f_power_of (aCons (eVar 0) (aCons (eVar 1) aNil)))) [2] (gN 2) tYesV (eBinG oAdd (eFn 3 f_figures (aCons (eVar 2) (aCons (eVar 0) (aCons (eVar 1) aNil)))) (eLst (aCons (eC (.int 1)) aNil)))))
def f_rules_of_degree : VL.Fn := runB 1 b_rules_of_degree
def b_is_product : Sx := (sSeq (sAsg 2 [] (eBin oSub (eCall fLen (aCons (eVar 0) aNil)) (eC (.int 1)))) (sSeq (sFor [] (iRng2 (eC (.int 1)) (eBinG oAdd (eBin oFdv (eVar 2) (eC (.int 2))) (eC (.int 1)))) (gN 3) (sFor ([(1, 0)] ++ ([(3, 0)] ++ [])) (iSeq (eFn 2 f_rules_of_degree (aCons (eVar 1) (aCons (eVar 3) aNil)))) (gN 4) (sIf (tNt (tTru (eCall fAny2 (aCons (eFn 3 f_rest_by (aCons (eVar 0) (aCons (eVar 4) (aCons (eVar 1) aNil)))) aNil)))) (sRet (eC (.bl true))) sSkip))) (sRet (eC (.bl false)))))
def f_is_product : VL.Fn := runB 3 b_is_product
def b_rule_of : Sx := (sSeq (sAsgG ([(0, 0)] ++ []) (gT 2 (gsC (gN 1) (gsC (gN 2) gsN))) (eFn 1 f_prime_and_degree (aCons (eVar 0) aNil))) (sSeq (sFor ([(1, 0)] ++ ([(2, 0)] ++ [])) (iSeq (eFn 2 f_rules_of_degree (aCons (eVar 1) (aCons (eVar 2) aNil)))) (gN 3) (sIf (tNt (tTru (eFn 2 f_is_product (aCons (eVar 3) (aCons (eVar 1) aNil))))) (sRetV 3) sSkip)) (sRet (eC (.non)))))
def f_rule_of : VL.Fn := runB 3 b_rule_of
def b_times_unknown : Sx := (sSeq (sAsg 3 [(0, 0)] (eIx (eVar 0) (eNeg (eC (.int 1))))) (sRet (eComp (iZip (eBinG oAdd (eLst (aCons (eC (.int 0)) aNil)) (eSl (eVar 0) noPart (aPart (eNeg (eC (.int 1)))))) (eVar 1)) [4, 5] (gT 2 (gsC (gN 4) (gsC (gN 5) gsN))) tYesV (eBin oMod (eBin oSub (eVar 4) (eBinG oMulG (eVar 3) (eVar 5))) (eVar 2)))))
def f_times_unknown : VL.Fn := runB 3 b_times_unknown
def b_products_of : Sx := (sSeq (sAsgG ([(0, 0)] ++ []) (gT 2 (gsC (gN 1) (gsC (gN 2) gsN))) (eFn 1 f_prime_and_degree (aCons (eVar 0) aNil))) (sSeq (sAsg 3 ([(0, 0)] ++ []) (eFn 1 f_rule_of (aCons (eVar 0) aNil))) (sSeq (sAsg 4 [] (eLst aNil)) (sSeq (sFor [] (iRng1 (eVar 0)) (gN 5) (sSeq (sAsg 6 (([(5, 0)] ++ ([(1, 0)] ++ ([(2, 0)] ++ []))) ++ []) (eLst (aCons (eFn 3 f_figures (aCons (eVar 5) (aCons (eVar 1) (aCons (eVar 2) aNil)))) aNil))) (sSeq (sWhile 2000 (tB (eBin oLt (eCall fLen (aCons (eVar 6) aNil)) (eVar 2))) (sApp 6 ([(6, 0)] ++ ([(3, 0)] ++ ([(1, 0)] ++ []))) (eFn 3 f_times_unknown (aCons (eIx (eVar 6) (eNeg (eC (.int 1)))) (aCons (eVar 3) (aCons (eVar 1) aNil)))))) (sSeq (sAsg 7 [] (eLst aNil)) (sSeq (sFor [] (iRng1 (eVar 0)) (gN 8) (sSeq (sAsg 9 ([(8, 0)] ++ ([(1, 0)] ++ ([(2, 0)] ++ []))) (eFn 3 f_figures (aCons (eVar 8) (aCons (eVar 1) (aCons (eVar 2) aNil))))) (sApp 7 ((rdC [] [10] []) ++ ([(1, 0)] ++ [])) (eFn 2 f_number_of (aCons (eComp (iRng1 (eVar 2)) [10] (gN 10) tYesV (eBin oMod (eCall fSum (aCons (eComp (iZip (eVar 9) (eVar 6)) [11, 12] (gT 2 (gsC (gN 11) (gsC (gN 12) gsN))) tYesV (eBinG oMulG (eVar 11) (eIx (eVar 12) (eVar 10)))) aNil)) (eVar 1))) (aCons (eVar 1) aNil)))))) (sApp 4 [(7, 0)] (eVar 7))))))) (sRetV 4)))))
def f_products_of : VL.Fn := runB 12 b_products_of
def P2 : Tr := .ls [.ls [.int 0, .int 0], .ls [.int 0, .int 1]]
def P3 : Tr := .ls [.ls [.int 0, .int 0, .int 0], .ls [.int 0, .int 1, .int 2], .ls [.int 0, .int 2, .int 1]]
def P4 : Tr := .ls [.ls [.int 0, .int 0, .int 0, .int 0], .ls [.int 0, .int 1, .int 2, .int 3], .ls [.int 0, .int 2, .int 3, .int 1], .ls [.int 0, .int 3, .int 1, .int 2]]
def P5 : Tr := .ls [.ls [.int 0, .int 0, .int 0, .int 0, .int 0], .ls [.int 0, .int 1, .int 2, .int 3, .int 4], .ls [.int 0, .int 2, .int 4, .int 1, .int 3], .ls [.int 0, .int 3, .int 1, .int 4, .int 2], .ls [.int 0, .int 4, .int 3, .int 2, .int 1]]
def P7 : Tr := .ls [.ls [.int 0, .int 0, .int 0, .int 0, .int 0, .int 0, .int 0], .ls [.int 0, .int 1, .int 2, .int 3, .int 4, .int 5, .int 6], .ls [.int 0, .int 2, .int 4, .int 6, .int 1, .int 3, .int 5], .ls [.int 0, .int 3, .int 6, .int 2, .int 5, .int 1, .int 4], .ls [.int 0, .int 4, .int 1, .int 5, .int 2, .int 6, .int 3], .ls [.int 0, .int 5, .int 3, .int 1, .int 6, .int 4, .int 2], .ls [.int 0, .int 6, .int 5, .int 4, .int 3, .int 2, .int 1]]
def P8 : Tr := .ls [.ls [.int 0, .int 0, .int 0, .int 0, .int 0, .int 0, .int 0, .int 0], .ls [.int 0, .int 1, .int 2, .int 3, .int 4, .int 5, .int 6, .int 7], .ls [.int 0, .int 2, .int 4, .int 6, .int 3, .int 1, .int 7, .int 5], .ls [.int 0, .int 3, .int 6, .int 5, .int 7, .int 4, .int 1, .int 2], .ls [.int 0, .int 4, .int 3, .int 7, .int 6, .int 2, .int 5, .int 1], .ls [.int 0, .int 5, .int 1, .int 4, .int 2, .int 7, .int 3, .int 6], .ls [.int 0, .int 6, .int 7, .int 1, .int 5, .int 3, .int 2, .int 4], .ls [.int 0, .int 7, .int 5, .int 2, .int 1, .int 6, .int 4, .int 3]]
def P9 : Tr := .ls [.ls [.int 0, .int 0, .int 0, .int 0, .int 0, .int 0, .int 0, .int 0, .int 0], .ls [.int 0, .int 1, .int 2, .int 3, .int 4, .int 5, .int 6, .int 7, .int 8], .ls [.int 0, .int 2, .int 1, .int 6, .int 8, .int 7, .int 3, .int 5, .int 4], .ls [.int 0, .int 3, .int 6, .int 2, .int 5, .int 8, .int 1, .int 4, .int 7], .ls [.int 0, .int 4, .int 8, .int 5, .int 6, .int 1, .int 7, .int 2, .int 3], .ls [.int 0, .int 5, .int 7, .int 8, .int 1, .int 3, .int 4, .int 6, .int 2], .ls [.int 0, .int 6, .int 3, .int 1, .int 7, .int 4, .int 2, .int 8, .int 5], .ls [.int 0, .int 7, .int 5, .int 4, .int 2, .int 6, .int 8, .int 3, .int 1], .ls [.int 0, .int 8, .int 4, .int 7, .int 3, .int 2, .int 5, .int 1, .int 6]]
def P11 : Tr := .ls [.ls [.int 0, .int 0, .int 0, .int 0, .int 0, .int 0, .int 0, .int 0, .int 0, .int 0, .int 0], .ls [.int 0, .int 1, .int 2, .int 3, .int 4, .int 5, .int 6, .int 7, .int 8, .int 9, .int 10], .ls [.int 0, .int 2, .int 4, .int 6, .int 8, .int 10, .int 1, .int 3, .int 5, .int 7, .int 9], .ls [.int 0, .int 3, .int 6, .int 9, .int 1, .int 4, .int 7, .int 10, .int 2, .int 5, .int 8], .ls [.int 0, .int 4, .int 8, .int 1, .int 5, .int 9, .int 2, .int 6, .int 10, .int 3, .int 7], .ls [.int 0, .int 5, .int 10, .int 4, .int 9, .int 3, .int 8, .int 2, .int 7, .int 1, .int 6], .ls [.int 0, .int 6, .int 1, .int 7, .int 2, .int 8, .int 3, .int 9, .int 4, .int 10, .int 5], .ls [.int 0, .int 7, .int 3, .int 10, .int 6, .int 2, .int 9, .int 5, .int 1, .int 8, .int 4], .ls [.int 0, .int 8, .int 5, .int 2, .int 10, .int 7, .int 4, .int 1, .int 9, .int 6, .int 3], .ls [.int 0, .int 9, .int 7, .int 5, .int 3, .int 1, .int 10, .int 8, .int 6, .int 4, .int 2], .ls [.int 0, .int 10, .int 9, .int 8, .int 7, .int 6, .int 5, .int 4, .int 3, .int 2, .int 1]]
def P13 : Tr := .ls [.ls [.int 0, .int 0, .int 0, .int 0, .int 0, .int 0, .int 0, .int 0, .int 0, .int 0, .int 0, .int 0, .int 0], .ls [.int 0, .int 1, .int 2, .int 3, .int 4, .int 5, .int 6, .int 7, .int 8, .int 9, .int 10, .int 11, .int 12], .ls [.int 0, .int 2, .int 4, .int 6, .int 8, .int 10, .int 12, .int 1, .int 3, .int 5, .int 7, .int 9, .int 11], .ls [.int 0, .int 3, .int 6, .int 9, .int 12, .int 2, .int 5, .int 8, .int 11, .int 1, .int 4, .int 7, .int 10], .ls [.int 0, .int 4, .int 8, .int 12, .int 3, .int 7, .int 11, .int 2, .int 6, .int 10, .int 1, .int 5, .int 9], .ls [.int 0, .int 5, .int 10, .int 2, .int 7, .int 12, .int 4, .int 9, .int 1, .int 6, .int 11, .int 3, .int 8], .ls [.int 0, .int 6, .int 12, .int 5, .int 11, .int 4, .int 10, .int 3, .int 9, .int 2, .int 8, .int 1, .int 7], .ls [.int 0, .int 7, .int 1, .int 8, .int 2, .int 9, .int 3, .int 10, .int 4, .int 11, .int 5, .int 12, .int 6], .ls [.int 0, .int 8, .int 3, .int 11, .int 6, .int 1, .int 9, .int 4, .int 12, .int 7, .int 2, .int 10, .int 5], .ls [.int 0, .int 9, .int 5, .int 1, .int 10, .int 6, .int 2, .int 11, .int 7, .int 3, .int 12, .int 8, .int 4], .ls [.int 0, .int 10, .int 7, .int 4, .int 1, .int 11, .int 8, .int 5, .int 2, .int 12, .int 9, .int 6, .int 3], .ls [.int 0, .int 11, .int 9, .int 7, .int 5, .int 3, .int 1, .int 12, .int 10, .int 8, .int 6, .int 4, .int 2], .ls [.int 0, .int 12, .int 11, .int 10, .int 9, .int 8, .int 7, .int 6, .int 5, .int 4, .int 3, .int 2, .int 1]]
def P16 : Tr := .ls [.ls [.int 0, .int 0, .int 0, .int 0, .int 0, .int 0, .int 0, .int 0, .int 0, .int 0, .int 0, .int 0, .int 0, .int 0, .int 0, .int 0], .ls [.int 0, .int 1, .int 2, .int 3, .int 4, .int 5, .int 6, .int 7, .int 8, .int 9, .int 10, .int 11, .int 12, .int 13, .int 14, .int 15], .ls [.int 0, .int 2, .int 4, .int 6, .int 8, .int 10, .int 12, .int 14, .int 3, .int 1, .int 7, .int 5, .int 11, .int 9, .int 15, .int 13], .ls [.int 0, .int 3, .int 6, .int 5, .int 12, .int 15, .int 10, .int 9, .int 11, .int 8, .int 13, .int 14, .int 7, .int 4, .int 1, .int 2], .ls [.int 0, .int 4, .int 8, .int 12, .int 3, .int 7, .int 11, .int 15, .int 6, .int 2, .int 14, .int 10, .int 5, .int 1, .int 13, .int 9], .ls [.int 0, .int 5, .int 10, .int 15, .int 7, .int 2, .int 13, .int 8, .int 14, .int 11, .int 4, .int 1, .int 9, .int 12, .int 3, .int 6], .ls [.int 0, .int 6, .int 12, .int 10, .int 11, .int 13, .int 7, .int 1, .int 5, .int 3, .int 9, .int 15, .int 14, .int 8, .int 2, .int 4], .ls [.int 0, .int 7, .int 14, .int 9, .int 15, .int 8, .int 1, .int 6, .int 13, .int 10, .int 3, .int 4, .int 2, .int 5, .int 12, .int 11], .ls [.int 0, .int 8, .int 3, .int 11, .int 6, .int 14, .int 5, .int 13, .int 12, .int 4, .int 15, .int 7, .int 10, .int 2, .int 9, .int 1], .ls [.int 0, .int 9, .int 1, .int 8, .int 2, .int 11, .int 3, .int 10, .int 4, .int 13, .int 5, .int 12, .int 6, .int 15, .int 7, .int 14], .ls [.int 0, .int 10, .int 7, .int 13, .int 14, .int 4, .int 9, .int 3, .int 15, .int 5, .int 8, .int 2, .int 1, .int 11, .int 6, .int 12], .ls [.int 0, .int 11, .int 5, .int 14, .int 10, .int 1, .int 15, .int 4, .int 7, .int 12, .int 2, .int 9, .int 13, .int 6, .int 8, .int 3], .ls [.int 0, .int 12, .int 11, .int 7, .int 5, .int 9, .int 14, .int 2, .int 10, .int 6, .int 1, .int 13, .int 15, .int 3, .int 4, .int 8], .ls [.int 0, .int 13, .int 9, .int 4, .int 1, .int 12, .int 8, .int 5, .int 2, .int 15, .int 11, .int 6, .int 3, .int 14, .int 10, .int 7], .ls [.int 0, .int 14, .int 15, .int 1, .int 13, .int 3, .int 2, .int 12, .int 9, .int 7, .int 6, .int 8, .int 4, .int 10, .int 11, .int 5], .ls [.int 0, .int 15, .int 13, .int 2, .int 9, .int 6, .int 4, .int 11, .int 1, .int 14, .int 12, .int 3, .int 8, .int 7, .int 5, .int 10]]
def tabQ : Int → Option Tr := fun q => if q = 2 then some P2 else if q = 3 then some P3 else if q = 4 then some P4 else if q = 5 then some P5 else if q = 7 then some P7 else if q = 8 then some P8 else if q = 9 then some P9 else if q = 11 then some P11 else if q = 13 then some P13 else if q = 16 then some P16 else none
def sp_prod : VL.Fn := fun ts => match ts with
  | [.int q] => match tabQ q with
    | some P => .ret (P, 1)
    | none => f_products_of ts
  | _ => f_products_of ts
def b_sums_of : Sx := (sSeq (sAsgG ([(0, 0)] ++ []) (gT 2 (gsC (gN 1) (gsC (gN 2) gsN))) (eFn 1 f_prime_and_degree (aCons (eVar 0) aNil))) (sSeq (sAsg 3 (rdC [] [4] ([(4, 0)] ++ ([(1, 0)] ++ ([(2, 0)] ++ [])))) (eComp (iRng1 (eVar 0)) [4] (gN 4) tYesV (eFn 3 f_figures (aCons (eVar 4) (aCons (eVar 1) (aCons (eVar 2) aNil)))))) (sRet (eComp (iSeq (eVar 3)) [5] (gN 5) tYesV (eComp (iSeq (eVar 3)) [6] (gN 6) tYesV (eFn 2 f_number_of (aCons (eComp (iZip (eVar 5) (eVar 6)) [7, 8] (gT 2 (gsC (gN 7) (gsC (gN 8) gsN))) tYesV (eBin oMod (eBinG oAdd (eVar 7) (eVar 8)) (eVar 1))) (aCons (eVar 1) aNil))))))))
def f_sums_of : VL.Fn := runB 8 b_sums_of
def b_field_of : Sx := (sSeq (sIf (tB (eBin oIsN (eFn 1 f_prime_and_degree (aCons (eVar 0) aNil)) (eC (.non)))) sBad sSkip) (sRet (eTup (aCons (eFn 1 f_sums_of (aCons (eVar 0) aNil)) (aCons (eFn 1 sp_prod (aCons (eVar 0) aNil)) aNil)))))
def f_field_of : VL.Fn := runB 0 b_field_of
def b_solve_two : Sx := (sSeq (sAsgG ([(0, 0)] ++ []) (gT 2 (gsC (gN 2) (gsC (gN 3) gsN))) (eFn 1 f_field_of (aCons (eVar 0) aNil))) (sSeq (sAsg 4 [] (eLst aNil)) (sSeq (sFor [] (iRng1 (eVar 0)) (gN 5) (sFor [] (iRng1 (eVar 0)) (gN 6) (sIf (tTru (eCall fAll (aCons (eComp (iSeq (eVar 1)) [7, 8, 9] (gT 3 (gsC (gN 7) (gsC (gN 8) (gsC (gN 9) gsN)))) tYesV (eBin oEq (eIx (eIx (eVar 2) (eIx (eIx (eVar 3) (eVar 7)) (eVar 5))) (eIx (eIx (eVar 3) (eVar 8)) (eVar 6))) (eVar 9))) aNil))) (sApp 4 ([(5, 0)] ++ ([(6, 0)] ++ [])) (eTup (aCons (eVar 5) (aCons (eVar 6) aNil)))) sSkip))) (sRetV 4))))
def f_solve_two : VL.Fn := runB 8 b_solve_two
def b_law_asked : Sx := (sSeq (sAsg 3 ([(0, 0)] ++ ([(1, 0)] ++ ([(2, 0)] ++ []))) (eFn 3 f_law_pairs (aCons (eVar 0) (aCons (eVar 1) (aCons (eVar 2) aNil))))) (sSeq (sAsg 4 [(2, 0)] (eList (eVar 2))) (sSeq (sAsg 5 ([(1, 0)] ++ ([(4, 0)] ++ [])) (eFn 2 f_solve_two (aCons (eVar 1) (aCons (eVar 4) aNil)))) (sSeq (sIf (tOr (tNt (tTru (eFn 2 f_law_same (aCons (eVar 5) (aCons (eVar 3) aNil))))) (tNt (tTru (eFn 2 f_law_same (aCons (eVar 4) (aCons (eVar 2) aNil)))))) (sRet (eC (.bl false))) sSkip) (sSeq (sAsg 6 [(2, 0)] (eIx (eVar 2) (eC (.int 0)))) (sSeq (sAsg 7 [(2, 0)] (eIx (eVar 2) (eC (.int 1)))) (sSeq (sIf (tB (eBin oNe (eIx (eIx (eIx (eVar 0) (eC (.int 1))) (eIx (eVar 6) (eC (.int 0)))) (eIx (eVar 7) (eC (.int 1)))) (eIx (eIx (eIx (eVar 0) (eC (.int 1))) (eIx (eVar 6) (eC (.int 1)))) (eIx (eVar 7) (eC (.int 0)))))) (sIf (tB (eBin oNe (eCall fLen (aCons (eVar 5) aNil)) (eC (.int 1)))) (sRet (eC (.bl false))) sSkip) (sIf (tB (eBin oNotIn (eCall fLen (aCons (eVar 5) aNil)) (eLst (aCons (eC (.int 0)) (aCons (eVar 1) (aCons (eBinG oMulG (eVar 1) (eVar 1)) aNil)))))) (sRet (eC (.bl false))) sSkip)) (sSeq (sApp 5 ([] ++ ([] ++ [])) (eTup (aCons (eC (.int 0)) (aCons (eC (.int 0)) aNil)))) (sRet (eFn 2 f_law_same (aCons (eFn 2 f_solve_two (aCons (eVar 1) (aCons (eVar 4) aNil))) (aCons (eVar 3) aNil))))))))))))
def f_law_asked : VL.Fn := runB 5 b_law_asked
abbrev f_law_draw : VL.Fn := fDraw
def b_law_figures : Sx := (sSeq (sAsg 3 [] (eLst aNil)) (sSeq (sFor [] (iRng1 (eVar 2)) (gN 4) (sSeq (sApp 3 [] (eBin oMod (eCall fInt (aCons (eVar 0) aNil)) (eVar 1))) (sAsg 0 [] (eBin oFdv (eVar 0) (eVar 1))))) (sRetV 3)))
def f_law_figures : VL.Fn := runB 2 b_law_figures
def b_law_number : Sx := (sSeq (sAsg 2 [] (eC (.int 0))) (sSeq (sFor [] (iRng1 (eCall fLen (aCons (eVar 0) aNil))) (gN 3) (sAsg 2 (([(2, 0)] ++ [(1, 0)]) ++ [(0, 0)]) (eBinG oAdd (eBinG oMulG (eVar 2) (eVar 1)) (eIx (eVar 0) (eBin oSub (eBin oSub (eCall fLen (aCons (eVar 0) aNil)) (eC (.int 1))) (eVar 3)))))) (sRetV 2)))
def f_law_number : VL.Fn := runB 2 b_law_number
def b_law_plus : Sx := (sSeq (sAsg 4 ([(2, 0)] ++ ([(0, 0)] ++ ([(1, 0)] ++ []))) (eFn 3 f_law_figures (aCons (eVar 2) (aCons (eVar 0) (aCons (eVar 1) aNil))))) (sSeq (sAsg 5 ([(3, 0)] ++ ([(0, 0)] ++ ([(1, 0)] ++ []))) (eFn 3 f_law_figures (aCons (eVar 3) (aCons (eVar 0) (aCons (eVar 1) aNil))))) (sRet (eFn 2 f_law_number (aCons (eComp (iRng1 (eVar 1)) [6] (gN 6) tYesV (eBin oMod (eCall fInt (aCons (eBinG oAdd (eIx (eVar 4) (eVar 6)) (eIx (eVar 5) (eVar 6))) aNil)) (eVar 0))) (aCons (eVar 0) aNil))))))
def f_law_plus : VL.Fn := runB 3 b_law_plus
def b_law_prime : Sx := (sRet (eDIx [2, 3, 4, 5, 7, 8, 9, 11, 13, 16] (aCons (eC (.int 2)) (aCons (eC (.int 3)) (aCons (eC (.int 2)) (aCons (eC (.int 5)) (aCons (eC (.int 7)) (aCons (eC (.int 2)) (aCons (eC (.int 3)) (aCons (eC (.int 11)) (aCons (eC (.int 13)) (aCons (eC (.int 2)) aNil)))))))))) (eVar 0)))
def f_law_prime : VL.Fn := runB 0 b_law_prime
def b_law_rule : Sx := (sRet (eDGet [4, 8, 9, 16] (aCons (eLst (aCons (eC (.int 1)) (aCons (eC (.int 1)) (aCons (eC (.int 1)) aNil)))) (aCons (eLst (aCons (eC (.int 1)) (aCons (eC (.int 1)) (aCons (eC (.int 0)) (aCons (eC (.int 1)) aNil))))) (aCons (eLst (aCons (eC (.int 1)) (aCons (eC (.int 0)) (aCons (eC (.int 1)) aNil)))) (aCons (eLst (aCons (eC (.int 1)) (aCons (eC (.int 1)) (aCons (eC (.int 0)) (aCons (eC (.int 0)) (aCons (eC (.int 1)) aNil)))))) aNil)))) (eVar 0) (eLst (aCons (eC (.int 0)) (aCons (eC (.int 1)) aNil)))))
def f_law_rule : VL.Fn := runB 0 b_law_rule
def b_law_times : Sx := (sSeq (sAsg 4 [] (eBin oSub (eCall fLen (aCons (eVar 1) aNil)) (eC (.int 1)))) (sSeq (sAsg 5 ([(2, 0)] ++ ([(0, 0)] ++ ([(4, 0)] ++ []))) (eFn 3 f_law_figures (aCons (eVar 2) (aCons (eVar 0) (aCons (eVar 4) aNil))))) (sSeq (sAsg 6 ([(3, 0)] ++ ([(0, 0)] ++ ([(4, 0)] ++ []))) (eFn 3 f_law_figures (aCons (eVar 3) (aCons (eVar 0) (aCons (eVar 4) aNil))))) (sSeq (sAsg 7 (rdC [] [11] []) (eComp (iRng1 (eVar 4)) [11] (gN 11) tYesV (eC (.int 0)))) (sSeq (sFor [] (iRng1 (eVar 4)) (gN 8) (sSeq (sAsg 9 [(7, 0)] (eIx (eVar 7) (eBin oSub (eVar 4) (eC (.int 1))))) (sSeq (sAsg 7 (([] ++ []) ++ [(7, 0)]) (eBinG oAdd (eLst (aCons (eC (.int 0)) aNil)) (eSl (eVar 7) noPart (aPart (eBin oSub (eVar 4) (eC (.int 1))))))) (sSeq (sAsg 10 [(6, 0)] (eIx (eVar 6) (eBin oSub (eBin oSub (eVar 4) (eC (.int 1))) (eVar 8)))) (sAsg 7 (rdC [] [11] []) (eComp (iRng1 (eVar 4)) [11] (gN 11) tYesV (eBin oMod (eCall fInt (aCons (eBinG oAdd (eBin oSub (eIx (eVar 7) (eVar 11)) (eBinG oMulG (eVar 9) (eIx (eVar 1) (eVar 11)))) (eBinG oMulG (eVar 10) (eIx (eVar 5) (eVar 11)))) aNil)) (eVar 0)))))))) (sRet (eFn 2 f_law_number (aCons (eVar 7) (aCons (eVar 0) aNil)))))))))
def f_law_times : VL.Fn := runB 8 b_law_times
def tm0 : List (Tr × Tr) := [(.ls [.int 2, .ls [.int 1, .int 1, .int 0, .int 0, .int 1], .int 0, .int 0], .int 0), (.ls [.int 2, .ls [.int 1, .int 1, .int 0, .int 0, .int 1], .int 0, .int 1], .int 0), (.ls [.int 2, .ls [.int 1, .int 1, .int 0, .int 0, .int 1], .int 0, .int 2], .int 0), (.ls [.int 2, .ls [.int 1, .int 1, .int 0, .int 0, .int 1], .int 0, .int 3], .int 0), (.ls [.int 2, .ls [.int 1, .int 1, .int 0, .int 0, .int 1], .int 0, .int 4], .int 0), (.ls [.int 2, .ls [.int 1, .int 1, .int 0, .int 0, .int 1], .int 0, .int 5], .int 0), (.ls [.int 2, .ls [.int 1, .int 1, .int 0, .int 0, .int 1], .int 0, .int 6], .int 0), (.ls [.int 2, .ls [.int 1, .int 1, .int 0, .int 0, .int 1], .int 0, .int 7], .int 0), (.ls [.int 2, .ls [.int 1, .int 1, .int 0, .int 0, .int 1], .int 0, .int 8], .int 0), (.ls [.int 2, .ls [.int 1, .int 1, .int 0, .int 0, .int 1], .int 0, .int 9], .int 0), (.ls [.int 2, .ls [.int 1, .int 1, .int 0, .int 0, .int 1], .int 0, .int 10], .int 0), (.ls [.int 2, .ls [.int 1, .int 1, .int 0, .int 0, .int 1], .int 0, .int 11], .int 0), (.ls [.int 2, .ls [.int 1, .int 1, .int 0, .int 0, .int 1], .int 0, .int 12], .int 0), (.ls [.int 2, .ls [.int 1, .int 1, .int 0, .int 0, .int 1], .int 0, .int 13], .int 0), (.ls [.int 2, .ls [.int 1, .int 1, .int 0, .int 0, .int 1], .int 0, .int 14], .int 0), (.ls [.int 2, .ls [.int 1, .int 1, .int 0, .int 0, .int 1], .int 0, .int 15], .int 0)]
def tm1 : List (Tr × Tr) := [(.ls [.int 2, .ls [.int 1, .int 1, .int 0, .int 0, .int 1], .int 1, .int 0], .int 0), (.ls [.int 2, .ls [.int 1, .int 1, .int 0, .int 0, .int 1], .int 1, .int 1], .int 1), (.ls [.int 2, .ls [.int 1, .int 1, .int 0, .int 0, .int 1], .int 1, .int 2], .int 2), (.ls [.int 2, .ls [.int 1, .int 1, .int 0, .int 0, .int 1], .int 1, .int 3], .int 3), (.ls [.int 2, .ls [.int 1, .int 1, .int 0, .int 0, .int 1], .int 1, .int 4], .int 4), (.ls [.int 2, .ls [.int 1, .int 1, .int 0, .int 0, .int 1], .int 1, .int 5], .int 5), (.ls [.int 2, .ls [.int 1, .int 1, .int 0, .int 0, .int 1], .int 1, .int 6], .int 6), (.ls [.int 2, .ls [.int 1, .int 1, .int 0, .int 0, .int 1], .int 1, .int 7], .int 7), (.ls [.int 2, .ls [.int 1, .int 1, .int 0, .int 0, .int 1], .int 1, .int 8], .int 8), (.ls [.int 2, .ls [.int 1, .int 1, .int 0, .int 0, .int 1], .int 1, .int 9], .int 9), (.ls [.int 2, .ls [.int 1, .int 1, .int 0, .int 0, .int 1], .int 1, .int 10], .int 10), (.ls [.int 2, .ls [.int 1, .int 1, .int 0, .int 0, .int 1], .int 1, .int 11], .int 11), (.ls [.int 2, .ls [.int 1, .int 1, .int 0, .int 0, .int 1], .int 1, .int 12], .int 12), (.ls [.int 2, .ls [.int 1, .int 1, .int 0, .int 0, .int 1], .int 1, .int 13], .int 13), (.ls [.int 2, .ls [.int 1, .int 1, .int 0, .int 0, .int 1], .int 1, .int 14], .int 14), (.ls [.int 2, .ls [.int 1, .int 1, .int 0, .int 0, .int 1], .int 1, .int 15], .int 15)]
def tm2 : List (Tr × Tr) := [(.ls [.int 2, .ls [.int 1, .int 1, .int 0, .int 0, .int 1], .int 2, .int 0], .int 0), (.ls [.int 2, .ls [.int 1, .int 1, .int 0, .int 0, .int 1], .int 2, .int 1], .int 2), (.ls [.int 2, .ls [.int 1, .int 1, .int 0, .int 0, .int 1], .int 2, .int 2], .int 4), (.ls [.int 2, .ls [.int 1, .int 1, .int 0, .int 0, .int 1], .int 2, .int 3], .int 6), (.ls [.int 2, .ls [.int 1, .int 1, .int 0, .int 0, .int 1], .int 2, .int 4], .int 8), (.ls [.int 2, .ls [.int 1, .int 1, .int 0, .int 0, .int 1], .int 2, .int 5], .int 10), (.ls [.int 2, .ls [.int 1, .int 1, .int 0, .int 0, .int 1], .int 2, .int 6], .int 12), (.ls [.int 2, .ls [.int 1, .int 1, .int 0, .int 0, .int 1], .int 2, .int 7], .int 14), (.ls [.int 2, .ls [.int 1, .int 1, .int 0, .int 0, .int 1], .int 2, .int 8], .int 3), (.ls [.int 2, .ls [.int 1, .int 1, .int 0, .int 0, .int 1], .int 2, .int 9], .int 1), (.ls [.int 2, .ls [.int 1, .int 1, .int 0, .int 0, .int 1], .int 2, .int 10], .int 7), (.ls [.int 2, .ls [.int 1, .int 1, .int 0, .int 0, .int 1], .int 2, .int 11], .int 5), (.ls [.int 2, .ls [.int 1, .int 1, .int 0, .int 0, .int 1], .int 2, .int 12], .int 11), (.ls [.int 2, .ls [.int 1, .int 1, .int 0, .int 0, .int 1], .int 2, .int 13], .int 9), (.ls [.int 2, .ls [.int 1, .int 1, .int 0, .int 0, .int 1], .int 2, .int 14], .int 15), (.ls [.int 2, .ls [.int 1, .int 1, .int 0, .int 0, .int 1], .int 2, .int 15], .int 13)]
def tm3 : List (Tr × Tr) := [(.ls [.int 2, .ls [.int 1, .int 1, .int 0, .int 0, .int 1], .int 3, .int 0], .int 0), (.ls [.int 2, .ls [.int 1, .int 1, .int 0, .int 0, .int 1], .int 3, .int 1], .int 3), (.ls [.int 2, .ls [.int 1, .int 1, .int 0, .int 0, .int 1], .int 3, .int 2], .int 6), (.ls [.int 2, .ls [.int 1, .int 1, .int 0, .int 0, .int 1], .int 3, .int 3], .int 5), (.ls [.int 2, .ls [.int 1, .int 1, .int 0, .int 0, .int 1], .int 3, .int 4], .int 12), (.ls [.int 2, .ls [.int 1, .int 1, .int 0, .int 0, .int 1], .int 3, .int 5], .int 15), (.ls [.int 2, .ls [.int 1, .int 1, .int 0, .int 0, .int 1], .int 3, .int 6], .int 10), (.ls [.int 2, .ls [.int 1, .int 1, .int 0, .int 0, .int 1], .int 3, .int 7], .int 9), (.ls [.int 2, .ls [.int 1, .int 1, .int 0, .int 0, .int 1], .int 3, .int 8], .int 11), (.ls [.int 2, .ls [.int 1, .int 1, .int 0, .int 0, .int 1], .int 3, .int 9], .int 8), (.ls [.int 2, .ls [.int 1, .int 1, .int 0, .int 0, .int 1], .int 3, .int 10], .int 13), (.ls [.int 2, .ls [.int 1, .int 1, .int 0, .int 0, .int 1], .int 3, .int 11], .int 14), (.ls [.int 2, .ls [.int 1, .int 1, .int 0, .int 0, .int 1], .int 3, .int 12], .int 7), (.ls [.int 2, .ls [.int 1, .int 1, .int 0, .int 0, .int 1], .int 3, .int 13], .int 4), (.ls [.int 2, .ls [.int 1, .int 1, .int 0, .int 0, .int 1], .int 3, .int 14], .int 1), (.ls [.int 2, .ls [.int 1, .int 1, .int 0, .int 0, .int 1], .int 3, .int 15], .int 2)]
def tm4 : List (Tr × Tr) := [(.ls [.int 2, .ls [.int 1, .int 1, .int 0, .int 0, .int 1], .int 4, .int 0], .int 0), (.ls [.int 2, .ls [.int 1, .int 1, .int 0, .int 0, .int 1], .int 4, .int 1], .int 4), (.ls [.int 2, .ls [.int 1, .int 1, .int 0, .int 0, .int 1], .int 4, .int 2], .int 8), (.ls [.int 2, .ls [.int 1, .int 1, .int 0, .int 0, .int 1], .int 4, .int 3], .int 12), (.ls [.int 2, .ls [.int 1, .int 1, .int 0, .int 0, .int 1], .int 4, .int 4], .int 3), (.ls [.int 2, .ls [.int 1, .int 1, .int 0, .int 0, .int 1], .int 4, .int 5], .int 7), (.ls [.int 2, .ls [.int 1, .int 1, .int 0, .int 0, .int 1], .int 4, .int 6], .int 11), (.ls [.int 2, .ls [.int 1, .int 1, .int 0, .int 0, .int 1], .int 4, .int 7], .int 15), (.ls [.int 2, .ls [.int 1, .int 1, .int 0, .int 0, .int 1], .int 4, .int 8], .int 6), (.ls [.int 2, .ls [.int 1, .int 1, .int 0, .int 0, .int 1], .int 4, .int 9], .int 2), (.ls [.int 2, .ls [.int 1, .int 1, .int 0, .int 0, .int 1], .int 4, .int 10], .int 14), (.ls [.int 2, .ls [.int 1, .int 1, .int 0, .int 0, .int 1], .int 4, .int 11], .int 10), (.ls [.int 2, .ls [.int 1, .int 1, .int 0, .int 0, .int 1], .int 4, .int 12], .int 5), (.ls [.int 2, .ls [.int 1, .int 1, .int 0, .int 0, .int 1], .int 4, .int 13], .int 1), (.ls [.int 2, .ls [.int 1, .int 1, .int 0, .int 0, .int 1], .int 4, .int 14], .int 13), (.ls [.int 2, .ls [.int 1, .int 1, .int 0, .int 0, .int 1], .int 4, .int 15], .int 9)]
def tm5 : List (Tr × Tr) := [(.ls [.int 2, .ls [.int 1, .int 1, .int 0, .int 0, .int 1], .int 5, .int 0], .int 0), (.ls [.int 2, .ls [.int 1, .int 1, .int 0, .int 0, .int 1], .int 5, .int 1], .int 5), (.ls [.int 2, .ls [.int 1, .int 1, .int 0, .int 0, .int 1], .int 5, .int 2], .int 10), (.ls [.int 2, .ls [.int 1, .int 1, .int 0, .int 0, .int 1], .int 5, .int 3], .int 15), (.ls [.int 2, .ls [.int 1, .int 1, .int 0, .int 0, .int 1], .int 5, .int 4], .int 7), (.ls [.int 2, .ls [.int 1, .int 1, .int 0, .int 0, .int 1], .int 5, .int 5], .int 2), (.ls [.int 2, .ls [.int 1, .int 1, .int 0, .int 0, .int 1], .int 5, .int 6], .int 13), (.ls [.int 2, .ls [.int 1, .int 1, .int 0, .int 0, .int 1], .int 5, .int 7], .int 8), (.ls [.int 2, .ls [.int 1, .int 1, .int 0, .int 0, .int 1], .int 5, .int 8], .int 14), (.ls [.int 2, .ls [.int 1, .int 1, .int 0, .int 0, .int 1], .int 5, .int 9], .int 11), (.ls [.int 2, .ls [.int 1, .int 1, .int 0, .int 0, .int 1], .int 5, .int 10], .int 4), (.ls [.int 2, .ls [.int 1, .int 1, .int 0, .int 0, .int 1], .int 5, .int 11], .int 1), (.ls [.int 2, .ls [.int 1, .int 1, .int 0, .int 0, .int 1], .int 5, .int 12], .int 9), (.ls [.int 2, .ls [.int 1, .int 1, .int 0, .int 0, .int 1], .int 5, .int 13], .int 12), (.ls [.int 2, .ls [.int 1, .int 1, .int 0, .int 0, .int 1], .int 5, .int 14], .int 3), (.ls [.int 2, .ls [.int 1, .int 1, .int 0, .int 0, .int 1], .int 5, .int 15], .int 6)]
def tm6 : List (Tr × Tr) := [(.ls [.int 2, .ls [.int 1, .int 1, .int 0, .int 0, .int 1], .int 6, .int 0], .int 0), (.ls [.int 2, .ls [.int 1, .int 1, .int 0, .int 0, .int 1], .int 6, .int 1], .int 6), (.ls [.int 2, .ls [.int 1, .int 1, .int 0, .int 0, .int 1], .int 6, .int 2], .int 12), (.ls [.int 2, .ls [.int 1, .int 1, .int 0, .int 0, .int 1], .int 6, .int 3], .int 10), (.ls [.int 2, .ls [.int 1, .int 1, .int 0, .int 0, .int 1], .int 6, .int 4], .int 11), (.ls [.int 2, .ls [.int 1, .int 1, .int 0, .int 0, .int 1], .int 6, .int 5], .int 13), (.ls [.int 2, .ls [.int 1, .int 1, .int 0, .int 0, .int 1], .int 6, .int 6], .int 7), (.ls [.int 2, .ls [.int 1, .int 1, .int 0, .int 0, .int 1], .int 6, .int 7], .int 1), (.ls [.int 2, .ls [.int 1, .int 1, .int 0, .int 0, .int 1], .int 6, .int 8], .int 5), (.ls [.int 2, .ls [.int 1, .int 1, .int 0, .int 0, .int 1], .int 6, .int 9], .int 3), (.ls [.int 2, .ls [.int 1, .int 1, .int 0, .int 0, .int 1], .int 6, .int 10], .int 9), (.ls [.int 2, .ls [.int 1, .int 1, .int 0, .int 0, .int 1], .int 6, .int 11], .int 15), (.ls [.int 2, .ls [.int 1, .int 1, .int 0, .int 0, .int 1], .int 6, .int 12], .int 14), (.ls [.int 2, .ls [.int 1, .int 1, .int 0, .int 0, .int 1], .int 6, .int 13], .int 8), (.ls [.int 2, .ls [.int 1, .int 1, .int 0, .int 0, .int 1], .int 6, .int 14], .int 2), (.ls [.int 2, .ls [.int 1, .int 1, .int 0, .int 0, .int 1], .int 6, .int 15], .int 4)]
def tm7 : List (Tr × Tr) := [(.ls [.int 2, .ls [.int 1, .int 1, .int 0, .int 0, .int 1], .int 7, .int 0], .int 0), (.ls [.int 2, .ls [.int 1, .int 1, .int 0, .int 0, .int 1], .int 7, .int 1], .int 7), (.ls [.int 2, .ls [.int 1, .int 1, .int 0, .int 0, .int 1], .int 7, .int 2], .int 14), (.ls [.int 2, .ls [.int 1, .int 1, .int 0, .int 0, .int 1], .int 7, .int 3], .int 9), (.ls [.int 2, .ls [.int 1, .int 1, .int 0, .int 0, .int 1], .int 7, .int 4], .int 15), (.ls [.int 2, .ls [.int 1, .int 1, .int 0, .int 0, .int 1], .int 7, .int 5], .int 8), (.ls [.int 2, .ls [.int 1, .int 1, .int 0, .int 0, .int 1], .int 7, .int 6], .int 1), (.ls [.int 2, .ls [.int 1, .int 1, .int 0, .int 0, .int 1], .int 7, .int 7], .int 6), (.ls [.int 2, .ls [.int 1, .int 1, .int 0, .int 0, .int 1], .int 7, .int 8], .int 13), (.ls [.int 2, .ls [.int 1, .int 1, .int 0, .int 0, .int 1], .int 7, .int 9], .int 10), (.ls [.int 2, .ls [.int 1, .int 1, .int 0, .int 0, .int 1], .int 7, .int 10], .int 3), (.ls [.int 2, .ls [.int 1, .int 1, .int 0, .int 0, .int 1], .int 7, .int 11], .int 4), (.ls [.int 2, .ls [.int 1, .int 1, .int 0, .int 0, .int 1], .int 7, .int 12], .int 2), (.ls [.int 2, .ls [.int 1, .int 1, .int 0, .int 0, .int 1], .int 7, .int 13], .int 5), (.ls [.int 2, .ls [.int 1, .int 1, .int 0, .int 0, .int 1], .int 7, .int 14], .int 12), (.ls [.int 2, .ls [.int 1, .int 1, .int 0, .int 0, .int 1], .int 7, .int 15], .int 11)]
def tm8 : List (Tr × Tr) := [(.ls [.int 2, .ls [.int 1, .int 1, .int 0, .int 0, .int 1], .int 8, .int 0], .int 0), (.ls [.int 2, .ls [.int 1, .int 1, .int 0, .int 0, .int 1], .int 8, .int 1], .int 8), (.ls [.int 2, .ls [.int 1, .int 1, .int 0, .int 0, .int 1], .int 8, .int 2], .int 3), (.ls [.int 2, .ls [.int 1, .int 1, .int 0, .int 0, .int 1], .int 8, .int 3], .int 11), (.ls [.int 2, .ls [.int 1, .int 1, .int 0, .int 0, .int 1], .int 8, .int 4], .int 6), (.ls [.int 2, .ls [.int 1, .int 1, .int 0, .int 0, .int 1], .int 8, .int 5], .int 14), (.ls [.int 2, .ls [.int 1, .int 1, .int 0, .int 0, .int 1], .int 8, .int 6], .int 5), (.ls [.int 2, .ls [.int 1, .int 1, .int 0, .int 0, .int 1], .int 8, .int 7], .int 13), (.ls [.int 2, .ls [.int 1, .int 1, .int 0, .int 0, .int 1], .int 8, .int 8], .int 12), (.ls [.int 2, .ls [.int 1, .int 1, .int 0, .int 0, .int 1], .int 8, .int 9], .int 4), (.ls [.int 2, .ls [.int 1, .int 1, .int 0, .int 0, .int 1], .int 8, .int 10], .int 15), (.ls [.int 2, .ls [.int 1, .int 1, .int 0, .int 0, .int 1], .int 8, .int 11], .int 7), (.ls [.int 2, .ls [.int 1, .int 1, .int 0, .int 0, .int 1], .int 8, .int 12], .int 10), (.ls [.int 2, .ls [.int 1, .int 1, .int 0, .int 0, .int 1], .int 8, .int 13], .int 2), (.ls [.int 2, .ls [.int 1, .int 1, .int 0, .int 0, .int 1], .int 8, .int 14], .int 9), (.ls [.int 2, .ls [.int 1, .int 1, .int 0, .int 0, .int 1], .int 8, .int 15], .int 1)]
def tm9 : List (Tr × Tr) := [(.ls [.int 2, .ls [.int 1, .int 1, .int 0, .int 0, .int 1], .int 9, .int 0], .int 0), (.ls [.int 2, .ls [.int 1, .int 1, .int 0, .int 0, .int 1], .int 9, .int 1], .int 9), (.ls [.int 2, .ls [.int 1, .int 1, .int 0, .int 0, .int 1], .int 9, .int 2], .int 1), (.ls [.int 2, .ls [.int 1, .int 1, .int 0, .int 0, .int 1], .int 9, .int 3], .int 8), (.ls [.int 2, .ls [.int 1, .int 1, .int 0, .int 0, .int 1], .int 9, .int 4], .int 2), (.ls [.int 2, .ls [.int 1, .int 1, .int 0, .int 0, .int 1], .int 9, .int 5], .int 11), (.ls [.int 2, .ls [.int 1, .int 1, .int 0, .int 0, .int 1], .int 9, .int 6], .int 3), (.ls [.int 2, .ls [.int 1, .int 1, .int 0, .int 0, .int 1], .int 9, .int 7], .int 10), (.ls [.int 2, .ls [.int 1, .int 1, .int 0, .int 0, .int 1], .int 9, .int 8], .int 4), (.ls [.int 2, .ls [.int 1, .int 1, .int 0, .int 0, .int 1], .int 9, .int 9], .int 13), (.ls [.int 2, .ls [.int 1, .int 1, .int 0, .int 0, .int 1], .int 9, .int 10], .int 5), (.ls [.int 2, .ls [.int 1, .int 1, .int 0, .int 0, .int 1], .int 9, .int 11], .int 12), (.ls [.int 2, .ls [.int 1, .int 1, .int 0, .int 0, .int 1], .int 9, .int 12], .int 6), (.ls [.int 2, .ls [.int 1, .int 1, .int 0, .int 0, .int 1], .int 9, .int 13], .int 15), (.ls [.int 2, .ls [.int 1, .int 1, .int 0, .int 0, .int 1], .int 9, .int 14], .int 7), (.ls [.int 2, .ls [.int 1, .int 1, .int 0, .int 0, .int 1], .int 9, .int 15], .int 14)]
def tm10 : List (Tr × Tr) := [(.ls [.int 2, .ls [.int 1, .int 1, .int 0, .int 0, .int 1], .int 10, .int 0], .int 0), (.ls [.int 2, .ls [.int 1, .int 1, .int 0, .int 0, .int 1], .int 10, .int 1], .int 10), (.ls [.int 2, .ls [.int 1, .int 1, .int 0, .int 0, .int 1], .int 10, .int 2], .int 7), (.ls [.int 2, .ls [.int 1, .int 1, .int 0, .int 0, .int 1], .int 10, .int 3], .int 13), (.ls [.int 2, .ls [.int 1, .int 1, .int 0, .int 0, .int 1], .int 10, .int 4], .int 14), (.ls [.int 2, .ls [.int 1, .int 1, .int 0, .int 0, .int 1], .int 10, .int 5], .int 4), (.ls [.int 2, .ls [.int 1, .int 1, .int 0, .int 0, .int 1], .int 10, .int 6], .int 9), (.ls [.int 2, .ls [.int 1, .int 1, .int 0, .int 0, .int 1], .int 10, .int 7], .int 3), (.ls [.int 2, .ls [.int 1, .int 1, .int 0, .int 0, .int 1], .int 10, .int 8], .int 15), (.ls [.int 2, .ls [.int 1, .int 1, .int 0, .int 0, .int 1], .int 10, .int 9], .int 5), (.ls [.int 2, .ls [.int 1, .int 1, .int 0, .int 0, .int 1], .int 10, .int 10], .int 8), (.ls [.int 2, .ls [.int 1, .int 1, .int 0, .int 0, .int 1], .int 10, .int 11], .int 2), (.ls [.int 2, .ls [.int 1, .int 1, .int 0, .int 0, .int 1], .int 10, .int 12], .int 1), (.ls [.int 2, .ls [.int 1, .int 1, .int 0, .int 0, .int 1], .int 10, .int 13], .int 11), (.ls [.int 2, .ls [.int 1, .int 1, .int 0, .int 0, .int 1], .int 10, .int 14], .int 6), (.ls [.int 2, .ls [.int 1, .int 1, .int 0, .int 0, .int 1], .int 10, .int 15], .int 12)]
def tm11 : List (Tr × Tr) := [(.ls [.int 2, .ls [.int 1, .int 1, .int 0, .int 0, .int 1], .int 11, .int 0], .int 0), (.ls [.int 2, .ls [.int 1, .int 1, .int 0, .int 0, .int 1], .int 11, .int 1], .int 11), (.ls [.int 2, .ls [.int 1, .int 1, .int 0, .int 0, .int 1], .int 11, .int 2], .int 5), (.ls [.int 2, .ls [.int 1, .int 1, .int 0, .int 0, .int 1], .int 11, .int 3], .int 14), (.ls [.int 2, .ls [.int 1, .int 1, .int 0, .int 0, .int 1], .int 11, .int 4], .int 10), (.ls [.int 2, .ls [.int 1, .int 1, .int 0, .int 0, .int 1], .int 11, .int 5], .int 1), (.ls [.int 2, .ls [.int 1, .int 1, .int 0, .int 0, .int 1], .int 11, .int 6], .int 15), (.ls [.int 2, .ls [.int 1, .int 1, .int 0, .int 0, .int 1], .int 11, .int 7], .int 4), (.ls [.int 2, .ls [.int 1, .int 1, .int 0, .int 0, .int 1], .int 11, .int 8], .int 7), (.ls [.int 2, .ls [.int 1, .int 1, .int 0, .int 0, .int 1], .int 11, .int 9], .int 12), (.ls [.int 2, .ls [.int 1, .int 1, .int 0, .int 0, .int 1], .int 11, .int 10], .int 2), (.ls [.int 2, .ls [.int 1, .int 1, .int 0, .int 0, .int 1], .int 11, .int 11], .int 9), (.ls [.int 2, .ls [.int 1, .int 1, .int 0, .int 0, .int 1], .int 11, .int 12], .int 13), (.ls [.int 2, .ls [.int 1, .int 1, .int 0, .int 0, .int 1], .int 11, .int 13], .int 6), (.ls [.int 2, .ls [.int 1, .int 1, .int 0, .int 0, .int 1], .int 11, .int 14], .int 8), (.ls [.int 2, .ls [.int 1, .int 1, .int 0, .int 0, .int 1], .int 11, .int 15], .int 3)]
def tm12 : List (Tr × Tr) := [(.ls [.int 2, .ls [.int 1, .int 1, .int 0, .int 0, .int 1], .int 12, .int 0], .int 0), (.ls [.int 2, .ls [.int 1, .int 1, .int 0, .int 0, .int 1], .int 12, .int 1], .int 12), (.ls [.int 2, .ls [.int 1, .int 1, .int 0, .int 0, .int 1], .int 12, .int 2], .int 11), (.ls [.int 2, .ls [.int 1, .int 1, .int 0, .int 0, .int 1], .int 12, .int 3], .int 7), (.ls [.int 2, .ls [.int 1, .int 1, .int 0, .int 0, .int 1], .int 12, .int 4], .int 5), (.ls [.int 2, .ls [.int 1, .int 1, .int 0, .int 0, .int 1], .int 12, .int 5], .int 9), (.ls [.int 2, .ls [.int 1, .int 1, .int 0, .int 0, .int 1], .int 12, .int 6], .int 14), (.ls [.int 2, .ls [.int 1, .int 1, .int 0, .int 0, .int 1], .int 12, .int 7], .int 2), (.ls [.int 2, .ls [.int 1, .int 1, .int 0, .int 0, .int 1], .int 12, .int 8], .int 10), (.ls [.int 2, .ls [.int 1, .int 1, .int 0, .int 0, .int 1], .int 12, .int 9], .int 6), (.ls [.int 2, .ls [.int 1, .int 1, .int 0, .int 0, .int 1], .int 12, .int 10], .int 1), (.ls [.int 2, .ls [.int 1, .int 1, .int 0, .int 0, .int 1], .int 12, .int 11], .int 13), (.ls [.int 2, .ls [.int 1, .int 1, .int 0, .int 0, .int 1], .int 12, .int 12], .int 15), (.ls [.int 2, .ls [.int 1, .int 1, .int 0, .int 0, .int 1], .int 12, .int 13], .int 3), (.ls [.int 2, .ls [.int 1, .int 1, .int 0, .int 0, .int 1], .int 12, .int 14], .int 4), (.ls [.int 2, .ls [.int 1, .int 1, .int 0, .int 0, .int 1], .int 12, .int 15], .int 8)]
def tm13 : List (Tr × Tr) := [(.ls [.int 2, .ls [.int 1, .int 1, .int 0, .int 0, .int 1], .int 13, .int 0], .int 0), (.ls [.int 2, .ls [.int 1, .int 1, .int 0, .int 0, .int 1], .int 13, .int 1], .int 13), (.ls [.int 2, .ls [.int 1, .int 1, .int 0, .int 0, .int 1], .int 13, .int 2], .int 9), (.ls [.int 2, .ls [.int 1, .int 1, .int 0, .int 0, .int 1], .int 13, .int 3], .int 4), (.ls [.int 2, .ls [.int 1, .int 1, .int 0, .int 0, .int 1], .int 13, .int 4], .int 1), (.ls [.int 2, .ls [.int 1, .int 1, .int 0, .int 0, .int 1], .int 13, .int 5], .int 12), (.ls [.int 2, .ls [.int 1, .int 1, .int 0, .int 0, .int 1], .int 13, .int 6], .int 8), (.ls [.int 2, .ls [.int 1, .int 1, .int 0, .int 0, .int 1], .int 13, .int 7], .int 5), (.ls [.int 2, .ls [.int 1, .int 1, .int 0, .int 0, .int 1], .int 13, .int 8], .int 2), (.ls [.int 2, .ls [.int 1, .int 1, .int 0, .int 0, .int 1], .int 13, .int 9], .int 15), (.ls [.int 2, .ls [.int 1, .int 1, .int 0, .int 0, .int 1], .int 13, .int 10], .int 11), (.ls [.int 2, .ls [.int 1, .int 1, .int 0, .int 0, .int 1], .int 13, .int 11], .int 6), (.ls [.int 2, .ls [.int 1, .int 1, .int 0, .int 0, .int 1], .int 13, .int 12], .int 3), (.ls [.int 2, .ls [.int 1, .int 1, .int 0, .int 0, .int 1], .int 13, .int 13], .int 14), (.ls [.int 2, .ls [.int 1, .int 1, .int 0, .int 0, .int 1], .int 13, .int 14], .int 10), (.ls [.int 2, .ls [.int 1, .int 1, .int 0, .int 0, .int 1], .int 13, .int 15], .int 7)]
def tm14 : List (Tr × Tr) := [(.ls [.int 2, .ls [.int 1, .int 1, .int 0, .int 0, .int 1], .int 14, .int 0], .int 0), (.ls [.int 2, .ls [.int 1, .int 1, .int 0, .int 0, .int 1], .int 14, .int 1], .int 14), (.ls [.int 2, .ls [.int 1, .int 1, .int 0, .int 0, .int 1], .int 14, .int 2], .int 15), (.ls [.int 2, .ls [.int 1, .int 1, .int 0, .int 0, .int 1], .int 14, .int 3], .int 1), (.ls [.int 2, .ls [.int 1, .int 1, .int 0, .int 0, .int 1], .int 14, .int 4], .int 13), (.ls [.int 2, .ls [.int 1, .int 1, .int 0, .int 0, .int 1], .int 14, .int 5], .int 3), (.ls [.int 2, .ls [.int 1, .int 1, .int 0, .int 0, .int 1], .int 14, .int 6], .int 2), (.ls [.int 2, .ls [.int 1, .int 1, .int 0, .int 0, .int 1], .int 14, .int 7], .int 12), (.ls [.int 2, .ls [.int 1, .int 1, .int 0, .int 0, .int 1], .int 14, .int 8], .int 9), (.ls [.int 2, .ls [.int 1, .int 1, .int 0, .int 0, .int 1], .int 14, .int 9], .int 7), (.ls [.int 2, .ls [.int 1, .int 1, .int 0, .int 0, .int 1], .int 14, .int 10], .int 6), (.ls [.int 2, .ls [.int 1, .int 1, .int 0, .int 0, .int 1], .int 14, .int 11], .int 8), (.ls [.int 2, .ls [.int 1, .int 1, .int 0, .int 0, .int 1], .int 14, .int 12], .int 4), (.ls [.int 2, .ls [.int 1, .int 1, .int 0, .int 0, .int 1], .int 14, .int 13], .int 10), (.ls [.int 2, .ls [.int 1, .int 1, .int 0, .int 0, .int 1], .int 14, .int 14], .int 11), (.ls [.int 2, .ls [.int 1, .int 1, .int 0, .int 0, .int 1], .int 14, .int 15], .int 5)]
def tm15 : List (Tr × Tr) := [(.ls [.int 2, .ls [.int 1, .int 1, .int 0, .int 0, .int 1], .int 15, .int 0], .int 0), (.ls [.int 2, .ls [.int 1, .int 1, .int 0, .int 0, .int 1], .int 15, .int 1], .int 15), (.ls [.int 2, .ls [.int 1, .int 1, .int 0, .int 0, .int 1], .int 15, .int 2], .int 13), (.ls [.int 2, .ls [.int 1, .int 1, .int 0, .int 0, .int 1], .int 15, .int 3], .int 2), (.ls [.int 2, .ls [.int 1, .int 1, .int 0, .int 0, .int 1], .int 15, .int 4], .int 9), (.ls [.int 2, .ls [.int 1, .int 1, .int 0, .int 0, .int 1], .int 15, .int 5], .int 6), (.ls [.int 2, .ls [.int 1, .int 1, .int 0, .int 0, .int 1], .int 15, .int 6], .int 4), (.ls [.int 2, .ls [.int 1, .int 1, .int 0, .int 0, .int 1], .int 15, .int 7], .int 11), (.ls [.int 2, .ls [.int 1, .int 1, .int 0, .int 0, .int 1], .int 15, .int 8], .int 1), (.ls [.int 2, .ls [.int 1, .int 1, .int 0, .int 0, .int 1], .int 15, .int 9], .int 14), (.ls [.int 2, .ls [.int 1, .int 1, .int 0, .int 0, .int 1], .int 15, .int 10], .int 12), (.ls [.int 2, .ls [.int 1, .int 1, .int 0, .int 0, .int 1], .int 15, .int 11], .int 3), (.ls [.int 2, .ls [.int 1, .int 1, .int 0, .int 0, .int 1], .int 15, .int 12], .int 8), (.ls [.int 2, .ls [.int 1, .int 1, .int 0, .int 0, .int 1], .int 15, .int 13], .int 7), (.ls [.int 2, .ls [.int 1, .int 1, .int 0, .int 0, .int 1], .int 15, .int 14], .int 5), (.ls [.int 2, .ls [.int 1, .int 1, .int 0, .int 0, .int 1], .int 15, .int 15], .int 10)]
def tmA : List (Tr × Tr) := tm0 ++ (tm1 ++ (tm2 ++ (tm3 ++ (tm4 ++ (tm5 ++ (tm6 ++ (tm7 ++ (tm8 ++ (tm9 ++ (tm10 ++ (tm11 ++ (tm12 ++ (tm13 ++ (tm14 ++ (tm15)))))))))))))))
def sp_times : VL.Fn := spA tmA f_law_times
def b_law_tables : Sx := (sSeq (sAsg 1 ([(0, 0)] ++ []) (eFn 1 f_law_prime (aCons (eVar 0) aNil))) (sSeq (sAsg 2 ([(0, 0)] ++ []) (eFn 1 f_law_rule (aCons (eVar 0) aNil))) (sSeq (sAsg 3 [] (eLst aNil)) (sSeq (sAsg 4 [] (eLst aNil)) (sSeq (sFor [] (iRng1 (eVar 0)) (gN 5) (sSeq (sApp 3 (rdC [] [6] ([(1, 0)] ++ ([] ++ ([(5, 0)] ++ ([(6, 0)] ++ []))))) (eComp (iRng1 (eVar 0)) [6] (gN 6) tYesV (eFn 4 f_law_plus (aCons (eVar 1) (aCons (eBin oSub (eCall fLen (aCons (eVar 2) aNil)) (eC (.int 1))) (aCons (eVar 5) (aCons (eVar 6) aNil))))))) (sApp 4 (rdC [] [6] ([(1, 0)] ++ ([(2, 0)] ++ ([(5, 0)] ++ ([(6, 0)] ++ []))))) (eComp (iRng1 (eVar 0)) [6] (gN 6) tYesV (eFn 4 sp_times (aCons (eVar 1) (aCons (eVar 2) (aCons (eVar 5) (aCons (eVar 6) aNil))))))))) (sRet (eLst (aCons (eVar 3) (aCons (eVar 4) aNil)))))))))
def f_law_tables : VL.Fn := runB 6 b_law_tables
def k1_law : Sx := (sIf (tNt (tTru (eFn 3 f_law_asked (aCons (eVar 4) (aCons (eVar 3) (aCons (eVar 10) aNil)))))) (sRet (eC (.bl false))) sSkip)
def l0_law : Sx := (sAsg 2 ([] ++ ([] ++ ([] ++ ([] ++ ([] ++ ([] ++ ([] ++ ([] ++ ([] ++ ([] ++ [])))))))))) (eLst (aCons (eC (.int 2)) (aCons (eC (.int 3)) (aCons (eC (.int 4)) (aCons (eC (.int 5)) (aCons (eC (.int 7)) (aCons (eC (.int 8)) (aCons (eC (.int 9)) (aCons (eC (.int 11)) (aCons (eC (.int 13)) (aCons (eC (.int 16)) aNil))))))))))))
def l1_law : Sx := (sAsg 3 [(2, 0)] (eIx (eVar 2) (eFnF 1 1 f_law_draw (aCons (eC (.int 10)) aNil))))
def l2_law : Sx := (sAsg 4 ([(3, 0)] ++ []) (eFn 1 f_law_tables (aCons (eVar 3) aNil)))
def l3_law : Sx := (sAsg 5 (([(3, 0)] ++ []) ++ (([(3, 0)] ++ []) ++ (([(3, 0)] ++ []) ++ []))) (eTup (aCons (eFnF 1 1 f_law_draw (aCons (eVar 3) aNil)) (aCons (eFnF 1 1 f_law_draw (aCons (eVar 3) aNil)) (aCons (eFnF 1 1 f_law_draw (aCons (eVar 3) aNil)) aNil)))))
def l4_law : Sx := (sAsg 6 (([(3, 0)] ++ []) ++ (([(3, 0)] ++ []) ++ (([(3, 0)] ++ []) ++ []))) (eTup (aCons (eFnF 1 1 f_law_draw (aCons (eVar 3) aNil)) (aCons (eFnF 1 1 f_law_draw (aCons (eVar 3) aNil)) (aCons (eFnF 1 1 f_law_draw (aCons (eVar 3) aNil)) aNil)))))
def l5_law : Sx := (sIf (tB (eBin oEq (eFnF 1 1 f_law_draw (aCons (eC (.int 3)) aNil)) (eC (.int 0)))) (sSeq (sAsg 7 ([(3, 0)] ++ []) (eFnF 1 1 f_law_draw (aCons (eVar 3) aNil))) (sSeq (sAsg 8 (rdC [(5, 0)] [11] [(4, 0)]) (eComp (iSeq (eVar 5)) [11] (gN 11) tYesV (eIx (eIx (eIx (eVar 4) (eC (.int 1))) (eVar 7)) (eVar 11)))) (sSeq (sIf (tB (eBin oEq (eFnF 1 1 f_law_draw (aCons (eC (.int 2)) aNil)) (eC (.int 0)))) (sPut 8 (eC (.int 2)) (eFnF 1 1 f_law_draw (aCons (eVar 3) aNil))) sSkip) (sAsg 6 ([(8, 0)] ++ ([(8, 0)] ++ ([(8, 0)] ++ []))) (eTup (aCons (eIx (eVar 8) (eC (.int 0))) (aCons (eIx (eVar 8) (eC (.int 1))) (aCons (eIx (eVar 8) (eC (.int 2))) aNil)))))))) sSkip)
def l6_law : Sx := (sAsg 9 ([] ++ ([] ++ (([] ++ []) ++ []))) (eTup (aCons (eC (.int 0)) (aCons (eC (.int 0)) (aCons (eFnF 1 1 f_law_draw (aCons (eC (.int 2)) aNil)) aNil)))))
def l7_law : Sx := (sFor (([(5, 0)] ++ ([(6, 0)] ++ [])) ++ (([(6, 0)] ++ ([(5, 0)] ++ [])) ++ (([(5, 0)] ++ ([(9, 0)] ++ [])) ++ (([(9, 0)] ++ (([] ++ ([] ++ ([] ++ []))) ++ [])) ++ [])))) (iSeq (eLst (aCons (eLst (aCons (eVar 5) (aCons (eVar 6) aNil))) (aCons (eLst (aCons (eVar 6) (aCons (eVar 5) aNil))) (aCons (eLst (aCons (eVar 5) (aCons (eVar 9) aNil))) (aCons (eLst (aCons (eVar 9) (aCons (eTup (aCons (eC (.int 0)) (aCons (eC (.int 0)) (aCons (eC (.int 0)) aNil)))) aNil))) aNil)))))) (gN 10) (sNrm [2, 5, 6, 7, 8, 9, 11] k1_law))
def l8_law : Sx := (sRet (eC (.bl true)))
def t8_law : Sx := l8_law
def t7_law : Sx := (sSeq l7_law t8_law)
def t6_law : Sx := (sSeq l6_law t7_law)
def t5_law : Sx := (sSeq l5_law t6_law)
def t4_law : Sx := (sSeq l4_law t5_law)
def t3_law : Sx := (sSeq l3_law t4_law)
def t2_law : Sx := (sSeq l2_law t3_law)
def t1_law : Sx := (sSeq l1_law t2_law)
def t0_law : Sx := (sSeq l0_law t1_law)
def b_law : Sx := t0_law
structure Bl (mg : Str → Option Value) : Prop where
  b_abs : mg "abs" = none
  b_all : mg "all" = none
  b_any : mg "any" = none
  b_bool : mg "bool" = none
  b_int : mg "int" = none
  b_isinstance : mg "isinstance" = none
  b_len : mg "len" = none
  b_list : mg "list" = none
  b_range : mg "range" = none
  b_reversed : mg "reversed" = none
  b_str : mg "str" = none
  b_sum : mg "sum" = none
  b_tuple : mg "tuple" = none
  b_zip : mg "zip" = none
  g_GREATEST_FIELD : ∃ t, mg "GREATEST_FIELD" = some (.int 16 t)
section
variable {P : Program} {w : World} {K : PySem.W.Frag} {mg : Str → Option Value} {base : Heap}
theorem ok_law_pairs {f : Addr} {fd : FuncData} (B : Bl mg) (F : FunD K "_law_pairs" "_law_pairs" (defArgs s_law_pairs) (defBody s_law_pairs) (defScope s_law_pairs) [] [] f fd) (m : mg "_law_pairs" = some (.ref f)) : DefF P w K mg base 1 "_law_pairs" (spV K 3 f_law_pairs) := ⟨f, fd, ["tables", "q", "lines"], fnD_ok (m := 6) (s := b_law_pairs) F sc_law_pairs rfl rfl (fun cdv A outer s H E hr => (vss_cons (vs_asg sc_law_pairs.nd (i := 3) rfl (by first | exact Or.inl rfl | exact Or.inr rfl) (ve_lst va_nil)) (vss_cons (vs_for PassesOwn.never rfl (vi_range1 rfl B.b_range (ve_var (pv 1))) (vg_name (pg_name (i := 4) sc_law_pairs.nd rfl (by first | exact Or.inl rfl | exact Or.inr rfl))) (vss_one (vs_for PassesOwn.never rfl (vi_range1 rfl B.b_range (ve_var (pv 1))) (vg_name (pg_name (i := 5) sc_law_pairs.nd rfl (by first | exact Or.inl rfl | exact Or.inr rfl))) (vss_cons (vs_asg sc_law_pairs.nd (i := 6) rfl (by first | exact Or.inl rfl | exact Or.inr rfl) (ve_const pe_bl)) (vss_cons (vs_for PassesOwn.never rfl (vi_seq (ve_var (pv 2))) (vg_name (pg_name (i := 7) sc_law_pairs.nd rfl (by first | exact Or.inl rfl | exact Or.inr rfl))) (vss_cons (vs_asg sc_law_pairs.nd (i := 8) rfl (by first | exact Or.inl rfl | exact Or.inr rfl) (ve_ix (ve_ix (ve_ix (ve_var (pv 0)) (ve_const pe_int)) (ve_ix (ve_ix (ve_ix (ve_var (pv 0)) (ve_const pe_int)) (ve_ix (ve_var (pv 7)) (ve_const pe_int))) (ve_var (pv 4)))) (ve_ix (ve_ix (ve_ix (ve_var (pv 0)) (ve_const pe_int)) (ve_ix (ve_var (pv 7)) (ve_const pe_int))) (ve_var (pv 5))))) (vss_one (vs_asg sc_law_pairs.nd (i := 6) rfl (by first | exact Or.inl rfl | exact Or.inr rfl) (ve_and (ve_var (pv 6)) (ve_one (ve_cmp (os_eq hr.units) (ve_var (pv 8)) (ve_ix (ve_var (pv 7)) (ve_const pe_int))))))))) (vss_one (vs_if (vt_tru (ve_var (pv 6))) (vss_one (vs_app (i := 3) (pv 3) (ve_tup (va_cons (ve_var (pv 4)) (va_cons (ve_var (pv 5)) va_nil))))) vss_nil))))))) (vss_one (vs_retV (pv 3)))))), F.kp, (F.bindsN fun _ _ _ _ _ _ us hl => match us, hl with | [_, _, _], _ => rfl), m⟩
theorem ok_law_same {f : Addr} {fd : FuncData} (B : Bl mg) (F : FunD K "_law_same" "_law_same" (defArgs s_law_same) (defBody s_law_same) (defScope s_law_same) [] [] f fd) (m : mg "_law_same" = some (.ref f)) : ∀ n : Nat, FnOk P w K mg base CX0 (n + 0) f fd ["actual", "due"] (spV K 2 (g_law_same n))
  | 0 => FnOk.bad
  | n + 1 => by
    have R : DefF P w K mg base (n + 0) "_law_same" (spV K 2 (g_law_same n)) := ⟨f, fd, ["actual", "due"], ok_law_same B F m  n, F.kp, (F.bindsN fun _ _ _ _ _ _ us hl => match us, hl with | [_, _], _ => rfl), m⟩
    have h := fnD_ok (m := 1) (s := b_law_same (g_law_same n)) F sc_law_same (n := 2) rfl rfl (fun cdv A outer s H E (hr : Room (n + 0) _) => (vss_cons (vs_if (vt_tru (ve_isi (n := .list) rfl B.b_isinstance boot_isinstanceT (ve_var (pv 1)) (pe_bltn rfl B.b_list (v := .ty "list") boot_listT rfl))) (vss_cons (vs_if (vt_bop (vw_or (vt_not (vt_tru (ve_isi (n := .list) rfl B.b_isinstance boot_isinstanceT (ve_var (pv 0)) (pe_bltn rfl B.b_list (v := .ty "list") boot_listT rfl)))) (vw_or1 (vt_cmp (os_ne hr.units) (ve_callB bi_len rfl B.b_len boot_lenT (va_cons (ve_var (pv 0)) va_nil)) (ve_callB bi_len rfl B.b_len boot_lenT (va_cons (ve_var (pv 1)) va_nil)))))) (vss_one (vs_ret (ve_const pe_bl))) vss_nil) (vss_one (vs_ret (ve_callB (bi_all rfl) rfl B.b_all boot_allT (va_cons (ve_comp (own := [("k", 2)]) rfl rfl sc_law_same.nd (vi_range1 rfl B.b_range (ve_callB bi_len rfl B.b_len boot_lenT (va_cons (ve_var (pv 1)) va_nil))) (blkOk_by (N := N_law_same) (sc := defScope s_law_same) (own := [("k", 2)]) (by decide +kernel)) (fun _ _ _ _ _ => (vgc_name (pg_name (i := 2) sc_law_same.nd rfl (by first | exact Or.inl rfl | exact Or.inr rfl)) rfl)) (fun _ _ _ _ _ => vts_nil) (fun _ _ _ _ _ => (ve_fnD R hr rfl (va_cons (ve_ix (ve_var (pv 0)) (ve_var (pv 2))) (va_cons (ve_ix (ve_var (pv 1)) (ve_var (pv 2))) va_nil)) (hjk := by omega)))) va_nil))))) vss_nil) (vss_cons (vs_if (vt_tru (ve_isi (n := .tuple) rfl B.b_isinstance boot_isinstanceT (ve_var (pv 1)) (pe_bltn rfl B.b_tuple (v := .ty "tuple") boot_tupleT rfl))) (vss_cons (vs_if (vt_bop (vw_or (vt_not (vt_tru (ve_isi (n := .tuple) rfl B.b_isinstance boot_isinstanceT (ve_var (pv 0)) (pe_bltn rfl B.b_tuple (v := .ty "tuple") boot_tupleT rfl)))) (vw_or1 (vt_cmp (os_ne hr.units) (ve_callB bi_len rfl B.b_len boot_lenT (va_cons (ve_var (pv 0)) va_nil)) (ve_callB bi_len rfl B.b_len boot_lenT (va_cons (ve_var (pv 1)) va_nil)))))) (vss_one (vs_ret (ve_const pe_bl))) vss_nil) (vss_one (vs_ret (ve_callB (bi_all rfl) rfl B.b_all boot_allT (va_cons (ve_comp (own := [("k", 2)]) rfl rfl sc_law_same.nd (vi_range1 rfl B.b_range (ve_callB bi_len rfl B.b_len boot_lenT (va_cons (ve_var (pv 1)) va_nil))) (blkOk_by (N := N_law_same) (sc := defScope s_law_same) (own := [("k", 2)]) (by decide +kernel)) (fun _ _ _ _ _ => (vgc_name (pg_name (i := 2) sc_law_same.nd rfl (by first | exact Or.inl rfl | exact Or.inr rfl)) rfl)) (fun _ _ _ _ _ => vts_nil) (fun _ _ _ _ _ => (ve_fnD R hr rfl (va_cons (ve_ix (ve_var (pv 0)) (ve_var (pv 2))) (va_cons (ve_ix (ve_var (pv 1)) (ve_var (pv 2))) va_nil)) (hjk := by omega)))) va_nil))))) vss_nil) (vss_cons (vs_if (vt_cmp os_isN (ve_var (pv 1)) (ve_const pe_non)) (vss_one (vs_ret (ve_cmp os_isN (ve_var (pv 0)) (ve_const pe_non)))) vss_nil) (vss_cons (vs_if (vt_tru (ve_isi (n := .bool) rfl B.b_isinstance boot_isinstanceT (ve_var (pv 1)) (pe_bltn rfl B.b_bool (v := .ty "bool") boot_boolT rfl))) (vss_one (vs_ret (ve_and (ve_isi (n := .bool) rfl B.b_isinstance boot_isinstanceT (ve_var (pv 0)) (pe_bltn rfl B.b_bool (v := .ty "bool") boot_boolT rfl)) (ve_one (ve_cmp (os_eq hr.units) (ve_var (pv 0)) (ve_var (pv 1))))))) vss_nil) (vss_cons (vs_if (vt_tru (ve_isi (n := .str) rfl B.b_isinstance boot_isinstanceT (ve_var (pv 1)) (pe_bltn rfl B.b_str (v := .ty "str") boot_strT rfl))) (vss_one (vs_ret (ve_and (ve_isi (n := .str) rfl B.b_isinstance boot_isinstanceT (ve_var (pv 0)) (pe_bltn rfl B.b_str (v := .ty "str") boot_strT rfl)) (ve_one (ve_cmp (os_eq hr.units) (ve_var (pv 0)) (ve_var (pv 1))))))) vss_nil) (vss_one (vs_ret (ve_and (ve_isi (n := .int) rfl B.b_isinstance boot_isinstanceT (ve_var (pv 0)) (pe_bltn rfl B.b_int (v := .ty "int") boot_intT rfl)) (ve_and (ve_not (ve_isi (n := .bool) rfl B.b_isinstance boot_isinstanceT (ve_var (pv 0)) (pe_bltn rfl B.b_bool (v := .ty "bool") boot_boolT rfl))) (ve_one (ve_cmp (os_eq hr.units) (ve_var (pv 0)) (ve_var (pv 1))))))))))))))
    exact h.mono (by omega)
theorem okd_law_same {f : Addr} {fd : FuncData} (B : Bl mg) (F : FunD K "_law_same" "_law_same" (defArgs s_law_same) (defBody s_law_same) (defScope s_law_same) [] [] f fd) (m : mg "_law_same" = some (.ref f)) : DefF P w K mg base 6 "_law_same" (spV K 2 f_law_same) := ⟨f, fd, ["actual", "due"], ok_law_same B F m  6, F.kp, (F.bindsN fun _ _ _ _ _ _ us hl => match us, hl with | [_, _], _ => rfl), m⟩
theorem ok_prime_and_degree {f : Addr} {fd : FuncData} (B : Bl mg) (F : FunD K "prime_and_degree" "prime_and_degree" (defArgs s_prime_and_degree) (defBody s_prime_and_degree) (defScope s_prime_and_degree) [] [] f fd) (m : mg "prime_and_degree" = some (.ref f)) : DefF P w K mg base 1 "prime_and_degree" (spV K 1 f_prime_and_degree) := ⟨f, fd, ["q"], fnD_ok (m := 3) (s := b_prime_and_degree) F sc_prime_and_degree rfl rfl (fun cdv A outer s H E hr => (vss_cons (vs_if (vt_not (vt_chain os_le os_le (ve_const pe_int) (ve_var (pv 0)) (ve_gint rfl B.g_GREATEST_FIELD))) (vss_one (vs_ret (ve_const pe_non))) vss_nil) (vss_cons (vs_asg sc_prime_and_degree.nd (i := 1) rfl (by first | exact Or.inl rfl | exact Or.inr rfl) (ve_const pe_int)) (vss_cons (vs_while (n := 2000) PassesOwn.never (vt_cmp os_gt (ve_bin os_mod (ve_var (pv 0)) (ve_var (pv 1))) (ve_const pe_int)) (vss_one (vs_aug os_iadd sc_prime_and_degree.nd (i := 1) rfl (by first | exact Or.inl rfl | exact Or.inr rfl) (ve_const pe_int)))) (vss_cons (vs_asg sc_prime_and_degree.nd (i := 2) rfl (by first | exact Or.inl rfl | exact Or.inr rfl) (ve_const pe_int)) (vss_cons (vs_move sc_prime_and_degree.nd (i := 3) rfl (by first | exact Or.inl rfl | exact Or.inr rfl) (pv 0)) (vss_cons (vs_while (n := 2000) PassesOwn.never (vt_cmp (os_eq hr.units) (ve_bin os_mod (ve_var (pv 3)) (ve_var (pv 1))) (ve_const pe_int)) (vss_cons (vs_aug os_ifdv sc_prime_and_degree.nd (i := 3) rfl (by first | exact Or.inl rfl | exact Or.inr rfl) (ve_var (pv 1))) (vss_one (vs_aug os_iadd sc_prime_and_degree.nd (i := 2) rfl (by first | exact Or.inl rfl | exact Or.inr rfl) (ve_const pe_int))))) (vss_cons (vs_if (vt_cmp os_gt (ve_var (pv 3)) (ve_const pe_int)) (vss_one (vs_ret (ve_const pe_non))) vss_nil) (vss_one (vs_ret (ve_tup (va_cons (ve_var (pv 1)) (va_cons (ve_var (pv 2)) va_nil))))))))))))), F.kp, (F.bindsN fun _ _ _ _ _ _ us hl => match us, hl with | [_], _ => rfl), m⟩
theorem ok_figures {f : Addr} {fd : FuncData} (B : Bl mg) (F : FunD K "figures" "figures" (defArgs s_figures) (defBody s_figures) (defScope s_figures) [] [] f fd) (m : mg "figures" = some (.ref f)) : DefF P w K mg base 1 "figures" (spV K 3 f_figures) := ⟨f, fd, ["number", "p", "many"], fnD_ok (m := 2) (s := b_figures) F sc_figures rfl rfl (fun cdv A outer s H E hr => (vss_cons (vs_asg sc_figures.nd (i := 3) rfl (by first | exact Or.inl rfl | exact Or.inr rfl) (ve_lst va_nil)) (vss_cons (vs_for PassesOwn.never rfl (vi_range1 rfl B.b_range (ve_var (pv 2))) (vg_name (pg_name (i := 4) sc_figures.nd rfl (by first | exact Or.inl rfl | exact Or.inr rfl))) (vss_cons (vs_app (i := 3) (pv 3) (ve_bin os_mod (ve_var (pv 0)) (ve_var (pv 1)))) (vss_one (vs_aug os_ifdv sc_figures.nd (i := 0) rfl (by first | exact Or.inl rfl | exact Or.inr rfl) (ve_var (pv 1)))))) (vss_one (vs_retV (pv 3)))))), F.kp, (F.bindsN fun _ _ _ _ _ _ us hl => match us, hl with | [_, _, _], _ => rfl), m⟩
theorem ok_number_of {f : Addr} {fd : FuncData} (B : Bl mg) (F : FunD K "number_of" "number_of" (defArgs s_number_of) (defBody s_number_of) (defScope s_number_of) [] [] f fd) (m : mg "number_of" = some (.ref f)) : DefF P w K mg base 1 "number_of" (spV K 2 f_number_of) := ⟨f, fd, ["coefficients", "p"], fnD_ok (m := 2) (s := b_number_of) F sc_number_of rfl rfl (fun cdv A outer s H E hr => (vss_cons (vs_asg sc_number_of.nd (i := 2) rfl (by first | exact Or.inl rfl | exact Or.inr rfl) (ve_const pe_int)) (vss_cons (vs_for PassesOwn.never rfl (vi_rev rfl B.b_reversed (ve_var (pv 0))) (vg_name (pg_name (i := 3) sc_number_of.nd rfl (by first | exact Or.inl rfl | exact Or.inr rfl))) (vss_one (vs_asg sc_number_of.nd (i := 2) rfl (by first | exact Or.inl rfl | exact Or.inr rfl) (ve_binG og_add (ve_binG og_mul (ve_var (pv 2)) (ve_var (pv 1))) (ve_var (pv 3)))))) (vss_one (vs_retV (pv 2)))))), F.kp, (F.bindsN fun _ _ _ _ _ _ us hl => match us, hl with | [_, _], _ => rfl), m⟩
theorem ok_rest_by {f : Addr} {fd : FuncData} (B : Bl mg) (F : FunD K "rest_by" "rest_by" (defArgs s_rest_by) (defBody s_rest_by) (defScope s_rest_by) [] [] f fd) (m : mg "rest_by" = some (.ref f)) : DefF P w K mg base 1 "rest_by" (spV K 3 f_rest_by) := ⟨f, fd, ["coefficients", "rule", "p"], fnD_ok (m := 5) (s := b_rest_by) F sc_rest_by rfl rfl (fun cdv A outer s H E hr => (vss_cons (vs_asg sc_rest_by.nd (i := 3) rfl (by first | exact Or.inl rfl | exact Or.inr rfl) (ve_list rfl B.b_list boot_listT (ve_var (pv 0)))) (vss_cons (vs_asg sc_rest_by.nd (i := 4) rfl (by first | exact Or.inl rfl | exact Or.inr rfl) (ve_bin os_sub (ve_callB bi_len rfl B.b_len boot_lenT (va_cons (ve_var (pv 1)) va_nil)) (ve_const pe_int))) (vss_cons (vs_for PassesOwn.never rfl (vi_range3 rfl B.b_range (ve_bin os_sub (ve_callB bi_len rfl B.b_len boot_lenT (va_cons (ve_var (pv 3)) va_nil)) (ve_const pe_int)) (ve_bin os_sub (ve_var (pv 4)) (ve_const pe_int)) (ve_neg (ve_const pe_int))) (vg_name (pg_name (i := 5) sc_rest_by.nd rfl (by first | exact Or.inl rfl | exact Or.inr rfl))) (vss_cons (vs_asg sc_rest_by.nd (i := 6) rfl (by first | exact Or.inl rfl | exact Or.inr rfl) (ve_ix (ve_var (pv 3)) (ve_var (pv 5)))) (vss_one (vs_for PassesOwn.never rfl (vi_range1 rfl B.b_range (ve_binG og_add (ve_var (pv 4)) (ve_const pe_int))) (vg_name (pg_name (i := 7) sc_rest_by.nd rfl (by first | exact Or.inl rfl | exact Or.inr rfl))) (vss_one (vs_put (i := 3) (ve_bin os_mod (ve_bin os_sub (ve_ix (ve_var (pv 3)) (ve_binG og_add (ve_bin os_sub (ve_var (pv 5)) (ve_var (pv 4))) (ve_var (pv 7)))) (ve_binG og_mul (ve_var (pv 6)) (ve_ix (ve_var (pv 1)) (ve_var (pv 7))))) (ve_var (pv 2))) (pg_sub (pv 3) (ve_binG og_add (ve_bin os_sub (ve_var (pv 5)) (ve_var (pv 4))) (ve_var (pv 7))) set_list))))))) (vss_one (vs_ret (ve_slice (ve_var (pv 3)) vo_none (vo_some (ve_var (pv 4)))))))))), F.kp, (F.bindsN fun _ _ _ _ _ _ us hl => match us, hl with | [_, _, _], _ => rfl), m⟩
theorem ok_power_of {f : Addr} {fd : FuncData} (B : Bl mg) (F : FunD K "power_of" "power_of" (defArgs s_power_of) (defBody s_power_of) (defScope s_power_of) [] [] f fd) (m : mg "power_of" = some (.ref f)) : DefF P w K mg base 1 "power_of" (spV K 2 f_power_of) := ⟨f, fd, ["p", "degree"], fnD_ok (m := 2) (s := b_power_of) F sc_power_of rfl rfl (fun cdv A outer s H E hr => (vss_cons (vs_asg sc_power_of.nd (i := 2) rfl (by first | exact Or.inl rfl | exact Or.inr rfl) (ve_const pe_int)) (vss_cons (vs_for PassesOwn.never rfl (vi_range1 rfl B.b_range (ve_var (pv 1))) (vg_name (pg_name (i := 3) sc_power_of.nd rfl (by first | exact Or.inl rfl | exact Or.inr rfl))) (vss_one (vs_aug os_imul sc_power_of.nd (i := 2) rfl (by first | exact Or.inl rfl | exact Or.inr rfl) (ve_var (pv 0))))) (vss_one (vs_retV (pv 2)))))), F.kp, (F.bindsN fun _ _ _ _ _ _ us hl => match us, hl with | [_, _], _ => rfl), m⟩
theorem ok_rules_of_degree {f : Addr} {fd : FuncData} (B : Bl mg) (F : FunD K "rules_of_degree" "rules_of_degree" (defArgs s_rules_of_degree) (defBody s_rules_of_degree) (defScope s_rules_of_degree) [] [] f fd) (m : mg "rules_of_degree" = some (.ref f)) (O_figures : DefF P w K mg base 1 "figures" (spV K 3 f_figures)) (O_power_of : DefF P w K mg base 1 "power_of" (spV K 2 f_power_of)) : DefF P w K mg base 2 "rules_of_degree" (spV K 2 f_rules_of_degree) := ⟨f, fd, ["p", "degree"], fnD_ok (m := 1) (s := b_rules_of_degree) F sc_rules_of_degree rfl rfl (fun cdv A outer s H E hr => (vss_one (vs_ret (ve_comp (own := [("number", 2)]) rfl rfl sc_rules_of_degree.nd (vi_range1 rfl B.b_range (ve_fnD O_power_of hr rfl (va_cons (ve_var (pv 0)) (va_cons (ve_var (pv 1)) va_nil)))) (blkOk_by (N := N_rules_of_degree) (sc := defScope s_rules_of_degree) (own := [("number", 2)]) (by decide +kernel)) (fun _ _ _ _ _ => (vgc_name (pg_name (i := 2) sc_rules_of_degree.nd rfl (by first | exact Or.inl rfl | exact Or.inr rfl)) rfl)) (fun _ _ _ _ _ => vts_nil) (fun _ _ _ _ _ => (ve_binG og_add (ve_fnD O_figures hr rfl (va_cons (ve_var (pv 2)) (va_cons (ve_var (pv 0)) (va_cons (ve_var (pv 1)) va_nil)))) (ve_lst (va_cons (ve_const pe_int) va_nil)))))))), F.kp, (F.bindsN fun _ _ _ _ _ _ us hl => match us, hl with | [_, _], _ => rfl), m⟩
theorem ok_is_product {f : Addr} {fd : FuncData} (B : Bl mg) (F : FunD K "is_product" "is_product" (defArgs s_is_product) (defBody s_is_product) (defScope s_is_product) [] [] f fd) (m : mg "is_product" = some (.ref f)) (O_rest_by : DefF P w K mg base 1 "rest_by" (spV K 3 f_rest_by)) (O_rules_of_degree : DefF P w K mg base 2 "rules_of_degree" (spV K 2 f_rules_of_degree)) : DefF P w K mg base 3 "is_product" (spV K 2 f_is_product) := ⟨f, fd, ["rule", "p"], fnD_ok (m := 3) (s := b_is_product) F sc_is_product rfl rfl (fun cdv A outer s H E hr => (vss_cons (vs_asg sc_is_product.nd (i := 2) rfl (by first | exact Or.inl rfl | exact Or.inr rfl) (ve_bin os_sub (ve_callB bi_len rfl B.b_len boot_lenT (va_cons (ve_var (pv 0)) va_nil)) (ve_const pe_int))) (vss_cons (vs_for PassesOwn.never rfl (vi_range2 rfl B.b_range (ve_const pe_int) (ve_binG og_add (ve_bin os_fdv (ve_var (pv 2)) (ve_const pe_int)) (ve_const pe_int))) (vg_name (pg_name (i := 3) sc_is_product.nd rfl (by first | exact Or.inl rfl | exact Or.inr rfl))) (vss_one (vs_for PassesOwn.never rfl (vi_seq (ve_fnD O_rules_of_degree hr rfl (va_cons (ve_var (pv 1)) (va_cons (ve_var (pv 3)) va_nil)))) (vg_name (pg_name (i := 4) sc_is_product.nd rfl (by first | exact Or.inl rfl | exact Or.inr rfl))) (vss_one (vs_if (vt_not (vt_tru (ve_callB (bi_any2 rfl) rfl B.b_any boot_anyT (va_cons (ve_fnD O_rest_by hr rfl (va_cons (ve_var (pv 0)) (va_cons (ve_var (pv 4)) (va_cons (ve_var (pv 1)) va_nil)))) va_nil)))) (vss_one (vs_ret (ve_const pe_bl))) vss_nil))))) (vss_one (vs_ret (ve_const pe_bl)))))), F.kp, (F.bindsN fun _ _ _ _ _ _ us hl => match us, hl with | [_, _], _ => rfl), m⟩
theorem ok_rule_of {f : Addr} {fd : FuncData} (B : Bl mg) (F : FunD K "rule_of" "rule_of" (defArgs s_rule_of) (defBody s_rule_of) (defScope s_rule_of) [] [] f fd) (m : mg "rule_of" = some (.ref f)) (O_is_product : DefF P w K mg base 3 "is_product" (spV K 2 f_is_product)) (O_prime_and_degree : DefF P w K mg base 1 "prime_and_degree" (spV K 1 f_prime_and_degree)) (O_rules_of_degree : DefF P w K mg base 2 "rules_of_degree" (spV K 2 f_rules_of_degree)) : DefF P w K mg base 4 "rule_of" (spV K 1 f_rule_of) := ⟨f, fd, ["q"], fnD_ok (m := 3) (s := b_rule_of) F sc_rule_of rfl rfl (fun cdv A outer s H E hr => (vss_cons (vs_asgG (ve_fnD O_prime_and_degree hr rfl (va_cons (ve_var (pv 0)) va_nil)) (vg_tup rfl (vgs_cons (vg_name (pg_name (i := 1) sc_rule_of.nd rfl (by first | exact Or.inl rfl | exact Or.inr rfl))) (vgs_cons (vg_name (pg_name (i := 2) sc_rule_of.nd rfl (by first | exact Or.inl rfl | exact Or.inr rfl))) vgs_nil)))) (vss_cons (vs_for PassesOwn.never rfl (vi_seq (ve_fnD O_rules_of_degree hr rfl (va_cons (ve_var (pv 1)) (va_cons (ve_var (pv 2)) va_nil)))) (vg_name (pg_name (i := 3) sc_rule_of.nd rfl (by first | exact Or.inl rfl | exact Or.inr rfl))) (vss_one (vs_if (vt_not (vt_tru (ve_fnD O_is_product hr rfl (va_cons (ve_var (pv 3)) (va_cons (ve_var (pv 1)) va_nil))))) (vss_one (vs_retV (pv 3))) vss_nil))) (vss_one (vs_ret (ve_const pe_non)))))), F.kp, (F.bindsN fun _ _ _ _ _ _ us hl => match us, hl with | [_], _ => rfl), m⟩
theorem ok_times_unknown {f : Addr} {fd : FuncData} (B : Bl mg) (F : FunD K "times_unknown" "times_unknown" (defArgs s_times_unknown) (defBody s_times_unknown) (defScope s_times_unknown) [] [] f fd) (m : mg "times_unknown" = some (.ref f)) : DefF P w K mg base 1 "times_unknown" (spV K 3 f_times_unknown) := ⟨f, fd, ["coefficients", "rule", "p"], fnD_ok (m := 3) (s := b_times_unknown) F sc_times_unknown rfl rfl (fun cdv A outer s H E hr => (vss_cons (vs_asg sc_times_unknown.nd (i := 3) rfl (by first | exact Or.inl rfl | exact Or.inr rfl) (ve_ix (ve_var (pv 0)) (ve_neg (ve_const pe_int)))) (vss_one (vs_ret (ve_comp (own := [("below", 4), ("back", 5)]) rfl rfl sc_times_unknown.nd (vi_zip rfl B.b_zip (ve_binG og_add (ve_lst (va_cons (ve_const pe_int) va_nil)) (ve_slice (ve_var (pv 0)) vo_none (vo_some (ve_neg (ve_const pe_int))))) (ve_var (pv 1))) (blkOk_by (N := N_times_unknown) (sc := defScope s_times_unknown) (own := [("below", 4), ("back", 5)]) (by decide +kernel)) (fun _ _ _ _ _ => (vgc_tup rfl (vgsc_cons (vgc_name (pg_name (i := 4) sc_times_unknown.nd rfl (by first | exact Or.inl rfl | exact Or.inr rfl)) rfl) (vgsc_cons (vgc_name (pg_name (i := 5) sc_times_unknown.nd rfl (by first | exact Or.inl rfl | exact Or.inr rfl)) rfl) vgsc_nil)))) (fun _ _ _ _ _ => vts_nil) (fun _ _ _ _ _ => (ve_bin os_mod (ve_bin os_sub (ve_var (pv 4)) (ve_binG og_mul (ve_var (pv 3)) (ve_var (pv 5)))) (ve_var (pv 2))))))))), F.kp, (F.bindsN fun _ _ _ _ _ _ us hl => match us, hl with | [_, _, _], _ => rfl), m⟩
theorem ok_products_of {f : Addr} {fd : FuncData} (B : Bl mg) (F : FunD K "products_of" "products_of" (defArgs s_products_of) (defBody s_products_of) (defScope s_products_of) [] [] f fd) (m : mg "products_of" = some (.ref f)) (O_figures : DefF P w K mg base 1 "figures" (spV K 3 f_figures)) (O_number_of : DefF P w K mg base 1 "number_of" (spV K 2 f_number_of)) (O_prime_and_degree : DefF P w K mg base 1 "prime_and_degree" (spV K 1 f_prime_and_degree)) (O_rule_of : DefF P w K mg base 4 "rule_of" (spV K 1 f_rule_of)) (O_times_unknown : DefF P w K mg base 1 "times_unknown" (spV K 3 f_times_unknown)) : DefF P w K mg base 5 "products_of" (spV K 1 f_products_of) := ⟨f, fd, ["q"], fnD_ok (m := 12) (s := b_products_of) F sc_products_of rfl rfl (fun cdv A outer s H E hr => (vss_cons (vs_asgG (ve_fnD O_prime_and_degree hr rfl (va_cons (ve_var (pv 0)) va_nil)) (vg_tup rfl (vgs_cons (vg_name (pg_name (i := 1) sc_products_of.nd rfl (by first | exact Or.inl rfl | exact Or.inr rfl))) (vgs_cons (vg_name (pg_name (i := 2) sc_products_of.nd rfl (by first | exact Or.inl rfl | exact Or.inr rfl))) vgs_nil)))) (vss_cons (vs_asg sc_products_of.nd (i := 3) rfl (by first | exact Or.inl rfl | exact Or.inr rfl) (ve_fnD O_rule_of hr rfl (va_cons (ve_var (pv 0)) va_nil))) (vss_cons (vs_asg sc_products_of.nd (i := 4) rfl (by first | exact Or.inl rfl | exact Or.inr rfl) (ve_lst va_nil)) (vss_cons (vs_for PassesOwn.never rfl (vi_range1 rfl B.b_range (ve_var (pv 0))) (vg_name (pg_name (i := 5) sc_products_of.nd rfl (by first | exact Or.inl rfl | exact Or.inr rfl))) (vss_cons (vs_asg sc_products_of.nd (i := 6) rfl (by first | exact Or.inl rfl | exact Or.inr rfl) (ve_lst (va_cons (ve_fnD O_figures hr rfl (va_cons (ve_var (pv 5)) (va_cons (ve_var (pv 1)) (va_cons (ve_var (pv 2)) va_nil)))) va_nil))) (vss_cons (vs_while (n := 2000) PassesOwn.never (vt_cmp os_lt (ve_callB bi_len rfl B.b_len boot_lenT (va_cons (ve_var (pv 6)) va_nil)) (ve_var (pv 2))) (vss_one (vs_app (i := 6) (pv 6) (ve_fnD O_times_unknown hr rfl (va_cons (ve_ix (ve_var (pv 6)) (ve_neg (ve_const pe_int))) (va_cons (ve_var (pv 3)) (va_cons (ve_var (pv 1)) va_nil))))))) (vss_cons (vs_asg sc_products_of.nd (i := 7) rfl (by first | exact Or.inl rfl | exact Or.inr rfl) (ve_lst va_nil)) (vss_cons (vs_for PassesOwn.never rfl (vi_range1 rfl B.b_range (ve_var (pv 0))) (vg_name (pg_name (i := 8) sc_products_of.nd rfl (by first | exact Or.inl rfl | exact Or.inr rfl))) (vss_cons (vs_asg sc_products_of.nd (i := 9) rfl (by first | exact Or.inl rfl | exact Or.inr rfl) (ve_fnD O_figures hr rfl (va_cons (ve_var (pv 8)) (va_cons (ve_var (pv 1)) (va_cons (ve_var (pv 2)) va_nil))))) (vss_one (vs_app (i := 7) (pv 7) (ve_fnD O_number_of hr rfl (va_cons (ve_comp (own := [("at", 10)]) rfl rfl sc_products_of.nd (vi_range1 rfl B.b_range (ve_var (pv 2))) (blkOk_by (N := N_products_of) (sc := defScope s_products_of) (own := [("at", 10)]) (by decide +kernel)) (fun _ _ _ _ _ => (vgc_name (pg_name (i := 10) sc_products_of.nd rfl (by first | exact Or.inl rfl | exact Or.inr rfl)) rfl)) (fun _ _ _ _ _ => vts_nil) (fun _ _ _ _ _ => (ve_bin os_mod (ve_callB (bi_sum rfl) rfl B.b_sum boot_sumT (va_cons (ve_comp (own := [("m", 11), ("step", 12)]) rfl rfl sc_products_of.nd (vi_zip rfl B.b_zip (ve_var (pv 9)) (ve_var (pv 6))) (blkOk_by (N := N_products_of) (sc := ⟨.function, [(".0", .local), ("at", .cell), ("sum", .globalImplicit), ("zip", .globalImplicit), ("many", .cell), ("p", .cell), ("steps", .cell)], false, false, []⟩) (own := [("m", 11), ("step", 12)]) (by decide +kernel)) (fun _ _ _ _ _ => (vgc_tup rfl (vgsc_cons (vgc_name (pg_name (i := 11) sc_products_of.nd rfl (by first | exact Or.inl rfl | exact Or.inr rfl)) rfl) (vgsc_cons (vgc_name (pg_name (i := 12) sc_products_of.nd rfl (by first | exact Or.inl rfl | exact Or.inr rfl)) rfl) vgsc_nil)))) (fun _ _ _ _ _ => vts_nil) (fun _ _ _ _ _ => (ve_binG og_mul (ve_var (pv 11)) (ve_ix (ve_var (pv 12)) (ve_var (pv 10)))))) va_nil)) (ve_var (pv 1))))) (va_cons (ve_var (pv 1)) va_nil))))))) (vss_one (vs_app (i := 4) (pv 4) (ve_var (pv 7))))))))) (vss_one (vs_retV (pv 4)))))))), F.kp, (F.bindsN fun _ _ _ _ _ _ us hl => match us, hl with | [_], _ => rfl), m⟩
theorem ok_sums_of {f : Addr} {fd : FuncData} (B : Bl mg) (F : FunD K "sums_of" "sums_of" (defArgs s_sums_of) (defBody s_sums_of) (defScope s_sums_of) [] [] f fd) (m : mg "sums_of" = some (.ref f)) (O_figures : DefF P w K mg base 1 "figures" (spV K 3 f_figures)) (O_number_of : DefF P w K mg base 1 "number_of" (spV K 2 f_number_of)) (O_prime_and_degree : DefF P w K mg base 1 "prime_and_degree" (spV K 1 f_prime_and_degree)) : DefF P w K mg base 2 "sums_of" (spV K 1 f_sums_of) := ⟨f, fd, ["q"], fnD_ok (m := 8) (s := b_sums_of) F sc_sums_of rfl rfl (fun cdv A outer s H E hr => (vss_cons (vs_asgG (ve_fnD O_prime_and_degree hr rfl (va_cons (ve_var (pv 0)) va_nil)) (vg_tup rfl (vgs_cons (vg_name (pg_name (i := 1) sc_sums_of.nd rfl (by first | exact Or.inl rfl | exact Or.inr rfl))) (vgs_cons (vg_name (pg_name (i := 2) sc_sums_of.nd rfl (by first | exact Or.inl rfl | exact Or.inr rfl))) vgs_nil)))) (vss_cons (vs_asg sc_sums_of.nd (i := 3) rfl (by first | exact Or.inl rfl | exact Or.inr rfl) (ve_comp (own := [("number", 4)]) rfl rfl sc_sums_of.nd (vi_range1 rfl B.b_range (ve_var (pv 0))) (blkOk_by (N := N_sums_of) (sc := defScope s_sums_of) (own := [("number", 4)]) (by decide +kernel)) (fun _ _ _ _ _ => (vgc_name (pg_name (i := 4) sc_sums_of.nd rfl (by first | exact Or.inl rfl | exact Or.inr rfl)) rfl)) (fun _ _ _ _ _ => vts_nil) (fun _ _ _ _ _ => (ve_fnD O_figures hr rfl (va_cons (ve_var (pv 4)) (va_cons (ve_var (pv 1)) (va_cons (ve_var (pv 2)) va_nil))))))) (vss_one (vs_ret (ve_comp (own := [("one", 5)]) rfl rfl sc_sums_of.nd (vi_seq (ve_var (pv 3))) (blkOk_by (N := N_sums_of) (sc := defScope s_sums_of) (own := [("one", 5)]) (by decide +kernel)) (fun _ _ _ _ _ => (vgc_name (pg_name (i := 5) sc_sums_of.nd rfl (by first | exact Or.inl rfl | exact Or.inr rfl)) rfl)) (fun _ _ _ _ _ => vts_nil) (fun _ _ _ _ _ => (ve_comp (own := [("other", 6)]) rfl rfl sc_sums_of.nd (vi_seq (ve_var (pv 3))) (blkOk_by (N := N_sums_of) (sc := ⟨.function, [(".0", .local), ("one", .cell), ("own", .cell), ("p", .cell)], false, false, []⟩) (own := [("other", 6)]) (by decide +kernel)) (fun _ _ _ _ _ => (vgc_name (pg_name (i := 6) sc_sums_of.nd rfl (by first | exact Or.inl rfl | exact Or.inr rfl)) rfl)) (fun _ _ _ _ _ => vts_nil) (fun _ _ _ _ _ => (ve_fnD O_number_of hr rfl (va_cons (ve_comp (own := [("x", 7), ("y", 8)]) rfl rfl sc_sums_of.nd (vi_zip rfl B.b_zip (ve_var (pv 5)) (ve_var (pv 6))) (blkOk_by (N := N_sums_of) (sc := ⟨.function, [(".0", .local), ("other", .local), ("number_of", .globalImplicit), ("zip", .globalImplicit), ("one", .cell), ("p", .cell)], false, false, []⟩) (own := [("x", 7), ("y", 8)]) (by decide +kernel)) (fun _ _ _ _ _ => (vgc_tup rfl (vgsc_cons (vgc_name (pg_name (i := 7) sc_sums_of.nd rfl (by first | exact Or.inl rfl | exact Or.inr rfl)) rfl) (vgsc_cons (vgc_name (pg_name (i := 8) sc_sums_of.nd rfl (by first | exact Or.inl rfl | exact Or.inr rfl)) rfl) vgsc_nil)))) (fun _ _ _ _ _ => vts_nil) (fun _ _ _ _ _ => (ve_bin os_mod (ve_binG og_add (ve_var (pv 7)) (ve_var (pv 8))) (ve_var (pv 1))))) (va_cons (ve_var (pv 1)) va_nil)))))))))))), F.kp, (F.bindsN fun _ _ _ _ _ _ us hl => match us, hl with | [_], _ => rfl), m⟩
theorem ok_field_of {f : Addr} {fd : FuncData} (B : Bl mg) (F : FunD K "field_of" "field_of" (defArgs s_field_of) (defBody s_field_of) (defScope s_field_of) [] [] f fd) (m : mg "field_of" = some (.ref f)) (O_prime_and_degree : DefF P w K mg base 1 "prime_and_degree" (spV K 1 f_prime_and_degree)) (O_products_of : DefF P w K mg base 5 "products_of" (spV K 1 sp_prod)) (O_sums_of : DefF P w K mg base 2 "sums_of" (spV K 1 f_sums_of)) : DefF P w K mg base 6 "field_of" (spV K 1 f_field_of) := ⟨f, fd, ["q"], fnD_ok (m := 0) (s := b_field_of) F sc_field_of rfl rfl (fun cdv A outer s H E hr => (vss_cons (vs_if (vt_cmp os_isN (ve_fnD O_prime_and_degree hr rfl (va_cons (ve_var (pv 0)) va_nil)) (ve_const pe_non)) (vss_one vs_bad) vss_nil) (vss_one (vs_ret (ve_tup (va_cons (ve_fnD O_sums_of hr rfl (va_cons (ve_var (pv 0)) va_nil)) (va_cons (ve_fnD O_products_of hr rfl (va_cons (ve_var (pv 0)) va_nil)) va_nil))))))), F.kp, (F.bindsN fun _ _ _ _ _ _ us hl => match us, hl with | [_], _ => rfl), m⟩
theorem ok_solve_two {f : Addr} {fd : FuncData} (B : Bl mg) (F : FunD K "solve_two" "solve_two" (defArgs s_solve_two) (defBody s_solve_two) (defScope s_solve_two) [] [] f fd) (m : mg "solve_two" = some (.ref f)) (O_field_of : DefF P w K mg base 6 "field_of" (spV K 1 f_field_of)) : DefF P w K mg base 7 "solve_two" (spV K 2 f_solve_two) := ⟨f, fd, ["q", "lines"], fnD_ok (m := 8) (s := b_solve_two) F sc_solve_two rfl rfl (fun cdv A outer s H E hr => (vss_cons (vs_asgG (ve_fnD O_field_of hr rfl (va_cons (ve_var (pv 0)) va_nil)) (vg_tup rfl (vgs_cons (vg_name (pg_name (i := 2) sc_solve_two.nd rfl (by first | exact Or.inl rfl | exact Or.inr rfl))) (vgs_cons (vg_name (pg_name (i := 3) sc_solve_two.nd rfl (by first | exact Or.inl rfl | exact Or.inr rfl))) vgs_nil)))) (vss_cons (vs_asg sc_solve_two.nd (i := 4) rfl (by first | exact Or.inl rfl | exact Or.inr rfl) (ve_lst va_nil)) (vss_cons (vs_for PassesOwn.never rfl (vi_range1 rfl B.b_range (ve_var (pv 0))) (vg_name (pg_name (i := 5) sc_solve_two.nd rfl (by first | exact Or.inl rfl | exact Or.inr rfl))) (vss_one (vs_for PassesOwn.never rfl (vi_range1 rfl B.b_range (ve_var (pv 0))) (vg_name (pg_name (i := 6) sc_solve_two.nd rfl (by first | exact Or.inl rfl | exact Or.inr rfl))) (vss_one (vs_if (vt_tru (ve_callB (bi_all rfl) rfl B.b_all boot_allT (va_cons (ve_comp (own := [("a", 7), ("b", 8), ("c", 9)]) rfl rfl sc_solve_two.nd (vi_seq (ve_var (pv 1))) (blkOk_by (N := N_solve_two) (sc := defScope s_solve_two) (own := [("a", 7), ("b", 8), ("c", 9)]) (by decide +kernel)) (fun _ _ _ _ _ => (vgc_tup rfl (vgsc_cons (vgc_name (pg_name (i := 7) sc_solve_two.nd rfl (by first | exact Or.inl rfl | exact Or.inr rfl)) rfl) (vgsc_cons (vgc_name (pg_name (i := 8) sc_solve_two.nd rfl (by first | exact Or.inl rfl | exact Or.inr rfl)) rfl) (vgsc_cons (vgc_name (pg_name (i := 9) sc_solve_two.nd rfl (by first | exact Or.inl rfl | exact Or.inr rfl)) rfl) vgsc_nil))))) (fun _ _ _ _ _ => vts_nil) (fun _ _ _ _ _ => (ve_cmp (os_eq hr.units) (ve_ix (ve_ix (ve_var (pv 2)) (ve_ix (ve_ix (ve_var (pv 3)) (ve_var (pv 7))) (ve_var (pv 5)))) (ve_ix (ve_ix (ve_var (pv 3)) (ve_var (pv 8))) (ve_var (pv 6)))) (ve_var (pv 9))))) va_nil))) (vss_one (vs_app (i := 4) (pv 4) (ve_tup (va_cons (ve_var (pv 5)) (va_cons (ve_var (pv 6)) va_nil))))) vss_nil))))) (vss_one (vs_retV (pv 4))))))), F.kp, (F.bindsN fun _ _ _ _ _ _ us hl => match us, hl with | [_, _], _ => rfl), m⟩
theorem ok_law_asked {f : Addr} {fd : FuncData} (B : Bl mg) (F : FunD K "_law_asked" "_law_asked" (defArgs s_law_asked) (defBody s_law_asked) (defScope s_law_asked) [] [] f fd) (m : mg "_law_asked" = some (.ref f)) (O_law_pairs : DefF P w K mg base 1 "_law_pairs" (spV K 3 f_law_pairs)) (O_law_same : DefF P w K mg base 6 "_law_same" (spV K 2 f_law_same)) (O_solve_two : DefF P w K mg base 7 "solve_two" (spV K 2 f_solve_two)) : DefF P w K mg base 8 "_law_asked" (spV K 3 f_law_asked) := ⟨f, fd, ["tables", "q", "lines"], fnD_ok (m := 5) (s := b_law_asked) F sc_law_asked rfl rfl (fun cdv A outer s H E hr => (vss_cons (vs_asg sc_law_asked.nd (i := 3) rfl (by first | exact Or.inl rfl | exact Or.inr rfl) (ve_fnD O_law_pairs hr rfl (va_cons (ve_var (pv 0)) (va_cons (ve_var (pv 1)) (va_cons (ve_var (pv 2)) va_nil))))) (vss_cons (vs_asg sc_law_asked.nd (i := 4) rfl (by first | exact Or.inl rfl | exact Or.inr rfl) (ve_list rfl B.b_list boot_listT (ve_var (pv 2)))) (vss_cons (vs_asg sc_law_asked.nd (i := 5) rfl (by first | exact Or.inl rfl | exact Or.inr rfl) (ve_fnD O_solve_two hr rfl (va_cons (ve_var (pv 1)) (va_cons (ve_var (pv 4)) va_nil)))) (vss_cons (vs_if (vt_bop (vw_or (vt_not (vt_tru (ve_fnD O_law_same hr rfl (va_cons (ve_var (pv 5)) (va_cons (ve_var (pv 3)) va_nil))))) (vw_or1 (vt_not (vt_tru (ve_fnD O_law_same hr rfl (va_cons (ve_var (pv 4)) (va_cons (ve_var (pv 2)) va_nil)))))))) (vss_one (vs_ret (ve_const pe_bl))) vss_nil) (vss_cons (vs_asg sc_law_asked.nd (i := 6) rfl (by first | exact Or.inl rfl | exact Or.inr rfl) (ve_ix (ve_var (pv 2)) (ve_const pe_int))) (vss_cons (vs_asg sc_law_asked.nd (i := 7) rfl (by first | exact Or.inl rfl | exact Or.inr rfl) (ve_ix (ve_var (pv 2)) (ve_const pe_int))) (vss_cons (vs_if (vt_cmp (os_ne hr.units) (ve_ix (ve_ix (ve_ix (ve_var (pv 0)) (ve_const pe_int)) (ve_ix (ve_var (pv 6)) (ve_const pe_int))) (ve_ix (ve_var (pv 7)) (ve_const pe_int))) (ve_ix (ve_ix (ve_ix (ve_var (pv 0)) (ve_const pe_int)) (ve_ix (ve_var (pv 6)) (ve_const pe_int))) (ve_ix (ve_var (pv 7)) (ve_const pe_int)))) (vss_one (vs_if (vt_cmp (os_ne hr.units) (ve_callB bi_len rfl B.b_len boot_lenT (va_cons (ve_var (pv 5)) va_nil)) (ve_const pe_int)) (vss_one (vs_ret (ve_const pe_bl))) vss_nil)) (vss_one (vs_if (vt_cmp (os_notIn (room5 hr)) (ve_callB bi_len rfl B.b_len boot_lenT (va_cons (ve_var (pv 5)) va_nil)) (ve_lst (va_cons (ve_const pe_int) (va_cons (ve_var (pv 1)) (va_cons (ve_binG og_mul (ve_var (pv 1)) (ve_var (pv 1))) va_nil))))) (vss_one (vs_ret (ve_const pe_bl))) vss_nil))) (vss_cons (vs_app (i := 5) (pv 5) (ve_tup (va_cons (ve_const pe_int) (va_cons (ve_const pe_int) va_nil)))) (vss_one (vs_ret (ve_fnD O_law_same hr rfl (va_cons (ve_fnD O_solve_two hr rfl (va_cons (ve_var (pv 1)) (va_cons (ve_var (pv 4)) va_nil))) (va_cons (ve_var (pv 3)) va_nil)))))))))))))), F.kp, (F.bindsN fun _ _ _ _ _ _ us hl => match us, hl with | [_, _, _], _ => rfl), m⟩
theorem ok_law_draw {f : Addr} {fd : FuncData} (B : Bl mg) (F : FunD K "_law_draw" "_law_draw" (defArgs s_law_draw) (defBody s_law_draw) (defScope s_law_draw) [] [] f fd) (m : mg "_law_draw" = some (.ref f)) : DefF P w K mg base 1 "_law_draw" (spVf K 1 fDraw) := ⟨f, fd, ["feed", "many"], drawD_ok F sc_law_draw rfl rfl (fun cdv A outer s H E => (pss_cons (ps_if (PW.pt (pw_and (pt_cmpR op_eq (pe_ix ix_list (pv 0) pe_int fun _ _ => rfl) pe_int (nomark _)) (pw_and1 (pt_cmpR op_lt (pe_ix ix_list (pv 0) pe_int fun _ _ => rfl) (pe_callB call_len_seq rfl B.b_len boot_lenT (pa_cons (pe_ix ix_list (pv 0) pe_int fun _ _ => rfl) pa_nil)) (nomark _))))) (pss_cons (ps_set (i := 2) sc_law_draw.nd rfl (Or.inl rfl) (pe_callB call_abs rfl B.b_abs boot_absT (pa_cons (pe_callTy call_int1 rfl B.b_int boot_intT (pa_cons (pe_ix ix_list (pe_ix ix_list (pv 0) pe_int fun _ _ => rfl) (pe_ix ix_list (pv 0) pe_int fun _ _ => rfl) fun _ _ => rfl) pa_nil)) pa_nil))) (pss_cons (ps_augS (pv 0) pe_int pg_getL pe_int ip_add set_list) (pss_one (ps_if (pt_cmpR op_ge (pv 2) (pe_op op_pow pe_int pe_int) (nomark _)) (pss_one (ps_asg (pv 2) (pg_sub (pv 0) pe_int set_list))) (pss_one (ps_asg (pe_op op_mod (pe_callTy call_int1 rfl B.b_int boot_intT (pa_cons (pe_op op_add (pe_op op_add (pe_op op_mul (pe_ix ix_list (pv 0) pe_int fun _ _ => rfl) pe_int) (pe_op op_mul (pv 2) pe_int)) (pe_ix ix_list (pv 0) pe_int fun _ _ => rfl)) pa_nil)) pe_int) (pg_sub (pv 0) pe_int set_list))))))) pss_nil) (pss_cons (ps_if (pt_cmpR op_gt (pe_ix ix_list (pv 0) pe_int fun _ _ => rfl) pe_int (nomark _)) (pss_cons (ps_set (i := 3) sc_law_draw.nd rfl (Or.inl rfl) (pe_op op_mod (pe_callTy call_int1 rfl B.b_int boot_intT (pa_cons (pe_ix ix_list (pv 0) pe_int fun _ _ => rfl) pa_nil)) (pv 1))) (pss_cons (ps_asg (pe_op op_fdiv (pe_ix ix_list (pv 0) pe_int fun _ _ => rfl) (pv 1)) (pg_sub (pv 0) pe_int set_list)) (pss_one (ps_ret (pv 3))))) pss_nil) (pss_cons (ps_asg (pe_op op_mod (pe_callTy call_int1 rfl B.b_int boot_intT (pa_cons (pe_op op_add (pe_op op_mul (pe_ix ix_list (pv 0) pe_int fun _ _ => rfl) pe_int) pe_int) pa_nil)) pe_int) (pg_sub (pv 0) pe_int set_list)) (pss_cons (ps_set (i := 4) sc_law_draw.nd rfl (Or.inl rfl) (pe_op op_mod (pe_callTy call_int1 rfl B.b_int boot_intT (pa_cons (pe_op op_add (pe_op op_mul (pe_ix ix_list (pv 0) pe_int fun _ _ => rfl) (pe_ix ix_list (pv 0) pe_int fun _ _ => rfl)) (pe_ix ix_list (pv 0) pe_int fun _ _ => rfl)) pa_nil)) pe_int)) (pss_one (ps_ret (pe_op op_mod (pe_op op_fdiv (pv 4) pe_int) (pv 1))))))))), F.kp, (F.bindsN fun _ _ _ _ _ _ us hl => match us, hl with | [_, _], _ => rfl), m⟩
theorem ok_law_feed {f : Addr} {fd : FuncData} (B : Bl mg) (F : FunD K "_law_feed" "_law_feed" (defArgs s_law_feed) (defBody s_law_feed) (defScope s_law_feed) [] [] f fd) (m : mg "_law_feed" = some (.ref f)) : DefF P w K mg base 1 "_law_feed" (spFeed K) := ⟨f, fd, ["script"], feedD_ok F sc_law_feed rfl (fun cdv A outer s H E => pss_one (ps_ret (pe_lst (pa_cons (pe_callTy call_list_of rfl B.b_list boot_listT (pa_cons (pv 0) pa_nil)) (pa_cons pe_int (pa_cons pe_int (pa_cons pe_int pa_nil))))))), F.kp, (F.bindsN fun _ _ _ _ _ _ us hl => match us, hl with | [_], _ => rfl), m⟩
theorem ok_law_figures {f : Addr} {fd : FuncData} (B : Bl mg) (F : FunD K "_law_figures" "_law_figures" (defArgs s_law_figures) (defBody s_law_figures) (defScope s_law_figures) [] [] f fd) (m : mg "_law_figures" = some (.ref f)) : DefF P w K mg base 1 "_law_figures" (spV K 3 f_law_figures) := ⟨f, fd, ["a", "p", "many"], fnD_ok (m := 2) (s := b_law_figures) F sc_law_figures rfl rfl (fun cdv A outer s H E hr => (vss_cons (vs_asg sc_law_figures.nd (i := 3) rfl (by first | exact Or.inl rfl | exact Or.inr rfl) (ve_lst va_nil)) (vss_cons (vs_for PassesOwn.never rfl (vi_range1 rfl B.b_range (ve_var (pv 2))) (vg_name (pg_name (i := 4) sc_law_figures.nd rfl (by first | exact Or.inl rfl | exact Or.inr rfl))) (vss_cons (vs_app (i := 3) (pv 3) (ve_bin os_mod (ve_callTy bi_int rfl B.b_int boot_intT (va_cons (ve_var (pv 0)) va_nil)) (ve_var (pv 1)))) (vss_one (vs_asg sc_law_figures.nd (i := 0) rfl (by first | exact Or.inl rfl | exact Or.inr rfl) (ve_bin os_fdv (ve_var (pv 0)) (ve_var (pv 1))))))) (vss_one (vs_retV (pv 3)))))), F.kp, (F.bindsN fun _ _ _ _ _ _ us hl => match us, hl with | [_, _, _], _ => rfl), m⟩
theorem ok_law_number {f : Addr} {fd : FuncData} (B : Bl mg) (F : FunD K "_law_number" "_law_number" (defArgs s_law_number) (defBody s_law_number) (defScope s_law_number) [] [] f fd) (m : mg "_law_number" = some (.ref f)) : DefF P w K mg base 1 "_law_number" (spV K 2 f_law_number) := ⟨f, fd, ["figures_v", "p"], fnD_ok (m := 2) (s := b_law_number) F sc_law_number rfl rfl (fun cdv A outer s H E hr => (vss_cons (vs_asg sc_law_number.nd (i := 2) rfl (by first | exact Or.inl rfl | exact Or.inr rfl) (ve_const pe_int)) (vss_cons (vs_for PassesOwn.never rfl (vi_range1 rfl B.b_range (ve_callB bi_len rfl B.b_len boot_lenT (va_cons (ve_var (pv 0)) va_nil))) (vg_name (pg_name (i := 3) sc_law_number.nd rfl (by first | exact Or.inl rfl | exact Or.inr rfl))) (vss_one (vs_asg sc_law_number.nd (i := 2) rfl (by first | exact Or.inl rfl | exact Or.inr rfl) (ve_binG og_add (ve_binG og_mul (ve_var (pv 2)) (ve_var (pv 1))) (ve_ix (ve_var (pv 0)) (ve_bin os_sub (ve_bin os_sub (ve_callB bi_len rfl B.b_len boot_lenT (va_cons (ve_var (pv 0)) va_nil)) (ve_const pe_int)) (ve_var (pv 3)))))))) (vss_one (vs_retV (pv 2)))))), F.kp, (F.bindsN fun _ _ _ _ _ _ us hl => match us, hl with | [_, _], _ => rfl), m⟩
theorem ok_law_plus {f : Addr} {fd : FuncData} (B : Bl mg) (F : FunD K "_law_plus" "_law_plus" (defArgs s_law_plus) (defBody s_law_plus) (defScope s_law_plus) [] [] f fd) (m : mg "_law_plus" = some (.ref f)) (O_law_figures : DefF P w K mg base 1 "_law_figures" (spV K 3 f_law_figures)) (O_law_number : DefF P w K mg base 1 "_law_number" (spV K 2 f_law_number)) : DefF P w K mg base 2 "_law_plus" (spV K 4 f_law_plus) := ⟨f, fd, ["p", "many", "a", "b"], fnD_ok (m := 3) (s := b_law_plus) F sc_law_plus rfl rfl (fun cdv A outer s H E hr => (vss_cons (vs_asg sc_law_plus.nd (i := 4) rfl (by first | exact Or.inl rfl | exact Or.inr rfl) (ve_fnD O_law_figures hr rfl (va_cons (ve_var (pv 2)) (va_cons (ve_var (pv 0)) (va_cons (ve_var (pv 1)) va_nil))))) (vss_cons (vs_asg sc_law_plus.nd (i := 5) rfl (by first | exact Or.inl rfl | exact Or.inr rfl) (ve_fnD O_law_figures hr rfl (va_cons (ve_var (pv 3)) (va_cons (ve_var (pv 0)) (va_cons (ve_var (pv 1)) va_nil))))) (vss_one (vs_ret (ve_fnD O_law_number hr rfl (va_cons (ve_comp (own := [("k", 6)]) rfl rfl sc_law_plus.nd (vi_range1 rfl B.b_range (ve_var (pv 1))) (blkOk_by (N := N_law_plus) (sc := defScope s_law_plus) (own := [("k", 6)]) (by decide +kernel)) (fun _ _ _ _ _ => (vgc_name (pg_name (i := 6) sc_law_plus.nd rfl (by first | exact Or.inl rfl | exact Or.inr rfl)) rfl)) (fun _ _ _ _ _ => vts_nil) (fun _ _ _ _ _ => (ve_bin os_mod (ve_callTy bi_int rfl B.b_int boot_intT (va_cons (ve_binG og_add (ve_ix (ve_var (pv 4)) (ve_var (pv 6))) (ve_ix (ve_var (pv 5)) (ve_var (pv 6)))) va_nil)) (ve_var (pv 0))))) (va_cons (ve_var (pv 0)) va_nil)))))))), F.kp, (F.bindsN fun _ _ _ _ _ _ us hl => match us, hl with | [_, _, _, _], _ => rfl), m⟩
theorem ok_law_prime {f : Addr} {fd : FuncData} (B : Bl mg) (F : FunD K "_law_prime" "_law_prime" (defArgs s_law_prime) (defBody s_law_prime) (defScope s_law_prime) [] [] f fd) (m : mg "_law_prime" = some (.ref f)) : DefF P w K mg base 1 "_law_prime" (spV K 1 f_law_prime) := ⟨f, fd, ["q"], fnD_ok (m := 0) (s := b_law_prime) F sc_law_prime rfl rfl (fun cdv A outer s H E hr => (vss_one (vs_ret (ve_dix (dp_cons (ve_const pe_int) (dp_cons (ve_const pe_int) (dp_cons (ve_const pe_int) (dp_cons (ve_const pe_int) (dp_cons (ve_const pe_int) (dp_cons (ve_const pe_int) (dp_cons (ve_const pe_int) (dp_cons (ve_const pe_int) (dp_cons (ve_const pe_int) (dp_cons (ve_const pe_int) dp_nil)))))))))) (ve_var (pv 0)) (room1 hr))))), F.kp, (F.bindsN fun _ _ _ _ _ _ us hl => match us, hl with | [_], _ => rfl), m⟩
theorem ok_law_rule {f : Addr} {fd : FuncData} (B : Bl mg) (F : FunD K "_law_rule" "_law_rule" (defArgs s_law_rule) (defBody s_law_rule) (defScope s_law_rule) [] [] f fd) (m : mg "_law_rule" = some (.ref f)) : DefF P w K mg base 1 "_law_rule" (spV K 1 f_law_rule) := ⟨f, fd, ["q"], fnD_ok (m := 0) (s := b_law_rule) F sc_law_rule rfl rfl (fun cdv A outer s H E hr => (vss_one (vs_ret (ve_dget2 (dp_cons (ve_lst (va_cons (ve_const pe_int) (va_cons (ve_const pe_int) (va_cons (ve_const pe_int) va_nil)))) (dp_cons (ve_lst (va_cons (ve_const pe_int) (va_cons (ve_const pe_int) (va_cons (ve_const pe_int) (va_cons (ve_const pe_int) va_nil))))) (dp_cons (ve_lst (va_cons (ve_const pe_int) (va_cons (ve_const pe_int) (va_cons (ve_const pe_int) va_nil)))) (dp_cons (ve_lst (va_cons (ve_const pe_int) (va_cons (ve_const pe_int) (va_cons (ve_const pe_int) (va_cons (ve_const pe_int) (va_cons (ve_const pe_int) va_nil)))))) dp_nil)))) (ve_var (pv 0)) (ve_lst (va_cons (ve_const pe_int) (va_cons (ve_const pe_int) va_nil))) (room1 hr) ⟨rfl, rfl, rfl, rfl⟩)))), F.kp, (F.bindsN fun _ _ _ _ _ _ us hl => match us, hl with | [_], _ => rfl), m⟩
theorem ok_law_times {f : Addr} {fd : FuncData} (B : Bl mg) (F : FunD K "_law_times" "_law_times" (defArgs s_law_times) (defBody s_law_times) (defScope s_law_times) [] [] f fd) (m : mg "_law_times" = some (.ref f)) (O_law_figures : DefF P w K mg base 1 "_law_figures" (spV K 3 f_law_figures)) (O_law_number : DefF P w K mg base 1 "_law_number" (spV K 2 f_law_number)) : DefF P w K mg base 2 "_law_times" (spV K 4 f_law_times) := ⟨f, fd, ["p", "rule", "a", "b"], fnD_ok (m := 8) (s := b_law_times) F sc_law_times rfl rfl (fun cdv A outer s H E hr => (vss_cons (vs_asg sc_law_times.nd (i := 4) rfl (by first | exact Or.inl rfl | exact Or.inr rfl) (ve_bin os_sub (ve_callB bi_len rfl B.b_len boot_lenT (va_cons (ve_var (pv 1)) va_nil)) (ve_const pe_int))) (vss_cons (vs_asg sc_law_times.nd (i := 5) rfl (by first | exact Or.inl rfl | exact Or.inr rfl) (ve_fnD O_law_figures hr rfl (va_cons (ve_var (pv 2)) (va_cons (ve_var (pv 0)) (va_cons (ve_var (pv 4)) va_nil))))) (vss_cons (vs_asg sc_law_times.nd (i := 6) rfl (by first | exact Or.inl rfl | exact Or.inr rfl) (ve_fnD O_law_figures hr rfl (va_cons (ve_var (pv 3)) (va_cons (ve_var (pv 0)) (va_cons (ve_var (pv 4)) va_nil))))) (vss_cons (vs_asg sc_law_times.nd (i := 7) rfl (by first | exact Or.inl rfl | exact Or.inr rfl) (ve_comp (own := [("k", 11)]) rfl rfl sc_law_times.nd (vi_range1 rfl B.b_range (ve_var (pv 4))) (blkOk_by (N := N_law_times) (sc := defScope s_law_times) (own := [("k", 11)]) (by decide +kernel)) (fun _ _ _ _ _ => (vgc_name (pg_name (i := 11) sc_law_times.nd rfl (by first | exact Or.inl rfl | exact Or.inr rfl)) rfl)) (fun _ _ _ _ _ => vts_nil) (fun _ _ _ _ _ => (ve_const pe_int)))) (vss_cons (vs_for PassesOwn.never rfl (vi_range1 rfl B.b_range (ve_var (pv 4))) (vg_name (pg_name (i := 8) sc_law_times.nd rfl (by first | exact Or.inl rfl | exact Or.inr rfl))) (vss_cons (vs_asg sc_law_times.nd (i := 9) rfl (by first | exact Or.inl rfl | exact Or.inr rfl) (ve_ix (ve_var (pv 7)) (ve_bin os_sub (ve_var (pv 4)) (ve_const pe_int)))) (vss_cons (vs_asg sc_law_times.nd (i := 7) rfl (by first | exact Or.inl rfl | exact Or.inr rfl) (ve_binG og_add (ve_lst (va_cons (ve_const pe_int) va_nil)) (ve_slice (ve_var (pv 7)) vo_none (vo_some (ve_bin os_sub (ve_var (pv 4)) (ve_const pe_int)))))) (vss_cons (vs_asg sc_law_times.nd (i := 10) rfl (by first | exact Or.inl rfl | exact Or.inr rfl) (ve_ix (ve_var (pv 6)) (ve_bin os_sub (ve_bin os_sub (ve_var (pv 4)) (ve_const pe_int)) (ve_var (pv 8))))) (vss_one (vs_asg sc_law_times.nd (i := 7) rfl (by first | exact Or.inl rfl | exact Or.inr rfl) (ve_comp (own := [("k", 11)]) rfl rfl sc_law_times.nd (vi_range1 rfl B.b_range (ve_var (pv 4))) (blkOk_by (N := N_law_times) (sc := defScope s_law_times) (own := [("k", 11)]) (by decide +kernel)) (fun _ _ _ _ _ => (vgc_name (pg_name (i := 11) sc_law_times.nd rfl (by first | exact Or.inl rfl | exact Or.inr rfl)) rfl)) (fun _ _ _ _ _ => vts_nil) (fun _ _ _ _ _ => (ve_bin os_mod (ve_callTy bi_int rfl B.b_int boot_intT (va_cons (ve_binG og_add (ve_bin os_sub (ve_ix (ve_var (pv 7)) (ve_var (pv 11))) (ve_binG og_mul (ve_var (pv 9)) (ve_ix (ve_var (pv 1)) (ve_var (pv 11))))) (ve_binG og_mul (ve_var (pv 10)) (ve_ix (ve_var (pv 5)) (ve_var (pv 11))))) va_nil)) (ve_var (pv 0))))))))))) (vss_one (vs_ret (ve_fnD O_law_number hr rfl (va_cons (ve_var (pv 7)) (va_cons (ve_var (pv 0)) va_nil))))))))))), F.kp, (F.bindsN fun _ _ _ _ _ _ us hl => match us, hl with | [_, _, _, _], _ => rfl), m⟩
theorem ok_law_tables {f : Addr} {fd : FuncData} (B : Bl mg) (F : FunD K "_law_tables" "_law_tables" (defArgs s_law_tables) (defBody s_law_tables) (defScope s_law_tables) [] [] f fd) (m : mg "_law_tables" = some (.ref f)) (O_law_plus : DefF P w K mg base 2 "_law_plus" (spV K 4 f_law_plus)) (O_law_prime : DefF P w K mg base 1 "_law_prime" (spV K 1 f_law_prime)) (O_law_rule : DefF P w K mg base 1 "_law_rule" (spV K 1 f_law_rule)) (O_law_times : DefF P w K mg base 2 "_law_times" (spV K 4 sp_times)) : DefF P w K mg base 3 "_law_tables" (spV K 1 f_law_tables) := ⟨f, fd, ["q"], fnD_ok (m := 6) (s := b_law_tables) F sc_law_tables rfl rfl (fun cdv A outer s H E hr => (vss_cons (vs_asg sc_law_tables.nd (i := 1) rfl (by first | exact Or.inl rfl | exact Or.inr rfl) (ve_fnD O_law_prime hr rfl (va_cons (ve_var (pv 0)) va_nil))) (vss_cons (vs_asg sc_law_tables.nd (i := 2) rfl (by first | exact Or.inl rfl | exact Or.inr rfl) (ve_fnD O_law_rule hr rfl (va_cons (ve_var (pv 0)) va_nil))) (vss_cons (vs_asg sc_law_tables.nd (i := 3) rfl (by first | exact Or.inl rfl | exact Or.inr rfl) (ve_lst va_nil)) (vss_cons (vs_asg sc_law_tables.nd (i := 4) rfl (by first | exact Or.inl rfl | exact Or.inr rfl) (ve_lst va_nil)) (vss_cons (vs_for PassesOwn.never rfl (vi_range1 rfl B.b_range (ve_var (pv 0))) (vg_name (pg_name (i := 5) sc_law_tables.nd rfl (by first | exact Or.inl rfl | exact Or.inr rfl))) (vss_cons (vs_app (i := 3) (pv 3) (ve_comp (own := [("b", 6)]) rfl rfl sc_law_tables.nd (vi_range1 rfl B.b_range (ve_var (pv 0))) (blkOk_by (N := N_law_tables) (sc := defScope s_law_tables) (own := [("b", 6)]) (by decide +kernel)) (fun _ _ _ _ _ => (vgc_name (pg_name (i := 6) sc_law_tables.nd rfl (by first | exact Or.inl rfl | exact Or.inr rfl)) rfl)) (fun _ _ _ _ _ => vts_nil) (fun _ _ _ _ _ => (ve_fnD O_law_plus hr rfl (va_cons (ve_var (pv 1)) (va_cons (ve_bin os_sub (ve_callB bi_len rfl B.b_len boot_lenT (va_cons (ve_var (pv 2)) va_nil)) (ve_const pe_int)) (va_cons (ve_var (pv 5)) (va_cons (ve_var (pv 6)) va_nil)))))))) (vss_one (vs_app (i := 4) (pv 4) (ve_comp (own := [("b", 6)]) rfl rfl sc_law_tables.nd (vi_range1 rfl B.b_range (ve_var (pv 0))) (blkOk_by (N := N_law_tables) (sc := defScope s_law_tables) (own := [("b", 6)]) (by decide +kernel)) (fun _ _ _ _ _ => (vgc_name (pg_name (i := 6) sc_law_tables.nd rfl (by first | exact Or.inl rfl | exact Or.inr rfl)) rfl)) (fun _ _ _ _ _ => vts_nil) (fun _ _ _ _ _ => (ve_fnD O_law_times hr rfl (va_cons (ve_var (pv 1)) (va_cons (ve_var (pv 2)) (va_cons (ve_var (pv 5)) (va_cons (ve_var (pv 6)) va_nil))))))))))) (vss_one (vs_ret (ve_lst (va_cons (ve_var (pv 3)) (va_cons (ve_var (pv 4)) va_nil))))))))))), F.kp, (F.bindsN fun _ _ _ _ _ _ us hl => match us, hl with | [_], _ => rfl), m⟩
theorem ok_law {f : Addr} {fd : FuncData} (B : Bl mg) (F : FunD K "law" "law" (defArgs s_law) (defBody s_law) (defScope s_law) [] [] f fd) (O_law_asked : DefF P w K mg base 8 "_law_asked" (spV K 3 f_law_asked)) (O_law_draw : DefF P w K mg base 1 "_law_draw" (spVf K 1 f_law_draw)) (O_law_feed : DefF P w K mg base 1 "_law_feed" (spFeed K)) (O_law_tables : DefF P w K mg base 3 "_law_tables" (spV K 1 f_law_tables)) (g : LawOk 10 b_law) : FnOk P w K mg base CX0 9 f fd ["script"] (VL.spLaw K) :=
  by
  refine lawD_ok F sc_law rfl rfl g fun cdv A outer s H E hr => ?_
  refine law_first O_law_feed hr rfl (pv 0) sc_law.nd rfl (by first | exact Or.inl rfl | exact Or.inr rfl) ?_
  refine vss_cons (vs_asg sc_law.nd (i := 2) rfl (by first | exact Or.inl rfl | exact Or.inr rfl) (ve_lst (va_cons (ve_const pe_int) (va_cons (ve_const pe_int) (va_cons (ve_const pe_int) (va_cons (ve_const pe_int) (va_cons (ve_const pe_int) (va_cons (ve_const pe_int) (va_cons (ve_const pe_int) (va_cons (ve_const pe_int) (va_cons (ve_const pe_int) (va_cons (ve_const pe_int) va_nil)))))))))))) ?_
  refine vss_cons (vs_asg sc_law.nd (i := 3) rfl (by first | exact Or.inl rfl | exact Or.inr rfl) (ve_ix (ve_var (pv 2)) (ve_fnDF O_law_draw hr rfl (pv 1) (va_cons (ve_const pe_int) va_nil)))) ?_
  refine vss_cons (vs_asg sc_law.nd (i := 4) rfl (by first | exact Or.inl rfl | exact Or.inr rfl) (ve_fnD O_law_tables hr rfl (va_cons (ve_var (pv 3)) va_nil))) ?_
  refine vss_cons (vs_asg sc_law.nd (i := 5) rfl (by first | exact Or.inl rfl | exact Or.inr rfl) (ve_tup (va_cons (ve_fnDF O_law_draw hr rfl (pv 1) (va_cons (ve_var (pv 3)) va_nil)) (va_cons (ve_fnDF O_law_draw hr rfl (pv 1) (va_cons (ve_var (pv 3)) va_nil)) (va_cons (ve_fnDF O_law_draw hr rfl (pv 1) (va_cons (ve_var (pv 3)) va_nil)) va_nil))))) ?_
  refine vss_cons (vs_asg sc_law.nd (i := 6) rfl (by first | exact Or.inl rfl | exact Or.inr rfl) (ve_tup (va_cons (ve_fnDF O_law_draw hr rfl (pv 1) (va_cons (ve_var (pv 3)) va_nil)) (va_cons (ve_fnDF O_law_draw hr rfl (pv 1) (va_cons (ve_var (pv 3)) va_nil)) (va_cons (ve_fnDF O_law_draw hr rfl (pv 1) (va_cons (ve_var (pv 3)) va_nil)) va_nil))))) ?_
  refine vss_cons (vs_if (vt_cmp (os_eq hr.units) (ve_fnDF O_law_draw hr rfl (pv 1) (va_cons (ve_const pe_int) va_nil)) (ve_const pe_int)) (vss_cons (vs_asg sc_law.nd (i := 7) rfl (by first | exact Or.inl rfl | exact Or.inr rfl) (ve_fnDF O_law_draw hr rfl (pv 1) (va_cons (ve_var (pv 3)) va_nil))) (vss_cons (vs_comp (i := 8) (own := [("a", 11)]) rfl rfl sc_law.nd rfl rfl (sw_true rfl rfl rfl (by decide +kernel)) (vi_seq (ve_var (pv 5))) (blkOk_by (N := N_law) (sc := defScope s_law) (own := [("a", 11)]) (by decide +kernel)) (fun _ _ _ _ _ => (vgc_name (pg_name (i := 11) sc_law.nd rfl (by first | exact Or.inl rfl | exact Or.inr rfl)) rfl)) (fun _ _ _ _ _ => vts_nil) (fun _ _ _ _ _ => (ve_ix (ve_ix (ve_ix (ve_var (pv 4)) (ve_const pe_int)) (ve_var (pv 7))) (ve_var (pv 11))))) (vss_cons (vs_if (vt_cmp (os_eq hr.units) (ve_fnDF O_law_draw hr rfl (pv 1) (va_cons (ve_const pe_int) va_nil)) (ve_const pe_int)) (vss_one (vs_put (i := 8) (ve_fnDF O_law_draw hr rfl (pv 1) (va_cons (ve_var (pv 3)) va_nil)) (pg_sub (pv 8) (ve_const pe_int) set_list))) vss_nil) (vss_one (vs_asg sc_law.nd (i := 6) rfl (by first | exact Or.inl rfl | exact Or.inr rfl) (ve_tup (va_cons (ve_ix (ve_var (pv 8)) (ve_const pe_int)) (va_cons (ve_ix (ve_var (pv 8)) (ve_const pe_int)) (va_cons (ve_ix (ve_var (pv 8)) (ve_const pe_int)) va_nil))))))))) vss_nil) ?_
  refine vss_cons (vs_asg sc_law.nd (i := 9) rfl (by first | exact Or.inl rfl | exact Or.inr rfl) (ve_tup (va_cons (ve_const pe_int) (va_cons (ve_const pe_int) (va_cons (ve_fnDF O_law_draw hr rfl (pv 1) (va_cons (ve_const pe_int) va_nil)) va_nil))))) ?_
  refine vss_cons (vs_for PassesOwn.never rfl (vi_seq (ve_lst (va_cons (ve_lst (va_cons (ve_var (pv 5)) (va_cons (ve_var (pv 6)) va_nil))) (va_cons (ve_lst (va_cons (ve_var (pv 6)) (va_cons (ve_var (pv 5)) va_nil))) (va_cons (ve_lst (va_cons (ve_var (pv 5)) (va_cons (ve_var (pv 9)) va_nil))) (va_cons (ve_lst (va_cons (ve_var (pv 9)) (va_cons (ve_tup (va_cons (ve_const pe_int) (va_cons (ve_const pe_int) (va_cons (ve_const pe_int) va_nil)))) va_nil))) va_nil)))))) (vg_name (pg_name (i := 10) sc_law.nd rfl (by first | exact Or.inl rfl | exact Or.inr rfl))) (vss_nrm [2, 5, 6, 7, 8, 9, 11] (vss_one (vs_if (vt_not (vt_tru (ve_fnD O_law_asked hr rfl (va_cons (ve_var (pv 4)) (va_cons (ve_var (pv 3)) (va_cons (ve_var (pv 10)) va_nil)))))) (vss_one (vs_ret (ve_const pe_bl))) vss_nil)))) ?_
  exact vss_one (vs_ret (ve_const pe_bl))
end
end Lk59

set_option Elab.async false
set_option linter.all false
set_option maxRecDepth 100000
set_option maxHeartbeats 400000
namespace Lk59
open PySem PySem.Spec PyProof.Rows L2 VL
/-- tables that are looked up by s and m -/
structure Tab (q : Nat) (S M : Tr) (rs rm : Nat → Tr) (s m : Nat → Nat → Nat) : Prop where
  lo : 2 ≤ q
  hi : q ≤ 16
  S1 : ∀ a, a < q → oIx S (.int a) = some (rs a)
  S2 : ∀ a x, a < q → x < q → oIx (rs a) (.int x) = some (.int (s a x))
  M1 : ∀ a, a < q → oIx M (.int a) = some (rm a)
  M2 : ∀ a x, a < q → x < q → oIx (rm a) (.int x) = some (.int (m a x))
  cs : ∀ a x, a < q → x < q → s a x < q
  cm : ∀ a x, a < q → x < q → m a x < q
structure Ln where
  a : Nat
  b : Nat
  c : Nat
def Ln.tr (l : Ln) : Tr := .tp [.int l.a, .int l.b, .int l.c]
def Ln.In (l : Ln) (q : Nat) : Prop := l.a < q ∧ l.b < q ∧ l.c < q
section
variable {q : Nat} {S M : Tr} {rs rm : Nat → Tr} {s m : Nat → Nat → Nat}
def val (s m : Nat → Nat → Nat) (l : Ln) (x y : Nat) : Nat := s (m l.a x) (m l.b y)
def cnd (s m : Nat → Nat → Nat) (l : Ln) (x y : Nat) : Bool := decide (((val s m l x y : Nat) : Int) = ((l.c : Nat) : Int))
/-- three look-ups -/
theorem val_run (T : Tab q S M rs rm s m) {ρ : En} {eS eM ea eb ex ey : Ex} {l : Ln} {x y : Nat} {n1 n2 k1 k2 k3 k4 : Nat} (hl : l.In q) (hx : x < q) (hy : y < q) (h1 : eS ρ = .ret (S, n1)) (h2 : eM ρ = .ret (M, n2)) (ha : ea ρ = .ret (.int l.a, k1)) (hb : eb ρ = .ret (.int l.b, k2)) (hx' : ex ρ = .ret (.int x, k3)) (hy' : ey ρ = .ret (.int y, k4)) :
    eIx (eIx eS (eIx (eIx eM ea) ex)) (eIx (eIx eM eb) ey) ρ = .ret (.int (val s m l x y), 99) := by
  have a1 := ix_run h2 ha (T.M1 l.a hl.1)
  have a2 := ix_run a1 hx' (T.M2 l.a x hl.1 hx)
  have b1 := ix_run h2 hb (T.M1 l.b hl.2.1)
  have b2 := ix_run b1 hy' (T.M2 l.b y hl.2.1 hy)
  have c1 := ix_run h1 a2 (T.S1 _ (T.cm l.a x hl.1 hx))
  exact ix_run c1 b2 (T.S2 _ _ (T.cm l.a x hl.1 hx) (T.cm l.b y hl.2.1 hy))
/-! ### the law's own pairs -/
def E9 (S M : Tr) (q : Nat) (L : List Tr) (fs : List Tr) (x y f l e : Sl) : En := [.v (.ls [S, M]) 0, .v (.int q) 0, .v (.ls L) 0, .v (.ls fs) 99, x, y, f, l, e]
def B7 : Sx := sSeq (sAsg 8 [(0, 0)] (eIx (eIx (eIx (eVar 0) (eC (.int 0))) (eIx (eIx (eIx (eVar 0) (eC (.int 1))) (eIx (eVar 7) (eC (.int 0)))) (eVar 4))) (eIx (eIx (eIx (eVar 0) (eC (.int 1))) (eIx (eVar 7) (eC (.int 1)))) (eVar 5)))) (sAsg 6 [] (eAnd (eVar 6) (eBin oEq (eVar 8) (eIx (eVar 7) (eC (.int 2))))))
def nx (x : Nat) : Sl := .v (.int x) 99
theorem b7_run (T : Tab q S M rs rm s m) {L fs : List Tr} {l : Ln} {x y : Nat} {b : Bool} {kl : Nat} {e : Sl} (hl : l.In q) (hx : x < q) (hy : y < q) :
    B7 (E9 S M q L fs (nx x) (nx y) (.v (.bl b) 99) (.v l.tr kl) e) = .ret (.nx (E9 S M q L fs (nx x) (nx y) (.v (.bl (b && cnd s m l x y)) 99) (.v l.tr kl) (nx (val s m l x y)))) := by
  have hS : eIx (eVar 0) (eC (.int 0)) (E9 S M q L fs (nx x) (nx y) (.v (.bl b) 99) (.v l.tr kl) e) = .ret (S, lvI S 0) := ix_run (x := (.ls [S, M], 0)) (y := (.int 0, 99)) rfl rfl rfl
  have hM : eIx (eVar 0) (eC (.int 1)) (E9 S M q L fs (nx x) (nx y) (.v (.bl b) 99) (.v l.tr kl) e) = .ret (M, lvI M 0) := ix_run (x := (.ls [S, M], 0)) (y := (.int 1, 99)) rfl rfl rfl
  have ha : eIx (eVar 7) (eC (.int 0)) (E9 S M q L fs (nx x) (nx y) (.v (.bl b) 99) (.v l.tr kl) e) = .ret (.int l.a, 99) := rfl
  have hb : eIx (eVar 7) (eC (.int 1)) (E9 S M q L fs (nx x) (nx y) (.v (.bl b) 99) (.v l.tr kl) e) = .ret (.int l.b, 99) := rfl
  have hv := val_run T hl hx hy hS hM ha hb (show eVar 4 (E9 S M q L fs (nx x) (nx y) (.v (.bl b) 99) (.v l.tr kl) e) = .ret (.int x, 99) from rfl) (show eVar 5 (E9 S M q L fs (nx x) (nx y) (.v (.bl b) 99) (.v l.tr kl) e) = .ret (.int y, 99) from rfl)
  unfold B7
  rw [seq_run (asg_run hv)]
  show sAsg 6 [] (eAnd (eVar 6) (eBin oEq (eVar 8) (eIx (eVar 7) (eC (.int 2))))) (E9 S M q L fs (nx x) (nx y) (.v (.bl b) 99) (.v l.tr kl) (nx (val s m l x y))) = _
  cases b with
  | false => rfl
  | true => rfl
def tp2 (x y : Nat) : Tr := .tp [.int x, .int y]
def addP (s m : Nat → Nat → Nat) (l1 l2 : Ln) (x : Nat) (fs : List Tr) (y : Nat) : List Tr := if cnd s m l1 x y && cnd s m l2 x y then fs ++ [tp2 x y] else fs
def YB : Sx := sSeq (sAsg 6 [] (eC (.bl true))) (sSeq (sFor [(2, 0)] (iSeq (eVar 2)) (gN 7) B7) (sIf (tTru (eVar 6)) (sApp 3 ([(4, 0)] ++ ([(5, 0)] ++ [])) (eTup (aCons (eVar 4) (aCons (eVar 5) aNil)))) sSkip))
theorem yb_run (T : Tab q S M rs rm s m) {l1 l2 : Ln} {fs : List Tr} {x y : Nat} {f l e : Sl} (hl1 : l1.In q) (hl2 : l2.In q) (hx : x < q) (hy : y < q) (hf : fs.length < 16777216) :
    ∃ f' l' e', YB (E9 S M q [l1.tr, l2.tr] fs (nx x) (nx y) f l e) = .ret (.nx (E9 S M q [l1.tr, l2.tr] (addP s m l1 l2 x fs y) (nx x) (nx y) f' l' e')) := by
  have h1 : sFor [(2, 0)] (iSeq (eVar 2)) (gN 7) B7 (E9 S M q [l1.tr, l2.tr] fs (nx x) (nx y) (.v (.bl true) 99) l e) = .ret (.nx (E9 S M q [l1.tr, l2.tr] fs (nx x) (nx y) (.v (.bl (cnd s m l1 x y && cnd s m l2 x y)) 99) (.v l2.tr 99) (nx (val s m l2 x y)))) := by
    show loopF (gN 7) B7 [l1.tr, l2.tr] (E9 S M q [l1.tr, l2.tr] fs (nx x) (nx y) (.v (.bl true) 99) l e) = _
    unfold loopF
    show VL.M.bind (B7 (E9 S M q [l1.tr, l2.tr] fs (nx x) (nx y) (.v (.bl true) 99) (.v l1.tr 99) e)) _ = _
    rw [b7_run T hl1 hx hy, Bool.true_and]
    show loopF (gN 7) B7 [l2.tr] (E9 S M q [l1.tr, l2.tr] fs (nx x) (nx y) (.v (.bl (cnd s m l1 x y)) 99) (.v l1.tr 99) (nx (val s m l1 x y))) = _
    unfold loopF
    show VL.M.bind (B7 (E9 S M q [l1.tr, l2.tr] fs (nx x) (nx y) (.v (.bl (cnd s m l1 x y)) 99) (.v l2.tr 99) (nx (val s m l1 x y)))) _ = _
    rw [b7_run T hl2 hx hy]
    rfl
  unfold YB
  rw [seq_run (asg_run (r := (.bl true, 99)) rfl)]
  show ∃ f' l' e', sSeq _ _ (E9 S M q [l1.tr, l2.tr] fs (nx x) (nx y) (.v (.bl true) 99) l e) = _
  rw [seq_run h1, if_run (b := cnd s m l1 x y && cnd s m l2 x y) (tru_run (k := 99) rfl)]
  unfold addP
  cases cnd s m l1 x y && cnd s m l2 x y with
  | false => exact ⟨_, _, _, rfl⟩
  | true =>
    refine ⟨.v (.bl true) 99, .v l2.tr 99, nx (val s m l2 x y), ?_⟩
    rw [if_pos rfl, if_pos rfl]
    exact app_run (r := (tp2 x y, 99)) rfl rfl (Nat.ble_eq_true_of_le hf)
def XB : Sx := sFor [] (iRng1 (eVar 1)) (gN 5) YB
theorem xb_run (T : Tab q S M rs rm s m) {l1 l2 : Ln} {fs : List Tr} {x : Nat} {y f l e : Sl} (hl1 : l1.In q) (hl2 : l2.In q) (hx : x < q) (hf : fs.length + 16 < 16777216) :
    ∃ y' f' l' e', XB (E9 S M q [l1.tr, l2.tr] fs (nx x) y f l e) = .ret (.nx (E9 S M q [l1.tr, l2.tr] ((List.range q).foldl (addP s m l1 l2 x) fs) (nx x) y' f' l' e')) := by
  have hr : iRng1 (eVar 1) (E9 S M q [l1.tr, l2.tr] fs (nx x) y f l e) = .ret (VL.rangeT 0 (q : Int), 99) := rng_run (k := 99) rfl (by have := T.hi; omega)
  obtain ⟨ρ', h1, h2, y', f', l', e', h3⟩ := for_ix (R := fun i (gs : List Tr) ρ => gs.length ≤ fs.length + i ∧ ∃ y' f' l' e', ρ = E9 S M q [l1.tr, l2.tr] gs (nx x) y' f' l' e') (rd := []) (g := gN 5) (body := YB) (step := fun gs t => match t with
    | .int i => addP s m l1 l2 x gs i.toNat
    | _ => gs) (a := fs) hr ⟨Nat.le_refl _, y, f, l, e, rfl⟩ (fun i t ht gs ρ hR => by
      obtain ⟨hi, rfl⟩ := range_at ht
      obtain ⟨hlen, y1, f1, l1', e1, rfl⟩ := hR
      have hq := T.hi
      obtain ⟨f2, l2', e2, hy⟩ := yb_run T (fs := gs) (x := x) (y := i) (f := f1) (l := l1') (e := e1) hl1 hl2 hx hi (by omega)
      refine ⟨E9 S M q [l1.tr, l2.tr] gs (nx x) (nx i) f1 l1' e1, rfl, _, hy, ?_, _, _, _, _, rfl⟩
      show (addP s m l1 l2 x gs i).length ≤ _
      unfold addP
      split
      · rw [List.length_append]; show gs.length + 1 ≤ _; omega
      · omega)
  refine ⟨y', f', l', e', ?_⟩
  unfold XB
  rw [h1, h3]
  have ef := range_fold (f := fun gs t => match t with
    | .int i => addP s m l1 l2 x gs i.toNat
    | _ => gs) (g := addP s m l1 l2 x) (fun gs i => rfl) q fs
  rw [ef]
theorem addP_len {l1 l2 : Ln} {x : Nat} : ∀ {ys : List Nat} {fs : List Tr}, (ys.foldl (addP s m l1 l2 x) fs).length ≤ fs.length + ys.length
  | [], fs => Nat.le_refl _
  | y :: ys, fs => by
    rw [List.foldl_cons]
    refine Nat.le_trans addP_len ?_
    unfold addP
    split
    · rw [List.length_append]; show fs.length + 1 + ys.length ≤ fs.length + (ys.length + 1); omega
    · show fs.length + ys.length ≤ fs.length + (ys.length + 1); omega
def solsF (s m : Nat → Nat → Nat) (q : Nat) (l1 l2 : Ln) : List Tr := (List.range q).foldl (fun fs x => (List.range q).foldl (addP s m l1 l2 x) fs) []
theorem pairs_run (T : Tab q S M rs rm s m) {l1 l2 : Ln} (hl1 : l1.In q) (hl2 : l2.In q) : f_law_pairs [.ls [S, M], .int q, .ls [l1.tr, l2.tr]] = .ret (.ls (solsF s m q l1 l2), 99) := by
  have hq := T.hi
  have hr : iRng1 (eVar 1) (E9 S M q [l1.tr, l2.tr] [] .no .no .no .no .no) = .ret (VL.rangeT 0 (q : Int), 99) := rng_run (k := 99) rfl (by omega)
  obtain ⟨ρ', h1, h2, x', y', f', l', e', h3⟩ := for_ix (R := fun i (gs : List Tr) ρ => gs.length ≤ 16 * i ∧ ∃ x' y' f' l' e', ρ = E9 S M q [l1.tr, l2.tr] gs x' y' f' l' e') (rd := []) (g := gN 4) (body := XB) (step := fun gs t => match t with
    | .int i => (List.range q).foldl (addP s m l1 l2 i.toNat) gs
    | _ => gs) (a := []) hr ⟨Nat.le_refl _, .no, .no, .no, .no, .no, rfl⟩ (fun i t ht gs ρ hR => by
      obtain ⟨hi, rfl⟩ := range_at ht
      obtain ⟨hlen, x1, y1, f1, l1', e1, rfl⟩ := hR
      obtain ⟨y2, f2, l2', e2, hy⟩ := xb_run T (fs := gs) (x := i) (y := y1) (f := f1) (l := l1') (e := e1) hl1 hl2 hi (by omega)
      refine ⟨E9 S M q [l1.tr, l2.tr] gs (nx i) y1 f1 l1' e1, rfl, _, hy, ?_, _, _, _, _, _, rfl⟩
      have h5 := addP_len (s := s) (m := m) (l1 := l1) (l2 := l2) (x := i) (ys := List.range q) (fs := gs)
      rw [List.length_range] at h5
      show ((List.range q).foldl (addP s m l1 l2 i) gs).length ≤ _
      omega)
  have ef := range_fold (f := fun gs t => match t with
    | .int i => (List.range q).foldl (addP s m l1 l2 i.toNat) gs
    | _ => gs) (g := fun gs x => (List.range q).foldl (addP s m l1 l2 x) gs) (fun gs i => rfl) q []
  rw [h3] at h1
  simp only [ef] at h1
  have hb : b_law_pairs (E9 S M q [l1.tr, l2.tr] [] .no .no .no .no .no) = .ret (.rt (.ls (solsF s m q l1 l2)) 99) := by
    unfold b_law_pairs
    rw [seq_run (asg_run (r := (.ls [], 99)) rfl)]
    show sSeq (sFor [] (iRng1 (eVar 1)) (gN 4) XB) (sRetV 3) (E9 S M q [l1.tr, l2.tr] [] .no .no .no .no .no) = _
    rw [seq_run h1]
    rfl
  show (b_law_pairs [.v (.ls [S, M]) 0, .v (.int q) 0, .v (.ls [l1.tr, l2.tr]) 0, .no, .no, .no, .no, .no, .no]).bind outF = _
  have hb' : b_law_pairs [.v (.ls [S, M]) 0, .v (.int q) 0, .v (.ls [l1.tr, l2.tr]) 0, .no, .no, .no, .no, .no, .no] = .ret (.rt (.ls (solsF s m q l1 l2)) 99) := by
    rw [← hb]
    rfl
  rw [hb']
  rfl
end
end Lk59

set_option Elab.async false
set_option linter.all false
set_option maxRecDepth 100000
set_option maxHeartbeats 400000
namespace Lk59
open PySem PySem.Spec PyProof.Rows L2 VL
section
variable {q : Nat} {S M : Tr} {rs rm : Nat → Tr} {s m : Nat → Nat → Nat}
/-! ### the program's own solutions -/
def E10 (S M : Tr) (kS kM : Nat) (q : Nat) (L : List Tr) (fs : List Tr) (x y : Sl) : En := [.v (.int q) 0, .v (.ls L) 0, .v S kS, .v M kM, .v (.ls fs) 99, x, y, .no, .no, .no]
def Ew (S M : Tr) (q : Nat) (L : List Tr) (fs : List Tr) (x y : Nat) (a b c : Sl) : En := [.v (.int q) 0, .v (.ls L) 0, .v S 0, .v M 0, .v (.ls fs) 0, .v (.int x) 0, .v (.int y) 0, a, b, c]
def VX : Ex := eBin oEq (eIx (eIx (eVar 2) (eIx (eIx (eVar 3) (eVar 7)) (eVar 5))) (eIx (eIx (eVar 3) (eVar 8)) (eVar 6))) (eVar 9)
def GX : Gx := gT 3 (gsC (gN 7) (gsC (gN 8) (gsC (gN 9) gsN)))
theorem vx_run (T : Tab q S M rs rm s m) {L fs : List Tr} {l : Ln} {x y : Nat} (hl : l.In q) (hx : x < q) (hy : y < q) : VX (Ew S M q L fs x y (nx l.a) (nx l.b) (nx l.c)) = .ret (.bl (cnd s m l x y), 99) := by
  have hv := val_run T (ρ := Ew S M q L fs x y (nx l.a) (nx l.b) (nx l.c)) (eS := eVar 2) (eM := eVar 3) (ea := eVar 7) (eb := eVar 8) (ex := eVar 5) (ey := eVar 6) hl hx hy rfl rfl rfl rfl rfl rfl
  exact bin_run hv (show eVar 9 (Ew S M q L fs x y (nx l.a) (nx l.b) (nx l.c)) = .ret (.int l.c, 99) from rfl) rfl
theorem cp_run (T : Tab q S M rs rm s m) {fs : List Tr} {l1 l2 : Ln} {x y kS kM : Nat} (hl1 : l1.In q) (hl2 : l2.In q) (hx : x < q) (hy : y < q) : eComp (iSeq (eVar 1)) [7, 8, 9] GX tYesV VX (E10 S M kS kM q [l1.tr, l2.tr] fs (nx x) (nx y)) = .ret (.ls [.bl (cnd s m l1 x y), .bl (cnd s m l2 x y)], 99) := by
  have hw : wipeE [7, 8, 9] (E10 S M kS kM q [l1.tr, l2.tr] fs (nx x) (nx y)) = Ew S M q [l1.tr, l2.tr] fs x y .no .no .no := rfl
  have h2 : compL GX tYesV VX (Ew S M q [l1.tr, l2.tr] fs x y .no .no .no) [l1.tr, l2.tr] = .ret ([.bl (cnd s m l1 x y), .bl (cnd s m l2 x y)], true) := by
    unfold compL
    show VL.M.bind (VX (Ew S M q [l1.tr, l2.tr] fs x y (nx l1.a) (nx l1.b) (nx l1.c))) _ = _
    rw [vx_run T hl1 hx hy]
    show VL.M.bind (compL GX tYesV VX (Ew S M q [l1.tr, l2.tr] fs x y .no .no .no) [l2.tr]) _ = _
    have h3 : compL GX tYesV VX (Ew S M q [l1.tr, l2.tr] fs x y .no .no .no) [l2.tr] = .ret ([.bl (cnd s m l2 x y)], true) := by
      unfold compL
      show VL.M.bind (VX (Ew S M q [l1.tr, l2.tr] fs x y (nx l2.a) (nx l2.b) (nx l2.c))) _ = _
      rw [vx_run T hl2 hx hy]
      rfl
    rw [h3]
    rfl
  exact comp_run (r := ([l1.tr, l2.tr], 0)) (d := true) rfl rfl (by rw [hw]; exact h2)
def SB : Sx := sIf (tTru (eCall fAll (aCons (eComp (iSeq (eVar 1)) [7, 8, 9] GX tYesV VX) aNil))) (sApp 4 ([(5, 0)] ++ ([(6, 0)] ++ [])) (eTup (aCons (eVar 5) (aCons (eVar 6) aNil)))) sSkip
theorem sb_run (T : Tab q S M rs rm s m) {fs : List Tr} {l1 l2 : Ln} {x y kS kM : Nat} (hl1 : l1.In q) (hl2 : l2.In q) (hx : x < q) (hy : y < q) (hf : fs.length < 16777216) :
    SB (E10 S M kS kM q [l1.tr, l2.tr] fs (nx x) (nx y)) = .ret (.nx (E10 S M kS kM q [l1.tr, l2.tr] (addP s m l1 l2 x fs y) (nx x) (nx y))) := by
  have hc := cp_run T (fs := fs) (kS := kS) (kM := kM) hl1 hl2 hx hy
  have ha : eCall fAll (aCons (eComp (iSeq (eVar 1)) [7, 8, 9] GX tYesV VX) aNil) (E10 S M kS kM q [l1.tr, l2.tr] fs (nx x) (nx y)) = .ret (.bl (cnd s m l1 x y && cnd s m l2 x y), 99) := call_run (cons_run hc (r := aNil) (y := ([], true)) rfl) (by
    cases cnd s m l1 x y <;> cases cnd s m l2 x y <;> rfl)
  unfold SB
  rw [if_run (tru_run ha)]
  unfold addP
  cases cnd s m l1 x y && cnd s m l2 x y with
  | false => rfl
  | true =>
    rw [if_pos rfl, if_pos rfl]
    exact app_run (r := (tp2 x y, 99)) rfl rfl (Nat.ble_eq_true_of_le hf)
def SX : Sx := sFor [] (iRng1 (eVar 0)) (gN 6) SB
theorem sx_run (T : Tab q S M rs rm s m) {fs : List Tr} {l1 l2 : Ln} {x kS kM : Nat} {y : Sl} (hl1 : l1.In q) (hl2 : l2.In q) (hx : x < q) (hf : fs.length + 16 < 16777216) :
    ∃ y', SX (E10 S M kS kM q [l1.tr, l2.tr] fs (nx x) y) = .ret (.nx (E10 S M kS kM q [l1.tr, l2.tr] ((List.range q).foldl (addP s m l1 l2 x) fs) (nx x) y')) := by
  have hq := T.hi
  have hr : iRng1 (eVar 0) (E10 S M kS kM q [l1.tr, l2.tr] fs (nx x) y) = .ret (VL.rangeT 0 (q : Int), 99) := rng_run (k := 99) rfl (by omega)
  obtain ⟨ρ', h1, h2, y', h3⟩ := for_ix (R := fun i (gs : List Tr) ρ => gs.length ≤ fs.length + i ∧ ∃ y', ρ = E10 S M kS kM q [l1.tr, l2.tr] gs (nx x) y') (rd := []) (g := gN 6) (body := SB) (step := fun gs t => match t with
    | .int i => addP s m l1 l2 x gs i.toNat
    | _ => gs) (a := fs) hr ⟨Nat.le_refl _, y, rfl⟩ (fun i t ht gs ρ hR => by
      obtain ⟨hi, rfl⟩ := range_at ht
      obtain ⟨hlen, y1, rfl⟩ := hR
      refine ⟨E10 S M kS kM q [l1.tr, l2.tr] gs (nx x) (nx i), rfl, _, sb_run T hl1 hl2 hx hi (by omega), ?_, _, rfl⟩
      show (addP s m l1 l2 x gs i).length ≤ _
      unfold addP
      split
      · rw [List.length_append]; show gs.length + 1 ≤ _; omega
      · omega)
  refine ⟨y', ?_⟩
  unfold SX
  have ef := range_fold (f := fun gs t => match t with
    | .int i => addP s m l1 l2 x gs i.toNat
    | _ => gs) (g := addP s m l1 l2 x) (fun gs i => rfl) q fs
  rw [h1, h3]
  simp only [ef]
theorem solve_run (T : Tab q S M rs rm s m) {l1 l2 : Ln} {kf : Nat} (hF : f_field_of [.int q] = .ret (.tp [S, M], kf)) (hl1 : l1.In q) (hl2 : l2.In q) : f_solve_two [.int q, .ls [l1.tr, l2.tr]] = .ret (.ls (solsF s m q l1 l2), 99) := by
  have hq := T.hi
  have hr : iRng1 (eVar 0) (E10 S M (lv0 S) (lv0 M) q [l1.tr, l2.tr] [] .no .no) = .ret (VL.rangeT 0 (q : Int), 99) := rng_run (k := 99) rfl (by omega)
  obtain ⟨ρ', h1, h2, x', y', h3⟩ := for_ix (R := fun i (gs : List Tr) ρ => gs.length ≤ 16 * i ∧ ∃ x' y', ρ = E10 S M (lv0 S) (lv0 M) q [l1.tr, l2.tr] gs x' y') (rd := []) (g := gN 5) (body := SX) (step := fun gs t => match t with
    | .int i => (List.range q).foldl (addP s m l1 l2 i.toNat) gs
    | _ => gs) (a := []) hr ⟨Nat.le_refl _, .no, .no, rfl⟩ (fun i t ht gs ρ hR => by
      obtain ⟨hi, rfl⟩ := range_at ht
      obtain ⟨hlen, x1, y1, rfl⟩ := hR
      obtain ⟨y2, hy⟩ := sx_run T (fs := gs) (x := i) (y := y1) (kS := lv0 S) (kM := lv0 M) hl1 hl2 hi (by omega)
      refine ⟨E10 S M (lv0 S) (lv0 M) q [l1.tr, l2.tr] gs (nx i) y1, rfl, _, hy, ?_, _, _, rfl⟩
      have h5 := addP_len (s := s) (m := m) (l1 := l1) (l2 := l2) (x := i) (ys := List.range q) (fs := gs)
      rw [List.length_range] at h5
      show ((List.range q).foldl (addP s m l1 l2 i) gs).length ≤ _
      omega)
  have ef := range_fold (f := fun gs t => match t with
    | .int i => (List.range q).foldl (addP s m l1 l2 i.toNat) gs
    | _ => gs) (g := fun gs x => (List.range q).foldl (addP s m l1 l2 x) gs) (fun gs i => rfl) q []
  rw [h3] at h1
  simp only [ef] at h1
  have h0 : sAsgG ([(0, 0)] ++ []) (gT 2 (gsC (gN 2) (gsC (gN 3) gsN))) (eFn 1 f_field_of (aCons (eVar 0) aNil)) [.v (.int q) 0, .v (.ls [l1.tr, l2.tr]) 0, .no, .no, .no, .no, .no, .no, .no, .no] = .ret (.nx [.v (.int q) 0, .v (.ls [l1.tr, l2.tr]) 0, .v S (lv0 S), .v M (lv0 M), .no, .no, .no, .no, .no, .no]) := by
    have e := eFn_run (n := 1) (a := aCons (eVar 0) aNil) (ρ := [.v (.int q) 0, .v (.ls [l1.tr, l2.tr]) 0, .no, .no, .no, .no, .no, .no, .no, .no]) (ts := [.int q]) (b := true) rfl rfl hF
    have el : lowIf kf ([(0, 0)] ++ []) [.v (.int q) 0, .v (.ls [l1.tr, l2.tr]) 0, .no, .no, .no, .no, .no, .no, .no, .no] = [.v (.int q) 0, .v (.ls [l1.tr, l2.tr]) 0, .no, .no, .no, .no, .no, .no, .no, .no] := by
      unfold lowIf
      split <;> rfl
    exact asgG_run e (by rw [el]; rfl)
  have hb : b_solve_two [.v (.int q) 0, .v (.ls [l1.tr, l2.tr]) 0, .no, .no, .no, .no, .no, .no, .no, .no] = .ret (.rt (.ls (solsF s m q l1 l2)) 99) := by
    unfold b_solve_two
    rw [seq_run h0, seq_run (asg_run (r := (.ls [], 99)) rfl)]
    show sSeq (sFor [] (iRng1 (eVar 0)) (gN 5) SX) (sRetV 4) (E10 S M (lv0 S) (lv0 M) q [l1.tr, l2.tr] [] .no .no) = _
    rw [seq_run h1]
    rfl
  show (b_solve_two [.v (.int q) 0, .v (.ls [l1.tr, l2.tr]) 0, .no, .no, .no, .no, .no, .no, .no, .no]).bind outF = _
  rw [hb]
  rfl
end
end Lk59

set_option Elab.async false
set_option linter.all false
set_option maxRecDepth 100000
set_option maxHeartbeats 400000
namespace Lk59
open PySem PySem.Spec PyProof.Rows L2 VL
/-! ### _law_same of a thing with itself -/
inductive Sm : Nat → Tr → Prop where
  | int (n : Nat) (i : Int) : Sm (n + 1) (.int i)
  | tp (n : Nat) (ts : List Tr) (hl : ts.length ≤ 1000000) (h : ∀ t ∈ ts, Sm n t) : Sm (n + 1) (.tp ts)
  | ls (n : Nat) (ts : List Tr) (hl : ts.length ≤ 1000000) (h : ∀ t ∈ ts, Sm n t) : Sm (n + 1) (.ls ts)
theorem bls_true {α : Type} : ∀ l : List α, blsT (l.map fun _ => Tr.bl true) = some (l.map fun _ => true)
  | [] => rfl
  | x :: l => by
    show (blsT (l.map fun _ => Tr.bl true)).map (true :: ·) = _
    rw [bls_true l]; rfl
theorem all_true {α : Type} (l : List α) : fAll [.ls (l.map fun _ => Tr.bl true)] = some (.bl true) := by
  show (blsT (l.map fun _ => Tr.bl true)).map (fun bs => Tr.bl (bs.all id)) = _
  rw [bls_true]
  show some (Tr.bl ((l.map fun _ => true).all id)) = _
  have e : (l.map fun _ => true).all id = true := by
    rw [List.all_map]
    exact List.all_eq_true.mpr fun _ _ => rfl
  rw [e]
def CX (rc : VL.Fn) : Ex := eFn 2 rc (aCons (eIx (eVar 0) (eVar 2)) (aCons (eIx (eVar 1) (eVar 2)) aNil))
theorem all_run {rc : VL.Fn} {t : Tr} {ts : List Tr} (hlen : fLen [t] = some (.int ts.length)) (hat : ∀ k : Nat, ∀ x, ts[k]? = some x → oIx t (.int k) = some x) (hl : ts.length ≤ 1000000) (h : ∀ x ∈ ts, rc [x, x] = .ret (.bl true, 99)) :
    eCall fAll (aCons (eComp (iRng1 (eCall fLen (aCons (eVar 1) aNil))) [2] (gN 2) tYesV (CX rc)) aNil) [.v t 0, .v t 0, .no] = .ret (.bl true, 99) := by
  have hr : iRng1 (eCall fLen (aCons (eVar 1) aNil)) [.v t 0, .v t 0, .no] = .ret (VL.rangeT 0 (ts.length : Int), 99) := rng_run (k := 99) (call_run (ts := [t]) (b := Nat.ble 99 (lv0 t) && true) rfl hlen) hl
  have hc := comp_map (vs := [2]) (g := gN 2) (te := CX rc) (f := fun _ => Tr.bl true) hr (by
    unfold lenOk
    rw [range_len]
    exact Nat.ble_eq_true_of_le (Nat.le_trans hl (by decide))) (fun u hu => by
    obtain ⟨k, hk⟩ := List.getElem?_of_mem hu
    obtain ⟨hkl, rfl⟩ := range_at hk
    have hx : ts[k]? = some ts[k] := List.getElem?_eq_getElem hkl
    refine ⟨[.v t 0, .v t 0, .v (.int k) 99], rfl, ?_⟩
    have i1 : eIx (eVar 0) (eVar 2) [.v t 0, .v t 0, .v (.int k) 99] = .ret (ts[k], lvI ts[k] (lv0 t)) := ix_run (x := (t, lv0 t)) (y := (.int k, 99)) rfl rfl (hat k _ hx)
    have i2 : eIx (eVar 1) (eVar 2) [.v t 0, .v t 0, .v (.int k) 99] = .ret (ts[k], lvI ts[k] (lv0 t)) := ix_run (x := (t, lv0 t)) (y := (.int k, 99)) rfl rfl (hat k _ hx)
    exact eFn_run (n := 2) (cons_run i1 (cons_run (r := aNil) (y := ([], true)) i2 rfl)) rfl (h _ (List.getElem_mem hkl)))
  exact call_run (cons_run hc (r := aNil) (y := ([], true)) rfl) (all_true _)
theorem same_refl : ∀ {n : Nat} {t : Tr}, Sm n t → g_law_same n [t, t] = .ret (.bl true, 99)
  | _, _, .int n i => by
    have e : b_law_same (g_law_same n) [.v (.int i) 0, .v (.int i) 0, .no] = .ret (.rt (.bl (decide (i = i))) 99) := rfl
    show (b_law_same (g_law_same n) [.v (.int i) 0, .v (.int i) 0, .no]).bind outF = _
    rw [e, decide_eq_true rfl]
    rfl
  | _, _, .tp n ts hl h => by
    have h1 := all_run (rc := g_law_same n) (t := .tp ts) (ts := ts) rfl (fun k x hx => atI_nat hx) hl fun x hx => same_refl (h x hx)
    have c : VL.tOr (tNt (tTru (eIsi .tuple (eVar 0)))) (VL.tB (eBin oNe (eCall fLen (aCons (eVar 0) aNil)) (eCall fLen (aCons (eVar 1) aNil)))) [.v (.tp ts) 0, .v (.tp ts) 0, .no] = .ret false := by
      show VL.M.ret (!decide (((ts.length : Nat) : Int) = ((ts.length : Nat) : Int))) = _
      rw [decide_eq_true rfl]; rfl
    have hb : b_law_same (g_law_same n) [.v (.tp ts) 0, .v (.tp ts) 0, .no] = .ret (.rt (.bl true) 99) := by
      unfold b_law_same
      rw [if_skip (show tTru (eIsi .list (eVar 1)) [.v (.tp ts) 0, .v (.tp ts) 0, .no] = .ret false from rfl)]
      exact seq_rt ((if_then (show tTru (eIsi .tuple (eVar 1)) [.v (.tp ts) 0, .v (.tp ts) 0, .no] = .ret true from rfl)).trans ((if_skip c).trans (ret_run h1)))
    show (b_law_same (g_law_same n) [.v (.tp ts) 0, .v (.tp ts) 0, .no]).bind outF = _
    rw [hb]
    rfl
  | _, _, .ls n ts hl h => by
    have h1 := all_run (rc := g_law_same n) (t := .ls ts) (ts := ts) rfl (fun k x hx => atI_nat hx) hl fun x hx => same_refl (h x hx)
    have c : VL.tOr (tNt (tTru (eIsi .list (eVar 0)))) (VL.tB (eBin oNe (eCall fLen (aCons (eVar 0) aNil)) (eCall fLen (aCons (eVar 1) aNil)))) [.v (.ls ts) 0, .v (.ls ts) 0, .no] = .ret false := by
      show VL.M.ret (!decide (((ts.length : Nat) : Int) = ((ts.length : Nat) : Int))) = _
      rw [decide_eq_true rfl]; rfl
    have hb : b_law_same (g_law_same n) [.v (.ls ts) 0, .v (.ls ts) 0, .no] = .ret (.rt (.bl true) 99) := by
      unfold b_law_same
      exact seq_rt ((if_then (show tTru (eIsi .list (eVar 1)) [.v (.ls ts) 0, .v (.ls ts) 0, .no] = .ret true from rfl)).trans ((if_skip c).trans (ret_run h1)))
    show (b_law_same (g_law_same n) [.v (.ls ts) 0, .v (.ls ts) 0, .no]).bind outF = _
    rw [hb]
    rfl
end Lk59

set_option Elab.async false
set_option linter.all false
set_option maxRecDepth 100000
set_option maxHeartbeats 400000
namespace Lk59
open PySem PySem.Spec PyProof.Rows L2 VL
section
variable {q : Nat} {S M : Tr} {rs rm : Nat → Tr} {s m : Nat → Nat → Nat}
def isP (t : Tr) : Prop := ∃ x y : Nat, t = tp2 x y
theorem fold_isP {l1 l2 : Ln} {x : Nat} : ∀ {ys : List Nat} {fs : List Tr}, (∀ t ∈ fs, isP t) → ∀ t ∈ ys.foldl (addP s m l1 l2 x) fs, isP t
  | [], _, h => h
  | y :: ys, fs, h => by
    rw [List.foldl_cons]
    refine fold_isP ?_
    unfold addP
    split
    · intro t ht
      rcases List.mem_append.mp ht with ht | ht
      · exact h t ht
      · rw [List.mem_singleton.mp ht]; exact ⟨x, y, rfl⟩
    · exact h
theorem fold2_isP {l1 l2 : Ln} {zs : List Nat} : ∀ {xs : List Nat} {fs : List Tr}, (∀ t ∈ fs, isP t) → ∀ t ∈ xs.foldl (fun fs x => zs.foldl (addP s m l1 l2 x) fs) fs, isP t
  | [], _, h => h
  | x :: xs, fs, h => by
    rw [List.foldl_cons]
    exact fold2_isP (fold_isP h)
theorem sols_isP {l1 l2 : Ln} : ∀ t ∈ solsF s m q l1 l2, isP t := fold2_isP fun t h => (nomatch h)
theorem fold2_len {l1 l2 : Ln} {zs : List Nat} : ∀ {xs : List Nat} {fs : List Tr}, (xs.foldl (fun fs x => zs.foldl (addP s m l1 l2 x) fs) fs).length ≤ fs.length + xs.length * zs.length
  | [], fs => by show fs.length ≤ _; omega
  | x :: xs, fs => by
    rw [List.foldl_cons]
    refine Nat.le_trans fold2_len ?_
    have := addP_len (s := s) (m := m) (l1 := l1) (l2 := l2) (x := x) (ys := zs) (fs := fs)
    rw [List.length_cons, Nat.add_mul, Nat.one_mul]
    omega
theorem sols_len {l1 l2 : Ln} : (solsF s m q l1 l2).length ≤ q * q := by
  have := fold2_len (s := s) (m := m) (l1 := l1) (l2 := l2) (zs := List.range q) (xs := List.range q) (fs := [])
  rw [List.length_range, List.length_nil, Nat.zero_add] at this
  exact this
theorem sm_p {t : Tr} (h : isP t) (n : Nat) : Sm (n + 2) t := by
  obtain ⟨x, y, rfl⟩ := h
  exact .tp (n + 1) _ (by show 2 ≤ 1000000; omega) fun u hu => by
    simp only [List.mem_cons, List.not_mem_nil, or_false] at hu
    rcases hu with rfl | rfl <;> exact .int n _
theorem sm_l (l : Ln) (n : Nat) : Sm (n + 2) l.tr := .tp (n + 1) _ (by show 3 ≤ 1000000; omega) fun u hu => by
  simp only [List.mem_cons, List.not_mem_nil, or_false] at hu
  rcases hu with rfl | rfl | rfl <;> exact .int n _
theorem oMulG_int {i j : Int} (h : small i = true) : oMulG (.int i) (.int j) = some (.int (i * j), 99) := by
  show (if (small i || small j) = true then some (Tr.int (i * j), 99) else none) = _
  rw [h]; rfl
/-- what the counts of solutions must be -/
def Cnt (s m : Nat → Nat → Nat) (q : Nat) (l1 l2 : Ln) : Prop := (m l1.a l2.b ≠ m l1.b l2.a → (solsF s m q l1 l2).length = 1) ∧ (m l1.a l2.b = m l1.b l2.a → (solsF s m q l1 l2).length = 0 ∨ (solsF s m q l1 l2).length = q ∨ (solsF s m q l1 l2).length = q * q)
def EA (T : Tr) (q : Nat) (L : List Tr) (d g t a b : Sl) : En := [.v T 0, .v (.int q) 0, .v (.ls L) 0, d, g, t, a, b]
theorem asked_run (T : Tab q S M rs rm s m) {l1 l2 : Ln} {kf : Nat} (hF : f_field_of [.int q] = .ret (.tp [S, M], kf)) (hl1 : l1.In q) (hl2 : l2.In q) (hC : Cnt s m q l1 l2) : f_law_asked [.ls [S, M], .int q, .ls [l1.tr, l2.tr]] = .ret (.bl true, 99) := by
  have hq := T.hi
  have hp := pairs_run T hl1 hl2
  have hs := solve_run T hF hl1 hl2
  have hqq : q * q ≤ 256 := Nat.mul_le_mul hq hq
  have hlen := sols_len (s := s) (m := m) (q := q) (l1 := l1) (l2 := l2)
  have hsame : f_law_same [.ls (solsF s m q l1 l2), .ls (solsF s m q l1 l2)] = .ret (.bl true, 99) := same_refl (n := 6) (.ls 5 _ (by omega) fun t ht => sm_p (sols_isP t ht) 3)
  have hsame2 : f_law_same [.ls [l1.tr, l2.tr], .ls [l1.tr, l2.tr]] = .ret (.bl true, 99) := same_refl (n := 6) (.ls 5 _ (by show 2 ≤ 1000000; omega) fun t ht => by
    simp only [List.mem_cons, List.not_mem_nil, or_false] at ht
    rcases ht with rfl | rfl
    · exact sm_l _ 3
    · exact sm_l _ 3)
  generalize eF : solsF s m q l1 l2 = F at hp hs hlen hsame hC
  have hC : (m l1.a l2.b ≠ m l1.b l2.a → F.length = 1) ∧ (m l1.a l2.b = m l1.b l2.a → F.length = 0 ∨ F.length = q ∨ F.length = q * q) := by rw [← eF]; exact hC
  have hb : b_law_asked (EA (.ls [S, M]) q [l1.tr, l2.tr] .no .no .no .no .no) = .ret (.rt (.bl true) 99) := by
    unfold b_law_asked
    have a1 := eFn_run (n := 3) (a := aCons (eVar 0) (aCons (eVar 1) (aCons (eVar 2) aNil))) (ρ := EA (.ls [S, M]) q [l1.tr, l2.tr] .no .no .no .no .no) (ts := [.ls [S, M], .int q, .ls [l1.tr, l2.tr]]) (b := false) rfl rfl hp
    rw [seq_run (asg_run a1)]
    show sSeq _ _ (EA (.ls [S, M]) q [l1.tr, l2.tr] (.v (.ls F) 99) .no .no .no .no) = _
    rw [seq_run (asg_run (r := (.ls [l1.tr, l2.tr], 99)) rfl)]
    show sSeq _ _ (EA (.ls [S, M]) q [l1.tr, l2.tr] (.v (.ls F) 99) (.v (.ls [l1.tr, l2.tr]) 99) .no .no .no) = _
    have a2 := eFn_run (n := 2) (a := aCons (eVar 1) (aCons (eVar 4) aNil)) (ρ := EA (.ls [S, M]) q [l1.tr, l2.tr] (.v (.ls F) 99) (.v (.ls [l1.tr, l2.tr]) 99) .no .no .no) (ts := [.int q, .ls [l1.tr, l2.tr]]) (b := false) rfl rfl hs
    rw [seq_run (asg_run a2)]
    show sSeq _ _ (EA (.ls [S, M]) q [l1.tr, l2.tr] (.v (.ls F) 99) (.v (.ls [l1.tr, l2.tr]) 99) (.v (.ls F) 99) .no .no) = _
    have s1 := eFn_run (n := 2) (a := aCons (eVar 5) (aCons (eVar 3) aNil)) (ρ := EA (.ls [S, M]) q [l1.tr, l2.tr] (.v (.ls F) 99) (.v (.ls [l1.tr, l2.tr]) 99) (.v (.ls F) 99) .no .no) (ts := [.ls F, .ls F]) (b := Nat.ble 99 (lv0 (.ls F)) && (Nat.ble 99 (lv0 (.ls F)) && true)) rfl rfl hsame
    have s2 := eFn_run (n := 2) (a := aCons (eVar 4) (aCons (eVar 2) aNil)) (ρ := EA (.ls [S, M]) q [l1.tr, l2.tr] (.v (.ls F) 99) (.v (.ls [l1.tr, l2.tr]) 99) (.v (.ls F) 99) .no .no) (ts := [.ls [l1.tr, l2.tr], .ls [l1.tr, l2.tr]]) (b := false) rfl rfl hsame2
    have c1 : VL.tOr (tNt (tTru (eFn 2 f_law_same (aCons (eVar 5) (aCons (eVar 3) aNil))))) (tNt (tTru (eFn 2 f_law_same (aCons (eVar 4) (aCons (eVar 2) aNil))))) (EA (.ls [S, M]) q [l1.tr, l2.tr] (.v (.ls F) 99) (.v (.ls [l1.tr, l2.tr]) 99) (.v (.ls F) 99) .no .no) = .ret false := by
      exact (or_run (not_run (tru_run s1))).trans (not_run (tru_run s2))
    rw [if_skip c1, seq_run (asg_run (r := (l1.tr, 99)) rfl)]
    show sSeq _ _ (EA (.ls [S, M]) q [l1.tr, l2.tr] (.v (.ls F) 99) (.v (.ls [l1.tr, l2.tr]) 99) (.v (.ls F) 99) (.v l1.tr 99) .no) = _
    rw [seq_run (asg_run (r := (l2.tr, 99)) rfl)]
    show sSeq _ _ (EA (.ls [S, M]) q [l1.tr, l2.tr] (.v (.ls F) 99) (.v (.ls [l1.tr, l2.tr]) 99) (.v (.ls F) 99) (.v l1.tr 99) (.v l2.tr 99)) = _
    generalize eρ : EA (.ls [S, M]) q [l1.tr, l2.tr] (.v (.ls F) 99) (.v (.ls [l1.tr, l2.tr]) 99) (.v (.ls F) 99) (.v l1.tr 99) (.v l2.tr 99) = ρ
    have hM : eIx (eVar 0) (eC (.int 1)) ρ = .ret (M, lvI M 0) := by rw [← eρ]; exact ix_run (x := (.ls [S, M], 0)) (y := (.int 1, 99)) rfl rfl rfl
    have g1 : eIx (eVar 6) (eC (.int 0)) ρ = .ret (.int l1.a, 99) := by rw [← eρ]; rfl
    have g2 : eIx (eVar 6) (eC (.int 1)) ρ = .ret (.int l1.b, 99) := by rw [← eρ]; rfl
    have g3 : eIx (eVar 7) (eC (.int 0)) ρ = .ret (.int l2.a, 99) := by rw [← eρ]; rfl
    have g4 : eIx (eVar 7) (eC (.int 1)) ρ = .ret (.int l2.b, 99) := by rw [← eρ]; rfl
    have d1 := ix_run (ix_run hM g1 (T.M1 l1.a hl1.1)) g4 (T.M2 l1.a l2.b hl1.1 hl2.2.1)
    have d2 := ix_run (ix_run hM g2 (T.M1 l1.b hl1.2.1)) g3 (T.M2 l1.b l2.a hl1.2.1 hl2.1)
    have hn : eCall fLen (aCons (eVar 5) aNil) ρ = .ret (.int F.length, 99) := by rw [← eρ]; rfl
    have hD : VL.tB (eBin oNe (eIx (eIx (eIx (eVar 0) (eC (.int 1))) (eIx (eVar 6) (eC (.int 0)))) (eIx (eVar 7) (eC (.int 1)))) (eIx (eIx (eIx (eVar 0) (eC (.int 1))) (eIx (eVar 6) (eC (.int 1)))) (eIx (eVar 7) (eC (.int 0))))) ρ = .ret (!decide (((m l1.a l2.b : Nat) : Int) = ((m l1.b l2.a : Nat) : Int))) := by
      unfold VL.tB
      rw [bin_run d1 d2 (z := .bl (!decide (((m l1.a l2.b : Nat) : Int) = ((m l1.b l2.a : Nat) : Int)))) rfl]
      rfl
    have hmid : (sIf (VL.tB (eBin oNe (eIx (eIx (eIx (eVar 0) (eC (.int 1))) (eIx (eVar 6) (eC (.int 0)))) (eIx (eVar 7) (eC (.int 1)))) (eIx (eIx (eIx (eVar 0) (eC (.int 1))) (eIx (eVar 6) (eC (.int 1)))) (eIx (eVar 7) (eC (.int 0)))))) (sIf (VL.tB (eBin oNe (eCall fLen (aCons (eVar 5) aNil)) (eC (.int 1)))) (sRet (eC (.bl false))) sSkip) (sIf (VL.tB (eBin oNotIn (eCall fLen (aCons (eVar 5) aNil)) (eLst (aCons (eC (.int 0)) (aCons (eVar 1) (aCons (eBinG oMulG (eVar 1) (eVar 1)) aNil)))))) (sRet (eC (.bl false))) sSkip)) ρ = .ret (.nx ρ) := by
      rw [if_run hD]
      by_cases e : m l1.a l2.b = m l1.b l2.a
      · have e' : (!decide (((m l1.a l2.b : Nat) : Int) = ((m l1.b l2.a : Nat) : Int))) = false := by rw [decide_eq_true (by rw [e])]; rfl
        rw [e', if_neg Bool.false_ne_true]
        have hv1 : eVar 1 ρ = .ret (.int q, 99) := by rw [← eρ]; rfl
        have hsm : small (q : Int) = true := by
          unfold small
          exact Bool.and_eq_true_iff.mpr ⟨decide_eq_true (by omega), decide_eq_true (by omega)⟩
        have hmu : eBinG oMulG (eVar 1) (eVar 1) ρ = .ret (.int ((q : Int) * q), 99) := by
          exact binG_run hv1 hv1 (oMulG_int hsm)
        have hls : eLst (aCons (eC (.int 0)) (aCons (eVar 1) (aCons (eBinG oMulG (eVar 1) (eVar 1)) aNil))) ρ = .ret (.ls [.int 0, .int q, .int ((q : Int) * q)], 99) := by
          have z := cons_run (a := eC (.int 0)) (x := (.int 0, 99)) rfl (cons_run hv1 (cons_run hmu (r := aNil) (y := ([], true)) rfl))
          unfold eLst
          rw [z]; rfl
        have hin : oNotIn (.int F.length) (.ls [.int 0, .int q, .int ((q : Int) * q)]) = some (.bl (!(decide ((0 : Int) = (F.length : Int)) || (decide ((q : Int) = (F.length : Int)) || (decide ((q : Int) * q = (F.length : Int)) || false))))) := rfl
        have hz : (!(decide ((0 : Int) = (F.length : Int)) || (decide ((q : Int) = (F.length : Int)) || (decide ((q : Int) * q = (F.length : Int)) || false)))) = false := by
          rcases hC.2 e with h | h | h
          · rw [decide_eq_true (show (0 : Int) = (F.length : Int) by rw [h]; rfl)]; rfl
          · rw [decide_eq_true (show (q : Int) = (F.length : Int) by rw [h])]; simp
          · rw [decide_eq_true (show (q : Int) * q = (F.length : Int) by rw [h]; exact (Int.natCast_mul q q).symm)]; simp
        rw [hz] at hin
        have hb := bin_run hn hls hin
        rw [if_run (b := false) (by unfold VL.tB; rw [hb]; rfl)]
        rfl
      · have e' : (!decide (((m l1.a l2.b : Nat) : Int) = ((m l1.b l2.a : Nat) : Int))) = true := by rw [decide_eq_false (by omega)]; rfl
        rw [e', if_pos rfl]
        have h1 := hC.1 e
        rw [h1] at hn
        have hb := bin_run hn (b := eC (.int 1)) (y := (.int 1, 99)) rfl (f := oNe) (z := .bl false) rfl
        rw [if_run (b := false) (by unfold VL.tB; rw [hb]; rfl)]
        rfl
    rw [seq_run hmid, ← eρ]
    have hap := app_run (i := 5) (rd := [] ++ ([] ++ [])) (a := eTup (aCons (eC (.int 0)) (aCons (eC (.int 0)) aNil))) (ρ := EA (.ls [S, M]) q [l1.tr, l2.tr] (.v (.ls F) 99) (.v (.ls [l1.tr, l2.tr]) 99) (.v (.ls F) 99) (.v l1.tr 99) (.v l2.tr 99)) (r := (.tp [.int 0, .int 0], 99)) rfl rfl (Nat.ble_eq_true_of_le (show F.length + 1 ≤ 16777216 by omega))
    rw [seq_run hap]
    have a3 := eFn_run (n := 2) (a := aCons (eVar 1) (aCons (eVar 4) aNil)) (ρ := (EA (.ls [S, M]) q [l1.tr, l2.tr] (.v (.ls F) 99) (.v (.ls [l1.tr, l2.tr]) 99) (.v (.ls F) 99) (.v l1.tr 99) (.v l2.tr 99)).set 5 (.v (.ls (F ++ [.tp [.int 0, .int 0]])) 99)) (ts := [.int q, .ls [l1.tr, l2.tr]]) (b := false) rfl rfl hs
    have a4 := eFn_run (n := 2) (cons_run a3 (cons_run (a := eVar 3) (x := (.ls F, lv0 (.ls F))) (r := aNil) (y := ([], true)) rfl rfl)) rfl hsame
    exact ret_run a4
  show (b_law_asked (EA (.ls [S, M]) q [l1.tr, l2.tr] .no .no .no .no .no)).bind outF = _
  rw [hb]
  rfl
end
end Lk59

set_option Elab.async false
set_option linter.all false
set_option maxRecDepth 100000
set_option maxHeartbeats 400000
namespace Lk59
open PySem PySem.Spec PyProof.Rows L2 VL
/-! ### counts of solutions -/
def prs (q : Nat) : List (Nat × Nat) := (List.range q).flatMap fun x => (List.range q).map fun y => (x, y)
def NP (q : Nat) (P : Nat → Nat → Bool) : Nat := (prs q).countP fun p => P p.1 p.2
theorem prs_len (q : Nat) : (prs q).length = q * q := by
  unfold prs
  have e : ∀ l : List Nat, (l.flatMap fun x => (List.range q).map fun y => (x, y)).length = l.length * q := by
    intro l
    induction l with
    | nil => rw [List.length_nil, Nat.zero_mul]; rfl
    | cons x l ih => rw [List.flatMap_cons, List.length_append, ih, List.length_map, List.length_range, List.length_cons, Nat.add_mul, Nat.one_mul, Nat.add_comm]
  rw [e, List.length_range]
theorem prs_mem {q : Nat} {p : Nat × Nat} (h : p ∈ prs q) : p.1 < q ∧ p.2 < q := by
  unfold prs at h
  obtain ⟨x, hx, h⟩ := List.mem_flatMap.mp h
  obtain ⟨y, hy, rfl⟩ := List.mem_map.mp h
  exact ⟨List.mem_range.mp hx, List.mem_range.mp hy⟩
theorem np_congr {q : Nat} {P Q : Nat → Nat → Bool} (h : ∀ x y, x < q → y < q → P x y = Q x y) : NP q P = NP q Q := List.countP_congr fun p hp => by rw [h p.1 p.2 (prs_mem hp).1 (prs_mem hp).2]
theorem np_all (q : Nat) : NP q (fun _ _ => true) = q * q := by
  unfold NP
  rw [List.countP_true, prs_len]
theorem np_none (q : Nat) : NP q (fun _ _ => false) = 0 := by
  unfold NP
  rw [List.countP_false]; rfl
section
variable {q : Nat} {s m : Nat → Nat → Nat}
theorem sols_np (l1 l2 : Ln) : (solsF s m q l1 l2).length = NP q fun x y => cnd s m l1 x y && cnd s m l2 x y := by
  have e1 : ∀ (x : Nat) (ys : List Nat) (fs : List Tr), (ys.foldl (addP s m l1 l2 x) fs).length = fs.length + (ys.map fun y => (x, y)).countP fun p => cnd s m l1 p.1 p.2 && cnd s m l2 p.1 p.2 := by
    intro x ys
    induction ys with
    | nil => intro fs; rfl
    | cons y ys ih =>
      intro fs
      rw [List.foldl_cons, ih, List.map_cons, List.countP_cons]
      unfold addP
      by_cases c : (cnd s m l1 x y && cnd s m l2 x y) = true
      · rw [if_pos c, List.length_append]
        show fs.length + 1 + _ = fs.length + (_ + if (cnd s m l1 x y && cnd s m l2 x y) = true then 1 else 0)
        rw [if_pos c]; omega
      · rw [if_neg c]
        show fs.length + _ = fs.length + (_ + if (cnd s m l1 x y && cnd s m l2 x y) = true then 1 else 0)
        rw [if_neg c]; omega
  have e2 : ∀ (xs : List Nat) (fs : List Tr), (xs.foldl (fun fs x => (List.range q).foldl (addP s m l1 l2 x) fs) fs).length = fs.length + (xs.flatMap fun x => (List.range q).map fun y => (x, y)).countP fun p => cnd s m l1 p.1 p.2 && cnd s m l2 p.1 p.2 := by
    intro xs
    induction xs with
    | nil => intro fs; rfl
    | cons x xs ih =>
      intro fs
      rw [List.foldl_cons, ih, e1, List.flatMap_cons, List.countP_append]
      omega
  unfold solsF NP prs
  rw [e2, List.length_nil, Nat.zero_add]
def lin (s m : Nat → Nat → Nat) (p : Nat × Nat) (x y : Nat) : Nat := s (m p.1 x) (m p.2 y)
theorem cnd_eq (l : Ln) (x y : Nat) : cnd s m l x y = decide (lin s m (l.a, l.b) x y = l.c) := by
  unfold cnd val lin
  by_cases h : s (m l.a x) (m l.b y) = l.c
  · rw [decide_eq_true h, decide_eq_true (by rw [h])]
  · rw [decide_eq_false h, decide_eq_false (by omega)]
def codes (s m : Nat → Nat → Nat) (q : Nat) (p r : Nat × Nat) : List Nat := (prs q).map fun z => lin s m p z.1 z.2 * q + lin s m r z.1 z.2
def isRep (q : Nat) (p : Nat × Nat) : Prop := p = (0, 1) ∨ ∃ b, b < q ∧ p = (1, b)
structure Fld (q : Nat) (s m sc : Nat → Nat → Nat) : Prop where
  lo : 2 ≤ q
  cs : ∀ a x, a < q → x < q → s a x < q
  cm : ∀ a x, a < q → x < q → m a x < q
  z0 : ∀ z, z < q → m 0 z = 0
  z1 : ∀ z, z < q → m z 0 = 0
  s0 : s 0 0 = 0
  as : ∀ t a x, t < q → a < q → x < q → m (m t a) x = m t (m a x)
  ds : ∀ t u v, t < q → u < q → v < q → s (m t u) (m t v) = m t (s u v)
  ij : ∀ t u v, t < q → u < q → v < q → t ≠ 0 → m t u = m t v → u = v
  k2 : ∀ a b, a < q → b < q → ¬ (a = 0 ∧ b = 0) → sc a b < q ∧ sc a b ≠ 0 ∧ isRep q (m (sc a b) a, m (sc a b) b)
  k6 : ∀ a b c d, a < q → b < q → c < q → d < q → m a d = m b c → (a = 0 ∧ b = 0) ∨ ∃ t, t < q ∧ c = m t a ∧ d = m t b
  k7 : ∀ a b c d, a < q → b < q → c < q → d < q → m a d ≠ m b c → (m (sc a b) a, m (sc a b) b) ≠ (m (sc c d) c, m (sc c d) d)
  k4 : ∀ p r, isRep q p → isRep q r → p ≠ r → ∀ v, v < q * q → v ∈ codes s m q p r
  k5 : ∀ p, isRep q p → ∀ c, c < q → NP q (fun x y => decide (lin s m p x y = c)) = q
theorem lin_lt {sc : Nat → Nat → Nat} (F : Fld q s m sc) {p : Nat × Nat} {x y : Nat} (h1 : p.1 < q) (h2 : p.2 < q) (hx : x < q) (hy : y < q) : lin s m p x y < q := F.cs _ _ (F.cm _ _ h1 hx) (F.cm _ _ h2 hy)
theorem lin_scale {sc : Nat → Nat → Nat} (F : Fld q s m sc) {p : Nat × Nat} {t x y : Nat} (ht : t < q) (h1 : p.1 < q) (h2 : p.2 < q) (hx : x < q) (hy : y < q) : lin s m (m t p.1, m t p.2) x y = m t (lin s m p x y) := by
  unfold lin
  show s (m (m t p.1) x) (m (m t p.2) y) = _
  rw [F.as t p.1 x ht h1 hx, F.as t p.2 y ht h2 hy, F.ds t _ _ ht (F.cm _ _ h1 hx) (F.cm _ _ h2 hy)]
theorem cond_scale {sc : Nat → Nat → Nat} (F : Fld q s m sc) {p : Nat × Nat} {t c x y : Nat} (ht : t < q) (t0 : t ≠ 0) (h1 : p.1 < q) (h2 : p.2 < q) (hc : c < q) (hx : x < q) (hy : y < q) : decide (lin s m (m t p.1, m t p.2) x y = m t c) = decide (lin s m p x y = c) := by
  rw [lin_scale F ht h1 h2 hx hy]
  by_cases h : lin s m p x y = c
  · rw [decide_eq_true h, decide_eq_true (by rw [h])]
  · rw [decide_eq_false h, decide_eq_false fun e => h (F.ij t _ _ ht (lin_lt F h1 h2 hx hy) hc t0 e)]
/-- one line through so many -/
theorem one_line {sc : Nat → Nat → Nat} (F : Fld q s m sc) {a b c : Nat} (ha : a < q) (hb : b < q) (hc : c < q) (h : ¬ (a = 0 ∧ b = 0)) : NP q (fun x y => decide (lin s m (a, b) x y = c)) = q := by
  obtain ⟨t1, t0, hr⟩ := F.k2 a b ha hb h
  exact (np_congr fun x y hx hy => (cond_scale F (p := (a, b)) t1 t0 ha hb hc hx hy).symm).trans (F.k5 _ hr (m (sc a b) c) (F.cm _ _ t1 hc))
theorem rep_lt {p : Nat × Nat} (hq : 2 ≤ q) (h : isRep q p) : p.1 < q ∧ p.2 < q := by
  rcases h with rfl | ⟨b, hb, rfl⟩
  · exact ⟨by show 0 < q; omega, by show 1 < q; omega⟩
  · exact ⟨by show 1 < q; omega, hb⟩
theorem cnt_range {n v : Nat} (h : v < n) : (List.range n).count v = 1 := by
  have a := List.nodup_iff_count.mp (List.nodup_range (n := n)) v
  have b := List.count_pos_iff.mpr (List.mem_range.mpr h)
  omega
theorem two_reps {sc : Nat → Nat → Nat} (F : Fld q s m sc) {p r : Nat × Nat} {c d : Nat} (hp : isRep q p) (hr : isRep q r) (n : p ≠ r) (hc : c < q) (hd : d < q) : NP q (fun x y => decide (lin s m p x y = c) && decide (lin s m r x y = d)) = 1 := by
  have hq := F.lo
  obtain ⟨p1, p2⟩ := rep_lt hq hp
  obtain ⟨r1, r2⟩ := rep_lt hq hr
  have hv : c * q + d < q * q := by
    have : (c + 1) * q ≤ q * q := Nat.mul_le_mul_right q hc
    rw [Nat.add_mul, Nat.one_mul] at this
    omega
  have pm : (codes s m q p r).Perm (List.range (q * q)) := perm_range _ _ (by unfold codes; rw [List.length_map, prs_len]) (F.k4 p r hp hr n)
  have c1 : (codes s m q p r).count (c * q + d) = 1 := by
    rw [pm.count_eq]
    exact cnt_range hv
  rw [← c1]
  unfold codes NP
  rw [List.count, List.countP_map]
  refine List.countP_congr fun z hz => ?_
  obtain ⟨z1, z2⟩ := prs_mem hz
  have l1 := lin_lt F p1 p2 z1 z2
  have l2 := lin_lt F r1 r2 z1 z2
  rw [Bool.and_eq_true, decide_eq_true_eq, decide_eq_true_eq]
  show _ ↔ (lin s m p z.1 z.2 * q + lin s m r z.1 z.2 == c * q + d) = true
  rw [beq_iff_eq]
  constructor
  · rintro ⟨rfl, rfl⟩; rfl
  · intro e
    have e1 : lin s m p z.1 z.2 = c := by
      have h1 : (lin s m p z.1 z.2 * q + lin s m r z.1 z.2) / q = (c * q + d) / q := by rw [e]
      rw [Nat.add_comm, Nat.add_mul_div_right _ _ (by omega), Nat.div_eq_of_lt l2, Nat.add_comm (c * q), Nat.add_mul_div_right _ _ (by omega), Nat.div_eq_of_lt hd] at h1
      omega
    exact ⟨e1, by rw [e1] at e; omega⟩
theorem cnt_of {sc : Nat → Nat → Nat} (F : Fld q s m sc) {l1 l2 : Ln} (h1 : l1.In q) (h2 : l2.In q) : Cnt s m q l1 l2 := by
  have hq := F.lo
  obtain ⟨a1, b1, c1⟩ := h1
  obtain ⟨a2, b2, c2⟩ := h2
  have e0 : (solsF s m q l1 l2).length = NP q fun x y => decide (lin s m (l1.a, l1.b) x y = l1.c) && decide (lin s m (l2.a, l2.b) x y = l2.c) := by
    rw [sols_np]
    exact np_congr fun x y _ _ => by rw [cnd_eq, cnd_eq]
  have lin0 : ∀ x y, x < q → y < q → lin s m (0, 0) x y = 0 := fun x y hx hy => by
    show s (m 0 x) (m 0 y) = 0
    rw [F.z0 x hx, F.z0 y hy, F.s0]
  unfold Cnt
  rw [e0]
  constructor
  · intro hd
    have n1 : ¬ (l1.a = 0 ∧ l1.b = 0) := fun h => hd (by rw [h.1, h.2, F.z0 _ b2, F.z0 _ a2])
    have n2 : ¬ (l2.a = 0 ∧ l2.b = 0) := fun h => hd (by rw [h.1, h.2, F.z1 _ a1, F.z1 _ b1])
    obtain ⟨t1, t0, hr⟩ := F.k2 _ _ a1 b1 n1
    obtain ⟨u1, u0, hr2⟩ := F.k2 _ _ a2 b2 n2
    rw [← two_reps F hr hr2 (F.k7 _ _ _ _ a1 b1 a2 b2 hd) (F.cm _ _ t1 c1) (F.cm _ _ u1 c2)]
    exact np_congr fun x y hx hy => by rw [cond_scale F (p := (l1.a, l1.b)) t1 t0 a1 b1 c1 hx hy, cond_scale F (p := (l2.a, l2.b)) u1 u0 a2 b2 c2 hx hy]
  · intro hd
    by_cases n1 : l1.a = 0 ∧ l1.b = 0
    · rw [n1.1, n1.2]
      by_cases k1 : l1.c = 0
      · have e1 : NP q (fun x y => decide (lin s m (0, 0) x y = l1.c) && decide (lin s m (l2.a, l2.b) x y = l2.c)) = NP q fun x y => decide (lin s m (l2.a, l2.b) x y = l2.c) := np_congr fun x y hx hy => by rw [lin0 x y hx hy, k1, decide_eq_true rfl, Bool.true_and]
        rw [e1]
        by_cases n2 : l2.a = 0 ∧ l2.b = 0
        · rw [n2.1, n2.2]
          by_cases k2 : l2.c = 0
          · refine .inr (.inr ((np_congr fun x y hx hy => ?_).trans (np_all q)))
            rw [lin0 x y hx hy, k2, decide_eq_true rfl]
          · refine .inl ((np_congr fun x y hx hy => ?_).trans (np_none q))
            rw [lin0 x y hx hy, decide_eq_false (Ne.symm k2)]
        · exact .inr (.inl (one_line F a2 b2 c2 n2))
      · refine .inl ((np_congr fun x y hx hy => ?_).trans (np_none q))
        rw [lin0 x y hx hy, decide_eq_false (Ne.symm k1), Bool.false_and]
    · rcases F.k6 _ _ _ _ a1 b1 a2 b2 hd with h | ⟨t, ht, e1, e2⟩
      · exact absurd h n1
      · have ls : ∀ x y, x < q → y < q → lin s m (l2.a, l2.b) x y = m t (lin s m (l1.a, l1.b) x y) := fun x y hx hy => by
          rw [e1, e2]
          exact lin_scale F (p := (l1.a, l1.b)) ht a1 b1 hx hy
        by_cases k : m t l1.c = l2.c
        · refine .inr (.inl ((np_congr fun x y hx hy => ?_).trans (one_line F a1 b1 c1 n1)))
          rw [ls x y hx hy]
          by_cases h : lin s m (l1.a, l1.b) x y = l1.c
          · rw [h, decide_eq_true rfl, decide_eq_true k]; rfl
          · rw [decide_eq_false h]; rfl
        · refine .inl ((np_congr fun x y hx hy => ?_).trans (np_none q))
          rw [ls x y hx hy]
          by_cases h : lin s m (l1.a, l1.b) x y = l1.c
          · rw [h, decide_eq_false k, Bool.and_false]
          · rw [decide_eq_false h]; rfl
end
end Lk59

set_option Elab.async false
set_option linter.all false
set_option maxRecDepth 100000
set_option maxHeartbeats 400000
namespace Lk59
open PySem PySem.Spec PyProof.Rows L2 VL
structure Bas (q : Nat) (s m : Nat → Nat → Nat) (n iv : Nat → Nat) : Prop where
  lo : 2 ≤ q
  cs : ∀ a x, a < q → x < q → s a x < q
  cm : ∀ a x, a < q → x < q → m a x < q
  cn : ∀ a, a < q → n a < q ∧ s (n a) a = 0
  ci : ∀ a, a < q → a ≠ 0 → iv a < q ∧ iv a ≠ 0 ∧ m (iv a) a = 1
  z0 : ∀ z, z < q → m 0 z = 0
  sz : ∀ z, z < q → s 0 z = z
  o1 : ∀ z, z < q → m 1 z = z
  sc : ∀ a x, a < q → x < q → s a x = s x a
  mc : ∀ a x, a < q → x < q → m a x = m x a
  sa : ∀ t a x, t < q → a < q → x < q → s (s t a) x = s t (s a x)
  as : ∀ t a x, t < q → a < q → x < q → m (m t a) x = m t (m a x)
  ds : ∀ t u v, t < q → u < q → v < q → s (m t u) (m t v) = m t (s u v)
section
variable {q : Nat} {s m : Nat → Nat → Nat} {n iv : Nat → Nat}
theorem Bas.zz (B : Bas q s m n iv) {z : Nat} (h : z < q) : m z 0 = 0 := by
  have := B.lo
  rw [B.mc _ _ h (by omega), B.z0 _ h]
theorem Bas.sz' (B : Bas q s m n iv) {z : Nat} (h : z < q) : s z 0 = z := by
  have := B.lo
  rw [B.sc _ _ h (by omega), B.sz _ h]
theorem Bas.li (B : Bas q s m n iv) {t u : Nat} (ht : t < q) (hu : u < q) (t0 : t ≠ 0) : m (iv t) (m t u) = u := by
  obtain ⟨i1, _, i3⟩ := B.ci t ht t0
  rw [← B.as _ _ _ i1 ht hu, i3, B.o1 _ hu]
theorem Bas.ri (B : Bas q s m n iv) {t u : Nat} (ht : t < q) (hu : u < q) (t0 : t ≠ 0) : m t (m (iv t) u) = u := by
  obtain ⟨i1, _, i3⟩ := B.ci t ht t0
  rw [← B.as _ _ _ ht i1 hu, B.mc _ _ ht i1, i3, B.o1 _ hu]
theorem Bas.ij (B : Bas q s m n iv) {t u v : Nat} (ht : t < q) (hu : u < q) (hv : v < q) (t0 : t ≠ 0) (e : m t u = m t v) : u = v := by
  rw [← B.li ht hu t0, e, B.li ht hv t0]
/-- (x y) z = (x z) y -/
theorem Bas.sw (B : Bas q s m n iv) {x y z : Nat} (hx : x < q) (hy : y < q) (hz : z < q) : m (m x y) z = m (m x z) y := by
  rw [B.as _ _ _ hx hy hz, B.mc y z hy hz, B.as _ _ _ hx hz hy]
def scOf (iv : Nat → Nat) (a b : Nat) : Nat := if a = 0 then iv b else iv a
theorem Bas.k2 (B : Bas q s m n iv) {a b : Nat} (ha : a < q) (hb : b < q) (h : ¬ (a = 0 ∧ b = 0)) : scOf iv a b < q ∧ scOf iv a b ≠ 0 ∧ isRep q (m (scOf iv a b) a, m (scOf iv a b) b) := by
  unfold scOf
  by_cases c : a = 0
  · subst c
    have b0 : b ≠ 0 := fun e => h ⟨rfl, e⟩
    obtain ⟨i1, i2, i3⟩ := B.ci b hb b0
    rw [if_pos rfl]
    exact ⟨i1, i2, .inl (by rw [i3, B.zz i1])⟩
  · obtain ⟨i1, i2, i3⟩ := B.ci a ha c
    rw [if_neg c]
    exact ⟨i1, i2, .inr ⟨m (iv a) b, B.cm _ _ i1 hb, by rw [i3]⟩⟩
theorem Bas.k6 (B : Bas q s m n iv) {a b c d : Nat} (ha : a < q) (hb : b < q) (hc : c < q) (hd : d < q) (e : m a d = m b c) : (a = 0 ∧ b = 0) ∨ ∃ t, t < q ∧ c = m t a ∧ d = m t b := by
  by_cases a0 : a = 0
  · by_cases b0 : b = 0
    · exact .inl ⟨a0, b0⟩
    · subst a0
      obtain ⟨i1, i2, i3⟩ := B.ci b hb b0
      rw [B.z0 _ hd] at e
      have c0 : c = 0 := by rw [← B.li hb hc b0, ← e, B.zz i1]
      have ht := B.cm _ _ i1 hd
      exact .inr ⟨m (iv b) d, ht, by rw [B.zz ht, c0], by rw [B.mc _ _ ht hb, B.ri hb hd b0]⟩
  · obtain ⟨i1, i2, i3⟩ := B.ci a ha a0
    have ht := B.cm _ _ i1 hc
    refine .inr ⟨m (iv a) c, ht, by rw [B.mc _ _ ht ha, B.ri ha hc a0], ?_⟩
    rw [B.sw i1 hc hb, B.as _ _ _ i1 hb hc, ← e, B.li ha hd a0]
theorem Bas.k7 (B : Bas q s m n iv) {a b c d : Nat} (ha : a < q) (hb : b < q) (hc : c < q) (hd : d < q) (h : m a d ≠ m b c) : (m (scOf iv a b) a, m (scOf iv a b) b) ≠ (m (scOf iv c d) c, m (scOf iv c d) d) := by
  intro e
  have n1 : ¬ (a = 0 ∧ b = 0) := fun g => h (by rw [g.1, g.2, B.z0 _ hd, B.z0 _ hc])
  have n2 : ¬ (c = 0 ∧ d = 0) := fun g => h (by rw [g.1, g.2, B.zz ha, B.zz hb])
  obtain ⟨t1, t0, _⟩ := B.k2 ha hb n1
  obtain ⟨u1, u0, _⟩ := B.k2 hc hd n2
  generalize scOf iv a b = t at *
  generalize scOf iv c d = u at *
  have e1 : m t a = m u c := congrArg Prod.fst e
  have e2 : m t b = m u d := congrArg Prod.snd e
  refine h (B.ij t1 (B.cm _ _ ha hd) (B.cm _ _ hb hc) t0 ?_)
  rw [← B.as _ _ _ t1 ha hd, ← B.as _ _ _ t1 hb hc, e1, e2]
  exact B.sw u1 hc hd
theorem Bas.on (B : Bas q s m n iv) {p r : Nat × Nat} (hp : isRep q p) (hr : isRep q r) (ne : p ≠ r) {c d : Nat} (hc : c < q) (hd : d < q) : ∃ x y, x < q ∧ y < q ∧ lin s m p x y = c ∧ lin s m r x y = d := by
  have hq := B.lo
  have l01 : ∀ {x y : Nat}, x < q → y < q → lin s m (0, 1) x y = y := fun hx hy => by
    show s (m 0 _) (m 1 _) = _
    rw [B.z0 _ hx, B.o1 _ hy, B.sz _ hy]
  have l1b : ∀ {b x y : Nat}, x < q → lin s m (1, b) x y = s x (m b y) := fun hx => by
    show s (m 1 _) _ = _
    rw [B.o1 _ hx]
  -- x = c - b y
  have key : ∀ {b c y : Nat}, b < q → c < q → y < q → s c (n (m b y)) < q ∧ s (s c (n (m b y))) (m b y) = c := fun hb hc hy => by
    have hby := B.cm _ _ hb hy
    obtain ⟨n1, n2⟩ := B.cn _ hby
    exact ⟨B.cs _ _ hc n1, by rw [B.sa _ _ _ hc n1 hby, n2, B.sz' hc]⟩
  rcases hp with rfl | ⟨b, hb, rfl⟩
  · rcases hr with rfl | ⟨b', hb', rfl⟩
    · exact absurd rfl ne
    · obtain ⟨k1, k2⟩ := key hb' hd hc
      exact ⟨_, c, k1, hc, l01 k1 hc, by rw [l1b k1, k2]⟩
  · rcases hr with rfl | ⟨b', hb', rfl⟩
    · obtain ⟨k1, k2⟩ := key hb hc hd
      exact ⟨_, d, k1, hd, by rw [l1b k1, k2], l01 k1 hd⟩
    · obtain ⟨n1, n2⟩ := B.cn b hb
      have hδ := B.cs _ _ hb' n1
      have eb : s (s b' (n b)) b = b' := by rw [B.sa _ _ _ hb' n1 hb, n2, B.sz' hb']
      have δ0 : s b' (n b) ≠ 0 := fun e => ne (by rw [e, B.sz _ hb] at eb; rw [eb])
      generalize s b' (n b) = δ at *
      obtain ⟨nc1, nc2⟩ := B.cn c hc
      have hw := B.cs _ _ hd nc1
      obtain ⟨i1, _, _⟩ := B.ci δ hδ δ0
      have hy := B.cm _ _ i1 hw
      have ey : m δ (m (iv δ) (s d (n c))) = s d (n c) := B.ri hδ hw δ0
      generalize m (iv δ) (s d (n c)) = y at *
      obtain ⟨k1, k2⟩ := key hb hc hy
      refine ⟨_, y, k1, hy, by rw [l1b k1, k2], ?_⟩
      have hby := B.cm _ _ hb hy
      have hdy := B.cm _ _ hδ hy
      have e1 : m b' y = s (m b y) (m δ y) := by
        rw [← eb, B.mc _ _ (B.cs _ _ hδ hb) hy, ← B.ds _ _ _ hy hδ hb, B.mc _ _ hy hδ, B.mc _ _ hy hb, B.sc _ _ hdy hby]
      rw [l1b k1, e1, ← B.sa _ _ _ k1 hby hdy, k2, ey, B.sc _ _ hd nc1, ← B.sa _ _ _ hc nc1 hd, B.sc _ _ hc nc1, nc2, B.sz _ hd]
theorem prs_in {x y : Nat} (hx : x < q) (hy : y < q) : (x, y) ∈ prs q := List.mem_flatMap.mpr ⟨x, List.mem_range.mpr hx, List.mem_map.mpr ⟨y, List.mem_range.mpr hy, rfl⟩⟩
theorem Bas.k4 (B : Bas q s m n iv) {p r : Nat × Nat} (hp : isRep q p) (hr : isRep q r) (ne : p ≠ r) {v : Nat} (hv : v < q * q) : v ∈ codes s m q p r := by
  have hq := B.lo
  obtain ⟨x, y, hx, hy, e1, e2⟩ := B.on hp hr ne (c := v / q) (d := v % q) (Nat.div_lt_of_lt_mul hv) (Nat.mod_lt _ (by omega))
  refine List.mem_map.mpr ⟨(x, y), prs_in hx hy, ?_⟩
  show lin s m p x y * q + lin s m r x y = v
  rw [e1, e2, Nat.mul_comm]
  exact Nat.div_add_mod v q
theorem cnt_row {c : Nat} (hq : 0 < q) : ∀ k, (List.range (k * q)).countP (fun v => decide (v / q = c)) = if c < k then q else 0
  | 0 => by rw [Nat.zero_mul, if_neg (by omega)]; rfl
  | k + 1 => by
    rw [Nat.add_mul, Nat.one_mul, List.range_add, List.countP_append, cnt_row hq k, List.countP_map]
    by_cases h : c = k
    · have e : (List.range q).countP ((fun v => decide (v / q = c)) ∘ fun x => k * q + x) = q := by
        rw [List.countP_eq_length.mpr, List.length_range]
        intro a ha
        have ha := List.mem_range.mp ha
        show decide ((k * q + a) / q = c) = true
        rw [Nat.add_comm, Nat.add_mul_div_right _ _ hq, Nat.div_eq_of_lt ha, h]
        exact decide_eq_true (by omega)
      rw [e, if_neg (by omega), if_pos (by omega)]
      omega
    · have e : (List.range q).countP ((fun v => decide (v / q = c)) ∘ fun x => k * q + x) = 0 := by
        rw [List.countP_eq_zero]
        intro a ha
        have ha := List.mem_range.mp ha
        show ¬ decide ((k * q + a) / q = c) = true
        rw [Nat.add_comm, Nat.add_mul_div_right _ _ hq, Nat.div_eq_of_lt ha, decide_eq_true_eq]
        omega
      rw [e]
      by_cases g : c < k
      · rw [if_pos g, if_pos (by omega)]
        omega
      · rw [if_neg g, if_neg (by omega)]
theorem Bas.k5 (B : Bas q s m n iv) {p : Nat × Nat} (hp : isRep q p) {c : Nat} (hc : c < q) : NP q (fun x y => decide (lin s m p x y = c)) = q := by
  have hq := B.lo
  obtain ⟨r, hr, ne⟩ : ∃ r, isRep q r ∧ p ≠ r := by
    rcases hp with rfl | ⟨b, hb, rfl⟩
    · exact ⟨(1, 0), .inr ⟨0, by omega, rfl⟩, by simp⟩
    · exact ⟨(0, 1), .inl rfl, by simp⟩
  have pm : (codes s m q p r).Perm (List.range (q * q)) := perm_range _ _ (by unfold codes; rw [List.length_map, prs_len]) fun v hv => B.k4 hp hr ne hv
  have h1 := pm.countP_eq (fun v => decide (v / q = c))
  rw [cnt_row (by omega) q, if_pos hc] at h1
  refine Eq.trans ?_ h1
  unfold codes NP
  rw [List.countP_map]
  refine List.countP_congr fun z hz => ?_
  obtain ⟨z1, z2⟩ := prs_mem hz
  obtain ⟨r1, r2⟩ := rep_lt hq hr
  have l2 : lin s m r z.1 z.2 < q := B.cs _ _ (B.cm _ _ r1 z1) (B.cm _ _ r2 z2)
  show _ ↔ decide ((lin s m p z.1 z.2 * q + lin s m r z.1 z.2) / q = c) = true
  rw [Nat.add_comm, Nat.add_mul_div_right _ _ (by omega), Nat.div_eq_of_lt l2, Nat.zero_add]
theorem fld_of (B : Bas q s m n iv) : Fld q s m (scOf iv) where
  lo := B.lo
  cs := B.cs
  cm := B.cm
  z0 := B.z0
  z1 := fun z h => B.zz h
  s0 := B.sz 0 (by have := B.lo; omega)
  as := B.as
  ds := B.ds
  ij := fun t u v ht hu hv t0 e => B.ij ht hu hv t0 e
  k2 := fun a b ha hb h => B.k2 ha hb h
  k6 := fun a b c d ha hb hc hd e => B.k6 ha hb hc hd e
  k7 := fun a b c d ha hb hc hd e => B.k7 ha hb hc hd e
  k4 := fun p r hp hr ne v hv => B.k4 hp hr ne hv
  k5 := fun p hp c hc => B.k5 hp hc
end
end Lk59

set_option Elab.async false
set_option linter.all false
set_option maxRecDepth 100000
set_option maxHeartbeats 400000
namespace Lk59
open PySem PySem.Spec PyProof.Rows L2 VL
def tR (r : List Nat) : Tr := .ls (r.map fun n : Nat => .int n)
def tN (t : List (List Nat)) : Tr := .ls (t.map tR)
def lk (t : List (List Nat)) (a x : Nat) : Nat := (t.getD a []).getD x 0
theorem at_nat {α : Type} {l : List α} {a : Nat} {d : α} (h : a < l.length) : atI l (a : Int) = some (l.getD a d) := by
  unfold atI ixN
  rw [if_pos (by omega), if_pos (by omega)]
  show l[a]? = _
  rw [List.getD_eq_getElem?_getD, List.getElem?_eq_getElem h]; rfl
theorem ix_tN {t : List (List Nat)} {a : Nat} (h : a < t.length) : oIx (tN t) (.int a) = some (tR (t.getD a [])) := by
  show atI (t.map tR) (a : Int) = _
  rw [at_nat (d := tR []) (by rw [List.length_map]; exact h)]
  congr 1
  rw [List.getD_eq_getElem?_getD, List.getElem?_map, List.getD_eq_getElem?_getD, List.getElem?_eq_getElem h]; rfl
theorem ix_tR {r : List Nat} {x : Nat} (h : x < r.length) : oIx (tR r) (.int x) = some (.int (r.getD x 0)) := by
  show atI (r.map fun n : Nat => Tr.int n) (x : Int) = _
  rw [at_nat (d := .int 0) (by rw [List.length_map]; exact h)]
  congr 1
  rw [List.getD_eq_getElem?_getD, List.getElem?_map, List.getD_eq_getElem?_getD, List.getElem?_eq_getElem h]; rfl
def sqT (q : Nat) (t : List (List Nat)) : Bool := Nat.beq t.length q && allR q fun a => Nat.beq (t.getD a []).length q
theorem sq_ok {q : Nat} {t : List (List Nat)} (h : sqT q t = true) : t.length = q ∧ ∀ a, a < q → (t.getD a []).length = q := by
  unfold sqT at h
  obtain ⟨h1, h2⟩ := Bool.and_eq_true_iff.mp h
  exact ⟨Nat.eq_of_beq_eq_true h1, fun a ha => Nat.eq_of_beq_eq_true (allR_ok h2 a ha)⟩
def sqC (q : Nat) (t : List (List Nat)) : Bool := allR q fun a => allR q fun x => Nat.blt (lk t a x) q
def ck1 (q : Nat) (S M : List (List Nat)) (N I : List Nat) : Bool := allR q fun a => Nat.blt (N.getD a 0) q && Nat.beq (lk S (N.getD a 0) a) 0 && (Nat.beq a 0 || (Nat.blt (I.getD a 0) q && !Nat.beq (I.getD a 0) 0 && Nat.beq (lk M (I.getD a 0) a) 1)) && Nat.beq (lk M 0 a) 0 && Nat.beq (lk S 0 a) a && Nat.beq (lk M 1 a) a
def ck2 (q : Nat) (S M : List (List Nat)) : Bool := allR q fun a => allR q fun x => Nat.beq (lk S a x) (lk S x a) && Nat.beq (lk M a x) (lk M x a)
def ck3 (q : Nat) (S M : List (List Nat)) : Bool := allR q fun t => allR q fun a => allR q fun x => Nat.beq (lk S (lk S t a) x) (lk S t (lk S a x)) && Nat.beq (lk M (lk M t a) x) (lk M t (lk M a x)) && Nat.beq (lk S (lk M t a) (lk M t x)) (lk M t (lk S a x))
structure Cks (q : Nat) (S M : List (List Nat)) (N I : List Nat) : Prop where
  lo : 2 ≤ q
  hi : q ≤ 16
  sS : sqT q S = true
  sM : sqT q M = true
  cS : sqC q S = true
  cM : sqC q M = true
  k1 : ck1 q S M N I = true
  k2 : ck2 q S M = true
  k3 : ck3 q S M = true
theorem blt_lt {a b : Nat} (h : Nat.blt a b = true) : a < b := Nat.le_of_ble_eq_true h
section
variable {q : Nat} {S M : List (List Nat)} {N I : List Nat}
theorem tab_of (C : Cks q S M N I) : Tab q (tN S) (tN M) (fun a => tR (S.getD a [])) (fun a => tR (M.getD a [])) (lk S) (lk M) := by
  obtain ⟨s1, s2⟩ := sq_ok C.sS
  obtain ⟨m1, m2⟩ := sq_ok C.sM
  exact {
    lo := C.lo
    hi := C.hi
    S1 := fun a ha => ix_tN (by omega)
    S2 := fun a x ha hx => ix_tR (by rw [s2 a ha]; exact hx)
    M1 := fun a ha => ix_tN (by omega)
    M2 := fun a x ha hx => ix_tR (by rw [m2 a ha]; exact hx)
    cs := fun a x ha hx => blt_lt (allR_ok (allR_ok C.cS a ha) x hx)
    cm := fun a x ha hx => blt_lt (allR_ok (allR_ok C.cM a ha) x hx) }
theorem bas_of (C : Cks q S M N I) : Bas q (lk S) (lk M) (fun a => N.getD a 0) (fun a => I.getD a 0) := by
  have T := tab_of C
  have h1 := fun a ha => allR_ok C.k1 a ha
  have h2 := fun a ha x hx => allR_ok (allR_ok C.k2 a ha) x hx
  have h3 := fun t ht a ha x hx => allR_ok (allR_ok (allR_ok C.k3 t ht) a ha) x hx
  simp only [Bool.and_eq_true, Bool.or_eq_true, Bool.not_eq_true'] at h1 h2 h3
  exact {
    lo := C.lo
    cs := T.cs
    cm := T.cm
    cn := fun a ha => ⟨blt_lt (h1 a ha).1.1.1.1.1, Nat.eq_of_beq_eq_true (h1 a ha).1.1.1.1.2⟩
    ci := fun a ha a0 => by
      rcases (h1 a ha).1.1.1.2 with h | ⟨⟨h, g⟩, k⟩
      · exact absurd (Nat.eq_of_beq_eq_true h) a0
      · exact ⟨blt_lt h, Nat.ne_of_beq_eq_false g, Nat.eq_of_beq_eq_true k⟩
    z0 := fun z hz => Nat.eq_of_beq_eq_true (h1 z hz).1.1.2
    sz := fun z hz => Nat.eq_of_beq_eq_true (h1 z hz).1.2
    o1 := fun z hz => Nat.eq_of_beq_eq_true (h1 z hz).2
    sc := fun a x ha hx => Nat.eq_of_beq_eq_true (h2 a ha x hx).1
    mc := fun a x ha hx => Nat.eq_of_beq_eq_true (h2 a ha x hx).2
    sa := fun t a x ht ha hx => Nat.eq_of_beq_eq_true (h3 t ht a ha x hx).1.1
    as := fun t a x ht ha hx => Nat.eq_of_beq_eq_true (h3 t ht a ha x hx).1.2
    ds := fun t u v ht hu hv => Nat.eq_of_beq_eq_true (h3 t ht u hu v hv).2 }
theorem asked_ok (C : Cks q S M N I) {kf : Nat} (hF : f_field_of [.int q] = .ret (.tp [tN S, tN M], kf)) {l1 l2 : Ln} (h1 : l1.In q) (h2 : l2.In q) : f_law_asked [.ls [tN S, tN M], .int q, .ls [l1.tr, l2.tr]] = .ret (.bl true, 99) := asked_run (tab_of C) hF h1 h2 (cnt_of (fld_of (bas_of C)) h1 h2)
end
end Lk59

set_option Elab.async false
set_option linter.all false
set_option maxRecDepth 100000
set_option maxHeartbeats 400000
namespace Lk59
open PySem PySem.Spec PyProof.Rows L2 VL
def Ns : Tr := .ls [.int 2, .int 3, .int 4, .int 5, .int 7, .int 8, .int 9, .int 11, .int 13, .int 16]
def x0 : En := .no :: .feed :: noes 10
def X1 : En := [.no, .feed, .v Ns 99, .no, .no, .no, .no, .no, .no, .no, .no, .no]
def X (q : Nat) : En := [.no, .feed, .v Ns 99, .v (.int q) 99, .no, .no, .no, .no, .no, .no, .no, .no]
def Z (q : Nat) (T : Tr) (s5 s6 s7 s8 s9 : Sl) : En := [.no, .feed, .v Ns 99, .v (.int q) 0, .v T 1, s5, s6, s7, s8, s9, .no, .no]
theorem h0 : l0_law x0 = .ret (.nx X1) := by kernel_rfl
structure QOk (q : Nat) (S M : List (List Nat)) (N I : List Nat) : Prop where
  ck : Cks q S M N I
  hF : f_field_of [.int q] = .ret (.tp [tN S, tN M], 0)
  h2 : l2_law (X q) = .ret (.nx (Z q (.ls [tN S, tN M]) .no .no .no .no .no))
variable {E : Nat → Tr → Prop} {Q : Fl → Prop} {q : Nat}
/-- a draw below q -/
theorem gd_drq {n : Nat} {ρ : En} {R : Tr × Nat → Prop} (hf : isFd ρ[1]? = true) (h3 : ρ[3]? = some (.v (.int q) n)) (h1 : 0 < q) (h2 : q ≤ 16) (g : ∀ a, a < q → R (.int (a : Nat), 99)) : good E (eFnF 1 1 f_law_draw (aCons (eVar 3) aNil) ρ) R := by
  have e : (aCons (eVar 3) aNil) ρ = .ret ([.int q], true) := by
    unfold aCons eVar
    rw [h3]; rfl
  refine gd_draw hf (gd_eq e ⟨q, rfl, by omega, by omega, fun x x0 x1 => ?_⟩)
  obtain ⟨a, rfl⟩ : ∃ a : Nat, x = (a : Int) := ⟨x.toNat, by omega⟩
  exact g a (by omega)
theorem gd_tup3 {ρ : En} {a b c : Ex} {R : Tr × Nat → Prop} (h : good E (a ρ) fun x => good E (b ρ) fun y => good E (c ρ) fun z => x.2 = 99 ∧ y.2 = 99 ∧ z.2 = 99 ∧ R (.tp [x.1, y.1, z.1], 99)) : good E (eTup (aCons a (aCons b (aCons c aNil))) ρ) R := by
  unfold eTup
  refine good_bind.mpr (gd_cons (good_imp h fun x h => gd_cons (good_imp h fun y h => gd_cons (good_imp h fun z h => ?_))))
  show good E (if lenOk [x.1, y.1, z.1] = true then M.ret (Tr.tp [x.1, y.1, z.1], lvT (Nat.ble 99 x.2 && (Nat.ble 99 y.2 && (Nat.ble 99 z.2 && true)))) else .bad) R
  rw [h.1, h.2.1, h.2.2.1]
  exact h.2.2.2
/-- a drawn line -/
theorem gd_line {ρ : En} {n : Nat} {R : Tr × Nat → Prop} (hf : isFd ρ[1]? = true) (h3 : ρ[3]? = some (.v (.int q) n)) (h1 : 0 < q) (h2 : q ≤ 16) (g : ∀ l : Ln, l.In q → R (l.tr, 99)) : good E (eTup (aCons (eFnF 1 1 f_law_draw (aCons (eVar 3) aNil)) (aCons (eFnF 1 1 f_law_draw (aCons (eVar 3) aNil)) (aCons (eFnF 1 1 f_law_draw (aCons (eVar 3) aNil)) aNil))) ρ) R :=
  gd_tup3 (gd_drq hf h3 h1 h2 fun a ha => gd_drq hf h3 h1 h2 fun b hb => gd_drq hf h3 h1 h2 fun c hc => ⟨rfl, rfl, rfl, g ⟨a, b, c⟩ ⟨ha, hb, hc⟩⟩)
theorem gd_ifs {c : Tx} {s t u : Sx} {ρ : En} (h : good E (c ρ) fun b => good E ((if b then s ρ else t ρ)) fun fl => good E (match fl with | .nx ρ' => u ρ' | x => .ret x) Q) : good E (sSeq (sIf c s t) u ρ) Q := by
  unfold sSeq sIf
  exact good_bind.mpr (good_bind.mpr h)
/-- a draw that is asked whether it is 0 -/
theorem gd_coin {n : Nat} {ρ : En} {R : Bool → Prop} (hf : isFd ρ[1]? = true) (h1 : 0 < n) (h2 : n ≤ 16) (g : ∀ b, R b) : good E (VL.tB (eBin oEq (eFnF 1 1 f_law_draw (aCons (eC (.int n)) aNil)) (eC (.int 0))) ρ) R := by
  unfold VL.tB
  refine good_bind.mpr (gd_bin (gd_draw hf (gd_eq (a := ([.int n], true)) rfl ⟨n, rfl, by omega, by omega, fun x x0 x1 => gd_eq (a := (.int 0, 99)) rfl ⟨.bl (decide (x = 0)), rfl, ?_⟩⟩)))
  exact g _
theorem gd_skip {s : Sx} {ρ : En} (h : good E (s ρ) Q) : good E (sSeq sSkip s ρ) Q := h
def tr3 (a b c : Nat) : Tr := .ls [.int a, .int b, .int c]
def mul1 (M : List (List Nat)) (t : Nat) : Tr → Tr
  | .int i => .int (lk M t i.toNat)
  | x => x
def C8 : Ex := eComp (iSeq (eVar 5)) [11] (gN 11) tYesV (eIx (eIx (eIx (eVar 4) (eC (.int 1))) (eVar 7)) (eVar 11))
section
variable {S M : List (List Nat)} {N I : List Nat}
theorem c8_run (C : Cks q S M N I) {l : Ln} (hl : l.In q) {s6 : Sl} {t : Nat} (ht : t < q) : C8 (Z q (.ls [tN S, tN M]) (.v l.tr 99) s6 (.v (.int t) 99) .no .no) = .ret (tr3 (lk M t l.a) (lk M t l.b) (lk M t l.c), 99) := by
  have T := tab_of C
  have go : ∀ x : Nat, x < q → ∃ ρ1, gN 11 (.int x) (wipeE [11] (Z q (.ls [tN S, tN M]) (.v l.tr 99) s6 (.v (.int t) 99) .no .no)) = .ret ρ1 ∧ (eIx (eIx (eIx (eVar 4) (eC (.int 1))) (eVar 7)) (eVar 11)) ρ1 = .ret (mul1 M t (.int x), 99) := fun x hx => by
    refine ⟨[.no, .feed, zeroS (.v Ns 99), .v (.int q) 0, .v (.ls [tN S, tN M]) 0, .v l.tr 0, zeroS s6, .v (.int t) 0, .no, .no, .no, .v (.int x) 99], rfl, ?_⟩
    have a1 : eIx (eVar 4) (eC (.int 1)) [.no, .feed, zeroS (.v Ns 99), .v (.int q) 0, .v (.ls [tN S, tN M]) 0, .v l.tr 0, zeroS s6, .v (.int t) 0, .no, .no, .no, .v (.int x) 99] = .ret (tN M, lvI (tN M) 0) := ix_run (x := (.ls [tN S, tN M], 0)) (y := (.int 1, 99)) rfl rfl rfl
    have a2 := ix_run (b := eVar 7) (y := (.int t, 99)) a1 rfl (T.M1 t ht)
    have a3 := ix_run (b := eVar 11) (y := (.int x, 99)) a2 rfl (T.M2 t x ht hx)
    exact a3
  exact comp_map (f := mul1 M t) (r := ([.int l.a, .int l.b, .int l.c], 99)) rfl rfl (fun u hu => by
    simp only [List.mem_cons, List.not_mem_nil, or_false] at hu
    rcases hu with rfl | rfl | rfl
    · exact go _ hl.1
    · exact go _ hl.2.1
    · exact go _ hl.2.2)
theorem l5_ok (C : Cks q S M N I) {l1 l2 : Ln} (h1 : l1.In q) (h2 : l2.In q) {u t : Sx} (hu : u = sSeq l5_law t) (g : ∀ l2 : Ln, l2.In q → ∀ s7 s8, Gd t (Z q (.ls [tN S, tN M]) (.v l1.tr 99) (.v l2.tr 99) s7 s8 .no) Q) : Gd u (Z q (.ls [tN S, tN M]) (.v l1.tr 99) (.v l2.tr 99) .no .no .no) Q := ⟨by
  have hq := C.lo
  have hq2 := C.hi
  have T := tab_of C
  rw [hu]
  unfold l5_law
  refine gd_ifs (gd_coin (n := 3) rfl (by decide) (by decide) fun b => ?_)
  cases b with
  | false => exact (g l2 h2 _ _).ok
  | true =>
    rw [if_pos rfl]
    refine gd_asg (gd_drq rfl rfl (by omega) hq2 fun k hk => ?_)
    refine gd_asg (gd_eq (c8_run C h1 hk) ?_)
    have e8 : ∀ a b c, a < q → b < q → c < q → good (fun _ _ => False) (sAsg 6 ([(8, 0)] ++ ([(8, 0)] ++ ([(8, 0)] ++ []))) (eTup (aCons (eIx (eVar 8) (eC (.int 0))) (aCons (eIx (eVar 8) (eC (.int 1))) (aCons (eIx (eVar 8) (eC (.int 2))) aNil)))) (Z q (.ls [tN S, tN M]) (.v l1.tr 99) (.v l2.tr 99) (.v (.int k) 99) (.v (tr3 a b c) 99) .no)) fun fl => good (fun _ _ => False) (match fl with | .nx ρ' => t ρ' | x => .ret x) Q := fun a b c ha hb hc => by
      refine gd_eq (asg_run (r := (Ln.tr ⟨a, b, c⟩, 99)) rfl) ?_
      exact (g ⟨a, b, c⟩ ⟨ha, hb, hc⟩ _ _).ok
    refine gd_ifs (gd_coin (n := 2) rfl (by decide) (by decide) fun b => ?_)
    have ma := T.cm k l1.a hk h1.1
    have mb := T.cm k l1.b hk h1.2.1
    have mc := T.cm k l1.c hk h1.2.2
    cases b with
    | false => exact e8 _ _ _ ma mb mc
    | true =>
      rw [if_pos rfl]
      refine good_bind.mpr (gd_drq (n := 0) rfl rfl (by omega) hq2 fun c' hc' => ?_)
      exact e8 _ _ c' ma mb hc'⟩
theorem l6_ok (hq : 2 ≤ q) {T : Tr} {s5 s6 s7 s8 : Sl} {u t : Sx} (hu : u = sSeq l6_law t) (g : ∀ l : Ln, l.In q → Gd t (Z q T s5 s6 s7 s8 (.v l.tr 99)) Q) : Gd u (Z q T s5 s6 s7 s8 .no) Q := ⟨by
  rw [hu]
  unfold l6_law
  refine gd_asg (gd_tup3 (gd_eq (a := (.int 0, 99)) rfl (gd_eq (a := (.int 0, 99)) rfl (gd_draw rfl (gd_eq (a := ([.int 2], true)) rfl ⟨2, rfl, by decide, by decide, fun x x0 x1 => ?_⟩)))))
  obtain ⟨a, rfl⟩ : ∃ a : Nat, x = (a : Int) := ⟨x.toNat, by omega⟩
  exact ⟨rfl, rfl, rfl, (g ⟨0, 0, a⟩ ⟨by show 0 < q; omega, by show 0 < q; omega, by show a < q; omega⟩).ok⟩⟩
def PL (q : Nat) (t : Tr) : Prop := ∃ l1 l2 : Ln, l1.In q ∧ l2.In q ∧ t = .ls [l1.tr, l2.tr]
structure GdI (src : En → VL.M (List Tr × Nat)) (ρ : En) (P : Tr → Prop) : Prop where
  ok : good (fun _ _ => False) (src ρ) fun r => ∀ t ∈ r.1, P t
theorem gd_seq_items {P : Tr → Prop} {u t b : Sx} {ds : List Nat} {rd : RD} {src : En → VL.M (List Tr × Nat)} {i : Nat} {ρ : En} (hu : u = sSeq (sFor rd src (gN i) (sNrm ds b)) t) (hi : i ∉ ds) (hs : GdI src ρ P) (hf : Fr (i :: ds) b)
    (hb : ∀ t, P t → Gd b ((wipeE ds ρ).set i (.v t 0)) fun fl => isNx fl = true) (hq : ∀ ρ', wipeE (i :: ds) ρ' = wipeE (i :: ds) ρ → Gd t ρ' Q) : Gd u ρ Q := ⟨by
  rw [hu]
  exact good_seq (for_items P hi hs.ok hf (fun t m => (hb t m).ok) fun ρ' e => (hq ρ' e).ok)⟩
def src7 : En → VL.M (List Tr × Nat) := iSeq (eLst (aCons (eLst (aCons (eVar 5) (aCons (eVar 6) aNil))) (aCons (eLst (aCons (eVar 6) (aCons (eVar 5) aNil))) (aCons (eLst (aCons (eVar 5) (aCons (eVar 9) aNil))) (aCons (eLst (aCons (eVar 9) (aCons (eTup (aCons (eC (.int 0)) (aCons (eC (.int 0)) (aCons (eC (.int 0)) aNil)))) aNil))) aNil)))))
theorem src7_ok (hq : 2 ≤ q) {T : Tr} {l1 l2 l3 : Ln} (h1 : l1.In q) (h2 : l2.In q) (h3 : l3.In q) {s7 s8 : Sl} : GdI src7 (Z q T (.v l1.tr 99) (.v l2.tr 99) s7 s8 (.v l3.tr 99)) (PL q) := ⟨by
  have e : src7 (Z q T (.v l1.tr 99) (.v l2.tr 99) s7 s8 (.v l3.tr 99)) = .ret ([.ls [l1.tr, l2.tr], .ls [l2.tr, l1.tr], .ls [l1.tr, l3.tr], .ls [l3.tr, Ln.tr ⟨0, 0, 0⟩]], 99) := rfl
  have hz : Ln.In ⟨0, 0, 0⟩ q := ⟨by show 0 < q; omega, by show 0 < q; omega, by show 0 < q; omega⟩
  refine gd_eq e fun t m => ?_
  simp only [List.mem_cons, List.not_mem_nil, or_false] at m
  rcases m with rfl | rfl | rfl | rfl
  · exact ⟨l1, l2, h1, h2, rfl⟩
  · exact ⟨l2, l1, h2, h1, rfl⟩
  · exact ⟨l1, l3, h1, h3, rfl⟩
  · exact ⟨l3, _, h3, hz, rfl⟩⟩
def d7 : List Nat := [2, 5, 6, 7, 8, 9, 11]
theorem fr_k1 : Fr (10 :: d7) k1_law := by
  unfold k1_law
  exact fr_if fr_ret fr_skip
theorem k1_go {ρ : En} (e : eFn 3 f_law_asked (aCons (eVar 4) (aCons (eVar 3) (aCons (eVar 10) aNil))) ρ = .ret (.bl true, 99)) : Gd k1_law ρ fun fl => isNx fl = true := ⟨by
  have e2 := if_run (s1 := sRet (eC (.bl false))) (s2 := sSkip) (not_run (tru_run e))
  exact gd_eq (m := k1_law ρ) (a := .nx ρ) e2 rfl⟩
theorem k1_ok (h : QOk q S M N I) {t : Tr} (ht : PL q t) {s5 s6 s7 s8 s9 : Sl} : Gd k1_law ((wipeE d7 (Z q (.ls [tN S, tN M]) s5 s6 s7 s8 s9)).set 10 (.v t 0)) fun fl => isNx fl = true := by
  obtain ⟨l1, l2, h1, h2, e⟩ := ht
  subst e
  have ha := asked_ok h.ck h.hF h1 h2
  exact k1_go (eFn_run (n := 3) (ts := [.ls [tN S, tN M], .int q, .ls [l1.tr, l2.tr]]) (b := false) rfl rfl ha)
theorem t7 (h : QOk q S M N I) {l1 l2 l3 : Ln} (h1 : l1.In q) (h2 : l2.In q) (h3 : l3.In q) {s7 s8 : Sl} : Gd t7_law (Z q (.ls [tN S, tN M]) (.v l1.tr 99) (.v l2.tr 99) s7 s8 (.v l3.tr 99)) Qf := gd_seq_items (P := PL q) (ds := d7) (i := 10) (b := k1_law) (t := t8_law) rfl (by decide) (src7_ok h.ck.lo h1 h2 h3) fr_k1 (fun t m => k1_ok h m) fun ρ' _ => gd_chk rfl
theorem t3 (h : QOk q S M N I) : Gd t3_law (Z q (.ls [tN S, tN M]) .no .no .no .no .no) Qf := ⟨by
  have hq := h.ck.lo
  have hq2 := h.ck.hi
  refine gd_asg (gd_line rfl rfl (by omega) hq2 fun l1 h1 => ?_)
  refine gd_asg (gd_line rfl rfl (by omega) hq2 fun l2 h2 => ?_)
  exact (l5_ok (t := t6_law) (u := t5_law) h.ck h1 h2 rfl fun l2 h2 s7 s8 => l6_ok (t := t7_law) hq rfl fun l3 h3 => t7 h h1 h2 h3).ok⟩
theorem t2 (h : QOk q S M N I) : Gd t2_law (X q) Qf := gd_step (s := l2_law) (t := t3_law) rfl h.h2 (t3 h)
end
end Lk59

set_option Elab.async false
set_option linter.all false
set_option maxRecDepth 100000
set_option maxHeartbeats 400000
namespace Lk59
open PySem PySem.Spec PyProof.Rows L2 VL
def sN2 : List (List Nat) := [[0, 1], [1, 0]]
def mN2 : List (List Nat) := [[0, 0], [0, 1]]
def nN2 : List Nat := [0, 1]
def iN2 : List Nat := [0, 1]
theorem cks2 : Cks 2 sN2 mN2 nN2 iN2 := ⟨by decide, by decide, by decide +kernel, by decide +kernel, by decide +kernel, by decide +kernel, by decide +kernel, by decide +kernel, by decide +kernel⟩
theorem fo2 : f_field_of [.int (2 : Nat)] = .ret (.tp [tN sN2, tN mN2], 0) := by kernel_rfl
theorem lt2 : l2_law (X 2) = .ret (.nx (Z 2 (.ls [tN sN2, tN mN2]) .no .no .no .no .no)) := by kernel_rfl
theorem q2 : QOk 2 sN2 mN2 nN2 iN2 := ⟨cks2, fo2, lt2⟩
def sN3 : List (List Nat) := [[0, 1, 2], [1, 2, 0], [2, 0, 1]]
def mN3 : List (List Nat) := [[0, 0, 0], [0, 1, 2], [0, 2, 1]]
def nN3 : List Nat := [0, 2, 1]
def iN3 : List Nat := [0, 1, 2]
theorem cks3 : Cks 3 sN3 mN3 nN3 iN3 := ⟨by decide, by decide, by decide +kernel, by decide +kernel, by decide +kernel, by decide +kernel, by decide +kernel, by decide +kernel, by decide +kernel⟩
theorem fo3 : f_field_of [.int (3 : Nat)] = .ret (.tp [tN sN3, tN mN3], 0) := by kernel_rfl
theorem lt3 : l2_law (X 3) = .ret (.nx (Z 3 (.ls [tN sN3, tN mN3]) .no .no .no .no .no)) := by kernel_rfl
theorem q3 : QOk 3 sN3 mN3 nN3 iN3 := ⟨cks3, fo3, lt3⟩
def sN4 : List (List Nat) := [[0, 1, 2, 3], [1, 0, 3, 2], [2, 3, 0, 1], [3, 2, 1, 0]]
def mN4 : List (List Nat) := [[0, 0, 0, 0], [0, 1, 2, 3], [0, 2, 3, 1], [0, 3, 1, 2]]
def nN4 : List Nat := [0, 1, 2, 3]
def iN4 : List Nat := [0, 1, 3, 2]
theorem cks4 : Cks 4 sN4 mN4 nN4 iN4 := ⟨by decide, by decide, by decide +kernel, by decide +kernel, by decide +kernel, by decide +kernel, by decide +kernel, by decide +kernel, by decide +kernel⟩
theorem fo4 : f_field_of [.int (4 : Nat)] = .ret (.tp [tN sN4, tN mN4], 0) := by kernel_rfl
theorem lt4 : l2_law (X 4) = .ret (.nx (Z 4 (.ls [tN sN4, tN mN4]) .no .no .no .no .no)) := by kernel_rfl
theorem q4 : QOk 4 sN4 mN4 nN4 iN4 := ⟨cks4, fo4, lt4⟩
def sN5 : List (List Nat) := [[0, 1, 2, 3, 4], [1, 2, 3, 4, 0], [2, 3, 4, 0, 1], [3, 4, 0, 1, 2], [4, 0, 1, 2, 3]]
def mN5 : List (List Nat) := [[0, 0, 0, 0, 0], [0, 1, 2, 3, 4], [0, 2, 4, 1, 3], [0, 3, 1, 4, 2], [0, 4, 3, 2, 1]]
def nN5 : List Nat := [0, 4, 3, 2, 1]
def iN5 : List Nat := [0, 1, 3, 2, 4]
theorem cks5 : Cks 5 sN5 mN5 nN5 iN5 := ⟨by decide, by decide, by decide +kernel, by decide +kernel, by decide +kernel, by decide +kernel, by decide +kernel, by decide +kernel, by decide +kernel⟩
theorem fo5 : f_field_of [.int (5 : Nat)] = .ret (.tp [tN sN5, tN mN5], 0) := by kernel_rfl
theorem lt5 : l2_law (X 5) = .ret (.nx (Z 5 (.ls [tN sN5, tN mN5]) .no .no .no .no .no)) := by kernel_rfl
theorem q5 : QOk 5 sN5 mN5 nN5 iN5 := ⟨cks5, fo5, lt5⟩
def sN7 : List (List Nat) := [[0, 1, 2, 3, 4, 5, 6], [1, 2, 3, 4, 5, 6, 0], [2, 3, 4, 5, 6, 0, 1], [3, 4, 5, 6, 0, 1, 2], [4, 5, 6, 0, 1, 2, 3], [5, 6, 0, 1, 2, 3, 4], [6, 0, 1, 2, 3, 4, 5]]
def mN7 : List (List Nat) := [[0, 0, 0, 0, 0, 0, 0], [0, 1, 2, 3, 4, 5, 6], [0, 2, 4, 6, 1, 3, 5], [0, 3, 6, 2, 5, 1, 4], [0, 4, 1, 5, 2, 6, 3], [0, 5, 3, 1, 6, 4, 2], [0, 6, 5, 4, 3, 2, 1]]
def nN7 : List Nat := [0, 6, 5, 4, 3, 2, 1]
def iN7 : List Nat := [0, 1, 4, 5, 2, 3, 6]
theorem cks7 : Cks 7 sN7 mN7 nN7 iN7 := ⟨by decide, by decide, by decide +kernel, by decide +kernel, by decide +kernel, by decide +kernel, by decide +kernel, by decide +kernel, by decide +kernel⟩
theorem fo7 : f_field_of [.int (7 : Nat)] = .ret (.tp [tN sN7, tN mN7], 0) := by kernel_rfl
theorem lt7 : l2_law (X 7) = .ret (.nx (Z 7 (.ls [tN sN7, tN mN7]) .no .no .no .no .no)) := by kernel_rfl
theorem q7 : QOk 7 sN7 mN7 nN7 iN7 := ⟨cks7, fo7, lt7⟩
def sN8 : List (List Nat) := [[0, 1, 2, 3, 4, 5, 6, 7], [1, 0, 3, 2, 5, 4, 7, 6], [2, 3, 0, 1, 6, 7, 4, 5], [3, 2, 1, 0, 7, 6, 5, 4], [4, 5, 6, 7, 0, 1, 2, 3], [5, 4, 7, 6, 1, 0, 3, 2], [6, 7, 4, 5, 2, 3, 0, 1], [7, 6, 5, 4, 3, 2, 1, 0]]
def mN8 : List (List Nat) := [[0, 0, 0, 0, 0, 0, 0, 0], [0, 1, 2, 3, 4, 5, 6, 7], [0, 2, 4, 6, 3, 1, 7, 5], [0, 3, 6, 5, 7, 4, 1, 2], [0, 4, 3, 7, 6, 2, 5, 1], [0, 5, 1, 4, 2, 7, 3, 6], [0, 6, 7, 1, 5, 3, 2, 4], [0, 7, 5, 2, 1, 6, 4, 3]]
def nN8 : List Nat := [0, 1, 2, 3, 4, 5, 6, 7]
def iN8 : List Nat := [0, 1, 5, 6, 7, 2, 3, 4]
theorem cks8 : Cks 8 sN8 mN8 nN8 iN8 := ⟨by decide, by decide, by decide +kernel, by decide +kernel, by decide +kernel, by decide +kernel, by decide +kernel, by decide +kernel, by decide +kernel⟩
theorem fo8 : f_field_of [.int (8 : Nat)] = .ret (.tp [tN sN8, tN mN8], 0) := by kernel_rfl
theorem lt8 : l2_law (X 8) = .ret (.nx (Z 8 (.ls [tN sN8, tN mN8]) .no .no .no .no .no)) := by kernel_rfl
theorem q8 : QOk 8 sN8 mN8 nN8 iN8 := ⟨cks8, fo8, lt8⟩
def sN9 : List (List Nat) := [[0, 1, 2, 3, 4, 5, 6, 7, 8], [1, 2, 0, 4, 5, 3, 7, 8, 6], [2, 0, 1, 5, 3, 4, 8, 6, 7], [3, 4, 5, 6, 7, 8, 0, 1, 2], [4, 5, 3, 7, 8, 6, 1, 2, 0], [5, 3, 4, 8, 6, 7, 2, 0, 1], [6, 7, 8, 0, 1, 2, 3, 4, 5], [7, 8, 6, 1, 2, 0, 4, 5, 3], [8, 6, 7, 2, 0, 1, 5, 3, 4]]
def mN9 : List (List Nat) := [[0, 0, 0, 0, 0, 0, 0, 0, 0], [0, 1, 2, 3, 4, 5, 6, 7, 8], [0, 2, 1, 6, 8, 7, 3, 5, 4], [0, 3, 6, 2, 5, 8, 1, 4, 7], [0, 4, 8, 5, 6, 1, 7, 2, 3], [0, 5, 7, 8, 1, 3, 4, 6, 2], [0, 6, 3, 1, 7, 4, 2, 8, 5], [0, 7, 5, 4, 2, 6, 8, 3, 1], [0, 8, 4, 7, 3, 2, 5, 1, 6]]
def nN9 : List Nat := [0, 2, 1, 6, 8, 7, 3, 5, 4]
def iN9 : List Nat := [0, 1, 2, 6, 5, 4, 3, 8, 7]
theorem cks9 : Cks 9 sN9 mN9 nN9 iN9 := ⟨by decide, by decide, by decide +kernel, by decide +kernel, by decide +kernel, by decide +kernel, by decide +kernel, by decide +kernel, by decide +kernel⟩
theorem fo9 : f_field_of [.int (9 : Nat)] = .ret (.tp [tN sN9, tN mN9], 0) := by kernel_rfl
theorem lt9 : l2_law (X 9) = .ret (.nx (Z 9 (.ls [tN sN9, tN mN9]) .no .no .no .no .no)) := by kernel_rfl
theorem q9 : QOk 9 sN9 mN9 nN9 iN9 := ⟨cks9, fo9, lt9⟩
def sN11 : List (List Nat) := [[0, 1, 2, 3, 4, 5, 6, 7, 8, 9, 10], [1, 2, 3, 4, 5, 6, 7, 8, 9, 10, 0], [2, 3, 4, 5, 6, 7, 8, 9, 10, 0, 1], [3, 4, 5, 6, 7, 8, 9, 10, 0, 1, 2], [4, 5, 6, 7, 8, 9, 10, 0, 1, 2, 3], [5, 6, 7, 8, 9, 10, 0, 1, 2, 3, 4], [6, 7, 8, 9, 10, 0, 1, 2, 3, 4, 5], [7, 8, 9, 10, 0, 1, 2, 3, 4, 5, 6], [8, 9, 10, 0, 1, 2, 3, 4, 5, 6, 7], [9, 10, 0, 1, 2, 3, 4, 5, 6, 7, 8], [10, 0, 1, 2, 3, 4, 5, 6, 7, 8, 9]]
def mN11 : List (List Nat) := [[0, 0, 0, 0, 0, 0, 0, 0, 0, 0, 0], [0, 1, 2, 3, 4, 5, 6, 7, 8, 9, 10], [0, 2, 4, 6, 8, 10, 1, 3, 5, 7, 9], [0, 3, 6, 9, 1, 4, 7, 10, 2, 5, 8], [0, 4, 8, 1, 5, 9, 2, 6, 10, 3, 7], [0, 5, 10, 4, 9, 3, 8, 2, 7, 1, 6], [0, 6, 1, 7, 2, 8, 3, 9, 4, 10, 5], [0, 7, 3, 10, 6, 2, 9, 5, 1, 8, 4], [0, 8, 5, 2, 10, 7, 4, 1, 9, 6, 3], [0, 9, 7, 5, 3, 1, 10, 8, 6, 4, 2], [0, 10, 9, 8, 7, 6, 5, 4, 3, 2, 1]]
def nN11 : List Nat := [0, 10, 9, 8, 7, 6, 5, 4, 3, 2, 1]
def iN11 : List Nat := [0, 1, 6, 4, 3, 9, 2, 8, 7, 5, 10]
theorem cks11 : Cks 11 sN11 mN11 nN11 iN11 := ⟨by decide, by decide, by decide +kernel, by decide +kernel, by decide +kernel, by decide +kernel, by decide +kernel, by decide +kernel, by decide +kernel⟩
theorem fo11 : f_field_of [.int (11 : Nat)] = .ret (.tp [tN sN11, tN mN11], 0) := by kernel_rfl
theorem lt11 : l2_law (X 11) = .ret (.nx (Z 11 (.ls [tN sN11, tN mN11]) .no .no .no .no .no)) := by kernel_rfl
theorem q11 : QOk 11 sN11 mN11 nN11 iN11 := ⟨cks11, fo11, lt11⟩
def sN13 : List (List Nat) := [[0, 1, 2, 3, 4, 5, 6, 7, 8, 9, 10, 11, 12], [1, 2, 3, 4, 5, 6, 7, 8, 9, 10, 11, 12, 0], [2, 3, 4, 5, 6, 7, 8, 9, 10, 11, 12, 0, 1], [3, 4, 5, 6, 7, 8, 9, 10, 11, 12, 0, 1, 2], [4, 5, 6, 7, 8, 9, 10, 11, 12, 0, 1, 2, 3], [5, 6, 7, 8, 9, 10, 11, 12, 0, 1, 2, 3, 4], [6, 7, 8, 9, 10, 11, 12, 0, 1, 2, 3, 4, 5], [7, 8, 9, 10, 11, 12, 0, 1, 2, 3, 4, 5, 6], [8, 9, 10, 11, 12, 0, 1, 2, 3, 4, 5, 6, 7], [9, 10, 11, 12, 0, 1, 2, 3, 4, 5, 6, 7, 8], [10, 11, 12, 0, 1, 2, 3, 4, 5, 6, 7, 8, 9], [11, 12, 0, 1, 2, 3, 4, 5, 6, 7, 8, 9, 10], [12, 0, 1, 2, 3, 4, 5, 6, 7, 8, 9, 10, 11]]
def mN13 : List (List Nat) := [[0, 0, 0, 0, 0, 0, 0, 0, 0, 0, 0, 0, 0], [0, 1, 2, 3, 4, 5, 6, 7, 8, 9, 10, 11, 12], [0, 2, 4, 6, 8, 10, 12, 1, 3, 5, 7, 9, 11], [0, 3, 6, 9, 12, 2, 5, 8, 11, 1, 4, 7, 10], [0, 4, 8, 12, 3, 7, 11, 2, 6, 10, 1, 5, 9], [0, 5, 10, 2, 7, 12, 4, 9, 1, 6, 11, 3, 8], [0, 6, 12, 5, 11, 4, 10, 3, 9, 2, 8, 1, 7], [0, 7, 1, 8, 2, 9, 3, 10, 4, 11, 5, 12, 6], [0, 8, 3, 11, 6, 1, 9, 4, 12, 7, 2, 10, 5], [0, 9, 5, 1, 10, 6, 2, 11, 7, 3, 12, 8, 4], [0, 10, 7, 4, 1, 11, 8, 5, 2, 12, 9, 6, 3], [0, 11, 9, 7, 5, 3, 1, 12, 10, 8, 6, 4, 2], [0, 12, 11, 10, 9, 8, 7, 6, 5, 4, 3, 2, 1]]
def nN13 : List Nat := [0, 12, 11, 10, 9, 8, 7, 6, 5, 4, 3, 2, 1]
def iN13 : List Nat := [0, 1, 7, 9, 10, 8, 11, 2, 5, 3, 4, 6, 12]
theorem cks13 : Cks 13 sN13 mN13 nN13 iN13 := ⟨by decide, by decide, by decide +kernel, by decide +kernel, by decide +kernel, by decide +kernel, by decide +kernel, by decide +kernel, by decide +kernel⟩
theorem fo13 : f_field_of [.int (13 : Nat)] = .ret (.tp [tN sN13, tN mN13], 0) := by kernel_rfl
theorem lt13 : l2_law (X 13) = .ret (.nx (Z 13 (.ls [tN sN13, tN mN13]) .no .no .no .no .no)) := by kernel_rfl
theorem q13 : QOk 13 sN13 mN13 nN13 iN13 := ⟨cks13, fo13, lt13⟩
def sN16 : List (List Nat) := [[0, 1, 2, 3, 4, 5, 6, 7, 8, 9, 10, 11, 12, 13, 14, 15], [1, 0, 3, 2, 5, 4, 7, 6, 9, 8, 11, 10, 13, 12, 15, 14], [2, 3, 0, 1, 6, 7, 4, 5, 10, 11, 8, 9, 14, 15, 12, 13], [3, 2, 1, 0, 7, 6, 5, 4, 11, 10, 9, 8, 15, 14, 13, 12], [4, 5, 6, 7, 0, 1, 2, 3, 12, 13, 14, 15, 8, 9, 10, 11], [5, 4, 7, 6, 1, 0, 3, 2, 13, 12, 15, 14, 9, 8, 11, 10], [6, 7, 4, 5, 2, 3, 0, 1, 14, 15, 12, 13, 10, 11, 8, 9], [7, 6, 5, 4, 3, 2, 1, 0, 15, 14, 13, 12, 11, 10, 9, 8], [8, 9, 10, 11, 12, 13, 14, 15, 0, 1, 2, 3, 4, 5, 6, 7], [9, 8, 11, 10, 13, 12, 15, 14, 1, 0, 3, 2, 5, 4, 7, 6], [10, 11, 8, 9, 14, 15, 12, 13, 2, 3, 0, 1, 6, 7, 4, 5], [11, 10, 9, 8, 15, 14, 13, 12, 3, 2, 1, 0, 7, 6, 5, 4], [12, 13, 14, 15, 8, 9, 10, 11, 4, 5, 6, 7, 0, 1, 2, 3], [13, 12, 15, 14, 9, 8, 11, 10, 5, 4, 7, 6, 1, 0, 3, 2], [14, 15, 12, 13, 10, 11, 8, 9, 6, 7, 4, 5, 2, 3, 0, 1], [15, 14, 13, 12, 11, 10, 9, 8, 7, 6, 5, 4, 3, 2, 1, 0]]
def mN16 : List (List Nat) := [[0, 0, 0, 0, 0, 0, 0, 0, 0, 0, 0, 0, 0, 0, 0, 0], [0, 1, 2, 3, 4, 5, 6, 7, 8, 9, 10, 11, 12, 13, 14, 15], [0, 2, 4, 6, 8, 10, 12, 14, 3, 1, 7, 5, 11, 9, 15, 13], [0, 3, 6, 5, 12, 15, 10, 9, 11, 8, 13, 14, 7, 4, 1, 2], [0, 4, 8, 12, 3, 7, 11, 15, 6, 2, 14, 10, 5, 1, 13, 9], [0, 5, 10, 15, 7, 2, 13, 8, 14, 11, 4, 1, 9, 12, 3, 6], [0, 6, 12, 10, 11, 13, 7, 1, 5, 3, 9, 15, 14, 8, 2, 4], [0, 7, 14, 9, 15, 8, 1, 6, 13, 10, 3, 4, 2, 5, 12, 11], [0, 8, 3, 11, 6, 14, 5, 13, 12, 4, 15, 7, 10, 2, 9, 1], [0, 9, 1, 8, 2, 11, 3, 10, 4, 13, 5, 12, 6, 15, 7, 14], [0, 10, 7, 13, 14, 4, 9, 3, 15, 5, 8, 2, 1, 11, 6, 12], [0, 11, 5, 14, 10, 1, 15, 4, 7, 12, 2, 9, 13, 6, 8, 3], [0, 12, 11, 7, 5, 9, 14, 2, 10, 6, 1, 13, 15, 3, 4, 8], [0, 13, 9, 4, 1, 12, 8, 5, 2, 15, 11, 6, 3, 14, 10, 7], [0, 14, 15, 1, 13, 3, 2, 12, 9, 7, 6, 8, 4, 10, 11, 5], [0, 15, 13, 2, 9, 6, 4, 11, 1, 14, 12, 3, 8, 7, 5, 10]]
def nN16 : List Nat := [0, 1, 2, 3, 4, 5, 6, 7, 8, 9, 10, 11, 12, 13, 14, 15]
def iN16 : List Nat := [0, 1, 9, 14, 13, 11, 7, 6, 15, 2, 12, 5, 10, 4, 3, 8]
theorem cks16 : Cks 16 sN16 mN16 nN16 iN16 := ⟨by decide, by decide, by decide +kernel, by decide +kernel, by decide +kernel, by decide +kernel, by decide +kernel, by decide +kernel, by decide +kernel⟩
theorem fo16 : f_field_of [.int (16 : Nat)] = .ret (.tp [tN sN16, tN mN16], 0) := by kernel_rfl
theorem lt16 : l2_law (X 16) = .ret (.nx (Z 16 (.ls [tN sN16, tN mN16]) .no .no .no .no .no)) := by kernel_rfl
theorem q16 : QOk 16 sN16 mN16 nN16 iN16 := ⟨cks16, fo16, lt16⟩
theorem g1' {u t : Sx} {Q : Fl → Prop} (hu : u = sSeq l1_law t) (g : ∀ q : Nat, q ∈ [2, 3, 4, 5, 7, 8, 9, 11, 13, 16] → Gd t (X q) Q) : Gd u X1 Q := ⟨by
  rw [hu]
  unfold l1_law
  refine gd_asg (gd_ix (gd_eq (a := (Ns, 0)) rfl (gd_draw rfl (gd_eq (a := ([.int 10], true)) rfl ⟨10, rfl, by decide, by decide, fun j j0 j1 => ?_⟩))))
  obtain ⟨n, rfl⟩ : ∃ n : Nat, j = (n : Int) := ⟨j.toNat, by omega⟩
  have hn : n < 10 := by omega
  match n, hn with
  | 0, _ => exact ⟨.int 2, rfl, (g 2 (by simp)).ok⟩
  | 1, _ => exact ⟨.int 3, rfl, (g 3 (by simp)).ok⟩
  | 2, _ => exact ⟨.int 4, rfl, (g 4 (by simp)).ok⟩
  | 3, _ => exact ⟨.int 5, rfl, (g 5 (by simp)).ok⟩
  | 4, _ => exact ⟨.int 7, rfl, (g 7 (by simp)).ok⟩
  | 5, _ => exact ⟨.int 8, rfl, (g 8 (by simp)).ok⟩
  | 6, _ => exact ⟨.int 9, rfl, (g 9 (by simp)).ok⟩
  | 7, _ => exact ⟨.int 11, rfl, (g 11 (by simp)).ok⟩
  | 8, _ => exact ⟨.int 13, rfl, (g 13 (by simp)).ok⟩
  | 9, _ => exact ⟨.int 16, rfl, (g 16 (by simp)).ok⟩⟩
theorem g2 {q : Nat} (m : q ∈ [2, 3, 4, 5, 7, 8, 9, 11, 13, 16]) : Gd t2_law (X q) Qf := by
  simp only [List.mem_cons, List.not_mem_nil, or_false] at m
  rcases m with rfl | rfl | rfl | rfl | rfl | rfl | rfl | rfl | rfl | rfl
  · exact t2 q2
  · exact t2 q3
  · exact t2 q4
  · exact t2 q5
  · exact t2 q7
  · exact t2 q8
  · exact t2 q9
  · exact t2 q11
  · exact t2 q13
  · exact t2 q16
theorem holds : LawOk 10 b_law := gd_law (ρ := x0) rfl (gd_step (s := l0_law) (t := t1_law) rfl h0 (g1' (t := t2_law) rfl fun q m => g2 m))
end Lk59

set_option Elab.async false
set_option linter.all false
set_option maxRecDepth 100000
set_option maxHeartbeats 400000
namespace Lk59
open PySem PySem.Spec PyProof.Rows L2 VL
theorem tm0_ok : allL tm0 (ckE f_law_times) = true := by decide +kernel
theorem tm1_ok : allL tm1 (ckE f_law_times) = true := by decide +kernel
theorem tm2_ok : allL tm2 (ckE f_law_times) = true := by decide +kernel
theorem tm3_ok : allL tm3 (ckE f_law_times) = true := by decide +kernel
theorem tm4_ok : allL tm4 (ckE f_law_times) = true := by decide +kernel
theorem tm5_ok : allL tm5 (ckE f_law_times) = true := by decide +kernel
theorem tm6_ok : allL tm6 (ckE f_law_times) = true := by decide +kernel
theorem tm7_ok : allL tm7 (ckE f_law_times) = true := by decide +kernel
theorem tm8_ok : allL tm8 (ckE f_law_times) = true := by decide +kernel
theorem tm9_ok : allL tm9 (ckE f_law_times) = true := by decide +kernel
theorem tm10_ok : allL tm10 (ckE f_law_times) = true := by decide +kernel
theorem tm11_ok : allL tm11 (ckE f_law_times) = true := by decide +kernel
theorem tm12_ok : allL tm12 (ckE f_law_times) = true := by decide +kernel
theorem tm13_ok : allL tm13 (ckE f_law_times) = true := by decide +kernel
theorem tm14_ok : allL tm14 (ckE f_law_times) = true := by decide +kernel
theorem tm15_ok : allL tm15 (ckE f_law_times) = true := by decide +kernel
theorem ref_law_times : Refn sp_times f_law_times := refn_spA (by
  unfold tmA
  exact allL_app tm0_ok (allL_app tm1_ok (allL_app tm2_ok (allL_app tm3_ok (allL_app tm4_ok (allL_app tm5_ok (allL_app tm6_ok (allL_app tm7_ok (allL_app tm8_ok (allL_app tm9_ok (allL_app tm10_ok (allL_app tm11_ok (allL_app tm12_ok (allL_app tm13_ok (allL_app tm14_ok (tm15_ok))))))))))))))))
theorem p2 : f_products_of [.int 2] = .ret (P2, 1) := by kernel_rfl
theorem p3 : f_products_of [.int 3] = .ret (P3, 1) := by kernel_rfl
theorem p4 : f_products_of [.int 4] = .ret (P4, 1) := by kernel_rfl
theorem p5 : f_products_of [.int 5] = .ret (P5, 1) := by kernel_rfl
theorem p7 : f_products_of [.int 7] = .ret (P7, 1) := by kernel_rfl
theorem p8 : f_products_of [.int 8] = .ret (P8, 1) := by kernel_rfl
theorem p9 : f_products_of [.int 9] = .ret (P9, 1) := by kernel_rfl
theorem p11 : f_products_of [.int 11] = .ret (P11, 1) := by kernel_rfl
theorem p13 : f_products_of [.int 13] = .ret (P13, 1) := by kernel_rfl
theorem p16 : f_products_of [.int 16] = .ret (P16, 1) := by kernel_rfl
theorem sp_prod_eq (ts : List Tr) : sp_prod ts = f_products_of ts := by
  unfold sp_prod
  split
  · rename_i q
    unfold tabQ
    by_cases c2 : q = 2
    · subst c2; exact p2.symm
    rw [if_neg c2]
    by_cases c3 : q = 3
    · subst c3; exact p3.symm
    rw [if_neg c3]
    by_cases c4 : q = 4
    · subst c4; exact p4.symm
    rw [if_neg c4]
    by_cases c5 : q = 5
    · subst c5; exact p5.symm
    rw [if_neg c5]
    by_cases c7 : q = 7
    · subst c7; exact p7.symm
    rw [if_neg c7]
    by_cases c8 : q = 8
    · subst c8; exact p8.symm
    rw [if_neg c8]
    by_cases c9 : q = 9
    · subst c9; exact p9.symm
    rw [if_neg c9]
    by_cases c11 : q = 11
    · subst c11; exact p11.symm
    rw [if_neg c11]
    by_cases c13 : q = 13
    · subst c13; exact p13.symm
    rw [if_neg c13]
    by_cases c16 : q = 16
    · subst c16; exact p16.symm
    rw [if_neg c16]
  · rfl
theorem ref_products_of : Refn sp_prod f_products_of := fun ts Q h => by
  rw [← sp_prod_eq]
  exact h
end Lk59

set_option maxHeartbeats 40000000

namespace Lk59
open PySem PySem.Spec PyProof.Rows L2 VL
def d_law_pairs : He.DefD := ⟨("_law_pairs", none), "_law_pairs", "_law_pairs", defArgs s_law_pairs, defBody s_law_pairs, defScope s_law_pairs, [], []⟩
def d_law_same : He.DefD := ⟨("_law_same", none), "_law_same", "_law_same", defArgs s_law_same, defBody s_law_same, defScope s_law_same, [], []⟩
def d_prime_and_degree : He.DefD := ⟨("prime_and_degree", none), "prime_and_degree", "prime_and_degree", defArgs s_prime_and_degree, defBody s_prime_and_degree, defScope s_prime_and_degree, [], []⟩
def d_figures : He.DefD := ⟨("figures", none), "figures", "figures", defArgs s_figures, defBody s_figures, defScope s_figures, [], []⟩
def d_number_of : He.DefD := ⟨("number_of", none), "number_of", "number_of", defArgs s_number_of, defBody s_number_of, defScope s_number_of, [], []⟩
def d_rest_by : He.DefD := ⟨("rest_by", none), "rest_by", "rest_by", defArgs s_rest_by, defBody s_rest_by, defScope s_rest_by, [], []⟩
def d_power_of : He.DefD := ⟨("power_of", none), "power_of", "power_of", defArgs s_power_of, defBody s_power_of, defScope s_power_of, [], []⟩
def d_rules_of_degree : He.DefD := ⟨("rules_of_degree", none), "rules_of_degree", "rules_of_degree", defArgs s_rules_of_degree, defBody s_rules_of_degree, defScope s_rules_of_degree, [], []⟩
def d_is_product : He.DefD := ⟨("is_product", none), "is_product", "is_product", defArgs s_is_product, defBody s_is_product, defScope s_is_product, [], []⟩
def d_rule_of : He.DefD := ⟨("rule_of", none), "rule_of", "rule_of", defArgs s_rule_of, defBody s_rule_of, defScope s_rule_of, [], []⟩
def d_times_unknown : He.DefD := ⟨("times_unknown", none), "times_unknown", "times_unknown", defArgs s_times_unknown, defBody s_times_unknown, defScope s_times_unknown, [], []⟩
def d_products_of : He.DefD := ⟨("products_of", none), "products_of", "products_of", defArgs s_products_of, defBody s_products_of, defScope s_products_of, [], []⟩
def d_sums_of : He.DefD := ⟨("sums_of", none), "sums_of", "sums_of", defArgs s_sums_of, defBody s_sums_of, defScope s_sums_of, [], []⟩
def d_field_of : He.DefD := ⟨("field_of", none), "field_of", "field_of", defArgs s_field_of, defBody s_field_of, defScope s_field_of, [], []⟩
def d_solve_two : He.DefD := ⟨("solve_two", none), "solve_two", "solve_two", defArgs s_solve_two, defBody s_solve_two, defScope s_solve_two, [], []⟩
def d_law_asked : He.DefD := ⟨("_law_asked", none), "_law_asked", "_law_asked", defArgs s_law_asked, defBody s_law_asked, defScope s_law_asked, [], []⟩
def d_law_draw : He.DefD := ⟨("_law_draw", none), "_law_draw", "_law_draw", defArgs s_law_draw, defBody s_law_draw, defScope s_law_draw, [], []⟩
def d_law_feed : He.DefD := ⟨("_law_feed", none), "_law_feed", "_law_feed", defArgs s_law_feed, defBody s_law_feed, defScope s_law_feed, [], []⟩
def d_law_figures : He.DefD := ⟨("_law_figures", none), "_law_figures", "_law_figures", defArgs s_law_figures, defBody s_law_figures, defScope s_law_figures, [], []⟩
def d_law_number : He.DefD := ⟨("_law_number", none), "_law_number", "_law_number", defArgs s_law_number, defBody s_law_number, defScope s_law_number, [], []⟩
def d_law_plus : He.DefD := ⟨("_law_plus", none), "_law_plus", "_law_plus", defArgs s_law_plus, defBody s_law_plus, defScope s_law_plus, [], []⟩
def d_law_prime : He.DefD := ⟨("_law_prime", none), "_law_prime", "_law_prime", defArgs s_law_prime, defBody s_law_prime, defScope s_law_prime, [], []⟩
def d_law_rule : He.DefD := ⟨("_law_rule", none), "_law_rule", "_law_rule", defArgs s_law_rule, defBody s_law_rule, defScope s_law_rule, [], []⟩
def d_law_times : He.DefD := ⟨("_law_times", none), "_law_times", "_law_times", defArgs s_law_times, defBody s_law_times, defScope s_law_times, [], []⟩
def d_law_tables : He.DefD := ⟨("_law_tables", none), "_law_tables", "_law_tables", defArgs s_law_tables, defBody s_law_tables, defScope s_law_tables, [], []⟩
def d_law : He.DefD := ⟨("law", none), "law", "law", defArgs s_law, defBody s_law, defScope s_law, [], []⟩
def fn : List He.DefD := [d_law_pairs, d_law_same, d_prime_and_degree, d_figures, d_number_of, d_rest_by, d_power_of, d_rules_of_degree, d_is_product, d_rule_of, d_times_unknown, d_products_of, d_sums_of, d_field_of, d_solve_two, d_law_asked, d_law_draw, d_law_feed, d_law_figures, d_law_number, d_law_plus, d_law_prime, d_law_rule, d_law_times, d_law_tables, d_law]
def bs : List (Str × String) := []
def fa : List He.Fa := [.glo "_law_pairs", .glo "_law_same", .glo "prime_and_degree", .glo "figures", .glo "number_of", .glo "rest_by", .glo "power_of", .glo "rules_of_degree", .glo "is_product", .glo "rule_of", .glo "times_unknown", .glo "products_of", .glo "sums_of", .glo "field_of", .glo "solve_two", .glo "_law_asked", .glo "_law_draw", .glo "_law_feed", .glo "_law_figures", .glo "_law_number", .glo "_law_plus", .glo "_law_prime", .glo "_law_rule", .glo "_law_times", .glo "_law_tables", .glo "law", .free "abs", .free "all", .free "any", .free "bool", .free "int", .free "isinstance", .free "len", .free "list", .free "range", .free "reversed", .free "str", .free "sum", .free "tuple", .free "zip", .int "GREATEST_FIELD" 16]
abbrev R : PySem.W.OpenRow := PySem.W.OpenLaw.row PySem.Challenge.rw_squarewords_k59_two_lines_solved
abbrev hk : PySem.W.Hook := hookE 32 bs fa fn
def ob (s : PySem.W.SharedT) : AlE := obsEG 32 bs fa fn (HandSHeadRun.getT s)
theorem ob_eq (s : PySem.W.SharedT) : ob s = hk.obs s.abs := obsEG_eq (HandSHeadRun.getT_eq s)
abbrev loose : List Str := (["__name__", "BedError", "NoField", "GREATEST_FIELD", "prime_and_degree", "power_of", "figures", "number_of", "rest_by", "rules_of_degree", "is_product", "rule_of", "times_unknown", "products_of", "sums_of", "field_of", "solve_two", "_law_feed", "_law_draw", "_law_same"] : List Str) ++ (["_law_prime", "_law_rule", "_law_figures", "_law_number", "_law_times", "_law_plus", "_law_tables", "_law_pairs", "_law_asked"] : List Str)
theorem run (w : World) : HandSHeadRun.RunEq R (PySem.W.view R.prog [31]) hk ob 4000 loose w := by
  intro os
  kernel_rfl
theorem facts {P : Program} {w : World} {K : PySem.W.Frag} {h : Heap} {mg : Str → Option Value} {f : Addr} (X : K.In h) (G : h.Ns mainGlobals mg) (hfa : mg ("law" : Str) = some (.ref f)) (c0 : SaysE bs fa fn K) (g : LawOk 10 b_law) :
    ∃ fd : FuncData, (∀ (s : Shared) (v : Value), BindsTo s fd ⟨[v], []⟩ [("script", v)]) ∧ ∀ base : Heap, K.In base → base.Ns mainGlobals mg → FnOk P w K mg base CX0 9 f fd ["script"] (VL.spLaw K) := by
  have c := c0.d
  obtain ⟨fd_0, F_0⟩ := c.def_ 0 (d := d_law_pairs) rfl
  obtain ⟨fd_1, F_1⟩ := c.def_ 1 (d := d_law_same) rfl
  obtain ⟨fd_2, F_2⟩ := c.def_ 2 (d := d_prime_and_degree) rfl
  obtain ⟨fd_3, F_3⟩ := c.def_ 3 (d := d_figures) rfl
  obtain ⟨fd_4, F_4⟩ := c.def_ 4 (d := d_number_of) rfl
  obtain ⟨fd_5, F_5⟩ := c.def_ 5 (d := d_rest_by) rfl
  obtain ⟨fd_6, F_6⟩ := c.def_ 6 (d := d_power_of) rfl
  obtain ⟨fd_7, F_7⟩ := c.def_ 7 (d := d_rules_of_degree) rfl
  obtain ⟨fd_8, F_8⟩ := c.def_ 8 (d := d_is_product) rfl
  obtain ⟨fd_9, F_9⟩ := c.def_ 9 (d := d_rule_of) rfl
  obtain ⟨fd_10, F_10⟩ := c.def_ 10 (d := d_times_unknown) rfl
  obtain ⟨fd_11, F_11⟩ := c.def_ 11 (d := d_products_of) rfl
  obtain ⟨fd_12, F_12⟩ := c.def_ 12 (d := d_sums_of) rfl
  obtain ⟨fd_13, F_13⟩ := c.def_ 13 (d := d_field_of) rfl
  obtain ⟨fd_14, F_14⟩ := c.def_ 14 (d := d_solve_two) rfl
  obtain ⟨fd_15, F_15⟩ := c.def_ 15 (d := d_law_asked) rfl
  obtain ⟨fd_16, F_16⟩ := c.def_ 16 (d := d_law_draw) rfl
  obtain ⟨fd_17, F_17⟩ := c.def_ 17 (d := d_law_feed) rfl
  obtain ⟨fd_18, F_18⟩ := c.def_ 18 (d := d_law_figures) rfl
  obtain ⟨fd_19, F_19⟩ := c.def_ 19 (d := d_law_number) rfl
  obtain ⟨fd_20, F_20⟩ := c.def_ 20 (d := d_law_plus) rfl
  obtain ⟨fd_21, F_21⟩ := c.def_ 21 (d := d_law_prime) rfl
  obtain ⟨fd_22, F_22⟩ := c.def_ 22 (d := d_law_rule) rfl
  obtain ⟨fd_23, F_23⟩ := c.def_ 23 (d := d_law_times) rfl
  obtain ⟨fd_24, F_24⟩ := c.def_ 24 (d := d_law_tables) rfl
  obtain ⟨fd_25, F_25⟩ := c.def_ 25 (d := d_law) rfl
  have e := hfa.symm.trans (He.glo_ok X G (c.fact 25 (f := .glo "law") rfl))
  cases e
  have b := FunD.bindsA (ps := ["script"]) F_25 fun _ _ _ _ _ _ us hl => match us, hl with | [_], _ => rfl
  have B : Bl mg := ⟨He.free_ok X G (c.fact 26 (f := .free "abs") rfl), He.free_ok X G (c.fact 27 (f := .free "all") rfl), He.free_ok X G (c.fact 28 (f := .free "any") rfl), He.free_ok X G (c.fact 29 (f := .free "bool") rfl), He.free_ok X G (c.fact 30 (f := .free "int") rfl), He.free_ok X G (c.fact 31 (f := .free "isinstance") rfl), He.free_ok X G (c.fact 32 (f := .free "len") rfl), He.free_ok X G (c.fact 33 (f := .free "list") rfl), He.free_ok X G (c.fact 34 (f := .free "range") rfl), He.free_ok X G (c.fact 35 (f := .free "reversed") rfl), He.free_ok X G (c.fact 36 (f := .free "str") rfl), He.free_ok X G (c.fact 37 (f := .free "sum") rfl), He.free_ok X G (c.fact 38 (f := .free "tuple") rfl), He.free_ok X G (c.fact 39 (f := .free "zip") rfl), He.int_ok X G (c.fact 40 (f := .int "GREATEST_FIELD" 16) rfl)⟩
  refine ⟨fd_25, fun s v => b s [v] rfl, fun base _ _ => ?_⟩
  have O_law_pairs := ok_law_pairs (P := P) (w := w) (base := base) B F_0 (He.glo_ok X G (c.fact 0 (f := .glo "_law_pairs") rfl)) 
  have O_law_same := okd_law_same (P := P) (w := w) (base := base) B F_1 (He.glo_ok X G (c.fact 1 (f := .glo "_law_same") rfl)) 
  have O_prime_and_degree := ok_prime_and_degree (P := P) (w := w) (base := base) B F_2 (He.glo_ok X G (c.fact 2 (f := .glo "prime_and_degree") rfl)) 
  have O_figures := ok_figures (P := P) (w := w) (base := base) B F_3 (He.glo_ok X G (c.fact 3 (f := .glo "figures") rfl)) 
  have O_number_of := ok_number_of (P := P) (w := w) (base := base) B F_4 (He.glo_ok X G (c.fact 4 (f := .glo "number_of") rfl)) 
  have O_rest_by := ok_rest_by (P := P) (w := w) (base := base) B F_5 (He.glo_ok X G (c.fact 5 (f := .glo "rest_by") rfl)) 
  have O_power_of := ok_power_of (P := P) (w := w) (base := base) B F_6 (He.glo_ok X G (c.fact 6 (f := .glo "power_of") rfl)) 
  have O_rules_of_degree := ok_rules_of_degree (P := P) (w := w) (base := base) B F_7 (He.glo_ok X G (c.fact 7 (f := .glo "rules_of_degree") rfl)) O_figures O_power_of
  have O_is_product := ok_is_product (P := P) (w := w) (base := base) B F_8 (He.glo_ok X G (c.fact 8 (f := .glo "is_product") rfl)) O_rest_by O_rules_of_degree
  have O_rule_of := ok_rule_of (P := P) (w := w) (base := base) B F_9 (He.glo_ok X G (c.fact 9 (f := .glo "rule_of") rfl)) O_is_product O_prime_and_degree O_rules_of_degree
  have O_times_unknown := ok_times_unknown (P := P) (w := w) (base := base) B F_10 (He.glo_ok X G (c.fact 10 (f := .glo "times_unknown") rfl)) 
  have O_products_of := ok_products_of (P := P) (w := w) (base := base) B F_11 (He.glo_ok X G (c.fact 11 (f := .glo "products_of") rfl)) O_figures O_number_of O_prime_and_degree O_rule_of O_times_unknown
  have O_products_of := O_products_of.ref ref_products_of
  have O_sums_of := ok_sums_of (P := P) (w := w) (base := base) B F_12 (He.glo_ok X G (c.fact 12 (f := .glo "sums_of") rfl)) O_figures O_number_of O_prime_and_degree
  have O_field_of := ok_field_of (P := P) (w := w) (base := base) B F_13 (He.glo_ok X G (c.fact 13 (f := .glo "field_of") rfl)) O_prime_and_degree O_products_of O_sums_of
  have O_solve_two := ok_solve_two (P := P) (w := w) (base := base) B F_14 (He.glo_ok X G (c.fact 14 (f := .glo "solve_two") rfl)) O_field_of
  have O_law_asked := ok_law_asked (P := P) (w := w) (base := base) B F_15 (He.glo_ok X G (c.fact 15 (f := .glo "_law_asked") rfl)) O_law_pairs O_law_same O_solve_two
  have O_law_draw := ok_law_draw (P := P) (w := w) (base := base) B F_16 (He.glo_ok X G (c.fact 16 (f := .glo "_law_draw") rfl)) 
  have O_law_feed := ok_law_feed (P := P) (w := w) (base := base) B F_17 (He.glo_ok X G (c.fact 17 (f := .glo "_law_feed") rfl)) 
  have O_law_figures := ok_law_figures (P := P) (w := w) (base := base) B F_18 (He.glo_ok X G (c.fact 18 (f := .glo "_law_figures") rfl)) 
  have O_law_number := ok_law_number (P := P) (w := w) (base := base) B F_19 (He.glo_ok X G (c.fact 19 (f := .glo "_law_number") rfl)) 
  have O_law_plus := ok_law_plus (P := P) (w := w) (base := base) B F_20 (He.glo_ok X G (c.fact 20 (f := .glo "_law_plus") rfl)) O_law_figures O_law_number
  have O_law_prime := ok_law_prime (P := P) (w := w) (base := base) B F_21 (He.glo_ok X G (c.fact 21 (f := .glo "_law_prime") rfl)) 
  have O_law_rule := ok_law_rule (P := P) (w := w) (base := base) B F_22 (He.glo_ok X G (c.fact 22 (f := .glo "_law_rule") rfl)) 
  have O_law_times := ok_law_times (P := P) (w := w) (base := base) B F_23 (He.glo_ok X G (c.fact 23 (f := .glo "_law_times") rfl)) O_law_figures O_law_number
  have O_law_times := O_law_times.ref ref_law_times
  have O_law_tables := ok_law_tables (P := P) (w := w) (base := base) B F_24 (He.glo_ok X G (c.fact 24 (f := .glo "_law_tables") rfl)) O_law_plus O_law_prime O_law_rule O_law_times
  exact ok_law B F_25 O_law_asked O_law_draw O_law_feed O_law_tables g
end Lk59
open PySem PySem.W PySem.Calls PyProof.Rows
theorem PySem.Challenge.cw_squarewords_k59_two_lines_solved_holds : PySem.Challenge.rw_squarewords_k59_two_lines_solved.Holds := by
  w_on; o_law
  refine HandSHeadRun.head_any (r := OpenLaw.row PySem.Challenge.rw_squarewords_k59_two_lines_solved) (q := view (OpenLaw.row PySem.Challenge.rw_squarewords_k59_two_lines_solved).prog [31]) (H := Lk59.hk) (ob := Lk59.ob) (M := 4000) (loose := Lk59.loose) (d := HandSHeadRun.topDef (OpenLaw.row PySem.Challenge.rw_squarewords_k59_two_lines_solved).prog 31) (kwd := []) Lk59.ob_eq
    (by kernel_rfl) (fun s => by kernel_rfl) Lk59.run (by kernel_rfl) (by kernel_rfl) (by kernel_rfl) (by rfl) (by first | assumption | decide +kernel) (by decide +kernel) ⟨rfl, rfl, rfl, rfl, rfl, by decide +kernel⟩ ?hw ?hc
  case hw => w_witness2
  case hc =>
    refine L2.walk_ofE (l := PySem.Challenge.rw_squarewords_k59_two_lines_solved) (n := 63) (k := 9) (x := "script") (CX := L2.CX0) rfl (by decide) (by kernel_rfl) ⟨rfl, by decide, by decide⟩ ?F (fun _ _ _ _ z => z)
    intro w mg fa h Y G hmg0
    obtain ⟨K, KX, c⟩ := Y
    have hmg : mg ("law" : PySem.Str) = some (.ref fa) := by
      have e : (HandSHeadRun.topDef (OpenLaw.row PySem.Challenge.rw_squarewords_k59_two_lines_solved).prog 31).name = ("law" : PySem.Str) := by kernel_rfl
      rw [← e]
      exact hmg0
    obtain ⟨fd, hb, hF⟩ := Lk59.facts (P := (PySem.Challenge.rw_squarewords_k59_two_lines_solved).prog) (w := w) KX G hmg c Lk59.holds
    exact ⟨K, fd, VL.spLaw K, KX, hb, fun H a ns hl _ hS => ⟨a, ns, rfl, hS, by simpa using hl, fun _ => rfl⟩, hF⟩

