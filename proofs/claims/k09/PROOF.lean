import PyProof.Rows.All
import Wide.All
import OpenK.AllK
import Wide.FinOn
import HandS.ForMost
import HandS.IsInst
import HandS.Wide
import HandS.TupAny
import HandS.Rev
import HandS.Zip
import HandS.Defaults
import HandS.ExcOwn
import HandS.ExcIs
import HandS.ExcValue
import HandS.WordsExc
import HandS.TryOnly
import HandS.EndBits
import HandS.HeadEnd
import KE.KStateDown
import HandS.Head0
import HandS.Head1
import HandS.Head2
import HandS.HeadHook1
import HandS.HeadHook2
import HandS.More
import HandS.Steps
import PyProof.ListRange
import HandS.RevTup
import PySem.Challenge.RW_coverfill_k09_cut_points
set_option Elab.async false
set_option linter.all false
/-! Pg: outcomes; core Lean alone. -/
namespace Pg

/-! ### outcomes -/
inductive R (α : Type) where
  | ok (a : α)
  | err (n : Nat)
  | bad
namespace R
def bind {α β : Type} (m : R α) (k : α → R β) : R β := match m with
  | ok a => k a
  | err n => err n
  | bad => bad
theorem bind_inv {α β : Type} {m : R α} {k : α → R β} {b : β} (h : bind m k = ok b) : ∃ a, m = ok a ∧ k a = ok b := by
  cases m with
  | ok a => exact ⟨a, rfl, h⟩
  | err n => exact nomatch h
  | bad => exact nomatch h
theorem ok_inj {α : Type} {a b : α} (h : ok a = ok b) : a = b := by injection h
def forR {α S : Type} (f : α → S → R S) : List α → S → R S
  | [], s => ok s
  | x :: xs, s => bind (f x s) fun s' => forR f xs s'
def forX {α S β : Type} (f : α → S → R (Sum S β)) : List α → S → R (Sum S β)
  | [], s => ok (.inl s)
  | x :: xs, s => bind (f x s) fun r => match r with
    | .inl s' => forX f xs s'
    | .inr b => ok (.inr b)
def mapR {α β : Type} (f : α → R β) : List α → R (List β)
  | [] => ok []
  | x :: xs => bind (f x) fun y => bind (mapR f xs) fun ys => ok (y :: ys)
/-- with a test -/
def mapIf {α β : Type} (p : α → R Bool) (f : α → R β) : List α → R (List β)
  | [] => ok []
  | x :: xs => bind (p x) fun b => if b = true then bind (f x) fun y => bind (mapIf p f xs) fun ys => ok (y :: ys) else mapIf p f xs
def andR (c : Bool) (m : R Bool) : R Bool := if c = true then m else ok false
def orR (c : Bool) (m : R Bool) : R Bool := if c = true then ok true else m
def compR {α β : Type} (f : α → R β) (xs : List α) : R (List β) := if xs.length < 16777216 then mapR f xs else bad
def compIf {α β : Type} (p : α → R Bool) (f : α → R β) (xs : List α) : R (List β) := if xs.length < 16777216 then mapIf p f xs else bad
def caseX {S β γ : Type} (r : Sum S β) (k1 : S → R γ) (k2 : β → R γ) : R γ := match r with
  | .inl s => k1 s
  | .inr b => k2 b
theorem case_l {S β γ : Type} {s : S} {k1 : S → R γ} {k2 : β → R γ} {c : R γ} (h : caseX (.inl s) k1 k2 = c) : k1 s = c := h
theorem case_r {S β γ : Type} {b : β} {k1 : S → R γ} {k2 : β → R γ} {c : R γ} (h : caseX (.inr b) k1 k2 = c) : k2 b = c := h
end R
theorem if_t {α : Type} {c : Bool} {a b : α} {r : α} (hc : c = true) (h : (if c = true then a else b) = r) : a = r := by rw [if_pos hc] at h; exact h
theorem if_f {α : Type} {c : Bool} {a b : α} {r : α} (hc : c = false) (h : (if c = true then a else b) = r) : b = r := by rw [if_neg (by rw [hc]; decide)] at h; exact h
def mulR (i j : Int) : R Int := if i.natAbs.log2 + j.natAbs.log2 < 134000000 then .ok (i * j) else .bad
def fdivR (i j : Int) : R Int := if j = 0 then .bad else .ok (i.fdiv j)
def fmodR (i j : Int) : R Int := if j = 0 then .bad else .ok (i.fmod j)
/-- the place of a Python index -/
def ixP (n : Nat) (i : Int) : Option Nat := if 0 ≤ i then (if i < n then some i.toNat else none) else (if 0 ≤ i + n then some (i + n).toNat else none)
def atR {α : Type} (xs : List α) (i : Int) : R α := match ixP xs.length i with
  | some k => (match xs[k]? with
    | some x => .ok x
    | none => .bad)
  | none => .bad
def appR {α : Type} (xs : List α) (x : α) : R (List α) := if xs.length < 16777216 then .ok (xs ++ [x]) else .bad
def setR {α : Type} (xs : List α) (i : Int) (x : α) : R (List α) := match ixP xs.length i with
  | some k => .ok (xs.set k x)
  | none => .bad
def catR {α : Type} (xs ys : List α) : R (List α) := if xs.length + ys.length ≤ 16777216 then .ok (xs ++ ys) else .bad
def rngR (i j : Int) : R (List Int) := if -(2 ^ 62) ≤ i ∧ i < 2 ^ 62 ∧ -(2 ^ 62) ≤ j ∧ j < 2 ^ 62 then .ok ((List.range (j - i).toNat).map fun k => i + (k : Nat)) else .bad


/-- the clamped end of a slice -/
def sIxP (n d : Nat) (o : Option Int) : Nat := match o with
  | none => d
  | some i => if i < 0 then (i + n).toNat else min i.toNat n
def cutL {α : Type} (xs : List α) (lo hi : Option Int) : List α := (xs.drop (sIxP xs.length 0 lo)).take (sIxP xs.length xs.length hi - sIxP xs.length 0 lo)
def absZ (i : Int) : Int := if i < 0 then -i else i
def maxZ (i j : Int) : Int := if j > i then j else i
def minZ (i j : Int) : Int := if j < i then j else i
/-- a tuple of two whole numbers as a ratio -/
def mkQ (a b : Int) : R Rat := if h : 0 < b ∧ a.natAbs.Coprime b.toNat then .ok ⟨a, b.toNat, by omega, h.2⟩ else .bad
def gcdR (a b : Int) : R Int := if 0 ≤ a ∧ 0 ≤ b then .ok (Int.gcd a b : Nat) else .bad
end Pg

set_option Elab.async false
set_option linter.all false
set_option maxRecDepth 100000
/-! Pg: data over the hand layer. A datum D stands at a value in a frozen part F of the heap; an abstract frame holds data and own lists. -/
namespace Pg
open PySem PySem.Spec PyProof.Rows L2

/-! ### data -/
inductive D where
  | v (x : V)
  | tup (ds : List D)
  | lst (ds : List D)
  | ins (C : Addr) (fs : List (Str × D))
  | hp (k : List L2.Key)
  | ob (φ : Addr → Heap → Prop)
abbrev dI (i : Int) : D := .v (.int i)
abbrev dB (b : Bool) : D := .v (.bl b)
abbrev dS (s : Str) : D := .v (.str s)
abbrev dN (_ : Unit) : D := .v .non
abbrev dQ (q : Rat) : D := .tup [dI q.num, dI (q.den : Int)]
abbrev d2 {α β : Type} (f : α → D) (g : β → D) (x : α × β) : D := .tup [f x.1, g x.2]
abbrev d3 {α β γ : Type} (f : α → D) (g : β → D) (h : γ → D) (x : α × β × γ) : D := .tup [f x.1, g x.2.1, h x.2.2]
abbrev d4 {α β γ δ : Type} (f : α → D) (g : β → D) (h : γ → D) (k : δ → D) (x : α × β × γ × δ) : D := .tup [f x.1, g x.2.1, h x.2.2.1, k x.2.2.2]
abbrev d5 {α β γ δ ε : Type} (f : α → D) (g : β → D) (h : γ → D) (k : δ → D) (l : ε → D) (x : α × β × γ × δ × ε) : D := .tup [f x.1, g x.2.1, h x.2.2.1, k x.2.2.2.1, l x.2.2.2.2]
abbrev dL {α : Type} (f : α → D) (xs : List α) : D := .lst (xs.map f)
abbrev dT {α : Type} (f : α → D) (xs : List α) : D := .tup (xs.map f)

mutual
inductive Dat (K : PySem.W.Frag) (F : Hp) : V → D → Prop
  | v (x : V) : Dat K F x (.v x)
  | tup {a : Addr} {xs : List V} {ds : List D} : SqT K F a xs → Dats K F xs ds → Dat K F (.ref a) (.tup ds)
  | lst {a : Addr} {xs : List V} {ds : List D} : SqL K F a xs → Dats K F xs ds → Dat K F (.ref a) (.lst ds)
  | ins {a C dx : Addr} {us : List (Str × V)} {fs : List (Str × D)} : F a = some (.ins C dx us) → Datf K F us fs → Dat K F (.ref a) (.ins C fs)
  | hp {a : Addr} {k : List L2.Key} : F a = some (.tup (k.map kV)) → Dat K F (.ref a) (.hp k)
  | ob {a : Addr} {φ : Addr → Heap → Prop} : F a = some (.ext (φ a)) → Dat K F (.ref a) (.ob φ)
inductive Dats (K : PySem.W.Frag) (F : Hp) : List V → List D → Prop
  | nil : Dats K F [] []
  | cons {v : V} {vs : List V} {d : D} {ds : List D} : Dat K F v d → Dats K F vs ds → Dats K F (v :: vs) (d :: ds)
inductive Datf (K : PySem.W.Frag) (F : Hp) : List (Str × V) → List (Str × D) → Prop
  | nil : Datf K F [] []
  | cons {f : Str} {v : V} {vs : List (Str × V)} {d : D} {ds : List (Str × D)} : Dat K F v d → Datf K F vs ds → Datf K F ((f, v) :: vs) ((f, d) :: ds)
end
section
variable {K : PySem.W.Frag} {F F' H H' : Hp}
theorem _root_.L2.Same.sqt {H H' : Hp} {a : Addr} {xs : List V} (e : Same H H') (h : SqT K H a xs) : SqT K H' a xs :=
  h.imp_left (Or.imp (e _ _) fun ⟨o, x⟩ => ⟨o, e _ _ x⟩)
mutual
theorem Dat.mono (s : Same F F') : ∀ {v : V} {d : D}, Dat K F v d → Dat K F' v d
  | _, _, .v x => .v x
  | _, _, .tup a b => .tup (s.sqt a) (Dats.mono s b)
  | _, _, .lst a b => .lst (s.seq a) (Dats.mono s b)
  | _, _, .ins a b => .ins (s _ _ a) (Datf.mono s b)
  | _, _, .hp a => .hp (s _ _ a)
  | _, _, .ob a => .ob (s _ _ a)
theorem Dats.mono (s : Same F F') : ∀ {vs : List V} {ds : List D}, Dats K F vs ds → Dats K F' vs ds
  | _, _, .nil => .nil
  | _, _, .cons a b => .cons (Dat.mono s a) (Dats.mono s b)
theorem Datf.mono (s : Same F F') : ∀ {vs : List (Str × V)} {ds : List (Str × D)}, Datf K F vs ds → Datf K F' vs ds
  | _, _, .nil => .nil
  | _, _, .cons a b => .cons (Dat.mono s a) (Datf.mono s b)
end
theorem Dat.up {v : V} {d : D} (h : Dat K F v d) (s : Same F F') : Dat K F' v d := Dat.mono s h
theorem Dats.up {v : List V} {d : List D} (h : Dats K F v d) (s : Same F F') : Dats K F' v d := Dats.mono s h
theorem Datf.up {v : List (Str × V)} {d : List (Str × D)} (h : Datf K F v d) (s : Same F F') : Datf K F' v d := Datf.mono s h
theorem Datf.lookup : ∀ {us : List (Str × V)} {fs : List (Str × D)} {f : Str} {d : D}, Datf K F us fs → fs.lookup f = some d → ∃ v, us.lookup f = some v ∧ Dat K F v d
  | _, _, _, _, .nil, e => by simp at e
  | _, _, f, d, .cons (f := g) a b, e => by
    rw [List.lookup_cons] at e ⊢
    by_cases h : f == g
    · rw [h] at e ⊢
      simp at e
      subst e
      exact ⟨_, rfl, a⟩
    · have h : (f == g) = false := by simpa using h
      rw [h] at e ⊢
      exact Datf.lookup b e
theorem Datf.none : ∀ {us : List (Str × V)} {fs : List (Str × D)} {f : Str}, Datf K F us fs → fs.lookup f = none → us.lookup f = none
  | _, _, _, .nil, _ => by simp
  | _, _, f, .cons (f := g) a b, e => by
    rw [List.lookup_cons] at e ⊢
    by_cases h : f == g
    · rw [h] at e; simp at e
    · have h : (f == g) = false := by simpa using h
      rw [h] at e ⊢
      exact Datf.none b e
theorem Dats.length : ∀ {vs : List V} {ds : List D}, Dats K F vs ds → vs.length = ds.length
  | _, _, .nil => rfl
  | _, _, .cons _ b => by rw [List.length_cons, List.length_cons, b.length]
theorem Dats.get : ∀ {vs : List V} {ds : List D} {i : Nat} {d : D}, Dats K F vs ds → ds[i]? = some d → ∃ v, vs[i]? = some v ∧ Dat K F v d
  | _, _, _, _, .nil, e => by simp at e
  | _, _, 0, _, .cons a _, e => by simp at e; subst e; exact ⟨_, rfl, a⟩
  | _, _, i + 1, d, .cons _ b, e => by
    obtain ⟨v, h1, h2⟩ := Dats.get (i := i) (d := d) b (by simpa using e)
    exact ⟨v, by simpa using h1, h2⟩
theorem Dats.append : ∀ {vs ws : List V} {ds es : List D}, Dats K F vs ds → Dats K F ws es → Dats K F (vs ++ ws) (ds ++ es)
  | _, _, _, _, .nil, h => h
  | _, _, _, _, .cons a b, h => .cons a (Dats.append b h)
theorem Dats.set : ∀ {vs : List V} {ds : List D} (i : Nat) {v : V} {d : D}, Dats K F vs ds → Dat K F v d → Dats K F (vs.set i v) (ds.set i d)
  | _, _, _, _, _, .nil, _ => .nil
  | _, _, 0, _, _, .cons _ b, h => .cons h b
  | _, _, i + 1, _, _, .cons a b, h => .cons a (Dats.set i b h)
theorem Dats.take : ∀ {vs : List V} {ds : List D} (n : Nat), Dats K F vs ds → Dats K F (vs.take n) (ds.take n)
  | _, _, 0, _ => .nil
  | _, _, _ + 1, .nil => .nil
  | _, _, n + 1, .cons a b => .cons a (Dats.take n b)
theorem Dats.drop : ∀ {vs : List V} {ds : List D} (n : Nat), Dats K F vs ds → Dats K F (vs.drop n) (ds.drop n)
  | _, _, 0, h => h
  | _, _, _ + 1, .nil => .nil
  | _, _, n + 1, .cons _ b => Dats.drop n b
theorem Dats.reverse : ∀ {vs : List V} {ds : List D}, Dats K F vs ds → Dats K F vs.reverse ds.reverse
  | _, _, .nil => .nil
  | _, _, .cons a b => by rw [List.reverse_cons, List.reverse_cons]; exact (Dats.reverse b).append (.cons a .nil)

/-! ### what is owned -/
structure Own (F H : Hp) (O : List (Addr × HO)) : Prop where
  same : Same F H
  nd : (O.map (·.1)).Nodup
  has : ∀ p ∈ O, F p.1 = none ∧ H p.1 = some p.2
variable {O O' A B : List (Addr × HO)} {p : Addr} {o o' : HO}
theorem Own.sub (h : Own F H O) (s : O'.Sublist O) : Own F H O' := ⟨h.same, h.nd.sublist (s.map _), fun p hp => h.has p (s.subset hp)⟩
theorem Own.perm (h : Own F H O) (s : O.Perm O') : Own F H O' := ⟨h.same, (s.map _).nodup_iff.mp h.nd, fun p hp => h.has p (s.mem_iff.mpr hp)⟩
theorem Own.free (h : Own F H O) (n : H p = none) : F p = none := h.same.free n
theorem Own.new (h : Own F H O) (n : H p = none) : Own F (upd H p o) ((p, o) :: O) where
  same := fun b u e => by rw [upd_ne (ne_of_none (h.same b u e) n)]; exact h.same b u e
  nd := by
    rw [List.map_cons, List.nodup_cons]
    refine ⟨fun hm => ?_, h.nd⟩
    obtain ⟨q, hq, e⟩ := List.mem_map.mp hm
    have := (h.has q hq).2
    rw [e, n] at this; cases this
  has := fun q hq => by
    rcases List.mem_cons.mp hq with rfl | hq
    · exact ⟨h.free n, upd_same⟩
    · obtain ⟨h1, h2⟩ := h.has q hq
      exact ⟨h1, by rw [upd_ne (ne_of_none h2 n)]; exact h2⟩
/-- a new frozen object -/
theorem Own.newF (h : Own F H O) (n : H p = none) : Own (upd F p o) (upd H p o) O ∧ Same F (upd F p o) := by
  refine ⟨⟨fun b u e => ?_, h.nd, fun q hq => ?_⟩, fun b u e => ?_⟩
  · by_cases hb : b = p
    · subst hb; rw [upd_same] at e ⊢; exact e
    · rw [upd_ne hb] at e ⊢; exact h.same b u e
  · obtain ⟨h1, h2⟩ := h.has q hq
    have hne := ne_of_none h2 n
    exact ⟨by rw [upd_ne hne]; exact h1, by rw [upd_ne hne]; exact h2⟩
  · rw [upd_ne (ne_of_none e (h.free n))]; exact e
theorem Own.frz (h : Own F H ((p, o) :: O)) : Own (upd F p o) H O ∧ Same F (upd F p o) := by
  have hp := h.has (p, o) List.mem_cons_self
  have nd := h.nd
  rw [List.map_cons, List.nodup_cons] at nd
  refine ⟨⟨fun b u e => ?_, nd.2, fun q hq => ?_⟩, fun b u e => ?_⟩
  · by_cases hb : b = p
    · subst hb; rw [upd_same] at e; rw [← e]; exact hp.2
    · rw [upd_ne hb] at e; exact h.same b u e
  · obtain ⟨h1, h2⟩ := h.has q (List.mem_cons_of_mem _ hq)
    have hne : q.1 ≠ p := fun e => nd.1 (List.mem_map.mpr ⟨q, hq, e⟩)
    exact ⟨by rw [upd_ne hne]; exact h1, h2⟩
  · rw [upd_ne (ne_of_none e hp.1)]; exact e
theorem Own.put (h : Own F H ((p, o) :: O)) : Own F (upd H p o') ((p, o') :: O) := by
  have hp := h.has (p, o) List.mem_cons_self
  have nd := h.nd
  rw [List.map_cons, List.nodup_cons] at nd
  refine ⟨fun b u e => ?_, by rw [List.map_cons, List.nodup_cons]; exact nd, fun q hq => ?_⟩
  · rw [upd_ne (ne_of_none e hp.1)]; exact h.same b u e
  · rcases List.mem_cons.mp hq with rfl | hq
    · exact ⟨hp.1, upd_same⟩
    · obtain ⟨h1, h2⟩ := h.has q (List.mem_cons_of_mem _ hq)
      have hne : q.1 ≠ p := fun e => nd.1 (List.mem_map.mpr ⟨q, hq, e⟩)
      exact ⟨h1, by rw [upd_ne hne]; exact h2⟩
theorem Own.mid (h : Own F H (A ++ (p, o) :: B)) : Own F H ((p, o) :: (A ++ B)) := h.perm List.perm_middle
theorem Own.unmid (h : Own F H ((p, o) :: (A ++ B))) : Own F H (A ++ (p, o) :: B) := h.perm List.perm_middle.symm
theorem Own.refl (H : Hp) : Own H H [] := ⟨Same.refl H, List.nodup_nil, fun _ h => nomatch h⟩

/-! ### what is owned as a tree; a node may be told by its address -/
inductive T where
  | dat (d : D)
  | lst (a : Option Addr) (ts : List T)
  | ins (a : Option Addr) (C : Addr) (fs : List (Str × T))
  | dK (a : Option Addr) (kvs : List (L2.Key × D))
  | dT (a : Option Addr) (kvs : List (List L2.Key × D))
  | adr (q : Addr)
abbrev Nm (a : Option Addr) (p : Addr) : Prop := ∀ q, a = some q → p = q
inductive Datm (K : PySem.W.Frag) (F : Hp) {κ : Type} : List (κ × V) → List (κ × D) → Prop
  | nil : Datm K F [] []
  | cons {f : κ} {v : V} {vs : List (κ × V)} {d : D} {ds : List (κ × D)} : Dat K F v d → Datm K F vs ds → Datm K F ((f, v) :: vs) ((f, d) :: ds)
theorem Datm.up {κ : Type} (s : Same F F') : ∀ {us : List (κ × V)} {fs : List (κ × D)}, Datm K F us fs → Datm K F' us fs
  | _, _, .nil => .nil
  | _, _, .cons a b => .cons (a.up s) (b.up s)
mutual
inductive TR (K : PySem.W.Frag) (F : Hp) : V → T → List (Addr × HO) → Prop
  | dat {v : V} {d : D} : Dat K F v d → TR K F v (.dat d) []
  | lst {a : Option Addr} {p : Addr} {vs : List V} {ts : List T} {O : List (Addr × HO)} : Nm a p → TRs K F vs ts O → TR K F (.ref p) (.lst a ts) ((p, .lst vs) :: O)
  | ins {a : Option Addr} {p C dx : Addr} {us : List (Str × V)} {fs : List (Str × T)} {O : List (Addr × HO)} : Nm a p → TRf K F us fs O → TR K F (.ref p) (.ins a C fs) ((p, .ins C dx us) :: (dx, .own p) :: O)
  | dK {a : Option Addr} {p : Addr} {us : List (L2.Key × V)} {kvs : List (L2.Key × D)} : Nm a p → Datm K F us kvs → TR K F (.ref p) (.dK a kvs) [(p, .dK us)]
  | dT {a : Option Addr} {p : Addr} {us : List (List L2.Key × V)} {kvs : List (List L2.Key × D)} : Nm a p → Datm K F us kvs → TR K F (.ref p) (.dT a kvs) [(p, .dT us)]
  | adr {q : Addr} : TR K F (.ref q) (.adr q) []
inductive TRs (K : PySem.W.Frag) (F : Hp) : List V → List T → List (Addr × HO) → Prop
  | nil : TRs K F [] [] []
  | cons {v : V} {t : T} {vs : List V} {ts : List T} {O1 O2 : List (Addr × HO)} : TR K F v t O1 → TRs K F vs ts O2 → TRs K F (v :: vs) (t :: ts) (O1 ++ O2)
inductive TRf (K : PySem.W.Frag) (F : Hp) : List (Str × V) → List (Str × T) → List (Addr × HO) → Prop
  | nil : TRf K F [] [] []
  | cons {f : Str} {v : V} {t : T} {vs : List (Str × V)} {ts : List (Str × T)} {O1 O2 : List (Addr × HO)} : TR K F v t O1 → TRf K F vs ts O2 → TRf K F ((f, v) :: vs) ((f, t) :: ts) (O1 ++ O2)
end
mutual
theorem TR.up (s : Same F F') : ∀ {v : V} {t : T} {O : List (Addr × HO)}, TR K F v t O → TR K F' v t O
  | _, _, _, .dat d => .dat (d.up s)
  | _, _, _, .lst n h => .lst n (TRs.up s h)
  | _, _, _, .ins n h => .ins n (TRf.up s h)
  | _, _, _, .dK n h => .dK n (h.up s)
  | _, _, _, .dT n h => .dT n (h.up s)
  | _, _, _, .adr => .adr
theorem TRs.up (s : Same F F') : ∀ {vs : List V} {ts : List T} {O : List (Addr × HO)}, TRs K F vs ts O → TRs K F' vs ts O
  | _, _, _, .nil => .nil
  | _, _, _, .cons a b => .cons (TR.up s a) (TRs.up s b)
theorem TRf.up (s : Same F F') : ∀ {vs : List (Str × V)} {ts : List (Str × T)} {O : List (Addr × HO)}, TRf K F vs ts O → TRf K F' vs ts O
  | _, _, _, .nil => .nil
  | _, _, _, .cons a b => .cons (TR.up s a) (TRf.up s b)
end
/-- a flat list -/
theorem TRs.flat : ∀ {vs : List V} {ds : List D} {O : List (Addr × HO)}, TRs K F vs (ds.map T.dat) O → O = [] ∧ Dats K F vs ds
  | _, [], _, h => by cases h; exact ⟨rfl, .nil⟩
  | _, d :: ds, _, h => by
    cases h with
    | cons a b =>
      cases a with
      | dat a =>
        obtain ⟨e, q⟩ := TRs.flat b
        subst e
        exact ⟨rfl, .cons a q⟩
theorem Dats.tree : ∀ {vs : List V} {ds : List D}, Dats K F vs ds → TRs K F vs (ds.map T.dat) []
  | _, _, .nil => .nil
  | _, _, .cons a b => by
    have h := TRs.cons (TR.dat a) (Dats.tree b)
    exact h

/-! ### items of a list that are lists of its own -/
inductive OD where
  | dat (d : D)
  | own (ds : List D)
def OD.toD : OD → D
  | .dat d => d
  | .own ds => .lst ds
def OD.toT : OD → T
  | .dat d => .dat d
  | .own ds => .lst none (ds.map T.dat)
inductive ODs (K : PySem.W.Frag) (F : Hp) : List V → List OD → List (Addr × HO) → Prop
  | nil : ODs K F [] [] []
  | dat {v : V} {d : D} {vs : List V} {os : List OD} {O : List (Addr × HO)} : Dat K F v d → ODs K F vs os O → ODs K F (v :: vs) (.dat d :: os) O
  | own {p : Addr} {us : List V} {ds : List D} {vs : List V} {os : List OD} {O : List (Addr × HO)} : Dats K F us ds → ODs K F vs os O → ODs K F (.ref p :: vs) (.own ds :: os) ((p, .lst us) :: O)
theorem ODs.up (s : Same F F') : ∀ {vs : List V} {os : List OD} {O : List (Addr × HO)}, ODs K F vs os O → ODs K F' vs os O
  | _, _, _, .nil => .nil
  | _, _, _, .dat d m => .dat (d.up s) (ODs.up s m)
  | _, _, _, .own d m => .own (d.up s) (ODs.up s m)
theorem ODs.length : ∀ {vs : List V} {os : List OD} {O : List (Addr × HO)}, ODs K F vs os O → vs.length = os.length
  | _, _, _, .nil => rfl
  | _, _, _, .dat _ m => by rw [List.length_cons, List.length_cons, m.length]
  | _, _, _, .own _ m => by rw [List.length_cons, List.length_cons, m.length]
theorem ODs.append : ∀ {vs ws : List V} {os ps : List OD} {O O' : List (Addr × HO)}, ODs K F vs os O → ODs K F ws ps O' → ODs K F (vs ++ ws) (os ++ ps) (O ++ O')
  | _, _, _, _, _, _, .nil, h => h
  | _, _, _, _, _, _, .dat d m, h => .dat d (ODs.append m h)
  | _, _, _, _, _, _, .own d m, h => .own d (ODs.append m h)
/-- an item that is an own list: its place, and what may become of it -/
theorem ODs.getO : ∀ {vs : List V} {os : List OD} {O : List (Addr × HO)} {i : Nat} {ds : List D}, ODs K F vs os O → os[i]? = some (.own ds) →
    ∃ p us A B, O = A ++ (p, .lst us) :: B ∧ vs[i]? = some (.ref p) ∧ Dats K F us ds ∧ (∀ F' us' ds', Same F F' → Dats K F' us' ds' → ODs K F' vs (os.set i (.own ds')) (A ++ (p, .lst us') :: B))
  | _, _, _, _, _, .nil, e => by simp at e
  | _, _, _, 0, _, .dat _ _, e => by simp at e
  | _, _, _, 0, _, .own d m, e => by
    simp at e; subst e
    exact ⟨_, _, [], _, rfl, rfl, d, fun F' us' ds' s h => .own h (m.up s)⟩
  | _, _, _, i + 1, ds, .dat d m, e => by
    obtain ⟨p, us, A, B, h1, h2, h3, h4⟩ := ODs.getO (i := i) (ds := ds) m (by simpa using e)
    exact ⟨p, us, A, B, h1, by simpa using h2, h3, fun F' a b s h => .dat (d.up s) (h4 F' a b s h)⟩
  | _, _, _, i + 1, ds, .own (p := q) (us := ws) d m, e => by
    obtain ⟨p, us, A, B, h1, h2, h3, h4⟩ := ODs.getO (i := i) (ds := ds) m (by simpa using e)
    exact ⟨p, us, (q, .lst ws) :: A, B, congrArg (List.cons _) h1, by simpa using h2, h3, fun F' a b s h => .own (d.up s) (h4 F' a b s h)⟩
theorem ODs.tree : ∀ {vs : List V} {os : List OD} {O : List (Addr × HO)}, ODs K F vs os O → TRs K F vs (os.map OD.toT) O
  | _, _, _, .nil => .nil
  | _, _, _, .dat d m => by
    have h := TRs.cons (TR.dat d) (ODs.tree m)
    exact h
  | _, _, _, .own (p := p) d m => by
    have h := TRs.cons (TR.lst (a := none) (p := p) (fun _ z => nomatch z) d.tree) (ODs.tree m)
    exact h
theorem TRs.ods : ∀ {vs : List V} {os : List OD} {O : List (Addr × HO)}, TRs K F vs (os.map OD.toT) O → ODs K F vs os O
  | _, [], _, h => by cases h; exact .nil
  | _, .dat d :: os, _, h => by
    cases h with
    | cons a b =>
      cases a with
      | dat a => exact .dat a (TRs.ods b)
  | _, .own ds :: os, _, h => by
    cases h with
    | cons a b =>
      cases a with
      | lst n a =>
        obtain ⟨e, q⟩ := a.flat
        subst e
        exact .own q (TRs.ods b)
/-! ### the abstract frame -/
inductive Slot where
  | un
  | dat (d : D)
  | tr (t : T)
abbrev Slot.ownN (na : Option Addr) (ds : List D) : Slot := .tr (.lst na (ds.map T.dat))
abbrev Slot.own2N (na : Option Addr) (os : List OD) : Slot := .tr (.lst na (os.map OD.toT))
abbrev Slot.own (ds : List D) : Slot := .ownN none ds
abbrev Slot.own2 (os : List OD) : Slot := .own2N none os
inductive Match (K : PySem.W.Frag) (F : Hp) : L2.St → List Slot → List (Addr × HO) → Prop
  | nil : Match K F [] [] []
  | un {x : Option V} {σ : L2.St} {env : List Slot} {O : List (Addr × HO)} : Match K F σ env O → Match K F (x :: σ) (.un :: env) O
  | dat {v : V} {d : D} {σ : L2.St} {env : List Slot} {O : List (Addr × HO)} : Dat K F v d → Match K F σ env O → Match K F (some v :: σ) (.dat d :: env) O
  | tr {v : V} {t : T} {σ : L2.St} {env : List Slot} {O1 O : List (Addr × HO)} : TR K F v t O1 → Match K F σ env O → Match K F (some v :: σ) (.tr t :: env) (O1 ++ O)
theorem Match.up (s : Same F F') : ∀ {σ : L2.St} {env : List Slot} {O : List (Addr × HO)}, Match K F σ env O → Match K F' σ env O
  | _, _, _, .nil => .nil
  | _, _, _, .un m => .un (Match.up s m)
  | _, _, _, .dat d m => .dat (d.up s) (Match.up s m)
  | _, _, _, .tr d m => .tr (d.up s) (Match.up s m)
theorem Match.get : ∀ {σ : L2.St} {env : List Slot} {O : List (Addr × HO)} {i : Nat} {d : D}, Match K F σ env O → env[i]? = some (.dat d) → ∃ v, σ[i]? = some (some v) ∧ Dat K F v d
  | _, _, _, _, _, .nil, e => by simp at e
  | _, _, _, 0, _, .un _, e => by simp at e
  | _, _, _, 0, _, .dat d _, e => by simp at e; subst e; exact ⟨_, rfl, d⟩
  | _, _, _, 0, _, .tr _ _, e => by simp at e
  | _, _, _, i + 1, d, .un m, e => by
    obtain ⟨v, h1, h2⟩ := Match.get (i := i) (d := d) m (by simpa using e)
    exact ⟨v, by simpa using h1, h2⟩
  | _, _, _, i + 1, d, .dat _ m, e => by
    obtain ⟨v, h1, h2⟩ := Match.get (i := i) (d := d) m (by simpa using e)
    exact ⟨v, by simpa using h1, h2⟩
  | _, _, _, i + 1, d, .tr _ m, e => by
    obtain ⟨v, h1, h2⟩ := Match.get (i := i) (d := d) m (by simpa using e)
    exact ⟨v, by simpa using h1, h2⟩
/-- a datum stored (what the slot owned is let go) -/
theorem Match.set : ∀ {σ : L2.St} {env : List Slot} {O : List (Addr × HO)} (i : Nat) {v : V} {d : D}, Match K F σ env O → Dat K F v d → ∃ O', O'.Sublist O ∧ Match K F (σ.set i (some v)) (env.set i (.dat d)) O'
  | _, _, _, _, _, _, .nil, _ => ⟨[], .slnil, .nil⟩
  | _, _, _, 0, _, _, .un m, h => ⟨_, List.Sublist.refl _, .dat h m⟩
  | _, _, _, 0, _, _, .dat _ m, h => ⟨_, List.Sublist.refl _, .dat h m⟩
  | _, _, _, 0, _, _, .tr _ m, h => ⟨_, List.sublist_append_right _ _, .dat h m⟩
  | _, _, _, i + 1, _, _, .un m, h => let ⟨O', s, q⟩ := Match.set i m h; ⟨O', s, .un q⟩
  | _, _, _, i + 1, _, _, .dat d m, h => let ⟨O', s, q⟩ := Match.set i m h; ⟨O', s, .dat d q⟩
  | _, _, _, i + 1, _, _, .tr d m, h => let ⟨O', s, q⟩ := Match.set i m h; ⟨_, (List.Sublist.refl _).append s, .tr d q⟩
/-- a tree stored -/
theorem Match.putT : ∀ {σ : L2.St} {env : List Slot} {O : List (Addr × HO)} (i : Nat) {v : V} {t : T} {O1 : List (Addr × HO)}, Match K F σ env O → TR K F v t O1 → i < env.length →
    ∃ A B O', O = A ++ O' ∧ B.Sublist O' ∧ Match K F (σ.set i (some v)) (env.set i (.tr t)) (A ++ (O1 ++ B))
  | _, _, _, _, _, _, _, .nil, _, hl => absurd hl (by simp)
  | _, _, _, 0, _, _, _, .un m, h, _ => ⟨[], _, _, rfl, List.Sublist.refl _, by have z := Match.tr h m; exact z⟩
  | _, _, _, 0, _, _, _, .dat _ m, h, _ => ⟨[], _, _, rfl, List.Sublist.refl _, by have z := Match.tr h m; exact z⟩
  | _, _, _, 0, _, _, _, .tr _ m, h, _ => ⟨[], _, _, rfl, List.sublist_append_right _ _, by have z := Match.tr h m; exact z⟩
  | _, _, _, i + 1, _, _, _, .un m, h, hl => let ⟨A, B, O', e, s, q⟩ := Match.putT i m h (by simpa using hl); ⟨A, B, O', e, s, .un q⟩
  | _, _, _, i + 1, _, _, _, .dat d m, h, hl => let ⟨A, B, O', e, s, q⟩ := Match.putT i m h (by simpa using hl); ⟨A, B, O', e, s, .dat d q⟩
  | _, _, _, i + 1, _, _, _, .tr (O1 := P) d m, h, hl => by
    obtain ⟨A, B, O', e, s, q⟩ := Match.putT i m h (by simpa using hl)
    refine ⟨P ++ A, B, O', by rw [e, List.append_assoc], s, ?_⟩
    rw [List.append_assoc]
    exact .tr d q
/-- a tree: what it owns, and what may become of it -/
theorem Match.getT : ∀ {σ : L2.St} {env : List Slot} {O : List (Addr × HO)} {i : Nat} {t : T}, Match K F σ env O → env[i]? = some (.tr t) →
    ∃ v O1 A B, O = A ++ (O1 ++ B) ∧ σ[i]? = some (some v) ∧ TR K F v t O1 ∧
      (∀ F' t' O1', Same F F' → TR K F' v t' O1' → Match K F' σ (env.set i (.tr t')) (A ++ (O1' ++ B))) ∧
      (∀ F' d, Same F F' → Dat K F' v d → Match K F' σ (env.set i (.dat d)) (A ++ B)) ∧
      (∀ F', Same F F' → Match K F' σ (env.set i .un) (A ++ B))
  | _, _, _, _, _, .nil, e => by simp at e
  | _, _, _, 0, _, .un _, e => by simp at e
  | _, _, _, 0, _, .dat d _, e => by simp at e
  | _, _, _, 0, _, .tr d m, e => by
    simp at e; subst e
    exact ⟨_, _, [], _, rfl, rfl, d, fun F' t' O1' s h => by have z := Match.tr h (m.up s); exact z, fun F' d s h => .dat h (m.up s), fun F' s => .un (m.up s)⟩
  | _, _, _, i + 1, t, .un m, e => by
    obtain ⟨v, O1, A, B, h1, h2, h3, h4, h5, h6⟩ := Match.getT (i := i) (t := t) m (by simpa using e)
    exact ⟨v, O1, A, B, h1, by simpa using h2, h3, fun F' a b s h => .un (h4 F' a b s h), fun F' a s h => .un (h5 F' a s h), fun F' s => .un (h6 F' s)⟩
  | _, _, _, i + 1, t, .dat d m, e => by
    obtain ⟨v, O1, A, B, h1, h2, h3, h4, h5, h6⟩ := Match.getT (i := i) (t := t) m (by simpa using e)
    exact ⟨v, O1, A, B, h1, by simpa using h2, h3, fun F' a b s h => .dat (d.up s) (h4 F' a b s h), fun F' a s h => .dat (d.up s) (h5 F' a s h), fun F' s => .dat (d.up s) (h6 F' s)⟩
  | _, _, _, i + 1, t, .tr (O1 := P) d m, e => by
    obtain ⟨v, O1, A, B, h1, h2, h3, h4, h5, h6⟩ := Match.getT (i := i) (t := t) m (by simpa using e)
    refine ⟨v, O1, P ++ A, B, by rw [h1, List.append_assoc], by simpa using h2, h3, fun F' a b s h => ?_, fun F' a s h => ?_, fun F' s => ?_⟩
    · rw [List.append_assoc]; exact .tr (d.up s) (h4 F' a b s h)
    · rw [List.append_assoc]; exact .tr (d.up s) (h5 F' a s h)
    · rw [List.append_assoc]; exact .tr (d.up s) (h6 F' s)
theorem Match.put {σ : L2.St} {env : List Slot} {O : List (Addr × HO)} (i : Nat) {p : Addr} {vs : List V} {ds : List D} (m : Match K F σ env O) (h : Dats K F vs ds) (hl : i < env.length) :
    ∃ A B O', O = A ++ O' ∧ B.Sublist O' ∧ Match K F (σ.set i (some (.ref p))) (env.set i (.own ds)) (A ++ (p, .lst vs) :: B) :=
  m.putT i (.lst (a := none) (fun _ z => nomatch z) h.tree) hl
/-- an own list: its place, and what may become of it -/
theorem Match.getO {σ : L2.St} {env : List Slot} {O : List (Addr × HO)} {i : Nat} {ds : List D} {na : Option Addr} (m : Match K F σ env O) (e : env[i]? = some (.ownN na ds)) :
    ∃ p vs A B, O = A ++ (p, .lst vs) :: B ∧ σ[i]? = some (some (.ref p)) ∧ Dats K F vs ds ∧
      (∀ F' vs' ds', Same F F' → Dats K F' vs' ds' → Match K F' σ (env.set i (.ownN na ds')) (A ++ (p, .lst vs') :: B)) ∧
      (∀ F' d, Same F F' → Dat K F' (.ref p) d → Match K F' σ (env.set i (.dat d)) (A ++ B)) := by
  obtain ⟨v, O1, A, B, h1, h2, h3, h4, h5, _⟩ := m.getT e
  cases h3 with
  | lst n h3 =>
    obtain ⟨e1, q⟩ := h3.flat
    subst e1
    exact ⟨_, _, A, B, h1, h2, q, fun F' vs' ds' s h => h4 F' _ _ s (.lst n h.tree), h5⟩
/-- slots forgotten -/
inductive Wk : List Slot → List Slot → Prop
  | nil : Wk [] []
  | un {a : Slot} {e e' : List Slot} : Wk e e' → Wk (a :: e) (.un :: e')
  | eq {a : Slot} {e e' : List Slot} : Wk e e' → Wk (a :: e) (a :: e')
theorem Wk.refl : ∀ e : List Slot, Wk e e
  | [] => .nil
  | _ :: e => .eq (Wk.refl e)
theorem Match.weak : ∀ {σ : L2.St} {env env' : List Slot} {O : List (Addr × HO)}, Match K F σ env O → Wk env env' → ∃ O', O'.Sublist O ∧ Match K F σ env' O'
  | _, _, _, _, .nil, .nil => ⟨[], .slnil, .nil⟩
  | _, _, _, _, .un m, .un w => let ⟨O', s, q⟩ := Match.weak m w; ⟨O', s, .un q⟩
  | _, _, _, _, .un m, .eq w => let ⟨O', s, q⟩ := Match.weak m w; ⟨O', s, .un q⟩
  | _, _, _, _, .dat d m, .un w => let ⟨O', s, q⟩ := Match.weak m w; ⟨O', s, .un q⟩
  | _, _, _, _, .dat d m, .eq w => let ⟨O', s, q⟩ := Match.weak m w; ⟨O', s, .dat d q⟩
  | _, _, _, _, .tr (O1 := O1) d m, .un w => let ⟨O', s, q⟩ := Match.weak m w; ⟨O', s.trans (List.sublist_append_right O1 _), .un q⟩
  | _, _, _, _, .tr d m, .eq w => let ⟨O', s, q⟩ := Match.weak m w; ⟨_, (List.Sublist.refl _).append s, .tr d q⟩
/-- an own list of own lists: its place, and what may become of it -/
theorem Match.getO2 {σ : L2.St} {env : List Slot} {O : List (Addr × HO)} {i : Nat} {os : List OD} {na : Option Addr} (m : Match K F σ env O) (e : env[i]? = some (.own2N na os)) :
    ∃ p vs O1 A B, O = A ++ (p, .lst vs) :: (O1 ++ B) ∧ σ[i]? = some (some (.ref p)) ∧ ODs K F vs os O1 ∧
      (∀ F' vs' os' O1', Same F F' → ODs K F' vs' os' O1' → Match K F' σ (env.set i (.own2N na os')) (A ++ (p, .lst vs') :: (O1' ++ B))) ∧
      (∀ F' d, Same F F' → Dat K F' (.ref p) d → Match K F' σ (env.set i (.dat d)) (A ++ B)) := by
  obtain ⟨v, O1, A, B, h1, h2, h3, h4, h5, _⟩ := m.getT e
  cases h3 with
  | lst n h3 => exact ⟨_, _, _, A, B, h1, h2, h3.ods, fun F' vs' os' O1' s h => h4 F' _ _ s (.lst n h.tree), h5⟩
/-- a new own list of own lists stored -/
theorem Match.put2 {σ : L2.St} {env : List Slot} {O : List (Addr × HO)} (i : Nat) {p : Addr} {vs : List V} {os : List OD} {O1 : List (Addr × HO)} (m : Match K F σ env O) (h : ODs K F vs os O1) (hl : i < env.length) :
    ∃ A B O', O = A ++ O' ∧ B.Sublist O' ∧ Match K F (σ.set i (some (.ref p))) (env.set i (.own2 os)) (A ++ (p, .lst vs) :: (O1 ++ B)) :=
  m.putT i (.lst (a := none) (fun _ z => nomatch z) h.tree) hl
end
end Pg

set_option Elab.async false
set_option linter.all false
set_option maxRecDepth 100000
namespace Pg
open PySem PySem.Spec PyProof.Rows L2

/-! ### readings evaluate to data -/
section
variable (K : PySem.W.Frag)
/-- the expression's reading gives the datum d -/
def EV (t : TE) (env : List Slot) (d : D) : Prop := ∀ (σ : L2.St) (F H : Hp) (A O : List (Addr × HO)), Match K F σ env A → Own F H (A ++ O) → ∀ Q : VK,
  (∀ v F' H', Same F F' → Own F' H' (A ++ O) → Dat K F' v d → Q v H') → t σ H Q
def ET (t : TT) (env : List Slot) (b : Bool) : Prop := ∀ (σ : L2.St) (F H : Hp) (A O : List (Addr × HO)), Match K F σ env A → Own F H (A ++ O) → ∀ Q : Bool → Hp → Prop,
  (∀ F' H', Same F F' → Own F' H' (A ++ O) → Q b H') → t σ H Q
def EA (t : TA) (env : List Slot) (ds : List D) : Prop := ∀ (σ : L2.St) (F H : Hp) (A O : List (Addr × HO)), Match K F σ env A → Own F H (A ++ O) → ∀ Q : List V → Hp → Prop,
  (∀ vs F' H', Same F F' → Own F' H' (A ++ O) → Dats K F' vs ds → Q vs H') → t σ H Q
/-- a new list of these items, owned -/
def EN (t : TE) (env : List Slot) (ds : List D) : Prop := ∀ (σ : L2.St) (F H : Hp) (A O : List (Addr × HO)), Match K F σ env A → Own F H (A ++ O) → ∀ Q : VK,
  (∀ p vs F' H', Same F F' → Own F' H' ((p, .lst vs) :: (A ++ O)) → Dats K F' vs ds → Q (.ref p) H') → t σ H Q
def EO (t : TO) (env : List Slot) (o : Option Int) : Prop := ∀ (σ : L2.St) (F H : Hp) (A O : List (Addr × HO)), Match K F σ env A → Own F H (A ++ O) → ∀ Q : Option Int → Hp → Prop,
  (∀ F' H', Same F F' → Own F' H' (A ++ O) → Q o H') → t σ H Q
end
section
variable {K : PySem.W.Frag} {na : Option Addr} {env : List Slot} {t ta tb : TE} {tt tu : TT} {d e : D} {ds es : List D} {i j : Int}
theorem EV.frz (h : EN K t env ds) : EV K t env (.lst ds) := fun σ F H A O m w Q q => h σ F H A O m w Q fun p vs F' H' s w' dd => by
  obtain ⟨w2, s2⟩ := w'.frz
  exact q _ _ _ (s.trans s2) w2 (.lst (.of upd_same) (dd.up s2))
theorem ev_cast {α : Type} {r : α → D} {a b : α} (h : R.ok a = R.ok b) (x : EV K t env (r a)) : EV K t env (r b) := by rw [← R.ok_inj h]; exact x
theorem et_cast {a b : Bool} (h : R.ok a = R.ok b) (x : ET K tt env a) : ET K tt env b := by rw [← R.ok_inj h]; exact x
theorem en_cast {α : Type} {r : α → D} {a b : List α} (h : R.ok a = R.ok b) (x : EN K t env (a.map r)) : EN K t env (b.map r) := by rw [← R.ok_inj h]; exact x
theorem ev_eq (h : d = e) (x : EV K t env d) : EV K t env e := h ▸ x
theorem ev_var {i : Nat} (h : env[i]? = some (.dat d)) : EV K (tVar i) env d := fun σ F H A O m w Q q => by
  obtain ⟨v, h1, h2⟩ := m.get h
  exact ⟨v, h1, q v F H (Same.refl F) w h2⟩
theorem ev_c (x : V) : EV K (tC x) env (.v x) := fun σ F H A O m w Q q => q x F H (Same.refl F) w (.v x)
theorem ev_k {x : V} (h : ∀ F, Dat K F x d) : EV K (tC x) env d := fun σ F H A O m w Q q => q x F H (Same.refl F) w (h F)
theorem Dat.int {F : Hp} {v : V} (h : Dat K F v (dI i)) : v = .int i := by cases h; rfl
theorem Dat.bl {F : Hp} {v : V} {b : Bool} (h : Dat K F v (dB b)) : v = .bl b := by cases h; rfl
theorem Dat.scl {F : Hp} {v x : V} (h : Dat K F v (.v x)) : v = x := by cases h; rfl
/-- two parts, one behind the other -/
theorem ev_two (ha : EV K ta env d) (hb : EV K tb env e) {σ : L2.St} {F H : Hp} {A O : List (Addr × HO)} (m : Match K F σ env A) (w : Own F H (A ++ O)) {k : V → V → Hp → Prop}
    (q : ∀ x y F' H', Same F F' → Own F' H' (A ++ O) → Dat K F' x d → Dat K F' y e → k x y H') : ta σ H fun x H1 => tb σ H1 fun y H2 => k x y H2 :=
  ha σ F H A O m w _ fun x F1 H1 s1 w1 d1 => hb σ F1 H1 A O (m.up s1) w1 _ fun y F2 H2 s2 w2 d2 => q x y F2 H2 (s1.trans s2) w2 (d1.up s2) d2
theorem ev_i0 {g : Int → Int → V} (ha : EV K ta env (dI i)) (hb : EV K tb env (dI j)) : EV K (tOp (rI0 g) ta tb) env (.v (g i j)) := fun σ F H A O m w Q q =>
  ev_two ha hb m w fun x y F' H' s w' d1 d2 => ⟨i, j, d1.int, d2.int, q _ F' H' s w' (.v _)⟩
theorem ev_iC {C : Int → Int → Prop} {g : Int → Int → V} (hc : C i j) (ha : EV K ta env (dI i)) (hb : EV K tb env (dI j)) : EV K (tOp (rI C g) ta tb) env (.v (g i j)) := fun σ F H A O m w Q q =>
  ev_two ha hb m w fun x y F' H' s w' d1 d2 => ⟨i, j, d1.int, d2.int, hc, q _ F' H' s w' (.v _)⟩
theorem ev_u {g : Int → V} (ha : EV K ta env (dI i)) : EV K (tUn (rU g) ta) env (.v (g i)) := fun σ F H A O m w Q q =>
  ha σ F H A O m w _ fun x F' H' s w' d1 => ⟨i, d1.int, q _ F' H' s w' (.v _)⟩
theorem dec_V {α : Type} [DecidableEq α] {f : α → V} (hf : ∀ a b, f a = f b → a = b) (a b : α) : decide (f a = f b) = decide (a = b) := by
  by_cases h : a = b
  · subst h; simp
  · rw [decide_eq_false h, decide_eq_false (fun z => h (hf _ _ z))]
theorem ev_eqI (ha : EV K ta env (dI i)) (hb : EV K tb env (dI j)) : EV K (tOp rEq ta tb) env (dB (decide (i = j))) := fun σ F H A O m w Q q =>
  ev_two ha hb m w fun x y F' H' s w' d1 d2 => by
    rw [d1.int, d2.int]
    exact ⟨rfl, by rw [dec_V (f := V.int) (fun _ _ z => V.int.inj z)]; exact q _ F' H' s w' (.v _)⟩
theorem ev_neI (ha : EV K ta env (dI i)) (hb : EV K tb env (dI j)) : EV K (tOp rNe ta tb) env (dB (!decide (i = j))) := fun σ F H A O m w Q q =>
  ev_two ha hb m w fun x y F' H' s w' d1 d2 => by
    rw [d1.int, d2.int]
    exact ⟨rfl, by rw [dec_V (f := V.int) (fun _ _ z => V.int.inj z)]; exact q _ F' H' s w' (.v _)⟩
theorem ev_eqS {x y : Str} (ha : EV K ta env (dS x)) (hb : EV K tb env (dS y)) : EV K (tOp rEq ta tb) env (dB (decide (x = y))) := fun σ F H A O m w Q q =>
  ev_two ha hb m w fun x y F' H' s w' d1 d2 => by
    rw [d1.scl, d2.scl]
    exact ⟨rfl, by rw [dec_V (f := V.str) (fun _ _ z => V.str.inj z)]; exact q _ F' H' s w' (.v _)⟩
theorem ev_neS {x y : Str} (ha : EV K ta env (dS x)) (hb : EV K tb env (dS y)) : EV K (tOp rNe ta tb) env (dB (!decide (x = y))) := fun σ F H A O m w Q q =>
  ev_two ha hb m w fun x y F' H' s w' d1 d2 => by
    rw [d1.scl, d2.scl]
    exact ⟨rfl, by rw [dec_V (f := V.str) (fun _ _ z => V.str.inj z)]; exact q _ F' H' s w' (.v _)⟩
theorem ev_eqB {x y : Bool} (ha : EV K ta env (dB x)) (hb : EV K tb env (dB y)) : EV K (tOp rEq ta tb) env (dB (decide (x = y))) := fun σ F H A O m w Q q =>
  ev_two ha hb m w fun x y F' H' s w' d1 d2 => by
    rw [d1.scl, d2.scl]
    exact ⟨rfl, by rw [dec_V (f := V.bl) (fun _ _ z => V.bl.inj z)]; exact q _ F' H' s w' (.v _)⟩
theorem ev_neB {x y : Bool} (ha : EV K ta env (dB x)) (hb : EV K tb env (dB y)) : EV K (tOp rNe ta tb) env (dB (!decide (x = y))) := fun σ F H A O m w Q q =>
  ev_two ha hb m w fun x y F' H' s w' d1 d2 => by
    rw [d1.scl, d2.scl]
    exact ⟨rfl, by rw [dec_V (f := V.bl) (fun _ _ z => V.bl.inj z)]; exact q _ F' H' s w' (.v _)⟩

/-! ### tests -/
theorem et_test {b : Bool} (h : EV K t env (dB b)) : ET K (tTest t) env b := fun σ F H A O m w Q q => h σ F H A O m w _ fun v F' H' s w' d => ⟨b, d.bl, q F' H' s w'⟩
theorem et_b {b : Bool} (h : EV K t env (dB b)) : ET K (tB t) env b := fun σ F H A O m w Q q => h σ F H A O m w _ fun v F' H' s w' d => ⟨b, d.bl, q F' H' s w'⟩
theorem et_not {b : Bool} (h : ET K tt env b) : ET K (tNot tt) env (!b) := fun σ F H A O m w Q q => h σ F H A O m w _ fun F' H' s w' => q F' H' s w'
theorem et_and {b c : Bool} (h : ET K tt env b) (h2 : b = true → ET K tu env c) : ET K (tAnd tt tu) env (b && c) := fun σ F H A O m w Q q => h σ F H A O m w _ fun F' H' s w' => by
  cases b with
  | false => exact iteF (q F' H' s w')
  | true => exact iteT (h2 rfl σ F' H' A O (m.up s) w' _ fun F2 H2 s2 w2 => q F2 H2 (s.trans s2) w2)
theorem et_or {b c : Bool} (h : ET K tt env b) (h2 : b = false → ET K tu env c) : ET K (tOr tt tu) env (b || c) := fun σ F H A O m w Q q => h σ F H A O m w _ fun F' H' s w' => by
  cases b with
  | true => exact iteT (q F' H' s w')
  | false => exact iteF (h2 rfl σ F' H' A O (m.up s) w' _ fun F2 H2 s2 w2 => q F2 H2 (s.trans s2) w2)
theorem et_andR {b c : Bool} {x : R Bool} (e : R.andR b x = .ok c) (h : ET K tt env b) (h2 : b = true → x = .ok c → ET K tu env c) : ET K (tAnd tt tu) env c := by
  cases b with
  | false => rw [← R.ok_inj (show R.ok false = R.ok c from e)]; exact et_and (c := c) h fun z => nomatch z
  | true => exact et_and (c := c) h fun _ => h2 rfl e
theorem et_orR {b c : Bool} {x : R Bool} (e : R.orR b x = .ok c) (h : ET K tt env b) (h2 : b = false → x = .ok c → ET K tu env c) : ET K (tOr tt tu) env c := by
  cases b with
  | true => rw [← R.ok_inj (show R.ok true = R.ok c from e)]; exact et_or (c := c) h fun z => nomatch z
  | false => exact et_or (c := c) h fun _ => h2 rfl e
theorem ev_notV {b : Bool} (h : EV K t env (dB b)) : EV K (tNotV t) env (dB (!b)) := fun σ F H A O m w Q q => h σ F H A O m w _ fun v F' H' s w' d => ⟨b, d.bl, q _ F' H' s w' (.v _)⟩
theorem ev_andV {b c : Bool} (h : EV K ta env (dB b)) (h2 : b = true → EV K tb env (dB c)) : EV K (tAndV ta tb) env (dB (b && c)) := fun σ F H A O m w Q q => h σ F H A O m w _ fun v F' H' s w' d => by
  refine ⟨b, d.bl, ?_⟩
  cases b with
  | false => exact iteF (q _ F' H' s w' (.v _))
  | true => exact iteT (h2 rfl σ F' H' A O (m.up s) w' _ fun v F2 H2 s2 w2 d2 => q v F2 H2 (s.trans s2) w2 d2)
theorem ev_orV {b c : Bool} (h : EV K ta env (dB b)) (h2 : b = false → EV K tb env (dB c)) : EV K (tOrV ta tb) env (dB (b || c)) := fun σ F H A O m w Q q => h σ F H A O m w _ fun v F' H' s w' d => by
  refine ⟨b, d.bl, ?_⟩
  cases b with
  | true => exact iteT (q _ F' H' s w' (.v _))
  | false => exact iteF (h2 rfl σ F' H' A O (m.up s) w' _ fun v F2 H2 s2 w2 d2 => q v F2 H2 (s.trans s2) w2 d2)
theorem ev_andVR {b c : Bool} {x : R Bool} (e : R.andR b x = .ok c) (h : EV K ta env (dB b)) (h2 : b = true → x = .ok c → EV K tb env (dB c)) : EV K (tAndV ta tb) env (dB c) := by
  cases b with
  | false => rw [← R.ok_inj (show R.ok false = R.ok c from e)]; exact ev_andV (c := c) h fun z => nomatch z
  | true => exact ev_andV (c := c) h fun _ => h2 rfl e
theorem ev_orVR {b c : Bool} {x : R Bool} (e : R.orR b x = .ok c) (h : EV K ta env (dB b)) (h2 : b = false → x = .ok c → EV K tb env (dB c)) : EV K (tOrV ta tb) env (dB c) := by
  cases b with
  | true => rw [← R.ok_inj (show R.ok true = R.ok c from e)]; exact ev_orV (c := c) h fun z => nomatch z
  | false => exact ev_orV (c := c) h fun _ => h2 rfl e
theorem ev_if {α : Type} {r : α → D} {c : Bool} {x y : α} (h : ET K tt env c) (h1 : c = true → EV K ta env (r x)) (h2 : c = false → EV K tb env (r y)) : EV K (tIf tt ta tb) env (r (if c = true then x else y)) := fun σ F H A O m w Q q => h σ F H A O m w _ fun F' H' s w' => by
  cases c with
  | true => exact iteT (h1 rfl σ F' H' A O (m.up s) w' _ fun v F2 H2 s2 w2 d2 => q v F2 H2 (s.trans s2) w2 (by rw [if_pos rfl]; exact d2))
  | false => exact iteF (h2 rfl σ F' H' A O (m.up s) w' _ fun v F2 H2 s2 w2 d2 => q v F2 H2 (s.trans s2) w2 (by rw [if_neg (by decide)]; exact d2))
/-- a chain of two comparisons of whole numbers -/
theorem ev_chain {tc : TE} {k : Int} {p p' : Int → Int → Bool} (ha : EV K ta env (dI i)) (hb : EV K tb env (dI j)) (hc : p i j = true → EV K tc env (dI k)) :
    EV K (tChain (rI0 fun i j => .bl (p i j)) (rI0 fun i j => .bl (p' i j)) ta tb tc) env (dB (p i j && p' j k)) := fun σ F H A O m w Q q =>
  ev_two ha hb m w fun x y F' H' s w' d1 d2 => by
    refine ⟨i, j, d1.int, d2.int, p i j, rfl, ?_⟩
    cases hp : p i j with
    | false => exact iteF (q _ F' H' s w' (by rw [hp]; exact .v _))
    | true => exact iteT (hc hp σ F' H' A O (m.up s) w' _ fun v F2 H2 s2 w2 d3 => ⟨j, k, d2.int, d3.int, q _ F2 H2 (s.trans s2) w2 (by rw [hp]; exact .v _)⟩)

/-! ### arguments, displays -/
theorem ea_nil : EA K tNil env [] := fun σ F H A O m w Q q => q [] F H (Same.refl F) w .nil
theorem ea_cons {tr : TA} (h : EV K t env d) (hr : EA K tr env ds) : EA K (tCons t tr) env (d :: ds) := fun σ F H A O m w Q q =>
  h σ F H A O m w _ fun v F1 H1 s1 w1 d1 => hr σ F1 H1 A O (m.up s1) w1 _ fun vs F2 H2 s2 w2 d2 => q _ F2 H2 (s1.trans s2) w2 (.cons (d1.up s2) d2)
theorem ev_tup {t : TA} (h : EA K t env ds) (hl : ds.length ≤ sizeLine := by first | exact Nat.le_of_ble_eq_true rfl | decide) : EV K (tTup t) env (.tup ds) := fun σ F H A O m w Q q =>
  h σ F H A O m w _ fun vs F1 H1 s1 w1 d1 => ⟨by rw [d1.length]; exact hl, fun p n => by
    obtain ⟨w2, s2⟩ := w1.newF (o := .tup vs) n
    exact q _ _ _ (s1.trans s2) w2 (.tup (.of upd_same) (d1.up s2))⟩
theorem en_lst {t : TA} (h : EA K t env ds) (hl : ds.length ≤ sizeLine := by first | exact Nat.le_of_ble_eq_true rfl | decide) : EN K (tLst t) env ds := fun σ F H A O m w Q q =>
  h σ F H A O m w _ fun vs F1 H1 s1 w1 d1 => ⟨by rw [d1.length]; exact hl, fun p n => q p vs F1 _ s1 (w1.new n) d1⟩

/-! ### items, lengths -/
theorem ixP_some {n : Nat} {i : Int} {k : Nat} (h : ixP n i = some k) : k < n ∧ ((0 ≤ i ∧ i = (k : Int)) ∨ (i < 0 ∧ i + n = (k : Int))) := by
  unfold ixP at h
  split at h
  · split at h
    · injection h with h; omega
    · cases h
  · split at h
    · injection h with h; omega
    · cases h
theorem ixP_ixN (n : Nat) (i : Int) : ixP n i = ixN n i := by
  unfold ixP ixN
  split
  · rfl
  · by_cases h : 0 ≤ i + n
    · rw [if_pos h, if_pos (by omega)]
    · rw [if_neg h, if_neg (by omega)]
theorem atI_ixP {xs : List V} {i : Int} {k : Nat} {v : V} (h : ixP xs.length i = some k) (e : xs[k]? = some v) : atI xs i = some v := by
  unfold atI
  rw [← ixP_ixN, h]
  exact e
theorem atR_some {α : Type} {xs : List α} {i : Int} {x : α} (h : atR xs i = .ok x) : ∃ k, ixP xs.length i = some k ∧ xs[k]? = some x := by
  unfold atR at h
  cases e : ixP xs.length i with
  | none => rw [e] at h; cases h
  | some k =>
    rw [e] at h
    cases e2 : xs[k]? with
    | none => simp only [e2] at h; cases h
    | some y => simp only [e2] at h; exact ⟨k, rfl, by rw [e2, R.ok_inj h]⟩
theorem Dats.atI {F : Hp} {vs : List V} {ds : List D} {i : Int} {k : Nat} {d : D} (h : Dats K F vs ds) (h1 : ixP ds.length i = some k) (h2 : ds[k]? = some d) : ∃ v, L2.atI vs i = some v ∧ Dat K F v d := by
  obtain ⟨v, e, q⟩ := h.get h2
  exact ⟨v, atI_ixP (by rw [h.length]; exact h1) e, q⟩
theorem ev_ixT {i : Int} {k : Nat} (ha : EV K ta env (.tup ds)) (hb : EV K tb env (dI i)) (h1 : ixP ds.length i = some k) (h2 : ds[k]? = some d) : EV K (tOp (rIxT K) ta tb) env d := fun σ F H A O m w Q q =>
  ev_two ha hb m w fun x y F' H' s w' d1 d2 => by
    cases d1 with
    | tup a b =>
      obtain ⟨v, e, dv⟩ := b.atI h1 h2
      exact ⟨_, _, i, v, rfl, d2.int, w'.same.sqt a, e, q _ F' H' s w' dv⟩
theorem ev_ixL {i : Int} {k : Nat} (ha : EV K ta env (.lst ds)) (hb : EV K tb env (dI i)) (h1 : ixP ds.length i = some k) (h2 : ds[k]? = some d) : EV K (tOp (rIxL K) ta tb) env d := fun σ F H A O m w Q q =>
  ev_two ha hb m w fun x y F' H' s w' d1 d2 => by
    cases d1 with
    | lst a b =>
      obtain ⟨v, e, dv⟩ := b.atI h1 h2
      exact ⟨_, _, i, v, rfl, d2.int, w'.same.seq a, e, q _ F' H' s w' dv⟩
theorem map_at {α : Type} {r : α → D} {xs : List α} {i : Int} {x : α} (h : atR xs i = .ok x) : ∃ k, ixP (xs.map r).length i = some k ∧ (xs.map r)[k]? = some (r x) := by
  obtain ⟨k, h1, h2⟩ := atR_some h
  exact ⟨k, by rw [List.length_map]; exact h1, by rw [List.getElem?_map, h2]; rfl⟩
theorem ev_atL {α : Type} {r : α → D} {xs : List α} {x : α} (h : atR xs i = .ok x) (ha : EV K ta env (.lst (xs.map r))) (hb : EV K tb env (dI i)) : EV K (tOp (rIxL K) ta tb) env (r x) :=
  let ⟨k, h1, h2⟩ := map_at (r := r) h; ev_ixL ha hb h1 h2
theorem ev_atT {α : Type} {r : α → D} {xs : List α} {x : α} (h : atR xs i = .ok x) (ha : EV K ta env (.tup (xs.map r))) (hb : EV K tb env (dI i)) : EV K (tOp (rIxT K) ta tb) env (r x) :=
  let ⟨k, h1, h2⟩ := map_at (r := r) h; ev_ixT ha hb h1 h2
/-- an own list's item -/
theorem ev_atO {α : Type} {r : α → D} {xs : List α} {x : α} {n : Nat} (h : atR xs i = .ok x) (ha : env[n]? = some (.ownN na (xs.map r))) (hb : EV K tb env (dI i)) : EV K (tOp (rIxL K) (tVar n) tb) env (r x) := fun σ F H A O m w Q q => by
  obtain ⟨p, vs, A1, A2, e, h1, h2, _, _⟩ := m.getO ha
  refine ⟨_, h1, hb σ F H A O m w _ fun y F' H' s w' d2 => ?_⟩
  obtain ⟨k, g1, g2⟩ := map_at (r := r) h
  obtain ⟨v, e2, dv⟩ := (h2.up s).atI g1 g2
  have hp := (w'.has (p, .lst vs) (by rw [e]; simp)).2
  exact ⟨p, vs, i, v, rfl, d2.int, .of hp, e2, q v F' H' s w' dv⟩
def rLenP (K : PySem.W.Frag) : List V → Hp → VK → Prop := fun xs H Q => ∃ x n, xs = [x] ∧ LenV K x H n ∧ Q (.int n) H
theorem ev_lenL (ha : EV K ta env (.lst ds)) : EV K (tCB (rLenP K) (tCons ta tNil)) env (dI (ds.length : Nat)) := fun σ F H A O m w Q q =>
  ha σ F H A O m w _ fun v F' H' s w' d1 => by
    cases d1 with
    | lst a b => exact ⟨_, ds.length, rfl, .inl ⟨_, w'.same.seq a, b.length.symm⟩, q _ F' H' s w' (.v _)⟩
theorem ev_lenT (ha : EV K ta env (.tup ds)) : EV K (tCB (rLenP K) (tCons ta tNil)) env (dI (ds.length : Nat)) := fun σ F H A O m w Q q =>
  ha σ F H A O m w _ fun v F' H' s w' d1 => by
    cases d1 with
    | tup a b => exact ⟨_, ds.length, rfl, .inr ⟨_, w'.same.sqt a, b.length.symm⟩, q _ F' H' s w' (.v _)⟩
theorem ev_lenO {n : Nat} (ha : env[n]? = some (.ownN na ds)) : EV K (tCB (rLenP K) (tCons (tVar n) tNil)) env (dI (ds.length : Nat)) := fun σ F H A O m w Q q => by
  obtain ⟨p, vs, A1, A2, e, h1, h2, _, _⟩ := m.getO ha
  have hp := (w.has (p, .lst vs) (by rw [e]; simp)).2
  exact ⟨_, h1, _, ds.length, rfl, .inl ⟨_, .of hp, h2.length.symm⟩, q _ F H (Same.refl F) w (.v _)⟩
theorem ev_lenS {x : Str} (hx : x.length ≤ sizeLine) (ha : EV K ta env (dS x)) : EV K (tCB (rLenP K) (tCons ta tNil)) env (dI (x.length : Nat)) := fun σ F H A O m w Q q =>
  ha σ F H A O m w _ fun v F' H' s w' d1 => by
    rw [d1.scl]
    exact ⟨_, x.length, rfl, ⟨hx, rfl⟩, q _ F' H' s w' (.v _)⟩
/-- the length of mapped data -/
theorem ev_lenM {α : Type} {r : α → D} {xs : List α} (h : EV K t env (dI ((xs.map r).length : Nat))) : EV K t env (dI (xs.length : Nat)) := by rw [List.length_map] at h; exact h

/-! ### built-in calls of whole numbers -/
def rAbs : List V → Hp → VK → Prop := fun xs H Q => ∃ i, xs = [.int i] ∧ Q (.int (if i < 0 then -i else i)) H
theorem ev_abs (ha : EV K ta env (dI i)) : EV K (tCB rAbs (tCons ta tNil)) env (dI (absZ i)) := fun σ F H A O m w Q q =>
  ha σ F H A O m w _ fun v F' H' s w' d1 => ⟨i, by rw [d1.int], q _ F' H' s w' (.v _)⟩
def rMax2' : List V → Hp → VK → Prop := fun xs H Q => ∃ i j, xs = [.int i, .int j] ∧ Q (.int (if j > i then j else i)) H
def rMin2' : List V → Hp → VK → Prop := fun xs H Q => ∃ i j, xs = [.int i, .int j] ∧ Q (.int (if j < i then j else i)) H
theorem ev_max (ha : EV K ta env (dI i)) (hb : EV K tb env (dI j)) : EV K (tCB rMax2' (tCons ta (tCons tb tNil))) env (dI (maxZ i j)) := fun σ F H A O m w Q q =>
  ev_two ha hb m w fun x y F' H' s w' d1 d2 => ⟨i, j, by rw [d1.int, d2.int], q _ F' H' s w' (.v _)⟩
theorem ev_min (ha : EV K ta env (dI i)) (hb : EV K tb env (dI j)) : EV K (tCB rMin2' (tCons ta (tCons tb tNil))) env (dI (minZ i j)) := fun σ F H A O m w Q q =>
  ev_two ha hb m w fun x y F' H' s w' d1 d2 => ⟨i, j, by rw [d1.int, d2.int], q _ F' H' s w' (.v _)⟩
/-! ### isinstance -/
def tyD : D → Option String
  | .v .non => some "NoneType"
  | .v (.bl _) => some "bool"
  | .v (.int _) => some "int"
  | .v (.str _) => some "str"
  | .v _ => none
  | .tup _ => some "tuple"
  | .lst _ => some "list"
  | .ins _ _ => none
  | .hp _ => some "tuple"
  | .ob _ => none
theorem tyX_of {F H : Hp} {v : V} {d : D} {T : String} (s : Same F H) (h : Dat K F v d) (e : tyD d = some T) : TyX K H v (.type T) := by
  cases h with
  | v =>
    cases v with
    | non => cases e; exact .base .non
    | bl b => cases e; exact .base (.bl b)
    | int b => cases e; exact .base (.int b)
    | str b => cases e; exact .base (.str b)
    | _ => cases e
  | tup a b =>
    cases e
    rcases s.sqt a with (z | ⟨o, z⟩) | ⟨o, _, _, z, c, _⟩
    · exact .base (.tup z)
    · exact .fTuple z
    · exact .kTuple z c
  | lst a b =>
    cases e
    rcases s.seq a with (z | ⟨o, z⟩) | ⟨o, _, _, z, c, _⟩
    · exact .base (.lst z)
    · exact .base (.frz z)
    · exact .kList z c
  | ins a b => cases e
  | hp a => cases e; exact .base (.tup (s _ _ a))
  | ob a => cases e
theorem ev_isi {a b : String} {r : Bool} (ha : EV K ta env d) (e : tyD d = some a) (k : kitB a b = some r) : EV K (tCB (rIsi K) (tCons ta (tCons (tC (.ty b)) tNil))) env (dB r) := fun σ F H A O m w Q q =>
  ha σ F H A O m w _ fun v F' H' s w' d1 => ⟨v, .ty b, _, _, r, rfl, .ty b, tyX_of w'.same d1 e, kit_ty k, q _ F' H' s w' (.v _)⟩
end
end Pg

set_option Elab.async false
set_option linter.all false
set_option maxRecDepth 100000
namespace Pg
open PySem PySem.Spec PyProof.Rows L2
abbrev W0 : WX := fun c d _ H => E0 c d H

/-! ### statements -/
section
variable (K : PySem.W.Frag) (E : WX)
/-- from the abstract frame env the statement's reading comes to Nx, hands back a tree by Rt, or raises by Ex -/
def SW (t : TS) (env : List Slot) (Nx : List Slot → Prop) (Rt : List Slot → T → Prop) (Ex : List Slot → Value → Prop) : Prop :=
  ∀ (σ : L2.St) (F H : Hp) (A O : List (Addr × HO)), Match K F σ env A → Own F H (A ++ O) → ∀ Dn : Ends,
    (∀ env' σ' F' H' A', Nx env' → Same F F' → Match K F' σ' env' A' → Own F' H' (A' ++ O) → Dn.nx σ' H') →
    (∀ env' x v σ' F' H' A' O1, Rt env' x → Same F F' → Match K F' σ' env' A' → Own F' H' (O1 ++ (A' ++ O)) → TR K F' v x O1 → Dn.rt v H') →
    (∀ env' c σ' F' H' A', Ex env' c → Same F F' → Match K F' σ' env' A' → Own F' H' (A' ++ O) → E c none σ' H') → t Dn σ H
def ownAt (env : List Slot) (i : Nat) : Bool := match env[i]? with
  | some (.tr _) => true
  | _ => false
/-- a target: stores the datum d; js: the slots it stores to -/
def GT (g : TG) (js : List Nat) (d : D) (env env' : List Slot) : Prop :=
  (∀ i, ownAt env' i = true → ownAt env i = true) ∧ ∀ (σ : L2.St) (v : V) (F H : Hp) (A O : List (Addr × HO)), Match K F σ env A → Own F H (A ++ O) → Dat K F v d → ∀ Q : L2.St → Hp → Prop,
    (∀ σ' A', A'.Sublist A → ((∀ j ∈ js, ownAt env j = false) → A' = A) → Match K F σ' env' A' → (∀ vs : List Nat, (∀ j ∈ js, j ∈ vs) → wipe σ' vs = wipe σ vs) → Q σ' H) → g v σ H Q
end
section
variable {K : PySem.W.Frag} {na : Option Addr} {E : WX} {env env' : List Slot} {t u : TS} {te ta tb : TE} {tt : TT} {d e : D} {ds es : List D} {i j : Nat} {Nx Nx' : List Slot → Prop} {Rt : List Slot → T → Prop} {Ex : List Slot → Value → Prop} {g : TG}
theorem Own.subA {F H : Hp} {A A' O : List (Addr × HO)} (h : Own F H (A ++ O)) (s : A'.Sublist A) : Own F H (A' ++ O) := h.sub (s.append (List.Sublist.refl O))
theorem Own.dropA {F H : Hp} {A O : List (Addr × HO)} (h : Own F H (A ++ O)) : Own F H O := h.sub (List.sublist_append_right A O)
theorem sw_mono (h : SW K E t env Nx Rt Ex) (hn : ∀ e, Nx e → Nx' e) : SW K E t env Nx' Rt Ex := fun σ F H A O m w Dn q1 q2 q4 => h σ F H A O m w Dn (fun a b c d f z => q1 a b c d f (hn a z)) q2 q4
theorem sw_weak (hw : Wk env env') (h : SW K E t env' Nx Rt Ex) : SW K E t env Nx Rt Ex := fun σ F H A O m w Dn q1 q2 q4 => by
  obtain ⟨A', s, m'⟩ := m.weak hw
  exact h σ F H A' O m' (w.subA s) Dn q1 q2 q4
theorem sw_seq (h : SW K E t env (fun e => SW K E u e Nx Rt Ex) Rt Ex) : SW K E (tSeq t u) env Nx Rt Ex := fun σ F H A O m w Dn q1 q2 q4 =>
  h σ F H A O m w _ (fun e σ' F' H' A' n s m' w' => n σ' F' H' A' O m' w' Dn (fun e2 σ2 F2 H2 A2 n2 s2 m2 w2 => q1 e2 σ2 F2 H2 A2 n2 (s.trans s2) m2 w2)
    (fun e x v σ2 F2 H2 A2 O1 r s2 m2 w2 => q2 e x v σ2 F2 H2 A2 O1 r (s.trans s2) m2 w2) fun e c σ2 F2 H2 A2 r s2 m2 w2 => q4 e c σ2 F2 H2 A2 r (s.trans s2) m2 w2) q2 q4
theorem sw_next (h : Nx env) : SW K E tNext env Nx Rt Ex := fun σ F H A O m w Dn q1 q2 q4 => q1 env σ F H A h (Same.refl F) m w
/-- a way that cannot be -/
theorem sw_absurd (h : False) : SW K E t env Nx Rt Ex := h.elim
theorem match_setA {F : Hp} : ∀ {σ : L2.St} {env : List Slot} {O : List (Addr × HO)} (i : Nat) {v : V} {d : D}, Match K F σ env O → Dat K F v d → ownAt env i = false → Match K F (σ.set i (some v)) (env.set i (.dat d)) O
  | _, _, _, _, _, _, .nil, _, _ => .nil
  | _, _, _, 0, _, _, .un m, h, _ => .dat h m
  | _, _, _, 0, _, _, .dat _ m, h, _ => .dat h m
  | _, _, _, 0, _, _, .tr _ m, h, z => by simp [ownAt] at z
  | _, _, _, i + 1, _, _, .un m, h, z => .un (match_setA i m h (by simpa [ownAt] using z))
  | _, _, _, i + 1, _, _, .dat d m, h, z => .dat d (match_setA i m h (by simpa [ownAt] using z))
  | _, _, _, i + 1, _, _, .tr d m, h, z => .tr d (match_setA i m h (by simpa [ownAt] using z))
theorem ownAt_set {i : Nat} {d : D} (j : Nat) (h : ownAt (env.set i (.dat d)) j = true) : ownAt env j = true := by
  unfold ownAt at h ⊢
  by_cases e : i = j
  · subst e
    by_cases hl : i < env.length
    · rw [List.getElem?_set_self hl] at h; cases h
    · rw [List.getElem?_eq_none (by simpa using hl)] at h; cases h
  · rw [List.getElem?_set_ne e] at h; exact h
theorem gt_name (i : Nat) (d : D) (env : List Slot) : GT K (gName i) [i] d env (env.set i (.dat d)) := ⟨fun j h => ownAt_set j h, fun σ v F H A O m w hd Q q => by
  have hex : ∃ A', A'.Sublist A ∧ ((∀ j ∈ [i], ownAt env j = false) → A' = A) ∧ Match K F (σ.set i (some v)) (env.set i (.dat d)) A' := by
    by_cases ho : ownAt env i = true
    · obtain ⟨A', s, m'⟩ := m.set i hd
      exact ⟨A', s, fun z => absurd ho (by rw [z i (List.mem_singleton.mpr rfl)]; decide), m'⟩
    · exact ⟨A, List.Sublist.refl _, fun _ => rfl, match_setA i m hd (by simpa using ho)⟩
  obtain ⟨A', s, sA, m'⟩ := hex
  refine q _ A' s sA m' fun vs hv => ?_
  have hi := hv i (List.mem_singleton.mpr rfl)
  clear q m' hv
  induction vs with
  | nil => cases hi
  | cons b vs ih =>
    unfold wipe
    by_cases hb : i ∈ vs
    · rw [ih hb]
    · have e : b = i := by
        rcases List.mem_cons.mp hi with z | z
        · exact z.symm
        · exact absurd z hb
      subst e
      have key : ∀ (σ : L2.St) (ws : List Nat), b ∉ ws → (wipe (σ.set b (some v)) ws).set b none = (wipe σ ws).set b none := by
        intro σ ws
        induction ws with
        | nil => intro _; unfold wipe; rw [List.set_set]
        | cons c ws ih2 =>
          intro hn
          have h1 : c ≠ b := fun z => hn (by rw [z]; exact List.mem_cons_self)
          have h2 : b ∉ ws := fun z => hn (List.mem_cons_of_mem _ z)
          unfold wipe
          rw [List.set_comm _ _ h1, ih2 h2, List.set_comm _ _ h1.symm]
      exact key σ vs hb⟩
/-- name = e -/
theorem sw_set (h : EV K te env d) (hn : Nx (env.set i (.dat d))) : SW K E (tAsg te (gName i)) env Nx Rt Ex := fun σ F H A O m w Dn q1 q2 q4 =>
  h σ F H A O m w _ fun v F1 H1 s1 w1 d1 => by
    obtain ⟨A', s, m'⟩ := (m.up s1).set i d1
    exact q1 _ _ F1 H1 A' hn s1 m' (w1.subA s)
/-- name = a new list, owned -/
theorem sw_own (h : EN K te env ds) (hl : i < env.length) (hn : Nx (env.set i (.own ds))) : SW K E (tAsg te (gName i)) env Nx Rt Ex := fun σ F H A O m w Dn q1 q2 q4 =>
  h σ F H A O m w _ fun p vs F1 H1 s1 w1 d1 => by
    obtain ⟨A1, B, A2, e, s, m'⟩ := (m.up s1).put i d1 hl
    subst e
    refine q1 _ _ F1 H1 _ hn s1 m' ?_
    have w2 : Own F1 H1 ((p, .lst vs) :: ((A1 ++ B) ++ O)) := w1.sub (((List.Sublist.refl A1).append s |>.append (List.Sublist.refl O)).cons₂ _)
    rw [List.append_assoc] at w2 ⊢
    exact w2.unmid
/-- an own list frozen -/
theorem sw_frz {xs : List D} (h : env[i]? = some (.ownN na xs)) (hn : SW K E t (env.set i (.dat (.lst xs))) Nx Rt Ex) : SW K E t env Nx Rt Ex := fun σ F H A O m w Dn q1 q2 q4 => by
  obtain ⟨p, vs, A1, A2, e, h1, h2, _, h5⟩ := m.getO h
  subst e
  rw [List.append_assoc] at w
  obtain ⟨w2, s2⟩ := w.mid.frz
  have w2 : Own (upd F p (.lst vs)) H (A1 ++ A2 ++ O) := by rw [List.append_assoc]; exact w2
  exact hn σ _ H (A1 ++ A2) O (h5 _ _ s2 (.lst (.of upd_same) (h2.up s2))) w2 Dn (fun a b c d f z s => q1 a b c d f z (s2.trans s)) (fun e x v a b c d f z s => q2 e x v a b c d f z (s2.trans s)) fun e c a b d f z s => q4 e c a b d f z (s2.trans s)
theorem sw_ret (h : EV K te env d) (hr : Rt env (.dat d)) : SW K E (tRet te) env Nx Rt Ex := fun σ F H A O m w Dn q1 q2 q4 =>
  h σ F H A O m w _ fun v F1 H1 s1 w1 d1 => q2 env _ v σ F1 H1 A [] hr s1 (m.up s1) w1 (.dat d1)
theorem sw_retN (hr : Rt env (.dat (.v .non))) : SW K E tRetN env Nx Rt Ex := fun σ F H A O m w Dn q1 q2 q4 => q2 env _ .non σ F H A [] hr (Same.refl F) m w (.dat (.v _))
/-- return a new list -/
theorem sw_retO (h : EN K te env ds) (hr : Rt env (.lst none (ds.map T.dat))) : SW K E (tRet te) env Nx Rt Ex := fun σ F H A O m w Dn q1 q2 q4 =>
  h σ F H A O m w _ fun p vs F1 H1 s1 w1 d1 => q2 env _ _ σ F1 H1 A [(p, .lst vs)] hr s1 (m.up s1) w1 (.lst (fun _ z => nomatch z) d1.tree)
/-- return what a slot owns by its name -/
theorem sw_retT {x : T} (h : env[i]? = some (.tr x)) (hr : Rt (env.set i .un) x) : SW K E (tRet (tVar i)) env Nx Rt Ex := fun σ F H A O m w Dn q1 q2 q4 => by
  obtain ⟨v, O1, A1, A2, e, h1, h2, _, _, h6⟩ := m.getT h
  subst e
  refine ⟨_, h1, q2 _ _ _ σ F H (A1 ++ A2) O1 hr (Same.refl F) (h6 F (Same.refl F)) (w.perm ?_) h2⟩
  have e1 : A1 ++ (O1 ++ A2) ++ O = (A1 ++ O1) ++ (A2 ++ O) := by simp
  have e2 : O1 ++ (A1 ++ A2 ++ O) = (O1 ++ A1) ++ (A2 ++ O) := by simp
  rw [e1, e2]
  exact List.Perm.append_right _ List.perm_append_comm
theorem sw_retV (h : env[i]? = some (.own ds)) (hr : Rt (env.set i .un) (.lst none (ds.map T.dat))) : SW K E (tRet (tVar i)) env Nx Rt Ex := sw_retT h hr
theorem sw_drop (h : EV K te env d) (hn : Nx env) : SW K E (tDrop te) env Nx Rt Ex := fun σ F H A O m w Dn q1 q2 q4 =>
  h σ F H A O m w _ fun v F1 H1 s1 w1 d1 => q1 env σ F1 H1 A hn s1 (m.up s1) w1
theorem sw_if {c : Bool} (h : ET K tt env c) (h1 : c = true → SW K E t env Nx Rt Ex) (h2 : c = false → SW K E u env Nx Rt Ex) : SW K E (tIfS tt t u) env Nx Rt Ex := fun σ F H A O m w Dn q1 q2 q4 =>
  h σ F H A O m w _ fun F1 H1 s1 w1 => by
    have k : ∀ {t : TS}, SW K E t env Nx Rt Ex → t Dn σ H1 := fun z => z σ F1 H1 A O (m.up s1) w1 Dn (fun a b c d f y s => q1 a b c d f y (s1.trans s)) (fun e x v a b c d f z s => q2 e x v a b c d f z (s1.trans s)) fun e c a b d f z s => q4 e c a b d f z (s1.trans s)
    cases c with
    | true => exact iteT (k (h1 rfl))
    | false => exact iteF (k (h2 rfl))
/-- xs.append(e), xs an own list -/
theorem appR_some {α : Type} {xs ys : List α} {x : α} (h : appR xs x = .ok ys) : xs.length < 16777216 ∧ ys = xs ++ [x] := by
  unfold appR at h
  split at h
  · exact ⟨by assumption, (R.ok_inj h).symm⟩
  · cases h
theorem sw_app {α : Type} {r : α → D} {xs ys : List α} {x : α} (hx : appR xs x = .ok ys) (h : env[i]? = some (.ownN na (xs.map r))) (he : EV K te env (r x)) (hn : Nx (env.set i (.ownN na (ys.map r)))) :
    SW K E (tDrop (tBM K "list" rAppend (tVar i) (tCons te tNil))) env Nx Rt Ex := fun σ F H A O m w Dn q1 q2 q4 => by
  obtain ⟨p, vs, A1, A2, e, h1, h2, h4, _⟩ := m.getO h
  obtain ⟨hl, e2⟩ := appR_some hx
  subst e2
  have hp := (w.has (p, .lst vs) (by rw [e]; simp)).2
  refine ⟨_, h1, .inl ⟨rfl, vs, .of hp⟩, he σ F H A O m w _ fun v F1 H1 s1 w1 d1 => ?_⟩
  have hp1 := (w1.has (p, .lst vs) (by rw [e]; simp)).2
  refine ⟨p, vs, v, rfl, rfl, hp1, ?_, ?_⟩
  · have := h2.length
    rw [List.length_map] at this
    rw [this, sizeLine_eq]; exact hl
  · subst e
    refine q1 _ σ F1 _ (A1 ++ (p, .lst (vs ++ [v])) :: A2) hn s1 ?_ ?_
    · rw [List.map_append]
      exact h4 F1 _ _ s1 ((h2.up s1).append (.cons d1 .nil))
    · rw [List.append_assoc] at w1 ⊢
      exact (w1.mid.put (o' := .lst (vs ++ [v]))).unmid
/-- xs[k] = e, xs an own list -/
theorem setR_some {α : Type} {xs ys : List α} {x : α} {k : Int} (h : setR xs k x = .ok ys) : ∃ n, ixP xs.length k = some n ∧ ys = xs.set n x := by
  unfold setR at h
  split at h
  · exact ⟨_, by assumption, (R.ok_inj h).symm⟩
  · cases h
theorem sw_put {α : Type} {r : α → D} {xs ys : List α} {x : α} {k : Int} (hx : setR xs k x = .ok ys) (he : EV K te env (r x)) (h : env[i]? = some (.ownN na (xs.map r))) (hk : EV K tb env (dI k)) (hn : Nx (env.set i (.ownN na (ys.map r)))) :
    SW K E (tAsg te (gSub (tVar i) tb rSetL)) env Nx Rt Ex := fun σ F H A O m w Dn q1 q2 q4 =>
  he σ F H A O m w _ fun v F1 H1 s1 w1 d1 => by
    obtain ⟨p, vs, A1, A2, e, h1, h2, h4, _⟩ := m.getO h
    obtain ⟨n, e1, e2⟩ := setR_some hx
    subst e2
    refine ⟨_, h1, hk σ F1 H1 A O (m.up s1) w1 _ fun y F2 H2 s2 w2 d2 => ?_⟩
    have hp2 := (w2.has (p, .lst vs) (by rw [e]; simp)).2
    have hl := h2.length
    rw [List.length_map] at hl
    refine ⟨p, vs, k, n, rfl, d2.int, hp2, by rw [← ixP_ixN, hl]; exact e1, ?_⟩
    subst e
    refine q1 _ σ F2 _ (A1 ++ (p, .lst (vs.set n v)) :: A2) hn (s1.trans s2) ?_ ?_
    · rw [List.map_set]
      exact h4 F2 _ _ (s1.trans s2) ((h2.up (s1.trans s2)).set n (d1.up s2))
    · rw [List.append_assoc] at w2 ⊢
      exact (w2.mid.put (o' := .lst (vs.set n v))).unmid

/-! ### what is walked -/
variable (K) in
def Walks (J : It) (F : Hp) (ds : List D) : Prop :=
  (∀ (i : Nat) (F' H : Hp) (O : List (Addr × HO)) (d : D), Same F F' → Own F' H O → ds[i]? = some d → J.go i H ∧ ∀ x H', J.yld i H x H' → ∃ F'', Same F' F'' ∧ Own F'' H' O ∧ Dat K F'' x d) ∧
  (∀ (i : Nat) (F' H : Hp) (O : List (Addr × HO)), Same F F' → Own F' H O → ds.length ≤ i → J.stop i H)
variable (K) in
def IV (wi : TI) (env : List Slot) (ds : List D) : Prop := ∀ (σ : L2.St) (F H : Hp) (A O : List (Addr × HO)), Match K F σ env A → Own F H (A ++ O) → ∀ Q : It → Hp → Prop,
  (∀ J F' H', Same F F' → Own F' H' (A ++ O) → Walks K J F' ds → Q J H') → wi σ H Q
variable (K) in
/-- .. where what is walked changes the frame -/
def IVM (wi : TI) (env env' : List Slot) (ds : List D) : Prop := ∀ (σ : L2.St) (F H : Hp) (A O : List (Addr × HO)), Match K F σ env A → Own F H (A ++ O) → ∀ Q : It → Hp → Prop,
  (∀ J F' H' A', Same F F' → Match K F' σ env' A' → Own F' H' (A' ++ O) → Walks K J F' ds → Q J H') → wi σ H Q
theorem IV.m {wi : TI} (h : IV K wi env ds) : IVM K wi env env ds := fun σ F H A O m w Q q => h σ F H A O m w Q fun J F' H' s w' wk => q J F' H' A s (m.up s) w' wk
theorem iv_list (h : EV K te env (.lst ds)) : IV K (iList K te) env ds := fun σ F H A O m w Q q => h σ F H A O m w _ fun v F1 H1 s1 w1 d1 => by
  cases d1 with
  | lst a b =>
    refine ⟨_, rfl, ⟨_, w1.same.seq a⟩, q _ F1 H1 s1 w1 ⟨fun i F' H O d s w' hd => ?_, fun i F' H O s w' hl => ⟨_, w'.same.seq (s.seq a), by rw [b.length]; exact hl⟩⟩⟩
    obtain ⟨x, hx, dx⟩ := b.get hd
    refine ⟨⟨_, x, w'.same.seq (s.seq a), hx⟩, fun y H' hy => ?_⟩
    obtain ⟨e1, e2⟩ := hy
    subst e1
    have : x = y := Option.some.inj (hx.symm.trans (e2 _ (w'.same.seq (s.seq a))))
    subst this
    exact ⟨F', Same.refl _, w', dx.up s⟩
theorem iv_tup (h : EV K te env (.tup ds)) : IV K (iTup K te) env ds := fun σ F H A O m w Q q => h σ F H A O m w _ fun v F1 H1 s1 w1 d1 => by
  cases d1 with
  | tup a b =>
    refine ⟨_, rfl, ⟨_, w1.same.sqt a⟩, q _ F1 H1 s1 w1 ⟨fun i F' H O d s w' hd => ?_, fun i F' H O s w' hl => ⟨_, w'.same.sqt (s.sqt a), by rw [b.length]; exact hl⟩⟩⟩
    obtain ⟨x, hx, dx⟩ := b.get hd
    refine ⟨⟨_, x, w'.same.sqt (s.sqt a), hx⟩, fun y H' hy => ?_⟩
    obtain ⟨e1, e2⟩ := hy
    subst e1
    have : x = y := Option.some.inj (hx.symm.trans (e2 _ (w'.same.sqt (s.sqt a))))
    subst this
    exact ⟨F', Same.refl _, w', dx.up s⟩
theorem walks_rng (lo : Int) (n : Nat) (F : Hp) : Walks K (Itr lo n) F (((List.range n).map fun k => lo + (k : Nat)).map dI) := by
  refine ⟨fun i F' H O d s w' hd => ?_, fun i F' H O s w' hl => ?_⟩
  case refine_2 => rw [List.length_map, List.length_map, List.length_range] at hl; exact hl
  rw [List.map_map, List.getElem?_map] at hd
  by_cases hi : i < n
  · rw [List.getElem?_range hi] at hd
    have e : dI (lo + (i : Nat)) = d := Option.some.inj hd
    subst e
    refine ⟨hi, fun y H' hy => ?_⟩
    obtain ⟨e1, e2⟩ := hy
    subst e1 e2
    exact ⟨F', Same.refl _, w', .v _⟩
  · rw [List.getElem?_eq_none (by simpa using hi)] at hd
    cases hd
theorem rngR_some {i j : Int} {xs : List Int} (h : rngR i j = .ok xs) : (-(2 ^ 62) ≤ i ∧ i < 2 ^ 62 ∧ -(2 ^ 62) ≤ j ∧ j < 2 ^ 62) ∧ xs = (List.range (j - i).toNat).map fun k => i + (k : Nat) := by
  unfold rngR at h
  split at h
  · exact ⟨by assumption, (R.ok_inj h).symm⟩
  · cases h
theorem iv_rng1 {j : Int} {xs : List Int} (hx : rngR 0 j = .ok xs) (h : EV K te env (dI j)) : IV K (iRng1 (tCons te tNil)) env (xs.map dI) := fun σ F H A O m w Q q => h σ F H A O m w _ fun v F1 H1 s1 w1 d1 => by
  obtain ⟨⟨_, _, h1, h2⟩, e⟩ := rngR_some hx
  rw [d1.int]
  refine ⟨j, rfl, h1, h2, q _ F1 H1 s1 w1 ?_⟩
  rw [e]
  have := walks_rng (K := K) 0 (j - 0).toNat F1
  rw [show j - 0 = j by omega] at this ⊢
  exact this
theorem iv_rng2 {i j : Int} {xs : List Int} (hx : rngR i j = .ok xs) (ha : EV K ta env (dI i)) (hb : EV K tb env (dI j)) : IV K (iRng2 (tCons ta (tCons tb tNil))) env (xs.map dI) := fun σ F H A O m w Q q =>
  ev_two ha hb m w fun x y F' H' s w' d1 d2 => by
    obtain ⟨h, e⟩ := rngR_some hx
    rw [d1.int, d2.int]
    refine ⟨i, j, rfl, h, q _ F' H' s w' ?_⟩
    rw [e]
    exact walks_rng (K := K) i (j - i).toNat F'

/-! ### for -/
theorem forX_step {α S β : Type} {f : α → S → R (Sum S β)} : ∀ {xs : List α} {s : S} {r : Sum S β}, R.forX f xs s = .ok r →
    (xs = [] ∧ r = .inl s) ∨ ∃ x ys, xs = x :: ys ∧ ∃ r1, f x s = .ok r1 ∧ ((∃ s', r1 = .inl s' ∧ R.forX f ys s' = .ok r) ∨ ∃ b, r1 = .inr b ∧ r = .inr b)
  | [], s, r, h => .inl ⟨rfl, (R.ok_inj h).symm⟩
  | x :: ys, s, r, h => by
    obtain ⟨r1, h1, h2⟩ := R.bind_inv h
    refine .inr ⟨x, ys, rfl, r1, h1, ?_⟩
    cases r1 with
    | inl s' => exact .inl ⟨s', rfl, h2⟩
    | inr b => exact .inr ⟨b, rfl, (R.ok_inj h2).symm⟩
/-- a for whose turns may hand back -/
theorem sw_forXM {wi : TI} {tb : TS} {α S β : Type} {xs : List α} {ra : α → D} (f : α → S → R (Sum S β)) (ε : S → List Slot) (ρ : β → List Slot → T → Prop) (ξ : β → List Slot → Value → Prop) (s0 : S) {r : Sum S β} {js : List Nat} {envi : List Slot}
    (hi : IVM K wi env envi (xs.map ra)) (hf : R.forX f xs s0 = .ok r) (h0 : Wk envi (ε s0))
    (hb : ∀ x s r1, x ∈ xs → f x s = .ok r1 → ∃ env1, GT K g js (ra x) (ε s) env1 ∧ SW K E tb env1 (fun e => ∃ s', r1 = .inl s' ∧ Wk e (ε s')) (fun e v => ∃ b, r1 = .inr b ∧ ρ b e v) (fun e c => ∃ b, r1 = .inr b ∧ ξ b e c))
    (hn : ∀ s, r = .inl s → Nx (ε s)) (hr : ∀ b, r = .inr b → (∀ e v, ρ b e v → Rt e v) ∧ ∀ e c, ξ b e c → Ex e c) : SW K E (tFor wi g tb) env Nx Rt Ex := fun σ F H A O m w Dn q1 q2 q4 =>
  hi σ F H A O m w _ fun J F1 H1 A1 s1 m1 w1 wk => by
    obtain ⟨A0, sb0, m0⟩ := m1.weak h0
    refine ⟨fun i k σ2 H2 => ∃ (s : S) (F2 : Hp) (A2 : List (Addr × HO)), k + i = xs.length ∧ Same F1 F2 ∧ Match K F2 σ2 (ε s) A2 ∧ Own F2 H2 (A2 ++ O) ∧ R.forX f (xs.drop i) s = .ok r,
      ⟨xs.length, s0, F1, A0, rfl, Same.refl _, m0, w1.subA sb0, hf⟩, ?_⟩
    rintro i k σ2 H2 ⟨s, F2, A2, hk, ss, m2, w2, h2⟩
    rcases forX_step h2 with ⟨e1, e2⟩ | ⟨x, ys, e1, r1, h3, h4⟩
    · have hl : xs.length ≤ i := by
        have := congrArg List.length e1
        rw [List.length_drop, List.length_nil] at this
        omega
      exact .inl ⟨wk.2 i F2 H2 _ ss w2 (by rw [List.length_map]; exact hl), q1 _ _ F2 H2 A2 (hn s e2) (s1.trans ss) m2 w2⟩
    · have hx : xs[i]? = some x := by
        have := congrArg (fun l => l[0]?) e1
        simpa using this
      have hlt : i < xs.length := by
        rcases Nat.lt_or_ge i xs.length with z | z
        · exact z
        · rw [List.getElem?_eq_none z] at hx; cases hx
      have hys : xs.drop (i + 1) = ys := by
        rw [← List.drop_drop, e1]; rfl
      obtain ⟨g1, g2⟩ := wk.1 i F2 H2 _ (ra x) ss w2 (by rw [List.getElem?_map, hx]; rfl)
      refine .inr ⟨g1, fun σ3 H3 => ∃ (s' : S) (F3 : Hp) (A3 : List (Addr × HO)), r1 = .inl s' ∧ Same F1 F3 ∧ Match K F3 σ3 (ε s') A3 ∧ Own F3 H3 (A3 ++ O), ?_, fun y H3 hy => ?_⟩
      · rintro σ3 H3 ⟨s', F3, A3, e3, ss3, m3, w3⟩
        refine ⟨k - 1, by omega, s', F3, A3, by omega, ss3, m3, w3, ?_⟩
        rcases h4 with ⟨s4, e4, h5⟩ | ⟨b, e4, _⟩
        · rw [e3] at e4
          cases e4
          rw [hys]; exact h5
        · rw [e3] at e4; cases e4
      · obtain ⟨F3, ss3, w3, d3⟩ := g2 y H3 hy
        obtain ⟨env1, hg, hbody⟩ := hb x s r1 (List.mem_of_getElem? hx) h3
        refine hg.2 σ2 y F3 H3 A2 O (m2.up ss3) w3 d3 _ fun σ4 A4 sb4 _ m4 _ => ?_
        have sF : Same F F3 := s1.trans (ss.trans ss3)
        have e8 : ∀ b, r1 = .inr b → r = .inr b := fun b e6 => by
          rcases h4 with ⟨s4, e4, _⟩ | ⟨b', e4, e9⟩
          · rw [e6] at e4; cases e4
          · rw [e6] at e4; cases e4; exact e9
        refine hbody σ4 F3 H3 A4 O m4 (w3.subA sb4) _ ?_ ?_ ?_
        · rintro e5 σ5 F5 H5 A5 ⟨s', e6, wk6⟩ s5 m5 w5
          obtain ⟨A6, sb6, m6⟩ := m5.weak wk6
          exact ⟨s', F5, A6, e6, ss.trans (ss3.trans s5), m6, w5.subA sb6⟩
        · rintro e5 x5 v σ5 F5 H5 A5 O5 ⟨b, e6, e7⟩ s5 m5 w5 d5
          exact q2 e5 x5 v σ5 F5 H5 A5 O5 ((hr b (e8 b e6)).1 _ _ e7) (sF.trans s5) m5 w5 d5
        · rintro e5 c σ5 F5 H5 A5 ⟨b, e6, e7⟩ s5 m5 w5
          exact q4 e5 c σ5 F5 H5 A5 ((hr b (e8 b e6)).2 _ _ e7) (sF.trans s5) m5 w5
theorem sw_forX {wi : TI} {tb : TS} {α S β : Type} {xs : List α} {ra : α → D} (f : α → S → R (Sum S β)) (ε : S → List Slot) (ρ : β → List Slot → T → Prop) (ξ : β → List Slot → Value → Prop) (s0 : S) {r : Sum S β} {js : List Nat}
    (hi : IV K wi env (xs.map ra)) (hf : R.forX f xs s0 = .ok r) (h0 : Wk env (ε s0))
    (hb : ∀ x s r1, x ∈ xs → f x s = .ok r1 → ∃ env1, GT K g js (ra x) (ε s) env1 ∧ SW K E tb env1 (fun e => ∃ s', r1 = .inl s' ∧ Wk e (ε s')) (fun e v => ∃ b, r1 = .inr b ∧ ρ b e v) (fun e c => ∃ b, r1 = .inr b ∧ ξ b e c))
    (hn : ∀ s, r = .inl s → Nx (ε s)) (hr : ∀ b, r = .inr b → (∀ e v, ρ b e v → Rt e v) ∧ ∀ e c, ξ b e c → Ex e c) : SW K E (tFor wi g tb) env Nx Rt Ex :=
  sw_forXM f ε ρ ξ s0 hi.m hf h0 hb hn hr
/-- a for whose turns do not hand back -/
theorem forR_X {α S : Type} (f : α → S → R S) : ∀ (xs : List α) (s s1 : S), R.forR f xs s = .ok s1 → R.forX (β := Empty) (fun x s => R.bind (f x s) fun s' => .ok (Sum.inl s')) xs s = .ok (Sum.inl s1)
  | [], s, s1, h => by rw [R.ok_inj (show R.ok s = R.ok s1 from h)]; rfl
  | x :: xs, s, s1, h => by
    obtain ⟨s2, h1, h2⟩ := R.bind_inv h
    unfold R.forX
    rw [h1]
    exact forR_X f xs s2 s1 h2
theorem sw_forRM {wi : TI} {tb : TS} {α S : Type} {xs : List α} {ra : α → D} (f : α → S → R S) (ε : S → List Slot) (s0 : S) {s1 : S} {js : List Nat} {envi : List Slot}
    (hi : IVM K wi env envi (xs.map ra)) (hf : R.forR f xs s0 = .ok s1) (h0 : Wk envi (ε s0))
    (hb : ∀ x s s', x ∈ xs → f x s = .ok s' → ∃ env1, GT K g js (ra x) (ε s) env1 ∧ SW K E tb env1 (fun e => Wk e (ε s')) (fun _ _ => False) (fun _ _ => False))
    (hn : Nx (ε s1)) : SW K E (tFor wi g tb) env Nx Rt Ex := by
  refine sw_forXM (β := Empty) (js := js) (fun x s => R.bind (f x s) fun s' => .ok (Sum.inl s')) ε (fun b => nomatch b) (fun b => nomatch b) s0 hi (forR_X f xs s0 s1 hf) h0 (fun x s r1 hx h => ?_) (fun s e => ?_) (fun b => nomatch b)
  · obtain ⟨s', h1, h2⟩ := R.bind_inv h
    obtain ⟨env1, hg, hs⟩ := hb x s s' hx h1
    refine ⟨env1, hg, ?_⟩
    intro σ F H A O m w Dn q1 q2 q4
    exact hs σ F H A O m w Dn (fun a b c d f z => q1 a b c d f ⟨s', (R.ok_inj h2).symm, z⟩) (fun _ _ _ _ _ _ _ _ z => z.elim) (fun _ _ _ _ _ _ z => z.elim)
  · cases e; exact hn
theorem sw_forR {wi : TI} {tb : TS} {α S : Type} {xs : List α} {ra : α → D} (f : α → S → R S) (ε : S → List Slot) (s0 : S) {s1 : S} {js : List Nat}
    (hi : IV K wi env (xs.map ra)) (hf : R.forR f xs s0 = .ok s1) (h0 : Wk env (ε s0))
    (hb : ∀ x s s', x ∈ xs → f x s = .ok s' → ∃ env1, GT K g js (ra x) (ε s) env1 ∧ SW K E tb env1 (fun e => Wk e (ε s')) (fun _ _ => False) (fun _ _ => False))
    (hn : Nx (ε s1)) : SW K E (tFor wi g tb) env Nx Rt Ex :=
  sw_forRM f ε s0 hi.m hf h0 hb hn
/-- (a, b) targets -/
theorem gt_tup2 {g1 g2 : TG} {j1 j2 : List Nat} {d1 d2 : D} {env1 env2 : List Slot} (h1 : GT K g1 j1 d1 env env1) (h2 : GT K g2 j2 d2 env1 env2) : GT K (gTup K 2 (gCons g1 (gCons g2 gNil))) (j1 ++ j2) (.tup [d1, d2]) env env2 := ⟨fun i h => h1.1 i (h2.1 i h), fun σ v F H A O m w hd Q q => by
  cases hd with
  | tup a b =>
    cases b with
    | cons b1 b =>
      cases b with
      | cons b2 b =>
        cases b
        refine ⟨_, _, rfl, w.same.sqt a, rfl, _, _, rfl, h1.2 σ _ F H A O m w b1 _ fun σ1 A1 sb1 y1 m1 z1 => ?_⟩
        refine ⟨_, _, rfl, h2.2 σ1 _ F H A1 O m1 (w.subA sb1) b2 _ fun σ2 A2 sb2 y2 m2 z2 => ⟨rfl, ?_⟩⟩
        refine q σ2 A2 (sb2.trans sb1) (fun z => ?_) m2 fun vs hv => (z2 vs fun j hj => hv j (List.mem_append_right _ hj)).trans (z1 vs fun j hj => hv j (List.mem_append_left _ hj))
        have e1 := y1 fun j hj => z j (List.mem_append_left _ hj)
        have e2 := y2 fun j hj => by
          cases ho : ownAt env1 j with
          | false => rfl
          | true =>
            have := h1.1 j ho
            rw [z j (List.mem_append_right _ hj)] at this
            cases this
        rw [e2, e1]⟩
/-- target = e, any target -/
theorem sw_asgG {js : List Nat} (h : EV K te env d) (hg : GT K g js d env env') (hn : Nx env') : SW K E (tAsg te g) env Nx Rt Ex := fun σ F H A O m w Dn q1 q2 q4 =>
  h σ F H A O m w _ fun v F1 H1 s1 w1 d1 => hg.2 σ v F1 H1 A O (m.up s1) w1 d1 _ fun σ' A' sb _ m' _ => q1 _ _ F1 H1 A' hn s1 m' (w1.subA sb)
/-- a, b = x, y -/
theorem sw_par (ha : EV K ta env d) (hb : EV K tb env e) (hn : Nx ((env.set i (.dat d)).set j (.dat e))) : SW K E (tPar i j (tCons ta (tCons tb tNil))) env Nx Rt Ex := fun σ F H A O m w Dn q1 q2 q4 =>
  ev_two ha hb m w fun x y F' H' s w' d1 d2 => by
    obtain ⟨A1, sb1, m1⟩ := (m.up s).set i d1
    obtain ⟨A2, sb2, m2⟩ := m1.set j d2
    exact ⟨x, y, rfl, q1 _ _ F' H' A2 hn s m2 (w'.subA (sb2.trans sb1))⟩
/-- while, by an invariant and a measure -/
theorem sw_while {tb : TS} {S : Type} (I : S → Prop) (μ : S → Nat) (ε : S → List Slot) (s0 : S) (h0 : Wk env (ε s0)) (i0 : I s0)
    (hs : ∀ s, I s → ∃ b, ET K tt (ε s) b ∧ (b = true → SW K E tb (ε s) (fun e => ∃ s', I s' ∧ μ s' < μ s ∧ Wk e (ε s')) Rt Ex) ∧ (b = false → Nx (ε s))) : SW K E (tWhile tt tb) env Nx Rt Ex := fun σ F H A O m w Dn q1 q2 q4 => by
  obtain ⟨A0, sb0, m0⟩ := m.weak h0
  refine ⟨fun k σ2 H2 => ∃ (s : S) (F2 : Hp) (A2 : List (Addr × HO)), μ s = k ∧ I s ∧ Same F F2 ∧ Match K F2 σ2 (ε s) A2 ∧ Own F2 H2 (A2 ++ O), ⟨_, s0, F, A0, rfl, i0, Same.refl _, m0, w.subA sb0⟩, ?_⟩
  rintro k σ2 H2 ⟨s, F2, A2, rfl, is, ss, m2, w2⟩
  obtain ⟨b, e1, e2, e3⟩ := hs s is
  refine e1 σ2 F2 H2 A2 O m2 w2 _ fun F3 H3 s3 w3 => ?_
  cases b with
  | false => exact iteF (q1 _ _ F3 H3 A2 (e3 rfl) (ss.trans s3) (m2.up s3) w3)
  | true =>
    refine iteT ⟨fun σ4 H4 => ∃ (s' : S) (F4 : Hp) (A4 : List (Addr × HO)), I s' ∧ μ s' < μ s ∧ Same F F4 ∧ Match K F4 σ4 (ε s') A4 ∧ Own F4 H4 (A4 ++ O), ?_, ?_⟩
    · rintro σ4 H4 ⟨s', F4, A4, i4, l4, ss4, m4, w4⟩
      exact ⟨μ s', l4, s', F4, A4, rfl, i4, ss4, m4, w4⟩
    · refine e2 rfl σ2 F3 H3 A2 O (m2.up s3) w3 _ ?_ ?_ ?_
      · rintro e5 σ5 F5 H5 A5 ⟨s', i5, l5, wk5⟩ s5 m5 w5
        obtain ⟨A6, sb6, m6⟩ := m5.weak wk5
        exact ⟨s', F5, A6, i5, l5, ss.trans (s3.trans s5), m6, w5.subA sb6⟩
      · exact fun e x v σ5 F5 H5 A5 O5 z s5 => q2 e x v σ5 F5 H5 A5 O5 z (ss.trans (s3.trans s5))
      · exact fun e c σ5 F5 H5 A5 z s5 => q4 e c σ5 F5 H5 A5 z (ss.trans (s3.trans s5))

/-! ### defs -/
/-- a def that computes f: of the data args x hands back rr of what f x comes to -/
def spR (K : PySem.W.Frag) {ι β : Type} (args : ι → List D) (f : ι → R β) (rr : β → D) : Sp := fun vs H Q _ =>
  ∃ (x : ι) (F : Hp) (O : List (Addr × HO)) (b : β), Own F H O ∧ Dats K F vs (args x) ∧ f x = .ok b ∧ ∀ v F' H', Same F F' → Own F' H' O → Dat K F' v (rr b) → Q v H'
/-- a def that hands back a new list -/
def spN (K : PySem.W.Frag) {ι β : Type} (args : ι → List D) (f : ι → R (List β)) (rr : β → D) : Sp := fun vs H Q _ =>
  ∃ (x : ι) (F : Hp) (O : List (Addr × HO)) (b : List β), Own F H O ∧ Dats K F vs (args x) ∧ f x = .ok b ∧ ∀ p us F' H', Same F F' → Own F' H' ((p, .lst us) :: O) → Dats K F' us (b.map rr) → Q (.ref p) H'
theorem sp_len {ι : Type} {args : ι → List D} {n : Nat} (hn : ∀ x, (args x).length = n) {vs : List V} {F : Hp} {x : ι} (h : Dats K F vs (args x)) : vs.length = n := h.length.trans (hn x)
theorem match_un : ∀ (n : Nat), Match K F (List.replicate n none) (List.replicate n .un) []
  | 0 => .nil
  | n + 1 => .un (match_un n)
theorem match_start {F : Hp} : ∀ {vs : List V} {ds : List D} (n : Nat), Dats K F vs ds → Match K F (vs.map some ++ List.replicate n none) (ds.map Slot.dat ++ List.replicate n .un) []
  | _, _, n, .nil => match_un n
  | _, _, n, .cons a b => .dat a (match_start n b)
theorem spR_run {ι β : Type} {args : ι → List D} {f : ι → R β} {rr : β → D} {N : List Str} {vs : List V} {H : Hp} {Q : VK} {E : XK} (n k : Nat) (hN : N.length = n + k) (hn : ∀ x, (args x).length = n)
    (hb : ∀ x b, f x = .ok b → SW K W0 t ((args x).map Slot.dat ++ List.replicate k .un) (fun _ => rr b = .v .non) (fun _ v => v = .dat (rr b)) fun _ _ => False)
    (h : spR K args f rr vs H Q E) : t { nx := fun _ H' => Q .non H', rt := Q } (L2.start N vs) H := by
  obtain ⟨x, F, O, b, w, da, hf, q⟩ := h
  have hl := sp_len hn da
  have m := match_start (N.length - vs.length) da
  rw [show N.length - vs.length = k by omega] at m
  unfold L2.start
  rw [show N.length - vs.length = k by omega]
  refine hb x b hf _ F H [] O m w _ ?_ ?_ ?_
  · exact fun e σ' F' H' A' z s m' w' => q .non F' H' s w'.dropA (by rw [z]; exact .v _)
  · rintro e _ v σ' F' H' A' O1 rfl s m' w' d'
    cases d' with
    | dat d' => exact q v F' H' s (w'.dropA (A := A')) d'
  · exact fun _ _ _ _ _ _ z => z.elim
theorem spN_run {ι β : Type} {args : ι → List D} {f : ι → R (List β)} {rr : β → D} {N : List Str} {vs : List V} {H : Hp} {Q : VK} {E : XK} (n k : Nat) (hN : N.length = n + k) (hn : ∀ x, (args x).length = n)
    (hb : ∀ x b, f x = .ok b → SW K W0 t ((args x).map Slot.dat ++ List.replicate k .un) (fun _ => False) (fun _ v => v = .lst none ((b.map rr).map T.dat)) fun _ _ => False)
    (h : spN K args f rr vs H Q E) : t { nx := fun _ H' => Q .non H', rt := Q } (L2.start N vs) H := by
  obtain ⟨x, F, O, b, w, da, hf, q⟩ := h
  have hl := sp_len hn da
  have m := match_start (N.length - vs.length) da
  rw [show N.length - vs.length = k by omega] at m
  unfold L2.start
  rw [show N.length - vs.length = k by omega]
  refine hb x b hf _ F H [] O m w _ ?_ ?_ ?_
  · exact fun e σ' F' H' A' z => z.elim
  · rintro e _ v σ' F' H' A' O1 rfl s m' w' d'
    cases d' with
    | lst n d' =>
      obtain ⟨e1, d1⟩ := d'.flat
      subst e1
      exact q _ _ F' H' s (w'.sub ((List.sublist_append_right A' O).cons₂ _)) d1
  · exact fun _ _ _ _ _ _ z => z.elim
/-- the call of such a def -/
theorem ev_call {ι β : Type} {args : ι → List D} {f : ι → R β} {rr : β → D} {ta : TA} {E' : XK} (x : ι) {b : β} (hf : f x = .ok b) (ha : EA K ta env (args x)) : EV K (tCall (spR K args f rr) [] E' ta) env (rr b) := fun σ F H A O m w Q q =>
  ha σ F H A O m w _ fun vs F1 H1 s1 w1 d1 => ⟨x, F1, A ++ O, b, w1, by rw [List.append_nil]; exact d1, hf, fun v F' H' s w' d' => q v F' H' (s1.trans s) w' d'⟩
theorem en_call {ι β : Type} {args : ι → List D} {f : ι → R (List β)} {rr : β → D} {ta : TA} {E' : XK} (x : ι) {b : List β} (hf : f x = .ok b) (ha : EA K ta env (args x)) : EN K (tCall (spN K args f rr) [] E' ta) env (b.map rr) := fun σ F H A O m w Q q =>
  ha σ F H A O m w _ fun vs F1 H1 s1 w1 d1 => ⟨x, F1, A ++ O, b, w1, by rw [List.append_nil]; exact d1, hf, fun p us F' H' s w' d' => q p us F' H' (s1.trans s) w' d'⟩
end
end Pg

set_option Elab.async false
set_option linter.all false
set_option maxRecDepth 100000
namespace Pg
open PySem PySem.Spec PyProof.Rows L2

/-! ### great numbers -/
def CMulP (i j : Int) : Prop := i.natAbs.log2 + j.natAbs.log2 < 134000000
/-- a number's bits, by its logarithm -/
theorem bits_log2 (x : Int) : Builtin.Int.intBits x ≤ x.natAbs.log2 + 1 := by
  rw [Builtin.Int.intBits]
  split
  · exact Nat.zero_le _
  · exact Nat.le_refl _
theorem CMulP.ok {i j : Int} (h : CMulP i j) : IntMulOk i j := fun z => by
  have line : bitsLine < Builtin.Int.intBits i + Builtin.Int.intBits j := by
    have big := (Bool.and_eq_true _ _ ▸ z).2
    simp only [Builtin.Int.intTooBig, decide_eq_true_eq] at big
    omega
  have low : 134000002 ≤ bitsLine := by decide
  have b1 := bits_log2 i
  have b2 := bits_log2 j
  rw [CMulP] at h
  omega
/-- what a division of any size asks of the world and of the frames -/
structure PyRm (b : Heap) (P : Program) (A : Around) (st : List Env) : Prop where
  seer : b.NoSeer
  tree : P.given.tree = none
  room : A.depth + Builtin.pylongFrames < recursionLimit
  top : ∃ e l, st = e :: l ∧ e.scope.isGenerator = false ∧ e.scope.isCoroutine = false ∧ e.builtins = builtinsNs ∧ e.globals = mainGlobals
section
variable {X : Cx}
theorem op_mulP : OpR X (binaryOp .Mult) (rI CMulP fun i j => .int (i * j)) := opI fun _ _ _ _ _ _ _ hc q => mul_int q hc.ok
theorem op_fdivP (hp : PyRm X.base X.prog X.A X.stack) : OpR X (binaryOp .FloorDiv) (rI (fun _ j => j ≠ 0) fun i j => .int (i.fdiv j)) := by
  rintro pins s σ H _ _ _ _ Q I rx ry ⟨i, j, rfl, rfl, hc, q⟩
  cases rx with
  | intro t et =>
  cases ry with
  | intro t' et' =>
  subst et et'
  obtain ⟨e, l, h1, h2, h3, h4, h5⟩ := hp.top
  have fr : X.A.frames = some (e :: l) := I.ok.frames.trans (congrArg some h1)
  exact floordiv_int hc ⟨.int (i.fdiv j), H, I.tok _, ⟨_, rfl⟩, q⟩
    (.inr (PySem.PylongRoom.of I.nolimit hp.room (PySem.SeerAt.of (hp.seer.keeps I.bk) hp.tree fr h2 h3 h4 h5)))
theorem op_pow10 : OpR X (binaryOp .Pow) (rI CPow fun i j => .int (i ^ j.toNat)) := op_pow
end
theorem room_py {k : Nat} {A : Around} (hr : Room k A) (h : 40 ≤ k) : A.depth + Builtin.pylongFrames < recursionLimit := by
  have h1 := hr.dp
  have h2 : Builtin.pylongFrames = 100 := rfl
  omega
theorem pyRm {b : Heap} {P : Program} {k : Nat} {A : Around} {qual : Str} {sc : Scope} {n : Addr} {f : Addr} {cd : Value} {outer : List Env} (h : b.NoSeer) (ht : P.given.tree = none) (hr : Room k A) (hk : 40 ≤ k) (hg : sc.isGenerator = false) (hc : sc.isCoroutine = false) :
    PyRm b P A (envOfC qual sc n f cd :: outer) := ⟨h, ht, room_py hr hk, _, _, rfl, hg, hc, rfl, rfl⟩
section
variable {K : PySem.W.Frag} {env : List Slot} {t ta tb : TE} {tt : TT} {i j k : Int} {d : D} {ds : List D}
theorem mulR_some (h : mulR i j = .ok k) : CMulP i j ∧ k = i * j := by
  unfold mulR at h
  split at h
  · exact ⟨by assumption, (R.ok_inj h).symm⟩
  · cases h
theorem fdivR_some (h : fdivR i j = .ok k) : j ≠ 0 ∧ k = i.fdiv j := by
  unfold fdivR at h
  split at h
  · cases h
  · exact ⟨by assumption, (R.ok_inj h).symm⟩
theorem fmodR_some (h : fmodR i j = .ok k) : j ≠ 0 ∧ k = i.fmod j := by
  unfold fmodR at h
  split at h
  · cases h
  · exact ⟨by assumption, (R.ok_inj h).symm⟩
theorem ev_mul (h : mulR i j = .ok k) (ha : EV K ta env (dI i)) (hb : EV K tb env (dI j)) : EV K (tOp (rI CMulP fun i j => .int (i * j)) ta tb) env (dI k) := by
  rw [(mulR_some h).2]; exact ev_iC (g := fun i j => .int (i * j)) (mulR_some h).1 ha hb
theorem ev_mulL (hc : i.natAbs.log2 + j.natAbs.log2 < 134000000) (hk : i * j = k) (ha : EV K ta env (dI i)) (hb : EV K tb env (dI j)) : EV K (tOp (rI CMulP fun i j => .int (i * j)) ta tb) env (dI k) := by
  rw [← hk]; exact ev_iC (C := CMulP) (g := fun i j => .int (i * j)) hc ha hb
theorem ev_fdiv (h : fdivR i j = .ok k) (ha : EV K ta env (dI i)) (hb : EV K tb env (dI j)) : EV K (tOp (rI (fun _ j => j ≠ 0) fun i j => .int (i.fdiv j)) ta tb) env (dI k) := by
  rw [(fdivR_some h).2]; exact ev_iC (C := fun _ j => j ≠ 0) (g := fun i j => .int (i.fdiv j)) (fdivR_some h).1 ha hb
theorem ev_fmod (h : fmodR i j = .ok k) (ha : EV K ta env (dI i)) (hb : EV K tb env (dI j)) : EV K (tOp (rI (fun _ j => j ≠ 0) fun i j => .int (i.fmod j)) ta tb) env (dI k) := by
  rw [(fmodR_some h).2]; exact ev_iC (C := fun _ j => j ≠ 0) (g := fun i j => .int (i.fmod j)) (fmodR_some h).1 ha hb
/-- by a written positive number -/
theorem ev_divP {n : Int} (hn : 0 < n) (ha : EV K ta env (dI i)) (hb : EV K tb env (dI n)) : EV K (tOp (rI (fun _ j => j ≠ 0) fun i j => .int (i.fdiv j)) ta tb) env (dI (i / n)) := by
  have e : i / n = i.fdiv n := (Int.fdiv_eq_ediv_of_nonneg i (by omega)).symm
  rw [e]; exact ev_iC (C := fun _ j => j ≠ 0) (g := fun i j => .int (i.fdiv j)) (by omega) ha hb
theorem ev_modP {n : Int} (hn : 0 < n) (ha : EV K ta env (dI i)) (hb : EV K tb env (dI n)) : EV K (tOp (rI (fun _ j => j ≠ 0) fun i j => .int (i.fmod j)) ta tb) env (dI (i % n)) := by
  have e : i % n = i.fmod n := (Int.fmod_eq_emod_of_nonneg i (by omega)).symm
  rw [e]; exact ev_iC (C := fun _ j => j ≠ 0) (g := fun i j => .int (i.fmod j)) (by omega) ha hb

/-! ### list comprehensions -/
def wipeS (env : List Slot) : List Nat → List Slot
  | [] => env
  | v :: vs => (wipeS env vs).set v .un
def noOwn (env : List Slot) (vs : List Nat) : Bool := vs.all fun i => !ownAt env i
theorem match_forget : ∀ {σ : L2.St} {env : List Slot} {A : List (Addr × HO)} {F : Hp} (i : Nat) (x : Option V), Match K F σ env A → ownAt env i = false → Match K F (σ.set i x) (env.set i .un) A
  | _, _, _, _, _, _, .nil, _ => .nil
  | _, _, _, _, 0, _, .un m, _ => .un m
  | _, _, _, _, 0, _, .dat _ m, _ => .un m
  | _, _, _, _, 0, _, .tr _ m, h => by simp [ownAt] at h
  | _, _, _, _, i + 1, x, .un m, h => .un (match_forget i x m (by simpa [ownAt] using h))
  | _, _, _, _, i + 1, x, .dat d m, h => .dat d (match_forget i x m (by simpa [ownAt] using h))
  | _, _, _, _, i + 1, x, .tr d m, h => .tr d (match_forget i x m (by simpa [ownAt] using h))
theorem ownAt_un {i : Nat} (j : Nat) (h : ownAt env j = false) : ownAt (env.set i .un) j = false := by
  unfold ownAt at h ⊢
  by_cases e : i = j
  · subst e
    by_cases hl : i < env.length
    · rw [List.getElem?_set_self hl]
    · rw [List.getElem?_eq_none (by simpa using hl)]
  · rw [List.getElem?_set_ne e]; exact h
theorem ownAt_wipe (j : Nat) (h : ownAt env j = false) : ∀ ws : List Nat, ownAt (wipeS env ws) j = false
  | [] => h
  | w :: ws => ownAt_un j (ownAt_wipe j h ws)
theorem noOwn_at {vs : List Nat} (h : noOwn env vs = true) : ∀ j ∈ vs, ownAt env j = false := fun j hj => by
  have := List.all_eq_true.mp h j hj
  simpa using this
theorem match_wipe {σ : L2.St} {A : List (Addr × HO)} {F : Hp} (m : Match K F σ env A) : ∀ vs : List Nat, noOwn env vs = true → Match K F (wipe σ vs) (wipeS env vs) A
  | [], _ => m
  | v :: vs, h => by
    have h1 := noOwn_at h v List.mem_cons_self
    unfold noOwn at h
    rw [List.all_cons, Bool.and_eq_true] at h
    exact match_forget v none (match_wipe m vs h.2) (ownAt_wipe v h1 vs)
theorem wipe_set_in {σ : L2.St} {x : Option V} {i : Nat} : ∀ {vs : List Nat}, i ∈ vs → wipe (σ.set i x) vs = wipe σ vs
  | b :: vs, hi => by
    unfold wipe
    by_cases hb : i ∈ vs
    · rw [wipe_set_in hb]
    · have e : b = i := by
        rcases List.mem_cons.mp hi with z | z
        · exact z.symm
        · exact absurd z hb
      subst e
      have key : ∀ (σ : L2.St) (ws : List Nat), b ∉ ws → (wipe (σ.set b x) ws).set b none = (wipe σ ws).set b none := by
        intro σ ws
        induction ws with
        | nil => intro _; unfold wipe; rw [List.set_set]
        | cons c ws ih2 =>
          intro hn
          have h1 : c ≠ b := fun z => hn (by rw [z]; exact List.mem_cons_self)
          have h2 : b ∉ ws := fun z => hn (List.mem_cons_of_mem _ z)
          unfold wipe
          rw [List.set_comm _ _ h1, ih2 h2, List.set_comm _ _ h1.symm]
      exact key σ vs hb
theorem wipe_wipe (σ : L2.St) : ∀ (us vs : List Nat), (∀ u ∈ us, u ∈ vs) → wipe (wipe σ us) vs = wipe σ vs
  | [], _, _ => rfl
  | u :: us, vs, h => by
    show wipe ((wipe σ us).set u none) vs = _
    rw [wipe_set_in (h u List.mem_cons_self), wipe_wipe σ us vs fun w hw => h w (List.mem_cons_of_mem _ hw)]
theorem mapIf_step {α β : Type} {p : α → R Bool} {f : α → R β} : ∀ {xs : List α} {zs : List β}, R.mapIf p f xs = .ok zs →
    (xs = [] ∧ zs = []) ∨ ∃ x ys b, xs = x :: ys ∧ p x = .ok b ∧ ((b = true ∧ ∃ y ws, f x = .ok y ∧ R.mapIf p f ys = .ok ws ∧ zs = y :: ws) ∨ (b = false ∧ R.mapIf p f ys = .ok zs))
  | [], zs, h => .inl ⟨rfl, (R.ok_inj h).symm⟩
  | x :: ys, zs, h => by
    obtain ⟨b, h1, h2⟩ := R.bind_inv (show R.bind (p x) _ = _ from h)
    refine .inr ⟨x, ys, b, rfl, h1, ?_⟩
    cases b with
    | true =>
      obtain ⟨y, h3, h4⟩ := R.bind_inv (if_t rfl h2)
      obtain ⟨ws, h5, h6⟩ := R.bind_inv h4
      exact .inl ⟨rfl, y, ws, h3, h5, (R.ok_inj h6).symm⟩
    | false => exact .inr ⟨rfl, if_f rfl h2⟩
/-- [e for x in xs if p] -/
theorem en_compIf {wi : TI} {g : TG} {te : TE} {vs js : List Nat} {α β : Type} {xs : List α} {ra : α → D} {rb : β → D} (p : α → R Bool) (f : α → R β) {ys : List β}
    (hi : IV K wi env (xs.map ra)) (hf : R.mapIf p f xs = .ok ys) (hl : xs.length < 16777216) (hw : noOwn env vs = true) (hj : ∀ j ∈ js, j ∈ vs)
    (hb : ∀ x, x ∈ xs → ∃ env1, GT K g js (ra x) (wipeS env vs) env1 ∧ (∀ b, p x = .ok b → ET K tt env1 b) ∧ (∀ y, p x = .ok true → f x = .ok y → EV K te env1 (rb y))) : EN K (tLc wi g tt te vs) env (ys.map rb) := fun σ F H A O m w Q q =>
  hi σ F H A O m w _ fun J F1 H1 s1 w1 wk D hD => by
    refine ⟨fun i k H2 => ∃ (acc : List β) (us : List V) (F2 : Hp), k + i = xs.length ∧ acc.length ≤ i ∧ Same F1 F2 ∧ Own F2 H2 ((D, .lst us) :: (A ++ O)) ∧ Dats K F2 us (acc.map rb) ∧ ∃ zs, R.mapIf p f (xs.drop i) = .ok zs ∧ ys = acc ++ zs,
      ⟨xs.length, [], [], F1, rfl, Nat.le_refl _, Same.refl _, w1.new hD, .nil, ys, hf, rfl⟩, ?_⟩
    rintro i k H2 ⟨acc, us, F2, hk, hlen, ss, w2, dd, zs, h2, e2⟩
    rcases mapIf_step h2 with ⟨e1, e3⟩ | ⟨x, rest, b, e1, hp, h4⟩
    · have hl' : xs.length ≤ i := by
        have := congrArg List.length e1
        rw [List.length_drop, List.length_nil] at this
        omega
      refine .inl ⟨wk.2 i F2 H2 _ ss w2 (by rw [List.length_map]; exact hl'), q D us F2 H2 (s1.trans ss) w2 ?_⟩
      rw [e2, e3, List.append_nil]; exact dd
    · have hx : xs[i]? = some x := by
        have := congrArg (fun l => l[0]?) e1
        simpa using this
      have hlt : i < xs.length := by
        rcases Nat.lt_or_ge i xs.length with z | z
        · exact z
        · rw [List.getElem?_eq_none z] at hx; cases hx
      have hys : xs.drop (i + 1) = rest := by
        rw [← List.drop_drop, e1]; rfl
      obtain ⟨g1, g2⟩ := wk.1 i F2 H2 _ (ra x) ss w2 (by rw [List.getElem?_map, hx]; rfl)
      refine .inr ⟨g1, fun H3 => ∃ (acc : List β) (us : List V) (F3 : Hp), acc.length ≤ i + 1 ∧ Same F1 F3 ∧ Own F3 H3 ((D, .lst us) :: (A ++ O)) ∧ Dats K F3 us (acc.map rb) ∧ ∃ zs, R.mapIf p f rest = .ok zs ∧ ys = acc ++ zs, ?_, fun y H3 hy => ?_⟩
      · rintro H3 ⟨acc3, us3, F3, l3, ss3, w3, d3, zs3, h3, e3⟩
        exact ⟨k - 1, by omega, acc3, us3, F3, by omega, by omega, ss3, w3, d3, zs3, by rw [hys]; exact h3, e3⟩
      · obtain ⟨F3, ss3, w3, d3⟩ := g2 y H3 hy
        obtain ⟨env1, hg, ht, he⟩ := hb x (List.mem_of_getElem? hx)
        have mw := match_wipe (m.up (s1.trans (ss.trans ss3))) vs hw
        have w3' : Own F3 H3 (A ++ ((D, .lst us) :: O)) := w3.unmid
        refine hg.2 (wipe σ vs) y F3 H3 A ((D, .lst us) :: O) mw w3' d3 _ fun σ4 A4 sb4 eA m4 z4 => ⟨?_, ?_⟩
        · rw [z4 vs hj, wipe_wipe σ vs vs fun _ z => z]
        · have eA := eA fun j h => ownAt_wipe j (noOwn_at hw j (hj j h)) vs
          subst eA
          refine ht b hp σ4 F3 H3 A4 ((D, .lst us) :: O) m4 w3' _ fun F5 H5 s5 w5 => ?_
          rcases h4 with ⟨rfl, y1, ws, h5, h6, h7⟩ | ⟨rfl, h6⟩
          · refine iteT (he y1 hp h5 σ4 F5 H5 A4 ((D, .lst us) :: O) (m4.up s5) w5 _ fun v F6 H6 s6 w6 d6 => ?_)
            have s36 := ss3.trans (s5.trans s6)
            refine ⟨us, (w6.has (D, .lst us) (by simp)).2, ?_, acc ++ [y1], us ++ [v], F6, ?_, ss.trans s36, (w6.mid.put (o' := .lst (us ++ [v]))), ?_, ws, h6, ?_⟩
            · have := dd.length
              rw [List.length_map] at this
              rw [this, sizeLine_eq]; omega
            · rw [List.length_append, List.length_singleton]; omega
            · rw [List.map_append]
              exact (dd.up s36).append (.cons d6 .nil)
            · rw [e2, h7, List.append_assoc]; rfl
          · have s35 := ss3.trans s5
            exact iteF ⟨acc, us, F5, by omega, ss.trans s35, w5.mid, dd.up s35, zs, h6, e2⟩
theorem mapR_If {α β : Type} (f : α → R β) : ∀ (xs : List α) (ys : List β), R.mapR f xs = .ok ys → R.mapIf (fun _ => .ok true) f xs = .ok ys
  | [], ys, h => h
  | x :: xs, ys, h => by
    obtain ⟨y, h1, h2⟩ := R.bind_inv (show R.bind (f x) _ = _ from h)
    obtain ⟨zs, h3, h4⟩ := R.bind_inv h2
    have e : R.mapIf (fun _ => .ok true) f (x :: xs) = R.bind (f x) fun y => R.bind (R.mapIf (fun _ => .ok true) f xs) fun ys => R.ok (y :: ys) := rfl
    rw [e, h1]
    show R.bind (R.mapIf (fun _ => .ok true) f xs) (fun ys => R.ok (y :: ys)) = R.ok ys
    rw [mapR_If f xs zs h3]
    exact h4
theorem et_yes : ET K tYes env true := fun σ F H A O m w Q q => q F H (Same.refl F) w
/-- [e for x in xs] -/
theorem en_comp {wi : TI} {g : TG} {te : TE} {vs js : List Nat} {α β : Type} {xs : List α} {ra : α → D} {rb : β → D} (f : α → R β) {ys : List β}
    (hi : IV K wi env (xs.map ra)) (hf : R.mapR f xs = .ok ys) (hl : xs.length < 16777216) (hw : noOwn env vs = true) (hj : ∀ j ∈ js, j ∈ vs)
    (hb : ∀ x, x ∈ xs → ∃ env1, GT K g js (ra x) (wipeS env vs) env1 ∧ ∀ y, f x = .ok y → EV K te env1 (rb y)) : EN K (tLc wi g tYes te vs) env (ys.map rb) :=
  en_compIf (tt := tYes) (js := js) (fun _ => .ok true) f hi (mapR_If f xs ys hf) hl hw hj fun x hx =>
    let ⟨env1, h1, h2⟩ := hb x hx; ⟨env1, h1, fun b e => by rw [← R.ok_inj e]; exact et_yes, fun y _ e => h2 y e⟩
end
end Pg

set_option Elab.async false
set_option linter.all false
set_option maxRecDepth 100000
namespace Pg
open PySem PySem.Spec PyProof.Rows L2
/-! ### the end: the law's call over a base that nobody watches, the script's bits told -/
section
variable {P : Program} {w : World} {K : PySem.W.Frag} {mg mb : Str → Option Value} {CX : CXT} {k : Nat} {fa a : Addr} {fd : FuncData} {x : Str} {sp : Sp} {s1 : Shared} {vs : List Value} {ns : List Int}
/-- what the script's object leaves of the heap -/
theorem hid_get {h : Heap} {H : Hp} (hA : ∀ b, H b ≠ none → b = a) {b : Addr} {o : Obj} (e : h.get? b = some o) (n : b ≠ a) : (hidT h H).get? b = some o :=
  hidT_get e (Classical.byContradiction fun z => n (hA b z))
theorem hid_ns {h : Heap} {H : Hp} (hA : ∀ b, H b ≠ none → b = a) {its : List Value} (ha : h.get? a = some { cls := .type "list", data := .seq its.toArray }) {b : Addr} {m : Str → Option Value} (q : h.Ns b m) : (hidT h H).Ns b m := by
  obtain ⟨o, es, ep, e, d, r⟩ := q
  refine ⟨o, es, ep, hid_get hA e fun z => ?_, d, r⟩
  subst z
  rw [ha] at e
  have e2 := Option.some.inj e
  subst e2
  exact nomatch d
theorem hid_seer {h : Heap} {H : Hp} (hA : ∀ b, H b ≠ none → b = a) {its : List Value} (ha : h.get? a = some { cls := .type "list", data := .seq its.toArray }) (q : h.NoSeer) : (hidT h H).NoSeer where
  statics := let ⟨m, e1, e2⟩ := q.statics; ⟨m, hid_ns hA ha e1, e2⟩
  mods := let ⟨m, e1, e2⟩ := q.mods; ⟨m, hid_ns hA ha e1, e2⟩
  imp := let ⟨m, e1, e2⟩ := q.imp; ⟨m, hid_ns hA ha e1, e2⟩
  main := by
    obtain ⟨m, bm, ob, e1, e2, e3, e4, e5⟩ := q.main
    refine ⟨m, bm, ob, hid_ns hA ha e1, e2, hid_get hA e3 fun z => ?_, e4, e5⟩
    subst z
    rw [ha] at e3
    have e6 := Option.some.inj e3
    subst e6
    exact absurd (show Value.type "list" = Value.type "module" from e4) (by decide)
/-- what is known of the heap at the entry: the script's list, frozen, where the head does not have it -/
theorem entry_hp (KX : K.In s1.heap) (ha : s1.heap.get? a = some { cls := .type "list", data := .seq vs.toArray }) (hi : IntsAre vs ns) (hl : ns.length ≤ sizeLine) :
    ∃ H : Hp, (∀ b, H b = none ∨ b = a ∧ ∃ ob xs, H b = some (.frz ob (.lst xs))) ∧ SqL K H a (ns.map V.int) ∧ HOk P w H s1.heap ∧ ∀ o, K.lookup a = some o → H a = none := by
  have rv := vals_ints hi
  cases hk : K.lookup a with
  | some o =>
    cases ha.symm.trans (KX a o hk)
    exact ⟨fun _ => none, fun _ => .inl rfl, .inr ⟨_, _, _, hk, rfl, rfl, rfl, by simpa [hi.length] using hl, by simpa using rv⟩, fun _ _ z => (nomatch z), fun _ _ => rfl⟩
  | none =>
    generalize ho : ({ cls := .type "list", data := .seq vs.toArray } : Obj) = o at ha
    refine ⟨upd (fun _ => none) a (.frz o (.lst (ns.map V.int))), fun b => ?_, .inl (.inr ⟨_, upd_same⟩), fun b u e => ?_, fun _ z => (nomatch z)⟩
    · by_cases z : b = a
      · subst z
        exact .inr ⟨rfl, _, _, upd_same⟩
      · exact .inl (upd_ne z)
    · by_cases z : b = a
      · subst z
        cases upd_same.symm.trans e
        exact ⟨ha, by simpa using hl, vs, _, rv, ho ▸ ha⟩
      · cases (upd_ne z).symm.trans e
theorem law_run (KX : K.In s1.heap) (hse : s1.heap.NoSeer) (hns : s1.heap.Ns mainGlobals mg) (hb : s1.heap.Ns builtinsNs mb) (hbb : ∀ x : Str, x ≠ "__name__" → mb x = bootBuiltins x) (hlim : s1.heap.NoLimit) (hg : s1.gens = #[])
    (ha : s1.heap.get? a = some { cls := .type "list", data := .seq vs.toArray }) (hi : IntsAre vs ns) (hl : ns.length ≤ sizeLine) (hr : Room k callerA) (F : ∀ base, K.In base → base.Ns mainGlobals mg → base.NoSeer → FnOk P w K mg base CX k fa fd [x] sp)
    (hbind : ∀ s u, BindsTo s fd ⟨[u], []⟩ [(x, u)]) (hsp : ∀ H, Only H → SqL K H a (ns.map V.int) → sp [.ref a] H (fun v _ => v = .bl true) fun _ _ _ => False) (hCX : ∀ H e s', CX [] H s1 (fun _ _ _ => False) e s' → False) :
    codeAny (model P w) callerA (.call (.ref fa) ⟨[.ref a], []⟩) (fun r s' => r = .ok (.ret (.bool true)) ∧ OldK s1.heap s'.heap ∧ s'.os = s1.os ∧ AllBare s'.gens) s1 := by
  obtain ⟨H, only, sq, hok, free⟩ := entry_hp (P := P) (w := w) KX ha hi hl
  have at_a : ∀ b, H b ≠ none → b = a := fun b n => (only b).elim (fun z => absurd z n) And.left
  have base : K.In (hidT s1.heap H) := fun b o e => hidT_get (KX b o e) ((only b).elim id fun z => z.1 ▸ free o (z.1 ▸ e))
  have ns1 {b : Addr} {m : Str → Option Value} (q : s1.heap.Ns b m) := hid_ns at_a ha q
  have env : Env0 P w K mg (hidT s1.heap H) callerA [] s1 H := {
    frames := rfl
    mod := { kin := base, glob := ns1 hns, blt := ⟨mb, ns1 hb, hbb⟩, nolimit := hlim.imp fun _ z => ⟨ns1 z.1, z.2⟩ }
    bs := fun _ _ => of_hidT
    bsz := Nat.le_of_eq (hidT_size _ _)
    funs := trivial
    frf := fun _ z => (nomatch z)
    hok := hok
    bare := .of_eq hg }
  refine codeAny_mono ((F _ base (ns1 hns) (hid_seer at_a ha hse)).run callerA [] s1 H ⟨[.ref a], []⟩ [.ref a] [.ref a] _ _ hr env (hbind s1 _) (.cons rfl .nil) (hsp H (fun b => (only b).imp_right And.right) sq)) fun r s' z => ?_
  match r, z with
  | .error e, z => exact (hCX H e s' z).elim
  | .ok .next, z | .ok .brk, z | .ok .cont, z => exact z.elim
  | .ok (.ret u), ⟨v, H2, eo, bare, un, ok2, ru, (qv : v = .bl true)⟩ =>
    subst qv
    cases (show u = Value.bool true from ru)
    refine ⟨rfl, OldK.of_keep fun b o e => ?_, eo, bare⟩
    rcases only b with z | ⟨-, ob, xs, z⟩
    · exact un.keep b o e z (fun z => (nomatch z)) fun z => (nomatch z)
    · exact (ok2 b _ (un.frzs b ob _ z)).1.trans ((hok b _ z).1.symm.trans e)
end
/-- a function object that keeps the promise of a law over every base -/
abbrev Serves (P : Program) (n k : Nat) (x : Str) (CX : CXT) (w : World) (mg : Str → Option Value) (fa : Addr) (h : Heap) : Prop :=
  ∃ (K : PySem.W.Frag) (fd : FuncData) (sp : Sp), K.In h ∧
    (∀ s u, BindsTo s fd ⟨[u], []⟩ [(x, u)]) ∧
    (∀ H a (ns : List Int), ns.length ≤ n → (∀ z ∈ ns, Builtin.Int.intBits z ≤ 1048576) → Only H → SqL K H a (ns.map V.int) →
      sp [.ref a] H (fun v _ => v = .bl true) (fun _ _ _ => False)) ∧
    (∀ base, K.In base → base.Ns mainGlobals mg → base.NoSeer → FnOk P w K mg base CX k fa fd [x] sp)
/-- no exception leaves the law -/
abbrev Quiet (CX : CXT) : Prop := ∀ H s e s', CX [] H s (fun _ _ _ => False) e s' → False
theorem walk_ofP {l : PySem.W.OpenLaw} {n k : Nat} {q : Program} {loose : List Str} {XP : (Str → Option Value) → Heap → Prop} {YP : World → Heap → Prop} {d : DefRec} {CX : CXT} {x : Str} (hn : l.most = some n) (hn2 : n ≤ sizeLine) (hdf : d.params.defaults = [])
    (hr : Room k callerA) (hq : importsNone q = true) (F : ∀ w mg fa h, YP w h → h.Ns mainGlobals mg → mg d.name = some (.ref fa) → Serves l.prog n k x CX w mg fa h) (hCX : Quiet CX) :
    PySem.W.WalkO q loose XP YP l.row.toRowW d [] (fun f vs => PySem.call f vs) :=
  Att.attach_callB hn hdf fun w _ _ mg _ fa _ _ _ _ a _ ns G Y _ _ _ hmg hobj hints hlen hbits hg =>
    let ⟨_, _, _, KX, hb, hsp, hF⟩ := F w mg fa _ Y G.T.g hmg
    law_run KX (G.T.seer hq) G.T.g G.T.b G.T.builtins G.T.nolimit hg hobj hints (Nat.le_trans hlen hn2) hr hF hb (fun H hO hS => hsp H a ns hlen hbits hO hS) fun H => hCX H _
end Pg

set_option Elab.async false
set_option linter.all false
set_option maxRecDepth 100000
namespace Pg
open PySem PySem.Spec PyProof.Rows L2
/-! ### built-in calls by my readings -/
section
variable {X : Cx}
theorem cl_len : CallR X (.builtin "len") (rLenP X.K) := call_len
theorem cl_abs : CallR X (.builtin "abs") rAbs := call_abs
theorem cl_max (hc : X.calm = true) : CallR X (.builtin "max") rMax2' := call_max2 hc
theorem cl_min (hc : X.calm = true) : CallR X (.builtin "min") rMin2' := call_min2 hc
def rListP (K : PySem.W.Frag) : List V → Hp → VK → Prop := fun xs H Q => ∃ p ys, xs = [.ref p] ∧ (SqL K H p ys ∨ SqT K H p ys) ∧ ∀ l, H l = none → Q (.ref l) (upd H l (.lst ys))
theorem cl_list : CallR X (.type "list") (rListP X.K) := call_list_of
def rTupP (K : PySem.W.Frag) : List V → Hp → VK → Prop := fun xs H Q => ∃ p ys, xs = [.ref p] ∧ ((SqL K H p ys ∧ ∀ l, H l = none → Q (.ref l) (upd H l (.tup ys))) ∨ (SqT K H p ys ∧ Q (.ref p) H))
theorem cl_tuple : CallR X (.type "tuple") (rTupP X.K) := call_tuple_of
/-- xs + ys of any two lists that are read -/
def rCatS (K : PySem.W.Frag) : R2 := fun x y H Q => ∃ l b xs zs, x = .ref l ∧ y = .ref b ∧ SqL K H l xs ∧ SqL K H b zs ∧ xs.length + zs.length ≤ sizeLine ∧ ∀ p, H p = none → Q (.ref p) (upd H p (.lst (xs ++ zs)))
theorem op_catS : OpR X (binaryOp .Add) (rCatS X.K) := by
  intro pins s σ H x y v u Q I rx ry h
  obtain ⟨l, b, xs, zs, rfl, rfl, hH, hB, hz, q⟩ := h
  cases rx
  cases ry
  obtain ⟨its, r1, ⟨o1, n1, g1, c1, d1, e1⟩, z1⟩ := I.list hH
  obtain ⟨its2, r2, ⟨o2, n2, g2, c2, d2, e2⟩, z2⟩ := I.list hB
  obtain ⟨oc1, od1, odt1, os1⟩ := o1
  obtain ⟨oc2, od2, odt2, os2⟩ := o2
  simp only at c1 d1 e1 c2 d2 e2
  subst c1 d1 e1 c2 d2 e2
  have l1 := r1.length
  have l2 := r2.length
  refine concat_meets ⟨_, g1, rfl⟩ ⟨_, g2, rfl⟩ noFill_list_add seq_list_add PySem.F.slot_list_add PySem.F.entry_list_add (PySem.F.args_list_add_2 _ _)
    (list_addW l b its.toArray its2.toArray n1 n2 none none os1 os2 (by rw [List.size_toArray, List.size_toArray, ← l1, ← l2]; exact hz)) ⟨g1, g2, ?_⟩
  rw [show its.toArray ++ its2.toArray = (its ++ its2).toArray by simp]
  exact ⟨.ref _, _, I.lnew (t' := s.toks) (r1.append r2) (by rw [List.length_append]; exact hz), rfl, q _ I.fresh⟩
end
section
variable {K : PySem.W.Frag} {na : Option Addr} {E : WX} {env : List Slot} {t ta tb te : TE} {tt : TT} {i j k : Int} {d : D} {ds es : List D} {Nx : List Slot → Prop} {Rt : List Slot → T → Prop} {Ex : List Slot → Value → Prop}
theorem en_listL {α : Type} {r : α → D} {xs : List α} (h : EV K t env (.lst (xs.map r))) : EN K (tCB (rListP K) (tCons t tNil)) env (xs.map r) := fun σ F H A O m w Q q =>
  h σ F H A O m w _ fun v F1 H1 s1 w1 d1 => by
    cases d1 with
    | lst a b => exact ⟨_, _, rfl, .inl (w1.same.seq a), fun l n => q l _ F1 _ s1 (w1.new n) b⟩
theorem en_listT {α : Type} {r : α → D} {xs : List α} (h : EV K t env (.tup (xs.map r))) : EN K (tCB (rListP K) (tCons t tNil)) env (xs.map r) := fun σ F H A O m w Q q =>
  h σ F H A O m w _ fun v F1 H1 s1 w1 d1 => by
    cases d1 with
    | tup a b => exact ⟨_, _, rfl, .inr (w1.same.sqt a), fun l n => q l _ F1 _ s1 (w1.new n) b⟩
theorem ev_tuple {α : Type} {r : α → D} {xs : List α} (h : EV K t env (.lst (xs.map r))) : EV K (tCB (rTupP K) (tCons t tNil)) env (.tup (xs.map r)) := fun σ F H A O m w Q q =>
  h σ F H A O m w _ fun v F1 H1 s1 w1 d1 => by
    cases d1 with
    | lst a b => exact ⟨_, _, rfl, .inl ⟨w1.same.seq a, fun l n => by
        obtain ⟨w2, s2⟩ := w1.newF (o := .tup _) n
        exact q _ _ _ (s1.trans s2) w2 (.tup (.of upd_same) (b.up s2))⟩⟩
theorem ev_pow {n : Int} (hc : 0 ≤ j ∧ j ≤ 1000000 ∧ i.natAbs < 18446744073709551616) (hn : i ^ j.toNat = n) (ha : EV K ta env (dI i)) (hb : EV K tb env (dI j)) : EV K (tOp (rI CPow fun i j => .int (i ^ j.toNat)) ta tb) env (dI n) := by
  rw [← hn]; exact ev_iC (C := CPow) (g := fun i j => .int (i ^ j.toNat)) hc ha hb
theorem compR_some {α β : Type} {f : α → R β} {xs : List α} {ys : List β} (h : R.compR f xs = .ok ys) : xs.length < 16777216 ∧ R.mapR f xs = .ok ys := by
  unfold R.compR at h
  split at h
  · exact ⟨by assumption, h⟩
  · cases h
theorem compIf_some {α β : Type} {p : α → R Bool} {f : α → R β} {xs : List α} {ys : List β} (h : R.compIf p f xs = .ok ys) : xs.length < 16777216 ∧ R.mapIf p f xs = .ok ys := by
  unfold R.compIf at h
  split at h
  · exact ⟨by assumption, h⟩
  · cases h
theorem en_compR {wi : TI} {g : TG} {vs js : List Nat} {α β : Type} {xs : List α} {ra : α → D} {rb : β → D} {f : α → R β} {ys : List β}
    (hi : IV K wi env (xs.map ra)) (hf : R.compR f xs = .ok ys) (hw : noOwn env vs = true) (hj : ∀ j ∈ js, j ∈ vs)
    (hb : ∀ x, x ∈ xs → ∃ env1, GT K g js (ra x) (wipeS env vs) env1 ∧ ∀ y, f x = .ok y → EV K te env1 (rb y)) : EN K (tLc wi g tYes te vs) env (ys.map rb) :=
  en_comp f hi (compR_some hf).2 (compR_some hf).1 hw hj hb
theorem en_compIfR {wi : TI} {g : TG} {vs js : List Nat} {α β : Type} {xs : List α} {ra : α → D} {rb : β → D} {p : α → R Bool} {f : α → R β} {ys : List β}
    (hi : IV K wi env (xs.map ra)) (hf : R.compIf p f xs = .ok ys) (hw : noOwn env vs = true) (hj : ∀ j ∈ js, j ∈ vs)
    (hb : ∀ x, x ∈ xs → ∃ env1, GT K g js (ra x) (wipeS env vs) env1 ∧ (∀ b, p x = .ok b → ET K tt env1 b) ∧ (∀ y, p x = .ok true → f x = .ok y → EV K te env1 (rb y))) : EN K (tLc wi g tt te vs) env (ys.map rb) :=
  en_compIf p f hi (compIf_some hf).2 (compIf_some hf).1 hw hj hb
/-! ### ratios -/
theorem mkQ_some {q : Rat} (h : mkQ i j = .ok q) : q.num = i ∧ (q.den : Int) = j := by
  unfold mkQ at h
  split at h
  · rename_i h2
    rw [← R.ok_inj h]
    exact ⟨rfl, by show ((j.toNat : Nat) : Int) = j; omega⟩
  · cases h
theorem ev_mkQ {q : Rat} (h : mkQ i j = .ok q) (ha : EV K ta env (dI i)) (hb : EV K tb env (dI j)) : EV K (tTup (tCons ta (tCons tb tNil))) env (dQ q) := by
  have e : dQ q = .tup [dI i, dI j] := by rw [← (mkQ_some h).1, ← (mkQ_some h).2]
  rw [e]; exact ev_tup (ea_cons ha (ea_cons hb ea_nil)) (show 2 ≤ sizeLine by decide)
/-! ### lists together, slices -/
theorem catR_some {α : Type} {xs ys zs : List α} (h : catR xs ys = .ok zs) : xs.length + ys.length ≤ 16777216 ∧ zs = xs ++ ys := by
  unfold catR at h
  split at h
  · exact ⟨by assumption, (R.ok_inj h).symm⟩
  · cases h
theorem en_cat {α : Type} {r : α → D} {xs ys zs : List α} (h : catR xs ys = .ok zs) (ha : EV K ta env (.lst (xs.map r))) (hb : EV K tb env (.lst (ys.map r))) : EN K (tOp (rCatS K) ta tb) env (zs.map r) := fun σ F H A O m w Q q =>
  ev_two ha hb m w fun x y F' H' s w' d1 d2 => by
    cases d1 with
    | lst a1 b1 =>
      cases d2 with
      | lst a2 b2 =>
        obtain ⟨h1, h2⟩ := catR_some h
        have l1 := b1.length
        have l2 := b2.length
        rw [List.length_map] at l1 l2
        exact ⟨_, _, _, _, rfl, rfl, w'.same.seq a1, w'.same.seq a2, by rw [l1, l2, sizeLine_eq]; exact h1, fun p n => q p _ F' _ s (w'.new n) (by rw [h2, List.map_append]; exact b1.append b2)⟩
theorem ev_catT {α : Type} {r : α → D} {xs ys zs : List α} (h : catR xs ys = .ok zs) (ha : EV K ta env (.tup (xs.map r))) (hb : EV K tb env (.tup (ys.map r))) : EV K (tOp (rCatA K) ta tb) env (.tup (zs.map r)) := fun σ F H A O m w Q q =>
  ev_two ha hb m w fun x y F' H' s w' d1 d2 => by
    cases d1 with
    | tup a1 b1 =>
      cases d2 with
      | tup a2 b2 =>
        obtain ⟨h1, h2⟩ := catR_some h
        have l1 := b1.length
        have l2 := b2.length
        rw [List.length_map] at l1 l2
        refine ⟨_, _, _, _, rfl, rfl, w'.same.sqt a1, w'.same.sqt a2, by rw [l1, l2, sizeLine_eq]; exact h1, fun e => ?_, fun _ e => ?_, fun _ _ p n => ?_⟩
        · subst e
          have : xs = [] := List.length_eq_zero_iff.mp (by rw [← l1]; rfl)
          have e3 : zs = ys := by rw [h2, this]; rfl
          exact q _ F' H' s w' (by rw [e3]; exact .tup a2 b2)
        · subst e
          have : ys = [] := List.length_eq_zero_iff.mp (by rw [← l2]; rfl)
          have e3 : zs = xs := by rw [h2, this, List.append_nil]
          exact q _ F' H' s w' (by rw [e3]; exact .tup a1 b1)
        · obtain ⟨w2, s2⟩ := w'.newF (o := .tup _) n
          exact q _ _ _ (s.trans s2) w2 (.tup (.of upd_same) (by rw [h2, List.map_append]; exact (b1.append b2).up s2))
theorem eo_none : EO K tNoPart env none := fun σ F H A O m w Q q => q F H (Same.refl F) w
theorem eo_some (h : EV K t env (dI i)) : EO K (tPart t) env (some i) := fun σ F H A O m w Q q => h σ F H A O m w _ fun v F1 H1 s1 w1 d1 => ⟨i, d1.int, q F1 H1 s1 w1⟩
theorem sIxP_eq (n d : Nat) (o : Option Int) : sIxP n d o = HT.sIx n d o := by
  unfold sIxP HT.sIx
  cases o with
  | none => rfl
  | some i => first | rfl | (simp only []; split <;> omega)
theorem cutV_eq (xs : List V) (lo hi : Option Int) : cutV xs lo hi = cutL xs lo hi := by
  unfold cutV cutL
  rw [sIxP_eq, sIxP_eq]
theorem Dats.cut {F : Hp} {α : Type} {r : α → D} {vs : List V} {xs : List α} (h : Dats K F vs (xs.map r)) (lo hi : Option Int) : Dats K F (cutV vs lo hi) ((cutL xs lo hi).map r) := by
  have l := h.length
  rw [List.length_map] at l
  rw [cutV_eq]
  unfold cutL
  rw [List.map_take, List.map_drop, l]
  exact (h.drop _).take _
theorem en_cut {α : Type} {r : α → D} {xs : List α} {tl th : TO} {lo hi : Option Int} (h : EV K te env (.lst (xs.map r))) (hl : EO K tl env lo) (hh : EO K th env hi) : EN K (tSl (rSlL K) te tl th) env ((cutL xs lo hi).map r) := fun σ F H A O m w Q q =>
  h σ F H A O m w _ fun v F1 H1 s1 w1 d1 => hl σ F1 H1 A O (m.up s1) w1 _ fun F2 H2 s2 w2 => hh σ F2 H2 A O (m.up (s1.trans s2)) w2 _ fun F3 H3 s3 w3 => by
    cases d1.up (s2.trans s3) with
    | lst a b => exact ⟨_, _, rfl, w3.same.seq a, fun p n => q p _ F3 _ (s1.trans (s2.trans s3)) (w3.new n) (b.cut lo hi)⟩
theorem ev_cutT {α : Type} {r : α → D} {xs : List α} {tl th : TO} {lo hi : Option Int} (h : EV K te env (.tup (xs.map r))) (hl : EO K tl env lo) (hh : EO K th env hi) : EV K (tSl (rSlA K) te tl th) env (.tup ((cutL xs lo hi).map r)) := fun σ F H A O m w Q q =>
  h σ F H A O m w _ fun v F1 H1 s1 w1 d1 => hl σ F1 H1 A O (m.up s1) w1 _ fun F2 H2 s2 w2 => hh σ F2 H2 A O (m.up (s1.trans s2)) w2 _ fun F3 H3 s3 w3 => by
    cases d1.up (s2.trans s3) with
    | tup a b =>
      refine ⟨_, _, rfl, w3.same.sqt a, fun e => ?_, fun e p n => ?_⟩
      · have e2 : (cutL xs lo hi).map r = xs.map r := by
          have l := b.length
          rw [List.length_map] at l
          unfold cutL
          rw [sIxP_eq, sIxP_eq, ← l, e.1, e.2, List.drop_zero, Nat.sub_zero, l, List.take_length]
        exact q _ F3 H3 (s1.trans (s2.trans s3)) w3 (by rw [e2]; exact .tup a b)
      · obtain ⟨w4, s4⟩ := w3.newF (o := .tup _) n
        exact q _ _ _ (s1.trans (s2.trans (s3.trans s4))) w4 (.tup (.of upd_same) ((b.cut lo hi).up s4))
/-! ### name op= e -/
theorem sw_augA {n : Nat} {a b c : Int} {r : Int → D} (hr : r = dI := by rfl) (h : R.ok (a + b) = R.ok c) (he : env[n]? = some (.dat (dI a))) (hb : EV K te env (dI b)) (hn : Nx (env.set n (.dat (dI c)))) : SW K E (tAug n te (ipI fun i j => i + j)) env Nx Rt Ex := fun σ F H A O m w Dn q1 q2 q4 => by
  obtain ⟨v, e1, dv⟩ := m.get he
  refine ⟨v, e1, hb σ F H A O m w _ fun y F1 H1 s1 w1 d1 => ⟨a, b, dv.int, d1.int, ?_⟩⟩
  have e := R.ok_inj h
  subst e
  obtain ⟨A', sb, m'⟩ := (m.up s1).set n (Dat.v (K := K) (F := F1) (.int _))
  exact q1 _ _ F1 H1 A' hn s1 m' (w1.subA sb)
theorem sw_augS {n : Nat} {a b c : Int} {r : Int → D} (hr : r = dI := by rfl) (h : R.ok (a - b) = R.ok c) (he : env[n]? = some (.dat (dI a))) (hb : EV K te env (dI b)) (hn : Nx (env.set n (.dat (dI c)))) : SW K E (tAug n te (ipI fun i j => i - j)) env Nx Rt Ex := fun σ F H A O m w Dn q1 q2 q4 => by
  obtain ⟨v, e1, dv⟩ := m.get he
  refine ⟨v, e1, hb σ F H A O m w _ fun y F1 H1 s1 w1 d1 => ⟨a, b, dv.int, d1.int, ?_⟩⟩
  have e := R.ok_inj h
  subst e
  obtain ⟨A', sb, m'⟩ := (m.up s1).set n (Dat.v (K := K) (F := F1) (.int _))
  exact q1 _ _ F1 H1 A' hn s1 m' (w1.subA sb)
/-! ### the greatest divisor's loop -/
theorem gcdR_some {x y g : Int} (h : gcdR x y = .ok g) : 0 ≤ x ∧ 0 ≤ y ∧ ((Int.gcd x y : Nat) : Int) = g := by
  unfold gcdR at h
  split at h
  · exact ⟨by omega, by omega, R.ok_inj h⟩
  · cases h
theorem sw_gcd {tb : TS} (ε : Int × Int → List Slot) {x0 y0 g : Int} (h : gcdR x0 y0 = .ok g) (h0 : Wk env (ε (x0, y0))) (ht : ∀ z, ET K tt (ε z) (decide (z.2 > 0)))
    (hb : ∀ (z : Int × Int) (w : Int), fmodR z.1 z.2 = .ok w → ((0 ≤ z.2 ∧ 0 ≤ w ∧ ((Int.gcd z.2 w : Nat) : Int) = g) ∧ w.toNat < z.2.toNat) → SW K E tb (ε z) (fun e => ∃ s' : Int × Int, (0 ≤ s'.1 ∧ 0 ≤ s'.2 ∧ ((Int.gcd s'.1 s'.2 : Nat) : Int) = g) ∧ s'.2.toNat < z.2.toNat ∧ Wk e (ε s')) Rt Ex)
    (hn : Nx (ε (g, 0))) : SW K E (tWhile tt tb) env Nx Rt Ex := by
  refine sw_while (S := Int × Int) (fun s => 0 ≤ s.1 ∧ 0 ≤ s.2 ∧ ((Int.gcd s.1 s.2 : Nat) : Int) = g) (fun s => s.2.toNat) ε (x0, y0) h0 (gcdR_some h) fun z hz => ⟨_, ht z, fun hc => ?_, fun hc => ?_⟩
  · obtain ⟨a, b⟩ := z
    have hb0 : 0 < b := of_decide_eq_true hc
    have e : fmodR a b = .ok (a.fmod b) := by unfold fmodR; rw [if_neg (by omega)]
    have e2 : a.fmod b = a % b := Int.fmod_eq_emod_of_nonneg a (by omega)
    have h1 := Int.emod_nonneg a (show b ≠ 0 by omega)
    have h2 := Int.emod_lt_of_pos a hb0
    refine hb (a, b) _ e ⟨⟨hz.2.1, by rw [e2]; exact h1, ?_⟩, by rw [e2]; show (a % b).toNat < b.toNat; omega⟩
    rw [e2]
    have h3 : Int.gcd b (a % b) = Int.gcd a b := by
      rw [Int.gcd_comm a b, Int.gcd_right_eq_iff]
      intro c hc0
      have h5 := Int.emod_add_mul_ediv a b
      have h6 : c ∣ b * (a / b) := Int.dvd_trans hc0 (Int.dvd_mul_right b (a / b))
      constructor
      · intro h7
        rw [← h5]; exact Int.dvd_add h7 h6
      · intro h7
        have h8 : a % b = a - b * (a / b) := by omega
        rw [h8]; exact Int.dvd_sub h7 h6
    show ((Int.gcd b (a % b) : Nat) : Int) = g
    rw [h3]; exact hz.2.2
  · obtain ⟨a, b⟩ := z
    have hb0 : ¬ b > 0 := of_decide_eq_false hc
    have hb2 : 0 ≤ b := hz.2.1
    have hb1 : b = 0 := by omega
    subst hb1
    have h3 : ((Int.gcd a 0 : Nat) : Int) = g := hz.2.2
    rw [Int.gcd_zero_right] at h3
    have h5 : 0 ≤ a := hz.1
    have h4 : a = g := by omega
    subst h4
    exact hn
end
end Pg

set_option Elab.async false
set_option linter.all false
set_option maxRecDepth 100000
namespace Pg
open PySem PySem.Spec PyProof.Rows L2
/-! ### == of data -/
/-- how the data of a kind compare -/
structure EqR {α : Type} (r : α → D) where
  py : α → PyData
  dep : Nat
  ok : ∀ (K : PySem.W.Frag) (F H : Hp) (v : V) (x : α), Same F H → Dat K F v (r x) → Dp K H v (py x)
  lay : ∀ x, (py x).canLay0 = true
  depth : ∀ x, (py x).depth ≤ dep
  eqv : ∀ x y, PyData.eqv (py x) (py y) = true ↔ x = y
section
variable {α β γ δ ε : Type} {r : α → D}
def eqI : EqR dI where
  py := .int
  dep := 1
  ok := fun K F H v x s h => by rw [h.int]; exact .int x
  lay := fun _ => by simp [PyData.canLay0]
  depth := fun _ => by simp [PyData.depth]
  eqv := fun x y => by simp [PyData.eqv]
def eqB : EqR dB where
  py := .bool
  dep := 1
  ok := fun K F H v x s h => by rw [h.bl]; exact .bl x
  lay := fun _ => by simp [PyData.canLay0]
  depth := fun _ => by simp [PyData.depth]
  eqv := fun x y => by simp [PyData.eqv]
theorem eqvAll_map {f : α → PyData} (h : ∀ x y, PyData.eqv (f x) (f y) = true ↔ x = y) : ∀ xs ys : List α, PyData.eqvAll (xs.map f) (ys.map f) = true ↔ xs = ys := by
  intro xs
  induction xs with
  | nil => intro ys; cases ys <;> simp [PyData.eqvAll]
  | cons x xs ih => intro ys; cases ys <;> simp [PyData.eqvAll, h, ih]
theorem layAll_map {f : α → PyData} (h : ∀ x, (f x).canLay0 = true) : ∀ xs : List α, PyData.canLayAll0 (xs.map f) = true
  | [] => by simp [PyData.canLayAll0]
  | x :: xs => by simp [PyData.canLayAll0, h, layAll_map h xs]
theorem depthAll_map {f : α → PyData} {n : Nat} (h : ∀ x, (f x).depth ≤ n) : ∀ xs : List α, PyData.depthAll (xs.map f) ≤ n := by
  intro xs
  induction xs with
  | nil => exact Nat.zero_le n
  | cons x xs ih => exact Nat.max_le.mpr ⟨h x, ih⟩
theorem dpAll_map {K : PySem.W.Frag} {F H : Hp} (e : EqR r) (s : Same F H) : ∀ (xs : List α) (vs : List V), Dats K F vs (xs.map r) → DpAll K H vs (xs.map e.py)
  | [], _, h => by cases h; exact .nil
  | x :: xs, _, h => by
    cases h with
    | cons a b => exact .cons (e.ok K F H _ x s a) (dpAll_map e s xs _ b)
def eqL (e : EqR r) : EqR (dL r) where
  py := fun xs => .list (xs.map e.py)
  dep := e.dep + 1
  ok := fun K F H v xs s h => by
    cases h with
    | lst a b => exact .lst (s.seq a) (dpAll_map e s xs _ b)
  lay := fun xs => by simp [PyData.canLay0, layAll_map e.lay]
  depth := fun xs => by simpa [PyData.depth] using depthAll_map e.depth xs
  eqv := fun xs ys => by rw [PyData.eqv]; exact eqvAll_map e.eqv xs ys
def eqT (e : EqR r) : EqR (dT r) where
  py := fun xs => .tuple (xs.map e.py)
  dep := e.dep + 1
  ok := fun K F H v xs s h => by
    cases h with
    | tup a b => exact .tup (s.sqt a) (dpAll_map e s xs _ b)
  lay := fun xs => by simp [PyData.canLay0, layAll_map e.lay]
  depth := fun xs => by simpa [PyData.depth] using depthAll_map e.depth xs
  eqv := fun xs ys => by rw [PyData.eqv]; exact eqvAll_map e.eqv xs ys
def eq2 {r : α → D} {r2 : β → D} (e : EqR r) (e2 : EqR r2) : EqR (d2 r r2) where
  py := fun x => .tuple [e.py x.1, e2.py x.2]
  dep := max e.dep e2.dep + 1
  ok := fun K F H v x s h => by
    cases h with
    | tup a b =>
      cases b with
      | cons b1 b =>
        cases b with
        | cons b2 b =>
          cases b
          exact .tup (s.sqt a) (.cons (e.ok _ _ _ _ _ s b1) (.cons (e2.ok _ _ _ _ _ s b2) .nil))
  lay := fun x => by simp [PyData.canLay0, PyData.canLayAll0, e.lay, e2.lay]
  depth := fun x => by
    have h1 := e.depth x.1
    have h2 := e2.depth x.2
    simp only [PyData.depth, PyData.depthAll]
    omega
  eqv := fun x y => by
    simp only [PyData.eqv, PyData.eqvAll, Bool.and_eq_true, e.eqv, e2.eqv, and_true]
    exact ⟨fun h => Prod.ext h.1 h.2, fun h => by subst h; exact ⟨rfl, rfl⟩⟩
def eq3 {r : α → D} {r2 : β → D} {r3 : γ → D} (e : EqR r) (e2 : EqR r2) (e3 : EqR r3) : EqR (d3 r r2 r3) where
  py := fun x => .tuple [e.py x.1, e2.py x.2.1, e3.py x.2.2]
  dep := max e.dep (max e2.dep e3.dep) + 1
  ok := fun K F H v x s h => by
    cases h with
    | tup a b =>
      cases b with
      | cons b1 b =>
        cases b with
        | cons b2 b =>
          cases b with
          | cons b3 b =>
            cases b
            exact .tup (s.sqt a) (.cons (e.ok _ _ _ _ _ s b1) (.cons (e2.ok _ _ _ _ _ s b2) (.cons (e3.ok _ _ _ _ _ s b3) .nil)))
  lay := fun x => by simp [PyData.canLay0, PyData.canLayAll0, e.lay, e2.lay, e3.lay]
  depth := fun x => by
    have h1 := e.depth x.1
    have h2 := e2.depth x.2.1
    have h3 := e3.depth x.2.2
    simp only [PyData.depth, PyData.depthAll]
    omega
  eqv := fun x y => by
    simp only [PyData.eqv, PyData.eqvAll, Bool.and_eq_true, e.eqv, e2.eqv, e3.eqv, and_true]
    exact ⟨fun h => Prod.ext h.1 (Prod.ext h.2.1 h.2.2), fun h => by subst h; exact ⟨rfl, rfl, rfl⟩⟩
def eq4 {r : α → D} {r2 : β → D} {r3 : γ → D} {r4 : δ → D} (e : EqR r) (e2 : EqR r2) (e3 : EqR r3) (e4 : EqR r4) : EqR (d4 r r2 r3 r4) where
  py := fun x => .tuple [e.py x.1, e2.py x.2.1, e3.py x.2.2.1, e4.py x.2.2.2]
  dep := max e.dep (max e2.dep (max e3.dep e4.dep)) + 1
  ok := fun K F H v x s h => by
    cases h with
    | tup a b =>
      cases b with
      | cons b1 b =>
        cases b with
        | cons b2 b =>
          cases b with
          | cons b3 b =>
            cases b with
            | cons b4 b =>
              cases b
              exact .tup (s.sqt a) (.cons (e.ok _ _ _ _ _ s b1) (.cons (e2.ok _ _ _ _ _ s b2) (.cons (e3.ok _ _ _ _ _ s b3) (.cons (e4.ok _ _ _ _ _ s b4) .nil))))
  lay := fun x => by simp [PyData.canLay0, PyData.canLayAll0, e.lay, e2.lay, e3.lay, e4.lay]
  depth := fun x => by
    have h1 := e.depth x.1
    have h2 := e2.depth x.2.1
    have h3 := e3.depth x.2.2.1
    have h4 := e4.depth x.2.2.2
    simp only [PyData.depth, PyData.depthAll]
    omega
  eqv := fun x y => by
    simp only [PyData.eqv, PyData.eqvAll, Bool.and_eq_true, e.eqv, e2.eqv, e3.eqv, e4.eqv, and_true]
    exact ⟨fun h => Prod.ext h.1 (Prod.ext h.2.1 (Prod.ext h.2.2.1 h.2.2.2)), fun h => by subst h; exact ⟨rfl, rfl, rfl, rfl⟩⟩
def eqQ : EqR dQ where
  py := fun q => .tuple [.int q.num, .int (q.den : Int)]
  dep := 2
  ok := fun K F H v x s h => (eq2 eqI eqI).ok K F H v (x.num, (x.den : Int)) s h
  lay := fun _ => by simp [PyData.canLay0, PyData.canLayAll0]
  depth := fun _ => by simp [PyData.depth, PyData.depthAll]
  eqv := fun x y => by
    simp only [PyData.eqv, PyData.eqvAll, Bool.and_eq_true, beq_iff_eq, and_true]
    exact ⟨fun h => Rat.ext h.1 (by omega), fun h => by subst h; exact ⟨rfl, rfl⟩⟩
end
section
variable {K : PySem.W.Frag} {env : List Slot} {ta tb : TE} {α : Type} {r : α → D} {x y : α}
theorem eqv_dec [DecidableEq α] (e : EqR r) (x y : α) : PyData.eqv (e.py x) (e.py y) = decide (x = y) := by
  rw [Bool.eq_iff_iff, e.eqv, decide_eq_true_iff]
theorem shaped_of (e : EqR r) (h : e.dep ≤ 64) (x : α) : SeqAt.shaped (e.py x) = true := by
  unfold SeqAt.shaped
  rw [e.lay, decide_eq_true (Nat.le_trans (e.depth x) h)]
  rfl
theorem ev_eqD [DecidableEq α] (e : EqR r) (ha : EV K ta env (r x)) (hb : EV K tb env (r y)) (h : e.dep ≤ 64 := by decide) : EV K (tOp (rEqD K) ta tb) env (dB (decide (x = y))) := fun σ F H A O m w Q q =>
  ev_two ha hb m w fun u v F' H' s w' d1 d2 => ⟨_, _, e.ok _ _ _ _ _ w'.same d1, e.ok _ _ _ _ _ w'.same d2, shaped_of e h x, shaped_of e h y, by rw [eqv_dec]; exact q _ F' H' s w' (.v _)⟩
theorem ev_neD [DecidableEq α] (e : EqR r) (ha : EV K ta env (r x)) (hb : EV K tb env (r y)) (h : e.dep ≤ 64 := by decide) : EV K (tOp (rNeD K) ta tb) env (dB (!decide (x = y))) := fun σ F H A O m w Q q =>
  ev_two ha hb m w fun u v F' H' s w' d1 d2 => ⟨_, _, e.ok _ _ _ _ _ w'.same d1, e.ok _ _ _ _ _ w'.same d2, shaped_of e h x, shaped_of e h y, by rw [eqv_dec]; exact q _ F' H' s w' (.v _)⟩
end
end Pg

set_option Elab.async false
set_option linter.all false
set_option maxRecDepth 100000
namespace Pg
open PySem PySem.Spec PyProof.Rows L2
/-! ### the head's facts: defs, names, and one Bool of one's own -/
abbrev AlP : Type := He.AlD × Bool
def obsP (n : Nat) (fa : List He.Fa) (fn : List He.DefD) (ex : PySem.W.Frag → Bool) (g : Addr → Option Obj) : AlP := (He.obsD fa fn (He.frG g (He.asD g n)), ex (He.frG g (He.asD g n)))
def SaysP (fa : List He.Fa) (fn : List He.DefD) (ex : PySem.W.Frag → Bool) (K : PySem.W.Frag) : Prop := He.SaysD fa fn K ∧ ex K = true
def hookP (n : Nat) (fa : List He.Fa) (fn : List He.DefD) (ex : PySem.W.Frag → Bool) : PySem.W.Hook where
  α := AlP
  obs := fun s => obsP n fa fn ex s.heap.get?
  val := fun _ => (He.valD fn, true)
  says := fun _ h => ∃ K : PySem.W.Frag, K.In h ∧ SaysP fa fn ex K
  of := fun _ _ e => ⟨_, He.frG_in, congrArg Prod.fst e, congrArg Prod.snd e⟩
  keeps := fun _ _ _ ⟨K, hK, c⟩ k => ⟨K, PySem.W.Frag.In.keeps hK k, c⟩
def obT (n : Nat) (fa : List He.Fa) (fn : List He.DefD) (ex : PySem.W.Frag → Bool) (s : PySem.W.SharedT) : AlP := obsP n fa fn ex (HandSHeadRun.getT s)
theorem obT_eq {n : Nat} {fa : List He.Fa} {fn : List He.DefD} {ex : PySem.W.Frag → Bool} (s : PySem.W.SharedT) : obT n fa fn ex s = (hookP n fa fn ex).obs s.abs := by
  have e : HandSHeadRun.getT s = s.abs.heap.get? := funext (HandSHeadRun.getT_eq s)
  unfold obT
  rw [e] <;> rfl
/-! ### constants of the top -/
def relD : Value → V → Bool
  | .none, .non => true
  | .bool b, .bl c => b == c
  | .int i _, .int j => decide (i = j)
  | .str x _, .str y => decide (x = y)
  | _, _ => false
mutual
/-- the datum d as the written part K bears it -/
def conB (K : PySem.W.Frag) : Nat → Value → D → Bool
  | _, u, .v x => relD u x
  | n + 1, .ref a, .tup ds => (match K.lookup a with
    | some ⟨.type "tuple", _, .seq its _, _⟩ => decide (its.size ≤ sizeLine) && conAll K n its.toList ds
    | _ => false)
  | _, _, _ => false
def conAll (K : PySem.W.Frag) : Nat → List Value → List D → Bool
  | _, [], [] => true
  | n, u :: us, d :: ds => conB K n u d && conAll K n us ds
  | _, _, _ => false
end
end Pg
namespace Pg
open PySem PySem.Spec PyProof.Rows L2
theorem dats_ints {K : PySem.W.Frag} {F : Hp} : ∀ ns : List Int, Dats K F (ns.map V.int) (ns.map dI)
  | [] => .nil
  | _ :: ns => .cons (.v _) (dats_ints ns)
theorem bits_log {z : Int} (h : Builtin.Int.intBits z ≤ 1048576) : z.natAbs.log2 ≤ 1048576 := by
  unfold Builtin.Int.intBits at h
  split at h
  · rename_i e
    have : z = 0 := by simpa using e
    subst this
    decide
  · omega
/-- the law's promise at its script -/
theorem law_sp {K : PySem.W.Frag} {f : List Int → R Bool} (hf : ∀ ns : List Int, ns.length ≤ 63 → (∀ z ∈ ns, z.natAbs.log2 ≤ 1048576) → f ns = .ok true) (H : Hp) (a : Addr) (ns : List Int) (hl : ns.length ≤ 63)
    (hb : ∀ z ∈ ns, Builtin.Int.intBits z ≤ 1048576) (hS : SqL K H a (ns.map V.int)) : spR K (fun (x : List Int) => [dL dI x]) f dB [.ref a] H (fun v _ => v = .bl true) fun _ _ _ => False :=
  ⟨ns, H, [], true, Own.refl H, .cons (.lst hS (dats_ints ns)) .nil, hf ns hl fun z hz => bits_log (hb z hz), fun v F' H' _ _ d => d.bl⟩
end Pg

set_option Elab.async false
set_option linter.all false
/-! Pg: more outcomes; core Lean alone. -/
namespace Pg
/-- how many numbers range(i, j, c) has -/
def stepN (i j c : Int) : Nat := if c > 0 then (if i < j then ((j - i - 1) / c + 1).toNat else 0) else (if i > j then ((i - j - 1) / (-c) + 1).toNat else 0)
def rng3R (i j c : Int) : R (List Int) := if c ≠ 0 ∧ c.natAbs < 1073741824 ∧ -(2 ^ 61) ≤ i ∧ i < 2 ^ 61 ∧ -(2 ^ 61) ≤ j ∧ j < 2 ^ 61 then .ok ((List.range (stepN i j c)).map fun k => i + (k : Nat) * c) else .bad
/-- room for one more -/
def roomR {α : Type} (xs : List α) : R Unit := if xs.length < 16777216 then .ok () else .bad
def insR {α : Type} (xs : List α) (i : Int) (x : α) : R (List α) := if xs.length < 16777216 ∧ 0 ≤ i ∧ i < 2 ^ 63 then .ok (xs.take i.toNat ++ [x] ++ xs.drop i.toNat) else .bad
def extR {α : Type} (xs ys : List α) : R (List α) := if xs.length + ys.length ≤ 16777216 then .ok (xs ++ ys) else .bad
/-- two lists walked together -/
def zipL {α β : Type} : List α → List β → List (α × β)
  | [], _ => []
  | _ :: _, [] => []
  | x :: xs, y :: ys => (x, y) :: zipL xs ys
/-- what an option holds -/
def getR {α : Type} : Option α → R α
  | some x => .ok x
  | none => .bad
def tup2R {α : Type} : List α → R (α × α)
  | [a, b] => .ok (a, b)
  | _ => .bad
def tup3R {α : Type} : List α → R (α × α × α)
  | [a, b, c] => .ok (a, b, c)
  | _ => .bad
end Pg
namespace Pg
/-- xss[i][j] = x -/
def set2R {α : Type} (xss : List (List α)) (i j : Int) (x : α) : R (List (List α)) := R.bind (atR xss i) fun row => R.bind (setR row j x) fun row' => setR xss i row'
end Pg
namespace Pg
/-- xss[i].append(x) -/
def app2R {α : Type} (xss : List (List α)) (i : Int) (x : α) : R (List (List α)) := R.bind (atR xss i) fun row => R.bind (appR row x) fun row' => setR xss i row'
end Pg
namespace Pg
/-- xs.pop() -/
def popR {α : Type} (xs : List α) : R (List α) := if xs.isEmpty = true then .bad else .ok xs.dropLast
/-- every row with one more -/
def appAllR {α : Type} (xss : List (List α)) (x : α) : R (List (List α)) := if (xss.all fun r => decide (r.length < 16777216)) = true then .ok (xss.map (· ++ [x])) else .bad
section
variable {κ β : Type} [DecidableEq κ]
/-- a dict's pairs -/
def putA (xs : List (κ × β)) (k : κ) (v : β) : List (κ × β) := if (xs.any fun p => decide (p.1 = k)) = true then xs.map (fun p => if p.1 = k then (p.1, v) else p) else xs ++ [(k, v)]
def hasA (xs : List (κ × β)) (k : κ) : Bool := xs.any fun p => decide (p.1 = k)
def getA (xs : List (κ × β)) (k : κ) : Option β := (xs.find? fun p => decide (p.1 = k)).map (·.2)
def putR (xs : List (κ × β)) (k : κ) (v : β) : R (List (κ × β)) := if xs.length < 16777216 then .ok (putA xs k v) else .bad
end
end Pg

set_option Elab.async false
set_option linter.all false
set_option maxRecDepth 100000
namespace Pg
open PySem PySem.Spec PyProof.Rows L2
/-! ### two lists, two tuples walked together -/
section
variable {K : PySem.W.Frag} {na : Option Addr} {E : WX} {env : List Slot} {t ta tb te : TE} {tt : TT} {i j k : Int} {d : D} {ds es : List D} {Nx : List Slot → Prop} {Rt : List Slot → T → Prop} {Ex : List Slot → Value → Prop}
def zipD : List D → List D → List D
  | [], _ => []
  | _ :: _, [] => []
  | x :: xs, y :: ys => .tup [x, y] :: zipD xs ys
theorem zipD_get : ∀ {ds es : List D} {i : Nat} {d : D}, (zipD ds es)[i]? = some d → ∃ x y, ds[i]? = some x ∧ es[i]? = some y ∧ d = .tup [x, y]
  | [], _, i, d, h => by simp [zipD] at h
  | _ :: _, [], i, d, h => by simp [zipD] at h
  | x :: xs, y :: ys, 0, d, h => by
    simp [zipD] at h
    exact ⟨x, y, rfl, rfl, h.symm⟩
  | x :: xs, y :: ys, i + 1, d, h => by
    simp [zipD] at h
    obtain ⟨a, b, h1, h2, h3⟩ := zipD_get h
    exact ⟨a, b, by simpa using h1, by simpa using h2, h3⟩
theorem zipD_len : ∀ (ds es : List D), (zipD ds es).length = min ds.length es.length
  | [], _ => by simp [zipD]
  | _ :: _, [] => by simp [zipD]
  | x :: xs, y :: ys => by simp only [zipD, List.length_cons, zipD_len xs ys]; omega
theorem zipD_map {α β : Type} (f : α → D) (g : β → D) : ∀ (xs : List α) (ys : List β), zipD (xs.map f) (ys.map g) = (zipL xs ys).map (d2 f g)
  | [], _ => by simp [zipD, zipL]
  | _ :: _, [] => by simp [zipD, zipL]
  | x :: xs, y :: ys => by
    show D.tup [f x, g y] :: zipD (xs.map f) (ys.map g) = D.tup [f x, g y] :: (zipL xs ys).map (d2 f g)
    rw [zipD_map f g xs ys]
theorem own_pair {F F' H : Hp} {O : List (Addr × HO)} {T : Addr} {x y : V} {d e : D} (w : Own F' H O) (n : H T = none) (dx : Dat K F' x d) (dy : Dat K F' y e) :
    ∃ F'', Same F' F'' ∧ Own F'' (upd H T (.tup [x, y])) O ∧ Dat K F'' (.ref T) (.tup [d, e]) := by
  obtain ⟨w2, s2⟩ := w.newF (o := .tup [x, y]) n
  exact ⟨_, s2, w2, .tup (.of upd_same) (.cons (dx.up s2) (.cons (dy.up s2) .nil))⟩
theorem walks_zipT {F : Hp} {a b : Addr} {xs ys : List V} (hx : SqT K F a xs) (hy : SqT K F b ys) (dx : Dats K F xs ds) (dy : Dats K F ys es) : Walks K (RZ.ItzT K a b) F (zipD ds es) := by
  refine ⟨fun i F' H O d s w' hd => ?_, fun i F' H O s w' hl => ⟨xs, ys, w'.same.sqt (s.sqt hx), w'.same.sqt (s.sqt hy), ?_⟩⟩
  case refine_2 =>
    rw [zipD_len] at hl
    rw [dx.length, dy.length]; omega
  obtain ⟨u, v, h1, h2, rfl⟩ := zipD_get hd
  obtain ⟨x, e1, q1⟩ := dx.get h1
  obtain ⟨y, e2, q2⟩ := dy.get h2
  have hx2 := w'.same.sqt (s.sqt hx)
  have hy2 := w'.same.sqt (s.sqt hy)
  refine ⟨⟨xs, ys, x, y, hx2, hy2, e1, e2⟩, fun z H' hz => ?_⟩
  obtain ⟨T, x', y', rfl, hT, rfl, f1, f2⟩ := hz
  have ex : x = x' := Option.some.inj (e1.symm.trans (f1 xs hx2))
  have ey : y = y' := Option.some.inj (e2.symm.trans (f2 ys hy2))
  subst ex ey
  exact own_pair (F := F) w' hT (q1.up s) (q2.up s)
theorem walks_zipL {F : Hp} {a b : Addr} {xs ys : List V} (hx : SqL K F a xs) (hy : SqL K F b ys) (dx : Dats K F xs ds) (dy : Dats K F ys es) : Walks K (Itz K a b) F (zipD ds es) := by
  refine ⟨fun i F' H O d s w' hd => ?_, fun i F' H O s w' hl => ⟨xs, ys, w'.same.seq (s.seq hx), w'.same.seq (s.seq hy), ?_⟩⟩
  case refine_2 =>
    rw [zipD_len] at hl
    rw [dx.length, dy.length]; omega
  obtain ⟨u, v, h1, h2, rfl⟩ := zipD_get hd
  obtain ⟨x, e1, q1⟩ := dx.get h1
  obtain ⟨y, e2, q2⟩ := dy.get h2
  have hx2 := w'.same.seq (s.seq hx)
  have hy2 := w'.same.seq (s.seq hy)
  refine ⟨⟨xs, ys, x, y, hx2, hy2, e1, e2⟩, fun z H' hz => ?_⟩
  obtain ⟨T, x', y', rfl, hT, rfl, f1, f2⟩ := hz
  have ex : x = x' := Option.some.inj (e1.symm.trans (f1 xs hx2))
  have ey : y = y' := Option.some.inj (e2.symm.trans (f2 ys hy2))
  subst ex ey
  exact own_pair (F := F) w' hT (q1.up s) (q2.up s)
theorem iv_zipT {α β : Type} {f : α → D} {g : β → D} {xs : List α} {ys : List β} (ha : EV K ta env (.tup (xs.map f))) (hb : EV K tb env (.tup (ys.map g))) : IV K (RZ.iZipA K (tCons ta (tCons tb tNil))) env ((zipL xs ys).map (d2 f g)) := fun σ F H A O m w Q q =>
  ev_two ha hb m w fun x y F' H' s w' d1 d2 => by
    rw [← zipD_map] at q
    cases d1 with
    | tup a1 b1 =>
      cases d2 with
      | tup a2 b2 => exact ⟨_, _, _, _, rfl, .inr ⟨w'.same.sqt a1, w'.same.sqt a2, q _ F' H' s w' (walks_zipT a1 a2 b1 b2)⟩⟩
theorem iv_zipL {α β : Type} {f : α → D} {g : β → D} {xs : List α} {ys : List β} (ha : EV K ta env (.lst (xs.map f))) (hb : EV K tb env (.lst (ys.map g))) : IV K (RZ.iZipA K (tCons ta (tCons tb tNil))) env ((zipL xs ys).map (d2 f g)) := fun σ F H A O m w Q q =>
  ev_two ha hb m w fun x y F' H' s w' d1 d2 => by
    rw [← zipD_map] at q
    cases d1 with
    | lst a1 b1 =>
      cases d2 with
      | lst a2 b2 => exact ⟨_, _, _, _, rfl, .inl ⟨w'.same.seq a1, w'.same.seq a2, q _ F' H' s w' (walks_zipL a1 a2 b1 b2)⟩⟩
/-! ### reversed -/
theorem walks_revL {F : Hp} {a : Addr} {xs : List V} (hx : SqL K F a xs) (dx : Dats K F xs ds) : Walks K (Itv K a xs.length) F ds.reverse := by
  refine ⟨fun i F' H O d s w' hd => ?_, fun i F' H O s w' hl => ?_⟩
  case refine_2 => rw [List.length_reverse, ← dx.length] at hl; exact hl
  have hi : i < ds.length := by
    rcases Nat.lt_or_ge i ds.length with z | z
    · exact z
    · rw [List.getElem?_eq_none (by simpa using z)] at hd; cases hd
  rw [List.getElem?_reverse hi] at hd
  obtain ⟨x, e1, q1⟩ := dx.get hd
  rw [← dx.length] at e1 hi
  have hx2 := w'.same.seq (s.seq hx)
  refine ⟨⟨hi, xs, x, hx2, e1⟩, fun z H' hz => ?_⟩
  obtain ⟨e2, e3⟩ := hz
  subst e2
  have : x = z := Option.some.inj (e1.symm.trans (e3 _ hx2))
  subst this
  exact ⟨F', Same.refl _, w', q1.up s⟩
theorem iv_revL {α : Type} {f : α → D} {xs : List α} (ha : EV K te env (.lst (xs.map f))) : IV K (RT.iRevA K te) env (xs.reverse.map f) := fun σ F H A O m w Q q => ha σ F H A O m w _ fun v F1 H1 s1 w1 d1 => by
  rw [List.map_reverse] at q
  cases d1 with
  | lst a b => exact ⟨_, _, rfl, .inl ⟨w1.same.seq a, q _ F1 H1 s1 w1 (walks_revL a b)⟩⟩
/-! ### range of three -/
theorem walks_rngC (lo c : Int) (n : Nat) (F : Hp) : Walks K (Itc lo c n) F (((List.range n).map fun k => lo + (k : Nat) * c).map dI) := by
  refine ⟨fun i F' H O d s w' hd => ?_, fun i F' H O s w' hl => ?_⟩
  case refine_2 => rw [List.length_map, List.length_map, List.length_range] at hl; exact hl
  rw [List.map_map, List.getElem?_map] at hd
  by_cases hi : i < n
  · rw [List.getElem?_range hi] at hd
    have e : dI (lo + (i : Nat) * c) = d := Option.some.inj hd
    subst e
    refine ⟨hi, fun y H' hy => ?_⟩
    obtain ⟨e1, e2⟩ := hy
    subst e1 e2
    exact ⟨F', Same.refl _, w', .v _⟩
  · rw [List.getElem?_eq_none (by simpa using hi)] at hd
    cases hd
theorem step_small {i j c : Int} (h0 : c ≠ 0) (hc : c.natAbs < 1073741824) (h1 : -(2 ^ 61) ≤ i) (h2 : i < 2 ^ 61) (h3 : -(2 ^ 61) ≤ j) (h4 : j < 2 ^ 61) : RgC i j c (stepN i j c) := by
  have e : Builtin.Range.rangeSize i j c = (stepN i j c : Nat) := by
    unfold Builtin.Range.rangeSize stepN
    split
    · split
      · have := Int.ediv_nonneg (a := j - i - 1) (b := c) (by omega) (by omega)
        omega
      · rfl
    · split
      · have := Int.ediv_nonneg (a := i - j - 1) (b := -c) (by omega) (by omega)
        omega
      · rfl
  have b := PyProof.Rows.rangeSize_toNat_le i j c
  have p := PyProof.Rows.rangeSize_toNat i j c
  refine ⟨h0, hc, ?_, e⟩
  unfold Builtin.Range.small
  simp only [Builtin.Range.rangeFitsLong, Bool.and_eq_true, Bool.or_eq_true, decide_eq_true_eq, beq_iff_eq]
  refine ⟨⟨⟨⟨by omega, by omega⟩, by omega⟩, by omega⟩, .inr ?_⟩
  split <;> simp only [Bool.and_eq_true, decide_eq_true_eq] <;> omega
theorem rng3R_some {i j c : Int} {xs : List Int} (h : rng3R i j c = .ok xs) : RgC i j c (stepN i j c) ∧ xs = (List.range (stepN i j c)).map fun k => i + (k : Nat) * c := by
  unfold rng3R at h
  split at h
  · rename_i q
    exact ⟨step_small q.1 q.2.1 q.2.2.1 q.2.2.2.1 q.2.2.2.2.1 q.2.2.2.2.2, (R.ok_inj h).symm⟩
  · cases h
theorem iv_rng3 {tc : TE} {i j c : Int} {xs : List Int} (hx : rng3R i j c = .ok xs) (ha : EV K ta env (dI i)) (hb : EV K tb env (dI j)) (hc : EV K tc env (dI c)) : IV K (iRng3 (tCons ta (tCons tb (tCons tc tNil)))) env (xs.map dI) := fun σ F H A O m w Q q =>
  ev_two ha hb m w fun x y F' H' s w' d1 d2 => hc σ F' H' A O (m.up s) w' _ fun z F2 H2 s2 w2 d3 => by
    obtain ⟨h, e⟩ := rng3R_some hx
    rw [d1.int, d2.int, d3.int]
    refine ⟨i, j, c, _, rfl, h, q _ F2 H2 (s.trans s2) w2 ?_⟩
    rw [e]
    exact walks_rngC (K := K) i c _ F2
/-! ### own lists lent -/
mutual
def noL : D → Bool
  | .v _ => true
  | .tup ds => noLs ds
  | .lst _ => false
  | .ins _ _ => false
  | .hp _ => true
  | .ob _ => true
def noLs : List D → Bool
  | [] => true
  | d :: ds => noL d && noLs ds
end
def isTree : HO → Bool
  | .lst _ => true
  | .ins _ _ _ => true
  | .own _ => true
  | .dK _ => true
  | .dT _ => true
  | _ => false
def del (F : Hp) (p : Addr) : Hp := fun b => if b = p then none else F b
theorem del_ne {F : Hp} {p b : Addr} (h : b ≠ p) : del F p b = F b := if_neg h
theorem sqt_del {F : Hp} {p a : Addr} {o0 : HO} {xs : List V} (e : F p = some o0) (ho : isTree o0 = true) (h : SqT K F a xs) : SqT K (del F p) a xs := by
  rcases h with (h | ⟨o, h⟩) | h
  · exact .inl (.inl (by rw [del_ne]; exact h; intro z; subst z; rw [e] at h; cases h; cases ho))
  · exact .inl (.inr ⟨o, by rw [del_ne]; exact h; intro z; subst z; rw [e] at h; cases h; cases ho⟩)
  · exact .inr h
mutual
theorem Dat.del {F : Hp} {p : Addr} {o0 : HO} (e : F p = some o0) (ho : isTree o0 = true) : ∀ (d : D) (v : V), noL d = true → Dat K F v d → Dat K (Pg.del F p) v d
  | .v x, _, _, h => by cases h; exact .v x
  | .tup ds, _, n, h => by
    cases h with
    | tup a b => exact .tup (sqt_del e ho a) (Dats.del e ho ds _ n b)
  | .lst ds, _, n, h => by cases n
  | .ins _ _, _, n, h => by cases n
  | .hp k, _, n, h => by
    cases h with
    | @hp a _ q => exact .hp (by rw [del_ne]; exact q; intro z; subst z; rw [e] at q; cases q; cases ho)
  | .ob φ, _, n, h => by
    cases h with
    | @ob a _ q => exact .ob (by rw [del_ne]; exact q; intro z; subst z; rw [e] at q; cases q; cases ho)
theorem Dats.del {F : Hp} {p : Addr} {o0 : HO} (e : F p = some o0) (ho : isTree o0 = true) : ∀ (ds : List D) (vs : List V), noLs ds = true → Dats K F vs ds → Dats K (Pg.del F p) vs ds
  | [], _, _, h => by cases h; exact .nil
  | d :: ds, _, n, h => by
    cases h with
    | cons a b =>
      have n2 := Bool.and_eq_true_iff.mp n
      exact .cons (Dat.del e ho d _ n2.1 a) (Dats.del e ho ds _ n2.2 b)
end
theorem lend {σ : L2.St} {F H : Hp} {A O : List (Addr × HO)} {n : Nat} {xs : List D} (h : env[n]? = some (.ownN na xs)) (m : Match K F σ env A) (w : Own F H (A ++ O)) :
    ∃ (p : Addr) (vs : List V) (A' : List (Addr × HO)) (F1 : Hp), Same F F1 ∧ F1 p = some (.lst vs) ∧ Match K F1 σ (env.set n (.dat (.lst xs))) A' ∧ Own F1 H (A' ++ O) ∧
      ∀ F' H' B, Same F1 F' → Own F' H' (B ++ (A' ++ O)) → Same F (del F' p) ∧ Own (del F' p) H' (B ++ (A ++ O)) := by
  obtain ⟨p, vs, A1, A2, e, h1, h2, _, h5⟩ := m.getO h
  subst e
  have w0 := w
  rw [List.append_assoc] at w
  have hp := w.mid.has (p, .lst vs) List.mem_cons_self
  obtain ⟨w2, s2⟩ := w.mid.frz
  have w2 : Own (upd F p (.lst vs)) H (A1 ++ A2 ++ O) := by rw [List.append_assoc]; exact w2
  refine ⟨p, vs, A1 ++ A2, upd F p (.lst vs), s2, upd_same, h5 _ _ s2 (.lst (.of upd_same) (h2.up s2)), w2, fun F' H' B s w' => ?_⟩
  have ep : F' p = some (.lst vs) := s _ _ upd_same
  refine ⟨fun b u e => ?_, ?_⟩
  · have hb : b ≠ p := fun z => by subst z; rw [hp.1] at e; cases e
    rw [del_ne hb]
    exact s _ _ (by rw [upd_ne hb]; exact e)
  · have key : Own (del F' p) H' ((p, .lst vs) :: (B ++ (A1 ++ A2 ++ O))) := by
      refine ⟨fun b u e => ?_, ?_, fun q hq => ?_⟩
      · unfold del at e
        split at e
        · cases e
        · exact w'.same b u e
      · rw [List.map_cons, List.nodup_cons]
        refine ⟨fun hm => ?_, w'.nd⟩
        obtain ⟨q, hq, e⟩ := List.mem_map.mp hm
        have := (w'.has q hq).1
        have e2 : q.1 = p := e
        rw [e2, ep] at this
        cases this
      · rcases List.mem_cons.mp hq with rfl | hq
        · exact ⟨if_pos rfl, w'.same _ _ ep⟩
        · obtain ⟨z1, z2⟩ := w'.has q hq
          have hne : q.1 ≠ p := fun z => by rw [z, ep] at z1; cases z1
          exact ⟨by rw [del_ne hne]; exact z1, z2⟩
    have key2 := key.perm (List.perm_middle (l₁ := B) (l₂ := A1 ++ A2 ++ O) (a := (p, .lst vs))).symm
    refine key2.perm ?_
    refine List.Perm.append_left B ?_
    rw [List.append_assoc, List.append_assoc]
    exact List.perm_middle.symm
theorem ev_lend {n : Nat} {xs : List D} (h : env[n]? = some (.ownN na xs)) (hl : noL d = true) (x : EV K t (env.set n (.dat (.lst xs))) d) : EV K t env d := fun σ F H A O m w Q q => by
  obtain ⟨p, vs, A', F1, s1, ep, m1, w1, back⟩ := lend h m w
  refine x σ F1 H A' O m1 w1 _ fun v F' H' s w' dd => ?_
  obtain ⟨b1, b2⟩ := back F' H' [] s w'
  exact q v _ H' b1 b2 (Dat.del (s _ _ ep) rfl d v hl dd)
theorem et_lend {n : Nat} {xs : List D} {b : Bool} (h : env[n]? = some (.ownN na xs)) (x : ET K tt (env.set n (.dat (.lst xs))) b) : ET K tt env b := fun σ F H A O m w Q q => by
  obtain ⟨p, vs, A', F1, s1, ep, m1, w1, back⟩ := lend h m w
  refine x σ F1 H A' O m1 w1 _ fun F' H' s w' => ?_
  obtain ⟨b1, b2⟩ := back F' H' [] s w'
  exact q _ H' b1 b2
theorem en_lend {n : Nat} {xs : List D} (h : env[n]? = some (.ownN na xs)) (hl : noLs ds = true) (x : EN K t (env.set n (.dat (.lst xs))) ds) : EN K t env ds := fun σ F H A O m w Q q => by
  obtain ⟨p, vs, A', F1, s1, ep, m1, w1, back⟩ := lend h m w
  refine x σ F1 H A' O m1 w1 _ fun r us F' H' s w' dd => ?_
  obtain ⟨b1, b2⟩ := back F' H' [(r, .lst us)] s w'
  exact q r us _ H' b1 b2 (Dats.del (s _ _ ep) rfl ds us hl dd)
theorem noLs_map {α : Type} {r : α → D} (h : ∀ x, noL (r x) = true) : ∀ xs : List α, noLs (xs.map r) = true
  | [] => rfl
  | x :: xs => by
    show (noL (r x) && noLs (xs.map r)) = true
    rw [h x, noLs_map h xs]; rfl
theorem noL_T {α : Type} {r : α → D} (h : ∀ x, noL (r x) = true) (xs : List α) : noL (dT r xs) = true := noLs_map h xs
/-! ### changes of own lists -/
theorem match_unset : ∀ {σ : L2.St} {env : List Slot} {O : List (Addr × HO)} {F : Hp} (n : Nat), Match K F σ env O → ∃ O', O'.Sublist O ∧ Match K F σ (env.set n .un) O'
  | _, _, _, _, _, .nil => ⟨[], .slnil, .nil⟩
  | _, _, _, _, 0, .un m => ⟨_, List.Sublist.refl _, .un m⟩
  | _, _, _, _, 0, .dat _ m => ⟨_, List.Sublist.refl _, .un m⟩
  | _, _, _, _, 0, .tr _ m => ⟨_, List.sublist_append_right _ _, .un m⟩
  | _, _, _, _, n + 1, .un m => let ⟨O', s, q⟩ := match_unset n m; ⟨O', s, .un q⟩
  | _, _, _, _, n + 1, .dat d m => let ⟨O', s, q⟩ := match_unset n m; ⟨O', s, .dat d q⟩
  | _, _, _, _, n + 1, .tr d m => let ⟨O', s, q⟩ := match_unset n m; ⟨_, (List.Sublist.refl _).append s, .tr d q⟩
theorem roomR_some {α : Type} {xs : List α} {u : Unit} (h : roomR xs = .ok u) : xs.length < 16777216 := by
  unfold roomR at h
  split at h
  · assumption
  · cases h
/-- xs.append(e), what xs holds no longer asked for -/
theorem sw_appX {α : Type} {r : α → D} {xs : List α} {n : Nat} {u : Unit} (hx : roomR xs = .ok u) (h : env[n]? = some (.ownN na (xs.map r))) (he : EV K te env d) (hn : Nx (env.set n .un)) :
    SW K E (tDrop (tBM K "list" rAppend (tVar n) (tCons te tNil))) env Nx Rt Ex := fun σ F H A O m w Dn q1 q2 q4 => by
  obtain ⟨p, vs, A1, A2, e, h1, h2, h4, _⟩ := m.getO h
  have hl := roomR_some hx
  have hp := (w.has (p, .lst vs) (by rw [e]; simp)).2
  refine ⟨_, h1, .inl ⟨rfl, vs, .of hp⟩, he σ F H A O m w _ fun v F1 H1 s1 w1 d1 => ?_⟩
  have hp1 := (w1.has (p, .lst vs) (by rw [e]; simp)).2
  refine ⟨p, vs, v, rfl, rfl, hp1, ?_, ?_⟩
  · have := h2.length
    rw [List.length_map] at this
    rw [this, sizeLine_eq]; exact hl
  · subst e
    have m2 := h4 F1 _ _ s1 ((h2.up s1).append (.cons d1 .nil))
    obtain ⟨O', s2, m3⟩ := match_unset n m2
    rw [List.set_set] at m3
    refine q1 _ σ F1 _ O' hn s1 m3 ?_
    have w2 : Own F1 (upd H1 p (.lst (vs ++ [v]))) ((A1 ++ (p, .lst (vs ++ [v])) :: A2) ++ O) := by
      rw [List.append_assoc] at w1 ⊢
      exact (w1.mid.put (o' := .lst (vs ++ [v]))).unmid
    exact w2.sub (s2.append (List.Sublist.refl O))
def rInsP : V → List V → Hp → VK → Prop := fun x vs H Q => ∃ (l : Addr) (xs : List V) (i : Int) (y : V), x = .ref l ∧ vs = [.int i, y] ∧ H l = some (.lst xs) ∧ xs.length < sizeLine ∧ 0 ≤ i ∧ i < 2 ^ 63 ∧
    Q .non (upd H l (.lst (xs.take i.toNat ++ [y] ++ xs.drop i.toNat)))
theorem mt_ins {X : Cx} : MtR X "list.insert" rInsP := mt_insert
theorem sw_ins {α : Type} {r : α → D} {xs ys : List α} {x : α} {i : Int} {n : Nat} (hx : insR xs i x = .ok ys) (h : env[n]? = some (.ownN na (xs.map r))) (hi : EV K ta env (dI i)) (he : EV K te env (r x)) (hn : Nx (env.set n (.ownN na (ys.map r)))) :
    SW K E (tDrop (tBM K "list" rInsP (tVar n) (tCons ta (tCons te tNil)))) env Nx Rt Ex := fun σ F H A O m w Dn q1 q2 q4 => by
  obtain ⟨p, vs, A1, A2, e, h1, h2, h4, _⟩ := m.getO h
  unfold insR at hx
  split at hx
  case isFalse => cases hx
  rename_i hc
  have ey := R.ok_inj hx
  subst ey
  have hp := (w.has (p, .lst vs) (by rw [e]; simp)).2
  refine ⟨_, h1, .inl ⟨rfl, vs, .of hp⟩, ev_two hi he m w fun u v F1 H1 s1 w1 d0 d1 => ?_⟩
  have hp1 := (w1.has (p, .lst vs) (by rw [e]; simp)).2
  refine ⟨p, vs, i, v, rfl, by rw [d0.int], hp1, ?_, hc.2.1, hc.2.2, ?_⟩
  · have := h2.length
    rw [List.length_map] at this
    rw [this, sizeLine_eq]; exact hc.1
  · subst e
    refine q1 _ σ F1 _ (A1 ++ (p, .lst (vs.take i.toNat ++ [v] ++ vs.drop i.toNat)) :: A2) hn s1 ?_ ?_
    · rw [List.map_append, List.map_append, List.map_take, List.map_drop]
      exact h4 F1 _ _ s1 ((((h2.up s1).take _).append (.cons d1 .nil)).append ((h2.up s1).drop _))
    · rw [List.append_assoc] at w1
      rw [List.append_assoc A1]
      exact (w1.mid.put (o' := .lst (vs.take i.toNat ++ [v] ++ vs.drop i.toNat))).unmid
/-! ### slices, walks of own lists -/
theorem en_cutO {α : Type} {r : α → D} {xs : List α} {n : Nat} {tl th : TO} {lo hi : Option Int} (h : env[n]? = some (.ownN na (xs.map r))) (hl : EO K tl env lo) (hh : EO K th env hi) : EN K (tSl (rSlL K) (tVar n) tl th) env ((cutL xs lo hi).map r) := fun σ F H A O m w Q q => by
  obtain ⟨p, vs, A1, A2, e, h1, h2, h4, _⟩ := m.getO h
  refine ⟨_, h1, hl σ F H A O m w _ fun F2 H2 s2 w2 => hh σ F2 H2 A O (m.up s2) w2 _ fun F3 H3 s3 w3 => ?_⟩
  have hp := (w3.has (p, .lst vs) (by rw [e]; simp)).2
  exact ⟨p, vs, rfl, .of hp, fun p n => q p _ F3 _ (s2.trans s3) (w3.new n) ((h2.up (s2.trans s3)).cut lo hi)⟩
end
/-! ### options, tuples of a list -/
def dO {α : Type} (r : α → D) : Option α → D
  | none => .v .non
  | some x => r x
section
variable {K : PySem.W.Frag} {na : Option Addr} {env : List Slot} {t ta tb : TE} {α : Type} {r : α → D}
theorem ev_some {x : α} (h : EV K t env (r x)) : EV K t env (dO r (some x)) := h
theorem getR_some {α : Type} {o : Option α} {x : α} (h : getR o = .ok x) : o = some x := by
  cases o with
  | none => cases h
  | some y => rw [R.ok_inj (show R.ok y = R.ok x from h)]
theorem ev_get {o : Option α} {x : α} (h : getR o = .ok x) (e : EV K t env (dO r o)) : EV K t env (r x) := by rw [getR_some h] at e; exact e
def isRef : D → Bool
  | .v _ => false
  | _ => true
theorem dat_ref {F : Hp} {v : V} {d : D} (h : isRef d = true) (q : Dat K F v d) : decide (v = .non) = false := by
  cases q with
  | v => cases h
  | tup a b => rfl
  | lst a b => rfl
  | ins a b => rfl
  | hp a => rfl
  | ob a => rfl
theorem ev_isN {o : Option α} (hr : ∀ x, isRef (r x) = true) (h : EV K ta env (dO r o)) : EV K (tOp rIsN ta (tC .non)) env (dB o.isNone) := fun σ F H A O m w Q q =>
  ev_two h (ev_c .non) m w fun x y F' H' s w' d1 d2 => by
    refine And.intro d2.scl (q _ F' H' s w' ?_)
    cases o with
    | none => rw [d1.scl]; exact .v _
    | some z => rw [dat_ref (hr z) d1]; exact .v _
theorem ev_notN {o : Option α} (hr : ∀ x, isRef (r x) = true) (h : EV K ta env (dO r o)) : EV K (tOp rNotN ta (tC .non)) env (dB (!o.isNone)) := fun σ F H A O m w Q q =>
  ev_two h (ev_c .non) m w fun x y F' H' s w' d1 d2 => by
    refine And.intro d2.scl (q _ F' H' s w' ?_)
    cases o with
    | none => rw [d1.scl]; exact .v _
    | some z => rw [dat_ref (hr z) d1]; exact .v _
theorem ev_tup2 {xs : List α} {x : α × α} (h : tup2R xs = .ok x) (e : EV K t env (.tup (xs.map r))) : EV K t env (d2 r r x) := by
  match xs, h with
  | [a, b], h => rw [← R.ok_inj (show R.ok (a, b) = R.ok x from h)]; exact e
theorem ev_tup3 {xs : List α} {x : α × α × α} (h : tup3R xs = .ok x) (e : EV K t env (.tup (xs.map r))) : EV K t env (d3 r r r x) := by
  match xs, h with
  | [a, b, c], h => rw [← R.ok_inj (show R.ok (a, b, c) = R.ok x from h)]; exact e
end
/-! ### constants of the top -/
section
variable {K : PySem.W.Frag} {na : Option Addr}
theorem relD_ok {u : Value} {x : V} (h : relD u x = true) : RelV x u := by
  cases u <;> cases x <;> simp [relD] at h <;> first | (subst h; exact ⟨_, rfl⟩) | (subst h; rfl) | rfl
mutual
theorem con_dat : ∀ (n : Nat) (d : D) (u : Value), conB K n u d = true → ∃ v, RelV v u ∧ ∀ F, Dat K F v d
  | _, .v x, u, h => ⟨x, relD_ok (by unfold conB at h; exact h), fun F => .v x⟩
  | 0, .tup ds, u, h => by unfold conB at h; cases h
  | n + 1, .tup ds, u, h => by
    unfold conB at h
    split at h
    case h_1 e => cases e
    case h_3 => cases h
    case h_2 n1 a ds1 e1 e2 e3 =>
      cases e2
      cases e3
      split at h
      · rename_i its m _ hk
        obtain ⟨h1, h2⟩ := Bool.and_eq_true_iff.mp h
        obtain ⟨vs, r, q⟩ := con_dats n ds its.toList h2
        exact ⟨.ref _, rfl, fun F => .tup (.inr ⟨_, its, m, hk, rfl, rfl, of_decide_eq_true h1, r⟩) (q F)⟩
      · cases h
  | _, .lst ds, u, h => by
    unfold conB at h
    cases h
  | _, .ins _ _, u, h => by
    unfold conB at h
    cases h
  | _, .hp _, u, h => by
    unfold conB at h
    cases h
  | _, .ob _, u, h => by
    unfold conB at h
    cases h
theorem con_dats : ∀ (n : Nat) (ds : List D) (us : List Value), conAll K n us ds = true → ∃ vs, Vals vs us ∧ ∀ F, Dats K F vs ds
  | _, [], [], _ => ⟨[], .nil, fun _ => .nil⟩
  | _, [], _ :: _, h => by unfold conAll at h; cases h
  | _, _ :: _, [], h => by unfold conAll at h; cases h
  | n, d :: ds, u :: us, h => by
    unfold conAll at h
    obtain ⟨h1, h2⟩ := Bool.and_eq_true_iff.mp h
    obtain ⟨v, r, q⟩ := con_dat n d u h1
    obtain ⟨vs, rs, qs⟩ := con_dats n ds us h2
    exact ⟨v :: vs, .cons r rs, fun F => .cons (q F) (qs F)⟩
end
/-- a module's constant that is an object -/
theorem con_ok {h : Heap} {mg : Str → Option Value} (X : K.In h) (G : h.Ns mainGlobals mg) {x : Str} {d : D} {n : Nat} (c : (He.Fa.glo x).ok K = true) (e : conB K n (.ref (He.ga K x)) d = true) : mg x = some (.ref (He.ga K x)) ∧ ∀ F, Dat K F (.ref (He.ga K x)) d := by
  refine ⟨He.glo_ok X G c, ?_⟩
  obtain ⟨v, r, q⟩ := con_dat n d _ e
  have : v = .ref (He.ga K x) := by
    cases v with
    | ref a => cases r; rfl
    | int _ => obtain ⟨t, z⟩ := r; cases z
    | str _ => obtain ⟨t, z⟩ := r; cases z
    | byt _ => obtain ⟨t, z⟩ := r; cases z
    | flt _ => obtain ⟨t, z⟩ := r; cases z
    | non => cases r
    | bl _ => cases r
    | ty _ => cases r
  rw [← this]; exact q
end
end Pg

set_option Elab.async false
set_option linter.all false
set_option maxRecDepth 100000
set_option maxHeartbeats 1000000
/-! Pg: list(reversed(a list)) -/
namespace PySem
open PySem PySem.Spec PyProof.Rows RT
section
variable {prog : Program} {w : World} {A : Around} {E : Value → Shared → Prop} {s : Shared}
/-- a walker back through a list is asked nothing of its length -/
theorem lri_mute {it : Addr} {Q : Bool → Shared → Prop} (ty : s.TypeIs (.ref it) "list_reverseiterator") (q : Q false s) :
    wpAny (model prog w) A (Builtin.List.listLengthHint (.ref it)) Q E s := by
  unfold Builtin.List.listLengthHint
  wp_walk using wpAny_specialOf ty nolen_lri, wpAny_specialOf ty hint_lri
  refine wpAny_of_eq (a := true) (by rw [isSubtype_type]; kernel_rfl) ?_
  wp_walk
  exact q
/-- list(reversed(l)): the items of l, last one first, in a list of their own -/
theorem pg_list_rev {it l : Addr} {items : Array Value} {Q : Value → Shared → Prop} (hh : A.handled = none) (hit : s.heap.IsRevIter it l ((items.size : Int) - 1)) (hl : s.heap.IsList l items) (hne : l ≠ it) (hn : items.size ≤ sizeLine)
    (hQ : ∀ h' tk acc' c', (∀ b o, b ≠ it → s.heap.get? b = some o → h'.get? b = some o) →
      h'.get? s.heap.objs.size = some { cls := .type "list", dict := none, data := .seq acc' c', slots := #[] } → ItemsOf (fun i v => items[items.size - 1 - i]? = some v) acc' items.size → Q (.ref s.heap.objs.size) { s with heap := h', toks := tk }) :
    wpAny (model prog w) A (call (.type "list") [.ref it]) Q E s := by
  have old : ∀ {b o}, s.heap.get? b = some o → s.heap.objs.size ≠ b := fun e z => Nat.lt_irrefl _ (z ▸ Heap.lt_size e)
  have nI : s.heap.objs.size ≠ it := let ⟨_, e, _⟩ := hit; old e
  have nL : s.heap.objs.size ≠ l := let ⟨_, e, _⟩ := hl; old e
  generalize hp : s.heap.objs.size = p at old nI nL hQ
  let h1 : Heap := s.heap.push { cls := .type "list", data := .seq #[] }
  let h2 : Heap := h1.update p (Obj.mapSeq fun _ => #[])
  have e1 : h1.get? p = some { cls := .type "list", data := .seq #[] } := by rw [← hp]; exact Heap.get?_push_size _ rfl
  have e2 : h2.get? p = some { cls := .type "list", data := .seq #[] } := Heap.get?_update_self _ e1 rfl
  have k2 : ∀ {b o}, s.heap.get? b = some o → h2.get? b = some o := fun e => by
    rw [Heap.get?_update_other _ _ (old e)]
    exact Heap.get?_push_of_some _ e
  have it2 : h2.IsRevIter it l ((items.size : Int) - 1) := hit.at fun _ => k2
  have l2 : h2.IsList l items := let ⟨_, e, r⟩ := hl; ⟨_, k2 e, r⟩
  have out : p ∉ [it, l] := by simp [nI, nL]
  refine callType_codes (Q₁ := fun x s' => x = .ref p ∧ s' = { s with heap := h1 }) F.called_list (F.typeCall_list_1 _) F.entry_list_init ?new ?init
  case new => rw [← hp]; exact code_list_new _ ⟨rfl, rfl⟩
  rintro _ _ ⟨rfl, rfl⟩
  refine ⟨⟨_, e1, rfl⟩, F.args_list_init_2 _ _, ?_⟩
  have ty : Shared.TypeIs { s with heap := h2 } (.ref it) "list_reverseiterator" := Heap.IsRevIter.typeIs (s := { s with heap := h2 }) it2
  unfold Builtin.«list.__init__» Builtin.List.listItems Builtin.List.listUpdate
  wp_walk using wpAny_seqItems e1 rfl, wpAny_updateSeq e1 rfl, lri_mute ty, wpAny_pyIter_revIter it2, wpAny_typeOf ty
  refine wpAny_ite_false (by simp [Builtin.List.listSameRef, nI]) ?_
  wp_walk using wpAny_pyIter_revIter it2, lri_mute ty
  have W := (Walks.listRev (prog := prog) (w := w) (A := A.in1.in1) hh it l hne items).toS
  refine ⟨plainId_quiet F.plain_extend_loop _, codeAny_extend_loopS W hn p out .none items.size 0 _ #[] _ rfl (Nat.zero_le _) ⟨Nat.zero_le _, ?start, l2⟩ e2 (ItemsOf.nil _) fun s3 got c m at3 all => ⟨rfl, ?_⟩⟩
  case start => simpa using it2
  rw [Moved.eq_with m]
  refine hQ _ _ got c (fun b o nb e => m.heap b o ?_ (k2 e)) at3 all
  simp [nb, Ne.symm (old e)]
end
end PySem
namespace Pg
open PySem PySem.Spec PyProof.Rows L2
def tListRev (K : PySem.W.Frag) (te : TE) : TE := fun σ H Q => te σ H fun v H1 => ∃ (a : Addr) (xs : List V), v = .ref a ∧ SqL K H1 a xs ∧ ∀ q, H1 q = none → Q (.ref q) (upd H1 q (.lst xs.reverse))
section
variable {X : Cx}
/-- reversed of a list, and the list of that -/
theorem rev_list (hc : X.calm = true) {pins : List (Addr × Obj)} {σ : L2.St} {H : Hp} {s : Shared} {a : Addr} {xs : List V} {Q : VK} (I : Inv X pins σ H s) (hq : SqL X.K H a xs) (q : ∀ c, H c = none → Q (.ref c) (upd H c (.lst xs.reverse))) :
    wpAny (model X.prog X.w) X.A (call (.type "reversed") [.ref a]) (fun it s2 => wpAny (model X.prog X.w) X.A (call (.type "list") [it]) (L2.EP X pins σ Q) X.xe s2) X.xe s := by
  obtain ⟨its, rv, at0, hz⟩ := I.list hq
  have small : its.toArray.size ≤ sizeLine := by simpa [rv.length] using hz
  have neq : a ≠ s.heap.objs.size := let ⟨_, e, _⟩ := at0.isList; Nat.ne_of_lt (Heap.lt_size e)
  apply call_reversed_list at0.isList
  generalize ho : revObj a ((its.toArray.size : Int) - 1) = ro
  have old : ∀ b o, s.heap.get? b = some o → (s.heap.push ro).get? b = some o := fun _ o => Heap.get?_push_of_some ro
  have J := I.kept (t' := s.toks) old
  have fp := I.fpOk (H' := H) (b := s.heap.objs.size) (Nat.le_refl _) (I.hok.fresh (Nat.le_refl _))
  apply PySem.pg_list_rev (s := { s with heap := s.heap.push ro }) (l := a) (items := its.toArray) (I.ok.hd hc) ⟨ro, Heap.get?_push_size _ (by subst ho; rfl), by subst ho; exact ⟨rfl, rfl⟩⟩ (at0.isList.push _) neq small
  intro h3 tk got c keep3 new3 all
  rw [Heap.size_push] at new3 ⊢
  have fresh : H (s.heap.objs.size + 1) = none := I.hok.fresh (Nat.le_succ _)
  have J3 : Inv X pins σ (upd H (s.heap.objs.size + 1) (.lst xs.reverse)) { s with heap := h3, toks := tk } := by
    refine J.turnedNew (t' := tk) (ch := [s.heap.objs.size]) (fun b o nb => keep3 b o ?_) (fun b hb => ?_) ?_ ?_
    · simpa using nb
    · cases List.mem_singleton.mp hb
      exact fp
    · exact Nat.le_of_eq (Heap.size_push ..)
    · exact ⟨by simpa using hz, got.toList, c, RT.vals_rev rv all, by simpa using new3⟩
  exact ⟨.ref _, _, J3, rfl, q _ fresh⟩
theorem pe_listRev {e : Expr} {te : TE} {p p2 pos pos2 : Pos} (hc : X.calm = true) (hg : Gl X "list") (hm : X.mg "list" = none) (hg2 : Gl X "reversed") (hm2 : X.mg "reversed" = none) (he : PE X e te)
    (hs : starEach [e] X.env = (false, eval e X.env) :: starEach [] X.env := by rfl) (hs2 : starEach [.Call (.Name "reversed" p2) [e] [] pos2] X.env = (false, eval (.Call (.Name "reversed" p2) [e] [] pos2) X.env) :: starEach [] X.env := by rfl) :
    PE X (.Call (.Name "list" p) [.Call (.Name "reversed" p2) [e] [] pos2] [] pos) (tListRev X.K te) where
  run pins s σ H Q I h := by
    refine Call_ (ld_blt I hg hm PyProof.Rows.boot_list (PyProof.Rows.callWith_type1 (args_cons ?arg hs2) hs2 rfl))
    refine Call_ (ld_blt I hg2 hm2 PyProof.Rows.boot_reversed (PyProof.Rows.callWith_type1 (args_cons ?arg2 hs) hs rfl))
    refine thn (he.run pins s σ H _ I h) ?_
    rintro u s1 ⟨v, H1, I1, r, a, xs, rfl, sq, q⟩
    cases r
    exact args_nil (wpAny_mono (rev_list hc I1 sq q) (fun it s2 z => args_nil (by exact z)) fun _ _ z => z)
end
section
variable {K : PySem.W.Frag} {E : WX} {env env1 env' : List Slot} {t ta tb te : TE} {d : D} {ds : List D} {g : TG}
theorem en_listRev {α : Type} {r : α → D} {xs : List α} (h : EV K te env (.lst (xs.map r))) : EN K (tListRev K te) env (xs.reverse.map r) := fun σ F H A O m w Q q =>
  h σ F H A O m w _ fun v F1 H1 s1 w1 d1 => by
    rw [List.map_reverse] at q
    cases d1 with
    | lst a b => exact ⟨_, _, rfl, w1.same.seq a, fun l n => q l _ F1 _ s1 (w1.new n) b.reverse⟩
/-! ### lengths of tuples that are told -/
theorem ev_lenW {n : Nat} (hn : ds.length = n) (ha : EV K ta env (.tup ds)) : EV K (tCB (rLenP K) (tCons ta tNil)) env (dI (n : Nat)) := by rw [← hn]; exact ev_lenT ha
/-! ### targets of any number -/
variable (K) in
def GTs (t : TGs) (js : List Nat) (ds : List D) (env env' : List Slot) : Prop :=
  (∀ i, ownAt env' i = true → ownAt env i = true) ∧ ∀ (σ : L2.St) (vs : List V) (F H : Hp) (A O : List (Addr × HO)), Match K F σ env A → Own F H (A ++ O) → Dats K F vs ds → ∀ Q : L2.St → Hp → Prop,
    (∀ σ' A', A'.Sublist A → ((∀ j ∈ js, ownAt env j = false) → A' = A) → Match K F σ' env' A' → (∀ vs : List Nat, (∀ j ∈ js, j ∈ vs) → wipe σ' vs = wipe σ vs) → Q σ' H) → t vs σ H Q
theorem gts_nil : GTs K gNil [] [] env env := ⟨fun _ h => h, fun σ vs F H A O m w d Q q => by
  cases d
  exact ⟨rfl, q σ A (List.Sublist.refl _) (fun _ => rfl) m fun _ _ => rfl⟩⟩
theorem gts_cons {g : TG} {t : TGs} {j1 j2 : List Nat} (h1 : GT K g j1 d env env1) (h2 : GTs K t j2 ds env1 env') : GTs K (gCons g t) (j1 ++ j2) (d :: ds) env env' := ⟨fun i h => h1.1 i (h2.1 i h), fun σ vs F H A O m w hd Q q => by
  cases hd with
  | cons b1 b =>
    refine ⟨_, _, rfl, h1.2 σ _ F H A O m w b1 _ fun σ1 A1 sb1 y1 m1 z1 => ?_⟩
    refine h2.2 σ1 _ F H A1 O m1 (w.subA sb1) b _ fun σ2 A2 sb2 y2 m2 z2 => ?_
    refine q σ2 A2 (sb2.trans sb1) (fun z => ?_) m2 fun vs hv => (z2 vs fun j hj => hv j (List.mem_append_right _ hj)).trans (z1 vs fun j hj => hv j (List.mem_append_left _ hj))
    have e1 := y1 fun j hj => z j (List.mem_append_left _ hj)
    have e2 := y2 fun j hj => by
      cases ho : ownAt env1 j with
      | false => rfl
      | true =>
        have := h1.1 j ho
        rw [z j (List.mem_append_right _ hj)] at this
        cases this
    rw [e2, e1]⟩
theorem gt_tupN {t : TGs} {js : List Nat} {n : Nat} (hn : ds.length = n) (h : GTs K t js ds env env') : GT K (gTup K n t) js (.tup ds) env env' := ⟨h.1, fun σ v F H A O m w hd Q q => by
  cases hd with
  | tup a b => exact ⟨_, _, rfl, w.same.sqt a, b.length.trans hn, h.2 σ _ F H A O m w b Q q⟩⟩
end
/-! ### options of whole numbers -/
section
variable {K : PySem.W.Frag} {env : List Slot} {t ta tb : TE} {α : Type} {r : α → D}
def isSome : D → Bool
  | .v .non => false
  | _ => true
theorem dat_some {F : Hp} {v : V} {d : D} (h : isSome d = true) (q : Dat K F v d) : decide (v = .non) = false := by
  cases q with
  | v => cases v <;> first | (cases h; done) | (exact decide_eq_false (by intro z; cases z))
  | tup a b => rfl
  | lst a b => rfl
  | ins a b => rfl
  | hp a => rfl
  | ob a => rfl
theorem ev_isO {o : Option α} (hr : ∀ x, isSome (r x) = true) (h : EV K ta env (dO r o)) : EV K (tOp rIsN ta (tC .non)) env (dB o.isNone) := fun σ F H A O m w Q q =>
  ev_two h (ev_c .non) m w fun x y F' H' s w' d1 d2 => by
    refine And.intro d2.scl (q _ F' H' s w' ?_)
    cases o with
    | none => rw [d1.scl]; exact .v _
    | some z => rw [dat_some (hr z) d1]; exact .v _
theorem ev_notO {o : Option α} (hr : ∀ x, isSome (r x) = true) (h : EV K ta env (dO r o)) : EV K (tOp rNotN ta (tC .non)) env (dB (!o.isNone)) := fun σ F H A O m w Q q =>
  ev_two h (ev_c .non) m w fun x y F' H' s w' d1 d2 => by
    refine And.intro d2.scl (q _ F' H' s w' ?_)
    cases o with
    | none => rw [d1.scl]; exact .v _
    | some z => rw [dat_some (hr z) d1]; exact .v _
end
end Pg

set_option Elab.async false
set_option linter.all false
set_option maxRecDepth 100000
namespace Pg
open PySem PySem.Spec PyProof.Rows L2
/-! ### own lists of own lists -/
abbrev oL {α : Type} (r : α → D) (xs : List α) : OD := .own (xs.map r)
theorem map_toD {α : Type} {r : α → D} (xs : List (List α)) : (xs.map (oL r)).map OD.toD = xs.map (dL r) := by rw [List.map_map]; rfl
section
variable (K : PySem.W.Frag)
/-- a new list of new lists (and data), owned -/
def EN2 (t : TE) (env : List Slot) (os : List OD) : Prop := ∀ (σ : L2.St) (F H : Hp) (A O : List (Addr × HO)), Match K F σ env A → Own F H (A ++ O) → ∀ Q : VK,
  (∀ p vs F' H' O1, Same F F' → Own F' H' ((p, .lst vs) :: (O1 ++ (A ++ O))) → ODs K F' vs os O1 → Q (.ref p) H') → t σ H Q
end
section
variable {K : PySem.W.Frag} {na : Option Addr} {E : WX} {env env' : List Slot} {t u : TS} {te ta tb ti : TE} {tt : TT} {i j : Int} {d e : D} {ds es : List D} {os os' : List OD} {Nx : List Slot → Prop} {Rt : List Slot → T → Prop} {Ex : List Slot → Value → Prop}
/-- the inner lists frozen -/
theorem ODs.frz : ∀ {vs : List V} {os : List OD} {O1 R : List (Addr × HO)} {F H : Hp}, ODs K F vs os O1 → Own F H (O1 ++ R) → ∃ F', Same F F' ∧ Own F' H R ∧ Dats K F' vs (os.map OD.toD)
  | _, _, _, _, F, H, .nil, w => ⟨F, Same.refl F, w, .nil⟩
  | _, _, _, _, F, H, .dat d m, w => by
    obtain ⟨F', s, w', q⟩ := ODs.frz m w
    exact ⟨F', s, w', .cons (d.up s) q⟩
  | _, _, _, _, F, H, .own d m, w => by
    obtain ⟨w1, s1⟩ := Own.frz (show Own F H (_ :: (_ ++ _)) from w)
    obtain ⟨F', s, w', q⟩ := ODs.frz (m.up s1) w1
    exact ⟨F', s1.trans s, w', .cons (.lst (.of (s _ _ upd_same)) (d.up (s1.trans s))) q⟩
theorem EN2.en (h : EN2 K te env os) : EN K te env (os.map OD.toD) := fun σ F H A O m w Q q => h σ F H A O m w Q fun p vs F' H' O1 s w' dd => by
  have w2 : Own F' H' (O1 ++ ((p, .lst vs) :: (A ++ O))) := w'.perm List.perm_middle.symm
  obtain ⟨F2, s2, w3, q3⟩ := dd.frz w2
  exact q p vs F2 H' (s.trans s2) w3 q3
theorem EN2.enL {α : Type} {r : α → D} {xs : List (List α)} (h : EN2 K te env (xs.map (oL r))) : EN K te env (xs.map (dL r)) := by
  have := h.en
  rwa [map_toD] at this
theorem en2_cast {α : Type} {r : α → D} {a b : List (List α)} (h : R.ok a = R.ok b) (x : EN2 K te env (a.map (oL r))) : EN2 K te env (b.map (oL r)) := by rw [← R.ok_inj h]; exact x
/-- name = a new list of new lists -/
theorem sw_own2 {n : Nat} (h : EN2 K te env os) (hl : n < env.length) (hn : Nx (env.set n (.own2 os))) : SW K E (tAsg te (gName n)) env Nx Rt Ex := fun σ F H A O m w Dn q1 q2 q4 =>
  h σ F H A O m w _ fun p vs F1 H1 O1 s1 w1 d1 => by
    obtain ⟨A1, B, A2, e, s, m'⟩ := (m.up s1).put2 n d1 hl
    subst e
    refine q1 _ _ F1 H1 _ hn s1 m' ?_
    have w2 : Own F1 H1 ((p, .lst vs) :: (O1 ++ ((A1 ++ B) ++ O))) := w1.sub (((List.Sublist.refl O1).append ((List.Sublist.refl A1).append s |>.append (List.Sublist.refl O))).cons₂ _)
    refine w2.perm ?_
    have e1 : A1 ++ (p, HO.lst vs) :: (O1 ++ B) ++ O = A1 ++ ((p, HO.lst vs) :: (O1 ++ (B ++ O))) := by simp
    rw [e1]
    refine List.Perm.trans ?_ List.perm_middle.symm
    refine List.Perm.cons _ ?_
    rw [List.append_assoc A1, ← List.append_assoc O1, ← List.append_assoc A1]
    exact List.Perm.append_right _ List.perm_append_comm
/-- an own list of own lists frozen -/
theorem frz2 {σ : L2.St} {F H : Hp} {A O : List (Addr × HO)} {n : Nat} (h : env[n]? = some (.own2N na os)) (m : Match K F σ env A) (w : Own F H (A ++ O)) :
    ∃ F1 A', Same F F1 ∧ Match K F1 σ (env.set n (.dat (.lst (os.map OD.toD)))) A' ∧ Own F1 H (A' ++ O) := by
  obtain ⟨p, vs, O1, A1, A2, e, h1, h2, _, h5⟩ := m.getO2 h
  subst e
  have w1 : Own F H (O1 ++ ((p, .lst vs) :: ((A1 ++ A2) ++ O))) := by
    refine w.perm ?_
    have e1 : A1 ++ (p, HO.lst vs) :: (O1 ++ A2) ++ O = A1 ++ ((p, HO.lst vs) :: O1 ++ (A2 ++ O)) := by simp
    have e2 : O1 ++ ((p, HO.lst vs) :: ((A1 ++ A2) ++ O)) = O1 ++ ((p, HO.lst vs) :: (A1 ++ (A2 ++ O))) := by simp
    rw [e1, e2]
    refine List.Perm.trans ?_ List.perm_middle.symm
    rw [List.cons_append]
    refine List.Perm.trans List.perm_middle (List.Perm.cons _ ?_)
    have e3 : A1 ++ (O1 ++ (A2 ++ O)) = (A1 ++ O1) ++ (A2 ++ O) := by simp
    have e4 : O1 ++ (A1 ++ (A2 ++ O)) = (O1 ++ A1) ++ (A2 ++ O) := by simp
    rw [e3, e4]
    exact List.Perm.append_right _ List.perm_append_comm
  obtain ⟨F1, s1, w2, d1⟩ := h2.frz w1
  obtain ⟨w3, s2⟩ := w2.frz
  exact ⟨_, A1 ++ A2, s1.trans s2, h5 _ _ (s1.trans s2) (.lst (.of upd_same) (d1.up s2)), w3⟩
theorem sw_frz2 {n : Nat} (h : env[n]? = some (.own2N na os)) (hn : SW K E t (env.set n (.dat (.lst (os.map OD.toD)))) Nx Rt Ex) : SW K E t env Nx Rt Ex := fun σ F H A O m w Dn q1 q2 q4 => by
  obtain ⟨F1, A', s12, m', w'⟩ := frz2 h m w
  exact hn σ F1 H A' O m' w' Dn (fun a b c d f z s => q1 a b c d f z (s12.trans s)) (fun e x v a b c d f z s => q2 e x v a b c d f z (s12.trans s)) fun e c a b d f z s => q4 e c a b d f z (s12.trans s)
theorem sw_frz2L {α : Type} {r : α → D} {xs : List (List α)} {n : Nat} (h : env[n]? = some (.own2N na (xs.map (oL r)))) (hn : SW K E t (env.set n (.dat (dL (dL r) xs))) Nx Rt Ex) : SW K E t env Nx Rt Ex :=
  sw_frz2 h (by rw [map_toD]; exact hn)
/-! ### a def that hands back such a list -/
theorem sw_ret2 (h : EN2 K te env os) (hr : Rt env (.lst none (os.map OD.toT))) : SW K E (tRet te) env Nx Rt Ex := fun σ F H A O m w Dn q1 q2 q4 =>
  h σ F H A O m w _ fun p vs F1 H1 O1 s1 w1 d1 => q2 env _ _ σ F1 H1 A ((p, .lst vs) :: O1) hr s1 (m.up s1) w1 (.lst (fun _ z => nomatch z) d1.tree)
def spNN (K : PySem.W.Frag) {ι β : Type} (args : ι → List D) (f : ι → R (List (List β))) (rr : β → D) : Sp := fun vs H Q _ =>
  ∃ (x : ι) (F : Hp) (O : List (Addr × HO)) (b : List (List β)), Own F H O ∧ Dats K F vs (args x) ∧ f x = .ok b ∧ ∀ p us F' H' O1, Same F F' → Own F' H' ((p, .lst us) :: (O1 ++ O)) → ODs K F' us (b.map (oL rr)) O1 → Q (.ref p) H'
theorem spNN_run {ι β : Type} {args : ι → List D} {f : ι → R (List (List β))} {rr : β → D} {N : List Str} {vs : List V} {H : Hp} {Q : VK} {E : XK} (n k : Nat) (hN : N.length = n + k) (hn : ∀ x, (args x).length = n)
    (hb : ∀ x b, f x = .ok b → SW K W0 t ((args x).map Slot.dat ++ List.replicate k .un) (fun _ => False) (fun _ v => v = .lst none ((b.map (oL rr)).map OD.toT)) fun _ _ => False)
    (h : spNN K args f rr vs H Q E) : t { nx := fun _ H' => Q .non H', rt := Q } (L2.start N vs) H := by
  obtain ⟨x, F, O, b, w, da, hf, q⟩ := h
  have hl := sp_len hn da
  have m := match_start (N.length - vs.length) da
  rw [show N.length - vs.length = k by omega] at m
  unfold L2.start
  rw [show N.length - vs.length = k by omega]
  refine hb x b hf _ F H [] O m w _ ?_ ?_ ?_
  · exact fun e σ' F' H' A' z => z.elim
  · rintro e _ v σ' F' H' A' O1 rfl s m' w' d'
    cases d' with
    | lst n d' => exact q _ _ F' H' _ s (w'.sub (((List.Sublist.refl _).append (List.sublist_append_right A' O)).cons₂ _)) d'.ods
  · exact fun _ _ _ _ _ _ z => z.elim
theorem en_call2 {ι β : Type} {args : ι → List D} {f : ι → R (List (List β))} {rr : β → D} {ta : TA} {E' : XK} (x : ι) {b : List (List β)} (hf : f x = .ok b) (ha : EA K ta env (args x)) : EN2 K (tCall (spNN K args f rr) [] E' ta) env (b.map (oL rr)) := fun σ F H A O m w Q q =>
  ha σ F H A O m w _ fun vs F1 H1 s1 w1 d1 => ⟨x, F1, A ++ O, b, w1, by rw [List.append_nil]; exact d1, hf, fun p us F' H' O1 s w' d' => q p us F' H' O1 (s1.trans s) w' d'⟩
end
end Pg

set_option Elab.async false
set_option linter.all false
set_option maxRecDepth 100000
namespace Pg
open PySem PySem.Spec PyProof.Rows L2
section
variable {K : PySem.W.Frag} {na : Option Addr} {E : WX} {env env' : List Slot} {t u : TS} {te ta tb ti : TE} {tt : TT} {i j : Int} {d e : D} {ds es : List D} {os os' : List OD} {Nx : List Slot → Prop} {Rt : RV → Prop} {Ex : Value → Prop}
theorem mapR_step {α β : Type} {f : α → R β} : ∀ {xs : List α} {zs : List β}, R.mapR f xs = .ok zs → (xs = [] ∧ zs = []) ∨ ∃ x ys y ws, xs = x :: ys ∧ f x = .ok y ∧ R.mapR f ys = .ok ws ∧ zs = y :: ws
  | [], zs, h => .inl ⟨rfl, (R.ok_inj h).symm⟩
  | x :: ys, zs, h => by
    obtain ⟨y, h1, h2⟩ := R.bind_inv (show R.bind (f x) _ = _ from h)
    obtain ⟨ws, h3, h4⟩ := R.bind_inv h2
    exact .inr ⟨x, ys, y, ws, rfl, h1, h3, (R.ok_inj h4).symm⟩
theorem oL_snoc {β : Type} {rb : β → D} (acc : List (List β)) (y : List β) : (acc ++ [y]).map (oL rb) = acc.map (oL rb) ++ [.own (y.map rb)] := by rw [List.map_append]; rfl
/-- [e for x in xs], e a new list -/
theorem en2_comp {wi : TI} {g : TG} {te : TE} {vs js : List Nat} {α β : Type} {xs : List α} {ra : α → D} {rb : β → D} (f : α → R (List β)) {ys : List (List β)}
    (hi : IV K wi env (xs.map ra)) (hf : R.compR f xs = .ok ys) (hw : noOwn env vs = true) (hj : ∀ j ∈ js, j ∈ vs)
    (hb : ∀ x, x ∈ xs → ∃ env1, GT K g js (ra x) (wipeS env vs) env1 ∧ ∀ y, f x = .ok y → EN K te env1 (y.map rb)) : EN2 K (tLc wi g tYes te vs) env (ys.map (oL rb)) := fun σ F H A O m w Q q => by
  obtain ⟨hl, hf⟩ := compR_some hf
  refine hi σ F H A O m w _ fun J F1 H1 s1 w1 wk D hD => ?_
  refine ⟨fun i k H2 => ∃ (acc : List (List β)) (us : List V) (F2 : Hp) (OO : List (Addr × HO)), k + i = xs.length ∧ acc.length ≤ i ∧ Same F1 F2 ∧ Own F2 H2 ((D, .lst us) :: (OO ++ (A ++ O))) ∧ ODs K F2 us (acc.map (oL rb)) OO ∧ ∃ zs, R.mapR f (xs.drop i) = .ok zs ∧ ys = acc ++ zs,
    ⟨xs.length, [], [], F1, [], rfl, Nat.le_refl _, Same.refl _, w1.new hD, .nil, ys, hf, rfl⟩, ?_⟩
  rintro i k H2 ⟨acc, us, F2, OO, hk, hlen, ss, w2, dd, zs, h2, e2⟩
  rcases mapR_step h2 with ⟨e1, e3⟩ | ⟨x, rest, y1, ws, e1, h5, h6, h7⟩
  · have hl' : xs.length ≤ i := by
      have := congrArg List.length e1
      rw [List.length_drop, List.length_nil] at this
      omega
    refine .inl ⟨wk.2 i F2 H2 _ ss w2 (by rw [List.length_map]; exact hl'), q D us F2 H2 OO (s1.trans ss) w2 ?_⟩
    rw [e2, e3, List.append_nil]; exact dd
  · have hx : xs[i]? = some x := by
      have := congrArg (fun l => l[0]?) e1
      simpa using this
    have hlt : i < xs.length := by
      rcases Nat.lt_or_ge i xs.length with z | z
      · exact z
      · rw [List.getElem?_eq_none z] at hx; cases hx
    have hys : xs.drop (i + 1) = rest := by
      rw [← List.drop_drop, e1]; rfl
    obtain ⟨g1, g2⟩ := wk.1 i F2 H2 _ (ra x) ss w2 (by rw [List.getElem?_map, hx]; rfl)
    refine .inr ⟨g1, fun H3 => ∃ (acc : List (List β)) (us : List V) (F3 : Hp) (OO : List (Addr × HO)), acc.length ≤ i + 1 ∧ Same F1 F3 ∧ Own F3 H3 ((D, .lst us) :: (OO ++ (A ++ O))) ∧ ODs K F3 us (acc.map (oL rb)) OO ∧ ∃ zs, R.mapR f rest = .ok zs ∧ ys = acc ++ zs, ?_, fun y H3 hy => ?_⟩
    · rintro H3 ⟨acc3, us3, F3, OO3, l3, ss3, w3, d3, zs3, h3, e3⟩
      exact ⟨k - 1, by omega, acc3, us3, F3, OO3, by omega, by omega, ss3, w3, d3, zs3, by rw [hys]; exact h3, e3⟩
    · obtain ⟨F3, ss3, w3, d3⟩ := g2 y H3 hy
      obtain ⟨env1, hg, he⟩ := hb x (List.mem_of_getElem? hx)
      have mw := match_wipe (m.up (s1.trans (ss.trans ss3))) vs hw
      have w3' : Own F3 H3 (A ++ ((D, .lst us) :: (OO ++ O))) := w3.perm (by
        refine List.Perm.trans ?_ List.perm_middle.symm
        refine List.Perm.cons _ ?_
        rw [← List.append_assoc, ← List.append_assoc]
        exact List.Perm.append_right _ List.perm_append_comm)
      refine hg.2 (wipe σ vs) y F3 H3 A ((D, .lst us) :: (OO ++ O)) mw w3' d3 _ fun σ4 A4 sb4 eA m4 z4 => ⟨?_, ?_⟩
      · rw [z4 vs hj, wipe_wipe σ vs vs fun _ z => z]
      · have eA := eA fun j h => ownAt_wipe j (noOwn_at hw j (hj j h)) vs
        subst eA
        show te σ4 H3 _
        refine he y1 h5 σ4 F3 H3 A4 ((D, .lst us) :: (OO ++ O)) m4 w3' _ fun p ps F6 H6 s6 w6 d6 => ?_
        have s36 := ss3.trans s6
        have w7 : Own F6 H6 ((D, .lst us) :: ((OO ++ [(p, .lst ps)]) ++ (A4 ++ O))) := w6.perm (by
          have a1 : ((p, HO.lst ps) :: (A4 ++ (D, HO.lst us) :: (OO ++ O))).Perm ((D, HO.lst us) :: ((p, HO.lst ps) :: (A4 ++ (OO ++ O)))) :=
            (List.Perm.cons _ List.perm_middle).trans (List.Perm.swap _ _ _)
          refine a1.trans (List.Perm.cons _ ?_)
          have e1 : (OO ++ [(p, HO.lst ps)]) ++ (A4 ++ O) = OO ++ ((p, HO.lst ps) :: (A4 ++ O)) := by simp
          rw [e1]
          refine List.Perm.trans (List.Perm.cons _ ?_) List.perm_middle.symm
          rw [← List.append_assoc, ← List.append_assoc]
          exact List.Perm.append_right _ List.perm_append_comm)
        refine ⟨us, (w7.has (D, .lst us) (by simp)).2, ?_, acc ++ [y1], us ++ [.ref p], F6, OO ++ [(p, .lst ps)], ?_, ss.trans s36, w7.put (o' := .lst (us ++ [.ref p])), ?_, ws, h6, ?_⟩
        · have := dd.length
          rw [List.length_map] at this
          rw [this, sizeLine_eq]; omega
        · rw [List.length_append, List.length_singleton]; omega
        · rw [oL_snoc]
          exact (dd.up s36).append (.own d6 .nil)
        · rw [e2, h7, List.append_assoc]; rfl
/-! ### own lists of own lists lent -/
def delL (F : Hp) : List (Addr × HO) → Hp
  | [] => F
  | q :: qs => del (delL F qs) q.1
theorem delL_ne {F : Hp} {b : Addr} : ∀ {qs : List (Addr × HO)}, (∀ q ∈ qs, q.1 ≠ b) → delL F qs b = F b
  | [], _ => rfl
  | q :: qs, h => by
    show del (delL F qs) q.1 b = F b
    rw [del_ne (fun z => h q List.mem_cons_self z.symm), delL_ne fun r hr => h r (List.mem_cons_of_mem _ hr)]
def AllL (O0 : List (Addr × HO)) : Prop := ∀ q ∈ O0, isTree q.2 = true
theorem dat_delL {F : Hp} {d : D} {v : V} (hl : noL d = true) (h : Dat K F v d) : ∀ {O0 : List (Addr × HO)}, (O0.map (·.1)).Nodup → AllL O0 → (∀ q ∈ O0, F q.1 = some q.2) → Dat K (delL F O0) v d
  | [], _, _, _ => h
  | q :: qs, nd, al, hF => by
    rw [List.map_cons, List.nodup_cons] at nd
    refine Dat.del (o0 := q.2) ?_ (al q List.mem_cons_self) d v hl (dat_delL hl h nd.2 (fun r hr => al r (List.mem_cons_of_mem _ hr)) fun r hr => hF r (List.mem_cons_of_mem _ hr))
    rw [delL_ne fun r hr z => nd.1 (List.mem_map.mpr ⟨r, hr, z⟩), hF q List.mem_cons_self]
theorem dats_delL {F : Hp} {ds : List D} {vs : List V} (hl : noLs ds = true) (h : Dats K F vs ds) : ∀ {O0 : List (Addr × HO)}, (O0.map (·.1)).Nodup → AllL O0 → (∀ q ∈ O0, F q.1 = some q.2) → Dats K (delL F O0) vs ds
  | [], _, _, _ => h
  | q :: qs, nd, al, hF => by
    rw [List.map_cons, List.nodup_cons] at nd
    refine Dats.del (o0 := q.2) ?_ (al q List.mem_cons_self) ds vs hl (dats_delL hl h nd.2 (fun r hr => al r (List.mem_cons_of_mem _ hr)) fun r hr => hF r (List.mem_cons_of_mem _ hr))
    rw [delL_ne fun r hr z => nd.1 (List.mem_map.mpr ⟨r, hr, z⟩), hF q List.mem_cons_self]
/-- frozen for a while, and taken back -/
theorem own_back {F F' H' : Hp} {O0 B R : List (Addr × HO)} (nd0 : (O0.map (·.1)).Nodup) (h0 : ∀ q ∈ O0, F q.1 = none) (hF : ∀ q ∈ O0, F' q.1 = some q.2) (s : ∀ b u, F b = some u → F' b = some u) (w : Own F' H' (B ++ R)) :
    Same F (delL F' O0) ∧ Own (delL F' O0) H' (B ++ (O0 ++ R)) := by
  have out : ∀ q ∈ B ++ R, ∀ r ∈ O0, r.1 ≠ q.1 := fun q hq r hr z => by
    have a := (w.has q hq).1
    have b := hF r hr
    rw [z, a] at b; cases b
  refine ⟨fun b u e => ?_, ?_⟩
  · rw [delL_ne fun q hq z => by rw [← z, h0 q hq] at e; cases e]
    exact s b u e
  · have key : Own (delL F' O0) H' (O0 ++ (B ++ R)) := by
      refine ⟨fun b u e => ?_, ?_, fun q hq => ?_⟩
      · have sub : ∀ (qs : List (Addr × HO)), delL F' qs b = some u → F' b = some u := by
          intro qs
          induction qs with
          | nil => exact id
          | cons q qs ih =>
            intro e
            have e : del (delL F' qs) q.1 b = some u := e
            unfold del at e
            split at e
            · cases e
            · exact ih e
        exact w.same b u (sub O0 e)
      · rw [List.map_append, List.nodup_append]
        refine ⟨nd0, w.nd, fun a ha b hb z => ?_⟩
        obtain ⟨r, hr, e1⟩ := List.mem_map.mp ha
        obtain ⟨q, hq, e2⟩ := List.mem_map.mp hb
        exact out q hq r hr (by rw [e1, e2, z])
      · rcases List.mem_append.mp hq with hq | hq
        · have none : ∀ {qs : List (Addr × HO)}, q ∈ qs → delL F' qs q.1 = none := by
            intro qs
            induction qs with
            | nil => intro z; cases z
            | cons r qs ih =>
              intro z
              show del (delL F' qs) r.1 q.1 = none
              unfold del
              by_cases e : q.1 = r.1
              · rw [if_pos e]
              · rw [if_neg e]
                rcases List.mem_cons.mp z with z | z
                · exact absurd (by rw [z]) e
                · exact ih z
          exact ⟨none hq, w.same _ _ (hF q hq)⟩
        · obtain ⟨a, b⟩ := w.has q hq
          exact ⟨by rw [delL_ne fun r hr => out q hq r hr]; exact a, b⟩
    refine key.perm ?_
    rw [← List.append_assoc, ← List.append_assoc]
    exact List.Perm.append_right _ List.perm_append_comm
theorem ODs.allL : ∀ {vs : List V} {os : List OD} {O1 : List (Addr × HO)} {F : Hp}, ODs K F vs os O1 → AllL O1
  | _, _, _, _, .nil => fun q hq => nomatch hq
  | _, _, _, _, .dat _ m => m.allL
  | _, _, _, _, .own (us := us) _ m => fun q hq => by
    rcases List.mem_cons.mp hq with rfl | hq
    · rfl
    · exact m.allL q hq
theorem ODs.frzF : ∀ {vs : List V} {os : List OD} {O1 R : List (Addr × HO)} {F H : Hp}, ODs K F vs os O1 → Own F H (O1 ++ R) → ∃ F', Same F F' ∧ Own F' H R ∧ Dats K F' vs (os.map OD.toD) ∧ ∀ q ∈ O1, F' q.1 = some q.2
  | _, _, _, _, F, H, .nil, w => ⟨F, Same.refl F, w, .nil, fun q hq => nomatch hq⟩
  | _, _, _, _, F, H, .dat d m, w => by
    obtain ⟨F', s, w', q, r⟩ := ODs.frzF m w
    exact ⟨F', s, w', .cons (d.up s) q, r⟩
  | _, _, _, _, F, H, .own d m, w => by
    obtain ⟨w1, s1⟩ := Own.frz (show Own F H (_ :: (_ ++ _)) from w)
    obtain ⟨F', s, w', q, r⟩ := ODs.frzF (m.up s1) w1
    refine ⟨F', s1.trans s, w', .cons (.lst (.of (s _ _ upd_same)) (d.up (s1.trans s))) q, fun z hz => ?_⟩
    rcases List.mem_cons.mp hz with rfl | hz
    · exact s _ _ upd_same
    · exact r z hz
theorem lend2 {σ : L2.St} {F H : Hp} {A O : List (Addr × HO)} {n : Nat} (h : env[n]? = some (.own2N na os)) (m : Match K F σ env A) (w : Own F H (A ++ O)) :
    ∃ (O0 A' : List (Addr × HO)) (F1 : Hp), Same F F1 ∧ Match K F1 σ (env.set n (.dat (.lst (os.map OD.toD)))) A' ∧ Own F1 H (A' ++ O) ∧ (O0.map (·.1)).Nodup ∧ AllL O0 ∧
      (∀ q ∈ O0, F1 q.1 = some q.2) ∧ ∀ F' H' B, Same F1 F' → Own F' H' (B ++ (A' ++ O)) → Same F (delL F' O0) ∧ Own (delL F' O0) H' (B ++ (A ++ O)) := by
  obtain ⟨p, vs, O1, A1, A2, e, h1, h2, _, h5⟩ := m.getO2 h
  subst e
  have pm : (A1 ++ (p, HO.lst vs) :: (O1 ++ A2) ++ O).Perm (O1 ++ ((p, .lst vs) :: ((A1 ++ A2) ++ O))) := by
    have e1 : A1 ++ (p, HO.lst vs) :: (O1 ++ A2) ++ O = A1 ++ ((p, HO.lst vs) :: O1 ++ (A2 ++ O)) := by simp
    have e2 : O1 ++ ((p, HO.lst vs) :: ((A1 ++ A2) ++ O)) = O1 ++ ((p, HO.lst vs) :: (A1 ++ (A2 ++ O))) := by simp
    rw [e1, e2]
    refine List.Perm.trans ?_ List.perm_middle.symm
    rw [List.cons_append]
    refine List.Perm.trans List.perm_middle (List.Perm.cons _ ?_)
    have e3 : A1 ++ (O1 ++ (A2 ++ O)) = (A1 ++ O1) ++ (A2 ++ O) := by simp
    have e4 : O1 ++ (A1 ++ (A2 ++ O)) = (O1 ++ A1) ++ (A2 ++ O) := by simp
    rw [e3, e4]
    exact List.Perm.append_right _ List.perm_append_comm
  have w1 := w.perm pm
  obtain ⟨F1, s1, w2, d1, f1⟩ := h2.frzF w1
  obtain ⟨w3, s2⟩ := w2.frz
  have nd := w1.nd
  have fr : ∀ q ∈ O1 ++ [(p, HO.lst vs)], F q.1 = none := fun q hq => (w1.has q (by
    rcases List.mem_append.mp hq with hq | hq
    · exact List.mem_append_left _ hq
    · exact List.mem_append_right _ (by simp at hq; rw [hq]; exact List.mem_cons_self))).1
  have nd0 : ((O1 ++ [(p, HO.lst vs)]).map (·.1)).Nodup := by
    refine nd.sublist (List.Sublist.map _ ?_)
    exact (List.Sublist.refl O1).append (List.Sublist.cons₂ _ (List.nil_sublist _))
  have hF : ∀ q ∈ O1 ++ [(p, HO.lst vs)], upd F1 p (.lst vs) q.1 = some q.2 := fun q hq => by
    rcases List.mem_append.mp hq with hq | hq
    · exact s2 _ _ (f1 q hq)
    · simp at hq; rw [hq]; exact upd_same
  refine ⟨O1 ++ [(p, .lst vs)], A1 ++ A2, _, s1.trans s2, h5 _ _ (s1.trans s2) (.lst (.of upd_same) (d1.up s2)), w3, nd0, ?_, hF, fun F' H' B s w' => ?_⟩
  · intro q hq
    rcases List.mem_append.mp hq with hq | hq
    · exact h2.allL q hq
    · simp at hq; rw [hq]; rfl
  · obtain ⟨b1, b2⟩ := own_back nd0 fr (fun q hq => s _ _ (hF q hq)) (fun b u z => s _ _ ((s1.trans s2) b u z)) w'
    refine ⟨b1, b2.perm (List.Perm.append_left B ?_)⟩
    refine List.Perm.trans ?_ pm.symm
    rw [List.append_assoc]; exact List.Perm.refl _
theorem ev_lend2 {n : Nat} (h : env[n]? = some (.own2N na os)) (hl : noL d = true) (x : EV K te (env.set n (.dat (.lst (os.map OD.toD)))) d) : EV K te env d := fun σ F H A O m w Q q => by
  obtain ⟨O0, A', F1, s1, m1, w1, nd, al, hF, back⟩ := lend2 h m w
  refine x σ F1 H A' O m1 w1 _ fun v F' H' s w' dd => ?_
  obtain ⟨b1, b2⟩ := back F' H' [] s w'
  exact q v _ H' b1 b2 (dat_delL hl dd nd al fun r hr => s _ _ (hF r hr))
theorem et_lend2 {n : Nat} {b : Bool} (h : env[n]? = some (.own2N na os)) (x : ET K tt (env.set n (.dat (.lst (os.map OD.toD)))) b) : ET K tt env b := fun σ F H A O m w Q q => by
  obtain ⟨O0, A', F1, s1, m1, w1, nd, al, hF, back⟩ := lend2 h m w
  refine x σ F1 H A' O m1 w1 _ fun F' H' s w' => ?_
  obtain ⟨b1, b2⟩ := back F' H' [] s w'
  exact q _ H' b1 b2
theorem en_lend2 {n : Nat} (h : env[n]? = some (.own2N na os)) (hl : noLs ds = true) (x : EN K te (env.set n (.dat (.lst (os.map OD.toD)))) ds) : EN K te env ds := fun σ F H A O m w Q q => by
  obtain ⟨O0, A', F1, s1, m1, w1, nd, al, hF, back⟩ := lend2 h m w
  refine x σ F1 H A' O m1 w1 _ fun r us F' H' s w' dd => ?_
  obtain ⟨b1, b2⟩ := back F' H' [(r, .lst us)] s w'
  exact q r us _ H' b1 b2 (dats_delL hl dd nd al fun r hr => s _ _ (hF r hr))
theorem ev_lend2L {α : Type} {r : α → D} {xs : List (List α)} {n : Nat} (h : env[n]? = some (.own2N na (xs.map (oL r)))) (hl : noL d = true) (x : EV K te (env.set n (.dat (dL (dL r) xs))) d) : EV K te env d := ev_lend2 h hl (by rw [map_toD]; exact x)
theorem et_lend2L {α : Type} {r : α → D} {xs : List (List α)} {n : Nat} {b : Bool} (h : env[n]? = some (.own2N na (xs.map (oL r)))) (x : ET K tt (env.set n (.dat (dL (dL r) xs))) b) : ET K tt env b := et_lend2 h (by rw [map_toD]; exact x)
theorem en_lend2L {α : Type} {r : α → D} {xs : List (List α)} {n : Nat} (h : env[n]? = some (.own2N na (xs.map (oL r)))) (hl : noLs ds = true) (x : EN K te (env.set n (.dat (dL (dL r) xs))) ds) : EN K te env ds := en_lend2 h hl (by rw [map_toD]; exact x)
end
end Pg

set_option Elab.async false
set_option linter.all false
set_option maxRecDepth 100000
namespace Pg
open PySem PySem.Spec PyProof.Rows L2
section
variable {K : PySem.W.Frag} {na : Option Addr} {E : WX} {env env' : List Slot} {t u : TS} {te ta tb ti : TE} {tt : TT} {i j : Int} {d e : D} {ds es : List D} {os os' : List OD} {Nx : List Slot → Prop} {Rt : List Slot → T → Prop} {Ex : List Slot → Value → Prop}
theorem en2_nil (h : EN K te env []) : EN2 K te env [] := fun σ F H A O m w Q q => h σ F H A O m w Q fun p vs F' H' s w' d => by
  cases d
  exact q p [] F' H' [] s w' .nil
/-- xs.extend(a new list) -/
theorem sw_ext {α : Type} {r : α → D} {xs zs ys : List α} {n : Nat} (hx : extR xs ys = .ok zs) (h : env[n]? = some (.ownN na (xs.map r))) (he : EN K te env (ys.map r)) (hn : Nx (env.set n (.ownN na (zs.map r)))) :
    SW K E (tDrop (tBM K "list" rExtend (tVar n) (tCons te tNil))) env Nx Rt Ex := fun σ F H A O m w Dn q1 q2 q4 => by
  obtain ⟨p, vs, A1, A2, e, h1, h2, h4, _⟩ := m.getO h
  unfold extR at hx
  split at hx
  case isFalse => cases hx
  rename_i hl
  have ey := R.ok_inj hx
  subst ey
  have hp := (w.has (p, .lst vs) (by rw [e]; simp)).2
  refine ⟨_, h1, .inl ⟨rfl, vs, .of hp⟩, he σ F H A O m w _ fun p1 us F1 H1 s1 w1 d1 => ?_⟩
  have hp1 := (w1.has (p, .lst vs) (by rw [e]; simp)).2
  have hq1 := (w1.has (p1, .lst us) (by simp)).2
  refine ⟨p, p1, vs, us, rfl, rfl, hp1, hq1, ?_, ?_⟩
  · have a1 := h2.length
    have a2 := d1.length
    rw [List.length_map] at a1 a2
    rw [a1, a2, sizeLine_eq]; exact hl
  · subst e
    have w2 : Own F1 H1 (A1 ++ (p, .lst vs) :: A2 ++ O) := w1.sub (List.sublist_cons_self _ _)
    refine q1 _ σ F1 _ (A1 ++ (p, .lst (vs ++ us)) :: A2) hn s1 ?_ ?_
    · rw [List.map_append]
      exact h4 F1 _ _ s1 ((h2.up s1).append d1)
    · rw [List.append_assoc] at w2 ⊢
      exact (w2.mid.put (o' := .lst (vs ++ us))).unmid
/-- rows.append(a new list) -/
theorem sw_app2 {α : Type} {r : α → D} {xs ys : List (List α)} {x : List α} {n : Nat} (hx : appR xs x = .ok ys) (h : env[n]? = some (.own2N na (xs.map (oL r)))) (he : EN K te env (x.map r)) (hn : Nx (env.set n (.own2N na (ys.map (oL r))))) :
    SW K E (tDrop (tBM K "list" rAppend (tVar n) (tCons te tNil))) env Nx Rt Ex := fun σ F H A O m w Dn q1 q2 q4 => by
  obtain ⟨p, vs, O1, A1, A2, e, h1, h2, h4, _⟩ := m.getO2 h
  obtain ⟨hl, ey⟩ := appR_some hx
  subst ey
  have hp := (w.has (p, .lst vs) (by rw [e]; simp)).2
  refine ⟨_, h1, .inl ⟨rfl, vs, .of hp⟩, he σ F H A O m w _ fun p1 us F1 H1 s1 w1 d1 => ?_⟩
  have hp1 := (w1.has (p, .lst vs) (by rw [e]; simp)).2
  refine ⟨p, vs, .ref p1, rfl, rfl, hp1, ?_, ?_⟩
  · have := h2.length
    rw [List.length_map] at this
    rw [this, sizeLine_eq]; exact hl
  · subst e
    have m2 := h4 F1 (vs ++ [.ref p1]) (xs.map (oL r) ++ [.own (x.map r)]) (O1 ++ [(p1, .lst us)]) s1 ((h2.up s1).append (.own d1 .nil))
    rw [← oL_snoc] at m2
    refine q1 _ σ F1 _ _ hn s1 m2 ?_
    have w2 : Own F1 H1 ((p, .lst vs) :: (A1 ++ ((O1 ++ [(p1, .lst us)]) ++ A2) ++ O)) := w1.perm (by
      have e1 : (p1, HO.lst us) :: (A1 ++ (p, HO.lst vs) :: (O1 ++ A2) ++ O) = (p1, HO.lst us) :: (A1 ++ ((p, HO.lst vs) :: (O1 ++ A2 ++ O))) := by simp
      have e2 : (p, HO.lst vs) :: (A1 ++ ((O1 ++ [(p1, HO.lst us)]) ++ A2) ++ O) = (p, HO.lst vs) :: ((A1 ++ O1) ++ ((p1, HO.lst us) :: (A2 ++ O))) := by simp
      rw [e1, e2]
      refine List.Perm.trans (List.Perm.cons _ List.perm_middle) (List.Perm.trans (List.Perm.swap _ _ _) (List.Perm.cons _ ?_))
      have e3 : A1 ++ (O1 ++ A2 ++ O) = (A1 ++ O1) ++ (A2 ++ O) := by simp
      rw [e3]
      exact List.perm_middle.symm)
    have w3 := w2.put (o' := .lst (vs ++ [.ref p1]))
    refine w3.perm ?_
    have e4 : A1 ++ (p, HO.lst (vs ++ [.ref p1])) :: ((O1 ++ [(p1, HO.lst us)]) ++ A2) ++ O = A1 ++ ((p, HO.lst (vs ++ [.ref p1])) :: (((O1 ++ [(p1, HO.lst us)]) ++ A2) ++ O)) := by simp
    have e5 : (p, HO.lst (vs ++ [.ref p1])) :: (A1 ++ ((O1 ++ [(p1, HO.lst us)]) ++ A2) ++ O) = (p, HO.lst (vs ++ [.ref p1])) :: (A1 ++ (((O1 ++ [(p1, HO.lst us)]) ++ A2) ++ O)) := by simp
    rw [e4, e5]
    exact List.perm_middle.symm
/-- the inner list of a place: where it stands -/
theorem inner_at {σ : L2.St} {F H : Hp} {A O : List (Addr × HO)} {n k : Nat} (h : env[n]? = some (.own2N na os)) (hk : os[k]? = some (.own ds)) (m : Match K F σ env A) (w : Own F H (A ++ O)) :
    ∃ p vs q us C D, σ[n]? = some (some (.ref p)) ∧ (p, HO.lst vs) ∈ A ∧ vs[k]? = some (.ref q) ∧ vs.length = os.length ∧ A = C ++ (q, HO.lst us) :: D ∧ Dats K F us ds ∧
      ∀ F' us' ds', Same F F' → Dats K F' us' ds' → Match K F' σ (env.set n (.own2N na (os.set k (.own ds')))) (C ++ (q, HO.lst us') :: D) := by
  obtain ⟨p, vs, O1, A1, A2, e, h1, h2, h4, _⟩ := m.getO2 h
  obtain ⟨q, us, B1, B2, e1, g1, g2, g3⟩ := h2.getO hk
  subst e e1
  refine ⟨p, vs, q, us, A1 ++ (p, .lst vs) :: B1, B2 ++ A2, h1, by simp, g1, h2.length, by simp, g2, fun F' us' ds' s hd => ?_⟩
  have := h4 F' vs (os.set k (.own ds')) (B1 ++ (q, .lst us') :: B2) s (g3 F' us' ds' s hd)
  have e2 : A1 ++ (p, HO.lst vs) :: B1 ++ (q, HO.lst us') :: (B2 ++ A2) = A1 ++ (p, HO.lst vs) :: ((B1 ++ (q, HO.lst us') :: B2) ++ A2) := by simp
  rw [e2]; exact this
theorem set2_some {α : Type} {xss yss : List (List α)} {i j : Int} {x : α} (h : set2R xss i j x = .ok yss) : ∃ k n row, ixP xss.length i = some k ∧ xss[k]? = some row ∧ ixP row.length j = some n ∧ yss = xss.set k (row.set n x) := by
  obtain ⟨row, h1, h2⟩ := R.bind_inv h
  obtain ⟨row', h3, h4⟩ := R.bind_inv h2
  obtain ⟨k, a1, a2⟩ := atR_some h1
  obtain ⟨n, b1, b2⟩ := setR_some h3
  obtain ⟨k', c1, c2⟩ := setR_some h4
  rw [a1] at c1
  cases c1
  exact ⟨k, n, row, a1, a2, b1, by rw [c2, b2]⟩
/-- xss[i][j] = e -/
theorem sw_put2 {α : Type} {r : α → D} {xss yss : List (List α)} {x : α} {n : Nat} (hx : set2R xss i j x = .ok yss) (he : EV K te env (r x)) (h : env[n]? = some (.own2N na (xss.map (oL r)))) (hi : EV K ti env (dI i)) (hj : EV K tb env (dI j)) (hn : Nx (env.set n (.own2N na (yss.map (oL r))))) :
    SW K E (tAsg te (gSub (tOp (rIxL K) (tVar n) ti) tb rSetL)) env Nx Rt Ex := fun σ F H A O m w Dn q1 q2 q4 =>
  he σ F H A O m w _ fun v F1 H1 s1 w1 d1 => by
    obtain ⟨k, c, row, a1, a2, b1, ey⟩ := set2_some hx
    subst ey
    have hk : (xss.map (oL r))[k]? = some (.own (row.map r)) := by rw [List.getElem?_map, a2]; rfl
    obtain ⟨p, vs, q, us, C, D, g1, g2, g3, g4, g5, g6, g7⟩ := inner_at h hk (m.up s1) w1
    rw [List.length_map] at g4
    refine ⟨_, g1, hi σ F1 H1 A O (m.up s1) w1 _ fun y F2 H2 s2 w2 d2 => ?_⟩
    have hp2 := (w2.has (p, .lst vs) (List.mem_append_left _ g2)).2
    refine ⟨p, vs, i, .ref q, rfl, d2.int, .of hp2, atI_ixP (by rw [g4]; exact a1) g3, hj σ F2 H2 A O (m.up (s1.trans s2)) w2 _ fun z F3 H3 s3 w3 d3 => ?_⟩
    have hq3 := (w3.has (q, .lst us) (by rw [g5]; simp)).2
    have hl := g6.length
    rw [List.length_map] at hl
    refine ⟨q, us, j, c, rfl, d3.int, hq3, by rw [← ixP_ixN, hl]; exact b1, ?_⟩
    have s123 := s1.trans (s2.trans s3)
    have m2 := g7 F3 (us.set c v) ((row.map r).set c (r x)) (s2.trans s3) ((g6.up (s2.trans s3)).set c (d1.up (s2.trans s3)))
    have e1 : (xss.map (oL r)).set k (.own ((row.map r).set c (r x))) = (xss.set k (row.set c x)).map (oL r) := by
      rw [List.map_set]; congr 1; show OD.own _ = OD.own ((row.set c x).map r); rw [List.map_set]
    rw [e1] at m2
    refine q1 _ σ F3 _ _ hn s123 m2 ?_
    subst g5
    rw [List.append_assoc] at w3 ⊢
    exact (w3.mid.put (o' := .lst (us.set c v))).unmid
/-- xss[i].append(e), what it holds of a kind of its own then -/
theorem sw_app2i {α : Type} {r : α → D} {xss : List (List α)} {row : List α} {n k : Nat} {u : Unit} (hk0 : ixP xss.length i = some k) (hrow : xss[k]? = some row) (hx : roomR row = .ok u) (h : env[n]? = some (.own2N na (xss.map (oL r)))) (hi : EV K ti env (dI i)) (he : EV K te env d)
    (hn : Nx (env.set n (.own2N na ((xss.map (oL r)).set k (.own (row.map r ++ [d])))))) : SW K E (tDrop (tBM K "list" rAppend (tOp (rIxL K) (tVar n) ti) (tCons te tNil))) env Nx Rt Ex := fun σ F H A O m w Dn q1 q2 q4 => by
  have hk : (xss.map (oL r))[k]? = some (.own (row.map r)) := by rw [List.getElem?_map, hrow]; rfl
  obtain ⟨p, vs, q, us, C, D, g1, g2, g3, g4, g5, g6, g7⟩ := inner_at h hk m w
  rw [List.length_map] at g4
  have hl := roomR_some hx
  refine ⟨_, g1, hi σ F H A O m w _ fun y F2 H2 s2 w2 d2 => ?_⟩
  have hp2 := (w2.has (p, .lst vs) (List.mem_append_left _ g2)).2
  have hq2 := (w2.has (q, .lst us) (by rw [g5]; simp)).2
  refine ⟨p, vs, i, .ref q, rfl, d2.int, .of hp2, atI_ixP (by rw [g4]; exact hk0) g3, .inl ⟨rfl, us, .of hq2⟩, he σ F2 H2 A O (m.up s2) w2 _ fun v F3 H3 s3 w3 d3 => ?_⟩
  have hq3 := (w3.has (q, .lst us) (by rw [g5]; simp)).2
  refine ⟨q, us, v, rfl, rfl, hq3, ?_, ?_⟩
  · have := g6.length
    rw [List.length_map] at this
    rw [this, sizeLine_eq]; exact hl
  · have m2 := g7 F3 (us ++ [v]) (row.map r ++ [d]) (s2.trans s3) ((g6.up (s2.trans s3)).append (.cons d3 .nil))
    refine q1 _ σ F3 _ _ hn (s2.trans s3) m2 ?_
    subst g5
    rw [List.append_assoc] at w3 ⊢
    exact (w3.mid.put (o' := .lst (us ++ [v]))).unmid
theorem app2_some {α : Type} {xss yss : List (List α)} {i : Int} {x : α} (h : app2R xss i x = .ok yss) : ∃ k row, ixP xss.length i = some k ∧ xss[k]? = some row ∧ row.length < 16777216 ∧ yss = xss.set k (row ++ [x]) := by
  obtain ⟨row, h1, h2⟩ := R.bind_inv h
  obtain ⟨row', h3, h4⟩ := R.bind_inv h2
  obtain ⟨k, a1, a2⟩ := atR_some h1
  obtain ⟨b1, b2⟩ := appR_some h3
  obtain ⟨k', c1, c2⟩ := setR_some h4
  rw [a1] at c1
  cases c1
  exact ⟨k, row, a1, a2, b1, by rw [c2, b2]⟩
/-- xss[i].append(e), of the kind -/
theorem sw_app2T {α : Type} {r : α → D} {xss yss : List (List α)} {x : α} {n : Nat} (hx : app2R xss i x = .ok yss) (h : env[n]? = some (.own2N na (xss.map (oL r)))) (hi : EV K ti env (dI i)) (he : EV K te env (r x)) (hn : Nx (env.set n (.own2N na (yss.map (oL r))))) :
    SW K E (tDrop (tBM K "list" rAppend (tOp (rIxL K) (tVar n) ti) (tCons te tNil))) env Nx Rt Ex := by
  obtain ⟨k, row, a1, a2, a3, ey⟩ := app2_some hx
  subst ey
  refine sw_app2i (u := ()) a1 a2 (by unfold roomR; rw [if_pos a3]) h hi he ?_
  have e1 : (xss.map (oL r)).set k (.own (row.map r ++ [r x])) = (xss.set k (row ++ [x])).map (oL r) := by
    rw [List.map_set]; congr 1; show OD.own _ = OD.own ((row ++ [x]).map r); rw [List.map_append]; rfl
  rw [e1]; exact hn
theorem ods_del {F : Hp} {p : Addr} {o0 : HO} (e : F p = some o0) (ho : isTree o0 = true) {α : Type} {r : α → D} (hr : ∀ x, noL (r x) = true) : ∀ {vs : List V} {xs : List (List α)} {O1 : List (Addr × HO)}, ODs K F vs (xs.map (oL r)) O1 → ODs K (del F p) vs (xs.map (oL r)) O1
  | _, [], _, h => by cases h; exact .nil
  | _, x :: xs, _, h => by
    cases h with
    | own d m => exact .own (Dats.del e ho _ _ (noLs_map hr x) d) (ods_del e ho hr m)
theorem ods_delL {F : Hp} {α : Type} {r : α → D} (hr : ∀ x, noL (r x) = true) {vs : List V} {xs : List (List α)} {O1 : List (Addr × HO)} (h : ODs K F vs (xs.map (oL r)) O1) : ∀ {O0 : List (Addr × HO)}, (O0.map (·.1)).Nodup → AllL O0 → (∀ q ∈ O0, F q.1 = some q.2) → ODs K (delL F O0) vs (xs.map (oL r)) O1
  | [], _, _, _ => h
  | q :: qs, nd, al, hF => by
    rw [List.map_cons, List.nodup_cons] at nd
    refine ods_del (o0 := q.2) ?_ (al q List.mem_cons_self) hr (ods_delL hr h nd.2 (fun r hr => al r (List.mem_cons_of_mem _ hr)) fun r hr => hF r (List.mem_cons_of_mem _ hr))
    rw [delL_ne fun r hr z => nd.1 (List.mem_map.mpr ⟨r, hr, z⟩), hF q List.mem_cons_self]
theorem en2_lend2L {α β : Type} {r : α → D} {r2 : β → D} {xs : List (List α)} {ys : List (List β)} {n : Nat} (h : env[n]? = some (.own2N na (xs.map (oL r)))) (hr : ∀ x, noL (r2 x) = true) (x : EN2 K te (env.set n (.dat (dL (dL r) xs))) (ys.map (oL r2))) : EN2 K te env (ys.map (oL r2)) := fun σ F H A O m w Q q => by
  obtain ⟨O0, A', F1, s1, m1, w1, nd, al, hF, back⟩ := lend2 h m w
  rw [map_toD] at m1
  refine x σ F1 H A' O m1 w1 _ fun p us F' H' O1 s w' dd => ?_
  obtain ⟨b1, b2⟩ := back F' H' ((p, .lst us) :: O1) s w'
  exact q p us _ H' O1 b1 b2 (ods_delL hr dd nd al fun r hr => s _ _ (hF r hr))
/-- a slot let go -/
theorem sw_un {n : Nat} (hn : SW K E t (env.set n .un) Nx Rt Ex) : SW K E t env Nx Rt Ex := fun σ F H A O m w Dn q1 q2 q4 => by
  obtain ⟨A', s, m'⟩ := match_unset n m
  exact hn σ F H A' O m' (w.subA s) Dn q1 q2 q4
end
end Pg

set_option Elab.async false
set_option linter.all false
set_option maxRecDepth 100000
namespace Pg
open PySem PySem.Spec PyProof.Rows L2
/-! ### places in what is owned -/
inductive Stp where
  | ix (k : Nat)
  | fld (f : Str)
def setF {α : Type} (f : Str) (y : α) : List (Str × α) → List (Str × α)
  | [] => []
  | (g, z) :: r => if f == g then (g, y) :: r else (g, z) :: setF f y r
def T.get : T → List Stp → Option T
  | t, [] => some t
  | .lst _ ts, .ix k :: π => match ts[k]? with
    | some t => T.get t π
    | none => none
  | .ins _ _ fs, .fld f :: π => match fs.lookup f with
    | some t => T.get t π
    | none => none
  | _, _ :: _ => none
def T.put : T → List Stp → T → T
  | _, [], x => x
  | .lst a ts, .ix k :: π, x => match ts[k]? with
    | some t => .lst a (ts.set k (T.put t π x))
    | none => .lst a ts
  | .ins a C fs, .fld f :: π, x => match fs.lookup f with
    | some t => .ins a C (setF f (T.put t π x) fs)
    | none => .ins a C fs
  | t, _ :: _, _ => t
/-- the root told by its address -/
def T.nm (a : Option Addr) : T → T
  | .lst _ ts => .lst a ts
  | .ins _ C fs => .ins a C fs
  | .dK _ k => .dK a k
  | .dT _ k => .dT a k
  | t => t
def T.name : T → Option Addr
  | .lst a _ => a
  | .ins a _ _ => a
  | .dK a _ => a
  | .dT a _ => a
  | .adr q => some q
  | .dat _ => none
section
variable {K : PySem.W.Frag} {F F' H H' : Hp}
theorem TRs.at : ∀ {vs : List V} {ts : List T} {O : List (Addr × HO)} {k : Nat} {t : T}, TRs K F vs ts O → ts[k]? = some t →
    ∃ v A O1 B, O = A ++ (O1 ++ B) ∧ vs[k]? = some v ∧ TR K F v t O1 ∧ ∀ F' t' O1', Same F F' → TR K F' v t' O1' → TRs K F' vs (ts.set k t') (A ++ (O1' ++ B))
  | _, _, _, _, _, .nil, e => by simp at e
  | _, _, _, 0, _, .cons a b, e => by
    simp at e; subst e
    exact ⟨_, [], _, _, rfl, rfl, a, fun F' t' O1' s h => by have z := TRs.cons h (b.up s); exact z⟩
  | _, _, _, k + 1, t, .cons (O1 := P) a b, e => by
    obtain ⟨v, A, O1, B, h1, h2, h3, h4⟩ := TRs.at (k := k) (t := t) b (by simpa using e)
    refine ⟨v, P ++ A, O1, B, by rw [h1, List.append_assoc], by simpa using h2, h3, fun F' t' O1' s h => ?_⟩
    have z := TRs.cons (a.up s) (h4 F' t' O1' s h)
    rw [List.append_assoc]
    exact z
theorem TRf.at : ∀ {us : List (Str × V)} {fs : List (Str × T)} {O : List (Addr × HO)} {f : Str} {t : T}, TRf K F us fs O → fs.lookup f = some t →
    ∃ v A O1 B, O = A ++ (O1 ++ B) ∧ us.lookup f = some v ∧ TR K F v t O1 ∧ ∀ F' t' O1', Same F F' → TR K F' v t' O1' → TRf K F' us (setF f t' fs) (A ++ (O1' ++ B))
  | _, _, _, _, _, .nil, e => by simp at e
  | _, _, _, f, t, .cons (f := g) (O1 := P) a b, e => by
    rw [List.lookup_cons] at e
    by_cases hg : (f == g) = true
    · rw [hg] at e
      simp at e; subst e
      refine ⟨_, [], _, _, rfl, by rw [List.lookup_cons, hg], a, fun F' t' O1' s h => ?_⟩
      unfold setF
      rw [if_pos hg]
      have z := TRf.cons (f := g) h (b.up s); exact z
    · have hg' : (f == g) = false := by simpa using hg
      rw [hg'] at e
      obtain ⟨v, A, O1, B, h1, h2, h3, h4⟩ := TRf.at (f := f) (t := t) b e
      refine ⟨v, P ++ A, O1, B, by rw [h1, List.append_assoc], by rw [List.lookup_cons, hg']; exact h2, h3, fun F' t' O1' s h => ?_⟩
      unfold setF
      rw [if_neg hg, List.append_assoc]
      have z := TRf.cons (f := g) (a.up s) (h4 F' t' O1' s h)
      exact z
theorem TRf.none : ∀ {us : List (Str × V)} {fs : List (Str × T)} {O : List (Addr × HO)} {f : Str}, TRf K F us fs O → fs.lookup f = none → us.lookup f = none
  | _, _, _, _, .nil, _ => by simp
  | _, _, _, f, .cons (f := g) a b, e => by
    rw [List.lookup_cons] at e ⊢
    by_cases h : (f == g) = true
    · rw [h] at e; simp at e
    · have h : (f == g) = false := by simpa using h
      rw [h] at e ⊢
      exact TRf.none b e
theorem TRs.length : ∀ {vs : List V} {ts : List T} {O : List (Addr × HO)}, TRs K F vs ts O → vs.length = ts.length
  | _, _, _, .nil => rfl
  | _, _, _, .cons _ b => by rw [List.length_cons, List.length_cons, b.length]
theorem TRf.length : ∀ {vs : List (Str × V)} {ts : List (Str × T)} {O : List (Addr × HO)}, TRf K F vs ts O → vs.length = ts.length
  | _, _, _, .nil => rfl
  | _, _, _, .cons _ b => by rw [List.length_cons, List.length_cons, b.length]
theorem TRs.append : ∀ {vs ws : List V} {ts us : List T} {O O' : List (Addr × HO)}, TRs K F vs ts O → TRs K F ws us O' → TRs K F (vs ++ ws) (ts ++ us) (O ++ O')
  | _, _, _, _, _, _, .nil, h => h
  | _, _, _, _, _, _, .cons a b, h => by
    have z := TRs.cons a (TRs.append b h)
    rw [List.append_assoc]
    exact z
theorem T.get_ix {a : Option Addr} {ts : List T} {k : Nat} {z : T} (e : ts[k]? = some z) (π : List Stp) : T.get (.lst a ts) (.ix k :: π) = z.get π := by
  show (match ts[k]? with | some t => T.get t π | none => none) = _
  rw [e]
theorem T.get_fld {a : Option Addr} {C : Addr} {fs : List (Str × T)} {f : Str} {z : T} (e : fs.lookup f = some z) (π : List Stp) : T.get (.ins a C fs) (.fld f :: π) = z.get π := by
  show (match fs.lookup f with | some t => T.get t π | none => none) = _
  rw [e]
theorem T.put_ix {a : Option Addr} {ts : List T} {k : Nat} {z : T} (e : ts[k]? = some z) (π : List Stp) (x : T) : T.put (.lst a ts) (.ix k :: π) x = .lst a (ts.set k (z.put π x)) := by
  show (match ts[k]? with | some t => T.lst a (ts.set k (T.put t π x)) | none => .lst a ts) = _
  rw [e]
theorem T.put_fld {a : Option Addr} {C : Addr} {fs : List (Str × T)} {f : Str} {z : T} (e : fs.lookup f = some z) (π : List Stp) (x : T) : T.put (.ins a C fs) (.fld f :: π) x = .ins a C (setF f (z.put π x) fs) := by
  show (match fs.lookup f with | some t => T.ins a C (setF f (T.put t π x) fs) | none => .ins a C fs) = _
  rw [e]
/-- what stands at a place, and what may come there -/
theorem TR.focus : ∀ (π : List Stp) {v : V} {t : T} {O : List (Addr × HO)} {t' : T}, TR K F v t O → t.get π = some t' →
    ∃ v' A O1 B, O = A ++ (O1 ++ B) ∧ TR K F v' t' O1 ∧ ∀ F' t'' O1', Same F F' → TR K F' v' t'' O1' → TR K F' v (t.put π t'') (A ++ (O1' ++ B))
  | [], v, t, O, t', h, e => by
    have e : some t = some t' := by cases t <;> exact e
    cases e
    exact ⟨v, [], O, [], by simp, h, fun F' t'' O1' s h' => by
      have : T.put t [] t'' = t'' := by cases t <;> rfl
      rw [this]; simpa using h'⟩
  | .ix k :: π, v, .lst a ts, O, t', h, e => by
    unfold T.get at e
    cases e1 : ts[k]? with
    | none => rw [e1] at e; cases e
    | some y =>
      rw [e1] at e
      cases h with
      | @lst _ p us _ _ n h =>
        obtain ⟨v1, A1, P1, B1, p1, p2, p3, p4⟩ := h.at e1
        obtain ⟨v2, A2, P2, B2, r1, r2, r3⟩ := TR.focus π p3 e
        subst p1 r1
        refine ⟨v2, (p, .lst us) :: (A1 ++ A2), P2, B2 ++ B1, by simp, r2, fun F' t'' O1' s h' => ?_⟩
        have z := TR.lst n (p4 F' _ _ s (r3 F' t'' O1' s h'))
        rw [T.put_ix e1]
        simpa using z
  | .fld f :: π, v, .ins a C fs, O, t', h, e => by
    unfold T.get at e
    cases e1 : fs.lookup f with
    | none => rw [e1] at e; cases e
    | some y =>
      rw [e1] at e
      cases h with
      | @ins _ p _ dx us _ _ n h =>
        obtain ⟨v1, A1, P1, B1, p1, p2, p3, p4⟩ := h.at e1
        obtain ⟨v2, A2, P2, B2, r1, r2, r3⟩ := TR.focus π p3 e
        subst p1 r1
        refine ⟨v2, (p, .ins C dx us) :: (dx, .own p) :: (A1 ++ A2), P2, B2 ++ B1, by simp, r2, fun F' t'' O1' s h' => ?_⟩
        have z := TR.ins (C := C) (dx := dx) n (p4 F' _ _ s (r3 F' t'' O1' s h'))
        rw [T.put_fld e1]
        simpa using z
  | .ix k :: π, v, .dat _, O, t', h, e => by cases e
  | .ix k :: π, v, .ins _ _ _, O, t', h, e => by cases e
  | .ix k :: π, v, .dK _ _, O, t', h, e => by cases e
  | .ix k :: π, v, .dT _ _, O, t', h, e => by cases e
  | .ix k :: π, v, .adr _, O, t', h, e => by cases e
  | .fld k :: π, v, .dat _, O, t', h, e => by cases e
  | .fld k :: π, v, .lst _ _, O, t', h, e => by cases e
  | .fld k :: π, v, .dK _ _, O, t', h, e => by cases e
  | .fld k :: π, v, .dT _ _, O, t', h, e => by cases e
  | .fld k :: π, v, .adr _, O, t', h, e => by cases e
theorem T.get_nil (t : T) : t.get [] = some t := by cases t <;> rfl
theorem T.put_nil (t x : T) : t.put [] x = x := by cases t <;> rfl
theorem T.get_snoc : ∀ (π : List Stp) (s : Stp) (t y : T), t.get π = some y → t.get (π ++ [s]) = y.get [s]
  | [], s, t, y, e => by rw [T.get_nil] at e; cases e; rfl
  | .ix k :: π, s, .lst a ts, y, e => by
    unfold T.get at e
    show T.get (.lst a ts) (.ix k :: (π ++ [s])) = _
    cases e1 : ts[k]? with
    | none => rw [e1] at e; cases e
    | some z => rw [e1] at e; rw [T.get_ix e1]; exact T.get_snoc π s z y e
  | .fld f :: π, s, .ins a C fs, y, e => by
    unfold T.get at e
    show T.get (.ins a C fs) (.fld f :: (π ++ [s])) = _
    cases e1 : fs.lookup f with
    | none => rw [e1] at e; cases e
    | some z => rw [e1] at e; rw [T.get_fld e1]; exact T.get_snoc π s z y e
  | .ix k :: π, s, .dat _, y, e => by cases e
  | .ix k :: π, s, .ins _ _ _, y, e => by cases e
  | .ix k :: π, s, .dK _ _, y, e => by cases e
  | .ix k :: π, s, .dT _ _, y, e => by cases e
  | .ix k :: π, s, .adr _, y, e => by cases e
  | .fld k :: π, s, .dat _, y, e => by cases e
  | .fld k :: π, s, .lst _ _, y, e => by cases e
  | .fld k :: π, s, .dK _ _, y, e => by cases e
  | .fld k :: π, s, .dT _ _, y, e => by cases e
  | .fld k :: π, s, .adr _, y, e => by cases e
theorem T.put_snoc : ∀ (π : List Stp) (s : Stp) (t y x : T), t.get π = some y → t.put (π ++ [s]) x = t.put π (y.put [s] x)
  | [], s, t, y, x, e => by rw [T.get_nil] at e; cases e; rw [T.put_nil]; rfl
  | .ix k :: π, s, .lst a ts, y, x, e => by
    unfold T.get at e
    show T.put (.lst a ts) (.ix k :: (π ++ [s])) x = _
    cases e1 : ts[k]? with
    | none => rw [e1] at e; cases e
    | some z => rw [e1] at e; rw [T.put_ix e1, T.put_ix e1, T.put_snoc π s z y x e]
  | .fld f :: π, s, .ins a C fs, y, x, e => by
    unfold T.get at e
    show T.put (.ins a C fs) (.fld f :: (π ++ [s])) x = _
    cases e1 : fs.lookup f with
    | none => rw [e1] at e; cases e
    | some z => rw [e1] at e; rw [T.put_fld e1, T.put_fld e1, T.put_snoc π s z y x e]
  | .ix k :: π, s, .dat _, y, x, e => by cases e
  | .ix k :: π, s, .ins _ _ _, y, x, e => by cases e
  | .ix k :: π, s, .dK _ _, y, x, e => by cases e
  | .ix k :: π, s, .dT _ _, y, x, e => by cases e
  | .ix k :: π, s, .adr _, y, x, e => by cases e
  | .fld k :: π, s, .dat _, y, x, e => by cases e
  | .fld k :: π, s, .lst _ _, y, x, e => by cases e
  | .fld k :: π, s, .dK _ _, y, x, e => by cases e
  | .fld k :: π, s, .dT _ _, y, x, e => by cases e
  | .fld k :: π, s, .adr _, y, x, e => by cases e
/-! ### .. of a frame -/
def getAt (env : List Slot) (n : Nat) (π : List Stp) : Option T := match env[n]? with
  | some (.tr t) => t.get π
  | _ => none
def putAt (env : List Slot) (n : Nat) (π : List Stp) (x : T) : List Slot := match env[n]? with
  | some (.tr t) => env.set n (.tr (t.put π x))
  | _ => env
theorem getAt_some {env : List Slot} {n : Nat} {π : List Stp} {t : T} (h : getAt env n π = some t) : ∃ r, env[n]? = some (.tr r) ∧ r.get π = some t ∧ ∀ x, putAt env n π x = env.set n (.tr (r.put π x)) := by
  unfold getAt at h
  split at h
  · rename_i r e
    exact ⟨r, e, h, fun x => by unfold putAt; rw [e]⟩
  · cases h
theorem getAt_root {env : List Slot} {n : Nat} {t : T} (h : env[n]? = some (.tr t)) : getAt env n [] = some t := by unfold getAt; rw [h]; exact T.get_nil t
theorem putAt_root {env : List Slot} {n : Nat} {t x : T} (h : env[n]? = some (.tr t)) : putAt env n [] x = env.set n (.tr x) := by unfold putAt; rw [h]; simp only; rw [T.put_nil]
theorem getAt_snoc {env : List Slot} {n : Nat} {π : List Stp} {s : Stp} {t : T} (h : getAt env n π = some t) : getAt env n (π ++ [s]) = t.get [s] := by
  obtain ⟨r, h1, h2, _⟩ := getAt_some h
  unfold getAt
  rw [h1]
  exact T.get_snoc π s r t h2
theorem putAt_snoc {env : List Slot} {n : Nat} {π : List Stp} {s : Stp} {t x : T} (h : getAt env n π = some t) : putAt env n (π ++ [s]) x = putAt env n π (t.put [s] x) := by
  obtain ⟨r, h1, h2, h3⟩ := getAt_some h
  rw [h3]
  unfold putAt
  rw [h1]
  simp only
  rw [T.put_snoc π s r t x h2]
theorem Match.focus {σ : L2.St} {env : List Slot} {A : List (Addr × HO)} {n : Nat} {π : List Stp} {t : T} (m : Match K F σ env A) (h : getAt env n π = some t) :
    ∃ v A1 O1 A2, A = A1 ++ (O1 ++ A2) ∧ TR K F v t O1 ∧ ∀ F' t' O1', Same F F' → TR K F' v t' O1' → Match K F' σ (putAt env n π t') (A1 ++ (O1' ++ A2)) := by
  obtain ⟨r, h1, h2, h3⟩ := getAt_some h
  obtain ⟨v, P, A1, A2, e, g1, g2, g3, _, _⟩ := m.getT h1
  obtain ⟨v', B1, O1, B2, e2, g4, g5⟩ := g2.focus π h2
  subst e e2
  refine ⟨v', A1 ++ B1, O1, B2 ++ A2, by simp, g4, fun F' t' O1' s h' => ?_⟩
  rw [h3]
  have z := g3 F' _ _ s (g5 F' t' O1' s h')
  simpa using z
/-- v is what stands at the place -/
def Pl (K : PySem.W.Frag) (F : Hp) (σ : L2.St) (env : List Slot) (A : List (Addr × HO)) (n : Nat) (π : List Stp) (v : V) : Prop :=
  ∃ t A1 O1 A2, getAt env n π = some t ∧ A = A1 ++ (O1 ++ A2) ∧ TR K F v t O1 ∧ ∀ F' t' O1', Same F F' → TR K F' v t' O1' → Match K F' σ (putAt env n π t') (A1 ++ (O1' ++ A2))
theorem Pl.up {σ : L2.St} {env : List Slot} {A : List (Addr × HO)} {n : Nat} {π : List Stp} {v : V} (h : Pl K F σ env A n π v) (s : Same F F') : Pl K F' σ env A n π v := by
  obtain ⟨t, A1, O1, A2, h1, h2, h3, h4⟩ := h
  exact ⟨t, A1, O1, A2, h1, h2, h3.up s, fun F2 t' O1' s2 h' => h4 F2 t' O1' (s.trans s2) h'⟩
/-- a node told by its address -/
theorem TR.named {q : Addr} {t : T} {O : List (Addr × HO)} (h : TR K F (.ref q) t O) : TR K F (.ref q) (t.nm (some q)) O := by
  cases h with
  | dat d => exact .dat d
  | lst n h => exact .lst (fun _ z => Option.some.inj z) h
  | ins n h => exact .ins (fun _ z => Option.some.inj z) h
  | dK n h => exact .dK (fun _ z => Option.some.inj z) h
  | dT n h => exact .dT (fun _ z => Option.some.inj z) h
  | adr => exact .adr
theorem TR.unnamed {v : V} {t : T} {O : List (Addr × HO)} (h : TR K F v t O) : TR K F v (t.nm none) O := by
  cases h with
  | dat d => exact .dat d
  | lst n h => exact .lst (fun _ z => nomatch z) h
  | ins n h => exact .ins (fun _ z => nomatch z) h
  | dK n h => exact .dK (fun _ z => nomatch z) h
  | dT n h => exact .dT (fun _ z => nomatch z) h
  | adr => exact .adr
theorem TR.at_name {v : V} {t : T} {O : List (Addr × HO)} {q : Addr} (h : TR K F v t O) (e : t.name = some q) : v = .ref q := by
  cases h with
  | dat d => cases e
  | lst n h => rw [n q e]
  | ins n h => rw [n q e]
  | dK n h => rw [n q e]
  | dT n h => rw [n q e]
  | adr => cases e; rfl
/-- is an object (not a datum) -/
def T.isObj : T → Bool
  | .dat _ => false
  | _ => true
theorem TR.ref {v : V} {t : T} {O : List (Addr × HO)} (h : TR K F v t O) (e : t.isObj = true) : ∃ q, v = .ref q := by
  cases h with
  | dat d => cases e
  | lst n h => exact ⟨_, rfl⟩
  | ins n h => exact ⟨_, rfl⟩
  | dK n h => exact ⟨_, rfl⟩
  | dT n h => exact ⟨_, rfl⟩
  | adr => exact ⟨_, rfl⟩
end
end Pg

set_option Elab.async false
set_option linter.all false
set_option maxRecDepth 100000
namespace Pg
open PySem PySem.Spec PyProof.Rows L2
/-! ### readings that change what is owned -/
section
variable (K : PySem.W.Frag)
def EM (te : TE) (env : List Slot) (x : T) (env' : List Slot) : Prop := ∀ (σ : L2.St) (F H : Hp) (A O : List (Addr × HO)), Match K F σ env A → Own F H (A ++ O) → ∀ Q : VK,
  (∀ v O1 F' H' A', Same F F' → Match K F' σ env' A' → Own F' H' (O1 ++ (A' ++ O)) → TR K F' v x O1 → Q v H') → te σ H Q
def EAM (ta : TA) (env : List Slot) (xs : List T) (env' : List Slot) : Prop := ∀ (σ : L2.St) (F H : Hp) (A O : List (Addr × HO)), Match K F σ env A → Own F H (A ++ O) → ∀ Q : List V → Hp → Prop,
  (∀ vs O1 F' H' A', Same F F' → Match K F' σ env' A' → Own F' H' (O1 ++ (A' ++ O)) → TRs K F' vs xs O1 → Q vs H') → ta σ H Q
def ETM (tt : TT) (env : List Slot) (b : Bool) (env' : List Slot) : Prop := ∀ (σ : L2.St) (F H : Hp) (A O : List (Addr × HO)), Match K F σ env A → Own F H (A ++ O) → ∀ Q : Bool → Hp → Prop,
  (∀ F' H' A', Same F F' → Match K F' σ env' A' → Own F' H' (A' ++ O) → Q b H') → tt σ H Q
/-- the value is what stands at a place -/
def EP (te : TE) (env : List Slot) (n : Nat) (π : List Stp) : Prop := ∀ (σ : L2.St) (F H : Hp) (A O : List (Addr × HO)), Match K F σ env A → Own F H (A ++ O) → ∀ Q : VK,
  (∀ v F' H', Same F F' → Own F' H' (A ++ O) → Pl K F' σ env A n π v → Q v H') → te σ H Q
end
/-- an expression's outcome as a slot -/
def T.slot : T → Slot
  | .dat d => .dat d
  | t => .tr t
mutual
/-- frozen -/
def T.fz : T → D
  | .dat d => d
  | .lst _ ts => .lst (T.fzs ts)
  | .ins _ C fs => .ins C (T.fzf fs)
  | _ => .v .non
def T.fzs : List T → List D
  | [] => []
  | t :: ts => t.fz :: T.fzs ts
def T.fzf : List (Str × T) → List (Str × D)
  | [] => []
  | (f, t) :: ts => (f, t.fz) :: T.fzf ts
end
mutual
def T.fzOk : T → Bool
  | .dat _ => true
  | .lst _ ts => T.fzsOk ts
  | .ins _ _ fs => T.fzfOk fs
  | _ => false
def T.fzsOk : List T → Bool
  | [] => true
  | t :: ts => t.fzOk && T.fzsOk ts
def T.fzfOk : List (Str × T) → Bool
  | [] => true
  | (_, t) :: ts => t.fzOk && T.fzfOk ts
end
section
variable {K : PySem.W.Frag} {F F' H H' : Hp}
mutual
theorem TR.frz : ∀ (t : T) {v : V} {O1 R : List (Addr × HO)} {F H : Hp}, t.fzOk = true → TR K F v t O1 → Own F H (O1 ++ R) → ∃ F', Same F F' ∧ Own F' H R ∧ Dat K F' v t.fz
  | .dat d, v, _, R, F, H, _, h, w => by
    cases h with
    | dat h => exact ⟨F, Same.refl F, w, by unfold T.fz; exact h⟩
  | .lst a ts, v, _, R, F, H, e, h, w => by
    cases h with
    | @lst _ p vs _ O n h =>
      have w2 : Own F H (O ++ ((p, .lst vs) :: R)) := w.perm List.perm_middle.symm
      obtain ⟨F1, s1, w1, d1⟩ := TRs.frz ts (by unfold T.fzOk at e; exact e) h w2
      obtain ⟨w3, s3⟩ := w1.frz
      exact ⟨_, s1.trans s3, w3, by unfold T.fz; exact .lst (.of upd_same) (d1.up s3)⟩
  | .ins a C fs, v, _, R, F, H, e, h, w => by
    cases h with
    | @ins _ p _ dx us _ O n h =>
      have w2 : Own F H (O ++ ((p, .ins C dx us) :: (dx, .own p) :: R)) := w.perm (by
        have z : ((p, HO.ins C dx us) :: (dx, HO.own p) :: O ++ R).Perm (O ++ ((p, HO.ins C dx us) :: (dx, HO.own p) :: R)) := by
          have e1 : (p, HO.ins C dx us) :: (dx, HO.own p) :: O ++ R = [(p, HO.ins C dx us), (dx, HO.own p)] ++ (O ++ R) := by simp
          have e2 : O ++ ((p, HO.ins C dx us) :: (dx, HO.own p) :: R) = O ++ ([(p, HO.ins C dx us), (dx, HO.own p)] ++ R) := by simp
          rw [e1, e2, ← List.append_assoc, ← List.append_assoc]
          exact List.Perm.append_right _ List.perm_append_comm
        exact z)
      obtain ⟨F1, s1, w1, d1⟩ := TRf.frz fs (by unfold T.fzOk at e; exact e) h w2
      obtain ⟨w3, s3⟩ := w1.frz
      obtain ⟨w4, s4⟩ := w3.frz
      exact ⟨_, s1.trans (s3.trans s4), w4, by unfold T.fz; exact .ins (s4 _ _ upd_same) (d1.up (s3.trans s4))⟩
  | .dK _ _, v, _, R, F, H, e, h, w => by unfold T.fzOk at e; cases e
  | .dT _ _, v, _, R, F, H, e, h, w => by unfold T.fzOk at e; cases e
  | .adr _, v, _, R, F, H, e, h, w => by unfold T.fzOk at e; cases e
theorem TRs.frz : ∀ (ts : List T) {vs : List V} {O1 R : List (Addr × HO)} {F H : Hp}, T.fzsOk ts = true → TRs K F vs ts O1 → Own F H (O1 ++ R) → ∃ F', Same F F' ∧ Own F' H R ∧ Dats K F' vs (T.fzs ts)
  | [], vs, _, R, F, H, _, h, w => by
    cases h
    exact ⟨F, Same.refl F, w, by unfold T.fzs; exact .nil⟩
  | t :: ts, vs, _, R, F, H, e, h, w => by
    cases h with
    | cons a b =>
      unfold T.fzsOk at e
      have e := Bool.and_eq_true_iff.mp e
      rw [List.append_assoc] at w
      obtain ⟨F1, s1, w1, d1⟩ := TR.frz t e.1 a w
      obtain ⟨F2, s2, w2, d2⟩ := TRs.frz ts e.2 (b.up s1) w1
      exact ⟨F2, s1.trans s2, w2, by unfold T.fzs; exact .cons (d1.up s2) d2⟩
theorem TRf.frz : ∀ (fs : List (Str × T)) {us : List (Str × V)} {O1 R : List (Addr × HO)} {F H : Hp}, T.fzfOk fs = true → TRf K F us fs O1 → Own F H (O1 ++ R) → ∃ F', Same F F' ∧ Own F' H R ∧ Datf K F' us (T.fzf fs)
  | [], us, _, R, F, H, _, h, w => by
    cases h
    exact ⟨F, Same.refl F, w, by unfold T.fzf; exact .nil⟩
  | (f, t) :: fs, us, _, R, F, H, e, h, w => by
    cases h with
    | cons a b =>
      unfold T.fzfOk at e
      have e := Bool.and_eq_true_iff.mp e
      rw [List.append_assoc] at w
      obtain ⟨F1, s1, w1, d1⟩ := TR.frz t e.1 a w
      obtain ⟨F2, s2, w2, d2⟩ := TRf.frz fs e.2 (b.up s1) w1
      exact ⟨F2, s1.trans s2, w2, by unfold T.fzf; exact .cons (d1.up s2) d2⟩
end
theorem perm_front {α : Type} (a b c : List α) : (a ++ (b ++ c)).Perm (b ++ (a ++ c)) := by
  rw [← List.append_assoc, ← List.append_assoc]
  exact List.Perm.append_right _ List.perm_append_comm
theorem Own.front {A B C : List (Addr × HO)} (h : Own F H (A ++ (B ++ C))) : Own F H (B ++ (A ++ C)) := h.perm (perm_front A B C)
variable {env env1 env2 env3 env' : List Slot} {te ta tb : TE} {tt tu : TT} {x y : T} {d e : D} {ds es : List D} {i j : Int} {n : Nat} {π : List Stp}
/-! ### readings that change nothing -/
theorem em_ev (h : EV K te env d) : EM K te env (.dat d) env := fun σ F H A O m w Q q => h σ F H A O m w Q fun v F' H' s w' dd => q v [] F' H' A s (m.up s) w' (.dat dd)
theorem em_en (h : EN K te env ds) : EM K te env (.lst none (ds.map T.dat)) env := fun σ F H A O m w Q q => h σ F H A O m w Q fun p vs F' H' s w' dd => q _ [(p, .lst vs)] F' H' A s (m.up s) w' (.lst (fun _ z => nomatch z) dd.tree)
theorem em_en2 {os : List OD} (h : EN2 K te env os) : EM K te env (.lst none (os.map OD.toT)) env := fun σ F H A O m w Q q => h σ F H A O m w Q fun p vs F' H' O1 s w' dd => q _ ((p, .lst vs) :: O1) F' H' A s (m.up s) w' (.lst (fun _ z => nomatch z) dd.tree)
theorem etm_et {b : Bool} (h : ET K tt env b) : ETM K tt env b env := fun σ F H A O m w Q q => h σ F H A O m w Q fun F' H' s w' => q F' H' A s (m.up s) w'
/-- frozen at once -/
theorem em_frz (h : EM K te env x env') (e : x.fzOk = true) : EM K te env (.dat x.fz) env' := fun σ F H A O m w Q q => h σ F H A O m w Q fun v O1 F' H' A' s m' w' dd => by
  obtain ⟨F2, s2, w2, d2⟩ := dd.frz x e w'
  exact q v [] F2 H' A' (s.trans s2) (m'.up s2) w2 (.dat d2)
theorem em_cast {α : Type} {r : α → T} {a b : α} (h : R.ok a = R.ok b) (z : EM K te env (r a) env') : EM K te env (r b) env' := by rw [← R.ok_inj h]; exact z
theorem em_eq (h : x = y) (z : EM K te env x env') : EM K te env y env' := h ▸ z
/-- .. in a frame that is told otherwise -/
theorem em_to (h : env1 = env2) (z : EM K te env x env1) : EM K te env x env2 := h ▸ z
/-! ### arguments, displays, operators -/
theorem eam_nil : EAM K tNil env [] env := fun σ F H A O m w Q q => q [] [] F H A (Same.refl F) m w .nil
theorem eam_cons {tr : TA} {xs : List T} (h : EM K te env x env1) (hr : EAM K tr env1 xs env') : EAM K (tCons te tr) env (x :: xs) env' := fun σ F H A O m w Q q =>
  h σ F H A O m w _ fun v O1 F1 H1 A1 s1 m1 w1 d1 => hr σ F1 H1 A1 (O1 ++ O) m1 w1.front _ fun vs O2 F2 H2 A2 s2 m2 w2 d2 => by
    refine q _ (O1 ++ O2) F2 H2 A2 (s1.trans s2) m2 (w2.perm ?_) (.cons (d1.up s2) d2)
    have e1 : O2 ++ (A2 ++ (O1 ++ O)) = (O2 ++ A2) ++ (O1 ++ O) := by simp
    rw [e1]
    refine (perm_front (O2 ++ A2) O1 O).trans ?_
    rw [List.append_assoc O1, List.append_assoc O2]
theorem em_tup {ta : TA} (h : EAM K ta env (ds.map T.dat) env') (hl : ds.length ≤ sizeLine := by first | exact Nat.le_of_ble_eq_true rfl | decide) : EM K (tTup ta) env (.dat (.tup ds)) env' := fun σ F H A O m w Q q =>
  h σ F H A O m w _ fun vs O1 F1 H1 A1 s1 m1 w1 d1 => by
    obtain ⟨e1, d3⟩ := d1.flat
    subst e1
    refine ⟨by rw [d3.length]; exact hl, fun p np => ?_⟩
    have w1 : Own F1 H1 (A1 ++ O) := w1
    obtain ⟨w2, s2⟩ := w1.newF (o := .tup vs) np
    exact q _ [] _ _ A1 (s1.trans s2) (m1.up s2) w2 (.dat (.tup (.of upd_same) (d3.up s2)))
theorem em_lst {ta : TA} {xs : List T} (h : EAM K ta env xs env') (hl : xs.length ≤ sizeLine := by first | exact Nat.le_of_ble_eq_true rfl | decide) : EM K (tLst ta) env (.lst none xs) env' := fun σ F H A O m w Q q =>
  h σ F H A O m w _ fun vs O1 F1 H1 A1 s1 m1 w1 d1 => ⟨by rw [d1.length]; exact hl, fun p np => q _ ((p, .lst vs) :: O1) F1 _ A1 s1 m1 (w1.new np) (.lst (fun _ z => nomatch z) d1)⟩
/-- an operator of two values that are no objects -/
theorem em_op {r : V → V → Hp → VK → Prop} {a b : V} (ha : EM K ta env (.dat (.v a)) env1) (hb : EM K tb env1 (.dat (.v b)) env2) (h : EV K (tOp r (tC a) (tC b)) env2 d) : EM K (tOp r ta tb) env (.dat d) env2 := fun σ F H A O m w Q q =>
  ha σ F H A O m w _ fun v O1 F1 H1 A1 s1 m1 w1 d1 => by
    cases d1 with
    | dat d1 =>
      refine hb σ F1 H1 A1 O m1 w1 _ fun v2 O2 F2 H2 A2 s2 m2 w2 d2 => ?_
      cases d2 with
      | dat d2 =>
        rw [d1.scl, d2.scl]
        refine h σ F2 H2 A2 O m2 w2 _ fun v3 F3 H3 s3 w3 d3 => ?_
        exact q v3 [] F3 H3 A2 (s1.trans (s2.trans s3)) (m2.up s3) w3 (.dat d3)
theorem em_un {r : V → Hp → VK → Prop} {a : V} (ha : EM K ta env (.dat (.v a)) env1) (h : EV K (tUn r (tC a)) env1 d) : EM K (tUn r ta) env (.dat d) env1 := fun σ F H A O m w Q q =>
  ha σ F H A O m w _ fun v O1 F1 H1 A1 s1 m1 w1 d1 => by
    cases d1 with
    | dat d1 =>
      rw [d1.scl]
      refine h σ F1 H1 A1 O m1 w1 _ fun v3 F3 H3 s3 w3 d3 => ?_
      exact q v3 [] F3 H3 A1 (s1.trans s3) (m1.up s3) w3 (.dat d3)
theorem em_ixL {i : Int} {k : Nat} (ha : EV K ta env (.lst ds)) (hb : EM K tb env (.dat (dI i)) env1) (h1 : ixP ds.length i = some k) (h2 : ds[k]? = some d) : EM K (tOp (rIxL K) ta tb) env (.dat d) env1 := fun σ F H A O m w Q q =>
  ha σ F H A O m w _ fun v F1 H1 s1 w1 d1 => hb σ F1 H1 A O (m.up s1) w1 _ fun v2 O2 F2 H2 A2 s2 m2 w2 d2 => by
    cases d2 with
    | dat d2 =>
      cases d1 with
      | lst a b =>
        obtain ⟨x, e, dv⟩ := b.atI h1 h2
        exact ⟨_, _, i, x, rfl, d2.int, w2.same.seq (s2.seq a), e, q _ [] F2 H2 A2 (s1.trans s2) m2 w2 (.dat (dv.up s2))⟩
theorem em_atL {α : Type} {r : α → D} {xs : List α} {i : Int} {x : α} (h : atR xs i = .ok x) (ha : EV K ta env (.lst (xs.map r))) (hb : EM K tb env (.dat (dI i)) env1) : EM K (tOp (rIxL K) ta tb) env (.dat (r x)) env1 := by
  obtain ⟨k, g1, g2⟩ := map_at (r := r) h
  exact em_ixL ha hb g1 g2
/-! ### tests -/
theorem etm_test {b : Bool} (h : EM K te env (.dat (dB b)) env') : ETM K (tTest te) env b env' := fun σ F H A O m w Q q => h σ F H A O m w _ fun v O1 F' H' A' s m' w' dd => by
  cases dd with
  | dat dd => exact ⟨b, dd.bl, q F' H' A' s m' w'⟩
theorem etm_b {b : Bool} (h : EM K te env (.dat (dB b)) env') : ETM K (tB te) env b env' := fun σ F H A O m w Q q => h σ F H A O m w _ fun v O1 F' H' A' s m' w' dd => by
  cases dd with
  | dat dd => exact ⟨b, dd.bl, q F' H' A' s m' w'⟩
theorem etm_not {b : Bool} (h : ETM K tt env b env') : ETM K (tNot tt) env (!b) env' := fun σ F H A O m w Q q => h σ F H A O m w _ fun F' H' A' s m' w' => q F' H' A' s m' w'
theorem etm_and {S : Type} {b : Bool} (ε : S → List Slot) {s0 : S} {f : R (Bool × S)} {st : Bool × S} (e : (if b = true then f else .ok (false, s0)) = .ok st) (h : ETM K tt env b (ε s0)) (h2 : b = true → f = .ok st → ETM K tu (ε s0) st.1 (ε st.2)) : ETM K (tAnd tt tu) env st.1 (ε st.2) := fun σ F H A O m w Q q => h σ F H A O m w _ fun F' H' A' s m' w' => by
  cases b with
  | false =>
    rw [if_neg (by decide)] at e
    have e := R.ok_inj e
    cases e
    exact iteF (q F' H' A' s m' w')
  | true =>
    rw [if_pos rfl] at e
    exact iteT (h2 rfl e σ F' H' A' O m' w' _ fun F2 H2 A2 s2 m2 w2 => q F2 H2 A2 (s.trans s2) m2 w2)
theorem etm_or {S : Type} {b : Bool} (ε : S → List Slot) {s0 : S} {f : R (Bool × S)} {st : Bool × S} (e : (if b = true then .ok (true, s0) else f) = .ok st) (h : ETM K tt env b (ε s0)) (h2 : b = false → f = .ok st → ETM K tu (ε s0) st.1 (ε st.2)) : ETM K (tOr tt tu) env st.1 (ε st.2) := fun σ F H A O m w Q q => h σ F H A O m w _ fun F' H' A' s m' w' => by
  cases b with
  | true =>
    rw [if_pos rfl] at e
    have e := R.ok_inj e
    cases e
    exact iteT (q F' H' A' s m' w')
  | false =>
    rw [if_neg (by decide)] at e
    exact iteF (h2 rfl e σ F' H' A' O m' w' _ fun F2 H2 A2 s2 m2 w2 => q F2 H2 A2 (s.trans s2) m2 w2)
/-- .. where only the first test changes -/
theorem etm_andP {b c : Bool} (h : ETM K tt env b env') (h2 : b = true → ET K tu env' c) : ETM K (tAnd tt tu) env (b && c) env' := fun σ F H A O m w Q q => h σ F H A O m w _ fun F' H' A' s m' w' => by
  cases b with
  | false => exact iteF (q F' H' A' s m' w')
  | true => exact iteT (h2 rfl σ F' H' A' O m' w' _ fun F2 H2 s2 w2 => q F2 H2 A' (s.trans s2) (m'.up s2) w2)
theorem etm_orP {b c : Bool} (h : ETM K tt env b env') (h2 : b = false → ET K tu env' c) : ETM K (tOr tt tu) env (b || c) env' := fun σ F H A O m w Q q => h σ F H A O m w _ fun F' H' A' s m' w' => by
  cases b with
  | true => exact iteT (q F' H' A' s m' w')
  | false => exact iteF (h2 rfl σ F' H' A' O m' w' _ fun F2 H2 s2 w2 => q F2 H2 A' (s.trans s2) (m'.up s2) w2)
/-! ### what is walked -/
theorem ivm_rng1 {j : Int} {xs : List Int} (hx : rngR 0 j = .ok xs) (h : EM K te env (.dat (dI j)) env') : IVM K (iRng1 (tCons te tNil)) env env' (xs.map dI) := fun σ F H A O m w Q q => h σ F H A O m w _ fun v O1 F1 H1 A1 s1 m1 w1 d1 => by
  cases d1 with
  | dat d1 =>
    obtain ⟨⟨_, _, h1, h2⟩, e⟩ := rngR_some hx
    rw [d1.int]
    refine ⟨j, rfl, h1, h2, q _ F1 H1 A1 s1 m1 w1 ?_⟩
    rw [e]
    have := walks_rng (K := K) 0 (j - 0).toNat F1
    rw [show j - 0 = j by omega] at this ⊢
    exact this
theorem ivm_list {ds : List D} (h : EM K te env (.dat (.lst ds)) env') : IVM K (iList K te) env env' ds := fun σ F H A O m w Q q => h σ F H A O m w _ fun v O1 F1 H1 A1 s1 m1 w1 d1 => by
  cases d1 with
  | dat d1 =>
    cases d1 with
    | lst a b =>
      refine ⟨_, rfl, ⟨_, w1.same.seq a⟩, q _ F1 H1 A1 s1 m1 w1 ⟨fun i F' H O d s w' hd => ?_, fun i F' H O s w' hl => ⟨_, w'.same.seq (s.seq a), by rw [b.length]; exact hl⟩⟩⟩
      obtain ⟨x, hx, dx⟩ := b.get hd
      refine ⟨⟨_, x, w'.same.seq (s.seq a), hx⟩, fun y H' hy => ?_⟩
      obtain ⟨e1, e2⟩ := hy
      subst e1
      have e3 := e2 _ (w'.same.seq (s.seq a))
      rw [hx] at e3
      cases e3
      exact ⟨F', Same.refl _, w', dx.up s⟩
/-! ### places -/
theorem ep_var {r : T} (h : env[n]? = some (.tr r)) : EP K (tVar n) env n [] := fun σ F H A O m w Q q => by
  obtain ⟨v, O1, A1, A2, e, h1, h2, h3, _, _⟩ := m.getT h
  refine ⟨v, h1, q v F H (Same.refl F) w ⟨r, A1, O1, A2, getAt_root h, e, h2, fun F' t' O1' s z => ?_⟩⟩
  rw [putAt_root h]
  exact h3 F' t' O1' s z
theorem ep_ix {a : Option Addr} {ts : List T} {k : Nat} (h : EP K te env n π) (hg : getAt env n π = some (.lst a ts)) (hi : EV K tb env (dI i)) (hk : ixP ts.length i = some k) : EP K (tOp (rIxL K) te tb) env n (π ++ [.ix k]) := fun σ F H A O m w Q q =>
  h σ F H A O m w _ fun v F1 H1 s1 w1 pl => hi σ F1 H1 A O (m.up s1) w1 _ fun u F2 H2 s2 w2 d2 => by
    obtain ⟨t, A1, O1, A2, g1, e, g3, g4⟩ := pl.up s2
    rw [hg] at g1
    cases g1
    cases g3 with
    | @lst _ p vs _ P nm hs =>
      have hlt := (ixP_some hk).1
      obtain ⟨y, hy⟩ : ∃ y, ts[k]? = some y := ⟨ts[k], by simp [hlt]⟩
      obtain ⟨v', B1, P1, B2, e2, r1, r2, r3⟩ := hs.at hy
      have hp := (w2.has (p, .lst vs) (by rw [e]; simp)).2
      refine ⟨p, vs, i, v', rfl, d2.int, .of hp, atI_ixP (by rw [hs.length]; exact hk) r1, q v' F2 H2 (s1.trans s2) w2 ?_⟩
      subst e2
      refine ⟨y, A1 ++ (p, .lst vs) :: B1, P1, B2 ++ A2, by rw [getAt_snoc hg, T.get_ix hy, T.get_nil], by rw [e]; simp, r2, fun F' t' O1' s z => ?_⟩
      rw [putAt_snoc hg, T.put_ix hy, T.put_nil]
      have z2 := g4 F' _ _ s (.lst nm (r3 F' t' O1' s z))
      simpa using z2
theorem ep_fld {a : Option Addr} {C : Addr} {fs : List (Str × T)} {f : Str} (h : EP K te env n π) (hg : getAt env n π = some (.ins a C fs)) (hc : Cls K C) (hn : NoAttr K C f) (hf : (fs.lookup f).isSome = true) : EP K (tFld K te f) env n (π ++ [.fld f]) := fun σ F H A O m w Q q =>
  h σ F H A O m w _ fun v F1 H1 s1 w1 pl => by
    obtain ⟨t, A1, O1, A2, g1, e, g3, g4⟩ := pl
    rw [hg] at g1
    cases g1
    cases g3 with
    | @ins _ p _ dx us _ P nm hs =>
      obtain ⟨y, hy⟩ := Option.isSome_iff_exists.mp hf
      obtain ⟨v', B1, P1, B2, e2, r1, r2, r3⟩ := hs.at hy
      have hp := (w1.has (p, .ins C dx us) (by rw [e]; simp)).2
      refine ⟨p, C, dx, us, v', rfl, hp, hc, hn, r1, q v' F1 H1 s1 w1 ?_⟩
      subst e2
      refine ⟨y, A1 ++ (p, .ins C dx us) :: (dx, .own p) :: B1, P1, B2 ++ A2, by rw [getAt_snoc hg, T.get_fld hy, T.get_nil], by rw [e]; simp, r2, fun F' t' O1' s z => ?_⟩
      rw [putAt_snoc hg, T.put_fld hy, T.put_nil]
      have z2 := g4 F' _ _ s (TR.ins (C := C) (dx := dx) nm (r3 F' t' O1' s z))
      simpa using z2
/-- a datum that stands at a place -/
theorem ev_pl (h : EP K te env n π) (hg : getAt env n π = some (.dat d)) : EV K te env d := fun σ F H A O m w Q q => h σ F H A O m w _ fun v F1 H1 s1 w1 pl => by
  obtain ⟨t, A1, O1, A2, g1, e, g3, g4⟩ := pl
  rw [hg] at g1
  cases g1
  cases g3 with
  | dat dd => exact q v F1 H1 s1 w1 dd
theorem ev_lenPl {a : Option Addr} {ts : List T} (h : EP K te env n π) (hg : getAt env n π = some (.lst a ts)) : EV K (tCB (rLenP K) (tCons te tNil)) env (dI (ts.length : Nat)) := fun σ F H A O m w Q q => h σ F H A O m w _ fun v F1 H1 s1 w1 pl => by
  obtain ⟨t, A1, O1, A2, g1, e, g3, g4⟩ := pl
  rw [hg] at g1
  cases g1
  cases g3 with
  | @lst _ p vs _ P nm hs =>
    have hp := (w1.has (p, .lst vs) (by rw [e]; simp)).2
    exact ⟨_, ts.length, rfl, .inl ⟨_, .of hp, hs.length.symm⟩, q _ F1 H1 s1 w1 (.v _)⟩
/-- the address of a named thing -/
theorem em_adr {t : T} {q : Addr} (h : EP K te env n π) (hg : getAt env n π = some t) (hq : t.name = some q) : EM K te env (.adr q) env := fun σ F H A O m w Q k => h σ F H A O m w _ fun v F1 H1 s1 w1 pl => by
  obtain ⟨t, A1, O1, A2, g1, e, g3, g4⟩ := pl
  rw [hg] at g1
  cases g1
  have := g3.at_name hq
  subst this
  exact k _ [] F1 H1 A s1 (m.up s1) w1 .adr
/-- what a slot owns, taken out of it -/
theorem em_move {t : T} (h : env[n]? = some (.tr t)) : EM K (tVar n) env t (env.set n .un) := fun σ F H A O m w Q q => by
  obtain ⟨v, O1, A1, A2, e, h1, h2, h3, _, h6⟩ := m.getT h
  subst e
  refine ⟨v, h1, q v O1 F H (A1 ++ A2) (Same.refl F) (h6 F (Same.refl F)) (w.perm ?_) h2⟩
  have e1 : A1 ++ (O1 ++ A2) ++ O = A1 ++ (O1 ++ (A2 ++ O)) := by simp
  have e2 : O1 ++ (A1 ++ A2 ++ O) = O1 ++ (A1 ++ (A2 ++ O)) := by simp
  rw [e1, e2]
  exact perm_front _ _ _
/-- names given for a while -/
theorem em_name {t : T} {envq : Addr → List Slot} (h : getAt env n π = some t) (ho : t.isObj = true) (he : ∀ q, EM K te (putAt env n π (t.nm (some q))) x (envq q)) (hu : ∀ q, ∃ t1, getAt (envq q) n π = some t1 ∧ putAt (envq q) n π (t1.nm none) = env') : EM K te env x env' := fun σ F H A O m w Q q => by
  obtain ⟨v, A1, O1, A2, e, g2, g3⟩ := m.focus h
  obtain ⟨p, rfl⟩ := g2.ref ho
  have m2 := g3 F _ _ (Same.refl F) g2.named
  refine he p σ F H _ O m2 (by rw [← e]; exact w) Q fun v2 O2 F' H' A' s m' w' dd => ?_
  obtain ⟨t1, h1, h2⟩ := hu p
  obtain ⟨v3, B1, P1, B2, e3, r2, r3⟩ := m'.focus h1
  have m3 := r3 F' _ _ (Same.refl F') r2.unnamed
  rw [h2] at m3
  exact q v2 O2 F' H' _ s m3 (by rw [← e3]; exact w') dd
/-! ### arguments that are owned by the caller's frame -/
/-- from the frame and the arguments' trees: the callee's slots, and what is left of the frame -/
inductive Take : List Slot → List T → List Slot → List Slot → Prop
  | nil {env : List Slot} : Take env [] [] env
  | dat {env env' as : List Slot} {d : D} {xs : List T} : Take env xs as env' → Take env (.dat d :: xs) (.dat d :: as) env'
  | new {env env' as : List Slot} {x : T} {xs : List T} : Take env xs as env' → Take env (x :: xs) (.tr x :: as) env'
  | pl {env env' as : List Slot} {n : Nat} {π : List Stp} {t : T} {q : Addr} {s : Slot} {xs : List T} : getAt env n π = some t → t.name = some q → s = .tr (t.nm none) → Take (putAt env n π (.adr q)) xs as env' → Take env (.adr q :: xs) (s :: as) env'
theorem Take.run : ∀ {env xs as env'}, Take env xs as env' → ∀ {σ : L2.St} {A : List (Addr × HO)} {vs : List V} {O1 : List (Addr × HO)}, Match K F σ env A → TRs K F vs xs O1 →
    ∃ O2 A', Match K F (vs.map some) as O2 ∧ Match K F σ env' A' ∧ ∀ F' H O, Own F' H (O1 ++ (A ++ O)) → Own F' H (O2 ++ (A' ++ O))
  | _, _, _, _, .nil, σ, A, vs, O1, m, h => by
    cases h
    exact ⟨[], A, .nil, m, fun _ _ _ w => w⟩
  | _, _, _, _, .dat k, σ, A, vs, O1, m, h => by
    cases h with
    | cons a b =>
      cases a with
      | dat a =>
        obtain ⟨O2, A', h1, h2, h3⟩ := k.run m b
        exact ⟨O2, A', .dat a h1, h2, h3⟩
  | _, _, _, _, .new k, σ, A, vs, O1, m, h => by
    cases h with
    | @cons v _ vs _ P1 P2 a b =>
      obtain ⟨O2, A', h1, h2, h3⟩ := k.run m b
      refine ⟨P1 ++ O2, A', .tr a h1, h2, fun F' H O w => ?_⟩
      have w2 : Own F' H (P2 ++ (A ++ (P1 ++ O))) := w.perm (by
        have e1 : P1 ++ P2 ++ (A ++ O) = P1 ++ ((P2 ++ A) ++ O) := by simp
        rw [e1]
        refine (perm_front P1 (P2 ++ A) O).trans ?_
        rw [List.append_assoc])
      have w3 := h3 F' H _ w2
      refine w3.perm ?_
      have e1 : O2 ++ (A' ++ (P1 ++ O)) = (O2 ++ A') ++ (P1 ++ O) := by simp
      rw [e1]
      refine (perm_front (O2 ++ A') P1 O).trans ?_
      simp
  | _, _, _, _, .pl (q := q) g gn es k, σ, A, vs, O1, m, h => by
    subst es
    cases h with
    | cons a b =>
      cases a with
      | adr =>
        obtain ⟨v, A1, P1, A2, e, g2, g3⟩ := m.focus g
        have hv := g2.at_name gn
        subst hv
        have m2 := g3 F (.adr q) [] (Same.refl F) .adr
        obtain ⟨O2, A', h1, h2, h3⟩ := k.run m2 b
        refine ⟨P1 ++ O2, A', .tr g2.unnamed h1, h2, fun F' H O w => ?_⟩
        rename_i P2
        have w : Own F' H (P2 ++ (A ++ O)) := w
        subst e
        have w2 : Own F' H (P2 ++ ((A1 ++ ([] ++ A2)) ++ (P1 ++ O))) := w.perm (List.Perm.append_left _ (by
          have e1 : A1 ++ (P1 ++ A2) ++ O = A1 ++ (P1 ++ (A2 ++ O)) := by simp
          have e2 : A1 ++ ([] ++ A2) ++ (P1 ++ O) = A1 ++ (A2 ++ (P1 ++ O)) := by simp
          rw [e1, e2]
          exact List.Perm.append_left _ (perm_front P1 A2 O)))
        have w3 := h3 F' H _ w2
        refine w3.perm ?_
        have e1 : O2 ++ (A' ++ (P1 ++ O)) = (O2 ++ A') ++ (P1 ++ O) := by simp
        rw [e1]
        refine (perm_front (O2 ++ A') P1 O).trans ?_
        simp
/-- .. and back -/
inductive Give : List Slot → List T → List Slot → List Slot → Prop
  | nil {env : List Slot} : Give env [] [] env
  | skip {env env' os : List Slot} {s : Slot} {x : T} {xs : List T} : Give env xs os env' → Give env (x :: xs) (s :: os) env'
  | pl {env env' os : List Slot} {n : Nat} {π : List Stp} {t : T} {q : Addr} {xs : List T} (a : Option Addr) : getAt env n π = some (.adr q) → (a = none ∨ a = some q) → Give (putAt env n π (t.nm a)) xs os env' → Give env (.adr q :: xs) (.tr t :: os) env'
theorem Give.run : ∀ {env xs os env'}, Give env xs os env' → ∀ {σ : L2.St} {A : List (Addr × HO)} {vs : List V} {F0 : Hp} {O1 O2 : List (Addr × HO)}, Match K F σ env A → TRs K F0 vs xs O1 → Match K F (vs.map some) os O2 →
    ∃ A', Match K F σ env' A' ∧ ∀ H O, Own F H (O2 ++ (A ++ O)) → Own F H (A' ++ O)
  | _, _, _, _, .nil, σ, A, vs, F0, O1, O2, m, h, h2 => by
    cases h
    cases h2
    exact ⟨A, m, fun _ _ w => w⟩
  | _, _, _, _, .skip k, σ, A, vs, F0, O1, O2, m, h, h2 => by
    cases h with
    | cons a b =>
      cases h2 with
      | un h2 => exact k.run m b h2
      | dat _ h2 => exact k.run m b h2
      | tr c h2 =>
        obtain ⟨A', g1, g2⟩ := k.run m b h2
        exact ⟨A', g1, fun H O w => g2 H O (by rw [List.append_assoc] at w; exact w.sub (List.sublist_append_right _ _))⟩
  | _, _, _, _, .pl (q := q) a g ga k, σ, A, vs, F0, O1, O2, m, h, h2 => by
    cases h with
    | cons c b =>
      cases c with
      | adr =>
        cases h2 with
        | @tr _ _ _ _ P1 P2 c2 h2 =>
          obtain ⟨v, A1, R1, A2, e, g2, g3⟩ := m.focus g
          cases g2 with
          | adr =>
            rename_i t0 _ _ _
            have c3 : TR K F (.ref q) (T.nm a t0) P1 := by
              rcases ga with rfl | rfl
              · exact c2.unnamed
              · exact c2.named
            have m2 := g3 F _ _ (Same.refl F) c3
            obtain ⟨A', r1, r2⟩ := k.run m2 b h2
            refine ⟨A', r1, fun H O w => r2 H O (w.perm ?_)⟩
            subst e
            have e1 : P1 ++ P2 ++ (A1 ++ ([] ++ A2) ++ O) = P1 ++ ((P2 ++ A1) ++ (A2 ++ O)) := by simp
            have e2 : P2 ++ (A1 ++ (P1 ++ A2) ++ O) = (P2 ++ A1) ++ (P1 ++ (A2 ++ O)) := by simp
            rw [e1, e2]
            exact perm_front _ _ _
/-- a def that may change what it is handed: the slots of its arguments, its outcome, what becomes of the slots -/
def spT (K : PySem.W.Frag) {ι β : Type} (args : ι → List Slot) (f : ι → R β) (res : β → Sum T Value) (outs : ι → β → List Slot) : Sp := fun vs H Q E =>
  ∃ (x : ι) (F : Hp) (O O1 : List (Addr × HO)) (b : β), Match K F (vs.map some) (args x) O1 ∧ Own F H (O1 ++ O) ∧ f x = .ok b ∧
    (∀ y, res b = .inl y → ∀ v F' H' O1' O2, Same F F' → Match K F' (vs.map some) (outs x b) O1' → Own F' H' (O2 ++ (O1' ++ O)) → TR K F' v y O2 → Q v H') ∧
    (∀ c, res b = .inr c → ∀ F' H' O1', Same F F' → Match K F' (vs.map some) (outs x b) O1' → Own F' H' (O1' ++ O) → E c none H')
theorem em_callT {ι β : Type} {args : ι → List Slot} {f : ι → R β} {res : β → Sum T Value} {outs : ι → β → List Slot} {ta : TA} {E' : XK} (x : ι) {b : β} {xs : List T} {y : T} (hf : f x = .ok b) (hy : res b = .inl y)
    (ha : EAM K ta env xs env1) (ht : Take env1 xs (args x) env2) (hg : Give env2 xs (outs x b) env3) : EM K (tCall (spT K args f res outs) [] E' ta) env y env3 := fun σ F H A O m w Q q =>
  ha σ F H A O m w _ fun vs O1 F1 H1 A1 s1 m1 w1 d1 => by
    obtain ⟨O2, A2, t1, t2, t3⟩ := ht.run m1 d1
    have w2 := t3 F1 H1 O w1
    refine ⟨x, F1, A2 ++ O, O2, b, by rw [List.append_nil]; exact t1, w2, hf, fun y' hy' v F' H' O1' O3 s mo wo dv => ?_, fun c hc => by rw [hy] at hc; cases hc⟩
    rw [hy] at hy'
    cases hy'
    rw [List.append_nil] at mo
    obtain ⟨A3, g1, g2⟩ := hg.run (t2.up s) d1 mo
    have w3 : Own F' H' (O1' ++ (A2 ++ (O3 ++ O))) := wo.perm (by
      have e1 : O3 ++ (O1' ++ (A2 ++ O)) = O3 ++ ((O1' ++ A2) ++ O) := by simp
      rw [e1]
      refine (perm_front O3 (O1' ++ A2) O).trans ?_
      simp)
    exact q v O3 F' H' A3 (s1.trans s) g1 (g2 H' _ w3).front dv
/-! ### the body of such a def -/
/-- the slots' roots told by the addresses that came in -/
def nmS (p : Nat → Addr) : Nat → List Slot → List Slot
  | _, [] => []
  | k, Slot.tr t :: r => Slot.tr (T.nm (some (p k)) t) :: nmS p (k + 1) r
  | k, s :: r => s :: nmS p (k + 1) r
/-- what has become of them, at the end -/
inductive Rk (p : Nat → Addr) : Nat → List Slot → List Slot → Prop
  | nil {k : Nat} {e : List Slot} : Rk p k e []
  | un {k : Nat} {e os : List Slot} {s : Slot} : Rk p (k + 1) e os → Rk p k (s :: e) (.un :: os)
  | tr {k : Nat} {e os : List Slot} {t : T} {s : Slot} (hs : s = .tr (t.nm (some (p k)))) (h1 : t.nm none = t) (h2 : (t.nm (some (p k))).name = some (p k)) : Rk p (k + 1) e os → Rk p k (s :: e) (.tr t :: os)
/-- what comes back stood among the arguments as an object -/
def okS : List Slot → List Slot → Bool
  | .tr t :: as, .tr _ :: os => t.isObj && okS as os
  | _ :: as, .un :: os => okS as os
  | [], [] => true
  | _, _ => false
def vAdr (vs : List V) (k : Nat) : Addr := match vs[k]? with
  | some (.ref a) => a
  | _ => (0 : Nat)
theorem vAdr_ref {vs us : List V} {k : Nat} {q : Addr} (hv : ∀ j, (V.ref q :: us)[j]? = vs[k + j]?) : vAdr vs k = q := by
  have := hv 0
  simp at this
  unfold vAdr
  rw [← this]
theorem vs_next {u : V} {vs us : List V} {k : Nat} (hv : ∀ j, (u :: us)[j]? = vs[k + j]?) : ∀ j, us[j]? = vs[k + 1 + j]? := fun j => by
  have := hv (j + 1)
  rw [show k + 1 + j = k + (j + 1) by omega, ← this]; simp
theorem nmS_match (vs : List V) : ∀ (us : List V) (k : Nat) {as : List Slot} {O : List (Addr × HO)}, (∀ j, us[j]? = vs[k + j]?) → Match K F (us.map some) as O → Match K F (us.map some) (nmS (vAdr vs) k as) O
  | [], k, _, _, _, m => by cases m; exact .nil
  | u :: us, k, _, _, hv, m => by
    have hv2 := vs_next hv
    cases m with
    | un m => exact .un (nmS_match vs us (k + 1) hv2 m)
    | dat d m => exact .dat d (nmS_match vs us (k + 1) hv2 m)
    | @tr _ t _ _ _ _ d m =>
      refine .tr ?_ (nmS_match vs us (k + 1) hv2 m)
      by_cases ho : t.isObj = true
      · obtain ⟨q, rfl⟩ := d.ref ho
        rw [vAdr_ref hv]
        exact d.named
      · cases d with
        | dat d => exact .dat d
        | lst => simp [T.isObj] at ho
        | ins => simp [T.isObj] at ho
        | dK => simp [T.isObj] at ho
        | dT => simp [T.isObj] at ho
        | adr => exact .adr
theorem Rk.run (vs : List V) : ∀ {k : Nat} {e os as : List Slot} {F0 : Hp} {O0 : List (Addr × HO)}, Rk (vAdr vs) k e os → ∀ {σ : L2.St} {A : List (Addr × HO)} {us : List V}, okS as os = true → Match K F0 (us.map some) as O0 → (∀ j, us[j]? = vs[k + j]?) →
    Match K F σ e A → ∃ A', Match K F (us.map some) os A' ∧ A'.Sublist A
  | k, _, _, as, F0, O0, .nil, σ, A, us, hs, h0, hv, m => by
    match us, as, h0, hs with
    | [], [], _, _ => exact ⟨[], .nil, List.nil_sublist _⟩
    | _ :: _, _ :: _, _, hs => simp [okS] at hs
  | k, _, _, as, F0, O0, .un (os := os) r, σ, A, us, hs, h0, hv, m => by
    match us, as, h0, hs with
    | u :: us, a :: as, h0, hs =>
      have hs2 : okS as os = true := by cases a <;> exact hs
      have h02 : ∃ O, Match K F0 (us.map some) as O := by
        cases h0 with
        | un m => exact ⟨_, m⟩
        | dat _ m => exact ⟨_, m⟩
        | tr _ m => exact ⟨_, m⟩
      obtain ⟨O, h02⟩ := h02
      cases m with
      | un m =>
        obtain ⟨A', a, b⟩ := Rk.run vs r hs2 h02 (vs_next hv) m
        exact ⟨A', .un a, b⟩
      | dat d m =>
        obtain ⟨A', a, b⟩ := Rk.run vs r hs2 h02 (vs_next hv) m
        exact ⟨A', .un a, b⟩
      | tr d m =>
        obtain ⟨A', a, b⟩ := Rk.run vs r hs2 h02 (vs_next hv) m
        exact ⟨A', .un a, b.trans (List.sublist_append_right _ _)⟩
    | [], [], _, hs => simp [okS] at hs
  | k, _, _, as, F0, O0, .tr (os := os) (t := t) hss h1 h2 r, σ, A, us, hs, h0, hv, m => by
    subst hss
    match us, as, h0, hs with
    | u :: us, .tr t0 :: as, h0, hs =>
      have hs2 := Bool.and_eq_true_iff.mp hs
      cases h0 with
      | tr d0 m0 =>
        obtain ⟨q, rfl⟩ := d0.ref hs2.1
        have e := vAdr_ref hv
        cases m with
        | @tr v _ _ _ P1 P2 d m =>
          obtain ⟨A', a, b⟩ := Rk.run vs r hs2.2 m0 (vs_next hv) m
          have hq := d.at_name h2
          rw [e] at hq
          subst hq
          have d2 := d.unnamed
          have e3 : (t.nm (some (vAdr vs k))).nm none = t := by
            rw [← h1]; cases t <;> rfl
          rw [e3] at d2
          exact ⟨P1 ++ A', .tr d2 a, (List.Sublist.refl _).append b⟩
    | [], [], _, hs => simp [okS] at hs
    | u :: us, .un :: as, h0, hs => simp [okS] at hs
    | u :: us, .dat _ :: as, h0, hs => simp [okS] at hs
/-- a body's way of its exceptions, told of as the def's -/
theorem spT_run {ι β : Type} {args : ι → List Slot} {f : ι → R β} {res : β → Sum T Value} {outs : ι → β → List Slot} {N : List Str} {vs : List V} {H : Hp} {Q : VK} {E : XK} {t : TS} (n k : Nat) (hN : N.length = n + k) (hn : ∀ x, (args x).length = n) (ho : ∀ x b, okS (args x) (outs x b) = true)
    (hb : ∀ x b (p : Nat → Addr), f x = .ok b → SW K (fun c d _ H => E c d H) t (nmS p 0 (args x) ++ List.replicate k .un) (fun e => res b = .inl (.dat (.v .non)) ∧ Rk p 0 e (outs x b)) (fun e y => res b = .inl y ∧ Rk p 0 e (outs x b)) fun e c => res b = .inr c ∧ Rk p 0 e (outs x b))
    (h : spT K args f res outs vs H Q E) : t { nx := fun _ H' => Q .non H', rt := Q } (L2.start N vs) H := by
  obtain ⟨x, F, O, O1, b, m, w, hf, q1, q2⟩ := h
  have len : ∀ {us : List V} {as : List Slot} {O : List (Addr × HO)}, Match K F (us.map some) as O → us.length = as.length := by
    intro us
    induction us with
    | nil => intro as O m; cases m; rfl
    | cons u us ih =>
      intro as O m
      cases m with
      | un m => simp [ih m]
      | dat _ m => simp [ih m]
      | tr _ m => simp [ih m]
  have hl : vs.length = n := (len m).trans (hn x)
  have ms : ∀ {us : List V} {as : List Slot} {O : List (Addr × HO)}, Match K F (us.map some) as O → Match K F (us.map some ++ List.replicate k none) (as ++ List.replicate k .un) O := by
    intro us
    induction us with
    | nil => intro as O m; cases m; exact match_un k
    | cons u us ih =>
      intro as O m
      cases m with
      | un m => exact .un (ih m)
      | dat d m => exact .dat d (ih m)
      | tr d m => exact .tr d (ih m)
  have m2 := ms (nmS_match vs vs 0 (fun j => by simp) m)
  unfold L2.start
  rw [show N.length - vs.length = k by omega]
  refine hb x b (vAdr vs) hf _ F H O1 O m2 w _ ?_ ?_ ?_
  · rintro e σ' F' H' A' ⟨hr, rk⟩ s m' w'
    obtain ⟨A2, g1, g2⟩ := Rk.run vs rk (ho x b) m (fun j => by simp) m'
    exact q1 _ hr .non F' H' A2 [] s g1 (w'.subA g2) (.dat (.v _))
  · rintro e y v σ' F' H' A' O2 ⟨hr, rk⟩ s m' w' dv
    obtain ⟨A2, g1, g2⟩ := Rk.run vs rk (ho x b) m (fun j => by simp) m'
    exact q1 _ hr v F' H' A2 O2 s g1 (w'.sub ((List.Sublist.refl _).append (g2.append (List.Sublist.refl _)))) dv
  · rintro e c σ' F' H' A' ⟨hr, rk⟩ s m' w'
    obtain ⟨A2, g1, g2⟩ := Rk.run vs rk (ho x b) m (fun j => by simp) m'
    exact q2 _ hr F' H' A2 s g1 (w'.subA g2)
end
end Pg

set_option Elab.async false
set_option linter.all false
set_option maxRecDepth 100000
namespace Pg
open PySem PySem.Spec PyProof.Rows L2
section
variable {K : PySem.W.Frag} {E : WX} {env env1 env2 env' : List Slot} {t u : TS} {te ta tb ti : TE} {tt : TT} {x y : T} {d e : D} {ds es : List D} {i j : Int} {n : Nat} {π : List Stp} {Nx : List Slot → Prop} {Rt : List Slot → T → Prop} {Ex : List Slot → Value → Prop} {g : TG} {na : Option Addr}
theorem match_len {F : Hp} : ∀ {σ : L2.St} {env : List Slot} {A : List (Addr × HO)}, Match K F σ env A → σ.length = env.length
  | _, _, _, .nil => rfl
  | _, _, _, .un m => by rw [List.length_cons, List.length_cons, match_len m]
  | _, _, _, .dat _ m => by rw [List.length_cons, List.length_cons, match_len m]
  | _, _, _, .tr _ m => by rw [List.length_cons, List.length_cons, match_len m]
/-- an outcome stored -/
theorem Match.setT {F : Hp} {σ : L2.St} {A O1 : List (Addr × HO)} (i : Nat) {v : V} (m : Match K F σ env A) (h : TR K F v x O1) (hl : i < env.length) :
    ∃ A', Match K F (σ.set i (some v)) (env.set i x.slot) A' ∧ ∀ H O, Own F H (O1 ++ (A ++ O)) → Own F H (A' ++ O) := by
  by_cases hx : ∃ d, x = .dat d
  · obtain ⟨d, rfl⟩ := hx
    cases h with
    | dat h =>
      obtain ⟨A', s, m'⟩ := m.set i h
      exact ⟨A', m', fun H O w => w.sub (s.append (List.Sublist.refl O))⟩
  · have hs : x.slot = .tr x := by
      cases x with
      | dat d => exact absurd ⟨d, rfl⟩ hx
      | _ => rfl
    rw [hs]
    obtain ⟨A1, B, A2, e, s, m'⟩ := m.putT i h hl
    refine ⟨_, m', fun H O w => ?_⟩
    subst e
    have w2 : Own F H (O1 ++ ((A1 ++ B) ++ O)) := w.sub ((List.Sublist.refl O1).append (((List.Sublist.refl A1).append s).append (List.Sublist.refl O)))
    refine w2.perm ?_
    have e1 : O1 ++ ((A1 ++ B) ++ O) = O1 ++ (A1 ++ (B ++ O)) := by simp
    have e2 : A1 ++ (O1 ++ B) ++ O = A1 ++ (O1 ++ (B ++ O)) := by simp
    rw [e1, e2]
    exact perm_front _ _ _
theorem sw_setM (h : EM K te env x env') (hl : n < env'.length) (hn : Nx (env'.set n x.slot)) : SW K E (tAsg te (gName n)) env Nx Rt Ex := fun σ F H A O m w Dn q1 q2 q4 =>
  h σ F H A O m w _ fun v O1 F1 H1 A1 s1 m1 w1 d1 => by
    obtain ⟨A', m', w'⟩ := m1.setT n d1 hl
    exact q1 _ _ F1 H1 A' hn s1 m' (w' H1 O w1)
theorem sw_dropM (h : EM K te env x env') (hn : Nx env') : SW K E (tDrop te) env Nx Rt Ex := fun σ F H A O m w Dn q1 q2 q4 =>
  h σ F H A O m w _ fun v O1 F1 H1 A1 s1 m1 w1 d1 => q1 _ σ F1 H1 A1 hn s1 m1 (w1.sub (List.sublist_append_right O1 _))
theorem sw_retM (h : EM K te env x env') (hr : Rt env' x) : SW K E (tRet te) env Nx Rt Ex := fun σ F H A O m w Dn q1 q2 q4 =>
  h σ F H A O m w _ fun v O1 F1 H1 A1 s1 m1 w1 d1 => q2 _ x v σ F1 H1 A1 O1 hr s1 m1 w1 d1
theorem sw_ifM {c : Bool} (h : ETM K tt env c env') (h1 : c = true → SW K E t env' Nx Rt Ex) (h2 : c = false → SW K E u env' Nx Rt Ex) : SW K E (tIfS tt t u) env Nx Rt Ex := fun σ F H A O m w Dn q1 q2 q4 =>
  h σ F H A O m w _ fun F1 H1 A1 s1 m1 w1 => by
    have k : ∀ {t : TS}, SW K E t env' Nx Rt Ex → t Dn σ H1 := fun z => z σ F1 H1 A1 O m1 w1 Dn (fun a b c d f y s => q1 a b c d f y (s1.trans s)) (fun e x v a b c d f z s => q2 e x v a b c d f z (s1.trans s)) fun e c a b d f z s => q4 e c a b d f z (s1.trans s)
    cases c with
    | true => exact iteT (k (h1 rfl))
    | false => exact iteF (k (h2 rfl))
theorem sw_asgGM {js : List Nat} (h : EM K te env (.dat d) env1) (hg : GT K g js d env1 env') (hn : Nx env') : SW K E (tAsg te g) env Nx Rt Ex := fun σ F H A O m w Dn q1 q2 q4 =>
  h σ F H A O m w _ fun v O1 F1 H1 A1 s1 m1 w1 d1 => by
    cases d1 with
    | dat d1 =>
      have w1 : Own F1 H1 (A1 ++ O) := w1
      exact hg.2 σ v F1 H1 A1 O m1 w1 d1 _ fun σ' A' sb _ m' _ => q1 _ _ F1 H1 A' hn s1 m' (w1.subA sb)
/-- the frame told otherwise: what changes no value -/
theorem sw_match (h : ∀ (σ : L2.St) (F H : Hp) (A O : List (Addr × HO)), Match K F σ env A → Own F H (A ++ O) → ∃ F' A', Same F F' ∧ Match K F' σ env' A' ∧ Own F' H (A' ++ O)) (hn : SW K E t env' Nx Rt Ex) : SW K E t env Nx Rt Ex := fun σ F H A O m w Dn q1 q2 q4 => by
  obtain ⟨F1, A', s12, m', w'⟩ := h σ F H A O m w
  exact hn σ F1 H A' O m' w' Dn (fun a b c d f z s => q1 a b c d f z (s12.trans s)) (fun e x v a b c d f z s => q2 e x v a b c d f z (s12.trans s)) fun e c a b d f z s => q4 e c a b d f z (s12.trans s)
/-- a root told by its address for what follows -/
theorem sw_name {t0 : T} (h : getAt env n π = some t0) (ho : t0.isObj = true) (hn : ∀ q, SW K E t (putAt env n π (t0.nm (some q))) Nx Rt Ex) : SW K E t env Nx Rt Ex := fun σ F H A O m w Dn q1 q2 q4 => by
  obtain ⟨v, A1, O1, A2, e, g2, g3⟩ := m.focus h
  obtain ⟨p, rfl⟩ := g2.ref ho
  exact hn p σ F H _ O (g3 F _ _ (Same.refl F) g2.named) (by rw [← e]; exact w) Dn q1 q2 q4
theorem sw_unname {t0 : T} (h : getAt env n π = some t0) (hn : SW K E t (putAt env n π (t0.nm none)) Nx Rt Ex) : SW K E t env Nx Rt Ex :=
  sw_match (fun σ F H A O m w => by
    obtain ⟨v, A1, O1, A2, e, g2, g3⟩ := m.focus h
    exact ⟨F, _, Same.refl F, g3 F _ _ (Same.refl F) g2.unnamed, by rw [← e]; exact w⟩) hn
/-- what a slot owns frozen -/
theorem sw_frzT {t0 : T} (h : env[n]? = some (.tr t0)) (hf : t0.fzOk = true) (hn : SW K E t (env.set n (.dat t0.fz)) Nx Rt Ex) : SW K E t env Nx Rt Ex :=
  sw_match (fun σ F H A O m w => by
    obtain ⟨v, O1, A1, A2, e, h1, h2, _, h5, _⟩ := m.getT h
    subst e
    have w2 : Own F H (O1 ++ ((A1 ++ A2) ++ O)) := w.perm (by
      have e1 : A1 ++ (O1 ++ A2) ++ O = A1 ++ (O1 ++ (A2 ++ O)) := by simp
      have e2 : O1 ++ ((A1 ++ A2) ++ O) = O1 ++ (A1 ++ (A2 ++ O)) := by simp
      rw [e1, e2]
      exact perm_front _ _ _)
    obtain ⟨F1, s1, w1, d1⟩ := h2.frz _ hf w2
    exact ⟨F1, _, s1, h5 F1 _ s1 d1, w1⟩) hn
/-! ### changes at places -/
theorem TRs.atV {F : Hp} : ∀ {vs : List V} {ts : List T} {O : List (Addr × HO)} {k : Nat} {t : T}, TRs K F vs ts O → ts[k]? = some t →
    ∃ v A O1 B, O = A ++ (O1 ++ B) ∧ vs[k]? = some v ∧ TR K F v t O1 ∧ ∀ F' v' t' O1', Same F F' → TR K F' v' t' O1' → TRs K F' (vs.set k v') (ts.set k t') (A ++ (O1' ++ B))
  | _, _, _, _, _, .nil, e => by simp at e
  | _, _, _, 0, _, .cons a b, e => by
    simp at e; subst e
    exact ⟨_, [], _, _, rfl, rfl, a, fun F' v' t' O1' s h => by have z := TRs.cons h (b.up s); exact z⟩
  | _, _, _, k + 1, t, .cons (O1 := P) a b, e => by
    obtain ⟨v, A, O1, B, h1, h2, h3, h4⟩ := TRs.atV (k := k) (t := t) b (by simpa using e)
    refine ⟨v, P ++ A, O1, B, by rw [h1, List.append_assoc], by simpa using h2, h3, fun F' v' t' O1' s h => ?_⟩
    have z := TRs.cons (a.up s) (h4 F' v' t' O1' s h)
    rw [List.append_assoc]
    exact z
theorem TRf.atV {F : Hp} : ∀ {us : List (Str × V)} {fs : List (Str × T)} {O : List (Addr × HO)} {f : Str} {t : T}, TRf K F us fs O → fs.lookup f = some t →
    ∃ v A O1 B, O = A ++ (O1 ++ B) ∧ us.lookup f = some v ∧ TR K F v t O1 ∧ ∀ F' v' t' O1', Same F F' → TR K F' v' t' O1' → TRf K F' (setF f v' us) (setF f t' fs) (A ++ (O1' ++ B))
  | _, _, _, _, _, .nil, e => by simp at e
  | _, _, _, f, t, .cons (f := g) (O1 := P) a b, e => by
    rw [List.lookup_cons] at e
    by_cases hg : (f == g) = true
    · rw [hg] at e
      simp at e; subst e
      refine ⟨_, [], _, _, rfl, by rw [List.lookup_cons, hg], a, fun F' v' t' O1' s h => ?_⟩
      unfold setF
      rw [if_pos hg, if_pos hg]
      have z := TRf.cons (f := g) h (b.up s); exact z
    · have hg' : (f == g) = false := by simpa using hg
      rw [hg'] at e
      obtain ⟨v, A, O1, B, h1, h2, h3, h4⟩ := TRf.atV (f := f) (t := t) b e
      refine ⟨v, P ++ A, O1, B, by rw [h1, List.append_assoc], by rw [List.lookup_cons, hg']; exact h2, h3, fun F' v' t' O1' s h => ?_⟩
      unfold setF
      rw [if_neg hg, if_neg hg, List.append_assoc]
      have z := TRf.cons (f := g) (a.up s) (h4 F' v' t' O1' s h)
      exact z
theorem TRf.append {F : Hp} : ∀ {vs ws : List (Str × V)} {ts us : List (Str × T)} {O O' : List (Addr × HO)}, TRf K F vs ts O → TRf K F ws us O' → TRf K F (vs ++ ws) (ts ++ us) (O ++ O')
  | _, _, _, _, _, _, .nil, h => h
  | _, _, _, _, _, _, .cons (f := g) a b, h => by
    have z := TRf.cons (f := g) a (TRf.append b h)
    rw [List.append_assoc]
    exact z
/-- a list at a place -/
theorem Pl.list {F : Hp} {σ : L2.St} {A : List (Addr × HO)} {v : V} {ts : List T} (pl : Pl K F σ env A n π v) (hg : getAt env n π = some (.lst na ts)) :
    ∃ p vs P A1 A2, v = .ref p ∧ A = A1 ++ (((p, .lst vs) :: P) ++ A2) ∧ TRs K F vs ts P ∧
      ∀ (F' : Hp) (vs' : List V) (ts' : List T) (P' : List (Addr × HO)), Same F F' → TRs K F' vs' ts' P' → Match K F' σ (putAt env n π (.lst na ts')) (A1 ++ (((p, .lst vs') :: P') ++ A2)) := by
  obtain ⟨t, A1, O1, A2, g1, e, g3, g4⟩ := pl
  rw [hg] at g1
  cases g1
  cases g3 with
  | @lst _ p vs _ P nm hs => exact ⟨p, vs, P, A1, A2, rfl, e, hs, fun F' vs' ts' P' s hs' => g4 F' _ _ s (.lst nm hs')⟩
/-- .. an instance -/
theorem Pl.inst {F : Hp} {σ : L2.St} {A : List (Addr × HO)} {v : V} {C : Addr} {fs : List (Str × T)} (pl : Pl K F σ env A n π v) (hg : getAt env n π = some (.ins na C fs)) :
    ∃ p dx us P A1 A2, v = .ref p ∧ A = A1 ++ (((p, .ins C dx us) :: (dx, .own p) :: P) ++ A2) ∧ TRf K F us fs P ∧
      ∀ (F' : Hp) (us' : List (Str × V)) (fs' : List (Str × T)) (P' : List (Addr × HO)), Same F F' → TRf K F' us' fs' P' → Match K F' σ (putAt env n π (.ins na C fs')) (A1 ++ (((p, .ins C dx us') :: (dx, .own p) :: P') ++ A2)) := by
  obtain ⟨t, A1, O1, A2, g1, e, g3, g4⟩ := pl
  rw [hg] at g1
  cases g1
  cases g3 with
  | @ins _ p _ dx us _ P nm hs => exact ⟨p, dx, us, P, A1, A2, rfl, e, hs, fun F' us' fs' P' s hs' => g4 F' _ _ s (TR.ins (C := C) (dx := dx) nm hs')⟩
theorem Pl.dK {F : Hp} {σ : L2.St} {A : List (Addr × HO)} {v : V} {kvs : List (L2.Key × D)} (pl : Pl K F σ env A n π v) (hg : getAt env n π = some (.dK na kvs)) :
    ∃ p us A1 A2, v = .ref p ∧ A = A1 ++ ([(p, .dK us)] ++ A2) ∧ Datm K F us kvs ∧
      ∀ (F' : Hp) (us' : List (L2.Key × V)) (kvs' : List (L2.Key × D)), Same F F' → Datm K F' us' kvs' → Match K F' σ (putAt env n π (.dK na kvs')) (A1 ++ ([(p, .dK us')] ++ A2)) := by
  obtain ⟨t, A1, O1, A2, g1, e, g3, g4⟩ := pl
  rw [hg] at g1
  cases g1
  cases g3 with
  | @dK _ p us _ nm hs => exact ⟨p, us, A1, A2, rfl, e, hs, fun F' us' kvs' s hs' => g4 F' _ _ s (.dK nm hs')⟩
theorem Pl.dT {F : Hp} {σ : L2.St} {A : List (Addr × HO)} {v : V} {kvs : List (List L2.Key × D)} (pl : Pl K F σ env A n π v) (hg : getAt env n π = some (.dT na kvs)) :
    ∃ p us A1 A2, v = .ref p ∧ A = A1 ++ ([(p, .dT us)] ++ A2) ∧ Datm K F us kvs ∧
      ∀ (F' : Hp) (us' : List (List L2.Key × V)) (kvs' : List (List L2.Key × D)), Same F F' → Datm K F' us' kvs' → Match K F' σ (putAt env n π (.dT na kvs')) (A1 ++ ([(p, .dT us')] ++ A2)) := by
  obtain ⟨t, A1, O1, A2, g1, e, g3, g4⟩ := pl
  rw [hg] at g1
  cases g1
  cases g3 with
  | @dT _ p us _ nm hs => exact ⟨p, us, A1, A2, rfl, e, hs, fun F' us' kvs' s hs' => g4 F' _ _ s (.dT nm hs')⟩
/-- an object within what is owned given other contents; what it owned and what is new go over -/
theorem own_upd {F H : Hp} {p : Addr} {o o' : HO} {A1 A2 O R P P' M : List (Addr × HO)} (hP : ∃ S : List (Addr × HO), S.Sublist (R ++ P) ∧ S.Perm P') (w : Own F H (R ++ ((A1 ++ (((p, o) :: (M ++ P)) ++ A2)) ++ O))) :
    Own F (upd H p o') ((A1 ++ (((p, o') :: (M ++ P')) ++ A2)) ++ O) := by
  obtain ⟨S, s1, s2⟩ := hP
  have w2 : Own F H ((p, o) :: ((R ++ P) ++ (M ++ (A1 ++ (A2 ++ O))))) := w.perm (by
    have e1 : R ++ ((A1 ++ (((p, o) :: (M ++ P)) ++ A2)) ++ O) = (R ++ A1) ++ ((p, o) :: ((M ++ P) ++ (A2 ++ O))) := by simp
    rw [e1]
    refine List.perm_middle.trans (List.Perm.cons _ ?_)
    have e2 : (R ++ A1) ++ ((M ++ P) ++ (A2 ++ O)) = R ++ (A1 ++ ((M ++ P) ++ (A2 ++ O))) := by simp
    have e3 : (R ++ P) ++ (M ++ (A1 ++ (A2 ++ O))) = R ++ (P ++ (M ++ (A1 ++ (A2 ++ O)))) := by simp
    rw [e2, e3]
    refine List.Perm.append_left R ?_
    refine (perm_front A1 (M ++ P) (A2 ++ O)).trans ?_
    rw [List.append_assoc]
    exact perm_front M P _)
  have w3 := (w2.sub ((s1.append (List.Sublist.refl _)).cons₂ _)).put (o' := o')
  refine w3.perm ?_
  have e1 : (A1 ++ (((p, o') :: (M ++ P')) ++ A2)) ++ O = A1 ++ ((p, o') :: ((M ++ P') ++ (A2 ++ O))) := by simp
  rw [e1]
  refine List.Perm.trans (List.Perm.cons _ ?_) List.perm_middle.symm
  refine (List.Perm.append_right _ s2).trans ?_
  have e2 : P' ++ (M ++ (A1 ++ (A2 ++ O))) = P' ++ (M ++ (A1 ++ (A2 ++ O))) := rfl
  refine (perm_front P' M _).trans ?_
  have e3 : M ++ (P' ++ (A1 ++ (A2 ++ O))) = (M ++ P') ++ (A1 ++ (A2 ++ O)) := by simp
  rw [e3]
  exact perm_front _ _ _
theorem own_updL {F H : Hp} {p : Addr} {o o' : HO} {A1 A2 O R P P' : List (Addr × HO)} (hP : ∃ S : List (Addr × HO), S.Sublist (R ++ P) ∧ S.Perm P') (w : Own F H (R ++ ((A1 ++ (((p, o) :: P) ++ A2)) ++ O))) :
    Own F (upd H p o') ((A1 ++ (((p, o') :: P') ++ A2)) ++ O) := own_upd (M := []) hP w
variable (K) in
/-- a new tree, the frame's own untouched -/
def EW (te : TE) (env : List Slot) (x : T) : Prop := ∀ (σ : L2.St) (F H : Hp) (A O : List (Addr × HO)), Match K F σ env A → Own F H (A ++ O) → ∀ Q : VK,
  (∀ v O1 F' H', Same F F' → Own F' H' (O1 ++ (A ++ O)) → TR K F' v x O1 → Q v H') → te σ H Q
theorem ew_ev (h : EV K te env d) : EW K te env (.dat d) := fun σ F H A O m w Q q => h σ F H A O m w Q fun v F' H' s w' dd => q v [] F' H' s w' (.dat dd)
theorem ew_en (h : EN K te env ds) : EW K te env (.lst none (ds.map T.dat)) := fun σ F H A O m w Q q => h σ F H A O m w Q fun p vs F' H' s w' dd => q _ [(p, .lst vs)] F' H' s w' (.lst (fun _ z => nomatch z) dd.tree)
theorem ew_en2 {os : List OD} (h : EN2 K te env os) : EW K te env (.lst none (os.map OD.toT)) := fun σ F H A O m w Q q => h σ F H A O m w Q fun p vs F' H' O1 s w' dd => q _ ((p, .lst vs) :: O1) F' H' s w' (.lst (fun _ z => nomatch z) dd.tree)
theorem EW.m (h : EW K te env x) : EM K te env x env := fun σ F H A O m w Q q => h σ F H A O m w Q fun v O1 F' H' s w' dd => q v O1 F' H' A s (m.up s) w' dd
/-- place.append(e) -/
theorem sw_appP {ts : List T} (hp : EP K ta env n π) (hg : getAt env n π = some (.lst na ts)) (hl : ts.length < 16777216) (he : EW K te env x) (hn : Nx (putAt env n π (.lst na (ts ++ [x])))) :
    SW K E (tDrop (tBM K "list" rAppend ta (tCons te tNil))) env Nx Rt Ex := fun σ F H A O m w Dn q1 q2 q4 =>
  hp σ F H A O m w _ fun v F1 H1 s1 w1 pl => by
    obtain ⟨p, vs, P, A1, A2, rfl, e, hs, hr⟩ := pl.list hg
    refine ⟨.inl ⟨rfl, vs, .of (w1.has (p, .lst vs) (by rw [e]; simp)).2⟩, he σ F1 H1 A O (m.up s1) w1 _ fun v O1 F2 H2 s2 w2 d2 => ?_⟩
    refine ⟨p, vs, v, rfl, rfl, (w2.has (p, .lst vs) (by rw [e]; simp)).2, by rw [hs.length, sizeLine_eq]; exact hl, ?_⟩
    subst e
    have z := TRs.append (hs.up s2) (TRs.cons d2 .nil)
    exact q1 _ σ F2 _ _ hn (s1.trans s2) (hr F2 _ _ _ s2 z) (own_updL ⟨O1 ++ P, List.Sublist.refl _, by rw [List.append_nil]; exact List.perm_append_comm⟩ w2)
/-- place[i] = e -/
theorem sw_putP {ts : List T} {k : Nat} (he : EW K te env x) (hp : EP K ta env n π) (hg : getAt env n π = some (.lst na ts)) (hi : EV K ti env (dI i)) (hk : ixP ts.length i = some k) (hn : Nx (putAt env n π (.lst na (ts.set k x)))) :
    SW K E (tAsg te (gSub ta ti rSetL)) env Nx Rt Ex := fun σ F H A O m w Dn q1 q2 q4 =>
  he σ F H A O m w _ fun v O1 F1 H1 s1 w1 d1 => by
    refine hp σ F1 H1 A (O1 ++ O) (m.up s1) w1.front _ fun u F2 H2 s2 w2 pl => hi σ F2 H2 A (O1 ++ O) (m.up (s1.trans s2)) w2 _ fun y F3 H3 s3 w3 d3 => ?_
    obtain ⟨p, vs, P, A1, A2, rfl, e, hs, hr⟩ := (pl.up s3).list hg
    refine ⟨p, vs, i, k, rfl, d3.int, (w3.has (p, .lst vs) (by rw [e]; simp)).2, by rw [← ixP_ixN, hs.length]; exact hk, ?_⟩
    subst e
    have hlt := (ixP_some hk).1
    obtain ⟨y, hy⟩ : ∃ y, ts[k]? = some y := ⟨ts[k], by simp [hlt]⟩
    obtain ⟨v', B1, P1, B2, e2, r1, r2, r3⟩ := TRs.atV hs hy
    subst e2
    have z := r3 F3 v x O1 (Same.refl F3) (d1.up (s2.trans s3))
    refine q1 _ σ F3 _ _ hn (s1.trans (s2.trans s3)) (hr F3 _ _ _ (Same.refl F3) z) (own_updL ⟨O1 ++ (B1 ++ B2), (List.Sublist.refl O1).append ((List.Sublist.refl B1).append (List.sublist_append_right P1 B2)), perm_front _ _ _⟩ w3.front)
/-- place.f = e, a field that is there -/
theorem putF_set {f : Str} {v : V} : ∀ {us : List (Str × V)}, (us.lookup f).isSome = true → putF f v us = setF f v us
  | [], h => by simp at h
  | (g, y) :: us, h => by
    unfold putF setF
    by_cases e : g = f
    · subst e
      rw [if_pos rfl, if_pos (by simp)]
    · have e2 : ¬ (f == g) = true := by simp; exact fun z => e z.symm
      rw [if_neg e, if_neg e2, putF_set (by rw [List.lookup_cons, show (f == g) = false by simpa using e2] at h; exact h)]
theorem putF_new {f : Str} {v : V} : ∀ {us : List (Str × V)}, us.lookup f = none → putF f v us = us ++ [(f, v)]
  | [], h => rfl
  | (g, y) :: us, h => by
    unfold putF
    by_cases e : g = f
    · subst e
      simp at h
    · have e2 : ¬ (f == g) = true := by simp; exact fun z => e z.symm
      rw [if_neg e, putF_new (by rw [List.lookup_cons, show (f == g) = false by simpa using e2] at h; exact h)]
      rfl
theorem sw_fldP {C : Addr} {fs : List (Str × T)} {f : Str} (he : EW K te env x) (hp : EP K ta env n π) (hg : getAt env n π = some (.ins na C fs)) (hc : Cls K C) (hna : NoAttr K C f) (hl : fs.length < 1000) (hf : (fs.lookup f).isSome = true) (hn : Nx (putAt env n π (.ins na C (setF f x fs)))) :
    SW K E (sFld K ta te f) env Nx Rt Ex := fun σ F H A O m w Dn q1 q2 q4 =>
  he σ F H A O m w _ fun v O1 F1 H1 s1 w1 d1 => by
    refine hp σ F1 H1 A (O1 ++ O) (m.up s1) w1.front _ fun u F2 H2 s2 w2 pl => ?_
    obtain ⟨p, dx, us, P, A1, A2, rfl, e, hs, hr⟩ := pl.inst hg
    refine ⟨p, C, dx, us, rfl, (w2.has (p, .ins C dx us) (by rw [e]; simp)).2, hc, hna, by rw [hs.length]; exact hl, ?_⟩
    subst e
    obtain ⟨y, hy⟩ := Option.isSome_iff_exists.mp hf
    obtain ⟨v', B1, P1, B2, e2, r1, r2, r3⟩ := TRf.atV hs hy
    subst e2
    rw [putF_set (by rw [r1]; rfl)]
    have z := r3 F2 v x O1 (Same.refl F2) (d1.up s2)
    refine q1 _ σ F2 _ _ hn (s1.trans s2) (hr F2 _ _ _ (Same.refl F2) z) (own_upd (M := [(dx, .own p)]) ⟨O1 ++ (B1 ++ B2), (List.Sublist.refl O1).append ((List.Sublist.refl B1).append (List.sublist_append_right P1 B2)), perm_front _ _ _⟩ w2.front)
/-- .. a new one -/
theorem sw_fldN {C : Addr} {fs : List (Str × T)} {f : Str} (he : EW K te env x) (hp : EP K ta env n π) (hg : getAt env n π = some (.ins na C fs)) (hc : Cls K C) (hna : NoAttr K C f) (hl : fs.length < 1000) (hf : fs.lookup f = none) (hn : Nx (putAt env n π (.ins na C (fs ++ [(f, x)])))) :
    SW K E (sFld K ta te f) env Nx Rt Ex := fun σ F H A O m w Dn q1 q2 q4 =>
  he σ F H A O m w _ fun v O1 F1 H1 s1 w1 d1 => by
    refine hp σ F1 H1 A (O1 ++ O) (m.up s1) w1.front _ fun u F2 H2 s2 w2 pl => ?_
    obtain ⟨p, dx, us, P, A1, A2, rfl, e, hs, hr⟩ := pl.inst hg
    refine ⟨p, C, dx, us, rfl, (w2.has (p, .ins C dx us) (by rw [e]; simp)).2, hc, hna, by rw [hs.length]; exact hl, ?_⟩
    subst e
    rw [putF_new (hs.none hf)]
    have z := TRf.append hs (TRf.cons (f := f) (d1.up s2) .nil)
    refine q1 _ σ F2 _ _ hn (s1.trans s2) (hr F2 _ _ _ (Same.refl F2) z) (own_upd (M := [(dx, .own p)]) ⟨O1 ++ P, List.Sublist.refl _, by rw [List.append_nil]; exact List.perm_append_comm⟩ w2.front)
end
end Pg

set_option Elab.async false
set_option linter.all false
set_option maxRecDepth 100000
namespace Pg
open PySem PySem.Spec PyProof.Rows L2
section
variable {K : PySem.W.Frag} {E : WX} {env env1 env2 env' : List Slot} {t u : TS} {te ta tb ti : TE} {tt : TT} {x y : T} {d e : D} {ds es : List D} {i j : Int} {n : Nat} {π : List Stp} {Nx : List Slot → Prop} {Rt : List Slot → T → Prop} {Ex : List Slot → Value → Prop} {g : TG} {na : Option Addr}
/-! ### xs.append(e), where e changes what is owned -/
theorem sw_appM {ts ts1 : List T} {envq : Addr → List Slot} (h : env[n]? = some (.tr (.lst na ts))) (he : ∀ q, EM K te (env.set n (.tr (.lst (some q) ts))) x (envq q)) (h1 : ∀ q, (envq q)[n]? = some (.tr (.lst (some q) ts1))) (hl : ts1.length < 16777216)
    (hn : ∀ q, Nx ((envq q).set n (.tr (.lst na (ts1 ++ [x]))))) : SW K E (tDrop (tBM K "list" rAppend (tVar n) (tCons te tNil))) env Nx Rt Ex := fun σ F H A O m w Dn q1 q2 q4 => by
  obtain ⟨v, O1, A1, A2, e, g1, g2, g3, _, _⟩ := m.getT h
  cases g2 with
  | @lst _ p vs _ P nm hs =>
    have m2 := g3 F _ _ (Same.refl F) (.lst (a := some p) (fun _ z => Option.some.inj z) hs)
    refine ⟨_, g1, .inl ⟨rfl, vs, .of (w.has (p, .lst vs) (by rw [e]; simp)).2⟩, ?_⟩
    refine he p σ F H _ O m2 (by rw [← e]; exact w) _ fun v O2 F2 H2 A' s2 m' w2 d2 => ?_
    obtain ⟨v', O3, B1, B2, e2, r1, r2, r3, _, _⟩ := m'.getT (h1 p)
    rw [g1] at r1
    cases r1
    cases r2 with
    | @lst _ _ vs2 _ P2 nm2 hs2 =>
      refine ⟨p, vs2, v, rfl, rfl, (w2.has (p, .lst vs2) (by rw [e2]; simp)).2, by rw [hs2.length, sizeLine_eq]; exact hl, ?_⟩
      have z := TRs.append hs2 (TRs.cons d2 .nil)
      subst e2
      exact q1 _ σ F2 _ _ (hn p) s2 (r3 F2 _ _ (Same.refl F2) (.lst nm z)) (own_updL ⟨O2 ++ P2, List.Sublist.refl _, by rw [List.append_nil]; exact List.perm_append_comm⟩ w2)
/-! ### pops -/
theorem popR_some {α : Type} {xs ys : List α} (h : popR xs = .ok ys) : xs ≠ [] ∧ ys = xs.dropLast := by
  unfold popR at h
  split at h
  · cases h
  · rename_i z
    exact ⟨fun q => z (by rw [q]; rfl), (R.ok_inj h).symm⟩
theorem TRs.dropLast {F : Hp} : ∀ {vs : List V} {ts : List T} {O : List (Addr × HO)}, TRs K F vs ts O → ∃ O', O'.Sublist O ∧ TRs K F vs.dropLast ts.dropLast O'
  | _, _, _, .nil => ⟨[], .slnil, .nil⟩
  | _, _, _, .cons (vs := []) (ts := []) a .nil => ⟨[], List.nil_sublist _, .nil⟩
  | _, _, _, .cons (vs := v :: vs) (ts := t :: ts) a b => by
    obtain ⟨O', s, h⟩ := TRs.dropLast b
    exact ⟨_, (List.Sublist.refl _).append s, .cons a h⟩
/-- place.pop() -/
theorem sw_popP {ts : List T} (hp : EP K ta env n π) (hg : getAt env n π = some (.lst na ts)) (h0 : ts ≠ []) (hn : Nx (putAt env n π (.lst na ts.dropLast))) :
    SW K E (tDrop (tBM0 K "list" rPop ta)) env Nx Rt Ex := fun σ F H A O m w Dn q1 q2 q4 =>
  hp σ F H A O m w _ fun v F1 H1 s1 w1 pl => by
    obtain ⟨p, vs, P, A1, A2, rfl, e, hs, hr⟩ := pl.list hg
    have hH := (w1.has (p, .lst vs) (by rw [e]; simp)).2
    have hl := hs.length
    have hpos : 0 < vs.length := by rw [hl]; exact List.length_pos_iff.mpr h0
    refine ⟨.inl ⟨rfl, vs, .of hH⟩, p, vs, vs[vs.length - 1], rfl, rfl, hH, by simp, ?_⟩
    obtain ⟨O', s, h⟩ := TRs.dropLast hs
    subst e
    exact q1 _ σ F1 _ _ hn s1 (hr F1 _ _ _ (Same.refl F1) h) (own_updL (R := []) ⟨O', s, List.Perm.refl _⟩ w1)
/-! ### dicts -/
section
variable {κ κ' β : Type} [DecidableEq κ] [DecidableEq κ']
theorem Datm.any {F : Hp} (k : κ) : ∀ {us : List (κ × V)} {kvs : List (κ × D)}, Datm K F us kvs → (us.any fun p => decide (p.1 = k)) = hasA kvs k
  | _, _, .nil => rfl
  | _, _, .cons _ b => by
    unfold hasA
    rw [List.any_cons, List.any_cons, Datm.any k b]; rfl
theorem Datm.isSome {F : Hp} {k : κ} {us : List (κ × V)} {kvs : List (κ × D)} (h : Datm K F us kvs) : (valV us k).isSome = hasA kvs k := by rw [← valV_any, h.any k]
theorem Datm.getS {F : Hp} {k : κ} {d : D} : ∀ {us : List (κ × V)} {kvs : List (κ × D)}, Datm K F us kvs → getA kvs k = some d → ∃ v, valV us k = some v ∧ Dat K F v d
  | _, _, .nil, e => by simp [getA] at e
  | _, _, .cons (f := f) a b, e => by
    by_cases hf : f = k
    · subst hf
      unfold getA at e
      rw [List.find?_cons, decide_eq_true rfl] at e
      have e : some _ = some d := e
      cases e
      exact ⟨_, valV_pos rfl, a⟩
    · unfold getA at e
      rw [List.find?_cons, decide_eq_false hf] at e
      obtain ⟨v, h1, h2⟩ := Datm.getS b e
      exact ⟨v, by rw [valV_neg hf]; exact h1, h2⟩
theorem Datm.map {F : Hp} {k : κ} {v : V} {d : D} (hd : Dat K F v d) : ∀ {us : List (κ × V)} {kvs : List (κ × D)}, Datm K F us kvs → Datm K F (us.map fun p => if p.1 = k then (p.1, v) else p) (kvs.map fun p => if p.1 = k then (p.1, d) else p)
  | _, _, .nil => .nil
  | _, _, .cons (f := f) a b => by
    rw [List.map_cons, List.map_cons]
    by_cases hf : f = k
    · rw [if_pos hf, if_pos hf]; exact .cons hd (Datm.map hd b)
    · rw [if_neg hf, if_neg hf]; exact .cons a (Datm.map hd b)
theorem Datm.snoc {F : Hp} {k : κ} {v : V} {d : D} (hd : Dat K F v d) : ∀ {us : List (κ × V)} {kvs : List (κ × D)}, Datm K F us kvs → Datm K F (us ++ [(k, v)]) (kvs ++ [(k, d)])
  | _, _, .nil => .cons hd .nil
  | _, _, .cons a b => .cons a (Datm.snoc hd b)
theorem Datm.put {F : Hp} {k : κ} {v : V} {d : D} {us : List (κ × V)} {kvs : List (κ × D)} (h : Datm K F us kvs) (hd : Dat K F v d) : Datm K F (putK us k v) (putA kvs k d) := by
  unfold putK putA
  rw [h.any k]
  unfold hasA
  split
  · exact Datm.map hd h
  · exact Datm.snoc hd h
theorem Datm.length {F : Hp} : ∀ {us : List (κ × V)} {kvs : List (κ × D)}, Datm K F us kvs → us.length = kvs.length
  | _, _, .nil => rfl
  | _, _, .cons _ b => by rw [List.length_cons, List.length_cons, Datm.length b]
/-- a dict's pairs as data -/
def repK (kr : κ → κ') (r : β → D) (xs : List (κ × β)) : List (κ' × D) := xs.map fun p => (kr p.1, r p.2)
theorem repK_any {kr : κ → κ'} {r : β → D} (hk : ∀ a b, kr a = kr b → a = b) (k : κ) : ∀ xs : List (κ × β), hasA (repK kr r xs) (kr k) = hasA xs k
  | [] => rfl
  | p :: xs => by
    have ih := repK_any (r := r) hk k xs
    unfold hasA repK at ih ⊢
    rw [List.map_cons, List.any_cons, List.any_cons, ih]
    congr 1
    by_cases h : p.1 = k
    · rw [decide_eq_true h, decide_eq_true (by rw [h])]
    · rw [decide_eq_false h, decide_eq_false fun z => h (hk _ _ z)]
theorem repK_put {kr : κ → κ'} {r : β → D} (hk : ∀ a b, kr a = kr b → a = b) (k : κ) (v : β) (xs : List (κ × β)) : repK kr r (putA xs k v) = putA (repK kr r xs) (kr k) (r v) := by
  have ha := repK_any (r := r) hk k xs
  unfold hasA at ha
  unfold putA
  rw [ha]
  split
  · unfold repK
    rw [List.map_map, List.map_map]
    refine List.map_congr_left fun p _ => ?_
    show (kr (if p.1 = k then (p.1, v) else p).1, r (if p.1 = k then (p.1, v) else p).2) = if kr p.1 = kr k then (kr p.1, r v) else (kr p.1, r p.2)
    by_cases h : p.1 = k
    · rw [if_pos h, if_pos (by rw [h])]
    · rw [if_neg h, if_neg fun z => h (hk _ _ z)]
  · unfold repK
    rw [List.map_append]; rfl
theorem repK_get {kr : κ → κ'} {r : β → D} (hk : ∀ a b, kr a = kr b → a = b) (k : κ) {v : β} : ∀ {xs : List (κ × β)}, getA xs k = some v → getA (repK kr r xs) (kr k) = some (r v)
  | [], e => by simp [getA] at e
  | p :: xs, e => by
    unfold getA repK at *
    rw [List.map_cons]
    rw [List.find?_cons] at e ⊢
    by_cases h : p.1 = k
    · rw [decide_eq_true h] at e
      rw [decide_eq_true (show kr p.1 = kr k by rw [h])]
      simp only at e ⊢
      have e : some p.2 = some v := e
      cases e; rfl
    · rw [decide_eq_false h] at e
      rw [decide_eq_false fun z => h (hk _ _ z)]
      exact repK_get hk k e
end
theorem putR_some {κ β : Type} [DecidableEq κ] {xs ys : List (κ × β)} {k : κ} {v : β} (h : putR xs k v = .ok ys) : xs.length < 16777216 ∧ ys = putA xs k v := by
  unfold putR at h
  split at h
  · exact ⟨by assumption, (R.ok_inj h).symm⟩
  · cases h
theorem ew_dK : EW K tDNewK env (.dK none []) := fun σ F H A O m w Q q p np => q _ [(p, .dK [])] F _ (Same.refl F) (w.new np) (.dK (fun _ z => nomatch z) .nil)
theorem ew_dT : EW K tDNewT env (.dT none []) := fun σ F H A O m w Q q p np => q _ [(p, .dT [])] F _ (Same.refl F) (w.new np) (.dT (fun _ z => nomatch z) .nil)
abbrev kT2 (p : Int × Int) : List L2.Key := [.inl p.1, .inl p.2]
theorem kT2_inj : ∀ a b : Int × Int, kT2 a = kT2 b → a = b := fun a b h => by
  injection h with h1 h2
  injection h2 with h2 _
  exact Prod.ext (Sum.inl.inj h1) (Sum.inl.inj h2)
/-- a tuple key written in its place -/
theorem tup_key {F H : Hp} {A O : List (Addr × HO)} {σ : L2.St} (hi : EV K ta env (dI i)) (hj : EV K tb env (dI j)) (m : Match K F σ env A) (w : Own F H (A ++ O)) {Q : VK}
    (q : ∀ b F' H', Same F F' → Own F' H' (A ++ O) → F' b = some (.tup ((kT2 (i, j)).map kV)) → Q (.ref b) H') : tTup (tCons ta (tCons tb tNil)) σ H Q :=
  hi σ F H A O m w _ fun v F1 H1 s1 w1 d1 => hj σ F1 H1 A O (m.up s1) w1 _ fun v2 F2 H2 s2 w2 d2 => ⟨by show 2 ≤ sizeLine; exact Nat.le_of_ble_eq_true rfl, fun p np => by
    obtain ⟨w3, s3⟩ := w2.newF (o := .tup [v, v2]) np
    refine q p _ _ (s1.trans (s2.trans s3)) w3 ?_
    rw [upd_same, d1.int, d2.int]; rfl⟩
/-- (a, b) in d -/
theorem ev_inT {β : Type} {r : β → D} {xs : List ((Int × Int) × β)} {td : TE} (hi : EV K ta env (dI i)) (hj : EV K tb env (dI j)) (hp : EP K td env n π) (hg : getAt env n π = some (.dT na (repK kT2 r xs))) :
    EV K (tDIn (tTup (tCons ta (tCons tb tNil))) td) env (dB (hasA xs (i, j))) := fun σ F H A O m w Q q =>
  tup_key hi hj m w fun b F1 H1 s1 w1 hb => hp σ F1 H1 A O (m.up s1) w1 _ fun v F2 H2 s2 w2 pl => by
    obtain ⟨p, us, A1, A2, rfl, e, hs, _⟩ := pl.dT hg
    have hH := (w2.has (p, .dT us) (by rw [e]; simp)).2
    refine ⟨p, _, rfl, DGet.t hH (w2.same _ _ (s2 _ _ hb)), ?_⟩
    rw [hs.isSome, repK_any kT2_inj]
    exact q _ F2 H2 (s1.trans s2) w2 (.v _)
theorem ev_notinT {β : Type} {r : β → D} {xs : List ((Int × Int) × β)} {td : TE} (hi : EV K ta env (dI i)) (hj : EV K tb env (dI j)) (hp : EP K td env n π) (hg : getAt env n π = some (.dT na (repK kT2 r xs))) :
    EV K (tDNotIn (tTup (tCons ta (tCons tb tNil))) td) env (dB (!hasA xs (i, j))) := fun σ F H A O m w Q q =>
  tup_key hi hj m w fun b F1 H1 s1 w1 hb => hp σ F1 H1 A O (m.up s1) w1 _ fun v F2 H2 s2 w2 pl => by
    obtain ⟨p, us, A1, A2, rfl, e, hs, _⟩ := pl.dT hg
    have hH := (w2.has (p, .dT us) (by rw [e]; simp)).2
    refine ⟨p, _, rfl, DGet.t hH (w2.same _ _ (s2 _ _ hb)), ?_⟩
    rw [hs.isSome, repK_any kT2_inj]
    exact q _ F2 H2 (s1.trans s2) w2 (.v _)
/-- d[(a, b)] = e -/
theorem sw_dputT {β : Type} {r : β → D} {xs ys : List ((Int × Int) × β)} {td tv : TE} {b : β} (hx : putR xs (i, j) b = .ok ys) (hv : EV K tv env (r b)) (hp : EP K td env n π) (hg : getAt env n π = some (.dT na (repK kT2 r xs))) (hi : EV K ta env (dI i)) (hj : EV K tb env (dI j)) (hn : Nx (putAt env n π (.dT na (repK kT2 r ys)))) :
    SW K E (sDPut td (tTup (tCons ta (tCons tb tNil))) tv) env Nx Rt Ex := fun σ F H A O m w Dn q1 q2 q4 =>
  hv σ F H A O m w _ fun v F0 H0 s0 w0 d0 => hp σ F0 H0 A O (m.up s0) w0 _ fun u F1 H1 s1 w1 pl => tup_key hi hj (m.up (s0.trans s1)) w1 fun b' F2 H2 s2 w2 hb => by
    obtain ⟨hl, ey⟩ := putR_some hx
    subst ey
    obtain ⟨p, us, A1, A2, rfl, e, hs, hr⟩ := (pl.up s2).dT hg
    have hH := (w2.has (p, .dT us) (by rw [e]; simp)).2
    have z := hs.put (k := kT2 (i, j)) (d0.up (s1.trans s2))
    rw [← repK_put kT2_inj] at z
    refine ⟨p, _, rfl, DPut.t hH (w2.same _ _ hb) (by rw [hs.length, sizeLine_eq]; unfold repK; rw [List.length_map]; exact hl), ?_⟩
    subst e
    exact q1 _ σ F2 _ _ hn (s0.trans (s1.trans s2)) (hr F2 _ _ (Same.refl F2) z) (own_updL (R := []) (P := []) (P' := []) ⟨[], List.Sublist.refl _, List.Perm.refl _⟩ w2)
/-! ### dicts by whole numbers -/
abbrev kI (i : Int) : L2.Key := .inl i
theorem kI_inj : ∀ a b : Int, kI a = kI b → a = b := fun a b h => Sum.inl.inj h
theorem kV_I (i : Int) : kV (kI i) = .int i := rfl
theorem ev_inI {β : Type} {r : β → D} {xs : List (Int × β)} {td : TE} (hi : EV K ta env (dI i)) (hp : EP K td env n π) (hg : getAt env n π = some (.dK na (repK kI r xs))) :
    EV K (tDIn ta td) env (dB (hasA xs i)) := fun σ F H A O m w Q q =>
  hi σ F H A O m w _ fun y F1 H1 s1 w1 d1 => hp σ F1 H1 A O (m.up s1) w1 _ fun v F2 H2 s2 w2 pl => by
    obtain ⟨p, us, A1, A2, rfl, e, hs, _⟩ := pl.dK hg
    have hH := (w2.has (p, .dK us) (by rw [e]; simp)).2
    have g := DGet.k (k := kI i) hH
    rw [d1.int]
    refine ⟨p, _, rfl, g, ?_⟩
    rw [hs.isSome, repK_any kI_inj]
    exact q _ F2 H2 (s1.trans s2) w2 (.v _)
theorem ev_notinI {β : Type} {r : β → D} {xs : List (Int × β)} {td : TE} (hi : EV K ta env (dI i)) (hp : EP K td env n π) (hg : getAt env n π = some (.dK na (repK kI r xs))) :
    EV K (tDNotIn ta td) env (dB (!hasA xs i)) := fun σ F H A O m w Q q =>
  hi σ F H A O m w _ fun y F1 H1 s1 w1 d1 => hp σ F1 H1 A O (m.up s1) w1 _ fun v F2 H2 s2 w2 pl => by
    obtain ⟨p, us, A1, A2, rfl, e, hs, _⟩ := pl.dK hg
    have hH := (w2.has (p, .dK us) (by rw [e]; simp)).2
    have g := DGet.k (k := kI i) hH
    rw [d1.int]
    refine ⟨p, _, rfl, g, ?_⟩
    rw [hs.isSome, repK_any kI_inj]
    exact q _ F2 H2 (s1.trans s2) w2 (.v _)
theorem sw_dputI {β : Type} {r : β → D} {xs ys : List (Int × β)} {td tv : TE} {b : β} (hx : putR xs i b = .ok ys) (hv : EV K tv env (r b)) (hp : EP K td env n π) (hg : getAt env n π = some (.dK na (repK kI r xs))) (hi : EV K ta env (dI i)) (hn : Nx (putAt env n π (.dK na (repK kI r ys)))) :
    SW K E (sDPut td ta tv) env Nx Rt Ex := fun σ F H A O m w Dn q1 q2 q4 =>
  hv σ F H A O m w _ fun v F0 H0 s0 w0 d0 => hp σ F0 H0 A O (m.up s0) w0 _ fun u F1 H1 s1 w1 pl => hi σ F1 H1 A O (m.up (s0.trans s1)) w1 _ fun y F2 H2 s2 w2 d2 => by
    obtain ⟨hl, ey⟩ := putR_some hx
    subst ey
    obtain ⟨p, us, A1, A2, rfl, e, hs, hr⟩ := (pl.up s2).dK hg
    have hH := (w2.has (p, .dK us) (by rw [e]; simp)).2
    have z := hs.put (k := kI i) (d0.up (s1.trans s2))
    rw [← repK_put kI_inj] at z
    have g := DPut.k (k := kI i) (v := v) hH (by rw [hs.length, sizeLine_eq]; unfold repK; rw [List.length_map]; exact hl)
    rw [d2.int]
    refine ⟨p, _, rfl, g, ?_⟩
    subst e
    exact q1 _ σ F2 _ _ hn (s0.trans (s1.trans s2)) (hr F2 _ _ (Same.refl F2) z) (own_updL (R := []) (P := []) (P' := []) ⟨[], List.Sublist.refl _, List.Perm.refl _⟩ w2)
/-! ### lists of what may be missing -/
theorem dL_some {α : Type} {r : α → D} (xs : List α) : xs.map r = (xs.map some).map (dO r) := by rw [List.map_map]; rfl
theorem ev_optL {α : Type} {r : α → D} {xs : List α} (h : EV K te env (dL r xs)) : EV K te env (dL (dO r) (xs.map some)) := by
  have : dL (dO r) (xs.map some) = dL r xs := by show D.lst _ = D.lst _; rw [← dL_some]
  rw [this]; exact h
theorem en_optL {α : Type} {r : α → D} {xs : List α} (h : EN K te env (xs.map r)) : EN K te env ((xs.map some).map (dO r)) := by rw [← dL_some]; exact h
theorem en2_optL {α : Type} {r : α → D} {xss : List (List α)} (h : EN2 K te env (xss.map (oL r))) : EN2 K te env ((xss.map (·.map some)).map (oL (dO r))) := by
  have : (xss.map (·.map some)).map (oL (dO r)) = xss.map (oL r) := by
    rw [List.map_map]
    refine List.map_congr_left fun xs _ => ?_
    show OD.own _ = OD.own _
    rw [← dL_some]
  rw [this]; exact h
/-! ### every row given one more -/
theorem Match.at {F : Hp} : ∀ {σ : L2.St} {env : List Slot} {A : List (Addr × HO)} (i : Nat), Match K F σ env A → i < env.length → ∃ o, σ[i]? = some o
  | _, _, _, i, m, h => by
    have := match_len m
    exact ⟨_, List.getElem?_eq_getElem (by omega)⟩
theorem match_setUn {F : Hp} : ∀ {σ : L2.St} {env : List Slot} {A : List (Addr × HO)} (i : Nat) (v : Option V), Match K F σ env A → env[i]? = some .un → Match K F (σ.set i v) env A
  | _, _, _, _, _, .nil, _ => .nil
  | _, _, _, 0, v, .un m, _ => .un m
  | _, _, _, 0, v, .dat _ m, h => by simp at h
  | _, _, _, 0, v, .tr _ m, h => by simp at h
  | _, _, _, i + 1, v, .un m, h => .un (match_setUn i v m (by simpa using h))
  | _, _, _, i + 1, v, .dat d m, h => .dat d (match_setUn i v m (by simpa using h))
  | _, _, _, i + 1, v, .tr d m, h => .tr d (match_setUn i v m (by simpa using h))
theorem appAllR_some {α : Type} {xss yss : List (List α)} {x : α} (h : appAllR xss x = .ok yss) : (∀ r ∈ xss, r.length < 16777216) ∧ yss = xss.map (· ++ [x]) := by
  unfold appAllR at h
  split at h
  · rename_i z
    exact ⟨fun r hr => of_decide_eq_true (List.all_eq_true.mp z r hr), (R.ok_inj h).symm⟩
  · cases h
/-- for r in rows: r.append(e) -/
theorem sw_appAll {α : Type} {r : α → D} {xss yss : List (List α)} {x : α} {k : Nat} (hx : appAllR xss x = .ok yss) (h : env[n]? = some (.own2N na (xss.map (oL r)))) (hk : k ≠ n) (hkl : k < env.length) (he : ∀ e, EV K te e (r x))
    (hn : Nx ((env.set k .un).set n (.own2N na (yss.map (oL r))))) : SW K E (tFor (iList K (tVar n)) (gName k) (tDrop (tBM K "list" rAppend (tVar k) (tCons te tNil)))) env Nx Rt Ex := fun σ F H A O m w Dn q1 q2 q4 => by
  obtain ⟨hl, ey⟩ := appAllR_some hx
  subst ey
  obtain ⟨A0, sb, m0⟩ := match_unset k m
  have w0 := w.subA sb
  have h0 : (env.set k .un)[n]? = some (.own2N na (xss.map (oL r))) := by rw [List.getElem?_set_ne hk]; exact h
  have hu : (env.set k .un)[k]? = some .un := by rw [List.getElem?_set_self hkl]
  obtain ⟨v, O1, A1, A2, e, g1, g2, g3, _, _⟩ := m0.getT h0
  cases g2 with
  | @lst _ p vs _ P nm hs =>
    have start := g3 F _ _ (Same.refl F) (TR.lst (a := some p) (fun _ z => Option.some.inj z) hs)
    refine ⟨_, g1, p, rfl, ⟨vs, .of (w0.has (p, .lst vs) (by rw [e]; simp)).2⟩, fun i c σ2 H2 => ∃ (F2 : Hp) (A2 : List (Addr × HO)), c + i = xss.length ∧ Same F F2 ∧ Match K F2 σ2 ((env.set k .un).set n (.own2N (some p) (((xss.take i).map (· ++ [x]) ++ xss.drop i).map (oL r)))) A2 ∧ Own F2 H2 (A2 ++ O), ?_, ?_⟩
    · refine ⟨xss.length, F, A0, rfl, Same.refl F, ?_, w0⟩
      rw [e]
      exact start
    · rintro i c σ2 H2 ⟨F2, A2', hc, s2, m2, w2⟩
      have hlen : n < (env.set k .un).length := by
        rcases Nat.lt_or_ge n (env.set k .un).length with z | z
        · exact z
        · rw [List.getElem?_eq_none z] at h0; cases h0
      have hi0 : ((env.set k .un).set n (.own2N (some p) (((xss.take i).map (· ++ [x]) ++ xss.drop i).map (oL r))))[n]? = some (.own2N (some p) (((xss.take i).map (· ++ [x]) ++ xss.drop i).map (oL r))) := by rw [List.getElem?_set_self hlen]
      obtain ⟨v2, P1, B1, B2, e2, r1, r2, r3, _, _⟩ := m2.getT hi0
      cases r2 with
      | @lst _ p2 vs2 _ P2 nm2 hs2 =>
        have := nm2 p rfl
        subst this
        have hs3 := hs2.ods
        have hp2 := (w2.has (p2, .lst vs2) (by rw [e2]; simp)).2
        have hl2 : vs2.length = xss.length := by
          have := hs3.length
          rw [List.length_map, List.length_append, List.length_map, List.length_take, List.length_drop] at this
          omega
        by_cases hi : i = xss.length
        · refine .inl ⟨⟨vs2, .of hp2, by omega⟩, ?_⟩
          have m4 := r3 F2 _ _ (Same.refl F2) (TR.lst nm hs2)
          rw [List.set_set] at m4
          have e5 : (xss.take i).map (· ++ [x]) ++ xss.drop i = xss.map (· ++ [x]) := by rw [hi]; simp
          rw [e5] at m4
          exact q1 _ σ2 F2 H2 _ hn s2 m4 (by rw [← e2]; exact w2)
        · have hlt : i < xss.length := by omega
          have hrow : ((xss.take i).map (· ++ [x]) ++ xss.drop i)[i]? = some xss[i] := by
            rw [List.getElem?_append_right (by simp; omega)]
            simp [Nat.min_eq_left (Nat.le_of_lt hlt)]
          have hrow2 : (((xss.take i).map (· ++ [x]) ++ xss.drop i).map (oL r))[i]? = some (.own (xss[i].map r)) := by rw [List.getElem?_map, hrow]; rfl
          obtain ⟨q, us, C1, C2, e3, h1, h2, h3⟩ := hs3.getO hrow2
          refine .inr ⟨⟨vs2, _, .of hp2, h1⟩, fun σ' H' => ∃ (F2 : Hp) (A2 : List (Addr × HO)), (c - 1) + (i + 1) = xss.length ∧ Same F F2 ∧ Match K F2 σ' ((env.set k .un).set n (.own2N (some p2) (((xss.take (i + 1)).map (· ++ [x]) ++ xss.drop (i + 1)).map (oL r)))) A2 ∧ Own F2 H' (A2 ++ O), fun σ' H' hN => ⟨c - 1, by omega, hN⟩, fun y H' hy => ?_⟩
          obtain ⟨rfl, hy2⟩ := hy
          have := hy2 _ (.of hp2)
          rw [h1] at this
          cases this
          have huk : ((env.set k .un).set n (.own2N (some p2) (((xss.take i).map (· ++ [x]) ++ xss.drop i).map (oL r))))[k]? = some .un := by rw [List.getElem?_set_ne (fun z => hk z.symm)]; exact hu
          have m3 := match_setUn k (some (.ref q)) m2 huk
          have hkσ : k < σ2.length := by rw [match_len m2]; simpa using hkl
          have hq := (w2.has (q, .lst us) (by rw [e2, e3]; simp)).2
          refine ⟨.ref q, by rw [List.getElem?_set_self hkσ], .inl ⟨rfl, us, .of hq⟩, he _ _ F2 _ _ O m3 w2 _ fun v3 F3 H3 s3 w3 d3 => ?_⟩
          have hq3 := (w3.has (q, .lst us) (by rw [e2, e3]; simp)).2
          have hul := h2.length
          rw [List.length_map] at hul
          refine ⟨q, us, v3, rfl, rfl, hq3, by rw [hul, sizeLine_eq]; exact hl _ (List.getElem_mem hlt), ?_⟩
          have z1 := h3 F3 (us ++ [v3]) (xss[i].map r ++ [r x]) s3 ((h2.up s3).append (.cons d3 .nil))
          have e4 : (((xss.take i).map (· ++ [x]) ++ xss.drop i).map (oL r)).set i (.own (xss[i].map r ++ [r x])) = ((xss.take (i + 1)).map (· ++ [x]) ++ xss.drop (i + 1)).map (oL r) := by
            have a1 : OD.own (xss[i].map r ++ [r x]) = oL r (xss[i] ++ [x]) := by show _ = OD.own _; rw [List.map_append]; rfl
            rw [a1, ← List.map_set]
            congr 1
            rw [List.set_append_right _ _ (by simp; omega)]
            have a2 : i - ((xss.take i).map (· ++ [x])).length = 0 := by simp; omega
            rw [a2, List.take_succ_eq_append_getElem hlt, List.map_append, List.drop_eq_getElem_cons hlt, List.append_assoc]
            rfl
          rw [e4] at z1
          obtain ⟨v5, P5, B5, B6, e6, t1, t2, t3, _, _⟩ := (m3.up s3).getT hi0
          have m6 := r3 F3 _ _ s3 (TR.lst (a := some p2) (fun _ z => Option.some.inj z) z1.tree)
          rw [List.set_set] at m6
          have m7 := match_setUn k (some (.ref q)) m6 (by rw [List.getElem?_set_ne (fun z => hk z.symm)]; exact hu)
          refine ⟨F3, _, by omega, s2.trans s3, m7, ?_⟩
          subst e2 e3
          have w4 : Own F3 H3 ((B1 ++ (p2, .lst vs2) :: C1) ++ (((q, .lst us) :: []) ++ (C2 ++ B2)) ++ O) := w3.perm (by simp)
          have w5 := own_updL (R := []) (P := []) (P' := []) (o' := .lst (us ++ [v3])) ⟨[], List.Sublist.refl _, List.Perm.refl _⟩ w4
          exact w5.perm (by simp)
/-! ### typed forms -/
theorem sw_opt1 {α : Type} {r : α → D} {xs : List α} (h : env[n]? = some (.ownN na (xs.map r))) (hn : SW K E t (env.set n (.ownN na ((xs.map some).map (dO r)))) Nx Rt Ex) : SW K E t env Nx Rt Ex := by
  rw [← dL_some] at hn
  have e : env.set n (.ownN na (xs.map r)) = env := by
    apply List.ext_getElem?
    intro j
    by_cases hj : n = j
    · subst hj
      rw [h, List.getElem?_set_self]
      rcases Nat.lt_or_ge n env.length with z | z
      · exact z
      · rw [List.getElem?_eq_none z] at h; cases h
    · rw [List.getElem?_set_ne hj]
  rw [e] at hn
  exact hn
theorem sw_opt2 {α : Type} {r : α → D} {xss : List (List α)} (h : env[n]? = some (.own2N na (xss.map (oL r)))) (hn : SW K E t (env.set n (.own2N na ((xss.map (·.map some)).map (oL (dO r))))) Nx Rt Ex) : SW K E t env Nx Rt Ex := by
  have e0 : (xss.map (·.map some)).map (oL (dO r)) = xss.map (oL r) := by
    rw [List.map_map]
    refine List.map_congr_left fun xs _ => ?_
    show OD.own _ = OD.own _
    rw [← dL_some]
  rw [e0] at hn
  have e : env.set n (.own2N na (xss.map (oL r))) = env := by
    apply List.ext_getElem?
    intro j
    by_cases hj : n = j
    · subst hj
      rw [h, List.getElem?_set_self]
      rcases Nat.lt_or_ge n env.length with z | z
      · exact z
      · rw [List.getElem?_eq_none z] at h; cases h
    · rw [List.getElem?_set_ne hj]
  rw [e] at hn
  exact hn
theorem map_dropLast' {α β : Type} (f : α → β) (xs : List α) : (xs.map f).dropLast = xs.dropLast.map f := by
  induction xs with
  | nil => rfl
  | cons x xs ih =>
    cases xs with
    | nil => rfl
    | cons y ys => simp only [List.map_cons, List.dropLast_cons₂] at ih ⊢; rw [ih]
theorem sw_pop1 {α : Type} {r : α → D} {xs ys : List α} (hx : popR xs = .ok ys) (h : env[n]? = some (.ownN na (xs.map r))) (hn : Nx (env.set n (.ownN na (ys.map r)))) : SW K E (tDrop (tBM0 K "list" rPop (tVar n))) env Nx Rt Ex := by
  obtain ⟨h0, rfl⟩ := popR_some hx
  refine sw_popP (ep_var h) (getAt_root h) (by simpa using h0) ?_
  rw [putAt_root h, map_dropLast', map_dropLast']
  exact hn
theorem sw_pop2 {α : Type} {r : α → D} {xs ys : List (List α)} (hx : popR xs = .ok ys) (h : env[n]? = some (.own2N na (xs.map (oL r)))) (hn : Nx (env.set n (.own2N na (ys.map (oL r))))) : SW K E (tDrop (tBM0 K "list" rPop (tVar n))) env Nx Rt Ex := by
  obtain ⟨h0, rfl⟩ := popR_some hx
  refine sw_popP (ep_var h) (getAt_root h) (by simpa using h0) ?_
  rw [putAt_root h, map_dropLast', map_dropLast']
  exact hn
theorem sw_appM1 {α : Type} {r : α → D} {xs ys : List α} {x : α} {envq : Addr → List Slot} (hx : appR xs x = .ok ys) {ts : List T} (h : env[n]? = some (.tr (.lst na ts))) (he : ∀ q, EM K te (env.set n (.tr (.lst (some q) ts))) (.dat (r x)) (envq q)) (h1 : ∀ q, (envq q)[n]? = some (.ownN (some q) (xs.map r)))
    (hn : ∀ q, Nx ((envq q).set n (.ownN na (ys.map r)))) : SW K E (tDrop (tBM K "list" rAppend (tVar n) (tCons te tNil))) env Nx Rt Ex := by
  obtain ⟨hl, rfl⟩ := appR_some hx
  refine sw_appM h he h1 (by rw [List.length_map, List.length_map]; exact hl) fun q => ?_
  have := hn q
  rw [List.map_append] at this
  show Nx ((envq q).set n (.tr (.lst na ((xs.map r).map T.dat ++ [T.dat (r x)]))))
  have e : Slot.ownN na (xs.map r ++ [x].map r) = .tr (.lst na ((xs.map r).map T.dat ++ [T.dat (r x)])) := by
    show Slot.tr (.lst na ((xs.map r ++ [x].map r).map T.dat)) = _
    rw [List.map_append]; rfl
  rw [e] at this
  exact this
theorem sw_appM2 {α : Type} {r : α → D} {xs ys : List (List α)} {x : List α} {envq : Addr → List Slot} (hx : appR xs x = .ok ys) {ts : List T} (h : env[n]? = some (.tr (.lst na ts))) (he : ∀ q, EM K te (env.set n (.tr (.lst (some q) ts))) (.lst none ((x.map r).map T.dat)) (envq q)) (h1 : ∀ q, (envq q)[n]? = some (.own2N (some q) (xs.map (oL r))))
    (hn : ∀ q, Nx ((envq q).set n (.own2N na (ys.map (oL r))))) : SW K E (tDrop (tBM K "list" rAppend (tVar n) (tCons te tNil))) env Nx Rt Ex := by
  obtain ⟨hl, rfl⟩ := appR_some hx
  refine sw_appM h he h1 (by rw [List.length_map, List.length_map]; exact hl) fun q => ?_
  have := hn q
  have e : Slot.own2N na ((xs ++ [x]).map (oL r)) = .tr (.lst na ((xs.map (oL r)).map OD.toT ++ [T.lst none ((x.map r).map T.dat)])) := by
    show Slot.tr (.lst na (((xs ++ [x]).map (oL r)).map OD.toT)) = _
    rw [List.map_append, List.map_append]; rfl
  rw [e] at this
  exact this
/-- calls of plain defs with such arguments -/
theorem em_call {ι β : Type} {args : ι → List D} {f : ι → R β} {rr : β → D} {ta : TA} {E' : XK} (x : ι) {b : β} (hf : f x = .ok b) (ha : EAM K ta env ((args x).map T.dat) env') : EM K (tCall (spR K args f rr) [] E' ta) env (.dat (rr b)) env' := fun σ F H A O m w Q q =>
  ha σ F H A O m w _ fun vs O1 F1 H1 A1 s1 m1 w1 d1 => by
    obtain ⟨e1, d3⟩ := d1.flat
    subst e1
    have w1 : Own F1 H1 (A1 ++ O) := w1
    exact ⟨x, F1, A1 ++ O, b, w1, by rw [List.append_nil]; exact d3, hf, fun v F' H' s w' d' => q v [] F' H' A1 (s1.trans s) (m1.up s) w' (.dat d')⟩
theorem em_callN {ι β : Type} {args : ι → List D} {f : ι → R (List β)} {rr : β → D} {ta : TA} {E' : XK} (x : ι) {b : List β} (hf : f x = .ok b) (ha : EAM K ta env ((args x).map T.dat) env') : EM K (tCall (spN K args f rr) [] E' ta) env (.lst none ((b.map rr).map T.dat)) env' := fun σ F H A O m w Q q =>
  ha σ F H A O m w _ fun vs O1 F1 H1 A1 s1 m1 w1 d1 => by
    obtain ⟨e1, d3⟩ := d1.flat
    subst e1
    have w1 : Own F1 H1 (A1 ++ O) := w1
    exact ⟨x, F1, A1 ++ O, b, w1, by rw [List.append_nil]; exact d3, hf, fun p us F' H' s w' d' => q _ [(p, .lst us)] F' H' A1 (s1.trans s) (m1.up s) w' (.lst (fun _ z => nomatch z) d'.tree)⟩
theorem em_callNN {ι β : Type} {args : ι → List D} {f : ι → R (List (List β))} {rr : β → D} {ta : TA} {E' : XK} (x : ι) {b : List (List β)} (hf : f x = .ok b) (ha : EAM K ta env ((args x).map T.dat) env') : EM K (tCall (spNN K args f rr) [] E' ta) env (.lst none ((b.map (oL rr)).map OD.toT)) env' := fun σ F H A O m w Q q =>
  ha σ F H A O m w _ fun vs O1 F1 H1 A1 s1 m1 w1 d1 => by
    obtain ⟨e1, d3⟩ := d1.flat
    subst e1
    have w1 : Own F1 H1 (A1 ++ O) := w1
    exact ⟨x, F1, A1 ++ O, b, w1, by rw [List.append_nil]; exact d3, hf, fun p us F' H' O1 s w' d' => q _ ((p, .lst us) :: O1) F' H' A1 (s1.trans s) (m1.up s) w' (.lst (fun _ z => nomatch z) d'.tree)⟩
theorem em_mkQ {a b : Int} {v : Rat} {ta : TA} (h : mkQ a b = .ok v) (ha : EAM K ta env [.dat (dI a), .dat (dI b)] env') : EM K (tTup ta) env (.dat (dQ v)) env' := by
  obtain ⟨h1, h2⟩ := mkQ_some h
  have := em_tup (ds := [dI a, dI b]) ha
  show EM K (tTup ta) env (.dat (.tup [dI v.num, dI (v.den : Int)])) env'
  rw [h1, h2]; exact this
theorem em_frzL (h : EM K te env (.lst na (ds.map T.dat)) env') : EM K te env (.dat (.lst ds)) env' := fun σ F H A O m w Q q => h σ F H A O m w Q fun v O1 F' H' A' s m' w' dd => by
  cases dd with
  | lst n h =>
    obtain ⟨e1, d1⟩ := h.flat
    subst e1
    obtain ⟨w2, s2⟩ := Own.frz (show Own F' H' (_ :: (A' ++ O)) from w')
    exact q _ [] _ H' A' (s.trans s2) (m'.up s2) w2 (.dat (.lst (.of upd_same) (d1.up s2)))
theorem em_frz2 {α : Type} {r : α → D} {xs : List (List α)} (h : EM K te env (.lst na ((xs.map (oL r)).map OD.toT)) env') : EM K te env (.dat (dL (dL r) xs)) env' := fun σ F H A O m w Q q => h σ F H A O m w Q fun v O1 F' H' A' s m' w' dd => by
  cases dd with
  | @lst _ p vs _ P n h =>
    have w2 : Own F' H' (P ++ ((p, .lst vs) :: (A' ++ O))) := w'.perm List.perm_middle.symm
    obtain ⟨F1, s1, w3, d1⟩ := h.ods.frz w2
    obtain ⟨w4, s4⟩ := w3.frz
    rw [map_toD] at d1
    exact q _ [] _ H' A' (s.trans (s1.trans s4)) (m'.up (s1.trans s4)) w4 (.dat (.lst (.of upd_same) (d1.up s4)))
theorem spT_len {ι β : Type} {args : ι → List Slot} {f : ι → R β} {res : β → Sum T Value} {outs : ι → β → List Slot} {vs : List V} {H : Hp} {Q : VK} {n : Nat} (hn : ∀ x, (args x).length = n) {E : XK} (h : spT K args f res outs vs H Q E) : vs.length = n := by
  obtain ⟨x, F, O, O1, b, m, _⟩ := h
  have := match_len m
  rw [List.length_map, hn x] at this
  exact this
/-- for over a list of what is owned, made for it -/
theorem sw_forOwn {α S : Type} {zs : List α} {rt : α → T} {tb : TS} {k : Nat} (f : α → S → R S) (ε : S → List Slot) (s0 : S) {s1 : S} {envi : List Slot}
    (hi : EM K te env (.lst none (zs.map rt)) envi) (hf : R.forR f zs s0 = .ok s1) (h0 : Wk envi (ε s0)) (hk : ∀ s, (ε s)[k]? = some .un)
    (hb : ∀ x s s', x ∈ zs → f x s = .ok s' → SW K E tb ((ε s).set k (.tr (rt x))) (fun e => Wk e (ε s')) (fun _ _ => False) (fun _ _ => False))
    (hn : Nx (ε s1)) : SW K E (tFor (iList K te) (gName k) tb) env Nx Rt Ex := fun σ F H A O m w Dn q1 q2 q4 =>
  hi σ F H A O m w _ fun v O1 F1 H1 A1 s1' m1 w1 d1 => by
    cases d1 with
    | @lst _ p vs _ P nm hs =>
      obtain ⟨A0, sb0, m0⟩ := m1.weak h0
      have hp := (w1.has (p, .lst vs) (by simp)).2
      refine ⟨p, rfl, ⟨vs, .of hp⟩, fun i c σ2 H2 => ∃ (s : S) (F2 : Hp) (A2 R1 : List (Addr × HO)), c + i = zs.length ∧ Same F1 F2 ∧ Match K F2 σ2 (ε s) A2 ∧ TRs K F2 (vs.drop i) ((zs.drop i).map rt) R1 ∧ Own F2 H2 ((p, .lst vs) :: (R1 ++ (A2 ++ O))) ∧ R.forR f (zs.drop i) s = .ok s1, ?_, ?_⟩
      · exact ⟨zs.length, s0, F1, A0, P, rfl, Same.refl _, m0, hs, w1.sub (((List.Sublist.refl P).append (sb0.append (List.Sublist.refl O))).cons₂ _), hf⟩
      · rintro i c σ2 H2 ⟨s, F2, A2, R1, hc, ss, m2, hs2, w2, h2⟩
        have hp2 := (w2.has (p, .lst vs) (by simp)).2
        have hlen : vs.length = zs.length := by rw [hs.length, List.length_map]
        by_cases hi : i = zs.length
        · refine .inl ⟨⟨vs, .of hp2, by omega⟩, ?_⟩
          rw [hi, List.drop_length] at h2
          have e := R.ok_inj (show R.ok s = R.ok s1 from h2)
          subst e
          exact q1 _ σ2 F2 H2 A2 hn (s1'.trans ss) m2 (w2.sub ((List.sublist_append_right R1 _).cons _))
        · have hlt : i < zs.length := by omega
          rw [List.drop_eq_getElem_cons hlt] at h2 hs2
          rw [List.drop_eq_getElem_cons (by omega : i < vs.length)] at hs2
          obtain ⟨s', f1, f2⟩ := R.bind_inv (show R.bind (f zs[i] s) _ = _ from h2)
          rw [List.map_cons] at hs2
          cases hs2 with
          | @cons _ _ _ _ P1 P2 a b =>
            refine .inr ⟨⟨vs, _, .of hp2, List.getElem?_eq_getElem (by omega)⟩, fun σ' H' => ∃ (F3 : Hp) (A3 : List (Addr × HO)), Same F2 F3 ∧ Match K F3 σ' (ε s') A3 ∧ Own F3 H' (A3 ++ ((p, .lst vs) :: (P2 ++ O))), ?_, fun y H' hy => ?_⟩
            · rintro σ' H' ⟨F3, A3, s3, m3, w3⟩
              refine ⟨c - 1, by omega, s', F3, A3, P2, by omega, ss.trans s3, m3, b.up s3, w3.perm ?_, f2⟩
              refine List.perm_middle.trans (List.Perm.cons _ ?_)
              exact perm_front _ _ _
            · obtain ⟨rfl, hy2⟩ := hy
              have := hy2 _ (.of hp2)
              rw [List.getElem?_eq_getElem (by omega)] at this
              cases this
              have hk2 : k < (ε s).length := by
                rcases Nat.lt_or_ge k (ε s).length with z | z
                · exact z
                · have := hk s
                  rw [List.getElem?_eq_none z] at this; cases this
              obtain ⟨B1, B2, A5, e5, sb, m5⟩ := m2.putT k a hk2
              subst e5
              have w5 : Own F2 H' ((B1 ++ (P1 ++ B2)) ++ ((p, .lst vs) :: (P2 ++ O))) := by
                have w6 : Own F2 H' ((p, .lst vs) :: ((P1 ++ P2) ++ ((B1 ++ B2) ++ O))) := w2.sub (((List.Sublist.refl _).append (((List.Sublist.refl B1).append sb).append (List.Sublist.refl O))).cons₂ _)
                refine w6.perm ?_
                refine List.Perm.trans (List.Perm.cons _ ?_) List.perm_middle.symm
                have e1 : (P1 ++ P2) ++ ((B1 ++ B2) ++ O) = P1 ++ (P2 ++ (B1 ++ (B2 ++ O))) := by simp
                have e2 : (B1 ++ (P1 ++ B2)) ++ (P2 ++ O) = B1 ++ (P1 ++ (B2 ++ (P2 ++ O))) := by simp
                rw [e1, e2]
                refine List.Perm.trans (List.Perm.append_left P1 ?_) (perm_front P1 B1 _)
                refine (perm_front P2 B1 _).trans (List.Perm.append_left B1 ?_)
                exact perm_front P2 B2 O
              refine hb zs[i] s s' (List.getElem_mem hlt) f1 _ F2 H' _ ((p, .lst vs) :: (P2 ++ O)) m5 w5 _ ?_ ?_ ?_
              · rintro e6 σ6 F6 H6 A6 wk6 s6 m6 w6
                obtain ⟨A7, sb7, m7⟩ := m6.weak wk6
                exact ⟨F6, A7, s6, m7, w6.subA sb7⟩
              · exact fun _ _ _ _ _ _ _ _ z => z.elim
              · exact fun _ _ _ _ _ _ z => z.elim
theorem ev_lenO2 {α : Type} {r : α → D} {xs : List (List α)} (h : env[n]? = some (.own2N na (xs.map (oL r)))) : EV K (tCB (rLenP K) (tCons (tVar n) tNil)) env (dI (xs.length : Nat)) := by
  have := ev_lenPl (K := K) (ep_var h) (getAt_root h)
  rw [List.length_map, List.length_map] at this
  exact this
/-! ### an item of a list of own lists by a name of its own -/
/-- rows, the k-th of which is told by its address -/
abbrev tAl {α : Type} (r : α → D) (xss : List (List α)) (k : Nat) (row : List α) (q : Addr) : List T := ((xss.map (oL r)).map OD.toT).set k (.lst (some q) ((row.map r).map T.dat))
theorem tAl_get {α : Type} {r : α → D} {xss : List (List α)} {k : Nat} {row row' : List α} {q : Addr} (hk : xss[k]? = some row') : (tAl r xss k row q)[k]? = some (.lst (some q) ((row.map r).map T.dat)) := by
  have hlt : k < xss.length := by
    rcases Nat.lt_or_ge k xss.length with z | z
    · exact z
    · rw [List.getElem?_eq_none z] at hk; cases hk
  unfold tAl
  rw [List.getElem?_set_self (by simpa using hlt)]
/-- x = rows[i] -/
theorem sw_alias {α : Type} {r : α → D} {xss : List (List α)} {row : List α} {k xn : Nat} {envq : Addr → List Slot} {ts : List T} (h : env[n]? = some (.tr (.lst na ts))) (hi : ∀ p, EM K ti (env.set n (.tr (.lst (some p) ts))) (.dat (dI i)) (envq p)) (h1 : ∀ p, (envq p)[n]? = some (.own2N (some p) (xss.map (oL r))))
    (hk : ixP xss.length i = some k) (hrow : xss[k]? = some row) (hxn : ∀ p, xn < (envq p).length) (hn : ∀ p q, Nx (((envq p).set n (.tr (.lst na (tAl r xss k row q)))).set xn (.tr (.adr q)))) :
    SW K E (tAsg (tOp (rIxL K) (tVar n) ti) (gName xn)) env Nx Rt Ex := fun σ F H A O m w Dn q1 q2 q4 => by
  obtain ⟨v, O1, A1, A2, e, g1, g2, g3, _, _⟩ := m.getT h
  cases g2 with
  | @lst _ p vs _ P nm hs =>
    have m2 := g3 F _ _ (Same.refl F) (.lst (a := some p) (fun _ z => Option.some.inj z) hs)
    refine ⟨_, g1, hi p σ F H _ O m2 (by rw [← e]; exact w) _ fun v O2 F2 H2 A' s2 m' w2 d2 => ?_⟩
    cases d2 with
    | dat d2 =>
      obtain ⟨v', O3, B1, B2, e2, r1, r2, r3, _, _⟩ := m'.getT (h1 p)
      rw [g1] at r1
      cases r1
      cases r2 with
      | @lst _ _ vs2 _ P2 nm2 hs2 =>
        have hrow2 : ((xss.map (oL r)).map OD.toT)[k]? = some (.lst none ((row.map r).map T.dat)) := by rw [List.getElem?_map, List.getElem?_map, hrow]; rfl
        obtain ⟨u, C1, P3, C2, e3, t1, t2, t3⟩ := hs2.at hrow2
        obtain ⟨q, rfl⟩ := t2.ref rfl
        have hp := (w2.has (p, .lst vs2) (by rw [e2]; simp)).2
        have hl := hs2.length
        rw [List.length_map, List.length_map] at hl
        refine ⟨p, vs2, i, .ref q, rfl, d2.int, .of hp, atI_ixP (by rw [hl]; exact hk) t1, ?_⟩
        have m3 := r3 F2 _ _ (Same.refl F2) (TR.lst nm (t3 F2 _ _ (Same.refl F2) t2.named))
        subst e3
        have w3 : Own F2 H2 ((B1 ++ ((p, .lst vs2) :: (C1 ++ (P3 ++ C2)) ++ B2)) ++ O) := by rw [← e2]; exact w2
        obtain ⟨A5, m5, w5⟩ := m3.setT (x := .adr q) (O1 := []) xn TR.adr (by rw [List.length_set]; exact hxn p)
        exact q1 _ _ F2 H2 A5 (hn p q) s2 m5 (w5 H2 O w3)
/-- len(x) -/
theorem ev_lenAl {xn : Nat} {q : Addr} {ts : List T} (hx : env[xn]? = some (.tr (.adr q))) (hg : getAt env n π = some (.lst (some q) ts)) : EV K (tCB (rLenP K) (tCons (tVar xn) tNil)) env (dI (ts.length : Nat)) := fun σ F H A O m w Q k => by
  obtain ⟨v, O1, A1, A2, e, g1, g2, _, _, _⟩ := m.getT hx
  cases g2
  obtain ⟨v2, B1, P1, B2, e2, r2, _⟩ := m.focus hg
  have := r2.at_name rfl
  subst this
  cases r2 with
  | @lst _ p vs _ P nm hs =>
    have hp := (w.has (q, .lst vs) (by rw [e2]; simp)).2
    exact ⟨_, g1, _, ts.length, rfl, .inl ⟨_, .of hp, hs.length.symm⟩, k _ F H (Same.refl F) w (.v _)⟩
theorem ev_lenAlT {α : Type} {r : α → D} {xss : List (List α)} {row : List α} {k xn : Nat} {q : Addr} (hx : env[xn]? = some (.tr (.adr q))) (h : env[n]? = some (.tr (.lst na (tAl r xss k row q)))) (hrow : xss[k]? = some row) : EV K (tCB (rLenP K) (tCons (tVar xn) tNil)) env (dI (row.length : Nat)) := by
  have hg : getAt env n [.ix k] = some (.lst (some q) ((row.map r).map T.dat)) := by
    unfold getAt
    rw [h]
    simp only
    rw [T.get_ix (tAl_get hrow), T.get_nil]
  have := ev_lenAl (K := K) hx hg
  rw [List.length_map, List.length_map] at this
  exact this
theorem tAl_set {α : Type} {r : α → D} (xss : List (List α)) (k : Nat) (row row' : List α) (q : Addr) : (tAl r xss k row q).set k (.lst none ((row'.map r).map T.dat)) = ((xss.set k row').map (oL r)).map OD.toT := by
  unfold tAl
  rw [List.set_set, List.map_set, List.map_set]; rfl
/-- the name let go again -/
theorem sw_unal {α : Type} {r : α → D} {xss : List (List α)} {row : List α} {k xn : Nat} {q : Addr} (h : env[n]? = some (.tr (.lst na (tAl r xss k row q)))) (hrow : xss[k]? = some row) (hn : SW K E t ((env.set n (.own2N na (xss.map (oL r)))).set xn .un) Nx Rt Ex) : SW K E t env Nx Rt Ex :=
  sw_match (fun σ F H A O m w => by
    have hg : getAt env n [.ix k] = some (.lst (some q) ((row.map r).map T.dat)) := by
      unfold getAt
      rw [h]
      simp only
      rw [T.get_ix (tAl_get hrow), T.get_nil]
    obtain ⟨v2, B1, P1, B2, e2, r2, r3⟩ := m.focus hg
    have m2 := r3 F _ _ (Same.refl F) r2.unnamed
    have e3 : putAt env n [.ix k] (.lst none ((row.map r).map T.dat)) = env.set n (.own2N na (xss.map (oL r))) := by
      unfold putAt
      rw [h]
      simp only
      rw [T.put_ix (tAl_get hrow), T.put_nil, tAl_set]
      have : xss.set k row = xss := by
        apply List.ext_getElem?
        intro j
        by_cases hj : k = j
        · subst hj
          rcases Nat.lt_or_ge k xss.length with z | z
          · rw [List.getElem?_set_self z, hrow]
          · rw [List.getElem?_eq_none z] at hrow; cases hrow
        · rw [List.getElem?_set_ne hj]
      rw [this]
    have m2 : Match K F σ (putAt env n [.ix k] (.lst none ((row.map r).map T.dat))) _ := m2
    rw [e3] at m2
    obtain ⟨A', s, m'⟩ := match_unset xn m2
    exact ⟨F, A', Same.refl F, m', (by rw [← e2]; exact w : Own F H ((B1 ++ (P1 ++ B2)) ++ O)).subA s⟩) hn
/-- x.extend(a new list), x then let go -/
theorem sw_extAl {α : Type} {r : α → D} {xss yss : List (List α)} {row row' ys : List α} {k xn : Nat} {q : Addr} {env1 : List Slot} (hx : env[xn]? = some (.tr (.adr q))) (h : env[n]? = some (.tr (.lst na (tAl r xss k row q))))
    (hg0 : xss[k]? = some row) (hk : ixP xss.length i = some k) (he : extR row ys = .ok row') (hs : setR xss i row' = .ok yss) (hy : EM K te env (.lst none ((ys.map r).map T.dat)) env1) (h1 : env1[n]? = some (.tr (.lst na (tAl r xss k row q)))) (hx1 : env1[xn]? = some (.tr (.adr q)))
    (hn : Nx ((env1.set n (.own2N na (yss.map (oL r)))).set xn .un)) : SW K E (tDrop (tBM K "list" rExtend (tVar xn) (tCons te tNil))) env Nx Rt Ex := fun σ F H A O m w Dn q1 q2 q4 => by
  obtain ⟨v, O1, A1, A2, e, g1, g2, _, _, _⟩ := m.getT hx
  cases g2
  have hg : ∀ {env : List Slot}, env[n]? = some (.tr (.lst na (tAl r xss k row q))) → getAt env n [.ix k] = some (.lst (some q) ((row.map r).map T.dat)) := fun h => by
    unfold getAt
    rw [h]
    simp only
    rw [T.get_ix (tAl_get hg0), T.get_nil]
  obtain ⟨v2, B1, P1, B2, e2, r2, _⟩ := m.focus (hg h)
  have := r2.at_name rfl
  subst this
  cases r2 with
  | @lst _ _ vs _ P nm hv =>
    have hp := (w.has (q, .lst vs) (by rw [e2]; simp)).2
    refine ⟨_, g1, .inl ⟨rfl, vs, .of hp⟩, hy σ F H A O m w _ fun v3 O2 F3 H3 A3 s3 m3 w3 d3 => ?_⟩
    obtain ⟨v5, C1, P5, C2, e5, r5, r6⟩ := m3.focus (hg h1)
    have := r5.at_name rfl
    subst this
    cases r5 with
    | @lst _ _ vs5 _ P6 nm5 hv5 =>
      cases d3 with
      | @lst _ p3 us _ P7 nm7 hu =>
        obtain ⟨z1, d5⟩ := hv5.flat
        obtain ⟨z2, d7⟩ := hu.flat
        subst z1 z2
        have hq3 := (w3.has (q, .lst vs5) (by rw [e5]; simp)).2
        have hp3 := (w3.has (p3, .lst us) (by simp)).2
        unfold extR at he
        split at he
        case isFalse => cases he
        rename_i hl
        have ey := R.ok_inj he
        subst ey
        obtain ⟨k', c1, c2⟩ := setR_some hs
        rw [hk] at c1
        cases c1
        subst c2
        have l5 := d5.length
        have l7 := d7.length
        rw [List.length_map] at l5 l7
        refine ⟨q, p3, vs5, us, rfl, rfl, hq3, hp3, by rw [l5, l7, sizeLine_eq]; exact hl, ?_⟩
        have tr : TR K F3 (.ref q) (.lst none (((row ++ ys).map r).map T.dat)) [(q, .lst (vs5 ++ us))] := .lst (fun _ z => nomatch z) (by rw [List.map_append]; exact (d5.append d7).tree)
        have m6 := r6 F3 _ _ (Same.refl F3) tr
        have e6 : putAt env1 n [.ix k] (.lst none (((row ++ ys).map r).map T.dat)) = env1.set n (.own2N na ((xss.set k (row ++ ys)).map (oL r))) := by
          unfold putAt
          rw [h1]
          simp only
          rw [T.put_ix (tAl_get hg0), T.put_nil, tAl_set]
        rw [e6] at m6
        obtain ⟨A7, s7, m7⟩ := match_unset xn m6
        have w4 : Own F3 H3 ((C1 ++ ([(q, .lst vs5)] ++ C2)) ++ O) := by rw [← e5]; exact w3.sub (List.sublist_cons_self _ _)
        have w5 := own_updL (R := []) (P := []) (P' := []) (o' := .lst (vs5 ++ us)) ⟨[], List.Sublist.refl _, List.Perm.refl _⟩ w4
        exact q1 _ σ F3 _ A7 hn s3 m7 (w5.subA s7)
end
/-! ### options compare -/
section
variable {α : Type} {r : α → D}
def eqO (e : EqR r) (hn : ∀ x, PyData.eqv .none (e.py x) = false) (hn2 : ∀ x, PyData.eqv (e.py x) .none = false) : EqR (dO r) where
  py := fun o => match o with
    | none => .none
    | some x => e.py x
  dep := max e.dep 1
  ok := fun K F H v o s h => by
    cases o with
    | none => rw [h.scl]; exact .non
    | some x => exact e.ok K F H v x s h
  lay := fun o => by
    cases o with
    | none => simp [PyData.canLay0]
    | some x => exact e.lay x
  depth := fun o => by
    cases o with
    | none => simp [PyData.depth]
    | some x => have := e.depth x; simp only; omega
  eqv := fun x y => by
    cases x with
    | none =>
      cases y with
      | none => simp [PyData.eqv]
      | some y => simp only [hn y]; simp
    | some x =>
      cases y with
      | none => simp only [hn2 x]; simp
      | some y => simp only [e.eqv]; simp
end
end Pg

set_option Elab.async false
set_option linter.all false
namespace Pg

/-! mirrors of the defs of k01, printed by pygen -/
def p_divisor (one1 : Int) (other2 : Int) : R Int :=
  R.bind (gcdR one1 other2) fun g3 =>
  R.ok g3
def p_ratio (top1 : Int) (bottom2 : Int) : R Rat :=
  if (decide (bottom2 = (0 : Int))) = true then (R.bad) else (R.bind (if (decide (bottom2 < (0 : Int))) = true then (R.bind (R.ok ((-top1))) fun top4 => R.bind (R.ok ((-bottom2))) fun bottom5 => R.ok (top4, bottom5)) else (R.ok (top1, bottom2)) : R ((Int × Int))) fun st3 => R.bind (p_divisor ((absZ st3.1)) st3.2) fun diviso6 => R.bind (R.ok diviso6) fun most7 => R.bind (fdivR st3.1 most7) fun q8 => R.bind (fdivR st3.2 most7) fun q9 => R.bind (mkQ q8 q9) fun q10 => R.ok q10)
def l_cell (script1 : (List Int)) (k2 : Int) : R Int :=
  if (decide (k2 < (script1.length : Int))) = true then (R.bind (atR script1 k2) fun it3 => R.ok it3) else (R.bind (mulR k2 ((7919 : Int))) fun p4 => R.bind (R.ok p4) fun seed5 => R.bind (if (decide ((script1.length : Int) > (0 : Int))) = true then (R.bind (fmodR k2 ((script1.length : Int))) fun m7 => R.bind (atR script1 m7) fun it8 => R.bind (R.ok ((seed5 + (it8 % (65537 : Int))))) fun seed9 => R.ok seed9) else (R.ok seed5) : R Int) fun st6 => R.bind (mulR st6 ((48271 : Int))) fun p10 => R.bind (R.ok ((p10 % (65537 : Int)))) fun some11 => R.bind (mulR ((2 : Int)) k2) fun p12 => R.bind (mulR some11 (((some11 + p12) + (1 : Int)))) fun p13 => R.ok (((p13 / (7 : Int)) % (65521 : Int))))
def l_whole (found1 : Int) : R Bool :=
  R.ok ((true && (!false)))
def l_most (one1 : Int) (other2 : Int) : R Int :=
  R.bind (gcdR one1 other2) fun g3 =>
  R.ok g3
def l_is (found1 : Rat) (top2 : Int) (bottom3 : Int) : R Bool :=
  if ((!true) || (!decide ((2 : Int) = (2 : Int)))) = true then (R.ok false) else (R.bind (l_whole found1.num) fun w4 => R.bind (R.orR ((!w4)) (R.bind (l_whole ((found1.den : Int))) fun w5 => R.ok (((!w5) || (decide ((found1.den : Int) < (1 : Int))))))) fun b6 => if b6 = true then (R.ok false) else (R.bind (mulR found1.num bottom3) fun p7 => R.bind (mulR top2 ((found1.den : Int))) fun p8 => R.bind (R.andR ((decide (p7 = p8))) (R.bind (l_most ((absZ found1.num)) ((found1.den : Int))) fun m9 => R.ok ((decide (m9 = (1 : Int)))))) fun b10 => R.ok b10))
def l_ratio (top1 : Int) (bottom2 : Int) : R Rat :=
  R.bind (l_most ((absZ top1)) ((absZ bottom2))) fun m3 =>
  R.bind (R.ok m3) fun most4 =>
  R.bind (if (decide (bottom2 < (0 : Int))) = true then (R.bind (R.ok ((-most4))) fun most6 => R.ok most6) else (R.ok most4) : R Int) fun st5 =>
  R.bind (fdivR top1 st5) fun q7 =>
  R.bind (fdivR bottom2 st5) fun q8 =>
  R.bind (mkQ q7 q8) fun q9 =>
  R.ok q9
def l_top (cell1 : Int) : R Int :=
  if (decide ((cell1 % (4 : Int)) = (3 : Int))) = true then (R.ok (((((cell1 / (4 : Int)) % ((2000000000000000000000000000000 : Int) - (1 : Int))) - (1000000000000000000000000000000 : Int)) + (1 : Int)))) else (R.ok ((((cell1 / (4 : Int)) % (41 : Int)) - (20 : Int))))
def l_bottom (cell1 : Int) : R Int :=
  if (decide ((cell1 % (4 : Int)) = (3 : Int))) = true then (R.ok (((1 : Int) + ((cell1 / (4 : Int)) % ((1000000000000000000000000000000 : Int) - (1 : Int)))))) else (R.ok (((1 : Int) + ((cell1 / (4 : Int)) % (12 : Int)))))
def l_drawn (script1 : (List Int)) (at2 : Int) : R Rat :=
  R.bind (l_cell script1 at2) fun c3 =>
  R.bind (l_top c3) fun t4 =>
  R.bind (l_cell script1 ((at2 + (1 : Int)))) fun c5 =>
  R.bind (l_bottom c5) fun b6 =>
  R.bind (l_ratio t4 b6) fun r7 =>
  R.ok r7
def l_pairs (script1 : (List Int)) : R ((List (Int × Int))) :=
  R.bind (R.ok ([((0 : Int), (5 : Int)), ((0 : Int), (-((1 : Int)))), ((7 : Int), (1 : Int)), ((-((7 : Int))), (-((1 : Int))))])) fun pairs2 =>
  R.bind (rngR 0 ((maxZ ((3 : Int)) ((minZ ((24 : Int)) (((script1.length : Int) / (2 : Int)))))))) fun r3 =>
  R.bind (R.forR (fun (x4 : Int) (s5 : (List (Int × Int))) => R.bind (mulR ((2 : Int)) x4) fun p6 => R.bind (l_cell script1 p6) fun c7 => R.bind (l_top c7) fun t8 => R.bind (R.ok t8) fun top9 => R.bind (mulR ((2 : Int)) x4) fun p10 => R.bind (l_cell script1 ((p10 + (1 : Int)))) fun c11 => R.bind (l_bottom c11) fun b12 => R.bind (R.ok b12) fun bottom13 => R.bind (mulR ((2 : Int)) x4) fun p14 => R.bind (l_cell script1 p14) fun c15 => R.bind (if (decide (((c15 / (3 : Int)) % (2 : Int)) = (0 : Int))) = true then (R.bind (R.ok ((-bottom13))) fun bottom17 => R.ok bottom17) else (R.ok bottom13) : R Int) fun st16 => R.bind (appR s5 ((top9, st16))) fun pairs18 => R.bind (mulR ((2 : Int)) x4) fun p19 => R.bind (l_cell script1 ((p19 + (1 : Int)))) fun c20 => R.bind (R.ok (((2 : Int) + ((c20 / (5 : Int)) % (12 : Int))))) fun more21 => R.bind (mulR top9 more21) fun p22 => R.bind (R.andR ((decide ((absZ p22) < (1000000000000000000000000000000 : Int)))) (R.bind (mulR st16 more21) fun p23 => R.ok ((decide ((absZ p23) < (1000000000000000000000000000000 : Int)))))) fun b24 => if b24 = true then (R.bind (mulR top9 more21) fun p25 => R.bind (mulR st16 more21) fun p26 => R.bind (appR pairs18 ((p25, p26))) fun pairs27 => R.ok pairs27) else (R.ok pairs18)) r3 pairs2) fun s28 =>
  R.bind (l_cell script1 ((0 : Int))) fun c29 =>
  R.bind (if (decide ((c29 % (8 : Int)) = (5 : Int))) = true then (R.bind (R.ok ((1 : Int))) fun far31 => R.bind (rngR 0 ((50 : Int))) fun r32 => R.bind (R.forR (fun (x33 : Int) (s34 : Int) => R.bind (mulR s34 ((10000000000000000000000000000000000000000 : Int))) fun p35 => R.bind (R.ok p35) fun far36 => R.ok far36) r32 far31) fun s37 => R.bind (atR s28 ((4 : Int))) fun it38 => R.bind (mulR ((6 : Int)) ((s37 + it38.1))) fun p39 => R.bind (atR s28 ((4 : Int))) fun it40 => R.bind (mulR ((6 : Int)) (((s37 / (10 : Int)) + (absZ it40.2)))) fun p41 => R.bind (catR ((cutL s28 none (some ((4 : Int))))) ([(p39, p41)])) fun c42 => R.bind (R.ok c42) fun pairs43 => R.ok pairs43) else (R.ok s28) : R ((List (Int × Int)))) fun st30 =>
  R.ok st30
def k01_law (script1 : (List Int)) : R Bool :=
  R.bind (l_pairs script1) fun p2 =>
  R.bind (R.forX (fun (x3 : (Int × Int)) (s4 : Unit) => (R.bind (p_ratio x3.1 x3.2) fun ratio5 => R.bind (l_is ratio5 x3.1 x3.2) fun i6 => if (!i6) = true then (R.ok (Sum.inr false)) else (R.ok (Sum.inl (()))) : R (Sum Unit Bool))) p2 (())) fun r7 =>
  R.caseX r7 (fun s8 => R.ok true) (fun b9 => R.ok b9)
end Pg

set_option Elab.async false
set_option linter.all false
namespace Pg

/-! mirrors of the defs of k02, printed by pygen -/
def p_plus (one1 : Rat) (other2 : Rat) : R Rat :=
  R.bind (mulR one1.num ((other2.den : Int))) fun p3 =>
  R.bind (mulR other2.num ((one1.den : Int))) fun p4 =>
  R.bind (mulR ((one1.den : Int)) ((other2.den : Int))) fun p5 =>
  R.bind (p_ratio ((p3 + p4)) p5) fun ratio6 =>
  R.ok ratio6
def p_minus (one1 : Rat) (other2 : Rat) : R Rat :=
  R.bind (mulR one1.num ((other2.den : Int))) fun p3 =>
  R.bind (mulR other2.num ((one1.den : Int))) fun p4 =>
  R.bind (mulR ((one1.den : Int)) ((other2.den : Int))) fun p5 =>
  R.bind (p_ratio ((p3 - p4)) p5) fun ratio6 =>
  R.ok ratio6
def p_total (some1 : (List Rat)) : R Rat :=
  R.bind (mkQ ((0 : Int)) ((1 : Int))) fun q2 =>
  R.bind (R.ok q2) fun come3 =>
  R.bind (R.forR (fun (x4 : Rat) (s5 : Rat) => R.bind (p_plus s5 x4) fun plus6 => R.bind (R.ok plus6) fun come7 => R.ok come7) some1 come3) fun s8 =>
  R.ok s8
def l_some (script1 : (List Int)) : R ((List Rat)) :=
  R.bind (R.ok (([] : (List Rat)))) fun some2 =>
  R.bind (l_cell script1 ((5 : Int))) fun c3 =>
  R.bind (rngR 0 ((c3 % (13 : Int)))) fun r4 =>
  R.bind (R.forR (fun (x5 : Int) (s6 : (List Rat)) => R.bind (l_cell script1 (((6 : Int) + x5))) fun c7 => R.bind (R.ok c7) fun cell8 => R.bind (l_top ((cell8 / (12 : Int)))) fun t9 => R.bind (l_ratio t9 (((1 : Int) + (cell8 % (12 : Int))))) fun r10 => R.bind (appR s6 r10) fun some11 => R.ok some11) r4 some2) fun s12 =>
  R.bind (R.andR ((decide ((s12.length : Int) > (0 : Int)))) (R.bind (l_cell script1 ((5 : Int))) fun c13 => R.ok ((decide (((c13 / (13 : Int)) % (4 : Int)) = (0 : Int)))))) fun b14 =>
  R.bind (if b14 = true then (R.bind (l_drawn script1 ((18 : Int))) fun d16 => R.bind (l_cell script1 ((4 : Int))) fun c17 => R.bind (fmodR c17 ((s12.length : Int))) fun m18 => R.bind (setR s12 m18 d16) fun some19 => R.ok some19) else (R.ok s12) : R ((List Rat))) fun st15 =>
  R.ok st15
def l_total_good (some1 : (List Rat)) : R Bool :=
  R.bind (R.ok ((0 : Int))) fun top2 =>
  R.bind (R.ok ((1 : Int))) fun bottom3 =>
  R.bind (R.forR (fun (x4 : Rat) (s5 : (Int × Int)) => R.bind (mulR s5.1 ((x4.den : Int))) fun p6 => R.bind (mulR x4.num s5.2) fun p7 => R.bind (R.ok ((p6 + p7))) fun top8 => R.bind (mulR s5.2 ((x4.den : Int))) fun p9 => R.bind (R.ok p9) fun bottom10 => R.ok ((top8, bottom10))) some1 ((top2, bottom3))) fun s11 =>
  R.bind (R.ok some1) fun handed12 =>
  R.bind (p_total handed12) fun total13 =>
  R.bind (l_is total13 s11.1 s11.2) fun i14 =>
  R.ok ((i14 && (decide (handed12 = some1))))
def k02_law (script1 : (List Int)) : R Bool :=
  R.bind (l_drawn script1 ((0 : Int))) fun d2 =>
  R.bind (R.ok d2) fun one3 =>
  R.bind (l_drawn script1 ((2 : Int))) fun d4 =>
  R.bind (R.ok d4) fun other5 =>
  R.bind (l_cell script1 ((4 : Int))) fun c6 =>
  R.bind (if (decide ((c6 % (5 : Int)) = (0 : Int))) = true then (R.bind (mkQ ((-one3.num)) ((one3.den : Int))) fun q8 => R.bind (R.ok q8) fun other9 => R.ok other9) else (R.ok other5) : R Rat) fun st7 =>
  R.bind (mulR ((one3.den : Int)) ((st7.den : Int))) fun p10 =>
  R.bind (R.ok p10) fun both11 =>
  R.bind (p_plus one3 st7) fun plus12 =>
  R.bind (R.ok plus12) fun come13 =>
  R.bind (mulR one3.num ((st7.den : Int))) fun p14 =>
  R.bind (mulR st7.num ((one3.den : Int))) fun p15 =>
  R.bind (l_is come13 ((p14 + p15)) both11) fun i16 =>
  if (!i16) = true then (R.ok false) else (R.bind (p_minus one3 st7) fun minus17 => R.bind (mulR one3.num ((st7.den : Int))) fun p18 => R.bind (mulR st7.num ((one3.den : Int))) fun p19 => R.bind (l_is minus17 ((p18 - p19)) both11) fun i20 => if (!i20) = true then (R.ok false) else (R.bind (p_minus st7 one3) fun minus21 => R.bind (mulR st7.num ((one3.den : Int))) fun p22 => R.bind (mulR one3.num ((st7.den : Int))) fun p23 => R.bind (l_is minus21 ((p22 - p23)) both11) fun i24 => if (!i24) = true then (R.ok false) else (R.bind (p_minus come13 st7) fun minus25 => R.bind (l_is minus25 one3.num ((one3.den : Int))) fun i26 => R.bind (R.orR ((!i26)) (R.bind (p_minus one3 one3) fun minus27 => R.bind (l_is minus27 ((0 : Int)) ((1 : Int))) fun i28 => R.ok ((!i28)))) fun b29 => if b29 = true then (R.ok false) else (R.bind (l_some script1) fun s30 => R.bind (R.ok s30) fun some31 => R.bind (rngR 0 ((some31.length : Int))) fun r32 => R.bind (R.compR (fun x33 => R.bind (atR some31 ((((some31.length : Int) - (1 : Int)) - x33))) fun it34 => R.ok it34) r32) fun c35 => R.bind (R.ok c35) fun back36 => R.bind (l_total_good some31) fun t37 => R.bind (R.andR t37 (R.bind (l_total_good back36) fun t38 => R.bind (R.andR t38 (R.bind (l_total_good ([one3])) fun t39 => R.bind (R.andR t39 (R.bind (l_total_good (([] : (List Rat)))) fun t40 => R.ok t40)) fun b41 => R.ok b41)) fun b42 => R.ok b42)) fun b43 => R.ok b43))))
end Pg

set_option Elab.async false
set_option linter.all false
namespace Pg

/-! mirrors of the defs of k03, printed by pygen -/
def p_times (one1 : Rat) (other2 : Rat) : R Rat :=
  R.bind (mulR one1.num other2.num) fun p3 =>
  R.bind (mulR ((one1.den : Int)) ((other2.den : Int))) fun p4 =>
  R.bind (p_ratio p3 p4) fun ratio5 =>
  R.ok ratio5
def p_parted (one1 : Rat) (other2 : Rat) : R Rat :=
  R.bind (mulR one1.num ((other2.den : Int))) fun p3 =>
  R.bind (mulR ((one1.den : Int)) other2.num) fun p4 =>
  R.bind (p_ratio p3 p4) fun ratio5 =>
  R.ok ratio5
def k03_law (script1 : (List Int)) : R Bool :=
  R.bind (l_drawn script1 ((0 : Int))) fun d2 =>
  R.bind (R.ok d2) fun one3 =>
  R.bind (l_drawn script1 ((2 : Int))) fun d4 =>
  R.bind (R.ok d4) fun other5 =>
  R.bind (l_cell script1 ((4 : Int))) fun c6 =>
  R.bind (R.ok ((c6 % (10 : Int)))) fun way7 =>
  R.bind (if ((decide (way7 = (0 : Int))) && (!decide (one3.num = (0 : Int)))) = true then (R.bind (l_ratio ((one3.den : Int)) one3.num) fun r9 => R.bind (R.ok r9) fun other10 => R.ok other10) else (R.ok other5) : R Rat) fun st8 =>
  R.bind (if (decide (way7 = (1 : Int))) = true then (R.bind (mkQ ((0 : Int)) ((1 : Int))) fun q12 => R.bind (R.ok q12) fun other13 => R.ok other13) else (R.ok st8) : R Rat) fun st11 =>
  R.bind (p_times one3 st11) fun times14 =>
  R.bind (R.ok times14) fun come15 =>
  R.bind (mulR one3.num st11.num) fun p16 =>
  R.bind (mulR ((one3.den : Int)) ((st11.den : Int))) fun p17 =>
  R.bind (l_is come15 p16 p17) fun i18 =>
  R.bind (R.orR ((!i18)) (R.bind (p_times st11 one3) fun times19 => R.ok ((!decide (times19 = come15))))) fun b20 =>
  if b20 = true then (R.ok false) else (R.bind (mkQ ((1 : Int)) ((1 : Int))) fun q21 => R.bind (p_parted one3 q21) fun parted22 => R.bind (l_is parted22 one3.num ((one3.den : Int))) fun i23 => if (!i23) = true then (R.ok false) else (if (decide (st11.num = (0 : Int))) = true then (R.bind (l_is come15 ((0 : Int)) ((1 : Int))) fun i24 => R.ok i24) else (R.bind (p_parted one3 st11) fun parted25 => R.bind (mulR one3.num ((st11.den : Int))) fun p26 => R.bind (mulR ((one3.den : Int)) st11.num) fun p27 => R.bind (l_is parted25 p26 p27) fun i28 => if (!i28) = true then (R.ok false) else (R.bind (p_parted come15 st11) fun parted29 => R.bind (l_is parted29 one3.num ((one3.den : Int))) fun i30 => R.ok i30))))
end Pg

set_option Elab.async false
set_option linter.all false
namespace Pg

/-! mirrors of the defs of k04, printed by pygen -/
def p_under (one1 : Rat) (other2 : Rat) : R Bool :=
  R.bind (mulR one1.num ((other2.den : Int))) fun p3 =>
  R.bind (mulR other2.num ((one1.den : Int))) fun p4 =>
  R.ok ((decide (p3 < p4)))
def p_between (one1 : Rat) (low2 : Rat) (high3 : Rat) : R Rat :=
  R.bind (p_under one1 low2) fun under4 =>
  if under4 = true then (R.ok low2) else (R.bind (p_under high3 one1) fun under5 => if under5 = true then (R.ok high3) else (R.ok one1))
def p_whole_part (one1 : Rat) : R Int :=
  R.bind (fdivR one1.num ((one1.den : Int))) fun q2 =>
  R.ok q2
def l_under (one1 : Rat) (other2 : Rat) : R Bool :=
  R.bind (mulR one1.num ((other2.den : Int))) fun p3 =>
  R.bind (mulR other2.num ((one1.den : Int))) fun p4 =>
  R.ok ((decide (p3 < p4)))
def l_three (script1 : (List Int)) : R ((List Rat)) :=
  R.bind (l_drawn script1 ((0 : Int))) fun d2 =>
  R.bind (l_drawn script1 ((2 : Int))) fun d3 =>
  R.bind (l_drawn script1 ((4 : Int))) fun d4 =>
  R.bind (R.ok ([d2, d3, d4])) fun some5 =>
  R.bind (l_cell script1 ((6 : Int))) fun c6 =>
  R.bind (R.ok ((c6 % (3 : Int)))) fun way7 =>
  R.bind (l_cell script1 ((7 : Int))) fun c8 =>
  R.bind (R.ok ((c8 % (3 : Int)))) fun at9 =>
  R.bind (if (decide (way7 = (0 : Int))) = true then (R.bind (atR some5 (((at9 + (1 : Int)) % (3 : Int)))) fun it11 => R.bind (setR some5 at9 it11) fun some12 => R.ok some12) else (R.ok some5) : R ((List Rat))) fun st10 =>
  R.bind (if (decide (way7 = (1 : Int))) = true then (R.bind (atR st10 (((at9 + (1 : Int)) % (3 : Int)))) fun it14 => R.bind (R.ok it14) fun near15 => R.bind (l_cell script1 ((8 : Int))) fun c16 => R.bind (R.ok (((100000000000000000000000000000 : Int) + (c16 % (12 : Int))))) fun part17 => R.bind (mulR near15.num part17) fun p18 => R.bind (mulR ((near15.den : Int)) part17) fun p19 => R.bind (l_ratio ((p18 + (near15.den : Int))) p19) fun r20 => R.bind (setR st10 at9 r20) fun some21 => R.ok some21) else (R.ok st10) : R ((List Rat))) fun st13 =>
  R.ok st13
def l_between_good (one1 : Rat) (other2 : Rat) (third3 : Rat) : R Bool :=
  R.bind (R.ok other2) fun low4 =>
  R.bind (R.ok third3) fun high5 =>
  R.bind (l_under third3 other2) fun u6 =>
  R.bind (if u6 = true then (R.bind (R.ok third3) fun low8 => R.bind (R.ok other2) fun high9 => R.ok (low8, high9)) else (R.ok (low4, high5)) : R ((Rat × Rat))) fun st7 =>
  R.bind (R.ok one1) fun due10 =>
  R.bind (l_under one1 st7.1) fun u11 =>
  R.bind (if u11 = true then (R.bind (R.ok st7.1) fun due13 => R.ok due13) else (R.ok due10) : R Rat) fun st12 =>
  R.bind (l_under st7.2 one1) fun u14 =>
  R.bind (if u14 = true then (R.bind (R.ok st7.2) fun due16 => R.ok due16) else (R.ok st12) : R Rat) fun st15 =>
  R.bind (p_between one1 st7.1 st7.2) fun betwee17 =>
  R.bind (l_is betwee17 st15.num ((st15.den : Int))) fun i18 =>
  R.ok i18
def l_whole_good (one1 : Rat) : R Bool :=
  R.bind (p_whole_part one1) fun whole2 =>
  R.bind (R.ok whole2) fun found3 =>
  R.bind (l_whole found3) fun w4 =>
  if (!w4) = true then (R.ok false) else (R.bind (mulR found3 ((one1.den : Int))) fun p5 => R.bind (R.andR ((decide (p5 ≤ one1.num))) (R.bind (mulR ((found3 + (1 : Int))) ((one1.den : Int))) fun p6 => R.ok ((decide (one1.num < p6))))) fun b7 => R.ok b7)
def k04_law (script1 : (List Int)) : R Bool :=
  R.bind (l_three script1) fun t2 =>
  R.bind (R.ok t2) fun some3 =>
  R.bind (rngR 0 ((3 : Int))) fun r4 =>
  R.bind (R.forX (fun (x5 : Int) (s6 : Unit) => (R.bind (atR some3 x5) fun it7 => R.bind (R.ok it7) fun one8 => R.bind (R.forX (fun (x9 : Rat) (s10 : Unit) => (R.bind (p_under one8 x9) fun under11 => R.bind (R.ok under11) fun found12 => R.bind (R.orR ((!true)) (R.bind (l_under one8 x9) fun u13 => R.ok ((!decide (found12 = u13))))) fun b14 => if b14 = true then (R.ok (Sum.inr false)) else (R.ok (Sum.inl (()))) : R (Sum Unit Bool))) some3 (())) fun r15 => R.caseX r15 (fun s16 => R.bind (atR some3 (((x5 + (1 : Int)) % (3 : Int)))) fun it18 => R.bind (atR some3 (((x5 + (2 : Int)) % (3 : Int)))) fun it19 => R.bind (l_between_good one8 it18 it19) fun b20 => if (!b20) = true then (R.ok (Sum.inr false)) else (R.bind (l_whole_good one8) fun w21 => R.bind (R.orR ((!w21)) (R.bind (mkQ ((-one8.num)) ((one8.den : Int))) fun q22 => R.bind (l_whole_good q22) fun w23 => R.ok ((!w23)))) fun b24 => if b24 = true then (R.ok (Sum.inr false)) else (R.ok (Sum.inl (()))))) (fun b17 => R.ok (Sum.inr b17)) : R (Sum Unit Bool))) r4 (())) fun r25 =>
  R.caseX r25 (fun s26 => R.ok true) (fun b27 => R.ok b27)
end Pg

set_option Elab.async false
set_option linter.all false
namespace Pg

/-! mirrors of the defs of k25, printed by pygen -/
def p_cover (share1 : Rat) : R Rat :=
  R.bind (p_between share1 ((0 : Rat)) ((1 : Rat))) fun betwee2 =>
  R.ok betwee2
def p_clear_film : R ((List Rat)) :=
  R.ok ([(1 : Rat), (0 : Rat), (0 : Rat), (0 : Rat), (0 : Rat)])
def l_spread (cell1 : Int) (k2 : Int) : R Int :=
  if (decide ((-((1000 : Int))) < cell1) && decide (cell1 < (1000 : Int))) = true then (R.bind (mulR ((37 : Int)) k2) fun p3 => R.bind (mulR ((cell1 + (1000 : Int))) (((cell1 + (1000 : Int)) + p3))) fun p4 => R.bind (mulR ((911 : Int)) k2) fun p5 => R.bind (mulR ((p4 + p5)) ((48271 : Int))) fun p6 => R.ok ((p6 % (1000003 : Int)))) else (R.ok cell1)
def l_low (top1 : Int) (bottom2 : Int) : R Rat :=
  R.bind (R.ok ((absZ top1))) fun one3 =>
  R.bind (R.ok bottom2) fun other4 =>
  R.bind (gcdR one3 other4) fun g5 =>
  R.bind (fdivR top1 g5) fun q6 =>
  R.bind (fdivR bottom2 g5) fun q7 =>
  R.bind (mkQ q6 q7) fun q8 =>
  R.ok q8
def l_like (found1 : (List Rat)) (due2 : (List Rat)) : R Bool :=
  if ((!true) || (!decide ((found1.length : Int) = (due2.length : Int)))) = true then (R.ok false) else (R.bind (R.forX (fun (x3 : Rat) (s4 : Unit) => (if ((!true) || (!decide ((2 : Int) = (2 : Int)))) = true then (R.ok (Sum.inr false)) else (R.bind (R.forX (fun (x5 : Int) (s6 : Unit) => (R.bind (l_whole x5) fun w7 => if (!w7) = true then (R.ok (Sum.inr false)) else (R.ok (Sum.inl (()))) : R (Sum Unit Bool))) ([x3.num, (x3.den : Int)]) (())) fun r8 => R.caseX r8 (fun s9 => R.ok (Sum.inl (()))) (fun b10 => R.ok (Sum.inr b10))) : R (Sum Unit Bool))) found1 (())) fun r11 => R.caseX r11 (fun s12 => R.ok ((decide (found1 = due2)))) (fun b13 => R.ok b13))
def l_share (cell1 : Int) : R Rat :=
  R.bind (R.ok (((1 : Int) + (cell1 % (12 : Int))))) fun bottom2 =>
  R.bind (R.ok ((((cell1 / (12 : Int)) % (81 : Int)) - (40 : Int)))) fun top3 =>
  R.bind (if (decide (((cell1 / (3 : Int)) % (4 : Int)) = (1 : Int))) = true then (R.bind (R.ok (((1 : Int) + ((cell1 / (12 : Int)) % (1000000000000000000000000 : Int))))) fun bottom5 => R.bind (mulR ((cell1 / (48 : Int))) ((48271 : Int))) fun p6 => R.bind (R.ok (((p6 % (20000000000000000000000000 : Int)) - (10000000000000000000000000 : Int)))) fun top7 => R.ok (bottom5, top7)) else (R.ok (bottom2, top3)) : R ((Int × Int))) fun st4 =>
  R.bind (if (decide ((cell1 % (5 : Int)) = (2 : Int))) = true then (R.bind (atR ([(0 : Int), st4.1, (-((1 : Int))), (st4.1 + (1 : Int)), (st4.1 - (1 : Int)), (1 : Int)]) (((cell1 / (5 : Int)) % (6 : Int)))) fun it9 => R.bind (R.ok it9) fun top10 => R.ok top10) else (R.ok st4.2) : R Int) fun st8 =>
  R.bind (l_low st8 st4.1) fun l11 =>
  R.ok l11
def l_due (share1 : Rat) : R Rat :=
  if (decide (share1.num < (0 : Int))) = true then (R.bind (mkQ ((0 : Int)) ((1 : Int))) fun q2 => R.ok q2) else (if (decide (share1.num > (share1.den : Int))) = true then (R.bind (mkQ ((1 : Int)) ((1 : Int))) fun q3 => R.ok q3) else (R.ok share1))
def k25_law (script1 : (List Int)) : R Bool :=
  R.bind (p_clear_film) fun clear2 =>
  R.bind (mkQ ((1 : Int)) ((1 : Int))) fun q3 =>
  R.bind (mkQ ((0 : Int)) ((1 : Int))) fun q4 =>
  R.bind (mkQ ((0 : Int)) ((1 : Int))) fun q5 =>
  R.bind (mkQ ((0 : Int)) ((1 : Int))) fun q6 =>
  R.bind (mkQ ((0 : Int)) ((1 : Int))) fun q7 =>
  R.bind (l_like clear2 ([q3, q4, q5, q6, q7])) fun l8 =>
  if (!l8) = true then (R.ok false) else (R.bind (rngR 0 ((3 : Int))) fun r9 => R.bind (R.compR (fun x10 => R.bind (l_cell script1 x10) fun c11 => R.ok c11) r9) fun c12 => R.bind (catR c12 ((cutL script1 none (some ((60 : Int)))))) fun c13 => R.bind (R.ok c13) fun cells14 => R.bind (rngR 0 ((cells14.length : Int))) fun r15 => R.bind (R.forX (fun (x16 : Int) (s17 : Unit) => (R.bind (atR cells14 x16) fun it18 => R.bind (l_spread it18 x16) fun s19 => R.bind (l_share s19) fun s20 => R.bind (R.ok s20) fun share21 => R.bind (p_cover share21) fun cover22 => R.bind (R.ok cover22) fun found23 => R.bind (l_due share21) fun d24 => R.bind (l_like ([found23]) ([d24])) fun l25 => R.bind (R.orR ((!l25)) (R.bind (p_cover found23) fun cover26 => R.ok ((!decide (cover26 = found23))))) fun b27 => if b27 = true then (R.ok (Sum.inr false)) else (R.ok (Sum.inl (()))) : R (Sum Unit Bool))) r15 (())) fun r28 => R.caseX r28 (fun s29 => R.ok true) (fun b30 => R.ok b30))
end Pg

set_option Elab.async false
set_option linter.all false
namespace Pg

/-! mirrors of the defs of k08, printed by pygen -/
def p_height_over (line1 : (Rat × Rat × Rat)) (point2 : (Rat × Rat)) : R Rat :=
  R.bind (p_times line1.1 point2.1) fun times3 =>
  R.bind (p_times line1.2.1 point2.2) fun times4 =>
  R.bind (p_plus times3 times4) fun plus5 =>
  R.bind (p_minus plus5 line1.2.2) fun minus6 =>
  R.ok minus6
def p_against (line1 : (Rat × Rat × Rat)) : R ((Rat × Rat × Rat)) :=
  R.bind (p_minus ((0 : Rat)) line1.1) fun minus2 =>
  R.bind (p_minus ((0 : Rat)) line1.2.1) fun minus3 =>
  R.bind (p_minus ((0 : Rat)) line1.2.2) fun minus4 =>
  R.ok ((minus2, minus3, minus4))
def l_ratio_3 (top1 : Int) (bottom2 : Int) : R Rat :=
  R.bind (R.ok ((absZ top1))) fun one3 =>
  R.bind (R.ok ((absZ bottom2))) fun most4 =>
  R.bind (gcdR most4 one3) fun g5 =>
  R.bind (if (decide (bottom2 < (0 : Int))) = true then (R.bind (R.ok ((-g5))) fun most7 => R.ok most7) else (R.ok g5) : R Int) fun st6 =>
  R.bind (fdivR top1 st6) fun q8 =>
  R.bind (fdivR bottom2 st6) fun q9 =>
  R.bind (mkQ q8 q9) fun q10 =>
  R.ok q10
def l_plus_2 (one1 : Rat) (other2 : Rat) : R Rat :=
  R.bind (mulR one1.num ((other2.den : Int))) fun p3 =>
  R.bind (mulR other2.num ((one1.den : Int))) fun p4 =>
  R.bind (mulR ((one1.den : Int)) ((other2.den : Int))) fun p5 =>
  R.bind (l_ratio_3 ((p3 + p4)) p5) fun r6 =>
  R.ok r6
def l_minus_2 (one1 : Rat) (other2 : Rat) : R Rat :=
  R.bind (mulR one1.num ((other2.den : Int))) fun p3 =>
  R.bind (mulR other2.num ((one1.den : Int))) fun p4 =>
  R.bind (mulR ((one1.den : Int)) ((other2.den : Int))) fun p5 =>
  R.bind (l_ratio_3 ((p3 - p4)) p5) fun r6 =>
  R.ok r6
def l_times_2 (one1 : Rat) (other2 : Rat) : R Rat :=
  R.bind (mulR one1.num other2.num) fun p3 =>
  R.bind (mulR ((one1.den : Int)) ((other2.den : Int))) fun p4 =>
  R.bind (l_ratio_3 p3 p4) fun r5 =>
  R.ok r5
def l_is_2 (found1 : Rat) (due2 : Rat) : R Bool :=
  R.bind (R.orR ((!true)) (R.bind (R.orR ((!decide ((2 : Int) = (2 : Int)))) (R.bind (l_whole found1.num) fun w3 => R.bind (R.orR ((!w3)) (R.bind (l_whole ((found1.den : Int))) fun w4 => R.ok ((!w4)))) fun b5 => R.ok b5)) fun b6 => R.ok b6)) fun b7 =>
  if b7 = true then (R.ok false) else (R.ok ((decide (found1 = due2))))
def l_number_2 (cell1 : Int) : R Rat :=
  if (decide ((cell1 % (8 : Int)) = (7 : Int))) = true then (R.bind (l_ratio_3 ((((cell1 / (8 : Int)) % (2000000000000 : Int)) - (1000000000000 : Int))) (((1 : Int) + ((cell1 / (8 : Int)) % (7 : Int))))) fun r2 => R.ok r2) else (R.bind (atR ([(4 : Int), (1 : Int), (2 : Int), (4 : Int), (3 : Int), (1 : Int), (6 : Int)]) ((cell1 % (8 : Int)))) fun it3 => R.bind (l_ratio_3 ((((cell1 / (8 : Int)) % (29 : Int)) - (6 : Int))) it3) fun r4 => R.ok r4)
def l_at (script1 : (List Int)) (k2 : Int) : R Rat :=
  R.bind (l_cell script1 k2) fun c3 =>
  R.bind (l_spread c3 k2) fun s4 =>
  R.bind (l_number_2 s4) fun n5 =>
  R.ok n5
def l_line (script1 : (List Int)) (at2 : Int) : R ((Rat × Rat × Rat)) :=
  R.bind (R.ok (([] : (List Rat)))) fun line3 =>
  R.bind (rngR 0 ((3 : Int))) fun r4 =>
  R.bind (R.forR (fun (x5 : Int) (s6 : (List Rat)) => R.bind (l_cell script1 ((at2 + x5))) fun c7 => R.bind (l_spread c7 ((x5 + (40 : Int)))) fun s8 => R.bind (R.ok s8) fun cell9 => R.bind (l_ratio_3 (((cell9 % (9 : Int)) - (4 : Int))) (((1 : Int) + ((cell9 / (9 : Int)) % (3 : Int))))) fun r10 => R.bind (appR s6 r10) fun line11 => R.ok line11) r4 line3) fun s12 =>
  R.bind (l_cell script1 at2) fun c13 =>
  R.bind (if (decide ((c13 % (5 : Int)) < (2 : Int))) = true then (R.bind (mkQ ((0 : Int)) ((1 : Int))) fun q15 => R.bind (l_cell script1 at2) fun c16 => R.bind (setR s12 ((c16 % (5 : Int))) q15) fun line17 => R.ok line17) else (R.ok s12) : R ((List Rat))) fun st14 =>
  R.bind (l_cell script1 ((at2 + (2 : Int)))) fun c18 =>
  R.bind (if (decide ((c18 % (8 : Int)) = (5 : Int))) = true then (R.bind (l_cell script1 ((at2 + (2 : Int)))) fun c20 => R.bind (l_number_2 ((c20 / (8 : Int)))) fun n21 => R.bind (setR st14 ((2 : Int)) n21) fun line22 => R.ok line22) else (R.ok st14) : R ((List Rat))) fun st19 =>
  R.bind (tup3R st19) fun t23 =>
  R.ok t23
def l_over (line1 : (Rat × Rat × Rat)) (point2 : (Rat × Rat)) : R Rat :=
  R.bind (l_times_2 line1.1 point2.1) fun t3 =>
  R.bind (l_times_2 line1.2.1 point2.2) fun t4 =>
  R.bind (l_plus_2 t3 t4) fun p5 =>
  R.bind (l_minus_2 p5 line1.2.2) fun m6 =>
  R.ok m6
def l_turned (one1 : Rat) : R Rat :=
  R.bind (mkQ ((-one1.num)) ((one1.den : Int))) fun q2 =>
  R.ok q2
def k08_law (script1 : (List Int)) : R Bool :=
  R.bind (l_line script1 ((0 : Int))) fun l2 =>
  R.bind (R.ok l2) fun line3 =>
  R.bind (p_against line3) fun agains4 =>
  R.bind (R.ok agains4) fun other5 =>
  if ((!true) || (!decide ((3 : Int) = (3 : Int)))) = true then (R.ok false) else (R.bind (rngR 0 ((3 : Int))) fun r6 => R.bind (R.forX (fun (x7 : Int) (s8 : Unit) => (R.bind (atR ([other5.1, other5.2.1, other5.2.2]) x7) fun it9 => R.bind (atR ([line3.1, line3.2.1, line3.2.2]) x7) fun it10 => R.bind (l_turned it10) fun t11 => R.bind (l_is_2 it9 t11) fun i12 => if (!i12) = true then (R.ok (Sum.inr false)) else (R.ok (Sum.inl (()))) : R (Sum Unit Bool))) r6 (())) fun r13 => R.caseX r13 (fun s14 => R.bind (p_against other5) fun agains16 => if (!decide (agains16 = line3)) = true then (R.ok false) else (R.bind (rngR 0 ((4 : Int))) fun r17 => R.bind (R.forX (fun (x18 : Int) (s19 : Unit) => (R.bind (mulR ((2 : Int)) x18) fun p20 => R.bind (l_at script1 (((3 : Int) + p20))) fun a21 => R.bind (mulR ((2 : Int)) x18) fun p22 => R.bind (l_at script1 (((4 : Int) + p22))) fun a23 => R.bind (R.ok ((a21, a23))) fun point24 => R.bind (l_over line3 point24) fun o25 => R.bind (R.ok o25) fun due26 => R.bind (p_height_over line3 point24) fun height27 => R.bind (l_is_2 height27 due26) fun i28 => R.bind (R.orR ((!i28)) (R.bind (p_height_over other5 point24) fun height29 => R.bind (l_turned due26) fun t30 => R.bind (l_is_2 height29 t30) fun i31 => R.ok ((!i31)))) fun b32 => if b32 = true then (R.ok (Sum.inr false)) else (R.ok (Sum.inl (()))) : R (Sum Unit Bool))) r17 (())) fun r33 => R.caseX r33 (fun s34 => R.ok true) (fun b35 => R.ok b35))) (fun b15 => R.ok b15))
end Pg

set_option Elab.async false
set_option linter.all false
namespace Pg

/-! mirrors of the defs of k10, printed by pygen -/
def p_point_at (one1 : (Rat × Rat)) (other2 : (Rat × Rat)) (share3 : Rat) : R ((Rat × Rat)) :=
  R.bind (p_minus other2.1 one1.1) fun minus4 =>
  R.bind (p_times share3 minus4) fun times5 =>
  R.bind (p_plus one1.1 times5) fun plus6 =>
  R.bind (R.ok plus6) fun across7 =>
  R.bind (p_minus other2.2 one1.2) fun minus8 =>
  R.bind (p_times share3 minus8) fun times9 =>
  R.bind (p_plus one1.2 times9) fun plus10 =>
  R.ok ((across7, plus10))
def p_are_parted (height1 : Rat) (other2 : Rat) : R Bool :=
  R.bind (p_under ((0 : Rat)) height1) fun under3 =>
  if under3 = true then (R.bind (p_under other2 ((0 : Rat))) fun under4 => R.ok under4) else (R.bind (p_under height1 ((0 : Rat))) fun under5 => R.bind (R.andR under5 (R.bind (p_under ((0 : Rat)) other2) fun under6 => R.ok under6)) fun b7 => R.ok b7)
def p_cut (ring1 : (List (Rat × Rat))) (line2 : (Rat × Rat × Rat)) : R ((List (Rat × Rat))) :=
  R.bind (R.compR (fun x3 => R.bind (p_height_over line2 x3) fun height4 => R.ok height4) ring1) fun c5 =>
  R.bind (R.ok c5) fun heights6 =>
  R.bind (R.ok (([] : (List (Rat × Rat))))) fun come7 =>
  R.bind (rngR 0 ((ring1.length : Int))) fun r8 =>
  R.bind (R.forR (fun (x9 : Int) (s10 : (List (Rat × Rat))) => R.bind (fmodR ((x9 + (1 : Int))) ((ring1.length : Int))) fun m11 => R.bind (R.ok m11) fun after12 => R.bind (atR heights6 x9) fun it13 => R.bind (p_under ((0 : Rat)) it13) fun under14 => R.bind (if (!under14) = true then (R.bind (atR ring1 x9) fun it16 => R.bind (appR s10 it16) fun come17 => R.ok come17) else (R.ok s10) : R ((List (Rat × Rat)))) fun st15 => R.bind (atR heights6 x9) fun it18 => R.bind (atR heights6 after12) fun it19 => R.bind (p_are_parted it18 it19) fun are_pa20 => if are_pa20 = true then (R.bind (atR heights6 x9) fun it21 => R.bind (atR heights6 x9) fun it22 => R.bind (atR heights6 after12) fun it23 => R.bind (p_minus it22 it23) fun minus24 => R.bind (p_parted it21 minus24) fun parted25 => R.bind (R.ok parted25) fun share26 => R.bind (atR ring1 x9) fun it27 => R.bind (atR ring1 after12) fun it28 => R.bind (p_point_at it27 it28 share26) fun point29 => R.bind (appR st15 point29) fun come30 => R.ok come30) else (R.ok st15)) r8 come7) fun s31 =>
  R.ok s31
def l_ring_2 (script1 : (List Int)) (at2 : Int) (many3 : Int) : R ((List (Rat × Rat))) :=
  R.bind (R.ok (([] : (List (Rat × Rat))))) fun ring4 =>
  R.bind (rngR 0 many3) fun r5 =>
  R.bind (R.forR (fun (x6 : Int) (s7 : (List (Rat × Rat))) => R.bind (mulR ((2 : Int)) x6) fun p8 => R.bind (l_at script1 ((at2 + p8))) fun a9 => R.bind (mulR ((2 : Int)) x6) fun p10 => R.bind (l_at script1 (((at2 + p10) + (1 : Int)))) fun a11 => R.bind (appR s7 ((a9, a11))) fun ring12 => R.ok ring12) r5 ring4) fun s13 =>
  R.ok s13
def l_points_like (found1 : (List (Rat × Rat))) : R Bool :=
  if (!true) = true then (R.ok false) else (R.bind (R.forX (fun (x2 : (Rat × Rat)) (s3 : Unit) => (if ((!true) || (!decide ((2 : Int) = (2 : Int)))) = true then (R.ok (Sum.inr false)) else (R.bind (l_is_2 x2.1 x2.1) fun i4 => R.bind (R.orR ((!i4)) (R.bind (l_is_2 x2.2 x2.2) fun i5 => R.ok ((!i5)))) fun b6 => if b6 = true then (R.ok (Sum.inr false)) else (R.ok (Sum.inl (())))) : R (Sum Unit Bool))) found1 (())) fun r7 => R.caseX r7 (fun s8 => R.ok true) (fun b9 => R.ok b9))
def l_area (ring1 : (List (Rat × Rat))) : R Rat :=
  R.bind (mkQ ((0 : Int)) ((1 : Int))) fun q2 =>
  R.bind (R.ok q2) fun some3 =>
  R.bind (rngR 0 ((ring1.length : Int))) fun r4 =>
  R.bind (R.forR (fun (x5 : Int) (s6 : Rat) => R.bind (atR ring1 x5) fun it7 => R.bind (R.ok it7) fun one8 => R.bind (fmodR ((x5 + (1 : Int))) ((ring1.length : Int))) fun m9 => R.bind (atR ring1 m9) fun it10 => R.bind (R.ok it10) fun other11 => R.bind (l_times_2 one8.1 other11.2) fun t12 => R.bind (l_times_2 other11.1 one8.2) fun t13 => R.bind (l_minus_2 t12 t13) fun m14 => R.bind (l_plus_2 s6 m14) fun p15 => R.bind (R.ok p15) fun some16 => R.ok some16) r4 some3) fun s17 =>
  R.bind (mkQ ((1 : Int)) ((2 : Int))) fun q18 =>
  R.bind (l_times_2 s17 q18) fun t19 =>
  R.ok t19
def k10_law (script1 : (List Int)) : R Bool :=
  R.bind (l_line script1 ((0 : Int))) fun l2 =>
  R.bind (R.ok l2) fun line3 =>
  R.bind (mkQ ((0 : Int)) ((1 : Int))) fun q4 =>
  R.bind (R.andR ((decide (line3.1 = q4))) (R.bind (mkQ ((0 : Int)) ((1 : Int))) fun q5 => R.ok ((decide (line3.2.1 = q5))))) fun b6 =>
  R.bind (if b6 = true then (R.bind (mkQ ((1 : Int)) ((1 : Int))) fun q8 => R.bind (l_cell script1 ((1 : Int))) fun c9 => R.bind (mkQ (((c9 % (3 : Int)) - (1 : Int))) ((1 : Int))) fun q10 => R.bind (R.ok ((q8, q10, line3.2.2))) fun line11 => R.ok line11) else (R.ok line3) : R ((Rat × Rat × Rat))) fun st7 =>
  R.bind (l_cell script1 ((3 : Int))) fun c12 =>
  R.bind (R.ok ((c12 % (9 : Int)))) fun many13 =>
  R.bind (l_cell script1 ((3 : Int))) fun c14 =>
  R.bind (if (decide (((c14 / (9 : Int)) % (8 : Int)) = (3 : Int))) = true then (R.bind (l_cell script1 ((3 : Int))) fun c16 => R.bind (R.ok (((9 : Int) + ((c16 / (72 : Int)) % (8 : Int))))) fun many17 => R.ok many17) else (R.ok many13) : R Int) fun st15 =>
  R.bind (l_ring_2 script1 ((5 : Int)) st15) fun r18 =>
  R.bind (R.ok r18) fun ring19 =>
  R.bind (R.andR ((decide (st15 > (0 : Int)))) (R.bind (l_cell script1 ((4 : Int))) fun c20 => R.ok ((decide ((c20 % (2 : Int)) = (0 : Int)))))) fun b21 =>
  R.bind (if b21 = true then (R.bind (l_cell script1 ((4 : Int))) fun c23 => R.bind (fmodR ((c23 / (2 : Int))) st15) fun m24 => R.bind (atR ring19 m24) fun it25 => R.bind (R.ok it25) fun point26 => R.bind (mkQ ((0 : Int)) ((1 : Int))) fun q27 => R.bind (l_over ((st7.1, st7.2.1, q27)) point26) fun o28 => R.bind (R.ok ((st7.1, st7.2.1, o28))) fun line29 => R.ok line29) else (R.ok st7) : R ((Rat × Rat × Rat))) fun st22 =>
  R.bind (p_cut ring19 st22) fun cut30 =>
  R.bind (R.ok cut30) fun one31 =>
  R.bind (p_against st22) fun agains32 =>
  R.bind (p_cut ring19 agains32) fun cut33 =>
  R.bind (R.ok cut33) fun other34 =>
  R.bind (l_points_like one31) fun p35 =>
  R.bind (R.orR ((!p35)) (R.bind (l_points_like other34) fun p36 => R.ok ((!p36)))) fun b37 =>
  if b37 = true then (R.ok false) else (R.bind (R.forX (fun (x38 : (Rat × Rat)) (s39 : Unit) => (R.bind (l_over st22 x38) fun o40 => if (decide (o40.num > (0 : Int))) = true then (R.ok (Sum.inr false)) else (R.ok (Sum.inl (()))) : R (Sum Unit Bool))) one31 (())) fun r41 => R.caseX r41 (fun s42 => R.bind (R.forX (fun (x44 : (Rat × Rat)) (s45 : Unit) => (R.bind (l_over st22 x44) fun o46 => if (decide (o46.num < (0 : Int))) = true then (R.ok (Sum.inr false)) else (R.ok (Sum.inl (()))) : R (Sum Unit Bool))) other34 (())) fun r47 => R.caseX r47 (fun s48 => R.bind (l_area one31) fun a50 => R.bind (l_area other34) fun a51 => R.bind (l_plus_2 a50 a51) fun p52 => R.bind (l_area ring19) fun a53 => R.ok ((decide (p52 = a53)))) (fun b49 => R.ok b49)) (fun b43 => R.ok b43))
end Pg

set_option Elab.async false
set_option linter.all false
namespace Pg

/-! mirrors of the defs of k09, printed by pygen -/
def p_cut_shape (shape1 : (List (List (Rat × Rat)))) (line2 : (Rat × Rat × Rat)) : R ((List (List (Rat × Rat)))) :=
  R.bind (R.compR (fun x3 => R.bind (p_cut x3 line2) fun cut4 => R.ok cut4) shape1) fun c5 =>
  R.ok c5
def l_met (one1 : (Rat × Rat)) (other2 : (Rat × Rat)) (height3 : Rat) (after4 : Rat) : R ((Rat × Rat)) :=
  R.bind (l_minus_2 height3 after4) fun m5 =>
  R.bind (R.ok m5) fun share6 =>
  R.bind (mulR height3.num ((share6.den : Int))) fun p7 =>
  R.bind (mulR ((height3.den : Int)) share6.num) fun p8 =>
  R.bind (l_ratio_3 p7 p8) fun r9 =>
  R.bind (R.ok r9) fun share10 =>
  R.bind (R.ok (([] : (List Rat)))) fun come11 =>
  R.bind (rngR 0 ((2 : Int))) fun r12 =>
  R.bind (R.forR (fun (x13 : Int) (s14 : (List Rat)) => R.bind (atR ([one1.1, one1.2]) x13) fun it15 => R.bind (atR ([other2.1, other2.2]) x13) fun it16 => R.bind (atR ([one1.1, one1.2]) x13) fun it17 => R.bind (l_minus_2 it16 it17) fun m18 => R.bind (l_times_2 share10 m18) fun t19 => R.bind (l_plus_2 it15 t19) fun p20 => R.bind (appR s14 p20) fun come21 => R.ok come21) r12 come11) fun s22 =>
  R.bind (tup2R s22) fun t23 =>
  R.ok t23
def l_due_4 (ring1 : (List (Rat × Rat))) (line2 : (Rat × Rat × Rat)) : R ((List (Rat × Rat))) :=
  R.bind (R.compR (fun x3 => R.bind (l_over line2 x3) fun o4 => R.ok o4) ring1) fun c5 =>
  R.bind (R.ok c5) fun heights6 =>
  R.bind (R.ok (([] : (List (Rat × Rat))))) fun due7 =>
  R.bind (rngR 0 ((ring1.length : Int))) fun r8 =>
  R.bind (R.forR (fun (x9 : Int) (s10 : (List (Rat × Rat))) => R.bind (fmodR ((x9 + (1 : Int))) ((ring1.length : Int))) fun m11 => R.bind (atR heights6 m11) fun it12 => R.bind (R.ok it12) fun after13 => R.bind (atR heights6 x9) fun it14 => R.bind (if (decide (it14.num ≤ (0 : Int))) = true then (R.bind (atR ring1 x9) fun it16 => R.bind (appR s10 it16) fun due17 => R.ok due17) else (R.ok s10) : R ((List (Rat × Rat)))) fun st15 => R.bind (atR heights6 x9) fun it18 => R.bind (mulR it18.num after13.num) fun p19 => if (decide (p19 < (0 : Int))) = true then (R.bind (atR ring1 x9) fun it20 => R.bind (fmodR ((x9 + (1 : Int))) ((ring1.length : Int))) fun m21 => R.bind (atR ring1 m21) fun it22 => R.bind (atR heights6 x9) fun it23 => R.bind (l_met it20 it22 it23 after13) fun m24 => R.bind (appR st15 m24) fun due25 => R.ok due25) else (R.ok st15)) r8 due7) fun s26 =>
  R.ok s26
def k09_law (script1 : (List Int)) : R Bool :=
  R.bind (l_line script1 ((0 : Int))) fun l2 =>
  R.bind (R.ok l2) fun line3 =>
  R.bind (l_cell script1 ((3 : Int))) fun c4 =>
  R.bind (R.ok ((c4 % (9 : Int)))) fun many5 =>
  R.bind (l_cell script1 ((3 : Int))) fun c6 =>
  R.bind (if (decide (((c6 / (9 : Int)) % (8 : Int)) = (3 : Int))) = true then (R.bind (l_cell script1 ((3 : Int))) fun c8 => R.bind (R.ok (((9 : Int) + ((c8 / (72 : Int)) % (32 : Int))))) fun many9 => R.ok many9) else (R.ok many5) : R Int) fun st7 =>
  R.bind (l_ring_2 script1 ((5 : Int)) st7) fun r10 =>
  R.bind (R.ok r10) fun ring11 =>
  R.bind (R.andR ((decide (st7 > (0 : Int)))) (R.bind (l_cell script1 ((4 : Int))) fun c12 => R.ok ((decide ((c12 % (2 : Int)) = (0 : Int)))))) fun b13 =>
  R.bind (if b13 = true then (R.bind (l_cell script1 ((4 : Int))) fun c15 => R.bind (fmodR ((c15 / (2 : Int))) st7) fun m16 => R.bind (atR ring11 m16) fun it17 => R.bind (R.ok it17) fun point18 => R.bind (mkQ ((0 : Int)) ((1 : Int))) fun q19 => R.bind (l_over ((line3.1, line3.2.1, q19)) point18) fun o20 => R.bind (R.ok ((line3.1, line3.2.1, o20))) fun line21 => R.ok line21) else (R.ok line3) : R ((Rat × Rat × Rat))) fun st14 =>
  R.bind (l_due_4 ring11 st14) fun d22 =>
  R.bind (R.ok d22) fun due23 =>
  R.bind (R.ok ring11) fun handed24 =>
  R.bind (p_cut handed24 st14) fun cut25 =>
  R.bind (R.ok cut25) fun found26 =>
  R.bind (l_points_like found26) fun p27 =>
  if ((!p27) || ((!decide (found26 = due23)) || (!decide (handed24 = ring11)))) = true then (R.ok false) else (R.bind (mkQ ((0 : Int)) ((1 : Int))) fun q28 => R.bind (mkQ ((0 : Int)) ((1 : Int))) fun q29 => R.bind (appR found26 ((q28, q29))) fun found30 => R.bind (R.ok ring11.reverse) fun back31 => R.bind (p_cut_shape ([handed24, ([] : (List (Rat × Rat))), back31]) st14) fun cut_sh32 => R.bind (R.ok cut_sh32) fun told33 => R.bind (R.orR ((!true)) (R.bind (l_due_4 back31 st14) fun d34 => R.ok (((!decide (told33 = [due23, ([] : (List (Rat × Rat))), d34])) || (!decide (handed24 = ring11)))))) fun b35 => if b35 = true then (R.ok false) else (R.bind (app2R ((told33.map (·.map some))) ((0 : Int)) ((none : (Option (Rat × Rat))))) fun told36 => R.bind (popR told36) fun told37 => R.bind (p_cut_shape ([handed24, handed24]) st14) fun cut_sh38 => R.bind (R.ok cut_sh38) fun both39 => if (!decide (both39 = [due23, due23])) = true then (R.ok false) else (R.bind (app2R ((both39.map (·.map some))) ((0 : Int)) ((none : (Option (Rat × Rat))))) fun both40 => R.bind (atR both40 ((1 : Int))) fun it41 => R.bind (R.andR ((decide (it41 = (due23.map some)))) (R.bind (p_cut handed24 st14) fun cut42 => R.bind (R.andR ((decide (cut42 = due23))) (R.bind (p_cut_shape ([handed24]) st14) fun cut_sh43 => R.ok ((decide (cut_sh43 = [due23]))))) fun b44 => R.ok b44)) fun b45 => R.ok b45)))
end Pg

set_option Elab.async false
set_option linter.all false
set_option maxRecDepth 100000
namespace Pg
open PySem PySem.Spec PyProof.Rows L2

def topS (i : Nat) : Stmt := PySem.Challenge.pw_coverfill_k09_cut_points.main.body.getD i (.Pass ⟨0, 0, 0, 0⟩)
abbrev FnP (K : PySem.W.Frag) (x : Str) (st : Stmt) (f : Addr) (fd : FuncData) : Prop := FunD K x x (defArgs st) (defBody st) (defScope st) [] [] f fd
section
variable {P : Program} {w : World} {K : PySem.W.Frag} {mg : Str → Option Value} {base : Heap}
abbrev s_divisor : Stmt := topS 4
abbrev n_divisor : List Str := ["one", "other"]
theorem sc_divisor : FnScope n_divisor ["one", "other"] (defScope s_divisor) := ⟨rfl, rfl, rfl, by decide +kernel, rfl, by decide +kernel, by decide +kernel⟩
abbrev sp_divisor (K : PySem.W.Frag) : Sp := spR K (fun (x : Int × Int) => [dI x.1, dI x.2]) (fun (x : Int × Int) => p_divisor x.1 x.2) dI
set_option maxHeartbeats 4000000 in
theorem ok_divisor {f : Addr} {fd : FuncData} (F : FnP K "divisor" s_divisor f fd)  : FnOk P w K mg base CX0 41 f fd ["one", "other"] (sp_divisor K) := by
  refine F.ok sc_divisor (fun vs H Q E h => ?_) (fun cdv A outer s H vs Q E hr h => ?_)
  · obtain ⟨x, _, _, _, _, d, _⟩ := h
    exact d.length
  · skip
    refine ⟨_, PSs.nox (pss_cons (ps_while PassesOwn.never (pt_cmpR op_gt (pv 1) pe_int (nomark _)) (pss_one (ps_par (i := 0) (j := 1) rfl sc_divisor.nd rfl rfl (by decide) rfl rfl (pa_cons (pv 1) (pa_cons (pe_op op_modN (pv 0) (pv 1)) pa_nil)) rfl))) (pss_one (ps_ret (pv 0)))), ?_⟩
    refine spR_run (n := 2) (k := 0) rfl (fun _ => rfl) (fun x b h => ?_) h
    obtain ⟨one1, other2⟩ := x
    show SW K _ _ [.dat (dI one1), .dat (dI other2)] _ _ _
    have h : p_divisor one1 other2 = R.ok b := h
    unfold p_divisor at h
    obtain ⟨g3, hg3, h⟩ := R.bind_inv h
    refine sw_seq (sw_gcd (fun (z : Int × Int) => [.dat (dI z.1), .dat (dI z.2)]) (x0 := one1) (y0 := other2) hg3 (.eq (.eq .nil)) (fun z => (et_test (ev_i0 (g := fun i j => .bl (decide (j < i))) (ev_var rfl) (ev_c _)))) (fun z w hm hw => sw_par (ev_var rfl) (ev_fmod hm (ev_var rfl) (ev_var rfl)) ⟨(z.2, w), hw.1, hw.2, .eq (.eq .nil)⟩) ?_)
    show SW K _ _ [.dat (dI g3), .dat (dI ((0 : Int)))] _ _ _
    exact sw_ret (ev_cast (r := dI) h (ev_var rfl)) rfl
abbrev s_ratio : Stmt := topS 5
abbrev n_ratio : List Str := ["top", "bottom", "most"]
theorem sc_ratio : FnScope n_ratio ["top", "bottom"] (defScope s_ratio) := ⟨rfl, rfl, rfl, by decide +kernel, rfl, by decide +kernel, by decide +kernel⟩
abbrev sp_ratio (K : PySem.W.Frag) : Sp := spR K (fun (x : Int × Int) => [dI x.1, dI x.2]) (fun (x : Int × Int) => p_ratio x.1 x.2) dQ
set_option maxHeartbeats 4000000 in
theorem ok_ratio {f : Addr} {fd : FuncData} (F : FnP K "ratio" s_ratio f fd) {f_divisor : Addr} {fd_divisor : FuncData} (F_divisor : FnP K "divisor" s_divisor f_divisor fd_divisor) (b_divisor : Binds K fd_divisor ["one", "other"] []) (g_divisor : mg "divisor" = some (.ref f_divisor)) (G_divisor : FnOk P w K mg base CX0 41 f_divisor fd_divisor ["one", "other"] (sp_divisor K)) (z_abs : mg "abs" = none) (hS : base.NoSeer) (hT : P.given.tree = none) : FnOk P w K mg base CX0 42 f fd ["top", "bottom"] (sp_ratio K) := by
  refine F.ok sc_ratio (fun vs H Q E h => ?_) (fun cdv A outer s H vs Q E hr h => ?_)
  · obtain ⟨x, _, _, _, _, d, _⟩ := h
    exact d.length
  · have hp := pyRm (qual := "ratio") (sc := defScope s_ratio) (n := s.heap.objs.size) (f := f) (cd := cdv) (outer := outer) hS hT hr (by decide) rfl rfl
    refine ⟨_, PSs.nox (pss_cons (ps_if (pt_cmpR op_eq (pv 1) pe_int (nomark _)) (pss_one ps_never) pss_nil) (pss_cons (ps_if (pt_cmpR op_lt (pv 1) pe_int (nomark _)) (pss_cons (ps_set (i := 0) sc_ratio.nd rfl (Or.inl rfl) (pe_un un_neg (pv 0))) (pss_one (ps_set (i := 1) sc_ratio.nd rfl (Or.inl rfl) (pe_un un_neg (pv 1))))) pss_nil) (pss_cons (ps_set (i := 2) sc_ratio.nd rfl (Or.inl rfl) (pe_call G_divisor (hr.mono (by decide)) (by rfl) g_divisor F_divisor.kp b_divisor .nil pass0 (pa_cons (pe_callB (id := "abs") cl_abs (by rfl) z_abs (by decide +kernel) (pa_cons (pv 0) pa_nil)) (pa_cons (pv 1) pa_nil)))) (pss_one (ps_ret (pe_tup (pa_cons (pe_op (op_fdivP hp) (pv 0) (pv 2)) (pa_cons (pe_op (op_fdivP hp) (pv 1) (pv 2)) pa_nil)))))))), ?_⟩
    refine spR_run (n := 2) (k := 1) rfl (fun _ => rfl) (fun x b h => ?_) h
    obtain ⟨top1, bottom2⟩ := x
    show SW K _ _ [.dat (dI top1), .dat (dI bottom2), .un] _ _ _
    have h : p_ratio top1 bottom2 = R.ok b := h
    unfold p_ratio at h
    refine sw_seq (sw_if (et_test (ev_eqI (ev_var rfl) (ev_c _))) (fun hc => ?_) (fun hc => ?_))
    · have h := if_t hc h
      cases h
    · have h := if_f hc h
      refine sw_next ?_
      show SW K _ _ [.dat (dI top1), .dat (dI bottom2), .un] _ _ _
      obtain ⟨st3, hst3, h⟩ := R.bind_inv h
      refine sw_seq (sw_mono (Nx := fun e => Wk e [.dat (dI st3.1), .dat (dI st3.2), .un]) (sw_if (et_test (ev_i0 (g := fun i j => .bl (decide (i < j))) (ev_var rfl) (ev_c _))) (fun hc => ?_) (fun hc => ?_)) (fun e w => sw_weak w ?_))
      · have h := if_t hc hst3
        clear hst3
        obtain ⟨top4, htop4, h⟩ := R.bind_inv h
        refine sw_seq (sw_set (ev_cast (r := dI) htop4 (ev_u (g := fun i => .int (-i)) (ev_var rfl))) ?_)
        show SW K _ _ [.dat (dI top4), .dat (dI bottom2), .un] _ _ _
        obtain ⟨bottom5, hbottom5, h⟩ := R.bind_inv h
        refine sw_set (ev_cast (r := dI) hbottom5 (ev_u (g := fun i => .int (-i)) (ev_var rfl))) ?_
        obtain rfl := R.ok_inj h
        exact .eq (.eq (.un .nil))
      · have h := if_f hc hst3
        clear hst3
        refine sw_next ?_
        obtain rfl := R.ok_inj h
        exact .eq (.eq (.un .nil))
      show SW K _ _ [.dat (dI st3.1), .dat (dI st3.2), .un] _ _ _
      obtain ⟨diviso6, hdiviso6, h⟩ := R.bind_inv h
      obtain ⟨most7, hmost7, h⟩ := R.bind_inv h
      refine sw_seq (sw_set (ev_cast (r := dI) hmost7 (ev_call (x := ((absZ st3.1), st3.2)) hdiviso6 (ea_cons (ev_abs (ev_var rfl)) (ea_cons (ev_var rfl) ea_nil)))) ?_)
      show SW K _ _ [.dat (dI st3.1), .dat (dI st3.2), .dat (dI most7)] _ _ _
      obtain ⟨q8, hq8, h⟩ := R.bind_inv h
      obtain ⟨q9, hq9, h⟩ := R.bind_inv h
      obtain ⟨q10, hq10, h⟩ := R.bind_inv h
      exact sw_ret (ev_cast (r := dQ) h (ev_mkQ hq10 (ev_fdiv hq8 (ev_var rfl) (ev_var rfl)) (ev_fdiv hq9 (ev_var rfl) (ev_var rfl)))) rfl
abbrev s_plus : Stmt := topS 6
abbrev n_plus : List Str := ["one", "other"]
theorem sc_plus : FnScope n_plus ["one", "other"] (defScope s_plus) := ⟨rfl, rfl, rfl, by decide +kernel, rfl, by decide +kernel, by decide +kernel⟩
abbrev sp_plus (K : PySem.W.Frag) : Sp := spR K (fun (x : Rat × Rat) => [dQ x.1, dQ x.2]) (fun (x : Rat × Rat) => p_plus x.1 x.2) dQ
set_option maxHeartbeats 4000000 in
theorem ok_plus {f : Addr} {fd : FuncData} (F : FnP K "plus" s_plus f fd) {f_ratio : Addr} {fd_ratio : FuncData} (F_ratio : FnP K "ratio" s_ratio f_ratio fd_ratio) (b_ratio : Binds K fd_ratio ["top", "bottom"] []) (g_ratio : mg "ratio" = some (.ref f_ratio)) (G_ratio : FnOk P w K mg base CX0 42 f_ratio fd_ratio ["top", "bottom"] (sp_ratio K)) : FnOk P w K mg base CX0 43 f fd ["one", "other"] (sp_plus K) := by
  refine F.ok sc_plus (fun vs H Q E h => ?_) (fun cdv A outer s H vs Q E hr h => ?_)
  · obtain ⟨x, _, _, _, _, d, _⟩ := h
    exact d.length
  · skip
    refine ⟨_, PSs.nox (pss_one (ps_ret (pe_call G_ratio (hr.mono (by decide)) (by rfl) g_ratio F_ratio.kp b_ratio .nil pass0 (pa_cons (pe_op op_add (pe_op op_mulP (pe_ix (r := rIxT K) ix_tup (pv 0) pe_int (fun _ _ => rfl)) (pe_ix (r := rIxT K) ix_tup (pv 1) pe_int (fun _ _ => rfl))) (pe_op op_mulP (pe_ix (r := rIxT K) ix_tup (pv 1) pe_int (fun _ _ => rfl)) (pe_ix (r := rIxT K) ix_tup (pv 0) pe_int (fun _ _ => rfl)))) (pa_cons (pe_op op_mulP (pe_ix (r := rIxT K) ix_tup (pv 0) pe_int (fun _ _ => rfl)) (pe_ix (r := rIxT K) ix_tup (pv 1) pe_int (fun _ _ => rfl))) pa_nil))))), ?_⟩
    refine spR_run (n := 2) (k := 0) rfl (fun _ => rfl) (fun x b h => ?_) h
    obtain ⟨one1, other2⟩ := x
    show SW K _ _ [.dat (dQ one1), .dat (dQ other2)] _ _ _
    have h : p_plus one1 other2 = R.ok b := h
    unfold p_plus at h
    obtain ⟨p3, hp3, h⟩ := R.bind_inv h
    obtain ⟨p4, hp4, h⟩ := R.bind_inv h
    obtain ⟨p5, hp5, h⟩ := R.bind_inv h
    obtain ⟨ratio6, hratio6, h⟩ := R.bind_inv h
    exact sw_ret (ev_cast (r := dQ) h (ev_call (x := ((p3 + p4), p5)) hratio6 (ea_cons (ev_i0 (g := fun i j => .int (i + j)) (ev_mul hp3 (ev_ixT (k := 0) (ev_var rfl) (ev_c _) (by rfl) rfl) (ev_ixT (k := 1) (ev_var rfl) (ev_c _) (by rfl) rfl)) (ev_mul hp4 (ev_ixT (k := 0) (ev_var rfl) (ev_c _) (by rfl) rfl) (ev_ixT (k := 1) (ev_var rfl) (ev_c _) (by rfl) rfl))) (ea_cons (ev_mul hp5 (ev_ixT (k := 1) (ev_var rfl) (ev_c _) (by rfl) rfl) (ev_ixT (k := 1) (ev_var rfl) (ev_c _) (by rfl) rfl)) ea_nil)))) rfl
abbrev s_minus : Stmt := topS 7
abbrev n_minus : List Str := ["one", "other"]
theorem sc_minus : FnScope n_minus ["one", "other"] (defScope s_minus) := ⟨rfl, rfl, rfl, by decide +kernel, rfl, by decide +kernel, by decide +kernel⟩
abbrev sp_minus (K : PySem.W.Frag) : Sp := spR K (fun (x : Rat × Rat) => [dQ x.1, dQ x.2]) (fun (x : Rat × Rat) => p_minus x.1 x.2) dQ
set_option maxHeartbeats 4000000 in
theorem ok_minus {f : Addr} {fd : FuncData} (F : FnP K "minus" s_minus f fd) {f_ratio : Addr} {fd_ratio : FuncData} (F_ratio : FnP K "ratio" s_ratio f_ratio fd_ratio) (b_ratio : Binds K fd_ratio ["top", "bottom"] []) (g_ratio : mg "ratio" = some (.ref f_ratio)) (G_ratio : FnOk P w K mg base CX0 42 f_ratio fd_ratio ["top", "bottom"] (sp_ratio K)) : FnOk P w K mg base CX0 43 f fd ["one", "other"] (sp_minus K) := by
  refine F.ok sc_minus (fun vs H Q E h => ?_) (fun cdv A outer s H vs Q E hr h => ?_)
  · obtain ⟨x, _, _, _, _, d, _⟩ := h
    exact d.length
  · skip
    refine ⟨_, PSs.nox (pss_one (ps_ret (pe_call G_ratio (hr.mono (by decide)) (by rfl) g_ratio F_ratio.kp b_ratio .nil pass0 (pa_cons (pe_op op_sub (pe_op op_mulP (pe_ix (r := rIxT K) ix_tup (pv 0) pe_int (fun _ _ => rfl)) (pe_ix (r := rIxT K) ix_tup (pv 1) pe_int (fun _ _ => rfl))) (pe_op op_mulP (pe_ix (r := rIxT K) ix_tup (pv 1) pe_int (fun _ _ => rfl)) (pe_ix (r := rIxT K) ix_tup (pv 0) pe_int (fun _ _ => rfl)))) (pa_cons (pe_op op_mulP (pe_ix (r := rIxT K) ix_tup (pv 0) pe_int (fun _ _ => rfl)) (pe_ix (r := rIxT K) ix_tup (pv 1) pe_int (fun _ _ => rfl))) pa_nil))))), ?_⟩
    refine spR_run (n := 2) (k := 0) rfl (fun _ => rfl) (fun x b h => ?_) h
    obtain ⟨one1, other2⟩ := x
    show SW K _ _ [.dat (dQ one1), .dat (dQ other2)] _ _ _
    have h : p_minus one1 other2 = R.ok b := h
    unfold p_minus at h
    obtain ⟨p3, hp3, h⟩ := R.bind_inv h
    obtain ⟨p4, hp4, h⟩ := R.bind_inv h
    obtain ⟨p5, hp5, h⟩ := R.bind_inv h
    obtain ⟨ratio6, hratio6, h⟩ := R.bind_inv h
    exact sw_ret (ev_cast (r := dQ) h (ev_call (x := ((p3 - p4), p5)) hratio6 (ea_cons (ev_i0 (g := fun i j => .int (i - j)) (ev_mul hp3 (ev_ixT (k := 0) (ev_var rfl) (ev_c _) (by rfl) rfl) (ev_ixT (k := 1) (ev_var rfl) (ev_c _) (by rfl) rfl)) (ev_mul hp4 (ev_ixT (k := 0) (ev_var rfl) (ev_c _) (by rfl) rfl) (ev_ixT (k := 1) (ev_var rfl) (ev_c _) (by rfl) rfl))) (ea_cons (ev_mul hp5 (ev_ixT (k := 1) (ev_var rfl) (ev_c _) (by rfl) rfl) (ev_ixT (k := 1) (ev_var rfl) (ev_c _) (by rfl) rfl)) ea_nil)))) rfl
abbrev s_times : Stmt := topS 8
abbrev n_times : List Str := ["one", "other"]
theorem sc_times : FnScope n_times ["one", "other"] (defScope s_times) := ⟨rfl, rfl, rfl, by decide +kernel, rfl, by decide +kernel, by decide +kernel⟩
abbrev sp_times (K : PySem.W.Frag) : Sp := spR K (fun (x : Rat × Rat) => [dQ x.1, dQ x.2]) (fun (x : Rat × Rat) => p_times x.1 x.2) dQ
set_option maxHeartbeats 4000000 in
theorem ok_times {f : Addr} {fd : FuncData} (F : FnP K "times" s_times f fd) {f_ratio : Addr} {fd_ratio : FuncData} (F_ratio : FnP K "ratio" s_ratio f_ratio fd_ratio) (b_ratio : Binds K fd_ratio ["top", "bottom"] []) (g_ratio : mg "ratio" = some (.ref f_ratio)) (G_ratio : FnOk P w K mg base CX0 42 f_ratio fd_ratio ["top", "bottom"] (sp_ratio K)) : FnOk P w K mg base CX0 43 f fd ["one", "other"] (sp_times K) := by
  refine F.ok sc_times (fun vs H Q E h => ?_) (fun cdv A outer s H vs Q E hr h => ?_)
  · obtain ⟨x, _, _, _, _, d, _⟩ := h
    exact d.length
  · skip
    refine ⟨_, PSs.nox (pss_one (ps_ret (pe_call G_ratio (hr.mono (by decide)) (by rfl) g_ratio F_ratio.kp b_ratio .nil pass0 (pa_cons (pe_op op_mulP (pe_ix (r := rIxT K) ix_tup (pv 0) pe_int (fun _ _ => rfl)) (pe_ix (r := rIxT K) ix_tup (pv 1) pe_int (fun _ _ => rfl))) (pa_cons (pe_op op_mulP (pe_ix (r := rIxT K) ix_tup (pv 0) pe_int (fun _ _ => rfl)) (pe_ix (r := rIxT K) ix_tup (pv 1) pe_int (fun _ _ => rfl))) pa_nil))))), ?_⟩
    refine spR_run (n := 2) (k := 0) rfl (fun _ => rfl) (fun x b h => ?_) h
    obtain ⟨one1, other2⟩ := x
    show SW K _ _ [.dat (dQ one1), .dat (dQ other2)] _ _ _
    have h : p_times one1 other2 = R.ok b := h
    unfold p_times at h
    obtain ⟨p3, hp3, h⟩ := R.bind_inv h
    obtain ⟨p4, hp4, h⟩ := R.bind_inv h
    obtain ⟨ratio5, hratio5, h⟩ := R.bind_inv h
    exact sw_ret (ev_cast (r := dQ) h (ev_call (x := (p3, p4)) hratio5 (ea_cons (ev_mul hp3 (ev_ixT (k := 0) (ev_var rfl) (ev_c _) (by rfl) rfl) (ev_ixT (k := 0) (ev_var rfl) (ev_c _) (by rfl) rfl)) (ea_cons (ev_mul hp4 (ev_ixT (k := 1) (ev_var rfl) (ev_c _) (by rfl) rfl) (ev_ixT (k := 1) (ev_var rfl) (ev_c _) (by rfl) rfl)) ea_nil)))) rfl
abbrev s_parted : Stmt := topS 9
abbrev n_parted : List Str := ["one", "other"]
theorem sc_parted : FnScope n_parted ["one", "other"] (defScope s_parted) := ⟨rfl, rfl, rfl, by decide +kernel, rfl, by decide +kernel, by decide +kernel⟩
abbrev sp_parted (K : PySem.W.Frag) : Sp := spR K (fun (x : Rat × Rat) => [dQ x.1, dQ x.2]) (fun (x : Rat × Rat) => p_parted x.1 x.2) dQ
set_option maxHeartbeats 4000000 in
theorem ok_parted {f : Addr} {fd : FuncData} (F : FnP K "parted" s_parted f fd) {f_ratio : Addr} {fd_ratio : FuncData} (F_ratio : FnP K "ratio" s_ratio f_ratio fd_ratio) (b_ratio : Binds K fd_ratio ["top", "bottom"] []) (g_ratio : mg "ratio" = some (.ref f_ratio)) (G_ratio : FnOk P w K mg base CX0 42 f_ratio fd_ratio ["top", "bottom"] (sp_ratio K)) : FnOk P w K mg base CX0 43 f fd ["one", "other"] (sp_parted K) := by
  refine F.ok sc_parted (fun vs H Q E h => ?_) (fun cdv A outer s H vs Q E hr h => ?_)
  · obtain ⟨x, _, _, _, _, d, _⟩ := h
    exact d.length
  · skip
    refine ⟨_, PSs.nox (pss_one (ps_ret (pe_call G_ratio (hr.mono (by decide)) (by rfl) g_ratio F_ratio.kp b_ratio .nil pass0 (pa_cons (pe_op op_mulP (pe_ix (r := rIxT K) ix_tup (pv 0) pe_int (fun _ _ => rfl)) (pe_ix (r := rIxT K) ix_tup (pv 1) pe_int (fun _ _ => rfl))) (pa_cons (pe_op op_mulP (pe_ix (r := rIxT K) ix_tup (pv 0) pe_int (fun _ _ => rfl)) (pe_ix (r := rIxT K) ix_tup (pv 1) pe_int (fun _ _ => rfl))) pa_nil))))), ?_⟩
    refine spR_run (n := 2) (k := 0) rfl (fun _ => rfl) (fun x b h => ?_) h
    obtain ⟨one1, other2⟩ := x
    show SW K _ _ [.dat (dQ one1), .dat (dQ other2)] _ _ _
    have h : p_parted one1 other2 = R.ok b := h
    unfold p_parted at h
    obtain ⟨p3, hp3, h⟩ := R.bind_inv h
    obtain ⟨p4, hp4, h⟩ := R.bind_inv h
    obtain ⟨ratio5, hratio5, h⟩ := R.bind_inv h
    exact sw_ret (ev_cast (r := dQ) h (ev_call (x := (p3, p4)) hratio5 (ea_cons (ev_mul hp3 (ev_ixT (k := 0) (ev_var rfl) (ev_c _) (by rfl) rfl) (ev_ixT (k := 1) (ev_var rfl) (ev_c _) (by rfl) rfl)) (ea_cons (ev_mul hp4 (ev_ixT (k := 1) (ev_var rfl) (ev_c _) (by rfl) rfl) (ev_ixT (k := 0) (ev_var rfl) (ev_c _) (by rfl) rfl)) ea_nil)))) rfl
abbrev s_under : Stmt := topS 10
abbrev n_under : List Str := ["one", "other"]
theorem sc_under : FnScope n_under ["one", "other"] (defScope s_under) := ⟨rfl, rfl, rfl, by decide +kernel, rfl, by decide +kernel, by decide +kernel⟩
abbrev sp_under (K : PySem.W.Frag) : Sp := spR K (fun (x : Rat × Rat) => [dQ x.1, dQ x.2]) (fun (x : Rat × Rat) => p_under x.1 x.2) dB
set_option maxHeartbeats 4000000 in
theorem ok_under {f : Addr} {fd : FuncData} (F : FnP K "under" s_under f fd)  : FnOk P w K mg base CX0 41 f fd ["one", "other"] (sp_under K) := by
  refine F.ok sc_under (fun vs H Q E h => ?_) (fun cdv A outer s H vs Q E hr h => ?_)
  · obtain ⟨x, _, _, _, _, d, _⟩ := h
    exact d.length
  · skip
    refine ⟨_, PSs.nox (pss_one (ps_ret (pe_cmpR op_lt (pe_op op_mulP (pe_ix (r := rIxT K) ix_tup (pv 0) pe_int (fun _ _ => rfl)) (pe_ix (r := rIxT K) ix_tup (pv 1) pe_int (fun _ _ => rfl))) (pe_op op_mulP (pe_ix (r := rIxT K) ix_tup (pv 1) pe_int (fun _ _ => rfl)) (pe_ix (r := rIxT K) ix_tup (pv 0) pe_int (fun _ _ => rfl))) (nomark _)))), ?_⟩
    refine spR_run (n := 2) (k := 0) rfl (fun _ => rfl) (fun x b h => ?_) h
    obtain ⟨one1, other2⟩ := x
    show SW K _ _ [.dat (dQ one1), .dat (dQ other2)] _ _ _
    have h : p_under one1 other2 = R.ok b := h
    unfold p_under at h
    obtain ⟨p3, hp3, h⟩ := R.bind_inv h
    obtain ⟨p4, hp4, h⟩ := R.bind_inv h
    exact sw_ret (ev_cast (r := dB) h (ev_i0 (g := fun i j => .bl (decide (i < j))) (ev_mul hp3 (ev_ixT (k := 0) (ev_var rfl) (ev_c _) (by rfl) rfl) (ev_ixT (k := 1) (ev_var rfl) (ev_c _) (by rfl) rfl)) (ev_mul hp4 (ev_ixT (k := 0) (ev_var rfl) (ev_c _) (by rfl) rfl) (ev_ixT (k := 1) (ev_var rfl) (ev_c _) (by rfl) rfl)))) rfl
abbrev s_height_over : Stmt := topS 13
abbrev n_height_over : List Str := ["line", "point"]
theorem sc_height_over : FnScope n_height_over ["line", "point"] (defScope s_height_over) := ⟨rfl, rfl, rfl, by decide +kernel, rfl, by decide +kernel, by decide +kernel⟩
abbrev sp_height_over (K : PySem.W.Frag) : Sp := spR K (fun (x : (Rat × Rat × Rat) × (Rat × Rat)) => [(d3 dQ dQ dQ) x.1, (d2 dQ dQ) x.2]) (fun (x : (Rat × Rat × Rat) × (Rat × Rat)) => p_height_over x.1 x.2) dQ
set_option maxHeartbeats 4000000 in
theorem ok_height_over {f : Addr} {fd : FuncData} (F : FnP K "height_over" s_height_over f fd) {f_minus : Addr} {fd_minus : FuncData} (F_minus : FnP K "minus" s_minus f_minus fd_minus) (b_minus : Binds K fd_minus ["one", "other"] []) (g_minus : mg "minus" = some (.ref f_minus)) {f_plus : Addr} {fd_plus : FuncData} (F_plus : FnP K "plus" s_plus f_plus fd_plus) (b_plus : Binds K fd_plus ["one", "other"] []) (g_plus : mg "plus" = some (.ref f_plus)) {f_times : Addr} {fd_times : FuncData} (F_times : FnP K "times" s_times f_times fd_times) (b_times : Binds K fd_times ["one", "other"] []) (g_times : mg "times" = some (.ref f_times)) (G_minus : FnOk P w K mg base CX0 43 f_minus fd_minus ["one", "other"] (sp_minus K)) (G_plus : FnOk P w K mg base CX0 43 f_plus fd_plus ["one", "other"] (sp_plus K)) (G_times : FnOk P w K mg base CX0 43 f_times fd_times ["one", "other"] (sp_times K)) : FnOk P w K mg base CX0 44 f fd ["line", "point"] (sp_height_over K) := by
  refine F.ok sc_height_over (fun vs H Q E h => ?_) (fun cdv A outer s H vs Q E hr h => ?_)
  · obtain ⟨x, _, _, _, _, d, _⟩ := h
    exact d.length
  · skip
    refine ⟨_, PSs.nox (pss_one (ps_ret (pe_call G_minus (hr.mono (by decide)) (by rfl) g_minus F_minus.kp b_minus .nil pass0 (pa_cons (pe_call G_plus (hr.mono (by decide)) (by rfl) g_plus F_plus.kp b_plus .nil pass0 (pa_cons (pe_call G_times (hr.mono (by decide)) (by rfl) g_times F_times.kp b_times .nil pass0 (pa_cons (pe_ix (r := rIxT K) ix_tup (pv 0) pe_int (fun _ _ => rfl)) (pa_cons (pe_ix (r := rIxT K) ix_tup (pv 1) pe_int (fun _ _ => rfl)) pa_nil))) (pa_cons (pe_call G_times (hr.mono (by decide)) (by rfl) g_times F_times.kp b_times .nil pass0 (pa_cons (pe_ix (r := rIxT K) ix_tup (pv 0) pe_int (fun _ _ => rfl)) (pa_cons (pe_ix (r := rIxT K) ix_tup (pv 1) pe_int (fun _ _ => rfl)) pa_nil))) pa_nil))) (pa_cons (pe_ix (r := rIxT K) ix_tup (pv 0) pe_int (fun _ _ => rfl)) pa_nil))))), ?_⟩
    refine spR_run (n := 2) (k := 0) rfl (fun _ => rfl) (fun x b h => ?_) h
    obtain ⟨line1, point2⟩ := x
    show SW K _ _ [.dat ((d3 dQ dQ dQ) line1), .dat ((d2 dQ dQ) point2)] _ _ _
    have h : p_height_over line1 point2 = R.ok b := h
    unfold p_height_over at h
    obtain ⟨times3, htimes3, h⟩ := R.bind_inv h
    obtain ⟨times4, htimes4, h⟩ := R.bind_inv h
    obtain ⟨plus5, hplus5, h⟩ := R.bind_inv h
    obtain ⟨minus6, hminus6, h⟩ := R.bind_inv h
    exact sw_ret (ev_cast (r := dQ) h (ev_call (x := (plus5, line1.2.2)) hminus6 (ea_cons (ev_call (x := (times3, times4)) hplus5 (ea_cons (ev_call (x := (line1.1, point2.1)) htimes3 (ea_cons (ev_ixT (k := 0) (ev_var rfl) (ev_c _) (by rfl) rfl) (ea_cons (ev_ixT (k := 0) (ev_var rfl) (ev_c _) (by rfl) rfl) ea_nil))) (ea_cons (ev_call (x := (line1.2.1, point2.2)) htimes4 (ea_cons (ev_ixT (k := 1) (ev_var rfl) (ev_c _) (by rfl) rfl) (ea_cons (ev_ixT (k := 1) (ev_var rfl) (ev_c _) (by rfl) rfl) ea_nil))) ea_nil))) (ea_cons (ev_ixT (k := 2) (ev_var rfl) (ev_c _) (by rfl) rfl) ea_nil)))) rfl
abbrev s_point_at : Stmt := topS 14
abbrev n_point_at : List Str := ["one", "other", "share", "across"]
theorem sc_point_at : FnScope n_point_at ["one", "other", "share"] (defScope s_point_at) := ⟨rfl, rfl, rfl, by decide +kernel, rfl, by decide +kernel, by decide +kernel⟩
abbrev sp_point_at (K : PySem.W.Frag) : Sp := spR K (fun (x : (Rat × Rat) × (Rat × Rat) × Rat) => [(d2 dQ dQ) x.1, (d2 dQ dQ) x.2.1, dQ x.2.2]) (fun (x : (Rat × Rat) × (Rat × Rat) × Rat) => p_point_at x.1 x.2.1 x.2.2) (d2 dQ dQ)
set_option maxHeartbeats 4000000 in
theorem ok_point_at {f : Addr} {fd : FuncData} (F : FnP K "point_at" s_point_at f fd) {f_minus : Addr} {fd_minus : FuncData} (F_minus : FnP K "minus" s_minus f_minus fd_minus) (b_minus : Binds K fd_minus ["one", "other"] []) (g_minus : mg "minus" = some (.ref f_minus)) {f_plus : Addr} {fd_plus : FuncData} (F_plus : FnP K "plus" s_plus f_plus fd_plus) (b_plus : Binds K fd_plus ["one", "other"] []) (g_plus : mg "plus" = some (.ref f_plus)) {f_times : Addr} {fd_times : FuncData} (F_times : FnP K "times" s_times f_times fd_times) (b_times : Binds K fd_times ["one", "other"] []) (g_times : mg "times" = some (.ref f_times)) (G_minus : FnOk P w K mg base CX0 43 f_minus fd_minus ["one", "other"] (sp_minus K)) (G_plus : FnOk P w K mg base CX0 43 f_plus fd_plus ["one", "other"] (sp_plus K)) (G_times : FnOk P w K mg base CX0 43 f_times fd_times ["one", "other"] (sp_times K)) : FnOk P w K mg base CX0 44 f fd ["one", "other", "share"] (sp_point_at K) := by
  refine F.ok sc_point_at (fun vs H Q E h => ?_) (fun cdv A outer s H vs Q E hr h => ?_)
  · obtain ⟨x, _, _, _, _, d, _⟩ := h
    exact d.length
  · skip
    refine ⟨_, PSs.nox (pss_cons (ps_set (i := 3) sc_point_at.nd rfl (Or.inl rfl) (pe_call G_plus (hr.mono (by decide)) (by rfl) g_plus F_plus.kp b_plus .nil pass0 (pa_cons (pe_ix (r := rIxT K) ix_tup (pv 0) pe_int (fun _ _ => rfl)) (pa_cons (pe_call G_times (hr.mono (by decide)) (by rfl) g_times F_times.kp b_times .nil pass0 (pa_cons (pv 2) (pa_cons (pe_call G_minus (hr.mono (by decide)) (by rfl) g_minus F_minus.kp b_minus .nil pass0 (pa_cons (pe_ix (r := rIxT K) ix_tup (pv 1) pe_int (fun _ _ => rfl)) (pa_cons (pe_ix (r := rIxT K) ix_tup (pv 0) pe_int (fun _ _ => rfl)) pa_nil))) pa_nil))) pa_nil)))) (pss_one (ps_ret (pe_tup (pa_cons (pv 3) (pa_cons (pe_call G_plus (hr.mono (by decide)) (by rfl) g_plus F_plus.kp b_plus .nil pass0 (pa_cons (pe_ix (r := rIxT K) ix_tup (pv 0) pe_int (fun _ _ => rfl)) (pa_cons (pe_call G_times (hr.mono (by decide)) (by rfl) g_times F_times.kp b_times .nil pass0 (pa_cons (pv 2) (pa_cons (pe_call G_minus (hr.mono (by decide)) (by rfl) g_minus F_minus.kp b_minus .nil pass0 (pa_cons (pe_ix (r := rIxT K) ix_tup (pv 1) pe_int (fun _ _ => rfl)) (pa_cons (pe_ix (r := rIxT K) ix_tup (pv 0) pe_int (fun _ _ => rfl)) pa_nil))) pa_nil))) pa_nil))) pa_nil)))))), ?_⟩
    refine spR_run (n := 3) (k := 1) rfl (fun _ => rfl) (fun x b h => ?_) h
    obtain ⟨one1, other2, share3⟩ := x
    show SW K _ _ [.dat ((d2 dQ dQ) one1), .dat ((d2 dQ dQ) other2), .dat (dQ share3), .un] _ _ _
    have h : p_point_at one1 other2 share3 = R.ok b := h
    unfold p_point_at at h
    obtain ⟨minus4, hminus4, h⟩ := R.bind_inv h
    obtain ⟨times5, htimes5, h⟩ := R.bind_inv h
    obtain ⟨plus6, hplus6, h⟩ := R.bind_inv h
    obtain ⟨across7, hacross7, h⟩ := R.bind_inv h
    refine sw_seq (sw_set (ev_cast (r := dQ) hacross7 (ev_call (x := (one1.1, times5)) hplus6 (ea_cons (ev_ixT (k := 0) (ev_var rfl) (ev_c _) (by rfl) rfl) (ea_cons (ev_call (x := (share3, minus4)) htimes5 (ea_cons (ev_var rfl) (ea_cons (ev_call (x := (other2.1, one1.1)) hminus4 (ea_cons (ev_ixT (k := 0) (ev_var rfl) (ev_c _) (by rfl) rfl) (ea_cons (ev_ixT (k := 0) (ev_var rfl) (ev_c _) (by rfl) rfl) ea_nil))) ea_nil))) ea_nil)))) ?_)
    show SW K _ _ [.dat ((d2 dQ dQ) one1), .dat ((d2 dQ dQ) other2), .dat (dQ share3), .dat (dQ across7)] _ _ _
    obtain ⟨minus8, hminus8, h⟩ := R.bind_inv h
    obtain ⟨times9, htimes9, h⟩ := R.bind_inv h
    obtain ⟨plus10, hplus10, h⟩ := R.bind_inv h
    exact sw_ret (ev_cast (r := (d2 dQ dQ)) h (ev_tup (ea_cons (ev_var rfl) (ea_cons (ev_call (x := (one1.2, times9)) hplus10 (ea_cons (ev_ixT (k := 1) (ev_var rfl) (ev_c _) (by rfl) rfl) (ea_cons (ev_call (x := (share3, minus8)) htimes9 (ea_cons (ev_var rfl) (ea_cons (ev_call (x := (other2.2, one1.2)) hminus8 (ea_cons (ev_ixT (k := 1) (ev_var rfl) (ev_c _) (by rfl) rfl) (ea_cons (ev_ixT (k := 1) (ev_var rfl) (ev_c _) (by rfl) rfl) ea_nil))) ea_nil))) ea_nil))) ea_nil)))) rfl
abbrev s_are_parted : Stmt := topS 15
abbrev n_are_parted : List Str := ["height", "other"]
theorem sc_are_parted : FnScope n_are_parted ["height", "other"] (defScope s_are_parted) := ⟨rfl, rfl, rfl, by decide +kernel, rfl, by decide +kernel, by decide +kernel⟩
abbrev sp_are_parted (K : PySem.W.Frag) : Sp := spR K (fun (x : Rat × Rat) => [dQ x.1, dQ x.2]) (fun (x : Rat × Rat) => p_are_parted x.1 x.2) dB
set_option maxHeartbeats 4000000 in
theorem ok_are_parted {f : Addr} {fd : FuncData} (F : FnP K "are_parted" s_are_parted f fd) {f_under : Addr} {fd_under : FuncData} (F_under : FnP K "under" s_under f_under fd_under) (b_under : Binds K fd_under ["one", "other"] []) (g_under : mg "under" = some (.ref f_under)) (G_under : FnOk P w K mg base CX0 41 f_under fd_under ["one", "other"] (sp_under K)) {v_NOUGHT : Addr} (c_NOUGHT : mg "NOUGHT" = some (.ref v_NOUGHT) ∧ ∀ F, Dat K F (.ref v_NOUGHT) (dQ (0 : Rat))) : FnOk P w K mg base CX0 42 f fd ["height", "other"] (sp_are_parted K) := by
  refine F.ok sc_are_parted (fun vs H Q E h => ?_) (fun cdv A outer s H vs Q E hr h => ?_)
  · obtain ⟨x, _, _, _, _, d, _⟩ := h
    exact d.length
  · skip
    refine ⟨_, PSs.nox (pss_cons (ps_if (pt_val (pe_call G_under (hr.mono (by decide)) (by rfl) g_under F_under.kp b_under .nil pass0 (pa_cons (pe_glob rfl c_NOUGHT.1 (show RelV (.ref v_NOUGHT) _ from rfl)) (pa_cons (pv 0) pa_nil)))) (pss_one (ps_ret (pe_call G_under (hr.mono (by decide)) (by rfl) g_under F_under.kp b_under .nil pass0 (pa_cons (pv 1) (pa_cons (pe_glob rfl c_NOUGHT.1 (show RelV (.ref v_NOUGHT) _ from rfl)) pa_nil))))) pss_nil) (pss_one (ps_ret (pe_and (pe_call G_under (hr.mono (by decide)) (by rfl) g_under F_under.kp b_under .nil pass0 (pa_cons (pv 0) (pa_cons (pe_glob rfl c_NOUGHT.1 (show RelV (.ref v_NOUGHT) _ from rfl)) pa_nil))) (pe_one (pe_call G_under (hr.mono (by decide)) (by rfl) g_under F_under.kp b_under .nil pass0 (pa_cons (pe_glob rfl c_NOUGHT.1 (show RelV (.ref v_NOUGHT) _ from rfl)) (pa_cons (pv 1) pa_nil)))))))), ?_⟩
    refine spR_run (n := 2) (k := 0) rfl (fun _ => rfl) (fun x b h => ?_) h
    obtain ⟨height1, other2⟩ := x
    show SW K _ _ [.dat (dQ height1), .dat (dQ other2)] _ _ _
    have h : p_are_parted height1 other2 = R.ok b := h
    unfold p_are_parted at h
    obtain ⟨under3, hunder3, h⟩ := R.bind_inv h
    refine sw_seq (sw_if (et_b (ev_call (x := ((0 : Rat), height1)) hunder3 (ea_cons (ev_k c_NOUGHT.2) (ea_cons (ev_var rfl) ea_nil)))) (fun hc => ?_) (fun hc => ?_))
    · have h := if_t hc h
      obtain ⟨under4, hunder4, h⟩ := R.bind_inv h
      exact sw_ret (ev_cast (r := dB) h (ev_call (x := (other2, (0 : Rat))) hunder4 (ea_cons (ev_var rfl) (ea_cons (ev_k c_NOUGHT.2) ea_nil)))) rfl
    · have h := if_f hc h
      refine sw_next ?_
      show SW K _ _ [.dat (dQ height1), .dat (dQ other2)] _ _ _
      obtain ⟨under5, hunder5, h⟩ := R.bind_inv h
      obtain ⟨b7, hb7, h⟩ := R.bind_inv h
      exact sw_ret (ev_cast (r := dB) h (ev_andVR hb7 (ev_call (x := (height1, (0 : Rat))) hunder5 (ea_cons (ev_var rfl) (ea_cons (ev_k c_NOUGHT.2) ea_nil))) (fun hc h => by obtain ⟨under6, hunder6, h⟩ := R.bind_inv h; exact ev_cast (r := dB) h (ev_call (x := ((0 : Rat), other2)) hunder6 (ea_cons (ev_k c_NOUGHT.2) (ea_cons (ev_var rfl) ea_nil)))))) rfl
abbrev s_cut : Stmt := topS 16
abbrev n_cut : List Str := ["ring", "line", "heights", "come", "k", "after", "share", "point"]
theorem sc_cut : FnScope n_cut ["ring", "line"] (defScope s_cut) := ⟨rfl, rfl, rfl, by decide +kernel, rfl, by decide +kernel, by decide +kernel⟩
abbrev sp_cut (K : PySem.W.Frag) : Sp := spN K (fun (x : (List (Rat × Rat)) × (Rat × Rat × Rat)) => [(dL (d2 dQ dQ)) x.1, (d3 dQ dQ dQ) x.2]) (fun (x : (List (Rat × Rat)) × (Rat × Rat × Rat)) => p_cut x.1 x.2) (d2 dQ dQ)
set_option maxHeartbeats 4000000 in
theorem ok_cut {f : Addr} {fd : FuncData} (F : FnP K "cut" s_cut f fd) {f_are_parted : Addr} {fd_are_parted : FuncData} (F_are_parted : FnP K "are_parted" s_are_parted f_are_parted fd_are_parted) (b_are_parted : Binds K fd_are_parted ["height", "other"] []) (g_are_parted : mg "are_parted" = some (.ref f_are_parted)) {f_height_over : Addr} {fd_height_over : FuncData} (F_height_over : FnP K "height_over" s_height_over f_height_over fd_height_over) (b_height_over : Binds K fd_height_over ["line", "point"] []) (g_height_over : mg "height_over" = some (.ref f_height_over)) {f_minus : Addr} {fd_minus : FuncData} (F_minus : FnP K "minus" s_minus f_minus fd_minus) (b_minus : Binds K fd_minus ["one", "other"] []) (g_minus : mg "minus" = some (.ref f_minus)) {f_parted : Addr} {fd_parted : FuncData} (F_parted : FnP K "parted" s_parted f_parted fd_parted) (b_parted : Binds K fd_parted ["one", "other"] []) (g_parted : mg "parted" = some (.ref f_parted)) {f_point_at : Addr} {fd_point_at : FuncData} (F_point_at : FnP K "point_at" s_point_at f_point_at fd_point_at) (b_point_at : Binds K fd_point_at ["one", "other", "share"] []) (g_point_at : mg "point_at" = some (.ref f_point_at)) {f_under : Addr} {fd_under : FuncData} (F_under : FnP K "under" s_under f_under fd_under) (b_under : Binds K fd_under ["one", "other"] []) (g_under : mg "under" = some (.ref f_under)) (G_are_parted : FnOk P w K mg base CX0 42 f_are_parted fd_are_parted ["height", "other"] (sp_are_parted K)) (G_height_over : FnOk P w K mg base CX0 44 f_height_over fd_height_over ["line", "point"] (sp_height_over K)) (G_minus : FnOk P w K mg base CX0 43 f_minus fd_minus ["one", "other"] (sp_minus K)) (G_parted : FnOk P w K mg base CX0 43 f_parted fd_parted ["one", "other"] (sp_parted K)) (G_point_at : FnOk P w K mg base CX0 44 f_point_at fd_point_at ["one", "other", "share"] (sp_point_at K)) (G_under : FnOk P w K mg base CX0 41 f_under fd_under ["one", "other"] (sp_under K)) (z_len : mg "len" = none) (z_range : mg "range" = none) {v_NOUGHT : Addr} (c_NOUGHT : mg "NOUGHT" = some (.ref v_NOUGHT) ∧ ∀ F, Dat K F (.ref v_NOUGHT) (dQ (0 : Rat))) : FnOk P w K mg base CX0 45 f fd ["ring", "line"] (sp_cut K) := by
  refine F.ok sc_cut (fun vs H Q E h => ?_) (fun cdv A outer s H vs Q E hr h => ?_)
  · obtain ⟨x, _, _, _, _, d, _⟩ := h
    exact d.length
  · skip
    refine ⟨_, PSs.nox (pss_cons (ps_setLc (i := 2) (own := [("point", 7)]) (by rfl) sc_cut.nd rfl rfl (sw_true rfl rfl rfl (by decide +kernel)) (show PI _ _ _ (iList K _) from pi_list (pv 0)) (blkOk_by (own := [("point", 7)]) (N := n_cut) (sc := defScope s_cut) (by decide +kernel)) (fun _ _ _ _ _ => (pg_name (i := 7) sc_cut.nd rfl (Or.inl rfl))) (fun _ _ _ _ _ => pts_nil) (fun _ _ _ _ _ => (pe_call G_height_over (hr.mono (by decide)) (by rfl) g_height_over F_height_over.kp b_height_over .nil pass0 (pa_cons (pv 1) (pa_cons (pv 7) pa_nil))))) (pss_cons (ps_set (i := 3) sc_cut.nd rfl (Or.inl rfl) (pe_lst pa_nil)) (pss_cons (ps_for PassesOwn.never rfl (pi_range1 (by rfl) z_range (pa_cons (pe_callB (id := "len") (r := rLenP K) cl_len (by rfl) z_len (by decide +kernel) (pa_cons (pv 0) pa_nil)) pa_nil)) (pg_name (i := 4) sc_cut.nd rfl (Or.inl rfl)) (pss_cons (ps_set (i := 5) sc_cut.nd rfl (Or.inl rfl) (pe_op op_modN (pe_op op_add (pv 4) pe_int) (pe_callB (id := "len") (r := rLenP K) cl_len (by rfl) z_len (by decide +kernel) (pa_cons (pv 0) pa_nil)))) (pss_cons (ps_if (pt_not (pt_val (pe_call G_under (hr.mono (by decide)) (by rfl) g_under F_under.kp b_under .nil pass0 (pa_cons (pe_glob rfl c_NOUGHT.1 (show RelV (.ref v_NOUGHT) _ from rfl)) (pa_cons (pe_ix (r := rIxL K) ix_list (pv 2) (pv 4) (fun _ _ => rfl)) pa_nil))))) (pss_one (ps_expr (pe_bm PySem.F.plainAttrs_list PySem.F.slot_list_append PySem.F.type_list_append mt_append (pv 3) (pa_cons (pe_ix (r := rIxL K) ix_list (pv 0) (pv 4) (fun _ _ => rfl)) pa_nil)))) pss_nil) (pss_one (ps_if (pt_val (pe_call G_are_parted (hr.mono (by decide)) (by rfl) g_are_parted F_are_parted.kp b_are_parted .nil pass0 (pa_cons (pe_ix (r := rIxL K) ix_list (pv 2) (pv 4) (fun _ _ => rfl)) (pa_cons (pe_ix (r := rIxL K) ix_list (pv 2) (pv 5) (fun _ _ => rfl)) pa_nil)))) (pss_cons (ps_set (i := 6) sc_cut.nd rfl (Or.inl rfl) (pe_call G_parted (hr.mono (by decide)) (by rfl) g_parted F_parted.kp b_parted .nil pass0 (pa_cons (pe_ix (r := rIxL K) ix_list (pv 2) (pv 4) (fun _ _ => rfl)) (pa_cons (pe_call G_minus (hr.mono (by decide)) (by rfl) g_minus F_minus.kp b_minus .nil pass0 (pa_cons (pe_ix (r := rIxL K) ix_list (pv 2) (pv 4) (fun _ _ => rfl)) (pa_cons (pe_ix (r := rIxL K) ix_list (pv 2) (pv 5) (fun _ _ => rfl)) pa_nil))) pa_nil)))) (pss_one (ps_expr (pe_bm PySem.F.plainAttrs_list PySem.F.slot_list_append PySem.F.type_list_append mt_append (pv 3) (pa_cons (pe_call G_point_at (hr.mono (by decide)) (by rfl) g_point_at F_point_at.kp b_point_at .nil pass0 (pa_cons (pe_ix (r := rIxL K) ix_list (pv 0) (pv 4) (fun _ _ => rfl)) (pa_cons (pe_ix (r := rIxL K) ix_list (pv 0) (pv 5) (fun _ _ => rfl)) (pa_cons (pv 6) pa_nil)))) pa_nil))))) pss_nil))))) (pss_one (ps_ret (pv 3)))))), ?_⟩
    refine spN_run (n := 2) (k := 6) rfl (fun _ => rfl) (fun x b h => ?_) h
    obtain ⟨ring1, line2⟩ := x
    show SW K _ _ [.dat ((dL (d2 dQ dQ)) ring1), .dat ((d3 dQ dQ dQ) line2), .un, .un, .un, .un, .un, .un] _ _ _
    have h : p_cut ring1 line2 = R.ok b := h
    unfold p_cut at h
    obtain ⟨c5, hc5, h⟩ := R.bind_inv h
    obtain ⟨heights6, hheights6, h⟩ := R.bind_inv h
    refine sw_seq (sw_set (ev_cast (r := (dL dQ)) hheights6 (EV.frz (en_compR (rb := dQ) (js := [7]) (iv_list (ev_var rfl)) hc5 (by rfl) (by decide) (fun x3 _ => ⟨_, (gt_name 7 _ _), fun y h => by obtain ⟨height4, hheight4, h⟩ := R.bind_inv h; exact ev_cast (r := dQ) h (ev_call (x := (line2, x3)) hheight4 (ea_cons (ev_var rfl) (ea_cons (ev_var rfl) ea_nil)))⟩)))) ?_)
    show SW K _ _ [.dat ((dL (d2 dQ dQ)) ring1), .dat ((d3 dQ dQ dQ) line2), .dat ((dL dQ) heights6), .un, .un, .un, .un, .un] _ _ _
    obtain ⟨come7, hcome7, h⟩ := R.bind_inv h
    refine sw_seq (sw_own (en_cast (r := (d2 dQ dQ)) hcome7 (en_lst ea_nil)) (Nat.le_of_ble_eq_true rfl) ?_)
    show SW K _ _ [.dat ((dL (d2 dQ dQ)) ring1), .dat ((d3 dQ dQ dQ) line2), .dat ((dL dQ) heights6), .ownN none (come7.map (d2 dQ dQ)), .un, .un, .un, .un] _ _ _
    obtain ⟨r8, hr8, h⟩ := R.bind_inv h
    obtain ⟨s31, hs31, h⟩ := R.bind_inv h
    refine sw_seq (sw_forR (ra := dI) (js := [4]) _ (fun (z : (List (Rat × Rat))) => [.dat ((dL (d2 dQ dQ)) ring1), .dat ((d3 dQ dQ dQ) line2), .dat ((dL dQ) heights6), .ownN none (z.map (d2 dQ dQ)), .un, .un, .un, .un]) _ (iv_rng1 hr8 (ev_lenM (ev_lenL (ev_var rfl)))) hs31 (.eq (.eq (.eq (.eq (.un (.un (.un (.un .nil)))))))) (fun x9 s10 s' _ h => ⟨_, (gt_name 4 _ _), ?_⟩) ?_)
    · show SW K _ _ [.dat ((dL (d2 dQ dQ)) ring1), .dat ((d3 dQ dQ dQ) line2), .dat ((dL dQ) heights6), .ownN none (s10.map (d2 dQ dQ)), .dat (dI x9), .un, .un, .un] _ _ _
      obtain ⟨m11, hm11, h⟩ := R.bind_inv h
      obtain ⟨after12, hafter12, h⟩ := R.bind_inv h
      refine sw_seq (sw_set (ev_cast (r := dI) hafter12 (ev_fmod hm11 (ev_i0 (g := fun i j => .int (i + j)) (ev_var rfl) (ev_c _)) (ev_lenM (ev_lenL (ev_var rfl))))) ?_)
      show SW K _ _ [.dat ((dL (d2 dQ dQ)) ring1), .dat ((d3 dQ dQ dQ) line2), .dat ((dL dQ) heights6), .ownN none (s10.map (d2 dQ dQ)), .dat (dI x9), .dat (dI after12), .un, .un] _ _ _
      obtain ⟨it13, hit13, h⟩ := R.bind_inv h
      obtain ⟨under14, hunder14, h⟩ := R.bind_inv h
      obtain ⟨st15, hst15, h⟩ := R.bind_inv h
      refine sw_seq (sw_mono (Nx := fun e => Wk e [.dat ((dL (d2 dQ dQ)) ring1), .dat ((d3 dQ dQ dQ) line2), .dat ((dL dQ) heights6), .ownN none (st15.map (d2 dQ dQ)), .dat (dI x9), .dat (dI after12), .un, .un]) (sw_if (et_not (et_b (ev_call (x := ((0 : Rat), it13)) hunder14 (ea_cons (ev_k c_NOUGHT.2) (ea_cons (ev_atL (r := dQ) hit13 (ev_var rfl) (ev_var rfl)) ea_nil))))) (fun hc => ?_) (fun hc => ?_)) (fun e w => sw_weak w ?_))
      · have h := if_t hc hst15
        clear hst15
        obtain ⟨it16, hit16, h⟩ := R.bind_inv h
        obtain ⟨come17, hcome17, h⟩ := R.bind_inv h
        refine sw_app (r := (d2 dQ dQ)) hcome17 rfl (ev_atL (r := (d2 dQ dQ)) hit16 (ev_var rfl) (ev_var rfl)) ?_
        obtain rfl := R.ok_inj h
        exact .eq (.eq (.eq (.eq (.eq (.eq (.un (.un .nil)))))))
      · have h := if_f hc hst15
        clear hst15
        refine sw_next ?_
        obtain rfl := R.ok_inj h
        exact .eq (.eq (.eq (.eq (.eq (.eq (.un (.un .nil)))))))
      show SW K _ _ [.dat ((dL (d2 dQ dQ)) ring1), .dat ((d3 dQ dQ dQ) line2), .dat ((dL dQ) heights6), .ownN none (st15.map (d2 dQ dQ)), .dat (dI x9), .dat (dI after12), .un, .un] _ _ _
      obtain ⟨it18, hit18, h⟩ := R.bind_inv h
      obtain ⟨it19, hit19, h⟩ := R.bind_inv h
      obtain ⟨are_pa20, hare_pa20, h⟩ := R.bind_inv h
      refine sw_if (et_b (ev_call (x := (it18, it19)) hare_pa20 (ea_cons (ev_atL (r := dQ) hit18 (ev_var rfl) (ev_var rfl)) (ea_cons (ev_atL (r := dQ) hit19 (ev_var rfl) (ev_var rfl)) ea_nil)))) (fun hc => ?_) (fun hc => ?_)
      · have h := if_t hc h
        obtain ⟨it21, hit21, h⟩ := R.bind_inv h
        obtain ⟨it22, hit22, h⟩ := R.bind_inv h
        obtain ⟨it23, hit23, h⟩ := R.bind_inv h
        obtain ⟨minus24, hminus24, h⟩ := R.bind_inv h
        obtain ⟨parted25, hparted25, h⟩ := R.bind_inv h
        obtain ⟨share26, hshare26, h⟩ := R.bind_inv h
        refine sw_seq (sw_set (ev_cast (r := dQ) hshare26 (ev_call (x := (it21, minus24)) hparted25 (ea_cons (ev_atL (r := dQ) hit21 (ev_var rfl) (ev_var rfl)) (ea_cons (ev_call (x := (it22, it23)) hminus24 (ea_cons (ev_atL (r := dQ) hit22 (ev_var rfl) (ev_var rfl)) (ea_cons (ev_atL (r := dQ) hit23 (ev_var rfl) (ev_var rfl)) ea_nil))) ea_nil)))) ?_)
        show SW K _ _ [.dat ((dL (d2 dQ dQ)) ring1), .dat ((d3 dQ dQ dQ) line2), .dat ((dL dQ) heights6), .ownN none (st15.map (d2 dQ dQ)), .dat (dI x9), .dat (dI after12), .dat (dQ share26), .un] _ _ _
        obtain ⟨it27, hit27, h⟩ := R.bind_inv h
        obtain ⟨it28, hit28, h⟩ := R.bind_inv h
        obtain ⟨point29, hpoint29, h⟩ := R.bind_inv h
        obtain ⟨come30, hcome30, h⟩ := R.bind_inv h
        refine sw_app (r := (d2 dQ dQ)) hcome30 rfl (ev_call (x := (it27, it28, share26)) hpoint29 (ea_cons (ev_atL (r := (d2 dQ dQ)) hit27 (ev_var rfl) (ev_var rfl)) (ea_cons (ev_atL (r := (d2 dQ dQ)) hit28 (ev_var rfl) (ev_var rfl)) (ea_cons (ev_var rfl) ea_nil)))) ?_
        obtain rfl := R.ok_inj h
        exact .eq (.eq (.eq (.eq (.un (.un (.un (.un .nil)))))))
      · have h := if_f hc h
        refine sw_next ?_
        obtain rfl := R.ok_inj h
        exact .eq (.eq (.eq (.eq (.un (.un (.un (.un .nil)))))))
    show SW K _ _ [.dat ((dL (d2 dQ dQ)) ring1), .dat ((d3 dQ dQ dQ) line2), .dat ((dL dQ) heights6), .ownN none (s31.map (d2 dQ dQ)), .un, .un, .un, .un] _ _ _
    obtain rfl := R.ok_inj h
    exact sw_retV rfl rfl
abbrev s_cut_shape : Stmt := topS 17
abbrev n_cut_shape : List Str := ["shape", "line", "ring"]
theorem sc_cut_shape : FnScope n_cut_shape ["shape", "line"] (defScope s_cut_shape) := ⟨rfl, rfl, rfl, by decide +kernel, rfl, by decide +kernel, by decide +kernel⟩
abbrev sp_cut_shape (K : PySem.W.Frag) : Sp := spNN K (fun (x : (List (List (Rat × Rat))) × (Rat × Rat × Rat)) => [(dL (dL (d2 dQ dQ))) x.1, (d3 dQ dQ dQ) x.2]) (fun (x : (List (List (Rat × Rat))) × (Rat × Rat × Rat)) => p_cut_shape x.1 x.2) (d2 dQ dQ)
set_option maxHeartbeats 4000000 in
theorem ok_cut_shape {f : Addr} {fd : FuncData} (F : FnP K "cut_shape" s_cut_shape f fd) {f_cut : Addr} {fd_cut : FuncData} (F_cut : FnP K "cut" s_cut f_cut fd_cut) (b_cut : Binds K fd_cut ["ring", "line"] []) (g_cut : mg "cut" = some (.ref f_cut)) (G_cut : FnOk P w K mg base CX0 45 f_cut fd_cut ["ring", "line"] (sp_cut K)) : FnOk P w K mg base CX0 46 f fd ["shape", "line"] (sp_cut_shape K) := by
  refine F.ok sc_cut_shape (fun vs H Q E h => ?_) (fun cdv A outer s H vs Q E hr h => ?_)
  · obtain ⟨x, _, _, _, _, d, _⟩ := h
    exact d.length
  · skip
    refine ⟨_, PSs.nox (pss_one (ps_ret (pe_lc (own := [("ring", 2)]) (by rfl) sc_cut_shape.nd (show PI _ _ _ (iList K _) from pi_list (pv 0)) (blkOk_by (own := [("ring", 2)]) (N := n_cut_shape) (sc := defScope s_cut_shape) (by decide +kernel)) (fun _ _ _ _ _ => (pg_name (i := 2) sc_cut_shape.nd rfl (Or.inl rfl))) (fun _ _ _ _ _ => pts_nil) (fun _ _ _ _ _ => (pe_call G_cut (hr.mono (by decide)) (by rfl) g_cut F_cut.kp b_cut .nil pass0 (pa_cons (pv 2) (pa_cons (pv 1) pa_nil))))))), ?_⟩
    refine spNN_run (n := 2) (k := 1) rfl (fun _ => rfl) (fun x b h => ?_) h
    obtain ⟨shape1, line2⟩ := x
    show SW K _ _ [.dat ((dL (dL (d2 dQ dQ))) shape1), .dat ((d3 dQ dQ dQ) line2), .un] _ _ _
    have h : p_cut_shape shape1 line2 = R.ok b := h
    unfold p_cut_shape at h
    obtain ⟨c5, hc5, h⟩ := R.bind_inv h
    exact sw_ret2 (en2_cast (r := (d2 dQ dQ)) h (en2_comp (rb := (d2 dQ dQ)) (js := [2]) _ (iv_list (ev_var rfl)) hc5 (by rfl) (by decide) (fun x3 _ => ⟨_, (gt_name 2 _ _), fun y h => by obtain ⟨cut4, hcut4, h⟩ := R.bind_inv h; exact en_cast (r := (d2 dQ dQ)) h (en_call (x := (x3, line2)) hcut4 (ea_cons (ev_var rfl) (ea_cons (ev_var rfl) ea_nil)))⟩))) rfl
abbrev s__law_cell : Stmt := topS 19
abbrev n__law_cell : List Str := ["_law_script", "_law_k", "_law_seed", "_law_some"]
theorem sc__law_cell : FnScope n__law_cell ["_law_script", "_law_k"] (defScope s__law_cell) := ⟨rfl, rfl, rfl, by decide +kernel, rfl, by decide +kernel, by decide +kernel⟩
abbrev sp__law_cell (K : PySem.W.Frag) : Sp := spR K (fun (x : (List Int) × Int) => [(dL dI) x.1, dI x.2]) (fun (x : (List Int) × Int) => l_cell x.1 x.2) dI
set_option maxHeartbeats 4000000 in
theorem ok__law_cell {f : Addr} {fd : FuncData} (F : FnP K "_law_cell" s__law_cell f fd) (z_len : mg "len" = none) (hS : base.NoSeer) (hT : P.given.tree = none) : FnOk P w K mg base CX0 41 f fd ["_law_script", "_law_k"] (sp__law_cell K) := by
  refine F.ok sc__law_cell (fun vs H Q E h => ?_) (fun cdv A outer s H vs Q E hr h => ?_)
  · obtain ⟨x, _, _, _, _, d, _⟩ := h
    exact d.length
  · have hp := pyRm (qual := "_law_cell") (sc := defScope s__law_cell) (n := s.heap.objs.size) (f := f) (cd := cdv) (outer := outer) hS hT hr (by decide) rfl rfl
    refine ⟨_, PSs.nox (pss_cons (ps_if (pt_cmpR op_lt (pv 1) (pe_callB (id := "len") (r := rLenP K) cl_len (by rfl) z_len (by decide +kernel) (pa_cons (pv 0) pa_nil)) (nomark _)) (pss_one (ps_ret (pe_ix (r := rIxL K) ix_list (pv 0) (pv 1) (fun _ _ => rfl)))) pss_nil) (pss_cons (ps_set (i := 2) sc__law_cell.nd rfl (Or.inl rfl) (pe_op op_mulP (pv 1) pe_int)) (pss_cons (ps_if (pt_cmpR op_gt (pe_callB (id := "len") (r := rLenP K) cl_len (by rfl) z_len (by decide +kernel) (pa_cons (pv 0) pa_nil)) pe_int (nomark _)) (pss_one (ps_set (i := 2) sc__law_cell.nd rfl (Or.inl rfl) (pe_op op_add (pv 2) (pe_op op_modN (pe_ix (r := rIxL K) ix_list (pv 0) (pe_op op_modN (pv 1) (pe_callB (id := "len") (r := rLenP K) cl_len (by rfl) z_len (by decide +kernel) (pa_cons (pv 0) pa_nil))) (fun _ _ => rfl)) pe_int)))) pss_nil) (pss_cons (ps_set (i := 3) sc__law_cell.nd rfl (Or.inl rfl) (pe_op op_modN (pe_op op_mulP (pv 2) pe_int) pe_int)) (pss_one (ps_ret (pe_op op_modN (pe_op (op_fdivP hp) (pe_op op_mulP (pv 3) (pe_op op_add (pe_op op_add (pv 3) (pe_op op_mulP pe_int (pv 1))) pe_int)) pe_int) pe_int))))))), ?_⟩
    refine spR_run (n := 2) (k := 2) rfl (fun _ => rfl) (fun x b h => ?_) h
    obtain ⟨script1, k2⟩ := x
    show SW K _ _ [.dat ((dL dI) script1), .dat (dI k2), .un, .un] _ _ _
    have h : l_cell script1 k2 = R.ok b := h
    unfold l_cell at h
    refine sw_seq (sw_if (et_test (ev_i0 (g := fun i j => .bl (decide (i < j))) (ev_var rfl) (ev_lenM (ev_lenL (ev_var rfl))))) (fun hc => ?_) (fun hc => ?_))
    · have h := if_t hc h
      obtain ⟨it3, hit3, h⟩ := R.bind_inv h
      exact sw_ret (ev_cast (r := dI) h (ev_atL (r := dI) hit3 (ev_var rfl) (ev_var rfl))) rfl
    · have h := if_f hc h
      refine sw_next ?_
      show SW K _ _ [.dat ((dL dI) script1), .dat (dI k2), .un, .un] _ _ _
      obtain ⟨p4, hp4, h⟩ := R.bind_inv h
      obtain ⟨seed5, hseed5, h⟩ := R.bind_inv h
      refine sw_seq (sw_set (ev_cast (r := dI) hseed5 (ev_mul hp4 (ev_var rfl) (ev_c _))) ?_)
      show SW K _ _ [.dat ((dL dI) script1), .dat (dI k2), .dat (dI seed5), .un] _ _ _
      obtain ⟨st6, hst6, h⟩ := R.bind_inv h
      refine sw_seq (sw_mono (Nx := fun e => Wk e [.dat ((dL dI) script1), .dat (dI k2), .dat (dI st6), .un]) (sw_if (et_test (ev_i0 (g := fun i j => .bl (decide (j < i))) (ev_lenM (ev_lenL (ev_var rfl))) (ev_c _))) (fun hc => ?_) (fun hc => ?_)) (fun e w => sw_weak w ?_))
      · have h := if_t hc hst6
        clear hst6
        obtain ⟨m7, hm7, h⟩ := R.bind_inv h
        obtain ⟨it8, hit8, h⟩ := R.bind_inv h
        obtain ⟨seed9, hseed9, h⟩ := R.bind_inv h
        refine sw_set (ev_cast (r := dI) hseed9 (ev_i0 (g := fun i j => .int (i + j)) (ev_var rfl) (ev_modP (by decide +kernel) (ev_atL (r := dI) hit8 (ev_var rfl) (ev_fmod hm7 (ev_var rfl) (ev_lenM (ev_lenL (ev_var rfl))))) (ev_c _)))) ?_
        obtain rfl := R.ok_inj h
        exact .eq (.eq (.eq (.un .nil)))
      · have h := if_f hc hst6
        clear hst6
        refine sw_next ?_
        obtain rfl := R.ok_inj h
        exact .eq (.eq (.eq (.un .nil)))
      show SW K _ _ [.dat ((dL dI) script1), .dat (dI k2), .dat (dI st6), .un] _ _ _
      obtain ⟨p10, hp10, h⟩ := R.bind_inv h
      obtain ⟨some11, hsome11, h⟩ := R.bind_inv h
      refine sw_seq (sw_set (ev_cast (r := dI) hsome11 (ev_modP (by decide +kernel) (ev_mul hp10 (ev_var rfl) (ev_c _)) (ev_c _))) ?_)
      show SW K _ _ [.dat ((dL dI) script1), .dat (dI k2), .dat (dI st6), .dat (dI some11)] _ _ _
      obtain ⟨p12, hp12, h⟩ := R.bind_inv h
      obtain ⟨p13, hp13, h⟩ := R.bind_inv h
      exact sw_ret (ev_cast (r := dI) h (ev_modP (by decide +kernel) (ev_divP (by decide +kernel) (ev_mul hp13 (ev_var rfl) (ev_i0 (g := fun i j => .int (i + j)) (ev_i0 (g := fun i j => .int (i + j)) (ev_var rfl) (ev_mul hp12 (ev_c _) (ev_var rfl))) (ev_c _))) (ev_c _)) (ev_c _))) rfl
abbrev s__law_spread : Stmt := topS 20
abbrev n__law_spread : List Str := ["_law_cell_here", "_law_k"]
theorem sc__law_spread : FnScope n__law_spread ["_law_cell_here", "_law_k"] (defScope s__law_spread) := ⟨rfl, rfl, rfl, by decide +kernel, rfl, by decide +kernel, by decide +kernel⟩
abbrev sp__law_spread (K : PySem.W.Frag) : Sp := spR K (fun (x : Int × Int) => [dI x.1, dI x.2]) (fun (x : Int × Int) => l_spread x.1 x.2) dI
set_option maxHeartbeats 4000000 in
theorem ok__law_spread {f : Addr} {fd : FuncData} (F : FnP K "_law_spread" s__law_spread f fd)  : FnOk P w K mg base CX0 41 f fd ["_law_cell_here", "_law_k"] (sp__law_spread K) := by
  refine F.ok sc__law_spread (fun vs H Q E h => ?_) (fun cdv A outer s H vs Q E hr h => ?_)
  · obtain ⟨x, _, _, _, _, d, _⟩ := h
    exact d.length
  · skip
    refine ⟨_, PSs.nox (pss_cons (ps_if (pt_chain op_lt op_lt (pe_un un_neg pe_int) (pv 0) pe_int) (pss_one (ps_ret (pe_op op_modN (pe_op op_mulP (pe_op op_add (pe_op op_mulP (pe_op op_add (pv 0) pe_int) (pe_op op_add (pe_op op_add (pv 0) pe_int) (pe_op op_mulP pe_int (pv 1)))) (pe_op op_mulP pe_int (pv 1))) pe_int) pe_int))) pss_nil) (pss_one (ps_ret (pv 0)))), ?_⟩
    refine spR_run (n := 2) (k := 0) rfl (fun _ => rfl) (fun x b h => ?_) h
    obtain ⟨cell1, k2⟩ := x
    show SW K _ _ [.dat (dI cell1), .dat (dI k2)] _ _ _
    have h : l_spread cell1 k2 = R.ok b := h
    unfold l_spread at h
    refine sw_seq (sw_if (et_test (ev_chain (p := fun i j => decide (i < j)) (p' := fun i j => decide (i < j)) (ev_u (g := fun i => .int (-i)) (ev_c _)) (ev_var rfl) (fun _ => (ev_c _)))) (fun hc => ?_) (fun hc => ?_))
    · have h := if_t hc h
      obtain ⟨p3, hp3, h⟩ := R.bind_inv h
      obtain ⟨p4, hp4, h⟩ := R.bind_inv h
      obtain ⟨p5, hp5, h⟩ := R.bind_inv h
      obtain ⟨p6, hp6, h⟩ := R.bind_inv h
      exact sw_ret (ev_cast (r := dI) h (ev_modP (by decide +kernel) (ev_mul hp6 (ev_i0 (g := fun i j => .int (i + j)) (ev_mul hp4 (ev_i0 (g := fun i j => .int (i + j)) (ev_var rfl) (ev_c _)) (ev_i0 (g := fun i j => .int (i + j)) (ev_i0 (g := fun i j => .int (i + j)) (ev_var rfl) (ev_c _)) (ev_mul hp3 (ev_c _) (ev_var rfl)))) (ev_mul hp5 (ev_c _) (ev_var rfl))) (ev_c _)) (ev_c _))) rfl
    · have h := if_f hc h
      refine sw_next ?_
      show SW K _ _ [.dat (dI cell1), .dat (dI k2)] _ _ _
      exact sw_ret (ev_cast (r := dI) h (ev_var rfl)) rfl
abbrev s__law_whole : Stmt := topS 21
abbrev n__law_whole : List Str := ["_law_found"]
theorem sc__law_whole : FnScope n__law_whole ["_law_found"] (defScope s__law_whole) := ⟨rfl, rfl, rfl, by decide +kernel, rfl, by decide +kernel, by decide +kernel⟩
abbrev sp__law_whole (K : PySem.W.Frag) : Sp := spR K (fun (x : Int) => [dI x]) (fun (x : Int) => l_whole x) dB
set_option maxHeartbeats 4000000 in
theorem ok__law_whole {f : Addr} {fd : FuncData} (F : FnP K "_law_whole" s__law_whole f fd) (z_bool : mg "bool" = none) (z_int : mg "int" = none) (z_isinstance : mg "isinstance" = none) : FnOk P w K mg base CX0 41 f fd ["_law_found"] (sp__law_whole K) := by
  refine F.ok sc__law_whole (fun vs H Q E h => ?_) (fun cdv A outer s H vs Q E hr h => ?_)
  · obtain ⟨x, _, _, _, _, d, _⟩ := h
    exact d.length
  · skip
    refine ⟨_, PSs.nox (pss_one (ps_ret (pe_and (pe_callB (id := "isinstance") (r := rIsi K) call_isi (by rfl) z_isinstance (by decide +kernel) (pa_cons (pv 0) (pa_cons (pe_bltn (v := .ty "int") (u := .type "int") (by rfl) z_int (by decide +kernel) rfl) pa_nil))) (pe_one (pe_not (pe_callB (id := "isinstance") (r := rIsi K) call_isi (by rfl) z_isinstance (by decide +kernel) (pa_cons (pv 0) (pa_cons (pe_bltn (v := .ty "bool") (u := .type "bool") (by rfl) z_bool (by decide +kernel) rfl) pa_nil)))))))), ?_⟩
    refine spR_run (n := 1) (k := 0) rfl (fun _ => rfl) (fun x b h => ?_) h
    generalize x = found1 at h ⊢
    show SW K _ _ [.dat (dI found1)] _ _ _
    have h : l_whole found1 = R.ok b := h
    unfold l_whole at h
    exact sw_ret (ev_cast (r := dB) h (ev_andV (ev_isi (r := true) (ev_var rfl) rfl (by decide +kernel)) (fun hc => (ev_notV (ev_isi (r := false) (ev_var rfl) rfl (by decide +kernel)))))) rfl
abbrev s__law_ratio : Stmt := topS 22
abbrev n__law_ratio : List Str := ["_law_top", "_law_bottom", "_law_one", "_law_most", "_law_rest"]
theorem sc__law_ratio : FnScope n__law_ratio ["_law_top", "_law_bottom"] (defScope s__law_ratio) := ⟨rfl, rfl, rfl, by decide +kernel, rfl, by decide +kernel, by decide +kernel⟩
abbrev sp__law_ratio (K : PySem.W.Frag) : Sp := spR K (fun (x : Int × Int) => [dI x.1, dI x.2]) (fun (x : Int × Int) => l_ratio_3 x.1 x.2) dQ
set_option maxHeartbeats 4000000 in
theorem ok__law_ratio {f : Addr} {fd : FuncData} (F : FnP K "_law_ratio" s__law_ratio f fd) (z_abs : mg "abs" = none) (hS : base.NoSeer) (hT : P.given.tree = none) : FnOk P w K mg base CX0 41 f fd ["_law_top", "_law_bottom"] (sp__law_ratio K) := by
  refine F.ok sc__law_ratio (fun vs H Q E h => ?_) (fun cdv A outer s H vs Q E hr h => ?_)
  · obtain ⟨x, _, _, _, _, d, _⟩ := h
    exact d.length
  · have hp := pyRm (qual := "_law_ratio") (sc := defScope s__law_ratio) (n := s.heap.objs.size) (f := f) (cd := cdv) (outer := outer) hS hT hr (by decide) rfl rfl
    refine ⟨_, PSs.nox (pss_cons (ps_set (i := 2) sc__law_ratio.nd rfl (Or.inl rfl) (pe_callB (id := "abs") cl_abs (by rfl) z_abs (by decide +kernel) (pa_cons (pv 0) pa_nil))) (pss_cons (ps_set (i := 3) sc__law_ratio.nd rfl (Or.inl rfl) (pe_callB (id := "abs") cl_abs (by rfl) z_abs (by decide +kernel) (pa_cons (pv 1) pa_nil))) (pss_cons (ps_while PassesOwn.never (pt_cmpR op_gt (pv 2) pe_int (nomark _)) (pss_cons (ps_set (i := 4) sc__law_ratio.nd rfl (Or.inl rfl) (pe_op op_modN (pv 3) (pv 2))) (pss_cons (ps_set (i := 3) sc__law_ratio.nd rfl (Or.inl rfl) (pv 2)) (pss_one (ps_set (i := 2) sc__law_ratio.nd rfl (Or.inl rfl) (pv 4)))))) (pss_cons (ps_if (pt_cmpR op_lt (pv 1) pe_int (nomark _)) (pss_one (ps_set (i := 3) sc__law_ratio.nd rfl (Or.inl rfl) (pe_un un_neg (pv 3)))) pss_nil) (pss_one (ps_ret (pe_tup (pa_cons (pe_op (op_fdivP hp) (pv 0) (pv 3)) (pa_cons (pe_op (op_fdivP hp) (pv 1) (pv 3)) pa_nil))))))))), ?_⟩
    refine spR_run (n := 2) (k := 3) rfl (fun _ => rfl) (fun x b h => ?_) h
    obtain ⟨top1, bottom2⟩ := x
    show SW K _ _ [.dat (dI top1), .dat (dI bottom2), .un, .un, .un] _ _ _
    have h : l_ratio_3 top1 bottom2 = R.ok b := h
    unfold l_ratio_3 at h
    obtain ⟨one3, hone3, h⟩ := R.bind_inv h
    refine sw_seq (sw_set (ev_cast (r := dI) hone3 (ev_abs (ev_var rfl))) ?_)
    show SW K _ _ [.dat (dI top1), .dat (dI bottom2), .dat (dI one3), .un, .un] _ _ _
    obtain ⟨most4, hmost4, h⟩ := R.bind_inv h
    refine sw_seq (sw_set (ev_cast (r := dI) hmost4 (ev_abs (ev_var rfl))) ?_)
    show SW K _ _ [.dat (dI top1), .dat (dI bottom2), .dat (dI one3), .dat (dI most4), .un] _ _ _
    obtain ⟨g5, hg5, h⟩ := R.bind_inv h
    refine sw_seq (sw_gcd (fun (z : Int × Int) => [.dat (dI top1), .dat (dI bottom2), .dat (dI z.2), .dat (dI z.1), .un]) (x0 := most4) (y0 := one3) hg5 (.eq (.eq (.eq (.eq (.un .nil))))) (fun z => (et_test (ev_i0 (g := fun i j => .bl (decide (j < i))) (ev_var rfl) (ev_c _)))) (fun z w hm hw => sw_seq (sw_set (ev_fmod hm (ev_var rfl) (ev_var rfl)) (sw_seq (sw_set (ev_var rfl) (sw_set (ev_var rfl) ⟨(z.2, w), hw.1, hw.2, .eq (.eq (.eq (.eq (.un .nil))))⟩))))) ?_)
    show SW K _ _ [.dat (dI top1), .dat (dI bottom2), .dat (dI ((0 : Int))), .dat (dI g5), .un] _ _ _
    obtain ⟨st6, hst6, h⟩ := R.bind_inv h
    refine sw_seq (sw_mono (Nx := fun e => Wk e [.dat (dI top1), .dat (dI bottom2), .dat (dI ((0 : Int))), .dat (dI st6), .un]) (sw_if (et_test (ev_i0 (g := fun i j => .bl (decide (i < j))) (ev_var rfl) (ev_c _))) (fun hc => ?_) (fun hc => ?_)) (fun e w => sw_weak w ?_))
    · have h := if_t hc hst6
      clear hst6
      obtain ⟨most7, hmost7, h⟩ := R.bind_inv h
      refine sw_set (ev_cast (r := dI) hmost7 (ev_u (g := fun i => .int (-i)) (ev_var rfl))) ?_
      obtain rfl := R.ok_inj h
      exact .eq (.eq (.eq (.eq (.un .nil))))
    · have h := if_f hc hst6
      clear hst6
      refine sw_next ?_
      obtain rfl := R.ok_inj h
      exact .eq (.eq (.eq (.eq (.un .nil))))
    show SW K _ _ [.dat (dI top1), .dat (dI bottom2), .dat (dI ((0 : Int))), .dat (dI st6), .un] _ _ _
    obtain ⟨q8, hq8, h⟩ := R.bind_inv h
    obtain ⟨q9, hq9, h⟩ := R.bind_inv h
    obtain ⟨q10, hq10, h⟩ := R.bind_inv h
    exact sw_ret (ev_cast (r := dQ) h (ev_mkQ hq10 (ev_fdiv hq8 (ev_var rfl) (ev_var rfl)) (ev_fdiv hq9 (ev_var rfl) (ev_var rfl)))) rfl
abbrev s__law_plus : Stmt := topS 23
abbrev n__law_plus : List Str := ["_law_one", "_law_other"]
theorem sc__law_plus : FnScope n__law_plus ["_law_one", "_law_other"] (defScope s__law_plus) := ⟨rfl, rfl, rfl, by decide +kernel, rfl, by decide +kernel, by decide +kernel⟩
abbrev sp__law_plus (K : PySem.W.Frag) : Sp := spR K (fun (x : Rat × Rat) => [dQ x.1, dQ x.2]) (fun (x : Rat × Rat) => l_plus_2 x.1 x.2) dQ
set_option maxHeartbeats 4000000 in
theorem ok__law_plus {f : Addr} {fd : FuncData} (F : FnP K "_law_plus" s__law_plus f fd) {f__law_ratio : Addr} {fd__law_ratio : FuncData} (F__law_ratio : FnP K "_law_ratio" s__law_ratio f__law_ratio fd__law_ratio) (b__law_ratio : Binds K fd__law_ratio ["_law_top", "_law_bottom"] []) (g__law_ratio : mg "_law_ratio" = some (.ref f__law_ratio)) (G__law_ratio : FnOk P w K mg base CX0 41 f__law_ratio fd__law_ratio ["_law_top", "_law_bottom"] (sp__law_ratio K)) : FnOk P w K mg base CX0 42 f fd ["_law_one", "_law_other"] (sp__law_plus K) := by
  refine F.ok sc__law_plus (fun vs H Q E h => ?_) (fun cdv A outer s H vs Q E hr h => ?_)
  · obtain ⟨x, _, _, _, _, d, _⟩ := h
    exact d.length
  · skip
    refine ⟨_, PSs.nox (pss_one (ps_ret (pe_call G__law_ratio (hr.mono (by decide)) (by rfl) g__law_ratio F__law_ratio.kp b__law_ratio .nil pass0 (pa_cons (pe_op op_add (pe_op op_mulP (pe_ix (r := rIxT K) ix_tup (pv 0) pe_int (fun _ _ => rfl)) (pe_ix (r := rIxT K) ix_tup (pv 1) pe_int (fun _ _ => rfl))) (pe_op op_mulP (pe_ix (r := rIxT K) ix_tup (pv 1) pe_int (fun _ _ => rfl)) (pe_ix (r := rIxT K) ix_tup (pv 0) pe_int (fun _ _ => rfl)))) (pa_cons (pe_op op_mulP (pe_ix (r := rIxT K) ix_tup (pv 0) pe_int (fun _ _ => rfl)) (pe_ix (r := rIxT K) ix_tup (pv 1) pe_int (fun _ _ => rfl))) pa_nil))))), ?_⟩
    refine spR_run (n := 2) (k := 0) rfl (fun _ => rfl) (fun x b h => ?_) h
    obtain ⟨one1, other2⟩ := x
    show SW K _ _ [.dat (dQ one1), .dat (dQ other2)] _ _ _
    have h : l_plus_2 one1 other2 = R.ok b := h
    unfold l_plus_2 at h
    obtain ⟨p3, hp3, h⟩ := R.bind_inv h
    obtain ⟨p4, hp4, h⟩ := R.bind_inv h
    obtain ⟨p5, hp5, h⟩ := R.bind_inv h
    obtain ⟨r6, hr6, h⟩ := R.bind_inv h
    exact sw_ret (ev_cast (r := dQ) h (ev_call (x := ((p3 + p4), p5)) hr6 (ea_cons (ev_i0 (g := fun i j => .int (i + j)) (ev_mul hp3 (ev_ixT (k := 0) (ev_var rfl) (ev_c _) (by rfl) rfl) (ev_ixT (k := 1) (ev_var rfl) (ev_c _) (by rfl) rfl)) (ev_mul hp4 (ev_ixT (k := 0) (ev_var rfl) (ev_c _) (by rfl) rfl) (ev_ixT (k := 1) (ev_var rfl) (ev_c _) (by rfl) rfl))) (ea_cons (ev_mul hp5 (ev_ixT (k := 1) (ev_var rfl) (ev_c _) (by rfl) rfl) (ev_ixT (k := 1) (ev_var rfl) (ev_c _) (by rfl) rfl)) ea_nil)))) rfl
abbrev s__law_minus : Stmt := topS 24
abbrev n__law_minus : List Str := ["_law_one", "_law_other"]
theorem sc__law_minus : FnScope n__law_minus ["_law_one", "_law_other"] (defScope s__law_minus) := ⟨rfl, rfl, rfl, by decide +kernel, rfl, by decide +kernel, by decide +kernel⟩
abbrev sp__law_minus (K : PySem.W.Frag) : Sp := spR K (fun (x : Rat × Rat) => [dQ x.1, dQ x.2]) (fun (x : Rat × Rat) => l_minus_2 x.1 x.2) dQ
set_option maxHeartbeats 4000000 in
theorem ok__law_minus {f : Addr} {fd : FuncData} (F : FnP K "_law_minus" s__law_minus f fd) {f__law_ratio : Addr} {fd__law_ratio : FuncData} (F__law_ratio : FnP K "_law_ratio" s__law_ratio f__law_ratio fd__law_ratio) (b__law_ratio : Binds K fd__law_ratio ["_law_top", "_law_bottom"] []) (g__law_ratio : mg "_law_ratio" = some (.ref f__law_ratio)) (G__law_ratio : FnOk P w K mg base CX0 41 f__law_ratio fd__law_ratio ["_law_top", "_law_bottom"] (sp__law_ratio K)) : FnOk P w K mg base CX0 42 f fd ["_law_one", "_law_other"] (sp__law_minus K) := by
  refine F.ok sc__law_minus (fun vs H Q E h => ?_) (fun cdv A outer s H vs Q E hr h => ?_)
  · obtain ⟨x, _, _, _, _, d, _⟩ := h
    exact d.length
  · skip
    refine ⟨_, PSs.nox (pss_one (ps_ret (pe_call G__law_ratio (hr.mono (by decide)) (by rfl) g__law_ratio F__law_ratio.kp b__law_ratio .nil pass0 (pa_cons (pe_op op_sub (pe_op op_mulP (pe_ix (r := rIxT K) ix_tup (pv 0) pe_int (fun _ _ => rfl)) (pe_ix (r := rIxT K) ix_tup (pv 1) pe_int (fun _ _ => rfl))) (pe_op op_mulP (pe_ix (r := rIxT K) ix_tup (pv 1) pe_int (fun _ _ => rfl)) (pe_ix (r := rIxT K) ix_tup (pv 0) pe_int (fun _ _ => rfl)))) (pa_cons (pe_op op_mulP (pe_ix (r := rIxT K) ix_tup (pv 0) pe_int (fun _ _ => rfl)) (pe_ix (r := rIxT K) ix_tup (pv 1) pe_int (fun _ _ => rfl))) pa_nil))))), ?_⟩
    refine spR_run (n := 2) (k := 0) rfl (fun _ => rfl) (fun x b h => ?_) h
    obtain ⟨one1, other2⟩ := x
    show SW K _ _ [.dat (dQ one1), .dat (dQ other2)] _ _ _
    have h : l_minus_2 one1 other2 = R.ok b := h
    unfold l_minus_2 at h
    obtain ⟨p3, hp3, h⟩ := R.bind_inv h
    obtain ⟨p4, hp4, h⟩ := R.bind_inv h
    obtain ⟨p5, hp5, h⟩ := R.bind_inv h
    obtain ⟨r6, hr6, h⟩ := R.bind_inv h
    exact sw_ret (ev_cast (r := dQ) h (ev_call (x := ((p3 - p4), p5)) hr6 (ea_cons (ev_i0 (g := fun i j => .int (i - j)) (ev_mul hp3 (ev_ixT (k := 0) (ev_var rfl) (ev_c _) (by rfl) rfl) (ev_ixT (k := 1) (ev_var rfl) (ev_c _) (by rfl) rfl)) (ev_mul hp4 (ev_ixT (k := 0) (ev_var rfl) (ev_c _) (by rfl) rfl) (ev_ixT (k := 1) (ev_var rfl) (ev_c _) (by rfl) rfl))) (ea_cons (ev_mul hp5 (ev_ixT (k := 1) (ev_var rfl) (ev_c _) (by rfl) rfl) (ev_ixT (k := 1) (ev_var rfl) (ev_c _) (by rfl) rfl)) ea_nil)))) rfl
abbrev s__law_times : Stmt := topS 25
abbrev n__law_times : List Str := ["_law_one", "_law_other"]
theorem sc__law_times : FnScope n__law_times ["_law_one", "_law_other"] (defScope s__law_times) := ⟨rfl, rfl, rfl, by decide +kernel, rfl, by decide +kernel, by decide +kernel⟩
abbrev sp__law_times (K : PySem.W.Frag) : Sp := spR K (fun (x : Rat × Rat) => [dQ x.1, dQ x.2]) (fun (x : Rat × Rat) => l_times_2 x.1 x.2) dQ
set_option maxHeartbeats 4000000 in
theorem ok__law_times {f : Addr} {fd : FuncData} (F : FnP K "_law_times" s__law_times f fd) {f__law_ratio : Addr} {fd__law_ratio : FuncData} (F__law_ratio : FnP K "_law_ratio" s__law_ratio f__law_ratio fd__law_ratio) (b__law_ratio : Binds K fd__law_ratio ["_law_top", "_law_bottom"] []) (g__law_ratio : mg "_law_ratio" = some (.ref f__law_ratio)) (G__law_ratio : FnOk P w K mg base CX0 41 f__law_ratio fd__law_ratio ["_law_top", "_law_bottom"] (sp__law_ratio K)) : FnOk P w K mg base CX0 42 f fd ["_law_one", "_law_other"] (sp__law_times K) := by
  refine F.ok sc__law_times (fun vs H Q E h => ?_) (fun cdv A outer s H vs Q E hr h => ?_)
  · obtain ⟨x, _, _, _, _, d, _⟩ := h
    exact d.length
  · skip
    refine ⟨_, PSs.nox (pss_one (ps_ret (pe_call G__law_ratio (hr.mono (by decide)) (by rfl) g__law_ratio F__law_ratio.kp b__law_ratio .nil pass0 (pa_cons (pe_op op_mulP (pe_ix (r := rIxT K) ix_tup (pv 0) pe_int (fun _ _ => rfl)) (pe_ix (r := rIxT K) ix_tup (pv 1) pe_int (fun _ _ => rfl))) (pa_cons (pe_op op_mulP (pe_ix (r := rIxT K) ix_tup (pv 0) pe_int (fun _ _ => rfl)) (pe_ix (r := rIxT K) ix_tup (pv 1) pe_int (fun _ _ => rfl))) pa_nil))))), ?_⟩
    refine spR_run (n := 2) (k := 0) rfl (fun _ => rfl) (fun x b h => ?_) h
    obtain ⟨one1, other2⟩ := x
    show SW K _ _ [.dat (dQ one1), .dat (dQ other2)] _ _ _
    have h : l_times_2 one1 other2 = R.ok b := h
    unfold l_times_2 at h
    obtain ⟨p3, hp3, h⟩ := R.bind_inv h
    obtain ⟨p4, hp4, h⟩ := R.bind_inv h
    obtain ⟨r5, hr5, h⟩ := R.bind_inv h
    exact sw_ret (ev_cast (r := dQ) h (ev_call (x := (p3, p4)) hr5 (ea_cons (ev_mul hp3 (ev_ixT (k := 0) (ev_var rfl) (ev_c _) (by rfl) rfl) (ev_ixT (k := 0) (ev_var rfl) (ev_c _) (by rfl) rfl)) (ea_cons (ev_mul hp4 (ev_ixT (k := 1) (ev_var rfl) (ev_c _) (by rfl) rfl) (ev_ixT (k := 1) (ev_var rfl) (ev_c _) (by rfl) rfl)) ea_nil)))) rfl
abbrev s__law_is : Stmt := topS 26
abbrev n__law_is : List Str := ["_law_found", "_law_due_here"]
theorem sc__law_is : FnScope n__law_is ["_law_found", "_law_due_here"] (defScope s__law_is) := ⟨rfl, rfl, rfl, by decide +kernel, rfl, by decide +kernel, by decide +kernel⟩
abbrev sp__law_is (K : PySem.W.Frag) : Sp := spR K (fun (x : Rat × Rat) => [dQ x.1, dQ x.2]) (fun (x : Rat × Rat) => l_is_2 x.1 x.2) dB
set_option maxHeartbeats 4000000 in
theorem ok__law_is {f : Addr} {fd : FuncData} (F : FnP K "_law_is" s__law_is f fd) {f__law_whole : Addr} {fd__law_whole : FuncData} (F__law_whole : FnP K "_law_whole" s__law_whole f__law_whole fd__law_whole) (b__law_whole : Binds K fd__law_whole ["_law_found"] []) (g__law_whole : mg "_law_whole" = some (.ref f__law_whole)) (G__law_whole : FnOk P w K mg base CX0 41 f__law_whole fd__law_whole ["_law_found"] (sp__law_whole K)) (z_isinstance : mg "isinstance" = none) (z_len : mg "len" = none) (z_tuple : mg "tuple" = none) : FnOk P w K mg base CX0 42 f fd ["_law_found", "_law_due_here"] (sp__law_is K) := by
  refine F.ok sc__law_is (fun vs H Q E h => ?_) (fun cdv A outer s H vs Q E hr h => ?_)
  · obtain ⟨x, _, _, _, _, d, _⟩ := h
    exact d.length
  · skip
    refine ⟨_, PSs.nox (pss_cons (ps_if (PW.pt (pw_or (pt_not (pt_val (pe_callB (id := "isinstance") (r := rIsi K) call_isi (by rfl) z_isinstance (by decide +kernel) (pa_cons (pv 0) (pa_cons (pe_bltn (v := .ty "tuple") (u := .type "tuple") (by rfl) z_tuple (by decide +kernel) rfl) pa_nil))))) (pw_or (pt_cmpR op_ne (pe_callB (id := "len") (r := rLenP K) cl_len (by rfl) z_len (by decide +kernel) (pa_cons (pv 0) pa_nil)) pe_int (nomark _)) (pw_or (pt_not (pt_val (pe_call G__law_whole (hr.mono (by decide)) (by rfl) g__law_whole F__law_whole.kp b__law_whole .nil pass0 (pa_cons (pe_ix (r := rIxT K) ix_tup (pv 0) pe_int (fun _ _ => rfl)) pa_nil)))) (pw_or1 (pt_not (pt_val (pe_call G__law_whole (hr.mono (by decide)) (by rfl) g__law_whole F__law_whole.kp b__law_whole .nil pass0 (pa_cons (pe_ix (r := rIxT K) ix_tup (pv 0) pe_int (fun _ _ => rfl)) pa_nil))))))))) (pss_one (ps_ret pe_bl)) pss_nil) (pss_one (ps_ret (pe_cmpR (r := rEqD K) (op_eqD hr.units) (pv 0) (pv 1) (nomark _))))), ?_⟩
    refine spR_run (n := 2) (k := 0) rfl (fun _ => rfl) (fun x b h => ?_) h
    obtain ⟨found1, due2⟩ := x
    show SW K _ _ [.dat (dQ found1), .dat (dQ due2)] _ _ _
    have h : l_is_2 found1 due2 = R.ok b := h
    unfold l_is_2 at h
    obtain ⟨b7, hb7, h⟩ := R.bind_inv h
    refine sw_seq (sw_if (et_orR hb7 (et_not (et_b (ev_isi (r := true) (ev_var rfl) rfl (by decide +kernel)))) (fun hc h => by obtain ⟨b6, hb6, h⟩ := R.bind_inv h; exact et_cast h (et_orR hb6 (et_test (ev_neI (ev_lenW (n := 2) rfl (ev_var rfl)) (ev_c _))) (fun hc h => by obtain ⟨w3, hw3, h⟩ := R.bind_inv h; obtain ⟨b5, hb5, h⟩ := R.bind_inv h; exact et_cast h (et_orR hb5 (et_not (et_b (ev_call (x := found1.num) hw3 (ea_cons (ev_ixT (k := 0) (ev_var rfl) (ev_c _) (by rfl) rfl) ea_nil)))) (fun hc h => by obtain ⟨w4, hw4, h⟩ := R.bind_inv h; exact et_cast h (et_not (et_b (ev_call (x := (found1.den : Int)) hw4 (ea_cons (ev_ixT (k := 1) (ev_var rfl) (ev_c _) (by rfl) rfl) ea_nil)))))))))) (fun hc => ?_) (fun hc => ?_))
    · have h := if_t hc h
      exact sw_ret (ev_cast (r := dB) h (ev_c _)) rfl
    · have h := if_f hc h
      refine sw_next ?_
      show SW K _ _ [.dat (dQ found1), .dat (dQ due2)] _ _ _
      exact sw_ret (ev_cast (r := dB) h (ev_eqD eqQ (ev_var rfl) (ev_var rfl))) rfl
abbrev s__law_number : Stmt := topS 27
abbrev n__law_number : List Str := ["_law_cell_here"]
theorem sc__law_number : FnScope n__law_number ["_law_cell_here"] (defScope s__law_number) := ⟨rfl, rfl, rfl, by decide +kernel, rfl, by decide +kernel, by decide +kernel⟩
abbrev sp__law_number (K : PySem.W.Frag) : Sp := spR K (fun (x : Int) => [dI x]) (fun (x : Int) => l_number_2 x) dQ
set_option maxHeartbeats 4000000 in
theorem ok__law_number {f : Addr} {fd : FuncData} (F : FnP K "_law_number" s__law_number f fd) {f__law_ratio : Addr} {fd__law_ratio : FuncData} (F__law_ratio : FnP K "_law_ratio" s__law_ratio f__law_ratio fd__law_ratio) (b__law_ratio : Binds K fd__law_ratio ["_law_top", "_law_bottom"] []) (g__law_ratio : mg "_law_ratio" = some (.ref f__law_ratio)) (G__law_ratio : FnOk P w K mg base CX0 41 f__law_ratio fd__law_ratio ["_law_top", "_law_bottom"] (sp__law_ratio K)) (hS : base.NoSeer) (hT : P.given.tree = none) : FnOk P w K mg base CX0 42 f fd ["_law_cell_here"] (sp__law_number K) := by
  refine F.ok sc__law_number (fun vs H Q E h => ?_) (fun cdv A outer s H vs Q E hr h => ?_)
  · obtain ⟨x, _, _, _, _, d, _⟩ := h
    exact d.length
  · have hp := pyRm (qual := "_law_number") (sc := defScope s__law_number) (n := s.heap.objs.size) (f := f) (cd := cdv) (outer := outer) hS hT hr (by decide) rfl rfl
    refine ⟨_, PSs.nox (pss_cons (ps_if (pt_cmpR op_eq (pe_op op_modN (pv 0) pe_int) pe_int (nomark _)) (pss_one (ps_ret (pe_call G__law_ratio (hr.mono (by decide)) (by rfl) g__law_ratio F__law_ratio.kp b__law_ratio .nil pass0 (pa_cons (pe_op op_sub (pe_op op_modN (pe_op (op_fdivP hp) (pv 0) pe_int) (pe_op op_mulP pe_int (pe_op op_pow pe_int pe_int))) (pe_op op_pow pe_int pe_int)) (pa_cons (pe_op op_add pe_int (pe_op op_modN (pe_op (op_fdivP hp) (pv 0) pe_int) pe_int)) pa_nil))))) pss_nil) (pss_one (ps_ret (pe_call G__law_ratio (hr.mono (by decide)) (by rfl) g__law_ratio F__law_ratio.kp b__law_ratio .nil pass0 (pa_cons (pe_op op_sub (pe_op op_modN (pe_op (op_fdivP hp) (pv 0) pe_int) pe_int) pe_int) (pa_cons (pe_ix (r := rIxL K) ix_list (pe_lst (pa_cons pe_int (pa_cons pe_int (pa_cons pe_int (pa_cons pe_int (pa_cons pe_int (pa_cons pe_int (pa_cons pe_int pa_nil)))))))) (pe_op op_modN (pv 0) pe_int) (fun _ _ => rfl)) pa_nil)))))), ?_⟩
    refine spR_run (n := 1) (k := 0) rfl (fun _ => rfl) (fun x b h => ?_) h
    generalize x = cell1 at h ⊢
    show SW K _ _ [.dat (dI cell1)] _ _ _
    have h : l_number_2 cell1 = R.ok b := h
    unfold l_number_2 at h
    refine sw_seq (sw_if (et_test (ev_eqI (ev_modP (by decide +kernel) (ev_var rfl) (ev_c _)) (ev_c _))) (fun hc => ?_) (fun hc => ?_))
    · have h := if_t hc h
      obtain ⟨r2, hr2, h⟩ := R.bind_inv h
      exact sw_ret (ev_cast (r := dQ) h (ev_call (x := ((((cell1 / (8 : Int)) % (2000000000000 : Int)) - (1000000000000 : Int)), ((1 : Int) + ((cell1 / (8 : Int)) % (7 : Int))))) hr2 (ea_cons (ev_i0 (g := fun i j => .int (i - j)) (ev_modP (by decide +kernel) (ev_divP (by decide +kernel) (ev_var rfl) (ev_c _)) (ev_mulL (i := (2 : Int)) (j := (1000000000000 : Int)) (k := 2000000000000) (by decide +kernel) (by decide +kernel) (ev_c _) (ev_pow (i := (10 : Int)) (j := (12 : Int)) (n := 1000000000000) (by decide +kernel) (by decide +kernel) (ev_c _) (ev_c _)))) (ev_pow (i := (10 : Int)) (j := (12 : Int)) (n := 1000000000000) (by decide +kernel) (by decide +kernel) (ev_c _) (ev_c _))) (ea_cons (ev_i0 (g := fun i j => .int (i + j)) (ev_c _) (ev_modP (by decide +kernel) (ev_divP (by decide +kernel) (ev_var rfl) (ev_c _)) (ev_c _))) ea_nil)))) rfl
    · have h := if_f hc h
      refine sw_next ?_
      show SW K _ _ [.dat (dI cell1)] _ _ _
      obtain ⟨it3, hit3, h⟩ := R.bind_inv h
      obtain ⟨r4, hr4, h⟩ := R.bind_inv h
      exact sw_ret (ev_cast (r := dQ) h (ev_call (x := ((((cell1 / (8 : Int)) % (29 : Int)) - (6 : Int)), it3)) hr4 (ea_cons (ev_i0 (g := fun i j => .int (i - j)) (ev_modP (by decide +kernel) (ev_divP (by decide +kernel) (ev_var rfl) (ev_c _)) (ev_c _)) (ev_c _)) (ea_cons (ev_atL (r := dI) hit3 (EV.frz (en_lst (ds := [(4 : Int), (1 : Int), (2 : Int), (4 : Int), (3 : Int), (1 : Int), (6 : Int)].map dI) (ea_cons (ev_c _) (ea_cons (ev_c _) (ea_cons (ev_c _) (ea_cons (ev_c _) (ea_cons (ev_c _) (ea_cons (ev_c _) (ea_cons (ev_c _) ea_nil))))))))) (ev_modP (by decide +kernel) (ev_var rfl) (ev_c _))) ea_nil)))) rfl
abbrev s__law_at : Stmt := topS 28
abbrev n__law_at : List Str := ["_law_script", "_law_k"]
theorem sc__law_at : FnScope n__law_at ["_law_script", "_law_k"] (defScope s__law_at) := ⟨rfl, rfl, rfl, by decide +kernel, rfl, by decide +kernel, by decide +kernel⟩
abbrev sp__law_at (K : PySem.W.Frag) : Sp := spR K (fun (x : (List Int) × Int) => [(dL dI) x.1, dI x.2]) (fun (x : (List Int) × Int) => l_at x.1 x.2) dQ
set_option maxHeartbeats 4000000 in
theorem ok__law_at {f : Addr} {fd : FuncData} (F : FnP K "_law_at" s__law_at f fd) {f__law_cell : Addr} {fd__law_cell : FuncData} (F__law_cell : FnP K "_law_cell" s__law_cell f__law_cell fd__law_cell) (b__law_cell : Binds K fd__law_cell ["_law_script", "_law_k"] []) (g__law_cell : mg "_law_cell" = some (.ref f__law_cell)) {f__law_number : Addr} {fd__law_number : FuncData} (F__law_number : FnP K "_law_number" s__law_number f__law_number fd__law_number) (b__law_number : Binds K fd__law_number ["_law_cell_here"] []) (g__law_number : mg "_law_number" = some (.ref f__law_number)) {f__law_spread : Addr} {fd__law_spread : FuncData} (F__law_spread : FnP K "_law_spread" s__law_spread f__law_spread fd__law_spread) (b__law_spread : Binds K fd__law_spread ["_law_cell_here", "_law_k"] []) (g__law_spread : mg "_law_spread" = some (.ref f__law_spread)) (G__law_cell : FnOk P w K mg base CX0 41 f__law_cell fd__law_cell ["_law_script", "_law_k"] (sp__law_cell K)) (G__law_number : FnOk P w K mg base CX0 42 f__law_number fd__law_number ["_law_cell_here"] (sp__law_number K)) (G__law_spread : FnOk P w K mg base CX0 41 f__law_spread fd__law_spread ["_law_cell_here", "_law_k"] (sp__law_spread K)) : FnOk P w K mg base CX0 43 f fd ["_law_script", "_law_k"] (sp__law_at K) := by
  refine F.ok sc__law_at (fun vs H Q E h => ?_) (fun cdv A outer s H vs Q E hr h => ?_)
  · obtain ⟨x, _, _, _, _, d, _⟩ := h
    exact d.length
  · skip
    refine ⟨_, PSs.nox (pss_one (ps_ret (pe_call G__law_number (hr.mono (by decide)) (by rfl) g__law_number F__law_number.kp b__law_number .nil pass0 (pa_cons (pe_call G__law_spread (hr.mono (by decide)) (by rfl) g__law_spread F__law_spread.kp b__law_spread .nil pass0 (pa_cons (pe_call G__law_cell (hr.mono (by decide)) (by rfl) g__law_cell F__law_cell.kp b__law_cell .nil pass0 (pa_cons (pv 0) (pa_cons (pv 1) pa_nil))) (pa_cons (pv 1) pa_nil))) pa_nil)))), ?_⟩
    refine spR_run (n := 2) (k := 0) rfl (fun _ => rfl) (fun x b h => ?_) h
    obtain ⟨script1, k2⟩ := x
    show SW K _ _ [.dat ((dL dI) script1), .dat (dI k2)] _ _ _
    have h : l_at script1 k2 = R.ok b := h
    unfold l_at at h
    obtain ⟨c3, hc3, h⟩ := R.bind_inv h
    obtain ⟨s4, hs4, h⟩ := R.bind_inv h
    obtain ⟨n5, hn5, h⟩ := R.bind_inv h
    exact sw_ret (ev_cast (r := dQ) h (ev_call (x := s4) hn5 (ea_cons (ev_call (x := (c3, k2)) hs4 (ea_cons (ev_call (x := (script1, k2)) hc3 (ea_cons (ev_var rfl) (ea_cons (ev_var rfl) ea_nil))) (ea_cons (ev_var rfl) ea_nil))) ea_nil))) rfl
abbrev s__law_ring : Stmt := topS 29
abbrev n__law_ring : List Str := ["_law_script", "_law_at_here", "_law_many", "_law_ring_here", "_law_k"]
theorem sc__law_ring : FnScope n__law_ring ["_law_script", "_law_at_here", "_law_many"] (defScope s__law_ring) := ⟨rfl, rfl, rfl, by decide +kernel, rfl, by decide +kernel, by decide +kernel⟩
abbrev sp__law_ring (K : PySem.W.Frag) : Sp := spN K (fun (x : (List Int) × Int × Int) => [(dL dI) x.1, dI x.2.1, dI x.2.2]) (fun (x : (List Int) × Int × Int) => l_ring_2 x.1 x.2.1 x.2.2) (d2 dQ dQ)
set_option maxHeartbeats 4000000 in
theorem ok__law_ring {f : Addr} {fd : FuncData} (F : FnP K "_law_ring" s__law_ring f fd) {f__law_at : Addr} {fd__law_at : FuncData} (F__law_at : FnP K "_law_at" s__law_at f__law_at fd__law_at) (b__law_at : Binds K fd__law_at ["_law_script", "_law_k"] []) (g__law_at : mg "_law_at" = some (.ref f__law_at)) (G__law_at : FnOk P w K mg base CX0 43 f__law_at fd__law_at ["_law_script", "_law_k"] (sp__law_at K)) (z_range : mg "range" = none) : FnOk P w K mg base CX0 44 f fd ["_law_script", "_law_at_here", "_law_many"] (sp__law_ring K) := by
  refine F.ok sc__law_ring (fun vs H Q E h => ?_) (fun cdv A outer s H vs Q E hr h => ?_)
  · obtain ⟨x, _, _, _, _, d, _⟩ := h
    exact d.length
  · skip
    refine ⟨_, PSs.nox (pss_cons (ps_set (i := 3) sc__law_ring.nd rfl (Or.inl rfl) (pe_lst pa_nil)) (pss_cons (ps_for PassesOwn.never rfl (pi_range1 (by rfl) z_range (pa_cons (pv 2) pa_nil)) (pg_name (i := 4) sc__law_ring.nd rfl (Or.inl rfl)) (pss_one (ps_expr (pe_bm PySem.F.plainAttrs_list PySem.F.slot_list_append PySem.F.type_list_append mt_append (pv 3) (pa_cons (pe_tup (pa_cons (pe_call G__law_at (hr.mono (by decide)) (by rfl) g__law_at F__law_at.kp b__law_at .nil pass0 (pa_cons (pv 0) (pa_cons (pe_op op_add (pv 1) (pe_op op_mulP pe_int (pv 4))) pa_nil))) (pa_cons (pe_call G__law_at (hr.mono (by decide)) (by rfl) g__law_at F__law_at.kp b__law_at .nil pass0 (pa_cons (pv 0) (pa_cons (pe_op op_add (pe_op op_add (pv 1) (pe_op op_mulP pe_int (pv 4))) pe_int) pa_nil))) pa_nil))) pa_nil))))) (pss_one (ps_ret (pv 3))))), ?_⟩
    refine spN_run (n := 3) (k := 2) rfl (fun _ => rfl) (fun x b h => ?_) h
    obtain ⟨script1, at2, many3⟩ := x
    show SW K _ _ [.dat ((dL dI) script1), .dat (dI at2), .dat (dI many3), .un, .un] _ _ _
    have h : l_ring_2 script1 at2 many3 = R.ok b := h
    unfold l_ring_2 at h
    obtain ⟨ring4, hring4, h⟩ := R.bind_inv h
    refine sw_seq (sw_own (en_cast (r := (d2 dQ dQ)) hring4 (en_lst ea_nil)) (Nat.le_of_ble_eq_true rfl) ?_)
    show SW K _ _ [.dat ((dL dI) script1), .dat (dI at2), .dat (dI many3), .ownN none (ring4.map (d2 dQ dQ)), .un] _ _ _
    obtain ⟨r5, hr5, h⟩ := R.bind_inv h
    obtain ⟨s13, hs13, h⟩ := R.bind_inv h
    refine sw_seq (sw_forR (ra := dI) (js := [4]) _ (fun (z : (List (Rat × Rat))) => [.dat ((dL dI) script1), .dat (dI at2), .dat (dI many3), .ownN none (z.map (d2 dQ dQ)), .un]) _ (iv_rng1 hr5 (ev_var rfl)) hs13 (.eq (.eq (.eq (.eq (.un .nil))))) (fun x6 s7 s' _ h => ⟨_, (gt_name 4 _ _), ?_⟩) ?_)
    · show SW K _ _ [.dat ((dL dI) script1), .dat (dI at2), .dat (dI many3), .ownN none (s7.map (d2 dQ dQ)), .dat (dI x6)] _ _ _
      obtain ⟨p8, hp8, h⟩ := R.bind_inv h
      obtain ⟨a9, ha9, h⟩ := R.bind_inv h
      obtain ⟨p10, hp10, h⟩ := R.bind_inv h
      obtain ⟨a11, ha11, h⟩ := R.bind_inv h
      obtain ⟨ring12, hring12, h⟩ := R.bind_inv h
      refine sw_app (r := (d2 dQ dQ)) hring12 rfl (ev_tup (ea_cons (ev_call (x := (script1, (at2 + p8))) ha9 (ea_cons (ev_var rfl) (ea_cons (ev_i0 (g := fun i j => .int (i + j)) (ev_var rfl) (ev_mul hp8 (ev_c _) (ev_var rfl))) ea_nil))) (ea_cons (ev_call (x := (script1, ((at2 + p10) + (1 : Int)))) ha11 (ea_cons (ev_var rfl) (ea_cons (ev_i0 (g := fun i j => .int (i + j)) (ev_i0 (g := fun i j => .int (i + j)) (ev_var rfl) (ev_mul hp10 (ev_c _) (ev_var rfl))) (ev_c _)) ea_nil))) ea_nil))) ?_
      obtain rfl := R.ok_inj h
      exact .eq (.eq (.eq (.eq (.un .nil))))
    show SW K _ _ [.dat ((dL dI) script1), .dat (dI at2), .dat (dI many3), .ownN none (s13.map (d2 dQ dQ)), .un] _ _ _
    obtain rfl := R.ok_inj h
    exact sw_retV rfl rfl
abbrev s__law_line : Stmt := topS 30
abbrev n__law_line : List Str := ["_law_script", "_law_at_here", "_law_line_here", "_law_k", "_law_cell_here"]
theorem sc__law_line : FnScope n__law_line ["_law_script", "_law_at_here"] (defScope s__law_line) := ⟨rfl, rfl, rfl, by decide +kernel, rfl, by decide +kernel, by decide +kernel⟩
abbrev sp__law_line (K : PySem.W.Frag) : Sp := spR K (fun (x : (List Int) × Int) => [(dL dI) x.1, dI x.2]) (fun (x : (List Int) × Int) => l_line x.1 x.2) (d3 dQ dQ dQ)
set_option maxHeartbeats 4000000 in
theorem ok__law_line {f : Addr} {fd : FuncData} (F : FnP K "_law_line" s__law_line f fd) {f__law_cell : Addr} {fd__law_cell : FuncData} (F__law_cell : FnP K "_law_cell" s__law_cell f__law_cell fd__law_cell) (b__law_cell : Binds K fd__law_cell ["_law_script", "_law_k"] []) (g__law_cell : mg "_law_cell" = some (.ref f__law_cell)) {f__law_number : Addr} {fd__law_number : FuncData} (F__law_number : FnP K "_law_number" s__law_number f__law_number fd__law_number) (b__law_number : Binds K fd__law_number ["_law_cell_here"] []) (g__law_number : mg "_law_number" = some (.ref f__law_number)) {f__law_ratio : Addr} {fd__law_ratio : FuncData} (F__law_ratio : FnP K "_law_ratio" s__law_ratio f__law_ratio fd__law_ratio) (b__law_ratio : Binds K fd__law_ratio ["_law_top", "_law_bottom"] []) (g__law_ratio : mg "_law_ratio" = some (.ref f__law_ratio)) {f__law_spread : Addr} {fd__law_spread : FuncData} (F__law_spread : FnP K "_law_spread" s__law_spread f__law_spread fd__law_spread) (b__law_spread : Binds K fd__law_spread ["_law_cell_here", "_law_k"] []) (g__law_spread : mg "_law_spread" = some (.ref f__law_spread)) (G__law_cell : FnOk P w K mg base CX0 41 f__law_cell fd__law_cell ["_law_script", "_law_k"] (sp__law_cell K)) (G__law_number : FnOk P w K mg base CX0 42 f__law_number fd__law_number ["_law_cell_here"] (sp__law_number K)) (G__law_ratio : FnOk P w K mg base CX0 41 f__law_ratio fd__law_ratio ["_law_top", "_law_bottom"] (sp__law_ratio K)) (G__law_spread : FnOk P w K mg base CX0 41 f__law_spread fd__law_spread ["_law_cell_here", "_law_k"] (sp__law_spread K)) (z_range : mg "range" = none) (z_tuple : mg "tuple" = none) (hS : base.NoSeer) (hT : P.given.tree = none) : FnOk P w K mg base CX0 43 f fd ["_law_script", "_law_at_here"] (sp__law_line K) := by
  refine F.ok sc__law_line (fun vs H Q E h => ?_) (fun cdv A outer s H vs Q E hr h => ?_)
  · obtain ⟨x, _, _, _, _, d, _⟩ := h
    exact d.length
  · have hp := pyRm (qual := "_law_line") (sc := defScope s__law_line) (n := s.heap.objs.size) (f := f) (cd := cdv) (outer := outer) hS hT hr (by decide) rfl rfl
    refine ⟨_, PSs.nox (pss_cons (ps_set (i := 2) sc__law_line.nd rfl (Or.inl rfl) (pe_lst pa_nil)) (pss_cons (ps_for PassesOwn.never rfl (pi_range1 (by rfl) z_range (pa_cons pe_int pa_nil)) (pg_name (i := 3) sc__law_line.nd rfl (Or.inl rfl)) (pss_cons (ps_set (i := 4) sc__law_line.nd rfl (Or.inl rfl) (pe_call G__law_spread (hr.mono (by decide)) (by rfl) g__law_spread F__law_spread.kp b__law_spread .nil pass0 (pa_cons (pe_call G__law_cell (hr.mono (by decide)) (by rfl) g__law_cell F__law_cell.kp b__law_cell .nil pass0 (pa_cons (pv 0) (pa_cons (pe_op op_add (pv 1) (pv 3)) pa_nil))) (pa_cons (pe_op op_add (pv 3) pe_int) pa_nil)))) (pss_one (ps_expr (pe_bm PySem.F.plainAttrs_list PySem.F.slot_list_append PySem.F.type_list_append mt_append (pv 2) (pa_cons (pe_call G__law_ratio (hr.mono (by decide)) (by rfl) g__law_ratio F__law_ratio.kp b__law_ratio .nil pass0 (pa_cons (pe_op op_sub (pe_op op_modN (pv 4) pe_int) pe_int) (pa_cons (pe_op op_add pe_int (pe_op op_modN (pe_op (op_fdivP hp) (pv 4) pe_int) pe_int)) pa_nil))) pa_nil)))))) (pss_cons (ps_if (pt_cmpR op_lt (pe_op op_modN (pe_call G__law_cell (hr.mono (by decide)) (by rfl) g__law_cell F__law_cell.kp b__law_cell .nil pass0 (pa_cons (pv 0) (pa_cons (pv 1) pa_nil))) pe_int) pe_int (nomark _)) (pss_one (ps_asg (pe_tup (pa_cons pe_int (pa_cons pe_int pa_nil))) (pg_sub (pv 2) (pe_op op_modN (pe_call G__law_cell (hr.mono (by decide)) (by rfl) g__law_cell F__law_cell.kp b__law_cell .nil pass0 (pa_cons (pv 0) (pa_cons (pv 1) pa_nil))) pe_int) set_list))) pss_nil) (pss_cons (ps_if (pt_cmpR op_eq (pe_op op_modN (pe_call G__law_cell (hr.mono (by decide)) (by rfl) g__law_cell F__law_cell.kp b__law_cell .nil pass0 (pa_cons (pv 0) (pa_cons (pe_op op_add (pv 1) pe_int) pa_nil))) pe_int) pe_int (nomark _)) (pss_one (ps_asg (pe_call G__law_number (hr.mono (by decide)) (by rfl) g__law_number F__law_number.kp b__law_number .nil pass0 (pa_cons (pe_op (op_fdivP hp) (pe_call G__law_cell (hr.mono (by decide)) (by rfl) g__law_cell F__law_cell.kp b__law_cell .nil pass0 (pa_cons (pv 0) (pa_cons (pe_op op_add (pv 1) pe_int) pa_nil))) pe_int) pa_nil)) (pg_sub (pv 2) pe_int set_list))) pss_nil) (pss_one (ps_ret (pe_callTy (T := "tuple") (r := rTupP K) cl_tuple (by rfl) z_tuple (by decide +kernel) (pa_cons (pv 2) pa_nil)))))))), ?_⟩
    refine spR_run (n := 2) (k := 3) rfl (fun _ => rfl) (fun x b h => ?_) h
    obtain ⟨script1, at2⟩ := x
    show SW K _ _ [.dat ((dL dI) script1), .dat (dI at2), .un, .un, .un] _ _ _
    have h : l_line script1 at2 = R.ok b := h
    unfold l_line at h
    obtain ⟨line3, hline3, h⟩ := R.bind_inv h
    refine sw_seq (sw_own (en_cast (r := dQ) hline3 (en_lst ea_nil)) (Nat.le_of_ble_eq_true rfl) ?_)
    show SW K _ _ [.dat ((dL dI) script1), .dat (dI at2), .ownN none (line3.map dQ), .un, .un] _ _ _
    obtain ⟨r4, hr4, h⟩ := R.bind_inv h
    obtain ⟨s12, hs12, h⟩ := R.bind_inv h
    refine sw_seq (sw_forR (ra := dI) (js := [3]) _ (fun (z : (List Rat)) => [.dat ((dL dI) script1), .dat (dI at2), .ownN none (z.map dQ), .un, .un]) _ (iv_rng1 hr4 (ev_c _)) hs12 (.eq (.eq (.eq (.un (.un .nil))))) (fun x5 s6 s' _ h => ⟨_, (gt_name 3 _ _), ?_⟩) ?_)
    · show SW K _ _ [.dat ((dL dI) script1), .dat (dI at2), .ownN none (s6.map dQ), .dat (dI x5), .un] _ _ _
      obtain ⟨c7, hc7, h⟩ := R.bind_inv h
      obtain ⟨s8, hs8, h⟩ := R.bind_inv h
      obtain ⟨cell9, hcell9, h⟩ := R.bind_inv h
      refine sw_seq (sw_set (ev_cast (r := dI) hcell9 (ev_call (x := (c7, (x5 + (40 : Int)))) hs8 (ea_cons (ev_call (x := (script1, (at2 + x5))) hc7 (ea_cons (ev_var rfl) (ea_cons (ev_i0 (g := fun i j => .int (i + j)) (ev_var rfl) (ev_var rfl)) ea_nil))) (ea_cons (ev_i0 (g := fun i j => .int (i + j)) (ev_var rfl) (ev_c _)) ea_nil)))) ?_)
      show SW K _ _ [.dat ((dL dI) script1), .dat (dI at2), .ownN none (s6.map dQ), .dat (dI x5), .dat (dI cell9)] _ _ _
      obtain ⟨r10, hr10, h⟩ := R.bind_inv h
      obtain ⟨line11, hline11, h⟩ := R.bind_inv h
      refine sw_app (r := dQ) hline11 rfl (ev_call (x := (((cell9 % (9 : Int)) - (4 : Int)), ((1 : Int) + ((cell9 / (9 : Int)) % (3 : Int))))) hr10 (ea_cons (ev_i0 (g := fun i j => .int (i - j)) (ev_modP (by decide +kernel) (ev_var rfl) (ev_c _)) (ev_c _)) (ea_cons (ev_i0 (g := fun i j => .int (i + j)) (ev_c _) (ev_modP (by decide +kernel) (ev_divP (by decide +kernel) (ev_var rfl) (ev_c _)) (ev_c _))) ea_nil))) ?_
      obtain rfl := R.ok_inj h
      exact .eq (.eq (.eq (.un (.un .nil))))
    show SW K _ _ [.dat ((dL dI) script1), .dat (dI at2), .ownN none (s12.map dQ), .un, .un] _ _ _
    obtain ⟨c13, hc13, h⟩ := R.bind_inv h
    obtain ⟨st14, hst14, h⟩ := R.bind_inv h
    refine sw_seq (sw_mono (Nx := fun e => Wk e [.dat ((dL dI) script1), .dat (dI at2), .ownN none (st14.map dQ), .un, .un]) (sw_if (et_test (ev_i0 (g := fun i j => .bl (decide (i < j))) (ev_modP (by decide +kernel) (ev_call (x := (script1, at2)) hc13 (ea_cons (ev_var rfl) (ea_cons (ev_var rfl) ea_nil))) (ev_c _)) (ev_c _))) (fun hc => ?_) (fun hc => ?_)) (fun e w => sw_weak w ?_))
    · have h := if_t hc hst14
      clear hst14
      obtain ⟨q15, hq15, h⟩ := R.bind_inv h
      obtain ⟨c16, hc16, h⟩ := R.bind_inv h
      obtain ⟨line17, hline17, h⟩ := R.bind_inv h
      refine sw_put (r := dQ) hline17 (ev_mkQ hq15 (ev_c _) (ev_c _)) rfl (ev_modP (by decide +kernel) (ev_call (x := (script1, at2)) hc16 (ea_cons (ev_var rfl) (ea_cons (ev_var rfl) ea_nil))) (ev_c _)) ?_
      obtain rfl := R.ok_inj h
      exact .eq (.eq (.eq (.un (.un .nil))))
    · have h := if_f hc hst14
      clear hst14
      refine sw_next ?_
      obtain rfl := R.ok_inj h
      exact .eq (.eq (.eq (.un (.un .nil))))
    show SW K _ _ [.dat ((dL dI) script1), .dat (dI at2), .ownN none (st14.map dQ), .un, .un] _ _ _
    obtain ⟨c18, hc18, h⟩ := R.bind_inv h
    obtain ⟨st19, hst19, h⟩ := R.bind_inv h
    refine sw_seq (sw_mono (Nx := fun e => Wk e [.dat ((dL dI) script1), .dat (dI at2), .ownN none (st19.map dQ), .un, .un]) (sw_if (et_test (ev_eqI (ev_modP (by decide +kernel) (ev_call (x := (script1, (at2 + (2 : Int)))) hc18 (ea_cons (ev_var rfl) (ea_cons (ev_i0 (g := fun i j => .int (i + j)) (ev_var rfl) (ev_c _)) ea_nil))) (ev_c _)) (ev_c _))) (fun hc => ?_) (fun hc => ?_)) (fun e w => sw_weak w ?_))
    · have h := if_t hc hst19
      clear hst19
      obtain ⟨c20, hc20, h⟩ := R.bind_inv h
      obtain ⟨n21, hn21, h⟩ := R.bind_inv h
      obtain ⟨line22, hline22, h⟩ := R.bind_inv h
      refine sw_put (r := dQ) hline22 (ev_call (x := (c20 / (8 : Int))) hn21 (ea_cons (ev_divP (by decide +kernel) (ev_call (x := (script1, (at2 + (2 : Int)))) hc20 (ea_cons (ev_var rfl) (ea_cons (ev_i0 (g := fun i j => .int (i + j)) (ev_var rfl) (ev_c _)) ea_nil))) (ev_c _)) ea_nil)) rfl (ev_c _) ?_
      obtain rfl := R.ok_inj h
      exact .eq (.eq (.eq (.un (.un .nil))))
    · have h := if_f hc hst19
      clear hst19
      refine sw_next ?_
      obtain rfl := R.ok_inj h
      exact .eq (.eq (.eq (.un (.un .nil))))
    show SW K _ _ [.dat ((dL dI) script1), .dat (dI at2), .ownN none (st19.map dQ), .un, .un] _ _ _
    refine sw_frz (i := 2) rfl ?_
    show SW K _ _ [.dat ((dL dI) script1), .dat (dI at2), .dat ((dL dQ) st19), .un, .un] _ _ _
    obtain ⟨t23, ht23, h⟩ := R.bind_inv h
    exact sw_ret (ev_cast (r := (d3 dQ dQ dQ)) h (ev_tup3 ht23 (ev_tuple (ev_var rfl)))) rfl
abbrev s__law_over : Stmt := topS 31
abbrev n__law_over : List Str := ["_law_line_here", "_law_point"]
theorem sc__law_over : FnScope n__law_over ["_law_line_here", "_law_point"] (defScope s__law_over) := ⟨rfl, rfl, rfl, by decide +kernel, rfl, by decide +kernel, by decide +kernel⟩
abbrev sp__law_over (K : PySem.W.Frag) : Sp := spR K (fun (x : (Rat × Rat × Rat) × (Rat × Rat)) => [(d3 dQ dQ dQ) x.1, (d2 dQ dQ) x.2]) (fun (x : (Rat × Rat × Rat) × (Rat × Rat)) => l_over x.1 x.2) dQ
set_option maxHeartbeats 4000000 in
theorem ok__law_over {f : Addr} {fd : FuncData} (F : FnP K "_law_over" s__law_over f fd) {f__law_minus : Addr} {fd__law_minus : FuncData} (F__law_minus : FnP K "_law_minus" s__law_minus f__law_minus fd__law_minus) (b__law_minus : Binds K fd__law_minus ["_law_one", "_law_other"] []) (g__law_minus : mg "_law_minus" = some (.ref f__law_minus)) {f__law_plus : Addr} {fd__law_plus : FuncData} (F__law_plus : FnP K "_law_plus" s__law_plus f__law_plus fd__law_plus) (b__law_plus : Binds K fd__law_plus ["_law_one", "_law_other"] []) (g__law_plus : mg "_law_plus" = some (.ref f__law_plus)) {f__law_times : Addr} {fd__law_times : FuncData} (F__law_times : FnP K "_law_times" s__law_times f__law_times fd__law_times) (b__law_times : Binds K fd__law_times ["_law_one", "_law_other"] []) (g__law_times : mg "_law_times" = some (.ref f__law_times)) (G__law_minus : FnOk P w K mg base CX0 42 f__law_minus fd__law_minus ["_law_one", "_law_other"] (sp__law_minus K)) (G__law_plus : FnOk P w K mg base CX0 42 f__law_plus fd__law_plus ["_law_one", "_law_other"] (sp__law_plus K)) (G__law_times : FnOk P w K mg base CX0 42 f__law_times fd__law_times ["_law_one", "_law_other"] (sp__law_times K)) : FnOk P w K mg base CX0 43 f fd ["_law_line_here", "_law_point"] (sp__law_over K) := by
  refine F.ok sc__law_over (fun vs H Q E h => ?_) (fun cdv A outer s H vs Q E hr h => ?_)
  · obtain ⟨x, _, _, _, _, d, _⟩ := h
    exact d.length
  · skip
    refine ⟨_, PSs.nox (pss_one (ps_ret (pe_call G__law_minus (hr.mono (by decide)) (by rfl) g__law_minus F__law_minus.kp b__law_minus .nil pass0 (pa_cons (pe_call G__law_plus (hr.mono (by decide)) (by rfl) g__law_plus F__law_plus.kp b__law_plus .nil pass0 (pa_cons (pe_call G__law_times (hr.mono (by decide)) (by rfl) g__law_times F__law_times.kp b__law_times .nil pass0 (pa_cons (pe_ix (r := rIxT K) ix_tup (pv 0) pe_int (fun _ _ => rfl)) (pa_cons (pe_ix (r := rIxT K) ix_tup (pv 1) pe_int (fun _ _ => rfl)) pa_nil))) (pa_cons (pe_call G__law_times (hr.mono (by decide)) (by rfl) g__law_times F__law_times.kp b__law_times .nil pass0 (pa_cons (pe_ix (r := rIxT K) ix_tup (pv 0) pe_int (fun _ _ => rfl)) (pa_cons (pe_ix (r := rIxT K) ix_tup (pv 1) pe_int (fun _ _ => rfl)) pa_nil))) pa_nil))) (pa_cons (pe_ix (r := rIxT K) ix_tup (pv 0) pe_int (fun _ _ => rfl)) pa_nil))))), ?_⟩
    refine spR_run (n := 2) (k := 0) rfl (fun _ => rfl) (fun x b h => ?_) h
    obtain ⟨line1, point2⟩ := x
    show SW K _ _ [.dat ((d3 dQ dQ dQ) line1), .dat ((d2 dQ dQ) point2)] _ _ _
    have h : l_over line1 point2 = R.ok b := h
    unfold l_over at h
    obtain ⟨t3, ht3, h⟩ := R.bind_inv h
    obtain ⟨t4, ht4, h⟩ := R.bind_inv h
    obtain ⟨p5, hp5, h⟩ := R.bind_inv h
    obtain ⟨m6, hm6, h⟩ := R.bind_inv h
    exact sw_ret (ev_cast (r := dQ) h (ev_call (x := (p5, line1.2.2)) hm6 (ea_cons (ev_call (x := (t3, t4)) hp5 (ea_cons (ev_call (x := (line1.1, point2.1)) ht3 (ea_cons (ev_ixT (k := 0) (ev_var rfl) (ev_c _) (by rfl) rfl) (ea_cons (ev_ixT (k := 0) (ev_var rfl) (ev_c _) (by rfl) rfl) ea_nil))) (ea_cons (ev_call (x := (line1.2.1, point2.2)) ht4 (ea_cons (ev_ixT (k := 1) (ev_var rfl) (ev_c _) (by rfl) rfl) (ea_cons (ev_ixT (k := 1) (ev_var rfl) (ev_c _) (by rfl) rfl) ea_nil))) ea_nil))) (ea_cons (ev_ixT (k := 2) (ev_var rfl) (ev_c _) (by rfl) rfl) ea_nil)))) rfl
abbrev s__law_points_like : Stmt := topS 32
abbrev n__law_points_like : List Str := ["_law_found", "_law_point"]
theorem sc__law_points_like : FnScope n__law_points_like ["_law_found"] (defScope s__law_points_like) := ⟨rfl, rfl, rfl, by decide +kernel, rfl, by decide +kernel, by decide +kernel⟩
abbrev sp__law_points_like (K : PySem.W.Frag) : Sp := spR K (fun (x : (List (Rat × Rat))) => [(dL (d2 dQ dQ)) x]) (fun (x : (List (Rat × Rat))) => l_points_like x) dB
set_option maxHeartbeats 4000000 in
theorem ok__law_points_like {f : Addr} {fd : FuncData} (F : FnP K "_law_points_like" s__law_points_like f fd) {f__law_is : Addr} {fd__law_is : FuncData} (F__law_is : FnP K "_law_is" s__law_is f__law_is fd__law_is) (b__law_is : Binds K fd__law_is ["_law_found", "_law_due_here"] []) (g__law_is : mg "_law_is" = some (.ref f__law_is)) (G__law_is : FnOk P w K mg base CX0 42 f__law_is fd__law_is ["_law_found", "_law_due_here"] (sp__law_is K)) (z_isinstance : mg "isinstance" = none) (z_len : mg "len" = none) (z_list : mg "list" = none) (z_tuple : mg "tuple" = none) : FnOk P w K mg base CX0 43 f fd ["_law_found"] (sp__law_points_like K) := by
  refine F.ok sc__law_points_like (fun vs H Q E h => ?_) (fun cdv A outer s H vs Q E hr h => ?_)
  · obtain ⟨x, _, _, _, _, d, _⟩ := h
    exact d.length
  · skip
    refine ⟨_, PSs.nox (pss_cons (ps_if (pt_not (pt_val (pe_callB (id := "isinstance") (r := rIsi K) call_isi (by rfl) z_isinstance (by decide +kernel) (pa_cons (pv 0) (pa_cons (pe_bltn (v := .ty "list") (u := .type "list") (by rfl) z_list (by decide +kernel) rfl) pa_nil))))) (pss_one (ps_ret pe_bl)) pss_nil) (pss_cons (ps_for PassesOwn.never rfl (show PI _ _ _ (iList K _) from pi_list (pv 0)) (pg_name (i := 1) sc__law_points_like.nd rfl (Or.inl rfl)) (pss_cons (ps_if (PW.pt (pw_or (pt_not (pt_val (pe_callB (id := "isinstance") (r := rIsi K) call_isi (by rfl) z_isinstance (by decide +kernel) (pa_cons (pv 1) (pa_cons (pe_bltn (v := .ty "tuple") (u := .type "tuple") (by rfl) z_tuple (by decide +kernel) rfl) pa_nil))))) (pw_or1 (pt_cmpR op_ne (pe_callB (id := "len") (r := rLenP K) cl_len (by rfl) z_len (by decide +kernel) (pa_cons (pv 1) pa_nil)) pe_int (nomark _))))) (pss_one (ps_ret pe_bl)) pss_nil) (pss_one (ps_if (PW.pt (pw_or (pt_not (pt_val (pe_call G__law_is (hr.mono (by decide)) (by rfl) g__law_is F__law_is.kp b__law_is .nil pass0 (pa_cons (pe_ix (r := rIxT K) ix_tup (pv 1) pe_int (fun _ _ => rfl)) (pa_cons (pe_ix (r := rIxT K) ix_tup (pv 1) pe_int (fun _ _ => rfl)) pa_nil))))) (pw_or1 (pt_not (pt_val (pe_call G__law_is (hr.mono (by decide)) (by rfl) g__law_is F__law_is.kp b__law_is .nil pass0 (pa_cons (pe_ix (r := rIxT K) ix_tup (pv 1) pe_int (fun _ _ => rfl)) (pa_cons (pe_ix (r := rIxT K) ix_tup (pv 1) pe_int (fun _ _ => rfl)) pa_nil)))))))) (pss_one (ps_ret pe_bl)) pss_nil)))) (pss_one (ps_ret pe_bl)))), ?_⟩
    refine spR_run (n := 1) (k := 1) rfl (fun _ => rfl) (fun x b h => ?_) h
    generalize x = found1 at h ⊢
    show SW K _ _ [.dat ((dL (d2 dQ dQ)) found1), .un] _ _ _
    have h : l_points_like found1 = R.ok b := h
    unfold l_points_like at h
    refine sw_seq (sw_if (et_not (et_b (ev_isi (r := true) (ev_var rfl) rfl (by decide +kernel)))) (fun hc => ?_) (fun hc => ?_))
    · have h := if_t hc h
      exact sw_ret (ev_cast (r := dB) h (ev_c _)) rfl
    · have h := if_f hc h
      refine sw_next ?_
      show SW K _ _ [.dat ((dL (d2 dQ dQ)) found1), .un] _ _ _
      obtain ⟨r7, hr7, h⟩ := R.bind_inv h
      refine sw_seq (sw_forX (ra := (d2 dQ dQ)) (js := [1]) _ (fun (z : Unit) => [.dat ((dL (d2 dQ dQ)) found1), .un]) (fun b _ v => v = .dat (dB b)) (fun _ _ _ => False) _ (iv_list (ev_var rfl)) hr7 (.eq (.un .nil)) (fun x2 s3 r1 _ h => ⟨_, (gt_name 1 _ _), ?_⟩) (fun s8 e => ?_) (fun b9 e => ?_))
      · show SW K _ _ [.dat ((dL (d2 dQ dQ)) found1), .dat ((d2 dQ dQ) x2)] _ _ _
        refine sw_seq (sw_if (et_or (et_not (et_b (ev_isi (r := true) (ev_var rfl) rfl (by decide +kernel)))) (fun hc => (et_test (ev_neI (ev_lenW (n := 2) rfl (ev_var rfl)) (ev_c _))))) (fun hc => ?_) (fun hc => ?_))
        · have h := if_t hc h
          exact sw_ret (ev_c _) ⟨_, (R.ok_inj h).symm, rfl⟩
        · have h := if_f hc h
          refine sw_next ?_
          show SW K _ _ [.dat ((dL (d2 dQ dQ)) found1), .dat ((d2 dQ dQ) x2)] _ _ _
          obtain ⟨i4, hi4, h⟩ := R.bind_inv h
          obtain ⟨b6, hb6, h⟩ := R.bind_inv h
          refine sw_if (et_orR hb6 (et_not (et_b (ev_call (x := (x2.1, x2.1)) hi4 (ea_cons (ev_ixT (k := 0) (ev_var rfl) (ev_c _) (by rfl) rfl) (ea_cons (ev_ixT (k := 0) (ev_var rfl) (ev_c _) (by rfl) rfl) ea_nil))))) (fun hc h => by obtain ⟨i5, hi5, h⟩ := R.bind_inv h; exact et_cast h (et_not (et_b (ev_call (x := (x2.2, x2.2)) hi5 (ea_cons (ev_ixT (k := 1) (ev_var rfl) (ev_c _) (by rfl) rfl) (ea_cons (ev_ixT (k := 1) (ev_var rfl) (ev_c _) (by rfl) rfl) ea_nil))))))) (fun hc => ?_) (fun hc => ?_)
          · have h := if_t hc h
            exact sw_ret (ev_c _) ⟨_, (R.ok_inj h).symm, rfl⟩
          · have h := if_f hc h
            refine sw_next ?_
            exact ⟨_, (R.ok_inj h).symm, .eq (.un .nil)⟩
      · subst e
        have h := R.case_l h
        show SW K _ _ [.dat ((dL (d2 dQ dQ)) found1), .un] _ _ _
        exact sw_ret (ev_cast (r := dB) h (ev_c _)) rfl
      · subst e
        have h := R.case_r h
        obtain rfl := R.ok_inj h; exact ⟨fun _ _ z => z, fun _ _ z => z.elim⟩
abbrev s__law_met : Stmt := topS 33
abbrev n__law_met : List Str := ["_law_one", "_law_other", "_law_height", "_law_after", "_law_share", "_law_come", "_law_k"]
theorem sc__law_met : FnScope n__law_met ["_law_one", "_law_other", "_law_height", "_law_after"] (defScope s__law_met) := ⟨rfl, rfl, rfl, by decide +kernel, rfl, by decide +kernel, by decide +kernel⟩
abbrev sp__law_met (K : PySem.W.Frag) : Sp := spR K (fun (x : (Rat × Rat) × (Rat × Rat) × Rat × Rat) => [(d2 dQ dQ) x.1, (d2 dQ dQ) x.2.1, dQ x.2.2.1, dQ x.2.2.2]) (fun (x : (Rat × Rat) × (Rat × Rat) × Rat × Rat) => l_met x.1 x.2.1 x.2.2.1 x.2.2.2) (d2 dQ dQ)
set_option maxHeartbeats 4000000 in
theorem ok__law_met {f : Addr} {fd : FuncData} (F : FnP K "_law_met" s__law_met f fd) {f__law_minus : Addr} {fd__law_minus : FuncData} (F__law_minus : FnP K "_law_minus" s__law_minus f__law_minus fd__law_minus) (b__law_minus : Binds K fd__law_minus ["_law_one", "_law_other"] []) (g__law_minus : mg "_law_minus" = some (.ref f__law_minus)) {f__law_plus : Addr} {fd__law_plus : FuncData} (F__law_plus : FnP K "_law_plus" s__law_plus f__law_plus fd__law_plus) (b__law_plus : Binds K fd__law_plus ["_law_one", "_law_other"] []) (g__law_plus : mg "_law_plus" = some (.ref f__law_plus)) {f__law_ratio : Addr} {fd__law_ratio : FuncData} (F__law_ratio : FnP K "_law_ratio" s__law_ratio f__law_ratio fd__law_ratio) (b__law_ratio : Binds K fd__law_ratio ["_law_top", "_law_bottom"] []) (g__law_ratio : mg "_law_ratio" = some (.ref f__law_ratio)) {f__law_times : Addr} {fd__law_times : FuncData} (F__law_times : FnP K "_law_times" s__law_times f__law_times fd__law_times) (b__law_times : Binds K fd__law_times ["_law_one", "_law_other"] []) (g__law_times : mg "_law_times" = some (.ref f__law_times)) (G__law_minus : FnOk P w K mg base CX0 42 f__law_minus fd__law_minus ["_law_one", "_law_other"] (sp__law_minus K)) (G__law_plus : FnOk P w K mg base CX0 42 f__law_plus fd__law_plus ["_law_one", "_law_other"] (sp__law_plus K)) (G__law_ratio : FnOk P w K mg base CX0 41 f__law_ratio fd__law_ratio ["_law_top", "_law_bottom"] (sp__law_ratio K)) (G__law_times : FnOk P w K mg base CX0 42 f__law_times fd__law_times ["_law_one", "_law_other"] (sp__law_times K)) (z_range : mg "range" = none) (z_tuple : mg "tuple" = none) : FnOk P w K mg base CX0 43 f fd ["_law_one", "_law_other", "_law_height", "_law_after"] (sp__law_met K) := by
  refine F.ok sc__law_met (fun vs H Q E h => ?_) (fun cdv A outer s H vs Q E hr h => ?_)
  · obtain ⟨x, _, _, _, _, d, _⟩ := h
    exact d.length
  · skip
    refine ⟨_, PSs.nox (pss_cons (ps_set (i := 4) sc__law_met.nd rfl (Or.inl rfl) (pe_call G__law_minus (hr.mono (by decide)) (by rfl) g__law_minus F__law_minus.kp b__law_minus .nil pass0 (pa_cons (pv 2) (pa_cons (pv 3) pa_nil)))) (pss_cons (ps_set (i := 4) sc__law_met.nd rfl (Or.inl rfl) (pe_call G__law_ratio (hr.mono (by decide)) (by rfl) g__law_ratio F__law_ratio.kp b__law_ratio .nil pass0 (pa_cons (pe_op op_mulP (pe_ix (r := rIxT K) ix_tup (pv 2) pe_int (fun _ _ => rfl)) (pe_ix (r := rIxT K) ix_tup (pv 4) pe_int (fun _ _ => rfl))) (pa_cons (pe_op op_mulP (pe_ix (r := rIxT K) ix_tup (pv 2) pe_int (fun _ _ => rfl)) (pe_ix (r := rIxT K) ix_tup (pv 4) pe_int (fun _ _ => rfl))) pa_nil)))) (pss_cons (ps_set (i := 5) sc__law_met.nd rfl (Or.inl rfl) (pe_lst pa_nil)) (pss_cons (ps_for PassesOwn.never rfl (pi_range1 (by rfl) z_range (pa_cons pe_int pa_nil)) (pg_name (i := 6) sc__law_met.nd rfl (Or.inl rfl)) (pss_one (ps_expr (pe_bm PySem.F.plainAttrs_list PySem.F.slot_list_append PySem.F.type_list_append mt_append (pv 5) (pa_cons (pe_call G__law_plus (hr.mono (by decide)) (by rfl) g__law_plus F__law_plus.kp b__law_plus .nil pass0 (pa_cons (pe_ix (r := rIxT K) ix_tup (pv 0) (pv 6) (fun _ _ => rfl)) (pa_cons (pe_call G__law_times (hr.mono (by decide)) (by rfl) g__law_times F__law_times.kp b__law_times .nil pass0 (pa_cons (pv 4) (pa_cons (pe_call G__law_minus (hr.mono (by decide)) (by rfl) g__law_minus F__law_minus.kp b__law_minus .nil pass0 (pa_cons (pe_ix (r := rIxT K) ix_tup (pv 1) (pv 6) (fun _ _ => rfl)) (pa_cons (pe_ix (r := rIxT K) ix_tup (pv 0) (pv 6) (fun _ _ => rfl)) pa_nil))) pa_nil))) pa_nil))) pa_nil))))) (pss_one (ps_ret (pe_callTy (T := "tuple") (r := rTupP K) cl_tuple (by rfl) z_tuple (by decide +kernel) (pa_cons (pv 5) pa_nil)))))))), ?_⟩
    refine spR_run (n := 4) (k := 3) rfl (fun _ => rfl) (fun x b h => ?_) h
    obtain ⟨one1, other2, height3, after4⟩ := x
    show SW K _ _ [.dat ((d2 dQ dQ) one1), .dat ((d2 dQ dQ) other2), .dat (dQ height3), .dat (dQ after4), .un, .un, .un] _ _ _
    have h : l_met one1 other2 height3 after4 = R.ok b := h
    unfold l_met at h
    obtain ⟨m5, hm5, h⟩ := R.bind_inv h
    obtain ⟨share6, hshare6, h⟩ := R.bind_inv h
    refine sw_seq (sw_set (ev_cast (r := dQ) hshare6 (ev_call (x := (height3, after4)) hm5 (ea_cons (ev_var rfl) (ea_cons (ev_var rfl) ea_nil)))) ?_)
    show SW K _ _ [.dat ((d2 dQ dQ) one1), .dat ((d2 dQ dQ) other2), .dat (dQ height3), .dat (dQ after4), .dat (dQ share6), .un, .un] _ _ _
    obtain ⟨p7, hp7, h⟩ := R.bind_inv h
    obtain ⟨p8, hp8, h⟩ := R.bind_inv h
    obtain ⟨r9, hr9, h⟩ := R.bind_inv h
    obtain ⟨share10, hshare10, h⟩ := R.bind_inv h
    refine sw_seq (sw_set (ev_cast (r := dQ) hshare10 (ev_call (x := (p7, p8)) hr9 (ea_cons (ev_mul hp7 (ev_ixT (k := 0) (ev_var rfl) (ev_c _) (by rfl) rfl) (ev_ixT (k := 1) (ev_var rfl) (ev_c _) (by rfl) rfl)) (ea_cons (ev_mul hp8 (ev_ixT (k := 1) (ev_var rfl) (ev_c _) (by rfl) rfl) (ev_ixT (k := 0) (ev_var rfl) (ev_c _) (by rfl) rfl)) ea_nil)))) ?_)
    show SW K _ _ [.dat ((d2 dQ dQ) one1), .dat ((d2 dQ dQ) other2), .dat (dQ height3), .dat (dQ after4), .dat (dQ share10), .un, .un] _ _ _
    obtain ⟨come11, hcome11, h⟩ := R.bind_inv h
    refine sw_seq (sw_own (en_cast (r := dQ) hcome11 (en_lst ea_nil)) (Nat.le_of_ble_eq_true rfl) ?_)
    show SW K _ _ [.dat ((d2 dQ dQ) one1), .dat ((d2 dQ dQ) other2), .dat (dQ height3), .dat (dQ after4), .dat (dQ share10), .ownN none (come11.map dQ), .un] _ _ _
    obtain ⟨r12, hr12, h⟩ := R.bind_inv h
    obtain ⟨s22, hs22, h⟩ := R.bind_inv h
    refine sw_seq (sw_forR (ra := dI) (js := [6]) _ (fun (z : (List Rat)) => [.dat ((d2 dQ dQ) one1), .dat ((d2 dQ dQ) other2), .dat (dQ height3), .dat (dQ after4), .dat (dQ share10), .ownN none (z.map dQ), .un]) _ (iv_rng1 hr12 (ev_c _)) hs22 (.eq (.eq (.eq (.eq (.eq (.eq (.un .nil))))))) (fun x13 s14 s' _ h => ⟨_, (gt_name 6 _ _), ?_⟩) ?_)
    · show SW K _ _ [.dat ((d2 dQ dQ) one1), .dat ((d2 dQ dQ) other2), .dat (dQ height3), .dat (dQ after4), .dat (dQ share10), .ownN none (s14.map dQ), .dat (dI x13)] _ _ _
      obtain ⟨it15, hit15, h⟩ := R.bind_inv h
      obtain ⟨it16, hit16, h⟩ := R.bind_inv h
      obtain ⟨it17, hit17, h⟩ := R.bind_inv h
      obtain ⟨m18, hm18, h⟩ := R.bind_inv h
      obtain ⟨t19, ht19, h⟩ := R.bind_inv h
      obtain ⟨p20, hp20, h⟩ := R.bind_inv h
      obtain ⟨come21, hcome21, h⟩ := R.bind_inv h
      refine sw_app (r := dQ) hcome21 rfl (ev_call (x := (it15, t19)) hp20 (ea_cons (ev_atT (r := dQ) (xs := [one1.1, one1.2]) hit15 (ev_var rfl) (ev_var rfl)) (ea_cons (ev_call (x := (share10, m18)) ht19 (ea_cons (ev_var rfl) (ea_cons (ev_call (x := (it16, it17)) hm18 (ea_cons (ev_atT (r := dQ) (xs := [other2.1, other2.2]) hit16 (ev_var rfl) (ev_var rfl)) (ea_cons (ev_atT (r := dQ) (xs := [one1.1, one1.2]) hit17 (ev_var rfl) (ev_var rfl)) ea_nil))) ea_nil))) ea_nil))) ?_
      obtain rfl := R.ok_inj h
      exact .eq (.eq (.eq (.eq (.eq (.eq (.un .nil))))))
    show SW K _ _ [.dat ((d2 dQ dQ) one1), .dat ((d2 dQ dQ) other2), .dat (dQ height3), .dat (dQ after4), .dat (dQ share10), .ownN none (s22.map dQ), .un] _ _ _
    refine sw_frz (i := 5) rfl ?_
    show SW K _ _ [.dat ((d2 dQ dQ) one1), .dat ((d2 dQ dQ) other2), .dat (dQ height3), .dat (dQ after4), .dat (dQ share10), .dat ((dL dQ) s22), .un] _ _ _
    obtain ⟨t23, ht23, h⟩ := R.bind_inv h
    exact sw_ret (ev_cast (r := (d2 dQ dQ)) h (ev_tup2 ht23 (ev_tuple (ev_var rfl)))) rfl
abbrev s__law_due : Stmt := topS 34
abbrev n__law_due : List Str := ["_law_ring_here", "_law_line_here", "_law_heights", "_law_due_here", "_law_k", "_law_after", "_law_point"]
theorem sc__law_due : FnScope n__law_due ["_law_ring_here", "_law_line_here"] (defScope s__law_due) := ⟨rfl, rfl, rfl, by decide +kernel, rfl, by decide +kernel, by decide +kernel⟩
abbrev sp__law_due (K : PySem.W.Frag) : Sp := spN K (fun (x : (List (Rat × Rat)) × (Rat × Rat × Rat)) => [(dL (d2 dQ dQ)) x.1, (d3 dQ dQ dQ) x.2]) (fun (x : (List (Rat × Rat)) × (Rat × Rat × Rat)) => l_due_4 x.1 x.2) (d2 dQ dQ)
set_option maxHeartbeats 4000000 in
theorem ok__law_due {f : Addr} {fd : FuncData} (F : FnP K "_law_due" s__law_due f fd) {f__law_met : Addr} {fd__law_met : FuncData} (F__law_met : FnP K "_law_met" s__law_met f__law_met fd__law_met) (b__law_met : Binds K fd__law_met ["_law_one", "_law_other", "_law_height", "_law_after"] []) (g__law_met : mg "_law_met" = some (.ref f__law_met)) {f__law_over : Addr} {fd__law_over : FuncData} (F__law_over : FnP K "_law_over" s__law_over f__law_over fd__law_over) (b__law_over : Binds K fd__law_over ["_law_line_here", "_law_point"] []) (g__law_over : mg "_law_over" = some (.ref f__law_over)) (G__law_met : FnOk P w K mg base CX0 43 f__law_met fd__law_met ["_law_one", "_law_other", "_law_height", "_law_after"] (sp__law_met K)) (G__law_over : FnOk P w K mg base CX0 43 f__law_over fd__law_over ["_law_line_here", "_law_point"] (sp__law_over K)) (z_len : mg "len" = none) (z_range : mg "range" = none) : FnOk P w K mg base CX0 44 f fd ["_law_ring_here", "_law_line_here"] (sp__law_due K) := by
  refine F.ok sc__law_due (fun vs H Q E h => ?_) (fun cdv A outer s H vs Q E hr h => ?_)
  · obtain ⟨x, _, _, _, _, d, _⟩ := h
    exact d.length
  · skip
    refine ⟨_, PSs.nox (pss_cons (ps_setLc (i := 2) (own := [("_law_point", 6)]) (by rfl) sc__law_due.nd rfl rfl (sw_true rfl rfl rfl (by decide +kernel)) (show PI _ _ _ (iList K _) from pi_list (pv 0)) (blkOk_by (own := [("_law_point", 6)]) (N := n__law_due) (sc := defScope s__law_due) (by decide +kernel)) (fun _ _ _ _ _ => (pg_name (i := 6) sc__law_due.nd rfl (Or.inl rfl))) (fun _ _ _ _ _ => pts_nil) (fun _ _ _ _ _ => (pe_call G__law_over (hr.mono (by decide)) (by rfl) g__law_over F__law_over.kp b__law_over .nil pass0 (pa_cons (pv 1) (pa_cons (pv 6) pa_nil))))) (pss_cons (ps_set (i := 3) sc__law_due.nd rfl (Or.inl rfl) (pe_lst pa_nil)) (pss_cons (ps_for PassesOwn.never rfl (pi_range1 (by rfl) z_range (pa_cons (pe_callB (id := "len") (r := rLenP K) cl_len (by rfl) z_len (by decide +kernel) (pa_cons (pv 0) pa_nil)) pa_nil)) (pg_name (i := 4) sc__law_due.nd rfl (Or.inl rfl)) (pss_cons (ps_set (i := 5) sc__law_due.nd rfl (Or.inl rfl) (pe_ix (r := rIxL K) ix_list (pv 2) (pe_op op_modN (pe_op op_add (pv 4) pe_int) (pe_callB (id := "len") (r := rLenP K) cl_len (by rfl) z_len (by decide +kernel) (pa_cons (pv 0) pa_nil))) (fun _ _ => rfl))) (pss_cons (ps_if (pt_cmpR op_le (pe_ix (r := rIxT K) ix_tup (pe_ix (r := rIxL K) ix_list (pv 2) (pv 4) (fun _ _ => rfl)) pe_int (fun _ _ => rfl)) pe_int (nomark _)) (pss_one (ps_expr (pe_bm PySem.F.plainAttrs_list PySem.F.slot_list_append PySem.F.type_list_append mt_append (pv 3) (pa_cons (pe_ix (r := rIxL K) ix_list (pv 0) (pv 4) (fun _ _ => rfl)) pa_nil)))) pss_nil) (pss_one (ps_if (pt_cmpR op_lt (pe_op op_mulP (pe_ix (r := rIxT K) ix_tup (pe_ix (r := rIxL K) ix_list (pv 2) (pv 4) (fun _ _ => rfl)) pe_int (fun _ _ => rfl)) (pe_ix (r := rIxT K) ix_tup (pv 5) pe_int (fun _ _ => rfl))) pe_int (nomark _)) (pss_one (ps_expr (pe_bm PySem.F.plainAttrs_list PySem.F.slot_list_append PySem.F.type_list_append mt_append (pv 3) (pa_cons (pe_call G__law_met (hr.mono (by decide)) (by rfl) g__law_met F__law_met.kp b__law_met .nil pass0 (pa_cons (pe_ix (r := rIxL K) ix_list (pv 0) (pv 4) (fun _ _ => rfl)) (pa_cons (pe_ix (r := rIxL K) ix_list (pv 0) (pe_op op_modN (pe_op op_add (pv 4) pe_int) (pe_callB (id := "len") (r := rLenP K) cl_len (by rfl) z_len (by decide +kernel) (pa_cons (pv 0) pa_nil))) (fun _ _ => rfl)) (pa_cons (pe_ix (r := rIxL K) ix_list (pv 2) (pv 4) (fun _ _ => rfl)) (pa_cons (pv 5) pa_nil))))) pa_nil)))) pss_nil))))) (pss_one (ps_ret (pv 3)))))), ?_⟩
    refine spN_run (n := 2) (k := 5) rfl (fun _ => rfl) (fun x b h => ?_) h
    obtain ⟨ring1, line2⟩ := x
    show SW K _ _ [.dat ((dL (d2 dQ dQ)) ring1), .dat ((d3 dQ dQ dQ) line2), .un, .un, .un, .un, .un] _ _ _
    have h : l_due_4 ring1 line2 = R.ok b := h
    unfold l_due_4 at h
    obtain ⟨c5, hc5, h⟩ := R.bind_inv h
    obtain ⟨heights6, hheights6, h⟩ := R.bind_inv h
    refine sw_seq (sw_set (ev_cast (r := (dL dQ)) hheights6 (EV.frz (en_compR (rb := dQ) (js := [6]) (iv_list (ev_var rfl)) hc5 (by rfl) (by decide) (fun x3 _ => ⟨_, (gt_name 6 _ _), fun y h => by obtain ⟨o4, ho4, h⟩ := R.bind_inv h; exact ev_cast (r := dQ) h (ev_call (x := (line2, x3)) ho4 (ea_cons (ev_var rfl) (ea_cons (ev_var rfl) ea_nil)))⟩)))) ?_)
    show SW K _ _ [.dat ((dL (d2 dQ dQ)) ring1), .dat ((d3 dQ dQ dQ) line2), .dat ((dL dQ) heights6), .un, .un, .un, .un] _ _ _
    obtain ⟨due7, hdue7, h⟩ := R.bind_inv h
    refine sw_seq (sw_own (en_cast (r := (d2 dQ dQ)) hdue7 (en_lst ea_nil)) (Nat.le_of_ble_eq_true rfl) ?_)
    show SW K _ _ [.dat ((dL (d2 dQ dQ)) ring1), .dat ((d3 dQ dQ dQ) line2), .dat ((dL dQ) heights6), .ownN none (due7.map (d2 dQ dQ)), .un, .un, .un] _ _ _
    obtain ⟨r8, hr8, h⟩ := R.bind_inv h
    obtain ⟨s26, hs26, h⟩ := R.bind_inv h
    refine sw_seq (sw_forR (ra := dI) (js := [4]) _ (fun (z : (List (Rat × Rat))) => [.dat ((dL (d2 dQ dQ)) ring1), .dat ((d3 dQ dQ dQ) line2), .dat ((dL dQ) heights6), .ownN none (z.map (d2 dQ dQ)), .un, .un, .un]) _ (iv_rng1 hr8 (ev_lenM (ev_lenL (ev_var rfl)))) hs26 (.eq (.eq (.eq (.eq (.un (.un (.un .nil))))))) (fun x9 s10 s' _ h => ⟨_, (gt_name 4 _ _), ?_⟩) ?_)
    · show SW K _ _ [.dat ((dL (d2 dQ dQ)) ring1), .dat ((d3 dQ dQ dQ) line2), .dat ((dL dQ) heights6), .ownN none (s10.map (d2 dQ dQ)), .dat (dI x9), .un, .un] _ _ _
      obtain ⟨m11, hm11, h⟩ := R.bind_inv h
      obtain ⟨it12, hit12, h⟩ := R.bind_inv h
      obtain ⟨after13, hafter13, h⟩ := R.bind_inv h
      refine sw_seq (sw_set (ev_cast (r := dQ) hafter13 (ev_atL (r := dQ) hit12 (ev_var rfl) (ev_fmod hm11 (ev_i0 (g := fun i j => .int (i + j)) (ev_var rfl) (ev_c _)) (ev_lenM (ev_lenL (ev_var rfl)))))) ?_)
      show SW K _ _ [.dat ((dL (d2 dQ dQ)) ring1), .dat ((d3 dQ dQ dQ) line2), .dat ((dL dQ) heights6), .ownN none (s10.map (d2 dQ dQ)), .dat (dI x9), .dat (dQ after13), .un] _ _ _
      obtain ⟨it14, hit14, h⟩ := R.bind_inv h
      obtain ⟨st15, hst15, h⟩ := R.bind_inv h
      refine sw_seq (sw_mono (Nx := fun e => Wk e [.dat ((dL (d2 dQ dQ)) ring1), .dat ((d3 dQ dQ dQ) line2), .dat ((dL dQ) heights6), .ownN none (st15.map (d2 dQ dQ)), .dat (dI x9), .dat (dQ after13), .un]) (sw_if (et_test (ev_i0 (g := fun i j => .bl (decide (i ≤ j))) (ev_ixT (k := 0) (ev_atL (r := dQ) hit14 (ev_var rfl) (ev_var rfl)) (ev_c _) (by rfl) rfl) (ev_c _))) (fun hc => ?_) (fun hc => ?_)) (fun e w => sw_weak w ?_))
      · have h := if_t hc hst15
        clear hst15
        obtain ⟨it16, hit16, h⟩ := R.bind_inv h
        obtain ⟨due17, hdue17, h⟩ := R.bind_inv h
        refine sw_app (r := (d2 dQ dQ)) hdue17 rfl (ev_atL (r := (d2 dQ dQ)) hit16 (ev_var rfl) (ev_var rfl)) ?_
        obtain rfl := R.ok_inj h
        exact .eq (.eq (.eq (.eq (.eq (.eq (.un .nil))))))
      · have h := if_f hc hst15
        clear hst15
        refine sw_next ?_
        obtain rfl := R.ok_inj h
        exact .eq (.eq (.eq (.eq (.eq (.eq (.un .nil))))))
      show SW K _ _ [.dat ((dL (d2 dQ dQ)) ring1), .dat ((d3 dQ dQ dQ) line2), .dat ((dL dQ) heights6), .ownN none (st15.map (d2 dQ dQ)), .dat (dI x9), .dat (dQ after13), .un] _ _ _
      obtain ⟨it18, hit18, h⟩ := R.bind_inv h
      obtain ⟨p19, hp19, h⟩ := R.bind_inv h
      refine sw_if (et_test (ev_i0 (g := fun i j => .bl (decide (i < j))) (ev_mul hp19 (ev_ixT (k := 0) (ev_atL (r := dQ) hit18 (ev_var rfl) (ev_var rfl)) (ev_c _) (by rfl) rfl) (ev_ixT (k := 0) (ev_var rfl) (ev_c _) (by rfl) rfl)) (ev_c _))) (fun hc => ?_) (fun hc => ?_)
      · have h := if_t hc h
        obtain ⟨it20, hit20, h⟩ := R.bind_inv h
        obtain ⟨m21, hm21, h⟩ := R.bind_inv h
        obtain ⟨it22, hit22, h⟩ := R.bind_inv h
        obtain ⟨it23, hit23, h⟩ := R.bind_inv h
        obtain ⟨m24, hm24, h⟩ := R.bind_inv h
        obtain ⟨due25, hdue25, h⟩ := R.bind_inv h
        refine sw_app (r := (d2 dQ dQ)) hdue25 rfl (ev_call (x := (it20, it22, it23, after13)) hm24 (ea_cons (ev_atL (r := (d2 dQ dQ)) hit20 (ev_var rfl) (ev_var rfl)) (ea_cons (ev_atL (r := (d2 dQ dQ)) hit22 (ev_var rfl) (ev_fmod hm21 (ev_i0 (g := fun i j => .int (i + j)) (ev_var rfl) (ev_c _)) (ev_lenM (ev_lenL (ev_var rfl))))) (ea_cons (ev_atL (r := dQ) hit23 (ev_var rfl) (ev_var rfl)) (ea_cons (ev_var rfl) ea_nil))))) ?_
        obtain rfl := R.ok_inj h
        exact .eq (.eq (.eq (.eq (.un (.un (.un .nil))))))
      · have h := if_f hc h
        refine sw_next ?_
        obtain rfl := R.ok_inj h
        exact .eq (.eq (.eq (.eq (.un (.un (.un .nil))))))
    show SW K _ _ [.dat ((dL (d2 dQ dQ)) ring1), .dat ((d3 dQ dQ dQ) line2), .dat ((dL dQ) heights6), .ownN none (s26.map (d2 dQ dQ)), .un, .un, .un] _ _ _
    obtain rfl := R.ok_inj h
    exact sw_retV rfl rfl
abbrev s_law : Stmt := topS 35
abbrev n_law : List Str := ["_law_script", "_law_line_here", "_law_many", "_law_ring_here", "_law_point", "_law_due_here", "_law_handed", "_law_found", "_law_back", "_law_told", "_law_both"]
theorem sc_law : FnScope n_law ["_law_script"] (defScope s_law) := ⟨rfl, rfl, rfl, by decide +kernel, rfl, by decide +kernel, by decide +kernel⟩
abbrev sp_law (K : PySem.W.Frag) : Sp := spR K (fun (x : (List Int)) => [(dL dI) x]) (fun (x : (List Int)) => k09_law x) dB
set_option maxHeartbeats 4000000 in
theorem ok_law {f : Addr} {fd : FuncData} (F : FnP K "law" s_law f fd) {f__law_cell : Addr} {fd__law_cell : FuncData} (F__law_cell : FnP K "_law_cell" s__law_cell f__law_cell fd__law_cell) (b__law_cell : Binds K fd__law_cell ["_law_script", "_law_k"] []) (g__law_cell : mg "_law_cell" = some (.ref f__law_cell)) {f__law_due : Addr} {fd__law_due : FuncData} (F__law_due : FnP K "_law_due" s__law_due f__law_due fd__law_due) (b__law_due : Binds K fd__law_due ["_law_ring_here", "_law_line_here"] []) (g__law_due : mg "_law_due" = some (.ref f__law_due)) {f__law_line : Addr} {fd__law_line : FuncData} (F__law_line : FnP K "_law_line" s__law_line f__law_line fd__law_line) (b__law_line : Binds K fd__law_line ["_law_script", "_law_at_here"] []) (g__law_line : mg "_law_line" = some (.ref f__law_line)) {f__law_over : Addr} {fd__law_over : FuncData} (F__law_over : FnP K "_law_over" s__law_over f__law_over fd__law_over) (b__law_over : Binds K fd__law_over ["_law_line_here", "_law_point"] []) (g__law_over : mg "_law_over" = some (.ref f__law_over)) {f__law_points_like : Addr} {fd__law_points_like : FuncData} (F__law_points_like : FnP K "_law_points_like" s__law_points_like f__law_points_like fd__law_points_like) (b__law_points_like : Binds K fd__law_points_like ["_law_found"] []) (g__law_points_like : mg "_law_points_like" = some (.ref f__law_points_like)) {f__law_ring : Addr} {fd__law_ring : FuncData} (F__law_ring : FnP K "_law_ring" s__law_ring f__law_ring fd__law_ring) (b__law_ring : Binds K fd__law_ring ["_law_script", "_law_at_here", "_law_many"] []) (g__law_ring : mg "_law_ring" = some (.ref f__law_ring)) {f_cut : Addr} {fd_cut : FuncData} (F_cut : FnP K "cut" s_cut f_cut fd_cut) (b_cut : Binds K fd_cut ["ring", "line"] []) (g_cut : mg "cut" = some (.ref f_cut)) {f_cut_shape : Addr} {fd_cut_shape : FuncData} (F_cut_shape : FnP K "cut_shape" s_cut_shape f_cut_shape fd_cut_shape) (b_cut_shape : Binds K fd_cut_shape ["shape", "line"] []) (g_cut_shape : mg "cut_shape" = some (.ref f_cut_shape)) (G__law_cell : FnOk P w K mg base CX0 41 f__law_cell fd__law_cell ["_law_script", "_law_k"] (sp__law_cell K)) (G__law_due : FnOk P w K mg base CX0 44 f__law_due fd__law_due ["_law_ring_here", "_law_line_here"] (sp__law_due K)) (G__law_line : FnOk P w K mg base CX0 43 f__law_line fd__law_line ["_law_script", "_law_at_here"] (sp__law_line K)) (G__law_over : FnOk P w K mg base CX0 43 f__law_over fd__law_over ["_law_line_here", "_law_point"] (sp__law_over K)) (G__law_points_like : FnOk P w K mg base CX0 43 f__law_points_like fd__law_points_like ["_law_found"] (sp__law_points_like K)) (G__law_ring : FnOk P w K mg base CX0 44 f__law_ring fd__law_ring ["_law_script", "_law_at_here", "_law_many"] (sp__law_ring K)) (G_cut : FnOk P w K mg base CX0 45 f_cut fd_cut ["ring", "line"] (sp_cut K)) (G_cut_shape : FnOk P w K mg base CX0 46 f_cut_shape fd_cut_shape ["shape", "line"] (sp_cut_shape K)) (z_isinstance : mg "isinstance" = none) (z_list : mg "list" = none) (z_reversed : mg "reversed" = none) (hS : base.NoSeer) (hT : P.given.tree = none) : FnOk P w K mg base CX0 47 f fd ["_law_script"] (sp_law K) := by
  refine F.ok sc_law (fun vs H Q E h => ?_) (fun cdv A outer s H vs Q E hr h => ?_)
  · obtain ⟨x, _, _, _, _, d, _⟩ := h
    exact d.length
  · have hp := pyRm (qual := "law") (sc := defScope s_law) (n := s.heap.objs.size) (f := f) (cd := cdv) (outer := outer) hS hT hr (by decide) rfl rfl
    refine ⟨_, PSs.nox (pss_cons (ps_set (i := 1) sc_law.nd rfl (Or.inl rfl) (pe_call G__law_line (hr.mono (by decide)) (by rfl) g__law_line F__law_line.kp b__law_line .nil pass0 (pa_cons (pv 0) (pa_cons pe_int pa_nil)))) (pss_cons (ps_set (i := 2) sc_law.nd rfl (Or.inl rfl) (pe_op op_modN (pe_call G__law_cell (hr.mono (by decide)) (by rfl) g__law_cell F__law_cell.kp b__law_cell .nil pass0 (pa_cons (pv 0) (pa_cons pe_int pa_nil))) pe_int)) (pss_cons (ps_if (pt_cmpR op_eq (pe_op op_modN (pe_op (op_fdivP hp) (pe_call G__law_cell (hr.mono (by decide)) (by rfl) g__law_cell F__law_cell.kp b__law_cell .nil pass0 (pa_cons (pv 0) (pa_cons pe_int pa_nil))) pe_int) pe_int) pe_int (nomark _)) (pss_one (ps_set (i := 2) sc_law.nd rfl (Or.inl rfl) (pe_op op_add pe_int (pe_op op_modN (pe_op (op_fdivP hp) (pe_call G__law_cell (hr.mono (by decide)) (by rfl) g__law_cell F__law_cell.kp b__law_cell .nil pass0 (pa_cons (pv 0) (pa_cons pe_int pa_nil))) pe_int) pe_int)))) pss_nil) (pss_cons (ps_set (i := 3) sc_law.nd rfl (Or.inl rfl) (pe_call G__law_ring (hr.mono (by decide)) (by rfl) g__law_ring F__law_ring.kp b__law_ring .nil pass0 (pa_cons (pv 0) (pa_cons pe_int (pa_cons (pv 2) pa_nil))))) (pss_cons (ps_if (PW.pt (pw_and (pt_cmpR op_gt (pv 2) pe_int (nomark _)) (pw_and1 (pt_cmpR op_eq (pe_op op_modN (pe_call G__law_cell (hr.mono (by decide)) (by rfl) g__law_cell F__law_cell.kp b__law_cell .nil pass0 (pa_cons (pv 0) (pa_cons pe_int pa_nil))) pe_int) pe_int (nomark _))))) (pss_cons (ps_set (i := 4) sc_law.nd rfl (Or.inl rfl) (pe_ix (r := rIxL K) ix_list (pv 3) (pe_op op_modN (pe_op (op_fdivP hp) (pe_call G__law_cell (hr.mono (by decide)) (by rfl) g__law_cell F__law_cell.kp b__law_cell .nil pass0 (pa_cons (pv 0) (pa_cons pe_int pa_nil))) pe_int) (pv 2)) (fun _ _ => rfl))) (pss_one (ps_set (i := 1) sc_law.nd rfl (Or.inl rfl) (pe_tup (pa_cons (pe_ix (r := rIxT K) ix_tup (pv 1) pe_int (fun _ _ => rfl)) (pa_cons (pe_ix (r := rIxT K) ix_tup (pv 1) pe_int (fun _ _ => rfl)) (pa_cons (pe_call G__law_over (hr.mono (by decide)) (by rfl) g__law_over F__law_over.kp b__law_over .nil pass0 (pa_cons (pe_tup (pa_cons (pe_ix (r := rIxT K) ix_tup (pv 1) pe_int (fun _ _ => rfl)) (pa_cons (pe_ix (r := rIxT K) ix_tup (pv 1) pe_int (fun _ _ => rfl)) (pa_cons (pe_tup (pa_cons pe_int (pa_cons pe_int pa_nil))) pa_nil)))) (pa_cons (pv 4) pa_nil))) pa_nil))))))) pss_nil) (pss_cons (ps_set (i := 5) sc_law.nd rfl (Or.inl rfl) (pe_call G__law_due (hr.mono (by decide)) (by rfl) g__law_due F__law_due.kp b__law_due .nil pass0 (pa_cons (pv 3) (pa_cons (pv 1) pa_nil)))) (pss_cons (ps_set (i := 6) sc_law.nd rfl (Or.inl rfl) (pe_callTy (T := "list") (r := rListP K) cl_list (by rfl) z_list (by decide +kernel) (pa_cons (pv 3) pa_nil))) (pss_cons (ps_set (i := 7) sc_law.nd rfl (Or.inl rfl) (pe_call G_cut (hr.mono (by decide)) (by rfl) g_cut F_cut.kp b_cut .nil pass0 (pa_cons (pv 6) (pa_cons (pv 1) pa_nil)))) (pss_cons (ps_if (PW.pt (pw_or (pt_not (pt_val (pe_call G__law_points_like (hr.mono (by decide)) (by rfl) g__law_points_like F__law_points_like.kp b__law_points_like .nil pass0 (pa_cons (pv 7) pa_nil)))) (pw_or (pt_cmpR (r := rNeD K) (op_neD hr.units) (pv 7) (pv 5) (nomark _)) (pw_or1 (pt_cmpR (r := rNeD K) (op_neD hr.units) (pv 6) (pv 3) (nomark _)))))) (pss_one (ps_ret pe_bl)) pss_nil) (pss_cons (ps_expr (pe_bm PySem.F.plainAttrs_list PySem.F.slot_list_append PySem.F.type_list_append mt_append (pv 7) (pa_cons (pe_tup (pa_cons (pe_tup (pa_cons pe_int (pa_cons pe_int pa_nil))) (pa_cons (pe_tup (pa_cons pe_int (pa_cons pe_int pa_nil))) pa_nil))) pa_nil))) (pss_cons (ps_set (i := 8) sc_law.nd rfl (Or.inl rfl) (show PE _ _ (tListRev K _) from pe_listRev rfl (by rfl) z_list (by rfl) z_reversed (pv 3))) (pss_cons (ps_set (i := 9) sc_law.nd rfl (Or.inl rfl) (pe_call G_cut_shape (hr.mono (by decide)) (by rfl) g_cut_shape F_cut_shape.kp b_cut_shape .nil pass0 (pa_cons (pe_lst (pa_cons (pv 6) (pa_cons (pe_lst pa_nil) (pa_cons (pv 8) pa_nil)))) (pa_cons (pv 1) pa_nil)))) (pss_cons (ps_if (PW.pt (pw_or (pt_not (pt_val (pe_callB (id := "isinstance") (r := rIsi K) call_isi (by rfl) z_isinstance (by decide +kernel) (pa_cons (pv 9) (pa_cons (pe_bltn (v := .ty "list") (u := .type "list") (by rfl) z_list (by decide +kernel) rfl) pa_nil))))) (pw_or (pt_cmpR (r := rNeD K) (op_neD hr.units) (pv 9) (pe_lst (pa_cons (pv 5) (pa_cons (pe_lst pa_nil) (pa_cons (pe_call G__law_due (hr.mono (by decide)) (by rfl) g__law_due F__law_due.kp b__law_due .nil pass0 (pa_cons (pv 8) (pa_cons (pv 1) pa_nil))) pa_nil)))) (nomark _)) (pw_or1 (pt_cmpR (r := rNeD K) (op_neD hr.units) (pv 6) (pv 3) (nomark _)))))) (pss_one (ps_ret pe_bl)) pss_nil) (pss_cons (ps_expr (pe_bm PySem.F.plainAttrs_list PySem.F.slot_list_append PySem.F.type_list_append mt_append (pe_ix (r := rIxL K) ix_list (pv 9) pe_int (fun _ _ => rfl)) (pa_cons pe_non pa_nil))) (pss_cons (ps_expr (pe_bm0 PySem.F.plainAttrs_list PySem.F.slot_list_pop PySem.F.type_list_pop mt_pop (pv 9))) (pss_cons (ps_set (i := 10) sc_law.nd rfl (Or.inl rfl) (pe_call G_cut_shape (hr.mono (by decide)) (by rfl) g_cut_shape F_cut_shape.kp b_cut_shape .nil pass0 (pa_cons (pe_lst (pa_cons (pv 6) (pa_cons (pv 6) pa_nil))) (pa_cons (pv 1) pa_nil)))) (pss_cons (ps_if (pt_cmpR (r := rNeD K) (op_neD hr.units) (pv 10) (pe_lst (pa_cons (pv 5) (pa_cons (pv 5) pa_nil))) (nomark _)) (pss_one (ps_ret pe_bl)) pss_nil) (pss_cons (ps_expr (pe_bm PySem.F.plainAttrs_list PySem.F.slot_list_append PySem.F.type_list_append mt_append (pe_ix (r := rIxL K) ix_list (pv 10) pe_int (fun _ _ => rfl)) (pa_cons pe_non pa_nil))) (pss_one (ps_ret (pe_and (pe_cmpR (r := rEqD K) (op_eqD hr.units) (pe_ix (r := rIxL K) ix_list (pv 10) pe_int (fun _ _ => rfl)) (pv 5) (nomark _)) (pe_and (pe_cmpR (r := rEqD K) (op_eqD hr.units) (pe_call G_cut (hr.mono (by decide)) (by rfl) g_cut F_cut.kp b_cut .nil pass0 (pa_cons (pv 6) (pa_cons (pv 1) pa_nil))) (pv 5) (nomark _)) (pe_one (pe_cmpR (r := rEqD K) (op_eqD hr.units) (pe_call G_cut_shape (hr.mono (by decide)) (by rfl) g_cut_shape F_cut_shape.kp b_cut_shape .nil pass0 (pa_cons (pe_lst (pa_cons (pv 6) pa_nil)) (pa_cons (pv 1) pa_nil))) (pe_lst (pa_cons (pv 5) pa_nil)) (nomark _))))))))))))))))))))))))), ?_⟩
    refine spR_run (n := 1) (k := 10) rfl (fun _ => rfl) (fun x b h => ?_) h
    generalize x = script1 at h ⊢
    show SW K _ _ [.dat ((dL dI) script1), .un, .un, .un, .un, .un, .un, .un, .un, .un, .un] _ _ _
    have h : k09_law script1 = R.ok b := h
    unfold k09_law at h
    obtain ⟨l2, hl2, h⟩ := R.bind_inv h
    obtain ⟨line3, hline3, h⟩ := R.bind_inv h
    refine sw_seq (sw_set (ev_cast (r := (d3 dQ dQ dQ)) hline3 (ev_call (x := (script1, (0 : Int))) hl2 (ea_cons (ev_var rfl) (ea_cons (ev_c _) ea_nil)))) ?_)
    show SW K _ _ [.dat ((dL dI) script1), .dat ((d3 dQ dQ dQ) line3), .un, .un, .un, .un, .un, .un, .un, .un, .un] _ _ _
    obtain ⟨c4, hc4, h⟩ := R.bind_inv h
    obtain ⟨many5, hmany5, h⟩ := R.bind_inv h
    refine sw_seq (sw_set (ev_cast (r := dI) hmany5 (ev_modP (by decide +kernel) (ev_call (x := (script1, (3 : Int))) hc4 (ea_cons (ev_var rfl) (ea_cons (ev_c _) ea_nil))) (ev_c _))) ?_)
    show SW K _ _ [.dat ((dL dI) script1), .dat ((d3 dQ dQ dQ) line3), .dat (dI many5), .un, .un, .un, .un, .un, .un, .un, .un] _ _ _
    obtain ⟨c6, hc6, h⟩ := R.bind_inv h
    obtain ⟨st7, hst7, h⟩ := R.bind_inv h
    refine sw_seq (sw_mono (Nx := fun e => Wk e [.dat ((dL dI) script1), .dat ((d3 dQ dQ dQ) line3), .dat (dI st7), .un, .un, .un, .un, .un, .un, .un, .un]) (sw_if (et_test (ev_eqI (ev_modP (by decide +kernel) (ev_divP (by decide +kernel) (ev_call (x := (script1, (3 : Int))) hc6 (ea_cons (ev_var rfl) (ea_cons (ev_c _) ea_nil))) (ev_c _)) (ev_c _)) (ev_c _))) (fun hc => ?_) (fun hc => ?_)) (fun e w => sw_weak w ?_))
    · have h := if_t hc hst7
      clear hst7
      obtain ⟨c8, hc8, h⟩ := R.bind_inv h
      obtain ⟨many9, hmany9, h⟩ := R.bind_inv h
      refine sw_set (ev_cast (r := dI) hmany9 (ev_i0 (g := fun i j => .int (i + j)) (ev_c _) (ev_modP (by decide +kernel) (ev_divP (by decide +kernel) (ev_call (x := (script1, (3 : Int))) hc8 (ea_cons (ev_var rfl) (ea_cons (ev_c _) ea_nil))) (ev_c _)) (ev_c _)))) ?_
      obtain rfl := R.ok_inj h
      exact .eq (.eq (.eq (.un (.un (.un (.un (.un (.un (.un (.un .nil))))))))))
    · have h := if_f hc hst7
      clear hst7
      refine sw_next ?_
      obtain rfl := R.ok_inj h
      exact .eq (.eq (.eq (.un (.un (.un (.un (.un (.un (.un (.un .nil))))))))))
    show SW K _ _ [.dat ((dL dI) script1), .dat ((d3 dQ dQ dQ) line3), .dat (dI st7), .un, .un, .un, .un, .un, .un, .un, .un] _ _ _
    obtain ⟨r10, hr10, h⟩ := R.bind_inv h
    obtain ⟨ring11, hring11, h⟩ := R.bind_inv h
    refine sw_seq (sw_set (ev_cast (r := (dL (d2 dQ dQ))) hring11 (EV.frz (en_call (x := (script1, (5 : Int), st7)) hr10 (ea_cons (ev_var rfl) (ea_cons (ev_c _) (ea_cons (ev_var rfl) ea_nil)))))) ?_)
    show SW K _ _ [.dat ((dL dI) script1), .dat ((d3 dQ dQ dQ) line3), .dat (dI st7), .dat ((dL (d2 dQ dQ)) ring11), .un, .un, .un, .un, .un, .un, .un] _ _ _
    obtain ⟨b13, hb13, h⟩ := R.bind_inv h
    obtain ⟨st14, hst14, h⟩ := R.bind_inv h
    refine sw_seq (sw_mono (Nx := fun e => Wk e [.dat ((dL dI) script1), .dat ((d3 dQ dQ dQ) st14), .dat (dI st7), .dat ((dL (d2 dQ dQ)) ring11), .un, .un, .un, .un, .un, .un, .un]) (sw_if (et_andR hb13 (et_test (ev_i0 (g := fun i j => .bl (decide (j < i))) (ev_var rfl) (ev_c _))) (fun hc h => by obtain ⟨c12, hc12, h⟩ := R.bind_inv h; exact et_cast h (et_test (ev_eqI (ev_modP (by decide +kernel) (ev_call (x := (script1, (4 : Int))) hc12 (ea_cons (ev_var rfl) (ea_cons (ev_c _) ea_nil))) (ev_c _)) (ev_c _))))) (fun hc => ?_) (fun hc => ?_)) (fun e w => sw_weak w ?_))
    · have h := if_t hc hst14
      clear hst14
      obtain ⟨c15, hc15, h⟩ := R.bind_inv h
      obtain ⟨m16, hm16, h⟩ := R.bind_inv h
      obtain ⟨it17, hit17, h⟩ := R.bind_inv h
      obtain ⟨point18, hpoint18, h⟩ := R.bind_inv h
      refine sw_seq (sw_set (ev_cast (r := (d2 dQ dQ)) hpoint18 (ev_atL (r := (d2 dQ dQ)) hit17 (ev_var rfl) (ev_fmod hm16 (ev_divP (by decide +kernel) (ev_call (x := (script1, (4 : Int))) hc15 (ea_cons (ev_var rfl) (ea_cons (ev_c _) ea_nil))) (ev_c _)) (ev_var rfl)))) ?_)
      show SW K _ _ [.dat ((dL dI) script1), .dat ((d3 dQ dQ dQ) line3), .dat (dI st7), .dat ((dL (d2 dQ dQ)) ring11), .dat ((d2 dQ dQ) point18), .un, .un, .un, .un, .un, .un] _ _ _
      obtain ⟨q19, hq19, h⟩ := R.bind_inv h
      obtain ⟨o20, ho20, h⟩ := R.bind_inv h
      obtain ⟨line21, hline21, h⟩ := R.bind_inv h
      refine sw_set (ev_cast (r := (d3 dQ dQ dQ)) hline21 (ev_tup (ea_cons (ev_ixT (k := 0) (ev_var rfl) (ev_c _) (by rfl) rfl) (ea_cons (ev_ixT (k := 1) (ev_var rfl) (ev_c _) (by rfl) rfl) (ea_cons (ev_call (x := ((line3.1, line3.2.1, q19), point18)) ho20 (ea_cons (ev_tup (ea_cons (ev_ixT (k := 0) (ev_var rfl) (ev_c _) (by rfl) rfl) (ea_cons (ev_ixT (k := 1) (ev_var rfl) (ev_c _) (by rfl) rfl) (ea_cons (ev_mkQ hq19 (ev_c _) (ev_c _)) ea_nil)))) (ea_cons (ev_var rfl) ea_nil))) ea_nil))))) ?_
      obtain rfl := R.ok_inj h
      exact .eq (.eq (.eq (.eq (.un (.un (.un (.un (.un (.un (.un .nil))))))))))
    · have h := if_f hc hst14
      clear hst14
      refine sw_next ?_
      obtain rfl := R.ok_inj h
      exact .eq (.eq (.eq (.eq (.un (.un (.un (.un (.un (.un (.un .nil))))))))))
    show SW K _ _ [.dat ((dL dI) script1), .dat ((d3 dQ dQ dQ) st14), .dat (dI st7), .dat ((dL (d2 dQ dQ)) ring11), .un, .un, .un, .un, .un, .un, .un] _ _ _
    obtain ⟨d22, hd22, h⟩ := R.bind_inv h
    obtain ⟨due23, hdue23, h⟩ := R.bind_inv h
    refine sw_seq (sw_set (ev_cast (r := (dL (d2 dQ dQ))) hdue23 (EV.frz (en_call (x := (ring11, st14)) hd22 (ea_cons (ev_var rfl) (ea_cons (ev_var rfl) ea_nil))))) ?_)
    show SW K _ _ [.dat ((dL dI) script1), .dat ((d3 dQ dQ dQ) st14), .dat (dI st7), .dat ((dL (d2 dQ dQ)) ring11), .un, .dat ((dL (d2 dQ dQ)) due23), .un, .un, .un, .un, .un] _ _ _
    obtain ⟨handed24, hhanded24, h⟩ := R.bind_inv h
    refine sw_seq (sw_set (ev_cast (r := (dL (d2 dQ dQ))) hhanded24 (EV.frz (en_listL (ev_var rfl)))) ?_)
    show SW K _ _ [.dat ((dL dI) script1), .dat ((d3 dQ dQ dQ) st14), .dat (dI st7), .dat ((dL (d2 dQ dQ)) ring11), .un, .dat ((dL (d2 dQ dQ)) due23), .dat ((dL (d2 dQ dQ)) handed24), .un, .un, .un, .un] _ _ _
    obtain ⟨cut25, hcut25, h⟩ := R.bind_inv h
    obtain ⟨found26, hfound26, h⟩ := R.bind_inv h
    refine sw_seq (sw_own (en_cast (r := (d2 dQ dQ)) hfound26 (en_call (x := (handed24, st14)) hcut25 (ea_cons (ev_var rfl) (ea_cons (ev_var rfl) ea_nil)))) (Nat.le_of_ble_eq_true rfl) ?_)
    show SW K _ _ [.dat ((dL dI) script1), .dat ((d3 dQ dQ dQ) st14), .dat (dI st7), .dat ((dL (d2 dQ dQ)) ring11), .un, .dat ((dL (d2 dQ dQ)) due23), .dat ((dL (d2 dQ dQ)) handed24), .ownN none (found26.map (d2 dQ dQ)), .un, .un, .un] _ _ _
    obtain ⟨p27, hp27, h⟩ := R.bind_inv h
    refine sw_seq (sw_if (et_lend (n := 7) rfl (et_or (et_not (et_b (ev_call (x := found26) hp27 (ea_cons (ev_var rfl) ea_nil)))) (fun hc => (et_or (et_test (ev_neD (eqL (eq2 eqQ eqQ)) (ev_var rfl) (ev_var rfl))) (fun hc => (et_test (ev_neD (eqL (eq2 eqQ eqQ)) (ev_var rfl) (ev_var rfl)))))))) (fun hc => ?_) (fun hc => ?_))
    · have h := if_t hc h
      exact sw_ret (ev_cast (r := dB) h (ev_c _)) rfl
    · have h := if_f hc h
      refine sw_next ?_
      show SW K _ _ [.dat ((dL dI) script1), .dat ((d3 dQ dQ dQ) st14), .dat (dI st7), .dat ((dL (d2 dQ dQ)) ring11), .un, .dat ((dL (d2 dQ dQ)) due23), .dat ((dL (d2 dQ dQ)) handed24), .ownN none (found26.map (d2 dQ dQ)), .un, .un, .un] _ _ _
      obtain ⟨q28, hq28, h⟩ := R.bind_inv h
      obtain ⟨q29, hq29, h⟩ := R.bind_inv h
      obtain ⟨found30, hfound30, h⟩ := R.bind_inv h
      refine sw_seq (sw_app (r := (d2 dQ dQ)) hfound30 rfl (ev_tup (ea_cons (ev_mkQ hq28 (ev_c _) (ev_c _)) (ea_cons (ev_mkQ hq29 (ev_c _) (ev_c _)) ea_nil))) ?_)
      show SW K _ _ [.dat ((dL dI) script1), .dat ((d3 dQ dQ dQ) st14), .dat (dI st7), .dat ((dL (d2 dQ dQ)) ring11), .un, .dat ((dL (d2 dQ dQ)) due23), .dat ((dL (d2 dQ dQ)) handed24), .ownN none (found30.map (d2 dQ dQ)), .un, .un, .un] _ _ _
      obtain ⟨back31, hback31, h⟩ := R.bind_inv h
      refine sw_seq (sw_set (ev_cast (r := (dL (d2 dQ dQ))) hback31 (EV.frz (en_listRev (ev_var rfl)))) ?_)
      show SW K _ _ [.dat ((dL dI) script1), .dat ((d3 dQ dQ dQ) st14), .dat (dI st7), .dat ((dL (d2 dQ dQ)) ring11), .un, .dat ((dL (d2 dQ dQ)) due23), .dat ((dL (d2 dQ dQ)) handed24), .ownN none (found30.map (d2 dQ dQ)), .dat ((dL (d2 dQ dQ)) back31), .un, .un] _ _ _
      obtain ⟨cut_sh32, hcut_sh32, h⟩ := R.bind_inv h
      obtain ⟨told33, htold33, h⟩ := R.bind_inv h
      refine sw_seq (sw_own2 (en2_cast (r := (d2 dQ dQ)) htold33 (en_call2 (x := ([handed24, ([] : (List (Rat × Rat))), back31], st14)) hcut_sh32 (ea_cons (EV.frz (en_lst (ds := [handed24, ([] : (List (Rat × Rat))), back31].map (dL (d2 dQ dQ))) (ea_cons (ev_var rfl) (ea_cons (EV.frz (en_lst ea_nil)) (ea_cons (ev_var rfl) ea_nil))))) (ea_cons (ev_var rfl) ea_nil)))) (Nat.le_of_ble_eq_true rfl) ?_)
      show SW K _ _ [.dat ((dL dI) script1), .dat ((d3 dQ dQ dQ) st14), .dat (dI st7), .dat ((dL (d2 dQ dQ)) ring11), .un, .dat ((dL (d2 dQ dQ)) due23), .dat ((dL (d2 dQ dQ)) handed24), .ownN none (found30.map (d2 dQ dQ)), .dat ((dL (d2 dQ dQ)) back31), .own2N none (told33.map (oL (d2 dQ dQ))), .un] _ _ _
      obtain ⟨b35, hb35, h⟩ := R.bind_inv h
      refine sw_seq (sw_if (et_lend2L (n := 9) rfl (et_orR hb35 (et_not (et_b (ev_isi (r := true) (ev_var rfl) rfl (by decide +kernel)))) (fun hc h => by obtain ⟨d34, hd34, h⟩ := R.bind_inv h; exact et_cast h (et_or (et_test (ev_neD (eqL (eqL (eq2 eqQ eqQ))) (ev_var rfl) (EV.frz (en_lst (ds := [due23, ([] : (List (Rat × Rat))), d34].map (dL (d2 dQ dQ))) (ea_cons (ev_var rfl) (ea_cons (EV.frz (en_lst ea_nil)) (ea_cons (EV.frz (en_call (x := (back31, st14)) hd34 (ea_cons (ev_var rfl) (ea_cons (ev_var rfl) ea_nil)))) ea_nil))))))) (fun hc => (et_test (ev_neD (eqL (eq2 eqQ eqQ)) (ev_var rfl) (ev_var rfl)))))))) (fun hc => ?_) (fun hc => ?_))
      · have h := if_t hc h
        exact sw_ret (ev_cast (r := dB) h (ev_c _)) rfl
      · have h := if_f hc h
        refine sw_next ?_
        show SW K _ _ [.dat ((dL dI) script1), .dat ((d3 dQ dQ dQ) st14), .dat (dI st7), .dat ((dL (d2 dQ dQ)) ring11), .un, .dat ((dL (d2 dQ dQ)) due23), .dat ((dL (d2 dQ dQ)) handed24), .ownN none (found30.map (d2 dQ dQ)), .dat ((dL (d2 dQ dQ)) back31), .own2N none (told33.map (oL (d2 dQ dQ))), .un] _ _ _
        refine sw_opt2 (n := 9) rfl ?_
        show SW K _ _ [.dat ((dL dI) script1), .dat ((d3 dQ dQ dQ) st14), .dat (dI st7), .dat ((dL (d2 dQ dQ)) ring11), .un, .dat ((dL (d2 dQ dQ)) due23), .dat ((dL (d2 dQ dQ)) handed24), .ownN none (found30.map (d2 dQ dQ)), .dat ((dL (d2 dQ dQ)) back31), .own2N none (((told33.map (·.map some))).map (oL (dO (d2 dQ dQ)))), .un] _ _ _
        obtain ⟨told36, htold36, h⟩ := R.bind_inv h
        refine sw_seq (sw_app2T (r := (dO (d2 dQ dQ))) htold36 rfl (ev_c _) (ev_c _) ?_)
        show SW K _ _ [.dat ((dL dI) script1), .dat ((d3 dQ dQ dQ) st14), .dat (dI st7), .dat ((dL (d2 dQ dQ)) ring11), .un, .dat ((dL (d2 dQ dQ)) due23), .dat ((dL (d2 dQ dQ)) handed24), .ownN none (found30.map (d2 dQ dQ)), .dat ((dL (d2 dQ dQ)) back31), .own2N none (told36.map (oL (dO (d2 dQ dQ)))), .un] _ _ _
        obtain ⟨told37, htold37, h⟩ := R.bind_inv h
        refine sw_seq (sw_pop2 (r := (dO (d2 dQ dQ))) htold37 rfl ?_)
        show SW K _ _ [.dat ((dL dI) script1), .dat ((d3 dQ dQ dQ) st14), .dat (dI st7), .dat ((dL (d2 dQ dQ)) ring11), .un, .dat ((dL (d2 dQ dQ)) due23), .dat ((dL (d2 dQ dQ)) handed24), .ownN none (found30.map (d2 dQ dQ)), .dat ((dL (d2 dQ dQ)) back31), .own2N none (told37.map (oL (dO (d2 dQ dQ)))), .un] _ _ _
        obtain ⟨cut_sh38, hcut_sh38, h⟩ := R.bind_inv h
        obtain ⟨both39, hboth39, h⟩ := R.bind_inv h
        refine sw_seq (sw_own2 (en2_cast (r := (d2 dQ dQ)) hboth39 (en_call2 (x := ([handed24, handed24], st14)) hcut_sh38 (ea_cons (EV.frz (en_lst (ds := [handed24, handed24].map (dL (d2 dQ dQ))) (ea_cons (ev_var rfl) (ea_cons (ev_var rfl) ea_nil)))) (ea_cons (ev_var rfl) ea_nil)))) (Nat.le_of_ble_eq_true rfl) ?_)
        show SW K _ _ [.dat ((dL dI) script1), .dat ((d3 dQ dQ dQ) st14), .dat (dI st7), .dat ((dL (d2 dQ dQ)) ring11), .un, .dat ((dL (d2 dQ dQ)) due23), .dat ((dL (d2 dQ dQ)) handed24), .ownN none (found30.map (d2 dQ dQ)), .dat ((dL (d2 dQ dQ)) back31), .own2N none (told37.map (oL (dO (d2 dQ dQ)))), .own2N none (both39.map (oL (d2 dQ dQ)))] _ _ _
        refine sw_seq (sw_if (et_lend2L (n := 10) rfl (et_test (ev_neD (eqL (eqL (eq2 eqQ eqQ))) (ev_var rfl) (EV.frz (en_lst (ds := [due23, due23].map (dL (d2 dQ dQ))) (ea_cons (ev_var rfl) (ea_cons (ev_var rfl) ea_nil))))))) (fun hc => ?_) (fun hc => ?_))
        · have h := if_t hc h
          exact sw_ret (ev_cast (r := dB) h (ev_c _)) rfl
        · have h := if_f hc h
          refine sw_next ?_
          show SW K _ _ [.dat ((dL dI) script1), .dat ((d3 dQ dQ dQ) st14), .dat (dI st7), .dat ((dL (d2 dQ dQ)) ring11), .un, .dat ((dL (d2 dQ dQ)) due23), .dat ((dL (d2 dQ dQ)) handed24), .ownN none (found30.map (d2 dQ dQ)), .dat ((dL (d2 dQ dQ)) back31), .own2N none (told37.map (oL (dO (d2 dQ dQ)))), .own2N none (both39.map (oL (d2 dQ dQ)))] _ _ _
          refine sw_opt2 (n := 10) rfl ?_
          show SW K _ _ [.dat ((dL dI) script1), .dat ((d3 dQ dQ dQ) st14), .dat (dI st7), .dat ((dL (d2 dQ dQ)) ring11), .un, .dat ((dL (d2 dQ dQ)) due23), .dat ((dL (d2 dQ dQ)) handed24), .ownN none (found30.map (d2 dQ dQ)), .dat ((dL (d2 dQ dQ)) back31), .own2N none (told37.map (oL (dO (d2 dQ dQ)))), .own2N none (((both39.map (·.map some))).map (oL (dO (d2 dQ dQ))))] _ _ _
          obtain ⟨both40, hboth40, h⟩ := R.bind_inv h
          refine sw_seq (sw_app2T (r := (dO (d2 dQ dQ))) hboth40 rfl (ev_c _) (ev_c _) ?_)
          show SW K _ _ [.dat ((dL dI) script1), .dat ((d3 dQ dQ dQ) st14), .dat (dI st7), .dat ((dL (d2 dQ dQ)) ring11), .un, .dat ((dL (d2 dQ dQ)) due23), .dat ((dL (d2 dQ dQ)) handed24), .ownN none (found30.map (d2 dQ dQ)), .dat ((dL (d2 dQ dQ)) back31), .own2N none (told37.map (oL (dO (d2 dQ dQ)))), .own2N none (both40.map (oL (dO (d2 dQ dQ))))] _ _ _
          refine sw_frz2L (n := 10) rfl ?_
          show SW K _ _ [.dat ((dL dI) script1), .dat ((d3 dQ dQ dQ) st14), .dat (dI st7), .dat ((dL (d2 dQ dQ)) ring11), .un, .dat ((dL (d2 dQ dQ)) due23), .dat ((dL (d2 dQ dQ)) handed24), .ownN none (found30.map (d2 dQ dQ)), .dat ((dL (d2 dQ dQ)) back31), .own2N none (told37.map (oL (dO (d2 dQ dQ)))), .dat ((dL (dL (dO (d2 dQ dQ)))) both40)] _ _ _
          obtain ⟨it41, hit41, h⟩ := R.bind_inv h
          obtain ⟨b45, hb45, h⟩ := R.bind_inv h
          exact sw_ret (ev_cast (r := dB) h (ev_andVR hb45 (ev_eqD (eqL (eqO (eq2 eqQ eqQ) (fun x => by simp [PyData.eqv, eq2, eq3, eqQ, eqI, eqT, eqL]) (fun x => by simp [PyData.eqv, eq2, eq3, eqQ, eqI, eqT, eqL]))) (ev_atL (r := (dL (dO (d2 dQ dQ)))) hit41 (ev_var rfl) (ev_c _)) (ev_optL (ev_var rfl))) (fun hc h => by obtain ⟨cut42, hcut42, h⟩ := R.bind_inv h; obtain ⟨b44, hb44, h⟩ := R.bind_inv h; exact ev_cast (r := dB) h (ev_andVR hb44 (ev_eqD (eqL (eq2 eqQ eqQ)) (EV.frz (en_call (x := (handed24, st14)) hcut42 (ea_cons (ev_var rfl) (ea_cons (ev_var rfl) ea_nil)))) (ev_var rfl)) (fun hc h => by obtain ⟨cut_sh43, hcut_sh43, h⟩ := R.bind_inv h; exact ev_cast (r := dB) h (ev_eqD (eqL (eqL (eq2 eqQ eqQ))) (EV.frz (EN2.enL (en_call2 (x := ([handed24], st14)) hcut_sh43 (ea_cons (EV.frz (en_lst (ds := [handed24].map (dL (d2 dQ dQ))) (ea_cons (ev_var rfl) ea_nil))) (ea_cons (ev_var rfl) ea_nil))))) (EV.frz (en_lst (ds := [due23].map (dL (d2 dQ dQ))) (ea_cons (ev_var rfl) ea_nil))))))))) rfl
end
end Pg

set_option Elab.async false
set_option linter.all false
namespace Pg
open R
/-! ### outcomes, simplified -/
theorem bind_ok {α β : Type} (a : α) (k : α → R β) : R.bind (.ok a) k = k a := rfl
theorem andR_t (m : R Bool) : R.andR true m = m := rfl
theorem andR_f (m : R Bool) : R.andR false m = .ok false := rfl
theorem orR_t (m : R Bool) : R.orR true m = .ok true := rfl
theorem orR_f (m : R Bool) : R.orR false m = m := rfl
theorem caseX_l {S β γ : Type} (s : S) (k1 : S → R γ) (k2 : β → R γ) : R.caseX (.inl s) k1 k2 = k1 s := rfl
theorem caseX_r {S β γ : Type} (b : β) (k1 : S → R γ) (k2 : β → R γ) : R.caseX (.inr b) k1 k2 = k2 b := rfl
theorem if_ok_t {α : Type} (a b : α) : (if true = true then a else b) = a := rfl
theorem if_ok_f {α : Type} (a b : α) : (if false = true then a else b) = b := rfl
/-! ### sizes: less than 2 ^ n -/
def S (n : Nat) (i : Int) : Prop := i.natAbs < 2 ^ n
instance (n : Nat) (i : Int) : Decidable (S n i) := inferInstanceAs (Decidable (i.natAbs < 2 ^ n))
theorem S.mono {a b : Nat} {i : Int} (h : S a i) (l : a ≤ b) : S b i := Nat.lt_of_lt_of_le h (Nat.pow_le_pow_right (by decide) l)
theorem S.mul {a b : Nat} {i j : Int} (h : S a i) (k : S b j) : S (a + b) (i * j) := by
  unfold S at *
  rw [Int.natAbs_mul, Nat.pow_add]
  exact Nat.mul_lt_mul'' h k
theorem S.add {a b : Nat} {i j : Int} (h : S a i) (k : S b j) : S (max a b + 1) (i + j) := by
  have h1 := h.mono (Nat.le_max_left a b)
  have h2 := k.mono (Nat.le_max_right a b)
  unfold S at *
  have := Int.natAbs_add_le i j
  rw [Nat.pow_succ]; omega
theorem S.neg {a : Nat} {i : Int} (h : S a i) : S a (-i) := by unfold S at *; rwa [Int.natAbs_neg]
theorem S.sub {a b : Nat} {i j : Int} (h : S a i) (k : S b j) : S (max a b + 1) (i - j) := by rw [Int.sub_eq_add_neg]; exact h.add k.neg
theorem S.abs {a : Nat} {i : Int} (h : S a i) : S a (absZ i) := by unfold absZ; split; exact h.neg; exact h
theorem S.log {n : Nat} {i : Int} (h : S n i) : i.natAbs.log2 ≤ n := by
  by_cases h0 : i.natAbs = 0
  · rw [h0]; exact Nat.zero_le _
  · exact Nat.le_of_lt ((Nat.log2_lt h0).mpr h)
theorem S.of_log {n : Nat} {i : Int} (h : i.natAbs.log2 ≤ n) : S (n + 1) i := by
  unfold S
  by_cases h0 : i.natAbs = 0
  · rw [h0]; exact Nat.pow_pos (by decide)
  · exact (Nat.log2_lt h0).mp (by omega)
theorem mulR_ok {a b : Nat} {i j : Int} (h : S a i) (k : S b j) (l : a + b < 134000000) : mulR i j = .ok (i * j) := by
  unfold mulR
  rw [if_pos (by have := h.log; have := k.log; omega)]
theorem fdivR_ok {i j : Int} (h : j ≠ 0) : fdivR i j = .ok (i.fdiv j) := by unfold fdivR; rw [if_neg h]
theorem fmodR_ok {i j : Int} (h : j ≠ 0) : fmodR i j = .ok (i.fmod j) := by unfold fmodR; rw [if_neg h]
theorem gcdR_ok {i j : Int} (h : 0 ≤ i) (k : 0 ≤ j) : gcdR i j = .ok (Int.gcd i j : Nat) := by unfold gcdR; rw [if_pos ⟨h, k⟩]
theorem absZ_eq (i : Int) : absZ i = (i.natAbs : Int) := by unfold absZ; split <;> omega
theorem absZ_nn (i : Int) : 0 ≤ absZ i := by rw [absZ_eq]; omega
/-! ### lists by place -/
theorem ixP_nat {n k : Nat} (h : k < n) : ixP n (k : Int) = some k := by
  unfold ixP
  rw [if_pos (by omega), if_pos (by omega)]
  simp
theorem atR_nat {α : Type} {xs : List α} {k : Nat} {x : α} (h : xs[k]? = some x) : atR xs (k : Int) = .ok x := by
  have hk : k < xs.length := by
    rcases Nat.lt_or_ge k xs.length with z | z
    · exact z
    · rw [List.getElem?_eq_none z] at h; cases h
  unfold atR
  rw [ixP_nat hk]
  simp only [h]
theorem atR_int {α : Type} {xs : List α} {i : Int} (h0 : 0 ≤ i) (h1 : i < xs.length) : ∃ x, xs[i.toNat]? = some x ∧ atR xs i = .ok x := by
  have hk : i.toNat < xs.length := by omega
  refine ⟨xs[i.toNat], by simp [hk], ?_⟩
  have := atR_nat (xs := xs) (k := i.toNat) (x := xs[i.toNat]) (by simp [hk])
  rwa [Int.toNat_of_nonneg h0] at this
theorem rngR_ok {i j : Int} (h1 : -(2 ^ 62) ≤ i) (h2 : i < 2 ^ 62) (h3 : -(2 ^ 62) ≤ j) (h4 : j < 2 ^ 62) : rngR i j = .ok ((List.range (j - i).toNat).map fun k => i + (k : Nat)) := by
  unfold rngR; rw [if_pos ⟨h1, h2, h3, h4⟩]
theorem appR_ok {α : Type} {xs : List α} {x : α} (h : xs.length < 16777216) : appR xs x = .ok (xs ++ [x]) := by unfold appR; rw [if_pos h]
theorem catR_ok {α : Type} {xs ys : List α} (h : xs.length + ys.length ≤ 16777216) : catR xs ys = .ok (xs ++ ys) := by unfold catR; rw [if_pos h]
theorem compR_ok {α β : Type} {f : α → R β} {xs : List α} {ys : List β} (h : xs.length < 16777216) (hm : R.mapR f xs = .ok ys) : R.compR f xs = .ok ys := by unfold R.compR; rw [if_pos h, hm]
theorem mapR_ok {α β : Type} {f : α → R β} {g : α → β} : ∀ {xs : List α}, (∀ x ∈ xs, f x = .ok (g x)) → R.mapR f xs = .ok (xs.map g)
  | [], _ => rfl
  | x :: xs, h => by
    unfold R.mapR
    rw [h x List.mem_cons_self, bind_ok, mapR_ok (fun y hy => h y (List.mem_cons_of_mem _ hy)), bind_ok]
    rfl
/-- a loop by its invariant -/
theorem forR_inv {α T : Type} {f : α → T → R T} (P : Nat → T → Prop) : ∀ (xs : List α) (k : Nat) (s : T), P k s → (∀ i s x, P (k + i) s → xs[i]? = some x → ∃ s', f x s = .ok s' ∧ P (k + i + 1) s') → ∃ s', R.forR f xs s = .ok s' ∧ P (k + xs.length) s'
  | [], k, s, h, _ => ⟨s, rfl, h⟩
  | x :: xs, k, s, h, hs => by
    obtain ⟨s1, e1, p1⟩ := hs 0 s x h rfl
    obtain ⟨s2, e2, p2⟩ := forR_inv P xs (k + 1) s1 p1 fun i s y hp hy => by
      have := hs (i + 1) s y (by rw [show k + (i + 1) = k + 1 + i by omega]; exact hp) (by simpa using hy)
      rwa [show k + (i + 1) + 1 = k + 1 + i + 1 by omega] at this
    refine ⟨s2, ?_, by rw [List.length_cons, show k + (xs.length + 1) = k + 1 + xs.length by omega]; exact p2⟩
    unfold R.forR
    rw [e1, bind_ok, e2]
/-- a loop that never hands back -/
theorem forX_inv {α T β : Type} {f : α → T → R (Sum T β)} (P : Nat → T → Prop) : ∀ (xs : List α) (k : Nat) (s : T), P k s → (∀ i s x, P (k + i) s → xs[i]? = some x → ∃ s', f x s = .ok (.inl s') ∧ P (k + i + 1) s') → ∃ s', R.forX f xs s = .ok (.inl s') ∧ P (k + xs.length) s'
  | [], k, s, h, _ => ⟨s, rfl, h⟩
  | x :: xs, k, s, h, hs => by
    obtain ⟨s1, e1, p1⟩ := hs 0 s x h rfl
    obtain ⟨s2, e2, p2⟩ := forX_inv P xs (k + 1) s1 p1 fun i s y hp hy => by
      have := hs (i + 1) s y (by rw [show k + (i + 1) = k + 1 + i by omega]; exact hp) (by simpa using hy)
      rwa [show k + (i + 1) + 1 = k + 1 + i + 1 by omega] at this
    refine ⟨s2, ?_, by rw [List.length_cons, show k + (xs.length + 1) = k + 1 + xs.length by omega]; exact p2⟩
    unfold R.forX
    rw [e1, bind_ok]
    exact e2
/-- .. of no state, by what holds of every item -/
theorem forX_all {α β : Type} {f : α → Unit → R (Sum Unit β)} {xs : List α} (h : ∀ x ∈ xs, f x () = .ok (.inl ())) : R.forX f xs () = .ok (.inl ()) := by
  obtain ⟨s, e, _⟩ := forX_inv (fun _ _ => True) xs 0 () trivial fun i s x _ hx => ⟨(), h x (List.mem_of_getElem? hx), trivial⟩
  exact e
/-! ### a small logic of outcomes -/
/-- the outcome is a value that Q holds of -/
def Ok {α : Type} (m : R α) (Q : α → Prop) : Prop := ∃ a, m = .ok a ∧ Q a
theorem Ok.pure {α : Type} {a : α} {Q : α → Prop} (h : Q a) : Ok (.ok a) Q := ⟨a, rfl, h⟩
theorem Ok.eq {α : Type} {m : R α} {a : α} {Q : α → Prop} (e : m = .ok a) (h : Q a) : Ok m Q := ⟨a, e, h⟩
theorem Ok.bind {α β : Type} {m : R α} {k : α → R β} {P : α → Prop} {Q : β → Prop} (h : Ok m P) (hk : ∀ a, P a → Ok (k a) Q) : Ok (R.bind m k) Q := by
  obtain ⟨a, e, p⟩ := h
  rw [e]; exact hk a p
/-- a step whose value is known -/
theorem Ok.step {α β : Type} {m : R α} {k : α → R β} {a : α} {Q : β → Prop} (e : m = .ok a) (hk : Ok (k a) Q) : Ok (R.bind m k) Q := by rw [e]; exact hk
theorem Ok.one {α β : Type} {k : α → R β} {a : α} {Q : β → Prop} (hk : Ok (k a) Q) : Ok (R.bind (.ok a) k) Q := hk
theorem Ok.mono {α : Type} {m : R α} {P Q : α → Prop} (h : Ok m P) (i : ∀ a, P a → Q a) : Ok m Q := let ⟨a, e, p⟩ := h; ⟨a, e, i a p⟩
theorem Ok.ite {α : Type} {c : Prop} [Decidable c] {a b : R α} {Q : α → Prop} (h1 : c → Ok a Q) (h2 : ¬ c → Ok b Q) : Ok (if decide c = true then a else b) Q := by
  by_cases h : c
  · rw [decide_eq_true h, if_ok_t]; exact h1 h
  · rw [decide_eq_false h, if_ok_f]; exact h2 h
theorem Ok.iteB {α : Type} {c : Bool} {a b : R α} {Q : α → Prop} (h1 : c = true → Ok a Q) (h2 : c = false → Ok b Q) : Ok (if c = true then a else b) Q := by
  cases c
  · exact h2 rfl
  · exact h1 rfl
theorem Ok.andR {c : Bool} {m : R Bool} {Q : Bool → Prop} (h1 : c = true → Ok m Q) (h2 : c = false → Q false) : Ok (R.andR c m) Q := by
  cases c
  · exact .pure (h2 rfl)
  · exact h1 rfl
theorem Ok.orR {c : Bool} {m : R Bool} {Q : Bool → Prop} (h1 : c = false → Ok m Q) (h2 : c = true → Q true) : Ok (R.orR c m) Q := by
  cases c
  · exact h1 rfl
  · exact .pure (h2 rfl)
theorem Ok.forR {α T : Type} {f : α → T → R T} {xs : List α} {s : T} (P : Nat → T → Prop) (h0 : P 0 s) (hs : ∀ i s x, P i s → xs[i]? = some x → Ok (f x s) (P (i + 1))) : Ok (R.forR f xs s) (P xs.length) := by
  obtain ⟨s', e, p⟩ := forR_inv (f := f) P xs 0 s h0 fun i s x hp hx => by
    rw [Nat.zero_add] at hp ⊢
    exact hs i s x hp hx
  exact ⟨s', e, by rwa [Nat.zero_add] at p⟩
theorem Ok.forX {α T β : Type} {f : α → T → R (Sum T β)} {xs : List α} {s : T} (P : Nat → T → Prop) (h0 : P 0 s) (hs : ∀ i s x, P i s → xs[i]? = some x → Ok (f x s) (fun r => ∃ s', r = .inl s' ∧ P (i + 1) s')) :
    Ok (R.forX f xs s) (fun r => ∃ s', r = .inl s' ∧ P xs.length s') := by
  obtain ⟨s', e, p⟩ := forX_inv (f := f) P xs 0 s h0 fun i s x hp hx => by
    rw [Nat.zero_add] at hp ⊢
    obtain ⟨r, e, s', e2, q⟩ := hs i s x hp hx
    exact ⟨s', by rw [e, e2], q⟩
  exact ⟨.inl s', e, s', rfl, by rwa [Nat.zero_add] at p⟩
theorem Ok.mapR {α β : Type} {f : α → R β} {P : α → β → Prop} : ∀ {xs : List α}, (∀ x ∈ xs, Ok (f x) (P x)) → Ok (R.mapR f xs) (fun ys => ys.length = xs.length ∧ ∀ (i : Nat) x y, xs[i]? = some x → ys[i]? = some y → P x y)
  | [], _ => ⟨[], rfl, rfl, fun i x y h => by simp at h⟩
  | x :: xs, h => by
    obtain ⟨y, e, p⟩ := h x List.mem_cons_self
    obtain ⟨ys, e2, hl, p2⟩ := Ok.mapR (xs := xs) fun z hz => h z (List.mem_cons_of_mem _ hz)
    refine ⟨y :: ys, ?_, by rw [List.length_cons, List.length_cons, hl], fun i a b ha hb => ?_⟩
    · unfold R.mapR
      rw [e, bind_ok, e2, bind_ok]
    · cases i with
      | zero => simp at ha hb; subst ha hb; exact p
      | succ i => exact p2 i a b (by simpa using ha) (by simpa using hb)
theorem Ok.compR {α β : Type} {f : α → R β} {P : α → β → Prop} {xs : List α} (hl : xs.length < 16777216) (h : ∀ x ∈ xs, Ok (f x) (P x)) : Ok (R.compR f xs) (fun ys => ys.length = xs.length ∧ ∀ (i : Nat) x y, xs[i]? = some x → ys[i]? = some y → P x y) := by
  obtain ⟨ys, e, q⟩ := Ok.mapR h
  exact ⟨ys, compR_ok hl e, q⟩
/-- every item by what it comes of -/
theorem all_of {α β : Type} {P : α → β → Prop} {Q : β → Prop} {xs : List α} {ys : List β} (h : ys.length = xs.length ∧ ∀ (i : Nat) x y, xs[i]? = some x → ys[i]? = some y → P x y) (hq : ∀ x y, x ∈ xs → P x y → Q y) : ∀ y ∈ ys, Q y := fun y hy => by
  obtain ⟨i, hi, e⟩ := List.mem_iff_getElem.mp hy
  have hx : i < xs.length := by omega
  exact hq xs[i] y (List.getElem_mem hx) (h.2 i xs[i] y (by simp [hx]) (by rw [← e]; simp [hi]))
theorem Ok.true {m : R Bool} (h : Ok m (· = true)) : m = .ok true := by
  obtain ⟨a, e, p⟩ := h
  rw [e, p]
/-- an item of range(n) -/
theorem rng_at {i j x : Int} {k : Nat} (h : ((List.range (j - i).toNat).map fun k => i + (k : Nat))[k]? = some x) : x = i + (k : Nat) ∧ x < j := by
  rw [List.getElem?_map] at h
  by_cases hk : k < (j - i).toNat
  · rw [List.getElem?_range hk] at h
    have e : i + (k : Nat) = x := Option.some.inj h
    exact ⟨e.symm, by omega⟩
  · rw [List.getElem?_eq_none (by simpa using hk)] at h
    cases h
theorem rng_mem {i j x : Int} (h : x ∈ (List.range (j - i).toNat).map fun k => i + (k : Nat)) : i ≤ x ∧ x < j := by
  obtain ⟨k, hk, e⟩ := List.mem_map.mp h
  have := List.mem_range.mp hk
  omega
theorem rng_len (i j : Int) : ((List.range (j - i).toNat).map fun k => i + (k : Nat)).length = (j - i).toNat := by simp
/-! ### ratios by tops and bottoms -/
theorem mkQ_divInt {a b : Int} (hb : b ≠ 0) : fdivR a (if b < 0 then -(Int.gcd a b : Nat) else (Int.gcd a b : Nat)) = .ok (Rat.divInt a b).num ∧ fdivR b (if b < 0 then -(Int.gcd a b : Nat) else (Int.gcd a b : Nat)) = .ok ((Rat.divInt a b).den : Int) := by
  have hg : (Int.gcd a b : Nat) ≠ 0 := Int.gcd_ne_zero_right hb
  rw [Rat.num_divInt, Rat.den_divInt, if_neg hb, Int.gcd_comm b a]
  obtain ⟨x, hx⟩ := Int.gcd_dvd_left a b
  obtain ⟨y, hy⟩ := Int.gcd_dvd_right a b
  generalize hG : (Int.gcd a b : Nat) = g at *
  have hg' : (g : Int) ≠ 0 := by omega
  have hgp : (0 : Int) < g := by omega
  have hfa : ∀ z : Int, ((g : Int) * z).fdiv g = z := fun z => by rw [Int.fdiv_eq_ediv_of_nonneg _ (by omega)]; exact Int.mul_ediv_cancel_left z hg'
  have hfn : ∀ z : Int, ((g : Int) * z).fdiv (-g) = -z := fun z => by
    have e : (g : Int) * z = (-g) * (-z) := by rw [Int.neg_mul_neg]
    rw [e]; exact Int.mul_fdiv_cancel_left (-z) (by omega)
  by_cases hn : b < 0
  · rw [if_pos hn, fdivR_ok (by omega), fdivR_ok (by omega)]
    refine ⟨congrArg R.ok ?_, congrArg R.ok ?_⟩
    · rw [Int.sign_eq_neg_one_of_neg hn, hx, hfn, Int.neg_one_mul, ← Int.mul_neg, Int.mul_ediv_cancel_left _ hg']
    · have e : ((b.natAbs / g : Nat) : Int) = -y := by
        rw [Int.natCast_ediv, show ((b.natAbs : Nat) : Int) = -b by omega, hy, ← Int.mul_neg, Int.mul_ediv_cancel_left _ hg']
      rw [e, hy, hfn]
  · rw [if_neg hn, fdivR_ok (by omega), fdivR_ok (by omega)]
    refine ⟨congrArg R.ok ?_, congrArg R.ok ?_⟩
    · rw [Int.sign_eq_one_of_pos (by omega), hx, hfa, Int.one_mul, Int.mul_ediv_cancel_left _ hg']
    · have e : ((b.natAbs / g : Nat) : Int) = y := by
        rw [Int.natCast_ediv, show ((b.natAbs : Nat) : Int) = b by omega, hy, Int.mul_ediv_cancel_left _ hg']
      rw [e, hy, hfa]
theorem mkQ_self (q : Rat) : mkQ q.num (q.den : Int) = .ok q := by
  unfold mkQ
  have hd := q.den_pos
  rw [dif_pos ⟨by omega, by rw [Int.toNat_natCast]; exact q.reduced⟩]
  exact congrArg R.ok (Rat.ext rfl (by show ((q.den : Int)).toNat = q.den; simp))
end Pg

set_option Elab.async false
set_option linter.all false
namespace Pg
/-! ### ratios of core Lean: sizes, the program's ratio, the laws' looks -/
theorem natAbs_ediv_le (a : Int) {g : Int} (hg : 0 < g) : (a / g).natAbs ≤ a.natAbs := by
  by_cases h : 0 ≤ a
  · have h1 := Int.ediv_nonneg h (Int.le_of_lt hg)
    have h2 := Int.ediv_le_self g h
    omega
  · have h1 : a / g < 0 := Int.ediv_neg_of_neg_of_pos (by omega) hg
    have h2 : a ≤ a / g := by
      have h3 := Int.mul_ediv_self_le (x := a) (k := g) (by omega)
      have h4 := Int.emod_lt_of_pos a hg
      have h5 := Int.emod_add_mul_ediv a g
      have h6 : g * (a / g) ≤ a / g := by
        have : (g - 1) * (a / g) ≤ 0 := Int.mul_nonpos_of_nonneg_of_nonpos (by omega) (by omega)
        have e : (g - 1) * (a / g) = g * (a / g) - a / g := by rw [Int.sub_mul, Int.one_mul]
        omega
      by_cases h7 : a % g = 0
      · omega
      · by_cases h8 : g = 1
        · subst h8; simp
        · -- g ≥ 2
          have h9 : (g - 1) * (a / g) ≤ (g - 1) * (-1) := Int.mul_le_mul_of_nonneg_left (by omega) (by omega)
          have e : (g - 1) * (a / g) = g * (a / g) - a / g := by rw [Int.sub_mul, Int.one_mul]
          omega
    omega
theorem S_num {n : Nat} {a b : Int} (h : S n a) : S n (Rat.divInt a b).num := by
  unfold S at *
  refine Nat.lt_of_le_of_lt ?_ h
  rw [Rat.num_divInt]
  by_cases hb : b = 0
  · subst hb; simp
  · have hg : (0 : Int) < (Int.gcd b a : Nat) := by have := Int.gcd_pos_of_ne_zero_left (a := b) a hb; omega
    have hs : (b.sign * a).natAbs ≤ a.natAbs := by
      rw [Int.natAbs_mul, Int.natAbs_sign_of_ne_zero hb]; omega
    exact Nat.le_trans (natAbs_ediv_le _ hg) hs
theorem S_den {n : Nat} {a b : Int} (hb : b ≠ 0) (h : S n b) : S n ((Rat.divInt a b).den : Int) := by
  unfold S at *
  refine Nat.lt_of_le_of_lt ?_ h
  rw [Rat.den_divInt, if_neg hb, Int.natAbs_natCast]
  exact Nat.div_le_self _ _
/-- both parts below 2 ^ n -/
def SQ (n : Nat) (q : Rat) : Prop := S n q.num ∧ S n (q.den : Int)
theorem SQ.mono {a b : Nat} {q : Rat} (h : SQ a q) (l : a ≤ b) : SQ b q := ⟨h.1.mono l, h.2.mono l⟩
theorem SQ_divInt {n : Nat} {a b : Int} (hb : b ≠ 0) (ha : S n a) (h : S n b) : SQ n (Rat.divInt a b) := ⟨S_num ha, S_den hb h⟩
theorem p_ratio_ok {a b : Int} (hb : b ≠ 0) : p_ratio a b = .ok (Rat.divInt a b) := by
  unfold p_ratio
  rw [decide_eq_false hb, if_ok_f]
  have key : ∀ x y : Int, 0 < y → R.bind (p_divisor (absZ x) y) (fun d => R.bind (R.ok d) fun m => R.bind (fdivR x m) fun q8 => R.bind (fdivR y m) fun q9 => R.bind (mkQ q8 q9) fun q => R.ok q) = .ok (Rat.divInt x y) := fun x y hy => by
    unfold p_divisor
    rw [gcdR_ok (absZ_nn x) (by omega), bind_ok, bind_ok, bind_ok]
    have hg : Int.gcd (absZ x) y = Int.gcd x y := by rw [absZ_eq, Int.gcd_eq_natAbs_gcd_natAbs, Int.natAbs_natCast]; rfl
    obtain ⟨h1, h2⟩ := mkQ_divInt (a := x) (b := y) (by omega)
    rw [if_neg (by omega)] at h1 h2
    rw [hg, h1, bind_ok, h2, bind_ok, mkQ_self, bind_ok]
  by_cases hn : b < 0
  · rw [decide_eq_true hn, if_ok_t, bind_ok, bind_ok, bind_ok]
    show R.bind (p_divisor (absZ (-a)) (-b)) _ = _
    rw [← Rat.neg_divInt_neg a b]
    exact key (-a) (-b) (by omega)
  · rw [decide_eq_false hn, if_ok_f, bind_ok]
    exact key a b (by omega)
theorem l_most_ok {a b : Int} (h : 0 ≤ a) (k : 0 ≤ b) : l_most a b = .ok (Int.gcd a b : Nat) := by
  unfold l_most
  rw [gcdR_ok h k, bind_ok]
theorem divInt_cross {q : Rat} {a b : Int} (hb : b ≠ 0) (h : q = Rat.divInt a b) : q.num * b = a * (q.den : Int) := by
  have h1 : Rat.divInt q.num (q.den : Int) = Rat.divInt a b := by rw [Rat.num_divInt_den, h]
  exact (Rat.divInt_eq_divInt_iff (by have := q.den_nz; omega) hb).mp h1
theorem l_is_ok {n : Nat} {q : Rat} {a b : Int} (hb : b ≠ 0) (h : q = Rat.divInt a b) (ha : S n a) (hB : S n b) (hn : n ≤ 60000000) : l_is q a b = .ok true := by
  unfold l_is l_whole
  have s1 : S n q.num := by rw [h]; exact S_num ha
  have s2 : S n (q.den : Int) := by rw [h]; exact S_den hb hB
  have hd := q.den_pos
  have hlt : ¬ ((q.den : Int) < 1) := by omega
  simp only [bind_ok, Bool.not_true, Bool.not_false, Bool.true_and, Bool.and_true, Bool.and_false, decide_true, Bool.or_false, Bool.false_or, if_ok_f, orR_f, decide_eq_false hlt, Bool.or_self]
  rw [mulR_ok s1 hB (by omega), bind_ok, mulR_ok ha s2 (by omega), bind_ok, divInt_cross hb h, decide_eq_true rfl, andR_t,
    l_most_ok (absZ_nn _) (by omega), bind_ok]
  have hg : Int.gcd (absZ q.num) (q.den : Int) = 1 := by
    rw [absZ_eq, Int.gcd_eq_natAbs_gcd_natAbs, Int.natAbs_natCast, Int.natAbs_natCast]; exact q.reduced
  rw [hg]
  rfl
/-! ### the drawn cells -/
def Bits (ns : List Int) : Prop := ∀ z ∈ ns, z.natAbs.log2 ≤ 1048576
theorem S_lit {n : Nat} {i : Int} (h : i.natAbs < 2 ^ n) : S n i := h
theorem S_lt {n : Nat} {i : Int} {m : Nat} (h0 : 0 ≤ i) (h : i < m) (hm : m ≤ 2 ^ n) : S n i := by unfold S; omega
theorem S_emod {n : Nat} {i : Int} (m : Nat) (hm : 0 < m) (h : m ≤ 2 ^ n) : S n (i % (m : Int)) := by
  have h1 := Int.emod_nonneg i (show (m : Int) ≠ 0 by omega)
  have h2 := Int.emod_lt_of_pos i (show (0 : Int) < m by omega)
  exact S_lt h1 h2 h
theorem S_ediv {n : Nat} {i : Int} {m : Int} (hm : 0 < m) (h : S n i) : S n (i / m) := Nat.lt_of_le_of_lt (natAbs_ediv_le i hm) h
/-- every cell is a whole number of bounded size -/
theorem l_cell_ok {ns : List Int} (hb : Bits ns) {k : Int} (h0 : 0 ≤ k) (h1 : k < 1000000) : ∃ c, l_cell ns k = .ok c ∧ S 1048577 c := by
  unfold l_cell
  by_cases h : k < (ns.length : Int)
  · obtain ⟨x, hx, e⟩ := atR_int h0 h
    rw [decide_eq_true h, if_ok_t, e, bind_ok]
    exact ⟨x, rfl, .of_log (hb x (List.mem_of_getElem? hx))⟩
  · rw [decide_eq_false h, if_ok_f]
    have sk : S 20 k := by unfold S; omega
    rw [mulR_ok (b := 13) sk (by decide) (by omega), bind_ok, bind_ok]
    have fin : ∀ s : Int, S 60 s → ∃ c, R.bind (mulR s (48271 : Int)) (fun p10 => R.bind (R.ok ((p10 % (65537 : Int)))) fun some11 => R.bind (mulR ((2 : Int)) k) fun p12 => R.bind (mulR some11 (((some11 + p12) + (1 : Int)))) fun p13 => R.ok (((p13 / (7 : Int)) % (65521 : Int)))) = .ok c ∧ S 1048577 c := fun s hs => by
      rw [mulR_ok (b := 16) hs (by decide) (by omega), bind_ok, bind_ok, mulR_ok (a := 2) (by decide) sk (by omega), bind_ok]
      have hm : S 17 (s * 48271 % 65537) := S_emod (i := s * 48271) 65537 (by decide) (by decide)
      rw [mulR_ok hm (b := 30) ?_ (by omega), bind_ok]
      · refine ⟨_, rfl, ?_⟩
        exact (S_emod (n := 17) (i := _ / 7) 65521 (by decide) (by decide)).mono (by omega)
      · have h2 := Int.emod_nonneg (s * 48271) (show (65537 : Int) ≠ 0 by decide)
        have h3 := Int.emod_lt_of_pos (s * 48271) (show (0 : Int) < 65537 by decide)
        unfold S; omega
    by_cases hl : (ns.length : Int) > 0
    · rw [decide_eq_true hl, if_ok_t, fmodR_ok (by omega), bind_ok]
      have e1 : k.fmod (ns.length : Int) = k % (ns.length : Int) := Int.fmod_eq_emod_of_nonneg k (by omega)
      have h2 := Int.emod_nonneg k (show (ns.length : Int) ≠ 0 by omega)
      have h3 := Int.emod_lt_of_pos k (show (0 : Int) < (ns.length : Int) by omega)
      rw [e1]
      obtain ⟨x, hx, e⟩ := atR_int h2 h3
      rw [e, bind_ok, bind_ok, bind_ok]
      refine fin _ ?_
      have h4 := Int.emod_nonneg x (show (65537 : Int) ≠ 0 by decide)
      have h5 := Int.emod_lt_of_pos x (show (0 : Int) < 65537 by decide)
      unfold S; omega
    · rw [decide_eq_false hl, if_ok_f, bind_ok]
      refine fin _ ?_
      unfold S; omega
theorem l_top_ok (c : Int) : ∃ t, l_top c = .ok t ∧ S 101 t := by
  unfold l_top
  have h2 := Int.emod_nonneg (c / 4) (show (2000000000000000000000000000000 - 1 : Int) ≠ 0 by decide)
  have h3 := Int.emod_lt_of_pos (c / 4) (show (0 : Int) < 2000000000000000000000000000000 - 1 by decide)
  by_cases h : c % 4 = 3
  · rw [decide_eq_true h, if_ok_t]
    exact ⟨_, rfl, by unfold S; omega⟩
  · rw [decide_eq_false h, if_ok_f]
    exact ⟨_, rfl, by unfold S; omega⟩
theorem l_bottom_ok (c : Int) : ∃ t, l_bottom c = .ok t ∧ S 101 t ∧ 0 < t := by
  unfold l_bottom
  have h2 := Int.emod_nonneg (c / 4) (show (1000000000000000000000000000000 - 1 : Int) ≠ 0 by decide)
  have h3 := Int.emod_lt_of_pos (c / 4) (show (0 : Int) < 1000000000000000000000000000000 - 1 by decide)
  by_cases h : c % 4 = 3
  · rw [decide_eq_true h, if_ok_t]
    exact ⟨_, rfl, by unfold S; omega, by omega⟩
  · rw [decide_eq_false h, if_ok_f]
    exact ⟨_, rfl, by unfold S; omega, by omega⟩
end Pg

set_option Elab.async false
set_option linter.all false
namespace Pg
/-! ### sums, differences, products, quotients -/
theorem add_divInt (a b : Rat) : a + b = Rat.divInt (a.num * b.den + b.num * a.den) ((a.den : Int) * b.den) := by
  rw [Rat.add_def', ← Rat.divInt_ofNat, Int.natCast_mul]
theorem sub_divInt (a b : Rat) : a - b = Rat.divInt (a.num * b.den - b.num * a.den) ((a.den : Int) * b.den) := by
  rw [Rat.sub_def', ← Rat.divInt_ofNat, Int.natCast_mul]
theorem mul_divInt (a b : Rat) : a * b = Rat.divInt (a.num * b.num) ((a.den : Int) * b.den) := by
  rw [Rat.mul_def', ← Rat.divInt_ofNat, Int.natCast_mul]
theorem div_divInt (a b : Rat) : a / b = Rat.divInt (a.num * b.den) (a.den * b.num) := by
  rw [Rat.div_def, Rat.inv_def]
  have e : a = Rat.divInt a.num a.den := (Rat.num_divInt_den a).symm
  conv => lhs; rw [e]
  rw [Rat.divInt_mul_divInt]
theorem den_ne (q : Rat) : (q.den : Int) ≠ 0 := by have := q.den_nz; omega
theorem dens_ne (p q : Rat) : (p.den : Int) * q.den ≠ 0 := Int.mul_ne_zero (den_ne p) (den_ne q)
theorem num_ne {q : Rat} (h : q ≠ 0) : q.num ≠ 0 := fun z => h (Rat.num_eq_zero.mp z)
theorem S_cross {n m : Nat} {p q : Rat} (hp : SQ n p) (hq : SQ m q) : S (n + m + 1) (p.num * q.den + q.num * p.den) :=
  ((hp.1.mul hq.2).add (hq.1.mul hp.2)).mono (by omega)
theorem S_cross' {n m : Nat} {p q : Rat} (hp : SQ n p) (hq : SQ m q) : S (n + m + 1) (p.num * q.den - q.num * p.den) :=
  ((hp.1.mul hq.2).sub (hq.1.mul hp.2)).mono (by omega)
theorem S_dens {n m : Nat} {p q : Rat} (hp : SQ n p) (hq : SQ m q) : S (n + m) ((p.den : Int) * q.den) := hp.2.mul hq.2
theorem SQ.add {n m : Nat} {p q : Rat} (hp : SQ n p) (hq : SQ m q) : SQ (n + m + 1) (p + q) := by
  rw [add_divInt]; exact SQ_divInt (dens_ne p q) (S_cross hp hq) ((S_dens hp hq).mono (by omega))
theorem SQ.sub {n m : Nat} {p q : Rat} (hp : SQ n p) (hq : SQ m q) : SQ (n + m + 1) (p - q) := by
  rw [sub_divInt]; exact SQ_divInt (dens_ne p q) (S_cross' hp hq) ((S_dens hp hq).mono (by omega))
theorem SQ.mul {n m : Nat} {p q : Rat} (hp : SQ n p) (hq : SQ m q) : SQ (n + m) (p * q) := by
  rw [mul_divInt]; exact SQ_divInt (dens_ne p q) (hp.1.mul hq.1) (S_dens hp hq)
theorem SQ.div {n m : Nat} {p q : Rat} (hp : SQ n p) (hq : SQ m q) (h0 : q ≠ 0) : SQ (n + m) (p / q) := by
  rw [div_divInt]; exact SQ_divInt (Int.mul_ne_zero (den_ne p) (num_ne h0)) (hp.1.mul hq.2) (hp.2.mul hq.1)
theorem SQ.neg {n : Nat} {p : Rat} (hp : SQ n p) : SQ n (-p) := ⟨hp.1.neg, hp.2⟩
theorem SQ_zero (n : Nat) : SQ (n + 1) 0 := ⟨S.mono (a := 1) (by decide) (by omega), S.mono (a := 1) (by decide) (by omega)⟩
theorem SQ_one (n : Nat) : SQ (n + 1) 1 := ⟨S.mono (a := 1) (by decide) (by omega), S.mono (a := 1) (by decide) (by omega)⟩
theorem p_plus_ok {n m : Nat} {p q : Rat} (hp : SQ n p) (hq : SQ m q) (h : n + m < 134000000) : p_plus p q = .ok (p + q) := by
  unfold p_plus
  rw [mulR_ok hp.1 hq.2 h, bind_ok, mulR_ok hq.1 hp.2 (by omega), bind_ok, mulR_ok hp.2 hq.2 h, bind_ok, p_ratio_ok (dens_ne p q), bind_ok, ← add_divInt]
theorem p_minus_ok {n m : Nat} {p q : Rat} (hp : SQ n p) (hq : SQ m q) (h : n + m < 134000000) : p_minus p q = .ok (p - q) := by
  unfold p_minus
  rw [mulR_ok hp.1 hq.2 h, bind_ok, mulR_ok hq.1 hp.2 (by omega), bind_ok, mulR_ok hp.2 hq.2 h, bind_ok, p_ratio_ok (dens_ne p q), bind_ok, ← sub_divInt]
theorem p_times_ok {n m : Nat} {p q : Rat} (hp : SQ n p) (hq : SQ m q) (h : n + m < 134000000) : p_times p q = .ok (p * q) := by
  unfold p_times
  rw [mulR_ok hp.1 hq.1 h, bind_ok, mulR_ok hp.2 hq.2 h, bind_ok, p_ratio_ok (dens_ne p q), bind_ok, ← mul_divInt]
theorem p_parted_ok {n m : Nat} {p q : Rat} (hp : SQ n p) (hq : SQ m q) (h : n + m < 134000000) (h0 : q ≠ 0) : p_parted p q = .ok (p / q) := by
  unfold p_parted
  rw [mulR_ok hp.1 hq.2 h, bind_ok, mulR_ok hp.2 hq.1 h, bind_ok, p_ratio_ok (Int.mul_ne_zero (den_ne p) (num_ne h0)), bind_ok, ← div_divInt]
/-! ### constants -/
theorem mkQ_lit {a b : Int} {q : Rat} (h1 : q.num = a) (h2 : (q.den : Int) = b) : mkQ a b = .ok q := by rw [← h1, ← h2]; exact mkQ_self q
theorem mkQ_zero : mkQ 0 1 = .ok (0 : Rat) := mkQ_lit rfl rfl
theorem mkQ_one : mkQ 1 1 = .ok (1 : Rat) := mkQ_lit rfl rfl
theorem mkQ_neg (q : Rat) : mkQ (-q.num) (q.den : Int) = .ok (-q) := mkQ_lit (Rat.neg_num q) (congrArg Nat.cast (Rat.neg_den q))
theorem mkQ_int (i : Int) : mkQ i 1 = .ok (i : Rat) := mkQ_lit (Rat.num_intCast i) (congrArg Nat.cast (Rat.den_intCast i))
theorem SQ_int {n : Nat} {i : Int} (h : S n i) (hn : 0 < n) : SQ n (i : Rat) := ⟨by rw [Rat.num_intCast]; exact h, by
  rw [Rat.den_intCast]; exact S.mono (a := 1) (by decide) hn⟩
/-! ### sums of lists -/
def sumQ : List Rat → Rat
  | [] => 0
  | x :: xs => x + sumQ xs
theorem sumQ_append : ∀ xs ys : List Rat, sumQ (xs ++ ys) = sumQ xs + sumQ ys
  | [], ys => by show sumQ ys = 0 + sumQ ys; grind
  | x :: xs, ys => by show x + sumQ (xs ++ ys) = x + sumQ xs + sumQ ys; rw [sumQ_append xs ys]; grind
theorem sumQ_reverse : ∀ xs : List Rat, sumQ xs.reverse = sumQ xs
  | [] => rfl
  | x :: xs => by rw [List.reverse_cons, sumQ_append, sumQ_reverse xs]; show sumQ xs + (x + 0) = x + sumQ xs; grind
theorem SQ_sum {m : Nat} : ∀ {xs : List Rat}, (∀ x ∈ xs, SQ m x) → SQ ((m + 1) * xs.length + 1) (sumQ xs)
  | [], _ => SQ_zero 0
  | x :: xs, h => by
    have h1 := (h x List.mem_cons_self).add (SQ_sum fun y hy => h y (List.mem_cons_of_mem _ hy))
    exact h1.mono (by rw [List.length_cons, Nat.mul_add, Nat.mul_one]; omega)
/-- a loop that adds up -/
theorem plus_loop {f : Rat → Rat → R Rat} (hf : ∀ x s, f x s = R.bind (p_plus s x) fun y => R.ok y) {m : Nat} : ∀ (xs : List Rat) (s : Rat) (n : Nat), SQ n s → (∀ x ∈ xs, SQ m x) → n + (m + 1) * xs.length + m < 134000000 → R.forR f xs s = .ok (s + sumQ xs)
  | [], s, n, _, _, _ => by show R.ok s = R.ok (s + 0); congr 1; grind
  | x :: xs, s, n, hs, hx, hl => by
    have h1 := hx x List.mem_cons_self
    rw [List.length_cons, Nat.mul_add, Nat.mul_one] at hl
    unfold R.forR
    rw [hf, p_plus_ok hs h1 (by omega), bind_ok, bind_ok, plus_loop hf xs (s + x) (n + m + 1) (hs.add h1) (fun y hy => hx y (List.mem_cons_of_mem _ hy)) (by omega)]
    congr 1
    show s + x + sumQ xs = s + (x + sumQ xs)
    grind
theorem p_total_ok {m : Nat} {xs : List Rat} (h : ∀ x ∈ xs, SQ m x) (hl : (m + 1) * xs.length + m < 133000000) : p_total xs = .ok (sumQ xs) := by
  unfold p_total
  rw [mkQ_zero, bind_ok, bind_ok, plus_loop (fun x s => by rfl) xs 0 1 (SQ_zero 0) h (by omega), bind_ok]
  congr 1; grind
/-! ### what the laws draw -/
theorem l_ratio_ok {a b : Int} (hb : b ≠ 0) : l_ratio a b = .ok (Rat.divInt a b) := by
  unfold l_ratio
  rw [l_most_ok (absZ_nn a) (absZ_nn b), bind_ok, bind_ok]
  have hg : Int.gcd (absZ a) (absZ b) = Int.gcd a b := by
    rw [absZ_eq, absZ_eq, Int.gcd_eq_natAbs_gcd_natAbs, Int.natAbs_natCast, Int.natAbs_natCast]; rfl
  rw [hg]
  obtain ⟨h1, h2⟩ := mkQ_divInt (a := a) (b := b) hb
  by_cases hn : b < 0
  · rw [if_pos hn] at h1 h2
    rw [decide_eq_true hn, if_ok_t, bind_ok, bind_ok, h1, bind_ok, h2, bind_ok, mkQ_self, bind_ok]
  · rw [if_neg hn] at h1 h2
    rw [decide_eq_false hn, if_ok_f, bind_ok, h1, bind_ok, h2, bind_ok, mkQ_self, bind_ok]
theorem l_drawn_ok {ns : List Int} (hb : Bits ns) {k : Int} (h0 : 0 ≤ k) (h1 : k < 100000) : ∃ q, l_drawn ns k = .ok q ∧ SQ 101 q := by
  unfold l_drawn
  obtain ⟨c, ec, _⟩ := l_cell_ok hb h0 (show k < 1000000 by omega)
  obtain ⟨t, et, st⟩ := l_top_ok c
  obtain ⟨c2, ec2, _⟩ := l_cell_ok hb (show 0 ≤ k + 1 by omega) (show k + 1 < 1000000 by omega)
  obtain ⟨b, eb, sb, pb⟩ := l_bottom_ok c2
  rw [ec, bind_ok, et, bind_ok, ec2, bind_ok, eb, bind_ok, l_ratio_ok (by omega), bind_ok]
  exact ⟨_, rfl, SQ_divInt (by omega) st sb⟩
/-- the look at a ratio that is due -/
theorem l_is_self {n : Nat} {q : Rat} (h : SQ n q) (hn : n ≤ 60000000) : l_is q q.num (q.den : Int) = .ok true :=
  l_is_ok (den_ne q) (Rat.num_divInt_den q).symm h.1 h.2 hn
end Pg

set_option Elab.async false
set_option linter.all false
namespace Pg
theorem p_under_ok {n m : Nat} {p q : Rat} (hp : SQ n p) (hq : SQ m q) (h : n + m < 134000000) : p_under p q = .ok (decide (p < q)) := by
  unfold p_under
  rw [mulR_ok hp.1 hq.2 h, bind_ok, mulR_ok hq.1 hp.2 (by omega), bind_ok]
  congr 1
  rw [Bool.eq_iff_iff, decide_eq_true_iff, decide_eq_true_iff]
  exact (Rat.lt_iff p q).symm
theorem l_under_ok {n m : Nat} {p q : Rat} (hp : SQ n p) (hq : SQ m q) (h : n + m < 134000000) : l_under p q = .ok (decide (p < q)) := by
  unfold l_under
  rw [mulR_ok hp.1 hq.2 h, bind_ok, mulR_ok hq.1 hp.2 (by omega), bind_ok]
  congr 1
  rw [Bool.eq_iff_iff, decide_eq_true_iff, decide_eq_true_iff]
  exact (Rat.lt_iff p q).symm
/-- held between -/
def clampQ (p low high : Rat) : Rat := if p < low then low else if high < p then high else p
theorem p_between_ok {n m k : Nat} {p q r : Rat} (hp : SQ n p) (hq : SQ m q) (hr : SQ k r) (h : n + m + k < 134000000) : p_between p q r = .ok (clampQ p q r) := by
  unfold p_between clampQ
  rw [p_under_ok hp hq (by omega), bind_ok]
  by_cases h1 : p < q
  · rw [decide_eq_true h1, if_ok_t, if_pos h1]
  · rw [decide_eq_false h1, if_ok_f, if_neg h1, p_under_ok hr hp (by omega), bind_ok]
    by_cases h2 : r < p
    · rw [decide_eq_true h2, if_ok_t, if_pos h2]
    · rw [decide_eq_false h2, if_ok_f, if_neg h2]
theorem p_whole_ok (q : Rat) : p_whole_part q = .ok (q.num / q.den) := by
  unfold p_whole_part
  rw [fdivR_ok (den_ne q), bind_ok, Int.fdiv_eq_ediv_of_nonneg _ (by have := q.den_pos; omega)]
end Pg

set_option Elab.async false
set_option linter.all false
namespace Pg

/-! mirrors of the defs of k26, printed by pygen -/
def p_weakened (parts1 : (List Rat)) (t2 : Rat) : R ((List Rat)) :=
  R.bind (R.compR (fun x3 => R.bind (p_times t2 x3) fun times4 => R.ok times4) parts1) fun c5 =>
  R.ok c5
def p_weakened_v2 (parts1 : (List Rat)) (t2 : Rat) : R ((List Rat)) :=
  R.bind (R.compR (fun x3 => R.bind (p_times t2 x3) fun times4 => R.ok times4) parts1) fun c5 =>
  R.ok c5
def p_ink_film (s1 : Rat) (ink2 : (List Int)) : R ((List Rat)) :=
  R.bind (p_minus ((1 : Rat)) s1) fun minus3 =>
  R.bind (R.compR (fun x4 => R.bind (mkQ x4 ((1 : Int))) fun q5 => R.ok q5) ink2) fun c6 =>
  R.bind (p_weakened_v2 c6 s1) fun weaken7 =>
  R.bind (catR ([minus3, s1]) weaken7) fun c8 =>
  R.ok c8
def p_rub_film (s1 : Rat) : R ((List Rat)) :=
  R.bind (p_minus ((1 : Rat)) s1) fun minus2 =>
  R.ok ([minus2, (0 : Rat), (0 : Rat), (0 : Rat), (0 : Rat)])
def l_plus (one1 : Rat) (other2 : Rat) : R Rat :=
  R.bind (mulR one1.num ((other2.den : Int))) fun p3 =>
  R.bind (mulR other2.num ((one1.den : Int))) fun p4 =>
  R.bind (mulR ((one1.den : Int)) ((other2.den : Int))) fun p5 =>
  R.bind (l_low ((p3 + p4)) p5) fun l6 =>
  R.ok l6
def l_minus (one1 : Rat) (other2 : Rat) : R Rat :=
  R.bind (mulR one1.num ((other2.den : Int))) fun p3 =>
  R.bind (mulR other2.num ((one1.den : Int))) fun p4 =>
  R.bind (mulR ((one1.den : Int)) ((other2.den : Int))) fun p5 =>
  R.bind (l_low ((p3 - p4)) p5) fun l6 =>
  R.ok l6
def l_times (one1 : Rat) (other2 : Rat) : R Rat :=
  R.bind (mulR one1.num other2.num) fun p3 =>
  R.bind (mulR ((one1.den : Int)) ((other2.den : Int))) fun p4 =>
  R.bind (l_low p3 p4) fun l5 =>
  R.ok l5
def l_part (cell1 : Int) : R Rat :=
  R.bind (R.ok (((1 : Int) + (cell1 % (12 : Int))))) fun bottom2 =>
  R.bind (R.ok ((cell1 / (12 : Int)))) fun rest3 =>
  R.bind (if (decide ((rest3 % (8 : Int)) = (5 : Int))) = true then (R.bind (R.ok (((1 : Int) + ((rest3 / (8 : Int)) % (100000000000000000000 : Int))))) fun bottom5 => R.ok bottom5) else (R.ok bottom2) : R Int) fun st4 =>
  R.bind (R.ok ((rest3 % (7 : Int)))) fun way6 =>
  if (decide (way6 = (0 : Int))) = true then (R.bind (mkQ ((0 : Int)) ((1 : Int))) fun q7 => R.ok q7) else (if (decide (way6 = (1 : Int))) = true then (R.bind (mkQ ((1 : Int)) ((1 : Int))) fun q8 => R.ok q8) else (R.bind (mulR ((rest3 / (9 : Int))) ((48271 : Int))) fun p9 => R.bind (fmodR p9 ((st4 + (1 : Int)))) fun m10 => R.bind (l_low m10 st4) fun l11 => R.ok l11))
def l_ink_film (s1 : Rat) (ink2 : (List Int)) : R ((List Rat)) :=
  R.bind (mkQ ((1 : Int)) ((1 : Int))) fun q3 =>
  R.bind (l_minus q3 s1) fun m4 =>
  R.bind (R.ok ([m4, s1])) fun parts5 =>
  R.bind (R.forR (fun (x6 : Int) (s7 : (List Rat)) => R.bind (mkQ x6 ((1 : Int))) fun q8 => R.bind (l_times s1 q8) fun t9 => R.bind (appR s7 t9) fun parts10 => R.ok parts10) ink2 parts5) fun s11 =>
  R.ok s11
def l_ink (cell1 : Int) : R ((List Int)) :=
  R.bind (R.ok (([] : (List Int)))) fun parts2 =>
  R.bind (rngR 0 ((3 : Int))) fun r3 =>
  R.bind (R.forR (fun (x4 : Int) (s5 : (List Int)) => R.bind (mulR ((300 : Int)) x4) fun p6 => R.bind (fdivR cell1 (((1 : Int) + p6))) fun q7 => R.bind (R.ok q7) fun rest8 => R.bind (R.ok (((rest8 / (7 : Int)) % (256 : Int)))) fun part9 => R.bind (if (decide ((rest8 % (7 : Int)) = (0 : Int))) = true then (R.bind (R.ok ((255 : Int))) fun part11 => R.ok part11) else (R.ok part9) : R Int) fun st10 => R.bind (if (decide ((rest8 % (7 : Int)) = (1 : Int))) = true then (R.bind (R.ok ((0 : Int))) fun part13 => R.ok part13) else (R.ok st10) : R Int) fun st12 => R.bind (appR s5 st12) fun parts14 => R.ok parts14) r3 parts2) fun s15 =>
  R.ok s15
def k26_law (script1 : (List Int)) : R Bool :=
  R.bind (rngR 0 ((6 : Int))) fun r2 =>
  R.bind (R.compR (fun x3 => R.bind (l_cell script1 x3) fun c4 => R.ok c4) r2) fun c5 =>
  R.bind (catR c5 ((cutL script1 none (some ((60 : Int)))))) fun c6 =>
  R.bind (R.ok c6) fun cells7 =>
  R.bind (rng3R ((0 : Int)) (((cells7.length : Int) - (1 : Int))) ((2 : Int))) fun r8 =>
  R.bind (R.forX (fun (x9 : Int) (s10 : Unit) => (R.bind (atR cells7 x9) fun it11 => R.bind (l_spread it11 x9) fun s12 => R.bind (l_part s12) fun p13 => R.bind (R.ok p13) fun s14 => R.bind (atR cells7 ((x9 + (1 : Int)))) fun it15 => R.bind (l_spread it15 ((x9 + (1 : Int)))) fun s16 => R.bind (l_ink s16) fun i17 => R.bind (R.ok i17) fun ink18 => R.bind (p_ink_film s14 ink18) fun ink_fi19 => R.bind (l_ink_film s14 ink18) fun i20 => R.bind (l_like ink_fi19 i20) fun l21 => if (!l21) = true then (R.ok (Sum.inr false)) else (R.bind (mkQ ((0 : Int)) ((1 : Int))) fun q22 => R.bind (R.ok q22) fun nought23 => R.bind (p_rub_film s14) fun rub_fi24 => R.bind (mkQ ((1 : Int)) ((1 : Int))) fun q25 => R.bind (l_minus q25 s14) fun m26 => R.bind (l_like rub_fi24 ([m26, nought23, nought23, nought23, nought23])) fun l27 => if (!l27) = true then (R.ok (Sum.inr false)) else (R.bind (p_ink_film nought23 ink18) fun ink_fi28 => R.bind (p_clear_film) fun clear29 => if (!decide (ink_fi28 = clear29)) = true then (R.ok (Sum.inr false)) else (R.ok (Sum.inl (()))))) : R (Sum Unit Bool))) r8 (())) fun r30 =>
  R.caseX r30 (fun s31 => R.bind (mkQ ((0 : Int)) ((1 : Int))) fun q33 => R.bind (p_rub_film q33) fun rub_fi34 => R.bind (p_clear_film) fun clear35 => R.ok ((decide (rub_fi34 = clear35)))) (fun b32 => R.ok b32)
end Pg

set_option Elab.async false
set_option linter.all false
namespace Pg
/-! ### the laws' own ratios -/
theorem l_low_ok {a b : Int} (hb : 0 < b) : l_low a b = .ok (Rat.divInt a b) := by
  unfold l_low
  rw [bind_ok, bind_ok, gcdR_ok (absZ_nn a) (by omega), bind_ok]
  have hg : Int.gcd (absZ a) b = Int.gcd a b := by rw [absZ_eq, Int.gcd_eq_natAbs_gcd_natAbs, Int.natAbs_natCast]; rfl
  obtain ⟨h1, h2⟩ := mkQ_divInt (a := a) (b := b) (by omega)
  rw [if_neg (by omega)] at h1 h2
  rw [hg, h1, bind_ok, h2, bind_ok, mkQ_self, bind_ok]
theorem dens_pos (p q : Rat) : (0 : Int) < (p.den : Int) * q.den := by
  have h1 := p.den_pos; have h2 := q.den_pos
  exact Int.mul_pos (by omega) (by omega)
theorem l_plus_ok {n m : Nat} {p q : Rat} (hp : SQ n p) (hq : SQ m q) (h : n + m < 134000000) : l_plus p q = .ok (p + q) := by
  unfold l_plus
  rw [mulR_ok hp.1 hq.2 h, bind_ok, mulR_ok hq.1 hp.2 (by omega), bind_ok, mulR_ok hp.2 hq.2 h, bind_ok, l_low_ok (dens_pos p q), bind_ok, ← add_divInt]
theorem l_minus_ok {n m : Nat} {p q : Rat} (hp : SQ n p) (hq : SQ m q) (h : n + m < 134000000) : l_minus p q = .ok (p - q) := by
  unfold l_minus
  rw [mulR_ok hp.1 hq.2 h, bind_ok, mulR_ok hq.1 hp.2 (by omega), bind_ok, mulR_ok hp.2 hq.2 h, bind_ok, l_low_ok (dens_pos p q), bind_ok, ← sub_divInt]
theorem l_times_ok {n m : Nat} {p q : Rat} (hp : SQ n p) (hq : SQ m q) (h : n + m < 134000000) : l_times p q = .ok (p * q) := by
  unfold l_times
  rw [mulR_ok hp.1 hq.1 h, bind_ok, mulR_ok hp.2 hq.2 h, bind_ok, l_low_ok (dens_pos p q), bind_ok, ← mul_divInt]
theorem l_whole_ok (i : Int) : l_whole i = .ok true := rfl
/-- the look at ratios -/
theorem l_like_ok (xs : List Rat) : l_like xs xs = .ok true := by
  unfold l_like
  have e : ((!true) || (!decide ((xs.length : Int) = (xs.length : Int)))) = false := by simp
  rw [e, if_ok_f, forX_all (fun x _ => ?_), bind_ok, caseX_l, decide_eq_true rfl]
  rw [show ((!true) || (!decide ((2 : Int) = (2 : Int)))) = false by decide, if_ok_f, forX_all (fun y _ => ?_)]
  · rfl
  · rw [l_whole_ok]; rfl
/-- cells -/
theorem l_spread_ok {n m : Nat} {c k : Int} (hc : S n c) (hk : S m k) (hm : m ≤ 1000) : Ok (l_spread c k) (S (max n 20)) := by
  unfold l_spread
  refine .iteB (fun h => ?_) fun _ => .pure (hc.mono (Nat.le_max_left _ _))
  simp only [Bool.and_eq_true, decide_eq_true_eq] at h
  have s1 : S 11 (c + 1000) := by unfold S; omega
  refine .step (mulR_ok (a := 6) (by decide) hk (by omega)) (.step (mulR_ok (b := m + 18) s1 ?_ (by omega)) (.step (mulR_ok (a := 10) (by decide) hk (by omega)) (.step (mulR_ok (a := m + 40) (b := 16) ?_ (by decide) (by omega)) (.pure ?_))))
  · exact (s1.add ((show S 6 37 by decide).mul hk)).mono (by omega)
  · have h1 : S (m + 30) ((c + 1000) * (c + 1000 + 37 * k)) := (s1.mul ((s1.add ((show S 6 37 by decide).mul hk)))).mono (by omega)
    exact (h1.add ((show S 10 911 by decide).mul hk)).mono (by omega)
  · exact (S_emod (n := 20) (i := ((c + 1000) * (c + 1000 + 37 * k) + 911 * k) * 48271) 1000003 (by decide) (by decide)).mono (Nat.le_max_right _ _)
/-- the cells of a law: the first ones, then those of the script -/
theorem cells_ok {ns : List Int} (hb : Bits ns) {i : Int} (h0 : 0 ≤ i) (hn : i ≤ 1000) {xs : List Int} (hx : ∀ z ∈ xs, z ∈ ns) (hl : xs.length ≤ 1000) {β : Type} {k : List Int → R β} {Q : β → Prop} (hQ : ∀ cs : List Int, (cs.length : Int) = i + xs.length → (∀ c ∈ cs, S 1048577 c) → Ok (k cs) Q) :
    Ok (R.bind (rngR 0 i) fun r => R.bind (R.compR (fun x => R.bind (l_cell ns x) fun c => R.ok c) r) fun c => R.bind (catR c xs) k) Q := by
  refine .step (rngR_ok (by decide) (by decide) (by omega) (by omega)) ?_
  have hlen : ((List.range (i - 0).toNat).map fun k => (0 : Int) + (k : Nat)).length = i.toNat := by simp
  refine .bind (.compR (P := fun _ c => S 1048577 c) (by rw [hlen]; omega) fun x hx => ?_) fun cs hcs => ?_
  · have := rng_mem hx
    obtain ⟨c, e, s⟩ := l_cell_ok hb (k := x) (by omega) (by omega)
    exact .step e (.pure s)
  · have h1 := all_of (Q := S 1048577) hcs fun _ _ _ h => h
    have h2 := hcs.1
    rw [hlen] at h2
    refine .step (catR_ok (by omega)) (hQ _ (by rw [List.length_append, h2]; omega) fun c hc => ?_)
    rcases List.mem_append.mp hc with h | h
    · exact h1 c h
    · exact .of_log (hb c (hx c h))
/-- a list's item, all of which are alike -/
theorem at_all {α : Type} {xs : List α} {i : Int} {P : α → Prop} (h : ∀ x ∈ xs, P x) (h0 : 0 ≤ i) (h1 : i < xs.length) : Ok (atR xs i) P := by
  obtain ⟨x, gx, ax⟩ := atR_int h0 h1
  exact ⟨x, ax, h x (List.mem_of_getElem? gx)⟩
/-- the end of a loop that only looks -/
theorem Ok.caseU {β γ : Type} {m : R (Sum Unit β)} {k1 : Unit → R γ} {k2 : β → R γ} {Q : γ → Prop} (h : Ok m (· = .inl ())) (hk : Ok (k1 ()) Q) : Ok (R.bind m fun r => R.caseX r k1 k2) Q := .bind h fun r e => by rw [e, caseX_l]; exact hk
theorem Ok.forU {α β : Type} {f : α → Unit → R (Sum Unit β)} {xs : List α} (h : ∀ x ∈ xs, Ok (f x ()) (· = .inl ())) : Ok (R.forX f xs ()) (· = .inl ()) :=
  .eq (forX_all fun x hx => by obtain ⟨r, e, q⟩ := h x hx; rw [e, q]) rfl
theorem mem_cut {α : Type} {xs : List α} {lo hi : Option Int} {x : α} (h : x ∈ cutL xs lo hi) : x ∈ xs := by
  unfold cutL at h
  exact List.mem_of_mem_drop (List.mem_of_mem_take h)
theorem cut_len {α : Type} (xs : List α) (lo hi : Option Int) : (cutL xs lo hi).length ≤ xs.length := by
  unfold cutL
  rw [List.length_take, List.length_drop]; omega
theorem rng3_mem {i j c x : Int} (hc : 0 < c) (h : x ∈ (List.range (stepN i j c)).map fun k => i + (k : Nat) * c) : i ≤ x ∧ x < j := by
  obtain ⟨k, hk, e⟩ := List.mem_map.mp h
  have hk := List.mem_range.mp hk
  unfold stepN at hk
  rw [if_pos hc] at hk
  split at hk
  · have h0 := Int.ediv_nonneg (a := j - i - 1) (b := c) (by omega) (by omega)
    have h1 : (k : Int) ≤ (j - i - 1) / c := by omega
    have h2 : (k : Int) * c ≤ j - i - 1 := (Int.le_ediv_iff_mul_le hc).mp h1
    have h3 : 0 ≤ (k : Int) * c := Int.mul_nonneg (by omega) (by omega)
    omega
  · omega
theorem rng3R_ok {i j c : Int} (h0 : 0 < c) (hc : c < 1073741824) (h1 : -(2 ^ 61) ≤ i) (h2 : i < 2 ^ 61) (h3 : -(2 ^ 61) ≤ j) (h4 : j < 2 ^ 61) : rng3R i j c = .ok ((List.range (stepN i j c)).map fun k => i + (k : Nat) * c) := by
  unfold rng3R; rw [if_pos ⟨by omega, by omega, h1, h2, h3, h4⟩]
/-- a drawn part: from 0 to 1 -/
def Part (n : Nat) (q : Rat) : Prop := SQ n q ∧ 0 ≤ q ∧ q ≤ 1
theorem Part.mono {a b : Nat} {q : Rat} (h : Part a q) (l : a ≤ b) : Part b q := ⟨h.1.mono l, h.2⟩
theorem Part.zero (n : Nat) : Part (n + 1) 0 := ⟨SQ_zero n, by decide, by decide⟩
theorem Part.one (n : Nat) : Part (n + 1) 1 := ⟨SQ_one n, by decide, by decide⟩
theorem divInt_nonneg {a b : Int} (h : 0 ≤ a) (k : 0 < b) : 0 ≤ Rat.divInt a b := by
  rw [Rat.divInt_nonneg_iff_of_pos_right k]; exact h
theorem divInt_le_one {a b : Int} (h : a ≤ b) (k : 0 < b) : Rat.divInt a b ≤ 1 := by
  have e : (1 : Rat) = Rat.divInt b b := by
    rw [show (1 : Rat) = Rat.divInt 1 1 by rfl]
    exact (Rat.divInt_eq_divInt_iff (by decide) (by omega)).mpr (by omega)
  have h2 : Rat.divInt b b - Rat.divInt a b = Rat.divInt (b - a) b := by
    rw [Rat.divInt_sub_divInt _ _ (by omega) (by omega)]
    exact (Rat.divInt_eq_divInt_iff (Int.mul_ne_zero (by omega) (by omega)) (by omega)).mpr (by rw [← Int.sub_mul, Int.mul_assoc])
  have h3 := divInt_nonneg (a := b - a) (b := b) (by omega) k
  rw [← h2, ← e] at h3
  grind
theorem part_low {n : Nat} {a b : Int} (h0 : 0 ≤ a) (h : a ≤ b) (k : 0 < b) (hs : S n b) : Ok (l_low a b) (Part n) := by
  refine .eq (l_low_ok k) ⟨SQ_divInt (by omega) ?_ hs, divInt_nonneg h0 k, divInt_le_one h k⟩
  unfold S at *; omega
theorem l_part_ok {n : Nat} {c : Int} (hc : S n c) (hn : n ≤ 100000000) : Ok (l_part c) (Part 70) := by
  unfold l_part
  have m12 := Int.emod_nonneg c (show (12 : Int) ≠ 0 by decide)
  have l12 := Int.emod_lt_of_pos c (show (0 : Int) < 12 by decide)
  refine .one (.one (.bind (P := fun b => 0 < b ∧ b ≤ 100000000000000000000) (.ite (fun _ => .one (.pure ?_)) fun _ => .pure (by omega)) fun b hb => .one ?_))
  · have h1 := Int.emod_nonneg (c / 12 / 8) (show (100000000000000000000 : Int) ≠ 0 by decide)
    have h2 := Int.emod_lt_of_pos (c / 12 / 8) (show (0 : Int) < 100000000000000000000 by decide)
    omega
  · refine .ite (fun _ => .step mkQ_zero (.pure (Part.zero 69))) fun _ => .ite (fun _ => .step mkQ_one (.pure (Part.one 69))) fun _ => ?_
    have s1 : S n (c / 12 / 9) := S_ediv (by decide) (S_ediv (by decide) hc)
    refine .step (mulR_ok (b := 16) s1 (by decide) (by omega)) (.step (fmodR_ok (by omega)) ?_)
    rw [Int.fmod_eq_emod_of_nonneg _ (by omega)]
    have h1 := Int.emod_nonneg (c / 12 / 9 * 48271) (show b + 1 ≠ 0 by omega)
    have h2 := Int.emod_lt_of_pos (c / 12 / 9 * 48271) (show 0 < b + 1 by omega)
    exact .bind (part_low h1 (by omega) hb.1 (by unfold S; omega)) fun _ h => .pure h
theorem at0 {α : Type} (x : α) (xs : List α) : atR (x :: xs) 0 = .ok x := atR_nat (k := 0) rfl
theorem at1 {α : Type} (x y : α) (xs : List α) : atR (x :: y :: xs) 1 = .ok y := atR_nat (k := 1) rfl
theorem at2 {α : Type} (x y z : α) (xs : List α) : atR (x :: y :: z :: xs) 2 = .ok z := atR_nat (k := 2) rfl
theorem at3 {α : Type} (x y z u : α) (xs : List α) : atR (x :: y :: z :: u :: xs) 3 = .ok u := atR_nat (k := 3) rfl
theorem at4 {α : Type} (x y z u v : α) (xs : List α) : atR (x :: y :: z :: u :: v :: xs) 4 = .ok v := atR_nat (k := 4) rfl
end Pg

set_option Elab.async false
set_option linter.all false
namespace Pg
/-! ### the laws' second ratios -/
theorem l_ratio3_ok {a b : Int} (hb : b ≠ 0) : l_ratio_3 a b = .ok (Rat.divInt a b) := by
  unfold l_ratio_3
  rw [bind_ok, bind_ok, gcdR_ok (absZ_nn b) (absZ_nn a), bind_ok]
  have hg : Int.gcd (absZ b) (absZ a) = Int.gcd a b := by
    rw [Int.gcd_comm, absZ_eq, absZ_eq, Int.gcd_eq_natAbs_gcd_natAbs, Int.natAbs_natCast, Int.natAbs_natCast]; rfl
  rw [hg]
  obtain ⟨h1, h2⟩ := mkQ_divInt (a := a) (b := b) hb
  by_cases hn : b < 0
  · rw [if_pos hn] at h1 h2
    rw [decide_eq_true hn, if_ok_t, bind_ok, bind_ok, h1, bind_ok, h2, bind_ok, mkQ_self, bind_ok]
  · rw [if_neg hn] at h1 h2
    rw [decide_eq_false hn, if_ok_f, bind_ok, h1, bind_ok, h2, bind_ok, mkQ_self, bind_ok]
theorem l_plus2_ok {n m : Nat} {p q : Rat} (hp : SQ n p) (hq : SQ m q) (h : n + m < 134000000) : l_plus_2 p q = .ok (p + q) := by
  unfold l_plus_2
  rw [mulR_ok hp.1 hq.2 h, bind_ok, mulR_ok hq.1 hp.2 (by omega), bind_ok, mulR_ok hp.2 hq.2 h, bind_ok, l_ratio3_ok (dens_ne p q), bind_ok, ← add_divInt]
theorem l_minus2_ok {n m : Nat} {p q : Rat} (hp : SQ n p) (hq : SQ m q) (h : n + m < 134000000) : l_minus_2 p q = .ok (p - q) := by
  unfold l_minus_2
  rw [mulR_ok hp.1 hq.2 h, bind_ok, mulR_ok hq.1 hp.2 (by omega), bind_ok, mulR_ok hp.2 hq.2 h, bind_ok, l_ratio3_ok (dens_ne p q), bind_ok, ← sub_divInt]
theorem l_times2_ok {n m : Nat} {p q : Rat} (hp : SQ n p) (hq : SQ m q) (h : n + m < 134000000) : l_times_2 p q = .ok (p * q) := by
  unfold l_times_2
  rw [mulR_ok hp.1 hq.1 h, bind_ok, mulR_ok hp.2 hq.2 h, bind_ok, l_ratio3_ok (dens_ne p q), bind_ok, ← mul_divInt]
theorem l_is2_ok (q : Rat) : l_is_2 q q = .ok true := by
  unfold l_is_2
  rw [l_whole_ok, l_whole_ok]
  show R.ok (decide (q = q)) = _
  rw [decide_eq_true rfl]
/-! ### drawn numbers, points, lines -/
theorem l_number2_ok {n : Nat} {c : Int} : Ok (l_number_2 c) (SQ 50) := by
  unfold l_number_2
  have m1 := Int.emod_nonneg (c / 8) (show (2000000000000 : Int) ≠ 0 by decide)
  have m2 := Int.emod_lt_of_pos (c / 8) (show (0 : Int) < 2000000000000 by decide)
  have m3 := Int.emod_nonneg (c / 8) (show (7 : Int) ≠ 0 by decide)
  have m4 := Int.emod_lt_of_pos (c / 8) (show (0 : Int) < 7 by decide)
  have m5 := Int.emod_nonneg (c / 8) (show (29 : Int) ≠ 0 by decide)
  have m6 := Int.emod_lt_of_pos (c / 8) (show (0 : Int) < 29 by decide)
  have m7 := Int.emod_nonneg c (show (8 : Int) ≠ 0 by decide)
  have m8 := Int.emod_lt_of_pos c (show (0 : Int) < 8 by decide)
  refine .ite (fun _ => ?_) fun h => ?_
  · exact .step (l_ratio3_ok (by omega)) (.pure (SQ_divInt (by omega) (by unfold S; omega) (by unfold S; omega)))
  · refine .bind (at_all (P := fun x => 0 < x ∧ x ≤ 6) (fun x hx => ?_) m7 ?_) fun x hx => ?_
    · simp at hx; omega
    · show c % 8 < 7
      omega
    · exact .step (l_ratio3_ok (by omega)) (.pure (SQ_divInt (by omega) (by unfold S; omega) (by unfold S; omega)))
theorem l_at_ok {ns : List Int} (hb : Bits ns) {k : Int} (h0 : 0 ≤ k) (h1 : k < 1000000) : Ok (l_at ns k) (SQ 50) := by
  unfold l_at
  obtain ⟨c, ec, sc⟩ := l_cell_ok hb h0 h1
  exact .step ec (.bind (l_spread_ok sc (show S 20 k by unfold S; omega) (by decide)) fun d hd => .bind (l_number2_ok (n := 0)) fun q hq => .pure hq)
/-- a line's or a point's numbers -/
def SP (n : Nat) (p : Rat × Rat) : Prop := SQ n p.1 ∧ SQ n p.2
def SL (n : Nat) (l : Rat × Rat × Rat) : Prop := SQ n l.1 ∧ SQ n l.2.1 ∧ SQ n l.2.2
theorem SP.mono {a b : Nat} {p : Rat × Rat} (h : SP a p) (l : a ≤ b) : SP b p := ⟨h.1.mono l, h.2.mono l⟩
theorem SL.mono {a b : Nat} {p : Rat × Rat × Rat} (h : SL a p) (l : a ≤ b) : SL b p := ⟨h.1.mono l, h.2.1.mono l, h.2.2.mono l⟩
theorem set_all {α : Type} {xs : List α} {i : Int} {x : α} {P : α → Prop} (h : ∀ y ∈ xs, P y) (hx : P x) (h0 : 0 ≤ i) (h1 : i < xs.length) : Ok (setR xs i x) (fun ys => ys.length = xs.length ∧ ∀ y ∈ ys, P y) := by
  have := ixP_nat (n := xs.length) (k := i.toNat) (by omega)
  rw [Int.toNat_of_nonneg h0] at this
  refine ⟨xs.set i.toNat x, by unfold setR; rw [this], by rw [List.length_set], fun y hy => ?_⟩
  rcases List.mem_or_eq_of_mem_set hy with h' | h'
  · exact h y h'
  · rw [h']; exact hx
theorem l_line_ok {ns : List Int} (hb : Bits ns) {k : Int} (h0 : 0 ≤ k) (h1 : k < 100000) : Ok (l_line ns k) (SL 50) := by
  unfold l_line
  obtain ⟨c0, e0, s0⟩ := l_cell_ok hb (k := k) h0 (by omega)
  obtain ⟨c2, e2, s2⟩ := l_cell_ok hb (k := k + 2) (by omega) (by omega)
  have m1 := Int.emod_nonneg c0 (show (5 : Int) ≠ 0 by decide)
  refine .one (.step (rngR_ok (by decide) (by decide) (by decide) (by decide)) ?_)
  refine .bind (.forR (fun i f => f.length = i ∧ ∀ x ∈ f, SQ 50 x) ⟨rfl, fun x hx => nomatch hx⟩ fun i f x hf hx => ?_) fun f hf => .step e0 ?_
  · obtain ⟨e, hx3⟩ := rng_at hx
    obtain ⟨c, ec, sc⟩ := l_cell_ok hb (k := k + x) (by omega) (by omega)
    refine .step ec (.bind (l_spread_ok sc (show S 20 (x + 40) by unfold S; omega) (by decide)) fun d hd => .one ?_)
    have q1 := Int.emod_nonneg d (show (9 : Int) ≠ 0 by decide)
    have q2 := Int.emod_lt_of_pos d (show (0 : Int) < 9 by decide)
    have q3 := Int.emod_nonneg (d / 9) (show (3 : Int) ≠ 0 by decide)
    have q4 := Int.emod_lt_of_pos (d / 9) (show (0 : Int) < 3 by decide)
    refine .step (l_ratio3_ok (by omega)) (.step (appR_ok (by rw [hf.1]; omega)) (.pure ⟨by simp [hf.1], fun y hy => ?_⟩))
    rcases List.mem_append.mp hy with h | h
    · exact hf.2 y h
    · simp at h; subst h; exact SQ_divInt (by omega) (by unfold S; omega) (by unfold S; omega)
  · have hl : f.length = 3 := hf.1
    refine .bind (P := fun f : List Rat => f.length = 3 ∧ ∀ x ∈ f, SQ 50 x) (.ite (fun h => ?_) fun _ => .pure ⟨hl, hf.2⟩) fun f2 h2 => .step e2 ?_
    · exact .step mkQ_zero (.step e0 (.bind (set_all hf.2 (SQ_zero 49) m1 (by rw [hl]; omega)) fun y hy => .pure ⟨by rw [hy.1, hl], hy.2⟩))
    · refine .bind (P := fun f : List Rat => f.length = 3 ∧ ∀ x ∈ f, SQ 50 x) (.ite (fun h => ?_) fun _ => .pure h2) fun f3 h3 => ?_
      · exact .step e2 (.bind (l_number2_ok (n := 0)) fun q hq => .bind (set_all h2.2 hq (by decide) (by rw [h2.1]; decide)) fun y hy => .pure ⟨by rw [hy.1, h2.1], hy.2⟩)
      · match f3, h3 with
        | [a, b, c], h3 => exact .one (.pure ⟨h3.2 a (by simp), h3.2 b (by simp), h3.2 c (by simp)⟩)
/-- how high a point lies over a line -/
def hgt (l : Rat × Rat × Rat) (p : Rat × Rat) : Rat := l.1 * p.1 + l.2.1 * p.2 - l.2.2
theorem SQ_hgt {n m : Nat} {l : Rat × Rat × Rat} {p : Rat × Rat} (hl : SL n l) (hp : SP m p) : SQ (3 * n + 2 * m + 4) (hgt l p) :=
  (((hl.1.mul hp.1).add (hl.2.1.mul hp.2)).sub hl.2.2).mono (by omega)
theorem l_over_ok {n m : Nat} {l : Rat × Rat × Rat} {p : Rat × Rat} (hl : SL n l) (hp : SP m p) (h : 3 * n + 2 * m + 4 < 134000000) : l_over l p = .ok (hgt l p) := by
  unfold l_over
  rw [l_times2_ok hl.1 hp.1 (by omega), bind_ok, l_times2_ok hl.2.1 hp.2 (by omega), bind_ok, l_plus2_ok (hl.1.mul hp.1) (hl.2.1.mul hp.2) (by omega), bind_ok, l_minus2_ok ((hl.1.mul hp.1).add (hl.2.1.mul hp.2)) hl.2.2 (by omega), bind_ok]
  rfl
theorem p_height_ok {n m : Nat} {l : Rat × Rat × Rat} {p : Rat × Rat} (hl : SL n l) (hp : SP m p) (h : 3 * n + 2 * m + 4 < 134000000) : p_height_over l p = .ok (hgt l p) := by
  unfold p_height_over
  rw [p_times_ok hl.1 hp.1 (by omega), bind_ok, p_times_ok hl.2.1 hp.2 (by omega), bind_ok, p_plus_ok (hl.1.mul hp.1) (hl.2.1.mul hp.2) (by omega), bind_ok, p_minus_ok ((hl.1.mul hp.1).add (hl.2.1.mul hp.2)) hl.2.2 (by omega), bind_ok]
  rfl
def turnL (l : Rat × Rat × Rat) : Rat × Rat × Rat := (-l.1, -l.2.1, -l.2.2)
theorem SL.turn {n : Nat} {l : Rat × Rat × Rat} (h : SL n l) : SL n (turnL l) := ⟨h.1.neg, h.2.1.neg, h.2.2.neg⟩
theorem p_against_ok {n : Nat} {l : Rat × Rat × Rat} (hl : SL n l) (h : n < 100000000) : p_against l = .ok (turnL l) := by
  unfold p_against
  rw [p_minus_ok (SQ_zero 0) hl.1 (by omega), bind_ok, p_minus_ok (SQ_zero 0) hl.2.1 (by omega), bind_ok, p_minus_ok (SQ_zero 0) hl.2.2 (by omega), bind_ok]
  unfold turnL
  have e : ∀ q : Rat, 0 - q = -q := fun q => by grind
  rw [e, e, e]
theorem hgt_turn (l : Rat × Rat × Rat) (p : Rat × Rat) : hgt (turnL l) p = -hgt l p := by unfold hgt turnL; grind
end Pg

set_option Elab.async false
set_option linter.all false
namespace Pg

/-! mirrors of the defs of k06, printed by pygen -/
def p_sides (ring1 : (List (Rat × Rat))) : R ((List ((Rat × Rat) × (Rat × Rat)))) :=
  R.bind (R.ok (([] : (List ((Rat × Rat) × (Rat × Rat)))))) fun some2 =>
  R.bind (rngR 0 ((ring1.length : Int))) fun r3 =>
  R.bind (R.forR (fun (x4 : Int) (s5 : (List ((Rat × Rat) × (Rat × Rat)))) => R.bind (atR ring1 x4) fun it6 => R.bind (fmodR ((x4 + (1 : Int))) ((ring1.length : Int))) fun m7 => R.bind (atR ring1 m7) fun it8 => R.bind (appR s5 ((it6, it8))) fun some9 => R.ok some9) r3 some2) fun s10 =>
  R.ok s10
def p_area (ring1 : (List (Rat × Rat))) : R Rat :=
  R.bind (mkQ ((0 : Int)) ((1 : Int))) fun q2 =>
  R.bind (R.ok q2) fun come3 =>
  R.bind (p_sides ring1) fun sides4 =>
  R.bind (R.forR (fun (x5 : ((Rat × Rat) × (Rat × Rat))) (s6 : Rat) => R.bind (p_times x5.1.1 x5.2.2) fun times7 => R.bind (p_times x5.2.1 x5.1.2) fun times8 => R.bind (p_minus times7 times8) fun minus9 => R.bind (p_plus s6 minus9) fun plus10 => R.bind (R.ok plus10) fun come11 => R.ok come11) sides4 come3) fun s12 =>
  R.bind (mkQ ((1 : Int)) ((2 : Int))) fun q13 =>
  R.bind (p_times s12 q13) fun times14 =>
  R.ok times14
def l_number (cell1 : Int) : R Rat :=
  if (decide ((cell1 % (8 : Int)) = (7 : Int))) = true then (R.bind (mkQ ((((cell1 / (8 : Int)) % (2000000000000 : Int)) - (1000000000000 : Int))) ((1 : Int))) fun q2 => R.ok q2) else (R.bind (l_ratio ((((cell1 / (8 : Int)) % (61 : Int)) - (20 : Int))) (((1 : Int) + ((cell1 / (488 : Int)) % (6 : Int))))) fun r3 => R.ok r3)
def l_ring (script1 : (List Int)) (at2 : Int) (many3 : Int) : R ((List (Rat × Rat))) :=
  R.bind (R.ok (([] : (List (Rat × Rat))))) fun ring4 =>
  R.bind (rngR 0 many3) fun r5 =>
  R.bind (R.forR (fun (x6 : Int) (s7 : (List (Rat × Rat))) => R.bind (mulR ((2 : Int)) x6) fun p8 => R.bind (l_cell script1 ((at2 + p8))) fun c9 => R.bind (l_number c9) fun n10 => R.bind (R.ok n10) fun x11 => R.bind (mulR ((2 : Int)) x6) fun p12 => R.bind (l_cell script1 (((at2 + p12) + (1 : Int)))) fun c13 => R.bind (l_number c13) fun n14 => R.bind (R.ok n14) fun y15 => R.bind (appR s7 ((x11, y15))) fun ring16 => R.ok ring16) r5 ring4) fun s17 =>
  R.ok s17
def l_points (script1 : (List Int)) : R ((List (Rat × Rat))) :=
  R.bind (l_cell script1 ((0 : Int))) fun c2 =>
  R.bind (R.ok (((c2 / (6 : Int)) % (9 : Int)))) fun many3 =>
  R.bind (l_cell script1 ((0 : Int))) fun c4 =>
  R.bind (if (decide ((c4 % (6 : Int)) = (0 : Int))) = true then (R.bind (l_cell script1 ((0 : Int))) fun c6 => R.bind (R.ok (((c6 / (6 : Int)) % (41 : Int)))) fun many7 => R.ok many7) else (R.ok many3) : R Int) fun st5 =>
  R.bind (l_ring script1 ((3 : Int)) st5) fun r8 =>
  R.bind (R.ok r8) fun ring9 =>
  R.bind (R.andR ((decide (st5 > (0 : Int)))) (R.bind (R.andR ((decide (st5 < (40 : Int)))) (R.bind (l_cell script1 ((1 : Int))) fun c10 => R.ok ((decide ((c10 % (4 : Int)) = (0 : Int)))))) fun b11 => R.ok b11)) fun b12 =>
  R.bind (if b12 = true then (R.bind (l_cell script1 ((1 : Int))) fun c14 => R.bind (fmodR ((c14 / (4 : Int))) st5) fun m15 => R.bind (R.ok m15) fun at16 => R.bind (l_cell script1 ((2 : Int))) fun c17 => R.bind (fmodR c17 st5) fun m18 => R.bind (R.ok m18) fun behind19 => R.bind (atR ring9 at16) fun it20 => R.bind (insR ring9 ((behind19 + (1 : Int))) it20) fun ring21 => R.ok ring21) else (R.ok ring9) : R ((List (Rat × Rat)))) fun st13 =>
  R.ok st13
def l_twice (ring1 : (List (Rat × Rat))) : R Int :=
  R.bind (R.ok ((0 : Int))) fun some2 =>
  R.bind (rngR 0 ((ring1.length : Int))) fun r3 =>
  R.bind (R.forR (fun (x4 : Int) (s5 : Int) => R.bind (atR ring1 x4) fun it6 => R.bind (R.ok it6) fun one7 => R.bind (fmodR ((x4 + (1 : Int))) ((ring1.length : Int))) fun m8 => R.bind (atR ring1 m8) fun it9 => R.bind (R.ok it9) fun other10 => R.bind (R.compR (fun x11 => R.bind (fdivR ((60 : Int)) ((x11.den : Int))) fun q12 => R.bind (mulR x11.num q12) fun p13 => R.ok p13) ([one7.1, one7.2])) fun c14 => R.bind (R.ok c14) fun a15 => R.bind (R.compR (fun x16 => R.bind (fdivR ((60 : Int)) ((x16.den : Int))) fun q17 => R.bind (mulR x16.num q17) fun p18 => R.ok p18) ([other10.1, other10.2])) fun c19 => R.bind (R.ok c19) fun b20 => R.bind (atR a15 ((0 : Int))) fun it21 => R.bind (atR b20 ((1 : Int))) fun it22 => R.bind (mulR it21 it22) fun p23 => R.bind (atR b20 ((0 : Int))) fun it24 => R.bind (atR a15 ((1 : Int))) fun it25 => R.bind (mulR it24 it25) fun p26 => R.bind (R.ok (((s5 + p23) - p26))) fun some27 => R.ok some27) r3 some2) fun s28 =>
  R.ok s28
def l_sides_good (found1 : (List ((Rat × Rat) × (Rat × Rat)))) (ring2 : (List (Rat × Rat))) : R Bool :=
  if ((!true) || (!decide ((found1.length : Int) = (ring2.length : Int)))) = true then (R.ok false) else (R.bind (rngR 0 ((ring2.length : Int))) fun r3 => R.bind (R.forX (fun (x4 : Int) (s5 : Unit) => (R.bind (atR found1 x4) fun it6 => R.bind (R.ok it6) fun side7 => if ((!true) || (!decide ((2 : Int) = (2 : Int)))) = true then (R.ok (Sum.inr false)) else (R.bind (atR ring2 x4) fun it8 => R.bind (R.orR ((!decide (side7.1 = it8))) (R.bind (fmodR ((x4 + (1 : Int))) ((ring2.length : Int))) fun m9 => R.bind (atR ring2 m9) fun it10 => R.ok ((!decide (side7.2 = it10))))) fun b11 => if b11 = true then (R.ok (Sum.inr false)) else (R.bind (R.forX (fun (x12 : (Rat × Rat)) (s13 : Unit) => (R.bind (R.orR ((!true)) (R.bind (l_is x12.1 x12.1.num ((x12.1.den : Int))) fun i14 => R.ok ((!i14)))) fun b15 => if b15 = true then (R.ok (Sum.inr false)) else (R.bind (l_is x12.2 x12.2.num ((x12.2.den : Int))) fun i16 => if (!i16) = true then (R.ok (Sum.inr false)) else (R.ok (Sum.inl (())))) : R (Sum Unit Bool))) ([side7.1, side7.2]) (())) fun r17 => R.caseX r17 (fun s18 => R.ok (Sum.inl (()))) (fun b19 => R.ok (Sum.inr b19)))) : R (Sum Unit Bool))) r3 (())) fun r20 => R.caseX r20 (fun s21 => R.ok true) (fun b22 => R.ok b22))
def k06_law (script1 : (List Int)) : R Bool :=
  R.bind (l_points script1) fun p2 =>
  R.bind (R.ok p2) fun ring3 =>
  R.bind (R.ok ring3) fun handed4 =>
  R.bind (p_sides handed4) fun sides5 =>
  R.bind (R.ok sides5) fun found6 =>
  R.bind (l_sides_good found6 ring3) fun s7 =>
  if ((!s7) || (!decide (handed4 = ring3))) = true then (R.ok false) else (R.bind (roomR found6) fun u8 => R.bind (p_sides handed4) fun sides9 => R.bind (l_sides_good sides9 ring3) fun s10 => if (!s10) = true then (R.ok false) else (R.bind (p_area handed4) fun area11 => R.bind (l_twice ring3) fun t12 => R.bind (l_is area11 t12 ((7200 : Int))) fun i13 => R.ok ((i13 && (decide (handed4 = ring3))))))
end Pg

set_option Elab.async false
set_option linter.all false
namespace Pg
abbrev Pt := Rat × Rat
/-! ### rings: their sides -/
def rot {α : Type} (xs : List α) : List α := xs.drop 1 ++ xs.take 1
/-- the sides, in order, the last one back to the first -/
def edges (r : List Pt) : List (Pt × Pt) := zipL r (rot r)
theorem zipL_len {α β : Type} : ∀ (xs : List α) (ys : List β), (zipL xs ys).length = min xs.length ys.length
  | [], _ => by simp [zipL]
  | _ :: _, [] => by simp [zipL]
  | x :: xs, y :: ys => by simp only [zipL, List.length_cons, zipL_len xs ys]; omega
theorem zipL_get {α β : Type} : ∀ {xs : List α} {ys : List β} {i : Nat} {x : α} {y : β}, xs[i]? = some x → ys[i]? = some y → (zipL xs ys)[i]? = some (x, y)
  | [], _, _, _, _, h, _ => by simp at h
  | _ :: _, [], _, _, _, _, h => by simp at h
  | x :: xs, y :: ys, 0, a, b, h1, h2 => by simp at h1 h2; subst h1 h2; simp [zipL]
  | x :: xs, y :: ys, i + 1, a, b, h1, h2 => by
    simp [zipL]
    exact zipL_get (by simpa using h1) (by simpa using h2)
theorem rot_len {α : Type} (xs : List α) : (rot xs).length = xs.length := by
  cases xs with
  | nil => rfl
  | cons x xs => simp [rot]
theorem edges_len (r : List Pt) : (edges r).length = r.length := by
  unfold edges
  rw [zipL_len, rot_len, Nat.min_self]
theorem rot_get {α : Type} {xs : List α} {i : Nat} (h : i < xs.length) : (rot xs)[i]? = xs[(i + 1) % xs.length]? := by
  cases xs with
  | nil => simp at h
  | cons x xs =>
    simp only [rot, List.drop_succ_cons, List.drop_zero, List.take_succ_cons, List.take_zero, List.length_cons] at *
    by_cases h1 : i < xs.length
    · rw [List.getElem?_append_left h1, Nat.mod_eq_of_lt (by omega), List.getElem?_cons_succ]
    · have e : i = xs.length := by omega
      subst e
      rw [List.getElem?_append_right (Nat.le_refl _), Nat.sub_self, Nat.mod_self]
      rfl
/-- the i-th side's ends, as the code reads them -/
theorem ring_at {r : List Pt} {i : Nat} {x : Int} (h : x = i) (hi : i < r.length) : ∃ p q, (edges r)[i]? = some (p, q) ∧ atR r x = .ok p ∧ fmodR (x + 1) (r.length : Int) = .ok (((i + 1) % r.length : Nat) : Int) ∧ atR r (((i + 1) % r.length : Nat) : Int) = .ok q ∧ p ∈ r ∧ q ∈ r := by
  subst h
  have hp : r[i]? = some r[i] := List.getElem?_eq_getElem hi
  have hj : (i + 1) % r.length < r.length := Nat.mod_lt _ (by omega)
  have hq : r[(i + 1) % r.length]? = some r[(i + 1) % r.length] := List.getElem?_eq_getElem hj
  refine ⟨r[i], r[(i + 1) % r.length], zipL_get hp (by rw [rot_get hi]; exact hq), atR_nat hp, ?_, atR_nat hq, List.getElem_mem hi, List.getElem_mem hj⟩
  rw [fmodR_ok (by omega), Int.fmod_eq_emod_of_nonneg _ (by omega)]
  rfl
theorem edges_mem {r : List Pt} {e : Pt × Pt} (h : e ∈ edges r) : e.1 ∈ r ∧ e.2 ∈ r := by
  obtain ⟨i, hi, he⟩ := List.mem_iff_getElem.mp h
  rw [edges_len] at hi
  obtain ⟨p, q, e1, _, _, _, h1, h2⟩ := ring_at (r := r) (i := i) rfl hi
  have e2 : (edges r)[i]? = some e := by rw [← he]; exact List.getElem?_eq_getElem (by rw [edges_len]; exact hi)
  rw [e1] at e2
  cases e2
  exact ⟨h1, h2⟩
theorem take_more {α : Type} {xs : List α} {i : Nat} {x : α} (h : xs[i]? = some x) : xs.take (i + 1) = xs.take i ++ [x] := by
  rw [List.take_add_one, h]; rfl
/-! ### loops over the sides of a ring -/
/-- a loop over the places of a ring is one over its sides -/
theorem ring_loop {T : Type} {r : List Pt} (hr : r.length < 16777216) {f : Int → T → R T} {s0 : T} (P : List (Pt × Pt) → T → Prop) (h0 : P [] s0)
    (hs : ∀ (i : Nat) (x : Int) (p q : Pt) (s : T), x = i → i < r.length → (edges r)[i]? = some (p, q) → atR r x = .ok p → fmodR (x + 1) (r.length : Int) = .ok (((i + 1) % r.length : Nat) : Int) → atR r (((i + 1) % r.length : Nat) : Int) = .ok q → p ∈ r → q ∈ r →
      P ((edges r).take i) s → Ok (f x s) (P ((edges r).take i ++ [(p, q)]))) :
    Ok (R.bind (rngR 0 (r.length : Int)) fun xs => R.forR f xs s0) (P (edges r)) := by
  refine .step (rngR_ok (by decide) (by decide) (by omega) (by omega)) ?_
  have hlen : ((List.range ((r.length : Int) - 0).toNat).map fun k => (0 : Int) + (k : Nat)).length = (edges r).length := by simp [edges_len]
  have := Ok.forR (f := f) (xs := (List.range ((r.length : Int) - 0).toNat).map fun k => (0 : Int) + (k : Nat)) (s := s0) (fun i s => P ((edges r).take i) s) h0 fun i s x hp hx => ?_
  · rw [hlen, List.take_length] at this
    exact this
  · obtain ⟨e, hx2⟩ := rng_at hx
    obtain ⟨p, q, g1, g2, g3, g4, g5, g6⟩ := ring_at (r := r) (i := i) (x := x) (by omega) (by omega)
    rw [take_more g1]
    exact hs i x p q s (by omega) (by omega) g1 g2 g3 g4 g5 g6 hp
theorem ring_step {T β : Type} {r : List Pt} {f : Int → T → R T} {s0 : T} {P : T → Prop} {k : T → R β} {Q : β → Prop} (h : Ok (R.bind (rngR 0 (r.length : Int)) fun xs => R.forR f xs s0) P) (hk : ∀ s, P s → Ok (k s) Q) :
    Ok (R.bind (rngR 0 (r.length : Int)) fun xs => R.bind (R.forR f xs s0) k) Q := by
  have e : (R.bind (rngR 0 (r.length : Int)) fun xs => R.bind (R.forR f xs s0) k) = R.bind (R.bind (rngR 0 (r.length : Int)) fun xs => R.forR f xs s0) k := by
    cases rngR 0 (r.length : Int) <;> rfl
  rw [e]
  exact .bind h hk
theorem p_sides_ok {r : List Pt} (hr : r.length < 1000000) : p_sides r = .ok (edges r) := by
  unfold p_sides
  have h : Ok (R.bind (R.ok (([] : (List ((Rat × Rat) × (Rat × Rat)))))) fun some2 => R.bind (rngR 0 ((r.length : Int))) fun r3 =>
    R.bind (R.forR (fun (x4 : Int) (s5 : (List ((Rat × Rat) × (Rat × Rat)))) => R.bind (atR r x4) fun it6 => R.bind (fmodR ((x4 + (1 : Int))) ((r.length : Int))) fun m7 => R.bind (atR r m7) fun it8 => R.bind (appR s5 ((it6, it8))) fun some9 => R.ok some9) r3 some2) fun s10 => R.ok s10) (· = edges r) := by
    refine .one (ring_step (ring_loop (by omega) (fun es s => s = es) rfl fun i x p q s hx hi g1 g2 g3 g4 g5 g6 hp => ?_) fun s e => .pure e)
    refine .step g2 (.step g3 (.step g4 (.step (appR_ok ?_) (.pure (by rw [hp])))))
    rw [hp, List.length_take, edges_len]; omega
  obtain ⟨a, e1, e2⟩ := h
  rw [e1, e2]
/-! ### areas -/
def cross (e : Pt × Pt) : Rat := e.1.1 * e.2.2 - e.2.1 * e.1.2
def areaQ (r : List Pt) : Rat := sumQ ((edges r).map cross) * (1 / 2)
theorem half_num : (1 / 2 : Rat).num = 1 := by decide +kernel
theorem half_den : (1 / 2 : Rat).den = 2 := by decide +kernel
theorem mkQ_half : mkQ 1 2 = .ok (1 / 2 : Rat) := mkQ_lit half_num (by rw [half_den]; rfl)
theorem SQ_half (n : Nat) : SQ (n + 2) (1 / 2 : Rat) := ⟨by rw [half_num]; exact S.mono (a := 1) (by decide) (by omega), by rw [half_den]; exact S.mono (a := 2) (by decide) (by omega)⟩
theorem SQ_cross {n : Nat} {e : Pt × Pt} (h1 : SP n e.1) (h2 : SP n e.2) : SQ (4 * n + 1) (cross e) := ((h1.1.mul h2.2).sub (h2.1.mul h1.2)).mono (by omega)
def SR (n : Nat) (r : List Pt) : Prop := ∀ p ∈ r, SP n p
theorem SR.mono {a b : Nat} {r : List Pt} (h : SR a r) (l : a ≤ b) : SR b r := fun p hp => (h p hp).mono l
theorem SR.cross {n : Nat} {r : List Pt} (h : SR n r) : ∀ x ∈ (edges r).map cross, SQ (4 * n + 1) x := fun x hx => by
  obtain ⟨e, he, rfl⟩ := List.mem_map.mp hx
  obtain ⟨h1, h2⟩ := edges_mem he
  exact SQ_cross (h _ h1) (h _ h2)
theorem SQ_area {n : Nat} {r : List Pt} (h : SR n r) : SQ ((4 * n + 2) * r.length + 3) (areaQ r) := by
  have := (SQ_sum h.cross).mul (SQ_half 0)
  rw [List.length_map, edges_len] at this
  exact this.mono (by rw [show 4 * n + 1 + 1 = 4 * n + 2 by omega]; omega)
theorem p_area_ok {n : Nat} {r : List Pt} (h : SR n r) (hr : r.length < 1000000) (hb : (4 * n + 2) * r.length + 4 * n + 10 < 133000000) : p_area r = .ok (areaQ r) := by
  unfold p_area
  rw [mkQ_zero, bind_ok, bind_ok, p_sides_ok hr, bind_ok]
  have key : ∀ (es : List (Pt × Pt)) (s : Rat) (m : Nat), SQ m s → (∀ e ∈ es, SP n e.1 ∧ SP n e.2) → m + (4 * n + 2) * es.length + 4 * n + 2 < 134000000 →
      R.forR (fun (x5 : ((Rat × Rat) × (Rat × Rat))) (s6 : Rat) => R.bind (p_times x5.1.1 x5.2.2) fun times7 => R.bind (p_times x5.2.1 x5.1.2) fun times8 => R.bind (p_minus times7 times8) fun minus9 => R.bind (p_plus s6 minus9) fun plus10 => R.bind (R.ok plus10) fun come11 => R.ok come11) es s = .ok (s + sumQ (es.map cross)) := by
    intro es
    induction es with
    | nil => intro s m _ _ _; show R.ok s = R.ok (s + 0); congr 1; grind
    | cons e es ih =>
      intro s m hs he hm
      rw [List.length_cons, Nat.mul_add, Nat.mul_one] at hm
      obtain ⟨h1, h2⟩ := he e List.mem_cons_self
      unfold R.forR
      have sc := SQ_cross h1 h2
      rw [p_times_ok h1.1 h2.2 (by omega), bind_ok, p_times_ok h2.1 h1.2 (by omega), bind_ok, p_minus_ok (h1.1.mul h2.2) (h2.1.mul h1.2) (by omega), bind_ok]
      show R.bind (R.bind (p_plus s (cross e)) _) _ = _
      rw [p_plus_ok hs sc (by omega), bind_ok, bind_ok, bind_ok, ih _ _ (hs.add sc) (fun e he' => he e (List.mem_cons_of_mem _ he')) (by omega)]
      congr 1
      show s + cross e + sumQ (es.map cross) = s + (cross e + sumQ (es.map cross))
      grind
  have hs := SQ_sum h.cross
  rw [List.length_map, edges_len] at hs
  rw [key (edges r) 0 1 (SQ_zero 0) (fun e he => ⟨h _ (edges_mem he).1, h _ (edges_mem he).2⟩) (by rw [edges_len]; omega), bind_ok, mkQ_half, bind_ok, show (0 : Rat) + sumQ ((edges r).map cross) = sumQ ((edges r).map cross) by grind, p_times_ok hs (SQ_half 0) (by rw [show 4 * n + 1 + 1 = 4 * n + 2 by omega]; omega), bind_ok]
  rfl
theorem l_area_ok {n : Nat} {r : List Pt} (h : SR n r) (hr : r.length < 1000000) (hb : (4 * n + 2) * r.length + 4 * n + 10 < 133000000) : l_area r = .ok (areaQ r) := by
  unfold l_area
  rw [mkQ_zero, bind_ok, bind_ok]
  have hw : ∀ k : Nat, k ≤ r.length → (4 * n + 2) * k ≤ (4 * n + 2) * r.length := fun k hk => Nat.mul_le_mul_left _ hk
  have key := ring_loop (r := r) (by omega) (f := fun (x5 : Int) (s6 : Rat) => R.bind (atR r x5) fun it7 => R.bind (R.ok it7) fun one8 => R.bind (fmodR ((x5 + (1 : Int))) ((r.length : Int))) fun m9 => R.bind (atR r m9) fun it10 => R.bind (R.ok it10) fun other11 => R.bind (l_times_2 one8.1 other11.2) fun t12 => R.bind (l_times_2 other11.1 one8.2) fun t13 => R.bind (l_minus_2 t12 t13) fun m14 => R.bind (l_plus_2 s6 m14) fun p15 => R.bind (R.ok p15) fun some16 => R.ok some16) (s0 := 0)
    (fun es s => es.length ≤ r.length ∧ SQ ((4 * n + 2) * es.length + 1) s ∧ s = sumQ (es.map cross)) ⟨Nat.zero_le _, SQ_zero _, rfl⟩ fun i x p q s hx hi g1 g2 g3 g4 g5 g6 hp => by
    obtain ⟨q0, q1, q2⟩ := hp
    have h1 := h p g5
    have h2 := h q g6
    have hl : ((edges r).take i).length = i := by rw [List.length_take, edges_len]; omega
    rw [hl] at q1
    have hi2 := hw i (by omega)
    have sc := SQ_cross (e := (p, q)) h1 h2
    refine .step g2 (.one (.step g3 (.step g4 (.one (.step (l_times2_ok h1.1 h2.2 (by omega)) (.step (l_times2_ok h2.1 h1.2 (by omega)) (.step (l_minus2_ok (h1.1.mul h2.2) (h2.1.mul h1.2) (by omega)) (.step (l_plus2_ok q1 sc (by omega)) (.one (.pure ?_))))))))))
    rw [List.length_append, hl, List.map_append, sumQ_append]
    refine ⟨by simp; omega, ?_, ?_⟩
    · exact (q1.add sc).mono (by rw [List.length_singleton, Nat.mul_add]; omega)
    · rw [q2]
      show _ + cross (p, q) = _ + (cross (p, q) + 0)
      grind
  have fin := ring_step (k := fun s17 => R.bind (mkQ ((1 : Int)) ((2 : Int))) fun q18 => R.bind (l_times_2 s17 q18) fun t19 => R.ok t19) (Q := (· = areaQ r)) key fun s hs => by
    obtain ⟨q0, q1, q2⟩ := hs
    rw [edges_len] at q1
    refine .step mkQ_half (.step (l_times2_ok q1 (SQ_half 0) (by omega)) (.pure ?_))
    rw [q2]; rfl
  obtain ⟨a, e1, e2⟩ := fin
  rw [← e2]
  exact e1
end Pg

set_option Elab.async false
set_option linter.all false
namespace Pg
abbrev Ln := Rat × Rat × Rat
/-! ### rings cut by lines -/
/-- the point where a side meets a line -/
def meet (l : Ln) (e : Pt × Pt) : Pt := (e.1.1 + hgt l e.1 / (hgt l e.1 - hgt l e.2) * (e.2.1 - e.1.1), e.1.2 + hgt l e.1 / (hgt l e.1 - hgt l e.2) * (e.2.2 - e.1.2))
/-- the side goes through the line -/
def parts (l : Ln) (e : Pt × Pt) : Bool := (decide (0 < hgt l e.1) && decide (hgt l e.2 < 0)) || (decide (hgt l e.1 < 0) && decide (0 < hgt l e.2))
/-- what a side gives to the cut ring -/
def cutE (l : Ln) (e : Pt × Pt) : List Pt := (if 0 < hgt l e.1 then [] else [e.1]) ++ (if parts l e = true then [meet l e] else [])
def cutL' (l : Ln) (es : List (Pt × Pt)) : List Pt := es.flatMap (cutE l)
def cutQ (l : Ln) (r : List Pt) : List Pt := cutL' l (edges r)
theorem mul_eq0 {a b : Rat} (h : a * b = 0) : a = 0 ∨ b = 0 := by
  by_cases ha : a = 0
  · exact .inl ha
  · right
    have h1 : a⁻¹ * (a * b) = 0 := by rw [h]; grind
    rw [← Rat.mul_assoc, Rat.mul_comm a⁻¹ a, Rat.mul_inv_cancel a ha] at h1
    grind
theorem hgt_meet {l : Ln} {e : Pt × Pt} (h : hgt l e.1 ≠ hgt l e.2) : hgt l (meet l e) = 0 := by
  have h0 : hgt l e.1 - hgt l e.2 ≠ 0 := by grind
  have h1 : hgt l e.1 / (hgt l e.1 - hgt l e.2) * (hgt l e.1 - hgt l e.2) = hgt l e.1 := Rat.div_mul_cancel h0
  generalize hs : hgt l e.1 / (hgt l e.1 - hgt l e.2) = s at h1
  unfold meet
  rw [hs]
  unfold hgt at h1 ⊢
  grind
theorem parts_ne {l : Ln} {e : Pt × Pt} (h : parts l e = true) : hgt l e.1 ≠ hgt l e.2 := by
  unfold parts at h
  simp only [Bool.or_eq_true, Bool.and_eq_true, decide_eq_true_eq] at h
  grind
theorem meet_turn (l : Ln) (e : Pt × Pt) : meet (turnL l) e = meet l e := by
  have e1 : hgt (turnL l) e.1 / (hgt (turnL l) e.1 - hgt (turnL l) e.2) = hgt l e.1 / (hgt l e.1 - hgt l e.2) := by
    rw [hgt_turn, hgt_turn]
    by_cases h : hgt l e.1 - hgt l e.2 = 0
    · have h2 : -hgt l e.1 - -hgt l e.2 = 0 := by grind
      rw [h, h2, Rat.div_def, Rat.div_def, Rat.inv_zero, Rat.mul_zero, Rat.mul_zero]
    · have h2 : -hgt l e.1 - -hgt l e.2 ≠ 0 := by grind
      have a1 := Rat.div_mul_cancel (a := hgt l e.1) h
      have a2 := Rat.div_mul_cancel (a := -hgt l e.1) h2
      generalize hgt l e.1 / (hgt l e.1 - hgt l e.2) = x at a1 ⊢
      generalize -hgt l e.1 / (-hgt l e.1 - -hgt l e.2) = y at a2 ⊢
      have a3 : (hgt l e.1 - hgt l e.2) * (y - x) = 0 := by grind
      rcases mul_eq0 a3 with z | z
      · exact absurd z h
      · grind
  unfold meet
  rw [e1]
/-! ### sums along a way, round a ring -/
section
variable (c : Pt → Pt → Rat)
/-- along the points from w on -/
def chain : Pt → List Pt → Rat
  | _, [] => 0
  | w, v :: vs => c w v + chain v vs
def lastP : Pt → List Pt → Pt
  | w, [] => w
  | _, v :: vs => lastP v vs
theorem chain_append : ∀ (w : Pt) (xs ys : List Pt), chain c w (xs ++ ys) = chain c w xs + chain c (lastP w xs) ys
  | w, [], ys => by show chain c w ys = 0 + chain c w ys; grind
  | w, x :: xs, ys => by
    show c w x + chain c x (xs ++ ys) = c w x + chain c x xs + chain c (lastP x xs) ys
    rw [chain_append x xs ys]; grind
theorem lastP_append : ∀ (w : Pt) (xs ys : List Pt), lastP w (xs ++ ys) = lastP (lastP w xs) ys
  | w, [], ys => rfl
  | w, x :: xs, ys => lastP_append x xs ys
/-- round a ring -/
def cyc (r : List Pt) : Rat := sumQ ((edges r).map fun e => c e.1 e.2)
theorem zip_chain : ∀ (v : Pt) (vs : List Pt) (z : Pt), sumQ ((zipL (v :: vs) (vs ++ [z])).map fun e => c e.1 e.2) = chain c v (vs ++ [z])
  | v, [], z => by show c v z + 0 = c v z + 0; rfl
  | v, u :: us, z => by
    show c v u + sumQ ((zipL (u :: us) (us ++ [z])).map fun e => c e.1 e.2) = c v u + chain c u (us ++ [z])
    rw [zip_chain u us z]
theorem lastP_snoc (w : Pt) (xs : List Pt) (z : Pt) : lastP w (xs ++ [z]) = z := by rw [lastP_append]; rfl
/-- begun with the last point -/
theorem cyc_chain (v : Pt) (vs : List Pt) : cyc c (v :: vs) = chain c (lastP v vs) (v :: vs) := by
  have e : edges (v :: vs) = zipL (v :: vs) (vs ++ [v]) := rfl
  unfold cyc
  rw [e, zip_chain, chain_append]
  show chain c v vs + (c (lastP v vs) v + 0) = c (lastP v vs) v + chain c v vs
  grind
/-! ### a cut ring's sum is what of its sides stays -/
variable (l : Ln)
/-- what of a side does not lie over the line -/
def kept (e : Pt × Pt) : Rat :=
  if 0 < hgt l e.1 then (if hgt l e.2 < 0 then c (meet l e) e.2 else 0)
  else (if 0 < hgt l e.2 then (if hgt l e.1 < 0 then c e.1 (meet l e) else 0) else c e.1 e.2)
def pend (w p : Pt) : Rat := if 0 < hgt l p then 0 else c w p
/-- the last point that was given, and the one to come -/
def Rel (w p : Pt) : Prop := 0 < hgt l p → hgt l w = 0
variable {c l}
theorem cut_step (hc : ∀ u v, hgt l u = 0 → hgt l v = 0 → c u v = 0) (w p q : Pt) (h : Rel l w p) :
    chain c w (cutE l (p, q)) + pend c l (lastP w (cutE l (p, q))) q = pend c l w p + kept c l (p, q) ∧ Rel l (lastP w (cutE l (p, q))) q := by
  unfold cutE kept pend Rel
  by_cases hp : 0 < hgt l p
  · have hw := h hp
    by_cases hq : hgt l q < 0
    · have hpar : parts l (p, q) = true := by unfold parts; simp [hp, hq]
      have hm := hgt_meet (parts_ne hpar)
      have hq2 : ¬ 0 < hgt l q := by grind
      simp only [hp, hq, hpar, if_true, if_pos, List.nil_append, chain, lastP]
      rw [if_neg hq2, hc w _ hw hm]
      refine ⟨by grind, fun _ => hm⟩
    · have hpar : ¬ parts l (p, q) = true := by unfold parts; simp [hp, hq]; grind
      simp only [hp, hq, if_pos, if_neg hpar, List.nil_append, chain, lastP, if_true, if_false]
      refine ⟨?_, fun _ => hw⟩
      by_cases hq2 : 0 < hgt l q
      · rw [if_pos hq2]
      · rw [if_neg hq2, hc w q hw (by grind)]
  · by_cases hq : 0 < hgt l q
    · by_cases hp2 : hgt l p < 0
      · have hpar : parts l (p, q) = true := by unfold parts; simp [hp2, hq]
        have hm := hgt_meet (parts_ne hpar)
        simp only [if_neg hp, hq, hp2, hpar, if_true, if_pos, List.singleton_append, chain, lastP, List.cons_append, List.nil_append]
        exact ⟨by grind, fun _ => hm⟩
      · have hpar : ¬ parts l (p, q) = true := by unfold parts; simp [hp, hp2]
        simp only [if_neg hp, hq, if_neg hp2, if_neg hpar, if_true, if_pos, List.append_nil, chain, lastP]
        exact ⟨by grind, fun _ => by grind⟩
    · have hpar : ¬ parts l (p, q) = true := by unfold parts; simp [hp, hq]
      simp only [if_neg hp, if_neg hq, if_neg hpar, List.append_nil, chain, lastP]
      exact ⟨by grind, fun z => absurd z hq⟩
/-- a way: each side begins where the one ahead ends -/
inductive Way : Pt → List (Pt × Pt) → Pt → Prop
  | nil (p : Pt) : Way p [] p
  | cons {p q z : Pt} {es : List (Pt × Pt)} : Way q es z → Way p ((p, q) :: es) z
theorem cut_way (hc : ∀ u v, hgt l u = 0 → hgt l v = 0 → c u v = 0) : ∀ {p z : Pt} {es : List (Pt × Pt)} (w : Pt), Way p es z → Rel l w p →
    chain c w (cutL' l es) + pend c l (lastP w (cutL' l es)) z = pend c l w p + sumQ (es.map (kept c l)) ∧ Rel l (lastP w (cutL' l es)) z
  | p, z, [], w, t, h => by
    cases t
    exact ⟨by show 0 + pend c l w p = pend c l w p + 0; grind, h⟩
  | p, z, (_, q) :: es, w, t, h => by
    cases t with | cons t =>
    obtain ⟨a, b⟩ := cut_step hc w p q h
    obtain ⟨a2, b2⟩ := cut_way hc _ t b
    have e : cutL' l ((p, q) :: es) = cutE l (p, q) ++ cutL' l es := rfl
    rw [e, chain_append, lastP_append]
    refine ⟨?_, b2⟩
    show _ = pend c l w p + (kept c l (p, q) + sumQ (es.map (kept c l)))
    grind
/-- .. from any first point, if something is given -/
theorem rel_end : ∀ {p z : Pt} {es : List (Pt × Pt)} (w : Pt), Way p es z → cutL' l es ≠ [] → Rel l (lastP w (cutL' l es)) z
  | p, z, [], w, t, h => absurd rfl h
  | p, z, (_, q) :: es, w, t, h => by
    cases t with | cons t =>
    have e : cutL' l ((p, q) :: es) = cutE l (p, q) ++ cutL' l es := rfl
    rw [e] at h ⊢
    rw [lastP_append]
    by_cases h2 : cutL' l es = []
    · rw [h2] at h ⊢
      rw [List.append_nil] at h
      -- the step gave something
      have key : Rel l (lastP w (cutE l (p, q))) q := by
        by_cases hp : 0 < hgt l p
        · by_cases hpar : parts l (p, q) = true
          · have hm := hgt_meet (parts_ne hpar)
            unfold cutE
            simp only [hp, if_true, if_pos, hpar, List.nil_append]
            exact fun _ => hm
          · exact absurd (by unfold cutE; simp [hp, hpar]) h
        · -- p is given
          by_cases hpar : parts l (p, q) = true
          · have hm := hgt_meet (parts_ne hpar)
            unfold cutE
            simp only [if_neg hp, if_pos hpar]
            exact fun _ => hm
          · unfold cutE
            simp only [if_neg hp, if_neg hpar, List.append_nil]
            intro hq
            show hgt l p = 0
            unfold parts at hpar
            simp only [Bool.or_eq_true, Bool.and_eq_true, decide_eq_true_eq] at hpar
            grind
      -- no more is given: the relation stays
      have stay : ∀ {p z : Pt} {es : List (Pt × Pt)} (w : Pt), Way p es z → cutL' l es = [] → Rel l w p → Rel l w z := by
        intro p z es w t
        induction t with
        | nil _ => exact fun _ h => h
        | cons t ih =>
          rename_i p q z es
          intro h3 hr
          have e : cutL' l ((p, q) :: es) = cutE l (p, q) ++ cutL' l es := rfl
          rw [e, List.append_eq_nil_iff] at h3
          refine ih h3.2 ?_
          have hp : 0 < hgt l p := by
            have := h3.1
            unfold cutE at this
            by_cases hp : 0 < hgt l p
            · exact hp
            · rw [if_neg hp] at this; simp at this
          exact fun _ => hr hp
      exact stay _ t h2 key
    · exact rel_end _ t h2
theorem zip_way : ∀ (v : Pt) (vs : List Pt) (z : Pt), Way v (zipL (v :: vs) (vs ++ [z])) z
  | v, [], z => .cons (.nil z)
  | v, u :: us, z => .cons (zip_way u us z)
/-- what of a ring is left by a line sums up to what of its sides stays -/
theorem cyc_cut (hc : ∀ u v, hgt l u = 0 → hgt l v = 0 → c u v = 0) (r : List Pt) : cyc c (cutQ l r) = sumQ ((edges r).map (kept c l)) := by
  cases r with
  | nil => rfl
  | cons v vs =>
    have hw : Way v (edges (v :: vs)) v := zip_way v vs v
    unfold cutQ
    cases hcut : cutL' l (edges (v :: vs)) with
    | nil =>
      -- nothing is given: nothing stays
      have none : ∀ es : List (Pt × Pt), cutL' l es = [] → sumQ (es.map (kept c l)) = 0 := by
        intro es
        induction es with
        | nil => intro _; rfl
        | cons e es ih =>
          intro h
          have e2 : cutL' l (e :: es) = cutE l e ++ cutL' l es := rfl
          rw [e2, List.append_eq_nil_iff] at h
          show kept c l e + sumQ (es.map (kept c l)) = 0
          rw [ih h.2]
          have h1 := h.1
          unfold cutE at h1
          rw [List.append_eq_nil_iff] at h1
          have hp : 0 < hgt l e.1 := by
            by_cases hp : 0 < hgt l e.1
            · exact hp
            · have := h1.1; rw [if_neg hp] at this; simp at this
          have hq : ¬ hgt l e.2 < 0 := fun hq => by
            have := h1.2
            rw [if_pos (by unfold parts; simp [hp, hq])] at this
            simp at this
          unfold kept
          rw [if_pos hp, if_neg hq]
          grind
      rw [none _ hcut]; rfl
    | cons u us =>
      have h1 := rel_end (l := l) (lastP u us) hw (by rw [hcut]; simp)
      have e1 : lastP (lastP u us) (cutL' l (edges (v :: vs))) = lastP u us := by rw [hcut]; rfl
      rw [e1] at h1
      have h2 := (cut_way hc (lastP u us) hw h1).1
      rw [e1] at h2
      have e2 := cyc_chain c u us
      rw [e2, ← hcut]
      have : chain c (lastP u us) (cutL' l (edges (v :: vs))) = sumQ ((edges (v :: vs)).map (kept c l)) := by grind
      exact this
/-- a sum that comes to nought round every ring -/
theorem cyc_tele (g : Pt → Rat) (r : List Pt) : cyc (fun u v => g v - g u) r = 0 := by
  cases r with
  | nil => rfl
  | cons v vs =>
    rw [cyc_chain]
    have key : ∀ (w : Pt) (xs : List Pt), chain (fun u v => g v - g u) w xs = g (lastP w xs) - g w := by
      intro w xs
      induction xs generalizing w with
      | nil => show (0 : Rat) = g w - g w; grind
      | cons x xs ih => show g x - g w + chain _ x xs = g (lastP x xs) - g w; rw [ih]; grind
    rw [key]
    show g (lastP v vs) - g (lastP v vs) = 0
    grind
theorem cyc_add (a b : Pt → Pt → Rat) (r : List Pt) : cyc (fun u v => a u v + b u v) r = cyc a r + cyc b r := by
  unfold cyc
  induction edges r with
  | nil => show (0 : Rat) = 0 + 0; grind
  | cons e es ih =>
    show a e.1 e.2 + b e.1 e.2 + sumQ _ = a e.1 e.2 + sumQ _ + (b e.1 e.2 + sumQ _)
    rw [ih]; grind
theorem cyc_mul (k : Rat) (a : Pt → Pt → Rat) (r : List Pt) : cyc (fun u v => k * a u v) r = k * cyc a r := by
  unfold cyc
  induction edges r with
  | nil => show (0 : Rat) = k * 0; grind
  | cons e es ih =>
    show k * a e.1 e.2 + sumQ _ = k * (a e.1 e.2 + sumQ _)
    rw [ih]; grind
theorem cyc_congr {a b : Pt → Pt → Rat} (h : ∀ u v, a u v = b u v) (r : List Pt) : cyc a r = cyc b r := by
  have : a = b := funext fun u => funext fun v => h u v
  rw [this]
theorem sum_add {α : Type} (f g : α → Rat) : ∀ es : List α, sumQ (es.map f) + sumQ (es.map g) = sumQ (es.map fun e => f e + g e)
  | [] => by show (0 : Rat) + 0 = 0; grind
  | e :: es => by
    show f e + sumQ (es.map f) + (g e + sumQ (es.map g)) = f e + g e + sumQ (es.map fun e => f e + g e)
    rw [← sum_add f g es]; grind
theorem sum_congr {α : Type} {f g : α → Rat} {es : List α} (h : ∀ e ∈ es, f e = g e) : sumQ (es.map f) = sumQ (es.map g) := by rw [List.map_congr_left h]
end
/-! ### areas of both parts -/
/-- along the line, by the height -/
def trap (l : Ln) (u v : Pt) : Rat := (-l.2.1 * (u.1 + v.1) + l.1 * (u.2 + v.2)) * (hgt l v - hgt l u)
theorem trap_line (l : Ln) (u v : Pt) (hu : hgt l u = 0) (hv : hgt l v = 0) : trap l u v = 0 := by unfold trap; rw [hu, hv]; grind
theorem area_trap (l : Ln) (r : List Pt) : cyc (trap l) r = -(2 * (l.1 * l.1 + l.2.1 * l.2.1)) * areaQ r := by
  have e : ∀ u v : Pt, trap l u v = -(l.1 * l.1 + l.2.1 * l.2.1) * cross (u, v) + ((fun p : Pt => (-l.2.1 * p.1 + l.1 * p.2) * (l.1 * p.1 + l.2.1 * p.2)) v - (fun p : Pt => (-l.2.1 * p.1 + l.1 * p.2) * (l.1 * p.1 + l.2.1 * p.2)) u) := fun u v => by
    unfold trap cross hgt; grind
  rw [cyc_congr e, cyc_add, cyc_mul, cyc_tele (fun p : Pt => (-l.2.1 * p.1 + l.1 * p.2) * (l.1 * p.1 + l.2.1 * p.2))]
  unfold areaQ cyc
  rw [show (fun e : Pt × Pt => cross (e.1, e.2)) = cross from rfl]
  grind
theorem kept_both (l : Ln) (e : Pt × Pt) : kept (trap l) l e + kept (trap l) (turnL l) e = trap l e.1 e.2 := by
  obtain ⟨p, q⟩ := e
  unfold kept
  rw [meet_turn, hgt_turn, hgt_turn]
  have mid : hgt l p ≠ hgt l q → trap l p (meet l (p, q)) + trap l (meet l (p, q)) q = trap l p q := fun h => by
    have h0 : hgt l p - hgt l q ≠ 0 := by grind
    have h1 : hgt l p / (hgt l p - hgt l q) * (hgt l p - hgt l q) = hgt l p := Rat.div_mul_cancel h0
    have hm := hgt_meet (l := l) (e := (p, q)) h
    unfold trap
    rw [hm]
    unfold meet
    show _ = _
    generalize hgt l p / (hgt l p - hgt l q) = s at h1
    simp only
    grind
  by_cases h1 : 0 < hgt l p
  · have h2 : ¬ 0 < -hgt l p := by grind
    have h5 : -hgt l p < 0 := by grind
    by_cases h3 : hgt l q < 0
    · have h4 : 0 < -hgt l q := by grind
      rw [if_pos h1, if_pos h3, if_neg h2, if_pos h4, if_pos h5]
      have := mid (by grind)
      simp only at this ⊢
      grind
    · have h4 : ¬ 0 < -hgt l q := by grind
      rw [if_pos h1, if_neg h3, if_neg h2, if_neg h4]; grind
  · by_cases h2 : hgt l p < 0
    · have h5 : 0 < -hgt l p := by grind
      by_cases h3 : 0 < hgt l q
      · have h4 : -hgt l q < 0 := by grind
        rw [if_neg h1, if_pos h3, if_pos h2, if_pos h5, if_pos h4]
        exact mid (by grind)
      · have h4 : ¬ -hgt l q < 0 := by grind
        rw [if_neg h1, if_neg h3, if_pos h5, if_neg h4]; grind
    · have h0 : hgt l p = 0 := by grind
      have h5 : ¬ 0 < -hgt l p := by grind
      by_cases h3 : 0 < hgt l q
      · have h6 : ¬ 0 < -hgt l q := by grind
        rw [if_neg h1, if_pos h3, if_neg h2, if_neg h5, if_neg h6]; grind
      · by_cases h4 : hgt l q < 0
        · have h6 : 0 < -hgt l q := by grind
          have h7 : ¬ -hgt l p < 0 := by grind
          rw [if_neg h1, if_neg h3, if_neg h5, if_pos h6, if_neg h7]; grind
        · have h8 : hgt l q = 0 := by grind
          have h6 : ¬ 0 < -hgt l q := by grind
          rw [if_neg h1, if_neg h3, if_neg h5, if_neg h6]
          have := trap_line l p q h0 h8
          simp only at this ⊢
          grind
theorem sq_nn (a : Rat) : 0 ≤ a * a := by
  by_cases h : 0 ≤ a
  · exact Rat.mul_nonneg h h
  · have h2 : 0 ≤ -a := by grind
    have := Rat.mul_nonneg h2 h2
    grind
theorem norm_ne {a b : Rat} (h : ¬ (a = 0 ∧ b = 0)) : a * a + b * b ≠ 0 := fun z => by
  have h1 := sq_nn a
  have h2 := sq_nn b
  have h3 : a * a = 0 := by grind
  have h4 : b * b = 0 := by grind
  refine h ⟨?_, ?_⟩
  · rcases mul_eq0 h3 with h | h <;> exact h
  · rcases mul_eq0 h4 with h | h <;> exact h
/-- the areas of both parts of a cut ring come to the ring's -/
theorem area_cut {l : Ln} (h : ¬ (l.1 = 0 ∧ l.2.1 = 0)) (r : List Pt) : areaQ (cutQ l r) + areaQ (cutQ (turnL l) r) = areaQ r := by
  have e1 := cyc_cut (c := trap l) (l := l) (trap_line l) r
  have e2 := cyc_cut (c := trap l) (l := turnL l) (fun u v hu hv => trap_line l u v (by rw [hgt_turn] at hu; grind) (by rw [hgt_turn] at hv; grind)) r
  have e3 : cyc (trap l) (cutQ l r) + cyc (trap l) (cutQ (turnL l) r) = cyc (trap l) r := by
    rw [e1, e2, sum_add]
    unfold cyc
    exact sum_congr fun e _ => kept_both l e
  rw [area_trap, area_trap, area_trap] at e3
  have hn := norm_ne h
  have e4 : (2 * (l.1 * l.1 + l.2.1 * l.2.1)) * (areaQ (cutQ l r) + areaQ (cutQ (turnL l) r) - areaQ r) = 0 := by grind
  rcases mul_eq0 e4 with z | z
  · exact absurd (show l.1 * l.1 + l.2.1 * l.2.1 = 0 by grind) hn
  · grind
end Pg

set_option Elab.async false
set_option linter.all false
namespace Pg
/-! ### the program's cuts -/
theorem p_point_ok {n m k : Nat} {p q : Pt} {s : Rat} (hp : SP n p) (hq : SP m q) (hs : SQ k s) (h : n + (k + (m + n + 1)) < 134000000) : p_point_at p q s = .ok (p.1 + s * (q.1 - p.1), p.2 + s * (q.2 - p.2)) := by
  unfold p_point_at
  rw [p_minus_ok hq.1 hp.1 (by omega), bind_ok, p_times_ok hs (hq.1.sub hp.1) (by omega), bind_ok, p_plus_ok hp.1 (hs.mul (hq.1.sub hp.1)) (by omega), bind_ok, bind_ok,
    p_minus_ok hq.2 hp.2 (by omega), bind_ok, p_times_ok hs (hq.2.sub hp.2) (by omega), bind_ok, p_plus_ok hp.2 (hs.mul (hq.2.sub hp.2)) (by omega), bind_ok]
theorem p_parted_are_ok {n m : Nat} {h k : Rat} (sh : SQ n h) (sk : SQ m k) (hb : n + m + 2 < 134000000) : p_are_parted h k = .ok ((decide (0 < h) && decide (k < 0)) || (decide (h < 0) && decide (0 < k))) := by
  unfold p_are_parted
  rw [p_under_ok (SQ_zero 0) sh (by omega), bind_ok]
  by_cases h1 : 0 < h
  · have h2 : ¬ h < 0 := by grind
    rw [decide_eq_true h1, if_ok_t, p_under_ok sk (SQ_zero 0) (by omega), bind_ok, decide_eq_false h2]
    simp
  · rw [decide_eq_false h1, if_ok_f, p_under_ok sh (SQ_zero 0) (by omega), bind_ok]
    by_cases h2 : h < 0
    · rw [decide_eq_true h2, andR_t, p_under_ok (SQ_zero 0) sk (by omega), bind_ok, bind_ok]
      simp
    · rw [decide_eq_false h2, andR_f, bind_ok]
      simp
/-- the size of a cut ring's points: of heights a, points m -/
theorem SP_meet {a m : Nat} {l : Ln} {e : Pt × Pt} (hp : SP m e.1) (hq : SP m e.2) (h1 : SQ a (hgt l e.1)) (h2 : SQ a (hgt l e.2)) (hn : hgt l e.1 ≠ hgt l e.2) : SP (3 * a + 3 * m + 3) (meet l e) := by
  have h0 : hgt l e.1 - hgt l e.2 ≠ 0 := by grind
  have ss := h1.div (h1.sub h2) h0
  exact ⟨(hp.1.add (ss.mul (hq.1.sub hp.1))).mono (by omega), (hp.2.add (ss.mul (hq.2.sub hp.2))).mono (by omega)⟩
theorem cutE_mem {l : Ln} {e : Pt × Pt} {p : Pt} (h : p ∈ cutE l e) : (p = e.1 ∧ ¬ 0 < hgt l e.1) ∨ (p = meet l e ∧ parts l e = true) := by
  unfold cutE at h
  rcases List.mem_append.mp h with h | h
  · split at h
    · cases h
    · rename_i c; simp at h; exact .inl ⟨h, c⟩
  · split at h
    · rename_i c; simp at h; exact .inr ⟨h, c⟩
    · cases h
theorem cutE_len (l : Ln) (e : Pt × Pt) : (cutE l e).length ≤ 2 := by
  unfold cutE
  rw [List.length_append]
  split <;> split <;> simp
theorem cutL_len (l : Ln) : ∀ es : List (Pt × Pt), (cutL' l es).length ≤ 2 * es.length
  | [] => Nat.le_refl _
  | e :: es => by
    have h1 := cutE_len l e
    have h2 := cutL_len l es
    have h3 : cutL' l (e :: es) = cutE l e ++ cutL' l es := rfl
    rw [h3, List.length_append, List.length_cons]; omega
theorem cutQ_len (l : Ln) (r : List Pt) : (cutQ l r).length ≤ 2 * r.length := by
  have := cutL_len l (edges r)
  rw [edges_len] at this
  exact this
theorem cutQ_mem {l : Ln} {r : List Pt} {p : Pt} (h : p ∈ cutQ l r) : (p ∈ r ∧ ¬ 0 < hgt l p) ∨ ∃ e ∈ edges r, p = meet l e ∧ parts l e = true := by
  unfold cutQ cutL' at h
  obtain ⟨e, he, hp⟩ := List.mem_flatMap.mp h
  rcases cutE_mem hp with ⟨h1, h2⟩ | ⟨h1, h2⟩
  · subst h1; exact .inl ⟨(edges_mem he).1, h2⟩
  · exact .inr ⟨e, he, h1, h2⟩
theorem SR_cut {a m : Nat} {l : Ln} {r : List Pt} (hr : SR m r) (hh : ∀ p ∈ r, SQ a (hgt l p)) : SR (3 * a + 3 * m + 3) (cutQ l r) := fun p hp => by
  rcases cutQ_mem hp with h | ⟨e, he, rfl, hpar⟩
  · exact (hr p h.1).mono (by omega)
  · obtain ⟨h1, h2⟩ := edges_mem he
    exact SP_meet (hr _ h1) (hr _ h2) (hh _ h1) (hh _ h2) (parts_ne hpar)
/-- no point of a cut ring lies over the line -/
theorem cut_under {l : Ln} {r : List Pt} {p : Pt} (h : p ∈ cutQ l r) : hgt l p ≤ 0 := by
  rcases cutQ_mem h with h | ⟨e, he, rfl, hpar⟩
  · have := h.2; grind
  · have := hgt_meet (parts_ne hpar); grind
theorem map_get {α β : Type} {f : α → β} {xs : List α} {x : Int} {y : α} (h : atR xs x = .ok y) : atR (xs.map f) x = .ok (f y) := by
  unfold atR at h ⊢
  rw [List.length_map]
  cases e : ixP xs.length x with
  | none => rw [e] at h; cases h
  | some k =>
    rw [e] at h
    cases e2 : xs[k]? with
    | none => simp only [e2] at h; cases h
    | some z =>
      simp only [e2] at h
      have := R.ok_inj h
      subst this
      simp [e2]
theorem p_cut_ok {a n m : Nat} {l : Ln} {r : List Pt} (hl : SL n l) (hr : SR m r) (hh : ∀ p ∈ r, SQ a (hgt l p)) (hlen : r.length < 1000000) (hb1 : 3 * n + 2 * m + 4 < 134000000) (hb : 3 * a + 3 * m + 10 < 134000000) : p_cut r l = .ok (cutQ l r) := by
  unfold p_cut
  rw [compR_ok (by omega) (mapR_ok (g := hgt l) fun p hp => by rw [p_height_ok hl (hr p hp) hb1, bind_ok]), bind_ok, bind_ok, bind_ok]
  have key := ring_loop (r := r) (by omega) (f := fun (x9 : Int) (s10 : (List (Rat × Rat))) => R.bind (fmodR ((x9 + (1 : Int))) ((r.length : Int))) fun m11 => R.bind (R.ok m11) fun after12 => R.bind (atR (r.map (hgt l)) x9) fun it13 => R.bind (p_under ((0 : Rat)) it13) fun under14 => R.bind (if (!under14) = true then (R.bind (atR r x9) fun it16 => R.bind (appR s10 it16) fun come17 => R.ok come17) else (R.ok s10) : R ((List (Rat × Rat)))) fun st15 => R.bind (atR (r.map (hgt l)) x9) fun it18 => R.bind (atR (r.map (hgt l)) after12) fun it19 => R.bind (p_are_parted it18 it19) fun are_pa20 => if are_pa20 = true then (R.bind (atR (r.map (hgt l)) x9) fun it21 => R.bind (atR (r.map (hgt l)) x9) fun it22 => R.bind (atR (r.map (hgt l)) after12) fun it23 => R.bind (p_minus it22 it23) fun minus24 => R.bind (p_parted it21 minus24) fun parted25 => R.bind (R.ok parted25) fun share26 => R.bind (atR r x9) fun it27 => R.bind (atR r after12) fun it28 => R.bind (p_point_at it27 it28 share26) fun point29 => R.bind (appR st15 point29) fun come30 => R.ok come30) else (R.ok st15)) (s0 := ([] : List (Rat × Rat)))
    (fun es s => es.length ≤ r.length ∧ s = cutL' l es) ⟨Nat.zero_le _, rfl⟩ fun i x p q s hx hi g1 g2 g3 g4 g5 g6 hp => by
    obtain ⟨q0, rfl⟩ := hp
    have hl1 : ((edges r).take i).length = i := by rw [List.length_take, edges_len]; omega
    have hl2 := cutL_len l ((edges r).take i)
    have h1 := hr p g5
    have h2 := hr q g6
    have k1 := hh p g5
    have k2 := hh q g6
    have fl : cutL' l ((edges r).take i ++ [(p, q)]) = cutL' l ((edges r).take i) ++ cutE l (p, q) := by
      unfold cutL'
      rw [List.flatMap_append, List.flatMap_singleton]
    refine .step g3 (.one (.step (map_get g2) (.step (p_under_ok (SQ_zero 0) k1 (by omega)) (.bind (P := fun s => s = cutL' l ((edges r).take i) ++ if 0 < hgt l p then [] else [p]) ?_ fun s hs => ?_))))
    · by_cases c : 0 < hgt l p
      · rw [decide_eq_true c, if_pos c]
        exact .pure (by rw [List.append_nil])
      · rw [decide_eq_false c, if_neg c]
        exact .step g2 (.step (appR_ok (by omega)) (.pure rfl))
    · have ls : s.length < 16777216 := by
        rw [hs, List.length_append]
        split <;> simp <;> omega
      refine .step (map_get g2) (.step (map_get g4) (.step (p_parted_are_ok k1 k2 (by omega)) ?_))
      rw [fl]
      have fin : cutE l (p, q) = (if 0 < hgt l p then [] else [p]) ++ (if parts l (p, q) = true then [meet l (p, q)] else []) := rfl
      rw [fin, ← List.append_assoc, ← hs]
      refine .iteB (fun c => ?_) fun c => ?_
      · have cp : parts l (p, q) = true := c
        have h0 : hgt l p - hgt l q ≠ 0 := by have := parts_ne cp; simp only at this; grind
        rw [if_pos cp]
        refine .step (map_get g2) (.step (map_get g2) (.step (map_get g4) (.step (p_minus_ok k1 k2 (by omega)) (.step (p_parted_ok k1 (k1.sub k2) (by omega) h0) (.one (.step g2 (.step g4 (.step (p_point_ok h1 h2 (k1.div (k1.sub k2) h0) (by omega)) (.step (appR_ok ls) (.pure ⟨?_, rfl⟩))))))))))
        rw [List.length_append, hl1, List.length_singleton]; omega
      · have cp : ¬ parts l (p, q) = true := fun z => by
          have z2 : ((decide (0 < hgt l p) && decide (hgt l q < 0)) || (decide (hgt l p < 0) && decide (0 < hgt l q))) = true := z
          rw [c] at z2; cases z2
        rw [if_neg cp, List.append_nil]
        refine .pure ⟨?_, rfl⟩
        rw [List.length_append, hl1, List.length_singleton]; omega
  have fin := ring_step (k := fun s31 => R.ok s31) (Q := (· = cutQ l r)) key fun s hs => .pure hs.2
  obtain ⟨b, e1, e2⟩ := fin
  rw [← e2]
  exact e1
theorem l_points_like_ok (r : List Pt) : l_points_like r = .ok true := by
  unfold l_points_like
  rw [Bool.not_true, if_ok_f, forX_all (fun p _ => ?_), bind_ok, caseX_l]
  rw [show (false || (!decide ((2 : Int) = (2 : Int)))) = false by decide, if_ok_f, l_is2_ok, l_is2_ok, bind_ok]
  rfl
theorem l_ring2_ok {ns : List Int} (hb : Bits ns) {a n : Int} (h0 : 0 ≤ a) (h1 : a < 1000) (h2 : 0 ≤ n) (h3 : n ≤ 100) : Ok (l_ring_2 ns a n) (fun r => (r.length : Int) = n ∧ SR 50 r) := by
  unfold l_ring_2
  refine .one (.step (rngR_ok (by decide) (by decide) (by omega) (by omega)) ?_)
  refine .bind (.forR (fun i f => f.length = i ∧ SR 50 f) ⟨rfl, fun x hx => nomatch hx⟩ fun i f x hf hx => ?_) fun f hf => .pure ⟨by rw [hf.1]; simp; omega, hf.2⟩
  obtain ⟨e, hx3⟩ := rng_at hx
  have m2 : ∀ {β : Type} (g : Int → R β), R.bind (mulR 2 x) g = g (2 * x) := fun g => by rw [mulR_ok (a := 2) (b := 10) (by decide) (by unfold S; omega) (by decide), bind_ok]
  rw [m2]
  refine .bind (l_at_ok hb (by omega) (by omega)) fun p hp => ?_
  rw [m2]
  refine .bind (l_at_ok hb (by omega) (by omega)) fun q hq => .step (appR_ok (by rw [hf.1]; omega)) (.pure ⟨by simp [hf.1], fun y hy => ?_⟩)
  rcases List.mem_append.mp hy with h | h
  · exact hf.2 y h
  · simp at h; subst h; exact ⟨hp, hq⟩
theorem num_le0 {q : Rat} (h : q ≤ 0) : q.num ≤ 0 := by
  have := (Rat.le_iff q 0).mp h
  have e1 : (0 : Rat).num = 0 := rfl
  have e2 : ((0 : Rat).den : Int) = 1 := rfl
  rw [e1, e2] at this
  omega
theorem num_ge0 {q : Rat} (h : 0 ≤ q) : 0 ≤ q.num := Rat.num_nonneg.mpr h
end Pg

set_option Elab.async false
set_option linter.all false
namespace Pg

/-! mirrors of the defs of k14, printed by pygen -/
def p_middle (one1 : Rat) (other2 : Rat) : R Rat :=
  R.bind (p_plus one1 other2) fun plus3 =>
  R.bind (p_times plus3 ((1 / 2 : Rat))) fun times4 =>
  R.ok times4
def p_fall (piece1 : (Int × Int × (Rat × Rat) × (Rat × Rat))) : R Rat :=
  R.bind (p_minus piece1.2.2.1.2 piece1.2.2.2.2) fun minus2 =>
  R.ok minus2
def p_right (piece1 : (Int × Int × (Rat × Rat) × (Rat × Rat))) : R Rat :=
  if (decide (piece1.1 < (0 : Int))) = true then (R.ok ((0 : Rat))) else (R.bind (p_fall piece1) fun fall2 => R.bind (mkQ ((piece1.1 + (1 : Int))) ((1 : Int))) fun q3 => R.bind (p_middle piece1.2.2.1.1 piece1.2.2.2.1) fun middle4 => R.bind (p_minus q3 middle4) fun minus5 => R.bind (p_times fall2 minus5) fun times6 => R.ok times6)
def l_part_3 (cell1 : Int) (less2 : Int) : R Rat :=
  R.bind (R.ok (((1 : Int) + ((cell1 / (2 : Int)) % (9 : Int))))) fun bottom3 =>
  R.bind (if (decide ((cell1 % (2 : Int)) = (1 : Int))) = true then (R.bind (R.ok (((1 : Int) + ((cell1 / (2 : Int)) % (1000000000 : Int))))) fun bottom5 => R.ok bottom5) else (R.ok bottom3) : R Int) fun st4 =>
  R.bind (fmodR ((cell1 / (7 : Int))) ((st4 + less2))) fun m6 =>
  R.bind (l_ratio_3 m6 st4) fun r7 =>
  R.ok r7
def l_point (script1 : (List Int)) (at2 : Int) (column3 : Int) (row4 : Int) (less5 : Int) : R ((Rat × Rat)) :=
  R.bind (l_cell script1 at2) fun c6 =>
  R.bind (l_spread c6 at2) fun s7 =>
  R.bind (l_part_3 s7 less5) fun p8 =>
  R.bind (R.ok p8) fun x9 =>
  R.bind (mkQ row4 ((1 : Int))) fun q10 =>
  R.bind (l_cell script1 ((at2 + (1 : Int)))) fun c11 =>
  R.bind (l_spread c11 ((at2 + (1 : Int)))) fun s12 =>
  R.bind (l_part_3 s12 less5) fun p13 =>
  R.bind (l_plus_2 q10 p13) fun p14 =>
  R.bind (R.ok p14) fun y15 =>
  if (decide (column3 < (0 : Int))) = true then (R.bind (l_cell script1 at2) fun c16 => R.bind (mulR x9.num (((1 : Int) + (c16 % (3 : Int))))) fun p17 => R.bind (mkQ (((less5 - (1 : Int)) - p17)) ((1 : Int))) fun q18 => R.ok ((q18, y15))) else (R.bind (mkQ column3 ((1 : Int))) fun q19 => R.bind (l_plus_2 q19 x9) fun p20 => R.ok ((p20, y15)))
def k14_law (script1 : (List Int)) : R Bool :=
  R.bind (rngR 0 ((6 : Int))) fun r2 =>
  R.bind (R.forX (fun (x3 : Int) (s4 : Unit) => (R.bind (mulR ((5 : Int)) x3) fun p5 => R.bind (l_cell script1 p5) fun c6 => R.bind (l_spread c6 x3) fun s7 => R.bind (R.ok s7) fun cell8 => R.bind (R.ok (((cell8 % (13 : Int)) - (1 : Int)))) fun column9 => R.bind (R.ok (((cell8 / (13 : Int)) % (12 : Int)))) fun row10 => R.bind (mulR ((5 : Int)) x3) fun p11 => R.bind (l_point script1 ((p11 + (1 : Int))) column9 row10 ((0 : Int))) fun p12 => R.bind (R.ok p12) fun one13 => R.bind (mulR ((5 : Int)) x3) fun p14 => R.bind (l_point script1 ((p14 + (3 : Int))) column9 row10 ((1 : Int))) fun p15 => R.bind (R.ok p15) fun other16 => R.bind (if (decide (one13 = other16)) = true then (R.bind (mkQ ((row10 + (1 : Int))) ((1 : Int))) fun q18 => R.bind (R.ok ((one13.1, q18))) fun other19 => R.ok other19) else (R.ok other16) : R ((Rat × Rat))) fun st17 => R.bind (if (decide (((cell8 / (156 : Int)) % (2 : Int)) = (1 : Int))) = true then (R.bind (R.ok st17) fun one21 => R.bind (R.ok one13) fun other22 => R.ok (one21, other22)) else (R.ok (one13, st17)) : R (((Rat × Rat) × (Rat × Rat)))) fun st20 => R.bind (R.ok ((column9, row10, st20.1, st20.2))) fun piece23 => R.bind (l_minus_2 st20.1.2 st20.2.2) fun m24 => R.bind (R.ok m24) fun down25 => R.bind (mkQ ((0 : Int)) ((1 : Int))) fun q26 => R.bind (R.ok q26) fun due27 => R.bind (if (decide (column9 ≥ (0 : Int))) = true then (R.bind (l_plus_2 st20.1.1 st20.2.1) fun p29 => R.bind (mkQ ((1 : Int)) ((2 : Int))) fun q30 => R.bind (l_times_2 p29 q30) fun t31 => R.bind (R.ok t31) fun half32 => R.bind (mkQ ((column9 + (1 : Int))) ((1 : Int))) fun q33 => R.bind (l_minus_2 q33 half32) fun m34 => R.bind (l_times_2 down25 m34) fun t35 => R.bind (R.ok t35) fun due36 => R.ok due36) else (R.ok due27) : R Rat) fun st28 => R.bind (p_fall piece23) fun fall37 => R.bind (l_is_2 fall37 down25) fun i38 => R.bind (R.orR ((!i38)) (R.bind (p_right piece23) fun right39 => R.bind (l_is_2 right39 st28) fun i40 => R.ok ((!i40)))) fun b41 => if b41 = true then (R.ok (Sum.inr false)) else (R.ok (Sum.inl (()))) : R (Sum Unit Bool))) r2 (())) fun r42 =>
  R.caseX r42 (fun s43 => R.ok true) (fun b44 => R.ok b44)
end Pg

set_option Elab.async false
set_option linter.all false
namespace Pg

/-! mirrors of the defs of k12, printed by pygen -/
def p_shares_between (one1 : Rat) (other2 : Rat) (most3 : Int) : R ((List Rat)) :=
  R.bind (R.ok (([] : (List Rat)))) fun come4 =>
  R.bind (if (!decide (one1 = other2)) = true then (R.bind (rngR 0 ((most3 + (1 : Int)))) fun r6 => R.bind (R.forR (fun (x7 : Int) (s8 : (List Rat)) => R.bind (mkQ x7 ((1 : Int))) fun q9 => R.bind (p_minus q9 one1) fun minus10 => R.bind (p_minus other2 one1) fun minus11 => R.bind (p_parted minus10 minus11) fun parted12 => R.bind (R.ok parted12) fun share13 => R.bind (p_under ((0 : Rat)) share13) fun under14 => R.bind (R.andR under14 (R.bind (mkQ ((1 : Int)) ((1 : Int))) fun q15 => R.bind (p_under share13 q15) fun under16 => R.ok under16)) fun b17 => if b17 = true then (R.bind (appR s8 share13) fun come18 => R.ok come18) else (R.ok s8)) r6 come4) fun s19 => R.ok s19) else (R.ok come4) : R ((List Rat))) fun st5 =>
  R.ok st5
def p_put_in (row1 : (List Rat)) (share2 : Rat) : R ((List Rat)) :=
  R.bind (rngR 0 ((row1.length : Int))) fun r3 =>
  R.bind (R.forX (fun (x4 : Int) (s5 : Unit) => (R.bind (atR row1 x4) fun it6 => if (decide (it6 = share2)) = true then (R.ok (Sum.inr row1)) else (R.bind (atR row1 x4) fun it7 => R.bind (p_under share2 it7) fun under8 => if under8 = true then (R.bind (catR ((cutL row1 none (some x4))) ([share2])) fun c9 => R.bind (catR c9 ((cutL row1 (some x4) none))) fun c10 => R.ok (Sum.inr c10)) else (R.ok (Sum.inl (())))) : R (Sum Unit ((List Rat))))) r3 (())) fun r11 =>
  R.caseX r11 (fun s12 => R.bind (catR row1 ([share2])) fun c14 => R.ok c14) (fun b13 => R.ok b13)
def p_points_on (width1 : Int) (height2 : Int) (side3 : ((Rat × Rat) × (Rat × Rat))) : R ((List (Rat × Rat))) :=
  R.bind (R.ok side3) fun t4 =>
  R.bind (R.ok (([] : (List Rat)))) fun row5 =>
  R.bind (p_shares_between t4.1.1 t4.2.1 width1) fun shares6 =>
  R.bind (p_shares_between t4.1.2 t4.2.2 height2) fun shares7 =>
  R.bind (catR shares6 shares7) fun c8 =>
  R.bind (R.forR (fun (x9 : Rat) (s10 : (List Rat)) => R.bind (p_put_in s10 x9) fun put_in11 => R.bind (R.ok put_in11) fun row12 => R.ok row12) c8 row5) fun s13 =>
  R.bind (R.compR (fun x14 => R.bind (p_point_at t4.1 t4.2 x14) fun point15 => R.ok point15) s13) fun c16 =>
  R.bind (catR ([t4.1]) c16) fun c17 =>
  R.bind (catR c17 ([t4.2])) fun c18 =>
  R.ok c18
def p_pieces (width1 : Int) (height2 : Int) (side3 : ((Rat × Rat) × (Rat × Rat))) : R ((List (Int × Int × (Rat × Rat) × (Rat × Rat)))) :=
  R.bind (R.ok (([] : (List (Int × Int × (Rat × Rat) × (Rat × Rat)))))) fun come4 =>
  if (decide (side3.1 = side3.2)) = true then (R.ok come4) else (R.bind (p_points_on width1 height2 side3) fun points5 => R.bind (R.ok points5) fun points6 => R.bind (rngR 0 (((points6.length : Int) - (1 : Int)))) fun r7 => R.bind (R.forR (fun (x8 : Int) (s9 : (List (Int × Int × (Rat × Rat) × (Rat × Rat)))) => R.bind (atR points6 x8) fun it10 => R.bind (R.ok it10) fun one11 => R.bind (atR points6 ((x8 + (1 : Int)))) fun it12 => R.bind (R.ok it12) fun other13 => R.bind (p_middle one11.1 other13.1) fun middle14 => R.bind (p_whole_part middle14) fun whole15 => R.bind (R.ok whole15) fun column16 => R.bind (p_middle one11.2 other13.2) fun middle17 => R.bind (p_whole_part middle17) fun whole18 => R.bind (R.ok whole18) fun row19 => if ((decide ((0 : Int) ≤ row19) && decide (row19 < height2)) && (decide (column16 < width1))) = true then (R.bind (appR s9 (((maxZ column16 ((-((1 : Int))))), row19, one11, other13))) fun come20 => R.ok come20) else (R.ok s9)) r7 come4) fun s21 => R.ok s21)
def l_floor (cell1 : Int) : R ((Int × Int)) :=
  if (decide ((cell1 % (8 : Int)) = (6 : Int))) = true then (R.ok ((((1 : Int) + ((cell1 / (8 : Int)) % (12 : Int))), ((1 : Int) + ((cell1 / (96 : Int)) % (12 : Int)))))) else (R.ok ((((1 : Int) + ((cell1 / (8 : Int)) % (4 : Int))), ((1 : Int) + ((cell1 / (32 : Int)) % (4 : Int))))))
def l_side (script1 : (List Int)) (at2 : Int) (cell3 : Int) : R (((Rat × Rat) × (Rat × Rat))) :=
  R.bind (l_at script1 at2) fun a4 =>
  R.bind (l_at script1 ((at2 + (1 : Int)))) fun a5 =>
  R.bind (R.ok ((a4, a5))) fun one6 =>
  R.bind (l_at script1 ((at2 + (2 : Int)))) fun a7 =>
  R.bind (l_at script1 ((at2 + (3 : Int)))) fun a8 =>
  R.bind (R.ok ((a7, a8))) fun other9 =>
  R.bind (if (decide ((cell3 % (12 : Int)) = (0 : Int))) = true then (R.bind (R.ok ((one6.1, other9.2))) fun other11 => R.ok other11) else (R.ok other9) : R ((Rat × Rat))) fun st10 =>
  R.bind (if (decide ((cell3 % (12 : Int)) = (1 : Int))) = true then (R.bind (R.ok ((st10.1, one6.2))) fun other13 => R.ok other13) else (R.ok st10) : R ((Rat × Rat))) fun st12 =>
  R.bind (if ((decide ((cell3 % (12 : Int)) < (4 : Int))) && (decide ((cell3 % (12 : Int)) > (1 : Int)))) = true then (R.bind (R.ok one6) fun other15 => R.ok other15) else (R.ok st12) : R ((Rat × Rat))) fun st14 =>
  R.ok ((one6, st14))
def l_way (one1 : (Rat × Rat)) (other2 : (Rat × Rat)) : R ((Rat × Rat)) :=
  R.bind (l_minus_2 other2.1 one1.1) fun m3 =>
  R.bind (l_minus_2 other2.2 one1.2) fun m4 =>
  R.ok ((m3, m4))
def l_along (way1 : (Rat × Rat)) (whole2 : (Rat × Rat)) : R Bool :=
  R.bind (l_times_2 way1.1 whole2.2) fun t3 =>
  R.bind (l_times_2 way1.2 whole2.1) fun t4 =>
  R.bind (l_minus_2 t3 t4) fun m5 =>
  R.bind (R.ok m5) fun side6 =>
  R.bind (l_times_2 way1.1 whole2.1) fun t7 =>
  R.bind (l_times_2 way1.2 whole2.2) fun t8 =>
  R.bind (l_plus_2 t7 t8) fun p9 =>
  R.bind (R.ok p9) fun ahead10 =>
  R.ok (((decide (side6.num = (0 : Int))) && (decide (ahead10.num ≥ (0 : Int)))))
def l_spot (one1 : Rat) (other2 : Rat) : R Int :=
  R.bind (l_plus_2 one1 other2) fun p3 =>
  R.bind (R.ok p3) fun come4 =>
  R.bind (mulR ((2 : Int)) ((come4.den : Int))) fun p5 =>
  R.bind (fdivR come4.num p5) fun q6 =>
  R.ok q6
def l_in_cell (numbers1 : (List Rat)) (spot2 : Int) : R Bool :=
  R.bind (R.forX (fun (x3 : Rat) (s4 : Unit) => (R.bind (mkQ ((spot2 + (1 : Int))) ((1 : Int))) fun q5 => R.bind (l_minus_2 x3 q5) fun m6 => R.bind (R.orR ((decide (m6.num > (0 : Int)))) (R.bind (R.andR ((decide (spot2 ≥ (0 : Int)))) (R.bind (mkQ spot2 ((1 : Int))) fun q7 => R.bind (l_minus_2 x3 q7) fun m8 => R.ok ((decide (m8.num < (0 : Int)))))) fun b9 => R.ok b9)) fun b10 => if b10 = true then (R.ok (Sum.inr false)) else (R.ok (Sum.inl (()))) : R (Sum Unit Bool))) numbers1 (())) fun r11 =>
  R.caseX r11 (fun s12 => R.ok true) (fun b13 => R.ok b13)
def l_piece_good (piece1 : (Int × Int × (Rat × Rat) × (Rat × Rat))) (floor2 : (Int × Int)) (whole3 : (Rat × Rat)) : R Bool :=
  R.bind (R.orR ((!true)) (R.bind (R.orR ((!decide ((4 : Int) = (4 : Int)))) (R.bind (l_whole piece1.1) fun w4 => R.bind (R.orR ((!w4)) (R.bind (l_whole piece1.2.1) fun w5 => R.ok ((!w5)))) fun b6 => R.ok b6)) fun b7 => R.ok b7)) fun b8 =>
  if b8 = true then (R.ok false) else (R.bind (R.ok piece1) fun t9 => R.bind (catR [t9.2.2.1.1, t9.2.2.1.2] [t9.2.2.2.1, t9.2.2.2.2]) fun c10 => R.bind (R.forX (fun (x11 : Rat) (s12 : Unit) => (R.bind (l_is_2 x11 x11) fun i13 => if (!i13) = true then (R.ok (Sum.inr false)) else (R.ok (Sum.inl (()))) : R (Sum Unit Bool))) c10 (())) fun r14 => R.caseX r14 (fun s15 => if ((decide (t9.1 < (-((1 : Int))))) || ((decide (t9.1 ≥ floor2.1)) || ((decide (t9.2.1 < (0 : Int))) || ((decide (t9.2.1 ≥ floor2.2)) || (decide (t9.2.2.1 = t9.2.2.2)))))) = true then (R.ok false) else (R.bind (l_spot t9.2.2.1.1 t9.2.2.2.1) fun s17 => R.bind (R.orR ((!decide ((maxZ ((-((1 : Int)))) s17) = t9.1))) (R.bind (l_spot t9.2.2.1.2 t9.2.2.2.2) fun s18 => R.ok ((!decide (s18 = t9.2.1))))) fun b19 => if b19 = true then (R.ok false) else (R.bind (l_in_cell ([t9.2.2.1.1, t9.2.2.2.1]) t9.1) fun i20 => R.bind (R.orR ((!i20)) (R.bind (l_in_cell ([t9.2.2.1.2, t9.2.2.2.2]) t9.2.1) fun i21 => R.ok ((!i21)))) fun b22 => if b22 = true then (R.ok false) else (R.bind (l_way t9.2.2.1 t9.2.2.2) fun w23 => R.bind (l_along w23 whole3) fun a24 => R.ok a24)))) (fun b16 => R.ok b16))
def l_rim (point1 : (Rat × Rat)) (beyond2 : (Rat × Rat)) (floor3 : (Int × Int)) : R Bool :=
  if (decide (point1 = beyond2)) = true then (R.ok true) else (R.bind (mkQ ((0 : Int)) ((1 : Int))) fun q4 => R.bind (R.orR (((decide (point1.2 = q4)) && (decide (beyond2.2.num < (0 : Int))))) (R.bind (mkQ floor3.1 ((1 : Int))) fun q5 => R.bind (R.andR ((decide (point1.1 = q5))) (R.bind (mulR floor3.1 ((beyond2.1.den : Int))) fun p6 => R.ok ((decide (beyond2.1.num > p6))))) fun b7 => R.ok b7)) fun b8 => if b8 = true then (R.ok true) else (R.bind (mkQ floor3.2 ((1 : Int))) fun q9 => R.bind (R.andR ((decide (point1.2 = q9))) (R.bind (mulR floor3.2 ((beyond2.2.den : Int))) fun p10 => R.ok ((decide (beyond2.2.num > p10))))) fun b11 => R.ok b11))
def l_good_3 (found1 : (List (Int × Int × (Rat × Rat) × (Rat × Rat)))) (floor2 : (Int × Int)) (side3 : ((Rat × Rat) × (Rat × Rat))) : R Bool :=
  if (!true) = true then (R.ok false) else (if ((decide (side3.1 = side3.2)) || (decide ((found1.length : Int) = (0 : Int)))) = true then (R.ok ((decide ((found1.length : Int) = (0 : Int))))) else (R.bind (l_way side3.1 side3.2) fun w4 => R.bind (R.ok w4) fun whole5 => R.bind (atR found1 ((0 : Int))) fun it6 => R.bind (R.ok it6.2.2.1) fun at7 => R.bind (R.forX (fun (x8 : (Int × Int × (Rat × Rat) × (Rat × Rat))) (s9 : (Rat × Rat)) => (R.bind (l_piece_good x8 floor2 whole5) fun p10 => if ((!p10) || (!decide (x8.2.2.1 = s9))) = true then (R.ok (Sum.inr false)) else (R.bind (R.ok x8.2.2.2) fun at11 => R.ok (Sum.inl at11)) : R (Sum ((Rat × Rat)) Bool))) found1 at7) fun r12 => R.caseX r12 (fun s13 => R.bind (atR found1 ((0 : Int))) fun it15 => R.bind (l_way side3.1 it15.2.2.1) fun w16 => R.bind (l_along w16 whole5) fun a17 => R.bind (R.orR ((!a17)) (R.bind (l_way s13 side3.2) fun w18 => R.bind (l_along w18 whole5) fun a19 => R.ok ((!a19)))) fun b20 => if b20 = true then (R.ok false) else (R.bind (atR found1 ((0 : Int))) fun it21 => R.bind (l_rim it21.2.2.1 side3.1 floor2) fun r22 => R.bind (R.andR r22 (R.bind (l_rim s13 side3.2 floor2) fun r23 => R.ok r23)) fun b24 => R.ok b24)) (fun b14 => R.ok b14)))
def k12_law (script1 : (List Int)) : R Bool :=
  R.bind (l_cell script1 ((0 : Int))) fun c2 =>
  R.bind (l_floor c2) fun f3 =>
  R.bind (R.ok f3) fun floor4 =>
  R.bind (rngR 0 ((3 : Int))) fun r5 =>
  R.bind (R.forX (fun (x6 : Int) (s7 : Unit) => (R.bind (mulR ((4 : Int)) x6) fun p8 => R.bind (l_cell script1 ((1 : Int))) fun c9 => R.bind (atR ([(1 : Int), (12 : Int), (144 : Int)]) x6) fun it10 => R.bind (fdivR c9 it10) fun q11 => R.bind (l_side script1 (((2 : Int) + p8)) q11) fun s12 => R.bind (R.ok s12) fun side13 => R.bind (p_pieces floor4.1 floor4.2 side13) fun pieces14 => R.bind (R.ok pieces14) fun found15 => R.bind (l_good_3 found15 floor4 side13) fun g16 => if (!g16) = true then (R.ok (Sum.inr false)) else (R.bind (R.ok found15) fun again17 => R.bind (roomR found15) fun u18 => R.bind (p_pieces floor4.1 floor4.2 side13) fun pieces19 => if (!decide (pieces19 = again17)) = true then (R.ok (Sum.inr false)) else (R.ok (Sum.inl (())))) : R (Sum Unit Bool))) r5 (())) fun r20 =>
  R.caseX r20 (fun s21 => R.ok true) (fun b22 => R.ok b22)
end Pg

set_option Elab.async false
set_option linter.all false
set_option maxRecDepth 100000
namespace Pg
/-! ### the point of a side at a share of the way -/
abbrev Sd := Pt × Pt
def at_ (e : Sd) (t : Rat) : Pt := (e.1.1 + t * (e.2.1 - e.1.1), e.1.2 + t * (e.2.2 - e.1.2))
theorem at_zero (e : Sd) : at_ e 0 = e.1 := by unfold at_; rw [show e.1.1 + 0 * (e.2.1 - e.1.1) = e.1.1 by grind, show e.1.2 + 0 * (e.2.2 - e.1.2) = e.1.2 by grind]
theorem at_one (e : Sd) : at_ e 1 = e.2 := by unfold at_; rw [show e.1.1 + 1 * (e.2.1 - e.1.1) = e.2.1 by grind, show e.1.2 + 1 * (e.2.2 - e.1.2) = e.2.2 by grind]
/-! ### the shares at which whole numbers lie -/
def shareQ (a b : Rat) (k : Int) : Rat := ((k : Rat) - a) / (b - a)
def sharesF (a b : Rat) (ks : List Int) : List Rat := (ks.map (shareQ a b)).filter fun s => decide (0 < s) && decide (s < 1)
def range0 (n : Int) : List Int := (List.range (n - 0).toNat).map fun k => (0 : Int) + (k : Nat)
def sharesQ (a b : Rat) (n : Int) : List Rat := if a = b then [] else sharesF a b (range0 (n + 1))
theorem range0_mem {n k : Int} : k ∈ range0 n ↔ 0 ≤ k ∧ k < n := by
  constructor
  · intro h; exact rng_mem h
  · intro h
    refine List.mem_map.mpr ⟨k.toNat, List.mem_range.mpr (by omega), by omega⟩
theorem SQ_share {n : Nat} {a b : Rat} {k : Int} (ha : SQ n a) (hb : SQ n b) (hk : S 6 k) (h0 : b - a ≠ 0) : SQ (3 * n + 8) (shareQ a b k) :=
  (((SQ_int hk (by decide)).sub ha).div (hb.sub ha) h0).mono (by omega)
theorem flat_loop {α β : Type} {f : α → List β → R (List β)} {g : α → List β} : ∀ (xs : List α) (s : List β), (∀ x ∈ xs, ∀ s : List β, s.length < 100000 → f x s = .ok (s ++ g x)) → (∀ x, (g x).length ≤ 2) → s.length + 2 * xs.length < 100000 → R.forR f xs s = .ok (s ++ xs.flatMap g)
  | [], s, _, _, _ => by rw [List.flatMap_nil, List.append_nil]; rfl
  | x :: xs, s, h, h2, hl => by
    rw [List.length_cons] at hl
    have := h2 x
    unfold R.forR
    rw [h x List.mem_cons_self s (by omega), bind_ok, flat_loop xs _ (fun y hy => h y (List.mem_cons_of_mem _ hy)) h2 (by rw [List.length_append]; omega), List.flatMap_cons, List.append_assoc]
theorem sharesF_flat (a b : Rat) : ∀ ks : List Int, (ks.flatMap fun k => if (decide (0 < shareQ a b k) && decide (shareQ a b k < 1)) = true then [shareQ a b k] else []) = sharesF a b ks
  | [] => rfl
  | k :: ks => by
    rw [List.flatMap_cons, sharesF_flat a b ks]
    unfold sharesF
    rw [List.map_cons, List.filter_cons]
    split <;> rfl
theorem p_shares_ok {n : Nat} {a b : Rat} {m : Int} (ha : SQ n a) (hb : SQ n b) (h0 : 0 ≤ m) (h1 : m ≤ 40) (hn : 4 * n + 20 < 134000000) : p_shares_between a b m = .ok (sharesQ a b m) := by
  unfold p_shares_between sharesQ
  rw [bind_ok]
  by_cases h : a = b
  · rw [if_pos h, decide_eq_true h]; rfl
  · rw [if_neg h, decide_eq_false h]
    show R.bind (if true = true then _ else _) _ = _
    rw [if_ok_t, rngR_ok (by decide) (by decide) (by omega) (by omega), bind_ok]
    have hba : b - a ≠ 0 := by grind
    rw [flat_loop (g := fun k => if (decide (0 < shareQ a b k) && decide (shareQ a b k < 1)) = true then [shareQ a b k] else []) _ _ (fun k hk s hl => ?_) (fun k => by split <;> simp) (by simp; omega), bind_ok, bind_ok, sharesF_flat]
    · rfl
    · have hk0 := rng_mem hk
      have sk : S 6 k := by unfold S; omega
      have ss := SQ_share ha hb sk hba
      rw [mkQ_int, bind_ok, p_minus_ok (SQ_int sk (by decide)) ha (by omega), bind_ok, p_minus_ok hb ha (by omega), bind_ok, p_parted_ok ((SQ_int sk (by decide)).sub ha) (hb.sub ha) (by omega) hba, bind_ok, bind_ok]
      show R.bind (p_under 0 (shareQ a b k)) _ = _
      rw [p_under_ok (SQ_zero 0) ss (by omega), bind_ok, mkQ_one, bind_ok]
      have e2 : R.bind (p_under (((k : Rat) - a) / (b - a)) 1) (fun under16 => R.ok under16) = R.ok (decide (shareQ a b k < 1)) := by
        show R.bind (p_under (shareQ a b k) 1) _ = _
        rw [p_under_ok ss (SQ_one 0) (by omega), bind_ok]
      rw [e2]
      have e3 : R.andR (decide (0 < shareQ a b k)) (R.ok (decide (shareQ a b k < 1))) = R.ok (decide (0 < shareQ a b k) && decide (shareQ a b k < 1)) := by
        cases decide (0 < shareQ a b k) <;> rfl
      rw [e3, bind_ok]
      by_cases c : (decide (0 < shareQ a b k) && decide (shareQ a b k < 1)) = true
      · rw [if_pos c, if_pos c]
        show R.bind (appR s (shareQ a b k)) _ = _
        rw [appR_ok (by omega), bind_ok]
      · rw [if_neg c, if_neg c, List.append_nil]
theorem sharesF_mem {a b : Rat} {ks : List Int} {s : Rat} : s ∈ sharesF a b ks ↔ (∃ k ∈ ks, s = shareQ a b k) ∧ 0 < s ∧ s < 1 := by
  unfold sharesF
  rw [List.mem_filter, List.mem_map]
  simp only [Bool.and_eq_true, decide_eq_true_eq]
  constructor
  · rintro ⟨⟨k, h1, h2⟩, h3⟩; exact ⟨⟨k, h1, h2.symm⟩, h3⟩
  · rintro ⟨⟨k, h1, h2⟩, h3⟩; exact ⟨⟨k, h1, h2.symm⟩, h3⟩
theorem sharesQ_mem {a b : Rat} {n : Int} {s : Rat} : s ∈ sharesQ a b n ↔ a ≠ b ∧ (∃ k : Int, 0 ≤ k ∧ k ≤ n ∧ s = shareQ a b k) ∧ 0 < s ∧ s < 1 := by
  unfold sharesQ
  by_cases h : a = b
  · rw [if_pos h]; simp [h]
  · rw [if_neg h, sharesF_mem]
    constructor
    · rintro ⟨⟨k, h1, h2⟩, h3⟩
      have := range0_mem.mp h1
      exact ⟨h, ⟨k, by omega, by omega, h2⟩, h3⟩
    · rintro ⟨_, ⟨k, h1, h2, h4⟩, h3⟩
      exact ⟨⟨k, range0_mem.mpr (by omega), h4⟩, h3⟩
theorem sharesQ_len {a b : Rat} {n : Int} (h : 0 ≤ n) : (sharesQ a b n).length ≤ n.toNat + 1 := by
  unfold sharesQ
  split
  · simp
  · unfold sharesF range0
    refine Nat.le_trans (List.length_filter_le _ _) ?_
    simp; omega
/-! ### a rising row with one more -/
def putQ : List Rat → Rat → List Rat
  | [], s => [s]
  | x :: xs, s => if x = s then x :: xs else if s < x then s :: x :: xs else x :: putQ xs s
theorem putQ_cons (x : Rat) (xs : List Rat) (s : Rat) : putQ (x :: xs) s = if x = s then x :: xs else if s < x then s :: x :: xs else x :: putQ xs s := rfl
def Rising : List Rat → Prop
  | [] => True
  | [_] => True
  | x :: y :: r => x < y ∧ Rising (y :: r)
theorem putQ_mem : ∀ {xs : List Rat} {s z : Rat}, z ∈ putQ xs s ↔ z = s ∨ z ∈ xs
  | [], s, z => by simp [putQ]
  | x :: xs, s, z => by
    unfold putQ
    split
    · rename_i h; subst h; simp
    · split
      · simp
      · simp only [List.mem_cons, putQ_mem (xs := xs)]; grind
theorem rising_cons {x : Rat} : ∀ {xs : List Rat}, Rising xs → (∀ y ∈ xs, x < y) → Rising (x :: xs)
  | [], _, _ => trivial
  | _ :: _, h, h2 => ⟨h2 _ List.mem_cons_self, h⟩
theorem rising_tail {x : Rat} : ∀ {xs : List Rat}, Rising (x :: xs) → Rising xs
  | [], _ => trivial
  | _ :: _, h => h.2
theorem rising_lt {x : Rat} : ∀ {xs : List Rat}, Rising (x :: xs) → ∀ y ∈ xs, x < y
  | [], _, _, h => nomatch h
  | y :: ys, h, z, hz => by
    rcases List.mem_cons.mp hz with rfl | hz
    · exact h.1
    · have := rising_lt h.2 z hz
      have := h.1
      grind
theorem putQ_rising : ∀ {xs : List Rat} {s : Rat}, Rising xs → Rising (putQ xs s)
  | [], s, _ => trivial
  | x :: xs, s, h => by
    unfold putQ
    split
    · exact h
    · rename_i h1
      split
      · rename_i h2; exact ⟨h2, h⟩
      · rename_i h2
        refine rising_cons (putQ_rising (rising_tail h)) fun y hy => ?_
        rcases putQ_mem.mp hy with rfl | hy
        · grind
        · exact rising_lt h y hy
theorem putQ_len : ∀ (xs : List Rat) (s : Rat), (putQ xs s).length ≤ xs.length + 1
  | [], s => by simp [putQ]
  | x :: xs, s => by
    unfold putQ
    have := putQ_len xs s
    split
    · simp
    · split
      · simp
      · simp only [List.length_cons]; omega
theorem p_put_ok {n : Nat} {row : List Rat} {s : Rat} (hr : ∀ x ∈ row, SQ n x) (hs : SQ n s) (hl : row.length < 1000) (hn : n < 60000000) : p_put_in row s = .ok (putQ row s) := by
  unfold p_put_in
  rw [rngR_ok (by decide) (by decide) (by omega) (by omega), bind_ok]
  have key : ∀ (xs : List Int) (i : Nat), (∀ j, xs[j]? = if i + j < row.length then some ((i + j : Nat) : Int) else none) → putQ row s = row.take i ++ putQ (row.drop i) s →
      R.forX (fun (x4 : Int) (s5 : Unit) => (R.bind (atR row x4) fun it6 => if (decide (it6 = s)) = true then (R.ok (Sum.inr row)) else (R.bind (atR row x4) fun it7 => R.bind (p_under s it7) fun under8 => if under8 = true then (R.bind (catR ((cutL row none (some x4))) ([s])) fun c9 => R.bind (catR c9 ((cutL row (some x4) none))) fun c10 => R.ok (Sum.inr c10)) else (R.ok (Sum.inl (())))) : R (Sum Unit ((List Rat))))) xs () = .ok (.inr (putQ row s)) ∨
      (R.forX (fun (x4 : Int) (s5 : Unit) => (R.bind (atR row x4) fun it6 => if (decide (it6 = s)) = true then (R.ok (Sum.inr row)) else (R.bind (atR row x4) fun it7 => R.bind (p_under s it7) fun under8 => if under8 = true then (R.bind (catR ((cutL row none (some x4))) ([s])) fun c9 => R.bind (catR c9 ((cutL row (some x4) none))) fun c10 => R.ok (Sum.inr c10)) else (R.ok (Sum.inl (())))) : R (Sum Unit ((List Rat))))) xs () = .ok (.inl ()) ∧ putQ row s = row ++ [s]) := by
    intro xs
    induction xs with
    | nil =>
      intro i hx hp
      right
      refine ⟨rfl, ?_⟩
      have h0 := hx 0
      have hi : row.length ≤ i := by
        by_cases c : i + 0 < row.length
        · rw [if_pos c] at h0; simp at h0
        · omega
      rw [hp, List.take_of_length_le hi, List.drop_eq_nil_of_le hi]; rfl
    | cons x xs ih =>
      intro i hx hp
      have h0 := hx 0
      have hi : i < row.length := by
        by_cases c : i + 0 < row.length
        · omega
        · rw [if_neg c] at h0; simp at h0
      have ex : x = (i : Int) := by
        rw [if_pos (by omega)] at h0
        have := Option.some.inj (show some x = _ from h0)
        simpa using this
      subst ex
      have hg : row[i]? = some row[i] := List.getElem?_eq_getElem hi
      have hd : row.drop i = row[i] :: row.drop (i + 1) := List.drop_eq_getElem_cons hi
      have hm := hr row[i] (List.getElem_mem hi)
      unfold R.forX
      rw [atR_nat hg, bind_ok]
      rw [hd, putQ_cons] at hp
      by_cases c1 : row[i] = s
      · left
        rw [decide_eq_true c1, if_ok_t, bind_ok]
        show R.ok (Sum.inr row) = _
        rw [if_pos c1, ← hd, List.take_append_drop] at hp
        rw [hp]
      · rw [decide_eq_false c1, if_ok_f, bind_ok, p_under_ok hs hm (by omega), bind_ok]
        rw [if_neg c1] at hp
        by_cases c2 : s < row[i]
        · left
          rw [decide_eq_true c2, if_ok_t]
          rw [if_pos c2] at hp
          have e1 : cutL row none (some (i : Int)) = row.take i := by
            unfold cutL sIxP
            simp only [if_neg (show ¬ (i : Int) < 0 by omega), Nat.sub_zero, List.drop_zero]
            rw [Nat.min_eq_left (by omega)]; simp
          have e2 : cutL row (some (i : Int)) none = row.drop i := by
            unfold cutL sIxP
            simp only [if_neg (show ¬ (i : Int) < 0 by omega)]
            rw [Nat.min_eq_left (by omega), List.take_of_length_le (by rw [List.length_drop]; omega)]; simp
          rw [e1, e2, catR_ok (by rw [List.length_take]; simp; omega), bind_ok, catR_ok (by rw [List.length_append, List.length_take, List.length_drop]; simp; omega), bind_ok, bind_ok]
          show R.ok (Sum.inr _) = _
          rw [hp, hd, List.append_assoc]; rfl
        · rw [decide_eq_false c2, if_ok_f, bind_ok]
          rw [if_neg c2] at hp
          refine ih (i + 1) (fun j => ?_) ?_
          · have := hx (j + 1)
            rw [List.getElem?_cons_succ] at this
            rw [this, show i + (j + 1) = i + 1 + j by omega]
          · rw [hp, take_more hg, List.append_assoc]; rfl
  rcases key ((List.range ((row.length : Int) - 0).toNat).map fun k => (0 : Int) + (k : Nat)) 0 (fun j => by
      rw [List.getElem?_map]
      by_cases c : j < row.length
      · rw [List.getElem?_range (by omega), if_pos (by omega)]; simp
      · rw [List.getElem?_eq_none (by simp; omega), if_neg (by omega)]; rfl) rfl with h | ⟨h, h2⟩
  · rw [h, bind_ok, caseX_r]
  · rw [h, bind_ok, caseX_l, catR_ok (by simp; omega), bind_ok, h2]
/-! ### all shares of a side, its points -/
def putAll (xs : List Rat) : List Rat → List Rat
  | [] => xs
  | s :: ss => putAll (putQ xs s) ss
theorem putAll_mem : ∀ {ss xs : List Rat} {z : Rat}, z ∈ putAll xs ss ↔ z ∈ xs ∨ z ∈ ss
  | [], xs, z => by simp [putAll]
  | s :: ss, xs, z => by
    unfold putAll
    rw [putAll_mem, putQ_mem, List.mem_cons]; grind
theorem putAll_rising : ∀ {ss xs : List Rat}, Rising xs → Rising (putAll xs ss)
  | [], _, h => h
  | s :: ss, xs, h => by
    show Rising (putAll (putQ xs s) ss)
    exact putAll_rising (putQ_rising h)
theorem putAll_len : ∀ (ss xs : List Rat), (putAll xs ss).length ≤ xs.length + ss.length
  | [], xs => Nat.le_refl _
  | s :: ss, xs => by
    unfold putAll
    have h1 := putAll_len ss (putQ xs s)
    have h2 := putQ_len xs s
    rw [List.length_cons]; omega
/-- the shares at which a side is cut, within -/
def innerQ (w h : Int) (e : Sd) : List Rat := putAll [] (sharesQ e.1.1 e.2.1 w ++ sharesQ e.1.2 e.2.2 h)
/-- with both ends -/
def knots (w h : Int) (e : Sd) : List Rat := 0 :: innerQ w h e ++ [1]
theorem inner_mem {w h : Int} {e : Sd} {s : Rat} : s ∈ innerQ w h e ↔ s ∈ sharesQ e.1.1 e.2.1 w ∨ s ∈ sharesQ e.1.2 e.2.2 h := by
  unfold innerQ
  rw [putAll_mem, List.mem_append]; simp
theorem inner_01 {w h : Int} {e : Sd} {s : Rat} (hs : s ∈ innerQ w h e) : 0 < s ∧ s < 1 := by
  rcases inner_mem.mp hs with h | h <;> exact (sharesQ_mem.mp h).2.2
theorem rising_snoc {z : Rat} : ∀ {xs : List Rat}, Rising xs → (∀ y ∈ xs, y < z) → Rising (xs ++ [z])
  | [], _, _ => trivial
  | [x], _, h => ⟨h x (by simp), trivial⟩
  | x :: y :: r, h, h2 => ⟨h.1, rising_snoc h.2 fun u hu => h2 u (List.mem_cons_of_mem _ hu)⟩
theorem knots_rising (w h : Int) (e : Sd) : Rising (knots w h e) := by
  unfold knots
  refine rising_snoc (rising_cons (putAll_rising trivial) fun y hy => (inner_01 hy).1) fun y hy => ?_
  rcases List.mem_cons.mp hy with rfl | hy
  · decide
  · exact (inner_01 hy).2
theorem SQ_inner {n : Nat} {w h : Int} {e : Sd} (hp : SP n e.1) (hq : SP n e.2) (hw : w ≤ 40) (hh : h ≤ 40) {s : Rat} (hs : s ∈ innerQ w h e) : SQ (3 * n + 8) s := by
  have one : ∀ {a b : Rat} {m : Int}, SQ n a → SQ n b → m ≤ 40 → s ∈ sharesQ a b m → SQ (3 * n + 8) s := fun ha hb hm hs => by
    obtain ⟨hne, ⟨k, k0, k1, rfl⟩, _⟩ := sharesQ_mem.mp hs
    exact SQ_share ha hb (by unfold S; omega) (by grind)
  rcases inner_mem.mp hs with h | h
  · exact one hp.1 hq.1 hw h
  · exact one hp.2 hq.2 hh h
theorem SP_at {n k : Nat} {e : Sd} {s : Rat} (hp : SP n e.1) (hq : SP n e.2) (hs : SQ k s) : SP (3 * n + k + 2) (at_ e s) :=
  ⟨(hp.1.add (hs.mul (hq.1.sub hp.1))).mono (by omega), (hp.2.add (hs.mul (hq.2.sub hp.2))).mono (by omega)⟩
theorem p_points_ok {n : Nat} {w h : Int} {e : Sd} (hp : SP n e.1) (hq : SP n e.2) (hw0 : 0 ≤ w) (hw : w ≤ 40) (hh0 : 0 ≤ h) (hh : h ≤ 40) (hn : 8 * n + 30 < 60000000) : p_points_on w h e = .ok ((knots w h e).map (at_ e)) := by
  unfold p_points_on
  have l1 := sharesQ_len (a := e.1.1) (b := e.2.1) hw0
  have l2 := sharesQ_len (a := e.1.2) (b := e.2.2) hh0
  rw [bind_ok, bind_ok, p_shares_ok hp.1 hq.1 hw0 hw (by omega), bind_ok, p_shares_ok hp.2 hq.2 hh0 hh (by omega), bind_ok, catR_ok (by omega), bind_ok]
  have key : ∀ (ss xs : List Rat), (∀ x ∈ xs, SQ (3 * n + 8) x) → (∀ x ∈ ss, SQ (3 * n + 8) x) → xs.length + ss.length < 1000 →
      R.forR (fun (x9 : Rat) (s10 : (List Rat)) => R.bind (p_put_in s10 x9) fun put_in11 => R.bind (R.ok put_in11) fun row12 => R.ok row12) ss xs = .ok (putAll xs ss) := by
    intro ss
    induction ss with
    | nil => intro xs _ _ _; rfl
    | cons s ss ih =>
      intro xs h1 h2 hl
      rw [List.length_cons] at hl
      unfold R.forR
      have hlen := putQ_len xs s
      rw [p_put_ok h1 (h2 s List.mem_cons_self) (by omega) (by omega), bind_ok, bind_ok, bind_ok, ih _ (fun x hx => ?_) (fun x hx => h2 x (List.mem_cons_of_mem _ hx)) (by omega)]
      · rfl
      · rcases putQ_mem.mp hx with rfl | hx
        · exact h2 x List.mem_cons_self
        · exact h1 x hx
  have sh : ∀ s ∈ sharesQ e.1.1 e.2.1 w ++ sharesQ e.1.2 e.2.2 h, SQ (3 * n + 8) s := fun s hs => SQ_inner hp hq hw hh (inner_mem.mpr (List.mem_append.mp hs))
  rw [key _ [] (fun x hx => nomatch hx) sh (by rw [List.length_append]; simp; omega), bind_ok]
  have l3 := putAll_len (sharesQ e.1.1 e.2.1 w ++ sharesQ e.1.2 e.2.2 h) []
  rw [List.length_append, List.length_nil] at l3
  rw [compR_ok (by omega) (mapR_ok (g := at_ e) fun s hs => by rw [p_point_ok hp hq (SQ_inner hp hq hw hh hs) (by omega), bind_ok]; rfl), bind_ok, catR_ok (by rw [List.length_map]; simp; omega), bind_ok, catR_ok (by rw [List.length_append, List.length_map]; simp; omega), bind_ok]
  have e1 : (knots w h e).map (at_ e) = [e.1] ++ (innerQ w h e).map (at_ e) ++ [e.2] := by
    unfold knots
    rw [List.map_append, List.map_cons, at_zero]
    show e.1 :: _ ++ [at_ e 1] = _
    rw [at_one]; rfl
  rw [e1]; rfl
end Pg

set_option Elab.async false
set_option linter.all false
set_option maxRecDepth 100000
namespace Pg
/-! ### whole parts -/
def fl (q : Rat) : Int := q.num / (q.den : Int)
theorem int_le_rat (n : Int) (q : Rat) : (n : Rat) ≤ q ↔ n * (q.den : Int) ≤ q.num := by
  rw [Rat.le_iff, Rat.num_intCast, Rat.den_intCast]
  simp
theorem rat_lt_int (n : Int) (q : Rat) : q < (n : Rat) ↔ q.num < n * (q.den : Int) := by
  rw [Rat.lt_iff, Rat.num_intCast, Rat.den_intCast]
  simp
theorem fl_le (q : Rat) : ((fl q : Int) : Rat) ≤ q := by
  rw [int_le_rat]
  have hd := q.den_pos
  have := Int.mul_ediv_self_le (x := q.num) (k := (q.den : Int)) (by omega)
  unfold fl
  rw [Int.mul_comm]; exact this
theorem lt_fl (q : Rat) : q < ((fl q + 1 : Int) : Rat) := by
  rw [rat_lt_int]
  have hd := q.den_pos
  have := Int.lt_mul_ediv_self_add (x := q.num) (k := (q.den : Int)) (by omega)
  unfold fl
  rw [Int.add_mul, Int.one_mul, Int.mul_comm]; exact this
theorem fl_lt_iff (q : Rat) (n : Int) : fl q < n ↔ q < (n : Rat) := by
  have h1 := fl_le q
  have h2 := lt_fl q
  constructor
  · intro h
    have h3 : ((fl q + 1 : Int) : Rat) ≤ (n : Rat) := Rat.intCast_le_intCast.mpr (by omega)
    grind
  · intro h
    have h3 : ((fl q : Int) : Rat) < (n : Rat) := by grind
    exact Rat.intCast_lt_intCast.mp h3
theorem le_fl_iff (q : Rat) (n : Int) : n ≤ fl q ↔ (n : Rat) ≤ q := by
  have := fl_lt_iff q n
  constructor
  · intro h; by_cases c : q < (n : Rat)
    · have := this.mpr c; omega
    · grind
  · intro h; by_cases c : fl q < n
    · have := this.mp c; grind
    · omega
def mid (a b : Rat) : Rat := (a + b) * (1 / 2)
theorem p_middle_ok' {n m : Nat} {p q : Rat} (hp : SQ n p) (hq : SQ m q) (h : n + m + 10 < 134000000) : p_middle p q = .ok (mid p q) := by
  unfold p_middle
  rw [p_plus_ok hp hq (by omega), bind_ok, p_times_ok (hp.add hq) (SQ_half 0) (by omega), bind_ok]; rfl
theorem SQ_mid {n m : Nat} {p q : Rat} (hp : SQ n p) (hq : SQ m q) : SQ (n + m + 3) (mid p q) := ((hp.add hq).mul (SQ_half 0)).mono (by omega)
theorem mid2 (a b : Rat) : 2 * mid a b = a + b := by unfold mid; grind
/-! ### pieces -/
abbrev Pc := Int × Int × Pt × Pt
def pairs (ks : List Rat) : List (Rat × Rat) := zipL ks (ks.drop 1)
def colQ (e : Sd) (k : Rat × Rat) : Int := fl (mid (at_ e k.1).1 (at_ e k.2).1)
def rowQ (e : Sd) (k : Rat × Rat) : Int := fl (mid (at_ e k.1).2 (at_ e k.2).2)
def onFloor (w h : Int) (e : Sd) (k : Rat × Rat) : Bool := decide (0 ≤ rowQ e k) && decide (rowQ e k < h) && decide (colQ e k < w)
def pieceOf (e : Sd) (k : Rat × Rat) : Pc := (maxZ (colQ e k) (-1), rowQ e k, at_ e k.1, at_ e k.2)
def pieceE (w h : Int) (e : Sd) (k : Rat × Rat) : List Pc := if onFloor w h e k = true then [pieceOf e k] else []
def piecesQ (w h : Int) (e : Sd) : List Pc := if e.1 = e.2 then [] else (pairs (knots w h e)).flatMap (pieceE w h e)
theorem pairs_len (ks : List Rat) : (pairs ks).length = ks.length - 1 := by
  unfold pairs
  rw [zipL_len, List.length_drop]; omega
theorem pairs_get {ks : List Rat} {i : Nat} (h : i + 1 < ks.length) : (pairs ks)[i]? = some (ks[i], ks[i + 1]) := by
  unfold pairs
  refine zipL_get (List.getElem?_eq_getElem (by omega)) ?_
  rw [List.getElem?_drop, show 1 + i = i + 1 by omega]
  exact List.getElem?_eq_getElem h
theorem knots_len {w h : Int} (e : Sd) (hw0 : 0 ≤ w) (hw : w ≤ 40) (hh0 : 0 ≤ h) (hh : h ≤ 40) : 2 ≤ (knots w h e).length ∧ (knots w h e).length ≤ 100 := by
  have l1 := sharesQ_len (a := e.1.1) (b := e.2.1) hw0
  have l2 := sharesQ_len (a := e.1.2) (b := e.2.2) hh0
  have l3 := putAll_len (sharesQ e.1.1 e.2.1 w ++ sharesQ e.1.2 e.2.2 h) []
  rw [List.length_append, List.length_nil] at l3
  unfold knots innerQ
  rw [List.length_append, List.length_cons]
  simp only [List.length_singleton]
  omega
theorem knots_mem {w h : Int} {e : Sd} {s : Rat} : s ∈ knots w h e ↔ s = 0 ∨ s ∈ innerQ w h e ∨ s = 1 := by
  unfold knots
  simp
theorem SQ_knot {n : Nat} {w h : Int} {e : Sd} (hp : SP n e.1) (hq : SP n e.2) (hw : w ≤ 40) (hh : h ≤ 40) {s : Rat} (hs : s ∈ knots w h e) : SQ (3 * n + 8) s := by
  rcases knots_mem.mp hs with rfl | h | rfl
  · exact (SQ_zero 0).mono (by omega)
  · exact SQ_inner hp hq hw hh h
  · exact (SQ_one 0).mono (by omega)
theorem SP_knot {n : Nat} {w h : Int} {e : Sd} (hp : SP n e.1) (hq : SP n e.2) (hw : w ≤ 40) (hh : h ≤ 40) {s : Rat} (hs : s ∈ knots w h e) : SP (6 * n + 10) (at_ e s) :=
  (SP_at hp hq (SQ_knot hp hq hw hh hs)).mono (by omega)
theorem p_pieces_ok {n : Nat} {w h : Int} {e : Sd} (hp : SP n e.1) (hq : SP n e.2) (hw0 : 0 ≤ w) (hw : w ≤ 40) (hh0 : 0 ≤ h) (hh : h ≤ 40) (hn : 14 * n + 60 < 60000000) : p_pieces w h e = .ok (piecesQ w h e) := by
  unfold p_pieces piecesQ
  rw [bind_ok]
  by_cases he : e.1 = e.2
  · rw [decide_eq_true he, if_ok_t, if_pos he]
  · rw [decide_eq_false he, if_ok_f, if_neg he, p_points_ok hp hq hw0 hw hh0 hh (by omega), bind_ok, bind_ok, List.length_map]
    obtain ⟨k2, k100⟩ := knots_len e hw0 hw hh0 hh
    rw [rngR_ok (by decide) (by decide) (by omega) (by omega), bind_ok]
    have hlen : ((List.range (((knots w h e).length : Int) - 1 - 0).toNat).map fun k => (0 : Int) + (k : Nat)).length = (pairs (knots w h e)).length := by rw [pairs_len]; simp
    have fin := Ok.forR (f := fun (x8 : Int) (s9 : (List (Int × Int × (Rat × Rat) × (Rat × Rat)))) => R.bind (atR ((knots w h e).map (at_ e)) x8) fun it10 => R.bind (R.ok it10) fun one11 => R.bind (atR ((knots w h e).map (at_ e)) ((x8 + (1 : Int)))) fun it12 => R.bind (R.ok it12) fun other13 => R.bind (p_middle one11.1 other13.1) fun middle14 => R.bind (p_whole_part middle14) fun whole15 => R.bind (R.ok whole15) fun column16 => R.bind (p_middle one11.2 other13.2) fun middle17 => R.bind (p_whole_part middle17) fun whole18 => R.bind (R.ok whole18) fun row19 => if ((decide ((0 : Int) ≤ row19) && decide (row19 < h)) && (decide (column16 < w))) = true then (R.bind (appR s9 (((maxZ column16 ((-((1 : Int))))), row19, one11, other13))) fun come20 => R.ok come20) else (R.ok s9))
      (xs := (List.range (((knots w h e).length : Int) - 1 - 0).toNat).map fun k => (0 : Int) + (k : Nat)) (s := [])
      (fun i s => s = ((pairs (knots w h e)).take i).flatMap (pieceE w h e) ∧ s.length ≤ i) ⟨by simp, by simp⟩ fun i s x hs hx => by
        obtain ⟨ex, hx2⟩ := rng_at hx
        have hi : i + 1 < (knots w h e).length := by omega
        have ex : x = (i : Int) := by omega
        subst ex
        have g1 : (knots w h e)[i]? = some (knots w h e)[i] := List.getElem?_eq_getElem (by omega)
        have g2 : (knots w h e)[i + 1]? = some (knots w h e)[i + 1] := List.getElem?_eq_getElem hi
        have a1 := map_get (f := at_ e) (atR_nat g1)
        have a2 := map_get (f := at_ e) (atR_nat g2)
        have s1 := SP_knot hp hq hw hh (List.mem_of_getElem? g1)
        have s2 := SP_knot hp hq hw hh (List.mem_of_getElem? g2)
        have gp := pairs_get hi
        generalize (knots w h e)[i] = u at *
        generalize (knots w h e)[i + 1] = v at *
        refine .step a1 (.one (.step a2 (.one (.step (p_middle_ok' s1.1 s2.1 (by omega)) (.step (p_whole_ok _) (.one (.step (p_middle_ok' s1.2 s2.2 (by omega)) (.step (p_whole_ok _) (.one ?_)))))))))
        have tk : ((pairs (knots w h e)).take (i + 1)).flatMap (pieceE w h e) = s ++ pieceE w h e (u, v) := by rw [take_more gp, List.flatMap_append, ← hs.1, List.flatMap_singleton]
        rw [tk]
        have e1 : pieceE w h e (u, v) = if onFloor w h e (u, v) = true then [pieceOf e (u, v)] else [] := rfl
        rw [e1]
        refine .iteB (fun c => ?_) fun c => ?_
        · have c2 : onFloor w h e (u, v) = true := c
          rw [if_pos c2]
          exact .step (appR_ok (by have := hs.2; omega)) (.pure ⟨rfl, by rw [List.length_append]; simp; exact hs.2⟩)
        · have c2 : ¬ onFloor w h e (u, v) = true := fun z => by
            have z2 : ((decide ((0 : Int) ≤ rowQ e (u, v)) && decide (rowQ e (u, v) < h)) && (decide (colQ e (u, v) < w))) = true := z
            have c3 : ((decide ((0 : Int) ≤ rowQ e (u, v)) && decide (rowQ e (u, v) < h)) && (decide (colQ e (u, v) < w))) = false := c
            rw [z2] at c3; cases c3
          rw [if_neg c2, List.append_nil]
          exact .pure ⟨rfl, by have := hs.2; omega⟩
    obtain ⟨a, e1, e2⟩ := fin
    rw [e1, bind_ok, e2.1, hlen, List.take_length]
/-! ### neighbours among the knots -/
/-- s, t: neighbours -/
structure Nb (w h : Int) (e : Sd) (k : Rat × Rat) : Prop where
  lt : k.1 < k.2
  ge : 0 ≤ k.1
  le : k.2 ≤ 1
  no : ∀ z ∈ knots w h e, z ≤ k.1 ∨ k.2 ≤ z
  m1 : k.1 ∈ knots w h e
  m2 : k.2 ∈ knots w h e
theorem rising_nb : ∀ {ks : List Rat}, Rising ks → ∀ k ∈ pairs ks, k.1 < k.2 ∧ k.1 ∈ ks ∧ k.2 ∈ ks ∧ ∀ z ∈ ks, z ≤ k.1 ∨ k.2 ≤ z
  | [], _, k, hk => nomatch hk
  | [x], _, k, hk => nomatch hk
  | x :: y :: r, hr, k, hk => by
    have e : pairs (x :: y :: r) = (x, y) :: pairs (y :: r) := rfl
    rw [e] at hk
    rcases List.mem_cons.mp hk with rfl | hk
    · refine ⟨hr.1, by simp, by simp, fun z hz => ?_⟩
      rcases List.mem_cons.mp hz with rfl | hz
      · left; exact Rat.le_refl
      · right
        rcases List.mem_cons.mp hz with rfl | hz
        · exact Rat.le_refl
        · have := rising_lt hr.2 z hz
          show y ≤ z
          grind
    · obtain ⟨h1, h2, h3, h4⟩ := rising_nb hr.2 k hk
      refine ⟨h1, List.mem_cons_of_mem _ h2, List.mem_cons_of_mem _ h3, fun z hz => ?_⟩
      rcases List.mem_cons.mp hz with rfl | hz
      · left
        have := rising_lt hr k.1 h2
        grind
      · exact h4 z hz
theorem nb_of {w h : Int} {e : Sd} {k : Rat × Rat} (hk : k ∈ pairs (knots w h e)) : Nb w h e k := by
  obtain ⟨h1, h2, h3, h4⟩ := rising_nb (knots_rising w h e) k hk
  have b : ∀ z ∈ knots w h e, 0 ≤ z ∧ z ≤ 1 := fun z hz => by
    rcases knots_mem.mp hz with rfl | hz | rfl
    · exact ⟨by decide, by decide⟩
    · have := inner_01 hz; constructor <;> grind
    · exact ⟨by decide, by decide⟩
  exact ⟨h1, (b _ h2).1, (b _ h3).2, h4, h2, h3⟩
theorem pos_of_mul {x y : Rat} (h : 0 < x * y) (hx : 0 < x) : 0 < y := by
  by_cases c : 0 < y
  · exact c
  · have := Rat.mul_le_mul_of_nonneg_left (show y ≤ 0 by grind) (show 0 ≤ x by grind)
    grind
/-- of one way: no whole number of the floor lies strictly within a piece -/
theorem side_of {a b s t : Rat} {m k : Int} (k0 : 0 ≤ k) (k1 : k ≤ m) (hst : s < t) (h0 : 0 ≤ s) (h1 : t ≤ 1) (no : ∀ z ∈ sharesQ a b m, z ≤ s ∨ t ≤ z) :
    (a + s * (b - a) ≤ (k : Rat) ∧ a + t * (b - a) ≤ (k : Rat)) ∨ ((k : Rat) ≤ a + s * (b - a) ∧ (k : Rat) ≤ a + t * (b - a)) := by
  by_cases hab : a = b
  · subst hab
    by_cases c : a ≤ (k : Rat)
    · left; constructor <;> grind
    · right; constructor <;> grind
  · have hba : b - a ≠ 0 := by grind
    have hu : shareQ a b k * (b - a) = (k : Rat) - a := Rat.div_mul_cancel hba
    have hn : shareQ a b k ∈ sharesQ a b m → shareQ a b k ≤ s ∨ t ≤ shareQ a b k := no _
    generalize shareQ a b k = u at hu hn
    by_cases c1 : s < u ∧ u < t
    · exfalso
      have hm : shareQ a b k ∈ sharesQ a b m := by
        refine sharesQ_mem.mpr ⟨hab, ⟨k, k0, k1, rfl⟩, ?_, ?_⟩
        all_goals
          have e : shareQ a b k = u := by
            have h2 : shareQ a b k * (b - a) = (k : Rat) - a := Rat.div_mul_cancel hba
            have h3 : (b - a) * (shareQ a b k - u) = 0 := by grind
            rcases mul_eq0 h3 with z | z
            · exact absurd z hba
            · grind
          rw [e]; grind
      have e : shareQ a b k = u := by
        have h2 : shareQ a b k * (b - a) = (k : Rat) - a := Rat.div_mul_cancel hba
        have h3 : (b - a) * (shareQ a b k - u) = 0 := by grind
        rcases mul_eq0 h3 with z | z
        · exact absurd z hba
        · grind
      rw [e] at hm
      have := hn hm
      grind
    · have hd : 0 < b - a ∨ 0 < a - b := by grind
      have c2 : u ≤ s ∨ t ≤ u := by grind
      rcases hd with hd | hd <;> rcases c2 with c2 | c2
      · right
        have h3 := Rat.mul_le_mul_of_nonneg_left (show u ≤ s from c2) (show 0 ≤ b - a by grind)
        have h4 := Rat.mul_le_mul_of_nonneg_left (show u ≤ t by grind) (show 0 ≤ b - a by grind)
        constructor <;> grind
      · left
        have h3 := Rat.mul_le_mul_of_nonneg_left (show s ≤ u by grind) (show 0 ≤ b - a by grind)
        have h4 := Rat.mul_le_mul_of_nonneg_left (show t ≤ u from c2) (show 0 ≤ b - a by grind)
        constructor <;> grind
      · left
        have h3 := Rat.mul_le_mul_of_nonneg_left (show u ≤ s from c2) (show 0 ≤ a - b by grind)
        have h4 := Rat.mul_le_mul_of_nonneg_left (show u ≤ t by grind) (show 0 ≤ a - b by grind)
        constructor <;> grind
      · right
        have h3 := Rat.mul_le_mul_of_nonneg_left (show s ≤ u by grind) (show 0 ≤ a - b by grind)
        have h4 := Rat.mul_le_mul_of_nonneg_left (show t ≤ u from c2) (show 0 ≤ a - b by grind)
        constructor <;> grind
theorem nb_x {w h : Int} {e : Sd} {k : Rat × Rat} (n : Nb w h e k) {z : Int} (z0 : 0 ≤ z) (z1 : z ≤ w) :
    ((at_ e k.1).1 ≤ (z : Rat) ∧ (at_ e k.2).1 ≤ (z : Rat)) ∨ ((z : Rat) ≤ (at_ e k.1).1 ∧ (z : Rat) ≤ (at_ e k.2).1) :=
  side_of z0 z1 n.lt n.ge n.le fun u hu => n.no u (knots_mem.mpr (.inr (.inl (inner_mem.mpr (.inl hu)))))
theorem nb_y {w h : Int} {e : Sd} {k : Rat × Rat} (n : Nb w h e k) {z : Int} (z0 : 0 ≤ z) (z1 : z ≤ h) :
    ((at_ e k.1).2 ≤ (z : Rat) ∧ (at_ e k.2).2 ≤ (z : Rat)) ∨ ((z : Rat) ≤ (at_ e k.1).2 ∧ (z : Rat) ≤ (at_ e k.2).2) :=
  side_of z0 z1 n.lt n.ge n.le fun u hu => n.no u (knots_mem.mpr (.inr (.inl (inner_mem.mpr (.inr hu)))))
/-- ends in the cell of their middle -/
theorem in_cell {a b : Rat} {m : Int} (hs : ∀ z : Int, 0 ≤ z → z ≤ m → (a ≤ (z : Rat) ∧ b ≤ (z : Rat)) ∨ ((z : Rat) ≤ a ∧ (z : Rat) ≤ b)) (h1 : fl (mid a b) < m) (hm : 0 ≤ m) :
    (a ≤ ((maxZ (fl (mid a b)) (-1) + 1 : Int) : Rat) ∧ b ≤ ((maxZ (fl (mid a b)) (-1) + 1 : Int) : Rat)) ∧ (0 ≤ fl (mid a b) → ((fl (mid a b) : Int) : Rat) ≤ a ∧ ((fl (mid a b) : Int) : Rat) ≤ b) := by
  have m2 := mid2 a b
  have f1 := fl_le (mid a b)
  have f2 := lt_fl (mid a b)
  generalize mid a b = x at *
  by_cases c : 0 ≤ fl x
  · have e : maxZ (fl x) (-1) = fl x := by unfold maxZ; rw [if_neg (by omega)]
    rw [e]
    refine ⟨?_, fun _ => ?_⟩
    · rcases hs (fl x + 1) (by omega) (by omega) with z | z
      · exact z
      · constructor <;> grind
    · rcases hs (fl x) c (by omega) with z | z
      · constructor <;> grind
      · exact z
  · have e : maxZ (fl x) (-1) = -1 := by unfold maxZ; split <;> omega
    rw [e]
    refine ⟨?_, fun z => absurd z c⟩
    have hx : x < 0 := by
      have h3 : ((fl x + 1 : Int) : Rat) ≤ ((0 : Int) : Rat) := Rat.intCast_le_intCast.mpr (by omega)
      have h4 : ((0 : Int) : Rat) = 0 := rfl
      grind
    have h5 : ((-1 + 1 : Int) : Rat) = ((0 : Int) : Rat) := rfl
    rw [h5]
    have h4 : ((0 : Int) : Rat) = 0 := rfl
    rcases hs 0 (by omega) hm with z | z
    · exact z
    · rw [h4] at z ⊢; constructor <;> grind
end Pg

set_option Elab.async false
set_option linter.all false
namespace Pg

/-! mirrors of the defs of k15, printed by pygen -/
def p_noughts (width1 : Int) (height2 : Int) : R ((List (List Rat))) :=
  R.bind (R.ok (([] : (List (List Rat))))) fun rows3 =>
  R.bind (rngR 0 height2) fun r4 =>
  R.bind (R.forR (fun (x5 : Int) (s6 : (List (List Rat))) => R.bind (rngR 0 width1) fun r7 => R.bind (R.compR (fun x8 => R.bind (mkQ ((0 : Int)) ((1 : Int))) fun q9 => R.ok q9) r7) fun c10 => R.bind (appR s6 c10) fun rows11 => R.ok rows11) r4 rows3) fun s12 =>
  R.ok s12
def p_summed (falls1 : (List Rat)) (rights2 : (List Rat)) : R ((List Rat)) :=
  R.bind (R.ok (([] : (List Rat)))) fun come3 =>
  R.bind (atR falls1 ((0 : Int))) fun it4 =>
  R.bind (R.ok it4) fun left5 =>
  R.bind (rngR 0 ((rights2.length : Int))) fun r6 =>
  R.bind (R.forR (fun (x7 : Int) (s8 : (Rat × (List Rat))) => R.bind (atR rights2 x7) fun it9 => R.bind (p_plus s8.1 it9) fun plus10 => R.bind (appR s8.2 plus10) fun come11 => R.bind (atR falls1 ((x7 + (1 : Int)))) fun it12 => R.bind (p_plus s8.1 it12) fun plus13 => R.bind (R.ok plus13) fun left14 => R.ok ((left14, come11))) r6 ((left5, come3))) fun s15 =>
  R.ok s15.2
def p_shares (width1 : Int) (height2 : Int) (shape3 : (List (List (Rat × Rat)))) : R ((List (List Rat))) :=
  R.bind (p_noughts ((width1 + (1 : Int))) height2) fun nought4 =>
  R.bind (R.ok nought4) fun falls5 =>
  R.bind (p_noughts width1 height2) fun nought6 =>
  R.bind (R.ok nought6) fun rights7 =>
  R.bind (R.forR (fun (x8 : (List (Rat × Rat))) (s9 : ((List (List Rat)) × (List (List Rat)))) => R.bind (p_sides x8) fun sides10 => R.bind (R.forR (fun (x11 : ((Rat × Rat) × (Rat × Rat))) (s12 : ((List (List Rat)) × (List (List Rat)))) => R.bind (p_pieces width1 height2 x11) fun pieces13 => R.bind (R.forR (fun (x14 : (Int × Int × (Rat × Rat) × (Rat × Rat))) (s15 : ((List (List Rat)) × (List (List Rat)))) => R.bind (R.ok x14.1) fun column16 => R.bind (R.ok x14.2.1) fun row17 => R.bind (atR s15.1 row17) fun it18 => R.bind (atR it18 ((column16 + (1 : Int)))) fun it19 => R.bind (p_fall x14) fun fall20 => R.bind (p_plus it19 fall20) fun plus21 => R.bind (set2R s15.1 row17 ((column16 + (1 : Int))) plus21) fun falls22 => if (decide (column16 ≥ (0 : Int))) = true then (R.bind (atR s15.2 row17) fun it23 => R.bind (atR it23 column16) fun it24 => R.bind (p_right x14) fun right25 => R.bind (p_plus it24 right25) fun plus26 => R.bind (set2R s15.2 row17 column16 plus26) fun rights27 => R.ok ((falls22, rights27))) else (R.ok ((falls22, s15.2)))) pieces13 ((s12.1, s12.2))) fun s28 => R.ok ((s28.1, s28.2))) sides10 ((s9.1, s9.2))) fun s29 => R.ok ((s29.1, s29.2))) shape3 ((falls5, rights7))) fun s30 =>
  R.bind (rngR 0 height2) fun r31 =>
  R.bind (R.compR (fun x32 => R.bind (atR s30.1 x32) fun it33 => R.bind (atR s30.2 x32) fun it34 => R.bind (p_summed it33 it34) fun summed35 => R.ok summed35) r31) fun c36 =>
  R.ok c36
def l_number_4 (cell1 : Int) (great2 : Bool) : R Rat :=
  if great2 = true then (R.bind (l_ratio_3 ((((cell1 / (8 : Int)) % (2000000000000 : Int)) - (1000000000000 : Int))) (((1 : Int) + ((cell1 / (8 : Int)) % (1000000 : Int))))) fun r3 => R.ok r3) else (R.bind (atR ([(4 : Int), (1 : Int), (2 : Int), (4 : Int), (3 : Int), (1 : Int), (6 : Int), (2 : Int)]) ((cell1 % (8 : Int)))) fun it4 => R.bind (l_ratio_3 ((((cell1 / (8 : Int)) % (29 : Int)) - (6 : Int))) it4) fun r5 => R.ok r5)
def l_ring_3 (script1 : (List Int)) (at2 : Int) (many3 : Int) (great4 : Bool) : R ((List (Rat × Rat))) :=
  R.bind (R.ok (([] : (List (Rat × Rat))))) fun ring5 =>
  R.bind (mulR ((2 : Int)) many3) fun p6 =>
  R.bind (rng3R at2 ((at2 + p6)) ((2 : Int))) fun r7 =>
  R.bind (R.forR (fun (x8 : Int) (s9 : (List (Rat × Rat))) => R.bind (l_cell script1 x8) fun c10 => R.bind (l_spread c10 x8) fun s11 => R.bind (l_number_4 s11 ((great4 && (decide ((x8 % (4 : Int)) < (2 : Int)))))) fun n12 => R.bind (R.ok n12) fun x13 => R.bind (l_cell script1 ((x8 + (1 : Int)))) fun c14 => R.bind (l_spread c14 ((x8 + (1 : Int)))) fun s15 => R.bind (l_number_4 s15 ((great4 && (decide ((x8 % (4 : Int)) > (1 : Int)))))) fun n16 => R.bind (R.ok n16) fun y17 => R.bind (appR s9 ((x13, y17))) fun ring18 => R.ok ring18) r7 ring5) fun s19 =>
  R.ok s19
def l_shape (script1 : (List Int)) : R ((List (List (Rat × Rat)))) :=
  R.bind (l_cell script1 ((1 : Int))) fun c2 =>
  R.bind (l_spread c2 ((1 : Int))) fun s3 =>
  R.bind (R.ok s3) fun cell4 =>
  if (decide ((cell4 % (8 : Int)) = (7 : Int))) = true then (R.bind (l_ring_3 script1 ((4 : Int)) ((3 : Int)) true) fun r5 => R.ok ([r5])) else (R.bind (R.ok (([] : (List (List (Rat × Rat)))))) fun shape6 => R.bind (R.ok ((4 : Int))) fun at7 => R.bind (atR ([(1 : Int), (1 : Int), (2 : Int), (1 : Int), (3 : Int), (0 : Int), (2 : Int)]) ((cell4 % (7 : Int)))) fun it8 => R.bind (rngR 0 it8) fun r9 => R.bind (R.forR (fun (x10 : Int) (s11 : (Int × (List (List (Rat × Rat))))) => R.bind (atR ([(8 : Int), (64 : Int), (512 : Int)]) x10) fun it12 => R.bind (fdivR cell4 it12) fun q13 => R.bind (R.ok ((q13 % (7 : Int)))) fun many14 => R.bind (l_ring_3 script1 s11.1 many14 false) fun r15 => R.bind (appR s11.2 r15) fun shape16 => R.bind (mulR ((2 : Int)) many14) fun p17 => R.bind (R.ok ((s11.1 + p17))) fun at18 => R.ok ((at18, shape16))) r9 ((at7, shape6))) fun s19 => R.ok s19.2)
def l_floor_2 (cell1 : Int) : R ((Int × Int)) :=
  R.ok ((((1 : Int) + (cell1 % (4 : Int))), ((1 : Int) + ((cell1 / (4 : Int)) % (3 : Int)))))
def l_all_pieces (shape1 : (List (List (Rat × Rat)))) (floor2 : (Int × Int)) : R ((List (Int × Int × (Rat × Rat) × (Rat × Rat)))) :=
  R.bind (R.ok (([] : (List (Int × Int × (Rat × Rat) × (Rat × Rat)))))) fun told3 =>
  R.bind (R.forR (fun (x4 : (List (Rat × Rat))) (s5 : (List (Int × Int × (Rat × Rat) × (Rat × Rat)))) => R.bind (rngR 0 ((x4.length : Int))) fun r6 => R.bind (R.forR (fun (x7 : Int) (s8 : (List (Int × Int × (Rat × Rat) × (Rat × Rat)))) => R.bind (atR x4 x7) fun it9 => R.bind (fmodR ((x7 + (1 : Int))) ((x4.length : Int))) fun m10 => R.bind (atR x4 m10) fun it11 => R.bind (p_pieces floor2.1 floor2.2 ((it9, it11))) fun pieces12 => R.bind (extR s8 pieces12) fun told13 => R.ok told13) r6 s5) fun s14 => R.ok s14) shape1 told3) fun s15 =>
  R.ok s15
def l_due_3 (told1 : (List (Int × Int × (Rat × Rat) × (Rat × Rat)))) (column2 : Int) (row3 : Int) : R Rat :=
  R.bind (mkQ ((0 : Int)) ((1 : Int))) fun q4 =>
  R.bind (R.ok q4) fun due5 =>
  R.bind (R.forR (fun (x6 : (Int × Int × (Rat × Rat) × (Rat × Rat))) (s7 : Rat) => R.bind (if ((decide (x6.2.1 = row3)) && (decide (x6.1 < column2))) = true then (R.bind (p_fall x6) fun fall9 => R.bind (l_plus_2 s7 fall9) fun p10 => R.bind (R.ok p10) fun due11 => R.ok due11) else (R.ok s7) : R Rat) fun st8 => if ((decide (x6.2.1 = row3)) && (decide (x6.1 = column2))) = true then (R.bind (p_right x6) fun right12 => R.bind (l_plus_2 st8 right12) fun p13 => R.bind (R.ok p13) fun due14 => R.ok due14) else (R.ok st8)) told1 due5) fun s15 =>
  R.ok s15
def l_good_4 (found1 : (List (List Rat))) (told2 : (List (Int × Int × (Rat × Rat) × (Rat × Rat)))) (floor3 : (Int × Int)) : R Bool :=
  if ((!true) || (!decide ((found1.length : Int) = floor3.2))) = true then (R.ok false) else (R.bind (rngR 0 floor3.2) fun r4 => R.bind (R.forX (fun (x5 : Int) (s6 : Unit) => (R.bind (atR found1 x5) fun it7 => R.bind (R.orR ((!true)) (R.bind (atR found1 x5) fun it8 => R.ok ((!decide ((it8.length : Int) = floor3.1))))) fun b9 => if b9 = true then (R.ok (Sum.inr false)) else (R.bind (rngR 0 floor3.1) fun r10 => R.bind (R.forX (fun (x11 : Int) (s12 : Unit) => (R.bind (atR found1 x5) fun it13 => R.bind (atR it13 x11) fun it14 => R.bind (l_due_3 told2 x11 x5) fun d15 => R.bind (l_is_2 it14 d15) fun i16 => if (!i16) = true then (R.ok (Sum.inr false)) else (R.ok (Sum.inl (()))) : R (Sum Unit Bool))) r10 (())) fun r17 => R.caseX r17 (fun s18 => R.ok (Sum.inl (()))) (fun b19 => R.ok (Sum.inr b19))) : R (Sum Unit Bool))) r4 (())) fun r20 => R.caseX r20 (fun s21 => R.ok true) (fun b22 => R.ok b22))
def k15_law (script1 : (List Int)) : R Bool :=
  R.bind (l_cell script1 ((0 : Int))) fun c2 =>
  R.bind (l_floor_2 c2) fun f3 =>
  R.bind (R.ok f3) fun floor4 =>
  R.bind (l_shape script1) fun s5 =>
  R.bind (R.ok s5) fun shape6 =>
  R.bind (R.compR (fun x7 =>  R.ok x7) shape6) fun c8 =>
  R.bind (R.ok c8) fun kept9 =>
  R.bind (l_all_pieces shape6 floor4) fun a10 =>
  R.bind (R.ok a10) fun told11 =>
  R.bind (p_shares floor4.1 floor4.2 shape6) fun shares12 =>
  R.bind (R.ok shares12) fun found13 =>
  R.bind (l_good_4 found13 told11 floor4) fun g14 =>
  if ((!g14) || (!decide (shape6 = kept9))) = true then (R.ok false) else (R.bind (R.compR (fun x15 =>  R.ok x15) found13) fun c16 => R.bind (R.ok c16) fun again17 => R.bind (mkQ ((7 : Int)) ((1 : Int))) fun q18 => R.bind (set2R found13 ((0 : Int)) ((0 : Int)) q18) fun found19 => R.bind (mkQ ((0 : Int)) ((1 : Int))) fun q20 => R.bind (app2R found19 ((-((1 : Int)))) q20) fun found21 => R.bind (appR found21 (([] : (List Rat)))) fun found22 => R.bind (p_shares floor4.1 floor4.2 shape6) fun shares23 => R.ok ((decide (shares23 = again17))))
end Pg

set_option Elab.async false
set_option linter.all false
set_option maxRecDepth 100000
namespace Pg
/-! ### tables -/
def rowT (w : Nat) (f : Nat → Rat) : List Rat := (List.range w).map f
def tab (w h : Nat) (f : Nat → Nat → Rat) : List (List Rat) := (List.range h).map fun r => rowT w (f r)
theorem rowT_get {w k : Nat} {f : Nat → Rat} (h : k < w) : (rowT w f)[k]? = some (f k) := by unfold rowT; simp [h]
theorem rowT_len (w : Nat) (f : Nat → Rat) : (rowT w f).length = w := by simp [rowT]
theorem tab_get {w h r : Nat} {f : Nat → Nat → Rat} (hr : r < h) : (tab w h f)[r]? = some (rowT w (f r)) := by unfold tab; simp [hr]
theorem tab_len (w h : Nat) (f : Nat → Nat → Rat) : (tab w h f).length = h := by simp [tab]
theorem rowT_set {w k : Nat} {f : Nat → Rat} (x : Rat) : (rowT w f).set k x = rowT w fun j => if j = k then x else f j := by
  apply List.ext_getElem?
  intro j
  rw [List.getElem?_set]
  by_cases hj : j < w
  · by_cases e : k = j
    · subst e; rw [if_pos rfl, if_pos (by rw [rowT_len]; exact hj), rowT_get hj, if_pos rfl]
    · rw [if_neg e, rowT_get hj, rowT_get hj, if_neg (fun z => e z.symm)]
  · have n1 : (rowT w f)[j]? = none := List.getElem?_eq_none (by rw [rowT_len]; omega)
    have n2 : (rowT w fun j => if j = k then x else f j)[j]? = none := List.getElem?_eq_none (by rw [rowT_len]; omega)
    rw [n1, n2]
    split
    · rw [if_neg (by rw [rowT_len]; omega)]
    · rfl
theorem tab_set {w h r k : Nat} {f : Nat → Nat → Rat} (x : Rat) (hr : r < h) : (tab w h f).set r ((rowT w (f r)).set k x) = tab w h fun a b => if a = r ∧ b = k then x else f a b := by
  apply List.ext_getElem?
  intro j
  rw [List.getElem?_set]
  by_cases hj : j < h
  · by_cases e : r = j
    · subst e
      rw [if_pos rfl, if_pos (by rw [tab_len]; exact hj), rowT_set, tab_get hj]
      congr 2
      funext b
      by_cases hb : b = k <;> simp [hb]
    · rw [if_neg e, tab_get hj, tab_get hj]
      congr 2
      funext b
      rw [if_neg (fun z => e z.1.symm)]
  · have n1 : (tab w h f)[j]? = none := List.getElem?_eq_none (by rw [tab_len]; omega)
    have n2 : (tab w h fun a b => if a = r ∧ b = k then x else f a b)[j]? = none := List.getElem?_eq_none (by rw [tab_len]; omega)
    rw [n1, n2]
    split
    · rw [if_neg (by rw [tab_len]; omega)]
    · rfl
theorem tab_put {w h : Nat} {f : Nat → Nat → Rat} {i j : Int} (x : Rat) (i0 : 0 ≤ i) (i1 : i < h) (j0 : 0 ≤ j) (j1 : j < w) : set2R (tab w h f) i j x = .ok (tab w h fun a b => if a = i.toNat ∧ b = j.toNat then x else f a b) := by
  unfold set2R
  have hi : i = ((i.toNat : Nat) : Int) := by omega
  have hj : j = ((j.toNat : Nat) : Int) := by omega
  have g := tab_get (w := w) (f := f) (show i.toNat < h by omega)
  have a1 := atR_nat g
  rw [← hi] at a1
  have p1 := ixP_nat (n := w) (k := j.toNat) (by omega)
  rw [← hj] at p1
  have p2 := ixP_nat (n := h) (k := i.toNat) (by omega)
  rw [← hi] at p2
  rw [a1, bind_ok]
  have s1 : setR (rowT w (f i.toNat)) j x = .ok ((rowT w (f i.toNat)).set j.toNat x) := by unfold setR; rw [rowT_len, p1]
  rw [s1, bind_ok]
  have s2 : setR (tab w h f) i ((rowT w (f i.toNat)).set j.toNat x) = .ok ((tab w h f).set i.toNat ((rowT w (f i.toNat)).set j.toNat x)) := by unfold setR; rw [tab_len, p2]
  rw [s2, tab_set x (by omega)]
theorem tab_at {w h : Nat} {f : Nat → Nat → Rat} {i : Int} (i0 : 0 ≤ i) (i1 : i < h) : atR (tab w h f) i = .ok (rowT w (f i.toNat)) := by
  have a1 := atR_nat (tab_get (w := w) (f := f) (show i.toNat < h by omega))
  rwa [Int.toNat_of_nonneg i0] at a1
theorem row_at {w : Nat} {f : Nat → Rat} {j : Int} (j0 : 0 ≤ j) (j1 : j < w) : atR (rowT w f) j = .ok (f j.toNat) := by
  have a1 := atR_nat (rowT_get (f := f) (show j.toNat < w by omega))
  rwa [Int.toNat_of_nonneg j0] at a1
/-! ### the program's tables -/
theorem p_noughts_ok {w h : Nat} (hw : w < 1000) (hh : h < 1000) : p_noughts (w : Int) (h : Int) = .ok (tab w h fun _ _ => 0) := by
  unfold p_noughts
  have inner : ∀ (s : List (List Rat)), s.length < 100000 → (R.bind (rngR 0 (w : Int)) fun r7 => R.bind (R.compR (fun x8 : Int => R.bind (mkQ ((0 : Int)) ((1 : Int))) fun q9 => R.ok q9) r7) fun c10 => R.bind (appR s c10) fun rows11 => R.ok rows11) = .ok (s ++ [rowT w fun _ => 0]) := fun s hs => by
    rw [rngR_ok (by decide) (by decide) (by omega) (by omega), bind_ok, compR_ok (by simp; omega) (mapR_ok (g := fun _ : Int => (0 : Rat)) fun x _ => by rw [mkQ_zero, bind_ok]), bind_ok, appR_ok (by omega), bind_ok, List.map_map]
    have e : ((w : Int) - 0).toNat = w := by omega
    rw [e]; rfl
  rw [bind_ok, rngR_ok (by decide) (by decide) (by omega) (by omega), bind_ok, flat_loop (g := fun _ => [rowT w fun _ => 0]) _ _ (fun x _ s hs => inner s hs) (fun _ => by simp) (by simp; omega), bind_ok]
  congr 1
  rw [List.nil_append]
  have e : ((h : Int) - 0).toNat = h := by omega
  rw [e]
  unfold tab
  have key : ∀ xs : List Nat, ((xs.map fun k => (0 : Int) + (k : Nat)).flatMap fun _ => [rowT w fun _ => (0 : Rat)]) = xs.map fun _ => rowT w fun _ => 0 := by
    intro xs
    induction xs with
    | nil => rfl
    | cons x xs ih => rw [List.map_cons, List.flatMap_cons, ih, List.map_cons]; rfl
  exact key _
/-- the sum of the first k + 1 -/
def cum (f : Nat → Rat) : Nat → Rat
  | 0 => f 0
  | k + 1 => cum f k + f (k + 1)
theorem p_summed_ok {n m w : Nat} {f g : Nat → Rat} (hw : w < 1000) (hf : ∀ k, SQ n (f k)) (hg : ∀ k, SQ m (g k)) (hn : (n + 1) * (w + 2) + m < 100000000) : p_summed (rowT (w + 1) f) (rowT w g) = .ok (rowT w fun k => cum f k + g k) := by
  unfold p_summed
  have sc : ∀ k, SQ ((n + 1) * (k + 1)) (cum f k) := by
    intro k
    induction k with
    | zero => exact (hf 0).mono (by omega)
    | succ k ih =>
      refine (ih.add (hf (k + 1))).mono ?_
      have e : (n + 1) * (k + 1 + 1) = (n + 1) * (k + 1) + (n + 1) := Nat.mul_add _ _ _ |>.trans (by rw [Nat.mul_one])
      omega
  rw [bind_ok, row_at (j := 0) (by decide) (by omega), bind_ok, bind_ok, rowT_len]
  have fin : Ok (R.bind (rngR 0 (w : Int)) fun r6 => R.bind (R.forR (fun (x7 : Int) (s8 : (Rat × (List Rat))) => R.bind (atR (rowT w g) x7) fun it9 => R.bind (p_plus s8.1 it9) fun plus10 => R.bind (appR s8.2 plus10) fun come11 => R.bind (atR (rowT (w + 1) f) ((x7 + (1 : Int)))) fun it12 => R.bind (p_plus s8.1 it12) fun plus13 => R.bind (R.ok plus13) fun left14 => R.ok ((left14, come11))) r6 (f 0, [])) fun s15 => R.ok s15.2) (· = rowT w fun k => cum f k + g k) := by
    refine .step (rngR_ok (by decide) (by decide) (by omega) (by omega)) ?_
    have hlen : ((List.range ((w : Int) - 0).toNat).map fun k => (0 : Int) + (k : Nat)).length = w := by simp
    refine .bind (.forR (fun i s => s.1 = cum f i ∧ s.2 = rowT i fun k => cum f k + g k) ⟨rfl, rfl⟩ fun i s x hs hx => ?_) fun s hs => .pure (by rw [hs.2, hlen])
    obtain ⟨ex, hx2⟩ := rng_at hx
    have ex : x = (i : Int) := by omega
    subst ex
    have hi : i < w := by omega
    have hm : (n + 1) * (i + 1) ≤ (n + 1) * w := Nat.mul_le_mul_left _ hi
    have hm2 : (n + 1) * (w + 2) = (n + 1) * w + (n + 1) * 2 := Nat.mul_add _ _ _
    rw [hs.1, hs.2]
    refine .step (row_at (by omega) (by omega)) (.step (p_plus_ok (sc i) (hg _) (by omega)) (.step (appR_ok (by rw [rowT_len]; omega)) (.step (row_at (by omega) (by omega)) (.step (p_plus_ok (sc i) (hf _) (by omega)) (.one (.pure ⟨?_, ?_⟩))))))
    · show cum f i + f ((i : Int) + 1).toNat = cum f i + f (i + 1)
      congr 2
    · unfold rowT
      rw [List.range_succ, List.map_append]
      rfl
  obtain ⟨a, e1, e2⟩ := fin
  rw [← e2]; exact e1
/-! ### falls and rights -/
def fallQ (c : Pc) : Rat := c.2.2.1.2 - c.2.2.2.2
def rightV (c : Pc) : Rat := if c.1 < 0 then 0 else fallQ c * (((c.1 + 1 : Int) : Rat) - mid c.2.2.1.1 c.2.2.2.1)
/-- a piece's sizes -/
def SC (n : Nat) (c : Pc) : Prop := S 20 c.1 ∧ SP n c.2.2.1 ∧ SP n c.2.2.2
theorem SQ_fall {n : Nat} {c : Pc} (h : SC n c) : SQ (2 * n + 1) (fallQ c) := (h.2.1.2.sub h.2.2.2).mono (by omega)
theorem SQ_right {n : Nat} {c : Pc} (h : SC n c) : SQ (4 * n + 30) (rightV c) := by
  unfold rightV
  split
  · exact (SQ_zero 0).mono (by omega)
  · have s1 : SQ 21 ((c.1 + 1 : Int) : Rat) := SQ_int ((h.1.add (b := 1) (by decide)).mono (by decide)) (by decide)
    exact ((SQ_fall h).mul (s1.sub (SQ_mid h.2.1.1 h.2.2.1))).mono (by omega)
theorem p_fall_ok' {n : Nat} {c : Pc} (hc : SC n c) (h : n < 30000000) : p_fall c = .ok (fallQ c) := by
  unfold p_fall
  rw [p_minus_ok hc.2.1.2 hc.2.2.2 (by omega), bind_ok]; rfl
theorem p_right_ok' {n : Nat} {c : Pc} (hc : SC n c) (h : n < 20000000) : p_right c = .ok (rightV c) := by
  unfold p_right rightV
  by_cases h0 : c.1 < 0
  · rw [decide_eq_true h0, if_ok_t, if_pos h0]
  · have s1 : SQ 21 ((c.1 + 1 : Int) : Rat) := SQ_int ((hc.1.add (b := 1) (by decide)).mono (by decide)) (by decide)
    have sm := SQ_mid hc.2.1.1 hc.2.2.1
    rw [decide_eq_false h0, if_ok_f, if_neg h0, p_fall_ok' hc (by omega), bind_ok, mkQ_int, bind_ok, p_middle_ok' hc.2.1.1 hc.2.2.1 (by omega), bind_ok, p_minus_ok s1 sm (by omega), bind_ok, p_times_ok (SQ_fall hc) (s1.sub sm) (by omega), bind_ok]
/-! ### what the pieces come to, cell by cell -/
def accF (ps : List Pc) (a b : Nat) : Rat := sumQ (ps.map fun c => if c.2.1 = (a : Int) ∧ c.1 + 1 = (b : Int) then fallQ c else 0)
def accG (ps : List Pc) (a b : Nat) : Rat := sumQ (ps.map fun c => if c.2.1 = (a : Int) ∧ c.1 = (b : Int) then rightV c else 0)
theorem sum_snoc {α : Type} (f : α → Rat) (xs : List α) (x : α) : sumQ ((xs ++ [x]).map f) = sumQ (xs.map f) + f x := by
  rw [List.map_append, sumQ_append]
  show _ + (f x + 0) = _
  grind
theorem SQ_acc {m : Nat} {f : Pc → Rat} {P : Pc → Prop} [DecidablePred P] {ps : List Pc} (h : ∀ c ∈ ps, SQ m (f c)) (hm : 0 < m) : SQ ((m + 1) * ps.length + 1) (sumQ (ps.map fun c => if P c then f c else 0)) := by
  have := SQ_sum (m := m) (xs := ps.map fun c => if P c then f c else 0) fun x hx => by
    obtain ⟨c, hc, rfl⟩ := List.mem_map.mp hx
    split
    · exact h c hc
    · exact (SQ_zero 0).mono (by omega)
  rwa [List.length_map] at this
/-- a piece on the floor -/
def OnF (w h : Nat) (c : Pc) : Prop := -1 ≤ c.1 ∧ c.1 < w ∧ 0 ≤ c.2.1 ∧ c.2.1 < h
theorem shares_loop {w h n : Nat} (hw : w < 100) (hh : h < 100) (hn : n < 10000) : ∀ (qs ps : List Pc), (∀ c ∈ ps ++ qs, SC n c ∧ OnF w h c) → (ps ++ qs).length < 2000 →
    R.forR (fun (x14 : (Int × Int × (Rat × Rat) × (Rat × Rat))) (s15 : ((List (List Rat)) × (List (List Rat)))) => R.bind (R.ok x14.1) fun column16 => R.bind (R.ok x14.2.1) fun row17 => R.bind (atR s15.1 row17) fun it18 => R.bind (atR it18 ((column16 + (1 : Int)))) fun it19 => R.bind (p_fall x14) fun fall20 => R.bind (p_plus it19 fall20) fun plus21 => R.bind (set2R s15.1 row17 ((column16 + (1 : Int))) plus21) fun falls22 => if (decide (column16 ≥ (0 : Int))) = true then (R.bind (atR s15.2 row17) fun it23 => R.bind (atR it23 column16) fun it24 => R.bind (p_right x14) fun right25 => R.bind (p_plus it24 right25) fun plus26 => R.bind (set2R s15.2 row17 column16 plus26) fun rights27 => R.ok ((falls22, rights27))) else (R.ok ((falls22, s15.2)))) qs (tab (w + 1) h (accF ps), tab w h (accG ps))
      = .ok (tab (w + 1) h (accF (ps ++ qs)), tab w h (accG (ps ++ qs))) := by
  intro qs
  induction qs with
  | nil => intro ps _ _; rw [List.append_nil]; rfl
  | cons c qs ih =>
    intro ps hp hl
    have hc := hp c (by simp)
    obtain ⟨hs, o1, o2, o3, o4⟩ := hc
    have hps : ∀ c ∈ ps, SC n c := fun c hc => (hp c (by simp [hc])).1
    have hlp : ps.length < 2000 := by rw [List.length_append] at hl; omega
    have sF : ∀ a b, SQ 60000000 (accF ps a b) := fun a b => by
      refine (SQ_acc (m := 2 * n + 1) (f := fallQ) (fun c hc => SQ_fall (hps c hc)) (by omega)).mono ?_
      have : (2 * n + 1 + 1) * ps.length ≤ 20002 * 2000 := Nat.mul_le_mul (by omega) (by omega)
      omega
    have sG : ∀ a b, SQ 100000000 (accG ps a b) := fun a b => by
      refine (SQ_acc (m := 4 * n + 30) (f := rightV) (fun c hc => SQ_right (hps c hc)) (by omega)).mono ?_
      have : (4 * n + 30 + 1) * ps.length ≤ 40031 * 2000 := Nat.mul_le_mul (by omega) (by omega)
      omega
    have eF : (fun a b => if a = c.2.1.toNat ∧ b = (c.1 + 1).toNat then accF ps c.2.1.toNat (c.1 + 1).toNat + fallQ c else accF ps a b) = accF (ps ++ [c]) := by
      funext a b
      unfold accF
      rw [sum_snoc]
      by_cases e : a = c.2.1.toNat ∧ b = (c.1 + 1).toNat
      · obtain ⟨rfl, rfl⟩ := e
        rw [if_pos ⟨rfl, rfl⟩, if_pos ⟨by omega, by omega⟩]
      · rw [if_neg e, if_neg fun z => e ⟨by omega, by omega⟩]; grind
    unfold R.forR
    rw [bind_ok, bind_ok]
    show R.bind (R.bind (atR (tab (w + 1) h (accF ps)) c.2.1) _) _ = _
    rw [tab_at o3 o4, bind_ok, row_at (by omega) (by omega), bind_ok, p_fall_ok' hs (by omega), bind_ok, p_plus_ok (sF _ _) (SQ_fall hs) (by omega), bind_ok, tab_put _ o3 o4 (by omega) (by omega), bind_ok, eF]
    have next : ∀ G, G = accG (ps ++ [c]) → R.bind (R.ok (tab (w + 1) h (accF (ps ++ [c])), tab w h G)) (fun s' => R.forR (fun (x14 : (Int × Int × (Rat × Rat) × (Rat × Rat))) (s15 : ((List (List Rat)) × (List (List Rat)))) => R.bind (R.ok x14.1) fun column16 => R.bind (R.ok x14.2.1) fun row17 => R.bind (atR s15.1 row17) fun it18 => R.bind (atR it18 ((column16 + (1 : Int)))) fun it19 => R.bind (p_fall x14) fun fall20 => R.bind (p_plus it19 fall20) fun plus21 => R.bind (set2R s15.1 row17 ((column16 + (1 : Int))) plus21) fun falls22 => if (decide (column16 ≥ (0 : Int))) = true then (R.bind (atR s15.2 row17) fun it23 => R.bind (atR it23 column16) fun it24 => R.bind (p_right x14) fun right25 => R.bind (p_plus it24 right25) fun plus26 => R.bind (set2R s15.2 row17 column16 plus26) fun rights27 => R.ok ((falls22, rights27))) else (R.ok ((falls22, s15.2)))) qs s') = .ok (tab (w + 1) h (accF (ps ++ c :: qs)), tab w h (accG (ps ++ c :: qs))) := fun G e => by
      rw [bind_ok, e]
      have := ih (ps ++ [c]) (fun z hz => hp z (by simpa using hz)) (by simpa using hl)
      rw [List.append_assoc] at this
      exact this
    by_cases c0 : c.1 ≥ 0
    · rw [decide_eq_true c0, if_ok_t, tab_at o3 o4, bind_ok, row_at c0 o2, bind_ok, p_right_ok' hs (by omega), bind_ok, p_plus_ok (sG _ _) (SQ_right hs) (by omega), bind_ok, tab_put _ o3 o4 c0 o2, bind_ok]
      refine next _ ?_
      funext a b
      unfold accG
      rw [sum_snoc]
      by_cases e : a = c.2.1.toNat ∧ b = c.1.toNat
      · obtain ⟨rfl, rfl⟩ := e
        rw [if_pos ⟨rfl, rfl⟩, if_pos ⟨by omega, by omega⟩]
      · rw [if_neg e, if_neg fun z => e ⟨by omega, by omega⟩]; grind
    · rw [decide_eq_false c0, if_ok_f]
      refine next _ ?_
      funext a b
      unfold accG
      rw [sum_snoc, if_neg fun z => by omega]; grind
theorem piecesQ_len' {w h : Nat} (e : Sd) (hw : w ≤ 40) (hh : h ≤ 40) : (piecesQ w h e).length ≤ 100 := by
  unfold piecesQ
  split
  · simp
  · have l := (knots_len (w := w) (h := h) e (by omega) (by omega) (by omega) (by omega)).2
    have key : ∀ P : List (Rat × Rat), (P.flatMap (pieceE w h e)).length ≤ P.length := by
      intro P
      induction P with
      | nil => simp
      | cons k P ih =>
        rw [List.flatMap_cons, List.length_append, List.length_cons]
        have : (pieceE w h e k).length ≤ 1 := by unfold pieceE; split <;> simp
        omega
    have h1 := key (pairs (knots w h e))
    rw [pairs_len] at h1
    omega
/-! ### all pieces of a shape -/
def allP (w h : Int) (sh : List (List Pt)) : List Pc := sh.flatMap fun r => (edges r).flatMap (piecesQ w h)
theorem pieces_on {n : Nat} {w h : Nat} {e : Sd} (hp : SP n e.1) (hq : SP n e.2) (hw : w ≤ 40) (hh : h ≤ 40) : ∀ c ∈ piecesQ w h e, SC (6 * n + 10) c ∧ OnF w h c := fun c hc => by
  unfold piecesQ at hc
  split at hc
  · cases hc
  · obtain ⟨k, hk, h1⟩ := List.mem_flatMap.mp hc
    unfold pieceE at h1
    split at h1
    · rename_i on
      simp at h1
      subst h1
      have nb := nb_of hk
      have on2 := on
      unfold onFloor at on2
      simp only [Bool.and_eq_true, decide_eq_true_eq] at on2
      obtain ⟨⟨o1, o2⟩, o3⟩ := on2
      have hm : -1 ≤ maxZ (colQ e k) (-1) ∧ maxZ (colQ e k) (-1) < w := by unfold maxZ; split <;> omega
      refine ⟨⟨?_, SP_knot hp hq (by omega) (by omega) nb.m1, SP_knot hp hq (by omega) (by omega) nb.m2⟩, hm.1, hm.2, o1, o2⟩
      show S 20 (maxZ (colQ e k) (-1))
      unfold S; omega
    · cases h1
def shareT (w h : Nat) (ps : List Pc) : List (List Rat) := tab w h fun r k => cum (accF ps r) k + accG ps r k
def pieceB (x14 : Pc) (s15 : List (List Rat) × List (List Rat)) : R (List (List Rat) × List (List Rat)) := R.bind (R.ok x14.1) fun column16 => R.bind (R.ok x14.2.1) fun row17 => R.bind (atR s15.1 row17) fun it18 => R.bind (atR it18 ((column16 + (1 : Int)))) fun it19 => R.bind (p_fall x14) fun fall20 => R.bind (p_plus it19 fall20) fun plus21 => R.bind (set2R s15.1 row17 ((column16 + (1 : Int))) plus21) fun falls22 => if (decide (column16 ≥ (0 : Int))) = true then (R.bind (atR s15.2 row17) fun it23 => R.bind (atR it23 column16) fun it24 => R.bind (p_right x14) fun right25 => R.bind (p_plus it24 right25) fun plus26 => R.bind (set2R s15.2 row17 column16 plus26) fun rights27 => R.ok ((falls22, rights27))) else (R.ok ((falls22, s15.2)))
def edgeB (w h : Int) (x11 : Sd) (s12 : List (List Rat) × List (List Rat)) : R (List (List Rat) × List (List Rat)) := R.bind (p_pieces w h x11) fun pieces13 => R.bind (R.forR pieceB pieces13 ((s12.1, s12.2))) fun s28 => R.ok ((s28.1, s28.2))
def ringB (w h : Int) (x8 : List Pt) (s9 : List (List Rat) × List (List Rat)) : R (List (List Rat) × List (List Rat)) := R.bind (p_sides x8) fun sides10 => R.bind (R.forR (edgeB w h) sides10 ((s9.1, s9.2))) fun s29 => R.ok ((s29.1, s29.2))
theorem p_shares_eq (w h : Int) (sh : List (List Pt)) : p_shares w h sh = R.bind (p_noughts (w + 1) h) fun f => R.bind (p_noughts w h) fun g => R.bind (R.forR (ringB w h) sh (f, g)) fun s30 => R.bind (rngR 0 h) fun r31 => R.bind (R.compR (fun x32 => R.bind (atR s30.1 x32) fun it33 => R.bind (atR s30.2 x32) fun it34 => R.bind (p_summed it33 it34) fun summed35 => R.ok summed35) r31) fun c36 => R.ok c36 := rfl
theorem edge_loop {w h n : Nat} (hw : w ≤ 20) (hh : h ≤ 20) (hn : n < 1500) : ∀ (es : List Sd) (ps : List Pc), (∀ e ∈ es, SP n e.1 ∧ SP n e.2) → (∀ c ∈ ps, SC (6 * n + 10) c ∧ OnF w h c) → ps.length + 100 * es.length < 2000 →
    R.forR (edgeB w h) es (tab (w + 1) h (accF ps), tab w h (accG ps)) = .ok (tab (w + 1) h (accF (ps ++ es.flatMap (piecesQ w h))), tab w h (accG (ps ++ es.flatMap (piecesQ w h)))) := by
  intro es
  induction es with
  | nil => intro ps _ _ _; rw [List.flatMap_nil, List.append_nil]; rfl
  | cons e es ih =>
    intro ps he hp hl
    rw [List.length_cons] at hl
    obtain ⟨h1, h2⟩ := he e List.mem_cons_self
    have on := pieces_on h1 h2 (show w ≤ 40 by omega) (show h ≤ 40 by omega)
    have pl := piecesQ_len' (w := w) (h := h) e (by omega) (by omega)
    have hall : ∀ c ∈ ps ++ piecesQ w h e, SC (6 * n + 10) c ∧ OnF w h c := fun c hc => by
      rcases List.mem_append.mp hc with hc | hc
      · exact hp c hc
      · exact on c hc
    have lp := shares_loop (w := w) (h := h) (n := 6 * n + 10) (by omega) (by omega) (by omega) (piecesQ w h e) ps hall (by rw [List.length_append]; omega)
    have st : edgeB w h e (tab (w + 1) h (accF ps), tab w h (accG ps)) = .ok (tab (w + 1) h (accF (ps ++ piecesQ w h e)), tab w h (accG (ps ++ piecesQ w h e))) := by
      unfold edgeB
      rw [p_pieces_ok h1 h2 (by omega) (by omega) (by omega) (by omega) (by omega), bind_ok]
      show R.bind (R.forR pieceB _ _) _ = _
      have lp2 : R.forR pieceB (piecesQ w h e) (tab (w + 1) h (accF ps), tab w h (accG ps)) = _ := lp
      rw [lp2, bind_ok]
    unfold R.forR
    rw [st, bind_ok, ih _ (fun z hz => he z (List.mem_cons_of_mem _ hz)) hall (by rw [List.length_append]; omega), List.flatMap_cons, List.append_assoc]
def many (sh : List (List Pt)) : Nat := (sh.map List.length).sum
theorem ring_loop2 {w h n : Nat} (hw : w ≤ 20) (hh : h ≤ 20) (hn : n < 1500) : ∀ (sh : List (List Pt)) (ps : List Pc), (∀ r ∈ sh, SR n r) → (∀ c ∈ ps, SC (6 * n + 10) c ∧ OnF w h c) → ps.length + 100 * many sh < 2000 →
    R.forR (ringB w h) sh (tab (w + 1) h (accF ps), tab w h (accG ps)) = .ok (tab (w + 1) h (accF (ps ++ allP w h sh)), tab w h (accG (ps ++ allP w h sh))) := by
  intro sh
  induction sh with
  | nil => intro ps _ _ _; show _ = R.ok (tab _ _ (accF (ps ++ [])), tab _ _ (accG (ps ++ []))); rw [List.append_nil]; rfl
  | cons r sh ih =>
    intro ps hr hp hl
    have e0 : many (r :: sh) = r.length + many sh := by unfold many; rw [List.map_cons, List.sum_cons]
    rw [e0] at hl
    have h1 := hr r List.mem_cons_self
    have hes : ∀ e ∈ edges r, SP n e.1 ∧ SP n e.2 := fun e he => ⟨h1 _ (edges_mem he).1, h1 _ (edges_mem he).2⟩
    have el := edge_loop (n := n) hw hh hn (edges r) ps hes hp (by rw [edges_len]; omega)
    have st : ringB w h r (tab (w + 1) h (accF ps), tab w h (accG ps)) = .ok (tab (w + 1) h (accF (ps ++ (edges r).flatMap (piecesQ w h))), tab w h (accG (ps ++ (edges r).flatMap (piecesQ w h)))) := by
      unfold ringB
      rw [p_sides_ok (by omega), bind_ok]
      show R.bind (R.forR (edgeB w h) (edges r) _) _ = _
      rw [el, bind_ok]
    have pl : ∀ es : List Sd, (es.flatMap (piecesQ w h)).length ≤ 100 * es.length := by
      intro es
      induction es with
      | nil => simp
      | cons e es ih2 =>
        rw [List.flatMap_cons, List.length_append, List.length_cons]
        have := piecesQ_len' (w := w) (h := h) e (by omega) (by omega)
        omega
    have pr := pl (edges r)
    rw [edges_len] at pr
    have hall : ∀ c ∈ ps ++ (edges r).flatMap (piecesQ w h), SC (6 * n + 10) c ∧ OnF w h c := fun c hc => by
      rcases List.mem_append.mp hc with hc | hc
      · exact hp c hc
      · obtain ⟨e, he, hc⟩ := List.mem_flatMap.mp hc
        obtain ⟨a, b⟩ := hes e he
        exact pieces_on a b (by omega) (by omega) c hc
    unfold R.forR
    rw [st, bind_ok, ih _ (fun z hz => hr z (List.mem_cons_of_mem _ hz)) hall (by rw [List.length_append]; omega), List.append_assoc]
    rfl
theorem allP_on {w h n : Nat} (hw : w ≤ 20) (hh : h ≤ 20) {sh : List (List Pt)} (hs : ∀ r ∈ sh, SR n r) : ∀ c ∈ allP w h sh, SC (6 * n + 10) c ∧ OnF w h c := fun c hc => by
  unfold allP at hc
  obtain ⟨r, hr, hc⟩ := List.mem_flatMap.mp hc
  obtain ⟨e, he, hc⟩ := List.mem_flatMap.mp hc
  exact pieces_on (hs r hr _ (edges_mem he).1) (hs r hr _ (edges_mem he).2) (by omega) (by omega) c hc
theorem allP_len {w h : Nat} (hw : w ≤ 20) (hh : h ≤ 20) : ∀ sh : List (List Pt), (allP w h sh).length ≤ 100 * many sh
  | [] => by simp [allP, many]
  | r :: sh => by
    have e0 : many (r :: sh) = r.length + many sh := by unfold many; rw [List.map_cons, List.sum_cons]
    have e1 : allP w h (r :: sh) = (edges r).flatMap (piecesQ w h) ++ allP w h sh := rfl
    have pl : ∀ es : List Sd, (es.flatMap (piecesQ w h)).length ≤ 100 * es.length := by
      intro es
      induction es with
      | nil => simp
      | cons e es ih2 =>
        rw [List.flatMap_cons, List.length_append, List.length_cons]
        have := piecesQ_len' (w := w) (h := h) e (by omega) (by omega)
        omega
    have pr := pl (edges r)
    rw [edges_len] at pr
    have := allP_len hw hh sh
    rw [e0, e1, List.length_append]; omega
theorem p_shares_tab {w h n : Nat} {sh : List (List Pt)} (hw : w ≤ 13) (hh : h ≤ 20) (hn : n < 100) (hs : ∀ r ∈ sh, SR n r) (hl : many sh ≤ 19) : p_shares w h sh = .ok (shareT w h (allP w h sh)) := by
  rw [p_shares_eq]
  have e1 : ((w : Int) + 1) = ((w + 1 : Nat) : Int) := by omega
  rw [e1, p_noughts_ok (by omega) (by omega), bind_ok, p_noughts_ok (by omega) (by omega), bind_ok]
  have lp := ring_loop2 (w := w) (h := h) (n := n) (by omega) hh (by omega) sh [] hs (fun c hc => nomatch hc) (by simp; omega)
  have lp2 : R.forR (ringB w h) sh ((tab (w + 1) h fun _ _ => 0), tab w h fun _ _ => 0) = .ok (tab (w + 1) h (accF (allP w h sh)), tab w h (accG (allP w h sh))) := lp
  rw [lp2, bind_ok, rngR_ok (by decide) (by decide) (by omega) (by omega), bind_ok]
  have on := allP_on (w := w) (h := h) (by omega) hh hs
  have len := allP_len (w := w) (h := h) (by omega) hh sh
  have sF : ∀ a b, SQ 6000000 (accF (allP w h sh) a b) := fun a b => by
    refine (SQ_acc (m := 2 * (6 * n + 10) + 1) (f := fallQ) (fun c hc => SQ_fall (on c hc).1) (by omega)).mono ?_
    have : (2 * (6 * n + 10) + 1 + 1) * (allP w h sh).length ≤ 1222 * 1900 := Nat.mul_le_mul (by omega) (by omega)
    omega
  have sG : ∀ a b, SQ 6000000 (accG (allP w h sh) a b) := fun a b => by
    refine (SQ_acc (m := 4 * (6 * n + 10) + 30) (f := rightV) (fun c hc => SQ_right (on c hc).1) (by omega)).mono ?_
    have : (4 * (6 * n + 10) + 30 + 1) * (allP w h sh).length ≤ 2471 * 1900 := Nat.mul_le_mul (by omega) (by omega)
    omega
  rw [compR_ok (by simp; omega) (mapR_ok (g := fun x : Int => rowT w fun k => cum (accF (allP w h sh) x.toNat) k + accG (allP w h sh) x.toNat k) fun x hx => ?_), bind_ok, List.map_map]
  · congr 1
    unfold shareT tab
    have e : ((h : Int) - 0).toNat = h := by omega
    rw [e]
    refine List.map_congr_left fun k _ => ?_
    show (rowT w fun j => cum (accF (allP w h sh) ((0 : Int) + (k : Nat)).toNat) j + accG (allP w h sh) ((0 : Int) + (k : Nat)).toNat j) = _
    rw [show ((0 : Int) + (k : Nat)).toNat = k by omega]
  · have hx := rng_mem hx
    have b1 : (6000000 + 1) * (w + 2) ≤ 6000001 * 15 := Nat.mul_le_mul_left _ (by omega)
    rw [tab_at hx.1 hx.2, bind_ok, tab_at hx.1 hx.2, bind_ok, p_summed_ok (by omega) (fun k => sF _ k) (fun k => sG _ k) (by omega), bind_ok]
end Pg

set_option Elab.async false
set_option linter.all false
set_option maxRecDepth 100000
namespace Pg
theorem cum_accF {ps : List Pc} {r : Nat} (h : ∀ c ∈ ps, -1 ≤ c.1) : ∀ k : Nat, cum (accF ps r) k = sumQ (ps.map fun c => if c.2.1 = (r : Int) ∧ c.1 < (k : Int) then fallQ c else 0)
  | 0 => by
    show accF ps r 0 = _
    unfold accF
    refine congrArg sumQ (List.map_congr_left fun c hc => ?_)
    have := h c hc
    by_cases e : c.2.1 = (r : Int) ∧ c.1 < ((0 : Nat) : Int)
    · rw [if_pos e, if_pos ⟨e.1, by omega⟩]
    · rw [if_neg e, if_neg fun z => e ⟨z.1, by omega⟩]
  | k + 1 => by
    show cum (accF ps r) k + accF ps r (k + 1) = _
    rw [cum_accF h k]
    unfold accF
    rw [sum_add]
    refine congrArg sumQ (List.map_congr_left fun c hc => ?_)
    by_cases e0 : c.2.1 = (r : Int)
    · by_cases e1 : c.1 < (k : Int)
      · rw [if_pos ⟨e0, e1⟩, if_neg (by omega), if_pos ⟨e0, by omega⟩]; grind
      · by_cases e2 : c.1 + 1 = ((k + 1 : Nat) : Int)
        · rw [if_neg (by omega), if_pos ⟨e0, e2⟩, if_pos ⟨e0, by omega⟩]; grind
        · rw [if_neg (by omega), if_neg (by omega), if_neg (by omega)]; grind
    · rw [if_neg (fun z => e0 z.1), if_neg (fun z => e0 z.1), if_neg (fun z => e0 z.1)]; grind
/-- what is due at a cell -/
def dueQ (ps : List Pc) (c r : Nat) : Rat := cum (accF ps r) c + accG ps r c
theorem l_due3_ok {n : Nat} (hn : n < 10000) {col row : Nat} : ∀ (qs : List Pc) (s : Rat) (m : Nat), SQ m s → (∀ c ∈ qs, SC n c) → m + (6 * n + 40) * qs.length < 120000000 →
    R.forR (fun (x6 : (Int × Int × (Rat × Rat) × (Rat × Rat))) (s7 : Rat) => R.bind (if ((decide (x6.2.1 = (row : Int))) && (decide (x6.1 < (col : Int)))) = true then (R.bind (p_fall x6) fun fall9 => R.bind (l_plus_2 s7 fall9) fun p10 => R.bind (R.ok p10) fun due11 => R.ok due11) else (R.ok s7) : R Rat) fun st8 => if ((decide (x6.2.1 = (row : Int))) && (decide (x6.1 = (col : Int)))) = true then (R.bind (p_right x6) fun right12 => R.bind (l_plus_2 st8 right12) fun p13 => R.bind (R.ok p13) fun due14 => R.ok due14) else (R.ok st8)) qs s
      = .ok (s + (sumQ (qs.map fun c => if c.2.1 = (row : Int) ∧ c.1 < (col : Int) then fallQ c else 0) + accG qs row col)) := by
  intro qs
  induction qs with
  | nil => intro s m _ _ _; show R.ok s = R.ok (s + (0 + 0)); congr 1; grind
  | cons c qs ih =>
    intro s m hs hq hl
    rw [List.length_cons, Nat.mul_add, Nat.mul_one] at hl
    have hc := hq c List.mem_cons_self
    have t1 : ∃ m1, m1 ≤ m + (2 * n + 2) ∧ SQ m1 (s + if c.2.1 = (row : Int) ∧ c.1 < (col : Int) then fallQ c else 0) ∧ (if ((decide (c.2.1 = (row : Int))) && (decide (c.1 < (col : Int)))) = true then (R.bind (p_fall c) fun fall9 => R.bind (l_plus_2 s fall9) fun p10 => R.bind (R.ok p10) fun due11 => R.ok due11) else (R.ok s) : R Rat) = .ok (s + if c.2.1 = (row : Int) ∧ c.1 < (col : Int) then fallQ c else 0) := by
      by_cases e : c.2.1 = (row : Int) ∧ c.1 < (col : Int)
      · refine ⟨m + (2 * n + 1) + 1, by omega, ?_, ?_⟩
        · rw [if_pos e]; exact hs.add (SQ_fall hc)
        · rw [if_pos e, decide_eq_true e.1, decide_eq_true e.2]
          show R.bind (p_fall c) _ = _
          rw [p_fall_ok' hc (by omega), bind_ok, l_plus2_ok hs (SQ_fall hc) (by omega), bind_ok, bind_ok]
      · refine ⟨m, by omega, ?_, ?_⟩
        · rw [if_neg e]; have : s + 0 = s := by grind
          rw [this]; exact hs
        · have e2 : ((decide (c.2.1 = (row : Int))) && (decide (c.1 < (col : Int)))) = false := by
            rw [← Bool.decide_and]; exact decide_eq_false e
          rw [if_neg e, e2, if_ok_f]; congr 1; grind
    obtain ⟨m1, hm1, s1, g1⟩ := t1
    unfold R.forR
    rw [g1, bind_ok]
    generalize hA : (if c.2.1 = (row : Int) ∧ c.1 < (col : Int) then fallQ c else 0) = A at s1 g1
    have key : ∀ (B : Rat), SQ (m1 + (4 * n + 30) + 1) (s + A + B) → B = (if c.2.1 = (row : Int) ∧ c.1 = (col : Int) then rightV c else 0) → R.forR (fun (x6 : (Int × Int × (Rat × Rat) × (Rat × Rat))) (s7 : Rat) => R.bind (if ((decide (x6.2.1 = (row : Int))) && (decide (x6.1 < (col : Int)))) = true then (R.bind (p_fall x6) fun fall9 => R.bind (l_plus_2 s7 fall9) fun p10 => R.bind (R.ok p10) fun due11 => R.ok due11) else (R.ok s7) : R Rat) fun st8 => if ((decide (x6.2.1 = (row : Int))) && (decide (x6.1 = (col : Int)))) = true then (R.bind (p_right x6) fun right12 => R.bind (l_plus_2 st8 right12) fun p13 => R.bind (R.ok p13) fun due14 => R.ok due14) else (R.ok st8)) qs (s + A + B) = .ok (s + (sumQ ((c :: qs).map fun c => if c.2.1 = (row : Int) ∧ c.1 < (col : Int) then fallQ c else 0) + accG (c :: qs) row col)) := fun B hB eB => by
      rw [ih _ _ hB (fun z hz => hq z (List.mem_cons_of_mem _ hz)) (by omega)]
      congr 1
      show _ = s + (((if c.2.1 = (row : Int) ∧ c.1 < (col : Int) then fallQ c else 0) + _) + ((if c.2.1 = (row : Int) ∧ c.1 = (col : Int) then rightV c else 0) + accG qs row col))
      rw [hA, ← eB]; grind
    by_cases e : c.2.1 = (row : Int) ∧ c.1 = (col : Int)
    · rw [decide_eq_true e.1, decide_eq_true e.2]
      show R.bind (R.bind (p_right c) _) _ = _
      rw [p_right_ok' hc (by omega), bind_ok, l_plus2_ok s1 (SQ_right hc) (by omega), bind_ok, bind_ok, bind_ok]
      exact key (rightV c) (s1.add (SQ_right hc)) (by rw [if_pos e])
    · have e2 : ((decide (c.2.1 = (row : Int))) && (decide (c.1 = (col : Int)))) = false := by
        rw [← Bool.decide_and]; exact decide_eq_false e
      rw [e2, if_ok_f, bind_ok]
      have := key 0 ((by have z : s + A + 0 = s + A := by grind
                         rw [z]; exact s1.mono (by omega))) (by rw [if_neg e])
      have z : s + A + 0 = s + A := by grind
      rw [z] at this
      exact this
/-! ### k15: what is drawn -/
theorem l_number4_ok {n : Nat} {c : Int} (g : Bool) : Ok (l_number_4 c g) (SQ 50) := by
  unfold l_number_4
  refine .iteB (fun _ => ?_) fun _ => ?_
  · have h1 := Int.emod_nonneg (c / 8) (show (2000000000000 : Int) ≠ 0 by decide)
    have h2 := Int.emod_lt_of_pos (c / 8) (show (0 : Int) < 2000000000000 by decide)
    have h3 := Int.emod_nonneg (c / 8) (show (1000000 : Int) ≠ 0 by decide)
    have h4 := Int.emod_lt_of_pos (c / 8) (show (0 : Int) < 1000000 by decide)
    exact .step (l_ratio3_ok (by omega)) (.pure (SQ_divInt (by omega) (by unfold S; omega) (by unfold S; omega)))
  · have h1 := Int.emod_nonneg (c / 8) (show (29 : Int) ≠ 0 by decide)
    have h2 := Int.emod_lt_of_pos (c / 8) (show (0 : Int) < 29 by decide)
    refine .bind (at_all (P := fun b : Int => 0 < b ∧ b < 10) ?_ (Int.emod_nonneg c (by decide)) (Int.emod_lt_of_pos c (by decide))) fun b hb => ?_
    · intro x hx; simp at hx; omega
    · exact .step (l_ratio3_ok (by omega)) (.pure (SQ_divInt (by omega) (by unfold S; omega) (by unfold S; omega)))
theorem l_ring3_ok {ns : List Int} (hb : Bits ns) {a n : Int} (h0 : 0 ≤ a) (h1 : a < 1000) (h2 : 0 ≤ n) (h3 : n ≤ 100) (g : Bool) : Ok (l_ring_3 ns a n g) (fun r => (r.length : Int) = n ∧ SR 50 r) := by
  unfold l_ring_3
  refine .one (.step (mulR_ok (a := 2) (b := 10) (by decide) (by unfold S; omega) (by decide)) (.step (rng3R_ok (by decide) (by decide) (by omega) (by omega) (by omega) (by omega)) ?_))
  have hlen : (((List.range (stepN a (a + 2 * n) 2)).map fun k => a + (k : Nat) * 2).length : Int) = n := by
    rw [List.length_map, List.length_range]
    unfold stepN
    rw [if_pos (by decide)]
    split <;> omega
  refine .bind (.forR (fun i f => f.length = i ∧ SR 50 f) ⟨rfl, fun x hx => nomatch hx⟩ fun i f x hf hx => ?_) fun f hf => .pure ⟨by rw [hf.1]; exact hlen, hf.2⟩
  have hm := rng3_mem (c := 2) (by decide) (List.mem_of_getElem? hx)
  have hlt : i < 200 := by
    have : i < ((List.range (stepN a (a + 2 * n) 2)).map fun k => a + (k : Nat) * 2).length := by
      rcases Nat.lt_or_ge i ((List.range (stepN a (a + 2 * n) 2)).map fun k => a + (k : Nat) * 2).length with z | z
      · exact z
      · rw [List.getElem?_eq_none z] at hx; cases hx
    omega
  obtain ⟨c, ec, sc⟩ := l_cell_ok hb (k := x) (by omega) (by omega)
  obtain ⟨d, ed, sd⟩ := l_cell_ok hb (k := x + 1) (by omega) (by omega)
  refine .step ec (.bind (l_spread_ok (m := 20) sc (by unfold S; omega) (by decide)) fun s _ => .bind (l_number4_ok (n := 0) _) fun p hp => .one (.step ed (.bind (l_spread_ok (m := 20) sd (by unfold S; omega) (by decide)) fun t _ => .bind (l_number4_ok (n := 0) _) fun q hq => .one (.step (appR_ok (by rw [hf.1]; omega)) (.pure ⟨by simp [hf.1], fun y hy => ?_⟩)))))
  rcases List.mem_append.mp hy with h | h
  · exact hf.2 y h
  · simp at h; subst h; exact ⟨hp, hq⟩
theorem many_snoc (xs : List (List Pt)) (r : List Pt) : many (xs ++ [r]) = many xs + r.length := by unfold many; simp
theorem l_shape_ok {ns : List Int} (hb : Bits ns) : Ok (l_shape ns) (fun sh => many sh ≤ 18 ∧ sh.length ≤ 3 ∧ ∀ r ∈ sh, SR 50 r) := by
  unfold l_shape
  obtain ⟨c, ec, sc⟩ := l_cell_ok hb (k := 1) (by decide) (by decide)
  refine .step ec (.bind (l_spread_ok (m := 20) sc (by decide) (by decide)) fun s hs => .one (.ite (fun _ => ?_) fun _ => ?_))
  · refine .bind (l_ring3_ok hb (by decide) (by decide) (by decide) (by decide) true) fun r hr => .pure ⟨?_, by simp, fun z hz => ?_⟩
    · unfold many; simp; omega
    · simp at hz; subst hz; exact hr.2
  · refine .one (.one (.bind (at_all (P := fun b : Int => 0 ≤ b ∧ b ≤ 3) ?_ (Int.emod_nonneg s (by decide)) (Int.emod_lt_of_pos s (by decide))) fun b hb3 => ?_))
    · intro x hx; simp at hx; omega
    refine .step (rngR_ok (by decide) (by decide) (by omega) (by omega)) ?_
    refine .bind (.forR (fun i (z : Int × List (List Pt)) => many z.2 ≤ 6 * i ∧ z.2.length = i ∧ (∀ r ∈ z.2, SR 50 r) ∧ 0 ≤ z.1 ∧ z.1 ≤ 4 + 12 * i) ⟨Nat.le_refl _, rfl, (fun x hx => nomatch hx), by decide, by decide⟩ fun i z x hz hx => ?_) fun z hz => .pure ?_
    · obtain ⟨e, hx3⟩ := rng_at hx
      have m1 := Int.emod_nonneg
      refine .bind (at_all (P := fun b : Int => 0 < b) ?_ (by omega) (show x < 3 by omega)) fun d hd => .step (fdivR_ok (by omega)) (.one ?_)
      · intro x hx; simp at hx; omega
      have q1 := Int.emod_nonneg (s.fdiv d) (show (7 : Int) ≠ 0 by decide)
      have q2 := Int.emod_lt_of_pos (s.fdiv d) (show (0 : Int) < 7 by decide)
      refine .bind (l_ring3_ok hb hz.2.2.2.1 (by omega) q1 (by omega) false) fun r hr => .step (appR_ok (by omega)) (.step (mulR_ok (a := 2) (b := 10) (by decide) (by unfold S; omega) (by decide)) (.one (.pure ⟨?_, ?_, ?_, ?_, ?_⟩)))
      · show many (z.2 ++ [r]) ≤ _
        rw [many_snoc]; omega
      · show (z.2 ++ [r]).length = _
        rw [List.length_append, List.length_singleton, hz.2.1]
      · intro y hy
        rcases List.mem_append.mp hy with h | h
        · exact hz.2.2.1 y h
        · simp at h; subst h; exact hr.2
      · show 0 ≤ z.1 + 2 * _; omega
      · show z.1 + 2 * _ ≤ _; omega
    · have hl : ((List.range (b - 0).toNat).map fun k => (0 : Int) + (k : Nat)).length ≤ 3 := by simp; omega
      exact ⟨by omega, by omega, hz.2.2.1⟩
theorem l_floor2_ok (c : Int) : ∃ w h : Nat, l_floor_2 c = .ok ((w : Int), (h : Int)) ∧ 0 < w ∧ w ≤ 4 ∧ 0 < h ∧ h ≤ 3 := by
  have q1 := Int.emod_nonneg c (show (4 : Int) ≠ 0 by decide)
  have q2 := Int.emod_lt_of_pos c (show (0 : Int) < 4 by decide)
  have q3 := Int.emod_nonneg (c / 4) (show (3 : Int) ≠ 0 by decide)
  have q4 := Int.emod_lt_of_pos (c / 4) (show (0 : Int) < 3 by decide)
  refine ⟨(1 + c % 4).toNat, (1 + c / 4 % 3).toNat, ?_, by omega, by omega, by omega, by omega⟩
  unfold l_floor_2
  rw [Int.toNat_of_nonneg (by omega), Int.toNat_of_nonneg (by omega)]
/-! ### all pieces -/
theorem extR_ok {α : Type} {xs ys : List α} (h : xs.length + ys.length ≤ 16777216) : extR xs ys = .ok (xs ++ ys) := by unfold extR; rw [if_pos h]
theorem l_all_pieces_ok {w h n : Nat} {sh : List (List Pt)} (hw : w ≤ 13) (hh : h ≤ 20) (hn : n < 1500) (hs : ∀ r ∈ sh, SR n r) (hl : many sh ≤ 100) (hl2 : sh.length ≤ 100) : l_all_pieces sh ((w : Int), (h : Int)) = .ok (allP w h sh) := by
  unfold l_all_pieces
  rw [bind_ok]
  have key : ∀ (sh : List (List Pt)) (ps : List Pc), (∀ r ∈ sh, SR n r) → ps.length + 100 * many sh < 100000 → R.forR (fun (x4 : (List (Rat × Rat))) (s5 : (List (Int × Int × (Rat × Rat) × (Rat × Rat)))) => R.bind (rngR 0 ((x4.length : Int))) fun r6 => R.bind (R.forR (fun (x7 : Int) (s8 : (List (Int × Int × (Rat × Rat) × (Rat × Rat)))) => R.bind (atR x4 x7) fun it9 => R.bind (fmodR ((x7 + (1 : Int))) ((x4.length : Int))) fun m10 => R.bind (atR x4 m10) fun it11 => R.bind (p_pieces ((w : Int), (h : Int)).1 ((w : Int), (h : Int)).2 ((it9, it11))) fun pieces12 => R.bind (extR s8 pieces12) fun told13 => R.ok told13) r6 s5) fun s14 => R.ok s14) sh ps = .ok (ps ++ allP w h sh) := by
    intro sh
    induction sh with
    | nil => intro ps _ _; show R.ok ps = R.ok (ps ++ []); rw [List.append_nil]
    | cons r sh ih =>
      intro ps hs hl
      have e0 : many (r :: sh) = r.length + many sh := by unfold many; rw [List.map_cons, List.sum_cons]
      have hr := hs r List.mem_cons_self
      have st : Ok (R.bind (rngR 0 ((r.length : Int))) fun r6 => R.bind (R.forR (fun (x7 : Int) (s8 : (List (Int × Int × (Rat × Rat) × (Rat × Rat)))) => R.bind (atR r x7) fun it9 => R.bind (fmodR ((x7 + (1 : Int))) ((r.length : Int))) fun m10 => R.bind (atR r m10) fun it11 => R.bind (p_pieces ((w : Int), (h : Int)).1 ((w : Int), (h : Int)).2 ((it9, it11))) fun pieces12 => R.bind (extR s8 pieces12) fun told13 => R.ok told13) r6 ps) fun s14 => R.ok s14) (· = ps ++ (edges r).flatMap (piecesQ w h)) := by
        refine ring_step (P := (· = ps ++ (edges r).flatMap (piecesQ w h))) (ring_loop (by omega) (fun es s => s = ps ++ es.flatMap (piecesQ w h) ∧ s.length ≤ ps.length + 100 * es.length) ⟨by simp, by simp⟩ ?_ |>.mono fun a z => z.1) fun s hs => .pure hs
        intro i x p q s hx hi g1 g2 g3 g4 g5 g6 hs
        have pl : (piecesQ ((w : Int), (h : Int)).1 ((w : Int), (h : Int)).2 (p, q)).length ≤ 100 := piecesQ_len' (w := w) (h := h) (p, q) (by omega) (by omega)
        have tl : ((edges r).take i).length ≤ r.length := by rw [List.length_take, edges_len]; omega
        refine .step g2 (.step g3 (.step g4 (.step (p_pieces_ok (n := n) (e := (p, q)) (hr p g5) (hr q g6) (by omega) (by omega) (by omega) (by omega) (by omega)) (.step (extR_ok (by omega)) (.pure ⟨?_, ?_⟩)))))
        · rw [hs.1, List.append_assoc, List.flatMap_append]; simp
        · rw [List.length_append, List.length_append, List.length_singleton]; omega
      obtain ⟨s, es, rfl⟩ := st
      unfold R.forR
      have pl : ∀ es : List Sd, (es.flatMap (piecesQ w h)).length ≤ 100 * es.length := by
        intro es
        induction es with
        | nil => simp
        | cons e es ih2 =>
          rw [List.flatMap_cons, List.length_append, List.length_cons]
          have := piecesQ_len' (w := w) (h := h) e (by omega) (by omega)
          omega
      have pr := pl (edges r)
      rw [edges_len] at pr
      rw [es, bind_ok, ih _ (fun z hz => hs z (List.mem_cons_of_mem _ hz)) (by rw [List.length_append]; omega), List.append_assoc]
      rfl
  rw [key sh [] hs (by simp; omega), bind_ok]; rfl
/-! ### what is due -/
theorem l_due3_val {w h n : Nat} {ps : List Pc} (hn : n < 10000) (hp : ∀ c ∈ ps, SC n c ∧ OnF w h c) (hl : (6 * n + 40) * ps.length < 100000000) (col row : Nat) : l_due_3 ps (col : Int) (row : Int) = .ok (dueQ ps col row) := by
  unfold l_due_3
  rw [mkQ_zero, bind_ok, bind_ok, l_due3_ok hn ps 0 1 (SQ_zero 0) (fun c hc => (hp c hc).1) (by omega), bind_ok]
  congr 1
  unfold dueQ
  rw [cum_accF (fun c hc => (hp c hc).2.1)]
  grind
theorem shareT_get {w h : Nat} {ps : List Pc} {c r : Nat} (hc : c < w) (hr : r < h) : ∃ row, atR (shareT w h ps) (r : Int) = .ok row ∧ row.length = w ∧ atR row (c : Int) = .ok (dueQ ps c r) :=
  ⟨_, tab_at (by omega) (by omega), rowT_len _ _, row_at (by omega) (by omega)⟩
theorem shareT_len (w h : Nat) (ps : List Pc) : (shareT w h ps).length = h := tab_len _ _ _
theorem l_good4_ok {w h n : Nat} {ps : List Pc} (hw : w < 1000) (hh : h < 1000) (hn : n < 10000) (hp : ∀ c ∈ ps, SC n c ∧ OnF w h c) (hl : (6 * n + 40) * ps.length < 100000000) : l_good_4 (shareT w h ps) ps ((w : Int), (h : Int)) = .ok true := by
  unfold l_good_4
  rw [shareT_len]
  refine Ok.true ?_
  rw [show ((!true) || (!decide (((h : Nat) : Int) = ((w : Int), (h : Int)).2))) = false by simp, if_ok_f]
  refine .step (rngR_ok (by decide) (by decide) (by omega) (by show (h : Int) < _; omega)) (.caseU (.forU fun x hx => ?_) (.pure rfl))
  have hx := rng_mem hx
  obtain ⟨r, rfl⟩ : ∃ r : Nat, x = r := ⟨x.toNat, by omega⟩
  have hr : r < h := by have : (r : Int) < (h : Int) := hx.2; omega
  have a1 := tab_at (w := w) (h := h) (f := fun r k => cum (accF ps r) k + accG ps r k) (i := (r : Int)) (by omega) (by omega)
  rw [Int.toNat_natCast] at a1
  refine .step a1 ?_
  refine .step (a := false) ?_ ?_
  · show R.orR false _ = _
    rw [orR_f, show atR (shareT w h ps) (r : Int) = _ from a1, bind_ok, rowT_len]; simp
  rw [if_ok_f]
  refine .step (rngR_ok (by decide) (by decide) (by omega) (by show (w : Int) < _; omega)) (.caseU (.forU fun y hy => ?_) (.pure rfl))
  have hy := rng_mem hy
  obtain ⟨c, rfl⟩ : ∃ c : Nat, y = c := ⟨y.toNat, by omega⟩
  have hc : c < w := by have : (c : Int) < (w : Int) := hy.2; omega
  refine .step a1 (.step (row_at (by omega) (by omega)) (.step (l_due3_val hn hp hl c r) ?_))
  rw [Int.toNat_natCast]
  show Ok (R.bind (l_is_2 (dueQ ps c r) (dueQ ps c r)) _) _
  refine .step (l_is2_ok _) ?_
  exact .pure rfl
theorem mapR_id {α : Type} : ∀ xs : List α, R.mapR (fun x => R.ok x) xs = .ok xs
  | [] => rfl
  | x :: xs => by unfold R.mapR; rw [bind_ok, mapR_id xs, bind_ok]
theorem compR_id {α : Type} {xs : List α} (h : xs.length < 16777216) : R.compR (fun x => R.ok x) xs = .ok xs := compR_ok h (mapR_id xs)
theorem atR_last {α : Type} {xs : List α} (h : xs ≠ []) : ∃ x, xs[xs.length - 1]? = some x ∧ ixP xs.length (-1) = some (xs.length - 1) := by
  have h1 : 0 < xs.length := List.length_pos_iff.mpr h
  refine ⟨xs[xs.length - 1], by simp [h1], ?_⟩
  unfold ixP
  rw [if_neg (by decide), if_pos (by omega)]
  congr 1
  omega
theorem app2_last {α : Type} {xss : List (List α)} (h : xss ≠ []) (hl : ∀ r ∈ xss, r.length < 16777216) (x : α) : Ok (app2R xss (-1) x) (fun yss => yss.length = xss.length) := by
  obtain ⟨r, g1, g2⟩ := atR_last h
  unfold app2R
  have a1 : atR xss (-1) = .ok r := by unfold atR; rw [g2]; simp only [g1]
  refine .step a1 (.step (appR_ok (hl r (List.mem_of_getElem? g1))) ?_)
  unfold setR
  rw [g2]
  exact .pure (by simp)
theorem k15_ok : ∀ ns : List Int, ns.length ≤ 63 → (∀ z ∈ ns, z.natAbs.log2 ≤ 1048576) → k15_law ns = .ok true := fun ns hl hb => by
  unfold k15_law
  obtain ⟨c0, e0, _⟩ := l_cell_ok hb (k := 0) (by decide) (by decide)
  obtain ⟨w, h, ef, w0, w1, h0, h1⟩ := l_floor2_ok c0
  refine Ok.true (.step e0 (.step ef (.one (.bind (l_shape_ok hb) fun sh hs => .one ?_))))
  obtain ⟨hm, hsl, hr⟩ := hs
  have on := allP_on (w := w) (h := h) (by omega) (by omega) hr
  have len := allP_len (w := w) (h := h) (by omega) (by omega) sh
  have tab1 := p_shares_tab (w := w) (h := h) (n := 50) (by omega) (by omega) (by omega) hr (by omega)
  refine .step (compR_id (by omega)) (.one (.step (l_all_pieces_ok (n := 50) (by omega) (by omega) (by omega) hr (by omega) (by omega)) (.one (.step tab1 (.one (.step (l_good4_ok (n := 6 * 50 + 10) (by omega) (by omega) (by omega) on ?_) ?_))))))
  · have : (6 * (6 * 50 + 10) + 40) * (allP w h sh).length ≤ 1900 * 1800 := Nat.mul_le_mul (by omega) (by omega)
    omega
  rw [show ((!true) || (!decide (sh = sh))) = false by simp, if_ok_f]
  refine .step (compR_id (by rw [shareT_len]; omega)) (.one (.step (mkQ_int 7) ?_))
  refine .step (tab_put _ (by decide) (by omega) (by decide) (by omega)) (.step mkQ_zero (.bind (app2_last ?_ ?_ _) fun t ht => .step (appR_ok (by rw [ht, tab_len]; omega)) (.step tab1 (.pure (by simp)))))
  · intro z
    have := congrArg List.length z
    rw [tab_len] at this
    simp at this; omega
  · intro r hr
    unfold tab at hr
    obtain ⟨k, _, rfl⟩ := List.mem_map.mp hr
    rw [rowT_len]; omega
end Pg

set_option Elab.async false
set_option linter.all false
namespace Pg
/-- a number whose bottom parts sixty -/
def N60 (q : Rat) : Prop := SQ 50 q ∧ q.den ∣ 60
def P60 (p : Pt) : Prop := N60 p.1 ∧ N60 p.2
theorem den_dvd {a b : Int} (hb : b ≠ 0) : (Rat.divInt a b).den ∣ b.natAbs := by
  rw [Rat.den_divInt, if_neg hb]
  have h : (Int.gcd b a) ∣ b.natAbs := Int.natAbs_dvd_natAbs.mpr (Int.gcd_dvd_left b a) |> fun h => by simpa using h
  obtain ⟨k, hk⟩ := h
  have h0 : 0 < Int.gcd b a := Int.gcd_pos_of_ne_zero_left a hb
  exact ⟨Int.gcd b a, by rw [hk, Nat.mul_div_cancel_left _ h0, Nat.mul_comm]⟩
theorem l_number_ok (c : Int) : Ok (l_number c) N60 := by
  unfold l_number
  have m1 := Int.emod_nonneg (c / 8) (show (2000000000000 : Int) ≠ 0 by decide)
  have m2 := Int.emod_lt_of_pos (c / 8) (show (0 : Int) < 2000000000000 by decide)
  have m3 := Int.emod_nonneg (c / 8) (show (61 : Int) ≠ 0 by decide)
  have m4 := Int.emod_lt_of_pos (c / 8) (show (0 : Int) < 61 by decide)
  have m5 := Int.emod_nonneg (c / 488) (show (6 : Int) ≠ 0 by decide)
  have m6 := Int.emod_lt_of_pos (c / 488) (show (0 : Int) < 6 by decide)
  refine .ite (fun _ => ?_) fun h => ?_
  · exact .step (mkQ_int _) (.pure ⟨SQ_int (by unfold S; omega) (by decide), by rw [Rat.den_intCast]; decide⟩)
  · refine .step (l_ratio_ok (by omega)) (.pure ⟨SQ_divInt (by omega) (by unfold S; omega) (by unfold S; omega), Nat.dvd_trans (den_dvd (by omega)) ?_⟩)
    generalize c / 488 % 6 = z at m5 m6
    have : z = 0 ∨ z = 1 ∨ z = 2 ∨ z = 3 ∨ z = 4 ∨ z = 5 := by omega
    rcases this with rfl | rfl | rfl | rfl | rfl | rfl <;> decide
theorem l_ring_ok {ns : List Int} (hb : Bits ns) {a n : Int} (h0 : 0 ≤ a) (h1 : a < 1000) (h2 : 0 ≤ n) (h3 : n ≤ 100) : Ok (l_ring ns a n) (fun r => (r.length : Int) = n ∧ ∀ p ∈ r, P60 p) := by
  unfold l_ring
  refine .one (.step (rngR_ok (by decide) (by decide) (by omega) (by omega)) ?_)
  refine .bind (.forR (fun i f => f.length = i ∧ ∀ x ∈ f, P60 x) ⟨rfl, fun x hx => nomatch hx⟩ fun i f x hf hx => ?_) fun f hf => .pure ⟨by rw [hf.1]; simp; omega, hf.2⟩
  obtain ⟨e, hx3⟩ := rng_at hx
  have m2 : ∀ {β : Type} (g : Int → R β), R.bind (mulR 2 x) g = g (2 * x) := fun g => by rw [mulR_ok (a := 2) (b := 10) (by decide) (by unfold S; omega) (by decide), bind_ok]
  obtain ⟨c, ec, _⟩ := l_cell_ok hb (k := a + 2 * x) (by omega) (by omega)
  obtain ⟨d, ed, _⟩ := l_cell_ok hb (k := a + 2 * x + 1) (by omega) (by omega)
  rw [m2]
  refine .step ec (.bind (l_number_ok c) fun p hp => .one ?_)
  rw [m2]
  refine .step ed (.bind (l_number_ok d) fun q hq => .one (.step (appR_ok (by rw [hf.1]; omega)) (.pure ⟨by simp [hf.1], fun y hy => ?_⟩)))
  rcases List.mem_append.mp hy with h | h
  · exact hf.2 y h
  · simp at h; subst h; exact ⟨hp, hq⟩
theorem l_points_ok {ns : List Int} (hb : Bits ns) : Ok (l_points ns) (fun r => r.length ≤ 100 ∧ ∀ p ∈ r, P60 p) := by
  unfold l_points
  obtain ⟨c0, e0, _⟩ := l_cell_ok hb (k := 0) (by decide) (by decide)
  obtain ⟨c1, e1, _⟩ := l_cell_ok hb (k := 1) (by decide) (by decide)
  obtain ⟨c2, e2, _⟩ := l_cell_ok hb (k := 2) (by decide) (by decide)
  have m1 := Int.emod_nonneg (c0 / 6) (show (9 : Int) ≠ 0 by decide)
  have m2 := Int.emod_lt_of_pos (c0 / 6) (show (0 : Int) < 9 by decide)
  have m3 := Int.emod_nonneg (c0 / 6) (show (41 : Int) ≠ 0 by decide)
  have m4 := Int.emod_lt_of_pos (c0 / 6) (show (0 : Int) < 41 by decide)
  refine .step e0 (.one (.step e0 (.bind (P := fun n => 0 ≤ n ∧ n ≤ 50) (.ite (fun _ => .step e0 (.one (.pure (by omega)))) fun _ => .pure (by omega)) fun n hn => ?_)))
  refine .bind (l_ring_ok hb (by decide) (by decide) hn.1 (by omega)) fun r hr => .one ?_
  refine .bind (P := fun b => b = true → 0 < n) (.andR (fun h => .bind (P := fun b => True) (.andR (fun _ => .step e1 (.pure trivial)) fun _ => trivial) fun b _ => .pure fun _ => of_decide_eq_true h) fun h => (fun z => nomatch z)) fun b hb2 => ?_
  refine .bind (P := fun r => r.length ≤ 100 ∧ ∀ p ∈ r, P60 p) (.iteB (fun h => ?_) fun _ => .pure ⟨by omega, hr.2⟩) fun r hr => .pure hr
  have hn0 := hb2 h
  have q1 := Int.emod_nonneg (c1 / 4) (show n ≠ 0 by omega)
  have q2 := Int.emod_lt_of_pos (c1 / 4) hn0
  have q3 := Int.emod_nonneg c2 (show n ≠ 0 by omega)
  have q4 := Int.emod_lt_of_pos c2 hn0
  refine .step e1 (.step (fmodR_ok (by omega)) (.one (.step e2 (.step (fmodR_ok (by omega)) (.one ?_)))))
  rw [Int.fmod_eq_emod_of_nonneg _ (by omega), Int.fmod_eq_emod_of_nonneg _ (by omega)]
  refine .bind (at_all hr.2 q1 (by omega)) fun p hp => ?_
  refine .step (show insR r (c2 % n + 1) p = .ok (r.take (c2 % n + 1).toNat ++ [p] ++ r.drop (c2 % n + 1).toNat) by unfold insR; rw [if_pos ⟨by omega, by omega, by omega⟩]) (.pure ⟨?_, fun y hy => ?_⟩)
  · simp only [List.length_append, List.length_take, List.length_drop, List.length_singleton]; omega
  · simp only [List.mem_append, List.mem_singleton] at hy
    rcases hy with (h | h) | h
    · exact hr.2 y (List.mem_of_mem_take h)
    · rw [h]; exact hp
    · exact hr.2 y (List.mem_of_mem_drop h)
theorem l_is_all {q : Rat} (h : SQ 50 q) : l_is q q.num (q.den : Int) = .ok true := l_is_self h (by decide)
theorem P60.sp {p : Pt} (h : P60 p) : SP 50 p := ⟨h.1.1, h.2.1⟩
theorem l_sides_good_ok {r : List Pt} (hr : r.length ≤ 100) (h : ∀ p ∈ r, P60 p) : l_sides_good (edges r) r = .ok true := by
  unfold l_sides_good
  have e : ((!true) || (!decide (((edges r).length : Int) = (r.length : Int)))) = false := by rw [edges_len]; simp
  rw [e, if_ok_f, rngR_ok (by decide) (by decide) (by omega) (by omega), bind_ok, forX_all (fun x hx => ?_), bind_ok, caseX_l]
  have hx := rng_mem hx
  obtain ⟨p, q, g1, g2, g3, g4, g5, g6⟩ := ring_at (r := r) (i := x.toNat) (x := x) (by omega) (by omega)
  have a1 := atR_nat g1
  rw [show ((x.toNat : Nat) : Int) = x by omega] at a1
  have z1 := h p g5
  have z2 := h q g6
  rw [a1, bind_ok, bind_ok, show ((!true) || (!decide ((2 : Int) = (2 : Int)))) = false by decide, if_ok_f, g2, bind_ok, g3, bind_ok, g4, bind_ok, decide_eq_true rfl, decide_eq_true rfl]
  have e2 : R.orR (!true) (R.ok (!true)) = R.ok false := rfl
  rw [e2, bind_ok, if_ok_f, forX_all (fun y hy => ?_), bind_ok, caseX_l]
  have zy : P60 y := by simp at hy; rcases hy with rfl | rfl <;> assumption
  rw [l_is_all zy.1.1, l_is_all zy.2.1, bind_ok]
  rfl
theorem num_eq (q : Rat) : (q.num : Rat) = q * ((q.den : Int) : Rat) := by
  have h : ((q.num : Int) : Rat) / ((q.den : Int) : Rat) = q := by rw [← Rat.divInt_eq_div, Rat.num_divInt_den]
  have hd : ((q.den : Int) : Rat) ≠ 0 := by
    rw [Ne, Rat.intCast_eq_zero_iff]
    have := q.den_nz; omega
  have h2 := (Rat.div_mul_cancel (a := ((q.num : Int) : Rat)) hd).symm
  rw [h] at h2
  exact h2
/-- sixty times a number -/
def sx (q : Rat) : Int := q.num * (60 / (q.den : Int))
theorem sx_eq {q : Rat} (h : q.den ∣ 60) : ((sx q : Int) : Rat) = 60 * q := by
  obtain ⟨k, hk⟩ := h
  have hd := q.den_pos
  have e1 : (60 : Int) / (q.den : Int) = k := by
    rw [show (60 : Int) = ((q.den * k : Nat) : Int) by omega, Int.natCast_mul, Int.mul_ediv_cancel_left _ (by omega)]
  unfold sx
  rw [e1, Rat.intCast_mul]
  have e2 : (q.num : Rat) = q * ((q.den : Int) : Rat) := num_eq q
  have e3 : ((60 : Int) : Rat) = ((q.den : Int) : Rat) * ((k : Int) : Rat) := by rw [← Rat.intCast_mul]; congr 1; omega
  have e4 : ((60 : Int) : Rat) = 60 := rfl
  rw [e2]
  grind
theorem sx_S {q : Rat} (h : SQ 50 q) : S 60 (sx q) := by
  unfold sx
  have h1 : S 6 (60 / (q.den : Int)) := S_ediv (by have := q.den_pos; omega) (by decide)
  exact (h.1.mul h1).mono (by decide)
theorem l_twice_ok {r : List Pt} (hr : r.length ≤ 100) (h : ∀ p ∈ r, P60 p) : Ok (l_twice r) (fun t => S 1000 t ∧ (t : Rat) = 3600 * sumQ ((edges r).map cross)) := by
  unfold l_twice
  refine .one (ring_step (ring_loop (by omega) (fun es s => S (130 + es.length) s ∧ (s : Rat) = 3600 * sumQ (es.map cross)) ⟨by decide, by show ((0 : Int) : Rat) = 3600 * 0; grind⟩ fun i x p q s hx hi g1 g2 g3 g4 g5 g6 hp => ?_) fun s hs => .pure ⟨hs.1.mono (by rw [edges_len]; omega), hs.2⟩)
  have z1 := h p g5
  have z2 := h q g6
  have comp : ∀ a : Pt, P60 a → R.compR (fun x11 : Rat => R.bind (fdivR ((60 : Int)) ((x11.den : Int))) fun q12 => R.bind (mulR x11.num q12) fun p13 => R.ok p13) ([a.1, a.2]) = .ok [sx a.1, sx a.2] := fun a ha => by
    refine compR_ok (by simp) (mapR_ok (g := sx) fun y hy => ?_)
    have zy : N60 y := by simp at hy; rcases hy with rfl | rfl; exact ha.1; exact ha.2
    have hd := y.den_pos
    rw [fdivR_ok (by omega), bind_ok, Int.fdiv_eq_ediv_of_nonneg _ (by omega), mulR_ok (b := 6) zy.1.1 (S_ediv (by omega) (by decide)) (by decide), bind_ok]
    rfl
  have t1 := sx_S z1.1.1
  have t2 := sx_S z1.2.1
  have t3 := sx_S z2.1.1
  have t4 := sx_S z2.2.1
  refine .step g2 (.one (.step g3 (.step g4 (.one (.step (comp p z1) (.one (.step (comp q z2) (.one (.step (at0 _ _) (.step (at1 _ _ _) (.step (mulR_ok t1 t4 (by decide)) (.step (at0 _ _) (.step (at1 _ _ _) (.step (mulR_ok t3 t2 (by decide)) (.one (.pure ⟨?_, ?_⟩))))))))))))))))
  · rw [List.length_append]
    have hl : ((edges r).take i).length = i := by rw [List.length_take, edges_len]; omega
    have h1 := hp.1
    rw [hl] at h1 ⊢
    have h2 := ((t1.mul t4).sub (t3.mul t2)).mono (show _ ≤ 121 by decide)
    rw [show s + sx p.1 * sx q.2 - sx q.1 * sx p.2 = s + (sx p.1 * sx q.2 - sx q.1 * sx p.2) by omega]
    exact (h1.add h2).mono (by simp; omega)
  · rw [Rat.intCast_sub, Rat.intCast_add, Rat.intCast_mul, Rat.intCast_mul, sx_eq z1.1.2, sx_eq z1.2.2, sx_eq z2.1.2, sx_eq z2.2.2, List.map_append, sumQ_append, hp.2]
    show _ = 3600 * (_ + (cross (p, q) + 0))
    unfold cross
    grind
theorem k06_ok : ∀ ns : List Int, ns.length ≤ 63 → (∀ z ∈ ns, z.natAbs.log2 ≤ 1048576) → k06_law ns = .ok true := fun ns hl hb => by
  unfold k06_law
  refine Ok.true (.bind (l_points_ok hb) fun r hr => .one (.one (.step (p_sides_ok (by omega)) (.one (.step (l_sides_good_ok hr.1 hr.2) ?_)))))
  rw [decide_eq_true (rfl : r = r)]
  show Ok (if false = true then _ else _) _
  rw [if_ok_f]
  refine .step (show roomR (edges r) = .ok () by unfold roomR; rw [if_pos (by rw [edges_len]; omega)]) (.step (p_sides_ok (by omega)) (.step (l_sides_good_ok hr.1 hr.2) ?_))
  rw [Bool.not_true, if_ok_f]
  have sr : SR 50 r := fun p hp => (hr.2 p hp).sp
  have hw : (4 * 50 + 2) * r.length ≤ (4 * 50 + 2) * 100 := Nat.mul_le_mul_left _ hr.1
  refine .step (p_area_ok sr (by omega) (by omega)) (.bind (l_twice_ok hr.1 hr.2) fun t ht => ?_)
  refine .step (l_is_ok (n := 1000) (by decide) ?_ ht.1 (S.mono (a := 13) (by decide) (by decide)) (by decide)) (.pure rfl)
  have e : Rat.divInt t 7200 = (t : Rat) / 7200 := by
    have e7 : (7200 : Rat) = ((7200 : Int) : Rat) := rfl
    rw [e7, div_divInt, Rat.num_intCast, Rat.den_intCast, Rat.num_intCast, Rat.den_intCast]
    simp
  rw [e, ht.2]
  unfold areaQ
  grind
end Pg

set_option Elab.async false
set_option linter.all false
namespace Pg

/-! mirrors of the defs of k07, printed by pygen -/
def p_shape_area (shape1 : (List (List (Rat × Rat)))) : R Rat :=
  R.bind (R.compR (fun x2 => R.bind (p_area x2) fun area3 => R.ok area3) shape1) fun c4 =>
  R.bind (p_total c4) fun total5 =>
  R.ok total5
def l_sum_good (found1 : Rat) (some2 : (List Rat)) : R Bool :=
  R.bind (R.ok ((0 : Int))) fun top3 =>
  R.bind (R.ok ((1 : Int))) fun bottom4 =>
  R.bind (R.forR (fun (x5 : Rat) (s6 : (Int × Int)) => R.bind (mulR s6.1 ((x5.den : Int))) fun p7 => R.bind (mulR x5.num s6.2) fun p8 => R.bind (R.ok ((p7 + p8))) fun top9 => R.bind (mulR s6.2 ((x5.den : Int))) fun p10 => R.bind (R.ok p10) fun bottom11 => R.ok ((top9, bottom11))) some2 ((top3, bottom4))) fun s12 =>
  R.bind (l_is found1 s12.1 s12.2) fun i13 =>
  R.ok i13
def l_ring_good (ring1 : (List (Rat × Rat))) (cell2 : Int) : R Bool :=
  R.bind (p_area ring1) fun area3 =>
  R.bind (R.ok area3) fun found4 =>
  R.bind (l_is found4 found4.num ((found4.den : Int))) fun i5 =>
  if (!i5) = true then (R.ok false) else (R.bind (rngR 0 ((ring1.length : Int))) fun r6 => R.bind (R.compR (fun x7 => R.bind (atR ring1 ((((ring1.length : Int) - (1 : Int)) - x7))) fun it8 => R.ok it8) r6) fun c9 => R.bind (R.ok c9) fun back10 => R.bind (p_area back10) fun area11 => R.bind (l_is area11 ((-found4.num)) ((found4.den : Int))) fun i12 => if (!i12) = true then (R.ok false) else (if (decide ((ring1.length : Int) = (0 : Int))) = true then (R.bind (mkQ ((0 : Int)) ((1 : Int))) fun q13 => R.ok ((decide (found4 = q13)))) else (R.bind (fmodR cell2 ((ring1.length : Int))) fun m14 => R.bind (R.ok m14) fun at15 => R.bind (catR ((cutL ring1 (some at15) none)) ((cutL ring1 none (some at15)))) fun c16 => R.bind (p_area c16) fun area17 => if (!decide (area17 = found4)) = true then (R.ok false) else (R.bind (fmodR ((cell2 / (6 : Int))) (((ring1.length : Int) - at15))) fun m18 => R.bind (R.ok ((at15 + m18))) fun upto19 => R.bind (R.ok ((cutL ring1 (some at15) (some ((upto19 + (1 : Int))))))) fun one20 => R.bind (catR ((cutL ring1 none (some ((at15 + (1 : Int)))))) ((cutL ring1 (some upto19) none))) fun c21 => R.bind (R.ok c21) fun other22 => R.bind (p_area one20) fun area23 => R.bind (p_area other22) fun area24 => R.bind (l_sum_good found4 ([area23, area24])) fun s25 => R.ok s25))))
def k07_law (script1 : (List Int)) : R Bool :=
  R.bind (l_cell script1 ((0 : Int))) fun c2 =>
  R.bind (R.ok c2) fun sizes3 =>
  R.bind (R.ok (([] : (List (List (Rat × Rat)))))) fun shape4 =>
  R.bind (rngR 0 ((3 : Int))) fun r5 =>
  R.bind (R.forR (fun (x6 : Int) (s7 : (Int × (List (List (Rat × Rat))))) => R.bind (mulR ((12 : Int)) x6) fun p8 => R.bind (l_ring script1 (((3 : Int) + p8)) ((s7.1 % (7 : Int)))) fun r9 => R.bind (appR s7.2 r9) fun shape10 => R.bind (R.ok ((s7.1 / (7 : Int)))) fun sizes11 => R.ok ((sizes11, shape10))) r5 ((sizes3, shape4))) fun s12 =>
  R.bind (R.compR (fun x13 =>  R.ok x13) s12.2) fun c14 =>
  R.bind (R.ok c14) fun handed15 =>
  R.bind (p_shape_area handed15) fun shape16 =>
  R.bind (R.ok shape16) fun found17 =>
  R.bind (R.compR (fun x18 => R.bind (p_area x18) fun area19 => R.ok area19) s12.2) fun c20 =>
  R.bind (l_sum_good found17 c20) fun s21 =>
  if ((!s21) || (!decide (handed15 = s12.2))) = true then (R.ok false) else (R.bind (rngR 0 ((3 : Int))) fun r22 => R.bind (R.forX (fun (x23 : Int) (s24 : Unit) => (R.bind (atR s12.2 x23) fun it25 => R.bind (l_cell script1 ((1 : Int))) fun c26 => R.bind (fdivR c26 ((x23 + (1 : Int)))) fun q27 => R.bind (l_ring_good it25 q27) fun r28 => if (!r28) = true then (R.ok (Sum.inr false)) else (R.ok (Sum.inl (()))) : R (Sum Unit Bool))) r22 (())) fun r29 => R.caseX r29 (fun s30 => R.bind (atR s12.2 ((0 : Int))) fun it32 => R.bind (p_shape_area ([it32])) fun shape33 => R.bind (atR s12.2 ((0 : Int))) fun it34 => R.bind (p_area it34) fun area35 => if (!decide (shape33 = area35)) = true then (R.ok false) else (R.bind (p_shape_area (([] : (List (List (Rat × Rat)))))) fun shape36 => R.bind (l_is shape36 ((0 : Int)) ((1 : Int))) fun i37 => R.ok i37)) (fun b31 => R.ok b31))
end Pg

set_option Elab.async false
set_option linter.all false
set_option maxRecDepth 100000
namespace Pg
/-! ### rings begun elsewhere, turned round, cut by a way -/
section
variable {c : Pt → Pt → Rat}
theorem cyc_last {r : List Pt} (h : r ≠ []) : ∃ w, cyc c r = chain c w r ∧ ∀ z, lastP z r = w := by
  cases r with
  | nil => exact absurd rfl h
  | cons v vs => exact ⟨lastP v vs, cyc_chain c v vs, fun _ => rfl⟩
theorem cyc_rot (xs ys : List Pt) : cyc c (xs ++ ys) = cyc c (ys ++ xs) := by
  by_cases h1 : xs = []
  · rw [h1, List.append_nil, List.nil_append]
  · by_cases h2 : ys = []
    · rw [h2, List.append_nil, List.nil_append]
    · obtain ⟨w, e1, l1⟩ := cyc_last (c := c) (r := xs ++ ys) (by simp [h1])
      obtain ⟨u, e2, l2⟩ := cyc_last (c := c) (r := ys ++ xs) (by simp [h1])
      have k1 : w = lastP u ys := by have h3 := l1 u; rw [lastP_append] at h3; obtain ⟨a, _, l⟩ := cyc_last (c := c) h2; rw [← h3, l, l]
      have k2 : u = lastP w xs := by have h3 := l2 w; rw [lastP_append] at h3; obtain ⟨a, _, l⟩ := cyc_last (c := c) h1; rw [← h3, l, l]
      rw [e1, e2, chain_append, chain_append, ← k1, ← k2]; grind
/-- along a list of points -/
def path (c : Pt → Pt → Rat) : List Pt → Rat
  | [] => 0
  | v :: vs => chain c v vs
theorem lastP_indep {r : List Pt} (h : r ≠ []) (u w : Pt) : lastP u r = lastP w r := by
  cases r with
  | nil => exact absurd rfl h
  | cons v vs => rfl
theorem path_snoc (xs : List Pt) (h : xs ≠ []) (x w : Pt) : path c (xs ++ [x]) = path c xs + c (lastP w xs) x := by
  cases xs with
  | nil => exact absurd rfl h
  | cons v vs =>
    show chain c v (vs ++ [x]) = chain c v vs + c (lastP v vs) x
    rw [chain_append]
    show chain c v vs + (c (lastP v vs) x + 0) = _
    grind
theorem path_rev (hc : ∀ u v, c u v = -c v u) : ∀ xs : List Pt, path c xs.reverse = -path c xs
  | [] => by show (0 : Rat) = -0; grind
  | [x] => by show (0 : Rat) = -0; grind
  | x :: y :: ys => by
    rw [List.reverse_cons, path_snoc _ (by simp) x x, path_rev hc (y :: ys), List.reverse_cons, lastP_snoc]
    show -chain c y ys + c y x = -(c x y + chain c y ys)
    rw [hc y x]; grind
theorem cyc_path (v : Pt) (vs : List Pt) : cyc c (v :: vs) = path c (v :: vs ++ [v]) := by
  rw [cyc_chain]
  show c (lastP v vs) v + chain c v vs = chain c v (vs ++ [v])
  rw [chain_append]
  show _ = chain c v vs + (c (lastP v vs) v + 0)
  grind
theorem cyc_rev (hc : ∀ u v, c u v = -c v u) (r : List Pt) : cyc c r.reverse = -cyc c r := by
  cases r with
  | nil => show (0 : Rat) = -0; grind
  | cons v vs =>
    rw [List.reverse_cons, cyc_rot]
    show cyc c (v :: vs.reverse) = _
    rw [cyc_path, cyc_path, ← path_rev hc]
    congr 1
    simp
theorem cyc_split (hc : ∀ u v, c u v = -c v u) (X M C : List Pt) (p q : Pt) (hX : ∀ z, lastP z X = p) (hM : lastP p M = q) : cyc c (p :: M) + cyc c (X ++ q :: C) = cyc c (X ++ M ++ C) := by
  have hne : X ++ M ++ C ≠ [] := fun z => by
    simp only [List.append_eq_nil_iff] at z
    have h0 := hX (p.1 + 1, p.2)
    rw [z.1.1] at h0
    have h1 : p.1 + 1 = p.1 := congrArg Prod.fst h0
    grind
  obtain ⟨w, e1, l1⟩ := cyc_last (c := c) hne
  obtain ⟨u, e2, l2⟩ := cyc_last (c := c) (r := X ++ q :: C) (by simp)
  have k1 : w = lastP q C := by have h3 := l1 p; rw [lastP_append, lastP_append, hX, hM] at h3; exact h3.symm
  have k2 : u = lastP q C := by have h3 := l2 p; rw [lastP_append] at h3; exact h3.symm
  rw [e1, e2, cyc_chain, hM, chain_append, chain_append, chain_append, lastP_append, hX, hX, hM, k1, k2]
  show c q p + chain c p M + (chain c _ X + (c p q + chain c q C)) = _
  rw [hc q p]; grind
end
def crs (u v : Pt) : Rat := cross (u, v)
theorem crs_anti (u v : Pt) : crs u v = -crs v u := by unfold crs cross; grind
theorem area_cyc (r : List Pt) : areaQ r = cyc crs r * (1 / 2) := rfl
theorem area_rot (xs ys : List Pt) : areaQ (xs ++ ys) = areaQ (ys ++ xs) := by rw [area_cyc, area_cyc, cyc_rot]
theorem area_rev (r : List Pt) : areaQ r.reverse = -areaQ r := by rw [area_cyc, area_cyc, cyc_rev crs_anti]; grind
theorem lastP_take {r : List Pt} {i : Nat} {p : Pt} (h : r[i]? = some p) (z : Pt) : lastP z (r.take (i + 1)) = p := by rw [take_more h, lastP_snoc]
theorem area_split {r : List Pt} {i j : Nat} (hij : i ≤ j) (hj : j < r.length) : areaQ ((r.drop i).take (j + 1 - i)) + areaQ (r.take (i + 1) ++ r.drop j) = areaQ r := by
  have hp : r[i]? = some r[i] := List.getElem?_eq_getElem (by omega)
  have hq : r[j]? = some r[j] := List.getElem?_eq_getElem hj
  have d1 : r.drop i = r[i] :: r.drop (i + 1) := List.drop_eq_getElem_cons (by omega)
  have d2 : r.drop j = r[j] :: r.drop (j + 1) := List.drop_eq_getElem_cons hj
  have e1 : (r.drop i).take (j + 1 - i) = r[i] :: (r.drop (i + 1)).take (j - i) := by rw [d1, show j + 1 - i = (j - i) + 1 by omega, List.take_succ_cons]
  have e3 : r.take (i + 1) ++ (r.drop (i + 1)).take (j - i) ++ r.drop (j + 1) = r := by
    rw [← List.take_add, show i + 1 + (j - i) = j + 1 by omega, List.take_append_drop]
  have hM : lastP r[i] ((r.drop (i + 1)).take (j - i)) = r[j] := by
    have h3 := lastP_take hq r[i]
    rw [show j + 1 = i + 1 + (j - i) by omega, List.take_add, lastP_append, lastP_take hp] at h3
    exact h3
  have key := cyc_split (c := crs) crs_anti (r.take (i + 1)) ((r.drop (i + 1)).take (j - i)) (r.drop (j + 1)) r[i] r[j] (fun z => lastP_take hp z) hM
  rw [e3, ← e1, ← d2] at key
  rw [area_cyc, area_cyc, area_cyc, ← key]; grind
/-! ### the program and the looks -/
theorem p_shape_ok {rs : List (List Pt)} (hr : ∀ r ∈ rs, SR 50 r ∧ r.length ≤ 20) (hl : rs.length ≤ 10) : p_shape_area rs = .ok (sumQ (rs.map areaQ)) := by
  unfold p_shape_area
  have hw : ∀ r ∈ rs, (4 * 50 + 2) * r.length ≤ (4 * 50 + 2) * 20 := fun r h => Nat.mul_le_mul_left _ (hr r h).2
  rw [compR_ok (by omega) (mapR_ok (g := areaQ) fun r h => by rw [p_area_ok (hr r h).1 (by have := (hr r h).2; omega) (by have := hw r h; omega), bind_ok]), bind_ok, p_total_ok (m := 5000) (fun x hx => ?_) (by rw [List.length_map]; omega), bind_ok]
  obtain ⟨r, h, rfl⟩ := List.mem_map.mp hx
  exact (SQ_area (hr r h).1).mono (by have := hw r h; omega)
theorem l_sum_ok {n : Nat} {q : Rat} {xs : List Rat} (hx : ∀ x ∈ xs, SQ n x) (hl : (n + 1) * xs.length + n < 10000000) (hq : q = sumQ xs) : l_sum_good q xs = .ok true := by
  unfold l_sum_good
  rw [bind_ok, bind_ok]
  have key : ∀ (ys : List Rat) (t b : Int) (m : Nat), S m t → S m b → 0 < b → (∀ x ∈ ys, SQ n x) → m + (n + 1) * ys.length + n < 20000000 →
      Ok (R.forR (fun (x5 : Rat) (s6 : (Int × Int)) => R.bind (mulR s6.1 ((x5.den : Int))) fun p7 => R.bind (mulR x5.num s6.2) fun p8 => R.bind (R.ok ((p7 + p8))) fun top9 => R.bind (mulR s6.2 ((x5.den : Int))) fun p10 => R.bind (R.ok p10) fun bottom11 => R.ok ((top9, bottom11))) ys (t, b))
        (fun s => S 20000000 s.1 ∧ S 20000000 s.2 ∧ 0 < s.2 ∧ Rat.divInt s.1 s.2 = Rat.divInt t b + sumQ ys) := by
    intro ys
    induction ys with
    | nil => intro t b m ht hb h0 _ hm; exact .pure ⟨ht.mono (by omega), hb.mono (by omega), h0, by show _ = _ + (0 : Rat); grind⟩
    | cons y ys ih =>
      intro t b m ht hb h0 hy hm
      rw [List.length_cons, Nat.mul_add, Nat.mul_one] at hm
      have sy := hy y List.mem_cons_self
      have hd := y.den_pos
      unfold R.forR
      refine .step (m := R.bind _ _) (a := (t * (y.den : Int) + y.num * b, b * (y.den : Int))) ?_ ?_
      · show R.bind (mulR t (y.den : Int)) _ = _
        rw [mulR_ok ht sy.2 (by omega), bind_ok]
        show R.bind (mulR y.num b) _ = _
        rw [mulR_ok sy.1 hb (by omega), bind_ok, bind_ok]
        show R.bind (mulR b (y.den : Int)) _ = _
        rw [mulR_ok hb sy.2 (by omega), bind_ok, bind_ok]
      · have h := ih (t * (y.den : Int) + y.num * b) (b * (y.den : Int)) (m + n + 1) (((ht.mul sy.2).add (sy.1.mul hb)).mono (by omega)) ((hb.mul sy.2).mono (by omega)) (Int.mul_pos h0 (by omega)) (fun x hx => hy x (List.mem_cons_of_mem _ hx)) (by omega)
        refine h.mono fun s hs => ⟨hs.1, hs.2.1, hs.2.2.1, ?_⟩
        rw [hs.2.2.2]
        have e : Rat.divInt (t * (y.den : Int) + y.num * b) (b * (y.den : Int)) = Rat.divInt t b + y := by
          conv => rhs; rw [← Rat.num_divInt_den y]
          rw [Rat.divInt_add_divInt _ _ (by omega) (by omega)]
        rw [e]
        show _ = _ + (y + sumQ ys)
        grind
  have fin : Ok (R.bind (R.forR (fun (x5 : Rat) (s6 : (Int × Int)) => R.bind (mulR s6.1 ((x5.den : Int))) fun p7 => R.bind (mulR x5.num s6.2) fun p8 => R.bind (R.ok ((p7 + p8))) fun top9 => R.bind (mulR s6.2 ((x5.den : Int))) fun p10 => R.bind (R.ok p10) fun bottom11 => R.ok ((top9, bottom11))) xs (0, 1)) fun s12 => R.bind (l_is q s12.1 s12.2) fun i13 => R.ok i13) (· = true) := by
    refine .bind (key xs 0 1 1 (by decide) (by decide) (by decide) hx (by omega)) fun s hs => ?_
    refine .step (l_is_ok (n := 20000000) (by omega) ?_ hs.1 hs.2.1 (by decide)) (.pure rfl)
    rw [hs.2.2.2, hq, Rat.zero_divInt]; grind
  exact Ok.true fin
theorem cut_take {α : Type} {xs : List α} {i : Int} (h0 : 0 ≤ i) (h1 : i ≤ xs.length) : cutL xs none (some i) = xs.take i.toNat := by
  unfold cutL sIxP
  simp only [if_neg (show ¬ i < 0 by omega), Nat.sub_zero, List.drop_zero]
  rw [Nat.min_eq_left (by omega)]
theorem cut_drop {α : Type} {xs : List α} {i : Int} (h0 : 0 ≤ i) (h1 : i ≤ xs.length) : cutL xs (some i) none = xs.drop i.toNat := by
  unfold cutL sIxP
  simp only [if_neg (show ¬ i < 0 by omega)]
  rw [Nat.min_eq_left (by omega), List.take_of_length_le (by rw [List.length_drop]; omega)]
theorem cut_mid {α : Type} {xs : List α} {i j : Int} (h0 : 0 ≤ i) (h1 : i ≤ j) (h2 : j ≤ xs.length) : cutL xs (some i) (some j) = (xs.drop i.toNat).take (j.toNat - i.toNat) := by
  unfold cutL sIxP
  simp only [if_neg (show ¬ i < 0 by omega), if_neg (show ¬ j < 0 by omega)]
  rw [Nat.min_eq_left (by omega), Nat.min_eq_left (by omega)]
theorem SR_sub {n : Nat} {r s : List Pt} (h : SR n r) (hs : ∀ p ∈ s, p ∈ r) : SR n s := fun p hp => h p (hs p hp)
theorem l_ring_good_ok {r : List Pt} (hr : SR 50 r) (hl : r.length ≤ 6) (z : Int) : l_ring_good r z = .ok true := by
  unfold l_ring_good
  have ar : ∀ s : List Pt, SR 50 s → s.length ≤ 20 → p_area s = .ok (areaQ s) ∧ SQ 5000 (areaQ s) := fun s hs hl => by
    have hw : (4 * 50 + 2) * s.length ≤ (4 * 50 + 2) * 20 := Nat.mul_le_mul_left _ hl
    exact ⟨p_area_ok hs (by omega) (by omega), (SQ_area hs).mono (by omega)⟩
  obtain ⟨a1, a2⟩ := ar r hr (by omega)
  refine Ok.true (.step a1 (.one (.step (l_is_self a2 (by decide)) ?_)))
  rw [Bool.not_true, if_ok_f]
  refine .step (rngR_ok (by decide) (by decide) (by omega) (by omega)) ?_
  have hlen : ((List.range ((r.length : Int) - 0).toNat).map fun k => (0 : Int) + (k : Nat)).length = r.length := by simp
  refine .bind (P := fun b => b = r.reverse) ?_ fun b hb => .one ?_
  · refine (Ok.compR (P := fun (x : Int) (p : Pt) => r[(r.length - 1 - x.toNat : Nat)]? = some p) (by rw [hlen]; omega) fun x hx => ?_).mono fun b hb => ?_
    · have hx := rng_mem hx
      obtain ⟨p, g, a⟩ := atR_int (xs := r) (i := (r.length : Int) - 1 - x) (by omega) (by omega)
      refine .step a (.pure ?_)
      have e : r.length - 1 - x.toNat = ((r.length : Int) - 1 - x).toNat := by omega
      rw [e]; exact g
    · rw [hlen] at hb
      apply List.ext_getElem?
      intro i
      by_cases hi : i < r.length
      · have h1 : b[i]? = some b[i] := List.getElem?_eq_getElem (by omega)
        have h2 := hb.2 i (0 + (i : Nat) : Int) b[i] (by simp [hi]) h1
        have e : r.length - 1 - (0 + (i : Nat) : Int).toNat = r.length - 1 - i := by omega
        rw [e] at h2
        rw [h1, List.getElem?_reverse hi, h2]
      · rw [List.getElem?_eq_none (by omega), List.getElem?_eq_none (by simp; omega)]
  · subst hb
    have hrev : SR 50 r.reverse := SR_sub hr fun p hp => List.mem_reverse.mp hp
    obtain ⟨b1, b2⟩ := ar r.reverse hrev (by simp; omega)
    have e : areaQ r.reverse = Rat.divInt (-(areaQ r).num) ((areaQ r).den : Int) := by
      rw [area_rev]
      conv => lhs; rw [← Rat.num_divInt_den (areaQ r)]
      rw [Rat.neg_divInt]
    refine .step b1 (.step (l_is_ok (n := 5000) (den_ne _) e a2.1.neg a2.2 (by decide)) ?_)
    rw [Bool.not_true, if_ok_f]
    refine .ite (fun h0 => ?_) fun h0 => ?_
    · refine .step mkQ_zero (.pure ?_)
      have : r = [] := List.length_eq_zero_iff.mp (by omega)
      subst this
      exact decide_eq_true (show (0 : Rat) * (1 / 2) = 0 by grind)
    · have hl0 : 0 < r.length := by omega
      have q1 := Int.emod_nonneg z (show (r.length : Int) ≠ 0 by omega)
      have q2 := Int.emod_lt_of_pos z (show (0 : Int) < r.length by omega)
      refine .step (fmodR_ok (by omega)) (.one ?_)
      rw [Int.fmod_eq_emod_of_nonneg _ (by omega)]
      generalize z % (r.length : Int) = i at q1 q2
      rw [cut_drop q1 (by omega), cut_take q1 (by omega)]
      have hrot : SR 50 (r.drop i.toNat ++ r.take i.toNat) := SR_sub hr fun p hp => by
        rcases List.mem_append.mp hp with h | h
        · exact List.mem_of_mem_drop h
        · exact List.mem_of_mem_take h
      have lrot : (r.drop i.toNat ++ r.take i.toNat).length ≤ 20 := by rw [List.length_append, List.length_drop, List.length_take]; omega
      refine .step (catR_ok (by rw [List.length_drop, List.length_take]; omega)) (.step (ar _ hrot lrot).1 ?_)
      have e2 : areaQ (r.drop i.toNat ++ r.take i.toNat) = areaQ r := by rw [area_rot, List.take_append_drop]
      rw [e2, decide_eq_true rfl]
      show Ok (if false = true then _ else _) _
      rw [if_ok_f]
      have q3 := Int.emod_nonneg (z / 6) (show (r.length : Int) - i ≠ 0 by omega)
      have q4 := Int.emod_lt_of_pos (z / 6) (show (0 : Int) < r.length - i by omega)
      refine .step (fmodR_ok (by omega)) (.one (.one ?_))
      rw [Int.fmod_eq_emod_of_nonneg _ (by omega)]
      generalize z / 6 % ((r.length : Int) - i) = k at q3 q4
      rw [cut_mid q1 (by omega) (by omega), cut_take (by omega) (by omega), cut_drop (by omega) (by omega)]
      have h1 : SR 50 ((r.drop i.toNat).take ((i + k + 1).toNat - i.toNat)) := SR_sub hr fun p hp => List.mem_of_mem_drop (List.mem_of_mem_take hp)
      have h2 : SR 50 (r.take (i + 1).toNat ++ r.drop (i + k).toNat) := SR_sub hr fun p hp => by
        rcases List.mem_append.mp hp with h | h
        · exact List.mem_of_mem_take h
        · exact List.mem_of_mem_drop h
      have l1 : ((r.drop i.toNat).take ((i + k + 1).toNat - i.toNat)).length ≤ 20 := by rw [List.length_take, List.length_drop]; omega
      have l2 : (r.take (i + 1).toNat ++ r.drop (i + k).toNat).length ≤ 20 := by rw [List.length_append, List.length_drop, List.length_take]; omega
      obtain ⟨c1, c2⟩ := ar _ h1 l1
      obtain ⟨d1, d2⟩ := ar _ h2 l2
      refine .step (catR_ok (by rw [List.length_drop, List.length_take]; omega)) (.one (.step c1 (.step d1 (.step (l_sum_ok (n := 5000) (fun x hx => ?_) (by simp) ?_) (.pure rfl)))))
      · simp at hx; rcases hx with rfl | rfl <;> assumption
      · have := area_split (r := r) (i := i.toNat) (j := (i + k).toNat) (by omega) (by omega)
        rw [show (i + k + 1).toNat = (i + k).toNat + 1 by omega, show (i + 1).toNat = i.toNat + 1 by omega, ← this]
        show _ = _ + (_ + 0)
        grind
theorem k07_ok : ∀ ns : List Int, ns.length ≤ 63 → (∀ z ∈ ns, z.natAbs.log2 ≤ 1048576) → k07_law ns = .ok true := fun ns hl hb => by
  unfold k07_law
  obtain ⟨c0, e0, _⟩ := l_cell_ok hb (k := 0) (by decide) (by decide)
  obtain ⟨c1, e1, _⟩ := l_cell_ok hb (k := 1) (by decide) (by decide)
  refine Ok.true (.step e0 (.one (.one (.step (rngR_ok (by decide) (by decide) (by decide) (by decide)) ?_))))
  refine .bind (.forR (fun i s => s.2.length = i ∧ ∀ r ∈ s.2, SR 50 r ∧ r.length ≤ 6) ⟨rfl, fun r hr => nomatch hr⟩ fun i s x hs hx => ?_) fun s hs => ?_
  · obtain ⟨e, hx3⟩ := rng_at hx
    have q1 := Int.emod_nonneg s.1 (show (7 : Int) ≠ 0 by decide)
    have q2 := Int.emod_lt_of_pos s.1 (show (0 : Int) < 7 by decide)
    refine .step (mulR_ok (a := 4) (b := 10) (by decide) (by unfold S; omega) (by decide)) (.bind (l_ring_ok hb (by omega) (by omega) q1 (by omega)) fun r hr => .step (appR_ok (by rw [hs.1]; omega)) (.one (.pure ⟨by simp [hs.1], fun y hy => ?_⟩)))
    rcases List.mem_append.mp hy with h | h
    · exact hs.2 y h
    · simp at h; subst h; exact ⟨fun p hp => (hr.2 p hp).sp, by omega⟩
  · obtain ⟨sz, rs⟩ := s
    have hl3 : rs.length = 3 := hs.1
    have hrs : ∀ r ∈ rs, SR 50 r ∧ r.length ≤ 6 := hs.2
    have h20 : ∀ r ∈ rs, SR 50 r ∧ r.length ≤ 20 := fun r h => ⟨(hrs r h).1, by have := (hrs r h).2; omega⟩
    have ar : ∀ s : List Pt, SR 50 s → s.length ≤ 20 → p_area s = .ok (areaQ s) ∧ SQ 5000 (areaQ s) := fun s hs hl => by
      have hw : (4 * 50 + 2) * s.length ≤ (4 * 50 + 2) * 20 := Nat.mul_le_mul_left _ hl
      exact ⟨p_area_ok hs (by omega) (by omega), (SQ_area hs).mono (by omega)⟩
    have em : R.compR (fun x13 : List (Rat × Rat) => R.ok x13) rs = .ok rs := compR_ok (by omega) (by have h := mapR_ok (f := fun x13 : List (Rat × Rat) => R.ok x13) (g := id) (xs := rs) (fun x _ => rfl); rwa [List.map_id] at h)
    refine .step em (.one (.step (p_shape_ok h20 (by omega)) (.one (.step (compR_ok (by show rs.length < _; omega) (mapR_ok (g := areaQ) fun r h => by rw [(ar r (h20 r h).1 (h20 r h).2).1, bind_ok])) (.step (l_sum_ok (n := 5000) (fun x hx => ?_) (by rw [List.length_map, hl3]; decide) rfl) ?_)))))
    · obtain ⟨r, h, rfl⟩ := List.mem_map.mp hx
      exact (ar r (h20 r h).1 (h20 r h).2).2
    · rw [decide_eq_true rfl]
      show Ok (if false = true then _ else _) _
      rw [if_ok_f]
      refine .step (rngR_ok (by decide) (by decide) (by decide) (by decide)) (.caseU (.forU fun x hx => ?_) ?_)
      · have hx := rng_mem hx
        refine .bind (at_all hrs (by omega) (by show x < (rs.length : Int); omega)) fun r hr => .step e1 (.step (fdivR_ok (by omega)) (.step (l_ring_good_ok hr.1 hr.2 _) (.pure rfl)))
      · obtain ⟨r, gr, arr⟩ := atR_int (xs := rs) (i := 0) (by decide) (by omega)
        have h := h20 r (List.mem_of_getElem? gr)
        refine .step arr (.step (p_shape_ok (fun y hy => by simp at hy; subst hy; exact h) (by simp)) (.step arr (.step (ar r h.1 h.2).1 ?_)))
        have e : sumQ ([r].map areaQ) = areaQ r := by show areaQ r + 0 = areaQ r; grind
        rw [e, decide_eq_true rfl]
        show Ok (if false = true then _ else _) _
        rw [if_ok_f]
        exact .step (p_shape_ok (fun y hy => nomatch hy) (by simp)) (.step (l_is_ok (n := 1) (by decide) (Rat.zero_divInt 1).symm (by decide) (by decide) (by decide)) (.pure rfl))
end Pg

set_option Elab.async false
set_option linter.all false
set_option maxRecDepth 100000
namespace Pg
/-! ### forms along segments -/
def Add (c : Pt → Pt → Rat) : Prop := ∀ u v t, 0 ≤ t → t ≤ 1 → c u (at_ (u, v) t) + c (at_ (u, v) t) v = c u v
def Anti (c : Pt → Pt → Rat) : Prop := ∀ u v, c u v = -c v u
theorem at_same (u : Pt) (t : Rat) : at_ (u, u) t = u := by unfold at_; ext <;> grind
theorem Add.self {c : Pt → Pt → Rat} (h : Add c) (u : Pt) : c u u = 0 := by
  have := h u u 0 (by decide) (by decide)
  rw [at_same] at this
  grind
theorem at_at (e : Sd) (r s t : Rat) : at_ (at_ e r, at_ e s) t = at_ e (r + t * (s - r)) := by unfold at_; ext <;> grind
theorem Add.three {c : Pt → Pt → Rat} (h : Add c) (e : Sd) {r s t : Rat} (h1 : r ≤ s) (h2 : s ≤ t) : c (at_ e r) (at_ e s) + c (at_ e s) (at_ e t) = c (at_ e r) (at_ e t) := by
  by_cases hrt : r = t
  · have : s = r := by grind
    subst this; subst hrt
    rw [h.self]; grind
  · have hd : t - r ≠ 0 := by grind
    have hp : 0 < t - r := by grind
    have e1 : (s - r) / (t - r) * (t - r) = s - r := Rat.div_mul_cancel hd
    generalize (s - r) / (t - r) = q at e1
    have q0 : 0 ≤ q := by
      by_cases z : 0 ≤ q
      · exact z
      · have := Rat.mul_lt_mul_of_pos_right (show q < 0 by grind) hp
        grind
    have q1 : q ≤ 1 := by
      by_cases z : q ≤ 1
      · exact z
      · have := Rat.mul_lt_mul_of_pos_right (show 1 < q by grind) hp
        grind
    have := h (at_ e r) (at_ e t) q q0 q1
    rw [at_at, e1, show r + (s - r) = s by grind] at this
    exact this
theorem hgt_at (l : Ln) (e : Sd) (t : Rat) : hgt l (at_ e t) = hgt l e.1 + t * (hgt l e.2 - hgt l e.1) := by unfold hgt at_; grind
theorem meet_at (l : Ln) (e : Sd) : meet l e = at_ e (hgt l e.1 / (hgt l e.1 - hgt l e.2)) := rfl
theorem cut_at {a b s : Rat} (h : a ≠ b) (hs : a + s * (b - a) = 0) : a / (a - b) = s := by
  have h0 : a - b ≠ 0 := by grind
  have h1 : a / (a - b) * (a - b) = a := Rat.div_mul_cancel h0
  generalize a / (a - b) = q at h1
  have h2 : (a - b) * (q - s) = 0 := by grind
  rcases mul_eq0 h2 with z | z
  · exact absurd z h0
  · grind
theorem cut_01 {a b : Rat} (h : (0 < a ∧ b < 0) ∨ (a < 0 ∧ 0 < b)) : ∃ s, a / (a - b) = s ∧ a + s * (b - a) = 0 ∧ 0 < s ∧ s < 1 := by
  have h0 : a - b ≠ 0 := by grind
  have h1 : a / (a - b) * (a - b) = a := Rat.div_mul_cancel h0
  refine ⟨_, rfl, by grind, ?_, ?_⟩
  all_goals generalize a / (a - b) = q at h1
  · by_cases z : 0 < q
    · exact z
    · rcases h with h | h
      · have := Rat.mul_le_mul_of_nonneg_right (show q ≤ 0 by grind) (show 0 ≤ a - b by grind)
        grind
      · have := Rat.mul_le_mul_of_nonneg_right (show q ≤ 0 by grind) (show 0 ≤ b - a by grind)
        grind
  · by_cases z : q < 1
    · exact z
    · rcases h with h | h
      · have := Rat.mul_le_mul_of_nonneg_right (show 1 ≤ q by grind) (show 0 ≤ a - b by grind)
        grind
      · have := Rat.mul_le_mul_of_nonneg_right (show 1 ≤ q by grind) (show 0 ≤ b - a by grind)
        grind
abbrev K (c : Pt → Pt → Rat) (l : Ln) (u v : Pt) : Rat := kept c l (u, v)
theorem K_le {c : Pt → Pt → Rat} {l : Ln} {u v : Pt} (hu : hgt l u ≤ 0) (hv : hgt l v ≤ 0) : K c l u v = c u v := by
  show kept c l (u, v) = _
  unfold kept
  simp only
  rw [if_neg (by grind), if_neg (by grind)]
theorem K_ge {c : Pt → Pt → Rat} {l : Ln} {u v : Pt} (hu : 0 ≤ hgt l u) (hv : 0 ≤ hgt l v) (h : hgt l u = 0 → hgt l v = 0 → c u v = 0) : K c l u v = 0 := by
  show kept c l (u, v) = _
  unfold kept
  simp only
  split
  · rw [if_neg (by grind)]
  · split
    · rw [if_neg (by grind)]
    · exact h (by grind) (by grind)
theorem K_out {c : Pt → Pt → Rat} {l : Ln} {u v : Pt} (hu : 0 < hgt l u) (hv : hgt l v < 0) : K c l u v = c (meet l (u, v)) v := by
  show kept c l (u, v) = _
  unfold kept
  simp only
  rw [if_pos hu, if_pos hv]
theorem K_in {c : Pt → Pt → Rat} {l : Ln} {u v : Pt} (hu : hgt l u < 0) (hv : 0 < hgt l v) : K c l u v = c u (meet l (u, v)) := by
  show kept c l (u, v) = _
  unfold kept
  simp only
  rw [if_neg (by grind), if_pos hv, if_pos hu]
theorem Add.kept {c : Pt → Pt → Rat} (hc : Add c) (l : Ln) : Add (K c l) := fun u v t h0 h1 => by
  have hm := hgt_at l (u, v) t
  simp only at hm
  have a0 := at_zero (u, v)
  have a1 := at_one (u, v)
  simp only at a0 a1
  by_cases cu : hgt l u = 0 ∧ hgt l v = 0
  · have m0 : hgt l (at_ (u, v) t) = 0 := by rw [hm, cu.1, cu.2]; grind
    rw [K_le (by grind) (by grind), K_le (by grind) (by grind), K_le (by grind) (by grind)]
    exact hc u v t h0 h1
  by_cases c1 : hgt l u ≤ 0 ∧ hgt l v ≤ 0
  · have m0 : hgt l (at_ (u, v) t) ≤ 0 := by
      have x1 := Rat.mul_le_mul_of_nonneg_left c1.2 h0
      have x2 := Rat.mul_le_mul_of_nonneg_left c1.1 (show 0 ≤ 1 - t by grind)
      rw [hm]; grind
    rw [K_le c1.1 m0, K_le m0 c1.2, K_le c1.1 c1.2]
    exact hc u v t h0 h1
  by_cases c2 : 0 ≤ hgt l u ∧ 0 ≤ hgt l v
  · have m0 : 0 ≤ hgt l (at_ (u, v) t) := by
      have x1 := Rat.mul_le_mul_of_nonneg_left c2.2 h0
      have x2 := Rat.mul_le_mul_of_nonneg_left c2.1 (show 0 ≤ 1 - t by grind)
      rw [hm]; grind
    rw [K_ge c2.1 c2.2 fun a b => absurd ⟨a, b⟩ cu, K_ge c2.1 m0 fun a b => ?_, K_ge m0 c2.2 fun a b => ?_]
    · grind
    · have : (1 - t) * hgt l u = 0 := by rw [hm, b] at a; grind
      rcases mul_eq0 this with z | z
      · rw [show t = 1 by grind, a1]; exact hc.self v
      · exact absurd ⟨z, b⟩ cu
    · have : t * hgt l v = 0 := by rw [hm, a] at b; grind
      rcases mul_eq0 this with z | z
      · rw [z, a0]; exact hc.self u
      · exact absurd ⟨a, z⟩ cu
  have tt : hgt l (at_ (u, v) t) = 0 ∨ hgt l (at_ (u, v) t) < 0 ∨ 0 < hgt l (at_ (u, v) t) := by grind
  have hne : hgt l u ≠ hgt l v := by grind
  have mm : ∀ s', hgt l (at_ (u, v) s') = 0 → meet l (u, v) = at_ (u, v) s' := fun s' hs => by
    rw [hgt_at] at hs
    rw [meet_at, cut_at hne hs]
  have mono : ∀ s' : Rat, hgt l u + s' * (hgt l v - hgt l u) = 0 → hgt l u + t * (hgt l v - hgt l u) = (t - s') * (hgt l v - hgt l u) := fun s' h => by grind
  have m1 : ∀ s', hgt l (at_ (u, v) s') = 0 → hgt l u ≠ hgt l (at_ (u, v) t) → meet l (u, at_ (u, v) t) = at_ (u, v) s' := fun s' hs hn => by
    have t0 : t ≠ 0 := fun z => hn (by rw [z, a0])
    have e : at_ (u, v) s' = at_ (u, at_ (u, v) t) (s' / t) := by
      have q : s' / t * t = s' := Rat.div_mul_cancel t0
      have := at_at (u, v) 0 t (s' / t)
      rw [a0] at this
      rw [this, show (0 : Rat) + s' / t * (t - 0) = s' by grind]
    rw [e] at hs ⊢
    rw [hgt_at] at hs
    rw [meet_at, cut_at hn hs]
  have m2 : ∀ s', hgt l (at_ (u, v) s') = 0 → hgt l (at_ (u, v) t) ≠ hgt l v → meet l (at_ (u, v) t, v) = at_ (u, v) s' := fun s' hs hn => by
    have t0 : 1 - t ≠ 0 := fun z => hn (by rw [show t = 1 by grind, a1])
    have e : at_ (u, v) s' = at_ (at_ (u, v) t, v) ((s' - t) / (1 - t)) := by
      have q : (s' - t) / (1 - t) * (1 - t) = s' - t := Rat.div_mul_cancel t0
      have := at_at (u, v) t 1 ((s' - t) / (1 - t))
      rw [a1] at this
      rw [this, q, show t + (s' - t) = s' by grind]
    rw [e] at hs ⊢
    rw [hgt_at] at hs
    rw [meet_at, cut_at hn hs]
  rcases (show (0 < hgt l u ∧ hgt l v < 0) ∨ (hgt l u < 0 ∧ 0 < hgt l v) by grind) with c3 | c3
  · obtain ⟨s, es, es2, s0, s1⟩ := cut_01 (.inl c3)
    have hs : hgt l (at_ (u, v) s) = 0 := by rw [hgt_at]; exact es2
    have mo := mono s es2
    rw [K_out c3.1 c3.2, mm s hs]
    rcases tt with z | z | z
    · rw [K_ge (by grind) (by grind) (by grind), K_le (by grind) (by grind), ← mm s hs, mm t z]; grind
    · rw [K_out c3.1 z, K_le (by grind) (by grind), m1 s hs (by grind)]
      have st : s ≤ t := by
        by_cases c : s ≤ t
        · exact c
        · have := Rat.mul_lt_mul_of_pos_right (show t - s < 0 by grind) (show 0 < hgt l u - hgt l v by grind)
          grind
      have := hc.three (u, v) (r := s) (s := t) (t := 1) st h1
      rw [a1] at this
      exact this
    · rw [K_ge (by grind) (by grind) (by grind), K_out z c3.2, m2 s hs (by grind)]; grind
  · obtain ⟨s, es, es2, s0, s1⟩ := cut_01 (.inr c3)
    have hs : hgt l (at_ (u, v) s) = 0 := by rw [hgt_at]; exact es2
    have mo := mono s es2
    rw [K_in c3.1 c3.2, mm s hs]
    rcases tt with z | z | z
    · rw [K_le (by grind) (by grind), K_ge (by grind) (by grind) (by grind), ← mm s hs, mm t z]; grind
    · rw [K_le (by grind) (by grind), K_in z c3.2, m2 s hs (by grind)]
      have st : t ≤ s := by
        by_cases c : t ≤ s
        · exact c
        · have := Rat.mul_lt_mul_of_pos_right (show s - t < 0 by grind) (show 0 < hgt l v - hgt l u by grind)
          grind
      have := hc.three (u, v) (r := 0) (s := t) (t := s) h0 st
      rw [a0] at this
      exact this
    · rw [K_in c3.1 z, K_ge (by grind) (by grind) (by grind), m1 s hs (by grind)]; grind
theorem meet_comm {l : Ln} {u v : Pt} (h : hgt l u ≠ hgt l v) : meet l (u, v) = meet l (v, u) := by
  have h0 : hgt l v - hgt l u ≠ 0 := by grind
  have h1 : hgt l v / (hgt l v - hgt l u) * (hgt l v - hgt l u) = hgt l v := Rat.div_mul_cancel h0
  rw [meet_at, meet_at]
  simp only
  generalize hgt l v / (hgt l v - hgt l u) = q at h1
  rw [cut_at (s := 1 - q) h (by grind)]
  unfold at_; ext <;> grind
theorem Anti.kept {c : Pt → Pt → Rat} (hc : Anti c) (l : Ln) : Anti (K c l) := fun u v => by
  by_cases c1 : hgt l u ≤ 0 ∧ hgt l v ≤ 0
  · rw [K_le c1.1 c1.2, K_le c1.2 c1.1]; exact hc u v
  by_cases c2 : 0 ≤ hgt l u ∧ 0 ≤ hgt l v
  · rw [K_ge c2.1 c2.2 (by grind), K_ge c2.2 c2.1 (by grind)]; grind
  rcases (show (0 < hgt l u ∧ hgt l v < 0) ∨ (hgt l u < 0 ∧ 0 < hgt l v) by grind) with c3 | c3
  · rw [K_out c3.1 c3.2, K_in c3.2 c3.1, meet_comm (by grind)]; exact hc _ _
  · rw [K_in c3.1 c3.2, K_out c3.2 c3.1, meet_comm (by grind)]; exact hc _ _
/-! ### sets of points that hold their segments -/
def Flat (S : Pt → Prop) : Prop := ∀ u v t, S u → S v → S (at_ (u, v) t)
theorem flat_x (k : Rat) : Flat fun p => p.1 = k := fun u v t hu hv => by
  have hu : u.1 = k := hu
  have hv : v.1 = k := hv
  show u.1 + t * (v.1 - u.1) = k
  rw [hu, hv]; grind
theorem flat_y (k : Rat) : Flat fun p => p.2 = k := fun u v t hu hv => by
  have hu : u.2 = k := hu
  have hv : v.2 = k := hv
  show u.2 + t * (v.2 - u.2) = k
  rw [hu, hv]; grind
theorem flat_all : Flat fun _ => True := fun _ _ _ _ _ => trivial
theorem K_zero {c : Pt → Pt → Rat} {l : Ln} {S : Pt → Prop} (hS : Flat S) (hc : ∀ u v, S u → S v → c u v = 0) (u v : Pt) (hu : S u) (hv : S v) : K c l u v = 0 := by
  show kept c l (u, v) = 0
  unfold kept
  simp only
  have := hS u v (hgt l u / (hgt l u - hgt l v)) hu hv
  split
  · split
    · exact hc _ _ this hv
    · rfl
  · split
    · split
      · exact hc _ _ hu this
      · rfl
    · exact hc _ _ hu hv
/-- no line of these between the ends -/
def Sim (ls : List Ln) (u v : Pt) : Prop := ∀ l ∈ ls, (hgt l u ≤ 0 ∧ hgt l v ≤ 0) ∨ (0 ≤ hgt l u ∧ 0 ≤ hgt l v)
/-- what is the same along segments that no line cuts is the same along all -/
theorem Add.ext {f g : Pt → Pt → Rat} (hf : Add f) (hg : Add g) {S : Pt → Prop} (hS : Flat S) : ∀ (ls : List Ln), (∀ u v, S u → S v → Sim ls u v → f u v = g u v) → ∀ u v, S u → S v → f u v = g u v := by
  have main : ∀ (ls ms : List Ln), (∀ u v, S u → S v → Sim (ls ++ ms) u v → f u v = g u v) → ∀ u v, S u → S v → Sim ms u v → f u v = g u v := by
    intro ls
    induction ls with
    | nil => intro ms h u v hu hv hs; exact h u v hu hv hs
    | cons l ls ih =>
      intro ms h
      refine ih ms ?_
      intro u v hu hv hs
      by_cases c : (hgt l u ≤ 0 ∧ hgt l v ≤ 0) ∨ (0 ≤ hgt l u ∧ 0 ≤ hgt l v)
      · refine h u v hu hv fun l' hl => ?_
        rcases List.mem_cons.mp hl with rfl | hl
        · exact c
        · exact hs l' hl
      · obtain ⟨s, es, es2, s0, s1⟩ := cut_01 (a := hgt l u) (b := hgt l v) (by grind)
        have hm := hS u v s hu hv
        have h0 : hgt l (at_ (u, v) s) = 0 := by rw [hgt_at]; exact es2
        have bt : ∀ l' ∈ ls ++ ms, ((hgt l' u ≤ 0 ∧ hgt l' (at_ (u, v) s) ≤ 0) ∨ (0 ≤ hgt l' u ∧ 0 ≤ hgt l' (at_ (u, v) s))) ∧ ((hgt l' (at_ (u, v) s) ≤ 0 ∧ hgt l' v ≤ 0) ∨ (0 ≤ hgt l' (at_ (u, v) s) ∧ 0 ≤ hgt l' v)) := fun l' hl => by
          rw [hgt_at]
          rcases hs l' hl with z | z
          · have x1 := Rat.mul_le_mul_of_nonneg_left z.2 (show 0 ≤ s by grind)
            have x2 := Rat.mul_le_mul_of_nonneg_left z.1 (show 0 ≤ 1 - s by grind)
            simp only
            grind
          · have x1 := Rat.mul_le_mul_of_nonneg_left z.2 (show 0 ≤ s by grind)
            have x2 := Rat.mul_le_mul_of_nonneg_left z.1 (show 0 ≤ 1 - s by grind)
            simp only
            grind
        have a := h u (at_ (u, v) s) hu hm fun l' hl => by
          rcases List.mem_cons.mp hl with rfl | hl
          · rw [h0]; grind
          · exact (bt l' hl).1
        have b := h (at_ (u, v) s) v hm hv fun l' hl => by
          rcases List.mem_cons.mp hl with rfl | hl
          · rw [h0]; grind
          · exact (bt l' hl).2
        rw [← hf u v s (by grind) (by grind), ← hg u v s (by grind) (by grind), a, b]
  intro ls h u v hu hv
  exact main ls [] (fun u v hu hv hs => h u v hu hv (by rw [List.append_nil] at hs; exact hs)) u v hu hv fun l hl => nomatch hl
theorem Add.tele (g : Pt → Rat) : Add fun u v => g v - g u := fun u v t _ _ => by grind
theorem Add.plus {f g : Pt → Pt → Rat} (hf : Add f) (hg : Add g) : Add fun u v => f u v + g u v := fun u v t a b => by
  have := hf u v t a b; have := hg u v t a b; grind
theorem Add.scale {f : Pt → Pt → Rat} (hf : Add f) (k : Rat) : Add fun u v => k * f u v := fun u v t a b => by
  have := hf u v t a b; grind
theorem Anti.tele (g : Pt → Rat) : Anti fun u v => g v - g u := fun u v => by grind
theorem Anti.plus {f g : Pt → Pt → Rat} (hf : Anti f) (hg : Anti g) : Anti fun u v => f u v + g u v := fun u v => by
  have := hf u v; have := hg u v; grind
/-! ### windows -/
def lnL (L : Rat) : Ln := (-1, 0, -L)
def lnR (R : Rat) : Ln := (1, 0, R)
def lnB (B : Rat) : Ln := (0, -1, -B)
def lnT (T : Rat) : Ln := (0, 1, T)
theorem hgt_L (L : Rat) (p : Pt) : hgt (lnL L) p = L - p.1 := by unfold hgt lnL; grind
theorem hgt_R (L : Rat) (p : Pt) : hgt (lnR L) p = p.1 - L := by unfold hgt lnR; grind
theorem hgt_B (L : Rat) (p : Pt) : hgt (lnB L) p = L - p.2 := by unfold hgt lnB; grind
theorem hgt_T (L : Rat) (p : Pt) : hgt (lnT L) p = p.2 - L := by unfold hgt lnT; grind
def win (L R B T : Rat) (r : List Pt) : List Pt := cutQ (lnT T) (cutQ (lnB B) (cutQ (lnR R) (cutQ (lnL L) r)))
/-- under the way, up to R -/
def cR (R : Rat) (u v : Pt) : Rat := (u.2 - v.2) * (R - (u.1 + v.1) * (1 / 2))
theorem cR_add (R : Rat) : Add (cR R) := fun u v t _ _ => by unfold cR at_; grind
theorem cR_anti (R : Rat) : Anti (cR R) := fun u v => by unfold cR; grind
theorem area_cR (R : Rat) (r : List Pt) : areaQ r = cyc (cR R) r := by
  have e : ∀ u v : Pt, cR R u v = (1 / 2) * cross (u, v) + ((fun p : Pt => p.1 * p.2 * (1 / 2) - R * p.2) v - (fun p : Pt => p.1 * p.2 * (1 / 2) - R * p.2) u) := fun u v => by
    unfold cR cross; grind
  rw [cyc_congr e, cyc_add, cyc_mul, cyc_tele (fun p : Pt => p.1 * p.2 * (1 / 2) - R * p.2)]
  unfold areaQ cyc
  rw [show (fun e : Pt × Pt => cross (e.1, e.2)) = cross from rfl]
  grind
def sg (L R : Rat) (p : Pt) : Rat := clampQ p.1 L R
def tu (B T : Rat) (p : Pt) : Rat := clampQ p.2 B T
def d2w (R B T : Rat) : Pt → Pt → Rat := K (K (cR R) (lnT T)) (lnB B)
def d3w (R B T : Rat) : Pt → Pt → Rat := K (d2w R B T) (lnR R)
/-- the window's form, made nought along x = L -/
def d4w (L R B T : Rat) (u v : Pt) : Rat := d3w R B T u v + ((R - L) * tu B T v - (R - L) * tu B T u)
/-- what of a segment lies in the window or left of it -/
def Fw (L R B T : Rat) (u v : Pt) : Rat := K (d4w L R B T) (lnL L) u v + (-(R - L) * tu B T v - -(R - L) * tu B T u)
theorem d3_add (R B T : Rat) : Add (d3w R B T) := (((cR_add R).kept _).kept _).kept _
theorem d3_anti (R B T : Rat) : Anti (d3w R B T) := (((cR_anti R).kept _).kept _).kept _
theorem d4_add (L R B T : Rat) : Add (d4w L R B T) := (d3_add R B T).plus (Add.tele fun p => (R - L) * tu B T p)
theorem d4_anti (L R B T : Rat) : Anti (d4w L R B T) := (d3_anti R B T).plus (Anti.tele fun p => (R - L) * tu B T p)
theorem Fw_add (L R B T : Rat) : Add (Fw L R B T) := ((d4_add L R B T).kept _).plus (Add.tele fun p => -(R - L) * tu B T p)
theorem Fw_anti (L R B T : Rat) : Anti (Fw L R B T) := ((d4_anti L R B T).kept _).plus (Anti.tele fun p => -(R - L) * tu B T p)
theorem clamp_lo {x a b : Rat} (h : x ≤ a) (hab : a ≤ b) : clampQ x a b = a := by unfold clampQ; split; rfl; split <;> grind
theorem clamp_hi {x a b : Rat} (h : b ≤ x) (hab : a ≤ b) : clampQ x a b = b := by unfold clampQ; split; grind; split <;> grind
theorem clamp_in {x a b : Rat} (h : a ≤ x) (h2 : x ≤ b) : clampQ x a b = x := by unfold clampQ; split; grind; split <;> grind
theorem sim_x {R : Rat} {u v : Pt} (h : (hgt (lnR R) u ≤ 0 ∧ hgt (lnR R) v ≤ 0) ∨ (0 ≤ hgt (lnR R) u ∧ 0 ≤ hgt (lnR R) v)) : (u.1 ≤ R ∧ v.1 ≤ R) ∨ (R ≤ u.1 ∧ R ≤ v.1) := by
  rw [hgt_R, hgt_R] at h; grind
theorem sim_y {T : Rat} {u v : Pt} (h : (hgt (lnT T) u ≤ 0 ∧ hgt (lnT T) v ≤ 0) ∨ (0 ≤ hgt (lnT T) u ∧ 0 ≤ hgt (lnT T) v)) : (u.2 ≤ T ∧ v.2 ≤ T) ∨ (T ≤ u.2 ∧ T ≤ v.2) := by
  rw [hgt_T, hgt_T] at h; grind
theorem d2_flat {R B T : Rat} {k : Rat} {u v : Pt} (hu : u.2 = k) (hv : v.2 = k) : d2w R B T u v = 0 :=
  K_zero (flat_y k) (fun a b ha hb => K_zero (flat_y k) (fun a b ha hb => by unfold cR; rw [show a.2 = k from ha, show b.2 = k from hb]; grind) a b ha hb) u v hu hv
theorem d1_flat {R T : Rat} {k : Rat} {u v : Pt} (hu : u.2 = k) (hv : v.2 = k) : K (cR R) (lnT T) u v = 0 :=
  K_zero (flat_y k) (fun a b ha hb => by unfold cR; rw [show a.2 = k from ha, show b.2 = k from hb]; grind) u v hu hv
theorem d2_right {R B T : Rat} {u v : Pt} (hu : u.1 = R) (hv : v.1 = R) : d2w R B T u v = 0 :=
  K_zero (flat_x R) (fun a b ha hb => K_zero (flat_x R) (fun a b ha hb => by unfold cR; rw [show a.1 = R from ha, show b.1 = R from hb]; grind) a b ha hb) u v hu hv
/-- along a segment that neither y = B nor y = T cuts -/
theorem d2_sim {R B T : Rat} (hBT : B ≤ T) {u v : Pt} (s1 : (u.2 ≤ B ∧ v.2 ≤ B) ∨ (B ≤ u.2 ∧ B ≤ v.2)) (s2 : (u.2 ≤ T ∧ v.2 ≤ T) ∨ (T ≤ u.2 ∧ T ≤ v.2)) :
    d2w R B T u v = (tu B T v - tu B T u) * ((u.1 + v.1) * (1 / 2) - R) := by
  unfold tu
  rcases s1 with s1 | s1
  · rw [clamp_lo s1.1 hBT, clamp_lo s1.2 hBT]
    unfold d2w
    rw [K_ge (by rw [hgt_B]; grind) (by rw [hgt_B]; grind) fun a b => d1_flat (k := B) (by rw [hgt_B] at a; grind) (by rw [hgt_B] at b; grind)]
    grind
  · unfold d2w
    rw [K_le (by rw [hgt_B]; grind) (by rw [hgt_B]; grind)]
    rcases s2 with s2 | s2
    · rw [K_le (by rw [hgt_T]; grind) (by rw [hgt_T]; grind), clamp_in s1.1 s2.1, clamp_in s1.2 s2.2]
      unfold cR; grind
    · rw [clamp_hi s2.1 hBT, clamp_hi s2.2 hBT, K_ge (by rw [hgt_T]; grind) (by rw [hgt_T]; grind) fun a b => by
        rw [hgt_T] at a b
        unfold cR
        rw [show u.2 = v.2 by grind]; grind]
      grind
/-- right of x = L -/
theorem d3_sim {R B T : Rat} (hBT : B ≤ T) {u v : Pt} (s1 : (u.2 ≤ B ∧ v.2 ≤ B) ∨ (B ≤ u.2 ∧ B ≤ v.2)) (s2 : (u.2 ≤ T ∧ v.2 ≤ T) ∨ (T ≤ u.2 ∧ T ≤ v.2)) (s3 : (u.1 ≤ R ∧ v.1 ≤ R) ∨ (R ≤ u.1 ∧ R ≤ v.1)) :
    d3w R B T u v = if R ≤ u.1 ∧ R ≤ v.1 then 0 else (tu B T v - tu B T u) * ((u.1 + v.1) * (1 / 2) - R) := by
  by_cases c : R ≤ u.1 ∧ R ≤ v.1
  · rw [if_pos c]
    exact K_ge (by rw [hgt_R]; grind) (by rw [hgt_R]; grind) fun a b => d2_right (by rw [hgt_R] at a; grind) (by rw [hgt_R] at b; grind)
  · rw [if_neg c]
    unfold d3w
    rw [K_le (by rw [hgt_R]; grind) (by rw [hgt_R]; grind)]
    exact d2_sim hBT s1 s2
/-- along x = L -/
theorem d4_left {L R B T : Rat} (hLR : L ≤ R) (hBT : B ≤ T) (u v : Pt) (hu : u.1 = L) (hv : v.1 = L) : d4w L R B T u v = 0 := by
  refine Add.ext (d4_add L R B T) (g := fun _ _ => 0) (fun _ _ _ _ _ => by grind) (S := fun p => p.1 = L) (flat_x L) [lnT B, lnT T] (fun u v hu hv hs => ?_) u v hu hv
  have hu : u.1 = L := hu
  have hv : v.1 = L := hv
  have s1 := sim_y (hs (lnT B) (by simp))
  have s2 := sim_y (hs (lnT T) (by simp))
  unfold d4w
  rw [d3_sim hBT s1 s2 (by rw [hu, hv]; grind), hu, hv]
  split
  · have : R = L := by grind
    rw [this]; grind
  · grind
/-- the form of a window, along a segment that no line of it cuts -/
theorem Fw_sim {L R B T : Rat} (hLR : L ≤ R) (hBT : B ≤ T) {u v : Pt} (s1 : (u.2 ≤ B ∧ v.2 ≤ B) ∨ (B ≤ u.2 ∧ B ≤ v.2)) (s2 : (u.2 ≤ T ∧ v.2 ≤ T) ∨ (T ≤ u.2 ∧ T ≤ v.2)) (s3 : (u.1 ≤ R ∧ v.1 ≤ R) ∨ (R ≤ u.1 ∧ R ≤ v.1)) (s4 : (u.1 ≤ L ∧ v.1 ≤ L) ∨ (L ≤ u.1 ∧ L ≤ v.1)) :
    Fw L R B T u v = (tu B T v - tu B T u) * ((sg L R u + sg L R v) * (1 / 2) - R) := by
  unfold Fw sg
  rcases s4 with s4 | s4
  · rw [K_ge (by rw [hgt_L]; grind) (by rw [hgt_L]; grind) fun a b => d4_left hLR hBT u v (by rw [hgt_L] at a; grind) (by rw [hgt_L] at b; grind), clamp_lo s4.1 hLR, clamp_lo s4.2 hLR]
    grind
  · rw [K_le (by rw [hgt_L]; grind) (by rw [hgt_L]; grind)]
    unfold d4w
    rw [d3_sim hBT s1 s2 s3]
    by_cases c : R ≤ u.1 ∧ R ≤ v.1
    · rw [if_pos c, clamp_hi c.1 hLR, clamp_hi c.2 hLR]; grind
    · rw [if_neg c, clamp_in s4.1 (by grind), clamp_in s4.2 (by grind)]; grind
def lnW (L R B T : Rat) : List Ln := [lnT B, lnT T, lnR R, lnR L]
theorem Fw_val {L R B T : Rat} (hLR : L ≤ R) (hBT : B ≤ T) {u v : Pt} (h : ∀ l ∈ lnW L R B T, (hgt l u ≤ 0 ∧ hgt l v ≤ 0) ∨ (0 ≤ hgt l u ∧ 0 ≤ hgt l v)) :
    Fw L R B T u v = (tu B T v - tu B T u) * ((sg L R u + sg L R v) * (1 / 2) - R) :=
  Fw_sim hLR hBT (sim_y (h _ (by simp [lnW]))) (sim_y (h _ (by simp [lnW]))) (sim_x (h _ (by simp [lnW]))) (sim_x (h _ (by simp [lnW])))
theorem sum_sub {α : Type} (f : α → Rat) (g h : α → Rat) (e : ∀ a, f a = g a + h a) (es : List α) : sumQ (es.map f) = sumQ (es.map g) + sumQ (es.map h) := by
  rw [sum_add]; exact sum_congr fun a _ => e a
theorem cyc_K {c : Pt → Pt → Rat} {l : Ln} (hc : ∀ u v, hgt l u = 0 → hgt l v = 0 → c u v = 0) (r : List Pt) : cyc c (cutQ l r) = cyc (K c l) r := by
  rw [cyc_cut hc]; rfl
/-- the area of a ring cut to a window: the sum of its form over the sides -/
theorem win_area {L R B T : Rat} (hLR : L ≤ R) (hBT : B ≤ T) (r : List Pt) : areaQ (win L R B T r) = cyc (Fw L R B T) r := by
  unfold win
  rw [area_cR R, cyc_K fun u v a b => ?_, cyc_K fun u v a b => ?_, cyc_K fun u v a b => ?_]
  · have e : ∀ u v : Pt, d4w L R B T u v = d3w R B T u v + ((fun p : Pt => (R - L) * tu B T p) v - (fun p : Pt => (R - L) * tu B T p) u) := fun u v => rfl
    have h1 : cyc (d4w L R B T) (cutQ (lnL L) r) = cyc (d3w R B T) (cutQ (lnL L) r) := by
      rw [cyc_congr e, cyc_add, cyc_tele (fun p : Pt => (R - L) * tu B T p)]; grind
    show cyc (d3w R B T) (cutQ (lnL L) r) = _
    rw [← h1, cyc_K fun u v a b => d4_left hLR hBT u v (by rw [hgt_L] at a; grind) (by rw [hgt_L] at b; grind)]
    have e2 : ∀ u v : Pt, Fw L R B T u v = K (d4w L R B T) (lnL L) u v + ((fun p : Pt => -(R - L) * tu B T p) v - (fun p : Pt => -(R - L) * tu B T p) u) := fun u v => rfl
    rw [cyc_congr e2, cyc_add, cyc_tele (fun p : Pt => -(R - L) * tu B T p)]; grind
  · exact d2_right (by rw [hgt_R] at a; grind) (by rw [hgt_R] at b; grind)
  · exact d1_flat (k := B) (by rw [hgt_B] at a; grind) (by rw [hgt_B] at b; grind)
  · unfold cR
    rw [hgt_T] at a b
    rw [show u.2 = v.2 by grind]; grind
end Pg

set_option Elab.async false
set_option linter.all false
set_option maxRecDepth 100000
namespace Pg
/-! ### what the pieces of a side come to -/
theorem pairs_sum {f : Pt → Pt → Rat} (hf : Add f) (e : Sd) : ∀ (x : Rat) (ks : List Rat) (z : Rat), Rising (x :: ks ++ [z]) → sumQ ((pairs (x :: ks ++ [z])).map fun k => f (at_ e k.1) (at_ e k.2)) = f (at_ e x) (at_ e z)
  | x, [], z, _ => by
    show f (at_ e x) (at_ e z) + 0 = f (at_ e x) (at_ e z)
    grind
  | x, y :: ks, z, h => by
    have e1 : pairs (x :: (y :: ks) ++ [z]) = (x, y) :: pairs (y :: ks ++ [z]) := rfl
    rw [e1, List.map_cons]
    show f (at_ e x) (at_ e y) + sumQ _ = _
    have h2 : Rising (y :: ks ++ [z]) := h.2
    rw [pairs_sum hf e y ks z h2]
    have h3 := rising_lt h2 z (by simp)
    have h4 : x < y := h.1
    exact hf.three e (by grind) (by grind)
theorem knots_sum {f : Pt → Pt → Rat} (hf : Add f) (w h : Int) (e : Sd) : sumQ ((pairs (knots w h e)).map fun k => f (at_ e k.1) (at_ e k.2)) = f e.1 e.2 := by
  have hr := knots_rising w h e
  unfold knots at hr ⊢
  rw [pairs_sum hf e 0 (innerQ w h e) 1 hr, at_zero, at_one]
/-- what a piece adds to the share of a cell -/
def pcQ (i j : Nat) (c : Pc) : Rat := (if c.2.1 = (j : Int) ∧ c.1 < (i : Int) then fallQ c else 0) + (if c.2.1 = (j : Int) ∧ c.1 = (i : Int) then rightV c else 0)
theorem pc_row {i j : Nat} {c : Pc} (h : c.2.1 ≠ (j : Int)) : pcQ i j c = 0 := by
  unfold pcQ
  rw [if_neg fun z => h z.1, if_neg fun z => h z.1]; grind
theorem pc_lo {i j : Nat} {c : Pc} (h : c.2.1 = (j : Int)) (h2 : c.1 < (i : Int)) : pcQ i j c = fallQ c := by
  unfold pcQ
  rw [if_pos ⟨h, h2⟩, if_neg fun z => by omega]; grind
theorem pc_at {i j : Nat} {c : Pc} (h : c.2.1 = (j : Int)) (h2 : c.1 = (i : Int)) : pcQ i j c = rightV c := by
  unfold pcQ
  rw [if_neg (fun z => by omega), if_pos ⟨h, h2⟩]; grind
theorem pc_hi {i j : Nat} {c : Pc} (h2 : (i : Int) < c.1) : pcQ i j c = 0 := by
  unfold pcQ
  rw [if_neg (fun z => by omega), if_neg fun z => by omega]; grind
theorem dueQ_sum {ps : List Pc} (h : ∀ c ∈ ps, -1 ≤ c.1) (i j : Nat) : dueQ ps i j = sumQ (ps.map (pcQ i j)) := by
  unfold dueQ
  rw [cum_accF h]
  unfold accG
  rw [sum_add]; rfl
abbrev Fc (i j : Nat) : Pt → Pt → Rat := Fw (i : Rat) ((i : Rat) + 1) (j : Rat) ((j : Rat) + 1)
theorem castN (z : Int) (n : Nat) (h : z = (n : Int)) : (z : Rat) = (n : Rat) := by rw [h]; rfl
theorem castS (n : Nat) : (((n : Int) + 1 : Int) : Rat) = (n : Rat) + 1 := by rw [Rat.intCast_add]; rfl
theorem Fc_piece {w h : Int} {e : Sd} {k : Rat × Rat} (nb : Nb w h e k) {i j : Nat} (hi : (i : Int) < w) (hj : (j : Int) < h) :
    Fc i j (at_ e k.1) (at_ e k.2) = if onFloor w h e k = true then pcQ i j (pieceOf e k) else 0 := by
  have x0 := nb_x nb (z := (i : Int)) (by omega) (by omega)
  have x1 := nb_x nb (z := (i : Int) + 1) (by omega) (by omega)
  have y0 := nb_y nb (z := (j : Int)) (by omega) (by omega)
  have y1 := nb_y nb (z := (j : Int) + 1) (by omega) (by omega)
  rw [castS] at x1 y1
  rw [show (((i : Int) : Rat)) = (i : Rat) from rfl] at x0
  rw [show (((j : Int) : Rat)) = (j : Rat) from rfl] at y0
  unfold Fc
  rw [Fw_sim (by grind) (by grind) y0 y1 x1 x0]
  unfold onFloor
  have ey : rowQ e k = fl (mid (at_ e k.1).2 (at_ e k.2).2) := rfl
  have ex : colQ e k = fl (mid (at_ e k.1).1 (at_ e k.2).1) := rfl
  have hp : pieceOf e k = (maxZ (colQ e k) (-1), rowQ e k, at_ e k.1, at_ e k.2) := rfl
  rw [hp]
  generalize at_ e k.1 = u at *
  generalize at_ e k.2 = v at *
  have my := mid2 u.2 v.2
  have mx := mid2 u.1 v.1
  have fy1 := fl_lt_iff (mid u.2 v.2)
  have fy2 := le_fl_iff (mid u.2 v.2)
  have fx1 := fl_lt_iff (mid u.1 v.1)
  have fx2 := le_fl_iff (mid u.1 v.1)
  rw [← ey] at fy1 fy2
  rw [← ex] at fx1 fx2
  have mxe : mid u.1 v.1 = (u.1 + v.1) * (1 / 2) := rfl
  generalize mid u.2 v.2 = my' at *
  generalize mid u.1 v.1 = mx' at *
  generalize rowQ e k = row at *
  generalize colQ e k = col at *
  have hij : (j : Rat) ≤ (j : Rat) + 1 := by grind
  have hii : (i : Rat) ≤ (i : Rat) + 1 := by grind
  have hmax : (maxZ col (-1) < (i : Int) ↔ col < (i : Int)) ∧ (maxZ col (-1) = (i : Int) ↔ col = (i : Int)) := by unfold maxZ; split <;> omega
  by_cases r1 : row < (j : Int)
  · -- beneath the row
    have h1 := (fy1 j).mp r1
    rw [show (((j : Int) : Rat)) = (j : Rat) from rfl] at h1
    have y2 : u.2 ≤ (j : Rat) ∧ v.2 ≤ (j : Rat) := by grind
    have t1 : tu (j : Rat) ((j : Rat) + 1) u = j := clamp_lo y2.1 hij
    have t2 : tu (j : Rat) ((j : Rat) + 1) v = j := clamp_lo y2.2 hij
    rw [t1, t2]
    rw [pc_row (c := (maxZ col (-1), row, u, v)) (by show row ≠ (j : Int); omega)]
    split <;> grind
  · by_cases r2 : (j : Int) < row
    · have h1 := (fy2 ((j : Int) + 1)).mp (by omega)
      rw [castS] at h1
      have y2 : (j : Rat) + 1 ≤ u.2 ∧ (j : Rat) + 1 ≤ v.2 := by grind
      have t1 : tu (j : Rat) ((j : Rat) + 1) u = j + 1 := clamp_hi y2.1 hij
      have t2 : tu (j : Rat) ((j : Rat) + 1) v = j + 1 := clamp_hi y2.2 hij
      rw [t1, t2]
      rw [pc_row (c := (maxZ col (-1), row, u, v)) (by show row ≠ (j : Int); omega)]
      split <;> grind
    · have hr : row = (j : Int) := by omega
      subst hr
      have h1 := (fy2 (j : Int)).mp (Int.le_refl _)
      have h2 := (fy1 ((j : Int) + 1)).mp (by omega)
      rw [castS] at h2
      rw [show (((j : Int) : Rat)) = (j : Rat) from rfl] at h1
      have y2 : (j : Rat) ≤ u.2 ∧ (j : Rat) ≤ v.2 := by grind
      have y3 : u.2 ≤ (j : Rat) + 1 ∧ v.2 ≤ (j : Rat) + 1 := by grind
      have t1 : tu (j : Rat) ((j : Rat) + 1) u = u.2 := clamp_in y2.1 y3.1
      have t2 : tu (j : Rat) ((j : Rat) + 1) v = v.2 := clamp_in y2.2 y3.2
      rw [t1, t2]
      by_cases c1 : col < (i : Int)
      · have h3 := (fx1 (i : Int)).mp c1
        rw [show (((i : Int) : Rat)) = (i : Rat) from rfl] at h3
        have x2 : u.1 ≤ (i : Rat) ∧ v.1 ≤ (i : Rat) := by grind
        have s1 : sg (i : Rat) ((i : Rat) + 1) u = i := clamp_lo x2.1 hii
        have s2 : sg (i : Rat) ((i : Rat) + 1) v = i := clamp_lo x2.2 hii
        rw [s1, s2, decide_eq_true (show (0 : Int) ≤ (j : Int) by omega), decide_eq_true hj, decide_eq_true (show col < w by omega)]
        rw [pc_lo (c := (maxZ col (-1), (j : Int), u, v)) rfl (hmax.1.mpr c1)]
        show _ = u.2 - v.2
        grind
      · by_cases c2 : (i : Int) < col
        · have h3 := (fx2 ((i : Int) + 1)).mp (by omega)
          rw [castS] at h3
          have x2 : (i : Rat) + 1 ≤ u.1 ∧ (i : Rat) + 1 ≤ v.1 := by grind
          have s1 : sg (i : Rat) ((i : Rat) + 1) u = i + 1 := clamp_hi x2.1 hii
          have s2 : sg (i : Rat) ((i : Rat) + 1) v = i + 1 := clamp_hi x2.2 hii
          rw [s1, s2]
          rw [pc_hi (c := (maxZ col (-1), (j : Int), u, v)) (by show (i : Int) < maxZ col (-1); unfold maxZ; split <;> omega)]
          split <;> grind
        · have hc : col = (i : Int) := by omega
          subst hc
          have h3 := (fx2 (i : Int)).mp (Int.le_refl _)
          have h4 := (fx1 ((i : Int) + 1)).mp (by omega)
          rw [castS] at h4
          rw [show (((i : Int) : Rat)) = (i : Rat) from rfl] at h3
          have x2 : (i : Rat) ≤ u.1 ∧ (i : Rat) ≤ v.1 := by grind
          have x3 : u.1 ≤ (i : Rat) + 1 ∧ v.1 ≤ (i : Rat) + 1 := by grind
          have s1 : sg (i : Rat) ((i : Rat) + 1) u = u.1 := clamp_in x2.1 x3.1
          have s2 : sg (i : Rat) ((i : Rat) + 1) v = v.1 := clamp_in x2.2 x3.2
          rw [s1, s2, decide_eq_true (show (0 : Int) ≤ (j : Int) by omega), decide_eq_true hj, decide_eq_true (show (i : Int) < w by omega)]
          have e1 : maxZ (i : Int) (-1) = (i : Int) := hmax.2.mpr rfl
          rw [e1]
          rw [pc_at (c := ((i : Int), (j : Int), u, v)) rfl rfl]
          have e3 : rightV ((i : Int), (j : Int), u, v) = (u.2 - v.2) * ((((i : Int) + 1 : Int) : Rat) - (u.1 + v.1) * (1 / 2)) := by
            unfold rightV
            rw [if_neg (by show ¬ (i : Int) < 0; omega)]; rfl
          rw [e3, castS]
          show _ = (u.2 - v.2) * ((i : Rat) + 1 - (u.1 + v.1) * (1 / 2))
          grind
theorem sum_flat {α β : Type} (f : β → Rat) (g : α → List β) : ∀ xs : List α, sumQ ((xs.flatMap g).map f) = sumQ (xs.map fun x => sumQ ((g x).map f))
  | [] => rfl
  | x :: xs => by
    rw [List.flatMap_cons, List.map_append, sumQ_append, sum_flat f g xs]; rfl
theorem side_sum {w h : Int} {i j : Nat} (hi : (i : Int) < w) (hj : (j : Int) < h) (e : Sd) : sumQ ((piecesQ w h e).map (pcQ i j)) = Fc i j e.1 e.2 := by
  unfold piecesQ
  by_cases c : e.1 = e.2
  · rw [if_pos c, c]
    exact ((Fw_add _ _ _ _).self e.2).symm
  · have ks := knots_sum (f := Fc i j) (Fw_add _ _ _ _) w h e
    rw [if_neg c, sum_flat, ← ks]
    refine sum_congr fun k hk => ?_
    have := Fc_piece (nb_of hk) hi hj
    show _ = Fc i j (at_ e k.1) (at_ e k.2)
    rw [this]
    unfold pieceE
    split
    · show pcQ i j (pieceOf e k) + 0 = _; grind
    · rfl
/-- the share of a cell: the areas of the rings cut to it -/
theorem due_cyc {w h i j : Nat} (hi : i < w) (hj : j < h) (sh : List (List Pt)) (on : ∀ c ∈ allP w h sh, -1 ≤ c.1) : dueQ (allP w h sh) i j = sumQ (sh.map (cyc (Fc i j))) := by
  rw [dueQ_sum on]
  unfold allP
  rw [sum_flat]
  refine sum_congr fun r _ => ?_
  rw [sum_flat]
  exact sum_congr fun e _ => side_sum (by omega) (by omega) e
theorem Fc_area (i j : Nat) (r : List Pt) : cyc (Fc i j) r = areaQ (win (i : Rat) ((i : Rat) + 1) (j : Rat) ((j : Rat) + 1) r) := (win_area (by grind) (by grind) r).symm
end Pg

set_option Elab.async false
set_option linter.all false
namespace Pg

/-! mirrors of the defs of k18, printed by pygen -/
def p_leans (one1 : (Rat × Rat)) (other2 : (Rat × Rat)) (point3 : (Rat × Rat)) : R Bool :=
  R.bind (p_minus other2.1 one1.1) fun minus4 =>
  R.bind (p_minus point3.2 one1.2) fun minus5 =>
  R.bind (p_times minus4 minus5) fun times6 =>
  R.bind (R.ok times6) fun across7 =>
  R.bind (p_minus point3.1 one1.1) fun minus8 =>
  R.bind (p_minus other2.2 one1.2) fun minus9 =>
  R.bind (p_times minus8 minus9) fun times10 =>
  R.bind (R.ok times10) fun up11 =>
  R.bind (p_under across7 up11) fun under12 =>
  R.ok under12
def p_winding (shape1 : (List (List (Rat × Rat)))) (point2 : (Rat × Rat)) : R Int :=
  R.bind (R.ok ((0 : Int))) fun come3 =>
  R.bind (R.forR (fun (x4 : (List (Rat × Rat))) (s5 : Int) => R.bind (p_sides x4) fun sides6 => R.bind (R.forR (fun (x7 : ((Rat × Rat) × (Rat × Rat))) (s8 : Int) => R.bind (p_under point2.2 x7.1.2) fun under9 => R.bind (R.andR under9 (R.bind (p_under point2.2 x7.2.2) fun under10 => R.bind (R.andR ((!under10)) (R.bind (p_leans x7.2 x7.1 point2) fun leans11 => R.ok leans11)) fun b12 => R.ok b12)) fun b13 => R.bind (if b13 = true then (R.bind (R.ok (s8 + (1 : Int))) fun come15 => R.ok come15) else (R.ok s8) : R Int) fun st14 => R.bind (p_under point2.2 x7.2.2) fun under16 => R.bind (R.andR under16 (R.bind (p_under point2.2 x7.1.2) fun under17 => R.bind (R.andR ((!under17)) (R.bind (p_leans x7.1 x7.2 point2) fun leans18 => R.ok leans18)) fun b19 => R.ok b19)) fun b20 => if b20 = true then (R.bind (R.ok (st14 - (1 : Int))) fun come21 => R.ok come21) else (R.ok st14)) sides6 s5) fun s22 => R.ok s22) shape1 come3) fun s23 =>
  R.ok s23
def l_number_3 (cell1 : Int) : R Rat :=
  if (decide ((cell1 % (16 : Int)) = (15 : Int))) = true then (R.bind (mkQ ((((cell1 / (16 : Int)) % (2000000000 : Int)) - (1000000000 : Int))) ((1 : Int))) fun q2 => R.ok q2) else (R.bind (l_ratio ((((cell1 / (16 : Int)) % (19 : Int)) - (5 : Int))) (((1 : Int) + ((cell1 / (304 : Int)) % (3 : Int))))) fun r3 => R.ok r3)
def l_rings (script1 : (List Int)) : R ((List (List (Rat × Rat)))) :=
  R.bind (R.ok (([] : (List (List (Rat × Rat)))))) fun shape2 =>
  R.bind (l_cell script1 ((0 : Int))) fun c3 =>
  R.bind (R.ok c3) fun sizes4 =>
  R.bind (rngR 0 ((sizes4 % (4 : Int)))) fun r5 =>
  R.bind (R.forR (fun (x6 : Int) (s7 : (Int × (List (List (Rat × Rat))))) => R.bind (R.ok (([] : (List (Rat × Rat))))) fun ring8 => R.bind (rngR 0 (((s7.1 / (4 : Int)) % (7 : Int)))) fun r9 => R.bind (R.forR (fun (x10 : Int) (s11 : (List (Rat × Rat))) => R.bind (mulR ((14 : Int)) x6) fun p12 => R.bind (mulR ((2 : Int)) x10) fun p13 => R.bind (l_cell script1 ((((4 : Int) + p12) + p13))) fun c14 => R.bind (l_number_3 c14) fun n15 => R.bind (R.ok n15) fun x16 => R.bind (mulR ((14 : Int)) x6) fun p17 => R.bind (mulR ((2 : Int)) x10) fun p18 => R.bind (l_cell script1 ((((5 : Int) + p17) + p18))) fun c19 => R.bind (l_number_3 c19) fun n20 => R.bind (R.ok n20) fun y21 => R.bind (appR s11 ((x16, y21))) fun ring22 => R.ok ring22) r9 ring8) fun s23 => R.bind (appR s7.2 s23) fun shape24 => R.bind (R.ok ((s7.1 / (7 : Int)))) fun sizes25 => R.ok ((sizes25, shape24))) r5 ((sizes4, shape2))) fun s26 =>
  R.ok s26.2
def l_by (number1 : Rat) : R Int :=
  R.bind (fdivR ((6 : Int)) ((number1.den : Int))) fun q2 =>
  R.bind (mulR number1.num q2) fun p3 =>
  R.ok p3
def l_cross (one1 : (Rat × Rat)) (other2 : (Rat × Rat)) (point3 : (Rat × Rat)) : R Int :=
  R.bind (l_by one1.1) fun b4 =>
  R.bind (R.ok b4) fun x5 =>
  R.bind (l_by one1.2) fun b6 =>
  R.bind (R.ok b6) fun y7 =>
  R.bind (l_by other2.1) fun b8 =>
  R.bind (l_by point3.2) fun b9 =>
  R.bind (mulR ((b8 - x5)) ((b9 - y7))) fun p10 =>
  R.bind (R.ok p10) fun across11 =>
  R.bind (l_by point3.1) fun b12 =>
  R.bind (l_by other2.2) fun b13 =>
  R.bind (mulR ((b12 - x5)) ((b13 - y7))) fun p14 =>
  R.ok ((p14 - across11))
def l_on (one1 : (Rat × Rat)) (other2 : (Rat × Rat)) (point3 : (Rat × Rat)) : R Bool :=
  R.bind (l_cross one1 other2 point3) fun c4 =>
  if (!decide (c4 = (0 : Int))) = true then (R.ok false) else (R.bind (rngR 0 ((2 : Int))) fun r5 => R.bind (R.forX (fun (x6 : Int) (s7 : Unit) => (R.bind (atR ([one1.1, one1.2]) x6) fun it8 => R.bind (l_by it8) fun b9 => R.bind (atR ([other2.1, other2.2]) x6) fun it10 => R.bind (l_by it10) fun b11 => R.bind (R.ok ((minZ b9 b11))) fun low12 => R.bind (atR ([one1.1, one1.2]) x6) fun it13 => R.bind (l_by it13) fun b14 => R.bind (atR ([other2.1, other2.2]) x6) fun it15 => R.bind (l_by it15) fun b16 => R.bind (R.ok ((maxZ b14 b16))) fun high17 => R.bind (atR ([point3.1, point3.2]) x6) fun it18 => R.bind (l_by it18) fun b19 => R.bind (R.orR ((decide (b19 < low12))) (R.bind (atR ([point3.1, point3.2]) x6) fun it20 => R.bind (l_by it20) fun b21 => R.ok ((decide (high17 < b21))))) fun b22 => if b22 = true then (R.ok (Sum.inr false)) else (R.ok (Sum.inl (()))) : R (Sum Unit Bool))) r5 (())) fun r23 => R.caseX r23 (fun s24 => R.ok true) (fun b25 => R.ok b25))
def l_due_2 (shape1 : (List (List (Rat × Rat)))) (point2 : (Rat × Rat)) : R ((Option Int)) :=
  R.bind (R.ok ((0 : Int))) fun some3 =>
  R.bind (l_by point2.2) fun b4 =>
  R.bind (R.ok b4) fun high5 =>
  R.bind (R.forX (fun (x6 : (List (Rat × Rat))) (s7 : Int) => (R.bind (rngR 0 ((x6.length : Int))) fun r8 => R.bind (R.forX (fun (x9 : Int) (s10 : Int) => (R.bind (atR x6 x9) fun it11 => R.bind (R.ok it11) fun one12 => R.bind (fmodR ((x9 + (1 : Int))) ((x6.length : Int))) fun m13 => R.bind (atR x6 m13) fun it14 => R.bind (R.ok it14) fun other15 => R.bind (l_on one12 other15 point2) fun o16 => if o16 = true then (R.ok (Sum.inr ((none : (Option Int))))) else (R.bind (l_by one12.2) fun b17 => R.bind (R.andR ((decide (b17 > high5))) (R.bind (l_by other15.2) fun b18 => R.bind (R.andR ((decide (b18 ≤ high5))) (R.bind (l_cross other15 one12 point2) fun c19 => R.ok ((decide (c19 > (0 : Int)))))) fun b20 => R.ok b20)) fun b21 => R.bind (if b21 = true then (R.bind (R.ok ((s10 + (1 : Int)))) fun some23 => R.ok some23) else (R.ok s10) : R Int) fun st22 => R.bind (l_by other15.2) fun b24 => R.bind (R.andR ((decide (b24 > high5))) (R.bind (l_by one12.2) fun b25 => R.bind (R.andR ((decide (b25 ≤ high5))) (R.bind (l_cross one12 other15 point2) fun c26 => R.ok ((decide (c26 > (0 : Int)))))) fun b27 => R.ok b27)) fun b28 => if b28 = true then (R.bind (R.ok ((st22 - (1 : Int)))) fun some29 => R.ok (Sum.inl some29)) else (R.ok (Sum.inl st22))) : R (Sum Int ((Option Int))))) r8 s7) fun r30 => R.caseX r30 (fun s31 => R.ok (Sum.inl s31)) (fun b32 => R.ok (Sum.inr b32)) : R (Sum Int ((Option Int))))) shape1 some3) fun r33 =>
  R.caseX r33 (fun s34 => R.ok ((some s34))) (fun b35 => R.ok b35)
def l_winds (shape1 : (List (List (Rat × Rat)))) (point2 : (Rat × Rat)) (due3 : Int) : R Bool :=
  R.bind (R.compR (fun x4 =>  R.ok x4) shape1) fun c5 =>
  R.bind (R.ok c5) fun handed6 =>
  R.bind (p_winding handed6 point2) fun windin7 =>
  R.bind (R.ok windin7) fun found8 =>
  R.bind (l_whole found8) fun w9 =>
  R.ok ((w9 && ((decide (found8 = due3)) && (decide (handed6 = shape1)))))
def k18_law (script1 : (List Int)) : R Bool :=
  R.bind (l_rings script1) fun r2 =>
  R.bind (R.ok r2) fun shape3 =>
  R.bind (l_cell script1 ((1 : Int))) fun c4 =>
  R.bind (l_number_3 c4) fun n5 =>
  R.bind (l_cell script1 ((2 : Int))) fun c6 =>
  R.bind (l_number_3 c6) fun n7 =>
  R.bind (R.ok ((n5, n7))) fun point8 =>
  R.bind (l_cell script1 ((3 : Int))) fun c9 =>
  R.bind (if (decide ((c9 % (2 : Int)) = (0 : Int))) = true then (R.bind (l_cell script1 ((1 : Int))) fun c11 => R.bind (mulR ((2 : Int)) ((c11 % (8 : Int)))) fun p12 => R.bind (l_ratio ((p12 + (1 : Int))) ((2 : Int))) fun r13 => R.bind (l_cell script1 ((2 : Int))) fun c14 => R.bind (mulR ((2 : Int)) ((c14 % (8 : Int)))) fun p15 => R.bind (l_ratio ((p15 + (1 : Int))) ((2 : Int))) fun r16 => R.bind (R.ok ((r13, r16))) fun point17 => R.ok point17) else (R.ok point8) : R ((Rat × Rat))) fun st10 =>
  R.bind (l_due_2 shape3 st10) fun d18 =>
  R.bind (R.ok d18) fun due19 =>
  R.bind (l_winds (([] : (List (List (Rat × Rat))))) st10 ((0 : Int))) fun w20 =>
  if (!w20) = true then (R.ok false) else (if due19.isNone = true then (R.ok true) else (R.bind (R.ok ((0 : Int))) fun some21 => R.bind (R.forX (fun (x22 : (List (Rat × Rat))) (s23 : Int) => (R.bind (p_winding ([x22]) st10) fun windin24 => R.bind (R.ok windin24) fun one25 => R.bind (l_whole one25) fun w26 => if (!w26) = true then (R.ok (Sum.inr false)) else (R.bind (R.ok ((s23 + one25))) fun some27 => R.ok (Sum.inl some27)) : R (Sum Int Bool))) shape3 some21) fun r28 => R.caseX r28 (fun s29 => R.bind (R.compR (fun x31 => R.bind (rngR 0 ((x31.length : Int))) fun r32 => R.bind (R.compR (fun x33 => R.bind (atR x31 ((((x31.length : Int) - (1 : Int)) - x33))) fun it34 => R.ok it34) r32) fun c35 => R.ok c35) shape3) fun c36 => R.bind (R.ok c36) fun back37 => R.bind (getR due19) fun o38 => R.bind (R.andR ((decide (s29 = o38))) (R.bind (getR due19) fun o39 => R.bind (l_winds shape3 st10 o39) fun w40 => R.bind (R.andR w40 (R.bind (getR due19) fun o41 => R.bind (l_winds back37 st10 ((-o41))) fun w42 => R.ok w42)) fun b43 => R.ok b43)) fun b44 => R.ok b44) (fun b30 => R.ok b30)))
end Pg

set_option Elab.async false
set_option linter.all false
set_option maxRecDepth 100000
namespace Pg
/-! ### how often a shape goes round a point -/
def lean (u o pt : Pt) : Prop := (o.1 - u.1) * (pt.2 - u.2) < (pt.1 - u.1) * (o.2 - u.2)
instance (u o pt : Pt) : Decidable (lean u o pt) := inferInstanceAs (Decidable (_ < _))
def up1 (pt u v : Pt) : Prop := pt.2 < u.2 ∧ ¬ pt.2 < v.2 ∧ lean v u pt
instance (pt u v : Pt) : Decidable (up1 pt u v) := inferInstanceAs (Decidable (_ ∧ _ ∧ _))
/-- what a side adds -/
def wd (pt u v : Pt) : Rat := (if up1 pt u v then 1 else 0) - (if up1 pt v u then 1 else 0)
theorem wd_anti (pt u v : Pt) : wd pt u v = -wd pt v u := by unfold wd; grind
def wind (pt : Pt) (sh : List (List Pt)) : Rat := sumQ (sh.map (cyc (wd pt)))
theorem p_leans_ok {n : Nat} {u o pt : Pt} (hu : SP n u) (ho : SP n o) (hp : SP n pt) (h : 8 * n + 20 < 134000000) : p_leans u o pt = .ok (decide (lean u o pt)) := by
  unfold p_leans lean
  rw [p_minus_ok ho.1 hu.1 (by omega), bind_ok, p_minus_ok hp.2 hu.2 (by omega), bind_ok, p_times_ok (ho.1.sub hu.1) (hp.2.sub hu.2) (by omega), bind_ok, bind_ok, p_minus_ok hp.1 hu.1 (by omega), bind_ok, p_minus_ok ho.2 hu.2 (by omega), bind_ok,
    p_times_ok (hp.1.sub hu.1) (ho.2.sub hu.2) (by omega), bind_ok, bind_ok, p_under_ok ((ho.1.sub hu.1).mul (hp.2.sub hu.2)) ((hp.1.sub hu.1).mul (ho.2.sub hu.2)) (by omega), bind_ok]
  rfl
theorem test_ok {n : Nat} {u v pt : Pt} (hu : SP n u) (hv : SP n v) (hp : SP n pt) (h : 8 * n + 20 < 134000000) {β : Type} (k : Bool → R β) :
    (R.bind (p_under pt.2 u.2) fun under9 => R.bind (R.andR under9 (R.bind (p_under pt.2 v.2) fun under10 => R.bind (R.andR ((!under10)) (R.bind (p_leans v u pt) fun leans11 => R.ok leans11)) fun b12 => R.ok b12)) k) = k (decide (up1 pt u v)) := by
  rw [p_under_ok hp.2 hu.2 (by omega), bind_ok]
  unfold up1
  by_cases h1 : pt.2 < u.2
  · rw [decide_eq_true h1, andR_t, p_under_ok hp.2 hv.2 (by omega), bind_ok]
    by_cases h2 : pt.2 < v.2
    · rw [decide_eq_true h2, Bool.not_true, andR_f, bind_ok, bind_ok]
      congr 1
      simp [h2]
    · rw [decide_eq_false h2, Bool.not_false, andR_t, p_leans_ok hv hu hp h, bind_ok, bind_ok, bind_ok]
      congr 1
      simp [h1, h2]
  · rw [decide_eq_false h1, andR_f, bind_ok]
    congr 1
    simp [h1]
theorem p_winding_ok {n : Nat} {sh : List (List Pt)} {pt : Pt} (hs : ∀ r ∈ sh, SR n r ∧ r.length < 1000) (hp : SP n pt) (h : 8 * n + 20 < 134000000) : Ok (p_winding sh pt) (fun z => (z : Rat) = wind pt sh) := by
  unfold p_winding
  refine .one (.bind (.forR (fun i s => ((s : Int) : Rat) = wind pt (sh.take i)) (by show ((0 : Int) : Rat) = 0; rfl) fun i s r hw hx => ?_) fun s hw => .pure ?_)
  · have hr := hs r (List.mem_of_getElem? hx)
    refine .step (p_sides_ok (by omega)) (.bind (.forR (fun j t => ((t : Int) : Rat) = (s : Rat) + sumQ (((edges r).take j).map fun e => wd pt e.1 e.2)) (by show (s : Rat) = s + 0; grind) fun j t e ht he => ?_) fun t ht => .pure ?_)
    · obtain ⟨m1, m2⟩ := edges_mem (List.mem_of_getElem? he)
      have s1 := hr.1 _ m1
      have s2 := hr.1 _ m2
      rw [test_ok s1 s2 hp h]
      rw [take_more he, List.map_append, sumQ_append]
      refine .bind (P := fun t1 : Int => (t1 : Rat) = (t : Rat) + if up1 pt e.1 e.2 then 1 else 0) (.ite (fun c => .one (.pure ?_)) fun c => .pure ?_) fun t1 h1 => ?_
      · rw [if_pos c, Rat.intCast_add]; rfl
      · rw [if_neg c]; grind
      · rw [test_ok s2 s1 hp h]
        refine .ite (fun c => .one (.pure ?_)) fun c => .pure ?_
        · rw [Rat.intCast_sub, h1, ht]
          show _ = _ + (_ + (wd pt e.1 e.2 + 0))
          unfold wd
          rw [if_pos c]
          have : ((1 : Int) : Rat) = 1 := rfl
          rw [this]; grind
        · rw [h1, ht]
          show _ = _ + (_ + (wd pt e.1 e.2 + 0))
          unfold wd
          rw [if_neg c]; grind
    · rw [List.take_length] at ht
      rw [ht, hw]
      unfold wind
      rw [take_more hx, List.map_append, sumQ_append]
      show _ = _ + (cyc (wd pt) r + 0)
      unfold cyc
      grind
  · rw [List.take_length] at hw
    exact hw
/-! ### the law's own reckoning over sixths -/
def N6 (q : Rat) : Prop := SQ 50 q ∧ q.den ∣ 6
def P6 (p : Pt) : Prop := N6 p.1 ∧ N6 p.2
theorem P6.sp {p : Pt} (h : P6 p) : SP 50 p := ⟨h.1.1, h.2.1⟩
theorem l_number3_ok (c : Int) : Ok (l_number_3 c) N6 := by
  unfold l_number_3
  have m1 := Int.emod_nonneg (c / 16) (show (2000000000 : Int) ≠ 0 by decide)
  have m2 := Int.emod_lt_of_pos (c / 16) (show (0 : Int) < 2000000000 by decide)
  have m3 := Int.emod_nonneg (c / 16) (show (19 : Int) ≠ 0 by decide)
  have m4 := Int.emod_lt_of_pos (c / 16) (show (0 : Int) < 19 by decide)
  have m5 := Int.emod_nonneg (c / 304) (show (3 : Int) ≠ 0 by decide)
  have m6 := Int.emod_lt_of_pos (c / 304) (show (0 : Int) < 3 by decide)
  refine .ite (fun _ => ?_) fun h => ?_
  · exact .step (mkQ_int _) (.pure ⟨SQ_int (by unfold S; omega) (by decide), by rw [Rat.den_intCast]; decide⟩)
  · refine .step (l_ratio_ok (by omega)) (.pure ⟨SQ_divInt (by omega) (by unfold S; omega) (by unfold S; omega), Nat.dvd_trans (den_dvd (by omega)) ?_⟩)
    generalize c / 304 % 3 = z at m5 m6
    have : z = 0 ∨ z = 1 ∨ z = 2 := by omega
    rcases this with rfl | rfl | rfl <;> decide
theorem l_by_ok {q : Rat} (h : N6 q) : Ok (l_by q) (fun n => S 60 n ∧ (n : Rat) = 6 * q) := by
  unfold l_by
  obtain ⟨hs, k, hk⟩ := h
  have hd := q.den_pos
  have e1 : (6 : Int) / (q.den : Int) = k := by
    rw [show (6 : Int) = ((q.den * k : Nat) : Int) by omega, Int.natCast_mul, Int.mul_ediv_cancel_left _ (by omega)]
  have hk2 : k ≤ 6 := by
    have := Nat.le_mul_of_pos_left k hd
    omega
  refine .step (fdivR_ok (by omega)) ?_
  rw [Int.fdiv_eq_ediv_of_nonneg _ (by omega), e1]
  have sk : S 5 (k : Int) := by unfold S; omega
  refine .step (mulR_ok hs.1 sk (by decide)) (.pure ⟨(hs.1.mul sk).mono (by decide), ?_⟩)
  rw [Rat.intCast_mul]
  have e2 := num_eq q
  have e3 : ((6 : Int) : Rat) = ((q.den : Int) : Rat) * ((k : Int) : Rat) := by rw [← Rat.intCast_mul]; congr 1; omega
  have e4 : ((6 : Int) : Rat) = 6 := rfl
  rw [e2]
  grind
/-- of two numbers, the law's wholes -/
theorem by_step {q : Rat} (h : N6 q) {β : Type} {k : Int → R β} {Q : β → Prop} (hk : ∀ n : Int, S 60 n → (n : Rat) = 6 * q → Ok (k n) Q) : Ok (R.bind (l_by q) k) Q := .bind (l_by_ok h) fun n hn => hk n hn.1 hn.2
theorem l_cross_ok {u o pt : Pt} (hu : P6 u) (ho : P6 o) (hp : P6 pt) : Ok (l_cross u o pt) (fun n => (n : Rat) = 36 * ((pt.1 - u.1) * (o.2 - u.2) - (o.1 - u.1) * (pt.2 - u.2))) := by
  unfold l_cross
  refine by_step hu.1 fun a sa ea => .one (by_step hu.2 fun b sb eb => .one (by_step ho.1 fun c sc ec => by_step hp.2 fun d sd ed => ?_))
  refine .step (mulR_ok (sc.sub sa) (sd.sub sb) (by decide)) (.one (by_step hp.1 fun e se ee => by_step ho.2 fun f sf ef => .step (mulR_ok (se.sub sa) (sf.sub sb) (by decide)) (.pure ?_)))
  rw [Rat.intCast_sub, Rat.intCast_mul, Rat.intCast_mul, Rat.intCast_sub, Rat.intCast_sub, Rat.intCast_sub, Rat.intCast_sub, ea, eb, ec, ed, ee, ef]
  grind
theorem cast_gt {n : Int} {q : Rat} {k : Rat} (hk : 0 < k) (h : (n : Rat) = k * q) : n > 0 ↔ 0 < q := by
  have e : n > 0 ↔ (0 : Rat) < (n : Rat) := by
    have := Rat.intCast_lt_intCast (a := 0) (b := n)
    exact this.symm
  rw [e, h]
  constructor
  · intro z
    by_cases c : 0 < q
    · exact c
    · have h2 := Rat.mul_le_mul_of_nonneg_left (a := q) (b := 0) (c := k) (by grind) (by grind)
      grind
  · intro z; exact Rat.mul_pos hk z
theorem l_cross_gt {u o pt : Pt} {n : Int} (h : (n : Rat) = 36 * ((pt.1 - u.1) * (o.2 - u.2) - (o.1 - u.1) * (pt.2 - u.2))) : n > 0 ↔ lean u o pt := by
  rw [cast_gt (by decide) h]
  unfold lean
  constructor <;> intro z <;> grind
theorem by_gt {a b : Int} {p q : Rat} (ha : (a : Rat) = 6 * p) (hb : (b : Rat) = 6 * q) : a > b ↔ q < p := by
  have e : a > b ↔ (b : Rat) < (a : Rat) := (Rat.intCast_lt_intCast (a := b) (b := a)).symm
  rw [e, ha, hb]
  constructor <;> intro z <;> grind
theorem l_on_any {u o pt : Pt} (hu : P6 u) (ho : P6 o) (hp : P6 pt) : Ok (l_on u o pt) (fun _ => True) := by
  unfold l_on
  refine .bind (l_cross_ok hu ho hp) fun c _ => .iteB (fun _ => .pure trivial) fun _ => ?_
  refine .step (rngR_ok (by decide) (by decide) (by decide) (by decide)) ?_
  refine .bind (P := fun _ => True) ?_ fun r _ => ?_
  · have a2 : ∀ (p : Pt), P6 p → ∀ x : Int, 0 ≤ x → x < 2 → Ok (atR [p.1, p.2] x) N6 := fun p h x h0 h1 => at_all (fun y hy => by simp at hy; rcases hy with rfl | rfl; exact h.1; exact h.2) h0 (by simpa using h1)
    have any : ∀ (xs : List Int) (f : Int → Unit → R (Sum Unit Bool)), (∀ x ∈ xs, Ok (f x ()) fun _ => True) → Ok (R.forX f xs ()) fun _ => True := by
      intro xs f
      induction xs with
      | nil => intro _; exact .pure trivial
      | cons x xs ih =>
        intro h
        unfold R.forX
        refine .bind (h x List.mem_cons_self) fun r _ => ?_
        cases r with
        | inl s => exact ih fun y hy => h y (List.mem_cons_of_mem _ hy)
        | inr b => exact .pure trivial
    refine any _ _ fun x hx => ?_
    have hx := rng_mem hx
    have g1 := a2 u hu x hx.1 hx.2
    have g2 := a2 o ho x hx.1 hx.2
    have g3 := a2 pt hp x hx.1 hx.2
    refine .bind g1 fun p1 h1 => by_step h1 fun _ _ _ => .bind g2 fun p1 h1 => by_step h1 fun _ _ _ => .one (.bind g1 fun p1 h1 => by_step h1 fun _ _ _ => .bind g2 fun p1 h1 => by_step h1 fun _ _ _ => .one (.bind g3 fun p1 h1 => by_step h1 fun _ _ _ => ?_))
    refine .bind (P := fun _ => True) (.orR (fun _ => .bind g3 fun p1 h1 => by_step h1 fun _ _ _ => .pure trivial) fun _ => trivial) fun b _ => .iteB (fun _ => .pure trivial) fun _ => .pure trivial
  · cases r with
    | inl _ => exact .pure trivial
    | inr _ => exact .pure trivial
/-- one of the law's tests -/
theorem l_test_ok {u v pt : Pt} (hu : P6 u) (hv : P6 v) (hp : P6 pt) {h : Int} (hh : (h : Rat) = 6 * pt.2) {β : Type} {k : Bool → R β} {Q : β → Prop} (hk : Ok (k (decide (up1 pt u v))) Q) :
    Ok (R.bind (l_by u.2) fun b17 => R.bind (R.andR ((decide (b17 > h))) (R.bind (l_by v.2) fun b18 => R.bind (R.andR ((decide (b18 ≤ h))) (R.bind (l_cross v u pt) fun c19 => R.ok ((decide (c19 > (0 : Int)))))) fun b20 => R.ok b20)) k) Q := by
  refine by_step hu.2 fun a _ ea => .bind (P := fun b => b = decide (up1 pt u v)) ?_ fun b hb => by rw [hb]; exact hk
  have h1 := by_gt ea hh
  refine .andR (fun c => by_step hv.2 fun b _ eb => ?_) fun c => ?_
  · have h2 := by_gt eb hh
    have c1 := h1.mp (of_decide_eq_true c)
    refine .bind (P := fun b => b = decide (up1 pt u v)) (.andR (fun c2 => .bind (l_cross_ok hv hu hp) fun n hn => .pure ?_) fun c2 => ?_) fun _ h => .pure h
    · have c3 := of_decide_eq_true c2
      have c4 : ¬ pt.2 < v.2 := fun z => by have := h2.mpr z; omega
      have h3 := l_cross_gt hn
      by_cases g : n > 0
      · rw [decide_eq_true g]
        exact (decide_eq_true (show up1 pt u v from ⟨c1, c4, h3.mp g⟩)).symm
      · rw [decide_eq_false g]
        exact (decide_eq_false (fun z : up1 pt u v => g (h3.mpr z.2.2))).symm
    · have c3 := of_decide_eq_false c2
      have c4 : pt.2 < v.2 := h2.mp (by omega)
      rw [decide_eq_false]
      exact fun z => z.2.1 c4
  · rw [decide_eq_false]
    exact fun z => of_decide_eq_false c (h1.mpr z.1)
/-- what the loop over rings and sides comes to -/
def DueR (q : Rat) : Sum Int (Option Int) → Prop
  | .inl s => (s : Rat) = q
  | .inr o => o = none
theorem l_due_ok' {sh : List (List Pt)} {pt : Pt} (hs : ∀ r ∈ sh, (∀ p ∈ r, P6 p) ∧ r.length < 1000) (hp : P6 pt) : Ok (l_due_2 sh pt) (fun o => ∀ n, o = some n → (n : Rat) = wind pt sh) := by
  unfold l_due_2
  refine .one (by_step hp.2 fun h _ eh => .one ?_)
  -- over the sides of one ring
  have ring : ∀ (r : List Pt), (∀ p ∈ r, P6 p) → r.length < 1000 → ∀ (xs : List Int) (i : Nat) (s : Int), (∀ j, xs[j]? = if i + j < r.length then some ((i + j : Nat) : Int) else none) →
      Ok (R.forX (fun (x9 : Int) (s10 : Int) => (R.bind (atR r x9) fun it11 => R.bind (R.ok it11) fun one12 => R.bind (fmodR ((x9 + (1 : Int))) ((r.length : Int))) fun m13 => R.bind (atR r m13) fun it14 => R.bind (R.ok it14) fun other15 => R.bind (l_on one12 other15 pt) fun o16 => if o16 = true then (R.ok (Sum.inr ((none : (Option Int))))) else (R.bind (l_by one12.2) fun b17 => R.bind (R.andR ((decide (b17 > h))) (R.bind (l_by other15.2) fun b18 => R.bind (R.andR ((decide (b18 ≤ h))) (R.bind (l_cross other15 one12 pt) fun c19 => R.ok ((decide (c19 > (0 : Int)))))) fun b20 => R.ok b20)) fun b21 => R.bind (if b21 = true then (R.bind (R.ok ((s10 + (1 : Int)))) fun some23 => R.ok some23) else (R.ok s10) : R Int) fun st22 => R.bind (l_by other15.2) fun b24 => R.bind (R.andR ((decide (b24 > h))) (R.bind (l_by one12.2) fun b25 => R.bind (R.andR ((decide (b25 ≤ h))) (R.bind (l_cross one12 other15 pt) fun c26 => R.ok ((decide (c26 > (0 : Int)))))) fun b27 => R.ok b27)) fun b28 => if b28 = true then (R.bind (R.ok ((st22 - (1 : Int)))) fun some29 => R.ok (Sum.inl some29)) else (R.ok (Sum.inl st22))) : R (Sum Int ((Option Int))))) xs s)
        (DueR ((s : Rat) + sumQ (((edges r).drop i).map fun e => wd pt e.1 e.2))) := by
    intro r hr hl xs
    induction xs with
    | nil =>
      intro i s hx
      have h0 := hx 0
      have hi : r.length ≤ i := by
        by_cases c : i + 0 < r.length
        · rw [if_pos c] at h0; simp at h0
        · omega
      refine .pure ?_
      rw [List.drop_eq_nil_of_le (by rw [edges_len]; omega)]
      show (s : Rat) = s + 0
      grind
    | cons x xs ih =>
      intro i s hx
      have h0 := hx 0
      have hi : i < r.length := by
        by_cases c : i + 0 < r.length
        · omega
        · rw [if_neg c] at h0; simp at h0
      have ex : x = (i : Int) := by
        rw [if_pos (by omega)] at h0
        have := Option.some.inj (show some x = _ from h0)
        simpa using this
      obtain ⟨p, q, g1, g2, g3, g4, g5, g6⟩ := ring_at (r := r) (i := i) ex hi
      have d : (edges r).drop i = (p, q) :: (edges r).drop (i + 1) := by
        obtain ⟨hlt, e⟩ := List.getElem?_eq_some_iff.mp g1
        rw [List.drop_eq_getElem_cons hlt, e]
      have z1 := hr p g5
      have z2 := hr q g6
      unfold R.forX
      rw [d]
      refine .bind (P := DueR ((s : Rat) + wd pt p q)) ?_ fun r1 h1 => ?_
      · refine .step g2 (.one (.step g3 (.step g4 (.one (.bind (l_on_any z1 z2 hp) fun b _ => .iteB (fun _ => .pure rfl) fun _ => ?_)))))
        refine l_test_ok z1 z2 hp eh ?_
        refine .bind (P := fun t1 : Int => (t1 : Rat) = (s : Rat) + if up1 pt p q then 1 else 0) (.ite (fun c => .one (.pure ?_)) fun c => .pure ?_) fun t1 h1 => ?_
        · rw [if_pos c, Rat.intCast_add]; rfl
        · rw [if_neg c]; grind
        · refine l_test_ok z2 z1 hp eh (.ite (fun c => .one (.pure ?_)) fun c => .pure ?_)
          · show ((t1 - 1 : Int) : Rat) = _
            rw [Rat.intCast_sub, h1]
            unfold wd
            rw [if_pos c]
            have : ((1 : Int) : Rat) = 1 := rfl
            rw [this]; grind
          · show ((t1 : Int) : Rat) = _
            rw [h1]
            unfold wd
            rw [if_neg c]; grind
      · cases r1 with
        | inl t =>
          have h1 : (t : Rat) = (s : Rat) + wd pt p q := h1
          have := ih (i + 1) t fun j => by
            have := hx (j + 1)
            rw [List.getElem?_cons_succ] at this
            rw [this, show i + (j + 1) = i + 1 + j by omega]
          refine this.mono fun y hy => ?_
          have e : (t : Rat) + sumQ (((edges r).drop (i + 1)).map fun e => wd pt e.1 e.2) = (s : Rat) + sumQ (((p, q) :: (edges r).drop (i + 1)).map fun e => wd pt e.1 e.2) := by
            show _ = _ + (wd pt p q + _)
            rw [h1]; grind
          rw [← e]; exact hy
        | inr o => exact .pure h1
  have all : ∀ (rs : List (List Pt)) (s : Int), (∀ r ∈ rs, (∀ p ∈ r, P6 p) ∧ r.length < 1000) → Ok (R.forX (fun (x6 : (List (Rat × Rat))) (s7 : Int) => (R.bind (rngR 0 ((x6.length : Int))) fun r8 => R.bind (R.forX (fun (x9 : Int) (s10 : Int) => (R.bind (atR x6 x9) fun it11 => R.bind (R.ok it11) fun one12 => R.bind (fmodR ((x9 + (1 : Int))) ((x6.length : Int))) fun m13 => R.bind (atR x6 m13) fun it14 => R.bind (R.ok it14) fun other15 => R.bind (l_on one12 other15 pt) fun o16 => if o16 = true then (R.ok (Sum.inr ((none : (Option Int))))) else (R.bind (l_by one12.2) fun b17 => R.bind (R.andR ((decide (b17 > h))) (R.bind (l_by other15.2) fun b18 => R.bind (R.andR ((decide (b18 ≤ h))) (R.bind (l_cross other15 one12 pt) fun c19 => R.ok ((decide (c19 > (0 : Int)))))) fun b20 => R.ok b20)) fun b21 => R.bind (if b21 = true then (R.bind (R.ok ((s10 + (1 : Int)))) fun some23 => R.ok some23) else (R.ok s10) : R Int) fun st22 => R.bind (l_by other15.2) fun b24 => R.bind (R.andR ((decide (b24 > h))) (R.bind (l_by one12.2) fun b25 => R.bind (R.andR ((decide (b25 ≤ h))) (R.bind (l_cross one12 other15 pt) fun c26 => R.ok ((decide (c26 > (0 : Int)))))) fun b27 => R.ok b27)) fun b28 => if b28 = true then (R.bind (R.ok ((st22 - (1 : Int)))) fun some29 => R.ok (Sum.inl some29)) else (R.ok (Sum.inl st22))) : R (Sum Int ((Option Int))))) r8 s7) fun r30 => R.caseX r30 (fun s31 => R.ok (Sum.inl s31)) (fun b32 => R.ok (Sum.inr b32)) : R (Sum Int ((Option Int))))) rs s) (DueR ((s : Rat) + wind pt rs)) := by
    intro rs
    induction rs with
    | nil => intro s _; exact .pure (by show (s : Rat) = s + 0; grind)
    | cons r rs ih =>
      intro s hr
      have h1 := hr r List.mem_cons_self
      unfold R.forX
      refine .bind (P := DueR ((s : Rat) + cyc (wd pt) r)) ?_ fun r1 hr1 => ?_
      · refine .step (rngR_ok (by decide) (by decide) (by omega) (by omega)) ?_
        refine .bind (ring r h1.1 h1.2 _ 0 s fun j => ?_) fun y hy => ?_
        · rw [List.getElem?_map]
          by_cases c : j < r.length
          · rw [List.getElem?_range (by omega), if_pos (by omega)]; simp
          · rw [List.getElem?_eq_none (by simp; omega), if_neg (by omega)]; rfl
        · rw [List.drop_zero] at hy
          cases y with
          | inl t => exact .pure hy
          | inr o => exact .pure hy
      · cases r1 with
        | inl t =>
          have hr1 : (t : Rat) = (s : Rat) + cyc (wd pt) r := hr1
          refine (ih t fun y hy => hr y (List.mem_cons_of_mem _ hy)).mono fun y hy => ?_
          have e : (t : Rat) + wind pt rs = (s : Rat) + wind pt (r :: rs) := by
            show _ = (s : Rat) + (cyc (wd pt) r + wind pt rs)
            rw [hr1]; grind
          rw [← e]; exact hy
        | inr o => exact .pure hr1
  refine .bind (all sh 0 hs) fun r hr => ?_
  cases r with
  | inl s =>
    refine .pure fun n e => ?_
    have e := Option.some.inj e
    subst e
    have hr : (s : Rat) = ((0 : Int) : Rat) + wind pt sh := hr
    have z : ((0 : Int) : Rat) = 0 := rfl
    rw [hr, z]; grind
  | inr o =>
    have hr : o = none := hr
    refine .pure fun n e => ?_
    rw [hr] at e; cases e
theorem l_winds_ok {n : Nat} {sh : List (List Pt)} {pt : Pt} (hs : ∀ r ∈ sh, SR n r ∧ r.length < 1000) (hl : sh.length < 1000) (hp : SP n pt) (h : 8 * n + 20 < 134000000) {d : Int} (hd : (d : Rat) = wind pt sh) : l_winds sh pt d = .ok true := by
  unfold l_winds
  have em : R.compR (fun x13 : List (Rat × Rat) => R.ok x13) sh = .ok sh := compR_ok (by omega) (by have h := mapR_ok (f := fun x13 : List (Rat × Rat) => R.ok x13) (g := id) (xs := sh) (fun x _ => rfl); rwa [List.map_id] at h)
  refine Ok.true (.step em (.one (.bind (p_winding_ok hs hp h) fun z hz => .one (.step (l_whole_ok z) (.pure ?_)))))
  have e : z = d := Rat.intCast_inj.mp (by rw [hz, hd])
  rw [e, decide_eq_true rfl, decide_eq_true rfl]; rfl
theorem wind_rev (pt : Pt) : ∀ sh : List (List Pt), wind pt (sh.map List.reverse) = -wind pt sh
  | [] => by show (0 : Rat) = -0; grind
  | r :: rs => by
    show cyc (wd pt) r.reverse + wind pt (rs.map List.reverse) = -(cyc (wd pt) r + wind pt rs)
    rw [cyc_rev (wd_anti pt), wind_rev pt rs]; grind
theorem back_ok {r : List Pt} (hl : r.length < 1000) : (R.bind (rngR 0 ((r.length : Int))) fun r32 => R.bind (R.compR (fun x33 => R.bind (atR r ((((r.length : Int) - (1 : Int)) - x33))) fun it34 => R.ok it34) r32) fun c35 => R.ok c35) = .ok r.reverse := by
  have hlen : ((List.range ((r.length : Int) - 0).toNat).map fun k => (0 : Int) + (k : Nat)).length = r.length := by simp
  have key : Ok (R.bind (rngR 0 ((r.length : Int))) fun r32 => R.bind (R.compR (fun x33 => R.bind (atR r ((((r.length : Int) - (1 : Int)) - x33))) fun it34 => R.ok it34) r32) fun c35 => R.ok c35) (· = r.reverse) := by
    refine .step (rngR_ok (by decide) (by decide) (by omega) (by omega)) (.bind ?_ fun b h => .pure h)
    refine (Ok.compR (P := fun (x : Int) (p : Pt) => r[(r.length - 1 - x.toNat : Nat)]? = some p) (by rw [hlen]; omega) fun x hx => ?_).mono fun b hb => ?_
    · have hx := rng_mem hx
      obtain ⟨p, g, a⟩ := atR_int (xs := r) (i := (r.length : Int) - 1 - x) (by omega) (by omega)
      refine .step a (.pure ?_)
      have e : r.length - 1 - x.toNat = ((r.length : Int) - 1 - x).toNat := by omega
      rw [e]; exact g
    · rw [hlen] at hb
      apply List.ext_getElem?
      intro i
      by_cases hi : i < r.length
      · have h1 : b[i]? = some b[i] := List.getElem?_eq_getElem (by omega)
        have h2 := hb.2 i (0 + (i : Nat) : Int) b[i] (by simp [hi]) h1
        have e : r.length - 1 - (0 + (i : Nat) : Int).toNat = r.length - 1 - i := by omega
        rw [e] at h2
        rw [h1, List.getElem?_reverse hi, h2]
      · rw [List.getElem?_eq_none (by omega), List.getElem?_eq_none (by simp; omega)]
  obtain ⟨a, e1, e2⟩ := key
  rw [e1, e2]
theorem l_rings_ok {ns : List Int} (hb : Bits ns) : Ok (l_rings ns) (fun sh => sh.length ≤ 4 ∧ ∀ r ∈ sh, (∀ p ∈ r, P6 p) ∧ r.length < 1000) := by
  unfold l_rings
  obtain ⟨c0, e0, _⟩ := l_cell_ok hb (k := 0) (by decide) (by decide)
  have m1 := Int.emod_nonneg c0 (show (4 : Int) ≠ 0 by decide)
  have m2 := Int.emod_lt_of_pos c0 (show (0 : Int) < 4 by decide)
  refine .one (.step e0 (.one (.step (rngR_ok (by decide) (by decide) (by omega) (by omega)) ?_)))
  refine .bind (.forR (fun i s => s.2.length = i ∧ ∀ r ∈ s.2, (∀ p ∈ r, P6 p) ∧ r.length < 1000) ⟨rfl, fun r hr => nomatch hr⟩ fun i s x hs hx => ?_) fun s hs => .pure ⟨by rw [hs.1]; simp; omega, hs.2⟩
  obtain ⟨ex, hx3⟩ := rng_at hx
  have q1 := Int.emod_nonneg (s.1 / 4) (show (7 : Int) ≠ 0 by decide)
  have q2 := Int.emod_lt_of_pos (s.1 / 4) (show (0 : Int) < 7 by decide)
  refine .one (.step (rngR_ok (by decide) (by decide) (by omega) (by omega)) ?_)
  refine .bind (.forR (fun j f => f.length = j ∧ ∀ x ∈ f, P6 x) ⟨rfl, fun x hx => nomatch hx⟩ fun j f y hf hy => ?_) fun f hf => ?_
  · obtain ⟨ey, hy3⟩ := rng_at hy
    have m14 : ∀ {β : Type} (g : Int → R β), R.bind (mulR 14 x) g = g (14 * x) := fun g => by rw [mulR_ok (a := 4) (b := 10) (by decide) (by unfold S; omega) (by decide), bind_ok]
    have m2 : ∀ {β : Type} (g : Int → R β), R.bind (mulR 2 y) g = g (2 * y) := fun g => by rw [mulR_ok (a := 2) (b := 10) (by decide) (by unfold S; omega) (by decide), bind_ok]
    obtain ⟨c, ec, _⟩ := l_cell_ok hb (k := 4 + 14 * x + 2 * y) (by omega) (by omega)
    obtain ⟨d, ed, _⟩ := l_cell_ok hb (k := 5 + 14 * x + 2 * y) (by omega) (by omega)
    rw [m14, m2]
    refine .step ec (.bind (l_number3_ok c) fun p hp => .one ?_)
    rw [m14, m2]
    refine .step ed (.bind (l_number3_ok d) fun q hq => .one (.step (appR_ok (by rw [hf.1]; omega)) (.pure ⟨by simp [hf.1], fun y hy => ?_⟩)))
    rcases List.mem_append.mp hy with h | h
    · exact hf.2 y h
    · simp at h; subst h; exact ⟨hp, hq⟩
  · refine .step (appR_ok (by rw [hs.1]; omega)) (.one (.pure ⟨by simp [hs.1], fun y hy => ?_⟩))
    rcases List.mem_append.mp hy with h | h
    · exact hs.2 y h
    · simp at h; subst h; exact ⟨hf.2, by rw [hf.1]; simp; omega⟩
theorem k18_ok : ∀ ns : List Int, ns.length ≤ 63 → (∀ z ∈ ns, z.natAbs.log2 ≤ 1048576) → k18_law ns = .ok true := fun ns hl hb => by
  unfold k18_law
  obtain ⟨c1, e1, _⟩ := l_cell_ok hb (k := 1) (by decide) (by decide)
  obtain ⟨c2, e2, _⟩ := l_cell_ok hb (k := 2) (by decide) (by decide)
  obtain ⟨c3, e3, _⟩ := l_cell_ok hb (k := 3) (by decide) (by decide)
  refine Ok.true (.bind (l_rings_ok hb) fun sh hsh => .one (.step e1 (.bind (l_number3_ok c1) fun p hp => .step e2 (.bind (l_number3_ok c2) fun q hq => .one (.step e3 ?_)))))
  have hf : ∀ c : Int, Ok (R.bind (mulR ((2 : Int)) ((c % (8 : Int)))) fun p12 => l_ratio ((p12 + (1 : Int))) ((2 : Int))) N6 := fun c => by
    have m1 := Int.emod_nonneg c (show (8 : Int) ≠ 0 by decide)
    have m2 := Int.emod_lt_of_pos c (show (0 : Int) < 8 by decide)
    refine .step (mulR_ok (a := 2) (b := 4) (by decide) (by unfold S; omega) (by decide)) (.eq (l_ratio_ok (by decide)) ⟨SQ_divInt (by decide) (by unfold S; omega) (by decide), Nat.dvd_trans (den_dvd (by decide)) (by decide)⟩)
  refine .bind (P := P6) (.ite (fun _ => ?_) fun _ => .pure ⟨hp, hq⟩) fun pt hpt => ?_
  · obtain ⟨a, ea, ha⟩ := hf c1
    obtain ⟨b, eb, hb2⟩ := hf c2
    have s1 : ∀ (c : Int) (a : Rat), (R.bind (mulR ((2 : Int)) ((c % (8 : Int)))) fun p12 => l_ratio ((p12 + (1 : Int))) ((2 : Int))) = .ok a → ∀ {β : Type} (k : Rat → R β), (R.bind (mulR ((2 : Int)) ((c % (8 : Int)))) fun p12 => R.bind (l_ratio ((p12 + (1 : Int))) ((2 : Int))) k) = k a := fun c a e β k => by
      have : (R.bind (mulR ((2 : Int)) ((c % (8 : Int)))) fun p12 => R.bind (l_ratio ((p12 + (1 : Int))) ((2 : Int))) k) = R.bind (R.bind (mulR ((2 : Int)) ((c % (8 : Int)))) fun p12 => l_ratio ((p12 + (1 : Int))) ((2 : Int))) k := by
        cases mulR ((2 : Int)) ((c % (8 : Int))) <;> rfl
      rw [this, e]; rfl
    refine .step e1 ?_
    rw [s1 c1 a ea]
    refine .step e2 ?_
    rw [s1 c2 b eb]
    exact .one (.pure ⟨ha, hb2⟩)
  · have hs2 : ∀ r ∈ sh, SR 50 r ∧ r.length < 1000 := fun r hr => ⟨fun p hp => ((hsh.2 r hr).1 p hp).sp, (hsh.2 r hr).2⟩
    refine .bind (l_due_ok' hsh.2 hpt) fun o ho => .one (.step (l_winds_ok (n := 50) (sh := []) (fun r hr => nomatch hr) (by decide) hpt.sp (by decide) rfl) ?_)
    rw [Bool.not_true, if_ok_f]
    cases o with
    | none => exact .pure rfl
    | some d =>
      have hd := ho d rfl
      show Ok (if false = true then _ else _) _
      rw [if_ok_f]
      refine .one ?_
      refine .bind (.forX (fun i s => ((s : Int) : Rat) = wind pt (sh.take i)) (by show ((0 : Int) : Rat) = 0; rfl) fun i s r hw hx => ?_) fun r hr => ?_
      · have hr := hs2 r (List.mem_of_getElem? hx)
        refine .bind (p_winding_ok (sh := [r]) (fun y hy => by simp at hy; subst hy; exact hr) hpt.sp (by decide)) fun z hz => .one (.step (l_whole_ok z) ?_)
        rw [Bool.not_true, if_ok_f]
        refine .one (.pure ⟨_, rfl, ?_⟩)
        rw [Rat.intCast_add, hw, hz]
        unfold wind
        rw [take_more hx, List.map_append, sumQ_append]
      · obtain ⟨s, e, hw⟩ := hr
        rw [e, caseX_l]
        rw [List.take_length] at hw
        have es : s = d := Rat.intCast_inj.mp (by rw [hw, hd])
        refine .step (compR_ok (by omega) (mapR_ok (g := List.reverse) fun r hr => back_ok (hs2 r hr).2)) (.one (.step (a := d) rfl ?_))
        rw [decide_eq_true es, andR_t]
        refine .bind (P := (· = true)) (.step (a := d) rfl (.step (l_winds_ok hs2 (by omega) hpt.sp (by decide) hd) (.bind (P := (· = true)) ?_ fun b h => .pure h))) fun b h => .pure h
        rw [andR_t]
        refine .step (a := d) rfl (.step (l_winds_ok (n := 50) (fun r hr => ?_) (by rw [List.length_map]; omega) hpt.sp (by decide) ?_) (.pure rfl))
        · obtain ⟨r0, h0, rfl⟩ := List.mem_map.mp hr
          exact ⟨SR_sub (hs2 r0 h0).1 fun p hp => List.mem_reverse.mp hp, by rw [List.length_reverse]; exact (hs2 r0 h0).2⟩
        · rw [wind_rev, Rat.intCast_neg, hd]
end Pg

set_option Elab.async false
set_option linter.all false
set_option maxRecDepth 100000
namespace Pg
/-! ### the shares of a shape, as sums over its sides -/
def dueC (sh : List (List Pt)) (k r : Nat) : Rat := sumQ (sh.map (cyc (Fc k r)))
theorem dueC_append (a b : List (List Pt)) (k r : Nat) : dueC (a ++ b) k r = dueC a k r + dueC b k r := by unfold dueC; rw [List.map_append, sumQ_append]
theorem dueC_nil (k r : Nat) : dueC [] k r = 0 := rfl
theorem dueC_rev : ∀ (sh : List (List Pt)) (k r : Nat), dueC (sh.map List.reverse) k r = -dueC sh k r
  | [], k, r => by show (0 : Rat) = -0; grind
  | x :: xs, k, r => by
    show cyc (Fc k r) x.reverse + dueC (xs.map List.reverse) k r = -(cyc (Fc k r) x + dueC xs k r)
    rw [cyc_rev (Fw_anti _ _ _ _), dueC_rev xs]; grind
theorem tab_congr {w h : Nat} {f g : Nat → Nat → Rat} (e : ∀ r k, r < h → k < w → f r k = g r k) : tab w h f = tab w h g := by
  unfold tab rowT
  refine List.map_congr_left fun r hr => List.map_congr_left fun k hk => e r k ?_ ?_
  · exact List.mem_range.mp hr
  · exact List.mem_range.mp hk
theorem SQ_pc {n : Nat} {c : Pc} (h : SC n c) (k r : Nat) : SQ (6 * n + 40) (pcQ k r c) := by
  unfold pcQ
  have a : SQ (2 * n + 1) (if c.2.1 = (r : Int) ∧ c.1 < (k : Int) then fallQ c else 0) := by
    split
    · exact SQ_fall h
    · exact SQ_zero _
  have b : SQ (4 * n + 30) (if c.2.1 = (r : Int) ∧ c.1 = (k : Int) then rightV c else 0) := by
    split
    · exact SQ_right h
    · exact SQ_zero _
  exact (a.add b).mono (by omega)
theorem SQ_dueQ {n m : Nat} {ps : List Pc} (h : ∀ c ∈ ps, SC n c) (h1 : ∀ c ∈ ps, -1 ≤ c.1) (hm : (6 * n + 41) * ps.length + 1 ≤ m) (k r : Nat) : SQ m (dueQ ps k r) := by
  rw [dueQ_sum h1]
  refine (SQ_sum (m := 6 * n + 40) fun x hx => ?_).mono (by rw [List.length_map]; exact hm)
  obtain ⟨c, hc, rfl⟩ := List.mem_map.mp hx
  exact SQ_pc (h c hc) k r
theorem shares_ok {w h n : Nat} {sh : List (List Pt)} (hw : w ≤ 13) (hh : h ≤ 20) (hn : n < 100) (hs : ∀ r ∈ sh, SR n r) (hl : many sh ≤ 19) :
    p_shares (w : Int) (h : Int) sh = .ok (tab w h fun r k => dueC sh k r) ∧ ∀ k r, k < w → r < h → SQ 8000000 (dueC sh k r) := by
  have on := allP_on (w := w) (h := h) (by omega) (by omega) hs
  have len := allP_len (w := w) (h := h) (by omega) (by omega) sh
  have e : ∀ k r, k < w → r < h → dueQ (allP w h sh) k r = dueC sh k r := fun k r hk hr => due_cyc hk hr sh fun c hc => (on c hc).2.1
  constructor
  · rw [p_shares_tab hw hh hn hs hl]
    congr 1
    exact tab_congr fun r k hr hk => e k r hk hr
  · intro k r hk hr
    rw [← e k r hk hr]
    refine SQ_dueQ (n := 6 * n + 10) (fun c hc => (on c hc).1) (fun c hc => (on c hc).2.1) ?_ k r
    have : (6 * (6 * n + 10) + 41) * (allP w h sh).length ≤ 3800 * 1900 := Nat.mul_le_mul (by omega) (by omega)
    omega
theorem P6_SR {r : List Pt} (h : ∀ p ∈ r, P6 p) : SR 50 r := fun p hp => (h p hp).sp
end Pg

set_option Elab.async false
set_option linter.all false
set_option maxRecDepth 100000
namespace Pg
/-! ### shapes whose points are carried off -/
theorem zipL_map {α β γ δ : Type} (f : α → γ) (g : β → δ) : ∀ (xs : List α) (ys : List β), zipL (xs.map f) (ys.map g) = (zipL xs ys).map fun e => (f e.1, g e.2)
  | [], _ => rfl
  | _ :: _, [] => rfl
  | x :: xs, y :: ys => by
    show (f x, g y) :: zipL (xs.map f) (ys.map g) = (f x, g y) :: _
    rw [zipL_map f g xs ys]
theorem edges_map (f : Pt → Pt) (r : List Pt) : edges (r.map f) = (edges r).map fun e => (f e.1, f e.2) := by
  unfold edges
  have : rot (r.map f) = (rot r).map f := by unfold rot; simp
  rw [this, zipL_map]
theorem cyc_map (c : Pt → Pt → Rat) (f : Pt → Pt) (r : List Pt) : cyc c (r.map f) = cyc (fun u v => c (f u) (f v)) r := by
  unfold cyc
  rw [edges_map, List.map_map]; rfl
def mapS (f : Pt → Pt) (sh : List (List Pt)) : List (List Pt) := sh.map (·.map f)
theorem mapS_many (f : Pt → Pt) (sh : List (List Pt)) : many (mapS f sh) = many sh := by
  unfold many mapS
  rw [List.map_map]
  congr 1
  exact List.map_congr_left fun r _ => List.length_map ..
theorem mapS_len (f : Pt → Pt) (sh : List (List Pt)) : (mapS f sh).length = sh.length := List.length_map ..
theorem mapS_SR {n m : Nat} {f : Pt → Pt} {sh : List (List Pt)} (hs : ∀ r ∈ sh, SR n r) (hf : ∀ p, SP n p → SP m (f p)) : ∀ r ∈ mapS f sh, SR m r := fun r hr => by
  obtain ⟨r0, h0, rfl⟩ := List.mem_map.mp hr
  intro p hp
  obtain ⟨p0, g0, rfl⟩ := List.mem_map.mp hp
  exact hf p0 (hs r0 h0 p0 g0)
theorem mapS_id {f : Pt → Pt} {sh : List (List Pt)} (h : ∀ p, f p = p) : mapS f sh = sh := by
  have : f = id := funext h
  subst this
  unfold mapS
  simp
theorem dueC_map (f : Pt → Pt) (sh : List (List Pt)) (k r : Nat) : dueC (mapS f sh) k r = sumQ (sh.map (cyc fun u v => Fc k r (f u) (f v))) := by
  unfold dueC mapS
  rw [List.map_map]
  congr 1
  exact List.map_congr_left fun x _ => cyc_map _ f x
/-- a carrying off that keeps segments -/
def Aff (f : Pt → Pt) : Prop := ∀ u v t, at_ (f u, f v) t = f (at_ (u, v) t)
theorem Add.comp {c : Pt → Pt → Rat} (hc : Add c) {f : Pt → Pt} (hf : Aff f) : Add fun u v => c (f u) (f v) := fun u v t a b => by
  have := hc (f u) (f v) t a b
  rw [hf] at this
  exact this
theorem ext_all {f g : Pt → Pt → Rat} (hf : Add f) (hg : Add g) (ls : List Ln) (h : ∀ u v, Sim ls u v → f u v = g u v) (u v : Pt) : f u v = g u v :=
  Add.ext hf hg flat_all ls (fun u v _ _ hs => h u v hs) u v trivial trivial
/-! what `Sim` says of lines along the axes -/
def SX (a : Rat) (u v : Pt) : Prop := (u.1 ≤ a ∧ v.1 ≤ a) ∨ (a ≤ u.1 ∧ a ≤ v.1)
def SY (a : Rat) (u v : Pt) : Prop := (u.2 ≤ a ∧ v.2 ≤ a) ∨ (a ≤ u.2 ∧ a ≤ v.2)
theorem Sim.x {ls : List Ln} {u v : Pt} (h : Sim ls u v) {a : Rat} (hl : lnR a ∈ ls) : SX a u v := sim_x (h _ hl)
theorem Sim.y {ls : List Ln} {u v : Pt} (h : Sim ls u v) {a : Rat} (hl : lnT a ∈ ls) : SY a u v := sim_y (h _ hl)
theorem Fw_S {L R B T : Rat} (hLR : L ≤ R) (hBT : B ≤ T) {u v : Pt} (s1 : SY B u v) (s2 : SY T u v) (s3 : SX R u v) (s4 : SX L u v) :
    Fw L R B T u v = (tu B T v - tu B T u) * ((sg L R u + sg L R v) * (1 / 2) - R) := Fw_sim hLR hBT s1 s2 s3 s4
/-! ### windows side by side -/
theorem clamp_add {x a m b : Rat} (h1 : a ≤ m) (h2 : m ≤ b) : clampQ x a m + clampQ x m b = clampQ x a b + m := by
  unfold clampQ
  by_cases c1 : x < a <;> by_cases c2 : x < m <;> by_cases c3 : m < x <;> by_cases c4 : b < x <;> simp only [c1, c2, c3, c4, if_true, if_false] <;> grind
theorem Fw_splitx {L M R B T : Rat} (h1 : L ≤ M) (h2 : M ≤ R) (h3 : B ≤ T) (u v : Pt) : Fw L M B T u v + Fw M R B T u v = Fw L R B T u v := by
  refine ext_all ((Fw_add _ _ _ _).plus (Fw_add _ _ _ _)) (Fw_add _ _ _ _) [lnR L, lnR M, lnR R, lnT B, lnT T] (fun u v hs => ?_) u v
  have a1 := hs.x (a := L) (by simp)
  have a2 := hs.x (a := M) (by simp)
  have a3 := hs.x (a := R) (by simp)
  have b1 := hs.y (a := B) (by simp)
  have b2 := hs.y (a := T) (by simp)
  rw [Fw_S h1 h3 b1 b2 a2 a1, Fw_S h2 h3 b1 b2 a3 a2, Fw_S (by grind) h3 b1 b2 a3 a1]
  have e1 : sg L M u + sg M R u = sg L R u + M := clamp_add h1 h2
  have e2 : sg L M v + sg M R v = sg L R v + M := clamp_add h1 h2
  grind
theorem Fw_splity {L R B M T : Rat} (h1 : B ≤ M) (h2 : M ≤ T) (h3 : L ≤ R) (u v : Pt) : Fw L R B M u v + Fw L R M T u v = Fw L R B T u v := by
  refine ext_all ((Fw_add _ _ _ _).plus (Fw_add _ _ _ _)) (Fw_add _ _ _ _) [lnT B, lnT M, lnT T, lnR L, lnR R] (fun u v hs => ?_) u v
  have a1 := hs.y (a := B) (by simp)
  have a2 := hs.y (a := M) (by simp)
  have a3 := hs.y (a := T) (by simp)
  have b1 := hs.x (a := L) (by simp)
  have b2 := hs.x (a := R) (by simp)
  rw [Fw_S h3 h1 a1 a2 b2 b1, Fw_S h3 h2 a2 a3 b2 b1, Fw_S h3 (by grind) a1 a3 b2 b1]
  have e1 : tu B M u + tu M T u = tu B T u + M := clamp_add h1 h2
  have e2 : tu B M v + tu M T v = tu B T v + M := clamp_add h1 h2
  grind
/-! ### carried across -/
theorem aff_move (a b : Rat) : Aff fun p => (p.1 + a, p.2 + b) := fun u v t => by unfold at_; ext <;> grind
theorem clamp_move (x l r a : Rat) : clampQ (x + a) (l + a) (r + a) = clampQ x l r + a := by
  unfold clampQ
  split <;> split <;> (try split) <;> (try split) <;> grind
theorem Fw_move {L R B T : Rat} (h1 : L ≤ R) (h2 : B ≤ T) (a b : Rat) (u v : Pt) : Fw (L + a) (R + a) (B + b) (T + b) (u.1 + a, u.2 + b) (v.1 + a, v.2 + b) = Fw L R B T u v := by
  refine ext_all ((Fw_add (L + a) (R + a) (B + b) (T + b)).comp (aff_move a b)) (Fw_add _ _ _ _) [lnR L, lnR R, lnT B, lnT T] (fun u v hs => ?_) u v
  have a1 := hs.x (a := L) (by simp)
  have a2 := hs.x (a := R) (by simp)
  have b1 := hs.y (a := B) (by simp)
  have b2 := hs.y (a := T) (by simp)
  unfold SX at a1 a2
  unfold SY at b1 b2
  rw [Fw_S h1 h2 b1 b2 a2 a1, Fw_S (by grind) (by grind) (by unfold SY; grind) (by unfold SY; grind) (by unfold SX; grind) (by unfold SX; grind)]
  unfold sg tu
  simp only [clamp_move]
  grind
/-! ### made smaller -/
theorem aff_scale (k : Rat) : Aff fun p => (p.1 * k, p.2 * k) := fun u v t => by unfold at_; ext <;> grind
theorem mul_lt_iff {x y k : Rat} (h : 0 < k) : x * k < y * k ↔ x < y := by
  constructor
  · intro z
    by_cases c : x < y
    · exact c
    · have := Rat.mul_le_mul_of_nonneg_right (show y ≤ x by grind) (show 0 ≤ k by grind)
      grind
  · exact fun z => Rat.mul_lt_mul_of_pos_right z h
theorem mul_le_iff {x y k : Rat} (h : 0 < k) : x * k ≤ y * k ↔ x ≤ y := by
  have := mul_lt_iff (x := y) (y := x) h
  grind
theorem clamp_scale (x l r : Rat) {k : Rat} (h : 0 < k) : clampQ (x * k) (l * k) (r * k) = clampQ x l r * k := by
  unfold clampQ
  simp only [mul_lt_iff h]
  split
  · rfl
  · split <;> rfl
theorem Fw_scale {L R B T : Rat} (h1 : L ≤ R) (h2 : B ≤ T) {k : Rat} (hk : 0 < k) (u v : Pt) : Fw (L * k) (R * k) (B * k) (T * k) (u.1 * k, u.2 * k) (v.1 * k, v.2 * k) = k * k * Fw L R B T u v := by
  refine ext_all ((Fw_add (L * k) (R * k) (B * k) (T * k)).comp (aff_scale k)) ((Fw_add _ _ _ _).scale _) [lnR L, lnR R, lnT B, lnT T] (fun u v hs => ?_) u v
  have a1 := hs.x (a := L) (by simp)
  have a2 := hs.x (a := R) (by simp)
  have b1 := hs.y (a := B) (by simp)
  have b2 := hs.y (a := T) (by simp)
  rw [Fw_S h1 h2 b1 b2 a2 a1]
  unfold SX at a1 a2
  unfold SY at b1 b2
  rw [Fw_S ((mul_le_iff hk).mpr h1) ((mul_le_iff hk).mpr h2) (by unfold SY; simp only [mul_le_iff hk]; exact b1) (by unfold SY; simp only [mul_le_iff hk]; exact b2) (by unfold SX; simp only [mul_le_iff hk]; exact a2) (by unfold SX; simp only [mul_le_iff hk]; exact a1)]
  unfold sg tu
  simp only [clamp_scale _ _ _ hk]
  grind
end Pg

set_option Elab.async false
set_option linter.all false
namespace Pg

/-! mirrors of the defs of k20, printed by pygen -/
def p_turned_round (shape1 : (List (List (Rat × Rat)))) : R ((List (List (Rat × Rat)))) :=
  R.bind (R.compR (fun x2 =>  R.ok x2.reverse) shape1) fun c3 =>
  R.ok c3
def l_ring_4 (script1 : (List Int)) (at2 : Int) (many3 : Int) : R ((List (Rat × Rat))) :=
  R.bind (R.ok (([] : (List (Rat × Rat))))) fun ring4 =>
  R.bind (rngR 0 many3) fun r5 =>
  R.bind (R.forR (fun (x6 : Int) (s7 : (List (Rat × Rat))) => R.bind (mulR ((2 : Int)) x6) fun p8 => R.bind (l_cell script1 ((at2 + p8))) fun c9 => R.bind (l_number_3 c9) fun n10 => R.bind (R.ok n10) fun x11 => R.bind (mulR ((2 : Int)) x6) fun p12 => R.bind (l_cell script1 (((at2 + p12) + (1 : Int)))) fun c13 => R.bind (l_number_3 c13) fun n14 => R.bind (R.ok n14) fun y15 => R.bind (appR s7 ((x11, y15))) fun ring16 => R.ok ring16) r5 ring4) fun s17 =>
  R.ok s17
def l_shape_2 (script1 : (List Int)) (at2 : Int) : R ((List (List (Rat × Rat)))) :=
  R.bind (l_cell script1 at2) fun c3 =>
  R.bind (R.ok c3) fun sizes4 =>
  R.bind (R.ok (([] : (List (List (Rat × Rat)))))) fun shape5 =>
  R.bind (rngR 0 ((sizes4 % (3 : Int)))) fun r6 =>
  R.bind (R.forR (fun (x7 : Int) (s8 : (Int × (List (List (Rat × Rat))))) => R.bind (mulR ((8 : Int)) x7) fun p9 => R.bind (atR ([(3 : Int), (4 : Int), (2 : Int), (3 : Int), (4 : Int), (1 : Int), (0 : Int)]) (((s8.1 / (3 : Int)) % (7 : Int)))) fun it10 => R.bind (l_ring_4 script1 (((at2 + (1 : Int)) + p9)) it10) fun r11 => R.bind (appR s8.2 r11) fun shape12 => R.bind (R.ok ((s8.1 / (7 : Int)))) fun sizes13 => R.ok ((sizes13, shape12))) r6 ((sizes4, shape5))) fun s14 =>
  R.ok s14.2
def l_plus_3 (one1 : Rat) (other2 : Rat) : R Rat :=
  R.bind (mulR one1.num ((other2.den : Int))) fun p3 =>
  R.bind (mulR other2.num ((one1.den : Int))) fun p4 =>
  R.bind (mulR ((one1.den : Int)) ((other2.den : Int))) fun p5 =>
  R.bind (l_ratio ((p3 + p4)) p5) fun r6 =>
  R.ok r6
def l_minus_3 (one1 : Rat) (other2 : Rat) : R Rat :=
  R.bind (mulR one1.num ((other2.den : Int))) fun p3 =>
  R.bind (mulR other2.num ((one1.den : Int))) fun p4 =>
  R.bind (mulR ((one1.den : Int)) ((other2.den : Int))) fun p5 =>
  R.bind (l_ratio ((p3 - p4)) p5) fun r6 =>
  R.ok r6
def l_times_3 (one1 : Rat) (other2 : Rat) : R Rat :=
  R.bind (mulR one1.num other2.num) fun p3 =>
  R.bind (mulR ((one1.den : Int)) ((other2.den : Int))) fun p4 =>
  R.bind (l_ratio p3 p4) fun r5 =>
  R.ok r5
def l_table (found1 : (List (List Rat))) (width2 : Int) (height3 : Int) : R Bool :=
  if ((!true) || (!decide ((found1.length : Int) = height3))) = true then (R.ok false) else (R.bind (R.forX (fun (x4 : (List Rat)) (s5 : Unit) => (if ((!true) || (!decide ((x4.length : Int) = width2))) = true then (R.ok (Sum.inr false)) else (R.bind (R.forX (fun (x6 : Rat) (s7 : Unit) => (R.bind (R.orR ((!true)) (R.bind (R.orR ((!decide ((2 : Int) = (2 : Int)))) (R.bind (l_is x6 x6.num ((x6.den : Int))) fun i8 => R.ok ((!i8)))) fun b9 => R.ok b9)) fun b10 => if b10 = true then (R.ok (Sum.inr false)) else (R.ok (Sum.inl (()))) : R (Sum Unit Bool))) x4 (())) fun r11 => R.caseX r11 (fun s12 => R.ok (Sum.inl (()))) (fun b13 => R.ok (Sum.inr b13))) : R (Sum Unit Bool))) found1 (())) fun r14 => R.caseX r14 (fun s15 => R.ok true) (fun b16 => R.ok b16))
def l_shape_is (found1 : (List (List (Rat × Rat)))) (due2 : (List (List (Rat × Rat)))) : R Bool :=
  if ((!true) || (!decide ((found1.length : Int) = (due2.length : Int)))) = true then (R.ok false) else (R.bind (rngR 0 ((due2.length : Int))) fun r3 => R.bind (R.forX (fun (x4 : Int) (s5 : Unit) => (R.bind (atR found1 x4) fun it6 => R.bind (R.orR ((!true)) (R.bind (atR found1 x4) fun it7 => R.bind (atR due2 x4) fun it8 => R.ok ((!decide ((it7.length : Int) = (it8.length : Int)))))) fun b9 => if b9 = true then (R.ok (Sum.inr false)) else (R.bind (atR due2 x4) fun it10 => R.bind (rngR 0 ((it10.length : Int))) fun r11 => R.bind (R.forX (fun (x12 : Int) (s13 : Unit) => (R.bind (atR found1 x4) fun it14 => R.bind (atR it14 x12) fun it15 => R.bind (R.ok it15) fun point16 => if ((!true) || (!decide ((2 : Int) = (2 : Int)))) = true then (R.ok (Sum.inr false)) else (R.bind (rngR 0 ((2 : Int))) fun r17 => R.bind (R.forX (fun (x18 : Int) (s19 : Unit) => (R.bind (atR ([point16.1, point16.2]) x18) fun it20 => R.bind (atR due2 x4) fun it21 => R.bind (atR it21 x12) fun it22 => R.bind (atR ([it22.1, it22.2]) x18) fun it23 => R.bind (atR due2 x4) fun it24 => R.bind (atR it24 x12) fun it25 => R.bind (atR ([it25.1, it25.2]) x18) fun it26 => R.bind (l_is it20 it23.num ((it26.den : Int))) fun i27 => if (!i27) = true then (R.ok (Sum.inr false)) else (R.ok (Sum.inl (()))) : R (Sum Unit Bool))) r17 (())) fun r28 => R.caseX r28 (fun s29 => R.ok (Sum.inl (()))) (fun b30 => R.ok (Sum.inr b30))) : R (Sum Unit Bool))) r11 (())) fun r31 => R.caseX r31 (fun s32 => R.ok (Sum.inl (()))) (fun b33 => R.ok (Sum.inr b33))) : R (Sum Unit Bool))) r3 (())) fun r34 => R.caseX r34 (fun s35 => R.ok true) (fun b36 => R.ok b36))
def k20_law (script1 : (List Int)) : R Bool :=
  R.bind (l_cell script1 ((0 : Int))) fun c2 =>
  R.bind (R.ok (((1 : Int) + (c2 % (3 : Int))))) fun width3 =>
  R.bind (l_cell script1 ((0 : Int))) fun c4 =>
  R.bind (R.ok (((1 : Int) + ((c4 / (3 : Int)) % (3 : Int))))) fun height5 =>
  R.bind (l_shape_2 script1 ((1 : Int))) fun s6 =>
  R.bind (R.ok s6) fun one7 =>
  R.bind (l_shape_2 script1 ((20 : Int))) fun s8 =>
  R.bind (R.ok s8) fun other9 =>
  R.bind (R.compR (fun x10 =>  R.ok x10) one7) fun c11 =>
  R.bind (R.ok c11) fun handed12 =>
  R.bind (R.compR (fun x13 => R.bind (rngR 0 ((x13.length : Int))) fun r14 => R.bind (R.compR (fun x15 => R.bind (atR x13 ((((x13.length : Int) - (1 : Int)) - x15))) fun it16 => R.ok it16) r14) fun c17 => R.ok c17) one7) fun c18 =>
  R.bind (R.ok c18) fun due19 =>
  R.bind (p_turned_round handed12) fun turned20 =>
  R.bind (R.ok turned20) fun back21 =>
  R.bind (l_shape_is back21 due19) fun s22 =>
  if ((!s22) || (!decide (handed12 = one7))) = true then (R.ok false) else (R.bind (p_shares width3 height5 handed12) fun shares23 => R.bind (R.ok shares23) fun first24 => R.bind (p_shares width3 height5 back21) fun shares25 => R.bind (R.ok shares25) fun turn26 => R.bind (R.compR (fun x27 =>  R.ok x27) other9) fun c28 => R.bind (p_shares width3 height5 c28) fun shares29 => R.bind (R.ok shares29) fun second30 => R.bind (catR one7 other9) fun c31 => R.bind (R.compR (fun x32 =>  R.ok x32) c31) fun c33 => R.bind (p_shares width3 height5 c33) fun shares34 => R.bind (R.ok shares34) fun both35 => R.bind (p_shares width3 height5 (([] : (List (List (Rat × Rat)))))) fun shares36 => R.bind (R.ok shares36) fun none37 => R.bind (R.forX (fun (x38 : (List (List Rat))) (s39 : Unit) => (R.bind (l_table x38 width3 height5) fun t40 => if (!t40) = true then (R.ok (Sum.inr false)) else (R.ok (Sum.inl (()))) : R (Sum Unit Bool))) ([first24, turn26, second30, both35, none37]) (())) fun r41 => R.caseX r41 (fun s42 => R.bind (rngR 0 height5) fun r44 => R.bind (R.forX (fun (x45 : Int) (s46 : Unit) => (R.bind (rngR 0 width3) fun r47 => R.bind (R.forX (fun (x48 : Int) (s49 : Unit) => (R.bind (atR first24 x45) fun it50 => R.bind (atR it50 x48) fun it51 => R.bind (atR second30 x45) fun it52 => R.bind (atR it52 x48) fun it53 => R.bind (l_plus_3 it51 it53) fun p54 => R.bind (R.ok p54) fun part55 => R.bind (atR both35 x45) fun it56 => R.bind (atR it56 x48) fun it57 => R.bind (R.orR ((!decide (it57 = part55))) (R.bind (atR none37 x45) fun it58 => R.bind (atR it58 x48) fun it59 => R.bind (mkQ ((0 : Int)) ((1 : Int))) fun q60 => R.ok ((!decide (it59 = q60))))) fun b61 => if b61 = true then (R.ok (Sum.inr false)) else (R.bind (atR turn26 x45) fun it62 => R.bind (atR it62 x48) fun it63 => R.bind (atR first24 x45) fun it64 => R.bind (atR it64 x48) fun it65 => R.bind (atR first24 x45) fun it66 => R.bind (atR it66 x48) fun it67 => R.bind (mkQ ((-it65.num)) ((it67.den : Int))) fun q68 => if (!decide (it63 = q68)) = true then (R.ok (Sum.inr false)) else (R.ok (Sum.inl (())))) : R (Sum Unit Bool))) r47 (())) fun r69 => R.caseX r69 (fun s70 => R.ok (Sum.inl (()))) (fun b71 => R.ok (Sum.inr b71)) : R (Sum Unit Bool))) r44 (())) fun r72 => R.caseX r72 (fun s73 => R.bind (appAllR ((back21.map (·.map some))) none) fun back75 => R.bind (appR back75 (([] : (List (Option (Rat × Rat)))))) fun back76 => R.bind (R.andR ((decide (handed12 = one7))) (R.bind (p_turned_round handed12) fun turned77 => R.bind (l_shape_is turned77 due19) fun s78 => R.ok s78)) fun b79 => R.ok b79) (fun b74 => R.ok b74)) (fun b43 => R.ok b43))
end Pg

set_option Elab.async false
set_option linter.all false
set_option maxRecDepth 100000
namespace Pg
theorem l_plus3_ok {n m : Nat} {p q : Rat} (hp : SQ n p) (hq : SQ m q) (h : n + m < 134000000) : l_plus_3 p q = .ok (p + q) := by
  unfold l_plus_3
  rw [mulR_ok hp.1 hq.2 h, bind_ok, mulR_ok hq.1 hp.2 (by omega), bind_ok, mulR_ok hp.2 hq.2 h, bind_ok, l_ratio_ok (dens_ne p q), bind_ok, ← add_divInt]
theorem l_minus3_ok {n m : Nat} {p q : Rat} (hp : SQ n p) (hq : SQ m q) (h : n + m < 134000000) : l_minus_3 p q = .ok (p - q) := by
  unfold l_minus_3
  rw [mulR_ok hp.1 hq.2 h, bind_ok, mulR_ok hq.1 hp.2 (by omega), bind_ok, mulR_ok hp.2 hq.2 h, bind_ok, l_ratio_ok (dens_ne p q), bind_ok, ← sub_divInt]
theorem l_times3_ok {n m : Nat} {p q : Rat} (hp : SQ n p) (hq : SQ m q) (h : n + m < 134000000) : l_times_3 p q = .ok (p * q) := by
  unfold l_times_3
  rw [mulR_ok hp.1 hq.1 h, bind_ok, mulR_ok hp.2 hq.2 h, bind_ok, l_ratio_ok (dens_ne p q), bind_ok, ← mul_divInt]
theorem l_ring4_ok {ns : List Int} (hb : Bits ns) {a n : Int} (h0 : 0 ≤ a) (h1 : a < 1000) (h2 : 0 ≤ n) (h3 : n ≤ 100) : Ok (l_ring_4 ns a n) (fun r => (r.length : Int) = n ∧ ∀ p ∈ r, P6 p) := by
  unfold l_ring_4
  refine .one (.step (rngR_ok (by decide) (by decide) (by omega) (by omega)) ?_)
  refine .bind (.forR (fun j f => f.length = j ∧ ∀ x ∈ f, P6 x) ⟨rfl, fun x hx => nomatch hx⟩ fun j f y hf hy => ?_) fun f hf => .pure ⟨?_, hf.2⟩
  · obtain ⟨ey, hy3⟩ := rng_at hy
    have m2 : ∀ {β : Type} (g : Int → R β), R.bind (mulR 2 y) g = g (2 * y) := fun g => by rw [mulR_ok (a := 2) (b := 10) (by decide) (by unfold S; omega) (by decide), bind_ok]
    obtain ⟨c, ec, _⟩ := l_cell_ok hb (k := a + 2 * y) (by omega) (by omega)
    obtain ⟨d, ed, _⟩ := l_cell_ok hb (k := a + 2 * y + 1) (by omega) (by omega)
    rw [m2]
    refine .step ec (.bind (l_number3_ok c) fun p hp => .one ?_)
    rw [m2]
    refine .step ed (.bind (l_number3_ok d) fun q hq => .one (.step (appR_ok (by rw [hf.1]; omega)) (.pure ⟨by simp [hf.1], fun y hy => ?_⟩)))
    rcases List.mem_append.mp hy with h | h
    · exact hf.2 y h
    · simp at h; subst h; exact ⟨hp, hq⟩
  · rw [hf.1]; simp; omega
theorem l_shape2_ok {ns : List Int} (hb : Bits ns) {a : Int} (h0 : 0 ≤ a) (h1 : a < 900) : Ok (l_shape_2 ns a) (fun sh => many sh ≤ 8 ∧ sh.length ≤ 2 ∧ ∀ r ∈ sh, ∀ p ∈ r, P6 p) := by
  unfold l_shape_2
  obtain ⟨c0, e0, _⟩ := l_cell_ok hb (k := a) (by omega) (by omega)
  have m1 := Int.emod_nonneg c0 (show (3 : Int) ≠ 0 by decide)
  have m2 := Int.emod_lt_of_pos c0 (show (0 : Int) < 3 by decide)
  refine .step e0 (.one (.one (.step (rngR_ok (by decide) (by decide) (by omega) (by omega)) ?_)))
  refine .bind (.forR (fun i s => many s.2 ≤ 4 * i ∧ s.2.length = i ∧ ∀ r ∈ s.2, ∀ p ∈ r, P6 p) ⟨Nat.le_refl _, rfl, fun r hr => nomatch hr⟩ fun i s x hs hx => ?_) fun s hs => .pure ?_
  · obtain ⟨ex, hx3⟩ := rng_at hx
    have q1 := Int.emod_nonneg (s.1 / 3) (show (7 : Int) ≠ 0 by decide)
    have q2 := Int.emod_lt_of_pos (s.1 / 3) (show (0 : Int) < 7 by decide)
    refine .step (mulR_ok (a := 4) (b := 10) (by decide) (by unfold S; omega) (by decide)) (.bind (at_all (P := fun b : Int => 0 ≤ b ∧ b ≤ 4) ?_ q1 q2) fun b hb4 => ?_)
    · intro x hx; simp at hx; omega
    refine .bind (l_ring4_ok hb (by omega) (by omega) hb4.1 (by omega)) fun r hr => .step (appR_ok (by omega)) (.one (.pure ⟨?_, ?_, ?_⟩))
    · show many (s.2 ++ [r]) ≤ _
      rw [many_snoc]; omega
    · show (s.2 ++ [r]).length = _
      rw [List.length_append, List.length_singleton, hs.2.1]
    · intro y hy
      rcases List.mem_append.mp hy with h | h
      · exact hs.2.2 y h
      · simp at h; subst h; exact hr.2
  · rw [rng_len] at hs
    exact ⟨by omega, by omega, hs.2.2⟩
theorem pt_at {n : Nat} {p : Pt} (hp : SP n p) (hn : n ≤ 60000000) {x : Int} (h : x = 0 ∨ x = 1) : ∃ q, atR ([p.1, p.2]) x = .ok q ∧ l_is q q.num (q.den : Int) = .ok true := by
  rcases h with rfl | rfl
  · exact ⟨p.1, rfl, l_is_self hp.1 hn⟩
  · exact ⟨p.2, rfl, l_is_self hp.2 hn⟩
theorem l_shape_is_ok {n : Nat} {sh : List (List Pt)} (hn : n ≤ 60000000) (hs : ∀ r ∈ sh, SR n r ∧ r.length < 1000) (hl : sh.length < 1000) : l_shape_is sh sh = .ok true := by
  unfold l_shape_is
  rw [show ((!true) || (!decide ((sh.length : Int) = (sh.length : Int)))) = false by simp, if_ok_f]
  refine Ok.true (.step (rngR_ok (by decide) (by decide) (by omega) (by omega)) (.caseU (.forU fun x hx => ?_) (.pure rfl)))
  have hx := rng_mem hx
  obtain ⟨r, gr, ar⟩ := atR_int (xs := sh) (i := x) hx.1 hx.2
  have hr := hs r (List.mem_of_getElem? gr)
  refine .step ar (.step (a := false) ?_ ?_)
  · rw [show (!true) = false from rfl, orR_f, ar, bind_ok, bind_ok]; simp
  rw [if_ok_f]
  refine .step ar (.step (rngR_ok (by decide) (by decide) (by omega) (by omega)) (.caseU (.forU fun y hy => ?_) (.pure rfl)))
  have hy := rng_mem hy
  obtain ⟨p, gp, ap⟩ := atR_int (xs := r) (i := y) hy.1 hy.2
  have hp := hr.1 p (List.mem_of_getElem? gp)
  refine .step ar (.step ap (.one ?_))
  rw [show ((!true) || (!decide ((2 : Int) = (2 : Int)))) = false by decide, if_ok_f]
  refine .step (rngR_ok (by decide) (by decide) (by decide) (by decide)) (.caseU (.forU fun z hz => ?_) (.pure rfl))
  have hz := rng_mem hz
  obtain ⟨q, aq, iq⟩ := pt_at hp hn (x := z) (by omega)
  refine .step aq (.step ar (.step ap (.step aq (.step ar (.step ap (.step aq (.step iq ?_)))))))
  exact .pure rfl
theorem l_table_ok {w h : Nat} {f : Nat → Nat → Rat} (hf : ∀ r k, r < h → k < w → SQ 60000000 (f r k)) : l_table (tab w h f) (w : Int) (h : Int) = .ok true := by
  unfold l_table
  rw [tab_len, show ((!true) || (!decide ((h : Int) = (h : Int)))) = false by simp, if_ok_f]
  refine Ok.true (.caseU (.forU fun x hx => ?_) (.pure rfl))
  unfold tab at hx
  obtain ⟨r, hr, rfl⟩ := List.mem_map.mp hx
  have hr := List.mem_range.mp hr
  rw [rowT_len, show ((!true) || (!decide ((w : Int) = (w : Int)))) = false by simp, if_ok_f]
  refine .caseU (.forU fun y hy => ?_) (.pure rfl)
  unfold rowT at hy
  obtain ⟨k, hk, rfl⟩ := List.mem_map.mp hy
  have hk := List.mem_range.mp hk
  refine .step (a := false) ?_ (.pure rfl)
  rw [show (!true) = false from rfl, orR_f, show (!decide ((2 : Int) = (2 : Int))) = false by decide, orR_f, l_is_self (hf r k hr hk) (by decide), bind_ok, bind_ok]; rfl
theorem p_turned_round_ok {sh : List (List Pt)} (hl : sh.length < 1000) : p_turned_round sh = .ok (sh.map List.reverse) := by
  unfold p_turned_round
  rw [compR_ok (by omega) (mapR_ok (g := List.reverse) fun r _ => rfl), bind_ok]
theorem many_append (a b : List (List Pt)) : many (a ++ b) = many a + many b := by unfold many; simp
theorem many_rev (sh : List (List Pt)) : many (sh.map List.reverse) = many sh := by
  unfold many
  rw [List.map_map]
  congr 1
  exact List.map_congr_left fun r _ => List.length_reverse
theorem many_mem : ∀ {sh : List (List Pt)} {r : List Pt}, r ∈ sh → r.length ≤ many sh
  | x :: xs, r, h => by
    have e0 : many (x :: xs) = x.length + many xs := by unfold many; rw [List.map_cons, List.sum_cons]
    rcases List.mem_cons.mp h with rfl | h
    · omega
    · have := many_mem h; omega
theorem k20_ok : ∀ ns : List Int, ns.length ≤ 63 → (∀ z ∈ ns, z.natAbs.log2 ≤ 1048576) → k20_law ns = .ok true := fun ns hl hb => by
  unfold k20_law
  obtain ⟨c0, e0, _⟩ := l_cell_ok hb (k := 0) (by decide) (by decide)
  have m1 := Int.emod_nonneg c0 (show (3 : Int) ≠ 0 by decide)
  have m2 := Int.emod_lt_of_pos c0 (show (0 : Int) < 3 by decide)
  have m3 := Int.emod_nonneg (c0 / 3) (show (3 : Int) ≠ 0 by decide)
  have m4 := Int.emod_lt_of_pos (c0 / 3) (show (0 : Int) < 3 by decide)
  obtain ⟨w, hw⟩ : ∃ w : Nat, 1 + c0 % 3 = (w : Int) := ⟨(1 + c0 % 3).toNat, by omega⟩
  obtain ⟨h, hh⟩ : ∃ h : Nat, 1 + c0 / 3 % 3 = (h : Int) := ⟨(1 + c0 / 3 % 3).toNat, by omega⟩
  refine Ok.true (.step e0 (.one (.step e0 (.one ?_))))
  rw [hw, hh]
  refine .bind (l_shape2_ok hb (by decide) (by decide)) fun a ha => .one (.bind (l_shape2_ok hb (by decide) (by decide)) fun b hb2 => .one ?_)
  obtain ⟨ma, la, pa⟩ := ha
  obtain ⟨mb, lb, pb⟩ := hb2
  have ra : ∀ r ∈ a, SR 50 r := fun r hr => P6_SR (pa r hr)
  have rb : ∀ r ∈ b, SR 50 r := fun r hr => P6_SR (pb r hr)
  have rab : ∀ r ∈ a ++ b, SR 50 r := fun r hr => (List.mem_append.mp hr).elim (ra r) (rb r)
  have rr : ∀ r ∈ a.map List.reverse, SR 50 r := fun r hr => by
    obtain ⟨r0, h0, rfl⟩ := List.mem_map.mp hr
    exact SR_sub (ra r0 h0) fun p hp => List.mem_reverse.mp hp
  have ida := compR_id (xs := a) (by omega)
  have idb := compR_id (xs := b) (by omega)
  have idab := compR_id (xs := a ++ b) (by rw [List.length_append]; omega)
  obtain ⟨s1, q1⟩ := shares_ok (w := w) (h := h) (n := 50) (by omega) (by omega) (by omega) ra (by omega)
  obtain ⟨s2, q2⟩ := shares_ok (w := w) (h := h) (n := 50) (by omega) (by omega) (by omega) rr (by rw [many_rev]; omega)
  obtain ⟨s3, q3⟩ := shares_ok (w := w) (h := h) (n := 50) (by omega) (by omega) (by omega) rb (by omega)
  obtain ⟨s4, q4⟩ := shares_ok (w := w) (h := h) (n := 50) (by omega) (by omega) (by omega) rab (by rw [many_append]; omega)
  obtain ⟨s5, q5⟩ := shares_ok (w := w) (h := h) (n := 50) (sh := []) (by omega) (by omega) (by omega) (fun r hr => nomatch hr) (by decide)
  have is1 : l_shape_is (a.map List.reverse) (a.map List.reverse) = .ok true := l_shape_is_ok (n := 50) (by decide) (fun r hr => ⟨rr r hr, by
    obtain ⟨r0, h0, rfl⟩ := List.mem_map.mp hr
    rw [List.length_reverse]
    have := many_mem h0; omega⟩) (by rw [List.length_map]; omega)
  have tr := p_turned_round_ok (sh := a) (by omega)
  refine .step ida (.one (.step (compR_ok (by omega) (mapR_ok (g := List.reverse) fun r hr => back_ok (by have := many_mem hr; omega))) (.one (.step tr (.one (.step is1 ?_))))))
  rw [show ((!true) || (!decide (a = a))) = false by simp, if_ok_f]
  refine .step s1 (.one (.step s2 (.one (.step idb (.step s3 (.one (.step (catR_ok (by omega)) (.step idab (.step s4 (.one (.step s5 (.one ?_))))))))))))
  have tb : ∀ {f : Nat → Nat → Rat}, (∀ k r, k < w → r < h → SQ 8000000 (f k r)) → l_table (tab w h fun r k => f k r) (w : Int) (h : Int) = .ok true := fun hf => l_table_ok fun r k hr hk => (hf k r hk hr).mono (by decide)
  refine .caseU (.forU fun x hx => ?_) ?_
  · have : l_table x (w : Int) (h : Int) = .ok true := by
      simp only [List.mem_cons, List.not_mem_nil, or_false] at hx
      rcases hx with rfl | rfl | rfl | rfl | rfl
      · exact tb q1
      · exact tb q2
      · exact tb q3
      · exact tb q4
      · exact tb q5
    exact .step this (.pure rfl)
  refine .step (rngR_ok (by decide) (by decide) (by omega) (by omega)) (.caseU (.forU fun x hx => ?_) ?_)
  · have hx := rng_mem hx
    refine .step (rngR_ok (by decide) (by decide) (by omega) (by omega)) (.caseU (.forU fun y hy => ?_) (.pure rfl))
    have hy := rng_mem hy
    have t : ∀ f : Nat → Nat → Rat, atR (tab w h f) x = .ok (rowT w (f x.toNat)) := fun f => tab_at hx.1 hx.2
    have u : ∀ f : Nat → Rat, atR (rowT w f) y = .ok (f y.toNat) := fun f => row_at hy.1 hy.2
    have ix : x.toNat < h := by omega
    have iy : y.toNat < w := by omega
    refine .step (t _) (.step (u _) (.step (t _) (.step (u _) (.step (l_plus3_ok (q1 _ _ iy ix) (q3 _ _ iy ix) (by decide)) (.one (.step (t _) (.step (u _) ?_)))))))
    refine .step (a := false) ?_ ?_
    · rw [dueC_append, decide_eq_true rfl, show (!true) = false from rfl, orR_f, t, bind_ok, u, bind_ok, mkQ_zero, bind_ok, dueC_nil]; rfl
    rw [if_ok_f]
    refine .step (t _) (.step (u _) (.step (t _) (.step (u _) (.step (t _) (.step (u _) (.step (mkQ_neg _) ?_))))))
    rw [dueC_rev, decide_eq_true rfl]
    exact .pure rfl
  · have e : appAllR ((a.map List.reverse).map fun r => r.map some) none = .ok (((a.map List.reverse).map fun r => r.map (some : Pt → Option Pt)).map (· ++ [none])) := by
      unfold appAllR
      rw [if_pos]
      rw [List.all_eq_true]
      intro r hr
      obtain ⟨r0, h0, rfl⟩ := List.mem_map.mp hr
      obtain ⟨r1, h1, rfl⟩ := List.mem_map.mp h0
      rw [List.length_map, List.length_reverse]
      have := many_mem h1
      exact decide_eq_true (by omega)
    refine .step e (.step (appR_ok (by simp; omega)) (.step (a := true) ?_ (.pure rfl)))
    rw [decide_eq_true rfl, andR_t, tr, bind_ok, is1, bind_ok]
end Pg

set_option Elab.async false
set_option linter.all false
namespace Pg

/-! mirrors of the defs of k11, printed by pygen -/
def p_window (ring1 : (List (Rat × Rat))) (left2 : Rat) (right3 : Rat) (low4 : Rat) (high5 : Rat) : R ((List (Rat × Rat))) :=
  R.bind (mkQ ((-((1 : Int)))) ((1 : Int))) fun q6 =>
  R.bind (p_minus ((0 : Rat)) left2) fun minus7 =>
  R.bind (p_cut ring1 ((q6, (0 : Rat), minus7))) fun cut8 =>
  R.bind (R.ok cut8) fun come9 =>
  R.bind (mkQ ((1 : Int)) ((1 : Int))) fun q10 =>
  R.bind (p_cut come9 ((q10, (0 : Rat), right3))) fun cut11 =>
  R.bind (R.ok cut11) fun come12 =>
  R.bind (mkQ ((-((1 : Int)))) ((1 : Int))) fun q13 =>
  R.bind (p_minus ((0 : Rat)) low4) fun minus14 =>
  R.bind (p_cut come12 (((0 : Rat), q13, minus14))) fun cut15 =>
  R.bind (R.ok cut15) fun come16 =>
  R.bind (mkQ ((1 : Int)) ((1 : Int))) fun q17 =>
  R.bind (p_cut come16 (((0 : Rat), q17, high5))) fun cut18 =>
  R.ok cut18
def p_window_shape (shape1 : (List (List (Rat × Rat)))) (left2 : Rat) (right3 : Rat) (low4 : Rat) (high5 : Rat) : R ((List (List (Rat × Rat)))) :=
  R.bind (R.compR (fun x6 => R.bind (p_window x6 left2 right3 low4 high5) fun window7 => R.ok window7) shape1) fun c8 =>
  R.ok c8
def l_within (ring1 : (List (Rat × Rat))) (low2 : Rat) (high3 : Rat) (axis4 : Int) : R Bool :=
  R.bind (R.forX (fun (x5 : (Rat × Rat)) (s6 : Unit) => (R.bind (atR ([x5.1, x5.2]) axis4) fun it7 => R.bind (l_minus_2 it7 low2) fun m8 => R.bind (R.orR ((decide (m8.num < (0 : Int)))) (R.bind (atR ([x5.1, x5.2]) axis4) fun it9 => R.bind (l_minus_2 high3 it9) fun m10 => R.ok ((decide (m10.num < (0 : Int)))))) fun b11 => if b11 = true then (R.ok (Sum.inr false)) else (R.ok (Sum.inl (()))) : R (Sum Unit Bool))) ring1 (())) fun r12 =>
  R.caseX r12 (fun s13 => R.ok true) (fun b14 => R.ok b14)
def l_window (ring1 : (List (Rat × Rat))) (left2 : Rat) (east3 : Rat) (low4 : Rat) (high5 : Rat) : R ((List (Rat × Rat))) :=
  R.bind (mkQ ((0 : Int)) ((1 : Int))) fun q6 =>
  R.bind (R.ok q6) fun nought7 =>
  R.bind (mkQ ((-((1 : Int)))) ((1 : Int))) fun q8 =>
  R.bind (mkQ ((-left2.num)) ((left2.den : Int))) fun q9 =>
  R.bind (l_due_4 ring1 ((q8, nought7, q9))) fun d10 =>
  R.bind (R.ok d10) fun come11 =>
  R.bind (mkQ ((1 : Int)) ((1 : Int))) fun q12 =>
  R.bind (l_due_4 come11 ((q12, nought7, east3))) fun d13 =>
  R.bind (R.ok d13) fun come14 =>
  R.bind (mkQ ((-((1 : Int)))) ((1 : Int))) fun q15 =>
  R.bind (mkQ ((-low4.num)) ((low4.den : Int))) fun q16 =>
  R.bind (l_due_4 come14 ((nought7, q15, q16))) fun d17 =>
  R.bind (R.ok d17) fun come18 =>
  R.bind (mkQ ((1 : Int)) ((1 : Int))) fun q19 =>
  R.bind (l_due_4 come18 ((nought7, q19, high5))) fun d20 =>
  R.ok d20
def l_ends (one1 : Rat) (other2 : Rat) (more3 : Rat) : R ((Rat × Rat)) :=
  R.bind (l_minus_2 other2 one1) fun m4 =>
  if (decide (m4.num < (0 : Int))) = true then (R.bind (l_minus_2 other2 more3) fun m5 => R.bind (l_plus_2 one1 more3) fun p6 => R.ok ((m5, p6))) else (R.bind (l_minus_2 one1 more3) fun m7 => R.bind (l_plus_2 other2 more3) fun p8 => R.ok ((m7, p8)))
def l_points_good_2 (ring1 : (List (Rat × Rat))) (cell2 : Int) : R Bool :=
  if (decide ((ring1.length : Int) = (0 : Int))) = true then (R.bind (mkQ ((0 : Int)) ((1 : Int))) fun q3 => R.bind (mkQ ((1 : Int)) ((1 : Int))) fun q4 => R.bind (mkQ ((0 : Int)) ((1 : Int))) fun q5 => R.bind (mkQ ((1 : Int)) ((1 : Int))) fun q6 => R.bind (p_window ring1 q3 q4 q5 q6) fun window7 => R.ok ((decide (window7 = ([] : (List (Rat × Rat))))))) else (R.bind (fmodR cell2 ((ring1.length : Int))) fun m8 => R.bind (atR ring1 m8) fun it9 => R.bind (R.ok it9) fun one10 => R.bind (fmodR ((cell2 / (8 : Int))) ((ring1.length : Int))) fun m11 => R.bind (atR ring1 m11) fun it12 => R.bind (R.ok it12) fun other13 => R.bind (l_ratio_3 (((cell2 / (64 : Int)) % (3 : Int))) (((1 : Int) + ((cell2 / (192 : Int)) % (4 : Int))))) fun r14 => R.bind (R.ok r14) fun more15 => R.bind (l_ends one10.1 other13.1 more15) fun e16 => R.bind (R.ok e16) fun t17 => R.bind (l_ends one10.2 other13.2 more15) fun e18 => R.bind (R.ok e18) fun t19 => R.bind (R.ok ring1) fun handed20 => R.bind (mkQ ((10000000000000 : Int)) ((1 : Int))) fun q21 => R.bind (R.ok q21) fun far22 => R.bind (mkQ ((-((10000000000000 : Int)))) ((1 : Int))) fun q23 => R.bind (R.ok q23) fun near24 => R.bind (rngR 0 ((2 : Int))) fun r25 => R.bind (R.forX (fun (x26 : Int) (s27 : Unit) => (R.bind (p_window handed20 t17.1 t17.2 t19.1 t19.2) fun window28 => R.bind (R.ok window28) fun found29 => R.bind (p_window handed20 near24 far22 near24 far22) fun window30 => R.bind (R.ok window30) fun whole31 => R.bind (l_points_like found29) fun p32 => R.bind (R.orR ((!p32)) (R.bind (l_window ring1 t17.1 t17.2 t19.1 t19.2) fun w33 => R.ok (((!decide (found29 = w33)) || (!decide (whole31 = ring1)))))) fun b34 => if b34 = true then (R.ok (Sum.inr false)) else (R.bind (appR ((found29.map some)) ((none : (Option (Rat × Rat))))) fun found35 => R.bind (appR ((whole31.map some)) ((none : (Option (Rat × Rat))))) fun whole36 => if (!decide (handed20 = ring1)) = true then (R.ok (Sum.inr false)) else (R.ok (Sum.inl (())))) : R (Sum Unit Bool))) r25 (())) fun r37 => R.caseX r37 (fun s38 => R.ok true) (fun b39 => R.ok b39))
def k11_law (script1 : (List Int)) : R Bool :=
  R.bind (l_cell script1 ((0 : Int))) fun c2 =>
  R.bind (l_ring_2 script1 ((4 : Int)) ((c2 % (8 : Int)))) fun r3 =>
  R.bind (R.ok r3) fun ring4 =>
  R.bind (l_at script1 ((1 : Int))) fun a5 =>
  R.bind (R.ok a5) fun across6 =>
  R.bind (l_at script1 ((2 : Int))) fun a7 =>
  R.bind (R.ok a7) fun up8 =>
  R.bind (mkQ ((10000000000000 : Int)) ((1 : Int))) fun q9 =>
  R.bind (R.ok q9) fun far10 =>
  R.bind (mkQ ((-((10000000000000 : Int)))) ((1 : Int))) fun q11 =>
  R.bind (R.ok q11) fun near12 =>
  R.bind (mkQ ((0 : Int)) ((1 : Int))) fun q13 =>
  R.bind (R.ok q13) fun due14 =>
  R.bind (R.ok ring4) fun handed15 =>
  R.bind (R.forX (fun (x16 : (Rat × Rat)) (s17 : Rat) => (R.bind (R.forX (fun (x18 : (Rat × Rat)) (s19 : Rat) => (R.bind (p_window handed15 x16.1 x16.2 x18.1 x18.2) fun window20 => R.bind (R.ok window20) fun found21 => R.bind (l_points_like found21) fun p22 => if ((!p22) || (!decide (handed15 = ring4))) = true then (R.ok (Sum.inr false)) else (R.bind (l_within found21 x16.1 x16.2 ((0 : Int))) fun w23 => R.bind (R.orR ((!w23)) (R.bind (l_within found21 x18.1 x18.2 ((1 : Int))) fun w24 => R.ok ((!w24)))) fun b25 => if b25 = true then (R.ok (Sum.inr false)) else (R.bind (l_area found21) fun a26 => R.bind (l_plus_2 s19 a26) fun p27 => R.bind (R.ok p27) fun due28 => R.ok (Sum.inl due28))) : R (Sum Rat Bool))) ([(near12, up8), (up8, far10)]) s17) fun r29 => R.caseX r29 (fun s30 => R.ok (Sum.inl s30)) (fun b31 => R.ok (Sum.inr b31)) : R (Sum Rat Bool))) ([(near12, across6), (across6, far10)]) due14) fun r32 =>
  R.caseX r32 (fun s33 => R.bind (R.ok ring4.reverse) fun back35 => R.bind (R.ok ([handed15, ([] : (List (Rat × Rat))), back35])) fun shape36 => R.bind (p_window_shape shape36 near12 across6 up8 far10) fun window37 => R.bind (R.ok window37) fun told38 => R.bind (p_window ring4 near12 across6 up8 far10) fun window39 => R.bind (p_window back35 near12 across6 up8 far10) fun window40 => if (!decide (told38 = [window39, ([] : (List (Rat × Rat))), window40])) = true then (R.ok false) else (R.bind (p_window_shape shape36 near12 far10 near12 far10) fun window41 => R.bind (R.ok window41) fun whole42 => R.bind (p_window ring4 near12 far10 near12 far10) fun window43 => R.bind (p_window back35 near12 far10 near12 far10) fun window44 => if (!decide (whole42 = [window43, ([] : (List (Rat × Rat))), window44])) = true then (R.ok false) else (R.bind (R.forR (fun (x45 : (List (List (Rat × Rat)))) (s46 : Unit) => R.bind (app2R ((x45.map (·.map some))) ((0 : Int)) ((none : (Option (Rat × Rat))))) fun some47 => R.bind (app2R some47 ((2 : Int)) ((none : (Option (Rat × Rat))))) fun some48 => R.ok (())) [told38, whole42] (())) fun s49 => R.bind (l_cell script1 ((3 : Int))) fun c50 => R.bind (l_spread c50 ((3 : Int))) fun s51 => R.bind (l_points_good_2 ring4 s51) fun p52 => if (!p52) = true then (R.ok false) else (R.bind (l_area ring4) fun a53 => R.ok (((decide (s33 = a53)) && (decide (shape36 = [ring4, ([] : (List (Rat × Rat))), ring4.reverse])))))))) (fun b34 => R.ok b34)
end Pg

set_option Elab.async false
set_option linter.all false
namespace Pg

/-! mirrors of the defs of k16, printed by pygen -/
def l_bag_2 (cell1 : Int) : R ((List Int)) :=
  if (decide (cell1 < (1000000000000000000 : Int))) = true then (R.ok ([cell1, (1 : Int)])) else (R.ok ([cell1, (0 : Int)]))
def l_take_2 (bag1 : (List Int)) (many2 : Int) : R ((Int × (List Int))) :=
  R.bind (atR bag1 ((1 : Int))) fun it3 =>
  if (decide (it3 = (0 : Int))) = true then (R.bind (atR bag1 ((0 : Int))) fun it4 => R.bind (fmodR it4 many2) fun m5 => R.bind (R.ok m5) fun told6 => R.bind (atR bag1 ((0 : Int))) fun it7 => R.bind (fdivR it7 many2) fun q8 => R.bind (setR bag1 ((0 : Int)) q8) fun bag9 => R.ok ((told6, bag9))) else (R.bind (atR bag1 ((0 : Int))) fun it10 => R.bind (mulR it10 ((48271 : Int))) fun p11 => R.bind (atR bag1 ((1 : Int))) fun it12 => R.bind (mulR ((7919 : Int)) it12) fun p13 => R.bind (atR bag1 ((1 : Int))) fun it14 => R.bind (mulR p13 it14) fun p15 => R.bind (setR bag1 ((0 : Int)) ((((p11 + p15) + (17 : Int)) % (2147483647 : Int)))) fun bag16 => R.bind (atR bag16 ((1 : Int))) fun it17 => R.bind (setR bag16 ((1 : Int)) ((it17 + (1 : Int)))) fun bag18 => R.bind (atR bag18 ((0 : Int))) fun it19 => R.bind (mulR it19 ((69621 : Int))) fun p20 => R.bind (fmodR ((p20 % (2147483629 : Int))) many2) fun m21 => R.ok ((m21, bag18)))
def l_number_6 (bag1 : (List Int)) (great2 : Bool) : R ((Rat × (List Int))) :=
  R.bind ((if great2 = true then (R.bind (l_take_2 bag1 ((2 : Int))) fun t3 => R.ok ((decide (t3.1 = (0 : Int))), t3.2)) else R.ok (false, bag1) : R (Bool × (List Int)))) fun b4 =>
  if b4.1 = true then (R.bind (l_take_2 b4.2 ((2000000000000 : Int))) fun t5 => R.bind (l_take_2 t5.2 ((1000000 : Int))) fun t6 => R.bind (l_ratio_3 ((t5.1 - (1000000000000 : Int))) (((1 : Int) + t6.1))) fun r7 => R.ok ((r7, t6.2))) else (R.bind (l_take_2 b4.2 ((7 : Int))) fun t8 => R.bind (atR ([(4 : Int), (1 : Int), (2 : Int), (3 : Int), (6 : Int), (1 : Int), (2 : Int)]) t8.1) fun it9 => R.bind (R.ok it9) fun bottom10 => R.bind (l_take_2 t8.2 ((29 : Int))) fun t11 => R.bind (l_ratio_3 ((t11.1 - (6 : Int))) bottom10) fun r12 => R.ok ((r12, t11.2)))
def l_ring_5 (bag1 : (List Int)) (many2 : Int) (great3 : Bool) : R (((List (Rat × Rat)) × (List Int))) :=
  R.bind (R.ok (([] : (List (Rat × Rat))))) fun ring4 =>
  R.bind (rngR 0 many2) fun r5 =>
  R.bind (R.forR (fun (x6 : Int) (s7 : ((List Int) × (List (Rat × Rat)))) => R.bind (l_number_6 s7.1 great3) fun n8 => R.bind (R.ok n8.1) fun x9 => R.bind (l_number_6 n8.2 great3) fun n11 => R.bind (appR s7.2 ((x9, n11.1))) fun ring12 => R.ok ((n11.2, ring12))) r5 ((bag1, ring4))) fun s13 =>
  R.ok ((s13.2, s13.1))
def l_shape_4 (script1 : (List Int)) (bag2 : (List Int)) : R (((List (List (Rat × Rat))) × (List Int))) :=
  R.bind (l_take_2 bag2 ((8 : Int))) fun t3 =>
  if (decide (t3.1 = (7 : Int))) = true then (R.bind (l_ring_5 t3.2 ((3 : Int)) true) fun r4 => R.ok (([r4.1], r4.2))) else (R.bind (R.ok (([] : (List (List (Rat × Rat)))))) fun shape5 => R.bind (l_take_2 t3.2 ((7 : Int))) fun t6 => R.bind (atR ([(1 : Int), (1 : Int), (2 : Int), (1 : Int), (3 : Int), (0 : Int), (2 : Int)]) t6.1) fun it7 => R.bind (rngR 0 it7) fun r8 => R.bind (R.forR (fun (x9 : Int) (s10 : ((List Int) × (List (List (Rat × Rat))))) => R.bind (l_take_2 s10.1 ((7 : Int))) fun t12 => R.bind (l_ring_5 t12.2 t12.1 false) fun r13 => R.bind (appR s10.2 r13.1) fun shape14 => R.ok ((r13.2, shape14))) r8 ((t6.2, shape5))) fun s15 => R.bind (R.forR (fun (x16 : Int) (s17 : (List (List (Rat × Rat)))) => R.bind (l_bag_2 x16) fun b18 => R.bind (R.ok b18) fun more19 => if (decide ((s17.length : Int) > (0 : Int))) = true then (R.bind (l_take_2 more19 ((s17.length : Int))) fun t21 => R.bind (atR s17 t21.1) fun it23 => if (decide ((it23.length : Int) < (6 : Int))) = true then (R.bind (l_ring_5 t21.2 ((1 : Int)) false) fun r26 => R.bind (extR it23 r26.1) fun row28 => R.bind (setR s17 t21.1 row28) fun shape29 => R.ok shape29) else (R.ok s17)) else (R.ok s17)) ((cutL script1 (some ((2 : Int))) (some ((11 : Int))))) s15.2) fun s30 => R.ok ((s30, s15.1)))
def k16_law (script1 : (List Int)) : R Bool :=
  R.bind (l_cell script1 ((1 : Int))) fun c2 =>
  R.bind (l_bag_2 c2) fun b3 =>
  R.bind (R.ok b3) fun bag4 =>
  R.bind (l_take_2 bag4 ((4 : Int))) fun t5 =>
  R.bind (l_take_2 t5.2 ((3 : Int))) fun t7 =>
  R.bind (R.ok ((((1 : Int) + t5.1), ((1 : Int) + t7.1)))) fun floor9 =>
  R.bind (R.ok (([] : (List (Int × Int))))) fun cells10 =>
  R.bind (rngR 0 ((3 : Int))) fun r11 =>
  R.bind (R.forR (fun (x12 : Int) (s13 : ((List Int) × (List (Int × Int)))) => R.bind (l_take_2 s13.1 floor9.1) fun t15 => R.bind (l_take_2 t15.2 floor9.2) fun t17 => R.bind (appR s13.2 ((t15.1, t17.1))) fun cells19 => R.ok ((t17.2, cells19))) r11 ((t7.2, cells10))) fun s20 =>
  R.bind (l_shape_4 script1 s20.1) fun s21 =>
  R.bind (R.ok s21.1) fun shape23 =>
  R.bind (p_shares floor9.1 floor9.2 shape23) fun shares24 =>
  R.bind (R.ok shares24) fun found25 =>
  R.bind (R.forX (fun (x26 : (Int × Int)) (s27 : Unit) => (R.bind (mkQ ((0 : Int)) ((1 : Int))) fun q28 => R.bind (R.ok q28) fun due29 => R.bind (mkQ x26.1 ((1 : Int))) fun q30 => R.bind (mkQ ((x26.1 + (1 : Int))) ((1 : Int))) fun q31 => R.bind (mkQ x26.2 ((1 : Int))) fun q32 => R.bind (mkQ ((x26.2 + (1 : Int))) ((1 : Int))) fun q33 => R.bind (p_window_shape shape23 q30 q31 q32 q33) fun window34 => R.bind (R.forR (fun (x35 : (List (Rat × Rat))) (s36 : Rat) => R.bind (l_area x35) fun a37 => R.bind (l_plus_2 s36 a37) fun p38 => R.bind (R.ok p38) fun due39 => R.ok due39) window34 due29) fun s40 => R.bind (atR found25 x26.2) fun it41 => R.bind (atR it41 x26.1) fun it42 => R.bind (l_is_2 it42 s40) fun i43 => if (!i43) = true then (R.ok (Sum.inr false)) else (R.ok (Sum.inl (()))) : R (Sum Unit Bool))) s20.2 (())) fun r44 =>
  R.caseX r44 (fun s45 => R.ok true) (fun b46 => R.ok b46)
end Pg

set_option Elab.async false
set_option linter.all false
namespace Pg

/-! mirrors of the defs of k17, printed by pygen -/
def l_inner (bag1 : (List Int)) (most2 : Int) : R ((Rat × (List Int))) :=
  R.bind (l_take_2 bag1 ((6 : Int))) fun t3 =>
  R.bind (R.ok (((1 : Int) + t3.1))) fun bottom4 =>
  R.bind (l_take_2 t3.2 ((8 : Int))) fun t5 =>
  R.bind (if (decide (t5.1 = (3 : Int))) = true then (R.bind (l_take_2 t5.2 ((1000000 : Int))) fun t7 => R.bind (R.ok (((1 : Int) + t7.1))) fun bottom8 => R.ok (bottom8, t7.2)) else (R.ok (bottom4, t5.2)) : R ((Int × (List Int)))) fun st6 =>
  R.bind (mulR most2 st6.1) fun p9 =>
  R.bind (l_take_2 st6.2 ((p9 + (1 : Int)))) fun t10 =>
  R.bind (l_ratio_3 t10.1 st6.1) fun r11 =>
  R.ok ((r11, t10.2))
def l_inside (bag1 : (List Int)) (floor2 : (Int × Int)) : R (((List (List (Rat × Rat))) × (List Int))) :=
  R.bind (R.ok (([] : (List (List (Rat × Rat)))))) fun shape3 =>
  R.bind (l_take_2 bag1 ((2 : Int))) fun t4 =>
  R.bind (rngR 0 (((1 : Int) + t4.1))) fun r5 =>
  R.bind (R.forR (fun (x6 : Int) (s7 : ((List Int) × (List (List (Rat × Rat))))) => R.bind (R.ok (([] : (List (Rat × Rat))))) fun ring8 => R.bind (l_take_2 s7.1 ((7 : Int))) fun t9 => R.bind (rngR 0 t9.1) fun r10 => R.bind (R.forR (fun (x11 : Int) (s12 : ((List Int) × (List (Rat × Rat)))) => R.bind (l_inner s12.1 floor2.1) fun i13 => R.bind (R.ok i13.1) fun x14 => R.bind (l_inner i13.2 floor2.2) fun i16 => R.bind (appR s12.2 ((x14, i16.1))) fun ring17 => R.ok ((i16.2, ring17))) r10 ((t9.2, ring8))) fun s18 => R.bind (appR s7.2 s18.2) fun shape19 => R.ok ((s18.1, shape19))) r5 ((t4.2, shape3))) fun s20 =>
  R.ok ((s20.2, s20.1))
def l_shape_area (shape1 : (List (List (Rat × Rat)))) : R Rat :=
  R.bind (mkQ ((0 : Int)) ((1 : Int))) fun q2 =>
  R.bind (R.ok q2) fun come3 =>
  R.bind (R.forR (fun (x4 : (List (Rat × Rat))) (s5 : Rat) => R.bind (l_area x4) fun a6 => R.bind (l_plus_2 s5 a6) fun p7 => R.bind (R.ok p7) fun come8 => R.ok come8) shape1 come3) fun s9 =>
  R.ok s9
def k17_law (script1 : (List Int)) : R Bool :=
  R.bind (l_cell script1 ((1 : Int))) fun c2 =>
  R.bind (l_bag_2 c2) fun b3 =>
  R.bind (R.ok b3) fun bag4 =>
  R.bind (l_take_2 bag4 ((4 : Int))) fun t5 =>
  R.bind (l_take_2 t5.2 ((3 : Int))) fun t7 =>
  R.bind (R.ok ((((1 : Int) + t5.1), ((1 : Int) + t7.1)))) fun floor9 =>
  R.bind (l_take_2 t7.2 ((2 : Int))) fun t10 =>
  R.bind (R.ok ((decide (t10.1 = (0 : Int))))) fun inside12 =>
  R.bind (if inside12 = true then (R.bind (l_inside t10.2 floor9) fun i14 => R.bind (R.ok i14.1) fun shape16 => R.ok (shape16, i14.2)) else (R.bind (l_shape_4 script1 t10.2) fun s17 => R.bind (R.ok s17.1) fun shape19 => R.ok (shape19, s17.2)) : R (((List (List (Rat × Rat))) × (List Int)))) fun st13 =>
  R.bind (mkQ ((0 : Int)) ((1 : Int))) fun q20 =>
  R.bind (R.ok q20) fun some21 =>
  R.bind (p_shares floor9.1 floor9.2 st13.1) fun shares22 =>
  R.bind (R.forR (fun (x23 : (List Rat)) (s24 : Rat) => R.bind (R.forR (fun (x25 : Rat) (s26 : Rat) => R.bind (l_plus_2 s26 x25) fun p27 => R.bind (R.ok p27) fun some28 => R.ok some28) x23 s24) fun s29 => R.ok s29) shares22 some21) fun s30 =>
  R.bind (R.andR inside12 (R.bind (l_shape_area st13.1) fun s31 => R.ok ((!decide (s30 = s31))))) fun b32 =>
  if b32 = true then (R.ok false) else (R.bind (mkQ ((0 : Int)) ((1 : Int))) fun q33 => R.bind (mkQ floor9.1 ((1 : Int))) fun q34 => R.bind (mkQ ((0 : Int)) ((1 : Int))) fun q35 => R.bind (mkQ floor9.2 ((1 : Int))) fun q36 => R.bind (p_window_shape st13.1 q33 q34 q35 q36) fun window37 => R.bind (l_shape_area window37) fun s38 => R.ok ((decide (s30 = s38))))
end Pg

set_option Elab.async false
set_option linter.all false
namespace Pg

/-! mirrors of the defs of k24, printed by pygen -/
def l_bag (cell1 : Int) : R ((List Int)) :=
  if ((decide ((cell1 % (2 : Int)) = (0 : Int))) && ((decide (cell1 < (-((1000000 : Int))))) || (decide ((1000000 : Int) < cell1)))) = true then (R.ok ([(cell1 / (2 : Int)), (0 : Int)])) else (R.ok ([(cell1 / (2 : Int)), (1 : Int)]))
def l_take (bag1 : (List Int)) (many2 : Int) : R ((Int × (List Int))) :=
  R.bind (atR bag1 ((1 : Int))) fun it3 =>
  if (decide (it3 = (0 : Int))) = true then (R.bind (atR bag1 ((0 : Int))) fun it4 => R.bind (fmodR it4 many2) fun m5 => R.bind (R.ok m5) fun some6 => R.bind (atR bag1 ((0 : Int))) fun it7 => R.bind (fdivR it7 many2) fun q8 => R.bind (setR bag1 ((0 : Int)) q8) fun bag9 => R.ok ((some6, bag9))) else (R.bind (atR bag1 ((0 : Int))) fun it10 => R.bind (mulR it10 ((48271 : Int))) fun p11 => R.bind (atR bag1 ((1 : Int))) fun it12 => R.bind (mulR ((7919 : Int)) it12) fun p13 => R.bind (atR bag1 ((1 : Int))) fun it14 => R.bind (mulR p13 it14) fun p15 => R.bind (setR bag1 ((0 : Int)) ((((p11 + p15) + (17 : Int)) % (2147483647 : Int)))) fun bag16 => R.bind (atR bag16 ((1 : Int))) fun it17 => R.bind (setR bag16 ((1 : Int)) ((it17 + (1 : Int)))) fun bag18 => R.bind (atR bag18 ((0 : Int))) fun it19 => R.bind (mulR it19 ((69621 : Int))) fun p20 => R.bind (fmodR ((p20 % (2147483629 : Int))) many2) fun m21 => R.ok ((m21, bag18)))
def l_number_5 (bag1 : (List Int)) : R ((Rat × (List Int))) :=
  R.bind (l_take bag1 ((16 : Int))) fun t2 =>
  if (decide (t2.1 = (15 : Int))) = true then (R.bind (l_take t2.2 ((2000000000 : Int))) fun t3 => R.bind (mkQ ((t3.1 - (1000000000 : Int))) ((1 : Int))) fun q4 => R.ok ((q4, t3.2))) else (R.bind (l_take t2.2 ((19 : Int))) fun t5 => R.bind (R.ok ((t5.1 - (5 : Int)))) fun top6 => R.bind (l_take t5.2 ((3 : Int))) fun t7 => R.bind (l_ratio top6 (((1 : Int) + t7.1))) fun r8 => R.ok ((r8, t7.2)))
def l_shape_3 (bag1 : (List Int)) : R (((List (List (Rat × Rat))) × (List Int))) :=
  R.bind (R.ok (([] : (List (List (Rat × Rat)))))) fun shape2 =>
  R.bind (l_take bag1 ((3 : Int))) fun t3 =>
  R.bind (rngR 0 t3.1) fun r4 =>
  R.bind (R.forR (fun (x5 : Int) (s6 : ((List Int) × (List (List (Rat × Rat))))) => R.bind (R.ok (([] : (List (Rat × Rat))))) fun ring7 => R.bind (l_take s6.1 ((7 : Int))) fun t8 => R.bind (atR ([(3 : Int), (4 : Int), (2 : Int), (3 : Int), (4 : Int), (1 : Int), (0 : Int)]) t8.1) fun it9 => R.bind (rngR 0 it9) fun r10 => R.bind (R.forR (fun (x11 : Int) (s12 : ((List Int) × (List (Rat × Rat)))) => R.bind (l_number_5 s12.1) fun n13 => R.bind (R.ok n13.1) fun x14 => R.bind (l_number_5 n13.2) fun n16 => R.bind (appR s12.2 ((x14, n16.1))) fun ring17 => R.ok ((n16.2, ring17))) r10 ((t8.2, ring7))) fun s18 => R.bind (appR s6.2 s18.2) fun shape19 => R.ok ((s18.1, shape19))) r4 ((t3.2, shape2))) fun s20 =>
  R.ok ((s20.2, s20.1))
def l_line_2 (bag1 : (List Int)) : R (((Rat × Rat × Rat) × (List Int))) :=
  R.bind (l_number_5 bag1) fun n2 =>
  R.bind (l_number_5 n2.2) fun n3 =>
  R.bind (l_number_5 n3.2) fun n4 =>
  R.bind (R.ok ((n2.1, n3.1, n4.1))) fun line5 =>
  R.bind (l_take n4.2 ((8 : Int))) fun t6 =>
  R.bind (R.ok t6.1) fun way7 =>
  R.bind (l_take t6.2 ((5 : Int))) fun t8 =>
  R.bind (R.ok t8.1) fun at9 =>
  R.bind (R.orR ((decide (way7 = (0 : Int)))) (R.bind (mkQ ((0 : Int)) ((1 : Int))) fun q10 => R.bind (mkQ ((0 : Int)) ((1 : Int))) fun q11 => R.bind (mkQ ((0 : Int)) ((1 : Int))) fun q12 => R.ok ((decide (line5 = (q10, q11, q12)))))) fun b13 =>
  if b13 = true then (R.bind (mkQ ((1 : Int)) ((1 : Int))) fun q14 => R.bind (mkQ ((0 : Int)) ((1 : Int))) fun q15 => R.bind (mkQ at9 ((1 : Int))) fun q16 => R.ok (((q14, q15, q16), t8.2))) else (if (decide (way7 = (1 : Int))) = true then (R.bind (mkQ ((0 : Int)) ((1 : Int))) fun q17 => R.bind (mkQ ((-((1 : Int)))) ((1 : Int))) fun q18 => R.bind (mkQ ((-at9)) ((1 : Int))) fun q19 => R.ok (((q17, q18, q19), t8.2))) else (R.ok ((line5, t8.2))))
def k24_law (script1 : (List Int)) : R Bool :=
  R.bind (l_cell script1 ((0 : Int))) fun c2 =>
  R.bind (R.ok (((1 : Int) + (c2 % (3 : Int))))) fun width3 =>
  R.bind (l_cell script1 ((0 : Int))) fun c4 =>
  R.bind (R.ok (((1 : Int) + ((c4 / (3 : Int)) % (3 : Int))))) fun height5 =>
  R.bind (l_cell script1 ((1 : Int))) fun c6 =>
  R.bind (l_bag c6) fun b7 =>
  R.bind (l_line_2 b7) fun l8 =>
  R.bind (R.ok l8.1) fun line9 =>
  R.bind (l_cell script1 ((2 : Int))) fun c10 =>
  R.bind (l_bag c10) fun b11 =>
  R.bind (l_shape_3 b11) fun s12 =>
  R.bind (R.ok s12.1) fun shape13 =>
  R.bind (R.compR (fun x14 =>  R.ok x14) shape13) fun c15 =>
  R.bind (R.ok c15) fun handed16 =>
  R.bind (p_cut_shape handed16 line9) fun cut_sh17 =>
  R.bind (R.ok cut_sh17) fun one18 =>
  R.bind (p_against line9) fun agains19 =>
  R.bind (p_cut_shape handed16 agains19) fun cut_sh20 =>
  R.bind (R.ok cut_sh20) fun other21 =>
  if (!decide (handed16 = shape13)) = true then (R.ok false) else (R.bind (p_shares width3 height5 handed16) fun shares22 => R.bind (p_shares width3 height5 one18) fun shares23 => R.bind (p_shares width3 height5 other21) fun shares24 => R.bind (R.ok ([shares22, shares23, shares24])) fun some25 => R.bind (R.forX (fun (x26 : (List (List Rat))) (s27 : Unit) => (R.bind (l_table x26 width3 height5) fun t28 => if (!t28) = true then (R.ok (Sum.inr false)) else (R.ok (Sum.inl (()))) : R (Sum Unit Bool))) some25 (())) fun r29 => R.caseX r29 (fun s30 => R.bind (rngR 0 height5) fun r32 => R.bind (R.forX (fun (x33 : Int) (s34 : Unit) => (R.bind (rngR 0 width3) fun r35 => R.bind (R.forX (fun (x36 : Int) (s37 : Unit) => (R.bind (atR some25 ((0 : Int))) fun it38 => R.bind (atR it38 x33) fun it39 => R.bind (atR it39 x36) fun it40 => R.bind (atR some25 ((1 : Int))) fun it41 => R.bind (atR it41 x33) fun it42 => R.bind (atR it42 x36) fun it43 => R.bind (atR some25 ((2 : Int))) fun it44 => R.bind (atR it44 x33) fun it45 => R.bind (atR it45 x36) fun it46 => R.bind (l_plus_3 it43 it46) fun p47 => if (!decide (it40 = p47)) = true then (R.ok (Sum.inr false)) else (R.ok (Sum.inl (()))) : R (Sum Unit Bool))) r35 (())) fun r48 => R.caseX r48 (fun s49 => R.ok (Sum.inl (()))) (fun b50 => R.ok (Sum.inr b50)) : R (Sum Unit Bool))) r32 (())) fun r51 => R.caseX r51 (fun s52 => R.bind (p_shape_area handed16) fun shape54 => R.bind (p_shape_area one18) fun shape55 => R.bind (p_shape_area other21) fun shape56 => R.bind (l_plus_3 shape55 shape56) fun p57 => R.ok ((decide (shape54 = p57)))) (fun b53 => R.ok b53)) (fun b31 => R.ok b31))
end Pg

set_option Elab.async false
set_option linter.all false
set_option maxRecDepth 100000
namespace Pg
/-! ### windows, as the program cuts them -/
theorem hgtW {n m : Nat} {c : Rat} {p : Pt} (hc : SQ m c) (hp : SP n p) : SQ (m + n + 1) (hgt (lnL c) p) ∧ SQ (m + n + 1) (hgt (lnR c) p) ∧ SQ (m + n + 1) (hgt (lnB c) p) ∧ SQ (m + n + 1) (hgt (lnT c) p) := by
  rw [hgt_L, hgt_R, hgt_B, hgt_T]
  exact ⟨hc.sub hp.1, (hp.1.sub hc).mono (by omega), hc.sub hp.2, (hp.2.sub hc).mono (by omega)⟩
theorem SQ_neg1 : SQ 1 (-1 : Rat) := ⟨by decide, by decide⟩
theorem SL_W {m : Nat} {c : Rat} (hc : SQ m c) : SL (m + 1) (lnL c) ∧ SL (m + 1) (lnR c) ∧ SL (m + 1) (lnB c) ∧ SL (m + 1) (lnT c) := by
  have n1 : SQ (m + 1) (-1 : Rat) := SQ_neg1.mono (by omega)
  have c1 := hc.mono (show m ≤ m + 1 by omega)
  exact ⟨⟨n1, SQ_zero m, c1.neg⟩, ⟨SQ_one m, SQ_zero m, c1⟩, ⟨SQ_zero m, n1, c1.neg⟩, ⟨SQ_zero m, SQ_one m, c1⟩⟩
def nC (m n : Nat) : Nat := 3 * m + 6 * n + 6
theorem cut_one {m n k : Nat} {l : Ln} {r r' : List Pt} (hl : SL (m + 1) l) (hh : ∀ p, SP n p → SQ (m + n + 1) (hgt l p)) (hr : SR n r) (hlen : r.length < 100000) (hk : nC m n = k) (hb : k < 10000000) (e : cutQ l r = r') : p_cut r l = .ok r' ∧ SR k r' ∧ r'.length ≤ 2 * r.length := by
  subst e
  subst hk
  unfold nC at hb ⊢
  exact ⟨p_cut_ok (a := m + n + 1) (n := m + 1) (m := n) hl hr (fun p hp => hh p (hr p hp)) (by omega) (by omega) (by omega), (SR_cut (a := m + n + 1) (m := n) hr (fun p hp => hh p (hr p hp))).mono (by omega), cutQ_len l r⟩
theorem mkQ_neg1 : mkQ (-1) 1 = .ok (-1 : Rat) := mkQ_lit rfl rfl
theorem p_window_ok {m n n1 n2 n3 n4 : Nat} (q1 : nC m n = n1) (q2 : nC m n1 = n2) (q3 : nC m n2 = n3) (q4 : nC m n3 = n4) (hb : n4 < 10000000) {L R B T : Rat} {r : List Pt} (hL : SQ m L) (hR : SQ m R) (hB : SQ m B) (hT : SQ m T) (hr : SR n r) (hlen : r.length < 1000) :
    p_window r L R B T = .ok (win L R B T r) ∧ SR n4 (win L R B T r) ∧ (win L R B T r).length ≤ 16 * r.length := by
  have b3 : n3 < 10000000 := by unfold nC at q4; omega
  have b2 : n2 < 10000000 := by unfold nC at q3; omega
  have b1 : n1 < 10000000 := by unfold nC at q2; omega
  have b0 : m < 10000000 := by unfold nC at q1; omega
  unfold win
  generalize g1 : cutQ (lnL L) r = c1
  generalize g2 : cutQ (lnR R) c1 = c2
  generalize g3 : cutQ (lnB B) c2 = c3
  generalize g4 : cutQ (lnT T) c3 = c4
  obtain ⟨e1, s1, l1⟩ := cut_one (l := lnL L) (SL_W hL).1 (fun p hp => (hgtW hL hp).1) hr (by omega) q1 b1 g1
  obtain ⟨e2, s2, l2⟩ := cut_one (l := lnR R) (SL_W hR).2.1 (fun p hp => (hgtW hR hp).2.1) s1 (by omega) q2 b2 g2
  obtain ⟨e3, s3, l3⟩ := cut_one (l := lnB B) (SL_W hB).2.2.1 (fun p hp => (hgtW hB hp).2.2.1) s2 (by omega) q3 b3 g3
  obtain ⟨e4, s4, l4⟩ := cut_one (l := lnT T) (SL_W hT).2.2.2 (fun p hp => (hgtW hT hp).2.2.2) s3 (by omega) q4 hb g4
  refine ⟨?_, s4, by omega⟩
  have k1 : mkQ (-(1 : Int)) 1 = .ok (-1 : Rat) := mkQ_neg1
  have zl : (0 : Rat) - L = -L := by grind
  have zb : (0 : Rat) - B = -B := by grind
  unfold p_window
  rw [k1, bind_ok, p_minus_ok (SQ_zero 0) hL (by omega), bind_ok, zl]
  rw [show ((-1 : Rat), (0 : Rat), -L) = lnL L from rfl, e1, bind_ok, bind_ok, mkQ_one, bind_ok]
  rw [show ((1 : Rat), (0 : Rat), R) = lnR R from rfl, e2, bind_ok, bind_ok, bind_ok, p_minus_ok (SQ_zero 0) hB (by omega), bind_ok, zb]
  rw [show ((0 : Rat), (-1 : Rat), -B) = lnB B from rfl, e3, bind_ok, bind_ok, bind_ok]
  rw [show ((0 : Rat), (1 : Rat), T) = lnT T from rfl, e4, bind_ok]
theorem p_window_shape_ok {m n n1 n2 n3 n4 : Nat} (q1 : nC m n = n1) (q2 : nC m n1 = n2) (q3 : nC m n2 = n3) (q4 : nC m n3 = n4) (hb : n4 < 10000000) {L R B T : Rat} {sh : List (List Pt)} (hL : SQ m L) (hR : SQ m R) (hB : SQ m B) (hT : SQ m T) (hr : ∀ r ∈ sh, SR n r ∧ r.length < 1000) (hl : sh.length < 1000) :
    p_window_shape sh L R B T = .ok (sh.map (win L R B T)) ∧ ∀ r ∈ sh, SR n4 (win L R B T r) ∧ (win L R B T r).length ≤ 16 * r.length := by
  constructor
  · unfold p_window_shape
    rw [compR_ok (by omega) (mapR_ok (g := win L R B T) fun r h => ?_), bind_ok]
    obtain ⟨h1, h2⟩ := hr r h
    rw [(p_window_ok q1 q2 q3 q4 hb hL hR hB hT h1 h2).1, bind_ok]
  · intro r h
    obtain ⟨h1, h2⟩ := hr r h
    exact (p_window_ok q1 q2 q3 q4 hb hL hR hB hT h1 h2).2
/-- what lies under a line is not cut -/
theorem cutQ_id {l : Ln} {r : List Pt} (h : ∀ p ∈ r, hgt l p ≤ 0) : cutQ l r = r := by
  have key : ∀ (xs : List (Pt × Pt)) , (∀ e ∈ xs, hgt l e.1 ≤ 0 ∧ hgt l e.2 ≤ 0) → cutL' l xs = xs.map (·.1) := by
    intro xs
    induction xs with
    | nil => intro _; rfl
    | cons e xs ih =>
      intro hx
      obtain ⟨h1, h2⟩ := hx e List.mem_cons_self
      show cutE l e ++ cutL' l xs = e.1 :: xs.map (·.1)
      rw [ih fun z hz => hx z (List.mem_cons_of_mem _ hz)]
      unfold cutE parts
      rw [if_neg (by grind), decide_eq_false (show ¬ 0 < hgt l e.1 by grind), decide_eq_false (show ¬ 0 < hgt l e.2 by grind)]
      simp
  have zf : ∀ (xs ys : List Pt), xs.length = ys.length → (zipL xs ys).map (·.1) = xs := by
    intro xs
    induction xs with
    | nil => intro ys _; rfl
    | cons x xs ih =>
      intro ys h
      cases ys with
      | nil => cases h
      | cons y ys =>
        show x :: (zipL xs ys).map (·.1) = x :: xs
        rw [ih ys (by simpa using h)]
  unfold cutQ
  rw [key _ fun e he => ⟨h _ (edges_mem he).1, h _ (edges_mem he).2⟩]
  exact zf _ _ (rot_len r).symm
theorem win_id {L R B T : Rat} {r : List Pt} (h : ∀ p ∈ r, L ≤ p.1 ∧ p.1 ≤ R ∧ B ≤ p.2 ∧ p.2 ≤ T) : win L R B T r = r := by
  unfold win
  rw [cutQ_id (l := lnL L) fun p hp => by rw [hgt_L]; have := h p hp; grind]
  rw [cutQ_id (l := lnR R) fun p hp => by rw [hgt_R]; have := h p hp; grind]
  rw [cutQ_id (l := lnB B) fun p hp => by rw [hgt_B]; have := h p hp; grind]
  rw [cutQ_id (l := lnT T) fun p hp => by rw [hgt_T]; have := h p hp; grind]
/-! ### bags -/
def Bag (n : Nat) (b : List Int) : Prop := ∃ a k : Int, b = [a, k] ∧ S 1048577 a ∧ 0 ≤ k ∧ k ≤ n
theorem Bag.mono {n m : Nat} {b : List Int} (h : Bag n b) (l : n ≤ m) : Bag m b := by
  obtain ⟨a, k, e, h1, h2, h3⟩ := h
  exact ⟨a, k, e, h1, h2, by omega⟩
theorem l_take_ok {n : Nat} {b : List Int} (h : Bag n b) (hn : n < 1000000) {m : Int} (hm : 0 < m) : Ok (l_take b m) (fun r => 0 ≤ r.1 ∧ r.1 < m ∧ Bag (n + 1) r.2) := by
  obtain ⟨a, k, rfl, h1, h2, h3⟩ := h
  unfold l_take
  have g0 : ∀ x y : Int, atR [x, y] 0 = .ok x := fun x y => rfl
  have g1 : ∀ x y : Int, atR [x, y] 1 = .ok y := fun x y => rfl
  have t0 : ∀ x y z : Int, setR [x, y] 0 z = .ok [z, y] := fun x y z => rfl
  have t1 : ∀ x y z : Int, setR [x, y] 1 z = .ok [x, z] := fun x y z => rfl
  refine .step (g1 a k) (.ite (fun hk => ?_) fun hk => ?_)
  · have f1 := Int.fmod_nonneg_of_pos a hm
    have f2 := Int.fmod_lt_of_pos a hm
    refine .step (g0 a k) (.step (fmodR_ok (by omega)) (.one (.step (g0 a k) (.step (fdivR_ok (by omega)) (.step (t0 _ _ _) (.pure ⟨f1, f2, _, k, rfl, ?_, h2, by omega⟩))))))
    rw [Int.fdiv_eq_ediv_of_nonneg _ (by omega)]
    exact S_ediv hm h1
  · have sk : S 20 k := by unfold S; omega
    have e1 := Int.emod_nonneg (a * 48271 + 7919 * k * k + 17) (show (2147483647 : Int) ≠ 0 by decide)
    have e2 := Int.emod_lt_of_pos (a * 48271 + 7919 * k * k + 17) (show (0 : Int) < 2147483647 by decide)
    refine .step (g0 a k) (.step (mulR_ok (b := 16) h1 (by decide) (by decide)) (.step (g1 a k) (.step (mulR_ok (a := 13) (by decide) sk (by decide)) (.step (g1 a k) (.step (mulR_ok (S.mul (a := 13) (by decide) sk) sk (by decide)) (.step (t0 _ _ _) (.step (g1 _ _) (.step (t1 _ _ _) (.step (g0 _ _) ?_)))))))))
    generalize (a * 48271 + 7919 * k * k + 17) % 2147483647 = c at *
    have sc : S 31 c := by unfold S; omega
    refine .step (mulR_ok (b := 17) sc (by decide) (by decide)) (.step (fmodR_ok (by omega)) (.pure ⟨Int.fmod_nonneg_of_pos _ hm, Int.fmod_lt_of_pos _ hm, c, k + 1, rfl, sc.mono (by decide), by omega, by omega⟩))
theorem l_take2_ok {n : Nat} {b : List Int} (h : Bag n b) (hn : n < 1000000) {m : Int} (hm : 0 < m) : Ok (l_take_2 b m) (fun r => 0 ≤ r.1 ∧ r.1 < m ∧ Bag (n + 1) r.2) := l_take_ok h hn hm
theorem l_bag_ok {c : Int} (hc : S 1048577 c) : Ok (l_bag c) (Bag 1) := by
  unfold l_bag
  exact .iteB (fun _ => .pure ⟨_, 0, rfl, S_ediv (by decide) hc, by decide, by decide⟩) fun _ => .pure ⟨_, 1, rfl, S_ediv (by decide) hc, by decide, by decide⟩
theorem l_bag2_ok {c : Int} (hc : S 1048577 c) : Ok (l_bag_2 c) (Bag 1) := by
  unfold l_bag_2
  exact .iteB (fun _ => .pure ⟨c, 1, rfl, hc, by decide, by decide⟩) fun _ => .pure ⟨c, 0, rfl, hc, by decide, by decide⟩
/-! ### drawn shapes -/
theorem l_number6_ok {n : Nat} {b : List Int} (h : Bag n b) (hn : n + 10 < 1000000) (g : Bool) : Ok (l_number_6 b g) (fun r => SQ 50 r.1 ∧ Bag (n + 5) r.2) := by
  unfold l_number_6
  refine .bind (P := fun r => Bag (n + 1) r.2) (.iteB (fun _ => .bind (l_take2_ok h (by omega) (by decide)) fun t ht => .pure ht.2.2) fun _ => .pure (h.mono (by omega))) fun b4 h4 => ?_
  refine .iteB (fun _ => ?_) fun _ => ?_
  · refine .bind (l_take2_ok h4 (by omega) (by decide)) fun t ht => .bind (l_take2_ok ht.2.2 (by omega) (by decide)) fun u hu => ?_
    obtain ⟨t1, t2, t3⟩ := ht
    obtain ⟨u1, u2, u3⟩ := hu
    exact .step (l_ratio3_ok (by omega)) (.pure ⟨SQ_divInt (by omega) (by unfold S; omega) (by unfold S; omega), u3.mono (by omega)⟩)
  · refine .bind (l_take2_ok h4 (by omega) (by decide)) fun t ht => ?_
    obtain ⟨t1, t2, t3⟩ := ht
    refine .bind (at_all (P := fun b : Int => 0 < b ∧ b < 10) ?_ t1 t2) fun d hd => .one (.bind (l_take2_ok t3 (by omega) (by decide)) fun u hu => ?_)
    · intro x hx; simp at hx; omega
    obtain ⟨u1, u2, u3⟩ := hu
    exact .step (l_ratio3_ok (by omega)) (.pure ⟨SQ_divInt (by omega) (by unfold S; omega) (by unfold S; omega), u3.mono (by omega)⟩)
theorem l_ring5_ok {n : Nat} {b : List Int} (h : Bag n b) (hn : n + 200 < 1000000) {k : Int} (k0 : 0 ≤ k) (k1 : k ≤ 10) (g : Bool) : Ok (l_ring_5 b k g) (fun r => (r.1.length : Int) = k ∧ SR 50 r.1 ∧ Bag (n + 100) r.2) := by
  unfold l_ring_5
  refine .one (.step (rngR_ok (by decide) (by decide) (by omega) (by omega)) ?_)
  refine .bind (.forR (fun i s => s.2.length = i ∧ SR 50 s.2 ∧ Bag (n + 10 * i) s.1) ⟨rfl, (fun x hx => nomatch hx), h⟩ fun i s x hs hx => ?_) fun s hs => .pure ?_
  · obtain ⟨ex, hx3⟩ := rng_at hx
    refine .bind (l_number6_ok hs.2.2 (by omega) g) fun p hp => .one (.bind (l_number6_ok hp.2 (by omega) g) fun q hq => .step (appR_ok (by omega)) (.pure ⟨?_, ?_, hq.2.mono (by omega)⟩))
    · show (s.2 ++ _).length = _
      rw [List.length_append, List.length_singleton, hs.1]
    · intro y hy
      rcases List.mem_append.mp hy with h | h
      · exact hs.2.1 y h
      · simp at h; subst h; exact ⟨hp.1, hq.1⟩
  · rw [rng_len] at hs
    exact ⟨by show (s.2.length : Int) = k; omega, hs.2.1, hs.2.2.mono (by omega)⟩
def ShO (s : List (List Pt)) : Prop := s.length ≤ 3 ∧ ∀ r ∈ s, r.length ≤ 6 ∧ SR 50 r
theorem l_shape4_ok {ns : List Int} (hl : ns.length ≤ 63) (hb : Bits ns) {n : Nat} {b : List Int} (h : Bag n b) (hn : n < 1000) : Ok (l_shape_4 ns b) (fun r => ShO r.1 ∧ Bag 5000 r.2) := by
  unfold l_shape_4
  refine .bind (l_take2_ok h (by omega) (by decide)) fun t ht => .ite (fun _ => ?_) fun _ => ?_
  · refine .bind (l_ring5_ok ht.2.2 (by omega) (by decide) (by decide) true) fun r hr => .pure ⟨⟨by simp, fun x hx => ?_⟩, hr.2.2.mono (by omega)⟩
    have := List.mem_singleton.mp hx
    subst this
    exact ⟨by omega, hr.2.1⟩
  refine .one (.bind (l_take2_ok ht.2.2 (by omega) (by decide)) fun u hu => ?_)
  refine .bind (at_all (P := fun b : Int => 0 ≤ b ∧ b ≤ 3) ?_ hu.1 hu.2.1) fun d hd => .step (rngR_ok (by decide) (by decide) (by omega) (by omega)) ?_
  · intro x hx; simp at hx; omega
  refine .bind (.forR (fun i s => (s.2.length = i ∧ ∀ r ∈ s.2, r.length ≤ 6 ∧ SR 50 r) ∧ Bag (n + 2 + 200 * i) s.1) ⟨⟨rfl, fun r hr => nomatch hr⟩, hu.2.2⟩ fun i s x hs hx => ?_) fun s hs => ?_
  · obtain ⟨ex, hx3⟩ := rng_at hx
    refine .bind (l_take2_ok hs.2 (by omega) (by decide)) fun v hv => .bind (l_ring5_ok hv.2.2 (by omega) hv.1 (by omega) false) fun r hr => .step (appR_ok (by omega)) (.pure ⟨⟨?_, ?_⟩, hr.2.2.mono (by omega)⟩)
    · show (s.2 ++ _).length = _
      rw [List.length_append, List.length_singleton, hs.1.1]
    · intro y hy
      rcases List.mem_append.mp hy with h | h
      · exact hs.1.2 y h
      · simp at h; subst h; exact ⟨by omega, hr.2.1⟩
  rw [rng_len] at hs
  have s3 : ShO s.2 := ⟨by omega, hs.1.2⟩
  refine .bind (P := ShO) (.mono (.forR (fun _ s => ShO s) s3 fun i z x hz hx => ?_) fun _ z => z) fun z hz => .pure ⟨hz, hs.2.mono (by omega)⟩
  have hc : S 1048577 x := S.of_log (hb x (mem_cut (List.mem_of_getElem? hx)))
  refine .bind (l_bag2_ok hc) fun bg hbg => .one (.ite (fun c => ?_) fun _ => .pure hz)
  refine .bind (l_take2_ok hbg (by omega) (by omega)) fun v hv => ?_
  obtain ⟨v1, v2, v3⟩ := hv
  obtain ⟨r, gr, ar⟩ := atR_int v1 v2
  have hr := hz.2 r (List.mem_of_getElem? gr)
  refine .step ar (.ite (fun c6 => ?_) fun _ => .pure hz)
  refine .bind (l_ring5_ok v3 (by omega) (by decide) (by decide) false) fun w hw => .step (extR_ok (by omega)) (.bind (set_all (P := fun r => r.length ≤ 6 ∧ SR 50 r) hz.2 ⟨?_, ?_⟩ v1 v2) fun ys hy => .pure ⟨by rw [hy.1]; exact hz.1, hy.2⟩)
  · rw [List.length_append]; omega
  · intro y hy
    rcases List.mem_append.mp hy with h | h
    · exact hr.2 y h
    · exact hw.2.1 y h
theorem ShO.many {s : List (List Pt)} (h : ShO s) : many s ≤ 18 := by
  have key : ∀ s : List (List Pt), (∀ r ∈ s, r.length ≤ 6) → Pg.many s ≤ 6 * s.length := by
    intro s
    induction s with
    | nil => intro _; exact Nat.le_refl _
    | cons x xs ih =>
      intro h
      have e0 : Pg.many (x :: xs) = x.length + Pg.many xs := by unfold Pg.many; rw [List.map_cons, List.sum_cons]
      have := h x List.mem_cons_self
      have := ih fun r hr => h r (List.mem_cons_of_mem _ hr)
      rw [e0, List.length_cons]; omega
  have := key s fun r hr => (h.2 r hr).1
  have := h.1
  omega
end Pg

set_option Elab.async false
set_option linter.all false
set_option maxRecDepth 100000
namespace Pg
theorem areas_loop {f : List Pt → Rat → R Rat} (hf : ∀ x s, f x s = R.bind (l_area x) fun a => R.bind (l_plus_2 s a) fun p => R.bind (R.ok p) fun d => R.ok d) {n N : Nat} : ∀ (ws : List (List Pt)) (s : Rat) (m : Nat), SQ m s → (∀ w ∈ ws, SR n w ∧ w.length ≤ N) → N < 1000 → m + ((4 * n + 2) * N + 4) * ws.length + ((4 * n + 2) * N + 4 * n + 10) < 133000000 →
    R.forR f ws s = .ok (s + sumQ (ws.map areaQ)) ∧ SQ (m + ((4 * n + 2) * N + 4) * ws.length) (s + sumQ (ws.map areaQ))
  | [], s, m, hs, _, _, _ => by
    have e : s + sumQ (([] : List (List Pt)).map areaQ) = s := by show s + 0 = s; grind
    rw [e]
    exact ⟨rfl, hs.mono (by omega)⟩
  | w :: ws, s, m, hs, hw, hN, hb => by
    obtain ⟨h1, h2⟩ := hw w List.mem_cons_self
    rw [List.length_cons, Nat.mul_add, Nat.mul_one] at hb
    have le : (4 * n + 2) * w.length ≤ (4 * n + 2) * N := Nat.mul_le_mul_left _ h2
    have sa : SQ ((4 * n + 2) * N + 3) (areaQ w) := (SQ_area h1).mono (by omega)
    have := areas_loop hf ws (s + areaQ w) (m + ((4 * n + 2) * N + 4)) ((hs.add sa).mono (by omega)) (fun x hx => hw x (List.mem_cons_of_mem _ hx)) hN (by omega)
    have e : s + sumQ ((w :: ws).map areaQ) = s + areaQ w + sumQ (ws.map areaQ) := by
      show s + (areaQ w + sumQ (ws.map areaQ)) = _
      grind
    rw [e]
    constructor
    · unfold R.forR
      rw [hf, l_area_ok h1 (by omega) (by omega), bind_ok, l_plus2_ok hs sa (by omega), bind_ok, bind_ok, bind_ok]
      exact this.1
    · refine this.2.mono ?_
      rw [List.length_cons, Nat.mul_add, Nat.mul_one]; omega
theorem dueC_win (sh : List (List Pt)) (i j : Nat) : dueC sh i j = sumQ ((sh.map (win ((i : Int) : Rat) (((i : Int) + 1 : Int) : Rat) ((j : Int) : Rat) (((j : Int) + 1 : Int) : Rat))).map areaQ) := by
  unfold dueC
  rw [List.map_map]
  refine congrArg sumQ (List.map_congr_left fun r _ => ?_)
  rw [Fc_area, castS, castS]; rfl
theorem SQ_small {i : Int} (h0 : 0 ≤ i) (h1 : i < 32) : SQ 5 (i : Rat) := SQ_int (by unfold S; omega) (by decide)
theorem k16_ok : ∀ ns : List Int, ns.length ≤ 63 → (∀ z ∈ ns, z.natAbs.log2 ≤ 1048576) → k16_law ns = .ok true := fun ns hl hb => by
  unfold k16_law
  obtain ⟨c1, e1, sc1⟩ := l_cell_ok hb (k := 1) (by decide) (by decide)
  refine Ok.true (.step e1 (.bind (l_bag2_ok sc1) fun b hbg => .one (.bind (l_take2_ok hbg (by decide) (by decide)) fun t ht => .bind (l_take2_ok ht.2.2 (by decide) (by decide)) fun u hu => .one ?_)))
  obtain ⟨t1, t2, t3⟩ := ht
  obtain ⟨u1, u2, u3⟩ := hu
  obtain ⟨w, hw⟩ : ∃ w : Nat, 1 + t.1 = (w : Int) := ⟨(1 + t.1).toNat, by omega⟩
  obtain ⟨h, hh⟩ : ∃ h : Nat, 1 + u.1 = (h : Int) := ⟨(1 + u.1).toNat, by omega⟩
  simp only [hw, hh]
  refine .one (.step (rngR_ok (by decide) (by decide) (by decide) (by decide)) ?_)
  refine .bind (.forR (fun i s => Bag (3 + 10 * i) s.1 ∧ s.2.length = i ∧ ∀ c ∈ s.2, 0 ≤ c.1 ∧ c.1 < (w : Int) ∧ 0 ≤ c.2 ∧ c.2 < (h : Int)) ⟨u3, rfl, fun c hc => nomatch hc⟩ fun i s x hs hx => ?_) fun s hs => ?_
  · obtain ⟨ex, hx3⟩ := rng_at hx
    refine .bind (l_take2_ok hs.1 (by omega) (by omega)) fun p hp => .bind (l_take2_ok hp.2.2 (by omega) (by omega)) fun q hq => .step (appR_ok (by omega)) (.pure ⟨hq.2.2.mono (by omega), ?_, ?_⟩)
    · show (s.2 ++ _).length = _
      rw [List.length_append, List.length_singleton, hs.2.1]
    · intro y hy
      rcases List.mem_append.mp hy with h | h
      · exact hs.2.2 y h
      · rw [List.mem_singleton.mp h]
        exact ⟨hp.1, hp.2.1, hq.1, hq.2.1⟩
  rw [rng_len] at hs
  refine .bind (l_shape4_ok hl hb hs.1 (by decide)) fun g hg => .one ?_
  obtain ⟨sg, _⟩ := hg
  have ra : ∀ r ∈ g.1, SR 50 r := fun r hr => (sg.2 r hr).2
  obtain ⟨s1, q1⟩ := shares_ok (w := w) (h := h) (n := 50) (by omega) (by omega) (by omega) ra (by have := sg.many; omega)
  refine .step s1 (.one (.caseU (.forU fun c hc => ?_) (.pure rfl)))
  obtain ⟨h1, h2, h3, h4⟩ := hs.2.2 c hc
  obtain ⟨x, y⟩ := c
  simp only at h1 h2 h3 h4
  obtain ⟨i, rfl⟩ : ∃ i : Nat, x = i := ⟨x.toNat, by omega⟩
  obtain ⟨j, rfl⟩ : ∃ j : Nat, y = j := ⟨y.toNat, by omega⟩
  obtain ⟨v1, v2⟩ := p_window_shape_ok (m := 5) (n := 50) rfl rfl rfl rfl (by decide) (SQ_small h1 (by omega)) (SQ_small (i := (i : Int) + 1) (by omega) (by omega)) (SQ_small h3 (by omega)) (SQ_small (i := (j : Int) + 1) (by omega) (by omega)) (sh := g.1) (fun r hr => ⟨ra r hr, by have := (sg.2 r hr).1; omega⟩) (by have := sg.1; omega)
  refine .step mkQ_zero (.one (.step (mkQ_int _) (.step (mkQ_int _) (.step (mkQ_int _) (.step (mkQ_int _) (.step v1 ?_))))))
  refine .step (areas_loop (fun _ _ => rfl) (n := nC 5 (nC 5 (nC 5 (nC 5 50)))) (N := 96) _ 0 1 (SQ_zero 0) (fun z hz => ?_) (by decide) ?_).1 ?_
  · obtain ⟨r, hr, rfl⟩ := List.mem_map.mp hz
    have := v2 r hr
    have := (sg.2 r hr).1
    exact ⟨(v2 r hr).1, by omega⟩
  · have e : nC 5 (nC 5 (nC 5 (nC 5 50))) = 70239 := by decide
    rw [e, List.length_map]
    have := sg.1
    omega
  refine .step (tab_at h3 h4) (.step (row_at h1 h2) ?_)
  rw [Int.toNat_natCast, Int.toNat_natCast, dueC_win]
  rw [show ∀ q : Rat, 0 + q = q from fun q => by grind]
  exact .step (l_is2_ok _) (.pure rfl)
end Pg

set_option Elab.async false
set_option linter.all false
namespace Pg

/-! mirrors of the defs of k21, printed by pygen -/
def p_moved (shape1 : (List (List (Rat × Rat)))) (across2 : Rat) (up3 : Rat) : R ((List (List (Rat × Rat)))) :=
  R.bind (R.compR (fun x4 => R.bind (R.compR (fun x5 => R.bind (p_plus x5.1 across2) fun plus6 => R.bind (p_plus x5.2 up3) fun plus7 => R.ok ((plus6, plus7))) x4) fun c8 => R.ok c8) shape1) fun c9 =>
  R.ok c9
def l_moved (shape1 : (List (List (Rat × Rat)))) (across2 : Rat) (up3 : Rat) : R ((List (List (Rat × Rat)))) :=
  R.bind (R.compR (fun x4 => R.bind (R.compR (fun x5 => R.bind (l_plus_3 x5.1 across2) fun p6 => R.bind (l_plus_3 x5.2 up3) fun p7 => R.ok ((p6, p7))) x4) fun c8 => R.ok c8) shape1) fun c9 =>
  R.ok c9
def k21_law (script1 : (List Int)) : R Bool :=
  R.bind (l_cell script1 ((0 : Int))) fun c2 =>
  R.bind (R.ok (((1 : Int) + (c2 % (4 : Int))))) fun width3 =>
  R.bind (l_cell script1 ((0 : Int))) fun c4 =>
  R.bind (R.ok (((1 : Int) + ((c4 / (4 : Int)) % (3 : Int))))) fun height5 =>
  R.bind (l_shape_2 script1 ((3 : Int))) fun s6 =>
  R.bind (R.ok s6) fun shape7 =>
  R.bind (R.compR (fun x8 =>  R.ok x8) shape7) fun c9 =>
  R.bind (R.ok c9) fun handed10 =>
  R.bind (l_cell script1 ((1 : Int))) fun c11 =>
  R.bind (l_number_3 c11) fun n12 =>
  R.bind (l_cell script1 ((2 : Int))) fun c13 =>
  R.bind (l_number_3 c13) fun n14 =>
  R.bind (R.ok ((n12, n14))) fun by15 =>
  R.bind (p_moved handed10 by15.1 by15.2) fun moved16 =>
  R.bind (R.ok moved16) fun found17 =>
  R.bind (l_moved shape7 by15.1 by15.2) fun m18 =>
  R.bind (l_shape_is found17 m18) fun s19 =>
  if ((!s19) || (!decide (handed10 = shape7))) = true then (R.ok false) else (R.bind (appAllR ((found17.map (·.map some))) none) fun found20 => R.bind (appR found20 (([] : (List (Option (Rat × Rat)))))) fun found21 => R.bind (mkQ ((0 : Int)) ((1 : Int))) fun q22 => R.bind (mkQ ((0 : Int)) ((1 : Int))) fun q23 => R.bind (p_moved handed10 q22 q23) fun moved24 => R.bind (l_shape_is moved24 shape7) fun s25 => if (!s25) = true then (R.ok false) else (R.bind (l_cell script1 ((1 : Int))) fun c26 => R.bind (R.ok ((((c26 / (7 : Int)) % (7 : Int)) - (3 : Int)))) fun a27 => R.bind (l_cell script1 ((2 : Int))) fun c28 => R.bind (R.ok ((((c28 / (7 : Int)) % (7 : Int)) - (3 : Int)))) fun b29 => R.bind (mkQ a27 ((1 : Int))) fun q30 => R.bind (mkQ b29 ((1 : Int))) fun q31 => R.bind (p_moved handed10 q30 q31) fun moved32 => R.bind (R.ok moved32) fun gone33 => R.bind (mkQ a27 ((1 : Int))) fun q34 => R.bind (mkQ b29 ((1 : Int))) fun q35 => R.bind (l_moved shape7 q34 q35) fun m36 => R.bind (l_shape_is gone33 m36) fun s37 => if (!s37) = true then (R.ok false) else (R.bind (p_shares width3 height5 handed10) fun shares38 => R.bind (R.ok shares38) fun first39 => R.bind (p_shares width3 height5 gone33) fun shares40 => R.bind (R.ok shares40) fun then41 => R.bind (l_table first39 width3 height5) fun t42 => R.bind (R.orR ((!t42)) (R.bind (l_table then41 width3 height5) fun t43 => R.ok ((!t43)))) fun b44 => if b44 = true then (R.ok false) else (R.bind (rngR 0 height5) fun r45 => R.bind (R.forX (fun (x46 : Int) (s47 : Unit) => (R.bind (rngR 0 width3) fun r48 => R.bind (R.forX (fun (x49 : Int) (s50 : Unit) => (R.bind (R.ok ((x49 - a27))) fun x51 => R.bind (R.ok ((x46 - b29))) fun y52 => if ((decide ((0 : Int) ≤ x51) && decide (x51 < width3)) && (decide ((0 : Int) ≤ y52) && decide (y52 < height5))) = true then (R.bind (atR then41 x46) fun it53 => R.bind (atR it53 x49) fun it54 => R.bind (atR first39 y52) fun it55 => R.bind (atR it55 x51) fun it56 => if (!decide (it54 = it56)) = true then (R.ok (Sum.inr false)) else (R.ok (Sum.inl (())))) else (R.ok (Sum.inl (()))) : R (Sum Unit Bool))) r48 (())) fun r57 => R.caseX r57 (fun s58 => R.ok (Sum.inl (()))) (fun b59 => R.ok (Sum.inr b59)) : R (Sum Unit Bool))) r45 (())) fun r60 => R.caseX r60 (fun s61 => R.ok ((decide (handed10 = shape7)))) (fun b62 => R.ok b62)))))
end Pg

set_option Elab.async false
set_option linter.all false
set_option maxRecDepth 100000
namespace Pg
theorem p_moved_ok {n m : Nat} {a b : Rat} (ha : SQ m a) (hb : SQ m b) (hnm : n + m < 1000) {sh : List (List Pt)} (hs : ∀ r ∈ sh, SR n r ∧ r.length < 1000) (hl : sh.length < 1000) :
    p_moved sh a b = .ok (mapS (fun p => (p.1 + a, p.2 + b)) sh) ∧ l_moved sh a b = .ok (mapS (fun p => (p.1 + a, p.2 + b)) sh) := by
  constructor
  · unfold p_moved
    rw [compR_ok (by omega) (mapR_ok (g := fun r => r.map fun p => (p.1 + a, p.2 + b)) fun r hr => ?_), bind_ok]; rfl
    have hr := hs r hr
    rw [compR_ok (by omega) (mapR_ok (g := fun p : Pt => (p.1 + a, p.2 + b)) fun p hp => ?_), bind_ok]
    have hp := hr.1 p hp
    rw [p_plus_ok hp.1 ha (by omega), bind_ok, p_plus_ok hp.2 hb (by omega), bind_ok]
  · unfold l_moved
    rw [compR_ok (by omega) (mapR_ok (g := fun r => r.map fun p => (p.1 + a, p.2 + b)) fun r hr => ?_), bind_ok]; rfl
    have hr := hs r hr
    rw [compR_ok (by omega) (mapR_ok (g := fun p : Pt => (p.1 + a, p.2 + b)) fun p hp => ?_), bind_ok]
    have hp := hr.1 p hp
    rw [l_plus3_ok hp.1 ha (by omega), bind_ok, l_plus3_ok hp.2 hb (by omega), bind_ok]
theorem dueC_move {a b : Int} {k r k' r' : Nat} (ek : (k : Int) = k' + a) (er : (r : Int) = r' + b) (sh : List (List Pt)) : dueC (mapS (fun p => (p.1 + (a : Rat), p.2 + (b : Rat))) sh) k r = dueC sh k' r' := by
  have e1 : (k : Rat) = (k' : Rat) + (a : Rat) := by
    have : ((k : Int) : Rat) = ((k' : Int) : Rat) + (a : Rat) := by rw [ek, Rat.intCast_add]
    exact this
  have e2 : (r : Rat) = (r' : Rat) + (b : Rat) := by
    have : ((r : Int) : Rat) = ((r' : Int) : Rat) + (b : Rat) := by rw [er, Rat.intCast_add]
    exact this
  rw [dueC_map]
  unfold dueC
  refine congrArg sumQ (List.map_congr_left fun x _ => cyc_congr (fun u v => ?_) x)
  have := Fw_move (L := (k' : Rat)) (R := (k' : Rat) + 1) (B := (r' : Rat)) (T := (r' : Rat) + 1) (by grind) (by grind) (a : Rat) (b : Rat) u v
  unfold Fc
  rw [e1, e2, ← this]
  congr 1 <;> grind
theorem appAll_ok {sh : List (List Pt)} (h : ∀ r ∈ sh, r.length < 1000) : appAllR (sh.map fun r => r.map (some : Pt → Option Pt)) none = .ok ((sh.map fun r => r.map (some : Pt → Option Pt)).map (· ++ [none])) := by
  unfold appAllR
  rw [if_pos]
  rw [List.all_eq_true]
  intro r hr
  obtain ⟨r0, h0, rfl⟩ := List.mem_map.mp hr
  rw [List.length_map]
  have := h r0 h0
  exact decide_eq_true (by omega)
theorem mapS_rl {f : Pt → Pt} {sh : List (List Pt)} (h : ∀ r ∈ sh, r.length < 1000) : ∀ r ∈ mapS f sh, r.length < 1000 := fun r hr => by
  obtain ⟨r0, h0, rfl⟩ := List.mem_map.mp hr
  rw [List.length_map]; exact h r0 h0
theorem k21_ok : ∀ ns : List Int, ns.length ≤ 63 → (∀ z ∈ ns, z.natAbs.log2 ≤ 1048576) → k21_law ns = .ok true := fun ns hl hb => by
  unfold k21_law
  obtain ⟨c0, e0, _⟩ := l_cell_ok hb (k := 0) (by decide) (by decide)
  obtain ⟨c1, e1, _⟩ := l_cell_ok hb (k := 1) (by decide) (by decide)
  obtain ⟨c2, e2, _⟩ := l_cell_ok hb (k := 2) (by decide) (by decide)
  have m1 := Int.emod_nonneg c0 (show (4 : Int) ≠ 0 by decide)
  have m2 := Int.emod_lt_of_pos c0 (show (0 : Int) < 4 by decide)
  have m3 := Int.emod_nonneg (c0 / 4) (show (3 : Int) ≠ 0 by decide)
  have m4 := Int.emod_lt_of_pos (c0 / 4) (show (0 : Int) < 3 by decide)
  have m5 := Int.emod_nonneg (c1 / 7) (show (7 : Int) ≠ 0 by decide)
  have m6 := Int.emod_lt_of_pos (c1 / 7) (show (0 : Int) < 7 by decide)
  have m7 := Int.emod_nonneg (c2 / 7) (show (7 : Int) ≠ 0 by decide)
  have m8 := Int.emod_lt_of_pos (c2 / 7) (show (0 : Int) < 7 by decide)
  obtain ⟨w, hw⟩ : ∃ w : Nat, 1 + c0 % 4 = (w : Int) := ⟨(1 + c0 % 4).toNat, by omega⟩
  obtain ⟨h, hh⟩ : ∃ h : Nat, 1 + c0 / 4 % 3 = (h : Int) := ⟨(1 + c0 / 4 % 3).toNat, by omega⟩
  refine Ok.true (.step e0 (.one (.step e0 (.one ?_))))
  rw [hw, hh]
  refine .bind (l_shape2_ok hb (by decide) (by decide)) fun sh hsh => .one ?_
  obtain ⟨ma, la, pa⟩ := hsh
  have ra : ∀ r ∈ sh, SR 50 r := fun r hr => P6_SR (pa r hr)
  have rl : ∀ r ∈ sh, r.length < 1000 := fun r hr => by have := many_mem hr; omega
  have rc : ∀ r ∈ sh, SR 50 r ∧ r.length < 1000 := fun r hr => ⟨ra r hr, rl r hr⟩
  refine .step (compR_id (by omega)) (.one (.step e1 (.bind (l_number3_ok c1) fun p hp => .step e2 (.bind (l_number3_ok c2) fun q hq => .one ?_))))
  obtain ⟨v1, v2⟩ := p_moved_ok (n := 50) (m := 50) hp.1 hq.1 (by decide) rc (by omega)
  have is1 := l_shape_is_ok (n := 101) (sh := mapS (fun x => (x.1 + p, x.2 + q)) sh) (by decide) (fun r hr => ⟨mapS_SR ra (fun x hx => ⟨(hx.1.add hp.1).mono (by decide), (hx.2.add hq.1).mono (by decide)⟩) r hr, mapS_rl rl r hr⟩) (by rw [mapS_len]; omega)
  refine .step v1 (.one (.step v2 (.step is1 ?_)))
  rw [show ((!true) || (!decide (sh = sh))) = false by simp, if_ok_f]
  refine .step (appAll_ok (mapS_rl rl)) (.step (appR_ok (by rw [List.length_map, List.length_map, mapS_len]; omega)) (.step mkQ_zero (.step mkQ_zero ?_)))
  obtain ⟨z1, _⟩ := p_moved_ok (n := 50) (m := 1) (SQ_zero 0) (SQ_zero 0) (by decide) rc (by omega)
  rw [mapS_id (fun x => by show (x.1 + 0, x.2 + 0) = x; ext <;> grind)] at z1
  refine .step z1 (.step (l_shape_is_ok (n := 50) (by decide) rc (by omega)) ?_)
  rw [show (!true) = false from rfl, if_ok_f]
  refine .step e1 (.one (.step e2 (.one ?_)))
  have ba : -3 ≤ c1 / 7 % 7 - 3 ∧ c1 / 7 % 7 - 3 ≤ 3 := by omega
  have bb : -3 ≤ c2 / 7 % 7 - 3 ∧ c2 / 7 % 7 - 3 ≤ 3 := by omega
  generalize c1 / 7 % 7 - 3 = a at *
  generalize c2 / 7 % 7 - 3 = b at *
  have sa : SQ 3 (a : Rat) := SQ_int (by unfold S; omega) (by decide)
  have sb : SQ 3 (b : Rat) := SQ_int (by unfold S; omega) (by decide)
  obtain ⟨g1, g2⟩ := p_moved_ok (n := 50) (m := 3) sa sb (by decide) rc (by omega)
  have rm := mapS_SR (m := 54) (f := fun x => (x.1 + (a : Rat), x.2 + (b : Rat))) ra (fun x hx => ⟨(hx.1.add sa).mono (by decide), (hx.2.add sb).mono (by decide)⟩)
  have is2 := l_shape_is_ok (n := 54) (sh := mapS (fun x => (x.1 + (a : Rat), x.2 + (b : Rat))) sh) (by decide) (fun r hr => ⟨rm r hr, mapS_rl rl r hr⟩) (by rw [mapS_len]; omega)
  refine .step (mkQ_int a) (.step (mkQ_int b) (.step g1 (.one (.step (mkQ_int a) (.step (mkQ_int b) (.step g2 (.step is2 ?_)))))))
  rw [show (!true) = false from rfl, if_ok_f]
  obtain ⟨s1, q1⟩ := shares_ok (w := w) (h := h) (n := 50) (by omega) (by omega) (by omega) ra (by omega)
  obtain ⟨s2, q2⟩ := shares_ok (w := w) (h := h) (n := 54) (by omega) (by omega) (by omega) rm (by rw [mapS_many]; omega)
  have tb : ∀ {f : Nat → Nat → Rat}, (∀ k r, k < w → r < h → SQ 8000000 (f k r)) → l_table (tab w h fun r k => f k r) (w : Int) (h : Int) = .ok true := fun hf => l_table_ok fun r k hr hk => (hf k r hk hr).mono (by decide)
  refine .step s1 (.one (.step s2 (.one (.step (tb q1) (.step (a := false) ?_ ?_)))))
  · rw [show (!true) = false from rfl, orR_f, tb q2, bind_ok]; rfl
  rw [if_ok_f]
  refine .step (rngR_ok (by decide) (by decide) (by omega) (by omega)) (.caseU (.forU fun x hx => ?_) (.pure (by simp)))
  have hx := rng_mem hx
  refine .step (rngR_ok (by decide) (by decide) (by omega) (by omega)) (.caseU (.forU fun y hy => ?_) (.pure rfl))
  have hy := rng_mem hy
  refine .one (.one (.iteB (fun c => ?_) fun _ => .pure rfl))
  simp only [Bool.and_eq_true, decide_eq_true_eq] at c
  obtain ⟨⟨c1, c2⟩, c3, c4⟩ := c
  have e := dueC_move (a := a) (b := b) (k := y.toNat) (r := x.toNat) (k' := (y - a).toNat) (r' := (x - b).toNat) (by omega) (by omega) sh
  refine .step (tab_at hx.1 hx.2) (.step (row_at hy.1 hy.2) (.step (tab_at c3 c4) (.step (row_at c1 c2) ?_)))
  rw [e, decide_eq_true rfl]
  exact .pure rfl
end Pg

set_option Elab.async false
set_option linter.all false
set_option maxRecDepth 100000
namespace Pg
/-! ### shares of shapes with large numbers -/
theorem piecesQ_len3 {w h : Nat} (e : Sd) : (piecesQ w h e).length ≤ w + h + 4 := by
  unfold piecesQ
  split
  · simp
  · have key : ∀ P : List (Rat × Rat), (P.flatMap (pieceE w h e)).length ≤ P.length := by
      intro P
      induction P with
      | nil => simp
      | cons k P ih =>
        rw [List.flatMap_cons, List.length_append, List.length_cons]
        have : (pieceE w h e k).length ≤ 1 := by unfold pieceE; split <;> simp
        omega
    have h1 := key (pairs (knots w h e))
    rw [pairs_len] at h1
    have h2 := putAll_len (sharesQ e.1.1 e.2.1 w ++ sharesQ e.1.2 e.2.2 h) []
    have h3 := sharesQ_len (a := e.1.1) (b := e.2.1) (n := (w : Int)) (by omega)
    have h4 := sharesQ_len (a := e.1.2) (b := e.2.2) (n := (h : Int)) (by omega)
    rw [List.length_append] at h2
    have h5 : (knots w h e).length = (innerQ w h e).length + 2 := by unfold knots; simp
    have h6 : (innerQ w h e).length ≤ 0 + ((sharesQ e.1.1 e.2.1 w).length + (sharesQ e.1.2 e.2.2 h).length) := h2
    omega
theorem allP_len3 {w h : Nat} : ∀ sh : List (List Pt), (allP w h sh).length ≤ (w + h + 4) * many sh
  | [] => by simp [allP, many]
  | r :: sh => by
    have e0 : many (r :: sh) = r.length + many sh := by unfold many; rw [List.map_cons, List.sum_cons]
    have e1 : allP w h (r :: sh) = (edges r).flatMap (piecesQ w h) ++ allP w h sh := rfl
    have pl : ∀ es : List Sd, (es.flatMap (piecesQ w h)).length ≤ (w + h + 4) * es.length := by
      intro es
      induction es with
      | nil => simp
      | cons e es ih2 =>
        rw [List.flatMap_cons, List.length_append, List.length_cons, Nat.mul_add]
        have := piecesQ_len3 (w := w) (h := h) e
        omega
    have pr := pl (edges r)
    rw [edges_len] at pr
    have := allP_len3 (w := w) (h := h) sh
    rw [e0, e1, List.length_append, Nat.mul_add]; omega
theorem shares_big {w h n : Nat} {sh : List (List Pt)} (hw : w ≤ 3) (hh : h ≤ 3) (hn : n < 1000) (hs : ∀ r ∈ sh, SR n r) (hl : many sh ≤ 19) :
    p_shares (w : Int) (h : Int) sh = .ok (tab w h fun r k => dueC sh k r) ∧ ∀ k r, k < w → r < h → SQ 8000000 (dueC sh k r) := by
  have on := allP_on (w := w) (h := h) (by omega) (by omega) hs
  have len : (allP w h sh).length ≤ 190 := by
    have := allP_len3 (w := w) (h := h) sh
    have : (w + h + 4) * many sh ≤ 10 * 19 := Nat.mul_le_mul (by omega) hl
    omega
  have e : ∀ k r, k < w → r < h → dueQ (allP w h sh) k r = dueC sh k r := fun k r hk hr => due_cyc hk hr sh fun c hc => (on c hc).2.1
  have pt : p_shares w h sh = .ok (shareT w h (allP w h sh)) := by
    rw [p_shares_eq]
    have e1 : ((w : Int) + 1) = ((w + 1 : Nat) : Int) := by omega
    rw [e1, p_noughts_ok (by omega) (by omega), bind_ok, p_noughts_ok (by omega) (by omega), bind_ok]
    have lp := ring_loop2 (w := w) (h := h) (n := n) (by omega) (by omega) (by omega) sh [] hs (fun c hc => nomatch hc) (by simp; omega)
    have lp2 : R.forR (ringB w h) sh ((tab (w + 1) h fun _ _ => 0), tab w h fun _ _ => 0) = .ok (tab (w + 1) h (accF (allP w h sh)), tab w h (accG (allP w h sh))) := lp
    rw [lp2, bind_ok, rngR_ok (by decide) (by decide) (by omega) (by omega), bind_ok]
    have sF : ∀ a b, SQ 6000000 (accF (allP w h sh) a b) := fun a b => by
      refine (SQ_acc (m := 2 * (6 * n + 10) + 1) (f := fallQ) (fun c hc => SQ_fall (on c hc).1) (by omega)).mono ?_
      have : (2 * (6 * n + 10) + 1 + 1) * (allP w h sh).length ≤ 12022 * 190 := Nat.mul_le_mul (by omega) len
      omega
    have sG : ∀ a b, SQ 6000000 (accG (allP w h sh) a b) := fun a b => by
      refine (SQ_acc (m := 4 * (6 * n + 10) + 30) (f := rightV) (fun c hc => SQ_right (on c hc).1) (by omega)).mono ?_
      have : (4 * (6 * n + 10) + 30 + 1) * (allP w h sh).length ≤ 24071 * 190 := Nat.mul_le_mul (by omega) len
      omega
    rw [compR_ok (by simp; omega) (mapR_ok (g := fun x : Int => rowT w fun k => cum (accF (allP w h sh) x.toNat) k + accG (allP w h sh) x.toNat k) fun x hx => ?_), bind_ok, List.map_map]
    · congr 1
      unfold shareT tab
      have e : ((h : Int) - 0).toNat = h := by omega
      rw [e]
      refine List.map_congr_left fun k _ => ?_
      show (rowT w fun j => cum (accF (allP w h sh) ((0 : Int) + (k : Nat)).toNat) j + accG (allP w h sh) ((0 : Int) + (k : Nat)).toNat j) = _
      rw [show ((0 : Int) + (k : Nat)).toNat = k by omega]
    · have hx := rng_mem hx
      have b1 : (6000000 + 1) * (w + 2) ≤ 6000001 * 15 := Nat.mul_le_mul_left _ (by omega)
      rw [tab_at hx.1 hx.2, bind_ok, tab_at hx.1 hx.2, bind_ok, p_summed_ok (by omega) (fun k => sF _ k) (fun k => sG _ k) (by omega), bind_ok]
  constructor
  · exact pt.trans (congrArg R.ok (tab_congr fun r k hr hk => e k r hk hr))
  · intro k r hk hr
    rw [← e k r hk hr]
    refine SQ_dueQ (n := 6 * n + 10) (fun c hc => (on c hc).1) (fun c hc => (on c hc).2.1) ?_ k r
    have : (6 * (6 * n + 10) + 41) * (allP w h sh).length ≤ 36200 * 190 := Nat.mul_le_mul (by omega) len
    omega
/-! ### the two sides of a line -/
theorem Add.any {c : Pt → Pt → Rat} (hc : Add c) (ha : Anti c) (e : Sd) (r s t : Rat) : c (at_ e r) (at_ e s) + c (at_ e s) (at_ e t) = c (at_ e r) (at_ e t) := by
  have a1 := ha (at_ e r) (at_ e s)
  have a2 := ha (at_ e s) (at_ e t)
  have a3 := ha (at_ e r) (at_ e t)
  have t1 := fun (h1 : r ≤ s) (h2 : s ≤ t) => hc.three e h1 h2
  have t2 := fun (h1 : r ≤ t) (h2 : t ≤ s) => hc.three e h1 h2
  have t3 := fun (h1 : s ≤ r) (h2 : r ≤ t) => hc.three e h1 h2
  have t4 := fun (h1 : s ≤ t) (h2 : t ≤ r) => hc.three e h1 h2
  have t5 := fun (h1 : t ≤ r) (h2 : r ≤ s) => hc.three e h1 h2
  have t6 := fun (h1 : t ≤ s) (h2 : s ≤ r) => hc.three e h1 h2
  rcases Rat.le_total (a := r) (b := s) with h1 | h1 <;> rcases Rat.le_total (a := s) (b := t) with h2 | h2 <;> rcases Rat.le_total (a := r) (b := t) with h3 | h3
  · have := t1 h1 h2; grind
  · have := t1 h1 h2; grind
  · have := t2 h3 h2; grind
  · have := t5 h3 h1; grind
  · have := t3 h1 h3; grind
  · have := t4 h2 h3; grind
  · have := t6 h2 h1; grind
  · have := t6 h2 h1; grind
theorem K_both {c : Pt → Pt → Rat} (hc : Add c) {l : Ln} (h0 : ∀ u v, hgt l u = 0 → hgt l v = 0 → c u v = 0) (u v : Pt) : K c l u v + K c (turnL l) u v = c u v := by
  have tu := hgt_turn l u
  have tv := hgt_turn l v
  by_cases c1 : hgt l u ≤ 0 ∧ hgt l v ≤ 0
  · rw [K_le c1.1 c1.2, K_ge (by rw [tu]; grind) (by rw [tv]; grind) fun a b => h0 u v (by rw [tu] at a; grind) (by rw [tv] at b; grind)]; grind
  by_cases c2 : 0 ≤ hgt l u ∧ 0 ≤ hgt l v
  · rw [K_ge c2.1 c2.2 (h0 u v), K_le (by rw [tu]; grind) (by rw [tv]; grind)]; grind
  rcases (show (0 < hgt l u ∧ hgt l v < 0) ∨ (hgt l u < 0 ∧ 0 < hgt l v) by grind) with c3 | c3
  · obtain ⟨s, es, es2, s0, s1⟩ := cut_01 (.inl c3)
    rw [K_out c3.1 c3.2, K_in (by rw [tu]; grind) (by rw [tv]; grind), meet_turn, meet_at]
    simp only
    rw [es]
    have := hc u v s (by grind) (by grind)
    grind
  · obtain ⟨s, es, es2, s0, s1⟩ := cut_01 (.inr c3)
    rw [K_in c3.1 c3.2, K_out (by rw [tu]; grind) (by rw [tv]; grind), meet_turn, meet_at]
    simp only
    rw [es]
    have := hc u v s (by grind) (by grind)
    grind
theorem cut_zero {c : Pt → Pt → Rat} (hc : Add c) {l : Ln} (h0 : ∀ u v, hgt l u = 0 → hgt l v = 0 → c u v = 0) (r : List Pt) : cyc c (cutQ l r) + cyc c (cutQ (turnL l) r) = cyc c r := by
  rw [cyc_K h0, cyc_K (l := turnL l) fun u v a b => h0 u v (by rw [hgt_turn] at a; grind) (by rw [hgt_turn] at b; grind), ← cyc_add]
  exact cyc_congr (fun u v => K_both hc h0 u v) r
/-- where a point lies along a line -/
def alongT (l : Ln) (p : Pt) : Rat := (-l.2.1 * p.1 + l.1 * p.2) / (l.1 * l.1 + l.2.1 * l.2.1)
def lineE (l : Ln) : Sd := ((l.1 * l.2.2 / (l.1 * l.1 + l.2.1 * l.2.1), l.2.1 * l.2.2 / (l.1 * l.1 + l.2.1 * l.2.1)), (l.1 * l.2.2 / (l.1 * l.1 + l.2.1 * l.2.1) - l.2.1, l.2.1 * l.2.2 / (l.1 * l.1 + l.2.1 * l.2.1) + l.1))
theorem on_line {l : Ln} (h : ¬ (l.1 = 0 ∧ l.2.1 = 0)) {p : Pt} (hp : hgt l p = 0) : at_ (lineE l) (alongT l p) = p := by
  have hn := norm_ne h
  unfold hgt at hp
  unfold at_ lineE alongT
  generalize hN : l.1 * l.1 + l.2.1 * l.2.1 = N at *
  have d1 : l.1 * l.2.2 / N * N = l.1 * l.2.2 := Rat.div_mul_cancel hn
  have d2 : l.2.1 * l.2.2 / N * N = l.2.1 * l.2.2 := Rat.div_mul_cancel hn
  have d3 : (-l.2.1 * p.1 + l.1 * p.2) / N * N = -l.2.1 * p.1 + l.1 * p.2 := Rat.div_mul_cancel hn
  generalize l.1 * l.2.2 / N = A at *
  generalize l.2.1 * l.2.2 / N = B at *
  generalize (-l.2.1 * p.1 + l.1 * p.2) / N = T at *
  have cancel : ∀ x y : Rat, x * N = y * N → x = y := fun x y e => by
    have : (x - y) * N = 0 := by grind
    rcases mul_eq0 this with z | z
    · grind
    · exact absurd z hn
  obtain ⟨a, b, c⟩ := l
  obtain ⟨x, y⟩ := p
  simp only at *
  have hc : c = a * x + b * y := by grind
  subst hc
  ext
  · refine cancel _ _ ?_
    show (A + T * (A - b - A)) * N = x * N
    have : (A + T * (A - b - A)) * N = A * N - b * (T * N) := by grind
    rw [this, d1, d3, ← hN]; grind
  · refine cancel _ _ ?_
    show (B + T * (B + a - B)) * N = y * N
    have : (B + T * (B + a - B)) * N = B * N + a * (T * N) := by grind
    rw [this, d2, d3, ← hN]; grind
theorem cut_both {c : Pt → Pt → Rat} (hc : Add c) (ha : Anti c) {l : Ln} (hl : ¬ (l.1 = 0 ∧ l.2.1 = 0 ∧ l.2.2 = 0)) (r : List Pt) : cyc c (cutQ l r) + cyc c (cutQ (turnL l) r) = cyc c r := by
  by_cases h : l.1 = 0 ∧ l.2.1 = 0
  · refine cut_zero hc (fun u v a _ => ?_) r
    exfalso
    unfold hgt at a
    rw [h.1, h.2] at a
    exact hl ⟨h.1, h.2, by grind⟩
  · have key := cut_zero (c := fun u v => c u v + ((fun p : Pt => -c (at_ (lineE l) 0) (at_ (lineE l) (alongT l p))) v - (fun p : Pt => -c (at_ (lineE l) 0) (at_ (lineE l) (alongT l p))) u)) (hc.plus (Add.tele _)) (l := l) (fun u v hu hv => by
      have e1 := on_line h hu
      have e2 := on_line h hv
      have := hc.any ha (lineE l) 0 (alongT l u) (alongT l v)
      simp only
      rw [e1, e2] at *
      grind) r
    rw [cyc_add, cyc_add, cyc_add, cyc_tele (fun p : Pt => -c (at_ (lineE l) 0) (at_ (lineE l) (alongT l p))), cyc_tele (fun p : Pt => -c (at_ (lineE l) 0) (at_ (lineE l) (alongT l p))), cyc_tele (fun p : Pt => -c (at_ (lineE l) 0) (at_ (lineE l) (alongT l p)))] at key
    grind
theorem dueC_cut {l : Ln} (hl : ¬ (l.1 = 0 ∧ l.2.1 = 0 ∧ l.2.2 = 0)) (sh : List (List Pt)) (k r : Nat) : dueC sh k r = dueC (sh.map (cutQ l)) k r + dueC (sh.map (cutQ (turnL l))) k r := by
  unfold dueC
  rw [List.map_map, List.map_map, sum_add]
  exact (sum_congr fun x _ => (cut_both (Fw_add _ _ _ _) (Fw_anti _ _ _ _) hl x)).symm
theorem crs_add : Add crs := fun u v t _ _ => by unfold crs cross at_; grind
theorem area_cut2 {l : Ln} (hl : ¬ (l.1 = 0 ∧ l.2.1 = 0 ∧ l.2.2 = 0)) (sh : List (List Pt)) : sumQ (sh.map areaQ) = sumQ ((sh.map (cutQ l)).map areaQ) + sumQ ((sh.map (cutQ (turnL l))).map areaQ) := by
  rw [List.map_map, List.map_map, sum_add]
  refine sum_congr fun x _ => ?_
  show areaQ x = areaQ (cutQ l x) + areaQ (cutQ (turnL l) x)
  rw [area_cyc, area_cyc, area_cyc]
  have := cut_both crs_add crs_anti hl x
  grind
/-! ### what is drawn -/
theorem l_number5_ok {n : Nat} {b : List Int} (h : Bag n b) (hn : n + 10 < 1000000) : Ok (l_number_5 b) (fun r => SQ 40 r.1 ∧ Bag (n + 5) r.2) := by
  unfold l_number_5
  refine .bind (l_take_ok h (by omega) (by decide)) fun t ht => .ite (fun _ => ?_) fun _ => ?_
  · refine .bind (l_take_ok ht.2.2 (by omega) (by decide)) fun u hu => ?_
    obtain ⟨u1, u2, u3⟩ := hu
    exact .step (mkQ_int _) (.pure ⟨SQ_int (by unfold S; omega) (by decide), u3.mono (by omega)⟩)
  · refine .bind (l_take_ok ht.2.2 (by omega) (by decide)) fun u hu => .one (.bind (l_take_ok hu.2.2 (by omega) (by decide)) fun v hv => ?_)
    obtain ⟨u1, u2, u3⟩ := hu
    obtain ⟨v1, v2, v3⟩ := hv
    exact .step (l_ratio_ok (by omega)) (.pure ⟨SQ_divInt (by omega) (by unfold S; omega) (by unfold S; omega), v3.mono (by omega)⟩)
theorem l_shape3_ok {n : Nat} {b : List Int} (h : Bag n b) (hn : n < 1000) : Ok (l_shape_3 b) (fun r => many r.1 ≤ 8 ∧ r.1.length ≤ 2 ∧ ∀ x ∈ r.1, SR 40 x ∧ x.length ≤ 4) := by
  unfold l_shape_3
  refine .one (.bind (l_take_ok h (by omega) (by decide)) fun t ht => ?_)
  obtain ⟨t1, t2, t3⟩ := ht
  refine .step (rngR_ok (by decide) (by decide) (by omega) (by omega)) ?_
  refine .bind (.forR (fun i s => (many s.2 ≤ 4 * i ∧ s.2.length = i ∧ ∀ r ∈ s.2, SR 40 r ∧ r.length ≤ 4) ∧ Bag (n + 1 + 200 * i) s.1) ⟨⟨Nat.le_refl _, rfl, fun r hr => nomatch hr⟩, t3⟩ fun i s x hs hx => ?_) fun s hs => .pure ?_
  · obtain ⟨ex, hx3⟩ := rng_at hx
    refine .one (.bind (l_take_ok hs.2 (by omega) (by decide)) fun v hv => ?_)
    obtain ⟨v1, v2, v3⟩ := hv
    refine .bind (at_all (P := fun b : Int => 0 ≤ b ∧ b ≤ 4) ?_ v1 v2) fun d hd => ?_
    · intro x hx; simp at hx; omega
    refine .step (rngR_ok (by decide) (by decide) (by omega) (by omega)) ?_
    refine .bind (.forR (fun j z => (z.2.length = j ∧ SR 40 z.2) ∧ Bag (n + 2 + 200 * i + 10 * j) z.1) ⟨⟨rfl, fun r hr => nomatch hr⟩, v3.mono (by omega)⟩ fun j z y hz hy => ?_) fun z hz => ?_
    · obtain ⟨ey, hy3⟩ := rng_at hy
      refine .bind (l_number5_ok hz.2 (by omega)) fun p hp => .one (.bind (l_number5_ok hp.2 (by omega)) fun q hq => .step (appR_ok (by omega)) (.pure ⟨⟨?_, ?_⟩, hq.2.mono (by omega)⟩))
      · show (z.2 ++ _).length = _
        rw [List.length_append, List.length_singleton, hz.1.1]
      · intro y hy
        rcases List.mem_append.mp hy with h | h
        · exact hz.1.2 y h
        · rw [List.mem_singleton.mp h]
          exact ⟨hp.1, hq.1⟩
    · rw [rng_len] at hz
      refine .step (appR_ok (by omega)) (.pure ⟨⟨?_, ?_, ?_⟩, hz.2.mono (by omega)⟩)
      · show many (s.2 ++ _) ≤ _
        rw [many_snoc]; omega
      · show (s.2 ++ _).length = _
        rw [List.length_append, List.length_singleton, hs.1.2.1]
      · intro y hy
        rcases List.mem_append.mp hy with h | h
        · exact hs.1.2.2 y h
        · rw [List.mem_singleton.mp h]
          exact ⟨hz.1.2, by omega⟩
  · rw [rng_len] at hs
    exact ⟨by show many s.2 ≤ 8; omega, by show s.2.length ≤ 2; omega, hs.1.2.2⟩
theorem l_line2_ok {n : Nat} {b : List Int} (h : Bag n b) (hn : n < 1000) : Ok (l_line_2 b) (fun r => SL 40 r.1 ∧ ¬ (r.1.1 = 0 ∧ r.1.2.1 = 0 ∧ r.1.2.2 = 0)) := by
  unfold l_line_2
  refine .bind (l_number5_ok h (by omega)) fun p hp => .bind (l_number5_ok hp.2 (by omega)) fun q hq => .bind (l_number5_ok hq.2 (by omega)) fun r hr => .one ?_
  refine .bind (l_take_ok hr.2 (by omega) (by decide)) fun t ht => .one (.bind (l_take_ok ht.2.2 (by omega) (by decide)) fun u hu => .one ?_)
  obtain ⟨u1, u2, u3⟩ := hu
  have k1 : mkQ (-(1 : Int)) 1 = .ok (-1 : Rat) := mkQ_neg1
  refine .bind (P := fun b : Bool => b = false → ¬ ((p.1, q.1, r.1) = ((0 : Rat), (0 : Rat), (0 : Rat)))) (.orR (fun _ => .step mkQ_zero (.step mkQ_zero (.step mkQ_zero (.pure ?_)))) fun _ e => nomatch e) fun b hb => ?_
  · intro e
    exact of_decide_eq_false e
  refine .iteB (fun _ => ?_) fun e => ?_
  · refine .step mkQ_one (.step mkQ_zero (.step (mkQ_int _) (.pure ⟨⟨SQ_one 39, SQ_zero 39, SQ_int (by unfold S; omega) (by decide)⟩, fun z => absurd (show (1 : Rat) = 0 from z.1) (by decide)⟩)))
  · have ne := hb e
    refine .ite (fun _ => ?_) fun _ => .pure ⟨⟨hp.1, hq.1, hr.1⟩, fun z => ne (by have a : p.1 = 0 := z.1; have b : q.1 = 0 := z.2.1; have c : r.1 = 0 := z.2.2; rw [a, b, c])⟩
    exact .step mkQ_zero (.step k1 (.step (mkQ_int _) (.pure ⟨⟨SQ_zero 39, SQ_neg1.mono (by decide), SQ_int (by unfold S; omega) (by decide)⟩, fun z => absurd (show (-1 : Rat) = 0 from z.2.1) (by decide)⟩)))
theorem p_cut_shape_ok {n m a : Nat} {l : Ln} (hl : SL n l) {sh : List (List Pt)} (hs : ∀ r ∈ sh, SR m r ∧ r.length < 1000) (hsl : sh.length < 1000) (ha : 3 * n + 2 * m + 4 = a) (hb : 3 * a + 3 * m + 10 < 100000000) :
    p_cut_shape sh l = .ok (sh.map (cutQ l)) ∧ ∀ r ∈ sh.map (cutQ l), SR (3 * a + 3 * m + 3) r := by
  subst ha
  constructor
  · unfold p_cut_shape
    rw [compR_ok (by omega) (mapR_ok (g := cutQ l) fun r h => ?_), bind_ok]
    obtain ⟨h1, h2⟩ := hs r h
    rw [p_cut_ok (a := 3 * n + 2 * m + 4) (n := n) (m := m) hl h1 (fun p hp => SQ_hgt hl (h1 p hp)) (by omega) (by omega) (by omega), bind_ok]
  · intro r hr
    obtain ⟨r0, h0, rfl⟩ := List.mem_map.mp hr
    obtain ⟨h1, h2⟩ := hs r0 h0
    exact SR_cut (a := 3 * n + 2 * m + 4) (m := m) h1 (fun p hp => SQ_hgt hl (h1 p hp))
theorem p_shape_okN {n N : Nat} {rs : List (List Pt)} (hr : ∀ r ∈ rs, SR n r ∧ r.length ≤ N) (hN : N < 1000) (hb : (4 * n + 2) * N + 4 * n + 10 < 1000000) (hl : rs.length ≤ 10) : p_shape_area rs = .ok (sumQ (rs.map areaQ)) ∧ SQ 10000012 (sumQ (rs.map areaQ)) := by
  have hw : ∀ r ∈ rs, (4 * n + 2) * r.length ≤ (4 * n + 2) * N := fun r h => Nat.mul_le_mul_left _ (hr r h).2
  have sa : ∀ x ∈ rs.map areaQ, SQ 1000000 x := fun x hx => by
    obtain ⟨r, h, rfl⟩ := List.mem_map.mp hx
    exact (SQ_area (hr r h).1).mono (by have := hw r h; omega)
  constructor
  · unfold p_shape_area
    rw [compR_ok (by omega) (mapR_ok (g := areaQ) fun r h => by rw [p_area_ok (hr r h).1 (by have := (hr r h).2; omega) (by have := hw r h; omega), bind_ok]), bind_ok, p_total_ok (m := 1000000) sa (by rw [List.length_map]; omega), bind_ok]
  · refine (SQ_sum sa).mono ?_
    rw [List.length_map]; omega
theorem many_cut (l : Ln) : ∀ sh : List (List Pt), many (sh.map (cutQ l)) ≤ 2 * many sh
  | [] => Nat.le_refl _
  | x :: xs => by
    have e0 : many (x :: xs) = x.length + many xs := by unfold many; rw [List.map_cons, List.sum_cons]
    have e1 : many ((x :: xs).map (cutQ l)) = (cutQ l x).length + many (xs.map (cutQ l)) := by unfold many; rw [List.map_cons, List.map_cons, List.sum_cons]
    have := many_cut l xs
    have := cutQ_len l x
    omega
theorem k24_ok : ∀ ns : List Int, ns.length ≤ 63 → (∀ z ∈ ns, z.natAbs.log2 ≤ 1048576) → k24_law ns = .ok true := fun ns hl hb => by
  unfold k24_law
  obtain ⟨c0, e0, _⟩ := l_cell_ok hb (k := 0) (by decide) (by decide)
  obtain ⟨c1, e1, sc1⟩ := l_cell_ok hb (k := 1) (by decide) (by decide)
  obtain ⟨c2, e2, sc2⟩ := l_cell_ok hb (k := 2) (by decide) (by decide)
  have m1 := Int.emod_nonneg c0 (show (3 : Int) ≠ 0 by decide)
  have m2 := Int.emod_lt_of_pos c0 (show (0 : Int) < 3 by decide)
  have m3 := Int.emod_nonneg (c0 / 3) (show (3 : Int) ≠ 0 by decide)
  have m4 := Int.emod_lt_of_pos (c0 / 3) (show (0 : Int) < 3 by decide)
  obtain ⟨w, hw⟩ : ∃ w : Nat, 1 + c0 % 3 = (w : Int) := ⟨(1 + c0 % 3).toNat, by omega⟩
  obtain ⟨h, hh⟩ : ∃ h : Nat, 1 + c0 / 3 % 3 = (h : Int) := ⟨(1 + c0 / 3 % 3).toNat, by omega⟩
  refine Ok.true (.step e0 (.one (.step e0 (.one ?_))))
  rw [hw, hh]
  refine .step e1 (.bind (l_bag_ok sc1) fun b1 hb1 => .bind (l_line2_ok hb1 (by decide)) fun ln hln => .one (.step e2 (.bind (l_bag_ok sc2) fun b2 hb2 => .bind (l_shape3_ok hb2 (by decide)) fun g hg => .one ?_)))
  obtain ⟨sl, nz⟩ := hln
  generalize ln.1 = l at *
  obtain ⟨gm, gl, gr⟩ := hg
  generalize g.1 = sh at *
  have ra : ∀ r ∈ sh, SR 40 r := fun r hr => (gr r hr).1
  obtain ⟨u1, u2⟩ := p_cut_shape_ok (n := 40) (m := 40) (a := 204) sl (sh := sh) (fun r hr => ⟨ra r hr, by have := (gr r hr).2; omega⟩) (by omega) rfl (by decide)
  obtain ⟨v1, v2⟩ := p_cut_shape_ok (n := 40) (m := 40) (a := 204) sl.turn (sh := sh) (fun r hr => ⟨ra r hr, by have := (gr r hr).2; omega⟩) (by omega) rfl (by decide)
  have mc1 := many_cut l sh
  have mc2 := many_cut (turnL l) sh
  refine .step (compR_id (by omega)) (.one (.step u1 (.one (.step (p_against_ok sl (by decide)) (.step v1 (.one ?_))))))
  rw [decide_eq_true rfl, show (!true) = false from rfl, if_ok_f]
  obtain ⟨s1, q1⟩ := shares_big (w := w) (h := h) (n := 40) (by omega) (by omega) (by omega) ra (by omega)
  obtain ⟨s2, q2⟩ := shares_big (w := w) (h := h) (n := 3 * 204 + 3 * 40 + 3) (by omega) (by omega) (by omega) u2 (by omega)
  obtain ⟨s3, q3⟩ := shares_big (w := w) (h := h) (n := 3 * 204 + 3 * 40 + 3) (by omega) (by omega) (by omega) v2 (by omega)
  have tb : ∀ {f : Nat → Nat → Rat}, (∀ k r, k < w → r < h → SQ 8000000 (f k r)) → l_table (tab w h fun r k => f k r) (w : Int) (h : Int) = .ok true := fun hf => l_table_ok fun r k hr hk => (hf k r hk hr).mono (by decide)
  refine .step s1 (.step s2 (.step s3 (.one (.caseU (.forU fun x hx => ?_) ?_))))
  · have : l_table x (w : Int) (h : Int) = .ok true := by
      simp only [List.mem_cons, List.not_mem_nil, or_false] at hx
      rcases hx with rfl | rfl | rfl
      · exact tb q1
      · exact tb q2
      · exact tb q3
    exact .step this (.pure rfl)
  refine .step (rngR_ok (by decide) (by decide) (by omega) (by omega)) (.caseU (.forU fun x hx => ?_) ?_)
  · have hx := rng_mem hx
    refine .step (rngR_ok (by decide) (by decide) (by omega) (by omega)) (.caseU (.forU fun y hy => ?_) (.pure rfl))
    have hy := rng_mem hy
    have ix : x.toNat < h := by omega
    have iy : y.toNat < w := by omega
    refine .step (at0 _ _) (.step (tab_at hx.1 hx.2) (.step (row_at hy.1 hy.2) (.step (at1 _ _ _) (.step (tab_at hx.1 hx.2) (.step (row_at hy.1 hy.2) (.step (at2 _ _ _ _) (.step (tab_at hx.1 hx.2) (.step (row_at hy.1 hy.2) (.step (l_plus3_ok (q2 _ _ iy ix) (q3 _ _ iy ix) (by decide)) ?_)))))))))
    rw [← dueC_cut nz, decide_eq_true rfl]
    exact .pure rfl
  · have l1 : ∀ k : Ln, ∀ r ∈ sh.map (cutQ k), r.length ≤ 8 := fun k r hr => by
      obtain ⟨r0, h0, rfl⟩ := List.mem_map.mp hr
      have := cutQ_len k r0
      have := (gr r0 h0).2
      omega
    obtain ⟨a1, _⟩ := p_shape_okN (n := 40) (N := 8) (rs := sh) (fun r hr => ⟨ra r hr, by have := (gr r hr).2; omega⟩) (by decide) (by decide) (by omega)
    obtain ⟨a2, b2⟩ := p_shape_okN (n := 3 * 204 + 3 * 40 + 3) (N := 8) (rs := sh.map (cutQ l)) (fun r hr => ⟨u2 r hr, l1 _ r hr⟩) (by decide) (by decide) (by rw [List.length_map]; omega)
    obtain ⟨a3, b3⟩ := p_shape_okN (n := 3 * 204 + 3 * 40 + 3) (N := 8) (rs := sh.map (cutQ (turnL l))) (fun r hr => ⟨v2 r hr, l1 _ r hr⟩) (by decide) (by decide) (by rw [List.length_map]; omega)
    refine .step a1 (.step a2 (.step a3 (.step (l_plus3_ok b2 b3 (by decide)) (.pure ?_))))
    rw [← area_cut2 nz, decide_eq_true rfl]
end Pg

set_option Elab.async false
set_option linter.all false
set_option maxRecDepth 100000
namespace Pg
/-! ### pieces in a row -/
inductive Lk : Rat → List (Rat × Rat) → Rat → Prop
  | nil (p : Rat) : Lk p [] p
  | cons {p q z : Rat} {es : List (Rat × Rat)} : Lk q es z → Lk p ((p, q) :: es) z
theorem pairs_lk : ∀ (x : Rat) (r : List Rat) (z : Rat), Lk x (pairs (x :: r ++ [z])) z
  | x, [], z => .cons (.nil z)
  | x, y :: r, z => .cons (pairs_lk y r z)
theorem lk_split : ∀ {A B : List (Rat × Rat)} {s t : Rat}, Lk s (A ++ B) t → ∃ m, Lk s A m ∧ Lk m B t
  | [], B, s, t, h => ⟨s, .nil s, h⟩
  | (_, q) :: A, B, s, t, h => by
    cases h with | cons h =>
    obtain ⟨m, h1, h2⟩ := lk_split h
    exact ⟨m, .cons h1, h2⟩
theorem lk_last {A : List (Rat × Rat)} {s t : Rat} {k : Rat × Rat} (h : Lk s (A ++ [k]) t) : k.2 = t := by
  obtain ⟨m, _, h2⟩ := lk_split h
  cases h2 with | cons h => cases h; rfl
theorem pairs_sorted : ∀ {ks : List Rat}, Rising ks → (pairs ks).Pairwise fun k k' => k.2 ≤ k'.1
  | [], _ => List.Pairwise.nil
  | [x], _ => List.Pairwise.nil
  | x :: y :: r, hr => by
    have e : pairs (x :: y :: r) = (x, y) :: pairs (y :: r) := rfl
    rw [e]
    refine List.Pairwise.cons (fun k hk => ?_) (pairs_sorted hr.2)
    obtain ⟨_, h2, _, _⟩ := rising_nb hr.2 k hk
    rcases List.mem_cons.mp h2 with h | h
    · show y ≤ k.1; rw [h]; exact Rat.le_refl
    · have := rising_lt hr.2 _ h
      show y ≤ k.1
      grind
/-- a property that holds between any two that have it: one stretch -/
theorem one_stretch {α : Type} {R : α → α → Prop} {K : α → Bool} (cv : ∀ a b c, R a b → R b c → K a = true → K c = true → K b = true) : ∀ {P : List α}, P.Pairwise R →
    ∃ A B C, P = A ++ B ++ C ∧ (∀ a ∈ A, K a = false) ∧ (∀ b ∈ B, K b = true) ∧ ∀ c ∈ C, K c = false
  | [], _ => ⟨[], [], [], rfl, by simp, by simp, by simp⟩
  | k :: P, h => by
    rw [List.pairwise_cons] at h
    obtain ⟨A, B, C, e, hA, hB, hC⟩ := one_stretch cv h.2
    by_cases hk : K k = true
    · cases B with
      | nil =>
        refine ⟨[], [k], P, rfl, by simp, by simp [hk], fun c hc => ?_⟩
        rw [e] at hc
        simp only [List.append_nil, List.mem_append] at hc
        rcases hc with hc | hc
        · exact hA c hc
        · exact hC c hc
      | cons b B =>
        cases A with
        | nil => exact ⟨[], k :: b :: B, C, by rw [e]; rfl, by simp, by simp only [List.mem_cons]; rintro x (rfl | hx); exact hk; exact hB x (by simpa using hx), hC⟩
        | cons a A =>
          exfalso
          have h1 := h.1 a (by rw [e]; simp)
          have h2 : R a b := by
            have h3 := h.2
            rw [e, List.cons_append, List.cons_append, List.pairwise_cons] at h3
            exact h3.1 b (by simp)
          have := cv k a b h1 h2 hk (hB b (by simp))
          rw [hA a (by simp)] at this
          cases this
    · exact ⟨k :: A, B, C, by rw [e]; rfl, by simp only [List.mem_cons]; rintro x (rfl | hx); simpa using hk; exact hA x hx, hB, hC⟩
/-! ### along a side -/
theorem mid_x (e : Sd) (k : Rat × Rat) : mid (at_ e k.1).1 (at_ e k.2).1 = e.1.1 + mid k.1 k.2 * (e.2.1 - e.1.1) := by unfold mid at_; grind
theorem mid_y (e : Sd) (k : Rat × Rat) : mid (at_ e k.1).2 (at_ e k.2).2 = e.1.2 + mid k.1 k.2 * (e.2.2 - e.1.2) := by unfold mid at_; grind
theorem onFloor_iff {w h : Int} {e : Sd} {k : Rat × Rat} : onFloor w h e k = true ↔ 0 ≤ e.1.2 + mid k.1 k.2 * (e.2.2 - e.1.2) ∧ e.1.2 + mid k.1 k.2 * (e.2.2 - e.1.2) < (h : Rat) ∧ e.1.1 + mid k.1 k.2 * (e.2.1 - e.1.1) < (w : Rat) := by
  unfold onFloor rowQ colQ
  simp only [Bool.and_eq_true, decide_eq_true_eq]
  rw [mid_x, mid_y, le_fl_iff, fl_lt_iff, fl_lt_iff]
  have z : ((0 : Int) : Rat) = 0 := rfl
  rw [z]
  constructor
  · rintro ⟨⟨a, b⟩, c⟩; exact ⟨a, b, c⟩
  · rintro ⟨a, b, c⟩; exact ⟨⟨a, b⟩, c⟩
/-- a number between two along a way -/
theorem between_way {a d x y z : Rat} (h1 : x ≤ y) (h2 : y ≤ z) : (a + x * d ≤ a + y * d ∧ a + y * d ≤ a + z * d) ∨ (a + z * d ≤ a + y * d ∧ a + y * d ≤ a + x * d) := by
  by_cases hd : 0 ≤ d
  · have e1 := Rat.mul_le_mul_of_nonneg_left h1 hd
    have e2 := Rat.mul_le_mul_of_nonneg_left h2 hd
    left; constructor <;> grind
  · have e1 := Rat.mul_le_mul_of_nonneg_left h1 (show 0 ≤ -d by grind)
    have e2 := Rat.mul_le_mul_of_nonneg_left h2 (show 0 ≤ -d by grind)
    right; constructor <;> grind
theorem floor_convex {w h : Int} {e : Sd} (a b c : Rat × Rat) (h1 : mid a.1 a.2 ≤ mid b.1 b.2) (h2 : mid b.1 b.2 ≤ mid c.1 c.2) (ka : onFloor w h e a = true) (kc : onFloor w h e c = true) : onFloor w h e b = true := by
  rw [onFloor_iff] at ka kc ⊢
  have hx := between_way (a := e.1.1) (d := e.2.1 - e.1.1) h1 h2
  have hy := between_way (a := e.1.2) (d := e.2.2 - e.1.2) h1 h2
  refine ⟨?_, ?_, ?_⟩ <;> grind
/-- beyond a place where a line is left -/
theorem far_way {a d x y z : Rat} (h : (x < y ∧ y < z) ∨ (z < y ∧ y < x)) : (a + x * d < a + y * d → a + y * d < a + z * d) ∧ (a + y * d < a + x * d → a + z * d < a + y * d) := by
  have key : ∀ d : Rat, ((x < y ∧ y < z) ∨ (z < y ∧ y < x)) → 0 < (y - x) * d → 0 < (z - y) * d := fun d h hd => by
    rcases h with ⟨h1, h2⟩ | ⟨h1, h2⟩
    · exact Rat.mul_pos (by grind) (pos_of_mul hd (by grind))
    · have h3 : 0 < (x - y) * (-d) := by grind
      have h4 := Rat.mul_pos (show 0 < y - z by grind) (pos_of_mul h3 (by grind))
      grind
  constructor
  · intro h1
    have := key d h (by grind)
    grind
  · intro h1
    have := key (-d) h (by grind)
    grind
/-- where the pieces on the floor begin or end: on a rim beyond which the side goes on -/
def Rim (w h : Int) (m far : Pt) : Prop := (m.2 = 0 ∧ far.2 < 0) ∨ (m.1 = (w : Rat) ∧ (w : Rat) < far.1) ∨ (m.2 = (h : Rat) ∧ (h : Rat) < far.2)
theorem rim_of {w h : Int} {e : Sd} (hw : 0 ≤ w) (hh : 0 ≤ h) {k k' : Rat × Rat} {m z : Rat} (nk : Nb w h e k) (nk' : Nb w h e k') (kk : onFloor w h e k = true) (kk' : onFloor w h e k' = false)
    (hm : k.1 = m ∨ k.2 = m) (hm' : k'.1 = m ∨ k'.2 = m) (hz : (mid k.1 k.2 < mid k'.1 k'.2 ∧ mid k'.1 k'.2 < z) ∨ (z < mid k'.1 k'.2 ∧ mid k'.1 k'.2 < mid k.1 k.2)) : Rim w h (at_ e m) (at_ e z) := by
  have hk := onFloor_iff.mp kk
  have hk' : ¬ (0 ≤ e.1.2 + mid k'.1 k'.2 * (e.2.2 - e.1.2) ∧ e.1.2 + mid k'.1 k'.2 * (e.2.2 - e.1.2) < (h : Rat) ∧ e.1.1 + mid k'.1 k'.2 * (e.2.1 - e.1.1) < (w : Rat)) := fun z => by
    have := onFloor_iff.mpr z
    rw [kk'] at this; cases this
  have fy := far_way (a := e.1.2) (d := e.2.2 - e.1.2) hz
  have fx := far_way (a := e.1.1) (d := e.2.1 - e.1.1) hz
  have my := mid2 (at_ e k.1).2 (at_ e k.2).2
  have my' := mid2 (at_ e k'.1).2 (at_ e k'.2).2
  have mx := mid2 (at_ e k.1).1 (at_ e k.2).1
  have mx' := mid2 (at_ e k'.1).1 (at_ e k'.2).1
  rw [mid_y] at my my'
  rw [mid_x] at mx mx'
  have z0 : ((0 : Int) : Rat) = 0 := rfl
  have y0 := nb_y nk (z := 0) (by omega) hh
  have y0' := nb_y nk' (z := 0) (by omega) hh
  have yh := nb_y nk (z := h) hh (by omega)
  have yh' := nb_y nk' (z := h) hh (by omega)
  have xw := nb_x nk (z := w) hw (by omega)
  have xw' := nb_x nk' (z := w) hw (by omega)
  rw [z0] at y0 y0'
  have q1 : (at_ e m).2 = (at_ e k.1).2 ∨ (at_ e m).2 = (at_ e k.2).2 := by rcases hm with h | h <;> rw [h] <;> simp
  have q2 : (at_ e m).2 = (at_ e k'.1).2 ∨ (at_ e m).2 = (at_ e k'.2).2 := by rcases hm' with h | h <;> rw [h] <;> simp
  have q3 : (at_ e m).1 = (at_ e k.1).1 ∨ (at_ e m).1 = (at_ e k.2).1 := by rcases hm with h | h <;> rw [h] <;> simp
  have q4 : (at_ e m).1 = (at_ e k'.1).1 ∨ (at_ e m).1 = (at_ e k'.2).1 := by rcases hm' with h | h <;> rw [h] <;> simp
  have za : (at_ e z).1 = e.1.1 + z * (e.2.1 - e.1.1) := rfl
  have zb : (at_ e z).2 = e.1.2 + z * (e.2.2 - e.1.2) := rfl
  unfold Rim
  rw [za, zb]
  generalize (at_ e m).1 = m1 at *
  generalize (at_ e m).2 = m2 at *
  generalize (at_ e k.1).1 = a1 at *
  generalize (at_ e k.1).2 = a2 at *
  generalize (at_ e k.2).1 = b1 at *
  generalize (at_ e k.2).2 = b2 at *
  generalize (at_ e k'.1).1 = c1 at *
  generalize (at_ e k'.1).2 = c2 at *
  generalize (at_ e k'.2).1 = d1 at *
  generalize (at_ e k'.2).2 = d2 at *
  generalize e.1.1 + z * (e.2.1 - e.1.1) = zx at *
  generalize e.1.2 + z * (e.2.2 - e.1.2) = zy at *
  generalize e.1.1 + mid k.1 k.2 * (e.2.1 - e.1.1) = px at *
  generalize e.1.2 + mid k.1 k.2 * (e.2.2 - e.1.2) = py at *
  generalize e.1.1 + mid k'.1 k'.2 * (e.2.1 - e.1.1) = qx at *
  generalize e.1.2 + mid k'.1 k'.2 * (e.2.2 - e.1.2) = qy at *
  generalize (w : Rat) = W at *
  generalize (h : Rat) = H at *
  clear za zb hz nk nk' kk kk' hm hm'
  obtain ⟨k1, k2, k3⟩ := hk
  by_cases c1 : qy < 0
  · left
    refine ⟨?_, by grind⟩
    rcases y0' with y0' | y0' <;> rcases y0 with y0 | y0 <;> grind
  · by_cases c2 : W ≤ qx
    · right; left
      refine ⟨?_, by grind⟩
      rcases xw' with xw' | xw' <;> rcases xw with xw | xw <;> grind
    · right; right
      have c3 : H ≤ qy := by grind
      refine ⟨?_, by grind⟩
      rcases yh' with yh' | yh' <;> rcases yh with yh | yh <;> grind
/-! ### the law's looks -/
theorem l_spot_ok {n m : Nat} {a b : Rat} (ha : SQ n a) (hb : SQ m b) (h : n + m + 10 < 134000000) : l_spot a b = .ok (fl (mid a b)) := by
  unfold l_spot
  have sc := ha.add hb
  have hd := (a + b).den_pos
  rw [l_plus2_ok ha hb (by omega), bind_ok, bind_ok, mulR_ok (a := 2) (by decide) sc.2 (by omega), bind_ok, fdivR_ok (by omega), bind_ok, Int.fdiv_eq_ediv_of_nonneg _ (by omega)]
  congr 1
  have key : ∀ n : Int, n ≤ (a + b).num / (2 * ((a + b).den : Int)) ↔ n ≤ fl (mid a b) := fun n => by
    rw [le_fl_iff, Int.le_ediv_iff_mul_le (by omega)]
    have e : n * (2 * ((a + b).den : Int)) = (2 * n) * ((a + b).den : Int) := by rw [← Int.mul_assoc, Int.mul_comm n 2]
    rw [e, ← int_le_rat, Rat.intCast_mul]
    have m2 := mid2 a b
    have e2 : ((2 : Int) : Rat) = 2 := rfl
    rw [e2]
    constructor <;> intro z <;> grind
  have h1 := (key _).mp (Int.le_refl _)
  have h2 := (key _).mpr (Int.le_refl _)
  omega
theorem num_neg {q : Rat} (h : ¬ q < 0) : ¬ q.num < 0 := fun z => by
  have := num_ge0 (show 0 ≤ q by grind)
  omega
theorem num_pos' {q : Rat} (h : q ≤ 0) : ¬ q.num > 0 := fun z => by
  have := num_le0 h
  omega
theorem l_in_cell_ok {n : Nat} {xs : List Rat} {c : Int} (hx : ∀ x ∈ xs, SQ n x) (hc : S 20 c) (hn : n < 60000000) (h1 : ∀ x ∈ xs, x ≤ ((c + 1 : Int) : Rat)) (h2 : 0 ≤ c → ∀ x ∈ xs, (c : Rat) ≤ x) : l_in_cell xs c = .ok true := by
  unfold l_in_cell
  have sc : S 21 (c + 1) := (hc.add (b := 1) (by decide)).mono (by decide)
  rw [forX_all (fun x hm => ?_), bind_ok, caseX_l]
  have s := hx x hm
  rw [mkQ_int, bind_ok, l_minus2_ok s (SQ_int sc (by decide)) (by omega), bind_ok, decide_eq_false (num_pos' (by have := h1 x hm; grind)), orR_f]
  by_cases c0 : 0 ≤ c
  · rw [decide_eq_true (show c ≥ 0 from c0), andR_t, mkQ_int, bind_ok, l_minus2_ok s (SQ_int hc (by decide)) (by omega), bind_ok, bind_ok, bind_ok, decide_eq_false (num_neg (by have := h2 c0 x hm; grind))]
    rfl
  · rw [decide_eq_false (show ¬ c ≥ 0 from c0), andR_f, bind_ok, bind_ok]
    rfl
/-- a way of a share of the side's -/
theorem l_along_ok {n m : Nat} {u v : Pt} {r : Rat} (hu : SP n u) (hv : SP m v) (h : 4 * n + 4 * m + 10 < 134000000) (h1 : u.1 = r * v.1) (h2 : u.2 = r * v.2) (hr : 0 ≤ r) : l_along u v = .ok true := by
  unfold l_along
  rw [l_times2_ok hu.1 hv.2 (by omega), bind_ok, l_times2_ok hu.2 hv.1 (by omega), bind_ok, l_minus2_ok (hu.1.mul hv.2) (hu.2.mul hv.1) (by omega), bind_ok, bind_ok, l_times2_ok hu.1 hv.1 (by omega), bind_ok, l_times2_ok hu.2 hv.2 (by omega), bind_ok, l_plus2_ok (hu.1.mul hv.1) (hu.2.mul hv.2) (by omega), bind_ok, bind_ok]
  have e1 : u.1 * v.2 - u.2 * v.1 = 0 := by rw [h1, h2]; grind
  have e2 : 0 ≤ u.1 * v.1 + u.2 * v.2 := by
    have a1 := Rat.mul_nonneg hr (sq_nn v.1)
    have a2 := Rat.mul_nonneg hr (sq_nn v.2)
    rw [h1, h2]; grind
  have e3 : (u.1 * v.1 + u.2 * v.2).num ≥ 0 := num_ge0 e2
  rw [e1, decide_eq_true e3]
  rfl
theorem l_way_ok {n m : Nat} {u v : Pt} (hu : SP n u) (hv : SP m v) (h : n + m < 134000000) : l_way u v = .ok (v.1 - u.1, v.2 - u.2) := by
  unfold l_way
  rw [l_minus2_ok hv.1 hu.1 (by omega), bind_ok, l_minus2_ok hv.2 hu.2 (by omega), bind_ok]
theorem rat_gt_int (n : Int) (q : Rat) : (n : Rat) < q ↔ q.num > n * (q.den : Int) := by
  have := int_le_rat
  have h := Rat.lt_iff (n : Rat) q
  rw [h, Rat.num_intCast, Rat.den_intCast]
  simp
theorem num_lt0 (q : Rat) : q < 0 ↔ q.num < 0 := by rw [Rat.lt_iff]; simp
theorem l_rim_ok {n : Nat} {p z : Pt} {w h : Int} (hz : SP n z) (hw : S 10 w) (hh : S 10 h) (hn : n < 60000000) (hr : p = z ∨ Rim w h p z) : l_rim p z (w, h) = .ok true := by
  unfold l_rim
  by_cases e : p = z
  · rw [decide_eq_true e, if_ok_t]
  · rw [decide_eq_false e, if_ok_f, mkQ_zero, bind_ok, mkQ_int, bind_ok, mulR_ok hw hz.1.2 (by omega), bind_ok, mkQ_int, bind_ok, mulR_ok hh hz.2.2 (by omega), bind_ok]
    have hr := hr.resolve_left e
    show R.bind (R.orR (decide (p.2 = 0) && decide (z.2.num < 0)) (R.bind (R.andR (decide (p.1 = (w : Rat))) (R.ok (decide (z.1.num > w * (z.1.den : Int))))) fun b7 => R.ok b7)) (fun b8 => if b8 = true then R.ok true else R.bind (R.andR (decide (p.2 = (h : Rat))) (R.ok (decide (z.2.num > h * (z.2.den : Int))))) fun b11 => R.ok b11) = _
    rcases hr with ⟨a, b⟩ | ⟨a, b⟩ | ⟨a, b⟩
    · rw [decide_eq_true a, decide_eq_true ((num_lt0 _).mp b)]; rfl
    · rw [decide_eq_true a, decide_eq_true ((rat_gt_int _ _).mp b)]
      cases (decide (p.2 = 0) && decide (z.2.num < 0)) <;> rfl
    · rw [decide_eq_true a, decide_eq_true ((rat_gt_int _ _).mp b)]
      cases (decide (p.2 = 0) && decide (z.2.num < 0)) <;> cases (decide (p.1 = (w : Rat))) <;> cases (decide (z.1.num > w * (z.1.den : Int))) <;> rfl
theorem fl_S {n : Nat} {q : Rat} (h : SQ n q) : S n (fl q) := S_ediv (by have := q.den_pos; omega) h.1
theorem l_piece_ok {n : Nat} {w h : Int} {e : Sd} {k : Rat × Rat} (hp : SP n e.1) (hq : SP n e.2) (he : e.1 ≠ e.2) (hw0 : 0 ≤ w) (hw : w ≤ 40) (hh0 : 0 ≤ h) (hh : h ≤ 40) (hn : 14 * n + 60 < 6000000) (nb : Nb w h e k) (on : onFloor w h e k = true) :
    l_piece_good (pieceOf e k) (w, h) (e.2.1 - e.1.1, e.2.2 - e.1.2) = .ok true := by
  have s1 := SP_knot hp hq hw hh nb.m1
  have s2 := SP_knot hp hq hw hh nb.m2
  have on2 := on
  unfold onFloor at on2
  simp only [Bool.and_eq_true, decide_eq_true_eq] at on2
  obtain ⟨⟨o1, o2⟩, o3⟩ := on2
  have cx := in_cell (fun z z0 z1 => nb_x nb z0 z1) (show fl (mid (at_ e k.1).1 (at_ e k.2).1) < w from o3) hw0
  have cy := in_cell (fun z z0 z1 => nb_y nb z0 z1) (show fl (mid (at_ e k.1).2 (at_ e k.2).2) < h from o2) hh0
  have ne : at_ e k.1 ≠ at_ e k.2 := fun z => by
    have z1 : e.1.1 + k.1 * (e.2.1 - e.1.1) = e.1.1 + k.2 * (e.2.1 - e.1.1) := congrArg Prod.fst z
    have z2 : e.1.2 + k.1 * (e.2.2 - e.1.2) = e.1.2 + k.2 * (e.2.2 - e.1.2) := congrArg Prod.snd z
    have hk := nb.lt
    have y1 : (k.2 - k.1) * (e.2.1 - e.1.1) = 0 := by grind
    have y2 : (k.2 - k.1) * (e.2.2 - e.1.2) = 0 := by grind
    refine he (Prod.ext ?_ ?_)
    · rcases mul_eq0 y1 with z | z <;> grind
    · rcases mul_eq0 y2 with z | z <;> grind
  have hc : maxZ (colQ e k) (-1) = if colQ e k < -1 then -1 else colQ e k := rfl
  have hc2 : maxZ (-1) (colQ e k) = maxZ (colQ e k) (-1) := by unfold maxZ; split <;> split <;> omega
  have c1 : -1 ≤ maxZ (colQ e k) (-1) := by unfold maxZ; split <;> omega
  have c2 : maxZ (colQ e k) (-1) < w := by rw [hc]; split <;> omega
  unfold l_piece_good pieceOf
  show R.bind (R.orR (!true) _) _ = _
  have e0 : R.orR (!true) (R.bind (R.orR ((!decide ((4 : Int) = (4 : Int)))) (R.bind (l_whole (maxZ (colQ e k) (-1))) fun w4 => R.bind (R.orR ((!w4)) (R.bind (l_whole (rowQ e k)) fun w5 => R.ok ((!w5)))) fun b6 => R.ok b6)) fun b7 => R.ok b7) = R.ok false := by
    rw [show (!decide ((4 : Int) = (4 : Int))) = false by decide]; rfl
  rw [e0, bind_ok, if_ok_f, bind_ok, catR_ok (by simp), bind_ok, forX_all (fun x hx => by rw [l_is2_ok, bind_ok]; rfl), bind_ok, caseX_l]
  have t1 : (decide (maxZ (colQ e k) (-1) < -1) || (decide (maxZ (colQ e k) (-1) ≥ w) || (decide (rowQ e k < 0) || (decide (rowQ e k ≥ h) || decide (at_ e k.1 = at_ e k.2))))) = false := by
    rw [decide_eq_false (show ¬ maxZ (colQ e k) (-1) < -1 by omega), decide_eq_false (show ¬ maxZ (colQ e k) (-1) ≥ w by omega), decide_eq_false (show ¬ rowQ e k < 0 by omega), decide_eq_false (show ¬ rowQ e k ≥ h by omega), decide_eq_false ne]; rfl
  show (if (decide (maxZ (colQ e k) (-1) < -1) || (decide (maxZ (colQ e k) (-1) ≥ w) || (decide (rowQ e k < 0) || (decide (rowQ e k ≥ h) || decide (at_ e k.1 = at_ e k.2))))) = true then _ else _) = _
  rw [t1, if_ok_f, l_spot_ok s1.1 s2.1 (by omega), bind_ok, l_spot_ok s1.2 s2.2 (by omega), bind_ok]
  have t2 : R.orR (!decide (maxZ (-1) (fl (mid (at_ e k.1).1 (at_ e k.2).1)) = maxZ (colQ e k) (-1))) (R.ok (!decide (fl (mid (at_ e k.1).2 (at_ e k.2).2) = rowQ e k))) = R.ok false := by
    rw [show maxZ (-1) (fl (mid (at_ e k.1).1 (at_ e k.2).1)) = maxZ (colQ e k) (-1) from hc2, decide_eq_true rfl, show fl (mid (at_ e k.1).2 (at_ e k.2).2) = rowQ e k from rfl, decide_eq_true rfl]; rfl
  rw [t2, bind_ok, if_ok_f]
  have sc : S 20 (maxZ (colQ e k) (-1)) := by unfold S; omega
  have sr : S 20 (rowQ e k) := by unfold S; omega
  have ic1 : l_in_cell [(at_ e k.1).1, (at_ e k.2).1] (maxZ (colQ e k) (-1)) = .ok true := l_in_cell_ok (n := 6 * n + 10) (fun x hx => by simp at hx; rcases hx with rfl | rfl; exact s1.1; exact s2.1) sc (by omega) (fun x hx => by
      simp at hx; rcases hx with rfl | rfl; exact cx.1.1; exact cx.1.2) (fun c0 x hx => by
      have cc : 0 ≤ fl (mid (at_ e k.1).1 (at_ e k.2).1) := by
        show 0 ≤ colQ e k
        rw [hc] at c0; split at c0 <;> omega
      have ec : maxZ (colQ e k) (-1) = fl (mid (at_ e k.1).1 (at_ e k.2).1) := by
        rw [hc, if_neg (by show ¬ fl _ < -1; omega)]; rfl
      rw [ec]
      simp at hx; rcases hx with rfl | rfl; exact (cx.2 cc).1; exact (cx.2 cc).2)
  have er : maxZ (fl (mid (at_ e k.1).2 (at_ e k.2).2)) (-1) = rowQ e k := by unfold maxZ; rw [if_neg (by show ¬ -1 > rowQ e k; omega)]; rfl
  have cy1 := cy.1
  rw [er] at cy1
  have ic2 : l_in_cell [(at_ e k.1).2, (at_ e k.2).2] (rowQ e k) = .ok true := l_in_cell_ok (n := 6 * n + 10) (fun x hx => by simp at hx; rcases hx with rfl | rfl; exact s1.2; exact s2.2) sr (by omega) (fun x hx => by
      simp at hx; rcases hx with rfl | rfl; exact cy1.1; exact cy1.2) (fun c0 x hx => by
      simp at hx; rcases hx with rfl | rfl; exact (cy.2 c0).1; exact (cy.2 c0).2)
  rw [ic1, bind_ok, ic2]
  have e9 : R.orR (!true) (R.bind (R.ok true) fun i21 => R.ok (!i21)) = R.ok false := rfl
  rw [e9, bind_ok, if_ok_f, l_way_ok s1 s2 (by omega), bind_ok]
  have hv : SP (2 * n + 1) (e.2.1 - e.1.1, e.2.2 - e.1.2) := ⟨(hq.1.sub hp.1).mono (by omega), (hq.2.sub hp.2).mono (by omega)⟩
  have hu : SP (12 * n + 21) ((at_ e k.2).1 - (at_ e k.1).1, (at_ e k.2).2 - (at_ e k.1).2) := ⟨(s2.1.sub s1.1).mono (by omega), (s2.2.sub s1.2).mono (by omega)⟩
  have hk := nb.lt
  rw [l_along_ok (r := k.2 - k.1) hu hv (by omega) (by unfold at_; grind) (by unfold at_; grind) (by grind), bind_ok]
/-! ### the loop over the pieces -/
theorem l_loop_ok {n : Nat} {w h : Int} {e : Sd} (hp : SP n e.1) (hq : SP n e.2) (he : e.1 ≠ e.2) (hw0 : 0 ≤ w) (hw : w ≤ 40) (hh0 : 0 ≤ h) (hh : h ≤ 40) (hn : 14 * n + 60 < 6000000) : ∀ {B : List (Rat × Rat)} {s t : Rat}, Lk s B t → (∀ k ∈ B, Nb w h e k ∧ onFloor w h e k = true) →
    R.forX (fun (x8 : (Int × Int × (Rat × Rat) × (Rat × Rat))) (s9 : (Rat × Rat)) => (R.bind (l_piece_good x8 (w, h) (e.2.1 - e.1.1, e.2.2 - e.1.2)) fun p10 => if ((!p10) || (!decide (x8.2.2.1 = s9))) = true then (R.ok (Sum.inr false)) else (R.bind (R.ok x8.2.2.2) fun at11 => R.ok (Sum.inl at11)) : R (Sum ((Rat × Rat)) Bool))) (B.map (pieceOf e)) (at_ e s) = .ok (.inl (at_ e t))
  | [], _, _, h, _ => by cases h; rfl
  | (u, q) :: B, s, t, h, hB => by
    cases h with | cons h =>
    have hk := hB (u, q) (by simp)
    rw [List.map_cons]
    unfold R.forX
    rw [l_piece_ok hp hq he hw0 hw hh0 hh hn hk.1 hk.2, bind_ok]
    have e1 : (pieceOf e (u, q)).2.2.1 = at_ e u := rfl
    have e2 : (pieceOf e (u, q)).2.2.2 = at_ e q := rfl
    rw [e1, e2, decide_eq_true rfl]
    exact l_loop_ok hp hq he hw0 hw hh0 hh hn h fun k hk => hB k (List.mem_cons_of_mem _ hk)
theorem mid_lt {k : Rat × Rat} (h : k.1 < k.2) : k.1 < mid k.1 k.2 ∧ mid k.1 k.2 < k.2 := by
  have := mid2 k.1 k.2
  constructor <;> grind
theorem flat_filter {α β : Type} {f : α → β} {K : α → Bool} (P : List α) : (P.flatMap fun k => if K k = true then [f k] else []) = (P.filter K).map f := by
  induction P with
  | nil => rfl
  | cons k P ih =>
    rw [List.flatMap_cons, ih, List.filter_cons]
    by_cases h : K k = true
    · rw [if_pos h, if_pos h]; rfl
    · rw [if_neg h, if_neg h]; rfl
theorem filter_all {α : Type} {K : α → Bool} {P : List α} (h : ∀ a ∈ P, K a = true) : P.filter K = P := List.filter_eq_self.mpr h
theorem filter_none {α : Type} {K : α → Bool} {P : List α} (h : ∀ a ∈ P, K a = false) : P.filter K = [] := List.filter_eq_nil_iff.mpr fun a ha => by rw [h a ha]; decide
/-- the pieces of a side: one stretch of its parts -/
theorem pieces_stretch {w h : Int} {e : Sd} (he : e.1 ≠ e.2) : ∃ A B C m1 m2, pairs (knots w h e) = A ++ B ++ C ∧ piecesQ w h e = B.map (pieceOf e) ∧ Lk 0 A m1 ∧ Lk m1 B m2 ∧ Lk m2 C 1 ∧ (∀ k ∈ A, onFloor w h e k = false) ∧ (∀ k ∈ B, onFloor w h e k = true) ∧ (∀ k ∈ C, onFloor w h e k = false) := by
  have srt : (pairs (knots w h e)).Pairwise fun k k' => mid k.1 k.2 ≤ mid k'.1 k'.2 := by
    have h1 := pairs_sorted (knots_rising w h e)
    refine List.Pairwise.imp_of_mem ?_ h1
    intro a b ha hb h2
    have a1 := mid_lt (nb_of ha).lt
    have b1 := mid_lt (nb_of hb).lt
    grind
  obtain ⟨A, B, C, e1, hA, hB, hC⟩ := one_stretch (K := onFloor w h e) (fun a b c h1 h2 ka kc => floor_convex a b c h1 h2 ka kc) srt
  have lk : Lk 0 (pairs (knots w h e)) 1 := pairs_lk 0 (innerQ w h e) 1
  rw [e1] at lk
  obtain ⟨m2, l1, l3⟩ := lk_split lk
  obtain ⟨m1, l1, l2⟩ := lk_split l1
  refine ⟨A, B, C, m1, m2, e1, ?_, l1, l2, l3, hA, hB, hC⟩
  unfold piecesQ
  rw [if_neg he]
  have := flat_filter (f := pieceOf e) (K := onFloor w h e) (pairs (knots w h e))
  have e2 : (pairs (knots w h e)).flatMap (pieceE w h e) = ((pairs (knots w h e)).filter (onFloor w h e)).map (pieceOf e) := this
  rw [e2, e1, List.filter_append, List.filter_append, filter_none hA, filter_all hB, filter_none hC, List.nil_append, List.append_nil]
theorem lk_eq : ∀ {A : List (Rat × Rat)} {s t : Rat}, Lk s A t → A = [] → s = t
  | _, _, _, .nil _, _ => rfl
theorem l_good3_ok {n : Nat} {w h : Int} {e : Sd} (hp : SP n e.1) (hq : SP n e.2) (hw0 : 0 ≤ w) (hw : w ≤ 40) (hh0 : 0 ≤ h) (hh : h ≤ 40) (hn : 14 * n + 60 < 6000000) : l_good_3 (piecesQ w h e) (w, h) e = .ok true := by
  unfold l_good_3
  rw [Bool.not_true, if_ok_f]
  by_cases he : e.1 = e.2
  · have e0 : piecesQ w h e = [] := by unfold piecesQ; rw [if_pos he]
    rw [e0, decide_eq_true he]; rfl
  · obtain ⟨A, B, C, m1, m2, e1, e2, l1, l2, l3, hA, hB, hC⟩ := pieces_stretch (w := w) (h := h) he
    rw [e2, decide_eq_false he]
    cases B with
    | nil => rfl
    | cons k B =>
      have nbs : ∀ k ∈ pairs (knots w h e), Nb w h e k := fun k hk => nb_of hk
      have inB : ∀ k' ∈ k :: B, Nb w h e k' := fun k' hk => nbs k' (by rw [e1]; simp only [List.mem_append]; exact .inl (.inr hk))
      have k1 : k.1 = m1 := by cases l2; rfl
      have s1 : SP (6 * n + 10) (at_ e m1) := by rw [← k1]; exact SP_knot hp hq hw hh (inB k (by simp)).m1
      -- the last one of the stretch
      obtain ⟨B0, kz, eB⟩ : ∃ B0 kz, k :: B = B0 ++ [kz] := ⟨(k :: B).dropLast, (k :: B).getLast (by simp), (List.dropLast_concat_getLast (by simp)).symm⟩
      have kz2 : kz.2 = m2 := lk_last (A := B0) (s := m1) (by rw [← eB]; exact l2)
      have kzB : kz ∈ k :: B := by rw [eB]; simp
      have s2 : SP (6 * n + 10) (at_ e m2) := by rw [← kz2]; exact SP_knot hp hq hw hh (inB kz kzB).m2
      have hv : SP (2 * n + 1) (e.2.1 - e.1.1, e.2.2 - e.1.2) := ⟨(hq.1.sub hp.1).mono (by omega), (hq.2.sub hp.2).mono (by omega)⟩
      have hu1 : SP (7 * n + 11) ((at_ e m1).1 - e.1.1, (at_ e m1).2 - e.1.2) := ⟨(s1.1.sub hp.1).mono (by omega), (s1.2.sub hp.2).mono (by omega)⟩
      have hu2 : SP (7 * n + 11) (e.2.1 - (at_ e m2).1, e.2.2 - (at_ e m2).2) := ⟨(hq.1.sub s2.1).mono (by omega), (hq.2.sub s2.2).mono (by omega)⟩
      have m1ge : 0 ≤ m1 := by rw [← k1]; exact (inB k (by simp)).ge
      have m2le : m2 ≤ 1 := by rw [← kz2]; exact (inB kz kzB).le
      have r1 : at_ e m1 = e.1 ∨ Rim w h (at_ e m1) e.1 := by
        by_cases hA0 : A = []
        · left; rw [← lk_eq l1 hA0, at_zero]
        · right
          obtain ⟨A0, ka, eA⟩ : ∃ A0 ka, A = A0 ++ [ka] := ⟨A.dropLast, A.getLast hA0, (List.dropLast_concat_getLast hA0).symm⟩
          have ka2 : ka.2 = m1 := lk_last (A := A0) (s := 0) (by rw [← eA]; exact l1)
          have kaA : ka ∈ A := by rw [eA]; simp
          have na := nbs ka (by rw [e1]; simp only [List.mem_append]; exact .inl (.inl kaA))
          have nk := inB k (by simp)
          have q1 := mid_lt na.lt
          have q2 := mid_lt nk.lt
          have := rim_of (z := 0) (m := m1) hw0 hh0 nk na (hB k (by simp)) (hA ka kaA) (.inl k1) (.inr ka2) (.inr ⟨by have := na.ge; grind, by rw [k1] at q2; rw [ka2] at q1; grind⟩)
          rw [at_zero] at this
          exact this
      have r2 : at_ e m2 = e.2 ∨ Rim w h (at_ e m2) e.2 := by
        cases C with
        | nil => left; rw [lk_eq l3 rfl, at_one]
        | cons kc C =>
          right
          have kc1 : kc.1 = m2 := by cases l3; rfl
          have nc := nbs kc (by rw [e1]; simp)
          have nk := inB kz kzB
          have q1 := mid_lt nc.lt
          have q2 := mid_lt nk.lt
          have := rim_of (z := 1) (m := m2) hw0 hh0 nk nc (hB kz kzB) (hC kc (by simp)) (.inr kz2) (.inl kc1) (.inl ⟨by rw [kz2] at q2; rw [kc1] at q1; grind, by have := nc.le; grind⟩)
          rw [at_one] at this
          exact this
      have sw : S 10 w := by unfold S; omega
      have sh : S 10 h := by unfold S; omega
      have e4 : (pieceOf e k).2.2.1 = at_ e m1 := by show at_ e k.1 = _; rw [k1]
      show (if (false || decide ((((k :: B).map (pieceOf e)).length : Int) = 0)) = true then _ else _) = _
      rw [show (false || decide ((((k :: B).map (pieceOf e)).length : Int) = 0)) = false by simp; omega, if_ok_f, l_way_ok hp hq (by omega), bind_ok, bind_ok]
      have a0 : atR ((k :: B).map (pieceOf e)) 0 = .ok (pieceOf e k) := atR_nat (k := 0) rfl
      rw [a0, bind_ok, bind_ok, e4, l_loop_ok hp hq he hw0 hw hh0 hh hn l2 (fun k hk => ⟨inB k hk, hB k hk⟩), bind_ok, caseX_l, bind_ok, e4, l_way_ok hp s1 (by omega), bind_ok, l_along_ok (r := m1) hu1 hv (by omega) (by unfold at_; grind) (by unfold at_; grind) m1ge, bind_ok,
        l_way_ok s2 hq (by omega), bind_ok, l_along_ok (r := 1 - m2) hu2 hv (by omega) (by unfold at_; grind) (by unfold at_; grind) (by grind), bind_ok]
      show R.bind (R.ok false) _ = _
      rw [bind_ok, if_ok_f, bind_ok, e4, l_rim_ok hp sw sh (by omega) r1, bind_ok, l_rim_ok hq sw sh (by omega) r2]
      rfl
theorem l_floor_ok (c : Int) : Ok (l_floor c) (fun f => 0 < f.1 ∧ f.1 ≤ 12 ∧ 0 < f.2 ∧ f.2 ≤ 12) := by
  unfold l_floor
  have a1 := Int.emod_nonneg (c / 8) (show (12 : Int) ≠ 0 by decide)
  have a2 := Int.emod_lt_of_pos (c / 8) (show (0 : Int) < 12 by decide)
  have a3 := Int.emod_nonneg (c / 96) (show (12 : Int) ≠ 0 by decide)
  have a4 := Int.emod_lt_of_pos (c / 96) (show (0 : Int) < 12 by decide)
  have a5 := Int.emod_nonneg (c / 8) (show (4 : Int) ≠ 0 by decide)
  have a6 := Int.emod_lt_of_pos (c / 8) (show (0 : Int) < 4 by decide)
  have a7 := Int.emod_nonneg (c / 32) (show (4 : Int) ≠ 0 by decide)
  have a8 := Int.emod_lt_of_pos (c / 32) (show (0 : Int) < 4 by decide)
  refine .ite (fun _ => .pure ?_) fun _ => .pure ?_
  · exact ⟨by show 0 < 1 + c / 8 % 12; omega, by show 1 + c / 8 % 12 ≤ 12; omega, by show 0 < 1 + c / 96 % 12; omega, by show 1 + c / 96 % 12 ≤ 12; omega⟩
  · exact ⟨by show 0 < 1 + c / 8 % 4; omega, by show 1 + c / 8 % 4 ≤ 12; omega, by show 0 < 1 + c / 32 % 4; omega, by show 1 + c / 32 % 4 ≤ 12; omega⟩
theorem l_side_ok {ns : List Int} (hb : Bits ns) {a c : Int} (h0 : 0 ≤ a) (h1 : a < 1000) : Ok (l_side ns a c) (fun e => SP 50 e.1 ∧ SP 50 e.2) := by
  unfold l_side
  refine .bind (l_at_ok hb (by omega) (by omega)) fun p1 h1 => .bind (l_at_ok hb (by omega) (by omega)) fun p2 h2 => .one (.bind (l_at_ok hb (by omega) (by omega)) fun q1 h3 => .bind (l_at_ok hb (by omega) (by omega)) fun q2 h4 => .one ?_)
  refine .bind (P := SP 50) (.ite (fun _ => .one (.pure ⟨h1, h4⟩)) fun _ => .pure ⟨h3, h4⟩) fun q hq => ?_
  refine .bind (P := SP 50) (.ite (fun _ => .one (.pure ⟨hq.1, h2⟩)) fun _ => .pure hq) fun q hq => ?_
  refine .bind (P := SP 50) (.iteB (fun _ => .one (.pure ⟨h1, h2⟩)) fun _ => .pure hq) fun q hq => .pure ⟨⟨h1, h2⟩, hq⟩
theorem piecesQ_len {w h : Int} (e : Sd) (hw0 : 0 ≤ w) (hw : w ≤ 40) (hh0 : 0 ≤ h) (hh : h ≤ 40) : (piecesQ w h e).length ≤ 100 := by
  unfold piecesQ
  split
  · simp
  · have l := (knots_len e hw0 hw hh0 hh).2
    have e2 : (pairs (knots w h e)).flatMap (pieceE w h e) = ((pairs (knots w h e)).filter (onFloor w h e)).map (pieceOf e) := flat_filter (f := pieceOf e) (K := onFloor w h e) (pairs (knots w h e))
    rw [e2, List.length_map]
    have h1 := List.length_filter_le (onFloor w h e) (pairs (knots w h e))
    rw [pairs_len] at h1
    omega
theorem k12_ok : ∀ ns : List Int, ns.length ≤ 63 → (∀ z ∈ ns, z.natAbs.log2 ≤ 1048576) → k12_law ns = .ok true := fun ns hl hb => by
  unfold k12_law
  obtain ⟨c0, e0, _⟩ := l_cell_ok hb (k := 0) (by decide) (by decide)
  obtain ⟨c1, e1, _⟩ := l_cell_ok hb (k := 1) (by decide) (by decide)
  refine Ok.true (.step e0 (.bind (l_floor_ok c0) fun f hf => .one (.step (rngR_ok (by decide) (by decide) (by decide) (by decide)) (.caseU (.forU fun x hx => ?_) (.pure rfl)))))
  have hx := rng_mem hx
  obtain ⟨w, h⟩ := f
  obtain ⟨f1, f2, f3, f4⟩ := hf
  have f1 : 0 < w := f1
  have f2 : w ≤ 12 := f2
  have f3 : 0 < h := f3
  have f4 : h ≤ 12 := f4
  refine .step (mulR_ok (a := 3) (b := 10) (by decide) (by unfold S; omega) (by decide)) (.step e1 (.bind (at_all (P := fun z : Int => z ≠ 0) (xs := [1, 12, 144]) (fun z hz => by simp at hz; omega) hx.1 (by simpa using hx.2)) fun z hz => .step (fdivR_ok hz) ?_))
  refine .bind (l_side_ok hb (by omega) (by omega)) fun e he => .one (.step (p_pieces_ok he.1 he.2 (by omega) (by omega) (by omega) (by omega) (by decide)) (.one (.step (l_good3_ok he.1 he.2 (by omega) (by omega) (by omega) (by omega) (by decide)) ?_)))
  rw [Bool.not_true, if_ok_f]
  have pl := piecesQ_len (w := w) (h := h) e (by omega) (by omega) (by omega) (by omega)
  refine .one (.step (show roomR (piecesQ w h e) = .ok () by unfold roomR; rw [if_pos (by omega)]) (.step (p_pieces_ok he.1 he.2 (by omega) (by omega) (by omega) (by omega) (by decide)) ?_))
  rw [decide_eq_true rfl]
  exact .pure rfl
end Pg

set_option Elab.async false
set_option linter.all false
set_option maxRecDepth 100000
namespace Pg
/-! ### the law's own cut -/
theorem num_gt0 (q : Rat) : 0 < q ↔ 0 < q.num := by rw [Rat.lt_iff]; simp
theorem parts_num (a b : Rat) : decide (a.num * b.num < 0) = ((decide (0 < a) && decide (b < 0)) || (decide (a < 0) && decide (0 < b))) := by
  rw [Bool.eq_iff_iff]
  simp only [decide_eq_true_eq, Bool.or_eq_true, Bool.and_eq_true, num_gt0, num_lt0]
  constructor
  · intro h
    rcases Int.lt_trichotomy a.num 0 with x | x | x <;> rcases Int.lt_trichotomy b.num 0 with y | y | y
    · have := Int.mul_pos_of_neg_of_neg x y; omega
    · rw [y] at h; omega
    · exact .inr ⟨x, y⟩
    · rw [x] at h; omega
    · rw [x] at h; omega
    · rw [x] at h; omega
    · exact .inl ⟨x, y⟩
    · rw [y] at h; omega
    · have := Int.mul_pos x y; omega
  · rintro (⟨x, y⟩ | ⟨x, y⟩)
    · exact Int.mul_neg_of_pos_of_neg x y
    · exact Int.mul_neg_of_neg_of_pos x y
theorem l_met_ok {a m : Nat} {l : Ln} {p q : Pt} (hp : SP m p) (hq : SP m q) (h1 : SQ a (hgt l p)) (h2 : SQ a (hgt l q)) (hn : hgt l p ≠ hgt l q) (hb : 3 * a + 3 * m + 10 < 134000000) : l_met p q (hgt l p) (hgt l q) = .ok (meet l (p, q)) := by
  unfold l_met
  have sd := h1.sub h2
  have h0 : hgt l p - hgt l q ≠ 0 := by grind
  rw [l_minus2_ok h1 h2 (by omega), bind_ok, bind_ok, mulR_ok h1.1 sd.2 (by omega), bind_ok, mulR_ok h1.2 sd.1 (by omega), bind_ok,
    l_ratio3_ok (Int.mul_ne_zero (den_ne _) (num_ne h0)), bind_ok, bind_ok, bind_ok, ← div_divInt]
  have ss := h1.div sd h0
  have rg : rngR (0 : Int) (2 : Int) = .ok [0, 1] := rfl
  rw [rg, bind_ok]
  have i0 : ∀ p : Pt, atR [p.1, p.2] 0 = .ok p.1 := fun p => rfl
  have i1 : ∀ p : Pt, atR [p.1, p.2] 1 = .ok p.2 := fun p => rfl
  unfold R.forR
  rw [i0, i0, bind_ok, bind_ok, bind_ok, l_minus2_ok hq.1 hp.1 (by omega), bind_ok, l_times2_ok ss (hq.1.sub hp.1) (by omega), bind_ok, l_plus2_ok hp.1 (ss.mul (hq.1.sub hp.1)) (by omega), bind_ok, appR_ok (by decide), bind_ok, bind_ok]
  unfold R.forR
  rw [i1, i1, bind_ok, bind_ok, bind_ok, l_minus2_ok hq.2 hp.2 (by omega), bind_ok, l_times2_ok ss (hq.2.sub hp.2) (by omega), bind_ok, l_plus2_ok hp.2 (ss.mul (hq.2.sub hp.2)) (by omega), bind_ok, appR_ok (by simp), bind_ok, bind_ok]
  rfl
theorem l_due4_ok {a n m : Nat} {l : Ln} {r : List Pt} (hl : SL n l) (hr : SR m r) (hh : ∀ p ∈ r, SQ a (hgt l p)) (hlen : r.length < 1000000) (hb1 : 3 * n + 2 * m + 4 < 134000000) (hb : 3 * a + 3 * m + 10 < 134000000) : l_due_4 r l = .ok (cutQ l r) := by
  unfold l_due_4
  rw [compR_ok (by omega) (mapR_ok (g := hgt l) fun p hp => by rw [l_over_ok hl (hr p hp) hb1, bind_ok]), bind_ok, bind_ok, bind_ok]
  have key := ring_loop (r := r) (by omega) (f := fun (x9 : Int) (s10 : (List (Rat × Rat))) => R.bind (fmodR ((x9 + (1 : Int))) ((r.length : Int))) fun m11 => R.bind (atR (r.map (hgt l)) m11) fun it12 => R.bind (R.ok it12) fun after13 => R.bind (atR (r.map (hgt l)) x9) fun it14 => R.bind (if (decide (it14.num ≤ (0 : Int))) = true then (R.bind (atR r x9) fun it16 => R.bind (appR s10 it16) fun due17 => R.ok due17) else (R.ok s10) : R ((List (Rat × Rat)))) fun st15 => R.bind (atR (r.map (hgt l)) x9) fun it18 => R.bind (mulR it18.num after13.num) fun p19 => if (decide (p19 < (0 : Int))) = true then (R.bind (atR r x9) fun it20 => R.bind (fmodR ((x9 + (1 : Int))) ((r.length : Int))) fun m21 => R.bind (atR r m21) fun it22 => R.bind (atR (r.map (hgt l)) x9) fun it23 => R.bind (l_met it20 it22 it23 after13) fun m24 => R.bind (appR st15 m24) fun due25 => R.ok due25) else (R.ok st15)) (s0 := ([] : List (Rat × Rat)))
    (fun es s => es.length ≤ r.length ∧ s = cutL' l es) ⟨Nat.zero_le _, rfl⟩ fun i x p q s hx hi g1 g2 g3 g4 g5 g6 hp => by
    obtain ⟨q0, rfl⟩ := hp
    have hl1 : ((edges r).take i).length = i := by rw [List.length_take, edges_len]; omega
    have hl2 := cutL_len l ((edges r).take i)
    have h1 := hr p g5
    have h2 := hr q g6
    have k1 := hh p g5
    have k2 := hh q g6
    have fl : cutL' l ((edges r).take i ++ [(p, q)]) = cutL' l ((edges r).take i) ++ cutE l (p, q) := by
      unfold cutL'
      rw [List.flatMap_append, List.flatMap_singleton]
    refine .step g3 (.step (map_get g4) (.one (.step (map_get g2) (.bind (P := fun s => s = cutL' l ((edges r).take i) ++ if 0 < hgt l p then [] else [p]) ?_ fun s hs => ?_))))
    · by_cases c : 0 < hgt l p
      · rw [decide_eq_false (by have := (num_gt0 _).mp c; omega), if_pos c]
        exact .pure (by rw [List.append_nil])
      · rw [decide_eq_true (by have := mt (num_gt0 (hgt l p)).mpr c; omega), if_neg c]
        exact .step g2 (.step (appR_ok (by omega)) (.pure rfl))
    · have ls : s.length < 16777216 := by
        rw [hs, List.length_append]
        split <;> simp <;> omega
      refine .step (map_get g2) (.step (mulR_ok k1.1 k2.1 (by omega)) ?_)
      rw [fl, parts_num]
      have fin : cutE l (p, q) = (if 0 < hgt l p then [] else [p]) ++ (if parts l (p, q) = true then [meet l (p, q)] else []) := rfl
      rw [fin, ← List.append_assoc, ← hs]
      refine .iteB (fun c => ?_) fun c => ?_
      · have cp : parts l (p, q) = true := c
        have h0 := parts_ne cp
        rw [if_pos cp]
        refine .step g2 (.step g3 (.step g4 (.step (map_get g2) (.step (l_met_ok h1 h2 k1 k2 h0 hb) (.step (appR_ok ls) (.pure ⟨?_, rfl⟩))))))
        rw [List.length_append, hl1, List.length_singleton]; omega
      · have cp : ¬ parts l (p, q) = true := fun z => by
          have z2 : ((decide (0 < hgt l p) && decide (hgt l q < 0)) || (decide (hgt l p < 0) && decide (0 < hgt l q))) = true := z
          rw [c] at z2; cases z2
        rw [if_neg cp, List.append_nil]
        refine .pure ⟨?_, rfl⟩
        rw [List.length_append, hl1, List.length_singleton]; omega
  have fin := ring_step (k := fun s31 => R.ok s31) (Q := (· = cutQ l r)) key fun s hs => .pure hs.2
  obtain ⟨b, e1, e2⟩ := fin
  rw [← e2]
  exact e1
end Pg

set_option Elab.async false
set_option linter.all false
set_option maxRecDepth 100000
namespace Pg
theorem app2_zero {α : Type} {a : List α} {bs : List (List α)} (h : a.length < 16777216) (x : α) : app2R (a :: bs) 0 x = .ok ((a ++ [x]) :: bs) := by
  unfold app2R
  rw [at0, bind_ok, appR_ok h, bind_ok]
  have e : ixP (a :: bs).length 0 = some 0 := ixP_nat (k := 0) (by simp)
  unfold setR
  rw [e]; rfl
theorem k09_ok : ∀ ns : List Int, ns.length ≤ 63 → (∀ z ∈ ns, z.natAbs.log2 ≤ 1048576) → k09_law ns = .ok true := fun ns hl hb => by
  unfold k09_law
  obtain ⟨c3, e3, _⟩ := l_cell_ok hb (k := 3) (by decide) (by decide)
  obtain ⟨c4, e4, _⟩ := l_cell_ok hb (k := 4) (by decide) (by decide)
  have m1 := Int.emod_nonneg c3 (show (9 : Int) ≠ 0 by decide)
  have m2 := Int.emod_lt_of_pos c3 (show (0 : Int) < 9 by decide)
  have m3 := Int.emod_nonneg (c3 / 72) (show (32 : Int) ≠ 0 by decide)
  have m4 := Int.emod_lt_of_pos (c3 / 72) (show (0 : Int) < 32 by decide)
  refine Ok.true (.bind (l_line_ok hb (by decide) (by decide)) fun l hl => .one (.step e3 (.one (.step e3 ?_))))
  refine .bind (P := fun n => 0 ≤ n ∧ n ≤ 40) (.ite (fun _ => .step e3 (.one (.pure (by omega)))) fun _ => .pure (by omega)) fun n hn => ?_
  refine .bind (l_ring2_ok hb (by decide) (by decide) hn.1 (by omega)) fun r hr => .one ?_
  obtain ⟨hr1, hr2⟩ := hr
  refine .bind (P := fun b => b = true → 0 < n) (.andR (fun h => .step e4 (.pure fun _ => of_decide_eq_true h)) fun h => (fun z => nomatch z)) fun b hb3 => ?_
  refine .bind (P := fun l : Ln => SL 300 l) (.iteB (fun h => ?_) fun h => .pure (hl.mono (by decide))) fun l hl => ?_
  · have hn0 := hb3 h
    have q1 := Int.emod_nonneg (c4 / 2) (show n ≠ 0 by omega)
    have q2 := Int.emod_lt_of_pos (c4 / 2) hn0
    refine .step e4 (.step (fmodR_ok (by omega)) ?_)
    rw [Int.fmod_eq_emod_of_nonneg _ (by omega)]
    have sl : SL 50 (l.1, l.2.1, (0 : Rat)) := ⟨hl.1, hl.2.1, SQ_zero 49⟩
    refine .bind (at_all hr2 q1 (by omega)) fun p hp => .one (.step mkQ_zero (.step (l_over_ok sl hp (by decide)) (.one (.pure ⟨hl.1.mono (by decide), hl.2.1.mono (by decide), (SQ_hgt sl hp).mono (by decide)⟩))))
  have rb : SR 50 r.reverse := SR_sub hr2 fun p hp => List.mem_reverse.mp hp
  have hh : ∀ {s : List Pt}, SR 50 s → ∀ p ∈ s, SQ 1100 (hgt l p) := fun hs p hp => (SQ_hgt hl (hs p hp)).mono (by decide)
  have due := l_due4_ok hl hr2 (hh hr2) (by omega) (by decide) (by decide)
  have dueb := l_due4_ok hl rb (hh rb) (by rw [List.length_reverse]; omega) (by decide) (by decide)
  have cut := p_cut_ok hl hr2 (hh hr2) (by omega) (by decide) (by decide)
  have cutb := p_cut_ok hl rb (hh rb) (by rw [List.length_reverse]; omega) (by decide) (by decide)
  have cutn : p_cut [] l = .ok ([] : List Pt) := p_cut_ok (r := []) (a := 1100) hl (fun p hp => nomatch hp) (m := 50) (fun p hp => nomatch hp) (by decide) (by decide) (by decide)
  have n1 := cutQ_len l r
  have n2 := cutQ_len l r.reverse
  refine .step due (.one (.one (.step cut (.one (.step (l_points_like_ok _) ?_)))))
  rw [show ((!true) || ((!decide (cutQ l r = cutQ l r)) || (!decide (r = r)))) = false by simp, if_ok_f]
  have sh3 : p_cut_shape [r, ([] : List (Rat × Rat)), r.reverse] l = .ok [cutQ l r, [], cutQ l r.reverse] := by
    unfold p_cut_shape
    rw [compR_ok (ys := [cutQ l r, [], cutQ l r.reverse]) (by simp) ?_, bind_ok]
    unfold R.mapR
    rw [cut, bind_ok, bind_ok]
    unfold R.mapR
    rw [cutn, bind_ok, bind_ok]
    unfold R.mapR
    rw [cutb, bind_ok, bind_ok]
    unfold R.mapR
    rfl
  have sh2 : p_cut_shape [r, r] l = .ok [cutQ l r, cutQ l r] := by
    unfold p_cut_shape
    rw [compR_ok (ys := [cutQ l r, cutQ l r]) (by simp) ?_, bind_ok]
    unfold R.mapR
    rw [cut, bind_ok, bind_ok]
    unfold R.mapR
    rw [cut, bind_ok, bind_ok]
    unfold R.mapR
    rfl
  have sh1 : p_cut_shape [r] l = .ok [cutQ l r] := by
    unfold p_cut_shape
    rw [compR_ok (ys := [cutQ l r]) (by simp) ?_, bind_ok]
    unfold R.mapR
    rw [cut, bind_ok, bind_ok]
    unfold R.mapR
    rfl
  refine .step mkQ_zero (.step mkQ_zero (.step (appR_ok (by omega)) (.one (.step sh3 (.one ?_)))))
  refine .step (a := false) ?_ ?_
  · rw [show (!true) = false from rfl, orR_f, dueb, bind_ok]; simp
  rw [if_ok_f]
  refine .step (app2_zero (by rw [List.length_map]; omega) _) (.step (a := [cutQ l r |>.map some |>.append [none], []]) rfl (.step sh2 (.one ?_)))
  rw [show (!decide ([cutQ l r, cutQ l r] = [cutQ l r, cutQ l r])) = false by simp, if_ok_f]
  refine .step (app2_zero (by rw [List.length_map]; omega) _) (.step (at1 _ _ _) (.step (a := true) ?_ (.pure rfl)))
  rw [decide_eq_true rfl, andR_t, cut, bind_ok, decide_eq_true rfl, andR_t, sh1, bind_ok, decide_eq_true rfl]; rfl
end Pg

set_option Elab.async false
set_option linter.all false
set_option maxRecDepth 100000
set_option maxHeartbeats 0
namespace Pg
open PySem PySem.Spec PyProof.Rows L2

def dd_divisor : He.DefD := ⟨("divisor", none), "divisor", "divisor", defArgs s_divisor, defBody s_divisor, defScope s_divisor, [], []⟩
def dd_ratio : He.DefD := ⟨("ratio", none), "ratio", "ratio", defArgs s_ratio, defBody s_ratio, defScope s_ratio, [], []⟩
def dd_plus : He.DefD := ⟨("plus", none), "plus", "plus", defArgs s_plus, defBody s_plus, defScope s_plus, [], []⟩
def dd_minus : He.DefD := ⟨("minus", none), "minus", "minus", defArgs s_minus, defBody s_minus, defScope s_minus, [], []⟩
def dd_times : He.DefD := ⟨("times", none), "times", "times", defArgs s_times, defBody s_times, defScope s_times, [], []⟩
def dd_parted : He.DefD := ⟨("parted", none), "parted", "parted", defArgs s_parted, defBody s_parted, defScope s_parted, [], []⟩
def dd_under : He.DefD := ⟨("under", none), "under", "under", defArgs s_under, defBody s_under, defScope s_under, [], []⟩
def dd_height_over : He.DefD := ⟨("height_over", none), "height_over", "height_over", defArgs s_height_over, defBody s_height_over, defScope s_height_over, [], []⟩
def dd_point_at : He.DefD := ⟨("point_at", none), "point_at", "point_at", defArgs s_point_at, defBody s_point_at, defScope s_point_at, [], []⟩
def dd_are_parted : He.DefD := ⟨("are_parted", none), "are_parted", "are_parted", defArgs s_are_parted, defBody s_are_parted, defScope s_are_parted, [], []⟩
def dd_cut : He.DefD := ⟨("cut", none), "cut", "cut", defArgs s_cut, defBody s_cut, defScope s_cut, [], []⟩
def dd_cut_shape : He.DefD := ⟨("cut_shape", none), "cut_shape", "cut_shape", defArgs s_cut_shape, defBody s_cut_shape, defScope s_cut_shape, [], []⟩
def dd__law_cell : He.DefD := ⟨("_law_cell", none), "_law_cell", "_law_cell", defArgs s__law_cell, defBody s__law_cell, defScope s__law_cell, [], []⟩
def dd__law_spread : He.DefD := ⟨("_law_spread", none), "_law_spread", "_law_spread", defArgs s__law_spread, defBody s__law_spread, defScope s__law_spread, [], []⟩
def dd__law_whole : He.DefD := ⟨("_law_whole", none), "_law_whole", "_law_whole", defArgs s__law_whole, defBody s__law_whole, defScope s__law_whole, [], []⟩
def dd__law_ratio : He.DefD := ⟨("_law_ratio", none), "_law_ratio", "_law_ratio", defArgs s__law_ratio, defBody s__law_ratio, defScope s__law_ratio, [], []⟩
def dd__law_plus : He.DefD := ⟨("_law_plus", none), "_law_plus", "_law_plus", defArgs s__law_plus, defBody s__law_plus, defScope s__law_plus, [], []⟩
def dd__law_minus : He.DefD := ⟨("_law_minus", none), "_law_minus", "_law_minus", defArgs s__law_minus, defBody s__law_minus, defScope s__law_minus, [], []⟩
def dd__law_times : He.DefD := ⟨("_law_times", none), "_law_times", "_law_times", defArgs s__law_times, defBody s__law_times, defScope s__law_times, [], []⟩
def dd__law_is : He.DefD := ⟨("_law_is", none), "_law_is", "_law_is", defArgs s__law_is, defBody s__law_is, defScope s__law_is, [], []⟩
def dd__law_number : He.DefD := ⟨("_law_number", none), "_law_number", "_law_number", defArgs s__law_number, defBody s__law_number, defScope s__law_number, [], []⟩
def dd__law_at : He.DefD := ⟨("_law_at", none), "_law_at", "_law_at", defArgs s__law_at, defBody s__law_at, defScope s__law_at, [], []⟩
def dd__law_ring : He.DefD := ⟨("_law_ring", none), "_law_ring", "_law_ring", defArgs s__law_ring, defBody s__law_ring, defScope s__law_ring, [], []⟩
def dd__law_line : He.DefD := ⟨("_law_line", none), "_law_line", "_law_line", defArgs s__law_line, defBody s__law_line, defScope s__law_line, [], []⟩
def dd__law_over : He.DefD := ⟨("_law_over", none), "_law_over", "_law_over", defArgs s__law_over, defBody s__law_over, defScope s__law_over, [], []⟩
def dd__law_points_like : He.DefD := ⟨("_law_points_like", none), "_law_points_like", "_law_points_like", defArgs s__law_points_like, defBody s__law_points_like, defScope s__law_points_like, [], []⟩
def dd__law_met : He.DefD := ⟨("_law_met", none), "_law_met", "_law_met", defArgs s__law_met, defBody s__law_met, defScope s__law_met, [], []⟩
def dd__law_due : He.DefD := ⟨("_law_due", none), "_law_due", "_law_due", defArgs s__law_due, defBody s__law_due, defScope s__law_due, [], []⟩
def dd_law : He.DefD := ⟨("law", none), "law", "law", defArgs s_law, defBody s_law, defScope s_law, [], []⟩
def hdFn : List He.DefD := [dd_divisor, dd_ratio, dd_plus, dd_minus, dd_times, dd_parted, dd_under, dd_height_over, dd_point_at, dd_are_parted, dd_cut, dd_cut_shape, dd__law_cell, dd__law_spread, dd__law_whole, dd__law_ratio, dd__law_plus, dd__law_minus, dd__law_times, dd__law_is, dd__law_number, dd__law_at, dd__law_ring, dd__law_line, dd__law_over, dd__law_points_like, dd__law_met, dd__law_due, dd_law]
def hdEx (K : PySem.W.Frag) : Bool := conB K 3 (.ref (He.ga K "NOUGHT")) (.tup [dI 0, dI 1])
theorem cd_NOUGHT : ((.tup [dI 0, dI 1]) : D) = dQ (0 : Rat) := by rfl
def hdFa : List He.Fa := [.glo "divisor", .glo "ratio", .glo "plus", .glo "minus", .glo "times", .glo "parted", .glo "under", .glo "height_over", .glo "point_at", .glo "are_parted", .glo "cut", .glo "cut_shape", .glo "_law_cell", .glo "_law_spread", .glo "_law_whole", .glo "_law_ratio", .glo "_law_plus", .glo "_law_minus", .glo "_law_times", .glo "_law_is", .glo "_law_number", .glo "_law_at", .glo "_law_ring", .glo "_law_line", .glo "_law_over", .glo "_law_points_like", .glo "_law_met", .glo "_law_due", .glo "law", .free "abs", .free "bool", .free "int", .free "isinstance", .free "len", .free "list", .free "range", .free "reversed", .free "tuple", .glo "NOUGHT"]
abbrev hdR : PySem.W.OpenRow := PySem.W.OpenLaw.row PySem.Challenge.rw_coverfill_k09_cut_points
abbrev hdK : PySem.W.Hook := hookP 4 hdFa hdFn hdEx
def hdNames : List Str := (["CoverError", "NoRatio", "divisor", "ratio", "plus", "minus", "times", "parted", "under", "NOUGHT", "height_over", "point_at", "are_parted", "cut", "cut_shape", "_law_cell", "_law_spread", "_law_whole", "_law_ratio", "_law_plus", "_law_minus", "_law_times", "_law_is", "_law_number", "_law_at", "_law_ring", "_law_line", "_law_over", "_law_points_like", "_law_met"] : List Str) ++ (["_law_due"] : List Str)
theorem hd_run (w : World) : HandSHeadRun.RunEq hdR (PySem.W.view hdR.prog [35]) hdK (obT 4 hdFa hdFn hdEx) 20000 hdNames w := by
  intro os
  kernel_rfl
theorem hd_facts {P : Program} {w : World} {K : PySem.W.Frag} {h : Heap} {mg : Str → Option Value} {f : Addr} (hT : P.given.tree = none) (X : K.In h) (G : h.Ns mainGlobals mg) (hfa : mg ("law" : Str) = some (.ref f)) (c : SaysP hdFa hdFn hdEx K) :
    ∃ fd : FuncData, (∀ (s : Shared) (v : Value), BindsTo s fd ⟨[v], []⟩ [("_law_script", v)]) ∧ ∀ base : Heap, K.In base → base.Ns mainGlobals mg → base.NoSeer → FnOk P w K mg base CX0 47 f fd ["_law_script"] (sp_law K) := by
  obtain ⟨fd_divisor, F_divisor⟩ := c.1.def_ 0 (d := dd_divisor) rfl
  have b_divisor : Binds K fd_divisor ["one", "other"] [] := F_divisor.bindsN fun _ _ _ _ _ _ us hl => match us, hl with | [_, _], _ => rfl
  have g_divisor := He.glo_ok X G (c.1.fact 0 (f := .glo "divisor") rfl)
  obtain ⟨fd_ratio, F_ratio⟩ := c.1.def_ 1 (d := dd_ratio) rfl
  have b_ratio : Binds K fd_ratio ["top", "bottom"] [] := F_ratio.bindsN fun _ _ _ _ _ _ us hl => match us, hl with | [_, _], _ => rfl
  have g_ratio := He.glo_ok X G (c.1.fact 1 (f := .glo "ratio") rfl)
  obtain ⟨fd_plus, F_plus⟩ := c.1.def_ 2 (d := dd_plus) rfl
  have b_plus : Binds K fd_plus ["one", "other"] [] := F_plus.bindsN fun _ _ _ _ _ _ us hl => match us, hl with | [_, _], _ => rfl
  have g_plus := He.glo_ok X G (c.1.fact 2 (f := .glo "plus") rfl)
  obtain ⟨fd_minus, F_minus⟩ := c.1.def_ 3 (d := dd_minus) rfl
  have b_minus : Binds K fd_minus ["one", "other"] [] := F_minus.bindsN fun _ _ _ _ _ _ us hl => match us, hl with | [_, _], _ => rfl
  have g_minus := He.glo_ok X G (c.1.fact 3 (f := .glo "minus") rfl)
  obtain ⟨fd_times, F_times⟩ := c.1.def_ 4 (d := dd_times) rfl
  have b_times : Binds K fd_times ["one", "other"] [] := F_times.bindsN fun _ _ _ _ _ _ us hl => match us, hl with | [_, _], _ => rfl
  have g_times := He.glo_ok X G (c.1.fact 4 (f := .glo "times") rfl)
  obtain ⟨fd_parted, F_parted⟩ := c.1.def_ 5 (d := dd_parted) rfl
  have b_parted : Binds K fd_parted ["one", "other"] [] := F_parted.bindsN fun _ _ _ _ _ _ us hl => match us, hl with | [_, _], _ => rfl
  have g_parted := He.glo_ok X G (c.1.fact 5 (f := .glo "parted") rfl)
  obtain ⟨fd_under, F_under⟩ := c.1.def_ 6 (d := dd_under) rfl
  have b_under : Binds K fd_under ["one", "other"] [] := F_under.bindsN fun _ _ _ _ _ _ us hl => match us, hl with | [_, _], _ => rfl
  have g_under := He.glo_ok X G (c.1.fact 6 (f := .glo "under") rfl)
  obtain ⟨fd_height_over, F_height_over⟩ := c.1.def_ 7 (d := dd_height_over) rfl
  have b_height_over : Binds K fd_height_over ["line", "point"] [] := F_height_over.bindsN fun _ _ _ _ _ _ us hl => match us, hl with | [_, _], _ => rfl
  have g_height_over := He.glo_ok X G (c.1.fact 7 (f := .glo "height_over") rfl)
  obtain ⟨fd_point_at, F_point_at⟩ := c.1.def_ 8 (d := dd_point_at) rfl
  have b_point_at : Binds K fd_point_at ["one", "other", "share"] [] := F_point_at.bindsN fun _ _ _ _ _ _ us hl => match us, hl with | [_, _, _], _ => rfl
  have g_point_at := He.glo_ok X G (c.1.fact 8 (f := .glo "point_at") rfl)
  obtain ⟨fd_are_parted, F_are_parted⟩ := c.1.def_ 9 (d := dd_are_parted) rfl
  have b_are_parted : Binds K fd_are_parted ["height", "other"] [] := F_are_parted.bindsN fun _ _ _ _ _ _ us hl => match us, hl with | [_, _], _ => rfl
  have g_are_parted := He.glo_ok X G (c.1.fact 9 (f := .glo "are_parted") rfl)
  obtain ⟨fd_cut, F_cut⟩ := c.1.def_ 10 (d := dd_cut) rfl
  have b_cut : Binds K fd_cut ["ring", "line"] [] := F_cut.bindsN fun _ _ _ _ _ _ us hl => match us, hl with | [_, _], _ => rfl
  have g_cut := He.glo_ok X G (c.1.fact 10 (f := .glo "cut") rfl)
  obtain ⟨fd_cut_shape, F_cut_shape⟩ := c.1.def_ 11 (d := dd_cut_shape) rfl
  have b_cut_shape : Binds K fd_cut_shape ["shape", "line"] [] := F_cut_shape.bindsN fun _ _ _ _ _ _ us hl => match us, hl with | [_, _], _ => rfl
  have g_cut_shape := He.glo_ok X G (c.1.fact 11 (f := .glo "cut_shape") rfl)
  obtain ⟨fd__law_cell, F__law_cell⟩ := c.1.def_ 12 (d := dd__law_cell) rfl
  have b__law_cell : Binds K fd__law_cell ["_law_script", "_law_k"] [] := F__law_cell.bindsN fun _ _ _ _ _ _ us hl => match us, hl with | [_, _], _ => rfl
  have g__law_cell := He.glo_ok X G (c.1.fact 12 (f := .glo "_law_cell") rfl)
  obtain ⟨fd__law_spread, F__law_spread⟩ := c.1.def_ 13 (d := dd__law_spread) rfl
  have b__law_spread : Binds K fd__law_spread ["_law_cell_here", "_law_k"] [] := F__law_spread.bindsN fun _ _ _ _ _ _ us hl => match us, hl with | [_, _], _ => rfl
  have g__law_spread := He.glo_ok X G (c.1.fact 13 (f := .glo "_law_spread") rfl)
  obtain ⟨fd__law_whole, F__law_whole⟩ := c.1.def_ 14 (d := dd__law_whole) rfl
  have b__law_whole : Binds K fd__law_whole ["_law_found"] [] := F__law_whole.bindsN fun _ _ _ _ _ _ us hl => match us, hl with | [_], _ => rfl
  have g__law_whole := He.glo_ok X G (c.1.fact 14 (f := .glo "_law_whole") rfl)
  obtain ⟨fd__law_ratio, F__law_ratio⟩ := c.1.def_ 15 (d := dd__law_ratio) rfl
  have b__law_ratio : Binds K fd__law_ratio ["_law_top", "_law_bottom"] [] := F__law_ratio.bindsN fun _ _ _ _ _ _ us hl => match us, hl with | [_, _], _ => rfl
  have g__law_ratio := He.glo_ok X G (c.1.fact 15 (f := .glo "_law_ratio") rfl)
  obtain ⟨fd__law_plus, F__law_plus⟩ := c.1.def_ 16 (d := dd__law_plus) rfl
  have b__law_plus : Binds K fd__law_plus ["_law_one", "_law_other"] [] := F__law_plus.bindsN fun _ _ _ _ _ _ us hl => match us, hl with | [_, _], _ => rfl
  have g__law_plus := He.glo_ok X G (c.1.fact 16 (f := .glo "_law_plus") rfl)
  obtain ⟨fd__law_minus, F__law_minus⟩ := c.1.def_ 17 (d := dd__law_minus) rfl
  have b__law_minus : Binds K fd__law_minus ["_law_one", "_law_other"] [] := F__law_minus.bindsN fun _ _ _ _ _ _ us hl => match us, hl with | [_, _], _ => rfl
  have g__law_minus := He.glo_ok X G (c.1.fact 17 (f := .glo "_law_minus") rfl)
  obtain ⟨fd__law_times, F__law_times⟩ := c.1.def_ 18 (d := dd__law_times) rfl
  have b__law_times : Binds K fd__law_times ["_law_one", "_law_other"] [] := F__law_times.bindsN fun _ _ _ _ _ _ us hl => match us, hl with | [_, _], _ => rfl
  have g__law_times := He.glo_ok X G (c.1.fact 18 (f := .glo "_law_times") rfl)
  obtain ⟨fd__law_is, F__law_is⟩ := c.1.def_ 19 (d := dd__law_is) rfl
  have b__law_is : Binds K fd__law_is ["_law_found", "_law_due_here"] [] := F__law_is.bindsN fun _ _ _ _ _ _ us hl => match us, hl with | [_, _], _ => rfl
  have g__law_is := He.glo_ok X G (c.1.fact 19 (f := .glo "_law_is") rfl)
  obtain ⟨fd__law_number, F__law_number⟩ := c.1.def_ 20 (d := dd__law_number) rfl
  have b__law_number : Binds K fd__law_number ["_law_cell_here"] [] := F__law_number.bindsN fun _ _ _ _ _ _ us hl => match us, hl with | [_], _ => rfl
  have g__law_number := He.glo_ok X G (c.1.fact 20 (f := .glo "_law_number") rfl)
  obtain ⟨fd__law_at, F__law_at⟩ := c.1.def_ 21 (d := dd__law_at) rfl
  have b__law_at : Binds K fd__law_at ["_law_script", "_law_k"] [] := F__law_at.bindsN fun _ _ _ _ _ _ us hl => match us, hl with | [_, _], _ => rfl
  have g__law_at := He.glo_ok X G (c.1.fact 21 (f := .glo "_law_at") rfl)
  obtain ⟨fd__law_ring, F__law_ring⟩ := c.1.def_ 22 (d := dd__law_ring) rfl
  have b__law_ring : Binds K fd__law_ring ["_law_script", "_law_at_here", "_law_many"] [] := F__law_ring.bindsN fun _ _ _ _ _ _ us hl => match us, hl with | [_, _, _], _ => rfl
  have g__law_ring := He.glo_ok X G (c.1.fact 22 (f := .glo "_law_ring") rfl)
  obtain ⟨fd__law_line, F__law_line⟩ := c.1.def_ 23 (d := dd__law_line) rfl
  have b__law_line : Binds K fd__law_line ["_law_script", "_law_at_here"] [] := F__law_line.bindsN fun _ _ _ _ _ _ us hl => match us, hl with | [_, _], _ => rfl
  have g__law_line := He.glo_ok X G (c.1.fact 23 (f := .glo "_law_line") rfl)
  obtain ⟨fd__law_over, F__law_over⟩ := c.1.def_ 24 (d := dd__law_over) rfl
  have b__law_over : Binds K fd__law_over ["_law_line_here", "_law_point"] [] := F__law_over.bindsN fun _ _ _ _ _ _ us hl => match us, hl with | [_, _], _ => rfl
  have g__law_over := He.glo_ok X G (c.1.fact 24 (f := .glo "_law_over") rfl)
  obtain ⟨fd__law_points_like, F__law_points_like⟩ := c.1.def_ 25 (d := dd__law_points_like) rfl
  have b__law_points_like : Binds K fd__law_points_like ["_law_found"] [] := F__law_points_like.bindsN fun _ _ _ _ _ _ us hl => match us, hl with | [_], _ => rfl
  have g__law_points_like := He.glo_ok X G (c.1.fact 25 (f := .glo "_law_points_like") rfl)
  obtain ⟨fd__law_met, F__law_met⟩ := c.1.def_ 26 (d := dd__law_met) rfl
  have b__law_met : Binds K fd__law_met ["_law_one", "_law_other", "_law_height", "_law_after"] [] := F__law_met.bindsN fun _ _ _ _ _ _ us hl => match us, hl with | [_, _, _, _], _ => rfl
  have g__law_met := He.glo_ok X G (c.1.fact 26 (f := .glo "_law_met") rfl)
  obtain ⟨fd__law_due, F__law_due⟩ := c.1.def_ 27 (d := dd__law_due) rfl
  have b__law_due : Binds K fd__law_due ["_law_ring_here", "_law_line_here"] [] := F__law_due.bindsN fun _ _ _ _ _ _ us hl => match us, hl with | [_, _], _ => rfl
  have g__law_due := He.glo_ok X G (c.1.fact 27 (f := .glo "_law_due") rfl)
  obtain ⟨fd_law, F_law⟩ := c.1.def_ 28 (d := dd_law) rfl
  have z_abs := He.free_ok X G (c.1.fact 29 (f := .free "abs") rfl)
  have z_bool := He.free_ok X G (c.1.fact 30 (f := .free "bool") rfl)
  have z_int := He.free_ok X G (c.1.fact 31 (f := .free "int") rfl)
  have z_isinstance := He.free_ok X G (c.1.fact 32 (f := .free "isinstance") rfl)
  have z_len := He.free_ok X G (c.1.fact 33 (f := .free "len") rfl)
  have z_list := He.free_ok X G (c.1.fact 34 (f := .free "list") rfl)
  have z_range := He.free_ok X G (c.1.fact 35 (f := .free "range") rfl)
  have z_reversed := He.free_ok X G (c.1.fact 36 (f := .free "reversed") rfl)
  have z_tuple := He.free_ok X G (c.1.fact 37 (f := .free "tuple") rfl)
  have c_NOUGHT := con_ok (x := "NOUGHT") X G (c.1.fact 38 (f := .glo "NOUGHT") rfl) (c.2)
  rw [cd_NOUGHT] at c_NOUGHT
  have e := hfa.symm.trans (He.glo_ok X G (c.1.fact 28 (f := .glo "law") rfl))
  cases e
  have b := FunD.bindsA (ps := ["_law_script"]) F_law fun _ _ _ _ _ _ us hl => match us, hl with | [_], _ => rfl
  refine ⟨fd_law, fun s v => b s [v] rfl, fun base hB hN hS => ?_⟩
  have G_divisor : FnOk P w K mg base CX0 41 _ fd_divisor ["one", "other"] (sp_divisor K) := ok_divisor F_divisor
  have G_ratio : FnOk P w K mg base CX0 42 _ fd_ratio ["top", "bottom"] (sp_ratio K) := ok_ratio F_ratio F_divisor b_divisor g_divisor G_divisor z_abs hS hT
  have G_plus : FnOk P w K mg base CX0 43 _ fd_plus ["one", "other"] (sp_plus K) := ok_plus F_plus F_ratio b_ratio g_ratio G_ratio
  have G_minus : FnOk P w K mg base CX0 43 _ fd_minus ["one", "other"] (sp_minus K) := ok_minus F_minus F_ratio b_ratio g_ratio G_ratio
  have G_times : FnOk P w K mg base CX0 43 _ fd_times ["one", "other"] (sp_times K) := ok_times F_times F_ratio b_ratio g_ratio G_ratio
  have G_parted : FnOk P w K mg base CX0 43 _ fd_parted ["one", "other"] (sp_parted K) := ok_parted F_parted F_ratio b_ratio g_ratio G_ratio
  have G_under : FnOk P w K mg base CX0 41 _ fd_under ["one", "other"] (sp_under K) := ok_under F_under
  have G_height_over : FnOk P w K mg base CX0 44 _ fd_height_over ["line", "point"] (sp_height_over K) := ok_height_over F_height_over F_minus b_minus g_minus F_plus b_plus g_plus F_times b_times g_times G_minus G_plus G_times
  have G_point_at : FnOk P w K mg base CX0 44 _ fd_point_at ["one", "other", "share"] (sp_point_at K) := ok_point_at F_point_at F_minus b_minus g_minus F_plus b_plus g_plus F_times b_times g_times G_minus G_plus G_times
  have G_are_parted : FnOk P w K mg base CX0 42 _ fd_are_parted ["height", "other"] (sp_are_parted K) := ok_are_parted F_are_parted F_under b_under g_under G_under c_NOUGHT
  have G_cut : FnOk P w K mg base CX0 45 _ fd_cut ["ring", "line"] (sp_cut K) := ok_cut F_cut F_are_parted b_are_parted g_are_parted F_height_over b_height_over g_height_over F_minus b_minus g_minus F_parted b_parted g_parted F_point_at b_point_at g_point_at F_under b_under g_under G_are_parted G_height_over G_minus G_parted G_point_at G_under z_len z_range c_NOUGHT
  have G_cut_shape : FnOk P w K mg base CX0 46 _ fd_cut_shape ["shape", "line"] (sp_cut_shape K) := ok_cut_shape F_cut_shape F_cut b_cut g_cut G_cut
  have G__law_cell : FnOk P w K mg base CX0 41 _ fd__law_cell ["_law_script", "_law_k"] (sp__law_cell K) := ok__law_cell F__law_cell z_len hS hT
  have G__law_spread : FnOk P w K mg base CX0 41 _ fd__law_spread ["_law_cell_here", "_law_k"] (sp__law_spread K) := ok__law_spread F__law_spread
  have G__law_whole : FnOk P w K mg base CX0 41 _ fd__law_whole ["_law_found"] (sp__law_whole K) := ok__law_whole F__law_whole z_bool z_int z_isinstance
  have G__law_ratio : FnOk P w K mg base CX0 41 _ fd__law_ratio ["_law_top", "_law_bottom"] (sp__law_ratio K) := ok__law_ratio F__law_ratio z_abs hS hT
  have G__law_plus : FnOk P w K mg base CX0 42 _ fd__law_plus ["_law_one", "_law_other"] (sp__law_plus K) := ok__law_plus F__law_plus F__law_ratio b__law_ratio g__law_ratio G__law_ratio
  have G__law_minus : FnOk P w K mg base CX0 42 _ fd__law_minus ["_law_one", "_law_other"] (sp__law_minus K) := ok__law_minus F__law_minus F__law_ratio b__law_ratio g__law_ratio G__law_ratio
  have G__law_times : FnOk P w K mg base CX0 42 _ fd__law_times ["_law_one", "_law_other"] (sp__law_times K) := ok__law_times F__law_times F__law_ratio b__law_ratio g__law_ratio G__law_ratio
  have G__law_is : FnOk P w K mg base CX0 42 _ fd__law_is ["_law_found", "_law_due_here"] (sp__law_is K) := ok__law_is F__law_is F__law_whole b__law_whole g__law_whole G__law_whole z_isinstance z_len z_tuple
  have G__law_number : FnOk P w K mg base CX0 42 _ fd__law_number ["_law_cell_here"] (sp__law_number K) := ok__law_number F__law_number F__law_ratio b__law_ratio g__law_ratio G__law_ratio hS hT
  have G__law_at : FnOk P w K mg base CX0 43 _ fd__law_at ["_law_script", "_law_k"] (sp__law_at K) := ok__law_at F__law_at F__law_cell b__law_cell g__law_cell F__law_number b__law_number g__law_number F__law_spread b__law_spread g__law_spread G__law_cell G__law_number G__law_spread
  have G__law_ring : FnOk P w K mg base CX0 44 _ fd__law_ring ["_law_script", "_law_at_here", "_law_many"] (sp__law_ring K) := ok__law_ring F__law_ring F__law_at b__law_at g__law_at G__law_at z_range
  have G__law_line : FnOk P w K mg base CX0 43 _ fd__law_line ["_law_script", "_law_at_here"] (sp__law_line K) := ok__law_line F__law_line F__law_cell b__law_cell g__law_cell F__law_number b__law_number g__law_number F__law_ratio b__law_ratio g__law_ratio F__law_spread b__law_spread g__law_spread G__law_cell G__law_number G__law_ratio G__law_spread z_range z_tuple hS hT
  have G__law_over : FnOk P w K mg base CX0 43 _ fd__law_over ["_law_line_here", "_law_point"] (sp__law_over K) := ok__law_over F__law_over F__law_minus b__law_minus g__law_minus F__law_plus b__law_plus g__law_plus F__law_times b__law_times g__law_times G__law_minus G__law_plus G__law_times
  have G__law_points_like : FnOk P w K mg base CX0 43 _ fd__law_points_like ["_law_found"] (sp__law_points_like K) := ok__law_points_like F__law_points_like F__law_is b__law_is g__law_is G__law_is z_isinstance z_len z_list z_tuple
  have G__law_met : FnOk P w K mg base CX0 43 _ fd__law_met ["_law_one", "_law_other", "_law_height", "_law_after"] (sp__law_met K) := ok__law_met F__law_met F__law_minus b__law_minus g__law_minus F__law_plus b__law_plus g__law_plus F__law_ratio b__law_ratio g__law_ratio F__law_times b__law_times g__law_times G__law_minus G__law_plus G__law_ratio G__law_times z_range z_tuple
  have G__law_due : FnOk P w K mg base CX0 44 _ fd__law_due ["_law_ring_here", "_law_line_here"] (sp__law_due K) := ok__law_due F__law_due F__law_met b__law_met g__law_met F__law_over b__law_over g__law_over G__law_met G__law_over z_len z_range
  exact ok_law F_law F__law_cell b__law_cell g__law_cell F__law_due b__law_due g__law_due F__law_line b__law_line g__law_line F__law_over b__law_over g__law_over F__law_points_like b__law_points_like g__law_points_like F__law_ring b__law_ring g__law_ring F_cut b_cut g_cut F_cut_shape b_cut_shape g_cut_shape G__law_cell G__law_due G__law_line G__law_over G__law_points_like G__law_ring G_cut G_cut_shape z_isinstance z_list z_reversed hS hT
end Pg
open PySem PySem.W PySem.Calls PyProof.Rows
theorem PySem.Challenge.cw_coverfill_k09_cut_points_holds : PySem.Challenge.rw_coverfill_k09_cut_points.Holds := by
  w_on; o_law
  refine HandSHeadRun.head_any (r := OpenLaw.row PySem.Challenge.rw_coverfill_k09_cut_points) (q := view (OpenLaw.row PySem.Challenge.rw_coverfill_k09_cut_points).prog [35]) (H := Pg.hdK) (ob := Pg.obT 4 Pg.hdFa Pg.hdFn Pg.hdEx) (M := 20000) (loose := Pg.hdNames) (d := HandSHeadRun.topDef (OpenLaw.row PySem.Challenge.rw_coverfill_k09_cut_points).prog 35) (kwd := []) Pg.obT_eq
    (by kernel_rfl) (fun s => by kernel_rfl) Pg.hd_run (by kernel_rfl) (by kernel_rfl) (by kernel_rfl) (by rfl) (by first | assumption | decide +kernel) (by decide +kernel) ⟨rfl, rfl, rfl, rfl, rfl, by decide +kernel⟩ ?hw ?hc
  case hw => w_witness2
  case hc =>
    refine Pg.walk_ofP (l := PySem.Challenge.rw_coverfill_k09_cut_points) (n := 63) (k := 47) (x := "_law_script") (CX := L2.CX0) rfl (by decide) (by kernel_rfl) ⟨rfl, by decide, by decide⟩ (by decide +kernel) ?F (fun _ _ _ _ z => z)
    intro w mg fa h Y G hmg0
    obtain ⟨K, KX, c⟩ := Y
    have hmg : mg ("law" : PySem.Str) = some (.ref fa) := by
      have e : (HandSHeadRun.topDef (OpenLaw.row PySem.Challenge.rw_coverfill_k09_cut_points).prog 35).name = ("law" : PySem.Str) := by kernel_rfl
      rw [← e]
      exact hmg0
    obtain ⟨fd, hb, hF⟩ := Pg.hd_facts (P := (PySem.Challenge.rw_coverfill_k09_cut_points).prog) (w := w) rfl KX G hmg c
    exact ⟨K, fd, Pg.sp_law K, KX, hb, fun H a ns hl hbits _ hS => Pg.law_sp Pg.k09_ok H a ns hl hbits hS, hF⟩

