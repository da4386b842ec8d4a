import PyProof.Rows.All
import Wide.All
import OpenK.AllK
import Wide.FinOn
import HandS.ForMost
import HandS.IsInst
import HandS.Wide
import HandS.TupAny
import HandS.Rev
import HandS.Zip
import HandS.Defaults
import HandS.ExcOwn
import HandS.ExcIs
import HandS.ExcValue
import HandS.WordsExc
import HandS.TryOnly
import HandS.EndBits
import HandS.HeadEnd
import KE.KStateDown
import HandS.Head0
import HandS.Head1
import HandS.Head2
import HandS.HeadHook1
import HandS.HeadHook2
import HandS.More
import HandS.Steps
import PyProof.ListRange
import HandS.RevTup
import PySem.Challenge.RW_coverfill_k13_pieces_are_all
set_option Elab.async false
set_option linter.all false
/-! Pg: outcomes; core Lean alone. -/
namespace Pg

/-! ### outcomes -/
inductive R (α : Type) where
  | ok (a : α)
  | err (n : Nat)
  | bad
namespace R
def bind {α β : Type} (m : R α) (k : α → R β) : R β := match m with
  | ok a => k a
  | err n => err n
  | bad => bad
theorem bind_inv {α β : Type} {m : R α} {k : α → R β} {b : β} (h : bind m k = ok b) : ∃ a, m = ok a ∧ k a = ok b := by
  cases m with
  | ok a => exact ⟨a, rfl, h⟩
  | err n => exact nomatch h
  | bad => exact nomatch h
theorem ok_inj {α : Type} {a b : α} (h : ok a = ok b) : a = b := by injection h
def forR {α S : Type} (f : α → S → R S) : List α → S → R S
  | [], s => ok s
  | x :: xs, s => bind (f x s) fun s' => forR f xs s'
def forX {α S β : Type} (f : α → S → R (Sum S β)) : List α → S → R (Sum S β)
  | [], s => ok (.inl s)
  | x :: xs, s => bind (f x s) fun r => match r with
    | .inl s' => forX f xs s'
    | .inr b => ok (.inr b)
def mapR {α β : Type} (f : α → R β) : List α → R (List β)
  | [] => ok []
  | x :: xs => bind (f x) fun y => bind (mapR f xs) fun ys => ok (y :: ys)
/-- with a test -/
def mapIf {α β : Type} (p : α → R Bool) (f : α → R β) : List α → R (List β)
  | [] => ok []
  | x :: xs => bind (p x) fun b => if b = true then bind (f x) fun y => bind (mapIf p f xs) fun ys => ok (y :: ys) else mapIf p f xs
def andR (c : Bool) (m : R Bool) : R Bool := if c = true then m else ok false
def orR (c : Bool) (m : R Bool) : R Bool := if c = true then ok true else m
def compR {α β : Type} (f : α → R β) (xs : List α) : R (List β) := if xs.length < 16777216 then mapR f xs else bad
def compIf {α β : Type} (p : α → R Bool) (f : α → R β) (xs : List α) : R (List β) := if xs.length < 16777216 then mapIf p f xs else bad
def caseX {S β γ : Type} (r : Sum S β) (k1 : S → R γ) (k2 : β → R γ) : R γ := match r with
  | .inl s => k1 s
  | .inr b => k2 b
theorem case_l {S β γ : Type} {s : S} {k1 : S → R γ} {k2 : β → R γ} {c : R γ} (h : caseX (.inl s) k1 k2 = c) : k1 s = c := h
theorem case_r {S β γ : Type} {b : β} {k1 : S → R γ} {k2 : β → R γ} {c : R γ} (h : caseX (.inr b) k1 k2 = c) : k2 b = c := h
end R
theorem if_t {α : Type} {c : Bool} {a b : α} {r : α} (hc : c = true) (h : (if c = true then a else b) = r) : a = r := by rw [if_pos hc] at h; exact h
theorem if_f {α : Type} {c : Bool} {a b : α} {r : α} (hc : c = false) (h : (if c = true then a else b) = r) : b = r := by rw [if_neg (by rw [hc]; decide)] at h; exact h
def mulR (i j : Int) : R Int := if i.natAbs.log2 + j.natAbs.log2 < 134000000 then .ok (i * j) else .bad
def fdivR (i j : Int) : R Int := if j = 0 then .bad else .ok (i.fdiv j)
def fmodR (i j : Int) : R Int := if j = 0 then .bad else .ok (i.fmod j)
/-- the place of a Python index -/
def ixP (n : Nat) (i : Int) : Option Nat := if 0 ≤ i then (if i < n then some i.toNat else none) else (if 0 ≤ i + n then some (i + n).toNat else none)
def atR {α : Type} (xs : List α) (i : Int) : R α := match ixP xs.length i with
  | some k => (match xs[k]? with
    | some x => .ok x
    | none => .bad)
  | none => .bad
def appR {α : Type} (xs : List α) (x : α) : R (List α) := if xs.length < 16777216 then .ok (xs ++ [x]) else .bad
def setR {α : Type} (xs : List α) (i : Int) (x : α) : R (List α) := match ixP xs.length i with
  | some k => .ok (xs.set k x)
  | none => .bad
def catR {α : Type} (xs ys : List α) : R (List α) := if xs.length + ys.length ≤ 16777216 then .ok (xs ++ ys) else .bad
def rngR (i j : Int) : R (List Int) := if -(2 ^ 62) ≤ i ∧ i < 2 ^ 62 ∧ -(2 ^ 62) ≤ j ∧ j < 2 ^ 62 then .ok ((List.range (j - i).toNat).map fun k => i + (k : Nat)) else .bad


/-- the clamped end of a slice -/
def sIxP (n d : Nat) (o : Option Int) : Nat := match o with
  | none => d
  | some i => if i < 0 then (i + n).toNat else min i.toNat n
def cutL {α : Type} (xs : List α) (lo hi : Option Int) : List α := (xs.drop (sIxP xs.length 0 lo)).take (sIxP xs.length xs.length hi - sIxP xs.length 0 lo)
def absZ (i : Int) : Int := if i < 0 then -i else i
def maxZ (i j : Int) : Int := if j > i then j else i
def minZ (i j : Int) : Int := if j < i then j else i
/-- a tuple of two whole numbers as a ratio -/
def mkQ (a b : Int) : R Rat := if h : 0 < b ∧ a.natAbs.Coprime b.toNat then .ok ⟨a, b.toNat, by omega, h.2⟩ else .bad
def gcdR (a b : Int) : R Int := if 0 ≤ a ∧ 0 ≤ b then .ok (Int.gcd a b : Nat) else .bad
end Pg

set_option Elab.async false
set_option linter.all false
set_option maxRecDepth 100000
/-! Pg: data over the hand layer. A datum D stands at a value in a frozen part F of the heap; an abstract frame holds data and own lists. -/
namespace Pg
open PySem PySem.Spec PyProof.Rows L2

/-! ### data -/
inductive D where
  | v (x : V)
  | tup (ds : List D)
  | lst (ds : List D)
  | ins (C : Addr) (fs : List (Str × D))
  | hp (k : List L2.Key)
  | ob (φ : Addr → Heap → Prop)
abbrev dI (i : Int) : D := .v (.int i)
abbrev dB (b : Bool) : D := .v (.bl b)
abbrev dS (s : Str) : D := .v (.str s)
abbrev dN (_ : Unit) : D := .v .non
abbrev dQ (q : Rat) : D := .tup [dI q.num, dI (q.den : Int)]
abbrev d2 {α β : Type} (f : α → D) (g : β → D) (x : α × β) : D := .tup [f x.1, g x.2]
abbrev d3 {α β γ : Type} (f : α → D) (g : β → D) (h : γ → D) (x : α × β × γ) : D := .tup [f x.1, g x.2.1, h x.2.2]
abbrev d4 {α β γ δ : Type} (f : α → D) (g : β → D) (h : γ → D) (k : δ → D) (x : α × β × γ × δ) : D := .tup [f x.1, g x.2.1, h x.2.2.1, k x.2.2.2]
abbrev d5 {α β γ δ ε : Type} (f : α → D) (g : β → D) (h : γ → D) (k : δ → D) (l : ε → D) (x : α × β × γ × δ × ε) : D := .tup [f x.1, g x.2.1, h x.2.2.1, k x.2.2.2.1, l x.2.2.2.2]
abbrev dL {α : Type} (f : α → D) (xs : List α) : D := .lst (xs.map f)
abbrev dT {α : Type} (f : α → D) (xs : List α) : D := .tup (xs.map f)

mutual
inductive Dat (K : PySem.W.Frag) (F : Hp) : V → D → Prop
  | v (x : V) : Dat K F x (.v x)
  | tup {a : Addr} {xs : List V} {ds : List D} : SqT K F a xs → Dats K F xs ds → Dat K F (.ref a) (.tup ds)
  | lst {a : Addr} {xs : List V} {ds : List D} : SqL K F a xs → Dats K F xs ds → Dat K F (.ref a) (.lst ds)
  | ins {a C dx : Addr} {us : List (Str × V)} {fs : List (Str × D)} : F a = some (.ins C dx us) → Datf K F us fs → Dat K F (.ref a) (.ins C fs)
  | hp {a : Addr} {k : List L2.Key} : F a = some (.tup (k.map kV)) → Dat K F (.ref a) (.hp k)
  | ob {a : Addr} {φ : Addr → Heap → Prop} : F a = some (.ext (φ a)) → Dat K F (.ref a) (.ob φ)
inductive Dats (K : PySem.W.Frag) (F : Hp) : List V → List D → Prop
  | nil : Dats K F [] []
  | cons {v : V} {vs : List V} {d : D} {ds : List D} : Dat K F v d → Dats K F vs ds → Dats K F (v :: vs) (d :: ds)
inductive Datf (K : PySem.W.Frag) (F : Hp) : List (Str × V) → List (Str × D) → Prop
  | nil : Datf K F [] []
  | cons {f : Str} {v : V} {vs : List (Str × V)} {d : D} {ds : List (Str × D)} : Dat K F v d → Datf K F vs ds → Datf K F ((f, v) :: vs) ((f, d) :: ds)
end
section
variable {K : PySem.W.Frag} {F F' H H' : Hp}
theorem _root_.L2.Same.sqt {H H' : Hp} {a : Addr} {xs : List V} (e : Same H H') (h : SqT K H a xs) : SqT K H' a xs :=
  h.imp_left (Or.imp (e _ _) fun ⟨o, x⟩ => ⟨o, e _ _ x⟩)
mutual
theorem Dat.mono (s : Same F F') : ∀ {v : V} {d : D}, Dat K F v d → Dat K F' v d
  | _, _, .v x => .v x
  | _, _, .tup a b => .tup (s.sqt a) (Dats.mono s b)
  | _, _, .lst a b => .lst (s.seq a) (Dats.mono s b)
  | _, _, .ins a b => .ins (s _ _ a) (Datf.mono s b)
  | _, _, .hp a => .hp (s _ _ a)
  | _, _, .ob a => .ob (s _ _ a)
theorem Dats.mono (s : Same F F') : ∀ {vs : List V} {ds : List D}, Dats K F vs ds → Dats K F' vs ds
  | _, _, .nil => .nil
  | _, _, .cons a b => .cons (Dat.mono s a) (Dats.mono s b)
theorem Datf.mono (s : Same F F') : ∀ {vs : List (Str × V)} {ds : List (Str × D)}, Datf K F vs ds → Datf K F' vs ds
  | _, _, .nil => .nil
  | _, _, .cons a b => .cons (Dat.mono s a) (Datf.mono s b)
end
theorem Dat.up {v : V} {d : D} (h : Dat K F v d) (s : Same F F') : Dat K F' v d := Dat.mono s h
theorem Dats.up {v : List V} {d : List D} (h : Dats K F v d) (s : Same F F') : Dats K F' v d := Dats.mono s h
theorem Datf.up {v : List (Str × V)} {d : List (Str × D)} (h : Datf K F v d) (s : Same F F') : Datf K F' v d := Datf.mono s h
theorem Datf.lookup : ∀ {us : List (Str × V)} {fs : List (Str × D)} {f : Str} {d : D}, Datf K F us fs → fs.lookup f = some d → ∃ v, us.lookup f = some v ∧ Dat K F v d
  | _, _, _, _, .nil, e => by simp at e
  | _, _, f, d, .cons (f := g) a b, e => by
    rw [List.lookup_cons] at e ⊢
    by_cases h : f == g
    · rw [h] at e ⊢
      simp at e
      subst e
      exact ⟨_, rfl, a⟩
    · have h : (f == g) = false := by simpa using h
      rw [h] at e ⊢
      exact Datf.lookup b e
theorem Datf.none : ∀ {us : List (Str × V)} {fs : List (Str × D)} {f : Str}, Datf K F us fs → fs.lookup f = none → us.lookup f = none
  | _, _, _, .nil, _ => by simp
  | _, _, f, .cons (f := g) a b, e => by
    rw [List.lookup_cons] at e ⊢
    by_cases h : f == g
    · rw [h] at e; simp at e
    · have h : (f == g) = false := by simpa using h
      rw [h] at e ⊢
      exact Datf.none b e
theorem Dats.length : ∀ {vs : List V} {ds : List D}, Dats K F vs ds → vs.length = ds.length
  | _, _, .nil => rfl
  | _, _, .cons _ b => by rw [List.length_cons, List.length_cons, b.length]
theorem Dats.get : ∀ {vs : List V} {ds : List D} {i : Nat} {d : D}, Dats K F vs ds → ds[i]? = some d → ∃ v, vs[i]? = some v ∧ Dat K F v d
  | _, _, _, _, .nil, e => by simp at e
  | _, _, 0, _, .cons a _, e => by simp at e; subst e; exact ⟨_, rfl, a⟩
  | _, _, i + 1, d, .cons _ b, e => by
    obtain ⟨v, h1, h2⟩ := Dats.get (i := i) (d := d) b (by simpa using e)
    exact ⟨v, by simpa using h1, h2⟩
theorem Dats.append : ∀ {vs ws : List V} {ds es : List D}, Dats K F vs ds → Dats K F ws es → Dats K F (vs ++ ws) (ds ++ es)
  | _, _, _, _, .nil, h => h
  | _, _, _, _, .cons a b, h => .cons a (Dats.append b h)
theorem Dats.set : ∀ {vs : List V} {ds : List D} (i : Nat) {v : V} {d : D}, Dats K F vs ds → Dat K F v d → Dats K F (vs.set i v) (ds.set i d)
  | _, _, _, _, _, .nil, _ => .nil
  | _, _, 0, _, _, .cons _ b, h => .cons h b
  | _, _, i + 1, _, _, .cons a b, h => .cons a (Dats.set i b h)
theorem Dats.take : ∀ {vs : List V} {ds : List D} (n : Nat), Dats K F vs ds → Dats K F (vs.take n) (ds.take n)
  | _, _, 0, _ => .nil
  | _, _, _ + 1, .nil => .nil
  | _, _, n + 1, .cons a b => .cons a (Dats.take n b)
theorem Dats.drop : ∀ {vs : List V} {ds : List D} (n : Nat), Dats K F vs ds → Dats K F (vs.drop n) (ds.drop n)
  | _, _, 0, h => h
  | _, _, _ + 1, .nil => .nil
  | _, _, n + 1, .cons _ b => Dats.drop n b
theorem Dats.reverse : ∀ {vs : List V} {ds : List D}, Dats K F vs ds → Dats K F vs.reverse ds.reverse
  | _, _, .nil => .nil
  | _, _, .cons a b => by rw [List.reverse_cons, List.reverse_cons]; exact (Dats.reverse b).append (.cons a .nil)

/-! ### what is owned -/
structure Own (F H : Hp) (O : List (Addr × HO)) : Prop where
  same : Same F H
  nd : (O.map (·.1)).Nodup
  has : ∀ p ∈ O, F p.1 = none ∧ H p.1 = some p.2
variable {O O' A B : List (Addr × HO)} {p : Addr} {o o' : HO}
theorem Own.sub (h : Own F H O) (s : O'.Sublist O) : Own F H O' := ⟨h.same, h.nd.sublist (s.map _), fun p hp => h.has p (s.subset hp)⟩
theorem Own.perm (h : Own F H O) (s : O.Perm O') : Own F H O' := ⟨h.same, (s.map _).nodup_iff.mp h.nd, fun p hp => h.has p (s.mem_iff.mpr hp)⟩
theorem Own.free (h : Own F H O) (n : H p = none) : F p = none := h.same.free n
theorem Own.new (h : Own F H O) (n : H p = none) : Own F (upd H p o) ((p, o) :: O) where
  same := fun b u e => by rw [upd_ne (ne_of_none (h.same b u e) n)]; exact h.same b u e
  nd := by
    rw [List.map_cons, List.nodup_cons]
    refine ⟨fun hm => ?_, h.nd⟩
    obtain ⟨q, hq, e⟩ := List.mem_map.mp hm
    have := (h.has q hq).2
    rw [e, n] at this; cases this
  has := fun q hq => by
    rcases List.mem_cons.mp hq with rfl | hq
    · exact ⟨h.free n, upd_same⟩
    · obtain ⟨h1, h2⟩ := h.has q hq
      exact ⟨h1, by rw [upd_ne (ne_of_none h2 n)]; exact h2⟩
/-- a new frozen object -/
theorem Own.newF (h : Own F H O) (n : H p = none) : Own (upd F p o) (upd H p o) O ∧ Same F (upd F p o) := by
  refine ⟨⟨fun b u e => ?_, h.nd, fun q hq => ?_⟩, fun b u e => ?_⟩
  · by_cases hb : b = p
    · subst hb; rw [upd_same] at e ⊢; exact e
    · rw [upd_ne hb] at e ⊢; exact h.same b u e
  · obtain ⟨h1, h2⟩ := h.has q hq
    have hne := ne_of_none h2 n
    exact ⟨by rw [upd_ne hne]; exact h1, by rw [upd_ne hne]; exact h2⟩
  · rw [upd_ne (ne_of_none e (h.free n))]; exact e
theorem Own.frz (h : Own F H ((p, o) :: O)) : Own (upd F p o) H O ∧ Same F (upd F p o) := by
  have hp := h.has (p, o) List.mem_cons_self
  have nd := h.nd
  rw [List.map_cons, List.nodup_cons] at nd
  refine ⟨⟨fun b u e => ?_, nd.2, fun q hq => ?_⟩, fun b u e => ?_⟩
  · by_cases hb : b = p
    · subst hb; rw [upd_same] at e; rw [← e]; exact hp.2
    · rw [upd_ne hb] at e; exact h.same b u e
  · obtain ⟨h1, h2⟩ := h.has q (List.mem_cons_of_mem _ hq)
    have hne : q.1 ≠ p := fun e => nd.1 (List.mem_map.mpr ⟨q, hq, e⟩)
    exact ⟨by rw [upd_ne hne]; exact h1, h2⟩
  · rw [upd_ne (ne_of_none e hp.1)]; exact e
theorem Own.put (h : Own F H ((p, o) :: O)) : Own F (upd H p o') ((p, o') :: O) := by
  have hp := h.has (p, o) List.mem_cons_self
  have nd := h.nd
  rw [List.map_cons, List.nodup_cons] at nd
  refine ⟨fun b u e => ?_, by rw [List.map_cons, List.nodup_cons]; exact nd, fun q hq => ?_⟩
  · rw [upd_ne (ne_of_none e hp.1)]; exact h.same b u e
  · rcases List.mem_cons.mp hq with rfl | hq
    · exact ⟨hp.1, upd_same⟩
    · obtain ⟨h1, h2⟩ := h.has q (List.mem_cons_of_mem _ hq)
      have hne : q.1 ≠ p := fun e => nd.1 (List.mem_map.mpr ⟨q, hq, e⟩)
      exact ⟨h1, by rw [upd_ne hne]; exact h2⟩
theorem Own.mid (h : Own F H (A ++ (p, o) :: B)) : Own F H ((p, o) :: (A ++ B)) := h.perm List.perm_middle
theorem Own.unmid (h : Own F H ((p, o) :: (A ++ B))) : Own F H (A ++ (p, o) :: B) := h.perm List.perm_middle.symm
theorem Own.refl (H : Hp) : Own H H [] := ⟨Same.refl H, List.nodup_nil, fun _ h => nomatch h⟩

/-! ### what is owned as a tree; a node may be told by its address -/
inductive T where
  | dat (d : D)
  | lst (a : Option Addr) (ts : List T)
  | ins (a : Option Addr) (C : Addr) (fs : List (Str × T))
  | dK (a : Option Addr) (kvs : List (L2.Key × D))
  | dT (a : Option Addr) (kvs : List (List L2.Key × D))
  | adr (q : Addr)
abbrev Nm (a : Option Addr) (p : Addr) : Prop := ∀ q, a = some q → p = q
inductive Datm (K : PySem.W.Frag) (F : Hp) {κ : Type} : List (κ × V) → List (κ × D) → Prop
  | nil : Datm K F [] []
  | cons {f : κ} {v : V} {vs : List (κ × V)} {d : D} {ds : List (κ × D)} : Dat K F v d → Datm K F vs ds → Datm K F ((f, v) :: vs) ((f, d) :: ds)
theorem Datm.up {κ : Type} (s : Same F F') : ∀ {us : List (κ × V)} {fs : List (κ × D)}, Datm K F us fs → Datm K F' us fs
  | _, _, .nil => .nil
  | _, _, .cons a b => .cons (a.up s) (b.up s)
mutual
inductive TR (K : PySem.W.Frag) (F : Hp) : V → T → List (Addr × HO) → Prop
  | dat {v : V} {d : D} : Dat K F v d → TR K F v (.dat d) []
  | lst {a : Option Addr} {p : Addr} {vs : List V} {ts : List T} {O : List (Addr × HO)} : Nm a p → TRs K F vs ts O → TR K F (.ref p) (.lst a ts) ((p, .lst vs) :: O)
  | ins {a : Option Addr} {p C dx : Addr} {us : List (Str × V)} {fs : List (Str × T)} {O : List (Addr × HO)} : Nm a p → TRf K F us fs O → TR K F (.ref p) (.ins a C fs) ((p, .ins C dx us) :: (dx, .own p) :: O)
  | dK {a : Option Addr} {p : Addr} {us : List (L2.Key × V)} {kvs : List (L2.Key × D)} : Nm a p → Datm K F us kvs → TR K F (.ref p) (.dK a kvs) [(p, .dK us)]
  | dT {a : Option Addr} {p : Addr} {us : List (List L2.Key × V)} {kvs : List (List L2.Key × D)} : Nm a p → Datm K F us kvs → TR K F (.ref p) (.dT a kvs) [(p, .dT us)]
  | adr {q : Addr} : TR K F (.ref q) (.adr q) []
inductive TRs (K : PySem.W.Frag) (F : Hp) : List V → List T → List (Addr × HO) → Prop
  | nil : TRs K F [] [] []
  | cons {v : V} {t : T} {vs : List V} {ts : List T} {O1 O2 : List (Addr × HO)} : TR K F v t O1 → TRs K F vs ts O2 → TRs K F (v :: vs) (t :: ts) (O1 ++ O2)
inductive TRf (K : PySem.W.Frag) (F : Hp) : List (Str × V) → List (Str × T) → List (Addr × HO) → Prop
  | nil : TRf K F [] [] []
  | cons {f : Str} {v : V} {t : T} {vs : List (Str × V)} {ts : List (Str × T)} {O1 O2 : List (Addr × HO)} : TR K F v t O1 → TRf K F vs ts O2 → TRf K F ((f, v) :: vs) ((f, t) :: ts) (O1 ++ O2)
end
mutual
theorem TR.up (s : Same F F') : ∀ {v : V} {t : T} {O : List (Addr × HO)}, TR K F v t O → TR K F' v t O
  | _, _, _, .dat d => .dat (d.up s)
  | _, _, _, .lst n h => .lst n (TRs.up s h)
  | _, _, _, .ins n h => .ins n (TRf.up s h)
  | _, _, _, .dK n h => .dK n (h.up s)
  | _, _, _, .dT n h => .dT n (h.up s)
  | _, _, _, .adr => .adr
theorem TRs.up (s : Same F F') : ∀ {vs : List V} {ts : List T} {O : List (Addr × HO)}, TRs K F vs ts O → TRs K F' vs ts O
  | _, _, _, .nil => .nil
  | _, _, _, .cons a b => .cons (TR.up s a) (TRs.up s b)
theorem TRf.up (s : Same F F') : ∀ {vs : List (Str × V)} {ts : List (Str × T)} {O : List (Addr × HO)}, TRf K F vs ts O → TRf K F' vs ts O
  | _, _, _, .nil => .nil
  | _, _, _, .cons a b => .cons (TR.up s a) (TRf.up s b)
end
/-- a flat list -/
theorem TRs.flat : ∀ {vs : List V} {ds : List D} {O : List (Addr × HO)}, TRs K F vs (ds.map T.dat) O → O = [] ∧ Dats K F vs ds
  | _, [], _, h => by cases h; exact ⟨rfl, .nil⟩
  | _, d :: ds, _, h => by
    cases h with
    | cons a b =>
      cases a with
      | dat a =>
        obtain ⟨e, q⟩ := TRs.flat b
        subst e
        exact ⟨rfl, .cons a q⟩
theorem Dats.tree : ∀ {vs : List V} {ds : List D}, Dats K F vs ds → TRs K F vs (ds.map T.dat) []
  | _, _, .nil => .nil
  | _, _, .cons a b => by
    have h := TRs.cons (TR.dat a) (Dats.tree b)
    exact h

/-! ### items of a list that are lists of its own -/
inductive OD where
  | dat (d : D)
  | own (ds : List D)
def OD.toD : OD → D
  | .dat d => d
  | .own ds => .lst ds
def OD.toT : OD → T
  | .dat d => .dat d
  | .own ds => .lst none (ds.map T.dat)
inductive ODs (K : PySem.W.Frag) (F : Hp) : List V → List OD → List (Addr × HO) → Prop
  | nil : ODs K F [] [] []
  | dat {v : V} {d : D} {vs : List V} {os : List OD} {O : List (Addr × HO)} : Dat K F v d → ODs K F vs os O → ODs K F (v :: vs) (.dat d :: os) O
  | own {p : Addr} {us : List V} {ds : List D} {vs : List V} {os : List OD} {O : List (Addr × HO)} : Dats K F us ds → ODs K F vs os O → ODs K F (.ref p :: vs) (.own ds :: os) ((p, .lst us) :: O)
theorem ODs.up (s : Same F F') : ∀ {vs : List V} {os : List OD} {O : List (Addr × HO)}, ODs K F vs os O → ODs K F' vs os O
  | _, _, _, .nil => .nil
  | _, _, _, .dat d m => .dat (d.up s) (ODs.up s m)
  | _, _, _, .own d m => .own (d.up s) (ODs.up s m)
theorem ODs.length : ∀ {vs : List V} {os : List OD} {O : List (Addr × HO)}, ODs K F vs os O → vs.length = os.length
  | _, _, _, .nil => rfl
  | _, _, _, .dat _ m => by rw [List.length_cons, List.length_cons, m.length]
  | _, _, _, .own _ m => by rw [List.length_cons, List.length_cons, m.length]
theorem ODs.append : ∀ {vs ws : List V} {os ps : List OD} {O O' : List (Addr × HO)}, ODs K F vs os O → ODs K F ws ps O' → ODs K F (vs ++ ws) (os ++ ps) (O ++ O')
  | _, _, _, _, _, _, .nil, h => h
  | _, _, _, _, _, _, .dat d m, h => .dat d (ODs.append m h)
  | _, _, _, _, _, _, .own d m, h => .own d (ODs.append m h)
/-- an item that is an own list: its place, and what may become of it -/
theorem ODs.getO : ∀ {vs : List V} {os : List OD} {O : List (Addr × HO)} {i : Nat} {ds : List D}, ODs K F vs os O → os[i]? = some (.own ds) →
    ∃ p us A B, O = A ++ (p, .lst us) :: B ∧ vs[i]? = some (.ref p) ∧ Dats K F us ds ∧ (∀ F' us' ds', Same F F' → Dats K F' us' ds' → ODs K F' vs (os.set i (.own ds')) (A ++ (p, .lst us') :: B))
  | _, _, _, _, _, .nil, e => by simp at e
  | _, _, _, 0, _, .dat _ _, e => by simp at e
  | _, _, _, 0, _, .own d m, e => by
    simp at e; subst e
    exact ⟨_, _, [], _, rfl, rfl, d, fun F' us' ds' s h => .own h (m.up s)⟩
  | _, _, _, i + 1, ds, .dat d m, e => by
    obtain ⟨p, us, A, B, h1, h2, h3, h4⟩ := ODs.getO (i := i) (ds := ds) m (by simpa using e)
    exact ⟨p, us, A, B, h1, by simpa using h2, h3, fun F' a b s h => .dat (d.up s) (h4 F' a b s h)⟩
  | _, _, _, i + 1, ds, .own (p := q) (us := ws) d m, e => by
    obtain ⟨p, us, A, B, h1, h2, h3, h4⟩ := ODs.getO (i := i) (ds := ds) m (by simpa using e)
    exact ⟨p, us, (q, .lst ws) :: A, B, congrArg (List.cons _) h1, by simpa using h2, h3, fun F' a b s h => .own (d.up s) (h4 F' a b s h)⟩
theorem ODs.tree : ∀ {vs : List V} {os : List OD} {O : List (Addr × HO)}, ODs K F vs os O → TRs K F vs (os.map OD.toT) O
  | _, _, _, .nil => .nil
  | _, _, _, .dat d m => by
    have h := TRs.cons (TR.dat d) (ODs.tree m)
    exact h
  | _, _, _, .own (p := p) d m => by
    have h := TRs.cons (TR.lst (a := none) (p := p) (fun _ z => nomatch z) d.tree) (ODs.tree m)
    exact h
theorem TRs.ods : ∀ {vs : List V} {os : List OD} {O : List (Addr × HO)}, TRs K F vs (os.map OD.toT) O → ODs K F vs os O
  | _, [], _, h => by cases h; exact .nil
  | _, .dat d :: os, _, h => by
    cases h with
    | cons a b =>
      cases a with
      | dat a => exact .dat a (TRs.ods b)
  | _, .own ds :: os, _, h => by
    cases h with
    | cons a b =>
      cases a with
      | lst n a =>
        obtain ⟨e, q⟩ := a.flat
        subst e
        exact .own q (TRs.ods b)
/-! ### the abstract frame -/
inductive Slot where
  | un
  | dat (d : D)
  | tr (t : T)
abbrev Slot.ownN (na : Option Addr) (ds : List D) : Slot := .tr (.lst na (ds.map T.dat))
abbrev Slot.own2N (na : Option Addr) (os : List OD) : Slot := .tr (.lst na (os.map OD.toT))
abbrev Slot.own (ds : List D) : Slot := .ownN none ds
abbrev Slot.own2 (os : List OD) : Slot := .own2N none os
inductive Match (K : PySem.W.Frag) (F : Hp) : L2.St → List Slot → List (Addr × HO) → Prop
  | nil : Match K F [] [] []
  | un {x : Option V} {σ : L2.St} {env : List Slot} {O : List (Addr × HO)} : Match K F σ env O → Match K F (x :: σ) (.un :: env) O
  | dat {v : V} {d : D} {σ : L2.St} {env : List Slot} {O : List (Addr × HO)} : Dat K F v d → Match K F σ env O → Match K F (some v :: σ) (.dat d :: env) O
  | tr {v : V} {t : T} {σ : L2.St} {env : List Slot} {O1 O : List (Addr × HO)} : TR K F v t O1 → Match K F σ env O → Match K F (some v :: σ) (.tr t :: env) (O1 ++ O)
theorem Match.up (s : Same F F') : ∀ {σ : L2.St} {env : List Slot} {O : List (Addr × HO)}, Match K F σ env O → Match K F' σ env O
  | _, _, _, .nil => .nil
  | _, _, _, .un m => .un (Match.up s m)
  | _, _, _, .dat d m => .dat (d.up s) (Match.up s m)
  | _, _, _, .tr d m => .tr (d.up s) (Match.up s m)
theorem Match.get : ∀ {σ : L2.St} {env : List Slot} {O : List (Addr × HO)} {i : Nat} {d : D}, Match K F σ env O → env[i]? = some (.dat d) → ∃ v, σ[i]? = some (some v) ∧ Dat K F v d
  | _, _, _, _, _, .nil, e => by simp at e
  | _, _, _, 0, _, .un _, e => by simp at e
  | _, _, _, 0, _, .dat d _, e => by simp at e; subst e; exact ⟨_, rfl, d⟩
  | _, _, _, 0, _, .tr _ _, e => by simp at e
  | _, _, _, i + 1, d, .un m, e => by
    obtain ⟨v, h1, h2⟩ := Match.get (i := i) (d := d) m (by simpa using e)
    exact ⟨v, by simpa using h1, h2⟩
  | _, _, _, i + 1, d, .dat _ m, e => by
    obtain ⟨v, h1, h2⟩ := Match.get (i := i) (d := d) m (by simpa using e)
    exact ⟨v, by simpa using h1, h2⟩
  | _, _, _, i + 1, d, .tr _ m, e => by
    obtain ⟨v, h1, h2⟩ := Match.get (i := i) (d := d) m (by simpa using e)
    exact ⟨v, by simpa using h1, h2⟩
/-- a datum stored (what the slot owned is let go) -/
theorem Match.set : ∀ {σ : L2.St} {env : List Slot} {O : List (Addr × HO)} (i : Nat) {v : V} {d : D}, Match K F σ env O → Dat K F v d → ∃ O', O'.Sublist O ∧ Match K F (σ.set i (some v)) (env.set i (.dat d)) O'
  | _, _, _, _, _, _, .nil, _ => ⟨[], .slnil, .nil⟩
  | _, _, _, 0, _, _, .un m, h => ⟨_, List.Sublist.refl _, .dat h m⟩
  | _, _, _, 0, _, _, .dat _ m, h => ⟨_, List.Sublist.refl _, .dat h m⟩
  | _, _, _, 0, _, _, .tr _ m, h => ⟨_, List.sublist_append_right _ _, .dat h m⟩
  | _, _, _, i + 1, _, _, .un m, h => let ⟨O', s, q⟩ := Match.set i m h; ⟨O', s, .un q⟩
  | _, _, _, i + 1, _, _, .dat d m, h => let ⟨O', s, q⟩ := Match.set i m h; ⟨O', s, .dat d q⟩
  | _, _, _, i + 1, _, _, .tr d m, h => let ⟨O', s, q⟩ := Match.set i m h; ⟨_, (List.Sublist.refl _).append s, .tr d q⟩
/-- a tree stored -/
theorem Match.putT : ∀ {σ : L2.St} {env : List Slot} {O : List (Addr × HO)} (i : Nat) {v : V} {t : T} {O1 : List (Addr × HO)}, Match K F σ env O → TR K F v t O1 → i < env.length →
    ∃ A B O', O = A ++ O' ∧ B.Sublist O' ∧ Match K F (σ.set i (some v)) (env.set i (.tr t)) (A ++ (O1 ++ B))
  | _, _, _, _, _, _, _, .nil, _, hl => absurd hl (by simp)
  | _, _, _, 0, _, _, _, .un m, h, _ => ⟨[], _, _, rfl, List.Sublist.refl _, by have z := Match.tr h m; exact z⟩
  | _, _, _, 0, _, _, _, .dat _ m, h, _ => ⟨[], _, _, rfl, List.Sublist.refl _, by have z := Match.tr h m; exact z⟩
  | _, _, _, 0, _, _, _, .tr _ m, h, _ => ⟨[], _, _, rfl, List.sublist_append_right _ _, by have z := Match.tr h m; exact z⟩
  | _, _, _, i + 1, _, _, _, .un m, h, hl => let ⟨A, B, O', e, s, q⟩ := Match.putT i m h (by simpa using hl); ⟨A, B, O', e, s, .un q⟩
  | _, _, _, i + 1, _, _, _, .dat d m, h, hl => let ⟨A, B, O', e, s, q⟩ := Match.putT i m h (by simpa using hl); ⟨A, B, O', e, s, .dat d q⟩
  | _, _, _, i + 1, _, _, _, .tr (O1 := P) d m, h, hl => by
    obtain ⟨A, B, O', e, s, q⟩ := Match.putT i m h (by simpa using hl)
    refine ⟨P ++ A, B, O', by rw [e, List.append_assoc], s, ?_⟩
    rw [List.append_assoc]
    exact .tr d q
/-- a tree: what it owns, and what may become of it -/
theorem Match.getT : ∀ {σ : L2.St} {env : List Slot} {O : List (Addr × HO)} {i : Nat} {t : T}, Match K F σ env O → env[i]? = some (.tr t) →
    ∃ v O1 A B, O = A ++ (O1 ++ B) ∧ σ[i]? = some (some v) ∧ TR K F v t O1 ∧
      (∀ F' t' O1', Same F F' → TR K F' v t' O1' → Match K F' σ (env.set i (.tr t')) (A ++ (O1' ++ B))) ∧
      (∀ F' d, Same F F' → Dat K F' v d → Match K F' σ (env.set i (.dat d)) (A ++ B)) ∧
      (∀ F', Same F F' → Match K F' σ (env.set i .un) (A ++ B))
  | _, _, _, _, _, .nil, e => by simp at e
  | _, _, _, 0, _, .un _, e => by simp at e
  | _, _, _, 0, _, .dat d _, e => by simp at e
  | _, _, _, 0, _, .tr d m, e => by
    simp at e; subst e
    exact ⟨_, _, [], _, rfl, rfl, d, fun F' t' O1' s h => by have z := Match.tr h (m.up s); exact z, fun F' d s h => .dat h (m.up s), fun F' s => .un (m.up s)⟩
  | _, _, _, i + 1, t, .un m, e => by
    obtain ⟨v, O1, A, B, h1, h2, h3, h4, h5, h6⟩ := Match.getT (i := i) (t := t) m (by simpa using e)
    exact ⟨v, O1, A, B, h1, by simpa using h2, h3, fun F' a b s h => .un (h4 F' a b s h), fun F' a s h => .un (h5 F' a s h), fun F' s => .un (h6 F' s)⟩
  | _, _, _, i + 1, t, .dat d m, e => by
    obtain ⟨v, O1, A, B, h1, h2, h3, h4, h5, h6⟩ := Match.getT (i := i) (t := t) m (by simpa using e)
    exact ⟨v, O1, A, B, h1, by simpa using h2, h3, fun F' a b s h => .dat (d.up s) (h4 F' a b s h), fun F' a s h => .dat (d.up s) (h5 F' a s h), fun F' s => .dat (d.up s) (h6 F' s)⟩
  | _, _, _, i + 1, t, .tr (O1 := P) d m, e => by
    obtain ⟨v, O1, A, B, h1, h2, h3, h4, h5, h6⟩ := Match.getT (i := i) (t := t) m (by simpa using e)
    refine ⟨v, O1, P ++ A, B, by rw [h1, List.append_assoc], by simpa using h2, h3, fun F' a b s h => ?_, fun F' a s h => ?_, fun F' s => ?_⟩
    · rw [List.append_assoc]; exact .tr (d.up s) (h4 F' a b s h)
    · rw [List.append_assoc]; exact .tr (d.up s) (h5 F' a s h)
    · rw [List.append_assoc]; exact .tr (d.up s) (h6 F' s)
theorem Match.put {σ : L2.St} {env : List Slot} {O : List (Addr × HO)} (i : Nat) {p : Addr} {vs : List V} {ds : List D} (m : Match K F σ env O) (h : Dats K F vs ds) (hl : i < env.length) :
    ∃ A B O', O = A ++ O' ∧ B.Sublist O' ∧ Match K F (σ.set i (some (.ref p))) (env.set i (.own ds)) (A ++ (p, .lst vs) :: B) :=
  m.putT i (.lst (a := none) (fun _ z => nomatch z) h.tree) hl
/-- an own list: its place, and what may become of it -/
theorem Match.getO {σ : L2.St} {env : List Slot} {O : List (Addr × HO)} {i : Nat} {ds : List D} {na : Option Addr} (m : Match K F σ env O) (e : env[i]? = some (.ownN na ds)) :
    ∃ p vs A B, O = A ++ (p, .lst vs) :: B ∧ σ[i]? = some (some (.ref p)) ∧ Dats K F vs ds ∧
      (∀ F' vs' ds', Same F F' → Dats K F' vs' ds' → Match K F' σ (env.set i (.ownN na ds')) (A ++ (p, .lst vs') :: B)) ∧
      (∀ F' d, Same F F' → Dat K F' (.ref p) d → Match K F' σ (env.set i (.dat d)) (A ++ B)) := by
  obtain ⟨v, O1, A, B, h1, h2, h3, h4, h5, _⟩ := m.getT e
  cases h3 with
  | lst n h3 =>
    obtain ⟨e1, q⟩ := h3.flat
    subst e1
    exact ⟨_, _, A, B, h1, h2, q, fun F' vs' ds' s h => h4 F' _ _ s (.lst n h.tree), h5⟩
/-- slots forgotten -/
inductive Wk : List Slot → List Slot → Prop
  | nil : Wk [] []
  | un {a : Slot} {e e' : List Slot} : Wk e e' → Wk (a :: e) (.un :: e')
  | eq {a : Slot} {e e' : List Slot} : Wk e e' → Wk (a :: e) (a :: e')
theorem Wk.refl : ∀ e : List Slot, Wk e e
  | [] => .nil
  | _ :: e => .eq (Wk.refl e)
theorem Match.weak : ∀ {σ : L2.St} {env env' : List Slot} {O : List (Addr × HO)}, Match K F σ env O → Wk env env' → ∃ O', O'.Sublist O ∧ Match K F σ env' O'
  | _, _, _, _, .nil, .nil => ⟨[], .slnil, .nil⟩
  | _, _, _, _, .un m, .un w => let ⟨O', s, q⟩ := Match.weak m w; ⟨O', s, .un q⟩
  | _, _, _, _, .un m, .eq w => let ⟨O', s, q⟩ := Match.weak m w; ⟨O', s, .un q⟩
  | _, _, _, _, .dat d m, .un w => let ⟨O', s, q⟩ := Match.weak m w; ⟨O', s, .un q⟩
  | _, _, _, _, .dat d m, .eq w => let ⟨O', s, q⟩ := Match.weak m w; ⟨O', s, .dat d q⟩
  | _, _, _, _, .tr (O1 := O1) d m, .un w => let ⟨O', s, q⟩ := Match.weak m w; ⟨O', s.trans (List.sublist_append_right O1 _), .un q⟩
  | _, _, _, _, .tr d m, .eq w => let ⟨O', s, q⟩ := Match.weak m w; ⟨_, (List.Sublist.refl _).append s, .tr d q⟩
/-- an own list of own lists: its place, and what may become of it -/
theorem Match.getO2 {σ : L2.St} {env : List Slot} {O : List (Addr × HO)} {i : Nat} {os : List OD} {na : Option Addr} (m : Match K F σ env O) (e : env[i]? = some (.own2N na os)) :
    ∃ p vs O1 A B, O = A ++ (p, .lst vs) :: (O1 ++ B) ∧ σ[i]? = some (some (.ref p)) ∧ ODs K F vs os O1 ∧
      (∀ F' vs' os' O1', Same F F' → ODs K F' vs' os' O1' → Match K F' σ (env.set i (.own2N na os')) (A ++ (p, .lst vs') :: (O1' ++ B))) ∧
      (∀ F' d, Same F F' → Dat K F' (.ref p) d → Match K F' σ (env.set i (.dat d)) (A ++ B)) := by
  obtain ⟨v, O1, A, B, h1, h2, h3, h4, h5, _⟩ := m.getT e
  cases h3 with
  | lst n h3 => exact ⟨_, _, _, A, B, h1, h2, h3.ods, fun F' vs' os' O1' s h => h4 F' _ _ s (.lst n h.tree), h5⟩
/-- a new own list of own lists stored -/
theorem Match.put2 {σ : L2.St} {env : List Slot} {O : List (Addr × HO)} (i : Nat) {p : Addr} {vs : List V} {os : List OD} {O1 : List (Addr × HO)} (m : Match K F σ env O) (h : ODs K F vs os O1) (hl : i < env.length) :
    ∃ A B O', O = A ++ O' ∧ B.Sublist O' ∧ Match K F (σ.set i (some (.ref p))) (env.set i (.own2 os)) (A ++ (p, .lst vs) :: (O1 ++ B)) :=
  m.putT i (.lst (a := none) (fun _ z => nomatch z) h.tree) hl
end
end Pg

set_option Elab.async false
set_option linter.all false
set_option maxRecDepth 100000
namespace Pg
open PySem PySem.Spec PyProof.Rows L2

/-! ### readings evaluate to data -/
section
variable (K : PySem.W.Frag)
/-- the expression's reading gives the datum d -/
def EV (t : TE) (env : List Slot) (d : D) : Prop := ∀ (σ : L2.St) (F H : Hp) (A O : List (Addr × HO)), Match K F σ env A → Own F H (A ++ O) → ∀ Q : VK,
  (∀ v F' H', Same F F' → Own F' H' (A ++ O) → Dat K F' v d → Q v H') → t σ H Q
def ET (t : TT) (env : List Slot) (b : Bool) : Prop := ∀ (σ : L2.St) (F H : Hp) (A O : List (Addr × HO)), Match K F σ env A → Own F H (A ++ O) → ∀ Q : Bool → Hp → Prop,
  (∀ F' H', Same F F' → Own F' H' (A ++ O) → Q b H') → t σ H Q
def EA (t : TA) (env : List Slot) (ds : List D) : Prop := ∀ (σ : L2.St) (F H : Hp) (A O : List (Addr × HO)), Match K F σ env A → Own F H (A ++ O) → ∀ Q : List V → Hp → Prop,
  (∀ vs F' H', Same F F' → Own F' H' (A ++ O) → Dats K F' vs ds → Q vs H') → t σ H Q
/-- a new list of these items, owned -/
def EN (t : TE) (env : List Slot) (ds : List D) : Prop := ∀ (σ : L2.St) (F H : Hp) (A O : List (Addr × HO)), Match K F σ env A → Own F H (A ++ O) → ∀ Q : VK,
  (∀ p vs F' H', Same F F' → Own F' H' ((p, .lst vs) :: (A ++ O)) → Dats K F' vs ds → Q (.ref p) H') → t σ H Q
def EO (t : TO) (env : List Slot) (o : Option Int) : Prop := ∀ (σ : L2.St) (F H : Hp) (A O : List (Addr × HO)), Match K F σ env A → Own F H (A ++ O) → ∀ Q : Option Int → Hp → Prop,
  (∀ F' H', Same F F' → Own F' H' (A ++ O) → Q o H') → t σ H Q
end
section
variable {K : PySem.W.Frag} {na : Option Addr} {env : List Slot} {t ta tb : TE} {tt tu : TT} {d e : D} {ds es : List D} {i j : Int}
theorem EV.frz (h : EN K t env ds) : EV K t env (.lst ds) := fun σ F H A O m w Q q => h σ F H A O m w Q fun p vs F' H' s w' dd => by
  obtain ⟨w2, s2⟩ := w'.frz
  exact q _ _ _ (s.trans s2) w2 (.lst (.of upd_same) (dd.up s2))
theorem ev_cast {α : Type} {r : α → D} {a b : α} (h : R.ok a = R.ok b) (x : EV K t env (r a)) : EV K t env (r b) := by rw [← R.ok_inj h]; exact x
theorem et_cast {a b : Bool} (h : R.ok a = R.ok b) (x : ET K tt env a) : ET K tt env b := by rw [← R.ok_inj h]; exact x
theorem en_cast {α : Type} {r : α → D} {a b : List α} (h : R.ok a = R.ok b) (x : EN K t env (a.map r)) : EN K t env (b.map r) := by rw [← R.ok_inj h]; exact x
theorem ev_eq (h : d = e) (x : EV K t env d) : EV K t env e := h ▸ x
theorem ev_var {i : Nat} (h : env[i]? = some (.dat d)) : EV K (tVar i) env d := fun σ F H A O m w Q q => by
  obtain ⟨v, h1, h2⟩ := m.get h
  exact ⟨v, h1, q v F H (Same.refl F) w h2⟩
theorem ev_c (x : V) : EV K (tC x) env (.v x) := fun σ F H A O m w Q q => q x F H (Same.refl F) w (.v x)
theorem ev_k {x : V} (h : ∀ F, Dat K F x d) : EV K (tC x) env d := fun σ F H A O m w Q q => q x F H (Same.refl F) w (h F)
theorem Dat.int {F : Hp} {v : V} (h : Dat K F v (dI i)) : v = .int i := by cases h; rfl
theorem Dat.bl {F : Hp} {v : V} {b : Bool} (h : Dat K F v (dB b)) : v = .bl b := by cases h; rfl
theorem Dat.scl {F : Hp} {v x : V} (h : Dat K F v (.v x)) : v = x := by cases h; rfl
/-- two parts, one behind the other -/
theorem ev_two (ha : EV K ta env d) (hb : EV K tb env e) {σ : L2.St} {F H : Hp} {A O : List (Addr × HO)} (m : Match K F σ env A) (w : Own F H (A ++ O)) {k : V → V → Hp → Prop}
    (q : ∀ x y F' H', Same F F' → Own F' H' (A ++ O) → Dat K F' x d → Dat K F' y e → k x y H') : ta σ H fun x H1 => tb σ H1 fun y H2 => k x y H2 :=
  ha σ F H A O m w _ fun x F1 H1 s1 w1 d1 => hb σ F1 H1 A O (m.up s1) w1 _ fun y F2 H2 s2 w2 d2 => q x y F2 H2 (s1.trans s2) w2 (d1.up s2) d2
theorem ev_i0 {g : Int → Int → V} (ha : EV K ta env (dI i)) (hb : EV K tb env (dI j)) : EV K (tOp (rI0 g) ta tb) env (.v (g i j)) := fun σ F H A O m w Q q =>
  ev_two ha hb m w fun x y F' H' s w' d1 d2 => ⟨i, j, d1.int, d2.int, q _ F' H' s w' (.v _)⟩
theorem ev_iC {C : Int → Int → Prop} {g : Int → Int → V} (hc : C i j) (ha : EV K ta env (dI i)) (hb : EV K tb env (dI j)) : EV K (tOp (rI C g) ta tb) env (.v (g i j)) := fun σ F H A O m w Q q =>
  ev_two ha hb m w fun x y F' H' s w' d1 d2 => ⟨i, j, d1.int, d2.int, hc, q _ F' H' s w' (.v _)⟩
theorem ev_u {g : Int → V} (ha : EV K ta env (dI i)) : EV K (tUn (rU g) ta) env (.v (g i)) := fun σ F H A O m w Q q =>
  ha σ F H A O m w _ fun x F' H' s w' d1 => ⟨i, d1.int, q _ F' H' s w' (.v _)⟩
theorem dec_V {α : Type} [DecidableEq α] {f : α → V} (hf : ∀ a b, f a = f b → a = b) (a b : α) : decide (f a = f b) = decide (a = b) := by
  by_cases h : a = b
  · subst h; simp
  · rw [decide_eq_false h, decide_eq_false (fun z => h (hf _ _ z))]
theorem ev_eqI (ha : EV K ta env (dI i)) (hb : EV K tb env (dI j)) : EV K (tOp rEq ta tb) env (dB (decide (i = j))) := fun σ F H A O m w Q q =>
  ev_two ha hb m w fun x y F' H' s w' d1 d2 => by
    rw [d1.int, d2.int]
    exact ⟨rfl, by rw [dec_V (f := V.int) (fun _ _ z => V.int.inj z)]; exact q _ F' H' s w' (.v _)⟩
theorem ev_neI (ha : EV K ta env (dI i)) (hb : EV K tb env (dI j)) : EV K (tOp rNe ta tb) env (dB (!decide (i = j))) := fun σ F H A O m w Q q =>
  ev_two ha hb m w fun x y F' H' s w' d1 d2 => by
    rw [d1.int, d2.int]
    exact ⟨rfl, by rw [dec_V (f := V.int) (fun _ _ z => V.int.inj z)]; exact q _ F' H' s w' (.v _)⟩
theorem ev_eqS {x y : Str} (ha : EV K ta env (dS x)) (hb : EV K tb env (dS y)) : EV K (tOp rEq ta tb) env (dB (decide (x = y))) := fun σ F H A O m w Q q =>
  ev_two ha hb m w fun x y F' H' s w' d1 d2 => by
    rw [d1.scl, d2.scl]
    exact ⟨rfl, by rw [dec_V (f := V.str) (fun _ _ z => V.str.inj z)]; exact q _ F' H' s w' (.v _)⟩
theorem ev_neS {x y : Str} (ha : EV K ta env (dS x)) (hb : EV K tb env (dS y)) : EV K (tOp rNe ta tb) env (dB (!decide (x = y))) := fun σ F H A O m w Q q =>
  ev_two ha hb m w fun x y F' H' s w' d1 d2 => by
    rw [d1.scl, d2.scl]
    exact ⟨rfl, by rw [dec_V (f := V.str) (fun _ _ z => V.str.inj z)]; exact q _ F' H' s w' (.v _)⟩
theorem ev_eqB {x y : Bool} (ha : EV K ta env (dB x)) (hb : EV K tb env (dB y)) : EV K (tOp rEq ta tb) env (dB (decide (x = y))) := fun σ F H A O m w Q q =>
  ev_two ha hb m w fun x y F' H' s w' d1 d2 => by
    rw [d1.scl, d2.scl]
    exact ⟨rfl, by rw [dec_V (f := V.bl) (fun _ _ z => V.bl.inj z)]; exact q _ F' H' s w' (.v _)⟩
theorem ev_neB {x y : Bool} (ha : EV K ta env (dB x)) (hb : EV K tb env (dB y)) : EV K (tOp rNe ta tb) env (dB (!decide (x = y))) := fun σ F H A O m w Q q =>
  ev_two ha hb m w fun x y F' H' s w' d1 d2 => by
    rw [d1.scl, d2.scl]
    exact ⟨rfl, by rw [dec_V (f := V.bl) (fun _ _ z => V.bl.inj z)]; exact q _ F' H' s w' (.v _)⟩

/-! ### tests -/
theorem et_test {b : Bool} (h : EV K t env (dB b)) : ET K (tTest t) env b := fun σ F H A O m w Q q => h σ F H A O m w _ fun v F' H' s w' d => ⟨b, d.bl, q F' H' s w'⟩
theorem et_b {b : Bool} (h : EV K t env (dB b)) : ET K (tB t) env b := fun σ F H A O m w Q q => h σ F H A O m w _ fun v F' H' s w' d => ⟨b, d.bl, q F' H' s w'⟩
theorem et_not {b : Bool} (h : ET K tt env b) : ET K (tNot tt) env (!b) := fun σ F H A O m w Q q => h σ F H A O m w _ fun F' H' s w' => q F' H' s w'
theorem et_and {b c : Bool} (h : ET K tt env b) (h2 : b = true → ET K tu env c) : ET K (tAnd tt tu) env (b && c) := fun σ F H A O m w Q q => h σ F H A O m w _ fun F' H' s w' => by
  cases b with
  | false => exact iteF (q F' H' s w')
  | true => exact iteT (h2 rfl σ F' H' A O (m.up s) w' _ fun F2 H2 s2 w2 => q F2 H2 (s.trans s2) w2)
theorem et_or {b c : Bool} (h : ET K tt env b) (h2 : b = false → ET K tu env c) : ET K (tOr tt tu) env (b || c) := fun σ F H A O m w Q q => h σ F H A O m w _ fun F' H' s w' => by
  cases b with
  | true => exact iteT (q F' H' s w')
  | false => exact iteF (h2 rfl σ F' H' A O (m.up s) w' _ fun F2 H2 s2 w2 => q F2 H2 (s.trans s2) w2)
theorem et_andR {b c : Bool} {x : R Bool} (e : R.andR b x = .ok c) (h : ET K tt env b) (h2 : b = true → x = .ok c → ET K tu env c) : ET K (tAnd tt tu) env c := by
  cases b with
  | false => rw [← R.ok_inj (show R.ok false = R.ok c from e)]; exact et_and (c := c) h fun z => nomatch z
  | true => exact et_and (c := c) h fun _ => h2 rfl e
theorem et_orR {b c : Bool} {x : R Bool} (e : R.orR b x = .ok c) (h : ET K tt env b) (h2 : b = false → x = .ok c → ET K tu env c) : ET K (tOr tt tu) env c := by
  cases b with
  | true => rw [← R.ok_inj (show R.ok true = R.ok c from e)]; exact et_or (c := c) h fun z => nomatch z
  | false => exact et_or (c := c) h fun _ => h2 rfl e
theorem ev_notV {b : Bool} (h : EV K t env (dB b)) : EV K (tNotV t) env (dB (!b)) := fun σ F H A O m w Q q => h σ F H A O m w _ fun v F' H' s w' d => ⟨b, d.bl, q _ F' H' s w' (.v _)⟩
theorem ev_andV {b c : Bool} (h : EV K ta env (dB b)) (h2 : b = true → EV K tb env (dB c)) : EV K (tAndV ta tb) env (dB (b && c)) := fun σ F H A O m w Q q => h σ F H A O m w _ fun v F' H' s w' d => by
  refine ⟨b, d.bl, ?_⟩
  cases b with
  | false => exact iteF (q _ F' H' s w' (.v _))
  | true => exact iteT (h2 rfl σ F' H' A O (m.up s) w' _ fun v F2 H2 s2 w2 d2 => q v F2 H2 (s.trans s2) w2 d2)
theorem ev_orV {b c : Bool} (h : EV K ta env (dB b)) (h2 : b = false → EV K tb env (dB c)) : EV K (tOrV ta tb) env (dB (b || c)) := fun σ F H A O m w Q q => h σ F H A O m w _ fun v F' H' s w' d => by
  refine ⟨b, d.bl, ?_⟩
  cases b with
  | true => exact iteT (q _ F' H' s w' (.v _))
  | false => exact iteF (h2 rfl σ F' H' A O (m.up s) w' _ fun v F2 H2 s2 w2 d2 => q v F2 H2 (s.trans s2) w2 d2)
theorem ev_andVR {b c : Bool} {x : R Bool} (e : R.andR b x = .ok c) (h : EV K ta env (dB b)) (h2 : b = true → x = .ok c → EV K tb env (dB c)) : EV K (tAndV ta tb) env (dB c) := by
  cases b with
  | false => rw [← R.ok_inj (show R.ok false = R.ok c from e)]; exact ev_andV (c := c) h fun z => nomatch z
  | true => exact ev_andV (c := c) h fun _ => h2 rfl e
theorem ev_orVR {b c : Bool} {x : R Bool} (e : R.orR b x = .ok c) (h : EV K ta env (dB b)) (h2 : b = false → x = .ok c → EV K tb env (dB c)) : EV K (tOrV ta tb) env (dB c) := by
  cases b with
  | true => rw [← R.ok_inj (show R.ok true = R.ok c from e)]; exact ev_orV (c := c) h fun z => nomatch z
  | false => exact ev_orV (c := c) h fun _ => h2 rfl e
theorem ev_if {α : Type} {r : α → D} {c : Bool} {x y : α} (h : ET K tt env c) (h1 : c = true → EV K ta env (r x)) (h2 : c = false → EV K tb env (r y)) : EV K (tIf tt ta tb) env (r (if c = true then x else y)) := fun σ F H A O m w Q q => h σ F H A O m w _ fun F' H' s w' => by
  cases c with
  | true => exact iteT (h1 rfl σ F' H' A O (m.up s) w' _ fun v F2 H2 s2 w2 d2 => q v F2 H2 (s.trans s2) w2 (by rw [if_pos rfl]; exact d2))
  | false => exact iteF (h2 rfl σ F' H' A O (m.up s) w' _ fun v F2 H2 s2 w2 d2 => q v F2 H2 (s.trans s2) w2 (by rw [if_neg (by decide)]; exact d2))
/-- a chain of two comparisons of whole numbers -/
theorem ev_chain {tc : TE} {k : Int} {p p' : Int → Int → Bool} (ha : EV K ta env (dI i)) (hb : EV K tb env (dI j)) (hc : p i j = true → EV K tc env (dI k)) :
    EV K (tChain (rI0 fun i j => .bl (p i j)) (rI0 fun i j => .bl (p' i j)) ta tb tc) env (dB (p i j && p' j k)) := fun σ F H A O m w Q q =>
  ev_two ha hb m w fun x y F' H' s w' d1 d2 => by
    refine ⟨i, j, d1.int, d2.int, p i j, rfl, ?_⟩
    cases hp : p i j with
    | false => exact iteF (q _ F' H' s w' (by rw [hp]; exact .v _))
    | true => exact iteT (hc hp σ F' H' A O (m.up s) w' _ fun v F2 H2 s2 w2 d3 => ⟨j, k, d2.int, d3.int, q _ F2 H2 (s.trans s2) w2 (by rw [hp]; exact .v _)⟩)

/-! ### arguments, displays -/
theorem ea_nil : EA K tNil env [] := fun σ F H A O m w Q q => q [] F H (Same.refl F) w .nil
theorem ea_cons {tr : TA} (h : EV K t env d) (hr : EA K tr env ds) : EA K (tCons t tr) env (d :: ds) := fun σ F H A O m w Q q =>
  h σ F H A O m w _ fun v F1 H1 s1 w1 d1 => hr σ F1 H1 A O (m.up s1) w1 _ fun vs F2 H2 s2 w2 d2 => q _ F2 H2 (s1.trans s2) w2 (.cons (d1.up s2) d2)
theorem ev_tup {t : TA} (h : EA K t env ds) (hl : ds.length ≤ sizeLine := by first | exact Nat.le_of_ble_eq_true rfl | decide) : EV K (tTup t) env (.tup ds) := fun σ F H A O m w Q q =>
  h σ F H A O m w _ fun vs F1 H1 s1 w1 d1 => ⟨by rw [d1.length]; exact hl, fun p n => by
    obtain ⟨w2, s2⟩ := w1.newF (o := .tup vs) n
    exact q _ _ _ (s1.trans s2) w2 (.tup (.of upd_same) (d1.up s2))⟩
theorem en_lst {t : TA} (h : EA K t env ds) (hl : ds.length ≤ sizeLine := by first | exact Nat.le_of_ble_eq_true rfl | decide) : EN K (tLst t) env ds := fun σ F H A O m w Q q =>
  h σ F H A O m w _ fun vs F1 H1 s1 w1 d1 => ⟨by rw [d1.length]; exact hl, fun p n => q p vs F1 _ s1 (w1.new n) d1⟩

/-! ### items, lengths -/
theorem ixP_some {n : Nat} {i : Int} {k : Nat} (h : ixP n i = some k) : k < n ∧ ((0 ≤ i ∧ i = (k : Int)) ∨ (i < 0 ∧ i + n = (k : Int))) := by
  unfold ixP at h
  split at h
  · split at h
    · injection h with h; omega
    · cases h
  · split at h
    · injection h with h; omega
    · cases h
theorem ixP_ixN (n : Nat) (i : Int) : ixP n i = ixN n i := by
  unfold ixP ixN
  split
  · rfl
  · by_cases h : 0 ≤ i + n
    · rw [if_pos h, if_pos (by omega)]
    · rw [if_neg h, if_neg (by omega)]
theorem atI_ixP {xs : List V} {i : Int} {k : Nat} {v : V} (h : ixP xs.length i = some k) (e : xs[k]? = some v) : atI xs i = some v := by
  unfold atI
  rw [← ixP_ixN, h]
  exact e
theorem atR_some {α : Type} {xs : List α} {i : Int} {x : α} (h : atR xs i = .ok x) : ∃ k, ixP xs.length i = some k ∧ xs[k]? = some x := by
  unfold atR at h
  cases e : ixP xs.length i with
  | none => rw [e] at h; cases h
  | some k =>
    rw [e] at h
    cases e2 : xs[k]? with
    | none => simp only [e2] at h; cases h
    | some y => simp only [e2] at h; exact ⟨k, rfl, by rw [e2, R.ok_inj h]⟩
theorem Dats.atI {F : Hp} {vs : List V} {ds : List D} {i : Int} {k : Nat} {d : D} (h : Dats K F vs ds) (h1 : ixP ds.length i = some k) (h2 : ds[k]? = some d) : ∃ v, L2.atI vs i = some v ∧ Dat K F v d := by
  obtain ⟨v, e, q⟩ := h.get h2
  exact ⟨v, atI_ixP (by rw [h.length]; exact h1) e, q⟩
theorem ev_ixT {i : Int} {k : Nat} (ha : EV K ta env (.tup ds)) (hb : EV K tb env (dI i)) (h1 : ixP ds.length i = some k) (h2 : ds[k]? = some d) : EV K (tOp (rIxT K) ta tb) env d := fun σ F H A O m w Q q =>
  ev_two ha hb m w fun x y F' H' s w' d1 d2 => by
    cases d1 with
    | tup a b =>
      obtain ⟨v, e, dv⟩ := b.atI h1 h2
      exact ⟨_, _, i, v, rfl, d2.int, w'.same.sqt a, e, q _ F' H' s w' dv⟩
theorem ev_ixL {i : Int} {k : Nat} (ha : EV K ta env (.lst ds)) (hb : EV K tb env (dI i)) (h1 : ixP ds.length i = some k) (h2 : ds[k]? = some d) : EV K (tOp (rIxL K) ta tb) env d := fun σ F H A O m w Q q =>
  ev_two ha hb m w fun x y F' H' s w' d1 d2 => by
    cases d1 with
    | lst a b =>
      obtain ⟨v, e, dv⟩ := b.atI h1 h2
      exact ⟨_, _, i, v, rfl, d2.int, w'.same.seq a, e, q _ F' H' s w' dv⟩
theorem map_at {α : Type} {r : α → D} {xs : List α} {i : Int} {x : α} (h : atR xs i = .ok x) : ∃ k, ixP (xs.map r).length i = some k ∧ (xs.map r)[k]? = some (r x) := by
  obtain ⟨k, h1, h2⟩ := atR_some h
  exact ⟨k, by rw [List.length_map]; exact h1, by rw [List.getElem?_map, h2]; rfl⟩
theorem ev_atL {α : Type} {r : α → D} {xs : List α} {x : α} (h : atR xs i = .ok x) (ha : EV K ta env (.lst (xs.map r))) (hb : EV K tb env (dI i)) : EV K (tOp (rIxL K) ta tb) env (r x) :=
  let ⟨k, h1, h2⟩ := map_at (r := r) h; ev_ixL ha hb h1 h2
theorem ev_atT {α : Type} {r : α → D} {xs : List α} {x : α} (h : atR xs i = .ok x) (ha : EV K ta env (.tup (xs.map r))) (hb : EV K tb env (dI i)) : EV K (tOp (rIxT K) ta tb) env (r x) :=
  let ⟨k, h1, h2⟩ := map_at (r := r) h; ev_ixT ha hb h1 h2
/-- an own list's item -/
theorem ev_atO {α : Type} {r : α → D} {xs : List α} {x : α} {n : Nat} (h : atR xs i = .ok x) (ha : env[n]? = some (.ownN na (xs.map r))) (hb : EV K tb env (dI i)) : EV K (tOp (rIxL K) (tVar n) tb) env (r x) := fun σ F H A O m w Q q => by
  obtain ⟨p, vs, A1, A2, e, h1, h2, _, _⟩ := m.getO ha
  refine ⟨_, h1, hb σ F H A O m w _ fun y F' H' s w' d2 => ?_⟩
  obtain ⟨k, g1, g2⟩ := map_at (r := r) h
  obtain ⟨v, e2, dv⟩ := (h2.up s).atI g1 g2
  have hp := (w'.has (p, .lst vs) (by rw [e]; simp)).2
  exact ⟨p, vs, i, v, rfl, d2.int, .of hp, e2, q v F' H' s w' dv⟩
def rLenP (K : PySem.W.Frag) : List V → Hp → VK → Prop := fun xs H Q => ∃ x n, xs = [x] ∧ LenV K x H n ∧ Q (.int n) H
theorem ev_lenL (ha : EV K ta env (.lst ds)) : EV K (tCB (rLenP K) (tCons ta tNil)) env (dI (ds.length : Nat)) := fun σ F H A O m w Q q =>
  ha σ F H A O m w _ fun v F' H' s w' d1 => by
    cases d1 with
    | lst a b => exact ⟨_, ds.length, rfl, .inl ⟨_, w'.same.seq a, b.length.symm⟩, q _ F' H' s w' (.v _)⟩
theorem ev_lenT (ha : EV K ta env (.tup ds)) : EV K (tCB (rLenP K) (tCons ta tNil)) env (dI (ds.length : Nat)) := fun σ F H A O m w Q q =>
  ha σ F H A O m w _ fun v F' H' s w' d1 => by
    cases d1 with
    | tup a b => exact ⟨_, ds.length, rfl, .inr ⟨_, w'.same.sqt a, b.length.symm⟩, q _ F' H' s w' (.v _)⟩
theorem ev_lenO {n : Nat} (ha : env[n]? = some (.ownN na ds)) : EV K (tCB (rLenP K) (tCons (tVar n) tNil)) env (dI (ds.length : Nat)) := fun σ F H A O m w Q q => by
  obtain ⟨p, vs, A1, A2, e, h1, h2, _, _⟩ := m.getO ha
  have hp := (w.has (p, .lst vs) (by rw [e]; simp)).2
  exact ⟨_, h1, _, ds.length, rfl, .inl ⟨_, .of hp, h2.length.symm⟩, q _ F H (Same.refl F) w (.v _)⟩
theorem ev_lenS {x : Str} (hx : x.length ≤ sizeLine) (ha : EV K ta env (dS x)) : EV K (tCB (rLenP K) (tCons ta tNil)) env (dI (x.length : Nat)) := fun σ F H A O m w Q q =>
  ha σ F H A O m w _ fun v F' H' s w' d1 => by
    rw [d1.scl]
    exact ⟨_, x.length, rfl, ⟨hx, rfl⟩, q _ F' H' s w' (.v _)⟩
/-- the length of mapped data -/
theorem ev_lenM {α : Type} {r : α → D} {xs : List α} (h : EV K t env (dI ((xs.map r).length : Nat))) : EV K t env (dI (xs.length : Nat)) := by rw [List.length_map] at h; exact h

/-! ### built-in calls of whole numbers -/
def rAbs : List V → Hp → VK → Prop := fun xs H Q => ∃ i, xs = [.int i] ∧ Q (.int (if i < 0 then -i else i)) H
theorem ev_abs (ha : EV K ta env (dI i)) : EV K (tCB rAbs (tCons ta tNil)) env (dI (absZ i)) := fun σ F H A O m w Q q =>
  ha σ F H A O m w _ fun v F' H' s w' d1 => ⟨i, by rw [d1.int], q _ F' H' s w' (.v _)⟩
def rMax2' : List V → Hp → VK → Prop := fun xs H Q => ∃ i j, xs = [.int i, .int j] ∧ Q (.int (if j > i then j else i)) H
def rMin2' : List V → Hp → VK → Prop := fun xs H Q => ∃ i j, xs = [.int i, .int j] ∧ Q (.int (if j < i then j else i)) H
theorem ev_max (ha : EV K ta env (dI i)) (hb : EV K tb env (dI j)) : EV K (tCB rMax2' (tCons ta (tCons tb tNil))) env (dI (maxZ i j)) := fun σ F H A O m w Q q =>
  ev_two ha hb m w fun x y F' H' s w' d1 d2 => ⟨i, j, by rw [d1.int, d2.int], q _ F' H' s w' (.v _)⟩
theorem ev_min (ha : EV K ta env (dI i)) (hb : EV K tb env (dI j)) : EV K (tCB rMin2' (tCons ta (tCons tb tNil))) env (dI (minZ i j)) := fun σ F H A O m w Q q =>
  ev_two ha hb m w fun x y F' H' s w' d1 d2 => ⟨i, j, by rw [d1.int, d2.int], q _ F' H' s w' (.v _)⟩
/-! ### isinstance -/
def tyD : D → Option String
  | .v .non => some "NoneType"
  | .v (.bl _) => some "bool"
  | .v (.int _) => some "int"
  | .v (.str _) => some "str"
  | .v _ => none
  | .tup _ => some "tuple"
  | .lst _ => some "list"
  | .ins _ _ => none
  | .hp _ => some "tuple"
  | .ob _ => none
theorem tyX_of {F H : Hp} {v : V} {d : D} {T : String} (s : Same F H) (h : Dat K F v d) (e : tyD d = some T) : TyX K H v (.type T) := by
  cases h with
  | v =>
    cases v with
    | non => cases e; exact .base .non
    | bl b => cases e; exact .base (.bl b)
    | int b => cases e; exact .base (.int b)
    | str b => cases e; exact .base (.str b)
    | _ => cases e
  | tup a b =>
    cases e
    rcases s.sqt a with (z | ⟨o, z⟩) | ⟨o, _, _, z, c, _⟩
    · exact .base (.tup z)
    · exact .fTuple z
    · exact .kTuple z c
  | lst a b =>
    cases e
    rcases s.seq a with (z | ⟨o, z⟩) | ⟨o, _, _, z, c, _⟩
    · exact .base (.lst z)
    · exact .base (.frz z)
    · exact .kList z c
  | ins a b => cases e
  | hp a => cases e; exact .base (.tup (s _ _ a))
  | ob a => cases e
theorem ev_isi {a b : String} {r : Bool} (ha : EV K ta env d) (e : tyD d = some a) (k : kitB a b = some r) : EV K (tCB (rIsi K) (tCons ta (tCons (tC (.ty b)) tNil))) env (dB r) := fun σ F H A O m w Q q =>
  ha σ F H A O m w _ fun v F' H' s w' d1 => ⟨v, .ty b, _, _, r, rfl, .ty b, tyX_of w'.same d1 e, kit_ty k, q _ F' H' s w' (.v _)⟩
end
end Pg

set_option Elab.async false
set_option linter.all false
set_option maxRecDepth 100000
namespace Pg
open PySem PySem.Spec PyProof.Rows L2
abbrev W0 : WX := fun c d _ H => E0 c d H

/-! ### statements -/
section
variable (K : PySem.W.Frag) (E : WX)
/-- from the abstract frame env the statement's reading comes to Nx, hands back a tree by Rt, or raises by Ex -/
def SW (t : TS) (env : List Slot) (Nx : List Slot → Prop) (Rt : List Slot → T → Prop) (Ex : List Slot → Value → Prop) : Prop :=
  ∀ (σ : L2.St) (F H : Hp) (A O : List (Addr × HO)), Match K F σ env A → Own F H (A ++ O) → ∀ Dn : Ends,
    (∀ env' σ' F' H' A', Nx env' → Same F F' → Match K F' σ' env' A' → Own F' H' (A' ++ O) → Dn.nx σ' H') →
    (∀ env' x v σ' F' H' A' O1, Rt env' x → Same F F' → Match K F' σ' env' A' → Own F' H' (O1 ++ (A' ++ O)) → TR K F' v x O1 → Dn.rt v H') →
    (∀ env' c σ' F' H' A', Ex env' c → Same F F' → Match K F' σ' env' A' → Own F' H' (A' ++ O) → E c none σ' H') → t Dn σ H
def ownAt (env : List Slot) (i : Nat) : Bool := match env[i]? with
  | some (.tr _) => true
  | _ => false
/-- a target: stores the datum d; js: the slots it stores to -/
def GT (g : TG) (js : List Nat) (d : D) (env env' : List Slot) : Prop :=
  (∀ i, ownAt env' i = true → ownAt env i = true) ∧ ∀ (σ : L2.St) (v : V) (F H : Hp) (A O : List (Addr × HO)), Match K F σ env A → Own F H (A ++ O) → Dat K F v d → ∀ Q : L2.St → Hp → Prop,
    (∀ σ' A', A'.Sublist A → ((∀ j ∈ js, ownAt env j = false) → A' = A) → Match K F σ' env' A' → (∀ vs : List Nat, (∀ j ∈ js, j ∈ vs) → wipe σ' vs = wipe σ vs) → Q σ' H) → g v σ H Q
end
section
variable {K : PySem.W.Frag} {na : Option Addr} {E : WX} {env env' : List Slot} {t u : TS} {te ta tb : TE} {tt : TT} {d e : D} {ds es : List D} {i j : Nat} {Nx Nx' : List Slot → Prop} {Rt : List Slot → T → Prop} {Ex : List Slot → Value → Prop} {g : TG}
theorem Own.subA {F H : Hp} {A A' O : List (Addr × HO)} (h : Own F H (A ++ O)) (s : A'.Sublist A) : Own F H (A' ++ O) := h.sub (s.append (List.Sublist.refl O))
theorem Own.dropA {F H : Hp} {A O : List (Addr × HO)} (h : Own F H (A ++ O)) : Own F H O := h.sub (List.sublist_append_right A O)
theorem sw_mono (h : SW K E t env Nx Rt Ex) (hn : ∀ e, Nx e → Nx' e) : SW K E t env Nx' Rt Ex := fun σ F H A O m w Dn q1 q2 q4 => h σ F H A O m w Dn (fun a b c d f z => q1 a b c d f (hn a z)) q2 q4
theorem sw_weak (hw : Wk env env') (h : SW K E t env' Nx Rt Ex) : SW K E t env Nx Rt Ex := fun σ F H A O m w Dn q1 q2 q4 => by
  obtain ⟨A', s, m'⟩ := m.weak hw
  exact h σ F H A' O m' (w.subA s) Dn q1 q2 q4
theorem sw_seq (h : SW K E t env (fun e => SW K E u e Nx Rt Ex) Rt Ex) : SW K E (tSeq t u) env Nx Rt Ex := fun σ F H A O m w Dn q1 q2 q4 =>
  h σ F H A O m w _ (fun e σ' F' H' A' n s m' w' => n σ' F' H' A' O m' w' Dn (fun e2 σ2 F2 H2 A2 n2 s2 m2 w2 => q1 e2 σ2 F2 H2 A2 n2 (s.trans s2) m2 w2)
    (fun e x v σ2 F2 H2 A2 O1 r s2 m2 w2 => q2 e x v σ2 F2 H2 A2 O1 r (s.trans s2) m2 w2) fun e c σ2 F2 H2 A2 r s2 m2 w2 => q4 e c σ2 F2 H2 A2 r (s.trans s2) m2 w2) q2 q4
theorem sw_next (h : Nx env) : SW K E tNext env Nx Rt Ex := fun σ F H A O m w Dn q1 q2 q4 => q1 env σ F H A h (Same.refl F) m w
/-- a way that cannot be -/
theorem sw_absurd (h : False) : SW K E t env Nx Rt Ex := h.elim
theorem match_setA {F : Hp} : ∀ {σ : L2.St} {env : List Slot} {O : List (Addr × HO)} (i : Nat) {v : V} {d : D}, Match K F σ env O → Dat K F v d → ownAt env i = false → Match K F (σ.set i (some v)) (env.set i (.dat d)) O
  | _, _, _, _, _, _, .nil, _, _ => .nil
  | _, _, _, 0, _, _, .un m, h, _ => .dat h m
  | _, _, _, 0, _, _, .dat _ m, h, _ => .dat h m
  | _, _, _, 0, _, _, .tr _ m, h, z => by simp [ownAt] at z
  | _, _, _, i + 1, _, _, .un m, h, z => .un (match_setA i m h (by simpa [ownAt] using z))
  | _, _, _, i + 1, _, _, .dat d m, h, z => .dat d (match_setA i m h (by simpa [ownAt] using z))
  | _, _, _, i + 1, _, _, .tr d m, h, z => .tr d (match_setA i m h (by simpa [ownAt] using z))
theorem ownAt_set {i : Nat} {d : D} (j : Nat) (h : ownAt (env.set i (.dat d)) j = true) : ownAt env j = true := by
  unfold ownAt at h ⊢
  by_cases e : i = j
  · subst e
    by_cases hl : i < env.length
    · rw [List.getElem?_set_self hl] at h; cases h
    · rw [List.getElem?_eq_none (by simpa using hl)] at h; cases h
  · rw [List.getElem?_set_ne e] at h; exact h
theorem gt_name (i : Nat) (d : D) (env : List Slot) : GT K (gName i) [i] d env (env.set i (.dat d)) := ⟨fun j h => ownAt_set j h, fun σ v F H A O m w hd Q q => by
  have hex : ∃ A', A'.Sublist A ∧ ((∀ j ∈ [i], ownAt env j = false) → A' = A) ∧ Match K F (σ.set i (some v)) (env.set i (.dat d)) A' := by
    by_cases ho : ownAt env i = true
    · obtain ⟨A', s, m'⟩ := m.set i hd
      exact ⟨A', s, fun z => absurd ho (by rw [z i (List.mem_singleton.mpr rfl)]; decide), m'⟩
    · exact ⟨A, List.Sublist.refl _, fun _ => rfl, match_setA i m hd (by simpa using ho)⟩
  obtain ⟨A', s, sA, m'⟩ := hex
  refine q _ A' s sA m' fun vs hv => ?_
  have hi := hv i (List.mem_singleton.mpr rfl)
  clear q m' hv
  induction vs with
  | nil => cases hi
  | cons b vs ih =>
    unfold wipe
    by_cases hb : i ∈ vs
    · rw [ih hb]
    · have e : b = i := by
        rcases List.mem_cons.mp hi with z | z
        · exact z.symm
        · exact absurd z hb
      subst e
      have key : ∀ (σ : L2.St) (ws : List Nat), b ∉ ws → (wipe (σ.set b (some v)) ws).set b none = (wipe σ ws).set b none := by
        intro σ ws
        induction ws with
        | nil => intro _; unfold wipe; rw [List.set_set]
        | cons c ws ih2 =>
          intro hn
          have h1 : c ≠ b := fun z => hn (by rw [z]; exact List.mem_cons_self)
          have h2 : b ∉ ws := fun z => hn (List.mem_cons_of_mem _ z)
          unfold wipe
          rw [List.set_comm _ _ h1, ih2 h2, List.set_comm _ _ h1.symm]
      exact key σ vs hb⟩
/-- name = e -/
theorem sw_set (h : EV K te env d) (hn : Nx (env.set i (.dat d))) : SW K E (tAsg te (gName i)) env Nx Rt Ex := fun σ F H A O m w Dn q1 q2 q4 =>
  h σ F H A O m w _ fun v F1 H1 s1 w1 d1 => by
    obtain ⟨A', s, m'⟩ := (m.up s1).set i d1
    exact q1 _ _ F1 H1 A' hn s1 m' (w1.subA s)
/-- name = a new list, owned -/
theorem sw_own (h : EN K te env ds) (hl : i < env.length) (hn : Nx (env.set i (.own ds))) : SW K E (tAsg te (gName i)) env Nx Rt Ex := fun σ F H A O m w Dn q1 q2 q4 =>
  h σ F H A O m w _ fun p vs F1 H1 s1 w1 d1 => by
    obtain ⟨A1, B, A2, e, s, m'⟩ := (m.up s1).put i d1 hl
    subst e
    refine q1 _ _ F1 H1 _ hn s1 m' ?_
    have w2 : Own F1 H1 ((p, .lst vs) :: ((A1 ++ B) ++ O)) := w1.sub (((List.Sublist.refl A1).append s |>.append (List.Sublist.refl O)).cons₂ _)
    rw [List.append_assoc] at w2 ⊢
    exact w2.unmid
/-- an own list frozen -/
theorem sw_frz {xs : List D} (h : env[i]? = some (.ownN na xs)) (hn : SW K E t (env.set i (.dat (.lst xs))) Nx Rt Ex) : SW K E t env Nx Rt Ex := fun σ F H A O m w Dn q1 q2 q4 => by
  obtain ⟨p, vs, A1, A2, e, h1, h2, _, h5⟩ := m.getO h
  subst e
  rw [List.append_assoc] at w
  obtain ⟨w2, s2⟩ := w.mid.frz
  have w2 : Own (upd F p (.lst vs)) H (A1 ++ A2 ++ O) := by rw [List.append_assoc]; exact w2
  exact hn σ _ H (A1 ++ A2) O (h5 _ _ s2 (.lst (.of upd_same) (h2.up s2))) w2 Dn (fun a b c d f z s => q1 a b c d f z (s2.trans s)) (fun e x v a b c d f z s => q2 e x v a b c d f z (s2.trans s)) fun e c a b d f z s => q4 e c a b d f z (s2.trans s)
theorem sw_ret (h : EV K te env d) (hr : Rt env (.dat d)) : SW K E (tRet te) env Nx Rt Ex := fun σ F H A O m w Dn q1 q2 q4 =>
  h σ F H A O m w _ fun v F1 H1 s1 w1 d1 => q2 env _ v σ F1 H1 A [] hr s1 (m.up s1) w1 (.dat d1)
theorem sw_retN (hr : Rt env (.dat (.v .non))) : SW K E tRetN env Nx Rt Ex := fun σ F H A O m w Dn q1 q2 q4 => q2 env _ .non σ F H A [] hr (Same.refl F) m w (.dat (.v _))
/-- return a new list -/
theorem sw_retO (h : EN K te env ds) (hr : Rt env (.lst none (ds.map T.dat))) : SW K E (tRet te) env Nx Rt Ex := fun σ F H A O m w Dn q1 q2 q4 =>
  h σ F H A O m w _ fun p vs F1 H1 s1 w1 d1 => q2 env _ _ σ F1 H1 A [(p, .lst vs)] hr s1 (m.up s1) w1 (.lst (fun _ z => nomatch z) d1.tree)
/-- return what a slot owns by its name -/
theorem sw_retT {x : T} (h : env[i]? = some (.tr x)) (hr : Rt (env.set i .un) x) : SW K E (tRet (tVar i)) env Nx Rt Ex := fun σ F H A O m w Dn q1 q2 q4 => by
  obtain ⟨v, O1, A1, A2, e, h1, h2, _, _, h6⟩ := m.getT h
  subst e
  refine ⟨_, h1, q2 _ _ _ σ F H (A1 ++ A2) O1 hr (Same.refl F) (h6 F (Same.refl F)) (w.perm ?_) h2⟩
  have e1 : A1 ++ (O1 ++ A2) ++ O = (A1 ++ O1) ++ (A2 ++ O) := by simp
  have e2 : O1 ++ (A1 ++ A2 ++ O) = (O1 ++ A1) ++ (A2 ++ O) := by simp
  rw [e1, e2]
  exact List.Perm.append_right _ List.perm_append_comm
theorem sw_retV (h : env[i]? = some (.own ds)) (hr : Rt (env.set i .un) (.lst none (ds.map T.dat))) : SW K E (tRet (tVar i)) env Nx Rt Ex := sw_retT h hr
theorem sw_drop (h : EV K te env d) (hn : Nx env) : SW K E (tDrop te) env Nx Rt Ex := fun σ F H A O m w Dn q1 q2 q4 =>
  h σ F H A O m w _ fun v F1 H1 s1 w1 d1 => q1 env σ F1 H1 A hn s1 (m.up s1) w1
theorem sw_if {c : Bool} (h : ET K tt env c) (h1 : c = true → SW K E t env Nx Rt Ex) (h2 : c = false → SW K E u env Nx Rt Ex) : SW K E (tIfS tt t u) env Nx Rt Ex := fun σ F H A O m w Dn q1 q2 q4 =>
  h σ F H A O m w _ fun F1 H1 s1 w1 => by
    have k : ∀ {t : TS}, SW K E t env Nx Rt Ex → t Dn σ H1 := fun z => z σ F1 H1 A O (m.up s1) w1 Dn (fun a b c d f y s => q1 a b c d f y (s1.trans s)) (fun e x v a b c d f z s => q2 e x v a b c d f z (s1.trans s)) fun e c a b d f z s => q4 e c a b d f z (s1.trans s)
    cases c with
    | true => exact iteT (k (h1 rfl))
    | false => exact iteF (k (h2 rfl))
/-- xs.append(e), xs an own list -/
theorem appR_some {α : Type} {xs ys : List α} {x : α} (h : appR xs x = .ok ys) : xs.length < 16777216 ∧ ys = xs ++ [x] := by
  unfold appR at h
  split at h
  · exact ⟨by assumption, (R.ok_inj h).symm⟩
  · cases h
theorem sw_app {α : Type} {r : α → D} {xs ys : List α} {x : α} (hx : appR xs x = .ok ys) (h : env[i]? = some (.ownN na (xs.map r))) (he : EV K te env (r x)) (hn : Nx (env.set i (.ownN na (ys.map r)))) :
    SW K E (tDrop (tBM K "list" rAppend (tVar i) (tCons te tNil))) env Nx Rt Ex := fun σ F H A O m w Dn q1 q2 q4 => by
  obtain ⟨p, vs, A1, A2, e, h1, h2, h4, _⟩ := m.getO h
  obtain ⟨hl, e2⟩ := appR_some hx
  subst e2
  have hp := (w.has (p, .lst vs) (by rw [e]; simp)).2
  refine ⟨_, h1, .inl ⟨rfl, vs, .of hp⟩, he σ F H A O m w _ fun v F1 H1 s1 w1 d1 => ?_⟩
  have hp1 := (w1.has (p, .lst vs) (by rw [e]; simp)).2
  refine ⟨p, vs, v, rfl, rfl, hp1, ?_, ?_⟩
  · have := h2.length
    rw [List.length_map] at this
    rw [this, sizeLine_eq]; exact hl
  · subst e
    refine q1 _ σ F1 _ (A1 ++ (p, .lst (vs ++ [v])) :: A2) hn s1 ?_ ?_
    · rw [List.map_append]
      exact h4 F1 _ _ s1 ((h2.up s1).append (.cons d1 .nil))
    · rw [List.append_assoc] at w1 ⊢
      exact (w1.mid.put (o' := .lst (vs ++ [v]))).unmid
/-- xs[k] = e, xs an own list -/
theorem setR_some {α : Type} {xs ys : List α} {x : α} {k : Int} (h : setR xs k x = .ok ys) : ∃ n, ixP xs.length k = some n ∧ ys = xs.set n x := by
  unfold setR at h
  split at h
  · exact ⟨_, by assumption, (R.ok_inj h).symm⟩
  · cases h
theorem sw_put {α : Type} {r : α → D} {xs ys : List α} {x : α} {k : Int} (hx : setR xs k x = .ok ys) (he : EV K te env (r x)) (h : env[i]? = some (.ownN na (xs.map r))) (hk : EV K tb env (dI k)) (hn : Nx (env.set i (.ownN na (ys.map r)))) :
    SW K E (tAsg te (gSub (tVar i) tb rSetL)) env Nx Rt Ex := fun σ F H A O m w Dn q1 q2 q4 =>
  he σ F H A O m w _ fun v F1 H1 s1 w1 d1 => by
    obtain ⟨p, vs, A1, A2, e, h1, h2, h4, _⟩ := m.getO h
    obtain ⟨n, e1, e2⟩ := setR_some hx
    subst e2
    refine ⟨_, h1, hk σ F1 H1 A O (m.up s1) w1 _ fun y F2 H2 s2 w2 d2 => ?_⟩
    have hp2 := (w2.has (p, .lst vs) (by rw [e]; simp)).2
    have hl := h2.length
    rw [List.length_map] at hl
    refine ⟨p, vs, k, n, rfl, d2.int, hp2, by rw [← ixP_ixN, hl]; exact e1, ?_⟩
    subst e
    refine q1 _ σ F2 _ (A1 ++ (p, .lst (vs.set n v)) :: A2) hn (s1.trans s2) ?_ ?_
    · rw [List.map_set]
      exact h4 F2 _ _ (s1.trans s2) ((h2.up (s1.trans s2)).set n (d1.up s2))
    · rw [List.append_assoc] at w2 ⊢
      exact (w2.mid.put (o' := .lst (vs.set n v))).unmid

/-! ### what is walked -/
variable (K) in
def Walks (J : It) (F : Hp) (ds : List D) : Prop :=
  (∀ (i : Nat) (F' H : Hp) (O : List (Addr × HO)) (d : D), Same F F' → Own F' H O → ds[i]? = some d → J.go i H ∧ ∀ x H', J.yld i H x H' → ∃ F'', Same F' F'' ∧ Own F'' H' O ∧ Dat K F'' x d) ∧
  (∀ (i : Nat) (F' H : Hp) (O : List (Addr × HO)), Same F F' → Own F' H O → ds.length ≤ i → J.stop i H)
variable (K) in
def IV (wi : TI) (env : List Slot) (ds : List D) : Prop := ∀ (σ : L2.St) (F H : Hp) (A O : List (Addr × HO)), Match K F σ env A → Own F H (A ++ O) → ∀ Q : It → Hp → Prop,
  (∀ J F' H', Same F F' → Own F' H' (A ++ O) → Walks K J F' ds → Q J H') → wi σ H Q
variable (K) in
/-- .. where what is walked changes the frame -/
def IVM (wi : TI) (env env' : List Slot) (ds : List D) : Prop := ∀ (σ : L2.St) (F H : Hp) (A O : List (Addr × HO)), Match K F σ env A → Own F H (A ++ O) → ∀ Q : It → Hp → Prop,
  (∀ J F' H' A', Same F F' → Match K F' σ env' A' → Own F' H' (A' ++ O) → Walks K J F' ds → Q J H') → wi σ H Q
theorem IV.m {wi : TI} (h : IV K wi env ds) : IVM K wi env env ds := fun σ F H A O m w Q q => h σ F H A O m w Q fun J F' H' s w' wk => q J F' H' A s (m.up s) w' wk
theorem iv_list (h : EV K te env (.lst ds)) : IV K (iList K te) env ds := fun σ F H A O m w Q q => h σ F H A O m w _ fun v F1 H1 s1 w1 d1 => by
  cases d1 with
  | lst a b =>
    refine ⟨_, rfl, ⟨_, w1.same.seq a⟩, q _ F1 H1 s1 w1 ⟨fun i F' H O d s w' hd => ?_, fun i F' H O s w' hl => ⟨_, w'.same.seq (s.seq a), by rw [b.length]; exact hl⟩⟩⟩
    obtain ⟨x, hx, dx⟩ := b.get hd
    refine ⟨⟨_, x, w'.same.seq (s.seq a), hx⟩, fun y H' hy => ?_⟩
    obtain ⟨e1, e2⟩ := hy
    subst e1
    have : x = y := Option.some.inj (hx.symm.trans (e2 _ (w'.same.seq (s.seq a))))
    subst this
    exact ⟨F', Same.refl _, w', dx.up s⟩
theorem iv_tup (h : EV K te env (.tup ds)) : IV K (iTup K te) env ds := fun σ F H A O m w Q q => h σ F H A O m w _ fun v F1 H1 s1 w1 d1 => by
  cases d1 with
  | tup a b =>
    refine ⟨_, rfl, ⟨_, w1.same.sqt a⟩, q _ F1 H1 s1 w1 ⟨fun i F' H O d s w' hd => ?_, fun i F' H O s w' hl => ⟨_, w'.same.sqt (s.sqt a), by rw [b.length]; exact hl⟩⟩⟩
    obtain ⟨x, hx, dx⟩ := b.get hd
    refine ⟨⟨_, x, w'.same.sqt (s.sqt a), hx⟩, fun y H' hy => ?_⟩
    obtain ⟨e1, e2⟩ := hy
    subst e1
    have : x = y := Option.some.inj (hx.symm.trans (e2 _ (w'.same.sqt (s.sqt a))))
    subst this
    exact ⟨F', Same.refl _, w', dx.up s⟩
theorem walks_rng (lo : Int) (n : Nat) (F : Hp) : Walks K (Itr lo n) F (((List.range n).map fun k => lo + (k : Nat)).map dI) := by
  refine ⟨fun i F' H O d s w' hd => ?_, fun i F' H O s w' hl => ?_⟩
  case refine_2 => rw [List.length_map, List.length_map, List.length_range] at hl; exact hl
  rw [List.map_map, List.getElem?_map] at hd
  by_cases hi : i < n
  · rw [List.getElem?_range hi] at hd
    have e : dI (lo + (i : Nat)) = d := Option.some.inj hd
    subst e
    refine ⟨hi, fun y H' hy => ?_⟩
    obtain ⟨e1, e2⟩ := hy
    subst e1 e2
    exact ⟨F', Same.refl _, w', .v _⟩
  · rw [List.getElem?_eq_none (by simpa using hi)] at hd
    cases hd
theorem rngR_some {i j : Int} {xs : List Int} (h : rngR i j = .ok xs) : (-(2 ^ 62) ≤ i ∧ i < 2 ^ 62 ∧ -(2 ^ 62) ≤ j ∧ j < 2 ^ 62) ∧ xs = (List.range (j - i).toNat).map fun k => i + (k : Nat) := by
  unfold rngR at h
  split at h
  · exact ⟨by assumption, (R.ok_inj h).symm⟩
  · cases h
theorem iv_rng1 {j : Int} {xs : List Int} (hx : rngR 0 j = .ok xs) (h : EV K te env (dI j)) : IV K (iRng1 (tCons te tNil)) env (xs.map dI) := fun σ F H A O m w Q q => h σ F H A O m w _ fun v F1 H1 s1 w1 d1 => by
  obtain ⟨⟨_, _, h1, h2⟩, e⟩ := rngR_some hx
  rw [d1.int]
  refine ⟨j, rfl, h1, h2, q _ F1 H1 s1 w1 ?_⟩
  rw [e]
  have := walks_rng (K := K) 0 (j - 0).toNat F1
  rw [show j - 0 = j by omega] at this ⊢
  exact this
theorem iv_rng2 {i j : Int} {xs : List Int} (hx : rngR i j = .ok xs) (ha : EV K ta env (dI i)) (hb : EV K tb env (dI j)) : IV K (iRng2 (tCons ta (tCons tb tNil))) env (xs.map dI) := fun σ F H A O m w Q q =>
  ev_two ha hb m w fun x y F' H' s w' d1 d2 => by
    obtain ⟨h, e⟩ := rngR_some hx
    rw [d1.int, d2.int]
    refine ⟨i, j, rfl, h, q _ F' H' s w' ?_⟩
    rw [e]
    exact walks_rng (K := K) i (j - i).toNat F'

/-! ### for -/
theorem forX_step {α S β : Type} {f : α → S → R (Sum S β)} : ∀ {xs : List α} {s : S} {r : Sum S β}, R.forX f xs s = .ok r →
    (xs = [] ∧ r = .inl s) ∨ ∃ x ys, xs = x :: ys ∧ ∃ r1, f x s = .ok r1 ∧ ((∃ s', r1 = .inl s' ∧ R.forX f ys s' = .ok r) ∨ ∃ b, r1 = .inr b ∧ r = .inr b)
  | [], s, r, h => .inl ⟨rfl, (R.ok_inj h).symm⟩
  | x :: ys, s, r, h => by
    obtain ⟨r1, h1, h2⟩ := R.bind_inv h
    refine .inr ⟨x, ys, rfl, r1, h1, ?_⟩
    cases r1 with
    | inl s' => exact .inl ⟨s', rfl, h2⟩
    | inr b => exact .inr ⟨b, rfl, (R.ok_inj h2).symm⟩
/-- a for whose turns may hand back -/
theorem sw_forXM {wi : TI} {tb : TS} {α S β : Type} {xs : List α} {ra : α → D} (f : α → S → R (Sum S β)) (ε : S → List Slot) (ρ : β → List Slot → T → Prop) (ξ : β → List Slot → Value → Prop) (s0 : S) {r : Sum S β} {js : List Nat} {envi : List Slot}
    (hi : IVM K wi env envi (xs.map ra)) (hf : R.forX f xs s0 = .ok r) (h0 : Wk envi (ε s0))
    (hb : ∀ x s r1, x ∈ xs → f x s = .ok r1 → ∃ env1, GT K g js (ra x) (ε s) env1 ∧ SW K E tb env1 (fun e => ∃ s', r1 = .inl s' ∧ Wk e (ε s')) (fun e v => ∃ b, r1 = .inr b ∧ ρ b e v) (fun e c => ∃ b, r1 = .inr b ∧ ξ b e c))
    (hn : ∀ s, r = .inl s → Nx (ε s)) (hr : ∀ b, r = .inr b → (∀ e v, ρ b e v → Rt e v) ∧ ∀ e c, ξ b e c → Ex e c) : SW K E (tFor wi g tb) env Nx Rt Ex := fun σ F H A O m w Dn q1 q2 q4 =>
  hi σ F H A O m w _ fun J F1 H1 A1 s1 m1 w1 wk => by
    obtain ⟨A0, sb0, m0⟩ := m1.weak h0
    refine ⟨fun i k σ2 H2 => ∃ (s : S) (F2 : Hp) (A2 : List (Addr × HO)), k + i = xs.length ∧ Same F1 F2 ∧ Match K F2 σ2 (ε s) A2 ∧ Own F2 H2 (A2 ++ O) ∧ R.forX f (xs.drop i) s = .ok r,
      ⟨xs.length, s0, F1, A0, rfl, Same.refl _, m0, w1.subA sb0, hf⟩, ?_⟩
    rintro i k σ2 H2 ⟨s, F2, A2, hk, ss, m2, w2, h2⟩
    rcases forX_step h2 with ⟨e1, e2⟩ | ⟨x, ys, e1, r1, h3, h4⟩
    · have hl : xs.length ≤ i := by
        have := congrArg List.length e1
        rw [List.length_drop, List.length_nil] at this
        omega
      exact .inl ⟨wk.2 i F2 H2 _ ss w2 (by rw [List.length_map]; exact hl), q1 _ _ F2 H2 A2 (hn s e2) (s1.trans ss) m2 w2⟩
    · have hx : xs[i]? = some x := by
        have := congrArg (fun l => l[0]?) e1
        simpa using this
      have hlt : i < xs.length := by
        rcases Nat.lt_or_ge i xs.length with z | z
        · exact z
        · rw [List.getElem?_eq_none z] at hx; cases hx
      have hys : xs.drop (i + 1) = ys := by
        rw [← List.drop_drop, e1]; rfl
      obtain ⟨g1, g2⟩ := wk.1 i F2 H2 _ (ra x) ss w2 (by rw [List.getElem?_map, hx]; rfl)
      refine .inr ⟨g1, fun σ3 H3 => ∃ (s' : S) (F3 : Hp) (A3 : List (Addr × HO)), r1 = .inl s' ∧ Same F1 F3 ∧ Match K F3 σ3 (ε s') A3 ∧ Own F3 H3 (A3 ++ O), ?_, fun y H3 hy => ?_⟩
      · rintro σ3 H3 ⟨s', F3, A3, e3, ss3, m3, w3⟩
        refine ⟨k - 1, by omega, s', F3, A3, by omega, ss3, m3, w3, ?_⟩
        rcases h4 with ⟨s4, e4, h5⟩ | ⟨b, e4, _⟩
        · rw [e3] at e4
          cases e4
          rw [hys]; exact h5
        · rw [e3] at e4; cases e4
      · obtain ⟨F3, ss3, w3, d3⟩ := g2 y H3 hy
        obtain ⟨env1, hg, hbody⟩ := hb x s r1 (List.mem_of_getElem? hx) h3
        refine hg.2 σ2 y F3 H3 A2 O (m2.up ss3) w3 d3 _ fun σ4 A4 sb4 _ m4 _ => ?_
        have sF : Same F F3 := s1.trans (ss.trans ss3)
        have e8 : ∀ b, r1 = .inr b → r = .inr b := fun b e6 => by
          rcases h4 with ⟨s4, e4, _⟩ | ⟨b', e4, e9⟩
          · rw [e6] at e4; cases e4
          · rw [e6] at e4; cases e4; exact e9
        refine hbody σ4 F3 H3 A4 O m4 (w3.subA sb4) _ ?_ ?_ ?_
        · rintro e5 σ5 F5 H5 A5 ⟨s', e6, wk6⟩ s5 m5 w5
          obtain ⟨A6, sb6, m6⟩ := m5.weak wk6
          exact ⟨s', F5, A6, e6, ss.trans (ss3.trans s5), m6, w5.subA sb6⟩
        · rintro e5 x5 v σ5 F5 H5 A5 O5 ⟨b, e6, e7⟩ s5 m5 w5 d5
          exact q2 e5 x5 v σ5 F5 H5 A5 O5 ((hr b (e8 b e6)).1 _ _ e7) (sF.trans s5) m5 w5 d5
        · rintro e5 c σ5 F5 H5 A5 ⟨b, e6, e7⟩ s5 m5 w5
          exact q4 e5 c σ5 F5 H5 A5 ((hr b (e8 b e6)).2 _ _ e7) (sF.trans s5) m5 w5
theorem sw_forX {wi : TI} {tb : TS} {α S β : Type} {xs : List α} {ra : α → D} (f : α → S → R (Sum S β)) (ε : S → List Slot) (ρ : β → List Slot → T → Prop) (ξ : β → List Slot → Value → Prop) (s0 : S) {r : Sum S β} {js : List Nat}
    (hi : IV K wi env (xs.map ra)) (hf : R.forX f xs s0 = .ok r) (h0 : Wk env (ε s0))
    (hb : ∀ x s r1, x ∈ xs → f x s = .ok r1 → ∃ env1, GT K g js (ra x) (ε s) env1 ∧ SW K E tb env1 (fun e => ∃ s', r1 = .inl s' ∧ Wk e (ε s')) (fun e v => ∃ b, r1 = .inr b ∧ ρ b e v) (fun e c => ∃ b, r1 = .inr b ∧ ξ b e c))
    (hn : ∀ s, r = .inl s → Nx (ε s)) (hr : ∀ b, r = .inr b → (∀ e v, ρ b e v → Rt e v) ∧ ∀ e c, ξ b e c → Ex e c) : SW K E (tFor wi g tb) env Nx Rt Ex :=
  sw_forXM f ε ρ ξ s0 hi.m hf h0 hb hn hr
/-- a for whose turns do not hand back -/
theorem forR_X {α S : Type} (f : α → S → R S) : ∀ (xs : List α) (s s1 : S), R.forR f xs s = .ok s1 → R.forX (β := Empty) (fun x s => R.bind (f x s) fun s' => .ok (Sum.inl s')) xs s = .ok (Sum.inl s1)
  | [], s, s1, h => by rw [R.ok_inj (show R.ok s = R.ok s1 from h)]; rfl
  | x :: xs, s, s1, h => by
    obtain ⟨s2, h1, h2⟩ := R.bind_inv h
    unfold R.forX
    rw [h1]
    exact forR_X f xs s2 s1 h2
theorem sw_forRM {wi : TI} {tb : TS} {α S : Type} {xs : List α} {ra : α → D} (f : α → S → R S) (ε : S → List Slot) (s0 : S) {s1 : S} {js : List Nat} {envi : List Slot}
    (hi : IVM K wi env envi (xs.map ra)) (hf : R.forR f xs s0 = .ok s1) (h0 : Wk envi (ε s0))
    (hb : ∀ x s s', x ∈ xs → f x s = .ok s' → ∃ env1, GT K g js (ra x) (ε s) env1 ∧ SW K E tb env1 (fun e => Wk e (ε s')) (fun _ _ => False) (fun _ _ => False))
    (hn : Nx (ε s1)) : SW K E (tFor wi g tb) env Nx Rt Ex := by
  refine sw_forXM (β := Empty) (js := js) (fun x s => R.bind (f x s) fun s' => .ok (Sum.inl s')) ε (fun b => nomatch b) (fun b => nomatch b) s0 hi (forR_X f xs s0 s1 hf) h0 (fun x s r1 hx h => ?_) (fun s e => ?_) (fun b => nomatch b)
  · obtain ⟨s', h1, h2⟩ := R.bind_inv h
    obtain ⟨env1, hg, hs⟩ := hb x s s' hx h1
    refine ⟨env1, hg, ?_⟩
    intro σ F H A O m w Dn q1 q2 q4
    exact hs σ F H A O m w Dn (fun a b c d f z => q1 a b c d f ⟨s', (R.ok_inj h2).symm, z⟩) (fun _ _ _ _ _ _ _ _ z => z.elim) (fun _ _ _ _ _ _ z => z.elim)
  · cases e; exact hn
theorem sw_forR {wi : TI} {tb : TS} {α S : Type} {xs : List α} {ra : α → D} (f : α → S → R S) (ε : S → List Slot) (s0 : S) {s1 : S} {js : List Nat}
    (hi : IV K wi env (xs.map ra)) (hf : R.forR f xs s0 = .ok s1) (h0 : Wk env (ε s0))
    (hb : ∀ x s s', x ∈ xs → f x s = .ok s' → ∃ env1, GT K g js (ra x) (ε s) env1 ∧ SW K E tb env1 (fun e => Wk e (ε s')) (fun _ _ => False) (fun _ _ => False))
    (hn : Nx (ε s1)) : SW K E (tFor wi g tb) env Nx Rt Ex :=
  sw_forRM f ε s0 hi.m hf h0 hb hn
/-- (a, b) targets -/
theorem gt_tup2 {g1 g2 : TG} {j1 j2 : List Nat} {d1 d2 : D} {env1 env2 : List Slot} (h1 : GT K g1 j1 d1 env env1) (h2 : GT K g2 j2 d2 env1 env2) : GT K (gTup K 2 (gCons g1 (gCons g2 gNil))) (j1 ++ j2) (.tup [d1, d2]) env env2 := ⟨fun i h => h1.1 i (h2.1 i h), fun σ v F H A O m w hd Q q => by
  cases hd with
  | tup a b =>
    cases b with
    | cons b1 b =>
      cases b with
      | cons b2 b =>
        cases b
        refine ⟨_, _, rfl, w.same.sqt a, rfl, _, _, rfl, h1.2 σ _ F H A O m w b1 _ fun σ1 A1 sb1 y1 m1 z1 => ?_⟩
        refine ⟨_, _, rfl, h2.2 σ1 _ F H A1 O m1 (w.subA sb1) b2 _ fun σ2 A2 sb2 y2 m2 z2 => ⟨rfl, ?_⟩⟩
        refine q σ2 A2 (sb2.trans sb1) (fun z => ?_) m2 fun vs hv => (z2 vs fun j hj => hv j (List.mem_append_right _ hj)).trans (z1 vs fun j hj => hv j (List.mem_append_left _ hj))
        have e1 := y1 fun j hj => z j (List.mem_append_left _ hj)
        have e2 := y2 fun j hj => by
          cases ho : ownAt env1 j with
          | false => rfl
          | true =>
            have := h1.1 j ho
            rw [z j (List.mem_append_right _ hj)] at this
            cases this
        rw [e2, e1]⟩
/-- target = e, any target -/
theorem sw_asgG {js : List Nat} (h : EV K te env d) (hg : GT K g js d env env') (hn : Nx env') : SW K E (tAsg te g) env Nx Rt Ex := fun σ F H A O m w Dn q1 q2 q4 =>
  h σ F H A O m w _ fun v F1 H1 s1 w1 d1 => hg.2 σ v F1 H1 A O (m.up s1) w1 d1 _ fun σ' A' sb _ m' _ => q1 _ _ F1 H1 A' hn s1 m' (w1.subA sb)
/-- a, b = x, y -/
theorem sw_par (ha : EV K ta env d) (hb : EV K tb env e) (hn : Nx ((env.set i (.dat d)).set j (.dat e))) : SW K E (tPar i j (tCons ta (tCons tb tNil))) env Nx Rt Ex := fun σ F H A O m w Dn q1 q2 q4 =>
  ev_two ha hb m w fun x y F' H' s w' d1 d2 => by
    obtain ⟨A1, sb1, m1⟩ := (m.up s).set i d1
    obtain ⟨A2, sb2, m2⟩ := m1.set j d2
    exact ⟨x, y, rfl, q1 _ _ F' H' A2 hn s m2 (w'.subA (sb2.trans sb1))⟩
/-- while, by an invariant and a measure -/
theorem sw_while {tb : TS} {S : Type} (I : S → Prop) (μ : S → Nat) (ε : S → List Slot) (s0 : S) (h0 : Wk env (ε s0)) (i0 : I s0)
    (hs : ∀ s, I s → ∃ b, ET K tt (ε s) b ∧ (b = true → SW K E tb (ε s) (fun e => ∃ s', I s' ∧ μ s' < μ s ∧ Wk e (ε s')) Rt Ex) ∧ (b = false → Nx (ε s))) : SW K E (tWhile tt tb) env Nx Rt Ex := fun σ F H A O m w Dn q1 q2 q4 => by
  obtain ⟨A0, sb0, m0⟩ := m.weak h0
  refine ⟨fun k σ2 H2 => ∃ (s : S) (F2 : Hp) (A2 : List (Addr × HO)), μ s = k ∧ I s ∧ Same F F2 ∧ Match K F2 σ2 (ε s) A2 ∧ Own F2 H2 (A2 ++ O), ⟨_, s0, F, A0, rfl, i0, Same.refl _, m0, w.subA sb0⟩, ?_⟩
  rintro k σ2 H2 ⟨s, F2, A2, rfl, is, ss, m2, w2⟩
  obtain ⟨b, e1, e2, e3⟩ := hs s is
  refine e1 σ2 F2 H2 A2 O m2 w2 _ fun F3 H3 s3 w3 => ?_
  cases b with
  | false => exact iteF (q1 _ _ F3 H3 A2 (e3 rfl) (ss.trans s3) (m2.up s3) w3)
  | true =>
    refine iteT ⟨fun σ4 H4 => ∃ (s' : S) (F4 : Hp) (A4 : List (Addr × HO)), I s' ∧ μ s' < μ s ∧ Same F F4 ∧ Match K F4 σ4 (ε s') A4 ∧ Own F4 H4 (A4 ++ O), ?_, ?_⟩
    · rintro σ4 H4 ⟨s', F4, A4, i4, l4, ss4, m4, w4⟩
      exact ⟨μ s', l4, s', F4, A4, rfl, i4, ss4, m4, w4⟩
    · refine e2 rfl σ2 F3 H3 A2 O (m2.up s3) w3 _ ?_ ?_ ?_
      · rintro e5 σ5 F5 H5 A5 ⟨s', i5, l5, wk5⟩ s5 m5 w5
        obtain ⟨A6, sb6, m6⟩ := m5.weak wk5
        exact ⟨s', F5, A6, i5, l5, ss.trans (s3.trans s5), m6, w5.subA sb6⟩
      · exact fun e x v σ5 F5 H5 A5 O5 z s5 => q2 e x v σ5 F5 H5 A5 O5 z (ss.trans (s3.trans s5))
      · exact fun e c σ5 F5 H5 A5 z s5 => q4 e c σ5 F5 H5 A5 z (ss.trans (s3.trans s5))

/-! ### defs -/
/-- a def that computes f: of the data args x hands back rr of what f x comes to -/
def spR (K : PySem.W.Frag) {ι β : Type} (args : ι → List D) (f : ι → R β) (rr : β → D) : Sp := fun vs H Q _ =>
  ∃ (x : ι) (F : Hp) (O : List (Addr × HO)) (b : β), Own F H O ∧ Dats K F vs (args x) ∧ f x = .ok b ∧ ∀ v F' H', Same F F' → Own F' H' O → Dat K F' v (rr b) → Q v H'
/-- a def that hands back a new list -/
def spN (K : PySem.W.Frag) {ι β : Type} (args : ι → List D) (f : ι → R (List β)) (rr : β → D) : Sp := fun vs H Q _ =>
  ∃ (x : ι) (F : Hp) (O : List (Addr × HO)) (b : List β), Own F H O ∧ Dats K F vs (args x) ∧ f x = .ok b ∧ ∀ p us F' H', Same F F' → Own F' H' ((p, .lst us) :: O) → Dats K F' us (b.map rr) → Q (.ref p) H'
theorem sp_len {ι : Type} {args : ι → List D} {n : Nat} (hn : ∀ x, (args x).length = n) {vs : List V} {F : Hp} {x : ι} (h : Dats K F vs (args x)) : vs.length = n := h.length.trans (hn x)
theorem match_un : ∀ (n : Nat), Match K F (List.replicate n none) (List.replicate n .un) []
  | 0 => .nil
  | n + 1 => .un (match_un n)
theorem match_start {F : Hp} : ∀ {vs : List V} {ds : List D} (n : Nat), Dats K F vs ds → Match K F (vs.map some ++ List.replicate n none) (ds.map Slot.dat ++ List.replicate n .un) []
  | _, _, n, .nil => match_un n
  | _, _, n, .cons a b => .dat a (match_start n b)
theorem spR_run {ι β : Type} {args : ι → List D} {f : ι → R β} {rr : β → D} {N : List Str} {vs : List V} {H : Hp} {Q : VK} {E : XK} (n k : Nat) (hN : N.length = n + k) (hn : ∀ x, (args x).length = n)
    (hb : ∀ x b, f x = .ok b → SW K W0 t ((args x).map Slot.dat ++ List.replicate k .un) (fun _ => rr b = .v .non) (fun _ v => v = .dat (rr b)) fun _ _ => False)
    (h : spR K args f rr vs H Q E) : t { nx := fun _ H' => Q .non H', rt := Q } (L2.start N vs) H := by
  obtain ⟨x, F, O, b, w, da, hf, q⟩ := h
  have hl := sp_len hn da
  have m := match_start (N.length - vs.length) da
  rw [show N.length - vs.length = k by omega] at m
  unfold L2.start
  rw [show N.length - vs.length = k by omega]
  refine hb x b hf _ F H [] O m w _ ?_ ?_ ?_
  · exact fun e σ' F' H' A' z s m' w' => q .non F' H' s w'.dropA (by rw [z]; exact .v _)
  · rintro e _ v σ' F' H' A' O1 rfl s m' w' d'
    cases d' with
    | dat d' => exact q v F' H' s (w'.dropA (A := A')) d'
  · exact fun _ _ _ _ _ _ z => z.elim
theorem spN_run {ι β : Type} {args : ι → List D} {f : ι → R (List β)} {rr : β → D} {N : List Str} {vs : List V} {H : Hp} {Q : VK} {E : XK} (n k : Nat) (hN : N.length = n + k) (hn : ∀ x, (args x).length = n)
    (hb : ∀ x b, f x = .ok b → SW K W0 t ((args x).map Slot.dat ++ List.replicate k .un) (fun _ => False) (fun _ v => v = .lst none ((b.map rr).map T.dat)) fun _ _ => False)
    (h : spN K args f rr vs H Q E) : t { nx := fun _ H' => Q .non H', rt := Q } (L2.start N vs) H := by
  obtain ⟨x, F, O, b, w, da, hf, q⟩ := h
  have hl := sp_len hn da
  have m := match_start (N.length - vs.length) da
  rw [show N.length - vs.length = k by omega] at m
  unfold L2.start
  rw [show N.length - vs.length = k by omega]
  refine hb x b hf _ F H [] O m w _ ?_ ?_ ?_
  · exact fun e σ' F' H' A' z => z.elim
  · rintro e _ v σ' F' H' A' O1 rfl s m' w' d'
    cases d' with
    | lst n d' =>
      obtain ⟨e1, d1⟩ := d'.flat
      subst e1
      exact q _ _ F' H' s (w'.sub ((List.sublist_append_right A' O).cons₂ _)) d1
  · exact fun _ _ _ _ _ _ z => z.elim
/-- the call of such a def -/
theorem ev_call {ι β : Type} {args : ι → List D} {f : ι → R β} {rr : β → D} {ta : TA} {E' : XK} (x : ι) {b : β} (hf : f x = .ok b) (ha : EA K ta env (args x)) : EV K (tCall (spR K args f rr) [] E' ta) env (rr b) := fun σ F H A O m w Q q =>
  ha σ F H A O m w _ fun vs F1 H1 s1 w1 d1 => ⟨x, F1, A ++ O, b, w1, by rw [List.append_nil]; exact d1, hf, fun v F' H' s w' d' => q v F' H' (s1.trans s) w' d'⟩
theorem en_call {ι β : Type} {args : ι → List D} {f : ι → R (List β)} {rr : β → D} {ta : TA} {E' : XK} (x : ι) {b : List β} (hf : f x = .ok b) (ha : EA K ta env (args x)) : EN K (tCall (spN K args f rr) [] E' ta) env (b.map rr) := fun σ F H A O m w Q q =>
  ha σ F H A O m w _ fun vs F1 H1 s1 w1 d1 => ⟨x, F1, A ++ O, b, w1, by rw [List.append_nil]; exact d1, hf, fun p us F' H' s w' d' => q p us F' H' (s1.trans s) w' d'⟩
end
end Pg

set_option Elab.async false
set_option linter.all false
set_option maxRecDepth 100000
namespace Pg
open PySem PySem.Spec PyProof.Rows L2

/-! ### great numbers -/
def CMulP (i j : Int) : Prop := i.natAbs.log2 + j.natAbs.log2 < 134000000
/-- a number's bits, by its logarithm -/
theorem bits_log2 (x : Int) : Builtin.Int.intBits x ≤ x.natAbs.log2 + 1 := by
  rw [Builtin.Int.intBits]
  split
  · exact Nat.zero_le _
  · exact Nat.le_refl _
theorem CMulP.ok {i j : Int} (h : CMulP i j) : IntMulOk i j := fun z => by
  have line : bitsLine < Builtin.Int.intBits i + Builtin.Int.intBits j := by
    have big := (Bool.and_eq_true _ _ ▸ z).2
    simp only [Builtin.Int.intTooBig, decide_eq_true_eq] at big
    omega
  have low : 134000002 ≤ bitsLine := by decide
  have b1 := bits_log2 i
  have b2 := bits_log2 j
  rw [CMulP] at h
  omega
/-- what a division of any size asks of the world and of the frames -/
structure PyRm (b : Heap) (P : Program) (A : Around) (st : List Env) : Prop where
  seer : b.NoSeer
  tree : P.given.tree = none
  room : A.depth + Builtin.pylongFrames < recursionLimit
  top : ∃ e l, st = e :: l ∧ e.scope.isGenerator = false ∧ e.scope.isCoroutine = false ∧ e.builtins = builtinsNs ∧ e.globals = mainGlobals
section
variable {X : Cx}
theorem op_mulP : OpR X (binaryOp .Mult) (rI CMulP fun i j => .int (i * j)) := opI fun _ _ _ _ _ _ _ hc q => mul_int q hc.ok
theorem op_fdivP (hp : PyRm X.base X.prog X.A X.stack) : OpR X (binaryOp .FloorDiv) (rI (fun _ j => j ≠ 0) fun i j => .int (i.fdiv j)) := by
  rintro pins s σ H _ _ _ _ Q I rx ry ⟨i, j, rfl, rfl, hc, q⟩
  cases rx with
  | intro t et =>
  cases ry with
  | intro t' et' =>
  subst et et'
  obtain ⟨e, l, h1, h2, h3, h4, h5⟩ := hp.top
  have fr : X.A.frames = some (e :: l) := I.ok.frames.trans (congrArg some h1)
  exact floordiv_int hc ⟨.int (i.fdiv j), H, I.tok _, ⟨_, rfl⟩, q⟩
    (.inr (PySem.PylongRoom.of I.nolimit hp.room (PySem.SeerAt.of (hp.seer.keeps I.bk) hp.tree fr h2 h3 h4 h5)))
theorem op_pow10 : OpR X (binaryOp .Pow) (rI CPow fun i j => .int (i ^ j.toNat)) := op_pow
end
theorem room_py {k : Nat} {A : Around} (hr : Room k A) (h : 40 ≤ k) : A.depth + Builtin.pylongFrames < recursionLimit := by
  have h1 := hr.dp
  have h2 : Builtin.pylongFrames = 100 := rfl
  omega
theorem pyRm {b : Heap} {P : Program} {k : Nat} {A : Around} {qual : Str} {sc : Scope} {n : Addr} {f : Addr} {cd : Value} {outer : List Env} (h : b.NoSeer) (ht : P.given.tree = none) (hr : Room k A) (hk : 40 ≤ k) (hg : sc.isGenerator = false) (hc : sc.isCoroutine = false) :
    PyRm b P A (envOfC qual sc n f cd :: outer) := ⟨h, ht, room_py hr hk, _, _, rfl, hg, hc, rfl, rfl⟩
section
variable {K : PySem.W.Frag} {env : List Slot} {t ta tb : TE} {tt : TT} {i j k : Int} {d : D} {ds : List D}
theorem mulR_some (h : mulR i j = .ok k) : CMulP i j ∧ k = i * j := by
  unfold mulR at h
  split at h
  · exact ⟨by assumption, (R.ok_inj h).symm⟩
  · cases h
theorem fdivR_some (h : fdivR i j = .ok k) : j ≠ 0 ∧ k = i.fdiv j := by
  unfold fdivR at h
  split at h
  · cases h
  · exact ⟨by assumption, (R.ok_inj h).symm⟩
theorem fmodR_some (h : fmodR i j = .ok k) : j ≠ 0 ∧ k = i.fmod j := by
  unfold fmodR at h
  split at h
  · cases h
  · exact ⟨by assumption, (R.ok_inj h).symm⟩
theorem ev_mul (h : mulR i j = .ok k) (ha : EV K ta env (dI i)) (hb : EV K tb env (dI j)) : EV K (tOp (rI CMulP fun i j => .int (i * j)) ta tb) env (dI k) := by
  rw [(mulR_some h).2]; exact ev_iC (g := fun i j => .int (i * j)) (mulR_some h).1 ha hb
theorem ev_mulL (hc : i.natAbs.log2 + j.natAbs.log2 < 134000000) (hk : i * j = k) (ha : EV K ta env (dI i)) (hb : EV K tb env (dI j)) : EV K (tOp (rI CMulP fun i j => .int (i * j)) ta tb) env (dI k) := by
  rw [← hk]; exact ev_iC (C := CMulP) (g := fun i j => .int (i * j)) hc ha hb
theorem ev_fdiv (h : fdivR i j = .ok k) (ha : EV K ta env (dI i)) (hb : EV K tb env (dI j)) : EV K (tOp (rI (fun _ j => j ≠ 0) fun i j => .int (i.fdiv j)) ta tb) env (dI k) := by
  rw [(fdivR_some h).2]; exact ev_iC (C := fun _ j => j ≠ 0) (g := fun i j => .int (i.fdiv j)) (fdivR_some h).1 ha hb
theorem ev_fmod (h : fmodR i j = .ok k) (ha : EV K ta env (dI i)) (hb : EV K tb env (dI j)) : EV K (tOp (rI (fun _ j => j ≠ 0) fun i j => .int (i.fmod j)) ta tb) env (dI k) := by
  rw [(fmodR_some h).2]; exact ev_iC (C := fun _ j => j ≠ 0) (g := fun i j => .int (i.fmod j)) (fmodR_some h).1 ha hb
/-- by a written positive number -/
theorem ev_divP {n : Int} (hn : 0 < n) (ha : EV K ta env (dI i)) (hb : EV K tb env (dI n)) : EV K (tOp (rI (fun _ j => j ≠ 0) fun i j => .int (i.fdiv j)) ta tb) env (dI (i / n)) := by
  have e : i / n = i.fdiv n := (Int.fdiv_eq_ediv_of_nonneg i (by omega)).symm
  rw [e]; exact ev_iC (C := fun _ j => j ≠ 0) (g := fun i j => .int (i.fdiv j)) (by omega) ha hb
theorem ev_modP {n : Int} (hn : 0 < n) (ha : EV K ta env (dI i)) (hb : EV K tb env (dI n)) : EV K (tOp (rI (fun _ j => j ≠ 0) fun i j => .int (i.fmod j)) ta tb) env (dI (i % n)) := by
  have e : i % n = i.fmod n := (Int.fmod_eq_emod_of_nonneg i (by omega)).symm
  rw [e]; exact ev_iC (C := fun _ j => j ≠ 0) (g := fun i j => .int (i.fmod j)) (by omega) ha hb

/-! ### list comprehensions -/
def wipeS (env : List Slot) : List Nat → List Slot
  | [] => env
  | v :: vs => (wipeS env vs).set v .un
def noOwn (env : List Slot) (vs : List Nat) : Bool := vs.all fun i => !ownAt env i
theorem match_forget : ∀ {σ : L2.St} {env : List Slot} {A : List (Addr × HO)} {F : Hp} (i : Nat) (x : Option V), Match K F σ env A → ownAt env i = false → Match K F (σ.set i x) (env.set i .un) A
  | _, _, _, _, _, _, .nil, _ => .nil
  | _, _, _, _, 0, _, .un m, _ => .un m
  | _, _, _, _, 0, _, .dat _ m, _ => .un m
  | _, _, _, _, 0, _, .tr _ m, h => by simp [ownAt] at h
  | _, _, _, _, i + 1, x, .un m, h => .un (match_forget i x m (by simpa [ownAt] using h))
  | _, _, _, _, i + 1, x, .dat d m, h => .dat d (match_forget i x m (by simpa [ownAt] using h))
  | _, _, _, _, i + 1, x, .tr d m, h => .tr d (match_forget i x m (by simpa [ownAt] using h))
theorem ownAt_un {i : Nat} (j : Nat) (h : ownAt env j = false) : ownAt (env.set i .un) j = false := by
  unfold ownAt at h ⊢
  by_cases e : i = j
  · subst e
    by_cases hl : i < env.length
    · rw [List.getElem?_set_self hl]
    · rw [List.getElem?_eq_none (by simpa using hl)]
  · rw [List.getElem?_set_ne e]; exact h
theorem ownAt_wipe (j : Nat) (h : ownAt env j = false) : ∀ ws : List Nat, ownAt (wipeS env ws) j = false
  | [] => h
  | w :: ws => ownAt_un j (ownAt_wipe j h ws)
theorem noOwn_at {vs : List Nat} (h : noOwn env vs = true) : ∀ j ∈ vs, ownAt env j = false := fun j hj => by
  have := List.all_eq_true.mp h j hj
  simpa using this
theorem match_wipe {σ : L2.St} {A : List (Addr × HO)} {F : Hp} (m : Match K F σ env A) : ∀ vs : List Nat, noOwn env vs = true → Match K F (wipe σ vs) (wipeS env vs) A
  | [], _ => m
  | v :: vs, h => by
    have h1 := noOwn_at h v List.mem_cons_self
    unfold noOwn at h
    rw [List.all_cons, Bool.and_eq_true] at h
    exact match_forget v none (match_wipe m vs h.2) (ownAt_wipe v h1 vs)
theorem wipe_set_in {σ : L2.St} {x : Option V} {i : Nat} : ∀ {vs : List Nat}, i ∈ vs → wipe (σ.set i x) vs = wipe σ vs
  | b :: vs, hi => by
    unfold wipe
    by_cases hb : i ∈ vs
    · rw [wipe_set_in hb]
    · have e : b = i := by
        rcases List.mem_cons.mp hi with z | z
        · exact z.symm
        · exact absurd z hb
      subst e
      have key : ∀ (σ : L2.St) (ws : List Nat), b ∉ ws → (wipe (σ.set b x) ws).set b none = (wipe σ ws).set b none := by
        intro σ ws
        induction ws with
        | nil => intro _; unfold wipe; rw [List.set_set]
        | cons c ws ih2 =>
          intro hn
          have h1 : c ≠ b := fun z => hn (by rw [z]; exact List.mem_cons_self)
          have h2 : b ∉ ws := fun z => hn (List.mem_cons_of_mem _ z)
          unfold wipe
          rw [List.set_comm _ _ h1, ih2 h2, List.set_comm _ _ h1.symm]
      exact key σ vs hb
theorem wipe_wipe (σ : L2.St) : ∀ (us vs : List Nat), (∀ u ∈ us, u ∈ vs) → wipe (wipe σ us) vs = wipe σ vs
  | [], _, _ => rfl
  | u :: us, vs, h => by
    show wipe ((wipe σ us).set u none) vs = _
    rw [wipe_set_in (h u List.mem_cons_self), wipe_wipe σ us vs fun w hw => h w (List.mem_cons_of_mem _ hw)]
theorem mapIf_step {α β : Type} {p : α → R Bool} {f : α → R β} : ∀ {xs : List α} {zs : List β}, R.mapIf p f xs = .ok zs →
    (xs = [] ∧ zs = []) ∨ ∃ x ys b, xs = x :: ys ∧ p x = .ok b ∧ ((b = true ∧ ∃ y ws, f x = .ok y ∧ R.mapIf p f ys = .ok ws ∧ zs = y :: ws) ∨ (b = false ∧ R.mapIf p f ys = .ok zs))
  | [], zs, h => .inl ⟨rfl, (R.ok_inj h).symm⟩
  | x :: ys, zs, h => by
    obtain ⟨b, h1, h2⟩ := R.bind_inv (show R.bind (p x) _ = _ from h)
    refine .inr ⟨x, ys, b, rfl, h1, ?_⟩
    cases b with
    | true =>
      obtain ⟨y, h3, h4⟩ := R.bind_inv (if_t rfl h2)
      obtain ⟨ws, h5, h6⟩ := R.bind_inv h4
      exact .inl ⟨rfl, y, ws, h3, h5, (R.ok_inj h6).symm⟩
    | false => exact .inr ⟨rfl, if_f rfl h2⟩
/-- [e for x in xs if p] -/
theorem en_compIf {wi : TI} {g : TG} {te : TE} {vs js : List Nat} {α β : Type} {xs : List α} {ra : α → D} {rb : β → D} (p : α → R Bool) (f : α → R β) {ys : List β}
    (hi : IV K wi env (xs.map ra)) (hf : R.mapIf p f xs = .ok ys) (hl : xs.length < 16777216) (hw : noOwn env vs = true) (hj : ∀ j ∈ js, j ∈ vs)
    (hb : ∀ x, x ∈ xs → ∃ env1, GT K g js (ra x) (wipeS env vs) env1 ∧ (∀ b, p x = .ok b → ET K tt env1 b) ∧ (∀ y, p x = .ok true → f x = .ok y → EV K te env1 (rb y))) : EN K (tLc wi g tt te vs) env (ys.map rb) := fun σ F H A O m w Q q =>
  hi σ F H A O m w _ fun J F1 H1 s1 w1 wk D hD => by
    refine ⟨fun i k H2 => ∃ (acc : List β) (us : List V) (F2 : Hp), k + i = xs.length ∧ acc.length ≤ i ∧ Same F1 F2 ∧ Own F2 H2 ((D, .lst us) :: (A ++ O)) ∧ Dats K F2 us (acc.map rb) ∧ ∃ zs, R.mapIf p f (xs.drop i) = .ok zs ∧ ys = acc ++ zs,
      ⟨xs.length, [], [], F1, rfl, Nat.le_refl _, Same.refl _, w1.new hD, .nil, ys, hf, rfl⟩, ?_⟩
    rintro i k H2 ⟨acc, us, F2, hk, hlen, ss, w2, dd, zs, h2, e2⟩
    rcases mapIf_step h2 with ⟨e1, e3⟩ | ⟨x, rest, b, e1, hp, h4⟩
    · have hl' : xs.length ≤ i := by
        have := congrArg List.length e1
        rw [List.length_drop, List.length_nil] at this
        omega
      refine .inl ⟨wk.2 i F2 H2 _ ss w2 (by rw [List.length_map]; exact hl'), q D us F2 H2 (s1.trans ss) w2 ?_⟩
      rw [e2, e3, List.append_nil]; exact dd
    · have hx : xs[i]? = some x := by
        have := congrArg (fun l => l[0]?) e1
        simpa using this
      have hlt : i < xs.length := by
        rcases Nat.lt_or_ge i xs.length with z | z
        · exact z
        · rw [List.getElem?_eq_none z] at hx; cases hx
      have hys : xs.drop (i + 1) = rest := by
        rw [← List.drop_drop, e1]; rfl
      obtain ⟨g1, g2⟩ := wk.1 i F2 H2 _ (ra x) ss w2 (by rw [List.getElem?_map, hx]; rfl)
      refine .inr ⟨g1, fun H3 => ∃ (acc : List β) (us : List V) (F3 : Hp), acc.length ≤ i + 1 ∧ Same F1 F3 ∧ Own F3 H3 ((D, .lst us) :: (A ++ O)) ∧ Dats K F3 us (acc.map rb) ∧ ∃ zs, R.mapIf p f rest = .ok zs ∧ ys = acc ++ zs, ?_, fun y H3 hy => ?_⟩
      · rintro H3 ⟨acc3, us3, F3, l3, ss3, w3, d3, zs3, h3, e3⟩
        exact ⟨k - 1, by omega, acc3, us3, F3, by omega, by omega, ss3, w3, d3, zs3, by rw [hys]; exact h3, e3⟩
      · obtain ⟨F3, ss3, w3, d3⟩ := g2 y H3 hy
        obtain ⟨env1, hg, ht, he⟩ := hb x (List.mem_of_getElem? hx)
        have mw := match_wipe (m.up (s1.trans (ss.trans ss3))) vs hw
        have w3' : Own F3 H3 (A ++ ((D, .lst us) :: O)) := w3.unmid
        refine hg.2 (wipe σ vs) y F3 H3 A ((D, .lst us) :: O) mw w3' d3 _ fun σ4 A4 sb4 eA m4 z4 => ⟨?_, ?_⟩
        · rw [z4 vs hj, wipe_wipe σ vs vs fun _ z => z]
        · have eA := eA fun j h => ownAt_wipe j (noOwn_at hw j (hj j h)) vs
          subst eA
          refine ht b hp σ4 F3 H3 A4 ((D, .lst us) :: O) m4 w3' _ fun F5 H5 s5 w5 => ?_
          rcases h4 with ⟨rfl, y1, ws, h5, h6, h7⟩ | ⟨rfl, h6⟩
          · refine iteT (he y1 hp h5 σ4 F5 H5 A4 ((D, .lst us) :: O) (m4.up s5) w5 _ fun v F6 H6 s6 w6 d6 => ?_)
            have s36 := ss3.trans (s5.trans s6)
            refine ⟨us, (w6.has (D, .lst us) (by simp)).2, ?_, acc ++ [y1], us ++ [v], F6, ?_, ss.trans s36, (w6.mid.put (o' := .lst (us ++ [v]))), ?_, ws, h6, ?_⟩
            · have := dd.length
              rw [List.length_map] at this
              rw [this, sizeLine_eq]; omega
            · rw [List.length_append, List.length_singleton]; omega
            · rw [List.map_append]
              exact (dd.up s36).append (.cons d6 .nil)
            · rw [e2, h7, List.append_assoc]; rfl
          · have s35 := ss3.trans s5
            exact iteF ⟨acc, us, F5, by omega, ss.trans s35, w5.mid, dd.up s35, zs, h6, e2⟩
theorem mapR_If {α β : Type} (f : α → R β) : ∀ (xs : List α) (ys : List β), R.mapR f xs = .ok ys → R.mapIf (fun _ => .ok true) f xs = .ok ys
  | [], ys, h => h
  | x :: xs, ys, h => by
    obtain ⟨y, h1, h2⟩ := R.bind_inv (show R.bind (f x) _ = _ from h)
    obtain ⟨zs, h3, h4⟩ := R.bind_inv h2
    have e : R.mapIf (fun _ => .ok true) f (x :: xs) = R.bind (f x) fun y => R.bind (R.mapIf (fun _ => .ok true) f xs) fun ys => R.ok (y :: ys) := rfl
    rw [e, h1]
    show R.bind (R.mapIf (fun _ => .ok true) f xs) (fun ys => R.ok (y :: ys)) = R.ok ys
    rw [mapR_If f xs zs h3]
    exact h4
theorem et_yes : ET K tYes env true := fun σ F H A O m w Q q => q F H (Same.refl F) w
/-- [e for x in xs] -/
theorem en_comp {wi : TI} {g : TG} {te : TE} {vs js : List Nat} {α β : Type} {xs : List α} {ra : α → D} {rb : β → D} (f : α → R β) {ys : List β}
    (hi : IV K wi env (xs.map ra)) (hf : R.mapR f xs = .ok ys) (hl : xs.length < 16777216) (hw : noOwn env vs = true) (hj : ∀ j ∈ js, j ∈ vs)
    (hb : ∀ x, x ∈ xs → ∃ env1, GT K g js (ra x) (wipeS env vs) env1 ∧ ∀ y, f x = .ok y → EV K te env1 (rb y)) : EN K (tLc wi g tYes te vs) env (ys.map rb) :=
  en_compIf (tt := tYes) (js := js) (fun _ => .ok true) f hi (mapR_If f xs ys hf) hl hw hj fun x hx =>
    let ⟨env1, h1, h2⟩ := hb x hx; ⟨env1, h1, fun b e => by rw [← R.ok_inj e]; exact et_yes, fun y _ e => h2 y e⟩
end
end Pg

set_option Elab.async false
set_option linter.all false
set_option maxRecDepth 100000
namespace Pg
open PySem PySem.Spec PyProof.Rows L2
/-! ### the end: the law's call over a base that nobody watches, the script's bits told -/
section
variable {P : Program} {w : World} {K : PySem.W.Frag} {mg mb : Str → Option Value} {CX : CXT} {k : Nat} {fa a : Addr} {fd : FuncData} {x : Str} {sp : Sp} {s1 : Shared} {vs : List Value} {ns : List Int}
/-- what the script's object leaves of the heap -/
theorem hid_get {h : Heap} {H : Hp} (hA : ∀ b, H b ≠ none → b = a) {b : Addr} {o : Obj} (e : h.get? b = some o) (n : b ≠ a) : (hidT h H).get? b = some o :=
  hidT_get e (Classical.byContradiction fun z => n (hA b z))
theorem hid_ns {h : Heap} {H : Hp} (hA : ∀ b, H b ≠ none → b = a) {its : List Value} (ha : h.get? a = some { cls := .type "list", data := .seq its.toArray }) {b : Addr} {m : Str → Option Value} (q : h.Ns b m) : (hidT h H).Ns b m := by
  obtain ⟨o, es, ep, e, d, r⟩ := q
  refine ⟨o, es, ep, hid_get hA e fun z => ?_, d, r⟩
  subst z
  rw [ha] at e
  have e2 := Option.some.inj e
  subst e2
  exact nomatch d
theorem hid_seer {h : Heap} {H : Hp} (hA : ∀ b, H b ≠ none → b = a) {its : List Value} (ha : h.get? a = some { cls := .type "list", data := .seq its.toArray }) (q : h.NoSeer) : (hidT h H).NoSeer where
  statics := let ⟨m, e1, e2⟩ := q.statics; ⟨m, hid_ns hA ha e1, e2⟩
  mods := let ⟨m, e1, e2⟩ := q.mods; ⟨m, hid_ns hA ha e1, e2⟩
  imp := let ⟨m, e1, e2⟩ := q.imp; ⟨m, hid_ns hA ha e1, e2⟩
  main := by
    obtain ⟨m, bm, ob, e1, e2, e3, e4, e5⟩ := q.main
    refine ⟨m, bm, ob, hid_ns hA ha e1, e2, hid_get hA e3 fun z => ?_, e4, e5⟩
    subst z
    rw [ha] at e3
    have e6 := Option.some.inj e3
    subst e6
    exact absurd (show Value.type "list" = Value.type "module" from e4) (by decide)
/-- what is known of the heap at the entry: the script's list, frozen, where the head does not have it -/
theorem entry_hp (KX : K.In s1.heap) (ha : s1.heap.get? a = some { cls := .type "list", data := .seq vs.toArray }) (hi : IntsAre vs ns) (hl : ns.length ≤ sizeLine) :
    ∃ H : Hp, (∀ b, H b = none ∨ b = a ∧ ∃ ob xs, H b = some (.frz ob (.lst xs))) ∧ SqL K H a (ns.map V.int) ∧ HOk P w H s1.heap ∧ ∀ o, K.lookup a = some o → H a = none := by
  have rv := vals_ints hi
  cases hk : K.lookup a with
  | some o =>
    cases ha.symm.trans (KX a o hk)
    exact ⟨fun _ => none, fun _ => .inl rfl, .inr ⟨_, _, _, hk, rfl, rfl, rfl, by simpa [hi.length] using hl, by simpa using rv⟩, fun _ _ z => (nomatch z), fun _ _ => rfl⟩
  | none =>
    generalize ho : ({ cls := .type "list", data := .seq vs.toArray } : Obj) = o at ha
    refine ⟨upd (fun _ => none) a (.frz o (.lst (ns.map V.int))), fun b => ?_, .inl (.inr ⟨_, upd_same⟩), fun b u e => ?_, fun _ z => (nomatch z)⟩
    · by_cases z : b = a
      · subst z
        exact .inr ⟨rfl, _, _, upd_same⟩
      · exact .inl (upd_ne z)
    · by_cases z : b = a
      · subst z
        cases upd_same.symm.trans e
        exact ⟨ha, by simpa using hl, vs, _, rv, ho ▸ ha⟩
      · cases (upd_ne z).symm.trans e
theorem law_run (KX : K.In s1.heap) (hse : s1.heap.NoSeer) (hns : s1.heap.Ns mainGlobals mg) (hb : s1.heap.Ns builtinsNs mb) (hbb : ∀ x : Str, x ≠ "__name__" → mb x = bootBuiltins x) (hlim : s1.heap.NoLimit) (hg : s1.gens = #[])
    (ha : s1.heap.get? a = some { cls := .type "list", data := .seq vs.toArray }) (hi : IntsAre vs ns) (hl : ns.length ≤ sizeLine) (hr : Room k callerA) (F : ∀ base, K.In base → base.Ns mainGlobals mg → base.NoSeer → FnOk P w K mg base CX k fa fd [x] sp)
    (hbind : ∀ s u, BindsTo s fd ⟨[u], []⟩ [(x, u)]) (hsp : ∀ H, Only H → SqL K H a (ns.map V.int) → sp [.ref a] H (fun v _ => v = .bl true) fun _ _ _ => False) (hCX : ∀ H e s', CX [] H s1 (fun _ _ _ => False) e s' → False) :
    codeAny (model P w) callerA (.call (.ref fa) ⟨[.ref a], []⟩) (fun r s' => r = .ok (.ret (.bool true)) ∧ OldK s1.heap s'.heap ∧ s'.os = s1.os ∧ AllBare s'.gens) s1 := by
  obtain ⟨H, only, sq, hok, free⟩ := entry_hp (P := P) (w := w) KX ha hi hl
  have at_a : ∀ b, H b ≠ none → b = a := fun b n => (only b).elim (fun z => absurd z n) And.left
  have base : K.In (hidT s1.heap H) := fun b o e => hidT_get (KX b o e) ((only b).elim id fun z => z.1 ▸ free o (z.1 ▸ e))
  have ns1 {b : Addr} {m : Str → Option Value} (q : s1.heap.Ns b m) := hid_ns at_a ha q
  have env : Env0 P w K mg (hidT s1.heap H) callerA [] s1 H := {
    frames := rfl
    mod := { kin := base, glob := ns1 hns, blt := ⟨mb, ns1 hb, hbb⟩, nolimit := hlim.imp fun _ z => ⟨ns1 z.1, z.2⟩ }
    bs := fun _ _ => of_hidT
    bsz := Nat.le_of_eq (hidT_size _ _)
    funs := trivial
    frf := fun _ z => (nomatch z)
    hok := hok
    bare := .of_eq hg }
  refine codeAny_mono ((F _ base (ns1 hns) (hid_seer at_a ha hse)).run callerA [] s1 H ⟨[.ref a], []⟩ [.ref a] [.ref a] _ _ hr env (hbind s1 _) (.cons rfl .nil) (hsp H (fun b => (only b).imp_right And.right) sq)) fun r s' z => ?_
  match r, z with
  | .error e, z => exact (hCX H e s' z).elim
  | .ok .next, z | .ok .brk, z | .ok .cont, z => exact z.elim
  | .ok (.ret u), ⟨v, H2, eo, bare, un, ok2, ru, (qv : v = .bl true)⟩ =>
    subst qv
    cases (show u = Value.bool true from ru)
    refine ⟨rfl, OldK.of_keep fun b o e => ?_, eo, bare⟩
    rcases only b with z | ⟨-, ob, xs, z⟩
    · exact un.keep b o e z (fun z => (nomatch z)) fun z => (nomatch z)
    · exact (ok2 b _ (un.frzs b ob _ z)).1.trans ((hok b _ z).1.symm.trans e)
end
/-- a function object that keeps the promise of a law over every base -/
abbrev Serves (P : Program) (n k : Nat) (x : Str) (CX : CXT) (w : World) (mg : Str → Option Value) (fa : Addr) (h : Heap) : Prop :=
  ∃ (K : PySem.W.Frag) (fd : FuncData) (sp : Sp), K.In h ∧
    (∀ s u, BindsTo s fd ⟨[u], []⟩ [(x, u)]) ∧
    (∀ H a (ns : List Int), ns.length ≤ n → (∀ z ∈ ns, Builtin.Int.intBits z ≤ 1048576) → Only H → SqL K H a (ns.map V.int) →
      sp [.ref a] H (fun v _ => v = .bl true) (fun _ _ _ => False)) ∧
    (∀ base, K.In base → base.Ns mainGlobals mg → base.NoSeer → FnOk P w K mg base CX k fa fd [x] sp)
/-- no exception leaves the law -/
abbrev Quiet (CX : CXT) : Prop := ∀ H s e s', CX [] H s (fun _ _ _ => False) e s' → False
theorem walk_ofP {l : PySem.W.OpenLaw} {n k : Nat} {q : Program} {loose : List Str} {XP : (Str → Option Value) → Heap → Prop} {YP : World → Heap → Prop} {d : DefRec} {CX : CXT} {x : Str} (hn : l.most = some n) (hn2 : n ≤ sizeLine) (hdf : d.params.defaults = [])
    (hr : Room k callerA) (hq : importsNone q = true) (F : ∀ w mg fa h, YP w h → h.Ns mainGlobals mg → mg d.name = some (.ref fa) → Serves l.prog n k x CX w mg fa h) (hCX : Quiet CX) :
    PySem.W.WalkO q loose XP YP l.row.toRowW d [] (fun f vs => PySem.call f vs) :=
  Att.attach_callB hn hdf fun w _ _ mg _ fa _ _ _ _ a _ ns G Y _ _ _ hmg hobj hints hlen hbits hg =>
    let ⟨_, _, _, KX, hb, hsp, hF⟩ := F w mg fa _ Y G.T.g hmg
    law_run KX (G.T.seer hq) G.T.g G.T.b G.T.builtins G.T.nolimit hg hobj hints (Nat.le_trans hlen hn2) hr hF hb (fun H hO hS => hsp H a ns hlen hbits hO hS) fun H => hCX H _
end Pg

set_option Elab.async false
set_option linter.all false
set_option maxRecDepth 100000
namespace Pg
open PySem PySem.Spec PyProof.Rows L2
/-! ### built-in calls by my readings -/
section
variable {X : Cx}
theorem cl_len : CallR X (.builtin "len") (rLenP X.K) := call_len
theorem cl_abs : CallR X (.builtin "abs") rAbs := call_abs
theorem cl_max (hc : X.calm = true) : CallR X (.builtin "max") rMax2' := call_max2 hc
theorem cl_min (hc : X.calm = true) : CallR X (.builtin "min") rMin2' := call_min2 hc
def rListP (K : PySem.W.Frag) : List V → Hp → VK → Prop := fun xs H Q => ∃ p ys, xs = [.ref p] ∧ (SqL K H p ys ∨ SqT K H p ys) ∧ ∀ l, H l = none → Q (.ref l) (upd H l (.lst ys))
theorem cl_list : CallR X (.type "list") (rListP X.K) := call_list_of
def rTupP (K : PySem.W.Frag) : List V → Hp → VK → Prop := fun xs H Q => ∃ p ys, xs = [.ref p] ∧ ((SqL K H p ys ∧ ∀ l, H l = none → Q (.ref l) (upd H l (.tup ys))) ∨ (SqT K H p ys ∧ Q (.ref p) H))
theorem cl_tuple : CallR X (.type "tuple") (rTupP X.K) := call_tuple_of
/-- xs + ys of any two lists that are read -/
def rCatS (K : PySem.W.Frag) : R2 := fun x y H Q => ∃ l b xs zs, x = .ref l ∧ y = .ref b ∧ SqL K H l xs ∧ SqL K H b zs ∧ xs.length + zs.length ≤ sizeLine ∧ ∀ p, H p = none → Q (.ref p) (upd H p (.lst (xs ++ zs)))
theorem op_catS : OpR X (binaryOp .Add) (rCatS X.K) := by
  intro pins s σ H x y v u Q I rx ry h
  obtain ⟨l, b, xs, zs, rfl, rfl, hH, hB, hz, q⟩ := h
  cases rx
  cases ry
  obtain ⟨its, r1, ⟨o1, n1, g1, c1, d1, e1⟩, z1⟩ := I.list hH
  obtain ⟨its2, r2, ⟨o2, n2, g2, c2, d2, e2⟩, z2⟩ := I.list hB
  obtain ⟨oc1, od1, odt1, os1⟩ := o1
  obtain ⟨oc2, od2, odt2, os2⟩ := o2
  simp only at c1 d1 e1 c2 d2 e2
  subst c1 d1 e1 c2 d2 e2
  have l1 := r1.length
  have l2 := r2.length
  refine concat_meets ⟨_, g1, rfl⟩ ⟨_, g2, rfl⟩ noFill_list_add seq_list_add PySem.F.slot_list_add PySem.F.entry_list_add (PySem.F.args_list_add_2 _ _)
    (list_addW l b its.toArray its2.toArray n1 n2 none none os1 os2 (by rw [List.size_toArray, List.size_toArray, ← l1, ← l2]; exact hz)) ⟨g1, g2, ?_⟩
  rw [show its.toArray ++ its2.toArray = (its ++ its2).toArray by simp]
  exact ⟨.ref _, _, I.lnew (t' := s.toks) (r1.append r2) (by rw [List.length_append]; exact hz), rfl, q _ I.fresh⟩
end
section
variable {K : PySem.W.Frag} {na : Option Addr} {E : WX} {env : List Slot} {t ta tb te : TE} {tt : TT} {i j k : Int} {d : D} {ds es : List D} {Nx : List Slot → Prop} {Rt : List Slot → T → Prop} {Ex : List Slot → Value → Prop}
theorem en_listL {α : Type} {r : α → D} {xs : List α} (h : EV K t env (.lst (xs.map r))) : EN K (tCB (rListP K) (tCons t tNil)) env (xs.map r) := fun σ F H A O m w Q q =>
  h σ F H A O m w _ fun v F1 H1 s1 w1 d1 => by
    cases d1 with
    | lst a b => exact ⟨_, _, rfl, .inl (w1.same.seq a), fun l n => q l _ F1 _ s1 (w1.new n) b⟩
theorem en_listT {α : Type} {r : α → D} {xs : List α} (h : EV K t env (.tup (xs.map r))) : EN K (tCB (rListP K) (tCons t tNil)) env (xs.map r) := fun σ F H A O m w Q q =>
  h σ F H A O m w _ fun v F1 H1 s1 w1 d1 => by
    cases d1 with
    | tup a b => exact ⟨_, _, rfl, .inr (w1.same.sqt a), fun l n => q l _ F1 _ s1 (w1.new n) b⟩
theorem ev_tuple {α : Type} {r : α → D} {xs : List α} (h : EV K t env (.lst (xs.map r))) : EV K (tCB (rTupP K) (tCons t tNil)) env (.tup (xs.map r)) := fun σ F H A O m w Q q =>
  h σ F H A O m w _ fun v F1 H1 s1 w1 d1 => by
    cases d1 with
    | lst a b => exact ⟨_, _, rfl, .inl ⟨w1.same.seq a, fun l n => by
        obtain ⟨w2, s2⟩ := w1.newF (o := .tup _) n
        exact q _ _ _ (s1.trans s2) w2 (.tup (.of upd_same) (b.up s2))⟩⟩
theorem ev_pow {n : Int} (hc : 0 ≤ j ∧ j ≤ 1000000 ∧ i.natAbs < 18446744073709551616) (hn : i ^ j.toNat = n) (ha : EV K ta env (dI i)) (hb : EV K tb env (dI j)) : EV K (tOp (rI CPow fun i j => .int (i ^ j.toNat)) ta tb) env (dI n) := by
  rw [← hn]; exact ev_iC (C := CPow) (g := fun i j => .int (i ^ j.toNat)) hc ha hb
theorem compR_some {α β : Type} {f : α → R β} {xs : List α} {ys : List β} (h : R.compR f xs = .ok ys) : xs.length < 16777216 ∧ R.mapR f xs = .ok ys := by
  unfold R.compR at h
  split at h
  · exact ⟨by assumption, h⟩
  · cases h
theorem compIf_some {α β : Type} {p : α → R Bool} {f : α → R β} {xs : List α} {ys : List β} (h : R.compIf p f xs = .ok ys) : xs.length < 16777216 ∧ R.mapIf p f xs = .ok ys := by
  unfold R.compIf at h
  split at h
  · exact ⟨by assumption, h⟩
  · cases h
theorem en_compR {wi : TI} {g : TG} {vs js : List Nat} {α β : Type} {xs : List α} {ra : α → D} {rb : β → D} {f : α → R β} {ys : List β}
    (hi : IV K wi env (xs.map ra)) (hf : R.compR f xs = .ok ys) (hw : noOwn env vs = true) (hj : ∀ j ∈ js, j ∈ vs)
    (hb : ∀ x, x ∈ xs → ∃ env1, GT K g js (ra x) (wipeS env vs) env1 ∧ ∀ y, f x = .ok y → EV K te env1 (rb y)) : EN K (tLc wi g tYes te vs) env (ys.map rb) :=
  en_comp f hi (compR_some hf).2 (compR_some hf).1 hw hj hb
theorem en_compIfR {wi : TI} {g : TG} {vs js : List Nat} {α β : Type} {xs : List α} {ra : α → D} {rb : β → D} {p : α → R Bool} {f : α → R β} {ys : List β}
    (hi : IV K wi env (xs.map ra)) (hf : R.compIf p f xs = .ok ys) (hw : noOwn env vs = true) (hj : ∀ j ∈ js, j ∈ vs)
    (hb : ∀ x, x ∈ xs → ∃ env1, GT K g js (ra x) (wipeS env vs) env1 ∧ (∀ b, p x = .ok b → ET K tt env1 b) ∧ (∀ y, p x = .ok true → f x = .ok y → EV K te env1 (rb y))) : EN K (tLc wi g tt te vs) env (ys.map rb) :=
  en_compIf p f hi (compIf_some hf).2 (compIf_some hf).1 hw hj hb
/-! ### ratios -/
theorem mkQ_some {q : Rat} (h : mkQ i j = .ok q) : q.num = i ∧ (q.den : Int) = j := by
  unfold mkQ at h
  split at h
  · rename_i h2
    rw [← R.ok_inj h]
    exact ⟨rfl, by show ((j.toNat : Nat) : Int) = j; omega⟩
  · cases h
theorem ev_mkQ {q : Rat} (h : mkQ i j = .ok q) (ha : EV K ta env (dI i)) (hb : EV K tb env (dI j)) : EV K (tTup (tCons ta (tCons tb tNil))) env (dQ q) := by
  have e : dQ q = .tup [dI i, dI j] := by rw [← (mkQ_some h).1, ← (mkQ_some h).2]
  rw [e]; exact ev_tup (ea_cons ha (ea_cons hb ea_nil)) (show 2 ≤ sizeLine by decide)
/-! ### lists together, slices -/
theorem catR_some {α : Type} {xs ys zs : List α} (h : catR xs ys = .ok zs) : xs.length + ys.length ≤ 16777216 ∧ zs = xs ++ ys := by
  unfold catR at h
  split at h
  · exact ⟨by assumption, (R.ok_inj h).symm⟩
  · cases h
theorem en_cat {α : Type} {r : α → D} {xs ys zs : List α} (h : catR xs ys = .ok zs) (ha : EV K ta env (.lst (xs.map r))) (hb : EV K tb env (.lst (ys.map r))) : EN K (tOp (rCatS K) ta tb) env (zs.map r) := fun σ F H A O m w Q q =>
  ev_two ha hb m w fun x y F' H' s w' d1 d2 => by
    cases d1 with
    | lst a1 b1 =>
      cases d2 with
      | lst a2 b2 =>
        obtain ⟨h1, h2⟩ := catR_some h
        have l1 := b1.length
        have l2 := b2.length
        rw [List.length_map] at l1 l2
        exact ⟨_, _, _, _, rfl, rfl, w'.same.seq a1, w'.same.seq a2, by rw [l1, l2, sizeLine_eq]; exact h1, fun p n => q p _ F' _ s (w'.new n) (by rw [h2, List.map_append]; exact b1.append b2)⟩
theorem ev_catT {α : Type} {r : α → D} {xs ys zs : List α} (h : catR xs ys = .ok zs) (ha : EV K ta env (.tup (xs.map r))) (hb : EV K tb env (.tup (ys.map r))) : EV K (tOp (rCatA K) ta tb) env (.tup (zs.map r)) := fun σ F H A O m w Q q =>
  ev_two ha hb m w fun x y F' H' s w' d1 d2 => by
    cases d1 with
    | tup a1 b1 =>
      cases d2 with
      | tup a2 b2 =>
        obtain ⟨h1, h2⟩ := catR_some h
        have l1 := b1.length
        have l2 := b2.length
        rw [List.length_map] at l1 l2
        refine ⟨_, _, _, _, rfl, rfl, w'.same.sqt a1, w'.same.sqt a2, by rw [l1, l2, sizeLine_eq]; exact h1, fun e => ?_, fun _ e => ?_, fun _ _ p n => ?_⟩
        · subst e
          have : xs = [] := List.length_eq_zero_iff.mp (by rw [← l1]; rfl)
          have e3 : zs = ys := by rw [h2, this]; rfl
          exact q _ F' H' s w' (by rw [e3]; exact .tup a2 b2)
        · subst e
          have : ys = [] := List.length_eq_zero_iff.mp (by rw [← l2]; rfl)
          have e3 : zs = xs := by rw [h2, this, List.append_nil]
          exact q _ F' H' s w' (by rw [e3]; exact .tup a1 b1)
        · obtain ⟨w2, s2⟩ := w'.newF (o := .tup _) n
          exact q _ _ _ (s.trans s2) w2 (.tup (.of upd_same) (by rw [h2, List.map_append]; exact (b1.append b2).up s2))
theorem eo_none : EO K tNoPart env none := fun σ F H A O m w Q q => q F H (Same.refl F) w
theorem eo_some (h : EV K t env (dI i)) : EO K (tPart t) env (some i) := fun σ F H A O m w Q q => h σ F H A O m w _ fun v F1 H1 s1 w1 d1 => ⟨i, d1.int, q F1 H1 s1 w1⟩
theorem sIxP_eq (n d : Nat) (o : Option Int) : sIxP n d o = HT.sIx n d o := by
  unfold sIxP HT.sIx
  cases o with
  | none => rfl
  | some i => first | rfl | (simp only []; split <;> omega)
theorem cutV_eq (xs : List V) (lo hi : Option Int) : cutV xs lo hi = cutL xs lo hi := by
  unfold cutV cutL
  rw [sIxP_eq, sIxP_eq]
theorem Dats.cut {F : Hp} {α : Type} {r : α → D} {vs : List V} {xs : List α} (h : Dats K F vs (xs.map r)) (lo hi : Option Int) : Dats K F (cutV vs lo hi) ((cutL xs lo hi).map r) := by
  have l := h.length
  rw [List.length_map] at l
  rw [cutV_eq]
  unfold cutL
  rw [List.map_take, List.map_drop, l]
  exact (h.drop _).take _
theorem en_cut {α : Type} {r : α → D} {xs : List α} {tl th : TO} {lo hi : Option Int} (h : EV K te env (.lst (xs.map r))) (hl : EO K tl env lo) (hh : EO K th env hi) : EN K (tSl (rSlL K) te tl th) env ((cutL xs lo hi).map r) := fun σ F H A O m w Q q =>
  h σ F H A O m w _ fun v F1 H1 s1 w1 d1 => hl σ F1 H1 A O (m.up s1) w1 _ fun F2 H2 s2 w2 => hh σ F2 H2 A O (m.up (s1.trans s2)) w2 _ fun F3 H3 s3 w3 => by
    cases d1.up (s2.trans s3) with
    | lst a b => exact ⟨_, _, rfl, w3.same.seq a, fun p n => q p _ F3 _ (s1.trans (s2.trans s3)) (w3.new n) (b.cut lo hi)⟩
theorem ev_cutT {α : Type} {r : α → D} {xs : List α} {tl th : TO} {lo hi : Option Int} (h : EV K te env (.tup (xs.map r))) (hl : EO K tl env lo) (hh : EO K th env hi) : EV K (tSl (rSlA K) te tl th) env (.tup ((cutL xs lo hi).map r)) := fun σ F H A O m w Q q =>
  h σ F H A O m w _ fun v F1 H1 s1 w1 d1 => hl σ F1 H1 A O (m.up s1) w1 _ fun F2 H2 s2 w2 => hh σ F2 H2 A O (m.up (s1.trans s2)) w2 _ fun F3 H3 s3 w3 => by
    cases d1.up (s2.trans s3) with
    | tup a b =>
      refine ⟨_, _, rfl, w3.same.sqt a, fun e => ?_, fun e p n => ?_⟩
      · have e2 : (cutL xs lo hi).map r = xs.map r := by
          have l := b.length
          rw [List.length_map] at l
          unfold cutL
          rw [sIxP_eq, sIxP_eq, ← l, e.1, e.2, List.drop_zero, Nat.sub_zero, l, List.take_length]
        exact q _ F3 H3 (s1.trans (s2.trans s3)) w3 (by rw [e2]; exact .tup a b)
      · obtain ⟨w4, s4⟩ := w3.newF (o := .tup _) n
        exact q _ _ _ (s1.trans (s2.trans (s3.trans s4))) w4 (.tup (.of upd_same) ((b.cut lo hi).up s4))
/-! ### name op= e -/
theorem sw_augA {n : Nat} {a b c : Int} {r : Int → D} (hr : r = dI := by rfl) (h : R.ok (a + b) = R.ok c) (he : env[n]? = some (.dat (dI a))) (hb : EV K te env (dI b)) (hn : Nx (env.set n (.dat (dI c)))) : SW K E (tAug n te (ipI fun i j => i + j)) env Nx Rt Ex := fun σ F H A O m w Dn q1 q2 q4 => by
  obtain ⟨v, e1, dv⟩ := m.get he
  refine ⟨v, e1, hb σ F H A O m w _ fun y F1 H1 s1 w1 d1 => ⟨a, b, dv.int, d1.int, ?_⟩⟩
  have e := R.ok_inj h
  subst e
  obtain ⟨A', sb, m'⟩ := (m.up s1).set n (Dat.v (K := K) (F := F1) (.int _))
  exact q1 _ _ F1 H1 A' hn s1 m' (w1.subA sb)
theorem sw_augS {n : Nat} {a b c : Int} {r : Int → D} (hr : r = dI := by rfl) (h : R.ok (a - b) = R.ok c) (he : env[n]? = some (.dat (dI a))) (hb : EV K te env (dI b)) (hn : Nx (env.set n (.dat (dI c)))) : SW K E (tAug n te (ipI fun i j => i - j)) env Nx Rt Ex := fun σ F H A O m w Dn q1 q2 q4 => by
  obtain ⟨v, e1, dv⟩ := m.get he
  refine ⟨v, e1, hb σ F H A O m w _ fun y F1 H1 s1 w1 d1 => ⟨a, b, dv.int, d1.int, ?_⟩⟩
  have e := R.ok_inj h
  subst e
  obtain ⟨A', sb, m'⟩ := (m.up s1).set n (Dat.v (K := K) (F := F1) (.int _))
  exact q1 _ _ F1 H1 A' hn s1 m' (w1.subA sb)
/-! ### the greatest divisor's loop -/
theorem gcdR_some {x y g : Int} (h : gcdR x y = .ok g) : 0 ≤ x ∧ 0 ≤ y ∧ ((Int.gcd x y : Nat) : Int) = g := by
  unfold gcdR at h
  split at h
  · exact ⟨by omega, by omega, R.ok_inj h⟩
  · cases h
theorem sw_gcd {tb : TS} (ε : Int × Int → List Slot) {x0 y0 g : Int} (h : gcdR x0 y0 = .ok g) (h0 : Wk env (ε (x0, y0))) (ht : ∀ z, ET K tt (ε z) (decide (z.2 > 0)))
    (hb : ∀ (z : Int × Int) (w : Int), fmodR z.1 z.2 = .ok w → ((0 ≤ z.2 ∧ 0 ≤ w ∧ ((Int.gcd z.2 w : Nat) : Int) = g) ∧ w.toNat < z.2.toNat) → SW K E tb (ε z) (fun e => ∃ s' : Int × Int, (0 ≤ s'.1 ∧ 0 ≤ s'.2 ∧ ((Int.gcd s'.1 s'.2 : Nat) : Int) = g) ∧ s'.2.toNat < z.2.toNat ∧ Wk e (ε s')) Rt Ex)
    (hn : Nx (ε (g, 0))) : SW K E (tWhile tt tb) env Nx Rt Ex := by
  refine sw_while (S := Int × Int) (fun s => 0 ≤ s.1 ∧ 0 ≤ s.2 ∧ ((Int.gcd s.1 s.2 : Nat) : Int) = g) (fun s => s.2.toNat) ε (x0, y0) h0 (gcdR_some h) fun z hz => ⟨_, ht z, fun hc => ?_, fun hc => ?_⟩
  · obtain ⟨a, b⟩ := z
    have hb0 : 0 < b := of_decide_eq_true hc
    have e : fmodR a b = .ok (a.fmod b) := by unfold fmodR; rw [if_neg (by omega)]
    have e2 : a.fmod b = a % b := Int.fmod_eq_emod_of_nonneg a (by omega)
    have h1 := Int.emod_nonneg a (show b ≠ 0 by omega)
    have h2 := Int.emod_lt_of_pos a hb0
    refine hb (a, b) _ e ⟨⟨hz.2.1, by rw [e2]; exact h1, ?_⟩, by rw [e2]; show (a % b).toNat < b.toNat; omega⟩
    rw [e2]
    have h3 : Int.gcd b (a % b) = Int.gcd a b := by
      rw [Int.gcd_comm a b, Int.gcd_right_eq_iff]
      intro c hc0
      have h5 := Int.emod_add_mul_ediv a b
      have h6 : c ∣ b * (a / b) := Int.dvd_trans hc0 (Int.dvd_mul_right b (a / b))
      constructor
      · intro h7
        rw [← h5]; exact Int.dvd_add h7 h6
      · intro h7
        have h8 : a % b = a - b * (a / b) := by omega
        rw [h8]; exact Int.dvd_sub h7 h6
    show ((Int.gcd b (a % b) : Nat) : Int) = g
    rw [h3]; exact hz.2.2
  · obtain ⟨a, b⟩ := z
    have hb0 : ¬ b > 0 := of_decide_eq_false hc
    have hb2 : 0 ≤ b := hz.2.1
    have hb1 : b = 0 := by omega
    subst hb1
    have h3 : ((Int.gcd a 0 : Nat) : Int) = g := hz.2.2
    rw [Int.gcd_zero_right] at h3
    have h5 : 0 ≤ a := hz.1
    have h4 : a = g := by omega
    subst h4
    exact hn
end
end Pg

set_option Elab.async false
set_option linter.all false
set_option maxRecDepth 100000
namespace Pg
open PySem PySem.Spec PyProof.Rows L2
/-! ### == of data -/
/-- how the data of a kind compare -/
structure EqR {α : Type} (r : α → D) where
  py : α → PyData
  dep : Nat
  ok : ∀ (K : PySem.W.Frag) (F H : Hp) (v : V) (x : α), Same F H → Dat K F v (r x) → Dp K H v (py x)
  lay : ∀ x, (py x).canLay0 = true
  depth : ∀ x, (py x).depth ≤ dep
  eqv : ∀ x y, PyData.eqv (py x) (py y) = true ↔ x = y
section
variable {α β γ δ ε : Type} {r : α → D}
def eqI : EqR dI where
  py := .int
  dep := 1
  ok := fun K F H v x s h => by rw [h.int]; exact .int x
  lay := fun _ => by simp [PyData.canLay0]
  depth := fun _ => by simp [PyData.depth]
  eqv := fun x y => by simp [PyData.eqv]
def eqB : EqR dB where
  py := .bool
  dep := 1
  ok := fun K F H v x s h => by rw [h.bl]; exact .bl x
  lay := fun _ => by simp [PyData.canLay0]
  depth := fun _ => by simp [PyData.depth]
  eqv := fun x y => by simp [PyData.eqv]
theorem eqvAll_map {f : α → PyData} (h : ∀ x y, PyData.eqv (f x) (f y) = true ↔ x = y) : ∀ xs ys : List α, PyData.eqvAll (xs.map f) (ys.map f) = true ↔ xs = ys := by
  intro xs
  induction xs with
  | nil => intro ys; cases ys <;> simp [PyData.eqvAll]
  | cons x xs ih => intro ys; cases ys <;> simp [PyData.eqvAll, h, ih]
theorem layAll_map {f : α → PyData} (h : ∀ x, (f x).canLay0 = true) : ∀ xs : List α, PyData.canLayAll0 (xs.map f) = true
  | [] => by simp [PyData.canLayAll0]
  | x :: xs => by simp [PyData.canLayAll0, h, layAll_map h xs]
theorem depthAll_map {f : α → PyData} {n : Nat} (h : ∀ x, (f x).depth ≤ n) : ∀ xs : List α, PyData.depthAll (xs.map f) ≤ n := by
  intro xs
  induction xs with
  | nil => exact Nat.zero_le n
  | cons x xs ih => exact Nat.max_le.mpr ⟨h x, ih⟩
theorem dpAll_map {K : PySem.W.Frag} {F H : Hp} (e : EqR r) (s : Same F H) : ∀ (xs : List α) (vs : List V), Dats K F vs (xs.map r) → DpAll K H vs (xs.map e.py)
  | [], _, h => by cases h; exact .nil
  | x :: xs, _, h => by
    cases h with
    | cons a b => exact .cons (e.ok K F H _ x s a) (dpAll_map e s xs _ b)
def eqL (e : EqR r) : EqR (dL r) where
  py := fun xs => .list (xs.map e.py)
  dep := e.dep + 1
  ok := fun K F H v xs s h => by
    cases h with
    | lst a b => exact .lst (s.seq a) (dpAll_map e s xs _ b)
  lay := fun xs => by simp [PyData.canLay0, layAll_map e.lay]
  depth := fun xs => by simpa [PyData.depth] using depthAll_map e.depth xs
  eqv := fun xs ys => by rw [PyData.eqv]; exact eqvAll_map e.eqv xs ys
def eqT (e : EqR r) : EqR (dT r) where
  py := fun xs => .tuple (xs.map e.py)
  dep := e.dep + 1
  ok := fun K F H v xs s h => by
    cases h with
    | tup a b => exact .tup (s.sqt a) (dpAll_map e s xs _ b)
  lay := fun xs => by simp [PyData.canLay0, layAll_map e.lay]
  depth := fun xs => by simpa [PyData.depth] using depthAll_map e.depth xs
  eqv := fun xs ys => by rw [PyData.eqv]; exact eqvAll_map e.eqv xs ys
def eq2 {r : α → D} {r2 : β → D} (e : EqR r) (e2 : EqR r2) : EqR (d2 r r2) where
  py := fun x => .tuple [e.py x.1, e2.py x.2]
  dep := max e.dep e2.dep + 1
  ok := fun K F H v x s h => by
    cases h with
    | tup a b =>
      cases b with
      | cons b1 b =>
        cases b with
        | cons b2 b =>
          cases b
          exact .tup (s.sqt a) (.cons (e.ok _ _ _ _ _ s b1) (.cons (e2.ok _ _ _ _ _ s b2) .nil))
  lay := fun x => by simp [PyData.canLay0, PyData.canLayAll0, e.lay, e2.lay]
  depth := fun x => by
    have h1 := e.depth x.1
    have h2 := e2.depth x.2
    simp only [PyData.depth, PyData.depthAll]
    omega
  eqv := fun x y => by
    simp only [PyData.eqv, PyData.eqvAll, Bool.and_eq_true, e.eqv, e2.eqv, and_true]
    exact ⟨fun h => Prod.ext h.1 h.2, fun h => by subst h; exact ⟨rfl, rfl⟩⟩
def eq3 {r : α → D} {r2 : β → D} {r3 : γ → D} (e : EqR r) (e2 : EqR r2) (e3 : EqR r3) : EqR (d3 r r2 r3) where
  py := fun x => .tuple [e.py x.1, e2.py x.2.1, e3.py x.2.2]
  dep := max e.dep (max e2.dep e3.dep) + 1
  ok := fun K F H v x s h => by
    cases h with
    | tup a b =>
      cases b with
      | cons b1 b =>
        cases b with
        | cons b2 b =>
          cases b with
          | cons b3 b =>
            cases b
            exact .tup (s.sqt a) (.cons (e.ok _ _ _ _ _ s b1) (.cons (e2.ok _ _ _ _ _ s b2) (.cons (e3.ok _ _ _ _ _ s b3) .nil)))
  lay := fun x => by simp [PyData.canLay0, PyData.canLayAll0, e.lay, e2.lay, e3.lay]
  depth := fun x => by
    have h1 := e.depth x.1
    have h2 := e2.depth x.2.1
    have h3 := e3.depth x.2.2
    simp only [PyData.depth, PyData.depthAll]
    omega
  eqv := fun x y => by
    simp only [PyData.eqv, PyData.eqvAll, Bool.and_eq_true, e.eqv, e2.eqv, e3.eqv, and_true]
    exact ⟨fun h => Prod.ext h.1 (Prod.ext h.2.1 h.2.2), fun h => by subst h; exact ⟨rfl, rfl, rfl⟩⟩
def eq4 {r : α → D} {r2 : β → D} {r3 : γ → D} {r4 : δ → D} (e : EqR r) (e2 : EqR r2) (e3 : EqR r3) (e4 : EqR r4) : EqR (d4 r r2 r3 r4) where
  py := fun x => .tuple [e.py x.1, e2.py x.2.1, e3.py x.2.2.1, e4.py x.2.2.2]
  dep := max e.dep (max e2.dep (max e3.dep e4.dep)) + 1
  ok := fun K F H v x s h => by
    cases h with
    | tup a b =>
      cases b with
      | cons b1 b =>
        cases b with
        | cons b2 b =>
          cases b with
          | cons b3 b =>
            cases b with
            | cons b4 b =>
              cases b
              exact .tup (s.sqt a) (.cons (e.ok _ _ _ _ _ s b1) (.cons (e2.ok _ _ _ _ _ s b2) (.cons (e3.ok _ _ _ _ _ s b3) (.cons (e4.ok _ _ _ _ _ s b4) .nil))))
  lay := fun x => by simp [PyData.canLay0, PyData.canLayAll0, e.lay, e2.lay, e3.lay, e4.lay]
  depth := fun x => by
    have h1 := e.depth x.1
    have h2 := e2.depth x.2.1
    have h3 := e3.depth x.2.2.1
    have h4 := e4.depth x.2.2.2
    simp only [PyData.depth, PyData.depthAll]
    omega
  eqv := fun x y => by
    simp only [PyData.eqv, PyData.eqvAll, Bool.and_eq_true, e.eqv, e2.eqv, e3.eqv, e4.eqv, and_true]
    exact ⟨fun h => Prod.ext h.1 (Prod.ext h.2.1 (Prod.ext h.2.2.1 h.2.2.2)), fun h => by subst h; exact ⟨rfl, rfl, rfl, rfl⟩⟩
def eqQ : EqR dQ where
  py := fun q => .tuple [.int q.num, .int (q.den : Int)]
  dep := 2
  ok := fun K F H v x s h => (eq2 eqI eqI).ok K F H v (x.num, (x.den : Int)) s h
  lay := fun _ => by simp [PyData.canLay0, PyData.canLayAll0]
  depth := fun _ => by simp [PyData.depth, PyData.depthAll]
  eqv := fun x y => by
    simp only [PyData.eqv, PyData.eqvAll, Bool.and_eq_true, beq_iff_eq, and_true]
    exact ⟨fun h => Rat.ext h.1 (by omega), fun h => by subst h; exact ⟨rfl, rfl⟩⟩
end
section
variable {K : PySem.W.Frag} {env : List Slot} {ta tb : TE} {α : Type} {r : α → D} {x y : α}
theorem eqv_dec [DecidableEq α] (e : EqR r) (x y : α) : PyData.eqv (e.py x) (e.py y) = decide (x = y) := by
  rw [Bool.eq_iff_iff, e.eqv, decide_eq_true_iff]
theorem shaped_of (e : EqR r) (h : e.dep ≤ 64) (x : α) : SeqAt.shaped (e.py x) = true := by
  unfold SeqAt.shaped
  rw [e.lay, decide_eq_true (Nat.le_trans (e.depth x) h)]
  rfl
theorem ev_eqD [DecidableEq α] (e : EqR r) (ha : EV K ta env (r x)) (hb : EV K tb env (r y)) (h : e.dep ≤ 64 := by decide) : EV K (tOp (rEqD K) ta tb) env (dB (decide (x = y))) := fun σ F H A O m w Q q =>
  ev_two ha hb m w fun u v F' H' s w' d1 d2 => ⟨_, _, e.ok _ _ _ _ _ w'.same d1, e.ok _ _ _ _ _ w'.same d2, shaped_of e h x, shaped_of e h y, by rw [eqv_dec]; exact q _ F' H' s w' (.v _)⟩
theorem ev_neD [DecidableEq α] (e : EqR r) (ha : EV K ta env (r x)) (hb : EV K tb env (r y)) (h : e.dep ≤ 64 := by decide) : EV K (tOp (rNeD K) ta tb) env (dB (!decide (x = y))) := fun σ F H A O m w Q q =>
  ev_two ha hb m w fun u v F' H' s w' d1 d2 => ⟨_, _, e.ok _ _ _ _ _ w'.same d1, e.ok _ _ _ _ _ w'.same d2, shaped_of e h x, shaped_of e h y, by rw [eqv_dec]; exact q _ F' H' s w' (.v _)⟩
end
end Pg

set_option Elab.async false
set_option linter.all false
set_option maxRecDepth 100000
namespace Pg
open PySem PySem.Spec PyProof.Rows L2
/-! ### the head's facts: defs, names, and one Bool of one's own -/
abbrev AlP : Type := He.AlD × Bool
def obsP (n : Nat) (fa : List He.Fa) (fn : List He.DefD) (ex : PySem.W.Frag → Bool) (g : Addr → Option Obj) : AlP := (He.obsD fa fn (He.frG g (He.asD g n)), ex (He.frG g (He.asD g n)))
def SaysP (fa : List He.Fa) (fn : List He.DefD) (ex : PySem.W.Frag → Bool) (K : PySem.W.Frag) : Prop := He.SaysD fa fn K ∧ ex K = true
def hookP (n : Nat) (fa : List He.Fa) (fn : List He.DefD) (ex : PySem.W.Frag → Bool) : PySem.W.Hook where
  α := AlP
  obs := fun s => obsP n fa fn ex s.heap.get?
  val := fun _ => (He.valD fn, true)
  says := fun _ h => ∃ K : PySem.W.Frag, K.In h ∧ SaysP fa fn ex K
  of := fun _ _ e => ⟨_, He.frG_in, congrArg Prod.fst e, congrArg Prod.snd e⟩
  keeps := fun _ _ _ ⟨K, hK, c⟩ k => ⟨K, PySem.W.Frag.In.keeps hK k, c⟩
def obT (n : Nat) (fa : List He.Fa) (fn : List He.DefD) (ex : PySem.W.Frag → Bool) (s : PySem.W.SharedT) : AlP := obsP n fa fn ex (HandSHeadRun.getT s)
theorem obT_eq {n : Nat} {fa : List He.Fa} {fn : List He.DefD} {ex : PySem.W.Frag → Bool} (s : PySem.W.SharedT) : obT n fa fn ex s = (hookP n fa fn ex).obs s.abs := by
  have e : HandSHeadRun.getT s = s.abs.heap.get? := funext (HandSHeadRun.getT_eq s)
  unfold obT
  rw [e] <;> rfl
/-! ### constants of the top -/
def relD : Value → V → Bool
  | .none, .non => true
  | .bool b, .bl c => b == c
  | .int i _, .int j => decide (i = j)
  | .str x _, .str y => decide (x = y)
  | _, _ => false
mutual
/-- the datum d as the written part K bears it -/
def conB (K : PySem.W.Frag) : Nat → Value → D → Bool
  | _, u, .v x => relD u x
  | n + 1, .ref a, .tup ds => (match K.lookup a with
    | some ⟨.type "tuple", _, .seq its _, _⟩ => decide (its.size ≤ sizeLine) && conAll K n its.toList ds
    | _ => false)
  | _, _, _ => false
def conAll (K : PySem.W.Frag) : Nat → List Value → List D → Bool
  | _, [], [] => true
  | n, u :: us, d :: ds => conB K n u d && conAll K n us ds
  | _, _, _ => false
end
end Pg
namespace Pg
open PySem PySem.Spec PyProof.Rows L2
theorem dats_ints {K : PySem.W.Frag} {F : Hp} : ∀ ns : List Int, Dats K F (ns.map V.int) (ns.map dI)
  | [] => .nil
  | _ :: ns => .cons (.v _) (dats_ints ns)
theorem bits_log {z : Int} (h : Builtin.Int.intBits z ≤ 1048576) : z.natAbs.log2 ≤ 1048576 := by
  unfold Builtin.Int.intBits at h
  split at h
  · rename_i e
    have : z = 0 := by simpa using e
    subst this
    decide
  · omega
/-- the law's promise at its script -/
theorem law_sp {K : PySem.W.Frag} {f : List Int → R Bool} (hf : ∀ ns : List Int, ns.length ≤ 63 → (∀ z ∈ ns, z.natAbs.log2 ≤ 1048576) → f ns = .ok true) (H : Hp) (a : Addr) (ns : List Int) (hl : ns.length ≤ 63)
    (hb : ∀ z ∈ ns, Builtin.Int.intBits z ≤ 1048576) (hS : SqL K H a (ns.map V.int)) : spR K (fun (x : List Int) => [dL dI x]) f dB [.ref a] H (fun v _ => v = .bl true) fun _ _ _ => False :=
  ⟨ns, H, [], true, Own.refl H, .cons (.lst hS (dats_ints ns)) .nil, hf ns hl fun z hz => bits_log (hb z hz), fun v F' H' _ _ d => d.bl⟩
end Pg

set_option Elab.async false
set_option linter.all false
/-! Pg: more outcomes; core Lean alone. -/
namespace Pg
/-- how many numbers range(i, j, c) has -/
def stepN (i j c : Int) : Nat := if c > 0 then (if i < j then ((j - i - 1) / c + 1).toNat else 0) else (if i > j then ((i - j - 1) / (-c) + 1).toNat else 0)
def rng3R (i j c : Int) : R (List Int) := if c ≠ 0 ∧ c.natAbs < 1073741824 ∧ -(2 ^ 61) ≤ i ∧ i < 2 ^ 61 ∧ -(2 ^ 61) ≤ j ∧ j < 2 ^ 61 then .ok ((List.range (stepN i j c)).map fun k => i + (k : Nat) * c) else .bad
/-- room for one more -/
def roomR {α : Type} (xs : List α) : R Unit := if xs.length < 16777216 then .ok () else .bad
def insR {α : Type} (xs : List α) (i : Int) (x : α) : R (List α) := if xs.length < 16777216 ∧ 0 ≤ i ∧ i < 2 ^ 63 then .ok (xs.take i.toNat ++ [x] ++ xs.drop i.toNat) else .bad
def extR {α : Type} (xs ys : List α) : R (List α) := if xs.length + ys.length ≤ 16777216 then .ok (xs ++ ys) else .bad
/-- two lists walked together -/
def zipL {α β : Type} : List α → List β → List (α × β)
  | [], _ => []
  | _ :: _, [] => []
  | x :: xs, y :: ys => (x, y) :: zipL xs ys
/-- what an option holds -/
def getR {α : Type} : Option α → R α
  | some x => .ok x
  | none => .bad
def tup2R {α : Type} : List α → R (α × α)
  | [a, b] => .ok (a, b)
  | _ => .bad
def tup3R {α : Type} : List α → R (α × α × α)
  | [a, b, c] => .ok (a, b, c)
  | _ => .bad
end Pg
namespace Pg
/-- xss[i][j] = x -/
def set2R {α : Type} (xss : List (List α)) (i j : Int) (x : α) : R (List (List α)) := R.bind (atR xss i) fun row => R.bind (setR row j x) fun row' => setR xss i row'
end Pg
namespace Pg
/-- xss[i].append(x) -/
def app2R {α : Type} (xss : List (List α)) (i : Int) (x : α) : R (List (List α)) := R.bind (atR xss i) fun row => R.bind (appR row x) fun row' => setR xss i row'
end Pg
namespace Pg
/-- xs.pop() -/
def popR {α : Type} (xs : List α) : R (List α) := if xs.isEmpty = true then .bad else .ok xs.dropLast
/-- every row with one more -/
def appAllR {α : Type} (xss : List (List α)) (x : α) : R (List (List α)) := if (xss.all fun r => decide (r.length < 16777216)) = true then .ok (xss.map (· ++ [x])) else .bad
section
variable {κ β : Type} [DecidableEq κ]
/-- a dict's pairs -/
def putA (xs : List (κ × β)) (k : κ) (v : β) : List (κ × β) := if (xs.any fun p => decide (p.1 = k)) = true then xs.map (fun p => if p.1 = k then (p.1, v) else p) else xs ++ [(k, v)]
def hasA (xs : List (κ × β)) (k : κ) : Bool := xs.any fun p => decide (p.1 = k)
def getA (xs : List (κ × β)) (k : κ) : Option β := (xs.find? fun p => decide (p.1 = k)).map (·.2)
def putR (xs : List (κ × β)) (k : κ) (v : β) : R (List (κ × β)) := if xs.length < 16777216 then .ok (putA xs k v) else .bad
end
end Pg

set_option Elab.async false
set_option linter.all false
set_option maxRecDepth 100000
namespace Pg
open PySem PySem.Spec PyProof.Rows L2
/-! ### two lists, two tuples walked together -/
section
variable {K : PySem.W.Frag} {na : Option Addr} {E : WX} {env : List Slot} {t ta tb te : TE} {tt : TT} {i j k : Int} {d : D} {ds es : List D} {Nx : List Slot → Prop} {Rt : List Slot → T → Prop} {Ex : List Slot → Value → Prop}
def zipD : List D → List D → List D
  | [], _ => []
  | _ :: _, [] => []
  | x :: xs, y :: ys => .tup [x, y] :: zipD xs ys
theorem zipD_get : ∀ {ds es : List D} {i : Nat} {d : D}, (zipD ds es)[i]? = some d → ∃ x y, ds[i]? = some x ∧ es[i]? = some y ∧ d = .tup [x, y]
  | [], _, i, d, h => by simp [zipD] at h
  | _ :: _, [], i, d, h => by simp [zipD] at h
  | x :: xs, y :: ys, 0, d, h => by
    simp [zipD] at h
    exact ⟨x, y, rfl, rfl, h.symm⟩
  | x :: xs, y :: ys, i + 1, d, h => by
    simp [zipD] at h
    obtain ⟨a, b, h1, h2, h3⟩ := zipD_get h
    exact ⟨a, b, by simpa using h1, by simpa using h2, h3⟩
theorem zipD_len : ∀ (ds es : List D), (zipD ds es).length = min ds.length es.length
  | [], _ => by simp [zipD]
  | _ :: _, [] => by simp [zipD]
  | x :: xs, y :: ys => by simp only [zipD, List.length_cons, zipD_len xs ys]; omega
theorem zipD_map {α β : Type} (f : α → D) (g : β → D) : ∀ (xs : List α) (ys : List β), zipD (xs.map f) (ys.map g) = (zipL xs ys).map (d2 f g)
  | [], _ => by simp [zipD, zipL]
  | _ :: _, [] => by simp [zipD, zipL]
  | x :: xs, y :: ys => by
    show D.tup [f x, g y] :: zipD (xs.map f) (ys.map g) = D.tup [f x, g y] :: (zipL xs ys).map (d2 f g)
    rw [zipD_map f g xs ys]
theorem own_pair {F F' H : Hp} {O : List (Addr × HO)} {T : Addr} {x y : V} {d e : D} (w : Own F' H O) (n : H T = none) (dx : Dat K F' x d) (dy : Dat K F' y e) :
    ∃ F'', Same F' F'' ∧ Own F'' (upd H T (.tup [x, y])) O ∧ Dat K F'' (.ref T) (.tup [d, e]) := by
  obtain ⟨w2, s2⟩ := w.newF (o := .tup [x, y]) n
  exact ⟨_, s2, w2, .tup (.of upd_same) (.cons (dx.up s2) (.cons (dy.up s2) .nil))⟩
theorem walks_zipT {F : Hp} {a b : Addr} {xs ys : List V} (hx : SqT K F a xs) (hy : SqT K F b ys) (dx : Dats K F xs ds) (dy : Dats K F ys es) : Walks K (RZ.ItzT K a b) F (zipD ds es) := by
  refine ⟨fun i F' H O d s w' hd => ?_, fun i F' H O s w' hl => ⟨xs, ys, w'.same.sqt (s.sqt hx), w'.same.sqt (s.sqt hy), ?_⟩⟩
  case refine_2 =>
    rw [zipD_len] at hl
    rw [dx.length, dy.length]; omega
  obtain ⟨u, v, h1, h2, rfl⟩ := zipD_get hd
  obtain ⟨x, e1, q1⟩ := dx.get h1
  obtain ⟨y, e2, q2⟩ := dy.get h2
  have hx2 := w'.same.sqt (s.sqt hx)
  have hy2 := w'.same.sqt (s.sqt hy)
  refine ⟨⟨xs, ys, x, y, hx2, hy2, e1, e2⟩, fun z H' hz => ?_⟩
  obtain ⟨T, x', y', rfl, hT, rfl, f1, f2⟩ := hz
  have ex : x = x' := Option.some.inj (e1.symm.trans (f1 xs hx2))
  have ey : y = y' := Option.some.inj (e2.symm.trans (f2 ys hy2))
  subst ex ey
  exact own_pair (F := F) w' hT (q1.up s) (q2.up s)
theorem walks_zipL {F : Hp} {a b : Addr} {xs ys : List V} (hx : SqL K F a xs) (hy : SqL K F b ys) (dx : Dats K F xs ds) (dy : Dats K F ys es) : Walks K (Itz K a b) F (zipD ds es) := by
  refine ⟨fun i F' H O d s w' hd => ?_, fun i F' H O s w' hl => ⟨xs, ys, w'.same.seq (s.seq hx), w'.same.seq (s.seq hy), ?_⟩⟩
  case refine_2 =>
    rw [zipD_len] at hl
    rw [dx.length, dy.length]; omega
  obtain ⟨u, v, h1, h2, rfl⟩ := zipD_get hd
  obtain ⟨x, e1, q1⟩ := dx.get h1
  obtain ⟨y, e2, q2⟩ := dy.get h2
  have hx2 := w'.same.seq (s.seq hx)
  have hy2 := w'.same.seq (s.seq hy)
  refine ⟨⟨xs, ys, x, y, hx2, hy2, e1, e2⟩, fun z H' hz => ?_⟩
  obtain ⟨T, x', y', rfl, hT, rfl, f1, f2⟩ := hz
  have ex : x = x' := Option.some.inj (e1.symm.trans (f1 xs hx2))
  have ey : y = y' := Option.some.inj (e2.symm.trans (f2 ys hy2))
  subst ex ey
  exact own_pair (F := F) w' hT (q1.up s) (q2.up s)
theorem iv_zipT {α β : Type} {f : α → D} {g : β → D} {xs : List α} {ys : List β} (ha : EV K ta env (.tup (xs.map f))) (hb : EV K tb env (.tup (ys.map g))) : IV K (RZ.iZipA K (tCons ta (tCons tb tNil))) env ((zipL xs ys).map (d2 f g)) := fun σ F H A O m w Q q =>
  ev_two ha hb m w fun x y F' H' s w' d1 d2 => by
    rw [← zipD_map] at q
    cases d1 with
    | tup a1 b1 =>
      cases d2 with
      | tup a2 b2 => exact ⟨_, _, _, _, rfl, .inr ⟨w'.same.sqt a1, w'.same.sqt a2, q _ F' H' s w' (walks_zipT a1 a2 b1 b2)⟩⟩
theorem iv_zipL {α β : Type} {f : α → D} {g : β → D} {xs : List α} {ys : List β} (ha : EV K ta env (.lst (xs.map f))) (hb : EV K tb env (.lst (ys.map g))) : IV K (RZ.iZipA K (tCons ta (tCons tb tNil))) env ((zipL xs ys).map (d2 f g)) := fun σ F H A O m w Q q =>
  ev_two ha hb m w fun x y F' H' s w' d1 d2 => by
    rw [← zipD_map] at q
    cases d1 with
    | lst a1 b1 =>
      cases d2 with
      | lst a2 b2 => exact ⟨_, _, _, _, rfl, .inl ⟨w'.same.seq a1, w'.same.seq a2, q _ F' H' s w' (walks_zipL a1 a2 b1 b2)⟩⟩
/-! ### reversed -/
theorem walks_revL {F : Hp} {a : Addr} {xs : List V} (hx : SqL K F a xs) (dx : Dats K F xs ds) : Walks K (Itv K a xs.length) F ds.reverse := by
  refine ⟨fun i F' H O d s w' hd => ?_, fun i F' H O s w' hl => ?_⟩
  case refine_2 => rw [List.length_reverse, ← dx.length] at hl; exact hl
  have hi : i < ds.length := by
    rcases Nat.lt_or_ge i ds.length with z | z
    · exact z
    · rw [List.getElem?_eq_none (by simpa using z)] at hd; cases hd
  rw [List.getElem?_reverse hi] at hd
  obtain ⟨x, e1, q1⟩ := dx.get hd
  rw [← dx.length] at e1 hi
  have hx2 := w'.same.seq (s.seq hx)
  refine ⟨⟨hi, xs, x, hx2, e1⟩, fun z H' hz => ?_⟩
  obtain ⟨e2, e3⟩ := hz
  subst e2
  have : x = z := Option.some.inj (e1.symm.trans (e3 _ hx2))
  subst this
  exact ⟨F', Same.refl _, w', q1.up s⟩
theorem iv_revL {α : Type} {f : α → D} {xs : List α} (ha : EV K te env (.lst (xs.map f))) : IV K (RT.iRevA K te) env (xs.reverse.map f) := fun σ F H A O m w Q q => ha σ F H A O m w _ fun v F1 H1 s1 w1 d1 => by
  rw [List.map_reverse] at q
  cases d1 with
  | lst a b => exact ⟨_, _, rfl, .inl ⟨w1.same.seq a, q _ F1 H1 s1 w1 (walks_revL a b)⟩⟩
/-! ### range of three -/
theorem walks_rngC (lo c : Int) (n : Nat) (F : Hp) : Walks K (Itc lo c n) F (((List.range n).map fun k => lo + (k : Nat) * c).map dI) := by
  refine ⟨fun i F' H O d s w' hd => ?_, fun i F' H O s w' hl => ?_⟩
  case refine_2 => rw [List.length_map, List.length_map, List.length_range] at hl; exact hl
  rw [List.map_map, List.getElem?_map] at hd
  by_cases hi : i < n
  · rw [List.getElem?_range hi] at hd
    have e : dI (lo + (i : Nat) * c) = d := Option.some.inj hd
    subst e
    refine ⟨hi, fun y H' hy => ?_⟩
    obtain ⟨e1, e2⟩ := hy
    subst e1 e2
    exact ⟨F', Same.refl _, w', .v _⟩
  · rw [List.getElem?_eq_none (by simpa using hi)] at hd
    cases hd
theorem step_small {i j c : Int} (h0 : c ≠ 0) (hc : c.natAbs < 1073741824) (h1 : -(2 ^ 61) ≤ i) (h2 : i < 2 ^ 61) (h3 : -(2 ^ 61) ≤ j) (h4 : j < 2 ^ 61) : RgC i j c (stepN i j c) := by
  have e : Builtin.Range.rangeSize i j c = (stepN i j c : Nat) := by
    unfold Builtin.Range.rangeSize stepN
    split
    · split
      · have := Int.ediv_nonneg (a := j - i - 1) (b := c) (by omega) (by omega)
        omega
      · rfl
    · split
      · have := Int.ediv_nonneg (a := i - j - 1) (b := -c) (by omega) (by omega)
        omega
      · rfl
  have b := PyProof.Rows.rangeSize_toNat_le i j c
  have p := PyProof.Rows.rangeSize_toNat i j c
  refine ⟨h0, hc, ?_, e⟩
  unfold Builtin.Range.small
  simp only [Builtin.Range.rangeFitsLong, Bool.and_eq_true, Bool.or_eq_true, decide_eq_true_eq, beq_iff_eq]
  refine ⟨⟨⟨⟨by omega, by omega⟩, by omega⟩, by omega⟩, .inr ?_⟩
  split <;> simp only [Bool.and_eq_true, decide_eq_true_eq] <;> omega
theorem rng3R_some {i j c : Int} {xs : List Int} (h : rng3R i j c = .ok xs) : RgC i j c (stepN i j c) ∧ xs = (List.range (stepN i j c)).map fun k => i + (k : Nat) * c := by
  unfold rng3R at h
  split at h
  · rename_i q
    exact ⟨step_small q.1 q.2.1 q.2.2.1 q.2.2.2.1 q.2.2.2.2.1 q.2.2.2.2.2, (R.ok_inj h).symm⟩
  · cases h
theorem iv_rng3 {tc : TE} {i j c : Int} {xs : List Int} (hx : rng3R i j c = .ok xs) (ha : EV K ta env (dI i)) (hb : EV K tb env (dI j)) (hc : EV K tc env (dI c)) : IV K (iRng3 (tCons ta (tCons tb (tCons tc tNil)))) env (xs.map dI) := fun σ F H A O m w Q q =>
  ev_two ha hb m w fun x y F' H' s w' d1 d2 => hc σ F' H' A O (m.up s) w' _ fun z F2 H2 s2 w2 d3 => by
    obtain ⟨h, e⟩ := rng3R_some hx
    rw [d1.int, d2.int, d3.int]
    refine ⟨i, j, c, _, rfl, h, q _ F2 H2 (s.trans s2) w2 ?_⟩
    rw [e]
    exact walks_rngC (K := K) i c _ F2
/-! ### own lists lent -/
mutual
def noL : D → Bool
  | .v _ => true
  | .tup ds => noLs ds
  | .lst _ => false
  | .ins _ _ => false
  | .hp _ => true
  | .ob _ => true
def noLs : List D → Bool
  | [] => true
  | d :: ds => noL d && noLs ds
end
def isTree : HO → Bool
  | .lst _ => true
  | .ins _ _ _ => true
  | .own _ => true
  | .dK _ => true
  | .dT _ => true
  | _ => false
def del (F : Hp) (p : Addr) : Hp := fun b => if b = p then none else F b
theorem del_ne {F : Hp} {p b : Addr} (h : b ≠ p) : del F p b = F b := if_neg h
theorem sqt_del {F : Hp} {p a : Addr} {o0 : HO} {xs : List V} (e : F p = some o0) (ho : isTree o0 = true) (h : SqT K F a xs) : SqT K (del F p) a xs := by
  rcases h with (h | ⟨o, h⟩) | h
  · exact .inl (.inl (by rw [del_ne]; exact h; intro z; subst z; rw [e] at h; cases h; cases ho))
  · exact .inl (.inr ⟨o, by rw [del_ne]; exact h; intro z; subst z; rw [e] at h; cases h; cases ho⟩)
  · exact .inr h
mutual
theorem Dat.del {F : Hp} {p : Addr} {o0 : HO} (e : F p = some o0) (ho : isTree o0 = true) : ∀ (d : D) (v : V), noL d = true → Dat K F v d → Dat K (Pg.del F p) v d
  | .v x, _, _, h => by cases h; exact .v x
  | .tup ds, _, n, h => by
    cases h with
    | tup a b => exact .tup (sqt_del e ho a) (Dats.del e ho ds _ n b)
  | .lst ds, _, n, h => by cases n
  | .ins _ _, _, n, h => by cases n
  | .hp k, _, n, h => by
    cases h with
    | @hp a _ q => exact .hp (by rw [del_ne]; exact q; intro z; subst z; rw [e] at q; cases q; cases ho)
  | .ob φ, _, n, h => by
    cases h with
    | @ob a _ q => exact .ob (by rw [del_ne]; exact q; intro z; subst z; rw [e] at q; cases q; cases ho)
theorem Dats.del {F : Hp} {p : Addr} {o0 : HO} (e : F p = some o0) (ho : isTree o0 = true) : ∀ (ds : List D) (vs : List V), noLs ds = true → Dats K F vs ds → Dats K (Pg.del F p) vs ds
  | [], _, _, h => by cases h; exact .nil
  | d :: ds, _, n, h => by
    cases h with
    | cons a b =>
      have n2 := Bool.and_eq_true_iff.mp n
      exact .cons (Dat.del e ho d _ n2.1 a) (Dats.del e ho ds _ n2.2 b)
end
theorem lend {σ : L2.St} {F H : Hp} {A O : List (Addr × HO)} {n : Nat} {xs : List D} (h : env[n]? = some (.ownN na xs)) (m : Match K F σ env A) (w : Own F H (A ++ O)) :
    ∃ (p : Addr) (vs : List V) (A' : List (Addr × HO)) (F1 : Hp), Same F F1 ∧ F1 p = some (.lst vs) ∧ Match K F1 σ (env.set n (.dat (.lst xs))) A' ∧ Own F1 H (A' ++ O) ∧
      ∀ F' H' B, Same F1 F' → Own F' H' (B ++ (A' ++ O)) → Same F (del F' p) ∧ Own (del F' p) H' (B ++ (A ++ O)) := by
  obtain ⟨p, vs, A1, A2, e, h1, h2, _, h5⟩ := m.getO h
  subst e
  have w0 := w
  rw [List.append_assoc] at w
  have hp := w.mid.has (p, .lst vs) List.mem_cons_self
  obtain ⟨w2, s2⟩ := w.mid.frz
  have w2 : Own (upd F p (.lst vs)) H (A1 ++ A2 ++ O) := by rw [List.append_assoc]; exact w2
  refine ⟨p, vs, A1 ++ A2, upd F p (.lst vs), s2, upd_same, h5 _ _ s2 (.lst (.of upd_same) (h2.up s2)), w2, fun F' H' B s w' => ?_⟩
  have ep : F' p = some (.lst vs) := s _ _ upd_same
  refine ⟨fun b u e => ?_, ?_⟩
  · have hb : b ≠ p := fun z => by subst z; rw [hp.1] at e; cases e
    rw [del_ne hb]
    exact s _ _ (by rw [upd_ne hb]; exact e)
  · have key : Own (del F' p) H' ((p, .lst vs) :: (B ++ (A1 ++ A2 ++ O))) := by
      refine ⟨fun b u e => ?_, ?_, fun q hq => ?_⟩
      · unfold del at e
        split at e
        · cases e
        · exact w'.same b u e
      · rw [List.map_cons, List.nodup_cons]
        refine ⟨fun hm => ?_, w'.nd⟩
        obtain ⟨q, hq, e⟩ := List.mem_map.mp hm
        have := (w'.has q hq).1
        have e2 : q.1 = p := e
        rw [e2, ep] at this
        cases this
      · rcases List.mem_cons.mp hq with rfl | hq
        · exact ⟨if_pos rfl, w'.same _ _ ep⟩
        · obtain ⟨z1, z2⟩ := w'.has q hq
          have hne : q.1 ≠ p := fun z => by rw [z, ep] at z1; cases z1
          exact ⟨by rw [del_ne hne]; exact z1, z2⟩
    have key2 := key.perm (List.perm_middle (l₁ := B) (l₂ := A1 ++ A2 ++ O) (a := (p, .lst vs))).symm
    refine key2.perm ?_
    refine List.Perm.append_left B ?_
    rw [List.append_assoc, List.append_assoc]
    exact List.perm_middle.symm
theorem ev_lend {n : Nat} {xs : List D} (h : env[n]? = some (.ownN na xs)) (hl : noL d = true) (x : EV K t (env.set n (.dat (.lst xs))) d) : EV K t env d := fun σ F H A O m w Q q => by
  obtain ⟨p, vs, A', F1, s1, ep, m1, w1, back⟩ := lend h m w
  refine x σ F1 H A' O m1 w1 _ fun v F' H' s w' dd => ?_
  obtain ⟨b1, b2⟩ := back F' H' [] s w'
  exact q v _ H' b1 b2 (Dat.del (s _ _ ep) rfl d v hl dd)
theorem et_lend {n : Nat} {xs : List D} {b : Bool} (h : env[n]? = some (.ownN na xs)) (x : ET K tt (env.set n (.dat (.lst xs))) b) : ET K tt env b := fun σ F H A O m w Q q => by
  obtain ⟨p, vs, A', F1, s1, ep, m1, w1, back⟩ := lend h m w
  refine x σ F1 H A' O m1 w1 _ fun F' H' s w' => ?_
  obtain ⟨b1, b2⟩ := back F' H' [] s w'
  exact q _ H' b1 b2
theorem en_lend {n : Nat} {xs : List D} (h : env[n]? = some (.ownN na xs)) (hl : noLs ds = true) (x : EN K t (env.set n (.dat (.lst xs))) ds) : EN K t env ds := fun σ F H A O m w Q q => by
  obtain ⟨p, vs, A', F1, s1, ep, m1, w1, back⟩ := lend h m w
  refine x σ F1 H A' O m1 w1 _ fun r us F' H' s w' dd => ?_
  obtain ⟨b1, b2⟩ := back F' H' [(r, .lst us)] s w'
  exact q r us _ H' b1 b2 (Dats.del (s _ _ ep) rfl ds us hl dd)
theorem noLs_map {α : Type} {r : α → D} (h : ∀ x, noL (r x) = true) : ∀ xs : List α, noLs (xs.map r) = true
  | [] => rfl
  | x :: xs => by
    show (noL (r x) && noLs (xs.map r)) = true
    rw [h x, noLs_map h xs]; rfl
theorem noL_T {α : Type} {r : α → D} (h : ∀ x, noL (r x) = true) (xs : List α) : noL (dT r xs) = true := noLs_map h xs
/-! ### changes of own lists -/
theorem match_unset : ∀ {σ : L2.St} {env : List Slot} {O : List (Addr × HO)} {F : Hp} (n : Nat), Match K F σ env O → ∃ O', O'.Sublist O ∧ Match K F σ (env.set n .un) O'
  | _, _, _, _, _, .nil => ⟨[], .slnil, .nil⟩
  | _, _, _, _, 0, .un m => ⟨_, List.Sublist.refl _, .un m⟩
  | _, _, _, _, 0, .dat _ m => ⟨_, List.Sublist.refl _, .un m⟩
  | _, _, _, _, 0, .tr _ m => ⟨_, List.sublist_append_right _ _, .un m⟩
  | _, _, _, _, n + 1, .un m => let ⟨O', s, q⟩ := match_unset n m; ⟨O', s, .un q⟩
  | _, _, _, _, n + 1, .dat d m => let ⟨O', s, q⟩ := match_unset n m; ⟨O', s, .dat d q⟩
  | _, _, _, _, n + 1, .tr d m => let ⟨O', s, q⟩ := match_unset n m; ⟨_, (List.Sublist.refl _).append s, .tr d q⟩
theorem roomR_some {α : Type} {xs : List α} {u : Unit} (h : roomR xs = .ok u) : xs.length < 16777216 := by
  unfold roomR at h
  split at h
  · assumption
  · cases h
/-- xs.append(e), what xs holds no longer asked for -/
theorem sw_appX {α : Type} {r : α → D} {xs : List α} {n : Nat} {u : Unit} (hx : roomR xs = .ok u) (h : env[n]? = some (.ownN na (xs.map r))) (he : EV K te env d) (hn : Nx (env.set n .un)) :
    SW K E (tDrop (tBM K "list" rAppend (tVar n) (tCons te tNil))) env Nx Rt Ex := fun σ F H A O m w Dn q1 q2 q4 => by
  obtain ⟨p, vs, A1, A2, e, h1, h2, h4, _⟩ := m.getO h
  have hl := roomR_some hx
  have hp := (w.has (p, .lst vs) (by rw [e]; simp)).2
  refine ⟨_, h1, .inl ⟨rfl, vs, .of hp⟩, he σ F H A O m w _ fun v F1 H1 s1 w1 d1 => ?_⟩
  have hp1 := (w1.has (p, .lst vs) (by rw [e]; simp)).2
  refine ⟨p, vs, v, rfl, rfl, hp1, ?_, ?_⟩
  · have := h2.length
    rw [List.length_map] at this
    rw [this, sizeLine_eq]; exact hl
  · subst e
    have m2 := h4 F1 _ _ s1 ((h2.up s1).append (.cons d1 .nil))
    obtain ⟨O', s2, m3⟩ := match_unset n m2
    rw [List.set_set] at m3
    refine q1 _ σ F1 _ O' hn s1 m3 ?_
    have w2 : Own F1 (upd H1 p (.lst (vs ++ [v]))) ((A1 ++ (p, .lst (vs ++ [v])) :: A2) ++ O) := by
      rw [List.append_assoc] at w1 ⊢
      exact (w1.mid.put (o' := .lst (vs ++ [v]))).unmid
    exact w2.sub (s2.append (List.Sublist.refl O))
def rInsP : V → List V → Hp → VK → Prop := fun x vs H Q => ∃ (l : Addr) (xs : List V) (i : Int) (y : V), x = .ref l ∧ vs = [.int i, y] ∧ H l = some (.lst xs) ∧ xs.length < sizeLine ∧ 0 ≤ i ∧ i < 2 ^ 63 ∧
    Q .non (upd H l (.lst (xs.take i.toNat ++ [y] ++ xs.drop i.toNat)))
theorem mt_ins {X : Cx} : MtR X "list.insert" rInsP := mt_insert
theorem sw_ins {α : Type} {r : α → D} {xs ys : List α} {x : α} {i : Int} {n : Nat} (hx : insR xs i x = .ok ys) (h : env[n]? = some (.ownN na (xs.map r))) (hi : EV K ta env (dI i)) (he : EV K te env (r x)) (hn : Nx (env.set n (.ownN na (ys.map r)))) :
    SW K E (tDrop (tBM K "list" rInsP (tVar n) (tCons ta (tCons te tNil)))) env Nx Rt Ex := fun σ F H A O m w Dn q1 q2 q4 => by
  obtain ⟨p, vs, A1, A2, e, h1, h2, h4, _⟩ := m.getO h
  unfold insR at hx
  split at hx
  case isFalse => cases hx
  rename_i hc
  have ey := R.ok_inj hx
  subst ey
  have hp := (w.has (p, .lst vs) (by rw [e]; simp)).2
  refine ⟨_, h1, .inl ⟨rfl, vs, .of hp⟩, ev_two hi he m w fun u v F1 H1 s1 w1 d0 d1 => ?_⟩
  have hp1 := (w1.has (p, .lst vs) (by rw [e]; simp)).2
  refine ⟨p, vs, i, v, rfl, by rw [d0.int], hp1, ?_, hc.2.1, hc.2.2, ?_⟩
  · have := h2.length
    rw [List.length_map] at this
    rw [this, sizeLine_eq]; exact hc.1
  · subst e
    refine q1 _ σ F1 _ (A1 ++ (p, .lst (vs.take i.toNat ++ [v] ++ vs.drop i.toNat)) :: A2) hn s1 ?_ ?_
    · rw [List.map_append, List.map_append, List.map_take, List.map_drop]
      exact h4 F1 _ _ s1 ((((h2.up s1).take _).append (.cons d1 .nil)).append ((h2.up s1).drop _))
    · rw [List.append_assoc] at w1
      rw [List.append_assoc A1]
      exact (w1.mid.put (o' := .lst (vs.take i.toNat ++ [v] ++ vs.drop i.toNat))).unmid
/-! ### slices, walks of own lists -/
theorem en_cutO {α : Type} {r : α → D} {xs : List α} {n : Nat} {tl th : TO} {lo hi : Option Int} (h : env[n]? = some (.ownN na (xs.map r))) (hl : EO K tl env lo) (hh : EO K th env hi) : EN K (tSl (rSlL K) (tVar n) tl th) env ((cutL xs lo hi).map r) := fun σ F H A O m w Q q => by
  obtain ⟨p, vs, A1, A2, e, h1, h2, h4, _⟩ := m.getO h
  refine ⟨_, h1, hl σ F H A O m w _ fun F2 H2 s2 w2 => hh σ F2 H2 A O (m.up s2) w2 _ fun F3 H3 s3 w3 => ?_⟩
  have hp := (w3.has (p, .lst vs) (by rw [e]; simp)).2
  exact ⟨p, vs, rfl, .of hp, fun p n => q p _ F3 _ (s2.trans s3) (w3.new n) ((h2.up (s2.trans s3)).cut lo hi)⟩
end
/-! ### options, tuples of a list -/
def dO {α : Type} (r : α → D) : Option α → D
  | none => .v .non
  | some x => r x
section
variable {K : PySem.W.Frag} {na : Option Addr} {env : List Slot} {t ta tb : TE} {α : Type} {r : α → D}
theorem ev_some {x : α} (h : EV K t env (r x)) : EV K t env (dO r (some x)) := h
theorem getR_some {α : Type} {o : Option α} {x : α} (h : getR o = .ok x) : o = some x := by
  cases o with
  | none => cases h
  | some y => rw [R.ok_inj (show R.ok y = R.ok x from h)]
theorem ev_get {o : Option α} {x : α} (h : getR o = .ok x) (e : EV K t env (dO r o)) : EV K t env (r x) := by rw [getR_some h] at e; exact e
def isRef : D → Bool
  | .v _ => false
  | _ => true
theorem dat_ref {F : Hp} {v : V} {d : D} (h : isRef d = true) (q : Dat K F v d) : decide (v = .non) = false := by
  cases q with
  | v => cases h
  | tup a b => rfl
  | lst a b => rfl
  | ins a b => rfl
  | hp a => rfl
  | ob a => rfl
theorem ev_isN {o : Option α} (hr : ∀ x, isRef (r x) = true) (h : EV K ta env (dO r o)) : EV K (tOp rIsN ta (tC .non)) env (dB o.isNone) := fun σ F H A O m w Q q =>
  ev_two h (ev_c .non) m w fun x y F' H' s w' d1 d2 => by
    refine And.intro d2.scl (q _ F' H' s w' ?_)
    cases o with
    | none => rw [d1.scl]; exact .v _
    | some z => rw [dat_ref (hr z) d1]; exact .v _
theorem ev_notN {o : Option α} (hr : ∀ x, isRef (r x) = true) (h : EV K ta env (dO r o)) : EV K (tOp rNotN ta (tC .non)) env (dB (!o.isNone)) := fun σ F H A O m w Q q =>
  ev_two h (ev_c .non) m w fun x y F' H' s w' d1 d2 => by
    refine And.intro d2.scl (q _ F' H' s w' ?_)
    cases o with
    | none => rw [d1.scl]; exact .v _
    | some z => rw [dat_ref (hr z) d1]; exact .v _
theorem ev_tup2 {xs : List α} {x : α × α} (h : tup2R xs = .ok x) (e : EV K t env (.tup (xs.map r))) : EV K t env (d2 r r x) := by
  match xs, h with
  | [a, b], h => rw [← R.ok_inj (show R.ok (a, b) = R.ok x from h)]; exact e
theorem ev_tup3 {xs : List α} {x : α × α × α} (h : tup3R xs = .ok x) (e : EV K t env (.tup (xs.map r))) : EV K t env (d3 r r r x) := by
  match xs, h with
  | [a, b, c], h => rw [← R.ok_inj (show R.ok (a, b, c) = R.ok x from h)]; exact e
end
/-! ### constants of the top -/
section
variable {K : PySem.W.Frag} {na : Option Addr}
theorem relD_ok {u : Value} {x : V} (h : relD u x = true) : RelV x u := by
  cases u <;> cases x <;> simp [relD] at h <;> first | (subst h; exact ⟨_, rfl⟩) | (subst h; rfl) | rfl
mutual
theorem con_dat : ∀ (n : Nat) (d : D) (u : Value), conB K n u d = true → ∃ v, RelV v u ∧ ∀ F, Dat K F v d
  | _, .v x, u, h => ⟨x, relD_ok (by unfold conB at h; exact h), fun F => .v x⟩
  | 0, .tup ds, u, h => by unfold conB at h; cases h
  | n + 1, .tup ds, u, h => by
    unfold conB at h
    split at h
    case h_1 e => cases e
    case h_3 => cases h
    case h_2 n1 a ds1 e1 e2 e3 =>
      cases e2
      cases e3
      split at h
      · rename_i its m _ hk
        obtain ⟨h1, h2⟩ := Bool.and_eq_true_iff.mp h
        obtain ⟨vs, r, q⟩ := con_dats n ds its.toList h2
        exact ⟨.ref _, rfl, fun F => .tup (.inr ⟨_, its, m, hk, rfl, rfl, of_decide_eq_true h1, r⟩) (q F)⟩
      · cases h
  | _, .lst ds, u, h => by
    unfold conB at h
    cases h
  | _, .ins _ _, u, h => by
    unfold conB at h
    cases h
  | _, .hp _, u, h => by
    unfold conB at h
    cases h
  | _, .ob _, u, h => by
    unfold conB at h
    cases h
theorem con_dats : ∀ (n : Nat) (ds : List D) (us : List Value), conAll K n us ds = true → ∃ vs, Vals vs us ∧ ∀ F, Dats K F vs ds
  | _, [], [], _ => ⟨[], .nil, fun _ => .nil⟩
  | _, [], _ :: _, h => by unfold conAll at h; cases h
  | _, _ :: _, [], h => by unfold conAll at h; cases h
  | n, d :: ds, u :: us, h => by
    unfold conAll at h
    obtain ⟨h1, h2⟩ := Bool.and_eq_true_iff.mp h
    obtain ⟨v, r, q⟩ := con_dat n d u h1
    obtain ⟨vs, rs, qs⟩ := con_dats n ds us h2
    exact ⟨v :: vs, .cons r rs, fun F => .cons (q F) (qs F)⟩
end
/-- a module's constant that is an object -/
theorem con_ok {h : Heap} {mg : Str → Option Value} (X : K.In h) (G : h.Ns mainGlobals mg) {x : Str} {d : D} {n : Nat} (c : (He.Fa.glo x).ok K = true) (e : conB K n (.ref (He.ga K x)) d = true) : mg x = some (.ref (He.ga K x)) ∧ ∀ F, Dat K F (.ref (He.ga K x)) d := by
  refine ⟨He.glo_ok X G c, ?_⟩
  obtain ⟨v, r, q⟩ := con_dat n d _ e
  have : v = .ref (He.ga K x) := by
    cases v with
    | ref a => cases r; rfl
    | int _ => obtain ⟨t, z⟩ := r; cases z
    | str _ => obtain ⟨t, z⟩ := r; cases z
    | byt _ => obtain ⟨t, z⟩ := r; cases z
    | flt _ => obtain ⟨t, z⟩ := r; cases z
    | non => cases r
    | bl _ => cases r
    | ty _ => cases r
  rw [← this]; exact q
end
end Pg

set_option Elab.async false
set_option linter.all false
set_option maxRecDepth 100000
set_option maxHeartbeats 1000000
/-! Pg: list(reversed(a list)) -/
namespace PySem
open PySem PySem.Spec PyProof.Rows RT
section
variable {prog : Program} {w : World} {A : Around} {E : Value → Shared → Prop} {s : Shared}
/-- a walker back through a list is asked nothing of its length -/
theorem lri_mute {it : Addr} {Q : Bool → Shared → Prop} (ty : s.TypeIs (.ref it) "list_reverseiterator") (q : Q false s) :
    wpAny (model prog w) A (Builtin.List.listLengthHint (.ref it)) Q E s := by
  unfold Builtin.List.listLengthHint
  wp_walk using wpAny_specialOf ty nolen_lri, wpAny_specialOf ty hint_lri
  refine wpAny_of_eq (a := true) (by rw [isSubtype_type]; kernel_rfl) ?_
  wp_walk
  exact q
/-- list(reversed(l)): the items of l, last one first, in a list of their own -/
theorem pg_list_rev {it l : Addr} {items : Array Value} {Q : Value → Shared → Prop} (hh : A.handled = none) (hit : s.heap.IsRevIter it l ((items.size : Int) - 1)) (hl : s.heap.IsList l items) (hne : l ≠ it) (hn : items.size ≤ sizeLine)
    (hQ : ∀ h' tk acc' c', (∀ b o, b ≠ it → s.heap.get? b = some o → h'.get? b = some o) →
      h'.get? s.heap.objs.size = some { cls := .type "list", dict := none, data := .seq acc' c', slots := #[] } → ItemsOf (fun i v => items[items.size - 1 - i]? = some v) acc' items.size → Q (.ref s.heap.objs.size) { s with heap := h', toks := tk }) :
    wpAny (model prog w) A (call (.type "list") [.ref it]) Q E s := by
  have old : ∀ {b o}, s.heap.get? b = some o → s.heap.objs.size ≠ b := fun e z => Nat.lt_irrefl _ (z ▸ Heap.lt_size e)
  have nI : s.heap.objs.size ≠ it := let ⟨_, e, _⟩ := hit; old e
  have nL : s.heap.objs.size ≠ l := let ⟨_, e, _⟩ := hl; old e
  generalize hp : s.heap.objs.size = p at old nI nL hQ
  let h1 : Heap := s.heap.push { cls := .type "list", data := .seq #[] }
  let h2 : Heap := h1.update p (Obj.mapSeq fun _ => #[])
  have e1 : h1.get? p = some { cls := .type "list", data := .seq #[] } := by rw [← hp]; exact Heap.get?_push_size _ rfl
  have e2 : h2.get? p = some { cls := .type "list", data := .seq #[] } := Heap.get?_update_self _ e1 rfl
  have k2 : ∀ {b o}, s.heap.get? b = some o → h2.get? b = some o := fun e => by
    rw [Heap.get?_update_other _ _ (old e)]
    exact Heap.get?_push_of_some _ e
  have it2 : h2.IsRevIter it l ((items.size : Int) - 1) := hit.at fun _ => k2
  have l2 : h2.IsList l items := let ⟨_, e, r⟩ := hl; ⟨_, k2 e, r⟩
  have out : p ∉ [it, l] := by simp [nI, nL]
  refine callType_codes (Q₁ := fun x s' => x = .ref p ∧ s' = { s with heap := h1 }) F.called_list (F.typeCall_list_1 _) F.entry_list_init ?new ?init
  case new => rw [← hp]; exact code_list_new _ ⟨rfl, rfl⟩
  rintro _ _ ⟨rfl, rfl⟩
  refine ⟨⟨_, e1, rfl⟩, F.args_list_init_2 _ _, ?_⟩
  have ty : Shared.TypeIs { s with heap := h2 } (.ref it) "list_reverseiterator" := Heap.IsRevIter.typeIs (s := { s with heap := h2 }) it2
  unfold Builtin.«list.__init__» Builtin.List.listItems Builtin.List.listUpdate
  wp_walk using wpAny_seqItems e1 rfl, wpAny_updateSeq e1 rfl, lri_mute ty, wpAny_pyIter_revIter it2, wpAny_typeOf ty
  refine wpAny_ite_false (by simp [Builtin.List.listSameRef, nI]) ?_
  wp_walk using wpAny_pyIter_revIter it2, lri_mute ty
  have W := (Walks.listRev (prog := prog) (w := w) (A := A.in1.in1) hh it l hne items).toS
  refine ⟨plainId_quiet F.plain_extend_loop _, codeAny_extend_loopS W hn p out .none items.size 0 _ #[] _ rfl (Nat.zero_le _) ⟨Nat.zero_le _, ?start, l2⟩ e2 (ItemsOf.nil _) fun s3 got c m at3 all => ⟨rfl, ?_⟩⟩
  case start => simpa using it2
  rw [Moved.eq_with m]
  refine hQ _ _ got c (fun b o nb e => m.heap b o ?_ (k2 e)) at3 all
  simp [nb, Ne.symm (old e)]
end
end PySem
namespace Pg
open PySem PySem.Spec PyProof.Rows L2
def tListRev (K : PySem.W.Frag) (te : TE) : TE := fun σ H Q => te σ H fun v H1 => ∃ (a : Addr) (xs : List V), v = .ref a ∧ SqL K H1 a xs ∧ ∀ q, H1 q = none → Q (.ref q) (upd H1 q (.lst xs.reverse))
section
variable {X : Cx}
/-- reversed of a list, and the list of that -/
theorem rev_list (hc : X.calm = true) {pins : List (Addr × Obj)} {σ : L2.St} {H : Hp} {s : Shared} {a : Addr} {xs : List V} {Q : VK} (I : Inv X pins σ H s) (hq : SqL X.K H a xs) (q : ∀ c, H c = none → Q (.ref c) (upd H c (.lst xs.reverse))) :
    wpAny (model X.prog X.w) X.A (call (.type "reversed") [.ref a]) (fun it s2 => wpAny (model X.prog X.w) X.A (call (.type "list") [it]) (L2.EP X pins σ Q) X.xe s2) X.xe s := by
  obtain ⟨its, rv, at0, hz⟩ := I.list hq
  have small : its.toArray.size ≤ sizeLine := by simpa [rv.length] using hz
  have neq : a ≠ s.heap.objs.size := let ⟨_, e, _⟩ := at0.isList; Nat.ne_of_lt (Heap.lt_size e)
  apply call_reversed_list at0.isList
  generalize ho : revObj a ((its.toArray.size : Int) - 1) = ro
  have old : ∀ b o, s.heap.get? b = some o → (s.heap.push ro).get? b = some o := fun _ o => Heap.get?_push_of_some ro
  have J := I.kept (t' := s.toks) old
  have fp := I.fpOk (H' := H) (b := s.heap.objs.size) (Nat.le_refl _) (I.hok.fresh (Nat.le_refl _))
  apply PySem.pg_list_rev (s := { s with heap := s.heap.push ro }) (l := a) (items := its.toArray) (I.ok.hd hc) ⟨ro, Heap.get?_push_size _ (by subst ho; rfl), by subst ho; exact ⟨rfl, rfl⟩⟩ (at0.isList.push _) neq small
  intro h3 tk got c keep3 new3 all
  rw [Heap.size_push] at new3 ⊢
  have fresh : H (s.heap.objs.size + 1) = none := I.hok.fresh (Nat.le_succ _)
  have J3 : Inv X pins σ (upd H (s.heap.objs.size + 1) (.lst xs.reverse)) { s with heap := h3, toks := tk } := by
    refine J.turnedNew (t' := tk) (ch := [s.heap.objs.size]) (fun b o nb => keep3 b o ?_) (fun b hb => ?_) ?_ ?_
    · simpa using nb
    · cases List.mem_singleton.mp hb
      exact fp
    · exact Nat.le_of_eq (Heap.size_push ..)
    · exact ⟨by simpa using hz, got.toList, c, RT.vals_rev rv all, by simpa using new3⟩
  exact ⟨.ref _, _, J3, rfl, q _ fresh⟩
theorem pe_listRev {e : Expr} {te : TE} {p p2 pos pos2 : Pos} (hc : X.calm = true) (hg : Gl X "list") (hm : X.mg "list" = none) (hg2 : Gl X "reversed") (hm2 : X.mg "reversed" = none) (he : PE X e te)
    (hs : starEach [e] X.env = (false, eval e X.env) :: starEach [] X.env := by rfl) (hs2 : starEach [.Call (.Name "reversed" p2) [e] [] pos2] X.env = (false, eval (.Call (.Name "reversed" p2) [e] [] pos2) X.env) :: starEach [] X.env := by rfl) :
    PE X (.Call (.Name "list" p) [.Call (.Name "reversed" p2) [e] [] pos2] [] pos) (tListRev X.K te) where
  run pins s σ H Q I h := by
    refine Call_ (ld_blt I hg hm PyProof.Rows.boot_list (PyProof.Rows.callWith_type1 (args_cons ?arg hs2) hs2 rfl))
    refine Call_ (ld_blt I hg2 hm2 PyProof.Rows.boot_reversed (PyProof.Rows.callWith_type1 (args_cons ?arg2 hs) hs rfl))
    refine thn (he.run pins s σ H _ I h) ?_
    rintro u s1 ⟨v, H1, I1, r, a, xs, rfl, sq, q⟩
    cases r
    exact args_nil (wpAny_mono (rev_list hc I1 sq q) (fun it s2 z => args_nil (by exact z)) fun _ _ z => z)
end
section
variable {K : PySem.W.Frag} {E : WX} {env env1 env' : List Slot} {t ta tb te : TE} {d : D} {ds : List D} {g : TG}
theorem en_listRev {α : Type} {r : α → D} {xs : List α} (h : EV K te env (.lst (xs.map r))) : EN K (tListRev K te) env (xs.reverse.map r) := fun σ F H A O m w Q q =>
  h σ F H A O m w _ fun v F1 H1 s1 w1 d1 => by
    rw [List.map_reverse] at q
    cases d1 with
    | lst a b => exact ⟨_, _, rfl, w1.same.seq a, fun l n => q l _ F1 _ s1 (w1.new n) b.reverse⟩
/-! ### lengths of tuples that are told -/
theorem ev_lenW {n : Nat} (hn : ds.length = n) (ha : EV K ta env (.tup ds)) : EV K (tCB (rLenP K) (tCons ta tNil)) env (dI (n : Nat)) := by rw [← hn]; exact ev_lenT ha
/-! ### targets of any number -/
variable (K) in
def GTs (t : TGs) (js : List Nat) (ds : List D) (env env' : List Slot) : Prop :=
  (∀ i, ownAt env' i = true → ownAt env i = true) ∧ ∀ (σ : L2.St) (vs : List V) (F H : Hp) (A O : List (Addr × HO)), Match K F σ env A → Own F H (A ++ O) → Dats K F vs ds → ∀ Q : L2.St → Hp → Prop,
    (∀ σ' A', A'.Sublist A → ((∀ j ∈ js, ownAt env j = false) → A' = A) → Match K F σ' env' A' → (∀ vs : List Nat, (∀ j ∈ js, j ∈ vs) → wipe σ' vs = wipe σ vs) → Q σ' H) → t vs σ H Q
theorem gts_nil : GTs K gNil [] [] env env := ⟨fun _ h => h, fun σ vs F H A O m w d Q q => by
  cases d
  exact ⟨rfl, q σ A (List.Sublist.refl _) (fun _ => rfl) m fun _ _ => rfl⟩⟩
theorem gts_cons {g : TG} {t : TGs} {j1 j2 : List Nat} (h1 : GT K g j1 d env env1) (h2 : GTs K t j2 ds env1 env') : GTs K (gCons g t) (j1 ++ j2) (d :: ds) env env' := ⟨fun i h => h1.1 i (h2.1 i h), fun σ vs F H A O m w hd Q q => by
  cases hd with
  | cons b1 b =>
    refine ⟨_, _, rfl, h1.2 σ _ F H A O m w b1 _ fun σ1 A1 sb1 y1 m1 z1 => ?_⟩
    refine h2.2 σ1 _ F H A1 O m1 (w.subA sb1) b _ fun σ2 A2 sb2 y2 m2 z2 => ?_
    refine q σ2 A2 (sb2.trans sb1) (fun z => ?_) m2 fun vs hv => (z2 vs fun j hj => hv j (List.mem_append_right _ hj)).trans (z1 vs fun j hj => hv j (List.mem_append_left _ hj))
    have e1 := y1 fun j hj => z j (List.mem_append_left _ hj)
    have e2 := y2 fun j hj => by
      cases ho : ownAt env1 j with
      | false => rfl
      | true =>
        have := h1.1 j ho
        rw [z j (List.mem_append_right _ hj)] at this
        cases this
    rw [e2, e1]⟩
theorem gt_tupN {t : TGs} {js : List Nat} {n : Nat} (hn : ds.length = n) (h : GTs K t js ds env env') : GT K (gTup K n t) js (.tup ds) env env' := ⟨h.1, fun σ v F H A O m w hd Q q => by
  cases hd with
  | tup a b => exact ⟨_, _, rfl, w.same.sqt a, b.length.trans hn, h.2 σ _ F H A O m w b Q q⟩⟩
end
/-! ### options of whole numbers -/
section
variable {K : PySem.W.Frag} {env : List Slot} {t ta tb : TE} {α : Type} {r : α → D}
def isSome : D → Bool
  | .v .non => false
  | _ => true
theorem dat_some {F : Hp} {v : V} {d : D} (h : isSome d = true) (q : Dat K F v d) : decide (v = .non) = false := by
  cases q with
  | v => cases v <;> first | (cases h; done) | (exact decide_eq_false (by intro z; cases z))
  | tup a b => rfl
  | lst a b => rfl
  | ins a b => rfl
  | hp a => rfl
  | ob a => rfl
theorem ev_isO {o : Option α} (hr : ∀ x, isSome (r x) = true) (h : EV K ta env (dO r o)) : EV K (tOp rIsN ta (tC .non)) env (dB o.isNone) := fun σ F H A O m w Q q =>
  ev_two h (ev_c .non) m w fun x y F' H' s w' d1 d2 => by
    refine And.intro d2.scl (q _ F' H' s w' ?_)
    cases o with
    | none => rw [d1.scl]; exact .v _
    | some z => rw [dat_some (hr z) d1]; exact .v _
theorem ev_notO {o : Option α} (hr : ∀ x, isSome (r x) = true) (h : EV K ta env (dO r o)) : EV K (tOp rNotN ta (tC .non)) env (dB (!o.isNone)) := fun σ F H A O m w Q q =>
  ev_two h (ev_c .non) m w fun x y F' H' s w' d1 d2 => by
    refine And.intro d2.scl (q _ F' H' s w' ?_)
    cases o with
    | none => rw [d1.scl]; exact .v _
    | some z => rw [dat_some (hr z) d1]; exact .v _
end
end Pg

set_option Elab.async false
set_option linter.all false
set_option maxRecDepth 100000
namespace Pg
open PySem PySem.Spec PyProof.Rows L2
/-! ### own lists of own lists -/
abbrev oL {α : Type} (r : α → D) (xs : List α) : OD := .own (xs.map r)
theorem map_toD {α : Type} {r : α → D} (xs : List (List α)) : (xs.map (oL r)).map OD.toD = xs.map (dL r) := by rw [List.map_map]; rfl
section
variable (K : PySem.W.Frag)
/-- a new list of new lists (and data), owned -/
def EN2 (t : TE) (env : List Slot) (os : List OD) : Prop := ∀ (σ : L2.St) (F H : Hp) (A O : List (Addr × HO)), Match K F σ env A → Own F H (A ++ O) → ∀ Q : VK,
  (∀ p vs F' H' O1, Same F F' → Own F' H' ((p, .lst vs) :: (O1 ++ (A ++ O))) → ODs K F' vs os O1 → Q (.ref p) H') → t σ H Q
end
section
variable {K : PySem.W.Frag} {na : Option Addr} {E : WX} {env env' : List Slot} {t u : TS} {te ta tb ti : TE} {tt : TT} {i j : Int} {d e : D} {ds es : List D} {os os' : List OD} {Nx : List Slot → Prop} {Rt : List Slot → T → Prop} {Ex : List Slot → Value → Prop}
/-- the inner lists frozen -/
theorem ODs.frz : ∀ {vs : List V} {os : List OD} {O1 R : List (Addr × HO)} {F H : Hp}, ODs K F vs os O1 → Own F H (O1 ++ R) → ∃ F', Same F F' ∧ Own F' H R ∧ Dats K F' vs (os.map OD.toD)
  | _, _, _, _, F, H, .nil, w => ⟨F, Same.refl F, w, .nil⟩
  | _, _, _, _, F, H, .dat d m, w => by
    obtain ⟨F', s, w', q⟩ := ODs.frz m w
    exact ⟨F', s, w', .cons (d.up s) q⟩
  | _, _, _, _, F, H, .own d m, w => by
    obtain ⟨w1, s1⟩ := Own.frz (show Own F H (_ :: (_ ++ _)) from w)
    obtain ⟨F', s, w', q⟩ := ODs.frz (m.up s1) w1
    exact ⟨F', s1.trans s, w', .cons (.lst (.of (s _ _ upd_same)) (d.up (s1.trans s))) q⟩
theorem EN2.en (h : EN2 K te env os) : EN K te env (os.map OD.toD) := fun σ F H A O m w Q q => h σ F H A O m w Q fun p vs F' H' O1 s w' dd => by
  have w2 : Own F' H' (O1 ++ ((p, .lst vs) :: (A ++ O))) := w'.perm List.perm_middle.symm
  obtain ⟨F2, s2, w3, q3⟩ := dd.frz w2
  exact q p vs F2 H' (s.trans s2) w3 q3
theorem EN2.enL {α : Type} {r : α → D} {xs : List (List α)} (h : EN2 K te env (xs.map (oL r))) : EN K te env (xs.map (dL r)) := by
  have := h.en
  rwa [map_toD] at this
theorem en2_cast {α : Type} {r : α → D} {a b : List (List α)} (h : R.ok a = R.ok b) (x : EN2 K te env (a.map (oL r))) : EN2 K te env (b.map (oL r)) := by rw [← R.ok_inj h]; exact x
/-- name = a new list of new lists -/
theorem sw_own2 {n : Nat} (h : EN2 K te env os) (hl : n < env.length) (hn : Nx (env.set n (.own2 os))) : SW K E (tAsg te (gName n)) env Nx Rt Ex := fun σ F H A O m w Dn q1 q2 q4 =>
  h σ F H A O m w _ fun p vs F1 H1 O1 s1 w1 d1 => by
    obtain ⟨A1, B, A2, e, s, m'⟩ := (m.up s1).put2 n d1 hl
    subst e
    refine q1 _ _ F1 H1 _ hn s1 m' ?_
    have w2 : Own F1 H1 ((p, .lst vs) :: (O1 ++ ((A1 ++ B) ++ O))) := w1.sub (((List.Sublist.refl O1).append ((List.Sublist.refl A1).append s |>.append (List.Sublist.refl O))).cons₂ _)
    refine w2.perm ?_
    have e1 : A1 ++ (p, HO.lst vs) :: (O1 ++ B) ++ O = A1 ++ ((p, HO.lst vs) :: (O1 ++ (B ++ O))) := by simp
    rw [e1]
    refine List.Perm.trans ?_ List.perm_middle.symm
    refine List.Perm.cons _ ?_
    rw [List.append_assoc A1, ← List.append_assoc O1, ← List.append_assoc A1]
    exact List.Perm.append_right _ List.perm_append_comm
/-- an own list of own lists frozen -/
theorem frz2 {σ : L2.St} {F H : Hp} {A O : List (Addr × HO)} {n : Nat} (h : env[n]? = some (.own2N na os)) (m : Match K F σ env A) (w : Own F H (A ++ O)) :
    ∃ F1 A', Same F F1 ∧ Match K F1 σ (env.set n (.dat (.lst (os.map OD.toD)))) A' ∧ Own F1 H (A' ++ O) := by
  obtain ⟨p, vs, O1, A1, A2, e, h1, h2, _, h5⟩ := m.getO2 h
  subst e
  have w1 : Own F H (O1 ++ ((p, .lst vs) :: ((A1 ++ A2) ++ O))) := by
    refine w.perm ?_
    have e1 : A1 ++ (p, HO.lst vs) :: (O1 ++ A2) ++ O = A1 ++ ((p, HO.lst vs) :: O1 ++ (A2 ++ O)) := by simp
    have e2 : O1 ++ ((p, HO.lst vs) :: ((A1 ++ A2) ++ O)) = O1 ++ ((p, HO.lst vs) :: (A1 ++ (A2 ++ O))) := by simp
    rw [e1, e2]
    refine List.Perm.trans ?_ List.perm_middle.symm
    rw [List.cons_append]
    refine List.Perm.trans List.perm_middle (List.Perm.cons _ ?_)
    have e3 : A1 ++ (O1 ++ (A2 ++ O)) = (A1 ++ O1) ++ (A2 ++ O) := by simp
    have e4 : O1 ++ (A1 ++ (A2 ++ O)) = (O1 ++ A1) ++ (A2 ++ O) := by simp
    rw [e3, e4]
    exact List.Perm.append_right _ List.perm_append_comm
  obtain ⟨F1, s1, w2, d1⟩ := h2.frz w1
  obtain ⟨w3, s2⟩ := w2.frz
  exact ⟨_, A1 ++ A2, s1.trans s2, h5 _ _ (s1.trans s2) (.lst (.of upd_same) (d1.up s2)), w3⟩
theorem sw_frz2 {n : Nat} (h : env[n]? = some (.own2N na os)) (hn : SW K E t (env.set n (.dat (.lst (os.map OD.toD)))) Nx Rt Ex) : SW K E t env Nx Rt Ex := fun σ F H A O m w Dn q1 q2 q4 => by
  obtain ⟨F1, A', s12, m', w'⟩ := frz2 h m w
  exact hn σ F1 H A' O m' w' Dn (fun a b c d f z s => q1 a b c d f z (s12.trans s)) (fun e x v a b c d f z s => q2 e x v a b c d f z (s12.trans s)) fun e c a b d f z s => q4 e c a b d f z (s12.trans s)
theorem sw_frz2L {α : Type} {r : α → D} {xs : List (List α)} {n : Nat} (h : env[n]? = some (.own2N na (xs.map (oL r)))) (hn : SW K E t (env.set n (.dat (dL (dL r) xs))) Nx Rt Ex) : SW K E t env Nx Rt Ex :=
  sw_frz2 h (by rw [map_toD]; exact hn)
/-! ### a def that hands back such a list -/
theorem sw_ret2 (h : EN2 K te env os) (hr : Rt env (.lst none (os.map OD.toT))) : SW K E (tRet te) env Nx Rt Ex := fun σ F H A O m w Dn q1 q2 q4 =>
  h σ F H A O m w _ fun p vs F1 H1 O1 s1 w1 d1 => q2 env _ _ σ F1 H1 A ((p, .lst vs) :: O1) hr s1 (m.up s1) w1 (.lst (fun _ z => nomatch z) d1.tree)
def spNN (K : PySem.W.Frag) {ι β : Type} (args : ι → List D) (f : ι → R (List (List β))) (rr : β → D) : Sp := fun vs H Q _ =>
  ∃ (x : ι) (F : Hp) (O : List (Addr × HO)) (b : List (List β)), Own F H O ∧ Dats K F vs (args x) ∧ f x = .ok b ∧ ∀ p us F' H' O1, Same F F' → Own F' H' ((p, .lst us) :: (O1 ++ O)) → ODs K F' us (b.map (oL rr)) O1 → Q (.ref p) H'
theorem spNN_run {ι β : Type} {args : ι → List D} {f : ι → R (List (List β))} {rr : β → D} {N : List Str} {vs : List V} {H : Hp} {Q : VK} {E : XK} (n k : Nat) (hN : N.length = n + k) (hn : ∀ x, (args x).length = n)
    (hb : ∀ x b, f x = .ok b → SW K W0 t ((args x).map Slot.dat ++ List.replicate k .un) (fun _ => False) (fun _ v => v = .lst none ((b.map (oL rr)).map OD.toT)) fun _ _ => False)
    (h : spNN K args f rr vs H Q E) : t { nx := fun _ H' => Q .non H', rt := Q } (L2.start N vs) H := by
  obtain ⟨x, F, O, b, w, da, hf, q⟩ := h
  have hl := sp_len hn da
  have m := match_start (N.length - vs.length) da
  rw [show N.length - vs.length = k by omega] at m
  unfold L2.start
  rw [show N.length - vs.length = k by omega]
  refine hb x b hf _ F H [] O m w _ ?_ ?_ ?_
  · exact fun e σ' F' H' A' z => z.elim
  · rintro e _ v σ' F' H' A' O1 rfl s m' w' d'
    cases d' with
    | lst n d' => exact q _ _ F' H' _ s (w'.sub (((List.Sublist.refl _).append (List.sublist_append_right A' O)).cons₂ _)) d'.ods
  · exact fun _ _ _ _ _ _ z => z.elim
theorem en_call2 {ι β : Type} {args : ι → List D} {f : ι → R (List (List β))} {rr : β → D} {ta : TA} {E' : XK} (x : ι) {b : List (List β)} (hf : f x = .ok b) (ha : EA K ta env (args x)) : EN2 K (tCall (spNN K args f rr) [] E' ta) env (b.map (oL rr)) := fun σ F H A O m w Q q =>
  ha σ F H A O m w _ fun vs F1 H1 s1 w1 d1 => ⟨x, F1, A ++ O, b, w1, by rw [List.append_nil]; exact d1, hf, fun p us F' H' O1 s w' d' => q p us F' H' O1 (s1.trans s) w' d'⟩
end
end Pg

set_option Elab.async false
set_option linter.all false
set_option maxRecDepth 100000
namespace Pg
open PySem PySem.Spec PyProof.Rows L2
section
variable {K : PySem.W.Frag} {na : Option Addr} {E : WX} {env env' : List Slot} {t u : TS} {te ta tb ti : TE} {tt : TT} {i j : Int} {d e : D} {ds es : List D} {os os' : List OD} {Nx : List Slot → Prop} {Rt : RV → Prop} {Ex : Value → Prop}
theorem mapR_step {α β : Type} {f : α → R β} : ∀ {xs : List α} {zs : List β}, R.mapR f xs = .ok zs → (xs = [] ∧ zs = []) ∨ ∃ x ys y ws, xs = x :: ys ∧ f x = .ok y ∧ R.mapR f ys = .ok ws ∧ zs = y :: ws
  | [], zs, h => .inl ⟨rfl, (R.ok_inj h).symm⟩
  | x :: ys, zs, h => by
    obtain ⟨y, h1, h2⟩ := R.bind_inv (show R.bind (f x) _ = _ from h)
    obtain ⟨ws, h3, h4⟩ := R.bind_inv h2
    exact .inr ⟨x, ys, y, ws, rfl, h1, h3, (R.ok_inj h4).symm⟩
theorem oL_snoc {β : Type} {rb : β → D} (acc : List (List β)) (y : List β) : (acc ++ [y]).map (oL rb) = acc.map (oL rb) ++ [.own (y.map rb)] := by rw [List.map_append]; rfl
/-- [e for x in xs], e a new list -/
theorem en2_comp {wi : TI} {g : TG} {te : TE} {vs js : List Nat} {α β : Type} {xs : List α} {ra : α → D} {rb : β → D} (f : α → R (List β)) {ys : List (List β)}
    (hi : IV K wi env (xs.map ra)) (hf : R.compR f xs = .ok ys) (hw : noOwn env vs = true) (hj : ∀ j ∈ js, j ∈ vs)
    (hb : ∀ x, x ∈ xs → ∃ env1, GT K g js (ra x) (wipeS env vs) env1 ∧ ∀ y, f x = .ok y → EN K te env1 (y.map rb)) : EN2 K (tLc wi g tYes te vs) env (ys.map (oL rb)) := fun σ F H A O m w Q q => by
  obtain ⟨hl, hf⟩ := compR_some hf
  refine hi σ F H A O m w _ fun J F1 H1 s1 w1 wk D hD => ?_
  refine ⟨fun i k H2 => ∃ (acc : List (List β)) (us : List V) (F2 : Hp) (OO : List (Addr × HO)), k + i = xs.length ∧ acc.length ≤ i ∧ Same F1 F2 ∧ Own F2 H2 ((D, .lst us) :: (OO ++ (A ++ O))) ∧ ODs K F2 us (acc.map (oL rb)) OO ∧ ∃ zs, R.mapR f (xs.drop i) = .ok zs ∧ ys = acc ++ zs,
    ⟨xs.length, [], [], F1, [], rfl, Nat.le_refl _, Same.refl _, w1.new hD, .nil, ys, hf, rfl⟩, ?_⟩
  rintro i k H2 ⟨acc, us, F2, OO, hk, hlen, ss, w2, dd, zs, h2, e2⟩
  rcases mapR_step h2 with ⟨e1, e3⟩ | ⟨x, rest, y1, ws, e1, h5, h6, h7⟩
  · have hl' : xs.length ≤ i := by
      have := congrArg List.length e1
      rw [List.length_drop, List.length_nil] at this
      omega
    refine .inl ⟨wk.2 i F2 H2 _ ss w2 (by rw [List.length_map]; exact hl'), q D us F2 H2 OO (s1.trans ss) w2 ?_⟩
    rw [e2, e3, List.append_nil]; exact dd
  · have hx : xs[i]? = some x := by
      have := congrArg (fun l => l[0]?) e1
      simpa using this
    have hlt : i < xs.length := by
      rcases Nat.lt_or_ge i xs.length with z | z
      · exact z
      · rw [List.getElem?_eq_none z] at hx; cases hx
    have hys : xs.drop (i + 1) = rest := by
      rw [← List.drop_drop, e1]; rfl
    obtain ⟨g1, g2⟩ := wk.1 i F2 H2 _ (ra x) ss w2 (by rw [List.getElem?_map, hx]; rfl)
    refine .inr ⟨g1, fun H3 => ∃ (acc : List (List β)) (us : List V) (F3 : Hp) (OO : List (Addr × HO)), acc.length ≤ i + 1 ∧ Same F1 F3 ∧ Own F3 H3 ((D, .lst us) :: (OO ++ (A ++ O))) ∧ ODs K F3 us (acc.map (oL rb)) OO ∧ ∃ zs, R.mapR f rest = .ok zs ∧ ys = acc ++ zs, ?_, fun y H3 hy => ?_⟩
    · rintro H3 ⟨acc3, us3, F3, OO3, l3, ss3, w3, d3, zs3, h3, e3⟩
      exact ⟨k - 1, by omega, acc3, us3, F3, OO3, by omega, by omega, ss3, w3, d3, zs3, by rw [hys]; exact h3, e3⟩
    · obtain ⟨F3, ss3, w3, d3⟩ := g2 y H3 hy
      obtain ⟨env1, hg, he⟩ := hb x (List.mem_of_getElem? hx)
      have mw := match_wipe (m.up (s1.trans (ss.trans ss3))) vs hw
      have w3' : Own F3 H3 (A ++ ((D, .lst us) :: (OO ++ O))) := w3.perm (by
        refine List.Perm.trans ?_ List.perm_middle.symm
        refine List.Perm.cons _ ?_
        rw [← List.append_assoc, ← List.append_assoc]
        exact List.Perm.append_right _ List.perm_append_comm)
      refine hg.2 (wipe σ vs) y F3 H3 A ((D, .lst us) :: (OO ++ O)) mw w3' d3 _ fun σ4 A4 sb4 eA m4 z4 => ⟨?_, ?_⟩
      · rw [z4 vs hj, wipe_wipe σ vs vs fun _ z => z]
      · have eA := eA fun j h => ownAt_wipe j (noOwn_at hw j (hj j h)) vs
        subst eA
        show te σ4 H3 _
        refine he y1 h5 σ4 F3 H3 A4 ((D, .lst us) :: (OO ++ O)) m4 w3' _ fun p ps F6 H6 s6 w6 d6 => ?_
        have s36 := ss3.trans s6
        have w7 : Own F6 H6 ((D, .lst us) :: ((OO ++ [(p, .lst ps)]) ++ (A4 ++ O))) := w6.perm (by
          have a1 : ((p, HO.lst ps) :: (A4 ++ (D, HO.lst us) :: (OO ++ O))).Perm ((D, HO.lst us) :: ((p, HO.lst ps) :: (A4 ++ (OO ++ O)))) :=
            (List.Perm.cons _ List.perm_middle).trans (List.Perm.swap _ _ _)
          refine a1.trans (List.Perm.cons _ ?_)
          have e1 : (OO ++ [(p, HO.lst ps)]) ++ (A4 ++ O) = OO ++ ((p, HO.lst ps) :: (A4 ++ O)) := by simp
          rw [e1]
          refine List.Perm.trans (List.Perm.cons _ ?_) List.perm_middle.symm
          rw [← List.append_assoc, ← List.append_assoc]
          exact List.Perm.append_right _ List.perm_append_comm)
        refine ⟨us, (w7.has (D, .lst us) (by simp)).2, ?_, acc ++ [y1], us ++ [.ref p], F6, OO ++ [(p, .lst ps)], ?_, ss.trans s36, w7.put (o' := .lst (us ++ [.ref p])), ?_, ws, h6, ?_⟩
        · have := dd.length
          rw [List.length_map] at this
          rw [this, sizeLine_eq]; omega
        · rw [List.length_append, List.length_singleton]; omega
        · rw [oL_snoc]
          exact (dd.up s36).append (.own d6 .nil)
        · rw [e2, h7, List.append_assoc]; rfl
/-! ### own lists of own lists lent -/
def delL (F : Hp) : List (Addr × HO) → Hp
  | [] => F
  | q :: qs => del (delL F qs) q.1
theorem delL_ne {F : Hp} {b : Addr} : ∀ {qs : List (Addr × HO)}, (∀ q ∈ qs, q.1 ≠ b) → delL F qs b = F b
  | [], _ => rfl
  | q :: qs, h => by
    show del (delL F qs) q.1 b = F b
    rw [del_ne (fun z => h q List.mem_cons_self z.symm), delL_ne fun r hr => h r (List.mem_cons_of_mem _ hr)]
def AllL (O0 : List (Addr × HO)) : Prop := ∀ q ∈ O0, isTree q.2 = true
theorem dat_delL {F : Hp} {d : D} {v : V} (hl : noL d = true) (h : Dat K F v d) : ∀ {O0 : List (Addr × HO)}, (O0.map (·.1)).Nodup → AllL O0 → (∀ q ∈ O0, F q.1 = some q.2) → Dat K (delL F O0) v d
  | [], _, _, _ => h
  | q :: qs, nd, al, hF => by
    rw [List.map_cons, List.nodup_cons] at nd
    refine Dat.del (o0 := q.2) ?_ (al q List.mem_cons_self) d v hl (dat_delL hl h nd.2 (fun r hr => al r (List.mem_cons_of_mem _ hr)) fun r hr => hF r (List.mem_cons_of_mem _ hr))
    rw [delL_ne fun r hr z => nd.1 (List.mem_map.mpr ⟨r, hr, z⟩), hF q List.mem_cons_self]
theorem dats_delL {F : Hp} {ds : List D} {vs : List V} (hl : noLs ds = true) (h : Dats K F vs ds) : ∀ {O0 : List (Addr × HO)}, (O0.map (·.1)).Nodup → AllL O0 → (∀ q ∈ O0, F q.1 = some q.2) → Dats K (delL F O0) vs ds
  | [], _, _, _ => h
  | q :: qs, nd, al, hF => by
    rw [List.map_cons, List.nodup_cons] at nd
    refine Dats.del (o0 := q.2) ?_ (al q List.mem_cons_self) ds vs hl (dats_delL hl h nd.2 (fun r hr => al r (List.mem_cons_of_mem _ hr)) fun r hr => hF r (List.mem_cons_of_mem _ hr))
    rw [delL_ne fun r hr z => nd.1 (List.mem_map.mpr ⟨r, hr, z⟩), hF q List.mem_cons_self]
/-- frozen for a while, and taken back -/
theorem own_back {F F' H' : Hp} {O0 B R : List (Addr × HO)} (nd0 : (O0.map (·.1)).Nodup) (h0 : ∀ q ∈ O0, F q.1 = none) (hF : ∀ q ∈ O0, F' q.1 = some q.2) (s : ∀ b u, F b = some u → F' b = some u) (w : Own F' H' (B ++ R)) :
    Same F (delL F' O0) ∧ Own (delL F' O0) H' (B ++ (O0 ++ R)) := by
  have out : ∀ q ∈ B ++ R, ∀ r ∈ O0, r.1 ≠ q.1 := fun q hq r hr z => by
    have a := (w.has q hq).1
    have b := hF r hr
    rw [z, a] at b; cases b
  refine ⟨fun b u e => ?_, ?_⟩
  · rw [delL_ne fun q hq z => by rw [← z, h0 q hq] at e; cases e]
    exact s b u e
  · have key : Own (delL F' O0) H' (O0 ++ (B ++ R)) := by
      refine ⟨fun b u e => ?_, ?_, fun q hq => ?_⟩
      · have sub : ∀ (qs : List (Addr × HO)), delL F' qs b = some u → F' b = some u := by
          intro qs
          induction qs with
          | nil => exact id
          | cons q qs ih =>
            intro e
            have e : del (delL F' qs) q.1 b = some u := e
            unfold del at e
            split at e
            · cases e
            · exact ih e
        exact w.same b u (sub O0 e)
      · rw [List.map_append, List.nodup_append]
        refine ⟨nd0, w.nd, fun a ha b hb z => ?_⟩
        obtain ⟨r, hr, e1⟩ := List.mem_map.mp ha
        obtain ⟨q, hq, e2⟩ := List.mem_map.mp hb
        exact out q hq r hr (by rw [e1, e2, z])
      · rcases List.mem_append.mp hq with hq | hq
        · have none : ∀ {qs : List (Addr × HO)}, q ∈ qs → delL F' qs q.1 = none := by
            intro qs
            induction qs with
            | nil => intro z; cases z
            | cons r qs ih =>
              intro z
              show del (delL F' qs) r.1 q.1 = none
              unfold del
              by_cases e : q.1 = r.1
              · rw [if_pos e]
              · rw [if_neg e]
                rcases List.mem_cons.mp z with z | z
                · exact absurd (by rw [z]) e
                · exact ih z
          exact ⟨none hq, w.same _ _ (hF q hq)⟩
        · obtain ⟨a, b⟩ := w.has q hq
          exact ⟨by rw [delL_ne fun r hr => out q hq r hr]; exact a, b⟩
    refine key.perm ?_
    rw [← List.append_assoc, ← List.append_assoc]
    exact List.Perm.append_right _ List.perm_append_comm
theorem ODs.allL : ∀ {vs : List V} {os : List OD} {O1 : List (Addr × HO)} {F : Hp}, ODs K F vs os O1 → AllL O1
  | _, _, _, _, .nil => fun q hq => nomatch hq
  | _, _, _, _, .dat _ m => m.allL
  | _, _, _, _, .own (us := us) _ m => fun q hq => by
    rcases List.mem_cons.mp hq with rfl | hq
    · rfl
    · exact m.allL q hq
theorem ODs.frzF : ∀ {vs : List V} {os : List OD} {O1 R : List (Addr × HO)} {F H : Hp}, ODs K F vs os O1 → Own F H (O1 ++ R) → ∃ F', Same F F' ∧ Own F' H R ∧ Dats K F' vs (os.map OD.toD) ∧ ∀ q ∈ O1, F' q.1 = some q.2
  | _, _, _, _, F, H, .nil, w => ⟨F, Same.refl F, w, .nil, fun q hq => nomatch hq⟩
  | _, _, _, _, F, H, .dat d m, w => by
    obtain ⟨F', s, w', q, r⟩ := ODs.frzF m w
    exact ⟨F', s, w', .cons (d.up s) q, r⟩
  | _, _, _, _, F, H, .own d m, w => by
    obtain ⟨w1, s1⟩ := Own.frz (show Own F H (_ :: (_ ++ _)) from w)
    obtain ⟨F', s, w', q, r⟩ := ODs.frzF (m.up s1) w1
    refine ⟨F', s1.trans s, w', .cons (.lst (.of (s _ _ upd_same)) (d.up (s1.trans s))) q, fun z hz => ?_⟩
    rcases List.mem_cons.mp hz with rfl | hz
    · exact s _ _ upd_same
    · exact r z hz
theorem lend2 {σ : L2.St} {F H : Hp} {A O : List (Addr × HO)} {n : Nat} (h : env[n]? = some (.own2N na os)) (m : Match K F σ env A) (w : Own F H (A ++ O)) :
    ∃ (O0 A' : List (Addr × HO)) (F1 : Hp), Same F F1 ∧ Match K F1 σ (env.set n (.dat (.lst (os.map OD.toD)))) A' ∧ Own F1 H (A' ++ O) ∧ (O0.map (·.1)).Nodup ∧ AllL O0 ∧
      (∀ q ∈ O0, F1 q.1 = some q.2) ∧ ∀ F' H' B, Same F1 F' → Own F' H' (B ++ (A' ++ O)) → Same F (delL F' O0) ∧ Own (delL F' O0) H' (B ++ (A ++ O)) := by
  obtain ⟨p, vs, O1, A1, A2, e, h1, h2, _, h5⟩ := m.getO2 h
  subst e
  have pm : (A1 ++ (p, HO.lst vs) :: (O1 ++ A2) ++ O).Perm (O1 ++ ((p, .lst vs) :: ((A1 ++ A2) ++ O))) := by
    have e1 : A1 ++ (p, HO.lst vs) :: (O1 ++ A2) ++ O = A1 ++ ((p, HO.lst vs) :: O1 ++ (A2 ++ O)) := by simp
    have e2 : O1 ++ ((p, HO.lst vs) :: ((A1 ++ A2) ++ O)) = O1 ++ ((p, HO.lst vs) :: (A1 ++ (A2 ++ O))) := by simp
    rw [e1, e2]
    refine List.Perm.trans ?_ List.perm_middle.symm
    rw [List.cons_append]
    refine List.Perm.trans List.perm_middle (List.Perm.cons _ ?_)
    have e3 : A1 ++ (O1 ++ (A2 ++ O)) = (A1 ++ O1) ++ (A2 ++ O) := by simp
    have e4 : O1 ++ (A1 ++ (A2 ++ O)) = (O1 ++ A1) ++ (A2 ++ O) := by simp
    rw [e3, e4]
    exact List.Perm.append_right _ List.perm_append_comm
  have w1 := w.perm pm
  obtain ⟨F1, s1, w2, d1, f1⟩ := h2.frzF w1
  obtain ⟨w3, s2⟩ := w2.frz
  have nd := w1.nd
  have fr : ∀ q ∈ O1 ++ [(p, HO.lst vs)], F q.1 = none := fun q hq => (w1.has q (by
    rcases List.mem_append.mp hq with hq | hq
    · exact List.mem_append_left _ hq
    · exact List.mem_append_right _ (by simp at hq; rw [hq]; exact List.mem_cons_self))).1
  have nd0 : ((O1 ++ [(p, HO.lst vs)]).map (·.1)).Nodup := by
    refine nd.sublist (List.Sublist.map _ ?_)
    exact (List.Sublist.refl O1).append (List.Sublist.cons₂ _ (List.nil_sublist _))
  have hF : ∀ q ∈ O1 ++ [(p, HO.lst vs)], upd F1 p (.lst vs) q.1 = some q.2 := fun q hq => by
    rcases List.mem_append.mp hq with hq | hq
    · exact s2 _ _ (f1 q hq)
    · simp at hq; rw [hq]; exact upd_same
  refine ⟨O1 ++ [(p, .lst vs)], A1 ++ A2, _, s1.trans s2, h5 _ _ (s1.trans s2) (.lst (.of upd_same) (d1.up s2)), w3, nd0, ?_, hF, fun F' H' B s w' => ?_⟩
  · intro q hq
    rcases List.mem_append.mp hq with hq | hq
    · exact h2.allL q hq
    · simp at hq; rw [hq]; rfl
  · obtain ⟨b1, b2⟩ := own_back nd0 fr (fun q hq => s _ _ (hF q hq)) (fun b u z => s _ _ ((s1.trans s2) b u z)) w'
    refine ⟨b1, b2.perm (List.Perm.append_left B ?_)⟩
    refine List.Perm.trans ?_ pm.symm
    rw [List.append_assoc]; exact List.Perm.refl _
theorem ev_lend2 {n : Nat} (h : env[n]? = some (.own2N na os)) (hl : noL d = true) (x : EV K te (env.set n (.dat (.lst (os.map OD.toD)))) d) : EV K te env d := fun σ F H A O m w Q q => by
  obtain ⟨O0, A', F1, s1, m1, w1, nd, al, hF, back⟩ := lend2 h m w
  refine x σ F1 H A' O m1 w1 _ fun v F' H' s w' dd => ?_
  obtain ⟨b1, b2⟩ := back F' H' [] s w'
  exact q v _ H' b1 b2 (dat_delL hl dd nd al fun r hr => s _ _ (hF r hr))
theorem et_lend2 {n : Nat} {b : Bool} (h : env[n]? = some (.own2N na os)) (x : ET K tt (env.set n (.dat (.lst (os.map OD.toD)))) b) : ET K tt env b := fun σ F H A O m w Q q => by
  obtain ⟨O0, A', F1, s1, m1, w1, nd, al, hF, back⟩ := lend2 h m w
  refine x σ F1 H A' O m1 w1 _ fun F' H' s w' => ?_
  obtain ⟨b1, b2⟩ := back F' H' [] s w'
  exact q _ H' b1 b2
theorem en_lend2 {n : Nat} (h : env[n]? = some (.own2N na os)) (hl : noLs ds = true) (x : EN K te (env.set n (.dat (.lst (os.map OD.toD)))) ds) : EN K te env ds := fun σ F H A O m w Q q => by
  obtain ⟨O0, A', F1, s1, m1, w1, nd, al, hF, back⟩ := lend2 h m w
  refine x σ F1 H A' O m1 w1 _ fun r us F' H' s w' dd => ?_
  obtain ⟨b1, b2⟩ := back F' H' [(r, .lst us)] s w'
  exact q r us _ H' b1 b2 (dats_delL hl dd nd al fun r hr => s _ _ (hF r hr))
theorem ev_lend2L {α : Type} {r : α → D} {xs : List (List α)} {n : Nat} (h : env[n]? = some (.own2N na (xs.map (oL r)))) (hl : noL d = true) (x : EV K te (env.set n (.dat (dL (dL r) xs))) d) : EV K te env d := ev_lend2 h hl (by rw [map_toD]; exact x)
theorem et_lend2L {α : Type} {r : α → D} {xs : List (List α)} {n : Nat} {b : Bool} (h : env[n]? = some (.own2N na (xs.map (oL r)))) (x : ET K tt (env.set n (.dat (dL (dL r) xs))) b) : ET K tt env b := et_lend2 h (by rw [map_toD]; exact x)
theorem en_lend2L {α : Type} {r : α → D} {xs : List (List α)} {n : Nat} (h : env[n]? = some (.own2N na (xs.map (oL r)))) (hl : noLs ds = true) (x : EN K te (env.set n (.dat (dL (dL r) xs))) ds) : EN K te env ds := en_lend2 h hl (by rw [map_toD]; exact x)
end
end Pg

set_option Elab.async false
set_option linter.all false
set_option maxRecDepth 100000
namespace Pg
open PySem PySem.Spec PyProof.Rows L2
section
variable {K : PySem.W.Frag} {na : Option Addr} {E : WX} {env env' : List Slot} {t u : TS} {te ta tb ti : TE} {tt : TT} {i j : Int} {d e : D} {ds es : List D} {os os' : List OD} {Nx : List Slot → Prop} {Rt : List Slot → T → Prop} {Ex : List Slot → Value → Prop}
theorem en2_nil (h : EN K te env []) : EN2 K te env [] := fun σ F H A O m w Q q => h σ F H A O m w Q fun p vs F' H' s w' d => by
  cases d
  exact q p [] F' H' [] s w' .nil
/-- xs.extend(a new list) -/
theorem sw_ext {α : Type} {r : α → D} {xs zs ys : List α} {n : Nat} (hx : extR xs ys = .ok zs) (h : env[n]? = some (.ownN na (xs.map r))) (he : EN K te env (ys.map r)) (hn : Nx (env.set n (.ownN na (zs.map r)))) :
    SW K E (tDrop (tBM K "list" rExtend (tVar n) (tCons te tNil))) env Nx Rt Ex := fun σ F H A O m w Dn q1 q2 q4 => by
  obtain ⟨p, vs, A1, A2, e, h1, h2, h4, _⟩ := m.getO h
  unfold extR at hx
  split at hx
  case isFalse => cases hx
  rename_i hl
  have ey := R.ok_inj hx
  subst ey
  have hp := (w.has (p, .lst vs) (by rw [e]; simp)).2
  refine ⟨_, h1, .inl ⟨rfl, vs, .of hp⟩, he σ F H A O m w _ fun p1 us F1 H1 s1 w1 d1 => ?_⟩
  have hp1 := (w1.has (p, .lst vs) (by rw [e]; simp)).2
  have hq1 := (w1.has (p1, .lst us) (by simp)).2
  refine ⟨p, p1, vs, us, rfl, rfl, hp1, hq1, ?_, ?_⟩
  · have a1 := h2.length
    have a2 := d1.length
    rw [List.length_map] at a1 a2
    rw [a1, a2, sizeLine_eq]; exact hl
  · subst e
    have w2 : Own F1 H1 (A1 ++ (p, .lst vs) :: A2 ++ O) := w1.sub (List.sublist_cons_self _ _)
    refine q1 _ σ F1 _ (A1 ++ (p, .lst (vs ++ us)) :: A2) hn s1 ?_ ?_
    · rw [List.map_append]
      exact h4 F1 _ _ s1 ((h2.up s1).append d1)
    · rw [List.append_assoc] at w2 ⊢
      exact (w2.mid.put (o' := .lst (vs ++ us))).unmid
/-- rows.append(a new list) -/
theorem sw_app2 {α : Type} {r : α → D} {xs ys : List (List α)} {x : List α} {n : Nat} (hx : appR xs x = .ok ys) (h : env[n]? = some (.own2N na (xs.map (oL r)))) (he : EN K te env (x.map r)) (hn : Nx (env.set n (.own2N na (ys.map (oL r))))) :
    SW K E (tDrop (tBM K "list" rAppend (tVar n) (tCons te tNil))) env Nx Rt Ex := fun σ F H A O m w Dn q1 q2 q4 => by
  obtain ⟨p, vs, O1, A1, A2, e, h1, h2, h4, _⟩ := m.getO2 h
  obtain ⟨hl, ey⟩ := appR_some hx
  subst ey
  have hp := (w.has (p, .lst vs) (by rw [e]; simp)).2
  refine ⟨_, h1, .inl ⟨rfl, vs, .of hp⟩, he σ F H A O m w _ fun p1 us F1 H1 s1 w1 d1 => ?_⟩
  have hp1 := (w1.has (p, .lst vs) (by rw [e]; simp)).2
  refine ⟨p, vs, .ref p1, rfl, rfl, hp1, ?_, ?_⟩
  · have := h2.length
    rw [List.length_map] at this
    rw [this, sizeLine_eq]; exact hl
  · subst e
    have m2 := h4 F1 (vs ++ [.ref p1]) (xs.map (oL r) ++ [.own (x.map r)]) (O1 ++ [(p1, .lst us)]) s1 ((h2.up s1).append (.own d1 .nil))
    rw [← oL_snoc] at m2
    refine q1 _ σ F1 _ _ hn s1 m2 ?_
    have w2 : Own F1 H1 ((p, .lst vs) :: (A1 ++ ((O1 ++ [(p1, .lst us)]) ++ A2) ++ O)) := w1.perm (by
      have e1 : (p1, HO.lst us) :: (A1 ++ (p, HO.lst vs) :: (O1 ++ A2) ++ O) = (p1, HO.lst us) :: (A1 ++ ((p, HO.lst vs) :: (O1 ++ A2 ++ O))) := by simp
      have e2 : (p, HO.lst vs) :: (A1 ++ ((O1 ++ [(p1, HO.lst us)]) ++ A2) ++ O) = (p, HO.lst vs) :: ((A1 ++ O1) ++ ((p1, HO.lst us) :: (A2 ++ O))) := by simp
      rw [e1, e2]
      refine List.Perm.trans (List.Perm.cons _ List.perm_middle) (List.Perm.trans (List.Perm.swap _ _ _) (List.Perm.cons _ ?_))
      have e3 : A1 ++ (O1 ++ A2 ++ O) = (A1 ++ O1) ++ (A2 ++ O) := by simp
      rw [e3]
      exact List.perm_middle.symm)
    have w3 := w2.put (o' := .lst (vs ++ [.ref p1]))
    refine w3.perm ?_
    have e4 : A1 ++ (p, HO.lst (vs ++ [.ref p1])) :: ((O1 ++ [(p1, HO.lst us)]) ++ A2) ++ O = A1 ++ ((p, HO.lst (vs ++ [.ref p1])) :: (((O1 ++ [(p1, HO.lst us)]) ++ A2) ++ O)) := by simp
    have e5 : (p, HO.lst (vs ++ [.ref p1])) :: (A1 ++ ((O1 ++ [(p1, HO.lst us)]) ++ A2) ++ O) = (p, HO.lst (vs ++ [.ref p1])) :: (A1 ++ (((O1 ++ [(p1, HO.lst us)]) ++ A2) ++ O)) := by simp
    rw [e4, e5]
    exact List.perm_middle.symm
/-- the inner list of a place: where it stands -/
theorem inner_at {σ : L2.St} {F H : Hp} {A O : List (Addr × HO)} {n k : Nat} (h : env[n]? = some (.own2N na os)) (hk : os[k]? = some (.own ds)) (m : Match K F σ env A) (w : Own F H (A ++ O)) :
    ∃ p vs q us C D, σ[n]? = some (some (.ref p)) ∧ (p, HO.lst vs) ∈ A ∧ vs[k]? = some (.ref q) ∧ vs.length = os.length ∧ A = C ++ (q, HO.lst us) :: D ∧ Dats K F us ds ∧
      ∀ F' us' ds', Same F F' → Dats K F' us' ds' → Match K F' σ (env.set n (.own2N na (os.set k (.own ds')))) (C ++ (q, HO.lst us') :: D) := by
  obtain ⟨p, vs, O1, A1, A2, e, h1, h2, h4, _⟩ := m.getO2 h
  obtain ⟨q, us, B1, B2, e1, g1, g2, g3⟩ := h2.getO hk
  subst e e1
  refine ⟨p, vs, q, us, A1 ++ (p, .lst vs) :: B1, B2 ++ A2, h1, by simp, g1, h2.length, by simp, g2, fun F' us' ds' s hd => ?_⟩
  have := h4 F' vs (os.set k (.own ds')) (B1 ++ (q, .lst us') :: B2) s (g3 F' us' ds' s hd)
  have e2 : A1 ++ (p, HO.lst vs) :: B1 ++ (q, HO.lst us') :: (B2 ++ A2) = A1 ++ (p, HO.lst vs) :: ((B1 ++ (q, HO.lst us') :: B2) ++ A2) := by simp
  rw [e2]; exact this
theorem set2_some {α : Type} {xss yss : List (List α)} {i j : Int} {x : α} (h : set2R xss i j x = .ok yss) : ∃ k n row, ixP xss.length i = some k ∧ xss[k]? = some row ∧ ixP row.length j = some n ∧ yss = xss.set k (row.set n x) := by
  obtain ⟨row, h1, h2⟩ := R.bind_inv h
  obtain ⟨row', h3, h4⟩ := R.bind_inv h2
  obtain ⟨k, a1, a2⟩ := atR_some h1
  obtain ⟨n, b1, b2⟩ := setR_some h3
  obtain ⟨k', c1, c2⟩ := setR_some h4
  rw [a1] at c1
  cases c1
  exact ⟨k, n, row, a1, a2, b1, by rw [c2, b2]⟩
/-- xss[i][j] = e -/
theorem sw_put2 {α : Type} {r : α → D} {xss yss : List (List α)} {x : α} {n : Nat} (hx : set2R xss i j x = .ok yss) (he : EV K te env (r x)) (h : env[n]? = some (.own2N na (xss.map (oL r)))) (hi : EV K ti env (dI i)) (hj : EV K tb env (dI j)) (hn : Nx (env.set n (.own2N na (yss.map (oL r))))) :
    SW K E (tAsg te (gSub (tOp (rIxL K) (tVar n) ti) tb rSetL)) env Nx Rt Ex := fun σ F H A O m w Dn q1 q2 q4 =>
  he σ F H A O m w _ fun v F1 H1 s1 w1 d1 => by
    obtain ⟨k, c, row, a1, a2, b1, ey⟩ := set2_some hx
    subst ey
    have hk : (xss.map (oL r))[k]? = some (.own (row.map r)) := by rw [List.getElem?_map, a2]; rfl
    obtain ⟨p, vs, q, us, C, D, g1, g2, g3, g4, g5, g6, g7⟩ := inner_at h hk (m.up s1) w1
    rw [List.length_map] at g4
    refine ⟨_, g1, hi σ F1 H1 A O (m.up s1) w1 _ fun y F2 H2 s2 w2 d2 => ?_⟩
    have hp2 := (w2.has (p, .lst vs) (List.mem_append_left _ g2)).2
    refine ⟨p, vs, i, .ref q, rfl, d2.int, .of hp2, atI_ixP (by rw [g4]; exact a1) g3, hj σ F2 H2 A O (m.up (s1.trans s2)) w2 _ fun z F3 H3 s3 w3 d3 => ?_⟩
    have hq3 := (w3.has (q, .lst us) (by rw [g5]; simp)).2
    have hl := g6.length
    rw [List.length_map] at hl
    refine ⟨q, us, j, c, rfl, d3.int, hq3, by rw [← ixP_ixN, hl]; exact b1, ?_⟩
    have s123 := s1.trans (s2.trans s3)
    have m2 := g7 F3 (us.set c v) ((row.map r).set c (r x)) (s2.trans s3) ((g6.up (s2.trans s3)).set c (d1.up (s2.trans s3)))
    have e1 : (xss.map (oL r)).set k (.own ((row.map r).set c (r x))) = (xss.set k (row.set c x)).map (oL r) := by
      rw [List.map_set]; congr 1; show OD.own _ = OD.own ((row.set c x).map r); rw [List.map_set]
    rw [e1] at m2
    refine q1 _ σ F3 _ _ hn s123 m2 ?_
    subst g5
    rw [List.append_assoc] at w3 ⊢
    exact (w3.mid.put (o' := .lst (us.set c v))).unmid
/-- xss[i].append(e), what it holds of a kind of its own then -/
theorem sw_app2i {α : Type} {r : α → D} {xss : List (List α)} {row : List α} {n k : Nat} {u : Unit} (hk0 : ixP xss.length i = some k) (hrow : xss[k]? = some row) (hx : roomR row = .ok u) (h : env[n]? = some (.own2N na (xss.map (oL r)))) (hi : EV K ti env (dI i)) (he : EV K te env d)
    (hn : Nx (env.set n (.own2N na ((xss.map (oL r)).set k (.own (row.map r ++ [d])))))) : SW K E (tDrop (tBM K "list" rAppend (tOp (rIxL K) (tVar n) ti) (tCons te tNil))) env Nx Rt Ex := fun σ F H A O m w Dn q1 q2 q4 => by
  have hk : (xss.map (oL r))[k]? = some (.own (row.map r)) := by rw [List.getElem?_map, hrow]; rfl
  obtain ⟨p, vs, q, us, C, D, g1, g2, g3, g4, g5, g6, g7⟩ := inner_at h hk m w
  rw [List.length_map] at g4
  have hl := roomR_some hx
  refine ⟨_, g1, hi σ F H A O m w _ fun y F2 H2 s2 w2 d2 => ?_⟩
  have hp2 := (w2.has (p, .lst vs) (List.mem_append_left _ g2)).2
  have hq2 := (w2.has (q, .lst us) (by rw [g5]; simp)).2
  refine ⟨p, vs, i, .ref q, rfl, d2.int, .of hp2, atI_ixP (by rw [g4]; exact hk0) g3, .inl ⟨rfl, us, .of hq2⟩, he σ F2 H2 A O (m.up s2) w2 _ fun v F3 H3 s3 w3 d3 => ?_⟩
  have hq3 := (w3.has (q, .lst us) (by rw [g5]; simp)).2
  refine ⟨q, us, v, rfl, rfl, hq3, ?_, ?_⟩
  · have := g6.length
    rw [List.length_map] at this
    rw [this, sizeLine_eq]; exact hl
  · have m2 := g7 F3 (us ++ [v]) (row.map r ++ [d]) (s2.trans s3) ((g6.up (s2.trans s3)).append (.cons d3 .nil))
    refine q1 _ σ F3 _ _ hn (s2.trans s3) m2 ?_
    subst g5
    rw [List.append_assoc] at w3 ⊢
    exact (w3.mid.put (o' := .lst (us ++ [v]))).unmid
theorem app2_some {α : Type} {xss yss : List (List α)} {i : Int} {x : α} (h : app2R xss i x = .ok yss) : ∃ k row, ixP xss.length i = some k ∧ xss[k]? = some row ∧ row.length < 16777216 ∧ yss = xss.set k (row ++ [x]) := by
  obtain ⟨row, h1, h2⟩ := R.bind_inv h
  obtain ⟨row', h3, h4⟩ := R.bind_inv h2
  obtain ⟨k, a1, a2⟩ := atR_some h1
  obtain ⟨b1, b2⟩ := appR_some h3
  obtain ⟨k', c1, c2⟩ := setR_some h4
  rw [a1] at c1
  cases c1
  exact ⟨k, row, a1, a2, b1, by rw [c2, b2]⟩
/-- xss[i].append(e), of the kind -/
theorem sw_app2T {α : Type} {r : α → D} {xss yss : List (List α)} {x : α} {n : Nat} (hx : app2R xss i x = .ok yss) (h : env[n]? = some (.own2N na (xss.map (oL r)))) (hi : EV K ti env (dI i)) (he : EV K te env (r x)) (hn : Nx (env.set n (.own2N na (yss.map (oL r))))) :
    SW K E (tDrop (tBM K "list" rAppend (tOp (rIxL K) (tVar n) ti) (tCons te tNil))) env Nx Rt Ex := by
  obtain ⟨k, row, a1, a2, a3, ey⟩ := app2_some hx
  subst ey
  refine sw_app2i (u := ()) a1 a2 (by unfold roomR; rw [if_pos a3]) h hi he ?_
  have e1 : (xss.map (oL r)).set k (.own (row.map r ++ [r x])) = (xss.set k (row ++ [x])).map (oL r) := by
    rw [List.map_set]; congr 1; show OD.own _ = OD.own ((row ++ [x]).map r); rw [List.map_append]; rfl
  rw [e1]; exact hn
theorem ods_del {F : Hp} {p : Addr} {o0 : HO} (e : F p = some o0) (ho : isTree o0 = true) {α : Type} {r : α → D} (hr : ∀ x, noL (r x) = true) : ∀ {vs : List V} {xs : List (List α)} {O1 : List (Addr × HO)}, ODs K F vs (xs.map (oL r)) O1 → ODs K (del F p) vs (xs.map (oL r)) O1
  | _, [], _, h => by cases h; exact .nil
  | _, x :: xs, _, h => by
    cases h with
    | own d m => exact .own (Dats.del e ho _ _ (noLs_map hr x) d) (ods_del e ho hr m)
theorem ods_delL {F : Hp} {α : Type} {r : α → D} (hr : ∀ x, noL (r x) = true) {vs : List V} {xs : List (List α)} {O1 : List (Addr × HO)} (h : ODs K F vs (xs.map (oL r)) O1) : ∀ {O0 : List (Addr × HO)}, (O0.map (·.1)).Nodup → AllL O0 → (∀ q ∈ O0, F q.1 = some q.2) → ODs K (delL F O0) vs (xs.map (oL r)) O1
  | [], _, _, _ => h
  | q :: qs, nd, al, hF => by
    rw [List.map_cons, List.nodup_cons] at nd
    refine ods_del (o0 := q.2) ?_ (al q List.mem_cons_self) hr (ods_delL hr h nd.2 (fun r hr => al r (List.mem_cons_of_mem _ hr)) fun r hr => hF r (List.mem_cons_of_mem _ hr))
    rw [delL_ne fun r hr z => nd.1 (List.mem_map.mpr ⟨r, hr, z⟩), hF q List.mem_cons_self]
theorem en2_lend2L {α β : Type} {r : α → D} {r2 : β → D} {xs : List (List α)} {ys : List (List β)} {n : Nat} (h : env[n]? = some (.own2N na (xs.map (oL r)))) (hr : ∀ x, noL (r2 x) = true) (x : EN2 K te (env.set n (.dat (dL (dL r) xs))) (ys.map (oL r2))) : EN2 K te env (ys.map (oL r2)) := fun σ F H A O m w Q q => by
  obtain ⟨O0, A', F1, s1, m1, w1, nd, al, hF, back⟩ := lend2 h m w
  rw [map_toD] at m1
  refine x σ F1 H A' O m1 w1 _ fun p us F' H' O1 s w' dd => ?_
  obtain ⟨b1, b2⟩ := back F' H' ((p, .lst us) :: O1) s w'
  exact q p us _ H' O1 b1 b2 (ods_delL hr dd nd al fun r hr => s _ _ (hF r hr))
/-- a slot let go -/
theorem sw_un {n : Nat} (hn : SW K E t (env.set n .un) Nx Rt Ex) : SW K E t env Nx Rt Ex := fun σ F H A O m w Dn q1 q2 q4 => by
  obtain ⟨A', s, m'⟩ := match_unset n m
  exact hn σ F H A' O m' (w.subA s) Dn q1 q2 q4
end
end Pg

set_option Elab.async false
set_option linter.all false
set_option maxRecDepth 100000
namespace Pg
open PySem PySem.Spec PyProof.Rows L2
/-! ### places in what is owned -/
inductive Stp where
  | ix (k : Nat)
  | fld (f : Str)
def setF {α : Type} (f : Str) (y : α) : List (Str × α) → List (Str × α)
  | [] => []
  | (g, z) :: r => if f == g then (g, y) :: r else (g, z) :: setF f y r
def T.get : T → List Stp → Option T
  | t, [] => some t
  | .lst _ ts, .ix k :: π => match ts[k]? with
    | some t => T.get t π
    | none => none
  | .ins _ _ fs, .fld f :: π => match fs.lookup f with
    | some t => T.get t π
    | none => none
  | _, _ :: _ => none
def T.put : T → List Stp → T → T
  | _, [], x => x
  | .lst a ts, .ix k :: π, x => match ts[k]? with
    | some t => .lst a (ts.set k (T.put t π x))
    | none => .lst a ts
  | .ins a C fs, .fld f :: π, x => match fs.lookup f with
    | some t => .ins a C (setF f (T.put t π x) fs)
    | none => .ins a C fs
  | t, _ :: _, _ => t
/-- the root told by its address -/
def T.nm (a : Option Addr) : T → T
  | .lst _ ts => .lst a ts
  | .ins _ C fs => .ins a C fs
  | .dK _ k => .dK a k
  | .dT _ k => .dT a k
  | t => t
def T.name : T → Option Addr
  | .lst a _ => a
  | .ins a _ _ => a
  | .dK a _ => a
  | .dT a _ => a
  | .adr q => some q
  | .dat _ => none
section
variable {K : PySem.W.Frag} {F F' H H' : Hp}
theorem TRs.at : ∀ {vs : List V} {ts : List T} {O : List (Addr × HO)} {k : Nat} {t : T}, TRs K F vs ts O → ts[k]? = some t →
    ∃ v A O1 B, O = A ++ (O1 ++ B) ∧ vs[k]? = some v ∧ TR K F v t O1 ∧ ∀ F' t' O1', Same F F' → TR K F' v t' O1' → TRs K F' vs (ts.set k t') (A ++ (O1' ++ B))
  | _, _, _, _, _, .nil, e => by simp at e
  | _, _, _, 0, _, .cons a b, e => by
    simp at e; subst e
    exact ⟨_, [], _, _, rfl, rfl, a, fun F' t' O1' s h => by have z := TRs.cons h (b.up s); exact z⟩
  | _, _, _, k + 1, t, .cons (O1 := P) a b, e => by
    obtain ⟨v, A, O1, B, h1, h2, h3, h4⟩ := TRs.at (k := k) (t := t) b (by simpa using e)
    refine ⟨v, P ++ A, O1, B, by rw [h1, List.append_assoc], by simpa using h2, h3, fun F' t' O1' s h => ?_⟩
    have z := TRs.cons (a.up s) (h4 F' t' O1' s h)
    rw [List.append_assoc]
    exact z
theorem TRf.at : ∀ {us : List (Str × V)} {fs : List (Str × T)} {O : List (Addr × HO)} {f : Str} {t : T}, TRf K F us fs O → fs.lookup f = some t →
    ∃ v A O1 B, O = A ++ (O1 ++ B) ∧ us.lookup f = some v ∧ TR K F v t O1 ∧ ∀ F' t' O1', Same F F' → TR K F' v t' O1' → TRf K F' us (setF f t' fs) (A ++ (O1' ++ B))
  | _, _, _, _, _, .nil, e => by simp at e
  | _, _, _, f, t, .cons (f := g) (O1 := P) a b, e => by
    rw [List.lookup_cons] at e
    by_cases hg : (f == g) = true
    · rw [hg] at e
      simp at e; subst e
      refine ⟨_, [], _, _, rfl, by rw [List.lookup_cons, hg], a, fun F' t' O1' s h => ?_⟩
      unfold setF
      rw [if_pos hg]
      have z := TRf.cons (f := g) h (b.up s); exact z
    · have hg' : (f == g) = false := by simpa using hg
      rw [hg'] at e
      obtain ⟨v, A, O1, B, h1, h2, h3, h4⟩ := TRf.at (f := f) (t := t) b e
      refine ⟨v, P ++ A, O1, B, by rw [h1, List.append_assoc], by rw [List.lookup_cons, hg']; exact h2, h3, fun F' t' O1' s h => ?_⟩
      unfold setF
      rw [if_neg hg, List.append_assoc]
      have z := TRf.cons (f := g) (a.up s) (h4 F' t' O1' s h)
      exact z
theorem TRf.none : ∀ {us : List (Str × V)} {fs : List (Str × T)} {O : List (Addr × HO)} {f : Str}, TRf K F us fs O → fs.lookup f = none → us.lookup f = none
  | _, _, _, _, .nil, _ => by simp
  | _, _, _, f, .cons (f := g) a b, e => by
    rw [List.lookup_cons] at e ⊢
    by_cases h : (f == g) = true
    · rw [h] at e; simp at e
    · have h : (f == g) = false := by simpa using h
      rw [h] at e ⊢
      exact TRf.none b e
theorem TRs.length : ∀ {vs : List V} {ts : List T} {O : List (Addr × HO)}, TRs K F vs ts O → vs.length = ts.length
  | _, _, _, .nil => rfl
  | _, _, _, .cons _ b => by rw [List.length_cons, List.length_cons, b.length]
theorem TRf.length : ∀ {vs : List (Str × V)} {ts : List (Str × T)} {O : List (Addr × HO)}, TRf K F vs ts O → vs.length = ts.length
  | _, _, _, .nil => rfl
  | _, _, _, .cons _ b => by rw [List.length_cons, List.length_cons, b.length]
theorem TRs.append : ∀ {vs ws : List V} {ts us : List T} {O O' : List (Addr × HO)}, TRs K F vs ts O → TRs K F ws us O' → TRs K F (vs ++ ws) (ts ++ us) (O ++ O')
  | _, _, _, _, _, _, .nil, h => h
  | _, _, _, _, _, _, .cons a b, h => by
    have z := TRs.cons a (TRs.append b h)
    rw [List.append_assoc]
    exact z
theorem T.get_ix {a : Option Addr} {ts : List T} {k : Nat} {z : T} (e : ts[k]? = some z) (π : List Stp) : T.get (.lst a ts) (.ix k :: π) = z.get π := by
  show (match ts[k]? with | some t => T.get t π | none => none) = _
  rw [e]
theorem T.get_fld {a : Option Addr} {C : Addr} {fs : List (Str × T)} {f : Str} {z : T} (e : fs.lookup f = some z) (π : List Stp) : T.get (.ins a C fs) (.fld f :: π) = z.get π := by
  show (match fs.lookup f with | some t => T.get t π | none => none) = _
  rw [e]
theorem T.put_ix {a : Option Addr} {ts : List T} {k : Nat} {z : T} (e : ts[k]? = some z) (π : List Stp) (x : T) : T.put (.lst a ts) (.ix k :: π) x = .lst a (ts.set k (z.put π x)) := by
  show (match ts[k]? with | some t => T.lst a (ts.set k (T.put t π x)) | none => .lst a ts) = _
  rw [e]
theorem T.put_fld {a : Option Addr} {C : Addr} {fs : List (Str × T)} {f : Str} {z : T} (e : fs.lookup f = some z) (π : List Stp) (x : T) : T.put (.ins a C fs) (.fld f :: π) x = .ins a C (setF f (z.put π x) fs) := by
  show (match fs.lookup f with | some t => T.ins a C (setF f (T.put t π x) fs) | none => .ins a C fs) = _
  rw [e]
/-- what stands at a place, and what may come there -/
theorem TR.focus : ∀ (π : List Stp) {v : V} {t : T} {O : List (Addr × HO)} {t' : T}, TR K F v t O → t.get π = some t' →
    ∃ v' A O1 B, O = A ++ (O1 ++ B) ∧ TR K F v' t' O1 ∧ ∀ F' t'' O1', Same F F' → TR K F' v' t'' O1' → TR K F' v (t.put π t'') (A ++ (O1' ++ B))
  | [], v, t, O, t', h, e => by
    have e : some t = some t' := by cases t <;> exact e
    cases e
    exact ⟨v, [], O, [], by simp, h, fun F' t'' O1' s h' => by
      have : T.put t [] t'' = t'' := by cases t <;> rfl
      rw [this]; simpa using h'⟩
  | .ix k :: π, v, .lst a ts, O, t', h, e => by
    unfold T.get at e
    cases e1 : ts[k]? with
    | none => rw [e1] at e; cases e
    | some y =>
      rw [e1] at e
      cases h with
      | @lst _ p us _ _ n h =>
        obtain ⟨v1, A1, P1, B1, p1, p2, p3, p4⟩ := h.at e1
        obtain ⟨v2, A2, P2, B2, r1, r2, r3⟩ := TR.focus π p3 e
        subst p1 r1
        refine ⟨v2, (p, .lst us) :: (A1 ++ A2), P2, B2 ++ B1, by simp, r2, fun F' t'' O1' s h' => ?_⟩
        have z := TR.lst n (p4 F' _ _ s (r3 F' t'' O1' s h'))
        rw [T.put_ix e1]
        simpa using z
  | .fld f :: π, v, .ins a C fs, O, t', h, e => by
    unfold T.get at e
    cases e1 : fs.lookup f with
    | none => rw [e1] at e; cases e
    | some y =>
      rw [e1] at e
      cases h with
      | @ins _ p _ dx us _ _ n h =>
        obtain ⟨v1, A1, P1, B1, p1, p2, p3, p4⟩ := h.at e1
        obtain ⟨v2, A2, P2, B2, r1, r2, r3⟩ := TR.focus π p3 e
        subst p1 r1
        refine ⟨v2, (p, .ins C dx us) :: (dx, .own p) :: (A1 ++ A2), P2, B2 ++ B1, by simp, r2, fun F' t'' O1' s h' => ?_⟩
        have z := TR.ins (C := C) (dx := dx) n (p4 F' _ _ s (r3 F' t'' O1' s h'))
        rw [T.put_fld e1]
        simpa using z
  | .ix k :: π, v, .dat _, O, t', h, e => by cases e
  | .ix k :: π, v, .ins _ _ _, O, t', h, e => by cases e
  | .ix k :: π, v, .dK _ _, O, t', h, e => by cases e
  | .ix k :: π, v, .dT _ _, O, t', h, e => by cases e
  | .ix k :: π, v, .adr _, O, t', h, e => by cases e
  | .fld k :: π, v, .dat _, O, t', h, e => by cases e
  | .fld k :: π, v, .lst _ _, O, t', h, e => by cases e
  | .fld k :: π, v, .dK _ _, O, t', h, e => by cases e
  | .fld k :: π, v, .dT _ _, O, t', h, e => by cases e
  | .fld k :: π, v, .adr _, O, t', h, e => by cases e
theorem T.get_nil (t : T) : t.get [] = some t := by cases t <;> rfl
theorem T.put_nil (t x : T) : t.put [] x = x := by cases t <;> rfl
theorem T.get_snoc : ∀ (π : List Stp) (s : Stp) (t y : T), t.get π = some y → t.get (π ++ [s]) = y.get [s]
  | [], s, t, y, e => by rw [T.get_nil] at e; cases e; rfl
  | .ix k :: π, s, .lst a ts, y, e => by
    unfold T.get at e
    show T.get (.lst a ts) (.ix k :: (π ++ [s])) = _
    cases e1 : ts[k]? with
    | none => rw [e1] at e; cases e
    | some z => rw [e1] at e; rw [T.get_ix e1]; exact T.get_snoc π s z y e
  | .fld f :: π, s, .ins a C fs, y, e => by
    unfold T.get at e
    show T.get (.ins a C fs) (.fld f :: (π ++ [s])) = _
    cases e1 : fs.lookup f with
    | none => rw [e1] at e; cases e
    | some z => rw [e1] at e; rw [T.get_fld e1]; exact T.get_snoc π s z y e
  | .ix k :: π, s, .dat _, y, e => by cases e
  | .ix k :: π, s, .ins _ _ _, y, e => by cases e
  | .ix k :: π, s, .dK _ _, y, e => by cases e
  | .ix k :: π, s, .dT _ _, y, e => by cases e
  | .ix k :: π, s, .adr _, y, e => by cases e
  | .fld k :: π, s, .dat _, y, e => by cases e
  | .fld k :: π, s, .lst _ _, y, e => by cases e
  | .fld k :: π, s, .dK _ _, y, e => by cases e
  | .fld k :: π, s, .dT _ _, y, e => by cases e
  | .fld k :: π, s, .adr _, y, e => by cases e
theorem T.put_snoc : ∀ (π : List Stp) (s : Stp) (t y x : T), t.get π = some y → t.put (π ++ [s]) x = t.put π (y.put [s] x)
  | [], s, t, y, x, e => by rw [T.get_nil] at e; cases e; rw [T.put_nil]; rfl
  | .ix k :: π, s, .lst a ts, y, x, e => by
    unfold T.get at e
    show T.put (.lst a ts) (.ix k :: (π ++ [s])) x = _
    cases e1 : ts[k]? with
    | none => rw [e1] at e; cases e
    | some z => rw [e1] at e; rw [T.put_ix e1, T.put_ix e1, T.put_snoc π s z y x e]
  | .fld f :: π, s, .ins a C fs, y, x, e => by
    unfold T.get at e
    show T.put (.ins a C fs) (.fld f :: (π ++ [s])) x = _
    cases e1 : fs.lookup f with
    | none => rw [e1] at e; cases e
    | some z => rw [e1] at e; rw [T.put_fld e1, T.put_fld e1, T.put_snoc π s z y x e]
  | .ix k :: π, s, .dat _, y, x, e => by cases e
  | .ix k :: π, s, .ins _ _ _, y, x, e => by cases e
  | .ix k :: π, s, .dK _ _, y, x, e => by cases e
  | .ix k :: π, s, .dT _ _, y, x, e => by cases e
  | .ix k :: π, s, .adr _, y, x, e => by cases e
  | .fld k :: π, s, .dat _, y, x, e => by cases e
  | .fld k :: π, s, .lst _ _, y, x, e => by cases e
  | .fld k :: π, s, .dK _ _, y, x, e => by cases e
  | .fld k :: π, s, .dT _ _, y, x, e => by cases e
  | .fld k :: π, s, .adr _, y, x, e => by cases e
/-! ### .. of a frame -/
def getAt (env : List Slot) (n : Nat) (π : List Stp) : Option T := match env[n]? with
  | some (.tr t) => t.get π
  | _ => none
def putAt (env : List Slot) (n : Nat) (π : List Stp) (x : T) : List Slot := match env[n]? with
  | some (.tr t) => env.set n (.tr (t.put π x))
  | _ => env
theorem getAt_some {env : List Slot} {n : Nat} {π : List Stp} {t : T} (h : getAt env n π = some t) : ∃ r, env[n]? = some (.tr r) ∧ r.get π = some t ∧ ∀ x, putAt env n π x = env.set n (.tr (r.put π x)) := by
  unfold getAt at h
  split at h
  · rename_i r e
    exact ⟨r, e, h, fun x => by unfold putAt; rw [e]⟩
  · cases h
theorem getAt_root {env : List Slot} {n : Nat} {t : T} (h : env[n]? = some (.tr t)) : getAt env n [] = some t := by unfold getAt; rw [h]; exact T.get_nil t
theorem putAt_root {env : List Slot} {n : Nat} {t x : T} (h : env[n]? = some (.tr t)) : putAt env n [] x = env.set n (.tr x) := by unfold putAt; rw [h]; simp only; rw [T.put_nil]
theorem getAt_snoc {env : List Slot} {n : Nat} {π : List Stp} {s : Stp} {t : T} (h : getAt env n π = some t) : getAt env n (π ++ [s]) = t.get [s] := by
  obtain ⟨r, h1, h2, _⟩ := getAt_some h
  unfold getAt
  rw [h1]
  exact T.get_snoc π s r t h2
theorem putAt_snoc {env : List Slot} {n : Nat} {π : List Stp} {s : Stp} {t x : T} (h : getAt env n π = some t) : putAt env n (π ++ [s]) x = putAt env n π (t.put [s] x) := by
  obtain ⟨r, h1, h2, h3⟩ := getAt_some h
  rw [h3]
  unfold putAt
  rw [h1]
  simp only
  rw [T.put_snoc π s r t x h2]
theorem Match.focus {σ : L2.St} {env : List Slot} {A : List (Addr × HO)} {n : Nat} {π : List Stp} {t : T} (m : Match K F σ env A) (h : getAt env n π = some t) :
    ∃ v A1 O1 A2, A = A1 ++ (O1 ++ A2) ∧ TR K F v t O1 ∧ ∀ F' t' O1', Same F F' → TR K F' v t' O1' → Match K F' σ (putAt env n π t') (A1 ++ (O1' ++ A2)) := by
  obtain ⟨r, h1, h2, h3⟩ := getAt_some h
  obtain ⟨v, P, A1, A2, e, g1, g2, g3, _, _⟩ := m.getT h1
  obtain ⟨v', B1, O1, B2, e2, g4, g5⟩ := g2.focus π h2
  subst e e2
  refine ⟨v', A1 ++ B1, O1, B2 ++ A2, by simp, g4, fun F' t' O1' s h' => ?_⟩
  rw [h3]
  have z := g3 F' _ _ s (g5 F' t' O1' s h')
  simpa using z
/-- v is what stands at the place -/
def Pl (K : PySem.W.Frag) (F : Hp) (σ : L2.St) (env : List Slot) (A : List (Addr × HO)) (n : Nat) (π : List Stp) (v : V) : Prop :=
  ∃ t A1 O1 A2, getAt env n π = some t ∧ A = A1 ++ (O1 ++ A2) ∧ TR K F v t O1 ∧ ∀ F' t' O1', Same F F' → TR K F' v t' O1' → Match K F' σ (putAt env n π t') (A1 ++ (O1' ++ A2))
theorem Pl.up {σ : L2.St} {env : List Slot} {A : List (Addr × HO)} {n : Nat} {π : List Stp} {v : V} (h : Pl K F σ env A n π v) (s : Same F F') : Pl K F' σ env A n π v := by
  obtain ⟨t, A1, O1, A2, h1, h2, h3, h4⟩ := h
  exact ⟨t, A1, O1, A2, h1, h2, h3.up s, fun F2 t' O1' s2 h' => h4 F2 t' O1' (s.trans s2) h'⟩
/-- a node told by its address -/
theorem TR.named {q : Addr} {t : T} {O : List (Addr × HO)} (h : TR K F (.ref q) t O) : TR K F (.ref q) (t.nm (some q)) O := by
  cases h with
  | dat d => exact .dat d
  | lst n h => exact .lst (fun _ z => Option.some.inj z) h
  | ins n h => exact .ins (fun _ z => Option.some.inj z) h
  | dK n h => exact .dK (fun _ z => Option.some.inj z) h
  | dT n h => exact .dT (fun _ z => Option.some.inj z) h
  | adr => exact .adr
theorem TR.unnamed {v : V} {t : T} {O : List (Addr × HO)} (h : TR K F v t O) : TR K F v (t.nm none) O := by
  cases h with
  | dat d => exact .dat d
  | lst n h => exact .lst (fun _ z => nomatch z) h
  | ins n h => exact .ins (fun _ z => nomatch z) h
  | dK n h => exact .dK (fun _ z => nomatch z) h
  | dT n h => exact .dT (fun _ z => nomatch z) h
  | adr => exact .adr
theorem TR.at_name {v : V} {t : T} {O : List (Addr × HO)} {q : Addr} (h : TR K F v t O) (e : t.name = some q) : v = .ref q := by
  cases h with
  | dat d => cases e
  | lst n h => rw [n q e]
  | ins n h => rw [n q e]
  | dK n h => rw [n q e]
  | dT n h => rw [n q e]
  | adr => cases e; rfl
/-- is an object (not a datum) -/
def T.isObj : T → Bool
  | .dat _ => false
  | _ => true
theorem TR.ref {v : V} {t : T} {O : List (Addr × HO)} (h : TR K F v t O) (e : t.isObj = true) : ∃ q, v = .ref q := by
  cases h with
  | dat d => cases e
  | lst n h => exact ⟨_, rfl⟩
  | ins n h => exact ⟨_, rfl⟩
  | dK n h => exact ⟨_, rfl⟩
  | dT n h => exact ⟨_, rfl⟩
  | adr => exact ⟨_, rfl⟩
end
end Pg

set_option Elab.async false
set_option linter.all false
set_option maxRecDepth 100000
namespace Pg
open PySem PySem.Spec PyProof.Rows L2
/-! ### readings that change what is owned -/
section
variable (K : PySem.W.Frag)
def EM (te : TE) (env : List Slot) (x : T) (env' : List Slot) : Prop := ∀ (σ : L2.St) (F H : Hp) (A O : List (Addr × HO)), Match K F σ env A → Own F H (A ++ O) → ∀ Q : VK,
  (∀ v O1 F' H' A', Same F F' → Match K F' σ env' A' → Own F' H' (O1 ++ (A' ++ O)) → TR K F' v x O1 → Q v H') → te σ H Q
def EAM (ta : TA) (env : List Slot) (xs : List T) (env' : List Slot) : Prop := ∀ (σ : L2.St) (F H : Hp) (A O : List (Addr × HO)), Match K F σ env A → Own F H (A ++ O) → ∀ Q : List V → Hp → Prop,
  (∀ vs O1 F' H' A', Same F F' → Match K F' σ env' A' → Own F' H' (O1 ++ (A' ++ O)) → TRs K F' vs xs O1 → Q vs H') → ta σ H Q
def ETM (tt : TT) (env : List Slot) (b : Bool) (env' : List Slot) : Prop := ∀ (σ : L2.St) (F H : Hp) (A O : List (Addr × HO)), Match K F σ env A → Own F H (A ++ O) → ∀ Q : Bool → Hp → Prop,
  (∀ F' H' A', Same F F' → Match K F' σ env' A' → Own F' H' (A' ++ O) → Q b H') → tt σ H Q
/-- the value is what stands at a place -/
def EP (te : TE) (env : List Slot) (n : Nat) (π : List Stp) : Prop := ∀ (σ : L2.St) (F H : Hp) (A O : List (Addr × HO)), Match K F σ env A → Own F H (A ++ O) → ∀ Q : VK,
  (∀ v F' H', Same F F' → Own F' H' (A ++ O) → Pl K F' σ env A n π v → Q v H') → te σ H Q
end
/-- an expression's outcome as a slot -/
def T.slot : T → Slot
  | .dat d => .dat d
  | t => .tr t
mutual
/-- frozen -/
def T.fz : T → D
  | .dat d => d
  | .lst _ ts => .lst (T.fzs ts)
  | .ins _ C fs => .ins C (T.fzf fs)
  | _ => .v .non
def T.fzs : List T → List D
  | [] => []
  | t :: ts => t.fz :: T.fzs ts
def T.fzf : List (Str × T) → List (Str × D)
  | [] => []
  | (f, t) :: ts => (f, t.fz) :: T.fzf ts
end
mutual
def T.fzOk : T → Bool
  | .dat _ => true
  | .lst _ ts => T.fzsOk ts
  | .ins _ _ fs => T.fzfOk fs
  | _ => false
def T.fzsOk : List T → Bool
  | [] => true
  | t :: ts => t.fzOk && T.fzsOk ts
def T.fzfOk : List (Str × T) → Bool
  | [] => true
  | (_, t) :: ts => t.fzOk && T.fzfOk ts
end
section
variable {K : PySem.W.Frag} {F F' H H' : Hp}
mutual
theorem TR.frz : ∀ (t : T) {v : V} {O1 R : List (Addr × HO)} {F H : Hp}, t.fzOk = true → TR K F v t O1 → Own F H (O1 ++ R) → ∃ F', Same F F' ∧ Own F' H R ∧ Dat K F' v t.fz
  | .dat d, v, _, R, F, H, _, h, w => by
    cases h with
    | dat h => exact ⟨F, Same.refl F, w, by unfold T.fz; exact h⟩
  | .lst a ts, v, _, R, F, H, e, h, w => by
    cases h with
    | @lst _ p vs _ O n h =>
      have w2 : Own F H (O ++ ((p, .lst vs) :: R)) := w.perm List.perm_middle.symm
      obtain ⟨F1, s1, w1, d1⟩ := TRs.frz ts (by unfold T.fzOk at e; exact e) h w2
      obtain ⟨w3, s3⟩ := w1.frz
      exact ⟨_, s1.trans s3, w3, by unfold T.fz; exact .lst (.of upd_same) (d1.up s3)⟩
  | .ins a C fs, v, _, R, F, H, e, h, w => by
    cases h with
    | @ins _ p _ dx us _ O n h =>
      have w2 : Own F H (O ++ ((p, .ins C dx us) :: (dx, .own p) :: R)) := w.perm (by
        have z : ((p, HO.ins C dx us) :: (dx, HO.own p) :: O ++ R).Perm (O ++ ((p, HO.ins C dx us) :: (dx, HO.own p) :: R)) := by
          have e1 : (p, HO.ins C dx us) :: (dx, HO.own p) :: O ++ R = [(p, HO.ins C dx us), (dx, HO.own p)] ++ (O ++ R) := by simp
          have e2 : O ++ ((p, HO.ins C dx us) :: (dx, HO.own p) :: R) = O ++ ([(p, HO.ins C dx us), (dx, HO.own p)] ++ R) := by simp
          rw [e1, e2, ← List.append_assoc, ← List.append_assoc]
          exact List.Perm.append_right _ List.perm_append_comm
        exact z)
      obtain ⟨F1, s1, w1, d1⟩ := TRf.frz fs (by unfold T.fzOk at e; exact e) h w2
      obtain ⟨w3, s3⟩ := w1.frz
      obtain ⟨w4, s4⟩ := w3.frz
      exact ⟨_, s1.trans (s3.trans s4), w4, by unfold T.fz; exact .ins (s4 _ _ upd_same) (d1.up (s3.trans s4))⟩
  | .dK _ _, v, _, R, F, H, e, h, w => by unfold T.fzOk at e; cases e
  | .dT _ _, v, _, R, F, H, e, h, w => by unfold T.fzOk at e; cases e
  | .adr _, v, _, R, F, H, e, h, w => by unfold T.fzOk at e; cases e
theorem TRs.frz : ∀ (ts : List T) {vs : List V} {O1 R : List (Addr × HO)} {F H : Hp}, T.fzsOk ts = true → TRs K F vs ts O1 → Own F H (O1 ++ R) → ∃ F', Same F F' ∧ Own F' H R ∧ Dats K F' vs (T.fzs ts)
  | [], vs, _, R, F, H, _, h, w => by
    cases h
    exact ⟨F, Same.refl F, w, by unfold T.fzs; exact .nil⟩
  | t :: ts, vs, _, R, F, H, e, h, w => by
    cases h with
    | cons a b =>
      unfold T.fzsOk at e
      have e := Bool.and_eq_true_iff.mp e
      rw [List.append_assoc] at w
      obtain ⟨F1, s1, w1, d1⟩ := TR.frz t e.1 a w
      obtain ⟨F2, s2, w2, d2⟩ := TRs.frz ts e.2 (b.up s1) w1
      exact ⟨F2, s1.trans s2, w2, by unfold T.fzs; exact .cons (d1.up s2) d2⟩
theorem TRf.frz : ∀ (fs : List (Str × T)) {us : List (Str × V)} {O1 R : List (Addr × HO)} {F H : Hp}, T.fzfOk fs = true → TRf K F us fs O1 → Own F H (O1 ++ R) → ∃ F', Same F F' ∧ Own F' H R ∧ Datf K F' us (T.fzf fs)
  | [], us, _, R, F, H, _, h, w => by
    cases h
    exact ⟨F, Same.refl F, w, by unfold T.fzf; exact .nil⟩
  | (f, t) :: fs, us, _, R, F, H, e, h, w => by
    cases h with
    | cons a b =>
      unfold T.fzfOk at e
      have e := Bool.and_eq_true_iff.mp e
      rw [List.append_assoc] at w
      obtain ⟨F1, s1, w1, d1⟩ := TR.frz t e.1 a w
      obtain ⟨F2, s2, w2, d2⟩ := TRf.frz fs e.2 (b.up s1) w1
      exact ⟨F2, s1.trans s2, w2, by unfold T.fzf; exact .cons (d1.up s2) d2⟩
end
theorem perm_front {α : Type} (a b c : List α) : (a ++ (b ++ c)).Perm (b ++ (a ++ c)) := by
  rw [← List.append_assoc, ← List.append_assoc]
  exact List.Perm.append_right _ List.perm_append_comm
theorem Own.front {A B C : List (Addr × HO)} (h : Own F H (A ++ (B ++ C))) : Own F H (B ++ (A ++ C)) := h.perm (perm_front A B C)
variable {env env1 env2 env3 env' : List Slot} {te ta tb : TE} {tt tu : TT} {x y : T} {d e : D} {ds es : List D} {i j : Int} {n : Nat} {π : List Stp}
/-! ### readings that change nothing -/
theorem em_ev (h : EV K te env d) : EM K te env (.dat d) env := fun σ F H A O m w Q q => h σ F H A O m w Q fun v F' H' s w' dd => q v [] F' H' A s (m.up s) w' (.dat dd)
theorem em_en (h : EN K te env ds) : EM K te env (.lst none (ds.map T.dat)) env := fun σ F H A O m w Q q => h σ F H A O m w Q fun p vs F' H' s w' dd => q _ [(p, .lst vs)] F' H' A s (m.up s) w' (.lst (fun _ z => nomatch z) dd.tree)
theorem em_en2 {os : List OD} (h : EN2 K te env os) : EM K te env (.lst none (os.map OD.toT)) env := fun σ F H A O m w Q q => h σ F H A O m w Q fun p vs F' H' O1 s w' dd => q _ ((p, .lst vs) :: O1) F' H' A s (m.up s) w' (.lst (fun _ z => nomatch z) dd.tree)
theorem etm_et {b : Bool} (h : ET K tt env b) : ETM K tt env b env := fun σ F H A O m w Q q => h σ F H A O m w Q fun F' H' s w' => q F' H' A s (m.up s) w'
/-- frozen at once -/
theorem em_frz (h : EM K te env x env') (e : x.fzOk = true) : EM K te env (.dat x.fz) env' := fun σ F H A O m w Q q => h σ F H A O m w Q fun v O1 F' H' A' s m' w' dd => by
  obtain ⟨F2, s2, w2, d2⟩ := dd.frz x e w'
  exact q v [] F2 H' A' (s.trans s2) (m'.up s2) w2 (.dat d2)
theorem em_cast {α : Type} {r : α → T} {a b : α} (h : R.ok a = R.ok b) (z : EM K te env (r a) env') : EM K te env (r b) env' := by rw [← R.ok_inj h]; exact z
theorem em_eq (h : x = y) (z : EM K te env x env') : EM K te env y env' := h ▸ z
/-- .. in a frame that is told otherwise -/
theorem em_to (h : env1 = env2) (z : EM K te env x env1) : EM K te env x env2 := h ▸ z
/-! ### arguments, displays, operators -/
theorem eam_nil : EAM K tNil env [] env := fun σ F H A O m w Q q => q [] [] F H A (Same.refl F) m w .nil
theorem eam_cons {tr : TA} {xs : List T} (h : EM K te env x env1) (hr : EAM K tr env1 xs env') : EAM K (tCons te tr) env (x :: xs) env' := fun σ F H A O m w Q q =>
  h σ F H A O m w _ fun v O1 F1 H1 A1 s1 m1 w1 d1 => hr σ F1 H1 A1 (O1 ++ O) m1 w1.front _ fun vs O2 F2 H2 A2 s2 m2 w2 d2 => by
    refine q _ (O1 ++ O2) F2 H2 A2 (s1.trans s2) m2 (w2.perm ?_) (.cons (d1.up s2) d2)
    have e1 : O2 ++ (A2 ++ (O1 ++ O)) = (O2 ++ A2) ++ (O1 ++ O) := by simp
    rw [e1]
    refine (perm_front (O2 ++ A2) O1 O).trans ?_
    rw [List.append_assoc O1, List.append_assoc O2]
theorem em_tup {ta : TA} (h : EAM K ta env (ds.map T.dat) env') (hl : ds.length ≤ sizeLine := by first | exact Nat.le_of_ble_eq_true rfl | decide) : EM K (tTup ta) env (.dat (.tup ds)) env' := fun σ F H A O m w Q q =>
  h σ F H A O m w _ fun vs O1 F1 H1 A1 s1 m1 w1 d1 => by
    obtain ⟨e1, d3⟩ := d1.flat
    subst e1
    refine ⟨by rw [d3.length]; exact hl, fun p np => ?_⟩
    have w1 : Own F1 H1 (A1 ++ O) := w1
    obtain ⟨w2, s2⟩ := w1.newF (o := .tup vs) np
    exact q _ [] _ _ A1 (s1.trans s2) (m1.up s2) w2 (.dat (.tup (.of upd_same) (d3.up s2)))
theorem em_lst {ta : TA} {xs : List T} (h : EAM K ta env xs env') (hl : xs.length ≤ sizeLine := by first | exact Nat.le_of_ble_eq_true rfl | decide) : EM K (tLst ta) env (.lst none xs) env' := fun σ F H A O m w Q q =>
  h σ F H A O m w _ fun vs O1 F1 H1 A1 s1 m1 w1 d1 => ⟨by rw [d1.length]; exact hl, fun p np => q _ ((p, .lst vs) :: O1) F1 _ A1 s1 m1 (w1.new np) (.lst (fun _ z => nomatch z) d1)⟩
/-- an operator of two values that are no objects -/
theorem em_op {r : V → V → Hp → VK → Prop} {a b : V} (ha : EM K ta env (.dat (.v a)) env1) (hb : EM K tb env1 (.dat (.v b)) env2) (h : EV K (tOp r (tC a) (tC b)) env2 d) : EM K (tOp r ta tb) env (.dat d) env2 := fun σ F H A O m w Q q =>
  ha σ F H A O m w _ fun v O1 F1 H1 A1 s1 m1 w1 d1 => by
    cases d1 with
    | dat d1 =>
      refine hb σ F1 H1 A1 O m1 w1 _ fun v2 O2 F2 H2 A2 s2 m2 w2 d2 => ?_
      cases d2 with
      | dat d2 =>
        rw [d1.scl, d2.scl]
        refine h σ F2 H2 A2 O m2 w2 _ fun v3 F3 H3 s3 w3 d3 => ?_
        exact q v3 [] F3 H3 A2 (s1.trans (s2.trans s3)) (m2.up s3) w3 (.dat d3)
theorem em_un {r : V → Hp → VK → Prop} {a : V} (ha : EM K ta env (.dat (.v a)) env1) (h : EV K (tUn r (tC a)) env1 d) : EM K (tUn r ta) env (.dat d) env1 := fun σ F H A O m w Q q =>
  ha σ F H A O m w _ fun v O1 F1 H1 A1 s1 m1 w1 d1 => by
    cases d1 with
    | dat d1 =>
      rw [d1.scl]
      refine h σ F1 H1 A1 O m1 w1 _ fun v3 F3 H3 s3 w3 d3 => ?_
      exact q v3 [] F3 H3 A1 (s1.trans s3) (m1.up s3) w3 (.dat d3)
theorem em_ixL {i : Int} {k : Nat} (ha : EV K ta env (.lst ds)) (hb : EM K tb env (.dat (dI i)) env1) (h1 : ixP ds.length i = some k) (h2 : ds[k]? = some d) : EM K (tOp (rIxL K) ta tb) env (.dat d) env1 := fun σ F H A O m w Q q =>
  ha σ F H A O m w _ fun v F1 H1 s1 w1 d1 => hb σ F1 H1 A O (m.up s1) w1 _ fun v2 O2 F2 H2 A2 s2 m2 w2 d2 => by
    cases d2 with
    | dat d2 =>
      cases d1 with
      | lst a b =>
        obtain ⟨x, e, dv⟩ := b.atI h1 h2
        exact ⟨_, _, i, x, rfl, d2.int, w2.same.seq (s2.seq a), e, q _ [] F2 H2 A2 (s1.trans s2) m2 w2 (.dat (dv.up s2))⟩
theorem em_atL {α : Type} {r : α → D} {xs : List α} {i : Int} {x : α} (h : atR xs i = .ok x) (ha : EV K ta env (.lst (xs.map r))) (hb : EM K tb env (.dat (dI i)) env1) : EM K (tOp (rIxL K) ta tb) env (.dat (r x)) env1 := by
  obtain ⟨k, g1, g2⟩ := map_at (r := r) h
  exact em_ixL ha hb g1 g2
/-! ### tests -/
theorem etm_test {b : Bool} (h : EM K te env (.dat (dB b)) env') : ETM K (tTest te) env b env' := fun σ F H A O m w Q q => h σ F H A O m w _ fun v O1 F' H' A' s m' w' dd => by
  cases dd with
  | dat dd => exact ⟨b, dd.bl, q F' H' A' s m' w'⟩
theorem etm_b {b : Bool} (h : EM K te env (.dat (dB b)) env') : ETM K (tB te) env b env' := fun σ F H A O m w Q q => h σ F H A O m w _ fun v O1 F' H' A' s m' w' dd => by
  cases dd with
  | dat dd => exact ⟨b, dd.bl, q F' H' A' s m' w'⟩
theorem etm_not {b : Bool} (h : ETM K tt env b env') : ETM K (tNot tt) env (!b) env' := fun σ F H A O m w Q q => h σ F H A O m w _ fun F' H' A' s m' w' => q F' H' A' s m' w'
theorem etm_and {S : Type} {b : Bool} (ε : S → List Slot) {s0 : S} {f : R (Bool × S)} {st : Bool × S} (e : (if b = true then f else .ok (false, s0)) = .ok st) (h : ETM K tt env b (ε s0)) (h2 : b = true → f = .ok st → ETM K tu (ε s0) st.1 (ε st.2)) : ETM K (tAnd tt tu) env st.1 (ε st.2) := fun σ F H A O m w Q q => h σ F H A O m w _ fun F' H' A' s m' w' => by
  cases b with
  | false =>
    rw [if_neg (by decide)] at e
    have e := R.ok_inj e
    cases e
    exact iteF (q F' H' A' s m' w')
  | true =>
    rw [if_pos rfl] at e
    exact iteT (h2 rfl e σ F' H' A' O m' w' _ fun F2 H2 A2 s2 m2 w2 => q F2 H2 A2 (s.trans s2) m2 w2)
theorem etm_or {S : Type} {b : Bool} (ε : S → List Slot) {s0 : S} {f : R (Bool × S)} {st : Bool × S} (e : (if b = true then .ok (true, s0) else f) = .ok st) (h : ETM K tt env b (ε s0)) (h2 : b = false → f = .ok st → ETM K tu (ε s0) st.1 (ε st.2)) : ETM K (tOr tt tu) env st.1 (ε st.2) := fun σ F H A O m w Q q => h σ F H A O m w _ fun F' H' A' s m' w' => by
  cases b with
  | true =>
    rw [if_pos rfl] at e
    have e := R.ok_inj e
    cases e
    exact iteT (q F' H' A' s m' w')
  | false =>
    rw [if_neg (by decide)] at e
    exact iteF (h2 rfl e σ F' H' A' O m' w' _ fun F2 H2 A2 s2 m2 w2 => q F2 H2 A2 (s.trans s2) m2 w2)
/-- .. where only the first test changes -/
theorem etm_andP {b c : Bool} (h : ETM K tt env b env') (h2 : b = true → ET K tu env' c) : ETM K (tAnd tt tu) env (b && c) env' := fun σ F H A O m w Q q => h σ F H A O m w _ fun F' H' A' s m' w' => by
  cases b with
  | false => exact iteF (q F' H' A' s m' w')
  | true => exact iteT (h2 rfl σ F' H' A' O m' w' _ fun F2 H2 s2 w2 => q F2 H2 A' (s.trans s2) (m'.up s2) w2)
theorem etm_orP {b c : Bool} (h : ETM K tt env b env') (h2 : b = false → ET K tu env' c) : ETM K (tOr tt tu) env (b || c) env' := fun σ F H A O m w Q q => h σ F H A O m w _ fun F' H' A' s m' w' => by
  cases b with
  | true => exact iteT (q F' H' A' s m' w')
  | false => exact iteF (h2 rfl σ F' H' A' O m' w' _ fun F2 H2 s2 w2 => q F2 H2 A' (s.trans s2) (m'.up s2) w2)
/-! ### what is walked -/
theorem ivm_rng1 {j : Int} {xs : List Int} (hx : rngR 0 j = .ok xs) (h : EM K te env (.dat (dI j)) env') : IVM K (iRng1 (tCons te tNil)) env env' (xs.map dI) := fun σ F H A O m w Q q => h σ F H A O m w _ fun v O1 F1 H1 A1 s1 m1 w1 d1 => by
  cases d1 with
  | dat d1 =>
    obtain ⟨⟨_, _, h1, h2⟩, e⟩ := rngR_some hx
    rw [d1.int]
    refine ⟨j, rfl, h1, h2, q _ F1 H1 A1 s1 m1 w1 ?_⟩
    rw [e]
    have := walks_rng (K := K) 0 (j - 0).toNat F1
    rw [show j - 0 = j by omega] at this ⊢
    exact this
theorem ivm_list {ds : List D} (h : EM K te env (.dat (.lst ds)) env') : IVM K (iList K te) env env' ds := fun σ F H A O m w Q q => h σ F H A O m w _ fun v O1 F1 H1 A1 s1 m1 w1 d1 => by
  cases d1 with
  | dat d1 =>
    cases d1 with
    | lst a b =>
      refine ⟨_, rfl, ⟨_, w1.same.seq a⟩, q _ F1 H1 A1 s1 m1 w1 ⟨fun i F' H O d s w' hd => ?_, fun i F' H O s w' hl => ⟨_, w'.same.seq (s.seq a), by rw [b.length]; exact hl⟩⟩⟩
      obtain ⟨x, hx, dx⟩ := b.get hd
      refine ⟨⟨_, x, w'.same.seq (s.seq a), hx⟩, fun y H' hy => ?_⟩
      obtain ⟨e1, e2⟩ := hy
      subst e1
      have e3 := e2 _ (w'.same.seq (s.seq a))
      rw [hx] at e3
      cases e3
      exact ⟨F', Same.refl _, w', dx.up s⟩
/-! ### places -/
theorem ep_var {r : T} (h : env[n]? = some (.tr r)) : EP K (tVar n) env n [] := fun σ F H A O m w Q q => by
  obtain ⟨v, O1, A1, A2, e, h1, h2, h3, _, _⟩ := m.getT h
  refine ⟨v, h1, q v F H (Same.refl F) w ⟨r, A1, O1, A2, getAt_root h, e, h2, fun F' t' O1' s z => ?_⟩⟩
  rw [putAt_root h]
  exact h3 F' t' O1' s z
theorem ep_ix {a : Option Addr} {ts : List T} {k : Nat} (h : EP K te env n π) (hg : getAt env n π = some (.lst a ts)) (hi : EV K tb env (dI i)) (hk : ixP ts.length i = some k) : EP K (tOp (rIxL K) te tb) env n (π ++ [.ix k]) := fun σ F H A O m w Q q =>
  h σ F H A O m w _ fun v F1 H1 s1 w1 pl => hi σ F1 H1 A O (m.up s1) w1 _ fun u F2 H2 s2 w2 d2 => by
    obtain ⟨t, A1, O1, A2, g1, e, g3, g4⟩ := pl.up s2
    rw [hg] at g1
    cases g1
    cases g3 with
    | @lst _ p vs _ P nm hs =>
      have hlt := (ixP_some hk).1
      obtain ⟨y, hy⟩ : ∃ y, ts[k]? = some y := ⟨ts[k], by simp [hlt]⟩
      obtain ⟨v', B1, P1, B2, e2, r1, r2, r3⟩ := hs.at hy
      have hp := (w2.has (p, .lst vs) (by rw [e]; simp)).2
      refine ⟨p, vs, i, v', rfl, d2.int, .of hp, atI_ixP (by rw [hs.length]; exact hk) r1, q v' F2 H2 (s1.trans s2) w2 ?_⟩
      subst e2
      refine ⟨y, A1 ++ (p, .lst vs) :: B1, P1, B2 ++ A2, by rw [getAt_snoc hg, T.get_ix hy, T.get_nil], by rw [e]; simp, r2, fun F' t' O1' s z => ?_⟩
      rw [putAt_snoc hg, T.put_ix hy, T.put_nil]
      have z2 := g4 F' _ _ s (.lst nm (r3 F' t' O1' s z))
      simpa using z2
theorem ep_fld {a : Option Addr} {C : Addr} {fs : List (Str × T)} {f : Str} (h : EP K te env n π) (hg : getAt env n π = some (.ins a C fs)) (hc : Cls K C) (hn : NoAttr K C f) (hf : (fs.lookup f).isSome = true) : EP K (tFld K te f) env n (π ++ [.fld f]) := fun σ F H A O m w Q q =>
  h σ F H A O m w _ fun v F1 H1 s1 w1 pl => by
    obtain ⟨t, A1, O1, A2, g1, e, g3, g4⟩ := pl
    rw [hg] at g1
    cases g1
    cases g3 with
    | @ins _ p _ dx us _ P nm hs =>
      obtain ⟨y, hy⟩ := Option.isSome_iff_exists.mp hf
      obtain ⟨v', B1, P1, B2, e2, r1, r2, r3⟩ := hs.at hy
      have hp := (w1.has (p, .ins C dx us) (by rw [e]; simp)).2
      refine ⟨p, C, dx, us, v', rfl, hp, hc, hn, r1, q v' F1 H1 s1 w1 ?_⟩
      subst e2
      refine ⟨y, A1 ++ (p, .ins C dx us) :: (dx, .own p) :: B1, P1, B2 ++ A2, by rw [getAt_snoc hg, T.get_fld hy, T.get_nil], by rw [e]; simp, r2, fun F' t' O1' s z => ?_⟩
      rw [putAt_snoc hg, T.put_fld hy, T.put_nil]
      have z2 := g4 F' _ _ s (TR.ins (C := C) (dx := dx) nm (r3 F' t' O1' s z))
      simpa using z2
/-- a datum that stands at a place -/
theorem ev_pl (h : EP K te env n π) (hg : getAt env n π = some (.dat d)) : EV K te env d := fun σ F H A O m w Q q => h σ F H A O m w _ fun v F1 H1 s1 w1 pl => by
  obtain ⟨t, A1, O1, A2, g1, e, g3, g4⟩ := pl
  rw [hg] at g1
  cases g1
  cases g3 with
  | dat dd => exact q v F1 H1 s1 w1 dd
theorem ev_lenPl {a : Option Addr} {ts : List T} (h : EP K te env n π) (hg : getAt env n π = some (.lst a ts)) : EV K (tCB (rLenP K) (tCons te tNil)) env (dI (ts.length : Nat)) := fun σ F H A O m w Q q => h σ F H A O m w _ fun v F1 H1 s1 w1 pl => by
  obtain ⟨t, A1, O1, A2, g1, e, g3, g4⟩ := pl
  rw [hg] at g1
  cases g1
  cases g3 with
  | @lst _ p vs _ P nm hs =>
    have hp := (w1.has (p, .lst vs) (by rw [e]; simp)).2
    exact ⟨_, ts.length, rfl, .inl ⟨_, .of hp, hs.length.symm⟩, q _ F1 H1 s1 w1 (.v _)⟩
/-- the address of a named thing -/
theorem em_adr {t : T} {q : Addr} (h : EP K te env n π) (hg : getAt env n π = some t) (hq : t.name = some q) : EM K te env (.adr q) env := fun σ F H A O m w Q k => h σ F H A O m w _ fun v F1 H1 s1 w1 pl => by
  obtain ⟨t, A1, O1, A2, g1, e, g3, g4⟩ := pl
  rw [hg] at g1
  cases g1
  have := g3.at_name hq
  subst this
  exact k _ [] F1 H1 A s1 (m.up s1) w1 .adr
/-- what a slot owns, taken out of it -/
theorem em_move {t : T} (h : env[n]? = some (.tr t)) : EM K (tVar n) env t (env.set n .un) := fun σ F H A O m w Q q => by
  obtain ⟨v, O1, A1, A2, e, h1, h2, h3, _, h6⟩ := m.getT h
  subst e
  refine ⟨v, h1, q v O1 F H (A1 ++ A2) (Same.refl F) (h6 F (Same.refl F)) (w.perm ?_) h2⟩
  have e1 : A1 ++ (O1 ++ A2) ++ O = A1 ++ (O1 ++ (A2 ++ O)) := by simp
  have e2 : O1 ++ (A1 ++ A2 ++ O) = O1 ++ (A1 ++ (A2 ++ O)) := by simp
  rw [e1, e2]
  exact perm_front _ _ _
/-- names given for a while -/
theorem em_name {t : T} {envq : Addr → List Slot} (h : getAt env n π = some t) (ho : t.isObj = true) (he : ∀ q, EM K te (putAt env n π (t.nm (some q))) x (envq q)) (hu : ∀ q, ∃ t1, getAt (envq q) n π = some t1 ∧ putAt (envq q) n π (t1.nm none) = env') : EM K te env x env' := fun σ F H A O m w Q q => by
  obtain ⟨v, A1, O1, A2, e, g2, g3⟩ := m.focus h
  obtain ⟨p, rfl⟩ := g2.ref ho
  have m2 := g3 F _ _ (Same.refl F) g2.named
  refine he p σ F H _ O m2 (by rw [← e]; exact w) Q fun v2 O2 F' H' A' s m' w' dd => ?_
  obtain ⟨t1, h1, h2⟩ := hu p
  obtain ⟨v3, B1, P1, B2, e3, r2, r3⟩ := m'.focus h1
  have m3 := r3 F' _ _ (Same.refl F') r2.unnamed
  rw [h2] at m3
  exact q v2 O2 F' H' _ s m3 (by rw [← e3]; exact w') dd
/-! ### arguments that are owned by the caller's frame -/
/-- from the frame and the arguments' trees: the callee's slots, and what is left of the frame -/
inductive Take : List Slot → List T → List Slot → List Slot → Prop
  | nil {env : List Slot} : Take env [] [] env
  | dat {env env' as : List Slot} {d : D} {xs : List T} : Take env xs as env' → Take env (.dat d :: xs) (.dat d :: as) env'
  | new {env env' as : List Slot} {x : T} {xs : List T} : Take env xs as env' → Take env (x :: xs) (.tr x :: as) env'
  | pl {env env' as : List Slot} {n : Nat} {π : List Stp} {t : T} {q : Addr} {s : Slot} {xs : List T} : getAt env n π = some t → t.name = some q → s = .tr (t.nm none) → Take (putAt env n π (.adr q)) xs as env' → Take env (.adr q :: xs) (s :: as) env'
theorem Take.run : ∀ {env xs as env'}, Take env xs as env' → ∀ {σ : L2.St} {A : List (Addr × HO)} {vs : List V} {O1 : List (Addr × HO)}, Match K F σ env A → TRs K F vs xs O1 →
    ∃ O2 A', Match K F (vs.map some) as O2 ∧ Match K F σ env' A' ∧ ∀ F' H O, Own F' H (O1 ++ (A ++ O)) → Own F' H (O2 ++ (A' ++ O))
  | _, _, _, _, .nil, σ, A, vs, O1, m, h => by
    cases h
    exact ⟨[], A, .nil, m, fun _ _ _ w => w⟩
  | _, _, _, _, .dat k, σ, A, vs, O1, m, h => by
    cases h with
    | cons a b =>
      cases a with
      | dat a =>
        obtain ⟨O2, A', h1, h2, h3⟩ := k.run m b
        exact ⟨O2, A', .dat a h1, h2, h3⟩
  | _, _, _, _, .new k, σ, A, vs, O1, m, h => by
    cases h with
    | @cons v _ vs _ P1 P2 a b =>
      obtain ⟨O2, A', h1, h2, h3⟩ := k.run m b
      refine ⟨P1 ++ O2, A', .tr a h1, h2, fun F' H O w => ?_⟩
      have w2 : Own F' H (P2 ++ (A ++ (P1 ++ O))) := w.perm (by
        have e1 : P1 ++ P2 ++ (A ++ O) = P1 ++ ((P2 ++ A) ++ O) := by simp
        rw [e1]
        refine (perm_front P1 (P2 ++ A) O).trans ?_
        rw [List.append_assoc])
      have w3 := h3 F' H _ w2
      refine w3.perm ?_
      have e1 : O2 ++ (A' ++ (P1 ++ O)) = (O2 ++ A') ++ (P1 ++ O) := by simp
      rw [e1]
      refine (perm_front (O2 ++ A') P1 O).trans ?_
      simp
  | _, _, _, _, .pl (q := q) g gn es k, σ, A, vs, O1, m, h => by
    subst es
    cases h with
    | cons a b =>
      cases a with
      | adr =>
        obtain ⟨v, A1, P1, A2, e, g2, g3⟩ := m.focus g
        have hv := g2.at_name gn
        subst hv
        have m2 := g3 F (.adr q) [] (Same.refl F) .adr
        obtain ⟨O2, A', h1, h2, h3⟩ := k.run m2 b
        refine ⟨P1 ++ O2, A', .tr g2.unnamed h1, h2, fun F' H O w => ?_⟩
        rename_i P2
        have w : Own F' H (P2 ++ (A ++ O)) := w
        subst e
        have w2 : Own F' H (P2 ++ ((A1 ++ ([] ++ A2)) ++ (P1 ++ O))) := w.perm (List.Perm.append_left _ (by
          have e1 : A1 ++ (P1 ++ A2) ++ O = A1 ++ (P1 ++ (A2 ++ O)) := by simp
          have e2 : A1 ++ ([] ++ A2) ++ (P1 ++ O) = A1 ++ (A2 ++ (P1 ++ O)) := by simp
          rw [e1, e2]
          exact List.Perm.append_left _ (perm_front P1 A2 O)))
        have w3 := h3 F' H _ w2
        refine w3.perm ?_
        have e1 : O2 ++ (A' ++ (P1 ++ O)) = (O2 ++ A') ++ (P1 ++ O) := by simp
        rw [e1]
        refine (perm_front (O2 ++ A') P1 O).trans ?_
        simp
/-- .. and back -/
inductive Give : List Slot → List T → List Slot → List Slot → Prop
  | nil {env : List Slot} : Give env [] [] env
  | skip {env env' os : List Slot} {s : Slot} {x : T} {xs : List T} : Give env xs os env' → Give env (x :: xs) (s :: os) env'
  | pl {env env' os : List Slot} {n : Nat} {π : List Stp} {t : T} {q : Addr} {xs : List T} (a : Option Addr) : getAt env n π = some (.adr q) → (a = none ∨ a = some q) → Give (putAt env n π (t.nm a)) xs os env' → Give env (.adr q :: xs) (.tr t :: os) env'
theorem Give.run : ∀ {env xs os env'}, Give env xs os env' → ∀ {σ : L2.St} {A : List (Addr × HO)} {vs : List V} {F0 : Hp} {O1 O2 : List (Addr × HO)}, Match K F σ env A → TRs K F0 vs xs O1 → Match K F (vs.map some) os O2 →
    ∃ A', Match K F σ env' A' ∧ ∀ H O, Own F H (O2 ++ (A ++ O)) → Own F H (A' ++ O)
  | _, _, _, _, .nil, σ, A, vs, F0, O1, O2, m, h, h2 => by
    cases h
    cases h2
    exact ⟨A, m, fun _ _ w => w⟩
  | _, _, _, _, .skip k, σ, A, vs, F0, O1, O2, m, h, h2 => by
    cases h with
    | cons a b =>
      cases h2 with
      | un h2 => exact k.run m b h2
      | dat _ h2 => exact k.run m b h2
      | tr c h2 =>
        obtain ⟨A', g1, g2⟩ := k.run m b h2
        exact ⟨A', g1, fun H O w => g2 H O (by rw [List.append_assoc] at w; exact w.sub (List.sublist_append_right _ _))⟩
  | _, _, _, _, .pl (q := q) a g ga k, σ, A, vs, F0, O1, O2, m, h, h2 => by
    cases h with
    | cons c b =>
      cases c with
      | adr =>
        cases h2 with
        | @tr _ _ _ _ P1 P2 c2 h2 =>
          obtain ⟨v, A1, R1, A2, e, g2, g3⟩ := m.focus g
          cases g2 with
          | adr =>
            rename_i t0 _ _ _
            have c3 : TR K F (.ref q) (T.nm a t0) P1 := by
              rcases ga with rfl | rfl
              · exact c2.unnamed
              · exact c2.named
            have m2 := g3 F _ _ (Same.refl F) c3
            obtain ⟨A', r1, r2⟩ := k.run m2 b h2
            refine ⟨A', r1, fun H O w => r2 H O (w.perm ?_)⟩
            subst e
            have e1 : P1 ++ P2 ++ (A1 ++ ([] ++ A2) ++ O) = P1 ++ ((P2 ++ A1) ++ (A2 ++ O)) := by simp
            have e2 : P2 ++ (A1 ++ (P1 ++ A2) ++ O) = (P2 ++ A1) ++ (P1 ++ (A2 ++ O)) := by simp
            rw [e1, e2]
            exact perm_front _ _ _
/-- a def that may change what it is handed: the slots of its arguments, its outcome, what becomes of the slots -/
def spT (K : PySem.W.Frag) {ι β : Type} (args : ι → List Slot) (f : ι → R β) (res : β → Sum T Value) (outs : ι → β → List Slot) : Sp := fun vs H Q E =>
  ∃ (x : ι) (F : Hp) (O O1 : List (Addr × HO)) (b : β), Match K F (vs.map some) (args x) O1 ∧ Own F H (O1 ++ O) ∧ f x = .ok b ∧
    (∀ y, res b = .inl y → ∀ v F' H' O1' O2, Same F F' → Match K F' (vs.map some) (outs x b) O1' → Own F' H' (O2 ++ (O1' ++ O)) → TR K F' v y O2 → Q v H') ∧
    (∀ c, res b = .inr c → ∀ F' H' O1', Same F F' → Match K F' (vs.map some) (outs x b) O1' → Own F' H' (O1' ++ O) → E c none H')
theorem em_callT {ι β : Type} {args : ι → List Slot} {f : ι → R β} {res : β → Sum T Value} {outs : ι → β → List Slot} {ta : TA} {E' : XK} (x : ι) {b : β} {xs : List T} {y : T} (hf : f x = .ok b) (hy : res b = .inl y)
    (ha : EAM K ta env xs env1) (ht : Take env1 xs (args x) env2) (hg : Give env2 xs (outs x b) env3) : EM K (tCall (spT K args f res outs) [] E' ta) env y env3 := fun σ F H A O m w Q q =>
  ha σ F H A O m w _ fun vs O1 F1 H1 A1 s1 m1 w1 d1 => by
    obtain ⟨O2, A2, t1, t2, t3⟩ := ht.run m1 d1
    have w2 := t3 F1 H1 O w1
    refine ⟨x, F1, A2 ++ O, O2, b, by rw [List.append_nil]; exact t1, w2, hf, fun y' hy' v F' H' O1' O3 s mo wo dv => ?_, fun c hc => by rw [hy] at hc; cases hc⟩
    rw [hy] at hy'
    cases hy'
    rw [List.append_nil] at mo
    obtain ⟨A3, g1, g2⟩ := hg.run (t2.up s) d1 mo
    have w3 : Own F' H' (O1' ++ (A2 ++ (O3 ++ O))) := wo.perm (by
      have e1 : O3 ++ (O1' ++ (A2 ++ O)) = O3 ++ ((O1' ++ A2) ++ O) := by simp
      rw [e1]
      refine (perm_front O3 (O1' ++ A2) O).trans ?_
      simp)
    exact q v O3 F' H' A3 (s1.trans s) g1 (g2 H' _ w3).front dv
/-! ### the body of such a def -/
/-- the slots' roots told by the addresses that came in -/
def nmS (p : Nat → Addr) : Nat → List Slot → List Slot
  | _, [] => []
  | k, Slot.tr t :: r => Slot.tr (T.nm (some (p k)) t) :: nmS p (k + 1) r
  | k, s :: r => s :: nmS p (k + 1) r
/-- what has become of them, at the end -/
inductive Rk (p : Nat → Addr) : Nat → List Slot → List Slot → Prop
  | nil {k : Nat} {e : List Slot} : Rk p k e []
  | un {k : Nat} {e os : List Slot} {s : Slot} : Rk p (k + 1) e os → Rk p k (s :: e) (.un :: os)
  | tr {k : Nat} {e os : List Slot} {t : T} {s : Slot} (hs : s = .tr (t.nm (some (p k)))) (h1 : t.nm none = t) (h2 : (t.nm (some (p k))).name = some (p k)) : Rk p (k + 1) e os → Rk p k (s :: e) (.tr t :: os)
/-- what comes back stood among the arguments as an object -/
def okS : List Slot → List Slot → Bool
  | .tr t :: as, .tr _ :: os => t.isObj && okS as os
  | _ :: as, .un :: os => okS as os
  | [], [] => true
  | _, _ => false
def vAdr (vs : List V) (k : Nat) : Addr := match vs[k]? with
  | some (.ref a) => a
  | _ => (0 : Nat)
theorem vAdr_ref {vs us : List V} {k : Nat} {q : Addr} (hv : ∀ j, (V.ref q :: us)[j]? = vs[k + j]?) : vAdr vs k = q := by
  have := hv 0
  simp at this
  unfold vAdr
  rw [← this]
theorem vs_next {u : V} {vs us : List V} {k : Nat} (hv : ∀ j, (u :: us)[j]? = vs[k + j]?) : ∀ j, us[j]? = vs[k + 1 + j]? := fun j => by
  have := hv (j + 1)
  rw [show k + 1 + j = k + (j + 1) by omega, ← this]; simp
theorem nmS_match (vs : List V) : ∀ (us : List V) (k : Nat) {as : List Slot} {O : List (Addr × HO)}, (∀ j, us[j]? = vs[k + j]?) → Match K F (us.map some) as O → Match K F (us.map some) (nmS (vAdr vs) k as) O
  | [], k, _, _, _, m => by cases m; exact .nil
  | u :: us, k, _, _, hv, m => by
    have hv2 := vs_next hv
    cases m with
    | un m => exact .un (nmS_match vs us (k + 1) hv2 m)
    | dat d m => exact .dat d (nmS_match vs us (k + 1) hv2 m)
    | @tr _ t _ _ _ _ d m =>
      refine .tr ?_ (nmS_match vs us (k + 1) hv2 m)
      by_cases ho : t.isObj = true
      · obtain ⟨q, rfl⟩ := d.ref ho
        rw [vAdr_ref hv]
        exact d.named
      · cases d with
        | dat d => exact .dat d
        | lst => simp [T.isObj] at ho
        | ins => simp [T.isObj] at ho
        | dK => simp [T.isObj] at ho
        | dT => simp [T.isObj] at ho
        | adr => exact .adr
theorem Rk.run (vs : List V) : ∀ {k : Nat} {e os as : List Slot} {F0 : Hp} {O0 : List (Addr × HO)}, Rk (vAdr vs) k e os → ∀ {σ : L2.St} {A : List (Addr × HO)} {us : List V}, okS as os = true → Match K F0 (us.map some) as O0 → (∀ j, us[j]? = vs[k + j]?) →
    Match K F σ e A → ∃ A', Match K F (us.map some) os A' ∧ A'.Sublist A
  | k, _, _, as, F0, O0, .nil, σ, A, us, hs, h0, hv, m => by
    match us, as, h0, hs with
    | [], [], _, _ => exact ⟨[], .nil, List.nil_sublist _⟩
    | _ :: _, _ :: _, _, hs => simp [okS] at hs
  | k, _, _, as, F0, O0, .un (os := os) r, σ, A, us, hs, h0, hv, m => by
    match us, as, h0, hs with
    | u :: us, a :: as, h0, hs =>
      have hs2 : okS as os = true := by cases a <;> exact hs
      have h02 : ∃ O, Match K F0 (us.map some) as O := by
        cases h0 with
        | un m => exact ⟨_, m⟩
        | dat _ m => exact ⟨_, m⟩
        | tr _ m => exact ⟨_, m⟩
      obtain ⟨O, h02⟩ := h02
      cases m with
      | un m =>
        obtain ⟨A', a, b⟩ := Rk.run vs r hs2 h02 (vs_next hv) m
        exact ⟨A', .un a, b⟩
      | dat d m =>
        obtain ⟨A', a, b⟩ := Rk.run vs r hs2 h02 (vs_next hv) m
        exact ⟨A', .un a, b⟩
      | tr d m =>
        obtain ⟨A', a, b⟩ := Rk.run vs r hs2 h02 (vs_next hv) m
        exact ⟨A', .un a, b.trans (List.sublist_append_right _ _)⟩
    | [], [], _, hs => simp [okS] at hs
  | k, _, _, as, F0, O0, .tr (os := os) (t := t) hss h1 h2 r, σ, A, us, hs, h0, hv, m => by
    subst hss
    match us, as, h0, hs with
    | u :: us, .tr t0 :: as, h0, hs =>
      have hs2 := Bool.and_eq_true_iff.mp hs
      cases h0 with
      | tr d0 m0 =>
        obtain ⟨q, rfl⟩ := d0.ref hs2.1
        have e := vAdr_ref hv
        cases m with
        | @tr v _ _ _ P1 P2 d m =>
          obtain ⟨A', a, b⟩ := Rk.run vs r hs2.2 m0 (vs_next hv) m
          have hq := d.at_name h2
          rw [e] at hq
          subst hq
          have d2 := d.unnamed
          have e3 : (t.nm (some (vAdr vs k))).nm none = t := by
            rw [← h1]; cases t <;> rfl
          rw [e3] at d2
          exact ⟨P1 ++ A', .tr d2 a, (List.Sublist.refl _).append b⟩
    | [], [], _, hs => simp [okS] at hs
    | u :: us, .un :: as, h0, hs => simp [okS] at hs
    | u :: us, .dat _ :: as, h0, hs => simp [okS] at hs
/-- a body's way of its exceptions, told of as the def's -/
theorem spT_run {ι β : Type} {args : ι → List Slot} {f : ι → R β} {res : β → Sum T Value} {outs : ι → β → List Slot} {N : List Str} {vs : List V} {H : Hp} {Q : VK} {E : XK} {t : TS} (n k : Nat) (hN : N.length = n + k) (hn : ∀ x, (args x).length = n) (ho : ∀ x b, okS (args x) (outs x b) = true)
    (hb : ∀ x b (p : Nat → Addr), f x = .ok b → SW K (fun c d _ H => E c d H) t (nmS p 0 (args x) ++ List.replicate k .un) (fun e => res b = .inl (.dat (.v .non)) ∧ Rk p 0 e (outs x b)) (fun e y => res b = .inl y ∧ Rk p 0 e (outs x b)) fun e c => res b = .inr c ∧ Rk p 0 e (outs x b))
    (h : spT K args f res outs vs H Q E) : t { nx := fun _ H' => Q .non H', rt := Q } (L2.start N vs) H := by
  obtain ⟨x, F, O, O1, b, m, w, hf, q1, q2⟩ := h
  have len : ∀ {us : List V} {as : List Slot} {O : List (Addr × HO)}, Match K F (us.map some) as O → us.length = as.length := by
    intro us
    induction us with
    | nil => intro as O m; cases m; rfl
    | cons u us ih =>
      intro as O m
      cases m with
      | un m => simp [ih m]
      | dat _ m => simp [ih m]
      | tr _ m => simp [ih m]
  have hl : vs.length = n := (len m).trans (hn x)
  have ms : ∀ {us : List V} {as : List Slot} {O : List (Addr × HO)}, Match K F (us.map some) as O → Match K F (us.map some ++ List.replicate k none) (as ++ List.replicate k .un) O := by
    intro us
    induction us with
    | nil => intro as O m; cases m; exact match_un k
    | cons u us ih =>
      intro as O m
      cases m with
      | un m => exact .un (ih m)
      | dat d m => exact .dat d (ih m)
      | tr d m => exact .tr d (ih m)
  have m2 := ms (nmS_match vs vs 0 (fun j => by simp) m)
  unfold L2.start
  rw [show N.length - vs.length = k by omega]
  refine hb x b (vAdr vs) hf _ F H O1 O m2 w _ ?_ ?_ ?_
  · rintro e σ' F' H' A' ⟨hr, rk⟩ s m' w'
    obtain ⟨A2, g1, g2⟩ := Rk.run vs rk (ho x b) m (fun j => by simp) m'
    exact q1 _ hr .non F' H' A2 [] s g1 (w'.subA g2) (.dat (.v _))
  · rintro e y v σ' F' H' A' O2 ⟨hr, rk⟩ s m' w' dv
    obtain ⟨A2, g1, g2⟩ := Rk.run vs rk (ho x b) m (fun j => by simp) m'
    exact q1 _ hr v F' H' A2 O2 s g1 (w'.sub ((List.Sublist.refl _).append (g2.append (List.Sublist.refl _)))) dv
  · rintro e c σ' F' H' A' ⟨hr, rk⟩ s m' w'
    obtain ⟨A2, g1, g2⟩ := Rk.run vs rk (ho x b) m (fun j => by simp) m'
    exact q2 _ hr F' H' A2 s g1 (w'.subA g2)
end
end Pg

set_option Elab.async false
set_option linter.all false
set_option maxRecDepth 100000
namespace Pg
open PySem PySem.Spec PyProof.Rows L2
section
variable {K : PySem.W.Frag} {E : WX} {env env1 env2 env' : List Slot} {t u : TS} {te ta tb ti : TE} {tt : TT} {x y : T} {d e : D} {ds es : List D} {i j : Int} {n : Nat} {π : List Stp} {Nx : List Slot → Prop} {Rt : List Slot → T → Prop} {Ex : List Slot → Value → Prop} {g : TG} {na : Option Addr}
theorem match_len {F : Hp} : ∀ {σ : L2.St} {env : List Slot} {A : List (Addr × HO)}, Match K F σ env A → σ.length = env.length
  | _, _, _, .nil => rfl
  | _, _, _, .un m => by rw [List.length_cons, List.length_cons, match_len m]
  | _, _, _, .dat _ m => by rw [List.length_cons, List.length_cons, match_len m]
  | _, _, _, .tr _ m => by rw [List.length_cons, List.length_cons, match_len m]
/-- an outcome stored -/
theorem Match.setT {F : Hp} {σ : L2.St} {A O1 : List (Addr × HO)} (i : Nat) {v : V} (m : Match K F σ env A) (h : TR K F v x O1) (hl : i < env.length) :
    ∃ A', Match K F (σ.set i (some v)) (env.set i x.slot) A' ∧ ∀ H O, Own F H (O1 ++ (A ++ O)) → Own F H (A' ++ O) := by
  by_cases hx : ∃ d, x = .dat d
  · obtain ⟨d, rfl⟩ := hx
    cases h with
    | dat h =>
      obtain ⟨A', s, m'⟩ := m.set i h
      exact ⟨A', m', fun H O w => w.sub (s.append (List.Sublist.refl O))⟩
  · have hs : x.slot = .tr x := by
      cases x with
      | dat d => exact absurd ⟨d, rfl⟩ hx
      | _ => rfl
    rw [hs]
    obtain ⟨A1, B, A2, e, s, m'⟩ := m.putT i h hl
    refine ⟨_, m', fun H O w => ?_⟩
    subst e
    have w2 : Own F H (O1 ++ ((A1 ++ B) ++ O)) := w.sub ((List.Sublist.refl O1).append (((List.Sublist.refl A1).append s).append (List.Sublist.refl O)))
    refine w2.perm ?_
    have e1 : O1 ++ ((A1 ++ B) ++ O) = O1 ++ (A1 ++ (B ++ O)) := by simp
    have e2 : A1 ++ (O1 ++ B) ++ O = A1 ++ (O1 ++ (B ++ O)) := by simp
    rw [e1, e2]
    exact perm_front _ _ _
theorem sw_setM (h : EM K te env x env') (hl : n < env'.length) (hn : Nx (env'.set n x.slot)) : SW K E (tAsg te (gName n)) env Nx Rt Ex := fun σ F H A O m w Dn q1 q2 q4 =>
  h σ F H A O m w _ fun v O1 F1 H1 A1 s1 m1 w1 d1 => by
    obtain ⟨A', m', w'⟩ := m1.setT n d1 hl
    exact q1 _ _ F1 H1 A' hn s1 m' (w' H1 O w1)
theorem sw_dropM (h : EM K te env x env') (hn : Nx env') : SW K E (tDrop te) env Nx Rt Ex := fun σ F H A O m w Dn q1 q2 q4 =>
  h σ F H A O m w _ fun v O1 F1 H1 A1 s1 m1 w1 d1 => q1 _ σ F1 H1 A1 hn s1 m1 (w1.sub (List.sublist_append_right O1 _))
theorem sw_retM (h : EM K te env x env') (hr : Rt env' x) : SW K E (tRet te) env Nx Rt Ex := fun σ F H A O m w Dn q1 q2 q4 =>
  h σ F H A O m w _ fun v O1 F1 H1 A1 s1 m1 w1 d1 => q2 _ x v σ F1 H1 A1 O1 hr s1 m1 w1 d1
theorem sw_ifM {c : Bool} (h : ETM K tt env c env') (h1 : c = true → SW K E t env' Nx Rt Ex) (h2 : c = false → SW K E u env' Nx Rt Ex) : SW K E (tIfS tt t u) env Nx Rt Ex := fun σ F H A O m w Dn q1 q2 q4 =>
  h σ F H A O m w _ fun F1 H1 A1 s1 m1 w1 => by
    have k : ∀ {t : TS}, SW K E t env' Nx Rt Ex → t Dn σ H1 := fun z => z σ F1 H1 A1 O m1 w1 Dn (fun a b c d f y s => q1 a b c d f y (s1.trans s)) (fun e x v a b c d f z s => q2 e x v a b c d f z (s1.trans s)) fun e c a b d f z s => q4 e c a b d f z (s1.trans s)
    cases c with
    | true => exact iteT (k (h1 rfl))
    | false => exact iteF (k (h2 rfl))
theorem sw_asgGM {js : List Nat} (h : EM K te env (.dat d) env1) (hg : GT K g js d env1 env') (hn : Nx env') : SW K E (tAsg te g) env Nx Rt Ex := fun σ F H A O m w Dn q1 q2 q4 =>
  h σ F H A O m w _ fun v O1 F1 H1 A1 s1 m1 w1 d1 => by
    cases d1 with
    | dat d1 =>
      have w1 : Own F1 H1 (A1 ++ O) := w1
      exact hg.2 σ v F1 H1 A1 O m1 w1 d1 _ fun σ' A' sb _ m' _ => q1 _ _ F1 H1 A' hn s1 m' (w1.subA sb)
/-- the frame told otherwise: what changes no value -/
theorem sw_match (h : ∀ (σ : L2.St) (F H : Hp) (A O : List (Addr × HO)), Match K F σ env A → Own F H (A ++ O) → ∃ F' A', Same F F' ∧ Match K F' σ env' A' ∧ Own F' H (A' ++ O)) (hn : SW K E t env' Nx Rt Ex) : SW K E t env Nx Rt Ex := fun σ F H A O m w Dn q1 q2 q4 => by
  obtain ⟨F1, A', s12, m', w'⟩ := h σ F H A O m w
  exact hn σ F1 H A' O m' w' Dn (fun a b c d f z s => q1 a b c d f z (s12.trans s)) (fun e x v a b c d f z s => q2 e x v a b c d f z (s12.trans s)) fun e c a b d f z s => q4 e c a b d f z (s12.trans s)
/-- a root told by its address for what follows -/
theorem sw_name {t0 : T} (h : getAt env n π = some t0) (ho : t0.isObj = true) (hn : ∀ q, SW K E t (putAt env n π (t0.nm (some q))) Nx Rt Ex) : SW K E t env Nx Rt Ex := fun σ F H A O m w Dn q1 q2 q4 => by
  obtain ⟨v, A1, O1, A2, e, g2, g3⟩ := m.focus h
  obtain ⟨p, rfl⟩ := g2.ref ho
  exact hn p σ F H _ O (g3 F _ _ (Same.refl F) g2.named) (by rw [← e]; exact w) Dn q1 q2 q4
theorem sw_unname {t0 : T} (h : getAt env n π = some t0) (hn : SW K E t (putAt env n π (t0.nm none)) Nx Rt Ex) : SW K E t env Nx Rt Ex :=
  sw_match (fun σ F H A O m w => by
    obtain ⟨v, A1, O1, A2, e, g2, g3⟩ := m.focus h
    exact ⟨F, _, Same.refl F, g3 F _ _ (Same.refl F) g2.unnamed, by rw [← e]; exact w⟩) hn
/-- what a slot owns frozen -/
theorem sw_frzT {t0 : T} (h : env[n]? = some (.tr t0)) (hf : t0.fzOk = true) (hn : SW K E t (env.set n (.dat t0.fz)) Nx Rt Ex) : SW K E t env Nx Rt Ex :=
  sw_match (fun σ F H A O m w => by
    obtain ⟨v, O1, A1, A2, e, h1, h2, _, h5, _⟩ := m.getT h
    subst e
    have w2 : Own F H (O1 ++ ((A1 ++ A2) ++ O)) := w.perm (by
      have e1 : A1 ++ (O1 ++ A2) ++ O = A1 ++ (O1 ++ (A2 ++ O)) := by simp
      have e2 : O1 ++ ((A1 ++ A2) ++ O) = O1 ++ (A1 ++ (A2 ++ O)) := by simp
      rw [e1, e2]
      exact perm_front _ _ _)
    obtain ⟨F1, s1, w1, d1⟩ := h2.frz _ hf w2
    exact ⟨F1, _, s1, h5 F1 _ s1 d1, w1⟩) hn
/-! ### changes at places -/
theorem TRs.atV {F : Hp} : ∀ {vs : List V} {ts : List T} {O : List (Addr × HO)} {k : Nat} {t : T}, TRs K F vs ts O → ts[k]? = some t →
    ∃ v A O1 B, O = A ++ (O1 ++ B) ∧ vs[k]? = some v ∧ TR K F v t O1 ∧ ∀ F' v' t' O1', Same F F' → TR K F' v' t' O1' → TRs K F' (vs.set k v') (ts.set k t') (A ++ (O1' ++ B))
  | _, _, _, _, _, .nil, e => by simp at e
  | _, _, _, 0, _, .cons a b, e => by
    simp at e; subst e
    exact ⟨_, [], _, _, rfl, rfl, a, fun F' v' t' O1' s h => by have z := TRs.cons h (b.up s); exact z⟩
  | _, _, _, k + 1, t, .cons (O1 := P) a b, e => by
    obtain ⟨v, A, O1, B, h1, h2, h3, h4⟩ := TRs.atV (k := k) (t := t) b (by simpa using e)
    refine ⟨v, P ++ A, O1, B, by rw [h1, List.append_assoc], by simpa using h2, h3, fun F' v' t' O1' s h => ?_⟩
    have z := TRs.cons (a.up s) (h4 F' v' t' O1' s h)
    rw [List.append_assoc]
    exact z
theorem TRf.atV {F : Hp} : ∀ {us : List (Str × V)} {fs : List (Str × T)} {O : List (Addr × HO)} {f : Str} {t : T}, TRf K F us fs O → fs.lookup f = some t →
    ∃ v A O1 B, O = A ++ (O1 ++ B) ∧ us.lookup f = some v ∧ TR K F v t O1 ∧ ∀ F' v' t' O1', Same F F' → TR K F' v' t' O1' → TRf K F' (setF f v' us) (setF f t' fs) (A ++ (O1' ++ B))
  | _, _, _, _, _, .nil, e => by simp at e
  | _, _, _, f, t, .cons (f := g) (O1 := P) a b, e => by
    rw [List.lookup_cons] at e
    by_cases hg : (f == g) = true
    · rw [hg] at e
      simp at e; subst e
      refine ⟨_, [], _, _, rfl, by rw [List.lookup_cons, hg], a, fun F' v' t' O1' s h => ?_⟩
      unfold setF
      rw [if_pos hg, if_pos hg]
      have z := TRf.cons (f := g) h (b.up s); exact z
    · have hg' : (f == g) = false := by simpa using hg
      rw [hg'] at e
      obtain ⟨v, A, O1, B, h1, h2, h3, h4⟩ := TRf.atV (f := f) (t := t) b e
      refine ⟨v, P ++ A, O1, B, by rw [h1, List.append_assoc], by rw [List.lookup_cons, hg']; exact h2, h3, fun F' v' t' O1' s h => ?_⟩
      unfold setF
      rw [if_neg hg, if_neg hg, List.append_assoc]
      have z := TRf.cons (f := g) (a.up s) (h4 F' v' t' O1' s h)
      exact z
theorem TRf.append {F : Hp} : ∀ {vs ws : List (Str × V)} {ts us : List (Str × T)} {O O' : List (Addr × HO)}, TRf K F vs ts O → TRf K F ws us O' → TRf K F (vs ++ ws) (ts ++ us) (O ++ O')
  | _, _, _, _, _, _, .nil, h => h
  | _, _, _, _, _, _, .cons (f := g) a b, h => by
    have z := TRf.cons (f := g) a (TRf.append b h)
    rw [List.append_assoc]
    exact z
/-- a list at a place -/
theorem Pl.list {F : Hp} {σ : L2.St} {A : List (Addr × HO)} {v : V} {ts : List T} (pl : Pl K F σ env A n π v) (hg : getAt env n π = some (.lst na ts)) :
    ∃ p vs P A1 A2, v = .ref p ∧ A = A1 ++ (((p, .lst vs) :: P) ++ A2) ∧ TRs K F vs ts P ∧
      ∀ (F' : Hp) (vs' : List V) (ts' : List T) (P' : List (Addr × HO)), Same F F' → TRs K F' vs' ts' P' → Match K F' σ (putAt env n π (.lst na ts')) (A1 ++ (((p, .lst vs') :: P') ++ A2)) := by
  obtain ⟨t, A1, O1, A2, g1, e, g3, g4⟩ := pl
  rw [hg] at g1
  cases g1
  cases g3 with
  | @lst _ p vs _ P nm hs => exact ⟨p, vs, P, A1, A2, rfl, e, hs, fun F' vs' ts' P' s hs' => g4 F' _ _ s (.lst nm hs')⟩
/-- .. an instance -/
theorem Pl.inst {F : Hp} {σ : L2.St} {A : List (Addr × HO)} {v : V} {C : Addr} {fs : List (Str × T)} (pl : Pl K F σ env A n π v) (hg : getAt env n π = some (.ins na C fs)) :
    ∃ p dx us P A1 A2, v = .ref p ∧ A = A1 ++ (((p, .ins C dx us) :: (dx, .own p) :: P) ++ A2) ∧ TRf K F us fs P ∧
      ∀ (F' : Hp) (us' : List (Str × V)) (fs' : List (Str × T)) (P' : List (Addr × HO)), Same F F' → TRf K F' us' fs' P' → Match K F' σ (putAt env n π (.ins na C fs')) (A1 ++ (((p, .ins C dx us') :: (dx, .own p) :: P') ++ A2)) := by
  obtain ⟨t, A1, O1, A2, g1, e, g3, g4⟩ := pl
  rw [hg] at g1
  cases g1
  cases g3 with
  | @ins _ p _ dx us _ P nm hs => exact ⟨p, dx, us, P, A1, A2, rfl, e, hs, fun F' us' fs' P' s hs' => g4 F' _ _ s (TR.ins (C := C) (dx := dx) nm hs')⟩
theorem Pl.dK {F : Hp} {σ : L2.St} {A : List (Addr × HO)} {v : V} {kvs : List (L2.Key × D)} (pl : Pl K F σ env A n π v) (hg : getAt env n π = some (.dK na kvs)) :
    ∃ p us A1 A2, v = .ref p ∧ A = A1 ++ ([(p, .dK us)] ++ A2) ∧ Datm K F us kvs ∧
      ∀ (F' : Hp) (us' : List (L2.Key × V)) (kvs' : List (L2.Key × D)), Same F F' → Datm K F' us' kvs' → Match K F' σ (putAt env n π (.dK na kvs')) (A1 ++ ([(p, .dK us')] ++ A2)) := by
  obtain ⟨t, A1, O1, A2, g1, e, g3, g4⟩ := pl
  rw [hg] at g1
  cases g1
  cases g3 with
  | @dK _ p us _ nm hs => exact ⟨p, us, A1, A2, rfl, e, hs, fun F' us' kvs' s hs' => g4 F' _ _ s (.dK nm hs')⟩
theorem Pl.dT {F : Hp} {σ : L2.St} {A : List (Addr × HO)} {v : V} {kvs : List (List L2.Key × D)} (pl : Pl K F σ env A n π v) (hg : getAt env n π = some (.dT na kvs)) :
    ∃ p us A1 A2, v = .ref p ∧ A = A1 ++ ([(p, .dT us)] ++ A2) ∧ Datm K F us kvs ∧
      ∀ (F' : Hp) (us' : List (List L2.Key × V)) (kvs' : List (List L2.Key × D)), Same F F' → Datm K F' us' kvs' → Match K F' σ (putAt env n π (.dT na kvs')) (A1 ++ ([(p, .dT us')] ++ A2)) := by
  obtain ⟨t, A1, O1, A2, g1, e, g3, g4⟩ := pl
  rw [hg] at g1
  cases g1
  cases g3 with
  | @dT _ p us _ nm hs => exact ⟨p, us, A1, A2, rfl, e, hs, fun F' us' kvs' s hs' => g4 F' _ _ s (.dT nm hs')⟩
/-- an object within what is owned given other contents; what it owned and what is new go over -/
theorem own_upd {F H : Hp} {p : Addr} {o o' : HO} {A1 A2 O R P P' M : List (Addr × HO)} (hP : ∃ S : List (Addr × HO), S.Sublist (R ++ P) ∧ S.Perm P') (w : Own F H (R ++ ((A1 ++ (((p, o) :: (M ++ P)) ++ A2)) ++ O))) :
    Own F (upd H p o') ((A1 ++ (((p, o') :: (M ++ P')) ++ A2)) ++ O) := by
  obtain ⟨S, s1, s2⟩ := hP
  have w2 : Own F H ((p, o) :: ((R ++ P) ++ (M ++ (A1 ++ (A2 ++ O))))) := w.perm (by
    have e1 : R ++ ((A1 ++ (((p, o) :: (M ++ P)) ++ A2)) ++ O) = (R ++ A1) ++ ((p, o) :: ((M ++ P) ++ (A2 ++ O))) := by simp
    rw [e1]
    refine List.perm_middle.trans (List.Perm.cons _ ?_)
    have e2 : (R ++ A1) ++ ((M ++ P) ++ (A2 ++ O)) = R ++ (A1 ++ ((M ++ P) ++ (A2 ++ O))) := by simp
    have e3 : (R ++ P) ++ (M ++ (A1 ++ (A2 ++ O))) = R ++ (P ++ (M ++ (A1 ++ (A2 ++ O)))) := by simp
    rw [e2, e3]
    refine List.Perm.append_left R ?_
    refine (perm_front A1 (M ++ P) (A2 ++ O)).trans ?_
    rw [List.append_assoc]
    exact perm_front M P _)
  have w3 := (w2.sub ((s1.append (List.Sublist.refl _)).cons₂ _)).put (o' := o')
  refine w3.perm ?_
  have e1 : (A1 ++ (((p, o') :: (M ++ P')) ++ A2)) ++ O = A1 ++ ((p, o') :: ((M ++ P') ++ (A2 ++ O))) := by simp
  rw [e1]
  refine List.Perm.trans (List.Perm.cons _ ?_) List.perm_middle.symm
  refine (List.Perm.append_right _ s2).trans ?_
  have e2 : P' ++ (M ++ (A1 ++ (A2 ++ O))) = P' ++ (M ++ (A1 ++ (A2 ++ O))) := rfl
  refine (perm_front P' M _).trans ?_
  have e3 : M ++ (P' ++ (A1 ++ (A2 ++ O))) = (M ++ P') ++ (A1 ++ (A2 ++ O)) := by simp
  rw [e3]
  exact perm_front _ _ _
theorem own_updL {F H : Hp} {p : Addr} {o o' : HO} {A1 A2 O R P P' : List (Addr × HO)} (hP : ∃ S : List (Addr × HO), S.Sublist (R ++ P) ∧ S.Perm P') (w : Own F H (R ++ ((A1 ++ (((p, o) :: P) ++ A2)) ++ O))) :
    Own F (upd H p o') ((A1 ++ (((p, o') :: P') ++ A2)) ++ O) := own_upd (M := []) hP w
variable (K) in
/-- a new tree, the frame's own untouched -/
def EW (te : TE) (env : List Slot) (x : T) : Prop := ∀ (σ : L2.St) (F H : Hp) (A O : List (Addr × HO)), Match K F σ env A → Own F H (A ++ O) → ∀ Q : VK,
  (∀ v O1 F' H', Same F F' → Own F' H' (O1 ++ (A ++ O)) → TR K F' v x O1 → Q v H') → te σ H Q
theorem ew_ev (h : EV K te env d) : EW K te env (.dat d) := fun σ F H A O m w Q q => h σ F H A O m w Q fun v F' H' s w' dd => q v [] F' H' s w' (.dat dd)
theorem ew_en (h : EN K te env ds) : EW K te env (.lst none (ds.map T.dat)) := fun σ F H A O m w Q q => h σ F H A O m w Q fun p vs F' H' s w' dd => q _ [(p, .lst vs)] F' H' s w' (.lst (fun _ z => nomatch z) dd.tree)
theorem ew_en2 {os : List OD} (h : EN2 K te env os) : EW K te env (.lst none (os.map OD.toT)) := fun σ F H A O m w Q q => h σ F H A O m w Q fun p vs F' H' O1 s w' dd => q _ ((p, .lst vs) :: O1) F' H' s w' (.lst (fun _ z => nomatch z) dd.tree)
theorem EW.m (h : EW K te env x) : EM K te env x env := fun σ F H A O m w Q q => h σ F H A O m w Q fun v O1 F' H' s w' dd => q v O1 F' H' A s (m.up s) w' dd
/-- place.append(e) -/
theorem sw_appP {ts : List T} (hp : EP K ta env n π) (hg : getAt env n π = some (.lst na ts)) (hl : ts.length < 16777216) (he : EW K te env x) (hn : Nx (putAt env n π (.lst na (ts ++ [x])))) :
    SW K E (tDrop (tBM K "list" rAppend ta (tCons te tNil))) env Nx Rt Ex := fun σ F H A O m w Dn q1 q2 q4 =>
  hp σ F H A O m w _ fun v F1 H1 s1 w1 pl => by
    obtain ⟨p, vs, P, A1, A2, rfl, e, hs, hr⟩ := pl.list hg
    refine ⟨.inl ⟨rfl, vs, .of (w1.has (p, .lst vs) (by rw [e]; simp)).2⟩, he σ F1 H1 A O (m.up s1) w1 _ fun v O1 F2 H2 s2 w2 d2 => ?_⟩
    refine ⟨p, vs, v, rfl, rfl, (w2.has (p, .lst vs) (by rw [e]; simp)).2, by rw [hs.length, sizeLine_eq]; exact hl, ?_⟩
    subst e
    have z := TRs.append (hs.up s2) (TRs.cons d2 .nil)
    exact q1 _ σ F2 _ _ hn (s1.trans s2) (hr F2 _ _ _ s2 z) (own_updL ⟨O1 ++ P, List.Sublist.refl _, by rw [List.append_nil]; exact List.perm_append_comm⟩ w2)
/-- place[i] = e -/
theorem sw_putP {ts : List T} {k : Nat} (he : EW K te env x) (hp : EP K ta env n π) (hg : getAt env n π = some (.lst na ts)) (hi : EV K ti env (dI i)) (hk : ixP ts.length i = some k) (hn : Nx (putAt env n π (.lst na (ts.set k x)))) :
    SW K E (tAsg te (gSub ta ti rSetL)) env Nx Rt Ex := fun σ F H A O m w Dn q1 q2 q4 =>
  he σ F H A O m w _ fun v O1 F1 H1 s1 w1 d1 => by
    refine hp σ F1 H1 A (O1 ++ O) (m.up s1) w1.front _ fun u F2 H2 s2 w2 pl => hi σ F2 H2 A (O1 ++ O) (m.up (s1.trans s2)) w2 _ fun y F3 H3 s3 w3 d3 => ?_
    obtain ⟨p, vs, P, A1, A2, rfl, e, hs, hr⟩ := (pl.up s3).list hg
    refine ⟨p, vs, i, k, rfl, d3.int, (w3.has (p, .lst vs) (by rw [e]; simp)).2, by rw [← ixP_ixN, hs.length]; exact hk, ?_⟩
    subst e
    have hlt := (ixP_some hk).1
    obtain ⟨y, hy⟩ : ∃ y, ts[k]? = some y := ⟨ts[k], by simp [hlt]⟩
    obtain ⟨v', B1, P1, B2, e2, r1, r2, r3⟩ := TRs.atV hs hy
    subst e2
    have z := r3 F3 v x O1 (Same.refl F3) (d1.up (s2.trans s3))
    refine q1 _ σ F3 _ _ hn (s1.trans (s2.trans s3)) (hr F3 _ _ _ (Same.refl F3) z) (own_updL ⟨O1 ++ (B1 ++ B2), (List.Sublist.refl O1).append ((List.Sublist.refl B1).append (List.sublist_append_right P1 B2)), perm_front _ _ _⟩ w3.front)
/-- place.f = e, a field that is there -/
theorem putF_set {f : Str} {v : V} : ∀ {us : List (Str × V)}, (us.lookup f).isSome = true → putF f v us = setF f v us
  | [], h => by simp at h
  | (g, y) :: us, h => by
    unfold putF setF
    by_cases e : g = f
    · subst e
      rw [if_pos rfl, if_pos (by simp)]
    · have e2 : ¬ (f == g) = true := by simp; exact fun z => e z.symm
      rw [if_neg e, if_neg e2, putF_set (by rw [List.lookup_cons, show (f == g) = false by simpa using e2] at h; exact h)]
theorem putF_new {f : Str} {v : V} : ∀ {us : List (Str × V)}, us.lookup f = none → putF f v us = us ++ [(f, v)]
  | [], h => rfl
  | (g, y) :: us, h => by
    unfold putF
    by_cases e : g = f
    · subst e
      simp at h
    · have e2 : ¬ (f == g) = true := by simp; exact fun z => e z.symm
      rw [if_neg e, putF_new (by rw [List.lookup_cons, show (f == g) = false by simpa using e2] at h; exact h)]
      rfl
theorem sw_fldP {C : Addr} {fs : List (Str × T)} {f : Str} (he : EW K te env x) (hp : EP K ta env n π) (hg : getAt env n π = some (.ins na C fs)) (hc : Cls K C) (hna : NoAttr K C f) (hl : fs.length < 1000) (hf : (fs.lookup f).isSome = true) (hn : Nx (putAt env n π (.ins na C (setF f x fs)))) :
    SW K E (sFld K ta te f) env Nx Rt Ex := fun σ F H A O m w Dn q1 q2 q4 =>
  he σ F H A O m w _ fun v O1 F1 H1 s1 w1 d1 => by
    refine hp σ F1 H1 A (O1 ++ O) (m.up s1) w1.front _ fun u F2 H2 s2 w2 pl => ?_
    obtain ⟨p, dx, us, P, A1, A2, rfl, e, hs, hr⟩ := pl.inst hg
    refine ⟨p, C, dx, us, rfl, (w2.has (p, .ins C dx us) (by rw [e]; simp)).2, hc, hna, by rw [hs.length]; exact hl, ?_⟩
    subst e
    obtain ⟨y, hy⟩ := Option.isSome_iff_exists.mp hf
    obtain ⟨v', B1, P1, B2, e2, r1, r2, r3⟩ := TRf.atV hs hy
    subst e2
    rw [putF_set (by rw [r1]; rfl)]
    have z := r3 F2 v x O1 (Same.refl F2) (d1.up s2)
    refine q1 _ σ F2 _ _ hn (s1.trans s2) (hr F2 _ _ _ (Same.refl F2) z) (own_upd (M := [(dx, .own p)]) ⟨O1 ++ (B1 ++ B2), (List.Sublist.refl O1).append ((List.Sublist.refl B1).append (List.sublist_append_right P1 B2)), perm_front _ _ _⟩ w2.front)
/-- .. a new one -/
theorem sw_fldN {C : Addr} {fs : List (Str × T)} {f : Str} (he : EW K te env x) (hp : EP K ta env n π) (hg : getAt env n π = some (.ins na C fs)) (hc : Cls K C) (hna : NoAttr K C f) (hl : fs.length < 1000) (hf : fs.lookup f = none) (hn : Nx (putAt env n π (.ins na C (fs ++ [(f, x)])))) :
    SW K E (sFld K ta te f) env Nx Rt Ex := fun σ F H A O m w Dn q1 q2 q4 =>
  he σ F H A O m w _ fun v O1 F1 H1 s1 w1 d1 => by
    refine hp σ F1 H1 A (O1 ++ O) (m.up s1) w1.front _ fun u F2 H2 s2 w2 pl => ?_
    obtain ⟨p, dx, us, P, A1, A2, rfl, e, hs, hr⟩ := pl.inst hg
    refine ⟨p, C, dx, us, rfl, (w2.has (p, .ins C dx us) (by rw [e]; simp)).2, hc, hna, by rw [hs.length]; exact hl, ?_⟩
    subst e
    rw [putF_new (hs.none hf)]
    have z := TRf.append hs (TRf.cons (f := f) (d1.up s2) .nil)
    refine q1 _ σ F2 _ _ hn (s1.trans s2) (hr F2 _ _ _ (Same.refl F2) z) (own_upd (M := [(dx, .own p)]) ⟨O1 ++ P, List.Sublist.refl _, by rw [List.append_nil]; exact List.perm_append_comm⟩ w2.front)
end
end Pg

set_option Elab.async false
set_option linter.all false
set_option maxRecDepth 100000
namespace Pg
open PySem PySem.Spec PyProof.Rows L2
section
variable {K : PySem.W.Frag} {E : WX} {env env1 env2 env' : List Slot} {t u : TS} {te ta tb ti : TE} {tt : TT} {x y : T} {d e : D} {ds es : List D} {i j : Int} {n : Nat} {π : List Stp} {Nx : List Slot → Prop} {Rt : List Slot → T → Prop} {Ex : List Slot → Value → Prop} {g : TG} {na : Option Addr}
/-! ### xs.append(e), where e changes what is owned -/
theorem sw_appM {ts ts1 : List T} {envq : Addr → List Slot} (h : env[n]? = some (.tr (.lst na ts))) (he : ∀ q, EM K te (env.set n (.tr (.lst (some q) ts))) x (envq q)) (h1 : ∀ q, (envq q)[n]? = some (.tr (.lst (some q) ts1))) (hl : ts1.length < 16777216)
    (hn : ∀ q, Nx ((envq q).set n (.tr (.lst na (ts1 ++ [x]))))) : SW K E (tDrop (tBM K "list" rAppend (tVar n) (tCons te tNil))) env Nx Rt Ex := fun σ F H A O m w Dn q1 q2 q4 => by
  obtain ⟨v, O1, A1, A2, e, g1, g2, g3, _, _⟩ := m.getT h
  cases g2 with
  | @lst _ p vs _ P nm hs =>
    have m2 := g3 F _ _ (Same.refl F) (.lst (a := some p) (fun _ z => Option.some.inj z) hs)
    refine ⟨_, g1, .inl ⟨rfl, vs, .of (w.has (p, .lst vs) (by rw [e]; simp)).2⟩, ?_⟩
    refine he p σ F H _ O m2 (by rw [← e]; exact w) _ fun v O2 F2 H2 A' s2 m' w2 d2 => ?_
    obtain ⟨v', O3, B1, B2, e2, r1, r2, r3, _, _⟩ := m'.getT (h1 p)
    rw [g1] at r1
    cases r1
    cases r2 with
    | @lst _ _ vs2 _ P2 nm2 hs2 =>
      refine ⟨p, vs2, v, rfl, rfl, (w2.has (p, .lst vs2) (by rw [e2]; simp)).2, by rw [hs2.length, sizeLine_eq]; exact hl, ?_⟩
      have z := TRs.append hs2 (TRs.cons d2 .nil)
      subst e2
      exact q1 _ σ F2 _ _ (hn p) s2 (r3 F2 _ _ (Same.refl F2) (.lst nm z)) (own_updL ⟨O2 ++ P2, List.Sublist.refl _, by rw [List.append_nil]; exact List.perm_append_comm⟩ w2)
/-! ### pops -/
theorem popR_some {α : Type} {xs ys : List α} (h : popR xs = .ok ys) : xs ≠ [] ∧ ys = xs.dropLast := by
  unfold popR at h
  split at h
  · cases h
  · rename_i z
    exact ⟨fun q => z (by rw [q]; rfl), (R.ok_inj h).symm⟩
theorem TRs.dropLast {F : Hp} : ∀ {vs : List V} {ts : List T} {O : List (Addr × HO)}, TRs K F vs ts O → ∃ O', O'.Sublist O ∧ TRs K F vs.dropLast ts.dropLast O'
  | _, _, _, .nil => ⟨[], .slnil, .nil⟩
  | _, _, _, .cons (vs := []) (ts := []) a .nil => ⟨[], List.nil_sublist _, .nil⟩
  | _, _, _, .cons (vs := v :: vs) (ts := t :: ts) a b => by
    obtain ⟨O', s, h⟩ := TRs.dropLast b
    exact ⟨_, (List.Sublist.refl _).append s, .cons a h⟩
/-- place.pop() -/
theorem sw_popP {ts : List T} (hp : EP K ta env n π) (hg : getAt env n π = some (.lst na ts)) (h0 : ts ≠ []) (hn : Nx (putAt env n π (.lst na ts.dropLast))) :
    SW K E (tDrop (tBM0 K "list" rPop ta)) env Nx Rt Ex := fun σ F H A O m w Dn q1 q2 q4 =>
  hp σ F H A O m w _ fun v F1 H1 s1 w1 pl => by
    obtain ⟨p, vs, P, A1, A2, rfl, e, hs, hr⟩ := pl.list hg
    have hH := (w1.has (p, .lst vs) (by rw [e]; simp)).2
    have hl := hs.length
    have hpos : 0 < vs.length := by rw [hl]; exact List.length_pos_iff.mpr h0
    refine ⟨.inl ⟨rfl, vs, .of hH⟩, p, vs, vs[vs.length - 1], rfl, rfl, hH, by simp, ?_⟩
    obtain ⟨O', s, h⟩ := TRs.dropLast hs
    subst e
    exact q1 _ σ F1 _ _ hn s1 (hr F1 _ _ _ (Same.refl F1) h) (own_updL (R := []) ⟨O', s, List.Perm.refl _⟩ w1)
/-! ### dicts -/
section
variable {κ κ' β : Type} [DecidableEq κ] [DecidableEq κ']
theorem Datm.any {F : Hp} (k : κ) : ∀ {us : List (κ × V)} {kvs : List (κ × D)}, Datm K F us kvs → (us.any fun p => decide (p.1 = k)) = hasA kvs k
  | _, _, .nil => rfl
  | _, _, .cons _ b => by
    unfold hasA
    rw [List.any_cons, List.any_cons, Datm.any k b]; rfl
theorem Datm.isSome {F : Hp} {k : κ} {us : List (κ × V)} {kvs : List (κ × D)} (h : Datm K F us kvs) : (valV us k).isSome = hasA kvs k := by rw [← valV_any, h.any k]
theorem Datm.getS {F : Hp} {k : κ} {d : D} : ∀ {us : List (κ × V)} {kvs : List (κ × D)}, Datm K F us kvs → getA kvs k = some d → ∃ v, valV us k = some v ∧ Dat K F v d
  | _, _, .nil, e => by simp [getA] at e
  | _, _, .cons (f := f) a b, e => by
    by_cases hf : f = k
    · subst hf
      unfold getA at e
      rw [List.find?_cons, decide_eq_true rfl] at e
      have e : some _ = some d := e
      cases e
      exact ⟨_, valV_pos rfl, a⟩
    · unfold getA at e
      rw [List.find?_cons, decide_eq_false hf] at e
      obtain ⟨v, h1, h2⟩ := Datm.getS b e
      exact ⟨v, by rw [valV_neg hf]; exact h1, h2⟩
theorem Datm.map {F : Hp} {k : κ} {v : V} {d : D} (hd : Dat K F v d) : ∀ {us : List (κ × V)} {kvs : List (κ × D)}, Datm K F us kvs → Datm K F (us.map fun p => if p.1 = k then (p.1, v) else p) (kvs.map fun p => if p.1 = k then (p.1, d) else p)
  | _, _, .nil => .nil
  | _, _, .cons (f := f) a b => by
    rw [List.map_cons, List.map_cons]
    by_cases hf : f = k
    · rw [if_pos hf, if_pos hf]; exact .cons hd (Datm.map hd b)
    · rw [if_neg hf, if_neg hf]; exact .cons a (Datm.map hd b)
theorem Datm.snoc {F : Hp} {k : κ} {v : V} {d : D} (hd : Dat K F v d) : ∀ {us : List (κ × V)} {kvs : List (κ × D)}, Datm K F us kvs → Datm K F (us ++ [(k, v)]) (kvs ++ [(k, d)])
  | _, _, .nil => .cons hd .nil
  | _, _, .cons a b => .cons a (Datm.snoc hd b)
theorem Datm.put {F : Hp} {k : κ} {v : V} {d : D} {us : List (κ × V)} {kvs : List (κ × D)} (h : Datm K F us kvs) (hd : Dat K F v d) : Datm K F (putK us k v) (putA kvs k d) := by
  unfold putK putA
  rw [h.any k]
  unfold hasA
  split
  · exact Datm.map hd h
  · exact Datm.snoc hd h
theorem Datm.length {F : Hp} : ∀ {us : List (κ × V)} {kvs : List (κ × D)}, Datm K F us kvs → us.length = kvs.length
  | _, _, .nil => rfl
  | _, _, .cons _ b => by rw [List.length_cons, List.length_cons, Datm.length b]
/-- a dict's pairs as data -/
def repK (kr : κ → κ') (r : β → D) (xs : List (κ × β)) : List (κ' × D) := xs.map fun p => (kr p.1, r p.2)
theorem repK_any {kr : κ → κ'} {r : β → D} (hk : ∀ a b, kr a = kr b → a = b) (k : κ) : ∀ xs : List (κ × β), hasA (repK kr r xs) (kr k) = hasA xs k
  | [] => rfl
  | p :: xs => by
    have ih := repK_any (r := r) hk k xs
    unfold hasA repK at ih ⊢
    rw [List.map_cons, List.any_cons, List.any_cons, ih]
    congr 1
    by_cases h : p.1 = k
    · rw [decide_eq_true h, decide_eq_true (by rw [h])]
    · rw [decide_eq_false h, decide_eq_false fun z => h (hk _ _ z)]
theorem repK_put {kr : κ → κ'} {r : β → D} (hk : ∀ a b, kr a = kr b → a = b) (k : κ) (v : β) (xs : List (κ × β)) : repK kr r (putA xs k v) = putA (repK kr r xs) (kr k) (r v) := by
  have ha := repK_any (r := r) hk k xs
  unfold hasA at ha
  unfold putA
  rw [ha]
  split
  · unfold repK
    rw [List.map_map, List.map_map]
    refine List.map_congr_left fun p _ => ?_
    show (kr (if p.1 = k then (p.1, v) else p).1, r (if p.1 = k then (p.1, v) else p).2) = if kr p.1 = kr k then (kr p.1, r v) else (kr p.1, r p.2)
    by_cases h : p.1 = k
    · rw [if_pos h, if_pos (by rw [h])]
    · rw [if_neg h, if_neg fun z => h (hk _ _ z)]
  · unfold repK
    rw [List.map_append]; rfl
theorem repK_get {kr : κ → κ'} {r : β → D} (hk : ∀ a b, kr a = kr b → a = b) (k : κ) {v : β} : ∀ {xs : List (κ × β)}, getA xs k = some v → getA (repK kr r xs) (kr k) = some (r v)
  | [], e => by simp [getA] at e
  | p :: xs, e => by
    unfold getA repK at *
    rw [List.map_cons]
    rw [List.find?_cons] at e ⊢
    by_cases h : p.1 = k
    · rw [decide_eq_true h] at e
      rw [decide_eq_true (show kr p.1 = kr k by rw [h])]
      simp only at e ⊢
      have e : some p.2 = some v := e
      cases e; rfl
    · rw [decide_eq_false h] at e
      rw [decide_eq_false fun z => h (hk _ _ z)]
      exact repK_get hk k e
end
theorem putR_some {κ β : Type} [DecidableEq κ] {xs ys : List (κ × β)} {k : κ} {v : β} (h : putR xs k v = .ok ys) : xs.length < 16777216 ∧ ys = putA xs k v := by
  unfold putR at h
  split at h
  · exact ⟨by assumption, (R.ok_inj h).symm⟩
  · cases h
theorem ew_dK : EW K tDNewK env (.dK none []) := fun σ F H A O m w Q q p np => q _ [(p, .dK [])] F _ (Same.refl F) (w.new np) (.dK (fun _ z => nomatch z) .nil)
theorem ew_dT : EW K tDNewT env (.dT none []) := fun σ F H A O m w Q q p np => q _ [(p, .dT [])] F _ (Same.refl F) (w.new np) (.dT (fun _ z => nomatch z) .nil)
abbrev kT2 (p : Int × Int) : List L2.Key := [.inl p.1, .inl p.2]
theorem kT2_inj : ∀ a b : Int × Int, kT2 a = kT2 b → a = b := fun a b h => by
  injection h with h1 h2
  injection h2 with h2 _
  exact Prod.ext (Sum.inl.inj h1) (Sum.inl.inj h2)
/-- a tuple key written in its place -/
theorem tup_key {F H : Hp} {A O : List (Addr × HO)} {σ : L2.St} (hi : EV K ta env (dI i)) (hj : EV K tb env (dI j)) (m : Match K F σ env A) (w : Own F H (A ++ O)) {Q : VK}
    (q : ∀ b F' H', Same F F' → Own F' H' (A ++ O) → F' b = some (.tup ((kT2 (i, j)).map kV)) → Q (.ref b) H') : tTup (tCons ta (tCons tb tNil)) σ H Q :=
  hi σ F H A O m w _ fun v F1 H1 s1 w1 d1 => hj σ F1 H1 A O (m.up s1) w1 _ fun v2 F2 H2 s2 w2 d2 => ⟨by show 2 ≤ sizeLine; exact Nat.le_of_ble_eq_true rfl, fun p np => by
    obtain ⟨w3, s3⟩ := w2.newF (o := .tup [v, v2]) np
    refine q p _ _ (s1.trans (s2.trans s3)) w3 ?_
    rw [upd_same, d1.int, d2.int]; rfl⟩
/-- (a, b) in d -/
theorem ev_inT {β : Type} {r : β → D} {xs : List ((Int × Int) × β)} {td : TE} (hi : EV K ta env (dI i)) (hj : EV K tb env (dI j)) (hp : EP K td env n π) (hg : getAt env n π = some (.dT na (repK kT2 r xs))) :
    EV K (tDIn (tTup (tCons ta (tCons tb tNil))) td) env (dB (hasA xs (i, j))) := fun σ F H A O m w Q q =>
  tup_key hi hj m w fun b F1 H1 s1 w1 hb => hp σ F1 H1 A O (m.up s1) w1 _ fun v F2 H2 s2 w2 pl => by
    obtain ⟨p, us, A1, A2, rfl, e, hs, _⟩ := pl.dT hg
    have hH := (w2.has (p, .dT us) (by rw [e]; simp)).2
    refine ⟨p, _, rfl, DGet.t hH (w2.same _ _ (s2 _ _ hb)), ?_⟩
    rw [hs.isSome, repK_any kT2_inj]
    exact q _ F2 H2 (s1.trans s2) w2 (.v _)
theorem ev_notinT {β : Type} {r : β → D} {xs : List ((Int × Int) × β)} {td : TE} (hi : EV K ta env (dI i)) (hj : EV K tb env (dI j)) (hp : EP K td env n π) (hg : getAt env n π = some (.dT na (repK kT2 r xs))) :
    EV K (tDNotIn (tTup (tCons ta (tCons tb tNil))) td) env (dB (!hasA xs (i, j))) := fun σ F H A O m w Q q =>
  tup_key hi hj m w fun b F1 H1 s1 w1 hb => hp σ F1 H1 A O (m.up s1) w1 _ fun v F2 H2 s2 w2 pl => by
    obtain ⟨p, us, A1, A2, rfl, e, hs, _⟩ := pl.dT hg
    have hH := (w2.has (p, .dT us) (by rw [e]; simp)).2
    refine ⟨p, _, rfl, DGet.t hH (w2.same _ _ (s2 _ _ hb)), ?_⟩
    rw [hs.isSome, repK_any kT2_inj]
    exact q _ F2 H2 (s1.trans s2) w2 (.v _)
/-- d[(a, b)] = e -/
theorem sw_dputT {β : Type} {r : β → D} {xs ys : List ((Int × Int) × β)} {td tv : TE} {b : β} (hx : putR xs (i, j) b = .ok ys) (hv : EV K tv env (r b)) (hp : EP K td env n π) (hg : getAt env n π = some (.dT na (repK kT2 r xs))) (hi : EV K ta env (dI i)) (hj : EV K tb env (dI j)) (hn : Nx (putAt env n π (.dT na (repK kT2 r ys)))) :
    SW K E (sDPut td (tTup (tCons ta (tCons tb tNil))) tv) env Nx Rt Ex := fun σ F H A O m w Dn q1 q2 q4 =>
  hv σ F H A O m w _ fun v F0 H0 s0 w0 d0 => hp σ F0 H0 A O (m.up s0) w0 _ fun u F1 H1 s1 w1 pl => tup_key hi hj (m.up (s0.trans s1)) w1 fun b' F2 H2 s2 w2 hb => by
    obtain ⟨hl, ey⟩ := putR_some hx
    subst ey
    obtain ⟨p, us, A1, A2, rfl, e, hs, hr⟩ := (pl.up s2).dT hg
    have hH := (w2.has (p, .dT us) (by rw [e]; simp)).2
    have z := hs.put (k := kT2 (i, j)) (d0.up (s1.trans s2))
    rw [← repK_put kT2_inj] at z
    refine ⟨p, _, rfl, DPut.t hH (w2.same _ _ hb) (by rw [hs.length, sizeLine_eq]; unfold repK; rw [List.length_map]; exact hl), ?_⟩
    subst e
    exact q1 _ σ F2 _ _ hn (s0.trans (s1.trans s2)) (hr F2 _ _ (Same.refl F2) z) (own_updL (R := []) (P := []) (P' := []) ⟨[], List.Sublist.refl _, List.Perm.refl _⟩ w2)
/-! ### dicts by whole numbers -/
abbrev kI (i : Int) : L2.Key := .inl i
theorem kI_inj : ∀ a b : Int, kI a = kI b → a = b := fun a b h => Sum.inl.inj h
theorem kV_I (i : Int) : kV (kI i) = .int i := rfl
theorem ev_inI {β : Type} {r : β → D} {xs : List (Int × β)} {td : TE} (hi : EV K ta env (dI i)) (hp : EP K td env n π) (hg : getAt env n π = some (.dK na (repK kI r xs))) :
    EV K (tDIn ta td) env (dB (hasA xs i)) := fun σ F H A O m w Q q =>
  hi σ F H A O m w _ fun y F1 H1 s1 w1 d1 => hp σ F1 H1 A O (m.up s1) w1 _ fun v F2 H2 s2 w2 pl => by
    obtain ⟨p, us, A1, A2, rfl, e, hs, _⟩ := pl.dK hg
    have hH := (w2.has (p, .dK us) (by rw [e]; simp)).2
    have g := DGet.k (k := kI i) hH
    rw [d1.int]
    refine ⟨p, _, rfl, g, ?_⟩
    rw [hs.isSome, repK_any kI_inj]
    exact q _ F2 H2 (s1.trans s2) w2 (.v _)
theorem ev_notinI {β : Type} {r : β → D} {xs : List (Int × β)} {td : TE} (hi : EV K ta env (dI i)) (hp : EP K td env n π) (hg : getAt env n π = some (.dK na (repK kI r xs))) :
    EV K (tDNotIn ta td) env (dB (!hasA xs i)) := fun σ F H A O m w Q q =>
  hi σ F H A O m w _ fun y F1 H1 s1 w1 d1 => hp σ F1 H1 A O (m.up s1) w1 _ fun v F2 H2 s2 w2 pl => by
    obtain ⟨p, us, A1, A2, rfl, e, hs, _⟩ := pl.dK hg
    have hH := (w2.has (p, .dK us) (by rw [e]; simp)).2
    have g := DGet.k (k := kI i) hH
    rw [d1.int]
    refine ⟨p, _, rfl, g, ?_⟩
    rw [hs.isSome, repK_any kI_inj]
    exact q _ F2 H2 (s1.trans s2) w2 (.v _)
theorem sw_dputI {β : Type} {r : β → D} {xs ys : List (Int × β)} {td tv : TE} {b : β} (hx : putR xs i b = .ok ys) (hv : EV K tv env (r b)) (hp : EP K td env n π) (hg : getAt env n π = some (.dK na (repK kI r xs))) (hi : EV K ta env (dI i)) (hn : Nx (putAt env n π (.dK na (repK kI r ys)))) :
    SW K E (sDPut td ta tv) env Nx Rt Ex := fun σ F H A O m w Dn q1 q2 q4 =>
  hv σ F H A O m w _ fun v F0 H0 s0 w0 d0 => hp σ F0 H0 A O (m.up s0) w0 _ fun u F1 H1 s1 w1 pl => hi σ F1 H1 A O (m.up (s0.trans s1)) w1 _ fun y F2 H2 s2 w2 d2 => by
    obtain ⟨hl, ey⟩ := putR_some hx
    subst ey
    obtain ⟨p, us, A1, A2, rfl, e, hs, hr⟩ := (pl.up s2).dK hg
    have hH := (w2.has (p, .dK us) (by rw [e]; simp)).2
    have z := hs.put (k := kI i) (d0.up (s1.trans s2))
    rw [← repK_put kI_inj] at z
    have g := DPut.k (k := kI i) (v := v) hH (by rw [hs.length, sizeLine_eq]; unfold repK; rw [List.length_map]; exact hl)
    rw [d2.int]
    refine ⟨p, _, rfl, g, ?_⟩
    subst e
    exact q1 _ σ F2 _ _ hn (s0.trans (s1.trans s2)) (hr F2 _ _ (Same.refl F2) z) (own_updL (R := []) (P := []) (P' := []) ⟨[], List.Sublist.refl _, List.Perm.refl _⟩ w2)
/-! ### lists of what may be missing -/
theorem dL_some {α : Type} {r : α → D} (xs : List α) : xs.map r = (xs.map some).map (dO r) := by rw [List.map_map]; rfl
theorem ev_optL {α : Type} {r : α → D} {xs : List α} (h : EV K te env (dL r xs)) : EV K te env (dL (dO r) (xs.map some)) := by
  have : dL (dO r) (xs.map some) = dL r xs := by show D.lst _ = D.lst _; rw [← dL_some]
  rw [this]; exact h
theorem en_optL {α : Type} {r : α → D} {xs : List α} (h : EN K te env (xs.map r)) : EN K te env ((xs.map some).map (dO r)) := by rw [← dL_some]; exact h
theorem en2_optL {α : Type} {r : α → D} {xss : List (List α)} (h : EN2 K te env (xss.map (oL r))) : EN2 K te env ((xss.map (·.map some)).map (oL (dO r))) := by
  have : (xss.map (·.map some)).map (oL (dO r)) = xss.map (oL r) := by
    rw [List.map_map]
    refine List.map_congr_left fun xs _ => ?_
    show OD.own _ = OD.own _
    rw [← dL_some]
  rw [this]; exact h
/-! ### every row given one more -/
theorem Match.at {F : Hp} : ∀ {σ : L2.St} {env : List Slot} {A : List (Addr × HO)} (i : Nat), Match K F σ env A → i < env.length → ∃ o, σ[i]? = some o
  | _, _, _, i, m, h => by
    have := match_len m
    exact ⟨_, List.getElem?_eq_getElem (by omega)⟩
theorem match_setUn {F : Hp} : ∀ {σ : L2.St} {env : List Slot} {A : List (Addr × HO)} (i : Nat) (v : Option V), Match K F σ env A → env[i]? = some .un → Match K F (σ.set i v) env A
  | _, _, _, _, _, .nil, _ => .nil
  | _, _, _, 0, v, .un m, _ => .un m
  | _, _, _, 0, v, .dat _ m, h => by simp at h
  | _, _, _, 0, v, .tr _ m, h => by simp at h
  | _, _, _, i + 1, v, .un m, h => .un (match_setUn i v m (by simpa using h))
  | _, _, _, i + 1, v, .dat d m, h => .dat d (match_setUn i v m (by simpa using h))
  | _, _, _, i + 1, v, .tr d m, h => .tr d (match_setUn i v m (by simpa using h))
theorem appAllR_some {α : Type} {xss yss : List (List α)} {x : α} (h : appAllR xss x = .ok yss) : (∀ r ∈ xss, r.length < 16777216) ∧ yss = xss.map (· ++ [x]) := by
  unfold appAllR at h
  split at h
  · rename_i z
    exact ⟨fun r hr => of_decide_eq_true (List.all_eq_true.mp z r hr), (R.ok_inj h).symm⟩
  · cases h
/-- for r in rows: r.append(e) -/
theorem sw_appAll {α : Type} {r : α → D} {xss yss : List (List α)} {x : α} {k : Nat} (hx : appAllR xss x = .ok yss) (h : env[n]? = some (.own2N na (xss.map (oL r)))) (hk : k ≠ n) (hkl : k < env.length) (he : ∀ e, EV K te e (r x))
    (hn : Nx ((env.set k .un).set n (.own2N na (yss.map (oL r))))) : SW K E (tFor (iList K (tVar n)) (gName k) (tDrop (tBM K "list" rAppend (tVar k) (tCons te tNil)))) env Nx Rt Ex := fun σ F H A O m w Dn q1 q2 q4 => by
  obtain ⟨hl, ey⟩ := appAllR_some hx
  subst ey
  obtain ⟨A0, sb, m0⟩ := match_unset k m
  have w0 := w.subA sb
  have h0 : (env.set k .un)[n]? = some (.own2N na (xss.map (oL r))) := by rw [List.getElem?_set_ne hk]; exact h
  have hu : (env.set k .un)[k]? = some .un := by rw [List.getElem?_set_self hkl]
  obtain ⟨v, O1, A1, A2, e, g1, g2, g3, _, _⟩ := m0.getT h0
  cases g2 with
  | @lst _ p vs _ P nm hs =>
    have start := g3 F _ _ (Same.refl F) (TR.lst (a := some p) (fun _ z => Option.some.inj z) hs)
    refine ⟨_, g1, p, rfl, ⟨vs, .of (w0.has (p, .lst vs) (by rw [e]; simp)).2⟩, fun i c σ2 H2 => ∃ (F2 : Hp) (A2 : List (Addr × HO)), c + i = xss.length ∧ Same F F2 ∧ Match K F2 σ2 ((env.set k .un).set n (.own2N (some p) (((xss.take i).map (· ++ [x]) ++ xss.drop i).map (oL r)))) A2 ∧ Own F2 H2 (A2 ++ O), ?_, ?_⟩
    · refine ⟨xss.length, F, A0, rfl, Same.refl F, ?_, w0⟩
      rw [e]
      exact start
    · rintro i c σ2 H2 ⟨F2, A2', hc, s2, m2, w2⟩
      have hlen : n < (env.set k .un).length := by
        rcases Nat.lt_or_ge n (env.set k .un).length with z | z
        · exact z
        · rw [List.getElem?_eq_none z] at h0; cases h0
      have hi0 : ((env.set k .un).set n (.own2N (some p) (((xss.take i).map (· ++ [x]) ++ xss.drop i).map (oL r))))[n]? = some (.own2N (some p) (((xss.take i).map (· ++ [x]) ++ xss.drop i).map (oL r))) := by rw [List.getElem?_set_self hlen]
      obtain ⟨v2, P1, B1, B2, e2, r1, r2, r3, _, _⟩ := m2.getT hi0
      cases r2 with
      | @lst _ p2 vs2 _ P2 nm2 hs2 =>
        have := nm2 p rfl
        subst this
        have hs3 := hs2.ods
        have hp2 := (w2.has (p2, .lst vs2) (by rw [e2]; simp)).2
        have hl2 : vs2.length = xss.length := by
          have := hs3.length
          rw [List.length_map, List.length_append, List.length_map, List.length_take, List.length_drop] at this
          omega
        by_cases hi : i = xss.length
        · refine .inl ⟨⟨vs2, .of hp2, by omega⟩, ?_⟩
          have m4 := r3 F2 _ _ (Same.refl F2) (TR.lst nm hs2)
          rw [List.set_set] at m4
          have e5 : (xss.take i).map (· ++ [x]) ++ xss.drop i = xss.map (· ++ [x]) := by rw [hi]; simp
          rw [e5] at m4
          exact q1 _ σ2 F2 H2 _ hn s2 m4 (by rw [← e2]; exact w2)
        · have hlt : i < xss.length := by omega
          have hrow : ((xss.take i).map (· ++ [x]) ++ xss.drop i)[i]? = some xss[i] := by
            rw [List.getElem?_append_right (by simp; omega)]
            simp [Nat.min_eq_left (Nat.le_of_lt hlt)]
          have hrow2 : (((xss.take i).map (· ++ [x]) ++ xss.drop i).map (oL r))[i]? = some (.own (xss[i].map r)) := by rw [List.getElem?_map, hrow]; rfl
          obtain ⟨q, us, C1, C2, e3, h1, h2, h3⟩ := hs3.getO hrow2
          refine .inr ⟨⟨vs2, _, .of hp2, h1⟩, fun σ' H' => ∃ (F2 : Hp) (A2 : List (Addr × HO)), (c - 1) + (i + 1) = xss.length ∧ Same F F2 ∧ Match K F2 σ' ((env.set k .un).set n (.own2N (some p2) (((xss.take (i + 1)).map (· ++ [x]) ++ xss.drop (i + 1)).map (oL r)))) A2 ∧ Own F2 H' (A2 ++ O), fun σ' H' hN => ⟨c - 1, by omega, hN⟩, fun y H' hy => ?_⟩
          obtain ⟨rfl, hy2⟩ := hy
          have := hy2 _ (.of hp2)
          rw [h1] at this
          cases this
          have huk : ((env.set k .un).set n (.own2N (some p2) (((xss.take i).map (· ++ [x]) ++ xss.drop i).map (oL r))))[k]? = some .un := by rw [List.getElem?_set_ne (fun z => hk z.symm)]; exact hu
          have m3 := match_setUn k (some (.ref q)) m2 huk
          have hkσ : k < σ2.length := by rw [match_len m2]; simpa using hkl
          have hq := (w2.has (q, .lst us) (by rw [e2, e3]; simp)).2
          refine ⟨.ref q, by rw [List.getElem?_set_self hkσ], .inl ⟨rfl, us, .of hq⟩, he _ _ F2 _ _ O m3 w2 _ fun v3 F3 H3 s3 w3 d3 => ?_⟩
          have hq3 := (w3.has (q, .lst us) (by rw [e2, e3]; simp)).2
          have hul := h2.length
          rw [List.length_map] at hul
          refine ⟨q, us, v3, rfl, rfl, hq3, by rw [hul, sizeLine_eq]; exact hl _ (List.getElem_mem hlt), ?_⟩
          have z1 := h3 F3 (us ++ [v3]) (xss[i].map r ++ [r x]) s3 ((h2.up s3).append (.cons d3 .nil))
          have e4 : (((xss.take i).map (· ++ [x]) ++ xss.drop i).map (oL r)).set i (.own (xss[i].map r ++ [r x])) = ((xss.take (i + 1)).map (· ++ [x]) ++ xss.drop (i + 1)).map (oL r) := by
            have a1 : OD.own (xss[i].map r ++ [r x]) = oL r (xss[i] ++ [x]) := by show _ = OD.own _; rw [List.map_append]; rfl
            rw [a1, ← List.map_set]
            congr 1
            rw [List.set_append_right _ _ (by simp; omega)]
            have a2 : i - ((xss.take i).map (· ++ [x])).length = 0 := by simp; omega
            rw [a2, List.take_succ_eq_append_getElem hlt, List.map_append, List.drop_eq_getElem_cons hlt, List.append_assoc]
            rfl
          rw [e4] at z1
          obtain ⟨v5, P5, B5, B6, e6, t1, t2, t3, _, _⟩ := (m3.up s3).getT hi0
          have m6 := r3 F3 _ _ s3 (TR.lst (a := some p2) (fun _ z => Option.some.inj z) z1.tree)
          rw [List.set_set] at m6
          have m7 := match_setUn k (some (.ref q)) m6 (by rw [List.getElem?_set_ne (fun z => hk z.symm)]; exact hu)
          refine ⟨F3, _, by omega, s2.trans s3, m7, ?_⟩
          subst e2 e3
          have w4 : Own F3 H3 ((B1 ++ (p2, .lst vs2) :: C1) ++ (((q, .lst us) :: []) ++ (C2 ++ B2)) ++ O) := w3.perm (by simp)
          have w5 := own_updL (R := []) (P := []) (P' := []) (o' := .lst (us ++ [v3])) ⟨[], List.Sublist.refl _, List.Perm.refl _⟩ w4
          exact w5.perm (by simp)
/-! ### typed forms -/
theorem sw_opt1 {α : Type} {r : α → D} {xs : List α} (h : env[n]? = some (.ownN na (xs.map r))) (hn : SW K E t (env.set n (.ownN na ((xs.map some).map (dO r)))) Nx Rt Ex) : SW K E t env Nx Rt Ex := by
  rw [← dL_some] at hn
  have e : env.set n (.ownN na (xs.map r)) = env := by
    apply List.ext_getElem?
    intro j
    by_cases hj : n = j
    · subst hj
      rw [h, List.getElem?_set_self]
      rcases Nat.lt_or_ge n env.length with z | z
      · exact z
      · rw [List.getElem?_eq_none z] at h; cases h
    · rw [List.getElem?_set_ne hj]
  rw [e] at hn
  exact hn
theorem sw_opt2 {α : Type} {r : α → D} {xss : List (List α)} (h : env[n]? = some (.own2N na (xss.map (oL r)))) (hn : SW K E t (env.set n (.own2N na ((xss.map (·.map some)).map (oL (dO r))))) Nx Rt Ex) : SW K E t env Nx Rt Ex := by
  have e0 : (xss.map (·.map some)).map (oL (dO r)) = xss.map (oL r) := by
    rw [List.map_map]
    refine List.map_congr_left fun xs _ => ?_
    show OD.own _ = OD.own _
    rw [← dL_some]
  rw [e0] at hn
  have e : env.set n (.own2N na (xss.map (oL r))) = env := by
    apply List.ext_getElem?
    intro j
    by_cases hj : n = j
    · subst hj
      rw [h, List.getElem?_set_self]
      rcases Nat.lt_or_ge n env.length with z | z
      · exact z
      · rw [List.getElem?_eq_none z] at h; cases h
    · rw [List.getElem?_set_ne hj]
  rw [e] at hn
  exact hn
theorem map_dropLast' {α β : Type} (f : α → β) (xs : List α) : (xs.map f).dropLast = xs.dropLast.map f := by
  induction xs with
  | nil => rfl
  | cons x xs ih =>
    cases xs with
    | nil => rfl
    | cons y ys => simp only [List.map_cons, List.dropLast_cons₂] at ih ⊢; rw [ih]
theorem sw_pop1 {α : Type} {r : α → D} {xs ys : List α} (hx : popR xs = .ok ys) (h : env[n]? = some (.ownN na (xs.map r))) (hn : Nx (env.set n (.ownN na (ys.map r)))) : SW K E (tDrop (tBM0 K "list" rPop (tVar n))) env Nx Rt Ex := by
  obtain ⟨h0, rfl⟩ := popR_some hx
  refine sw_popP (ep_var h) (getAt_root h) (by simpa using h0) ?_
  rw [putAt_root h, map_dropLast', map_dropLast']
  exact hn
theorem sw_pop2 {α : Type} {r : α → D} {xs ys : List (List α)} (hx : popR xs = .ok ys) (h : env[n]? = some (.own2N na (xs.map (oL r)))) (hn : Nx (env.set n (.own2N na (ys.map (oL r))))) : SW K E (tDrop (tBM0 K "list" rPop (tVar n))) env Nx Rt Ex := by
  obtain ⟨h0, rfl⟩ := popR_some hx
  refine sw_popP (ep_var h) (getAt_root h) (by simpa using h0) ?_
  rw [putAt_root h, map_dropLast', map_dropLast']
  exact hn
theorem sw_appM1 {α : Type} {r : α → D} {xs ys : List α} {x : α} {envq : Addr → List Slot} (hx : appR xs x = .ok ys) {ts : List T} (h : env[n]? = some (.tr (.lst na ts))) (he : ∀ q, EM K te (env.set n (.tr (.lst (some q) ts))) (.dat (r x)) (envq q)) (h1 : ∀ q, (envq q)[n]? = some (.ownN (some q) (xs.map r)))
    (hn : ∀ q, Nx ((envq q).set n (.ownN na (ys.map r)))) : SW K E (tDrop (tBM K "list" rAppend (tVar n) (tCons te tNil))) env Nx Rt Ex := by
  obtain ⟨hl, rfl⟩ := appR_some hx
  refine sw_appM h he h1 (by rw [List.length_map, List.length_map]; exact hl) fun q => ?_
  have := hn q
  rw [List.map_append] at this
  show Nx ((envq q).set n (.tr (.lst na ((xs.map r).map T.dat ++ [T.dat (r x)]))))
  have e : Slot.ownN na (xs.map r ++ [x].map r) = .tr (.lst na ((xs.map r).map T.dat ++ [T.dat (r x)])) := by
    show Slot.tr (.lst na ((xs.map r ++ [x].map r).map T.dat)) = _
    rw [List.map_append]; rfl
  rw [e] at this
  exact this
theorem sw_appM2 {α : Type} {r : α → D} {xs ys : List (List α)} {x : List α} {envq : Addr → List Slot} (hx : appR xs x = .ok ys) {ts : List T} (h : env[n]? = some (.tr (.lst na ts))) (he : ∀ q, EM K te (env.set n (.tr (.lst (some q) ts))) (.lst none ((x.map r).map T.dat)) (envq q)) (h1 : ∀ q, (envq q)[n]? = some (.own2N (some q) (xs.map (oL r))))
    (hn : ∀ q, Nx ((envq q).set n (.own2N na (ys.map (oL r))))) : SW K E (tDrop (tBM K "list" rAppend (tVar n) (tCons te tNil))) env Nx Rt Ex := by
  obtain ⟨hl, rfl⟩ := appR_some hx
  refine sw_appM h he h1 (by rw [List.length_map, List.length_map]; exact hl) fun q => ?_
  have := hn q
  have e : Slot.own2N na ((xs ++ [x]).map (oL r)) = .tr (.lst na ((xs.map (oL r)).map OD.toT ++ [T.lst none ((x.map r).map T.dat)])) := by
    show Slot.tr (.lst na (((xs ++ [x]).map (oL r)).map OD.toT)) = _
    rw [List.map_append, List.map_append]; rfl
  rw [e] at this
  exact this
/-- calls of plain defs with such arguments -/
theorem em_call {ι β : Type} {args : ι → List D} {f : ι → R β} {rr : β → D} {ta : TA} {E' : XK} (x : ι) {b : β} (hf : f x = .ok b) (ha : EAM K ta env ((args x).map T.dat) env') : EM K (tCall (spR K args f rr) [] E' ta) env (.dat (rr b)) env' := fun σ F H A O m w Q q =>
  ha σ F H A O m w _ fun vs O1 F1 H1 A1 s1 m1 w1 d1 => by
    obtain ⟨e1, d3⟩ := d1.flat
    subst e1
    have w1 : Own F1 H1 (A1 ++ O) := w1
    exact ⟨x, F1, A1 ++ O, b, w1, by rw [List.append_nil]; exact d3, hf, fun v F' H' s w' d' => q v [] F' H' A1 (s1.trans s) (m1.up s) w' (.dat d')⟩
theorem em_callN {ι β : Type} {args : ι → List D} {f : ι → R (List β)} {rr : β → D} {ta : TA} {E' : XK} (x : ι) {b : List β} (hf : f x = .ok b) (ha : EAM K ta env ((args x).map T.dat) env') : EM K (tCall (spN K args f rr) [] E' ta) env (.lst none ((b.map rr).map T.dat)) env' := fun σ F H A O m w Q q =>
  ha σ F H A O m w _ fun vs O1 F1 H1 A1 s1 m1 w1 d1 => by
    obtain ⟨e1, d3⟩ := d1.flat
    subst e1
    have w1 : Own F1 H1 (A1 ++ O) := w1
    exact ⟨x, F1, A1 ++ O, b, w1, by rw [List.append_nil]; exact d3, hf, fun p us F' H' s w' d' => q _ [(p, .lst us)] F' H' A1 (s1.trans s) (m1.up s) w' (.lst (fun _ z => nomatch z) d'.tree)⟩
theorem em_callNN {ι β : Type} {args : ι → List D} {f : ι → R (List (List β))} {rr : β → D} {ta : TA} {E' : XK} (x : ι) {b : List (List β)} (hf : f x = .ok b) (ha : EAM K ta env ((args x).map T.dat) env') : EM K (tCall (spNN K args f rr) [] E' ta) env (.lst none ((b.map (oL rr)).map OD.toT)) env' := fun σ F H A O m w Q q =>
  ha σ F H A O m w _ fun vs O1 F1 H1 A1 s1 m1 w1 d1 => by
    obtain ⟨e1, d3⟩ := d1.flat
    subst e1
    have w1 : Own F1 H1 (A1 ++ O) := w1
    exact ⟨x, F1, A1 ++ O, b, w1, by rw [List.append_nil]; exact d3, hf, fun p us F' H' O1 s w' d' => q _ ((p, .lst us) :: O1) F' H' A1 (s1.trans s) (m1.up s) w' (.lst (fun _ z => nomatch z) d'.tree)⟩
theorem em_mkQ {a b : Int} {v : Rat} {ta : TA} (h : mkQ a b = .ok v) (ha : EAM K ta env [.dat (dI a), .dat (dI b)] env') : EM K (tTup ta) env (.dat (dQ v)) env' := by
  obtain ⟨h1, h2⟩ := mkQ_some h
  have := em_tup (ds := [dI a, dI b]) ha
  show EM K (tTup ta) env (.dat (.tup [dI v.num, dI (v.den : Int)])) env'
  rw [h1, h2]; exact this
theorem em_frzL (h : EM K te env (.lst na (ds.map T.dat)) env') : EM K te env (.dat (.lst ds)) env' := fun σ F H A O m w Q q => h σ F H A O m w Q fun v O1 F' H' A' s m' w' dd => by
  cases dd with
  | lst n h =>
    obtain ⟨e1, d1⟩ := h.flat
    subst e1
    obtain ⟨w2, s2⟩ := Own.frz (show Own F' H' (_ :: (A' ++ O)) from w')
    exact q _ [] _ H' A' (s.trans s2) (m'.up s2) w2 (.dat (.lst (.of upd_same) (d1.up s2)))
theorem em_frz2 {α : Type} {r : α → D} {xs : List (List α)} (h : EM K te env (.lst na ((xs.map (oL r)).map OD.toT)) env') : EM K te env (.dat (dL (dL r) xs)) env' := fun σ F H A O m w Q q => h σ F H A O m w Q fun v O1 F' H' A' s m' w' dd => by
  cases dd with
  | @lst _ p vs _ P n h =>
    have w2 : Own F' H' (P ++ ((p, .lst vs) :: (A' ++ O))) := w'.perm List.perm_middle.symm
    obtain ⟨F1, s1, w3, d1⟩ := h.ods.frz w2
    obtain ⟨w4, s4⟩ := w3.frz
    rw [map_toD] at d1
    exact q _ [] _ H' A' (s.trans (s1.trans s4)) (m'.up (s1.trans s4)) w4 (.dat (.lst (.of upd_same) (d1.up s4)))
theorem spT_len {ι β : Type} {args : ι → List Slot} {f : ι → R β} {res : β → Sum T Value} {outs : ι → β → List Slot} {vs : List V} {H : Hp} {Q : VK} {n : Nat} (hn : ∀ x, (args x).length = n) {E : XK} (h : spT K args f res outs vs H Q E) : vs.length = n := by
  obtain ⟨x, F, O, O1, b, m, _⟩ := h
  have := match_len m
  rw [List.length_map, hn x] at this
  exact this
/-- for over a list of what is owned, made for it -/
theorem sw_forOwn {α S : Type} {zs : List α} {rt : α → T} {tb : TS} {k : Nat} (f : α → S → R S) (ε : S → List Slot) (s0 : S) {s1 : S} {envi : List Slot}
    (hi : EM K te env (.lst none (zs.map rt)) envi) (hf : R.forR f zs s0 = .ok s1) (h0 : Wk envi (ε s0)) (hk : ∀ s, (ε s)[k]? = some .un)
    (hb : ∀ x s s', x ∈ zs → f x s = .ok s' → SW K E tb ((ε s).set k (.tr (rt x))) (fun e => Wk e (ε s')) (fun _ _ => False) (fun _ _ => False))
    (hn : Nx (ε s1)) : SW K E (tFor (iList K te) (gName k) tb) env Nx Rt Ex := fun σ F H A O m w Dn q1 q2 q4 =>
  hi σ F H A O m w _ fun v O1 F1 H1 A1 s1' m1 w1 d1 => by
    cases d1 with
    | @lst _ p vs _ P nm hs =>
      obtain ⟨A0, sb0, m0⟩ := m1.weak h0
      have hp := (w1.has (p, .lst vs) (by simp)).2
      refine ⟨p, rfl, ⟨vs, .of hp⟩, fun i c σ2 H2 => ∃ (s : S) (F2 : Hp) (A2 R1 : List (Addr × HO)), c + i = zs.length ∧ Same F1 F2 ∧ Match K F2 σ2 (ε s) A2 ∧ TRs K F2 (vs.drop i) ((zs.drop i).map rt) R1 ∧ Own F2 H2 ((p, .lst vs) :: (R1 ++ (A2 ++ O))) ∧ R.forR f (zs.drop i) s = .ok s1, ?_, ?_⟩
      · exact ⟨zs.length, s0, F1, A0, P, rfl, Same.refl _, m0, hs, w1.sub (((List.Sublist.refl P).append (sb0.append (List.Sublist.refl O))).cons₂ _), hf⟩
      · rintro i c σ2 H2 ⟨s, F2, A2, R1, hc, ss, m2, hs2, w2, h2⟩
        have hp2 := (w2.has (p, .lst vs) (by simp)).2
        have hlen : vs.length = zs.length := by rw [hs.length, List.length_map]
        by_cases hi : i = zs.length
        · refine .inl ⟨⟨vs, .of hp2, by omega⟩, ?_⟩
          rw [hi, List.drop_length] at h2
          have e := R.ok_inj (show R.ok s = R.ok s1 from h2)
          subst e
          exact q1 _ σ2 F2 H2 A2 hn (s1'.trans ss) m2 (w2.sub ((List.sublist_append_right R1 _).cons _))
        · have hlt : i < zs.length := by omega
          rw [List.drop_eq_getElem_cons hlt] at h2 hs2
          rw [List.drop_eq_getElem_cons (by omega : i < vs.length)] at hs2
          obtain ⟨s', f1, f2⟩ := R.bind_inv (show R.bind (f zs[i] s) _ = _ from h2)
          rw [List.map_cons] at hs2
          cases hs2 with
          | @cons _ _ _ _ P1 P2 a b =>
            refine .inr ⟨⟨vs, _, .of hp2, List.getElem?_eq_getElem (by omega)⟩, fun σ' H' => ∃ (F3 : Hp) (A3 : List (Addr × HO)), Same F2 F3 ∧ Match K F3 σ' (ε s') A3 ∧ Own F3 H' (A3 ++ ((p, .lst vs) :: (P2 ++ O))), ?_, fun y H' hy => ?_⟩
            · rintro σ' H' ⟨F3, A3, s3, m3, w3⟩
              refine ⟨c - 1, by omega, s', F3, A3, P2, by omega, ss.trans s3, m3, b.up s3, w3.perm ?_, f2⟩
              refine List.perm_middle.trans (List.Perm.cons _ ?_)
              exact perm_front _ _ _
            · obtain ⟨rfl, hy2⟩ := hy
              have := hy2 _ (.of hp2)
              rw [List.getElem?_eq_getElem (by omega)] at this
              cases this
              have hk2 : k < (ε s).length := by
                rcases Nat.lt_or_ge k (ε s).length with z | z
                · exact z
                · have := hk s
                  rw [List.getElem?_eq_none z] at this; cases this
              obtain ⟨B1, B2, A5, e5, sb, m5⟩ := m2.putT k a hk2
              subst e5
              have w5 : Own F2 H' ((B1 ++ (P1 ++ B2)) ++ ((p, .lst vs) :: (P2 ++ O))) := by
                have w6 : Own F2 H' ((p, .lst vs) :: ((P1 ++ P2) ++ ((B1 ++ B2) ++ O))) := w2.sub (((List.Sublist.refl _).append (((List.Sublist.refl B1).append sb).append (List.Sublist.refl O))).cons₂ _)
                refine w6.perm ?_
                refine List.Perm.trans (List.Perm.cons _ ?_) List.perm_middle.symm
                have e1 : (P1 ++ P2) ++ ((B1 ++ B2) ++ O) = P1 ++ (P2 ++ (B1 ++ (B2 ++ O))) := by simp
                have e2 : (B1 ++ (P1 ++ B2)) ++ (P2 ++ O) = B1 ++ (P1 ++ (B2 ++ (P2 ++ O))) := by simp
                rw [e1, e2]
                refine List.Perm.trans (List.Perm.append_left P1 ?_) (perm_front P1 B1 _)
                refine (perm_front P2 B1 _).trans (List.Perm.append_left B1 ?_)
                exact perm_front P2 B2 O
              refine hb zs[i] s s' (List.getElem_mem hlt) f1 _ F2 H' _ ((p, .lst vs) :: (P2 ++ O)) m5 w5 _ ?_ ?_ ?_
              · rintro e6 σ6 F6 H6 A6 wk6 s6 m6 w6
                obtain ⟨A7, sb7, m7⟩ := m6.weak wk6
                exact ⟨F6, A7, s6, m7, w6.subA sb7⟩
              · exact fun _ _ _ _ _ _ _ _ z => z.elim
              · exact fun _ _ _ _ _ _ z => z.elim
theorem ev_lenO2 {α : Type} {r : α → D} {xs : List (List α)} (h : env[n]? = some (.own2N na (xs.map (oL r)))) : EV K (tCB (rLenP K) (tCons (tVar n) tNil)) env (dI (xs.length : Nat)) := by
  have := ev_lenPl (K := K) (ep_var h) (getAt_root h)
  rw [List.length_map, List.length_map] at this
  exact this
/-! ### an item of a list of own lists by a name of its own -/
/-- rows, the k-th of which is told by its address -/
abbrev tAl {α : Type} (r : α → D) (xss : List (List α)) (k : Nat) (row : List α) (q : Addr) : List T := ((xss.map (oL r)).map OD.toT).set k (.lst (some q) ((row.map r).map T.dat))
theorem tAl_get {α : Type} {r : α → D} {xss : List (List α)} {k : Nat} {row row' : List α} {q : Addr} (hk : xss[k]? = some row') : (tAl r xss k row q)[k]? = some (.lst (some q) ((row.map r).map T.dat)) := by
  have hlt : k < xss.length := by
    rcases Nat.lt_or_ge k xss.length with z | z
    · exact z
    · rw [List.getElem?_eq_none z] at hk; cases hk
  unfold tAl
  rw [List.getElem?_set_self (by simpa using hlt)]
/-- x = rows[i] -/
theorem sw_alias {α : Type} {r : α → D} {xss : List (List α)} {row : List α} {k xn : Nat} {envq : Addr → List Slot} {ts : List T} (h : env[n]? = some (.tr (.lst na ts))) (hi : ∀ p, EM K ti (env.set n (.tr (.lst (some p) ts))) (.dat (dI i)) (envq p)) (h1 : ∀ p, (envq p)[n]? = some (.own2N (some p) (xss.map (oL r))))
    (hk : ixP xss.length i = some k) (hrow : xss[k]? = some row) (hxn : ∀ p, xn < (envq p).length) (hn : ∀ p q, Nx (((envq p).set n (.tr (.lst na (tAl r xss k row q)))).set xn (.tr (.adr q)))) :
    SW K E (tAsg (tOp (rIxL K) (tVar n) ti) (gName xn)) env Nx Rt Ex := fun σ F H A O m w Dn q1 q2 q4 => by
  obtain ⟨v, O1, A1, A2, e, g1, g2, g3, _, _⟩ := m.getT h
  cases g2 with
  | @lst _ p vs _ P nm hs =>
    have m2 := g3 F _ _ (Same.refl F) (.lst (a := some p) (fun _ z => Option.some.inj z) hs)
    refine ⟨_, g1, hi p σ F H _ O m2 (by rw [← e]; exact w) _ fun v O2 F2 H2 A' s2 m' w2 d2 => ?_⟩
    cases d2 with
    | dat d2 =>
      obtain ⟨v', O3, B1, B2, e2, r1, r2, r3, _, _⟩ := m'.getT (h1 p)
      rw [g1] at r1
      cases r1
      cases r2 with
      | @lst _ _ vs2 _ P2 nm2 hs2 =>
        have hrow2 : ((xss.map (oL r)).map OD.toT)[k]? = some (.lst none ((row.map r).map T.dat)) := by rw [List.getElem?_map, List.getElem?_map, hrow]; rfl
        obtain ⟨u, C1, P3, C2, e3, t1, t2, t3⟩ := hs2.at hrow2
        obtain ⟨q, rfl⟩ := t2.ref rfl
        have hp := (w2.has (p, .lst vs2) (by rw [e2]; simp)).2
        have hl := hs2.length
        rw [List.length_map, List.length_map] at hl
        refine ⟨p, vs2, i, .ref q, rfl, d2.int, .of hp, atI_ixP (by rw [hl]; exact hk) t1, ?_⟩
        have m3 := r3 F2 _ _ (Same.refl F2) (TR.lst nm (t3 F2 _ _ (Same.refl F2) t2.named))
        subst e3
        have w3 : Own F2 H2 ((B1 ++ ((p, .lst vs2) :: (C1 ++ (P3 ++ C2)) ++ B2)) ++ O) := by rw [← e2]; exact w2
        obtain ⟨A5, m5, w5⟩ := m3.setT (x := .adr q) (O1 := []) xn TR.adr (by rw [List.length_set]; exact hxn p)
        exact q1 _ _ F2 H2 A5 (hn p q) s2 m5 (w5 H2 O w3)
/-- len(x) -/
theorem ev_lenAl {xn : Nat} {q : Addr} {ts : List T} (hx : env[xn]? = some (.tr (.adr q))) (hg : getAt env n π = some (.lst (some q) ts)) : EV K (tCB (rLenP K) (tCons (tVar xn) tNil)) env (dI (ts.length : Nat)) := fun σ F H A O m w Q k => by
  obtain ⟨v, O1, A1, A2, e, g1, g2, _, _, _⟩ := m.getT hx
  cases g2
  obtain ⟨v2, B1, P1, B2, e2, r2, _⟩ := m.focus hg
  have := r2.at_name rfl
  subst this
  cases r2 with
  | @lst _ p vs _ P nm hs =>
    have hp := (w.has (q, .lst vs) (by rw [e2]; simp)).2
    exact ⟨_, g1, _, ts.length, rfl, .inl ⟨_, .of hp, hs.length.symm⟩, k _ F H (Same.refl F) w (.v _)⟩
theorem ev_lenAlT {α : Type} {r : α → D} {xss : List (List α)} {row : List α} {k xn : Nat} {q : Addr} (hx : env[xn]? = some (.tr (.adr q))) (h : env[n]? = some (.tr (.lst na (tAl r xss k row q)))) (hrow : xss[k]? = some row) : EV K (tCB (rLenP K) (tCons (tVar xn) tNil)) env (dI (row.length : Nat)) := by
  have hg : getAt env n [.ix k] = some (.lst (some q) ((row.map r).map T.dat)) := by
    unfold getAt
    rw [h]
    simp only
    rw [T.get_ix (tAl_get hrow), T.get_nil]
  have := ev_lenAl (K := K) hx hg
  rw [List.length_map, List.length_map] at this
  exact this
theorem tAl_set {α : Type} {r : α → D} (xss : List (List α)) (k : Nat) (row row' : List α) (q : Addr) : (tAl r xss k row q).set k (.lst none ((row'.map r).map T.dat)) = ((xss.set k row').map (oL r)).map OD.toT := by
  unfold tAl
  rw [List.set_set, List.map_set, List.map_set]; rfl
/-- the name let go again -/
theorem sw_unal {α : Type} {r : α → D} {xss : List (List α)} {row : List α} {k xn : Nat} {q : Addr} (h : env[n]? = some (.tr (.lst na (tAl r xss k row q)))) (hrow : xss[k]? = some row) (hn : SW K E t ((env.set n (.own2N na (xss.map (oL r)))).set xn .un) Nx Rt Ex) : SW K E t env Nx Rt Ex :=
  sw_match (fun σ F H A O m w => by
    have hg : getAt env n [.ix k] = some (.lst (some q) ((row.map r).map T.dat)) := by
      unfold getAt
      rw [h]
      simp only
      rw [T.get_ix (tAl_get hrow), T.get_nil]
    obtain ⟨v2, B1, P1, B2, e2, r2, r3⟩ := m.focus hg
    have m2 := r3 F _ _ (Same.refl F) r2.unnamed
    have e3 : putAt env n [.ix k] (.lst none ((row.map r).map T.dat)) = env.set n (.own2N na (xss.map (oL r))) := by
      unfold putAt
      rw [h]
      simp only
      rw [T.put_ix (tAl_get hrow), T.put_nil, tAl_set]
      have : xss.set k row = xss := by
        apply List.ext_getElem?
        intro j
        by_cases hj : k = j
        · subst hj
          rcases Nat.lt_or_ge k xss.length with z | z
          · rw [List.getElem?_set_self z, hrow]
          · rw [List.getElem?_eq_none z] at hrow; cases hrow
        · rw [List.getElem?_set_ne hj]
      rw [this]
    have m2 : Match K F σ (putAt env n [.ix k] (.lst none ((row.map r).map T.dat))) _ := m2
    rw [e3] at m2
    obtain ⟨A', s, m'⟩ := match_unset xn m2
    exact ⟨F, A', Same.refl F, m', (by rw [← e2]; exact w : Own F H ((B1 ++ (P1 ++ B2)) ++ O)).subA s⟩) hn
/-- x.extend(a new list), x then let go -/
theorem sw_extAl {α : Type} {r : α → D} {xss yss : List (List α)} {row row' ys : List α} {k xn : Nat} {q : Addr} {env1 : List Slot} (hx : env[xn]? = some (.tr (.adr q))) (h : env[n]? = some (.tr (.lst na (tAl r xss k row q))))
    (hg0 : xss[k]? = some row) (hk : ixP xss.length i = some k) (he : extR row ys = .ok row') (hs : setR xss i row' = .ok yss) (hy : EM K te env (.lst none ((ys.map r).map T.dat)) env1) (h1 : env1[n]? = some (.tr (.lst na (tAl r xss k row q)))) (hx1 : env1[xn]? = some (.tr (.adr q)))
    (hn : Nx ((env1.set n (.own2N na (yss.map (oL r)))).set xn .un)) : SW K E (tDrop (tBM K "list" rExtend (tVar xn) (tCons te tNil))) env Nx Rt Ex := fun σ F H A O m w Dn q1 q2 q4 => by
  obtain ⟨v, O1, A1, A2, e, g1, g2, _, _, _⟩ := m.getT hx
  cases g2
  have hg : ∀ {env : List Slot}, env[n]? = some (.tr (.lst na (tAl r xss k row q))) → getAt env n [.ix k] = some (.lst (some q) ((row.map r).map T.dat)) := fun h => by
    unfold getAt
    rw [h]
    simp only
    rw [T.get_ix (tAl_get hg0), T.get_nil]
  obtain ⟨v2, B1, P1, B2, e2, r2, _⟩ := m.focus (hg h)
  have := r2.at_name rfl
  subst this
  cases r2 with
  | @lst _ _ vs _ P nm hv =>
    have hp := (w.has (q, .lst vs) (by rw [e2]; simp)).2
    refine ⟨_, g1, .inl ⟨rfl, vs, .of hp⟩, hy σ F H A O m w _ fun v3 O2 F3 H3 A3 s3 m3 w3 d3 => ?_⟩
    obtain ⟨v5, C1, P5, C2, e5, r5, r6⟩ := m3.focus (hg h1)
    have := r5.at_name rfl
    subst this
    cases r5 with
    | @lst _ _ vs5 _ P6 nm5 hv5 =>
      cases d3 with
      | @lst _ p3 us _ P7 nm7 hu =>
        obtain ⟨z1, d5⟩ := hv5.flat
        obtain ⟨z2, d7⟩ := hu.flat
        subst z1 z2
        have hq3 := (w3.has (q, .lst vs5) (by rw [e5]; simp)).2
        have hp3 := (w3.has (p3, .lst us) (by simp)).2
        unfold extR at he
        split at he
        case isFalse => cases he
        rename_i hl
        have ey := R.ok_inj he
        subst ey
        obtain ⟨k', c1, c2⟩ := setR_some hs
        rw [hk] at c1
        cases c1
        subst c2
        have l5 := d5.length
        have l7 := d7.length
        rw [List.length_map] at l5 l7
        refine ⟨q, p3, vs5, us, rfl, rfl, hq3, hp3, by rw [l5, l7, sizeLine_eq]; exact hl, ?_⟩
        have tr : TR K F3 (.ref q) (.lst none (((row ++ ys).map r).map T.dat)) [(q, .lst (vs5 ++ us))] := .lst (fun _ z => nomatch z) (by rw [List.map_append]; exact (d5.append d7).tree)
        have m6 := r6 F3 _ _ (Same.refl F3) tr
        have e6 : putAt env1 n [.ix k] (.lst none (((row ++ ys).map r).map T.dat)) = env1.set n (.own2N na ((xss.set k (row ++ ys)).map (oL r))) := by
          unfold putAt
          rw [h1]
          simp only
          rw [T.put_ix (tAl_get hg0), T.put_nil, tAl_set]
        rw [e6] at m6
        obtain ⟨A7, s7, m7⟩ := match_unset xn m6
        have w4 : Own F3 H3 ((C1 ++ ([(q, .lst vs5)] ++ C2)) ++ O) := by rw [← e5]; exact w3.sub (List.sublist_cons_self _ _)
        have w5 := own_updL (R := []) (P := []) (P' := []) (o' := .lst (vs5 ++ us)) ⟨[], List.Sublist.refl _, List.Perm.refl _⟩ w4
        exact q1 _ σ F3 _ A7 hn s3 m7 (w5.subA s7)
end
/-! ### options compare -/
section
variable {α : Type} {r : α → D}
def eqO (e : EqR r) (hn : ∀ x, PyData.eqv .none (e.py x) = false) (hn2 : ∀ x, PyData.eqv (e.py x) .none = false) : EqR (dO r) where
  py := fun o => match o with
    | none => .none
    | some x => e.py x
  dep := max e.dep 1
  ok := fun K F H v o s h => by
    cases o with
    | none => rw [h.scl]; exact .non
    | some x => exact e.ok K F H v x s h
  lay := fun o => by
    cases o with
    | none => simp [PyData.canLay0]
    | some x => exact e.lay x
  depth := fun o => by
    cases o with
    | none => simp [PyData.depth]
    | some x => have := e.depth x; simp only; omega
  eqv := fun x y => by
    cases x with
    | none =>
      cases y with
      | none => simp [PyData.eqv]
      | some y => simp only [hn y]; simp
    | some x =>
      cases y with
      | none => simp only [hn2 x]; simp
      | some y => simp only [e.eqv]; simp
end
end Pg

set_option Elab.async false
set_option linter.all false
/-! Pg: more outcomes; core Lean alone. -/
namespace Pg
/-- sorted(..) of fewer than 64 whole numbers -/
def sortR (xs : List Int) : R (List Int) := if xs.length < 64 then .ok (xs.mergeSort fun a b => decide (a ≤ b)) else .bad
/-- xss[i].clear() -/
def clrR {α : Type} (xss : List (List α)) (i : Int) : R (List (List α)) := R.bind (atR xss i) fun _ => setR xss i []
end Pg

set_option Elab.async false
set_option linter.all false
set_option maxRecDepth 100000
namespace Pg
open PySem PySem.Spec PyProof.Rows L2
section
variable {K : PySem.W.Frag} {E : WX} {env : List Slot} {ta tb tc td te : TE} {i j : Int} {n : Nat} {π : List Stp} {na : Option Addr}
/-! ### dict displays of two pairs -/
theorem ew_disp2 {β : Type} {r : β → D} {b1 b2 : β} (ha : EV K ta env (dI i)) (hc : EV K tc env (r b1)) (hb : EV K tb env (dI j)) (hd : EV K td env (r b2)) :
    EW K (tDisp [(ta, tc), (tb, td)]) env (.dK none (repK kI r (putA (putA [] i b1) j b2))) := fun σ F H A O m w Q q p np => by
  have w1 : Own F (upd H p (.dK [])) (A ++ ((p, .dK []) :: O)) := (w.new np).unmid
  refine ha σ F _ A _ m w1 _ fun v1 F1 H1 s1 w2 d1 => hc σ F1 H1 A _ (m.up s1) w2 _ fun v2 F2 H2 s2 w3 d2 => hb σ F2 H2 A _ (m.up (s1.trans s2)) w3 _ fun v3 F3 H3 s3 w4 d3 => hd σ F3 H3 A _ (m.up ((s1.trans s2).trans s3)) w4 _ fun v4 F4 H4 s4 w5 d4 => ?_
  have hp := (w5.has (p, .dK []) (by simp)).2
  refine ⟨hp, [(kI i, v2), (kI j, v4)], ?_, by simp, ?_⟩
  · rw [d1.int, d3.int]; rfl
  · have w6 : Own F4 (upd H4 p (.dK (mergeK [] [(kI i, v2), (kI j, v4)]))) ((p, .dK (mergeK [] [(kI i, v2), (kI j, v4)])) :: (A ++ O)) := w5.mid.put
    refine q (.ref p) [(p, .dK (mergeK [] [(kI i, v2), (kI j, v4)]))] F4 _ (((s1.trans s2).trans s3).trans s4) w6 (.dK (fun _ z => nomatch z) ?_)
    have z1 : Datm K F4 (putK ([] : List (L2.Key × V)) (kI i) v2) (putA [] (kI i) (r b1)) := Datm.put .nil (d2.up (s3.trans s4))
    have z2 := Datm.put (k := kI j) z1 d4
    rw [repK_put kI_inj, repK_put kI_inj]
    exact z2
/-! ### sorted(d) -/
def rSortDI : List V → Hp → VK → Prop := fun xs H Q => ∃ (a : Addr) (kvs : List (L2.Key × V)) (ks : List Int), xs = [.ref a] ∧ Rd H a (.dK kvs) ∧ kvs.map (·.1) = ks.map Sum.inl ∧ ks.length < 64 ∧
    ∀ (ys : List Int) (p : Addr), ys.Perm ks → ys.Pairwise (· ≤ ·) → H p = none → Q (.ref p) (upd H p (.lst (ys.map V.int)))
theorem cl_sorted {X : Cx} (hc : X.calm = true) : CallR X (.builtin "sorted") rSortDI := call_sortedDI hc
theorem Datm.keys {κ : Type} {F : Hp} : ∀ {us : List (κ × V)} {kvs : List (κ × D)}, Datm K F us kvs → us.map (·.1) = kvs.map (·.1)
  | _, _, .nil => rfl
  | _, _, .cons _ h => by rw [List.map_cons, List.map_cons, Datm.keys h]
theorem sort_one {xs ys : List Int} (h : ys.Perm xs) (s : ys.Pairwise (· ≤ ·)) : ys = xs.mergeSort fun a b => decide (a ≤ b) := by
  refine List.Perm.eq_of_pairwise (le := (· ≤ ·)) (fun a b _ _ h1 h2 => Int.le_antisymm h1 h2) s ?_ (h.trans (List.mergeSort_perm xs _).symm)
  have := List.pairwise_mergeSort (le := fun a b : Int => decide (a ≤ b)) (fun a b c h1 h2 => by simp only [decide_eq_true_eq] at *; omega) (fun a b => by simp only [Bool.or_eq_true, decide_eq_true_eq]; omega) xs
  exact this.imp fun h => by simpa using h
theorem dats_int {F : Hp} : ∀ ys : List Int, Dats K F (ys.map V.int) (ys.map dI)
  | [] => .nil
  | y :: ys => .cons (.v _) (dats_int ys)
theorem en_sortI {β : Type} {r : β → D} {xs : List (Int × β)} {ys : List Int} (hx : sortR (xs.map (·.1)) = .ok ys) (hp : EP K td env n π) (hg : getAt env n π = some (.dK na (repK kI r xs))) :
    EN K (tCB rSortDI (tCons td tNil)) env (ys.map dI) := fun σ F H A O m w Q q => hp σ F H A O m w _ fun v F2 H2 s2 w2 pl => by
  obtain ⟨p, us, A1, A2, rfl, e, hs, _⟩ := pl.dK hg
  have hH := (w2.has (p, .dK us) (by rw [e]; simp)).2
  unfold sortR at hx
  split at hx
  · rename_i hl
    have ex := R.ok_inj hx
    refine ⟨p, us, xs.map (·.1), rfl, .of hH, ?_, hl, fun zs l pz sz nl => ?_⟩
    · rw [hs.keys]
      unfold repK
      rw [List.map_map, List.map_map]; rfl
    · have e2 := sort_one pz sz
      rw [ex] at e2
      subst e2
      exact q l _ F2 _ s2 (w2.new nl) (dats_int _)
  · cases hx
end
end Pg

set_option Elab.async false
set_option linter.all false
namespace Pg

/-! mirrors of the defs of k01, printed by pygen -/
def p_divisor (one1 : Int) (other2 : Int) : R Int :=
  R.bind (gcdR one1 other2) fun g3 =>
  R.ok g3
def p_ratio (top1 : Int) (bottom2 : Int) : R Rat :=
  if (decide (bottom2 = (0 : Int))) = true then (R.bad) else (R.bind (if (decide (bottom2 < (0 : Int))) = true then (R.bind (R.ok ((-top1))) fun top4 => R.bind (R.ok ((-bottom2))) fun bottom5 => R.ok (top4, bottom5)) else (R.ok (top1, bottom2)) : R ((Int × Int))) fun st3 => R.bind (p_divisor ((absZ st3.1)) st3.2) fun diviso6 => R.bind (R.ok diviso6) fun most7 => R.bind (fdivR st3.1 most7) fun q8 => R.bind (fdivR st3.2 most7) fun q9 => R.bind (mkQ q8 q9) fun q10 => R.ok q10)
def l_cell (script1 : (List Int)) (k2 : Int) : R Int :=
  if (decide (k2 < (script1.length : Int))) = true then (R.bind (atR script1 k2) fun it3 => R.ok it3) else (R.bind (mulR k2 ((7919 : Int))) fun p4 => R.bind (R.ok p4) fun seed5 => R.bind (if (decide ((script1.length : Int) > (0 : Int))) = true then (R.bind (fmodR k2 ((script1.length : Int))) fun m7 => R.bind (atR script1 m7) fun it8 => R.bind (R.ok ((seed5 + (it8 % (65537 : Int))))) fun seed9 => R.ok seed9) else (R.ok seed5) : R Int) fun st6 => R.bind (mulR st6 ((48271 : Int))) fun p10 => R.bind (R.ok ((p10 % (65537 : Int)))) fun some11 => R.bind (mulR ((2 : Int)) k2) fun p12 => R.bind (mulR some11 (((some11 + p12) + (1 : Int)))) fun p13 => R.ok (((p13 / (7 : Int)) % (65521 : Int))))
def l_whole (found1 : Int) : R Bool :=
  R.ok ((true && (!false)))
def l_most (one1 : Int) (other2 : Int) : R Int :=
  R.bind (gcdR one1 other2) fun g3 =>
  R.ok g3
def l_is (found1 : Rat) (top2 : Int) (bottom3 : Int) : R Bool :=
  if ((!true) || (!decide ((2 : Int) = (2 : Int)))) = true then (R.ok false) else (R.bind (l_whole found1.num) fun w4 => R.bind (R.orR ((!w4)) (R.bind (l_whole ((found1.den : Int))) fun w5 => R.ok (((!w5) || (decide ((found1.den : Int) < (1 : Int))))))) fun b6 => if b6 = true then (R.ok false) else (R.bind (mulR found1.num bottom3) fun p7 => R.bind (mulR top2 ((found1.den : Int))) fun p8 => R.bind (R.andR ((decide (p7 = p8))) (R.bind (l_most ((absZ found1.num)) ((found1.den : Int))) fun m9 => R.ok ((decide (m9 = (1 : Int)))))) fun b10 => R.ok b10))
def l_ratio (top1 : Int) (bottom2 : Int) : R Rat :=
  R.bind (l_most ((absZ top1)) ((absZ bottom2))) fun m3 =>
  R.bind (R.ok m3) fun most4 =>
  R.bind (if (decide (bottom2 < (0 : Int))) = true then (R.bind (R.ok ((-most4))) fun most6 => R.ok most6) else (R.ok most4) : R Int) fun st5 =>
  R.bind (fdivR top1 st5) fun q7 =>
  R.bind (fdivR bottom2 st5) fun q8 =>
  R.bind (mkQ q7 q8) fun q9 =>
  R.ok q9
def l_top (cell1 : Int) : R Int :=
  if (decide ((cell1 % (4 : Int)) = (3 : Int))) = true then (R.ok (((((cell1 / (4 : Int)) % ((2000000000000000000000000000000 : Int) - (1 : Int))) - (1000000000000000000000000000000 : Int)) + (1 : Int)))) else (R.ok ((((cell1 / (4 : Int)) % (41 : Int)) - (20 : Int))))
def l_bottom (cell1 : Int) : R Int :=
  if (decide ((cell1 % (4 : Int)) = (3 : Int))) = true then (R.ok (((1 : Int) + ((cell1 / (4 : Int)) % ((1000000000000000000000000000000 : Int) - (1 : Int)))))) else (R.ok (((1 : Int) + ((cell1 / (4 : Int)) % (12 : Int)))))
def l_drawn (script1 : (List Int)) (at2 : Int) : R Rat :=
  R.bind (l_cell script1 at2) fun c3 =>
  R.bind (l_top c3) fun t4 =>
  R.bind (l_cell script1 ((at2 + (1 : Int)))) fun c5 =>
  R.bind (l_bottom c5) fun b6 =>
  R.bind (l_ratio t4 b6) fun r7 =>
  R.ok r7
def l_pairs (script1 : (List Int)) : R ((List (Int × Int))) :=
  R.bind (R.ok ([((0 : Int), (5 : Int)), ((0 : Int), (-((1 : Int)))), ((7 : Int), (1 : Int)), ((-((7 : Int))), (-((1 : Int))))])) fun pairs2 =>
  R.bind (rngR 0 ((maxZ ((3 : Int)) ((minZ ((24 : Int)) (((script1.length : Int) / (2 : Int)))))))) fun r3 =>
  R.bind (R.forR (fun (x4 : Int) (s5 : (List (Int × Int))) => R.bind (mulR ((2 : Int)) x4) fun p6 => R.bind (l_cell script1 p6) fun c7 => R.bind (l_top c7) fun t8 => R.bind (R.ok t8) fun top9 => R.bind (mulR ((2 : Int)) x4) fun p10 => R.bind (l_cell script1 ((p10 + (1 : Int)))) fun c11 => R.bind (l_bottom c11) fun b12 => R.bind (R.ok b12) fun bottom13 => R.bind (mulR ((2 : Int)) x4) fun p14 => R.bind (l_cell script1 p14) fun c15 => R.bind (if (decide (((c15 / (3 : Int)) % (2 : Int)) = (0 : Int))) = true then (R.bind (R.ok ((-bottom13))) fun bottom17 => R.ok bottom17) else (R.ok bottom13) : R Int) fun st16 => R.bind (appR s5 ((top9, st16))) fun pairs18 => R.bind (mulR ((2 : Int)) x4) fun p19 => R.bind (l_cell script1 ((p19 + (1 : Int)))) fun c20 => R.bind (R.ok (((2 : Int) + ((c20 / (5 : Int)) % (12 : Int))))) fun more21 => R.bind (mulR top9 more21) fun p22 => R.bind (R.andR ((decide ((absZ p22) < (1000000000000000000000000000000 : Int)))) (R.bind (mulR st16 more21) fun p23 => R.ok ((decide ((absZ p23) < (1000000000000000000000000000000 : Int)))))) fun b24 => if b24 = true then (R.bind (mulR top9 more21) fun p25 => R.bind (mulR st16 more21) fun p26 => R.bind (appR pairs18 ((p25, p26))) fun pairs27 => R.ok pairs27) else (R.ok pairs18)) r3 pairs2) fun s28 =>
  R.bind (l_cell script1 ((0 : Int))) fun c29 =>
  R.bind (if (decide ((c29 % (8 : Int)) = (5 : Int))) = true then (R.bind (R.ok ((1 : Int))) fun far31 => R.bind (rngR 0 ((50 : Int))) fun r32 => R.bind (R.forR (fun (x33 : Int) (s34 : Int) => R.bind (mulR s34 ((10000000000000000000000000000000000000000 : Int))) fun p35 => R.bind (R.ok p35) fun far36 => R.ok far36) r32 far31) fun s37 => R.bind (atR s28 ((4 : Int))) fun it38 => R.bind (mulR ((6 : Int)) ((s37 + it38.1))) fun p39 => R.bind (atR s28 ((4 : Int))) fun it40 => R.bind (mulR ((6 : Int)) (((s37 / (10 : Int)) + (absZ it40.2)))) fun p41 => R.bind (catR ((cutL s28 none (some ((4 : Int))))) ([(p39, p41)])) fun c42 => R.bind (R.ok c42) fun pairs43 => R.ok pairs43) else (R.ok s28) : R ((List (Int × Int)))) fun st30 =>
  R.ok st30
def k01_law (script1 : (List Int)) : R Bool :=
  R.bind (l_pairs script1) fun p2 =>
  R.bind (R.forX (fun (x3 : (Int × Int)) (s4 : Unit) => (R.bind (p_ratio x3.1 x3.2) fun ratio5 => R.bind (l_is ratio5 x3.1 x3.2) fun i6 => if (!i6) = true then (R.ok (Sum.inr false)) else (R.ok (Sum.inl (()))) : R (Sum Unit Bool))) p2 (())) fun r7 =>
  R.caseX r7 (fun s8 => R.ok true) (fun b9 => R.ok b9)
end Pg

set_option Elab.async false
set_option linter.all false
namespace Pg

/-! mirrors of the defs of k02, printed by pygen -/
def p_plus (one1 : Rat) (other2 : Rat) : R Rat :=
  R.bind (mulR one1.num ((other2.den : Int))) fun p3 =>
  R.bind (mulR other2.num ((one1.den : Int))) fun p4 =>
  R.bind (mulR ((one1.den : Int)) ((other2.den : Int))) fun p5 =>
  R.bind (p_ratio ((p3 + p4)) p5) fun ratio6 =>
  R.ok ratio6
def p_minus (one1 : Rat) (other2 : Rat) : R Rat :=
  R.bind (mulR one1.num ((other2.den : Int))) fun p3 =>
  R.bind (mulR other2.num ((one1.den : Int))) fun p4 =>
  R.bind (mulR ((one1.den : Int)) ((other2.den : Int))) fun p5 =>
  R.bind (p_ratio ((p3 - p4)) p5) fun ratio6 =>
  R.ok ratio6
def p_total (some1 : (List Rat)) : R Rat :=
  R.bind (mkQ ((0 : Int)) ((1 : Int))) fun q2 =>
  R.bind (R.ok q2) fun come3 =>
  R.bind (R.forR (fun (x4 : Rat) (s5 : Rat) => R.bind (p_plus s5 x4) fun plus6 => R.bind (R.ok plus6) fun come7 => R.ok come7) some1 come3) fun s8 =>
  R.ok s8
def l_some (script1 : (List Int)) : R ((List Rat)) :=
  R.bind (R.ok (([] : (List Rat)))) fun some2 =>
  R.bind (l_cell script1 ((5 : Int))) fun c3 =>
  R.bind (rngR 0 ((c3 % (13 : Int)))) fun r4 =>
  R.bind (R.forR (fun (x5 : Int) (s6 : (List Rat)) => R.bind (l_cell script1 (((6 : Int) + x5))) fun c7 => R.bind (R.ok c7) fun cell8 => R.bind (l_top ((cell8 / (12 : Int)))) fun t9 => R.bind (l_ratio t9 (((1 : Int) + (cell8 % (12 : Int))))) fun r10 => R.bind (appR s6 r10) fun some11 => R.ok some11) r4 some2) fun s12 =>
  R.bind (R.andR ((decide ((s12.length : Int) > (0 : Int)))) (R.bind (l_cell script1 ((5 : Int))) fun c13 => R.ok ((decide (((c13 / (13 : Int)) % (4 : Int)) = (0 : Int)))))) fun b14 =>
  R.bind (if b14 = true then (R.bind (l_drawn script1 ((18 : Int))) fun d16 => R.bind (l_cell script1 ((4 : Int))) fun c17 => R.bind (fmodR c17 ((s12.length : Int))) fun m18 => R.bind (setR s12 m18 d16) fun some19 => R.ok some19) else (R.ok s12) : R ((List Rat))) fun st15 =>
  R.ok st15
def l_total_good (some1 : (List Rat)) : R Bool :=
  R.bind (R.ok ((0 : Int))) fun top2 =>
  R.bind (R.ok ((1 : Int))) fun bottom3 =>
  R.bind (R.forR (fun (x4 : Rat) (s5 : (Int × Int)) => R.bind (mulR s5.1 ((x4.den : Int))) fun p6 => R.bind (mulR x4.num s5.2) fun p7 => R.bind (R.ok ((p6 + p7))) fun top8 => R.bind (mulR s5.2 ((x4.den : Int))) fun p9 => R.bind (R.ok p9) fun bottom10 => R.ok ((top8, bottom10))) some1 ((top2, bottom3))) fun s11 =>
  R.bind (R.ok some1) fun handed12 =>
  R.bind (p_total handed12) fun total13 =>
  R.bind (l_is total13 s11.1 s11.2) fun i14 =>
  R.ok ((i14 && (decide (handed12 = some1))))
def k02_law (script1 : (List Int)) : R Bool :=
  R.bind (l_drawn script1 ((0 : Int))) fun d2 =>
  R.bind (R.ok d2) fun one3 =>
  R.bind (l_drawn script1 ((2 : Int))) fun d4 =>
  R.bind (R.ok d4) fun other5 =>
  R.bind (l_cell script1 ((4 : Int))) fun c6 =>
  R.bind (if (decide ((c6 % (5 : Int)) = (0 : Int))) = true then (R.bind (mkQ ((-one3.num)) ((one3.den : Int))) fun q8 => R.bind (R.ok q8) fun other9 => R.ok other9) else (R.ok other5) : R Rat) fun st7 =>
  R.bind (mulR ((one3.den : Int)) ((st7.den : Int))) fun p10 =>
  R.bind (R.ok p10) fun both11 =>
  R.bind (p_plus one3 st7) fun plus12 =>
  R.bind (R.ok plus12) fun come13 =>
  R.bind (mulR one3.num ((st7.den : Int))) fun p14 =>
  R.bind (mulR st7.num ((one3.den : Int))) fun p15 =>
  R.bind (l_is come13 ((p14 + p15)) both11) fun i16 =>
  if (!i16) = true then (R.ok false) else (R.bind (p_minus one3 st7) fun minus17 => R.bind (mulR one3.num ((st7.den : Int))) fun p18 => R.bind (mulR st7.num ((one3.den : Int))) fun p19 => R.bind (l_is minus17 ((p18 - p19)) both11) fun i20 => if (!i20) = true then (R.ok false) else (R.bind (p_minus st7 one3) fun minus21 => R.bind (mulR st7.num ((one3.den : Int))) fun p22 => R.bind (mulR one3.num ((st7.den : Int))) fun p23 => R.bind (l_is minus21 ((p22 - p23)) both11) fun i24 => if (!i24) = true then (R.ok false) else (R.bind (p_minus come13 st7) fun minus25 => R.bind (l_is minus25 one3.num ((one3.den : Int))) fun i26 => R.bind (R.orR ((!i26)) (R.bind (p_minus one3 one3) fun minus27 => R.bind (l_is minus27 ((0 : Int)) ((1 : Int))) fun i28 => R.ok ((!i28)))) fun b29 => if b29 = true then (R.ok false) else (R.bind (l_some script1) fun s30 => R.bind (R.ok s30) fun some31 => R.bind (rngR 0 ((some31.length : Int))) fun r32 => R.bind (R.compR (fun x33 => R.bind (atR some31 ((((some31.length : Int) - (1 : Int)) - x33))) fun it34 => R.ok it34) r32) fun c35 => R.bind (R.ok c35) fun back36 => R.bind (l_total_good some31) fun t37 => R.bind (R.andR t37 (R.bind (l_total_good back36) fun t38 => R.bind (R.andR t38 (R.bind (l_total_good ([one3])) fun t39 => R.bind (R.andR t39 (R.bind (l_total_good (([] : (List Rat)))) fun t40 => R.ok t40)) fun b41 => R.ok b41)) fun b42 => R.ok b42)) fun b43 => R.ok b43))))
end Pg

set_option Elab.async false
set_option linter.all false
namespace Pg

/-! mirrors of the defs of k03, printed by pygen -/
def p_times (one1 : Rat) (other2 : Rat) : R Rat :=
  R.bind (mulR one1.num other2.num) fun p3 =>
  R.bind (mulR ((one1.den : Int)) ((other2.den : Int))) fun p4 =>
  R.bind (p_ratio p3 p4) fun ratio5 =>
  R.ok ratio5
def p_parted (one1 : Rat) (other2 : Rat) : R Rat :=
  R.bind (mulR one1.num ((other2.den : Int))) fun p3 =>
  R.bind (mulR ((one1.den : Int)) other2.num) fun p4 =>
  R.bind (p_ratio p3 p4) fun ratio5 =>
  R.ok ratio5
def k03_law (script1 : (List Int)) : R Bool :=
  R.bind (l_drawn script1 ((0 : Int))) fun d2 =>
  R.bind (R.ok d2) fun one3 =>
  R.bind (l_drawn script1 ((2 : Int))) fun d4 =>
  R.bind (R.ok d4) fun other5 =>
  R.bind (l_cell script1 ((4 : Int))) fun c6 =>
  R.bind (R.ok ((c6 % (10 : Int)))) fun way7 =>
  R.bind (if ((decide (way7 = (0 : Int))) && (!decide (one3.num = (0 : Int)))) = true then (R.bind (l_ratio ((one3.den : Int)) one3.num) fun r9 => R.bind (R.ok r9) fun other10 => R.ok other10) else (R.ok other5) : R Rat) fun st8 =>
  R.bind (if (decide (way7 = (1 : Int))) = true then (R.bind (mkQ ((0 : Int)) ((1 : Int))) fun q12 => R.bind (R.ok q12) fun other13 => R.ok other13) else (R.ok st8) : R Rat) fun st11 =>
  R.bind (p_times one3 st11) fun times14 =>
  R.bind (R.ok times14) fun come15 =>
  R.bind (mulR one3.num st11.num) fun p16 =>
  R.bind (mulR ((one3.den : Int)) ((st11.den : Int))) fun p17 =>
  R.bind (l_is come15 p16 p17) fun i18 =>
  R.bind (R.orR ((!i18)) (R.bind (p_times st11 one3) fun times19 => R.ok ((!decide (times19 = come15))))) fun b20 =>
  if b20 = true then (R.ok false) else (R.bind (mkQ ((1 : Int)) ((1 : Int))) fun q21 => R.bind (p_parted one3 q21) fun parted22 => R.bind (l_is parted22 one3.num ((one3.den : Int))) fun i23 => if (!i23) = true then (R.ok false) else (if (decide (st11.num = (0 : Int))) = true then (R.bind (l_is come15 ((0 : Int)) ((1 : Int))) fun i24 => R.ok i24) else (R.bind (p_parted one3 st11) fun parted25 => R.bind (mulR one3.num ((st11.den : Int))) fun p26 => R.bind (mulR ((one3.den : Int)) st11.num) fun p27 => R.bind (l_is parted25 p26 p27) fun i28 => if (!i28) = true then (R.ok false) else (R.bind (p_parted come15 st11) fun parted29 => R.bind (l_is parted29 one3.num ((one3.den : Int))) fun i30 => R.ok i30))))
end Pg

set_option Elab.async false
set_option linter.all false
namespace Pg

/-! mirrors of the defs of k04, printed by pygen -/
def p_under (one1 : Rat) (other2 : Rat) : R Bool :=
  R.bind (mulR one1.num ((other2.den : Int))) fun p3 =>
  R.bind (mulR other2.num ((one1.den : Int))) fun p4 =>
  R.ok ((decide (p3 < p4)))
def p_between (one1 : Rat) (low2 : Rat) (high3 : Rat) : R Rat :=
  R.bind (p_under one1 low2) fun under4 =>
  if under4 = true then (R.ok low2) else (R.bind (p_under high3 one1) fun under5 => if under5 = true then (R.ok high3) else (R.ok one1))
def p_whole_part (one1 : Rat) : R Int :=
  R.bind (fdivR one1.num ((one1.den : Int))) fun q2 =>
  R.ok q2
def l_under (one1 : Rat) (other2 : Rat) : R Bool :=
  R.bind (mulR one1.num ((other2.den : Int))) fun p3 =>
  R.bind (mulR other2.num ((one1.den : Int))) fun p4 =>
  R.ok ((decide (p3 < p4)))
def l_three (script1 : (List Int)) : R ((List Rat)) :=
  R.bind (l_drawn script1 ((0 : Int))) fun d2 =>
  R.bind (l_drawn script1 ((2 : Int))) fun d3 =>
  R.bind (l_drawn script1 ((4 : Int))) fun d4 =>
  R.bind (R.ok ([d2, d3, d4])) fun some5 =>
  R.bind (l_cell script1 ((6 : Int))) fun c6 =>
  R.bind (R.ok ((c6 % (3 : Int)))) fun way7 =>
  R.bind (l_cell script1 ((7 : Int))) fun c8 =>
  R.bind (R.ok ((c8 % (3 : Int)))) fun at9 =>
  R.bind (if (decide (way7 = (0 : Int))) = true then (R.bind (atR some5 (((at9 + (1 : Int)) % (3 : Int)))) fun it11 => R.bind (setR some5 at9 it11) fun some12 => R.ok some12) else (R.ok some5) : R ((List Rat))) fun st10 =>
  R.bind (if (decide (way7 = (1 : Int))) = true then (R.bind (atR st10 (((at9 + (1 : Int)) % (3 : Int)))) fun it14 => R.bind (R.ok it14) fun near15 => R.bind (l_cell script1 ((8 : Int))) fun c16 => R.bind (R.ok (((100000000000000000000000000000 : Int) + (c16 % (12 : Int))))) fun part17 => R.bind (mulR near15.num part17) fun p18 => R.bind (mulR ((near15.den : Int)) part17) fun p19 => R.bind (l_ratio ((p18 + (near15.den : Int))) p19) fun r20 => R.bind (setR st10 at9 r20) fun some21 => R.ok some21) else (R.ok st10) : R ((List Rat))) fun st13 =>
  R.ok st13
def l_between_good (one1 : Rat) (other2 : Rat) (third3 : Rat) : R Bool :=
  R.bind (R.ok other2) fun low4 =>
  R.bind (R.ok third3) fun high5 =>
  R.bind (l_under third3 other2) fun u6 =>
  R.bind (if u6 = true then (R.bind (R.ok third3) fun low8 => R.bind (R.ok other2) fun high9 => R.ok (low8, high9)) else (R.ok (low4, high5)) : R ((Rat × Rat))) fun st7 =>
  R.bind (R.ok one1) fun due10 =>
  R.bind (l_under one1 st7.1) fun u11 =>
  R.bind (if u11 = true then (R.bind (R.ok st7.1) fun due13 => R.ok due13) else (R.ok due10) : R Rat) fun st12 =>
  R.bind (l_under st7.2 one1) fun u14 =>
  R.bind (if u14 = true then (R.bind (R.ok st7.2) fun due16 => R.ok due16) else (R.ok st12) : R Rat) fun st15 =>
  R.bind (p_between one1 st7.1 st7.2) fun betwee17 =>
  R.bind (l_is betwee17 st15.num ((st15.den : Int))) fun i18 =>
  R.ok i18
def l_whole_good (one1 : Rat) : R Bool :=
  R.bind (p_whole_part one1) fun whole2 =>
  R.bind (R.ok whole2) fun found3 =>
  R.bind (l_whole found3) fun w4 =>
  if (!w4) = true then (R.ok false) else (R.bind (mulR found3 ((one1.den : Int))) fun p5 => R.bind (R.andR ((decide (p5 ≤ one1.num))) (R.bind (mulR ((found3 + (1 : Int))) ((one1.den : Int))) fun p6 => R.ok ((decide (one1.num < p6))))) fun b7 => R.ok b7)
def k04_law (script1 : (List Int)) : R Bool :=
  R.bind (l_three script1) fun t2 =>
  R.bind (R.ok t2) fun some3 =>
  R.bind (rngR 0 ((3 : Int))) fun r4 =>
  R.bind (R.forX (fun (x5 : Int) (s6 : Unit) => (R.bind (atR some3 x5) fun it7 => R.bind (R.ok it7) fun one8 => R.bind (R.forX (fun (x9 : Rat) (s10 : Unit) => (R.bind (p_under one8 x9) fun under11 => R.bind (R.ok under11) fun found12 => R.bind (R.orR ((!true)) (R.bind (l_under one8 x9) fun u13 => R.ok ((!decide (found12 = u13))))) fun b14 => if b14 = true then (R.ok (Sum.inr false)) else (R.ok (Sum.inl (()))) : R (Sum Unit Bool))) some3 (())) fun r15 => R.caseX r15 (fun s16 => R.bind (atR some3 (((x5 + (1 : Int)) % (3 : Int)))) fun it18 => R.bind (atR some3 (((x5 + (2 : Int)) % (3 : Int)))) fun it19 => R.bind (l_between_good one8 it18 it19) fun b20 => if (!b20) = true then (R.ok (Sum.inr false)) else (R.bind (l_whole_good one8) fun w21 => R.bind (R.orR ((!w21)) (R.bind (mkQ ((-one8.num)) ((one8.den : Int))) fun q22 => R.bind (l_whole_good q22) fun w23 => R.ok ((!w23)))) fun b24 => if b24 = true then (R.ok (Sum.inr false)) else (R.ok (Sum.inl (()))))) (fun b17 => R.ok (Sum.inr b17)) : R (Sum Unit Bool))) r4 (())) fun r25 =>
  R.caseX r25 (fun s26 => R.ok true) (fun b27 => R.ok b27)
end Pg

set_option Elab.async false
set_option linter.all false
namespace Pg

/-! mirrors of the defs of k25, printed by pygen -/
def p_cover (share1 : Rat) : R Rat :=
  R.bind (p_between share1 ((0 : Rat)) ((1 : Rat))) fun betwee2 =>
  R.ok betwee2
def p_clear_film : R ((List Rat)) :=
  R.ok ([(1 : Rat), (0 : Rat), (0 : Rat), (0 : Rat), (0 : Rat)])
def l_spread (cell1 : Int) (k2 : Int) : R Int :=
  if (decide ((-((1000 : Int))) < cell1) && decide (cell1 < (1000 : Int))) = true then (R.bind (mulR ((37 : Int)) k2) fun p3 => R.bind (mulR ((cell1 + (1000 : Int))) (((cell1 + (1000 : Int)) + p3))) fun p4 => R.bind (mulR ((911 : Int)) k2) fun p5 => R.bind (mulR ((p4 + p5)) ((48271 : Int))) fun p6 => R.ok ((p6 % (1000003 : Int)))) else (R.ok cell1)
def l_low (top1 : Int) (bottom2 : Int) : R Rat :=
  R.bind (R.ok ((absZ top1))) fun one3 =>
  R.bind (R.ok bottom2) fun other4 =>
  R.bind (gcdR one3 other4) fun g5 =>
  R.bind (fdivR top1 g5) fun q6 =>
  R.bind (fdivR bottom2 g5) fun q7 =>
  R.bind (mkQ q6 q7) fun q8 =>
  R.ok q8
def l_like (found1 : (List Rat)) (due2 : (List Rat)) : R Bool :=
  if ((!true) || (!decide ((found1.length : Int) = (due2.length : Int)))) = true then (R.ok false) else (R.bind (R.forX (fun (x3 : Rat) (s4 : Unit) => (if ((!true) || (!decide ((2 : Int) = (2 : Int)))) = true then (R.ok (Sum.inr false)) else (R.bind (R.forX (fun (x5 : Int) (s6 : Unit) => (R.bind (l_whole x5) fun w7 => if (!w7) = true then (R.ok (Sum.inr false)) else (R.ok (Sum.inl (()))) : R (Sum Unit Bool))) ([x3.num, (x3.den : Int)]) (())) fun r8 => R.caseX r8 (fun s9 => R.ok (Sum.inl (()))) (fun b10 => R.ok (Sum.inr b10))) : R (Sum Unit Bool))) found1 (())) fun r11 => R.caseX r11 (fun s12 => R.ok ((decide (found1 = due2)))) (fun b13 => R.ok b13))
def l_share (cell1 : Int) : R Rat :=
  R.bind (R.ok (((1 : Int) + (cell1 % (12 : Int))))) fun bottom2 =>
  R.bind (R.ok ((((cell1 / (12 : Int)) % (81 : Int)) - (40 : Int)))) fun top3 =>
  R.bind (if (decide (((cell1 / (3 : Int)) % (4 : Int)) = (1 : Int))) = true then (R.bind (R.ok (((1 : Int) + ((cell1 / (12 : Int)) % (1000000000000000000000000 : Int))))) fun bottom5 => R.bind (mulR ((cell1 / (48 : Int))) ((48271 : Int))) fun p6 => R.bind (R.ok (((p6 % (20000000000000000000000000 : Int)) - (10000000000000000000000000 : Int)))) fun top7 => R.ok (bottom5, top7)) else (R.ok (bottom2, top3)) : R ((Int × Int))) fun st4 =>
  R.bind (if (decide ((cell1 % (5 : Int)) = (2 : Int))) = true then (R.bind (atR ([(0 : Int), st4.1, (-((1 : Int))), (st4.1 + (1 : Int)), (st4.1 - (1 : Int)), (1 : Int)]) (((cell1 / (5 : Int)) % (6 : Int)))) fun it9 => R.bind (R.ok it9) fun top10 => R.ok top10) else (R.ok st4.2) : R Int) fun st8 =>
  R.bind (l_low st8 st4.1) fun l11 =>
  R.ok l11
def l_due (share1 : Rat) : R Rat :=
  if (decide (share1.num < (0 : Int))) = true then (R.bind (mkQ ((0 : Int)) ((1 : Int))) fun q2 => R.ok q2) else (if (decide (share1.num > (share1.den : Int))) = true then (R.bind (mkQ ((1 : Int)) ((1 : Int))) fun q3 => R.ok q3) else (R.ok share1))
def k25_law (script1 : (List Int)) : R Bool :=
  R.bind (p_clear_film) fun clear2 =>
  R.bind (mkQ ((1 : Int)) ((1 : Int))) fun q3 =>
  R.bind (mkQ ((0 : Int)) ((1 : Int))) fun q4 =>
  R.bind (mkQ ((0 : Int)) ((1 : Int))) fun q5 =>
  R.bind (mkQ ((0 : Int)) ((1 : Int))) fun q6 =>
  R.bind (mkQ ((0 : Int)) ((1 : Int))) fun q7 =>
  R.bind (l_like clear2 ([q3, q4, q5, q6, q7])) fun l8 =>
  if (!l8) = true then (R.ok false) else (R.bind (rngR 0 ((3 : Int))) fun r9 => R.bind (R.compR (fun x10 => R.bind (l_cell script1 x10) fun c11 => R.ok c11) r9) fun c12 => R.bind (catR c12 ((cutL script1 none (some ((60 : Int)))))) fun c13 => R.bind (R.ok c13) fun cells14 => R.bind (rngR 0 ((cells14.length : Int))) fun r15 => R.bind (R.forX (fun (x16 : Int) (s17 : Unit) => (R.bind (atR cells14 x16) fun it18 => R.bind (l_spread it18 x16) fun s19 => R.bind (l_share s19) fun s20 => R.bind (R.ok s20) fun share21 => R.bind (p_cover share21) fun cover22 => R.bind (R.ok cover22) fun found23 => R.bind (l_due share21) fun d24 => R.bind (l_like ([found23]) ([d24])) fun l25 => R.bind (R.orR ((!l25)) (R.bind (p_cover found23) fun cover26 => R.ok ((!decide (cover26 = found23))))) fun b27 => if b27 = true then (R.ok (Sum.inr false)) else (R.ok (Sum.inl (()))) : R (Sum Unit Bool))) r15 (())) fun r28 => R.caseX r28 (fun s29 => R.ok true) (fun b30 => R.ok b30))
end Pg

set_option Elab.async false
set_option linter.all false
namespace Pg

/-! mirrors of the defs of k08, printed by pygen -/
def p_height_over (line1 : (Rat × Rat × Rat)) (point2 : (Rat × Rat)) : R Rat :=
  R.bind (p_times line1.1 point2.1) fun times3 =>
  R.bind (p_times line1.2.1 point2.2) fun times4 =>
  R.bind (p_plus times3 times4) fun plus5 =>
  R.bind (p_minus plus5 line1.2.2) fun minus6 =>
  R.ok minus6
def p_against (line1 : (Rat × Rat × Rat)) : R ((Rat × Rat × Rat)) :=
  R.bind (p_minus ((0 : Rat)) line1.1) fun minus2 =>
  R.bind (p_minus ((0 : Rat)) line1.2.1) fun minus3 =>
  R.bind (p_minus ((0 : Rat)) line1.2.2) fun minus4 =>
  R.ok ((minus2, minus3, minus4))
def l_ratio_3 (top1 : Int) (bottom2 : Int) : R Rat :=
  R.bind (R.ok ((absZ top1))) fun one3 =>
  R.bind (R.ok ((absZ bottom2))) fun most4 =>
  R.bind (gcdR most4 one3) fun g5 =>
  R.bind (if (decide (bottom2 < (0 : Int))) = true then (R.bind (R.ok ((-g5))) fun most7 => R.ok most7) else (R.ok g5) : R Int) fun st6 =>
  R.bind (fdivR top1 st6) fun q8 =>
  R.bind (fdivR bottom2 st6) fun q9 =>
  R.bind (mkQ q8 q9) fun q10 =>
  R.ok q10
def l_plus_2 (one1 : Rat) (other2 : Rat) : R Rat :=
  R.bind (mulR one1.num ((other2.den : Int))) fun p3 =>
  R.bind (mulR other2.num ((one1.den : Int))) fun p4 =>
  R.bind (mulR ((one1.den : Int)) ((other2.den : Int))) fun p5 =>
  R.bind (l_ratio_3 ((p3 + p4)) p5) fun r6 =>
  R.ok r6
def l_minus_2 (one1 : Rat) (other2 : Rat) : R Rat :=
  R.bind (mulR one1.num ((other2.den : Int))) fun p3 =>
  R.bind (mulR other2.num ((one1.den : Int))) fun p4 =>
  R.bind (mulR ((one1.den : Int)) ((other2.den : Int))) fun p5 =>
  R.bind (l_ratio_3 ((p3 - p4)) p5) fun r6 =>
  R.ok r6
def l_times_2 (one1 : Rat) (other2 : Rat) : R Rat :=
  R.bind (mulR one1.num other2.num) fun p3 =>
  R.bind (mulR ((one1.den : Int)) ((other2.den : Int))) fun p4 =>
  R.bind (l_ratio_3 p3 p4) fun r5 =>
  R.ok r5
def l_is_2 (found1 : Rat) (due2 : Rat) : R Bool :=
  R.bind (R.orR ((!true)) (R.bind (R.orR ((!decide ((2 : Int) = (2 : Int)))) (R.bind (l_whole found1.num) fun w3 => R.bind (R.orR ((!w3)) (R.bind (l_whole ((found1.den : Int))) fun w4 => R.ok ((!w4)))) fun b5 => R.ok b5)) fun b6 => R.ok b6)) fun b7 =>
  if b7 = true then (R.ok false) else (R.ok ((decide (found1 = due2))))
def l_number_2 (cell1 : Int) : R Rat :=
  if (decide ((cell1 % (8 : Int)) = (7 : Int))) = true then (R.bind (l_ratio_3 ((((cell1 / (8 : Int)) % (2000000000000 : Int)) - (1000000000000 : Int))) (((1 : Int) + ((cell1 / (8 : Int)) % (7 : Int))))) fun r2 => R.ok r2) else (R.bind (atR ([(4 : Int), (1 : Int), (2 : Int), (4 : Int), (3 : Int), (1 : Int), (6 : Int)]) ((cell1 % (8 : Int)))) fun it3 => R.bind (l_ratio_3 ((((cell1 / (8 : Int)) % (29 : Int)) - (6 : Int))) it3) fun r4 => R.ok r4)
def l_at (script1 : (List Int)) (k2 : Int) : R Rat :=
  R.bind (l_cell script1 k2) fun c3 =>
  R.bind (l_spread c3 k2) fun s4 =>
  R.bind (l_number_2 s4) fun n5 =>
  R.ok n5
def l_line (script1 : (List Int)) (at2 : Int) : R ((Rat × Rat × Rat)) :=
  R.bind (R.ok (([] : (List Rat)))) fun line3 =>
  R.bind (rngR 0 ((3 : Int))) fun r4 =>
  R.bind (R.forR (fun (x5 : Int) (s6 : (List Rat)) => R.bind (l_cell script1 ((at2 + x5))) fun c7 => R.bind (l_spread c7 ((x5 + (40 : Int)))) fun s8 => R.bind (R.ok s8) fun cell9 => R.bind (l_ratio_3 (((cell9 % (9 : Int)) - (4 : Int))) (((1 : Int) + ((cell9 / (9 : Int)) % (3 : Int))))) fun r10 => R.bind (appR s6 r10) fun line11 => R.ok line11) r4 line3) fun s12 =>
  R.bind (l_cell script1 at2) fun c13 =>
  R.bind (if (decide ((c13 % (5 : Int)) < (2 : Int))) = true then (R.bind (mkQ ((0 : Int)) ((1 : Int))) fun q15 => R.bind (l_cell script1 at2) fun c16 => R.bind (setR s12 ((c16 % (5 : Int))) q15) fun line17 => R.ok line17) else (R.ok s12) : R ((List Rat))) fun st14 =>
  R.bind (l_cell script1 ((at2 + (2 : Int)))) fun c18 =>
  R.bind (if (decide ((c18 % (8 : Int)) = (5 : Int))) = true then (R.bind (l_cell script1 ((at2 + (2 : Int)))) fun c20 => R.bind (l_number_2 ((c20 / (8 : Int)))) fun n21 => R.bind (setR st14 ((2 : Int)) n21) fun line22 => R.ok line22) else (R.ok st14) : R ((List Rat))) fun st19 =>
  R.bind (tup3R st19) fun t23 =>
  R.ok t23
def l_over (line1 : (Rat × Rat × Rat)) (point2 : (Rat × Rat)) : R Rat :=
  R.bind (l_times_2 line1.1 point2.1) fun t3 =>
  R.bind (l_times_2 line1.2.1 point2.2) fun t4 =>
  R.bind (l_plus_2 t3 t4) fun p5 =>
  R.bind (l_minus_2 p5 line1.2.2) fun m6 =>
  R.ok m6
def l_turned (one1 : Rat) : R Rat :=
  R.bind (mkQ ((-one1.num)) ((one1.den : Int))) fun q2 =>
  R.ok q2
def k08_law (script1 : (List Int)) : R Bool :=
  R.bind (l_line script1 ((0 : Int))) fun l2 =>
  R.bind (R.ok l2) fun line3 =>
  R.bind (p_against line3) fun agains4 =>
  R.bind (R.ok agains4) fun other5 =>
  if ((!true) || (!decide ((3 : Int) = (3 : Int)))) = true then (R.ok false) else (R.bind (rngR 0 ((3 : Int))) fun r6 => R.bind (R.forX (fun (x7 : Int) (s8 : Unit) => (R.bind (atR ([other5.1, other5.2.1, other5.2.2]) x7) fun it9 => R.bind (atR ([line3.1, line3.2.1, line3.2.2]) x7) fun it10 => R.bind (l_turned it10) fun t11 => R.bind (l_is_2 it9 t11) fun i12 => if (!i12) = true then (R.ok (Sum.inr false)) else (R.ok (Sum.inl (()))) : R (Sum Unit Bool))) r6 (())) fun r13 => R.caseX r13 (fun s14 => R.bind (p_against other5) fun agains16 => if (!decide (agains16 = line3)) = true then (R.ok false) else (R.bind (rngR 0 ((4 : Int))) fun r17 => R.bind (R.forX (fun (x18 : Int) (s19 : Unit) => (R.bind (mulR ((2 : Int)) x18) fun p20 => R.bind (l_at script1 (((3 : Int) + p20))) fun a21 => R.bind (mulR ((2 : Int)) x18) fun p22 => R.bind (l_at script1 (((4 : Int) + p22))) fun a23 => R.bind (R.ok ((a21, a23))) fun point24 => R.bind (l_over line3 point24) fun o25 => R.bind (R.ok o25) fun due26 => R.bind (p_height_over line3 point24) fun height27 => R.bind (l_is_2 height27 due26) fun i28 => R.bind (R.orR ((!i28)) (R.bind (p_height_over other5 point24) fun height29 => R.bind (l_turned due26) fun t30 => R.bind (l_is_2 height29 t30) fun i31 => R.ok ((!i31)))) fun b32 => if b32 = true then (R.ok (Sum.inr false)) else (R.ok (Sum.inl (()))) : R (Sum Unit Bool))) r17 (())) fun r33 => R.caseX r33 (fun s34 => R.ok true) (fun b35 => R.ok b35))) (fun b15 => R.ok b15))
end Pg

set_option Elab.async false
set_option linter.all false
namespace Pg

/-! mirrors of the defs of k10, printed by pygen -/
def p_point_at (one1 : (Rat × Rat)) (other2 : (Rat × Rat)) (share3 : Rat) : R ((Rat × Rat)) :=
  R.bind (p_minus other2.1 one1.1) fun minus4 =>
  R.bind (p_times share3 minus4) fun times5 =>
  R.bind (p_plus one1.1 times5) fun plus6 =>
  R.bind (R.ok plus6) fun across7 =>
  R.bind (p_minus other2.2 one1.2) fun minus8 =>
  R.bind (p_times share3 minus8) fun times9 =>
  R.bind (p_plus one1.2 times9) fun plus10 =>
  R.ok ((across7, plus10))
def p_are_parted (height1 : Rat) (other2 : Rat) : R Bool :=
  R.bind (p_under ((0 : Rat)) height1) fun under3 =>
  if under3 = true then (R.bind (p_under other2 ((0 : Rat))) fun under4 => R.ok under4) else (R.bind (p_under height1 ((0 : Rat))) fun under5 => R.bind (R.andR under5 (R.bind (p_under ((0 : Rat)) other2) fun under6 => R.ok under6)) fun b7 => R.ok b7)
def p_cut (ring1 : (List (Rat × Rat))) (line2 : (Rat × Rat × Rat)) : R ((List (Rat × Rat))) :=
  R.bind (R.compR (fun x3 => R.bind (p_height_over line2 x3) fun height4 => R.ok height4) ring1) fun c5 =>
  R.bind (R.ok c5) fun heights6 =>
  R.bind (R.ok (([] : (List (Rat × Rat))))) fun come7 =>
  R.bind (rngR 0 ((ring1.length : Int))) fun r8 =>
  R.bind (R.forR (fun (x9 : Int) (s10 : (List (Rat × Rat))) => R.bind (fmodR ((x9 + (1 : Int))) ((ring1.length : Int))) fun m11 => R.bind (R.ok m11) fun after12 => R.bind (atR heights6 x9) fun it13 => R.bind (p_under ((0 : Rat)) it13) fun under14 => R.bind (if (!under14) = true then (R.bind (atR ring1 x9) fun it16 => R.bind (appR s10 it16) fun come17 => R.ok come17) else (R.ok s10) : R ((List (Rat × Rat)))) fun st15 => R.bind (atR heights6 x9) fun it18 => R.bind (atR heights6 after12) fun it19 => R.bind (p_are_parted it18 it19) fun are_pa20 => if are_pa20 = true then (R.bind (atR heights6 x9) fun it21 => R.bind (atR heights6 x9) fun it22 => R.bind (atR heights6 after12) fun it23 => R.bind (p_minus it22 it23) fun minus24 => R.bind (p_parted it21 minus24) fun parted25 => R.bind (R.ok parted25) fun share26 => R.bind (atR ring1 x9) fun it27 => R.bind (atR ring1 after12) fun it28 => R.bind (p_point_at it27 it28 share26) fun point29 => R.bind (appR st15 point29) fun come30 => R.ok come30) else (R.ok st15)) r8 come7) fun s31 =>
  R.ok s31
def l_ring_2 (script1 : (List Int)) (at2 : Int) (many3 : Int) : R ((List (Rat × Rat))) :=
  R.bind (R.ok (([] : (List (Rat × Rat))))) fun ring4 =>
  R.bind (rngR 0 many3) fun r5 =>
  R.bind (R.forR (fun (x6 : Int) (s7 : (List (Rat × Rat))) => R.bind (mulR ((2 : Int)) x6) fun p8 => R.bind (l_at script1 ((at2 + p8))) fun a9 => R.bind (mulR ((2 : Int)) x6) fun p10 => R.bind (l_at script1 (((at2 + p10) + (1 : Int)))) fun a11 => R.bind (appR s7 ((a9, a11))) fun ring12 => R.ok ring12) r5 ring4) fun s13 =>
  R.ok s13
def l_points_like (found1 : (List (Rat × Rat))) : R Bool :=
  if (!true) = true then (R.ok false) else (R.bind (R.forX (fun (x2 : (Rat × Rat)) (s3 : Unit) => (if ((!true) || (!decide ((2 : Int) = (2 : Int)))) = true then (R.ok (Sum.inr false)) else (R.bind (l_is_2 x2.1 x2.1) fun i4 => R.bind (R.orR ((!i4)) (R.bind (l_is_2 x2.2 x2.2) fun i5 => R.ok ((!i5)))) fun b6 => if b6 = true then (R.ok (Sum.inr false)) else (R.ok (Sum.inl (())))) : R (Sum Unit Bool))) found1 (())) fun r7 => R.caseX r7 (fun s8 => R.ok true) (fun b9 => R.ok b9))
def l_area (ring1 : (List (Rat × Rat))) : R Rat :=
  R.bind (mkQ ((0 : Int)) ((1 : Int))) fun q2 =>
  R.bind (R.ok q2) fun some3 =>
  R.bind (rngR 0 ((ring1.length : Int))) fun r4 =>
  R.bind (R.forR (fun (x5 : Int) (s6 : Rat) => R.bind (atR ring1 x5) fun it7 => R.bind (R.ok it7) fun one8 => R.bind (fmodR ((x5 + (1 : Int))) ((ring1.length : Int))) fun m9 => R.bind (atR ring1 m9) fun it10 => R.bind (R.ok it10) fun other11 => R.bind (l_times_2 one8.1 other11.2) fun t12 => R.bind (l_times_2 other11.1 one8.2) fun t13 => R.bind (l_minus_2 t12 t13) fun m14 => R.bind (l_plus_2 s6 m14) fun p15 => R.bind (R.ok p15) fun some16 => R.ok some16) r4 some3) fun s17 =>
  R.bind (mkQ ((1 : Int)) ((2 : Int))) fun q18 =>
  R.bind (l_times_2 s17 q18) fun t19 =>
  R.ok t19
def k10_law (script1 : (List Int)) : R Bool :=
  R.bind (l_line script1 ((0 : Int))) fun l2 =>
  R.bind (R.ok l2) fun line3 =>
  R.bind (mkQ ((0 : Int)) ((1 : Int))) fun q4 =>
  R.bind (R.andR ((decide (line3.1 = q4))) (R.bind (mkQ ((0 : Int)) ((1 : Int))) fun q5 => R.ok ((decide (line3.2.1 = q5))))) fun b6 =>
  R.bind (if b6 = true then (R.bind (mkQ ((1 : Int)) ((1 : Int))) fun q8 => R.bind (l_cell script1 ((1 : Int))) fun c9 => R.bind (mkQ (((c9 % (3 : Int)) - (1 : Int))) ((1 : Int))) fun q10 => R.bind (R.ok ((q8, q10, line3.2.2))) fun line11 => R.ok line11) else (R.ok line3) : R ((Rat × Rat × Rat))) fun st7 =>
  R.bind (l_cell script1 ((3 : Int))) fun c12 =>
  R.bind (R.ok ((c12 % (9 : Int)))) fun many13 =>
  R.bind (l_cell script1 ((3 : Int))) fun c14 =>
  R.bind (if (decide (((c14 / (9 : Int)) % (8 : Int)) = (3 : Int))) = true then (R.bind (l_cell script1 ((3 : Int))) fun c16 => R.bind (R.ok (((9 : Int) + ((c16 / (72 : Int)) % (8 : Int))))) fun many17 => R.ok many17) else (R.ok many13) : R Int) fun st15 =>
  R.bind (l_ring_2 script1 ((5 : Int)) st15) fun r18 =>
  R.bind (R.ok r18) fun ring19 =>
  R.bind (R.andR ((decide (st15 > (0 : Int)))) (R.bind (l_cell script1 ((4 : Int))) fun c20 => R.ok ((decide ((c20 % (2 : Int)) = (0 : Int)))))) fun b21 =>
  R.bind (if b21 = true then (R.bind (l_cell script1 ((4 : Int))) fun c23 => R.bind (fmodR ((c23 / (2 : Int))) st15) fun m24 => R.bind (atR ring19 m24) fun it25 => R.bind (R.ok it25) fun point26 => R.bind (mkQ ((0 : Int)) ((1 : Int))) fun q27 => R.bind (l_over ((st7.1, st7.2.1, q27)) point26) fun o28 => R.bind (R.ok ((st7.1, st7.2.1, o28))) fun line29 => R.ok line29) else (R.ok st7) : R ((Rat × Rat × Rat))) fun st22 =>
  R.bind (p_cut ring19 st22) fun cut30 =>
  R.bind (R.ok cut30) fun one31 =>
  R.bind (p_against st22) fun agains32 =>
  R.bind (p_cut ring19 agains32) fun cut33 =>
  R.bind (R.ok cut33) fun other34 =>
  R.bind (l_points_like one31) fun p35 =>
  R.bind (R.orR ((!p35)) (R.bind (l_points_like other34) fun p36 => R.ok ((!p36)))) fun b37 =>
  if b37 = true then (R.ok false) else (R.bind (R.forX (fun (x38 : (Rat × Rat)) (s39 : Unit) => (R.bind (l_over st22 x38) fun o40 => if (decide (o40.num > (0 : Int))) = true then (R.ok (Sum.inr false)) else (R.ok (Sum.inl (()))) : R (Sum Unit Bool))) one31 (())) fun r41 => R.caseX r41 (fun s42 => R.bind (R.forX (fun (x44 : (Rat × Rat)) (s45 : Unit) => (R.bind (l_over st22 x44) fun o46 => if (decide (o46.num < (0 : Int))) = true then (R.ok (Sum.inr false)) else (R.ok (Sum.inl (()))) : R (Sum Unit Bool))) other34 (())) fun r47 => R.caseX r47 (fun s48 => R.bind (l_area one31) fun a50 => R.bind (l_area other34) fun a51 => R.bind (l_plus_2 a50 a51) fun p52 => R.bind (l_area ring19) fun a53 => R.ok ((decide (p52 = a53)))) (fun b49 => R.ok b49)) (fun b43 => R.ok b43))
end Pg

set_option Elab.async false
set_option linter.all false
namespace Pg

/-! mirrors of the defs of k14, printed by pygen -/
def p_middle (one1 : Rat) (other2 : Rat) : R Rat :=
  R.bind (p_plus one1 other2) fun plus3 =>
  R.bind (p_times plus3 ((1 / 2 : Rat))) fun times4 =>
  R.ok times4
def p_fall (piece1 : (Int × Int × (Rat × Rat) × (Rat × Rat))) : R Rat :=
  R.bind (p_minus piece1.2.2.1.2 piece1.2.2.2.2) fun minus2 =>
  R.ok minus2
def p_right (piece1 : (Int × Int × (Rat × Rat) × (Rat × Rat))) : R Rat :=
  if (decide (piece1.1 < (0 : Int))) = true then (R.ok ((0 : Rat))) else (R.bind (p_fall piece1) fun fall2 => R.bind (mkQ ((piece1.1 + (1 : Int))) ((1 : Int))) fun q3 => R.bind (p_middle piece1.2.2.1.1 piece1.2.2.2.1) fun middle4 => R.bind (p_minus q3 middle4) fun minus5 => R.bind (p_times fall2 minus5) fun times6 => R.ok times6)
def l_part_3 (cell1 : Int) (less2 : Int) : R Rat :=
  R.bind (R.ok (((1 : Int) + ((cell1 / (2 : Int)) % (9 : Int))))) fun bottom3 =>
  R.bind (if (decide ((cell1 % (2 : Int)) = (1 : Int))) = true then (R.bind (R.ok (((1 : Int) + ((cell1 / (2 : Int)) % (1000000000 : Int))))) fun bottom5 => R.ok bottom5) else (R.ok bottom3) : R Int) fun st4 =>
  R.bind (fmodR ((cell1 / (7 : Int))) ((st4 + less2))) fun m6 =>
  R.bind (l_ratio_3 m6 st4) fun r7 =>
  R.ok r7
def l_point (script1 : (List Int)) (at2 : Int) (column3 : Int) (row4 : Int) (less5 : Int) : R ((Rat × Rat)) :=
  R.bind (l_cell script1 at2) fun c6 =>
  R.bind (l_spread c6 at2) fun s7 =>
  R.bind (l_part_3 s7 less5) fun p8 =>
  R.bind (R.ok p8) fun x9 =>
  R.bind (mkQ row4 ((1 : Int))) fun q10 =>
  R.bind (l_cell script1 ((at2 + (1 : Int)))) fun c11 =>
  R.bind (l_spread c11 ((at2 + (1 : Int)))) fun s12 =>
  R.bind (l_part_3 s12 less5) fun p13 =>
  R.bind (l_plus_2 q10 p13) fun p14 =>
  R.bind (R.ok p14) fun y15 =>
  if (decide (column3 < (0 : Int))) = true then (R.bind (l_cell script1 at2) fun c16 => R.bind (mulR x9.num (((1 : Int) + (c16 % (3 : Int))))) fun p17 => R.bind (mkQ (((less5 - (1 : Int)) - p17)) ((1 : Int))) fun q18 => R.ok ((q18, y15))) else (R.bind (mkQ column3 ((1 : Int))) fun q19 => R.bind (l_plus_2 q19 x9) fun p20 => R.ok ((p20, y15)))
def k14_law (script1 : (List Int)) : R Bool :=
  R.bind (rngR 0 ((6 : Int))) fun r2 =>
  R.bind (R.forX (fun (x3 : Int) (s4 : Unit) => (R.bind (mulR ((5 : Int)) x3) fun p5 => R.bind (l_cell script1 p5) fun c6 => R.bind (l_spread c6 x3) fun s7 => R.bind (R.ok s7) fun cell8 => R.bind (R.ok (((cell8 % (13 : Int)) - (1 : Int)))) fun column9 => R.bind (R.ok (((cell8 / (13 : Int)) % (12 : Int)))) fun row10 => R.bind (mulR ((5 : Int)) x3) fun p11 => R.bind (l_point script1 ((p11 + (1 : Int))) column9 row10 ((0 : Int))) fun p12 => R.bind (R.ok p12) fun one13 => R.bind (mulR ((5 : Int)) x3) fun p14 => R.bind (l_point script1 ((p14 + (3 : Int))) column9 row10 ((1 : Int))) fun p15 => R.bind (R.ok p15) fun other16 => R.bind (if (decide (one13 = other16)) = true then (R.bind (mkQ ((row10 + (1 : Int))) ((1 : Int))) fun q18 => R.bind (R.ok ((one13.1, q18))) fun other19 => R.ok other19) else (R.ok other16) : R ((Rat × Rat))) fun st17 => R.bind (if (decide (((cell8 / (156 : Int)) % (2 : Int)) = (1 : Int))) = true then (R.bind (R.ok st17) fun one21 => R.bind (R.ok one13) fun other22 => R.ok (one21, other22)) else (R.ok (one13, st17)) : R (((Rat × Rat) × (Rat × Rat)))) fun st20 => R.bind (R.ok ((column9, row10, st20.1, st20.2))) fun piece23 => R.bind (l_minus_2 st20.1.2 st20.2.2) fun m24 => R.bind (R.ok m24) fun down25 => R.bind (mkQ ((0 : Int)) ((1 : Int))) fun q26 => R.bind (R.ok q26) fun due27 => R.bind (if (decide (column9 ≥ (0 : Int))) = true then (R.bind (l_plus_2 st20.1.1 st20.2.1) fun p29 => R.bind (mkQ ((1 : Int)) ((2 : Int))) fun q30 => R.bind (l_times_2 p29 q30) fun t31 => R.bind (R.ok t31) fun half32 => R.bind (mkQ ((column9 + (1 : Int))) ((1 : Int))) fun q33 => R.bind (l_minus_2 q33 half32) fun m34 => R.bind (l_times_2 down25 m34) fun t35 => R.bind (R.ok t35) fun due36 => R.ok due36) else (R.ok due27) : R Rat) fun st28 => R.bind (p_fall piece23) fun fall37 => R.bind (l_is_2 fall37 down25) fun i38 => R.bind (R.orR ((!i38)) (R.bind (p_right piece23) fun right39 => R.bind (l_is_2 right39 st28) fun i40 => R.ok ((!i40)))) fun b41 => if b41 = true then (R.ok (Sum.inr false)) else (R.ok (Sum.inl (()))) : R (Sum Unit Bool))) r2 (())) fun r42 =>
  R.caseX r42 (fun s43 => R.ok true) (fun b44 => R.ok b44)
end Pg

set_option Elab.async false
set_option linter.all false
namespace Pg

/-! mirrors of the defs of k12, printed by pygen -/
def p_shares_between (one1 : Rat) (other2 : Rat) (most3 : Int) : R ((List Rat)) :=
  R.bind (R.ok (([] : (List Rat)))) fun come4 =>
  R.bind (if (!decide (one1 = other2)) = true then (R.bind (rngR 0 ((most3 + (1 : Int)))) fun r6 => R.bind (R.forR (fun (x7 : Int) (s8 : (List Rat)) => R.bind (mkQ x7 ((1 : Int))) fun q9 => R.bind (p_minus q9 one1) fun minus10 => R.bind (p_minus other2 one1) fun minus11 => R.bind (p_parted minus10 minus11) fun parted12 => R.bind (R.ok parted12) fun share13 => R.bind (p_under ((0 : Rat)) share13) fun under14 => R.bind (R.andR under14 (R.bind (mkQ ((1 : Int)) ((1 : Int))) fun q15 => R.bind (p_under share13 q15) fun under16 => R.ok under16)) fun b17 => if b17 = true then (R.bind (appR s8 share13) fun come18 => R.ok come18) else (R.ok s8)) r6 come4) fun s19 => R.ok s19) else (R.ok come4) : R ((List Rat))) fun st5 =>
  R.ok st5
def p_put_in (row1 : (List Rat)) (share2 : Rat) : R ((List Rat)) :=
  R.bind (rngR 0 ((row1.length : Int))) fun r3 =>
  R.bind (R.forX (fun (x4 : Int) (s5 : Unit) => (R.bind (atR row1 x4) fun it6 => if (decide (it6 = share2)) = true then (R.ok (Sum.inr row1)) else (R.bind (atR row1 x4) fun it7 => R.bind (p_under share2 it7) fun under8 => if under8 = true then (R.bind (catR ((cutL row1 none (some x4))) ([share2])) fun c9 => R.bind (catR c9 ((cutL row1 (some x4) none))) fun c10 => R.ok (Sum.inr c10)) else (R.ok (Sum.inl (())))) : R (Sum Unit ((List Rat))))) r3 (())) fun r11 =>
  R.caseX r11 (fun s12 => R.bind (catR row1 ([share2])) fun c14 => R.ok c14) (fun b13 => R.ok b13)
def p_points_on (width1 : Int) (height2 : Int) (side3 : ((Rat × Rat) × (Rat × Rat))) : R ((List (Rat × Rat))) :=
  R.bind (R.ok side3) fun t4 =>
  R.bind (R.ok (([] : (List Rat)))) fun row5 =>
  R.bind (p_shares_between t4.1.1 t4.2.1 width1) fun shares6 =>
  R.bind (p_shares_between t4.1.2 t4.2.2 height2) fun shares7 =>
  R.bind (catR shares6 shares7) fun c8 =>
  R.bind (R.forR (fun (x9 : Rat) (s10 : (List Rat)) => R.bind (p_put_in s10 x9) fun put_in11 => R.bind (R.ok put_in11) fun row12 => R.ok row12) c8 row5) fun s13 =>
  R.bind (R.compR (fun x14 => R.bind (p_point_at t4.1 t4.2 x14) fun point15 => R.ok point15) s13) fun c16 =>
  R.bind (catR ([t4.1]) c16) fun c17 =>
  R.bind (catR c17 ([t4.2])) fun c18 =>
  R.ok c18
def p_pieces (width1 : Int) (height2 : Int) (side3 : ((Rat × Rat) × (Rat × Rat))) : R ((List (Int × Int × (Rat × Rat) × (Rat × Rat)))) :=
  R.bind (R.ok (([] : (List (Int × Int × (Rat × Rat) × (Rat × Rat)))))) fun come4 =>
  if (decide (side3.1 = side3.2)) = true then (R.ok come4) else (R.bind (p_points_on width1 height2 side3) fun points5 => R.bind (R.ok points5) fun points6 => R.bind (rngR 0 (((points6.length : Int) - (1 : Int)))) fun r7 => R.bind (R.forR (fun (x8 : Int) (s9 : (List (Int × Int × (Rat × Rat) × (Rat × Rat)))) => R.bind (atR points6 x8) fun it10 => R.bind (R.ok it10) fun one11 => R.bind (atR points6 ((x8 + (1 : Int)))) fun it12 => R.bind (R.ok it12) fun other13 => R.bind (p_middle one11.1 other13.1) fun middle14 => R.bind (p_whole_part middle14) fun whole15 => R.bind (R.ok whole15) fun column16 => R.bind (p_middle one11.2 other13.2) fun middle17 => R.bind (p_whole_part middle17) fun whole18 => R.bind (R.ok whole18) fun row19 => if ((decide ((0 : Int) ≤ row19) && decide (row19 < height2)) && (decide (column16 < width1))) = true then (R.bind (appR s9 (((maxZ column16 ((-((1 : Int))))), row19, one11, other13))) fun come20 => R.ok come20) else (R.ok s9)) r7 come4) fun s21 => R.ok s21)
def l_floor (cell1 : Int) : R ((Int × Int)) :=
  if (decide ((cell1 % (8 : Int)) = (6 : Int))) = true then (R.ok ((((1 : Int) + ((cell1 / (8 : Int)) % (12 : Int))), ((1 : Int) + ((cell1 / (96 : Int)) % (12 : Int)))))) else (R.ok ((((1 : Int) + ((cell1 / (8 : Int)) % (4 : Int))), ((1 : Int) + ((cell1 / (32 : Int)) % (4 : Int))))))
def l_side (script1 : (List Int)) (at2 : Int) (cell3 : Int) : R (((Rat × Rat) × (Rat × Rat))) :=
  R.bind (l_at script1 at2) fun a4 =>
  R.bind (l_at script1 ((at2 + (1 : Int)))) fun a5 =>
  R.bind (R.ok ((a4, a5))) fun one6 =>
  R.bind (l_at script1 ((at2 + (2 : Int)))) fun a7 =>
  R.bind (l_at script1 ((at2 + (3 : Int)))) fun a8 =>
  R.bind (R.ok ((a7, a8))) fun other9 =>
  R.bind (if (decide ((cell3 % (12 : Int)) = (0 : Int))) = true then (R.bind (R.ok ((one6.1, other9.2))) fun other11 => R.ok other11) else (R.ok other9) : R ((Rat × Rat))) fun st10 =>
  R.bind (if (decide ((cell3 % (12 : Int)) = (1 : Int))) = true then (R.bind (R.ok ((st10.1, one6.2))) fun other13 => R.ok other13) else (R.ok st10) : R ((Rat × Rat))) fun st12 =>
  R.bind (if ((decide ((cell3 % (12 : Int)) < (4 : Int))) && (decide ((cell3 % (12 : Int)) > (1 : Int)))) = true then (R.bind (R.ok one6) fun other15 => R.ok other15) else (R.ok st12) : R ((Rat × Rat))) fun st14 =>
  R.ok ((one6, st14))
def l_way (one1 : (Rat × Rat)) (other2 : (Rat × Rat)) : R ((Rat × Rat)) :=
  R.bind (l_minus_2 other2.1 one1.1) fun m3 =>
  R.bind (l_minus_2 other2.2 one1.2) fun m4 =>
  R.ok ((m3, m4))
def l_along (way1 : (Rat × Rat)) (whole2 : (Rat × Rat)) : R Bool :=
  R.bind (l_times_2 way1.1 whole2.2) fun t3 =>
  R.bind (l_times_2 way1.2 whole2.1) fun t4 =>
  R.bind (l_minus_2 t3 t4) fun m5 =>
  R.bind (R.ok m5) fun side6 =>
  R.bind (l_times_2 way1.1 whole2.1) fun t7 =>
  R.bind (l_times_2 way1.2 whole2.2) fun t8 =>
  R.bind (l_plus_2 t7 t8) fun p9 =>
  R.bind (R.ok p9) fun ahead10 =>
  R.ok (((decide (side6.num = (0 : Int))) && (decide (ahead10.num ≥ (0 : Int)))))
def l_spot (one1 : Rat) (other2 : Rat) : R Int :=
  R.bind (l_plus_2 one1 other2) fun p3 =>
  R.bind (R.ok p3) fun come4 =>
  R.bind (mulR ((2 : Int)) ((come4.den : Int))) fun p5 =>
  R.bind (fdivR come4.num p5) fun q6 =>
  R.ok q6
def l_in_cell (numbers1 : (List Rat)) (spot2 : Int) : R Bool :=
  R.bind (R.forX (fun (x3 : Rat) (s4 : Unit) => (R.bind (mkQ ((spot2 + (1 : Int))) ((1 : Int))) fun q5 => R.bind (l_minus_2 x3 q5) fun m6 => R.bind (R.orR ((decide (m6.num > (0 : Int)))) (R.bind (R.andR ((decide (spot2 ≥ (0 : Int)))) (R.bind (mkQ spot2 ((1 : Int))) fun q7 => R.bind (l_minus_2 x3 q7) fun m8 => R.ok ((decide (m8.num < (0 : Int)))))) fun b9 => R.ok b9)) fun b10 => if b10 = true then (R.ok (Sum.inr false)) else (R.ok (Sum.inl (()))) : R (Sum Unit Bool))) numbers1 (())) fun r11 =>
  R.caseX r11 (fun s12 => R.ok true) (fun b13 => R.ok b13)
def l_piece_good (piece1 : (Int × Int × (Rat × Rat) × (Rat × Rat))) (floor2 : (Int × Int)) (whole3 : (Rat × Rat)) : R Bool :=
  R.bind (R.orR ((!true)) (R.bind (R.orR ((!decide ((4 : Int) = (4 : Int)))) (R.bind (l_whole piece1.1) fun w4 => R.bind (R.orR ((!w4)) (R.bind (l_whole piece1.2.1) fun w5 => R.ok ((!w5)))) fun b6 => R.ok b6)) fun b7 => R.ok b7)) fun b8 =>
  if b8 = true then (R.ok false) else (R.bind (R.ok piece1) fun t9 => R.bind (catR [t9.2.2.1.1, t9.2.2.1.2] [t9.2.2.2.1, t9.2.2.2.2]) fun c10 => R.bind (R.forX (fun (x11 : Rat) (s12 : Unit) => (R.bind (l_is_2 x11 x11) fun i13 => if (!i13) = true then (R.ok (Sum.inr false)) else (R.ok (Sum.inl (()))) : R (Sum Unit Bool))) c10 (())) fun r14 => R.caseX r14 (fun s15 => if ((decide (t9.1 < (-((1 : Int))))) || ((decide (t9.1 ≥ floor2.1)) || ((decide (t9.2.1 < (0 : Int))) || ((decide (t9.2.1 ≥ floor2.2)) || (decide (t9.2.2.1 = t9.2.2.2)))))) = true then (R.ok false) else (R.bind (l_spot t9.2.2.1.1 t9.2.2.2.1) fun s17 => R.bind (R.orR ((!decide ((maxZ ((-((1 : Int)))) s17) = t9.1))) (R.bind (l_spot t9.2.2.1.2 t9.2.2.2.2) fun s18 => R.ok ((!decide (s18 = t9.2.1))))) fun b19 => if b19 = true then (R.ok false) else (R.bind (l_in_cell ([t9.2.2.1.1, t9.2.2.2.1]) t9.1) fun i20 => R.bind (R.orR ((!i20)) (R.bind (l_in_cell ([t9.2.2.1.2, t9.2.2.2.2]) t9.2.1) fun i21 => R.ok ((!i21)))) fun b22 => if b22 = true then (R.ok false) else (R.bind (l_way t9.2.2.1 t9.2.2.2) fun w23 => R.bind (l_along w23 whole3) fun a24 => R.ok a24)))) (fun b16 => R.ok b16))
def l_rim (point1 : (Rat × Rat)) (beyond2 : (Rat × Rat)) (floor3 : (Int × Int)) : R Bool :=
  if (decide (point1 = beyond2)) = true then (R.ok true) else (R.bind (mkQ ((0 : Int)) ((1 : Int))) fun q4 => R.bind (R.orR (((decide (point1.2 = q4)) && (decide (beyond2.2.num < (0 : Int))))) (R.bind (mkQ floor3.1 ((1 : Int))) fun q5 => R.bind (R.andR ((decide (point1.1 = q5))) (R.bind (mulR floor3.1 ((beyond2.1.den : Int))) fun p6 => R.ok ((decide (beyond2.1.num > p6))))) fun b7 => R.ok b7)) fun b8 => if b8 = true then (R.ok true) else (R.bind (mkQ floor3.2 ((1 : Int))) fun q9 => R.bind (R.andR ((decide (point1.2 = q9))) (R.bind (mulR floor3.2 ((beyond2.2.den : Int))) fun p10 => R.ok ((decide (beyond2.2.num > p10))))) fun b11 => R.ok b11))
def l_good_3 (found1 : (List (Int × Int × (Rat × Rat) × (Rat × Rat)))) (floor2 : (Int × Int)) (side3 : ((Rat × Rat) × (Rat × Rat))) : R Bool :=
  if (!true) = true then (R.ok false) else (if ((decide (side3.1 = side3.2)) || (decide ((found1.length : Int) = (0 : Int)))) = true then (R.ok ((decide ((found1.length : Int) = (0 : Int))))) else (R.bind (l_way side3.1 side3.2) fun w4 => R.bind (R.ok w4) fun whole5 => R.bind (atR found1 ((0 : Int))) fun it6 => R.bind (R.ok it6.2.2.1) fun at7 => R.bind (R.forX (fun (x8 : (Int × Int × (Rat × Rat) × (Rat × Rat))) (s9 : (Rat × Rat)) => (R.bind (l_piece_good x8 floor2 whole5) fun p10 => if ((!p10) || (!decide (x8.2.2.1 = s9))) = true then (R.ok (Sum.inr false)) else (R.bind (R.ok x8.2.2.2) fun at11 => R.ok (Sum.inl at11)) : R (Sum ((Rat × Rat)) Bool))) found1 at7) fun r12 => R.caseX r12 (fun s13 => R.bind (atR found1 ((0 : Int))) fun it15 => R.bind (l_way side3.1 it15.2.2.1) fun w16 => R.bind (l_along w16 whole5) fun a17 => R.bind (R.orR ((!a17)) (R.bind (l_way s13 side3.2) fun w18 => R.bind (l_along w18 whole5) fun a19 => R.ok ((!a19)))) fun b20 => if b20 = true then (R.ok false) else (R.bind (atR found1 ((0 : Int))) fun it21 => R.bind (l_rim it21.2.2.1 side3.1 floor2) fun r22 => R.bind (R.andR r22 (R.bind (l_rim s13 side3.2 floor2) fun r23 => R.ok r23)) fun b24 => R.ok b24)) (fun b14 => R.ok b14)))
def k12_law (script1 : (List Int)) : R Bool :=
  R.bind (l_cell script1 ((0 : Int))) fun c2 =>
  R.bind (l_floor c2) fun f3 =>
  R.bind (R.ok f3) fun floor4 =>
  R.bind (rngR 0 ((3 : Int))) fun r5 =>
  R.bind (R.forX (fun (x6 : Int) (s7 : Unit) => (R.bind (mulR ((4 : Int)) x6) fun p8 => R.bind (l_cell script1 ((1 : Int))) fun c9 => R.bind (atR ([(1 : Int), (12 : Int), (144 : Int)]) x6) fun it10 => R.bind (fdivR c9 it10) fun q11 => R.bind (l_side script1 (((2 : Int) + p8)) q11) fun s12 => R.bind (R.ok s12) fun side13 => R.bind (p_pieces floor4.1 floor4.2 side13) fun pieces14 => R.bind (R.ok pieces14) fun found15 => R.bind (l_good_3 found15 floor4 side13) fun g16 => if (!g16) = true then (R.ok (Sum.inr false)) else (R.bind (R.ok found15) fun again17 => R.bind (roomR found15) fun u18 => R.bind (p_pieces floor4.1 floor4.2 side13) fun pieces19 => if (!decide (pieces19 = again17)) = true then (R.ok (Sum.inr false)) else (R.ok (Sum.inl (())))) : R (Sum Unit Bool))) r5 (())) fun r20 =>
  R.caseX r20 (fun s21 => R.ok true) (fun b22 => R.ok b22)
end Pg

set_option Elab.async false
set_option linter.all false
namespace Pg

/-! mirrors of the defs of k13, printed by pygen -/
def l_side_2 (script1 : (List Int)) (at2 : Int) (cell3 : Int) : R (((Rat × Rat) × (Rat × Rat))) :=
  R.bind (l_at script1 at2) fun a4 =>
  R.bind (l_at script1 ((at2 + (1 : Int)))) fun a5 =>
  R.bind (R.ok ((a4, a5))) fun one6 =>
  R.bind (l_at script1 ((at2 + (2 : Int)))) fun a7 =>
  R.bind (l_at script1 ((at2 + (3 : Int)))) fun a8 =>
  R.bind (R.ok ((a7, a8))) fun other9 =>
  R.bind (if (decide ((cell3 % (12 : Int)) = (0 : Int))) = true then (R.bind (R.ok ((one6.1, other9.2))) fun other11 => R.ok other11) else (R.ok other9) : R ((Rat × Rat))) fun st10 =>
  R.bind (if (decide ((cell3 % (12 : Int)) = (1 : Int))) = true then (R.bind (R.ok ((st10.1, one6.2))) fun other13 => R.ok other13) else (R.ok st10) : R ((Rat × Rat))) fun st12 =>
  R.bind (if ((decide ((cell3 % (12 : Int)) < (4 : Int))) && (decide ((cell3 % (12 : Int)) > (1 : Int)))) = true then (R.bind (R.ok one6) fun other15 => R.ok other15) else (R.ok st12) : R ((Rat × Rat))) fun st14 =>
  R.bind (if (decide ((cell3 % (12 : Int)) > (8 : Int))) = true then (R.bind (fdivR one6.1.num ((one6.1.den : Int))) fun q17 => R.bind (mkQ q17 ((1 : Int))) fun q18 => R.bind (fdivR one6.2.num ((one6.2.den : Int))) fun q19 => R.bind (mkQ q19 ((1 : Int))) fun q20 => R.bind (R.ok ((q18, q20))) fun one21 => R.bind (fdivR st14.1.num ((st14.1.den : Int))) fun q22 => R.bind (mkQ q22 ((1 : Int))) fun q23 => R.bind (fdivR st14.2.num ((st14.2.den : Int))) fun q24 => R.bind (mkQ q24 ((1 : Int))) fun q25 => R.bind (R.ok ((q23, q25))) fun other26 => R.ok (one21, other26)) else (R.ok (one6, st14)) : R (((Rat × Rat) × (Rat × Rat)))) fun st16 =>
  R.ok ((st16.1, st16.2))
def l_scaled_2 (side1 : ((Rat × Rat) × (Rat × Rat))) : R ((Int × (List Int) × (List Int))) :=
  R.bind (mulR ((side1.1.1.den : Int)) ((side1.1.2.den : Int))) fun p2 =>
  R.bind (mulR p2 ((side1.2.1.den : Int))) fun p3 =>
  R.bind (mulR p3 ((side1.2.2.den : Int))) fun p4 =>
  R.bind (R.ok p4) fun bottom5 =>
  R.bind (R.compR (fun x6 => R.bind (mulR x6.num bottom5) fun p7 => R.bind (fdivR p7 ((x6.den : Int))) fun q8 => R.ok q8) ([side1.1.1, side1.1.2])) fun c9 =>
  R.bind (R.ok c9) fun one10 =>
  R.bind (R.compR (fun x11 => R.bind (mulR x11.num bottom5) fun p12 => R.bind (fdivR p12 ((x11.den : Int))) fun q13 => R.ok q13) ([side1.2.1, side1.2.2])) fun c14 =>
  R.bind (R.ok c14) fun other15 =>
  R.ok ((bottom5, one10, other15))
def l_steps (bottom1 : Int) (one2 : (List Int)) (other3 : (List Int)) (floor4 : (Int × Int)) : R ((Int × (List Int))) :=
  R.bind (atR other3 ((0 : Int))) fun it5 =>
  R.bind (atR one2 ((0 : Int))) fun it6 =>
  R.bind (atR other3 ((1 : Int))) fun it7 =>
  R.bind (atR one2 ((1 : Int))) fun it8 =>
  R.bind (R.ok ([(it5 - it6), (it7 - it8)])) fun ways9 =>
  R.bind (atR ways9 ((0 : Int))) fun it10 =>
  R.bind (atR ways9 ((1 : Int))) fun it11 =>
  R.bind (mulR ((maxZ ((1 : Int)) ((absZ it10)))) ((maxZ ((1 : Int)) ((absZ it11))))) fun p12 =>
  R.bind (R.ok p12) fun whole13 =>
  R.bind (R.ok ((putA (putA ([] : (List (Int × Bool))) ((0 : Int)) true) whole13 true))) fun steps14 =>
  R.bind (rngR 0 ((2 : Int))) fun r15 =>
  R.bind (R.forR (fun (x16 : Int) (s17 : (List (Int × Bool))) => R.bind (atR ([floor4.1, floor4.2]) x16) fun it18 => R.bind (rngR 0 ((it18 + (1 : Int)))) fun r19 => R.bind (R.forR (fun (x20 : Int) (s21 : (List (Int × Bool))) => R.bind (atR ways9 x16) fun it22 => if (!decide (it22 = (0 : Int))) = true then (R.bind (mulR x20 bottom1) fun p23 => R.bind (atR one2 x16) fun it24 => R.bind (atR ways9 x16) fun it25 => R.bind (fdivR whole13 it25) fun q26 => R.bind (mulR ((p23 - it24)) q26) fun p27 => R.bind (R.ok p27) fun step28 => if (decide ((0 : Int) < step28) && decide (step28 < whole13)) = true then (R.bind (putR s21 step28 true) fun steps29 => R.ok steps29) else (R.ok s21)) else (R.ok s21)) r19 s17) fun s30 => R.ok s30) r15 steps14) fun s31 =>
  R.bind (sortR (s31.map (·.1))) fun sorted32 =>
  R.ok ((whole13, sorted32))
def l_due_5 (side1 : ((Rat × Rat) × (Rat × Rat))) (floor2 : (Int × Int)) : R ((List (Int × Int × (Rat × Rat) × (Rat × Rat)))) :=
  if (decide (side1.1 = side1.2)) = true then (R.ok (([] : (List (Int × Int × (Rat × Rat) × (Rat × Rat)))))) else (R.bind (l_scaled_2 side1) fun s3 => R.bind (R.ok s3) fun t4 => R.bind (l_steps t4.1 t4.2.1 t4.2.2 floor2) fun s5 => R.bind (R.ok s5) fun t6 => R.bind (R.ok (([] : (List (Int × Int × (Rat × Rat) × (Rat × Rat)))))) fun due7 => R.bind (rngR 0 (((t6.2.length : Int) - (1 : Int)))) fun r8 => R.bind (R.forR (fun (x9 : Int) (s10 : (List (Int × Int × (Rat × Rat) × (Rat × Rat)))) => R.bind (R.ok (([] : (List Int)))) fun spots11 => R.bind (R.ok (([([] : (List Rat)), ([] : (List Rat))] : (List (List Rat))))) fun ends12 => R.bind (rngR 0 ((2 : Int))) fun r13 => R.bind (R.forR (fun (x14 : Int) (s15 : ((List (List Rat)) × (List Int))) => R.bind (atR t4.2.2 x14) fun it16 => R.bind (atR t4.2.1 x14) fun it17 => R.bind (R.ok ((it16 - it17))) fun way18 => R.bind (atR t4.2.1 x14) fun it19 => R.bind (mulR it19 t6.1) fun p20 => R.bind (atR t6.2 x9) fun it21 => R.bind (mulR way18 it21) fun p22 => R.bind (R.ok ((p20 + p22))) fun first23 => R.bind (atR t4.2.1 x14) fun it24 => R.bind (mulR it24 t6.1) fun p25 => R.bind (atR t6.2 ((x9 + (1 : Int)))) fun it26 => R.bind (mulR way18 it26) fun p27 => R.bind (R.ok ((p25 + p27))) fun last28 => R.bind (mulR ((2 : Int)) t4.1) fun p29 => R.bind (mulR p29 t6.1) fun p30 => R.bind (fdivR ((first23 + last28)) p30) fun q31 => R.bind (appR s15.2 q31) fun spots32 => R.bind (mulR t4.1 t6.1) fun p33 => R.bind (l_ratio_3 first23 p33) fun r34 => R.bind (app2R s15.1 ((0 : Int)) r34) fun ends35 => R.bind (mulR t4.1 t6.1) fun p36 => R.bind (l_ratio_3 last28 p36) fun r37 => R.bind (app2R ends35 ((1 : Int)) r37) fun ends38 => R.ok ((ends38, spots32))) r13 ((ends12, spots11))) fun s39 => R.bind (atR s39.2 ((1 : Int))) fun it40 => R.bind (R.andR ((decide ((0 : Int) ≤ it40) && decide (it40 < floor2.2))) (R.bind (atR s39.2 ((0 : Int))) fun it41 => R.ok ((decide (it41 < floor2.1))))) fun b42 => if b42 = true then (R.bind (atR s39.2 ((0 : Int))) fun it43 => R.bind (atR s39.2 ((1 : Int))) fun it44 => R.bind (atR s39.1 ((0 : Int))) fun it45 => R.bind (tup2R it45) fun t46 => R.bind (atR s39.1 ((1 : Int))) fun it47 => R.bind (tup2R it47) fun t48 => R.bind (appR s10 (((maxZ ((-((1 : Int)))) it43), it44, t46, t48))) fun due49 => R.ok due49) else (R.ok s10)) r8 due7) fun s50 => R.ok s50)
def k13_law (script1 : (List Int)) : R Bool :=
  R.bind (l_cell script1 ((0 : Int))) fun c2 =>
  R.bind (l_floor c2) fun f3 =>
  R.bind (R.ok f3) fun floor4 =>
  R.bind (rngR 0 ((3 : Int))) fun r5 =>
  R.bind (R.forX (fun (x6 : Int) (s7 : Unit) => (R.bind (mulR ((4 : Int)) x6) fun p8 => R.bind (l_cell script1 ((1 : Int))) fun c9 => R.bind (atR ([(1 : Int), (12 : Int), (144 : Int)]) x6) fun it10 => R.bind (fdivR c9 it10) fun q11 => R.bind (l_side_2 script1 (((2 : Int) + p8)) q11) fun s12 => R.bind (R.ok s12) fun side13 => R.bind (p_pieces floor4.1 floor4.2 side13) fun pieces14 => R.bind (l_due_5 side13 floor4) fun d15 => if (!decide (pieces14 = d15)) = true then (R.ok (Sum.inr false)) else (R.ok (Sum.inl (()))) : R (Sum Unit Bool))) r5 (())) fun r16 =>
  R.caseX r16 (fun s17 => R.ok true) (fun b18 => R.ok b18)
end Pg

set_option Elab.async false
set_option linter.all false
set_option maxRecDepth 100000
namespace Pg
open PySem PySem.Spec PyProof.Rows L2

def topS (i : Nat) : Stmt := PySem.Challenge.pw_coverfill_k13_pieces_are_all.main.body.getD i (.Pass ⟨0, 0, 0, 0⟩)
abbrev FnP (K : PySem.W.Frag) (x : Str) (st : Stmt) (f : Addr) (fd : FuncData) : Prop := FunD K x x (defArgs st) (defBody st) (defScope st) [] [] f fd
section
variable {P : Program} {w : World} {K : PySem.W.Frag} {mg : Str → Option Value} {base : Heap}
abbrev s_divisor : Stmt := topS 4
abbrev n_divisor : List Str := ["one", "other"]
theorem sc_divisor : FnScope n_divisor ["one", "other"] (defScope s_divisor) := ⟨rfl, rfl, rfl, by decide +kernel, rfl, by decide +kernel, by decide +kernel⟩
abbrev sp_divisor (K : PySem.W.Frag) : Sp := spR K (fun (x : Int × Int) => [dI x.1, dI x.2]) (fun (x : Int × Int) => p_divisor x.1 x.2) dI
set_option maxHeartbeats 4000000 in
theorem ok_divisor {f : Addr} {fd : FuncData} (F : FnP K "divisor" s_divisor f fd)  : FnOk P w K mg base CX0 41 f fd ["one", "other"] (sp_divisor K) := by
  refine F.ok sc_divisor (fun vs H Q E h => ?_) (fun cdv A outer s H vs Q E hr h => ?_)
  · obtain ⟨x, _, _, _, _, d, _⟩ := h
    exact d.length
  · skip
    refine ⟨_, PSs.nox (pss_cons (ps_while PassesOwn.never (pt_cmpR op_gt (pv 1) pe_int (nomark _)) (pss_one (ps_par (i := 0) (j := 1) rfl sc_divisor.nd rfl rfl (by decide) rfl rfl (pa_cons (pv 1) (pa_cons (pe_op op_modN (pv 0) (pv 1)) pa_nil)) rfl))) (pss_one (ps_ret (pv 0)))), ?_⟩
    refine spR_run (n := 2) (k := 0) rfl (fun _ => rfl) (fun x b h => ?_) h
    obtain ⟨one1, other2⟩ := x
    show SW K _ _ [.dat (dI one1), .dat (dI other2)] _ _ _
    have h : p_divisor one1 other2 = R.ok b := h
    unfold p_divisor at h
    obtain ⟨g3, hg3, h⟩ := R.bind_inv h
    refine sw_seq (sw_gcd (fun (z : Int × Int) => [.dat (dI z.1), .dat (dI z.2)]) (x0 := one1) (y0 := other2) hg3 (.eq (.eq .nil)) (fun z => (et_test (ev_i0 (g := fun i j => .bl (decide (j < i))) (ev_var rfl) (ev_c _)))) (fun z w hm hw => sw_par (ev_var rfl) (ev_fmod hm (ev_var rfl) (ev_var rfl)) ⟨(z.2, w), hw.1, hw.2, .eq (.eq .nil)⟩) ?_)
    show SW K _ _ [.dat (dI g3), .dat (dI ((0 : Int)))] _ _ _
    exact sw_ret (ev_cast (r := dI) h (ev_var rfl)) rfl
abbrev s_ratio : Stmt := topS 5
abbrev n_ratio : List Str := ["top", "bottom", "most"]
theorem sc_ratio : FnScope n_ratio ["top", "bottom"] (defScope s_ratio) := ⟨rfl, rfl, rfl, by decide +kernel, rfl, by decide +kernel, by decide +kernel⟩
abbrev sp_ratio (K : PySem.W.Frag) : Sp := spR K (fun (x : Int × Int) => [dI x.1, dI x.2]) (fun (x : Int × Int) => p_ratio x.1 x.2) dQ
set_option maxHeartbeats 4000000 in
theorem ok_ratio {f : Addr} {fd : FuncData} (F : FnP K "ratio" s_ratio f fd) {f_divisor : Addr} {fd_divisor : FuncData} (F_divisor : FnP K "divisor" s_divisor f_divisor fd_divisor) (b_divisor : Binds K fd_divisor ["one", "other"] []) (g_divisor : mg "divisor" = some (.ref f_divisor)) (G_divisor : FnOk P w K mg base CX0 41 f_divisor fd_divisor ["one", "other"] (sp_divisor K)) (z_abs : mg "abs" = none) (hS : base.NoSeer) (hT : P.given.tree = none) : FnOk P w K mg base CX0 42 f fd ["top", "bottom"] (sp_ratio K) := by
  refine F.ok sc_ratio (fun vs H Q E h => ?_) (fun cdv A outer s H vs Q E hr h => ?_)
  · obtain ⟨x, _, _, _, _, d, _⟩ := h
    exact d.length
  · have hp := pyRm (qual := "ratio") (sc := defScope s_ratio) (n := s.heap.objs.size) (f := f) (cd := cdv) (outer := outer) hS hT hr (by decide) rfl rfl
    refine ⟨_, PSs.nox (pss_cons (ps_if (pt_cmpR op_eq (pv 1) pe_int (nomark _)) (pss_one ps_never) pss_nil) (pss_cons (ps_if (pt_cmpR op_lt (pv 1) pe_int (nomark _)) (pss_cons (ps_set (i := 0) sc_ratio.nd rfl (Or.inl rfl) (pe_un un_neg (pv 0))) (pss_one (ps_set (i := 1) sc_ratio.nd rfl (Or.inl rfl) (pe_un un_neg (pv 1))))) pss_nil) (pss_cons (ps_set (i := 2) sc_ratio.nd rfl (Or.inl rfl) (pe_call G_divisor (hr.mono (by decide)) (by rfl) g_divisor F_divisor.kp b_divisor .nil pass0 (pa_cons (pe_callB (id := "abs") cl_abs (by rfl) z_abs (by decide +kernel) (pa_cons (pv 0) pa_nil)) (pa_cons (pv 1) pa_nil)))) (pss_one (ps_ret (pe_tup (pa_cons (pe_op (op_fdivP hp) (pv 0) (pv 2)) (pa_cons (pe_op (op_fdivP hp) (pv 1) (pv 2)) pa_nil)))))))), ?_⟩
    refine spR_run (n := 2) (k := 1) rfl (fun _ => rfl) (fun x b h => ?_) h
    obtain ⟨top1, bottom2⟩ := x
    show SW K _ _ [.dat (dI top1), .dat (dI bottom2), .un] _ _ _
    have h : p_ratio top1 bottom2 = R.ok b := h
    unfold p_ratio at h
    refine sw_seq (sw_if (et_test (ev_eqI (ev_var rfl) (ev_c _))) (fun hc => ?_) (fun hc => ?_))
    · have h := if_t hc h
      cases h
    · have h := if_f hc h
      refine sw_next ?_
      show SW K _ _ [.dat (dI top1), .dat (dI bottom2), .un] _ _ _
      obtain ⟨st3, hst3, h⟩ := R.bind_inv h
      refine sw_seq (sw_mono (Nx := fun e => Wk e [.dat (dI st3.1), .dat (dI st3.2), .un]) (sw_if (et_test (ev_i0 (g := fun i j => .bl (decide (i < j))) (ev_var rfl) (ev_c _))) (fun hc => ?_) (fun hc => ?_)) (fun e w => sw_weak w ?_))
      · have h := if_t hc hst3
        clear hst3
        obtain ⟨top4, htop4, h⟩ := R.bind_inv h
        refine sw_seq (sw_set (ev_cast (r := dI) htop4 (ev_u (g := fun i => .int (-i)) (ev_var rfl))) ?_)
        show SW K _ _ [.dat (dI top4), .dat (dI bottom2), .un] _ _ _
        obtain ⟨bottom5, hbottom5, h⟩ := R.bind_inv h
        refine sw_set (ev_cast (r := dI) hbottom5 (ev_u (g := fun i => .int (-i)) (ev_var rfl))) ?_
        obtain rfl := R.ok_inj h
        exact .eq (.eq (.un .nil))
      · have h := if_f hc hst3
        clear hst3
        refine sw_next ?_
        obtain rfl := R.ok_inj h
        exact .eq (.eq (.un .nil))
      show SW K _ _ [.dat (dI st3.1), .dat (dI st3.2), .un] _ _ _
      obtain ⟨diviso6, hdiviso6, h⟩ := R.bind_inv h
      obtain ⟨most7, hmost7, h⟩ := R.bind_inv h
      refine sw_seq (sw_set (ev_cast (r := dI) hmost7 (ev_call (x := ((absZ st3.1), st3.2)) hdiviso6 (ea_cons (ev_abs (ev_var rfl)) (ea_cons (ev_var rfl) ea_nil)))) ?_)
      show SW K _ _ [.dat (dI st3.1), .dat (dI st3.2), .dat (dI most7)] _ _ _
      obtain ⟨q8, hq8, h⟩ := R.bind_inv h
      obtain ⟨q9, hq9, h⟩ := R.bind_inv h
      obtain ⟨q10, hq10, h⟩ := R.bind_inv h
      exact sw_ret (ev_cast (r := dQ) h (ev_mkQ hq10 (ev_fdiv hq8 (ev_var rfl) (ev_var rfl)) (ev_fdiv hq9 (ev_var rfl) (ev_var rfl)))) rfl
abbrev s_plus : Stmt := topS 6
abbrev n_plus : List Str := ["one", "other"]
theorem sc_plus : FnScope n_plus ["one", "other"] (defScope s_plus) := ⟨rfl, rfl, rfl, by decide +kernel, rfl, by decide +kernel, by decide +kernel⟩
abbrev sp_plus (K : PySem.W.Frag) : Sp := spR K (fun (x : Rat × Rat) => [dQ x.1, dQ x.2]) (fun (x : Rat × Rat) => p_plus x.1 x.2) dQ
set_option maxHeartbeats 4000000 in
theorem ok_plus {f : Addr} {fd : FuncData} (F : FnP K "plus" s_plus f fd) {f_ratio : Addr} {fd_ratio : FuncData} (F_ratio : FnP K "ratio" s_ratio f_ratio fd_ratio) (b_ratio : Binds K fd_ratio ["top", "bottom"] []) (g_ratio : mg "ratio" = some (.ref f_ratio)) (G_ratio : FnOk P w K mg base CX0 42 f_ratio fd_ratio ["top", "bottom"] (sp_ratio K)) : FnOk P w K mg base CX0 43 f fd ["one", "other"] (sp_plus K) := by
  refine F.ok sc_plus (fun vs H Q E h => ?_) (fun cdv A outer s H vs Q E hr h => ?_)
  · obtain ⟨x, _, _, _, _, d, _⟩ := h
    exact d.length
  · skip
    refine ⟨_, PSs.nox (pss_one (ps_ret (pe_call G_ratio (hr.mono (by decide)) (by rfl) g_ratio F_ratio.kp b_ratio .nil pass0 (pa_cons (pe_op op_add (pe_op op_mulP (pe_ix (r := rIxT K) ix_tup (pv 0) pe_int (fun _ _ => rfl)) (pe_ix (r := rIxT K) ix_tup (pv 1) pe_int (fun _ _ => rfl))) (pe_op op_mulP (pe_ix (r := rIxT K) ix_tup (pv 1) pe_int (fun _ _ => rfl)) (pe_ix (r := rIxT K) ix_tup (pv 0) pe_int (fun _ _ => rfl)))) (pa_cons (pe_op op_mulP (pe_ix (r := rIxT K) ix_tup (pv 0) pe_int (fun _ _ => rfl)) (pe_ix (r := rIxT K) ix_tup (pv 1) pe_int (fun _ _ => rfl))) pa_nil))))), ?_⟩
    refine spR_run (n := 2) (k := 0) rfl (fun _ => rfl) (fun x b h => ?_) h
    obtain ⟨one1, other2⟩ := x
    show SW K _ _ [.dat (dQ one1), .dat (dQ other2)] _ _ _
    have h : p_plus one1 other2 = R.ok b := h
    unfold p_plus at h
    obtain ⟨p3, hp3, h⟩ := R.bind_inv h
    obtain ⟨p4, hp4, h⟩ := R.bind_inv h
    obtain ⟨p5, hp5, h⟩ := R.bind_inv h
    obtain ⟨ratio6, hratio6, h⟩ := R.bind_inv h
    exact sw_ret (ev_cast (r := dQ) h (ev_call (x := ((p3 + p4), p5)) hratio6 (ea_cons (ev_i0 (g := fun i j => .int (i + j)) (ev_mul hp3 (ev_ixT (k := 0) (ev_var rfl) (ev_c _) (by rfl) rfl) (ev_ixT (k := 1) (ev_var rfl) (ev_c _) (by rfl) rfl)) (ev_mul hp4 (ev_ixT (k := 0) (ev_var rfl) (ev_c _) (by rfl) rfl) (ev_ixT (k := 1) (ev_var rfl) (ev_c _) (by rfl) rfl))) (ea_cons (ev_mul hp5 (ev_ixT (k := 1) (ev_var rfl) (ev_c _) (by rfl) rfl) (ev_ixT (k := 1) (ev_var rfl) (ev_c _) (by rfl) rfl)) ea_nil)))) rfl
abbrev s_minus : Stmt := topS 7
abbrev n_minus : List Str := ["one", "other"]
theorem sc_minus : FnScope n_minus ["one", "other"] (defScope s_minus) := ⟨rfl, rfl, rfl, by decide +kernel, rfl, by decide +kernel, by decide +kernel⟩
abbrev sp_minus (K : PySem.W.Frag) : Sp := spR K (fun (x : Rat × Rat) => [dQ x.1, dQ x.2]) (fun (x : Rat × Rat) => p_minus x.1 x.2) dQ
set_option maxHeartbeats 4000000 in
theorem ok_minus {f : Addr} {fd : FuncData} (F : FnP K "minus" s_minus f fd) {f_ratio : Addr} {fd_ratio : FuncData} (F_ratio : FnP K "ratio" s_ratio f_ratio fd_ratio) (b_ratio : Binds K fd_ratio ["top", "bottom"] []) (g_ratio : mg "ratio" = some (.ref f_ratio)) (G_ratio : FnOk P w K mg base CX0 42 f_ratio fd_ratio ["top", "bottom"] (sp_ratio K)) : FnOk P w K mg base CX0 43 f fd ["one", "other"] (sp_minus K) := by
  refine F.ok sc_minus (fun vs H Q E h => ?_) (fun cdv A outer s H vs Q E hr h => ?_)
  · obtain ⟨x, _, _, _, _, d, _⟩ := h
    exact d.length
  · skip
    refine ⟨_, PSs.nox (pss_one (ps_ret (pe_call G_ratio (hr.mono (by decide)) (by rfl) g_ratio F_ratio.kp b_ratio .nil pass0 (pa_cons (pe_op op_sub (pe_op op_mulP (pe_ix (r := rIxT K) ix_tup (pv 0) pe_int (fun _ _ => rfl)) (pe_ix (r := rIxT K) ix_tup (pv 1) pe_int (fun _ _ => rfl))) (pe_op op_mulP (pe_ix (r := rIxT K) ix_tup (pv 1) pe_int (fun _ _ => rfl)) (pe_ix (r := rIxT K) ix_tup (pv 0) pe_int (fun _ _ => rfl)))) (pa_cons (pe_op op_mulP (pe_ix (r := rIxT K) ix_tup (pv 0) pe_int (fun _ _ => rfl)) (pe_ix (r := rIxT K) ix_tup (pv 1) pe_int (fun _ _ => rfl))) pa_nil))))), ?_⟩
    refine spR_run (n := 2) (k := 0) rfl (fun _ => rfl) (fun x b h => ?_) h
    obtain ⟨one1, other2⟩ := x
    show SW K _ _ [.dat (dQ one1), .dat (dQ other2)] _ _ _
    have h : p_minus one1 other2 = R.ok b := h
    unfold p_minus at h
    obtain ⟨p3, hp3, h⟩ := R.bind_inv h
    obtain ⟨p4, hp4, h⟩ := R.bind_inv h
    obtain ⟨p5, hp5, h⟩ := R.bind_inv h
    obtain ⟨ratio6, hratio6, h⟩ := R.bind_inv h
    exact sw_ret (ev_cast (r := dQ) h (ev_call (x := ((p3 - p4), p5)) hratio6 (ea_cons (ev_i0 (g := fun i j => .int (i - j)) (ev_mul hp3 (ev_ixT (k := 0) (ev_var rfl) (ev_c _) (by rfl) rfl) (ev_ixT (k := 1) (ev_var rfl) (ev_c _) (by rfl) rfl)) (ev_mul hp4 (ev_ixT (k := 0) (ev_var rfl) (ev_c _) (by rfl) rfl) (ev_ixT (k := 1) (ev_var rfl) (ev_c _) (by rfl) rfl))) (ea_cons (ev_mul hp5 (ev_ixT (k := 1) (ev_var rfl) (ev_c _) (by rfl) rfl) (ev_ixT (k := 1) (ev_var rfl) (ev_c _) (by rfl) rfl)) ea_nil)))) rfl
abbrev s_times : Stmt := topS 8
abbrev n_times : List Str := ["one", "other"]
theorem sc_times : FnScope n_times ["one", "other"] (defScope s_times) := ⟨rfl, rfl, rfl, by decide +kernel, rfl, by decide +kernel, by decide +kernel⟩
abbrev sp_times (K : PySem.W.Frag) : Sp := spR K (fun (x : Rat × Rat) => [dQ x.1, dQ x.2]) (fun (x : Rat × Rat) => p_times x.1 x.2) dQ
set_option maxHeartbeats 4000000 in
theorem ok_times {f : Addr} {fd : FuncData} (F : FnP K "times" s_times f fd) {f_ratio : Addr} {fd_ratio : FuncData} (F_ratio : FnP K "ratio" s_ratio f_ratio fd_ratio) (b_ratio : Binds K fd_ratio ["top", "bottom"] []) (g_ratio : mg "ratio" = some (.ref f_ratio)) (G_ratio : FnOk P w K mg base CX0 42 f_ratio fd_ratio ["top", "bottom"] (sp_ratio K)) : FnOk P w K mg base CX0 43 f fd ["one", "other"] (sp_times K) := by
  refine F.ok sc_times (fun vs H Q E h => ?_) (fun cdv A outer s H vs Q E hr h => ?_)
  · obtain ⟨x, _, _, _, _, d, _⟩ := h
    exact d.length
  · skip
    refine ⟨_, PSs.nox (pss_one (ps_ret (pe_call G_ratio (hr.mono (by decide)) (by rfl) g_ratio F_ratio.kp b_ratio .nil pass0 (pa_cons (pe_op op_mulP (pe_ix (r := rIxT K) ix_tup (pv 0) pe_int (fun _ _ => rfl)) (pe_ix (r := rIxT K) ix_tup (pv 1) pe_int (fun _ _ => rfl))) (pa_cons (pe_op op_mulP (pe_ix (r := rIxT K) ix_tup (pv 0) pe_int (fun _ _ => rfl)) (pe_ix (r := rIxT K) ix_tup (pv 1) pe_int (fun _ _ => rfl))) pa_nil))))), ?_⟩
    refine spR_run (n := 2) (k := 0) rfl (fun _ => rfl) (fun x b h => ?_) h
    obtain ⟨one1, other2⟩ := x
    show SW K _ _ [.dat (dQ one1), .dat (dQ other2)] _ _ _
    have h : p_times one1 other2 = R.ok b := h
    unfold p_times at h
    obtain ⟨p3, hp3, h⟩ := R.bind_inv h
    obtain ⟨p4, hp4, h⟩ := R.bind_inv h
    obtain ⟨ratio5, hratio5, h⟩ := R.bind_inv h
    exact sw_ret (ev_cast (r := dQ) h (ev_call (x := (p3, p4)) hratio5 (ea_cons (ev_mul hp3 (ev_ixT (k := 0) (ev_var rfl) (ev_c _) (by rfl) rfl) (ev_ixT (k := 0) (ev_var rfl) (ev_c _) (by rfl) rfl)) (ea_cons (ev_mul hp4 (ev_ixT (k := 1) (ev_var rfl) (ev_c _) (by rfl) rfl) (ev_ixT (k := 1) (ev_var rfl) (ev_c _) (by rfl) rfl)) ea_nil)))) rfl
abbrev s_parted : Stmt := topS 9
abbrev n_parted : List Str := ["one", "other"]
theorem sc_parted : FnScope n_parted ["one", "other"] (defScope s_parted) := ⟨rfl, rfl, rfl, by decide +kernel, rfl, by decide +kernel, by decide +kernel⟩
abbrev sp_parted (K : PySem.W.Frag) : Sp := spR K (fun (x : Rat × Rat) => [dQ x.1, dQ x.2]) (fun (x : Rat × Rat) => p_parted x.1 x.2) dQ
set_option maxHeartbeats 4000000 in
theorem ok_parted {f : Addr} {fd : FuncData} (F : FnP K "parted" s_parted f fd) {f_ratio : Addr} {fd_ratio : FuncData} (F_ratio : FnP K "ratio" s_ratio f_ratio fd_ratio) (b_ratio : Binds K fd_ratio ["top", "bottom"] []) (g_ratio : mg "ratio" = some (.ref f_ratio)) (G_ratio : FnOk P w K mg base CX0 42 f_ratio fd_ratio ["top", "bottom"] (sp_ratio K)) : FnOk P w K mg base CX0 43 f fd ["one", "other"] (sp_parted K) := by
  refine F.ok sc_parted (fun vs H Q E h => ?_) (fun cdv A outer s H vs Q E hr h => ?_)
  · obtain ⟨x, _, _, _, _, d, _⟩ := h
    exact d.length
  · skip
    refine ⟨_, PSs.nox (pss_one (ps_ret (pe_call G_ratio (hr.mono (by decide)) (by rfl) g_ratio F_ratio.kp b_ratio .nil pass0 (pa_cons (pe_op op_mulP (pe_ix (r := rIxT K) ix_tup (pv 0) pe_int (fun _ _ => rfl)) (pe_ix (r := rIxT K) ix_tup (pv 1) pe_int (fun _ _ => rfl))) (pa_cons (pe_op op_mulP (pe_ix (r := rIxT K) ix_tup (pv 0) pe_int (fun _ _ => rfl)) (pe_ix (r := rIxT K) ix_tup (pv 1) pe_int (fun _ _ => rfl))) pa_nil))))), ?_⟩
    refine spR_run (n := 2) (k := 0) rfl (fun _ => rfl) (fun x b h => ?_) h
    obtain ⟨one1, other2⟩ := x
    show SW K _ _ [.dat (dQ one1), .dat (dQ other2)] _ _ _
    have h : p_parted one1 other2 = R.ok b := h
    unfold p_parted at h
    obtain ⟨p3, hp3, h⟩ := R.bind_inv h
    obtain ⟨p4, hp4, h⟩ := R.bind_inv h
    obtain ⟨ratio5, hratio5, h⟩ := R.bind_inv h
    exact sw_ret (ev_cast (r := dQ) h (ev_call (x := (p3, p4)) hratio5 (ea_cons (ev_mul hp3 (ev_ixT (k := 0) (ev_var rfl) (ev_c _) (by rfl) rfl) (ev_ixT (k := 1) (ev_var rfl) (ev_c _) (by rfl) rfl)) (ea_cons (ev_mul hp4 (ev_ixT (k := 1) (ev_var rfl) (ev_c _) (by rfl) rfl) (ev_ixT (k := 0) (ev_var rfl) (ev_c _) (by rfl) rfl)) ea_nil)))) rfl
abbrev s_under : Stmt := topS 10
abbrev n_under : List Str := ["one", "other"]
theorem sc_under : FnScope n_under ["one", "other"] (defScope s_under) := ⟨rfl, rfl, rfl, by decide +kernel, rfl, by decide +kernel, by decide +kernel⟩
abbrev sp_under (K : PySem.W.Frag) : Sp := spR K (fun (x : Rat × Rat) => [dQ x.1, dQ x.2]) (fun (x : Rat × Rat) => p_under x.1 x.2) dB
set_option maxHeartbeats 4000000 in
theorem ok_under {f : Addr} {fd : FuncData} (F : FnP K "under" s_under f fd)  : FnOk P w K mg base CX0 41 f fd ["one", "other"] (sp_under K) := by
  refine F.ok sc_under (fun vs H Q E h => ?_) (fun cdv A outer s H vs Q E hr h => ?_)
  · obtain ⟨x, _, _, _, _, d, _⟩ := h
    exact d.length
  · skip
    refine ⟨_, PSs.nox (pss_one (ps_ret (pe_cmpR op_lt (pe_op op_mulP (pe_ix (r := rIxT K) ix_tup (pv 0) pe_int (fun _ _ => rfl)) (pe_ix (r := rIxT K) ix_tup (pv 1) pe_int (fun _ _ => rfl))) (pe_op op_mulP (pe_ix (r := rIxT K) ix_tup (pv 1) pe_int (fun _ _ => rfl)) (pe_ix (r := rIxT K) ix_tup (pv 0) pe_int (fun _ _ => rfl))) (nomark _)))), ?_⟩
    refine spR_run (n := 2) (k := 0) rfl (fun _ => rfl) (fun x b h => ?_) h
    obtain ⟨one1, other2⟩ := x
    show SW K _ _ [.dat (dQ one1), .dat (dQ other2)] _ _ _
    have h : p_under one1 other2 = R.ok b := h
    unfold p_under at h
    obtain ⟨p3, hp3, h⟩ := R.bind_inv h
    obtain ⟨p4, hp4, h⟩ := R.bind_inv h
    exact sw_ret (ev_cast (r := dB) h (ev_i0 (g := fun i j => .bl (decide (i < j))) (ev_mul hp3 (ev_ixT (k := 0) (ev_var rfl) (ev_c _) (by rfl) rfl) (ev_ixT (k := 1) (ev_var rfl) (ev_c _) (by rfl) rfl)) (ev_mul hp4 (ev_ixT (k := 0) (ev_var rfl) (ev_c _) (by rfl) rfl) (ev_ixT (k := 1) (ev_var rfl) (ev_c _) (by rfl) rfl)))) rfl
abbrev s_whole_part : Stmt := topS 11
abbrev n_whole_part : List Str := ["one"]
theorem sc_whole_part : FnScope n_whole_part ["one"] (defScope s_whole_part) := ⟨rfl, rfl, rfl, by decide +kernel, rfl, by decide +kernel, by decide +kernel⟩
abbrev sp_whole_part (K : PySem.W.Frag) : Sp := spR K (fun (x : Rat) => [dQ x]) (fun (x : Rat) => p_whole_part x) dI
set_option maxHeartbeats 4000000 in
theorem ok_whole_part {f : Addr} {fd : FuncData} (F : FnP K "whole_part" s_whole_part f fd) (hS : base.NoSeer) (hT : P.given.tree = none) : FnOk P w K mg base CX0 41 f fd ["one"] (sp_whole_part K) := by
  refine F.ok sc_whole_part (fun vs H Q E h => ?_) (fun cdv A outer s H vs Q E hr h => ?_)
  · obtain ⟨x, _, _, _, _, d, _⟩ := h
    exact d.length
  · have hp := pyRm (qual := "whole_part") (sc := defScope s_whole_part) (n := s.heap.objs.size) (f := f) (cd := cdv) (outer := outer) hS hT hr (by decide) rfl rfl
    refine ⟨_, PSs.nox (pss_one (ps_ret (pe_op (op_fdivP hp) (pe_ix (r := rIxT K) ix_tup (pv 0) pe_int (fun _ _ => rfl)) (pe_ix (r := rIxT K) ix_tup (pv 0) pe_int (fun _ _ => rfl))))), ?_⟩
    refine spR_run (n := 1) (k := 0) rfl (fun _ => rfl) (fun x b h => ?_) h
    generalize x = one1 at h ⊢
    show SW K _ _ [.dat (dQ one1)] _ _ _
    have h : p_whole_part one1 = R.ok b := h
    unfold p_whole_part at h
    obtain ⟨q2, hq2, h⟩ := R.bind_inv h
    exact sw_ret (ev_cast (r := dI) h (ev_fdiv hq2 (ev_ixT (k := 0) (ev_var rfl) (ev_c _) (by rfl) rfl) (ev_ixT (k := 1) (ev_var rfl) (ev_c _) (by rfl) rfl))) rfl
abbrev s_point_at : Stmt := topS 13
abbrev n_point_at : List Str := ["one", "other", "share", "across"]
theorem sc_point_at : FnScope n_point_at ["one", "other", "share"] (defScope s_point_at) := ⟨rfl, rfl, rfl, by decide +kernel, rfl, by decide +kernel, by decide +kernel⟩
abbrev sp_point_at (K : PySem.W.Frag) : Sp := spR K (fun (x : (Rat × Rat) × (Rat × Rat) × Rat) => [(d2 dQ dQ) x.1, (d2 dQ dQ) x.2.1, dQ x.2.2]) (fun (x : (Rat × Rat) × (Rat × Rat) × Rat) => p_point_at x.1 x.2.1 x.2.2) (d2 dQ dQ)
set_option maxHeartbeats 4000000 in
theorem ok_point_at {f : Addr} {fd : FuncData} (F : FnP K "point_at" s_point_at f fd) {f_minus : Addr} {fd_minus : FuncData} (F_minus : FnP K "minus" s_minus f_minus fd_minus) (b_minus : Binds K fd_minus ["one", "other"] []) (g_minus : mg "minus" = some (.ref f_minus)) {f_plus : Addr} {fd_plus : FuncData} (F_plus : FnP K "plus" s_plus f_plus fd_plus) (b_plus : Binds K fd_plus ["one", "other"] []) (g_plus : mg "plus" = some (.ref f_plus)) {f_times : Addr} {fd_times : FuncData} (F_times : FnP K "times" s_times f_times fd_times) (b_times : Binds K fd_times ["one", "other"] []) (g_times : mg "times" = some (.ref f_times)) (G_minus : FnOk P w K mg base CX0 43 f_minus fd_minus ["one", "other"] (sp_minus K)) (G_plus : FnOk P w K mg base CX0 43 f_plus fd_plus ["one", "other"] (sp_plus K)) (G_times : FnOk P w K mg base CX0 43 f_times fd_times ["one", "other"] (sp_times K)) : FnOk P w K mg base CX0 44 f fd ["one", "other", "share"] (sp_point_at K) := by
  refine F.ok sc_point_at (fun vs H Q E h => ?_) (fun cdv A outer s H vs Q E hr h => ?_)
  · obtain ⟨x, _, _, _, _, d, _⟩ := h
    exact d.length
  · skip
    refine ⟨_, PSs.nox (pss_cons (ps_set (i := 3) sc_point_at.nd rfl (Or.inl rfl) (pe_call G_plus (hr.mono (by decide)) (by rfl) g_plus F_plus.kp b_plus .nil pass0 (pa_cons (pe_ix (r := rIxT K) ix_tup (pv 0) pe_int (fun _ _ => rfl)) (pa_cons (pe_call G_times (hr.mono (by decide)) (by rfl) g_times F_times.kp b_times .nil pass0 (pa_cons (pv 2) (pa_cons (pe_call G_minus (hr.mono (by decide)) (by rfl) g_minus F_minus.kp b_minus .nil pass0 (pa_cons (pe_ix (r := rIxT K) ix_tup (pv 1) pe_int (fun _ _ => rfl)) (pa_cons (pe_ix (r := rIxT K) ix_tup (pv 0) pe_int (fun _ _ => rfl)) pa_nil))) pa_nil))) pa_nil)))) (pss_one (ps_ret (pe_tup (pa_cons (pv 3) (pa_cons (pe_call G_plus (hr.mono (by decide)) (by rfl) g_plus F_plus.kp b_plus .nil pass0 (pa_cons (pe_ix (r := rIxT K) ix_tup (pv 0) pe_int (fun _ _ => rfl)) (pa_cons (pe_call G_times (hr.mono (by decide)) (by rfl) g_times F_times.kp b_times .nil pass0 (pa_cons (pv 2) (pa_cons (pe_call G_minus (hr.mono (by decide)) (by rfl) g_minus F_minus.kp b_minus .nil pass0 (pa_cons (pe_ix (r := rIxT K) ix_tup (pv 1) pe_int (fun _ _ => rfl)) (pa_cons (pe_ix (r := rIxT K) ix_tup (pv 0) pe_int (fun _ _ => rfl)) pa_nil))) pa_nil))) pa_nil))) pa_nil)))))), ?_⟩
    refine spR_run (n := 3) (k := 1) rfl (fun _ => rfl) (fun x b h => ?_) h
    obtain ⟨one1, other2, share3⟩ := x
    show SW K _ _ [.dat ((d2 dQ dQ) one1), .dat ((d2 dQ dQ) other2), .dat (dQ share3), .un] _ _ _
    have h : p_point_at one1 other2 share3 = R.ok b := h
    unfold p_point_at at h
    obtain ⟨minus4, hminus4, h⟩ := R.bind_inv h
    obtain ⟨times5, htimes5, h⟩ := R.bind_inv h
    obtain ⟨plus6, hplus6, h⟩ := R.bind_inv h
    obtain ⟨across7, hacross7, h⟩ := R.bind_inv h
    refine sw_seq (sw_set (ev_cast (r := dQ) hacross7 (ev_call (x := (one1.1, times5)) hplus6 (ea_cons (ev_ixT (k := 0) (ev_var rfl) (ev_c _) (by rfl) rfl) (ea_cons (ev_call (x := (share3, minus4)) htimes5 (ea_cons (ev_var rfl) (ea_cons (ev_call (x := (other2.1, one1.1)) hminus4 (ea_cons (ev_ixT (k := 0) (ev_var rfl) (ev_c _) (by rfl) rfl) (ea_cons (ev_ixT (k := 0) (ev_var rfl) (ev_c _) (by rfl) rfl) ea_nil))) ea_nil))) ea_nil)))) ?_)
    show SW K _ _ [.dat ((d2 dQ dQ) one1), .dat ((d2 dQ dQ) other2), .dat (dQ share3), .dat (dQ across7)] _ _ _
    obtain ⟨minus8, hminus8, h⟩ := R.bind_inv h
    obtain ⟨times9, htimes9, h⟩ := R.bind_inv h
    obtain ⟨plus10, hplus10, h⟩ := R.bind_inv h
    exact sw_ret (ev_cast (r := (d2 dQ dQ)) h (ev_tup (ea_cons (ev_var rfl) (ea_cons (ev_call (x := (one1.2, times9)) hplus10 (ea_cons (ev_ixT (k := 1) (ev_var rfl) (ev_c _) (by rfl) rfl) (ea_cons (ev_call (x := (share3, minus8)) htimes9 (ea_cons (ev_var rfl) (ea_cons (ev_call (x := (other2.2, one1.2)) hminus8 (ea_cons (ev_ixT (k := 1) (ev_var rfl) (ev_c _) (by rfl) rfl) (ea_cons (ev_ixT (k := 1) (ev_var rfl) (ev_c _) (by rfl) rfl) ea_nil))) ea_nil))) ea_nil))) ea_nil)))) rfl
abbrev s_shares_between : Stmt := topS 17
abbrev n_shares_between : List Str := ["one", "other", "most", "come", "k", "share"]
theorem sc_shares_between : FnScope n_shares_between ["one", "other", "most"] (defScope s_shares_between) := ⟨rfl, rfl, rfl, by decide +kernel, rfl, by decide +kernel, by decide +kernel⟩
abbrev sp_shares_between (K : PySem.W.Frag) : Sp := spN K (fun (x : Rat × Rat × Int) => [dQ x.1, dQ x.2.1, dI x.2.2]) (fun (x : Rat × Rat × Int) => p_shares_between x.1 x.2.1 x.2.2) dQ
set_option maxHeartbeats 4000000 in
theorem ok_shares_between {f : Addr} {fd : FuncData} (F : FnP K "shares_between" s_shares_between f fd) {f_minus : Addr} {fd_minus : FuncData} (F_minus : FnP K "minus" s_minus f_minus fd_minus) (b_minus : Binds K fd_minus ["one", "other"] []) (g_minus : mg "minus" = some (.ref f_minus)) {f_parted : Addr} {fd_parted : FuncData} (F_parted : FnP K "parted" s_parted f_parted fd_parted) (b_parted : Binds K fd_parted ["one", "other"] []) (g_parted : mg "parted" = some (.ref f_parted)) {f_under : Addr} {fd_under : FuncData} (F_under : FnP K "under" s_under f_under fd_under) (b_under : Binds K fd_under ["one", "other"] []) (g_under : mg "under" = some (.ref f_under)) (G_minus : FnOk P w K mg base CX0 43 f_minus fd_minus ["one", "other"] (sp_minus K)) (G_parted : FnOk P w K mg base CX0 43 f_parted fd_parted ["one", "other"] (sp_parted K)) (G_under : FnOk P w K mg base CX0 41 f_under fd_under ["one", "other"] (sp_under K)) (z_range : mg "range" = none) {v_NOUGHT : Addr} (c_NOUGHT : mg "NOUGHT" = some (.ref v_NOUGHT) ∧ ∀ F, Dat K F (.ref v_NOUGHT) (dQ (0 : Rat))) : FnOk P w K mg base CX0 44 f fd ["one", "other", "most"] (sp_shares_between K) := by
  refine F.ok sc_shares_between (fun vs H Q E h => ?_) (fun cdv A outer s H vs Q E hr h => ?_)
  · obtain ⟨x, _, _, _, _, d, _⟩ := h
    exact d.length
  · skip
    refine ⟨_, PSs.nox (pss_cons (ps_set (i := 3) sc_shares_between.nd rfl (Or.inl rfl) (pe_lst pa_nil)) (pss_cons (ps_if (pt_cmpR (r := rNeD K) (op_neD hr.units) (pv 0) (pv 1) (nomark _)) (pss_one (ps_for PassesOwn.never rfl (pi_range1 (by rfl) z_range (pa_cons (pe_op op_add (pv 2) pe_int) pa_nil)) (pg_name (i := 4) sc_shares_between.nd rfl (Or.inl rfl)) (pss_cons (ps_set (i := 5) sc_shares_between.nd rfl (Or.inl rfl) (pe_call G_parted (hr.mono (by decide)) (by rfl) g_parted F_parted.kp b_parted .nil pass0 (pa_cons (pe_call G_minus (hr.mono (by decide)) (by rfl) g_minus F_minus.kp b_minus .nil pass0 (pa_cons (pe_tup (pa_cons (pv 4) (pa_cons pe_int pa_nil))) (pa_cons (pv 0) pa_nil))) (pa_cons (pe_call G_minus (hr.mono (by decide)) (by rfl) g_minus F_minus.kp b_minus .nil pass0 (pa_cons (pv 1) (pa_cons (pv 0) pa_nil))) pa_nil)))) (pss_one (ps_if (PW.pt (pw_and (pt_val (pe_call G_under (hr.mono (by decide)) (by rfl) g_under F_under.kp b_under .nil pass0 (pa_cons (pe_glob rfl c_NOUGHT.1 (show RelV (.ref v_NOUGHT) _ from rfl)) (pa_cons (pv 5) pa_nil)))) (pw_and1 (pt_val (pe_call G_under (hr.mono (by decide)) (by rfl) g_under F_under.kp b_under .nil pass0 (pa_cons (pv 5) (pa_cons (pe_tup (pa_cons pe_int (pa_cons pe_int pa_nil))) pa_nil))))))) (pss_one (ps_expr (pe_bm PySem.F.plainAttrs_list PySem.F.slot_list_append PySem.F.type_list_append mt_append (pv 3) (pa_cons (pv 5) pa_nil)))) pss_nil))))) pss_nil) (pss_one (ps_ret (pv 3))))), ?_⟩
    refine spN_run (n := 3) (k := 3) rfl (fun _ => rfl) (fun x b h => ?_) h
    obtain ⟨one1, other2, most3⟩ := x
    show SW K _ _ [.dat (dQ one1), .dat (dQ other2), .dat (dI most3), .un, .un, .un] _ _ _
    have h : p_shares_between one1 other2 most3 = R.ok b := h
    unfold p_shares_between at h
    obtain ⟨come4, hcome4, h⟩ := R.bind_inv h
    refine sw_seq (sw_own (en_cast (r := dQ) hcome4 (en_lst ea_nil)) (Nat.le_of_ble_eq_true rfl) ?_)
    show SW K _ _ [.dat (dQ one1), .dat (dQ other2), .dat (dI most3), .ownN none (come4.map dQ), .un, .un] _ _ _
    obtain ⟨st5, hst5, h⟩ := R.bind_inv h
    refine sw_seq (sw_mono (Nx := fun e => Wk e [.dat (dQ one1), .dat (dQ other2), .dat (dI most3), .ownN none (st5.map dQ), .un, .un]) (sw_if (et_test (ev_neD eqQ (ev_var rfl) (ev_var rfl))) (fun hc => ?_) (fun hc => ?_)) (fun e w => sw_weak w ?_))
    · have h := if_t hc hst5
      clear hst5
      obtain ⟨r6, hr6, h⟩ := R.bind_inv h
      obtain ⟨s19, hs19, h⟩ := R.bind_inv h
      refine sw_forR (ra := dI) (js := [4]) _ (fun (z : (List Rat)) => [.dat (dQ one1), .dat (dQ other2), .dat (dI most3), .ownN none (z.map dQ), .un, .un]) _ (iv_rng1 hr6 (ev_i0 (g := fun i j => .int (i + j)) (ev_var rfl) (ev_c _))) hs19 (.eq (.eq (.eq (.eq (.un (.un .nil)))))) (fun x7 s8 s' _ h => ⟨_, (gt_name 4 _ _), ?_⟩) ?_
      · show SW K _ _ [.dat (dQ one1), .dat (dQ other2), .dat (dI most3), .ownN none (s8.map dQ), .dat (dI x7), .un] _ _ _
        obtain ⟨q9, hq9, h⟩ := R.bind_inv h
        obtain ⟨minus10, hminus10, h⟩ := R.bind_inv h
        obtain ⟨minus11, hminus11, h⟩ := R.bind_inv h
        obtain ⟨parted12, hparted12, h⟩ := R.bind_inv h
        obtain ⟨share13, hshare13, h⟩ := R.bind_inv h
        refine sw_seq (sw_set (ev_cast (r := dQ) hshare13 (ev_call (x := (minus10, minus11)) hparted12 (ea_cons (ev_call (x := (q9, one1)) hminus10 (ea_cons (ev_mkQ hq9 (ev_var rfl) (ev_c _)) (ea_cons (ev_var rfl) ea_nil))) (ea_cons (ev_call (x := (other2, one1)) hminus11 (ea_cons (ev_var rfl) (ea_cons (ev_var rfl) ea_nil))) ea_nil)))) ?_)
        show SW K _ _ [.dat (dQ one1), .dat (dQ other2), .dat (dI most3), .ownN none (s8.map dQ), .dat (dI x7), .dat (dQ share13)] _ _ _
        obtain ⟨under14, hunder14, h⟩ := R.bind_inv h
        obtain ⟨b17, hb17, h⟩ := R.bind_inv h
        refine sw_if (et_andR hb17 (et_b (ev_call (x := ((0 : Rat), share13)) hunder14 (ea_cons (ev_k c_NOUGHT.2) (ea_cons (ev_var rfl) ea_nil)))) (fun hc h => by obtain ⟨q15, hq15, h⟩ := R.bind_inv h; obtain ⟨under16, hunder16, h⟩ := R.bind_inv h; exact et_cast h (et_b (ev_call (x := (share13, q15)) hunder16 (ea_cons (ev_var rfl) (ea_cons (ev_mkQ hq15 (ev_c _) (ev_c _)) ea_nil)))))) (fun hc => ?_) (fun hc => ?_)
        · have h := if_t hc h
          obtain ⟨come18, hcome18, h⟩ := R.bind_inv h
          refine sw_app (r := dQ) hcome18 rfl (ev_var rfl) ?_
          obtain rfl := R.ok_inj h
          exact .eq (.eq (.eq (.eq (.un (.un .nil)))))
        · have h := if_f hc h
          refine sw_next ?_
          obtain rfl := R.ok_inj h
          exact .eq (.eq (.eq (.eq (.un (.un .nil)))))
      obtain rfl := R.ok_inj h
      exact .eq (.eq (.eq (.eq (.un (.un .nil)))))
    · have h := if_f hc hst5
      clear hst5
      refine sw_next ?_
      obtain rfl := R.ok_inj h
      exact .eq (.eq (.eq (.eq (.un (.un .nil)))))
    show SW K _ _ [.dat (dQ one1), .dat (dQ other2), .dat (dI most3), .ownN none (st5.map dQ), .un, .un] _ _ _
    obtain rfl := R.ok_inj h
    exact sw_retV rfl rfl
abbrev s_put_in : Stmt := topS 18
abbrev n_put_in : List Str := ["row", "share", "k"]
theorem sc_put_in : FnScope n_put_in ["row", "share"] (defScope s_put_in) := ⟨rfl, rfl, rfl, by decide +kernel, rfl, by decide +kernel, by decide +kernel⟩
abbrev sp_put_in (K : PySem.W.Frag) : Sp := spR K (fun (x : (List Rat) × Rat) => [(dL dQ) x.1, dQ x.2]) (fun (x : (List Rat) × Rat) => p_put_in x.1 x.2) (dL dQ)
set_option maxHeartbeats 4000000 in
theorem ok_put_in {f : Addr} {fd : FuncData} (F : FnP K "put_in" s_put_in f fd) {f_under : Addr} {fd_under : FuncData} (F_under : FnP K "under" s_under f_under fd_under) (b_under : Binds K fd_under ["one", "other"] []) (g_under : mg "under" = some (.ref f_under)) (G_under : FnOk P w K mg base CX0 41 f_under fd_under ["one", "other"] (sp_under K)) (z_len : mg "len" = none) (z_range : mg "range" = none) : FnOk P w K mg base CX0 42 f fd ["row", "share"] (sp_put_in K) := by
  refine F.ok sc_put_in (fun vs H Q E h => ?_) (fun cdv A outer s H vs Q E hr h => ?_)
  · obtain ⟨x, _, _, _, _, d, _⟩ := h
    exact d.length
  · skip
    refine ⟨_, PSs.nox (pss_cons (ps_for PassesOwn.never rfl (pi_range1 (by rfl) z_range (pa_cons (pe_callB (id := "len") (r := rLenP K) cl_len (by rfl) z_len (by decide +kernel) (pa_cons (pv 0) pa_nil)) pa_nil)) (pg_name (i := 2) sc_put_in.nd rfl (Or.inl rfl)) (pss_cons (ps_if (pt_cmpR (r := rEqD K) (op_eqD hr.units) (pe_ix (r := rIxL K) ix_list (pv 0) (pv 2) (fun _ _ => rfl)) (pv 1) (nomark _)) (pss_one (ps_ret (pv 0))) pss_nil) (pss_one (ps_if (pt_val (pe_call G_under (hr.mono (by decide)) (by rfl) g_under F_under.kp b_under .nil pass0 (pa_cons (pv 1) (pa_cons (pe_ix (r := rIxL K) ix_list (pv 0) (pv 2) (fun _ _ => rfl)) pa_nil)))) (pss_one (ps_ret (pe_op (r := rCatS K) op_catS (pe_op (r := rCatS K) op_catS (pe_slice (r := rSlL K) sl_list (pv 0) po_none (po_some (pv 2))) (pe_lst (pa_cons (pv 1) pa_nil))) (pe_slice (r := rSlL K) sl_list (pv 0) (po_some (pv 2)) po_none)))) pss_nil)))) (pss_one (ps_ret (pe_op (r := rCatS K) op_catS (pv 0) (pe_lst (pa_cons (pv 1) pa_nil)))))), ?_⟩
    refine spR_run (n := 2) (k := 1) rfl (fun _ => rfl) (fun x b h => ?_) h
    obtain ⟨row1, share2⟩ := x
    show SW K _ _ [.dat ((dL dQ) row1), .dat (dQ share2), .un] _ _ _
    have h : p_put_in row1 share2 = R.ok b := h
    unfold p_put_in at h
    obtain ⟨r3, hr3, h⟩ := R.bind_inv h
    obtain ⟨r11, hr11, h⟩ := R.bind_inv h
    refine sw_seq (sw_forX (ra := dI) (js := [2]) _ (fun (z : Unit) => [.dat ((dL dQ) row1), .dat (dQ share2), .un]) (fun b _ v => v = .dat ((dL dQ) b)) (fun _ _ _ => False) _ (iv_rng1 hr3 (ev_lenM (ev_lenL (ev_var rfl)))) hr11 (.eq (.eq (.un .nil))) (fun x4 s5 r1 _ h => ⟨_, (gt_name 2 _ _), ?_⟩) (fun s12 e => ?_) (fun b13 e => ?_))
    · show SW K _ _ [.dat ((dL dQ) row1), .dat (dQ share2), .dat (dI x4)] _ _ _
      obtain ⟨it6, hit6, h⟩ := R.bind_inv h
      refine sw_seq (sw_if (et_test (ev_eqD eqQ (ev_atL (r := dQ) hit6 (ev_var rfl) (ev_var rfl)) (ev_var rfl))) (fun hc => ?_) (fun hc => ?_))
      · have h := if_t hc h
        exact sw_ret (ev_var rfl) ⟨_, (R.ok_inj h).symm, rfl⟩
      · have h := if_f hc h
        refine sw_next ?_
        show SW K _ _ [.dat ((dL dQ) row1), .dat (dQ share2), .dat (dI x4)] _ _ _
        obtain ⟨it7, hit7, h⟩ := R.bind_inv h
        obtain ⟨under8, hunder8, h⟩ := R.bind_inv h
        refine sw_if (et_b (ev_call (x := (share2, it7)) hunder8 (ea_cons (ev_var rfl) (ea_cons (ev_atL (r := dQ) hit7 (ev_var rfl) (ev_var rfl)) ea_nil)))) (fun hc => ?_) (fun hc => ?_)
        · have h := if_t hc h
          obtain ⟨c9, hc9, h⟩ := R.bind_inv h
          obtain ⟨c10, hc10, h⟩ := R.bind_inv h
          exact sw_ret (EV.frz (en_cat hc10 (EV.frz (en_cat hc9 (EV.frz (en_cut (ev_var rfl) eo_none (eo_some (ev_var rfl)))) (EV.frz (en_lst (ds := [share2].map dQ) (ea_cons (ev_var rfl) ea_nil))))) (EV.frz (en_cut (ev_var rfl) (eo_some (ev_var rfl)) eo_none)))) ⟨_, (R.ok_inj h).symm, rfl⟩
        · have h := if_f hc h
          refine sw_next ?_
          exact ⟨_, (R.ok_inj h).symm, .eq (.eq (.un .nil))⟩
    · subst e
      have h := R.case_l h
      show SW K _ _ [.dat ((dL dQ) row1), .dat (dQ share2), .un] _ _ _
      obtain ⟨c14, hc14, h⟩ := R.bind_inv h
      exact sw_ret (ev_cast (r := (dL dQ)) h (EV.frz (en_cat hc14 (ev_var rfl) (EV.frz (en_lst (ds := [share2].map dQ) (ea_cons (ev_var rfl) ea_nil)))))) rfl
    · subst e
      have h := R.case_r h
      obtain rfl := R.ok_inj h; exact ⟨fun _ _ z => z, fun _ _ z => z.elim⟩
abbrev s_points_on : Stmt := topS 19
abbrev n_points_on : List Str := ["width", "height", "side", "one", "other", "row", "share"]
theorem sc_points_on : FnScope n_points_on ["width", "height", "side"] (defScope s_points_on) := ⟨rfl, rfl, rfl, by decide +kernel, rfl, by decide +kernel, by decide +kernel⟩
abbrev sp_points_on (K : PySem.W.Frag) : Sp := spN K (fun (x : Int × Int × ((Rat × Rat) × (Rat × Rat))) => [dI x.1, dI x.2.1, (d2 (d2 dQ dQ) (d2 dQ dQ)) x.2.2]) (fun (x : Int × Int × ((Rat × Rat) × (Rat × Rat))) => p_points_on x.1 x.2.1 x.2.2) (d2 dQ dQ)
set_option maxHeartbeats 4000000 in
theorem ok_points_on {f : Addr} {fd : FuncData} (F : FnP K "points_on" s_points_on f fd) {f_point_at : Addr} {fd_point_at : FuncData} (F_point_at : FnP K "point_at" s_point_at f_point_at fd_point_at) (b_point_at : Binds K fd_point_at ["one", "other", "share"] []) (g_point_at : mg "point_at" = some (.ref f_point_at)) {f_put_in : Addr} {fd_put_in : FuncData} (F_put_in : FnP K "put_in" s_put_in f_put_in fd_put_in) (b_put_in : Binds K fd_put_in ["row", "share"] []) (g_put_in : mg "put_in" = some (.ref f_put_in)) {f_shares_between : Addr} {fd_shares_between : FuncData} (F_shares_between : FnP K "shares_between" s_shares_between f_shares_between fd_shares_between) (b_shares_between : Binds K fd_shares_between ["one", "other", "most"] []) (g_shares_between : mg "shares_between" = some (.ref f_shares_between)) (G_point_at : FnOk P w K mg base CX0 44 f_point_at fd_point_at ["one", "other", "share"] (sp_point_at K)) (G_put_in : FnOk P w K mg base CX0 42 f_put_in fd_put_in ["row", "share"] (sp_put_in K)) (G_shares_between : FnOk P w K mg base CX0 44 f_shares_between fd_shares_between ["one", "other", "most"] (sp_shares_between K)) : FnOk P w K mg base CX0 45 f fd ["width", "height", "side"] (sp_points_on K) := by
  refine F.ok sc_points_on (fun vs H Q E h => ?_) (fun cdv A outer s H vs Q E hr h => ?_)
  · obtain ⟨x, _, _, _, _, d, _⟩ := h
    exact d.length
  · skip
    refine ⟨_, PSs.nox (pss_cons (ps_asg (pv 2) (show PG _ _ (gTup K 2 _) from pg_tup rfl (pgs_cons (pg_name (i := 3) sc_points_on.nd rfl (Or.inr rfl)) (pgs_cons (pg_name (i := 4) sc_points_on.nd rfl (Or.inr rfl)) pgs_nil)))) (pss_cons (ps_set (i := 5) sc_points_on.nd rfl (Or.inl rfl) (pe_lst pa_nil)) (pss_cons (ps_for PassesOwn.never rfl (show PI _ _ _ (iList K _) from pi_list (pe_op (r := rCatS K) op_catS (pe_call G_shares_between (hr.mono (by decide)) (by rfl) g_shares_between F_shares_between.kp b_shares_between .nil pass0 (pa_cons (pe_ix (r := rIxT K) ix_tup (pv 3) pe_int (fun _ _ => rfl)) (pa_cons (pe_ix (r := rIxT K) ix_tup (pv 4) pe_int (fun _ _ => rfl)) (pa_cons (pv 0) pa_nil)))) (pe_call G_shares_between (hr.mono (by decide)) (by rfl) g_shares_between F_shares_between.kp b_shares_between .nil pass0 (pa_cons (pe_ix (r := rIxT K) ix_tup (pv 3) pe_int (fun _ _ => rfl)) (pa_cons (pe_ix (r := rIxT K) ix_tup (pv 4) pe_int (fun _ _ => rfl)) (pa_cons (pv 1) pa_nil)))))) (pg_name (i := 6) sc_points_on.nd rfl (Or.inl rfl)) (pss_one (ps_set (i := 5) sc_points_on.nd rfl (Or.inl rfl) (pe_call G_put_in (hr.mono (by decide)) (by rfl) g_put_in F_put_in.kp b_put_in .nil pass0 (pa_cons (pv 5) (pa_cons (pv 6) pa_nil)))))) (pss_one (ps_ret (pe_op (r := rCatS K) op_catS (pe_op (r := rCatS K) op_catS (pe_lst (pa_cons (pv 3) pa_nil)) (pe_lc (own := [("share", 6)]) (by rfl) sc_points_on.nd (show PI _ _ _ (iList K _) from pi_list (pv 5)) (blkOk_by (own := [("share", 6)]) (N := n_points_on) (sc := defScope s_points_on) (by decide +kernel)) (fun _ _ _ _ _ => (pg_name (i := 6) sc_points_on.nd rfl (Or.inl rfl))) (fun _ _ _ _ _ => pts_nil) (fun _ _ _ _ _ => (pe_call G_point_at (hr.mono (by decide)) (by rfl) g_point_at F_point_at.kp b_point_at .nil pass0 (pa_cons (pv 3) (pa_cons (pv 4) (pa_cons (pv 6) pa_nil))))))) (pe_lst (pa_cons (pv 4) pa_nil)))))))), ?_⟩
    refine spN_run (n := 3) (k := 4) rfl (fun _ => rfl) (fun x b h => ?_) h
    obtain ⟨width1, height2, side3⟩ := x
    show SW K _ _ [.dat (dI width1), .dat (dI height2), .dat ((d2 (d2 dQ dQ) (d2 dQ dQ)) side3), .un, .un, .un, .un] _ _ _
    have h : p_points_on width1 height2 side3 = R.ok b := h
    unfold p_points_on at h
    obtain ⟨t4, ht4, h⟩ := R.bind_inv h
    refine sw_seq (sw_asgG (js := [3, 4]) (ev_cast (r := (d2 (d2 dQ dQ) (d2 dQ dQ))) ht4 (ev_var rfl)) (gt_tup2 (gt_name 3 _ _) (gt_name 4 _ _)) ?_)
    show SW K _ _ [.dat (dI width1), .dat (dI height2), .dat ((d2 (d2 dQ dQ) (d2 dQ dQ)) side3), .dat ((d2 dQ dQ) t4.1), .dat ((d2 dQ dQ) t4.2), .un, .un] _ _ _
    obtain ⟨row5, hrow5, h⟩ := R.bind_inv h
    refine sw_seq (sw_set (ev_cast (r := (dL dQ)) hrow5 (EV.frz (en_lst ea_nil))) ?_)
    show SW K _ _ [.dat (dI width1), .dat (dI height2), .dat ((d2 (d2 dQ dQ) (d2 dQ dQ)) side3), .dat ((d2 dQ dQ) t4.1), .dat ((d2 dQ dQ) t4.2), .dat ((dL dQ) row5), .un] _ _ _
    obtain ⟨shares6, hshares6, h⟩ := R.bind_inv h
    obtain ⟨shares7, hshares7, h⟩ := R.bind_inv h
    obtain ⟨c8, hc8, h⟩ := R.bind_inv h
    obtain ⟨s13, hs13, h⟩ := R.bind_inv h
    refine sw_seq (sw_forR (ra := dQ) (js := [6]) _ (fun (z : (List Rat)) => [.dat (dI width1), .dat (dI height2), .dat ((d2 (d2 dQ dQ) (d2 dQ dQ)) side3), .dat ((d2 dQ dQ) t4.1), .dat ((d2 dQ dQ) t4.2), .dat ((dL dQ) z), .un]) _ (iv_list (EV.frz (en_cat hc8 (EV.frz (en_call (x := (t4.1.1, t4.2.1, width1)) hshares6 (ea_cons (ev_ixT (k := 0) (ev_var rfl) (ev_c _) (by rfl) rfl) (ea_cons (ev_ixT (k := 0) (ev_var rfl) (ev_c _) (by rfl) rfl) (ea_cons (ev_var rfl) ea_nil))))) (EV.frz (en_call (x := (t4.1.2, t4.2.2, height2)) hshares7 (ea_cons (ev_ixT (k := 1) (ev_var rfl) (ev_c _) (by rfl) rfl) (ea_cons (ev_ixT (k := 1) (ev_var rfl) (ev_c _) (by rfl) rfl) (ea_cons (ev_var rfl) ea_nil)))))))) hs13 (.eq (.eq (.eq (.eq (.eq (.eq (.un .nil))))))) (fun x9 s10 s' _ h => ⟨_, (gt_name 6 _ _), ?_⟩) ?_)
    · show SW K _ _ [.dat (dI width1), .dat (dI height2), .dat ((d2 (d2 dQ dQ) (d2 dQ dQ)) side3), .dat ((d2 dQ dQ) t4.1), .dat ((d2 dQ dQ) t4.2), .dat ((dL dQ) s10), .dat (dQ x9)] _ _ _
      obtain ⟨put_in11, hput_in11, h⟩ := R.bind_inv h
      obtain ⟨row12, hrow12, h⟩ := R.bind_inv h
      refine sw_set (ev_cast (r := (dL dQ)) hrow12 (ev_call (x := (s10, x9)) hput_in11 (ea_cons (ev_var rfl) (ea_cons (ev_var rfl) ea_nil)))) ?_
      obtain rfl := R.ok_inj h
      exact .eq (.eq (.eq (.eq (.eq (.eq (.un .nil))))))
    show SW K _ _ [.dat (dI width1), .dat (dI height2), .dat ((d2 (d2 dQ dQ) (d2 dQ dQ)) side3), .dat ((d2 dQ dQ) t4.1), .dat ((d2 dQ dQ) t4.2), .dat ((dL dQ) s13), .un] _ _ _
    obtain ⟨c16, hc16, h⟩ := R.bind_inv h
    obtain ⟨c17, hc17, h⟩ := R.bind_inv h
    obtain ⟨c18, hc18, h⟩ := R.bind_inv h
    exact sw_retO (en_cast (r := (d2 dQ dQ)) h (en_cat hc18 (EV.frz (en_cat hc17 (EV.frz (en_lst (ds := [t4.1].map (d2 dQ dQ)) (ea_cons (ev_var rfl) ea_nil))) (EV.frz (en_compR (rb := (d2 dQ dQ)) (js := [6]) (iv_list (ev_var rfl)) hc16 (by rfl) (by decide) (fun x14 _ => ⟨_, (gt_name 6 _ _), fun y h => by obtain ⟨point15, hpoint15, h⟩ := R.bind_inv h; exact ev_cast (r := (d2 dQ dQ)) h (ev_call (x := (t4.1, t4.2, x14)) hpoint15 (ea_cons (ev_var rfl) (ea_cons (ev_var rfl) (ea_cons (ev_var rfl) ea_nil))))⟩))))) (EV.frz (en_lst (ds := [t4.2].map (d2 dQ dQ)) (ea_cons (ev_var rfl) ea_nil))))) rfl
abbrev s_middle : Stmt := topS 20
abbrev n_middle : List Str := ["one", "other"]
theorem sc_middle : FnScope n_middle ["one", "other"] (defScope s_middle) := ⟨rfl, rfl, rfl, by decide +kernel, rfl, by decide +kernel, by decide +kernel⟩
abbrev sp_middle (K : PySem.W.Frag) : Sp := spR K (fun (x : Rat × Rat) => [dQ x.1, dQ x.2]) (fun (x : Rat × Rat) => p_middle x.1 x.2) dQ
set_option maxHeartbeats 4000000 in
theorem ok_middle {f : Addr} {fd : FuncData} (F : FnP K "middle" s_middle f fd) {f_plus : Addr} {fd_plus : FuncData} (F_plus : FnP K "plus" s_plus f_plus fd_plus) (b_plus : Binds K fd_plus ["one", "other"] []) (g_plus : mg "plus" = some (.ref f_plus)) {f_times : Addr} {fd_times : FuncData} (F_times : FnP K "times" s_times f_times fd_times) (b_times : Binds K fd_times ["one", "other"] []) (g_times : mg "times" = some (.ref f_times)) (G_plus : FnOk P w K mg base CX0 43 f_plus fd_plus ["one", "other"] (sp_plus K)) (G_times : FnOk P w K mg base CX0 43 f_times fd_times ["one", "other"] (sp_times K)) {v_HALF : Addr} (c_HALF : mg "HALF" = some (.ref v_HALF) ∧ ∀ F, Dat K F (.ref v_HALF) (dQ (1 / 2 : Rat))) : FnOk P w K mg base CX0 44 f fd ["one", "other"] (sp_middle K) := by
  refine F.ok sc_middle (fun vs H Q E h => ?_) (fun cdv A outer s H vs Q E hr h => ?_)
  · obtain ⟨x, _, _, _, _, d, _⟩ := h
    exact d.length
  · skip
    refine ⟨_, PSs.nox (pss_one (ps_ret (pe_call G_times (hr.mono (by decide)) (by rfl) g_times F_times.kp b_times .nil pass0 (pa_cons (pe_call G_plus (hr.mono (by decide)) (by rfl) g_plus F_plus.kp b_plus .nil pass0 (pa_cons (pv 0) (pa_cons (pv 1) pa_nil))) (pa_cons (pe_glob rfl c_HALF.1 (show RelV (.ref v_HALF) _ from rfl)) pa_nil))))), ?_⟩
    refine spR_run (n := 2) (k := 0) rfl (fun _ => rfl) (fun x b h => ?_) h
    obtain ⟨one1, other2⟩ := x
    show SW K _ _ [.dat (dQ one1), .dat (dQ other2)] _ _ _
    have h : p_middle one1 other2 = R.ok b := h
    unfold p_middle at h
    obtain ⟨plus3, hplus3, h⟩ := R.bind_inv h
    obtain ⟨times4, htimes4, h⟩ := R.bind_inv h
    exact sw_ret (ev_cast (r := dQ) h (ev_call (x := (plus3, (1 / 2 : Rat))) htimes4 (ea_cons (ev_call (x := (one1, other2)) hplus3 (ea_cons (ev_var rfl) (ea_cons (ev_var rfl) ea_nil))) (ea_cons (ev_k c_HALF.2) ea_nil)))) rfl
abbrev s_pieces : Stmt := topS 21
abbrev n_pieces : List Str := ["width", "height", "side", "come", "points", "k", "one", "other", "column", "row"]
theorem sc_pieces : FnScope n_pieces ["width", "height", "side"] (defScope s_pieces) := ⟨rfl, rfl, rfl, by decide +kernel, rfl, by decide +kernel, by decide +kernel⟩
abbrev sp_pieces (K : PySem.W.Frag) : Sp := spN K (fun (x : Int × Int × ((Rat × Rat) × (Rat × Rat))) => [dI x.1, dI x.2.1, (d2 (d2 dQ dQ) (d2 dQ dQ)) x.2.2]) (fun (x : Int × Int × ((Rat × Rat) × (Rat × Rat))) => p_pieces x.1 x.2.1 x.2.2) (d4 dI dI (d2 dQ dQ) (d2 dQ dQ))
set_option maxHeartbeats 4000000 in
theorem ok_pieces {f : Addr} {fd : FuncData} (F : FnP K "pieces" s_pieces f fd) {f_middle : Addr} {fd_middle : FuncData} (F_middle : FnP K "middle" s_middle f_middle fd_middle) (b_middle : Binds K fd_middle ["one", "other"] []) (g_middle : mg "middle" = some (.ref f_middle)) {f_points_on : Addr} {fd_points_on : FuncData} (F_points_on : FnP K "points_on" s_points_on f_points_on fd_points_on) (b_points_on : Binds K fd_points_on ["width", "height", "side"] []) (g_points_on : mg "points_on" = some (.ref f_points_on)) {f_whole_part : Addr} {fd_whole_part : FuncData} (F_whole_part : FnP K "whole_part" s_whole_part f_whole_part fd_whole_part) (b_whole_part : Binds K fd_whole_part ["one"] []) (g_whole_part : mg "whole_part" = some (.ref f_whole_part)) (G_middle : FnOk P w K mg base CX0 44 f_middle fd_middle ["one", "other"] (sp_middle K)) (G_points_on : FnOk P w K mg base CX0 45 f_points_on fd_points_on ["width", "height", "side"] (sp_points_on K)) (G_whole_part : FnOk P w K mg base CX0 41 f_whole_part fd_whole_part ["one"] (sp_whole_part K)) (z_len : mg "len" = none) (z_max : mg "max" = none) (z_range : mg "range" = none) : FnOk P w K mg base CX0 46 f fd ["width", "height", "side"] (sp_pieces K) := by
  refine F.ok sc_pieces (fun vs H Q E h => ?_) (fun cdv A outer s H vs Q E hr h => ?_)
  · obtain ⟨x, _, _, _, _, d, _⟩ := h
    exact d.length
  · skip
    refine ⟨_, PSs.nox (pss_cons (ps_set (i := 3) sc_pieces.nd rfl (Or.inl rfl) (pe_lst pa_nil)) (pss_cons (ps_if (pt_cmpR (r := rEqD K) (op_eqD hr.units) (pe_ix (r := rIxT K) ix_tup (pv 2) pe_int (fun _ _ => rfl)) (pe_ix (r := rIxT K) ix_tup (pv 2) pe_int (fun _ _ => rfl)) (nomark _)) (pss_one (ps_ret (pv 3))) pss_nil) (pss_cons (ps_set (i := 4) sc_pieces.nd rfl (Or.inl rfl) (pe_call G_points_on (hr.mono (by decide)) (by rfl) g_points_on F_points_on.kp b_points_on .nil pass0 (pa_cons (pv 0) (pa_cons (pv 1) (pa_cons (pv 2) pa_nil))))) (pss_cons (ps_for PassesOwn.never rfl (pi_range1 (by rfl) z_range (pa_cons (pe_op op_sub (pe_callB (id := "len") (r := rLenP K) cl_len (by rfl) z_len (by decide +kernel) (pa_cons (pv 4) pa_nil)) pe_int) pa_nil)) (pg_name (i := 5) sc_pieces.nd rfl (Or.inl rfl)) (pss_cons (ps_set (i := 6) sc_pieces.nd rfl (Or.inl rfl) (pe_ix (r := rIxL K) ix_list (pv 4) (pv 5) (fun _ _ => rfl))) (pss_cons (ps_set (i := 7) sc_pieces.nd rfl (Or.inl rfl) (pe_ix (r := rIxL K) ix_list (pv 4) (pe_op op_add (pv 5) pe_int) (fun _ _ => rfl))) (pss_cons (ps_set (i := 8) sc_pieces.nd rfl (Or.inl rfl) (pe_call G_whole_part (hr.mono (by decide)) (by rfl) g_whole_part F_whole_part.kp b_whole_part .nil pass0 (pa_cons (pe_call G_middle (hr.mono (by decide)) (by rfl) g_middle F_middle.kp b_middle .nil pass0 (pa_cons (pe_ix (r := rIxT K) ix_tup (pv 6) pe_int (fun _ _ => rfl)) (pa_cons (pe_ix (r := rIxT K) ix_tup (pv 7) pe_int (fun _ _ => rfl)) pa_nil))) pa_nil))) (pss_cons (ps_set (i := 9) sc_pieces.nd rfl (Or.inl rfl) (pe_call G_whole_part (hr.mono (by decide)) (by rfl) g_whole_part F_whole_part.kp b_whole_part .nil pass0 (pa_cons (pe_call G_middle (hr.mono (by decide)) (by rfl) g_middle F_middle.kp b_middle .nil pass0 (pa_cons (pe_ix (r := rIxT K) ix_tup (pv 6) pe_int (fun _ _ => rfl)) (pa_cons (pe_ix (r := rIxT K) ix_tup (pv 7) pe_int (fun _ _ => rfl)) pa_nil))) pa_nil))) (pss_one (ps_if (PW.pt (pw_and (pt_chain op_le op_lt pe_int (pv 9) (pv 1)) (pw_and1 (pt_cmpR op_lt (pv 8) (pv 0) (nomark _))))) (pss_one (ps_expr (pe_bm PySem.F.plainAttrs_list PySem.F.slot_list_append PySem.F.type_list_append mt_append (pv 3) (pa_cons (pe_tup (pa_cons (pe_callB (id := "max") (cl_max rfl) (by rfl) z_max (by decide +kernel) (pa_cons (pv 8) (pa_cons (pe_un un_neg pe_int) pa_nil))) (pa_cons (pv 9) (pa_cons (pv 6) (pa_cons (pv 7) pa_nil))))) pa_nil)))) pss_nil))))))) (pss_one (ps_ret (pv 3))))))), ?_⟩
    refine spN_run (n := 3) (k := 7) rfl (fun _ => rfl) (fun x b h => ?_) h
    obtain ⟨width1, height2, side3⟩ := x
    show SW K _ _ [.dat (dI width1), .dat (dI height2), .dat ((d2 (d2 dQ dQ) (d2 dQ dQ)) side3), .un, .un, .un, .un, .un, .un, .un] _ _ _
    have h : p_pieces width1 height2 side3 = R.ok b := h
    unfold p_pieces at h
    obtain ⟨come4, hcome4, h⟩ := R.bind_inv h
    refine sw_seq (sw_own (en_cast (r := (d4 dI dI (d2 dQ dQ) (d2 dQ dQ))) hcome4 (en_lst ea_nil)) (Nat.le_of_ble_eq_true rfl) ?_)
    show SW K _ _ [.dat (dI width1), .dat (dI height2), .dat ((d2 (d2 dQ dQ) (d2 dQ dQ)) side3), .ownN none (come4.map (d4 dI dI (d2 dQ dQ) (d2 dQ dQ))), .un, .un, .un, .un, .un, .un] _ _ _
    refine sw_seq (sw_if (et_test (ev_eqD (eq2 eqQ eqQ) (ev_ixT (k := 0) (ev_var rfl) (ev_c _) (by rfl) rfl) (ev_ixT (k := 1) (ev_var rfl) (ev_c _) (by rfl) rfl))) (fun hc => ?_) (fun hc => ?_))
    · have h := if_t hc h
      obtain rfl := R.ok_inj h
      exact sw_retV rfl rfl
    · have h := if_f hc h
      refine sw_next ?_
      show SW K _ _ [.dat (dI width1), .dat (dI height2), .dat ((d2 (d2 dQ dQ) (d2 dQ dQ)) side3), .ownN none (come4.map (d4 dI dI (d2 dQ dQ) (d2 dQ dQ))), .un, .un, .un, .un, .un, .un] _ _ _
      obtain ⟨points5, hpoints5, h⟩ := R.bind_inv h
      obtain ⟨points6, hpoints6, h⟩ := R.bind_inv h
      refine sw_seq (sw_set (ev_cast (r := (dL (d2 dQ dQ))) hpoints6 (EV.frz (en_call (x := (width1, height2, side3)) hpoints5 (ea_cons (ev_var rfl) (ea_cons (ev_var rfl) (ea_cons (ev_var rfl) ea_nil)))))) ?_)
      show SW K _ _ [.dat (dI width1), .dat (dI height2), .dat ((d2 (d2 dQ dQ) (d2 dQ dQ)) side3), .ownN none (come4.map (d4 dI dI (d2 dQ dQ) (d2 dQ dQ))), .dat ((dL (d2 dQ dQ)) points6), .un, .un, .un, .un, .un] _ _ _
      obtain ⟨r7, hr7, h⟩ := R.bind_inv h
      obtain ⟨s21, hs21, h⟩ := R.bind_inv h
      refine sw_seq (sw_forR (ra := dI) (js := [5]) _ (fun (z : (List (Int × Int × (Rat × Rat) × (Rat × Rat)))) => [.dat (dI width1), .dat (dI height2), .dat ((d2 (d2 dQ dQ) (d2 dQ dQ)) side3), .ownN none (z.map (d4 dI dI (d2 dQ dQ) (d2 dQ dQ))), .dat ((dL (d2 dQ dQ)) points6), .un, .un, .un, .un, .un]) _ (iv_rng1 hr7 (ev_i0 (g := fun i j => .int (i - j)) (ev_lenM (ev_lenL (ev_var rfl))) (ev_c _))) hs21 (.eq (.eq (.eq (.eq (.eq (.un (.un (.un (.un (.un .nil)))))))))) (fun x8 s9 s' _ h => ⟨_, (gt_name 5 _ _), ?_⟩) ?_)
      · show SW K _ _ [.dat (dI width1), .dat (dI height2), .dat ((d2 (d2 dQ dQ) (d2 dQ dQ)) side3), .ownN none (s9.map (d4 dI dI (d2 dQ dQ) (d2 dQ dQ))), .dat ((dL (d2 dQ dQ)) points6), .dat (dI x8), .un, .un, .un, .un] _ _ _
        obtain ⟨it10, hit10, h⟩ := R.bind_inv h
        obtain ⟨one11, hone11, h⟩ := R.bind_inv h
        refine sw_seq (sw_set (ev_cast (r := (d2 dQ dQ)) hone11 (ev_atL (r := (d2 dQ dQ)) hit10 (ev_var rfl) (ev_var rfl))) ?_)
        show SW K _ _ [.dat (dI width1), .dat (dI height2), .dat ((d2 (d2 dQ dQ) (d2 dQ dQ)) side3), .ownN none (s9.map (d4 dI dI (d2 dQ dQ) (d2 dQ dQ))), .dat ((dL (d2 dQ dQ)) points6), .dat (dI x8), .dat ((d2 dQ dQ) one11), .un, .un, .un] _ _ _
        obtain ⟨it12, hit12, h⟩ := R.bind_inv h
        obtain ⟨other13, hother13, h⟩ := R.bind_inv h
        refine sw_seq (sw_set (ev_cast (r := (d2 dQ dQ)) hother13 (ev_atL (r := (d2 dQ dQ)) hit12 (ev_var rfl) (ev_i0 (g := fun i j => .int (i + j)) (ev_var rfl) (ev_c _)))) ?_)
        show SW K _ _ [.dat (dI width1), .dat (dI height2), .dat ((d2 (d2 dQ dQ) (d2 dQ dQ)) side3), .ownN none (s9.map (d4 dI dI (d2 dQ dQ) (d2 dQ dQ))), .dat ((dL (d2 dQ dQ)) points6), .dat (dI x8), .dat ((d2 dQ dQ) one11), .dat ((d2 dQ dQ) other13), .un, .un] _ _ _
        obtain ⟨middle14, hmiddle14, h⟩ := R.bind_inv h
        obtain ⟨whole15, hwhole15, h⟩ := R.bind_inv h
        obtain ⟨column16, hcolumn16, h⟩ := R.bind_inv h
        refine sw_seq (sw_set (ev_cast (r := dI) hcolumn16 (ev_call (x := middle14) hwhole15 (ea_cons (ev_call (x := (one11.1, other13.1)) hmiddle14 (ea_cons (ev_ixT (k := 0) (ev_var rfl) (ev_c _) (by rfl) rfl) (ea_cons (ev_ixT (k := 0) (ev_var rfl) (ev_c _) (by rfl) rfl) ea_nil))) ea_nil))) ?_)
        show SW K _ _ [.dat (dI width1), .dat (dI height2), .dat ((d2 (d2 dQ dQ) (d2 dQ dQ)) side3), .ownN none (s9.map (d4 dI dI (d2 dQ dQ) (d2 dQ dQ))), .dat ((dL (d2 dQ dQ)) points6), .dat (dI x8), .dat ((d2 dQ dQ) one11), .dat ((d2 dQ dQ) other13), .dat (dI column16), .un] _ _ _
        obtain ⟨middle17, hmiddle17, h⟩ := R.bind_inv h
        obtain ⟨whole18, hwhole18, h⟩ := R.bind_inv h
        obtain ⟨row19, hrow19, h⟩ := R.bind_inv h
        refine sw_seq (sw_set (ev_cast (r := dI) hrow19 (ev_call (x := middle17) hwhole18 (ea_cons (ev_call (x := (one11.2, other13.2)) hmiddle17 (ea_cons (ev_ixT (k := 1) (ev_var rfl) (ev_c _) (by rfl) rfl) (ea_cons (ev_ixT (k := 1) (ev_var rfl) (ev_c _) (by rfl) rfl) ea_nil))) ea_nil))) ?_)
        show SW K _ _ [.dat (dI width1), .dat (dI height2), .dat ((d2 (d2 dQ dQ) (d2 dQ dQ)) side3), .ownN none (s9.map (d4 dI dI (d2 dQ dQ) (d2 dQ dQ))), .dat ((dL (d2 dQ dQ)) points6), .dat (dI x8), .dat ((d2 dQ dQ) one11), .dat ((d2 dQ dQ) other13), .dat (dI column16), .dat (dI row19)] _ _ _
        refine sw_if (et_and (et_test (ev_chain (p := fun i j => decide (i ≤ j)) (p' := fun i j => decide (i < j)) (ev_c _) (ev_var rfl) (fun _ => (ev_var rfl)))) (fun hc => (et_test (ev_i0 (g := fun i j => .bl (decide (i < j))) (ev_var rfl) (ev_var rfl))))) (fun hc => ?_) (fun hc => ?_)
        · have h := if_t hc h
          obtain ⟨come20, hcome20, h⟩ := R.bind_inv h
          refine sw_app (r := (d4 dI dI (d2 dQ dQ) (d2 dQ dQ))) hcome20 rfl (ev_tup (ea_cons (ev_max (ev_var rfl) (ev_u (g := fun i => .int (-i)) (ev_c _))) (ea_cons (ev_var rfl) (ea_cons (ev_var rfl) (ea_cons (ev_var rfl) ea_nil))))) ?_
          obtain rfl := R.ok_inj h
          exact .eq (.eq (.eq (.eq (.eq (.un (.un (.un (.un (.un .nil)))))))))
        · have h := if_f hc h
          refine sw_next ?_
          obtain rfl := R.ok_inj h
          exact .eq (.eq (.eq (.eq (.eq (.un (.un (.un (.un (.un .nil)))))))))
      show SW K _ _ [.dat (dI width1), .dat (dI height2), .dat ((d2 (d2 dQ dQ) (d2 dQ dQ)) side3), .ownN none (s21.map (d4 dI dI (d2 dQ dQ) (d2 dQ dQ))), .dat ((dL (d2 dQ dQ)) points6), .un, .un, .un, .un, .un] _ _ _
      obtain rfl := R.ok_inj h
      exact sw_retV rfl rfl
abbrev s__law_cell : Stmt := topS 23
abbrev n__law_cell : List Str := ["_law_script", "_law_k", "_law_seed", "_law_some"]
theorem sc__law_cell : FnScope n__law_cell ["_law_script", "_law_k"] (defScope s__law_cell) := ⟨rfl, rfl, rfl, by decide +kernel, rfl, by decide +kernel, by decide +kernel⟩
abbrev sp__law_cell (K : PySem.W.Frag) : Sp := spR K (fun (x : (List Int) × Int) => [(dL dI) x.1, dI x.2]) (fun (x : (List Int) × Int) => l_cell x.1 x.2) dI
set_option maxHeartbeats 4000000 in
theorem ok__law_cell {f : Addr} {fd : FuncData} (F : FnP K "_law_cell" s__law_cell f fd) (z_len : mg "len" = none) (hS : base.NoSeer) (hT : P.given.tree = none) : FnOk P w K mg base CX0 41 f fd ["_law_script", "_law_k"] (sp__law_cell K) := by
  refine F.ok sc__law_cell (fun vs H Q E h => ?_) (fun cdv A outer s H vs Q E hr h => ?_)
  · obtain ⟨x, _, _, _, _, d, _⟩ := h
    exact d.length
  · have hp := pyRm (qual := "_law_cell") (sc := defScope s__law_cell) (n := s.heap.objs.size) (f := f) (cd := cdv) (outer := outer) hS hT hr (by decide) rfl rfl
    refine ⟨_, PSs.nox (pss_cons (ps_if (pt_cmpR op_lt (pv 1) (pe_callB (id := "len") (r := rLenP K) cl_len (by rfl) z_len (by decide +kernel) (pa_cons (pv 0) pa_nil)) (nomark _)) (pss_one (ps_ret (pe_ix (r := rIxL K) ix_list (pv 0) (pv 1) (fun _ _ => rfl)))) pss_nil) (pss_cons (ps_set (i := 2) sc__law_cell.nd rfl (Or.inl rfl) (pe_op op_mulP (pv 1) pe_int)) (pss_cons (ps_if (pt_cmpR op_gt (pe_callB (id := "len") (r := rLenP K) cl_len (by rfl) z_len (by decide +kernel) (pa_cons (pv 0) pa_nil)) pe_int (nomark _)) (pss_one (ps_set (i := 2) sc__law_cell.nd rfl (Or.inl rfl) (pe_op op_add (pv 2) (pe_op op_modN (pe_ix (r := rIxL K) ix_list (pv 0) (pe_op op_modN (pv 1) (pe_callB (id := "len") (r := rLenP K) cl_len (by rfl) z_len (by decide +kernel) (pa_cons (pv 0) pa_nil))) (fun _ _ => rfl)) pe_int)))) pss_nil) (pss_cons (ps_set (i := 3) sc__law_cell.nd rfl (Or.inl rfl) (pe_op op_modN (pe_op op_mulP (pv 2) pe_int) pe_int)) (pss_one (ps_ret (pe_op op_modN (pe_op (op_fdivP hp) (pe_op op_mulP (pv 3) (pe_op op_add (pe_op op_add (pv 3) (pe_op op_mulP pe_int (pv 1))) pe_int)) pe_int) pe_int))))))), ?_⟩
    refine spR_run (n := 2) (k := 2) rfl (fun _ => rfl) (fun x b h => ?_) h
    obtain ⟨script1, k2⟩ := x
    show SW K _ _ [.dat ((dL dI) script1), .dat (dI k2), .un, .un] _ _ _
    have h : l_cell script1 k2 = R.ok b := h
    unfold l_cell at h
    refine sw_seq (sw_if (et_test (ev_i0 (g := fun i j => .bl (decide (i < j))) (ev_var rfl) (ev_lenM (ev_lenL (ev_var rfl))))) (fun hc => ?_) (fun hc => ?_))
    · have h := if_t hc h
      obtain ⟨it3, hit3, h⟩ := R.bind_inv h
      exact sw_ret (ev_cast (r := dI) h (ev_atL (r := dI) hit3 (ev_var rfl) (ev_var rfl))) rfl
    · have h := if_f hc h
      refine sw_next ?_
      show SW K _ _ [.dat ((dL dI) script1), .dat (dI k2), .un, .un] _ _ _
      obtain ⟨p4, hp4, h⟩ := R.bind_inv h
      obtain ⟨seed5, hseed5, h⟩ := R.bind_inv h
      refine sw_seq (sw_set (ev_cast (r := dI) hseed5 (ev_mul hp4 (ev_var rfl) (ev_c _))) ?_)
      show SW K _ _ [.dat ((dL dI) script1), .dat (dI k2), .dat (dI seed5), .un] _ _ _
      obtain ⟨st6, hst6, h⟩ := R.bind_inv h
      refine sw_seq (sw_mono (Nx := fun e => Wk e [.dat ((dL dI) script1), .dat (dI k2), .dat (dI st6), .un]) (sw_if (et_test (ev_i0 (g := fun i j => .bl (decide (j < i))) (ev_lenM (ev_lenL (ev_var rfl))) (ev_c _))) (fun hc => ?_) (fun hc => ?_)) (fun e w => sw_weak w ?_))
      · have h := if_t hc hst6
        clear hst6
        obtain ⟨m7, hm7, h⟩ := R.bind_inv h
        obtain ⟨it8, hit8, h⟩ := R.bind_inv h
        obtain ⟨seed9, hseed9, h⟩ := R.bind_inv h
        refine sw_set (ev_cast (r := dI) hseed9 (ev_i0 (g := fun i j => .int (i + j)) (ev_var rfl) (ev_modP (by decide +kernel) (ev_atL (r := dI) hit8 (ev_var rfl) (ev_fmod hm7 (ev_var rfl) (ev_lenM (ev_lenL (ev_var rfl))))) (ev_c _)))) ?_
        obtain rfl := R.ok_inj h
        exact .eq (.eq (.eq (.un .nil)))
      · have h := if_f hc hst6
        clear hst6
        refine sw_next ?_
        obtain rfl := R.ok_inj h
        exact .eq (.eq (.eq (.un .nil)))
      show SW K _ _ [.dat ((dL dI) script1), .dat (dI k2), .dat (dI st6), .un] _ _ _
      obtain ⟨p10, hp10, h⟩ := R.bind_inv h
      obtain ⟨some11, hsome11, h⟩ := R.bind_inv h
      refine sw_seq (sw_set (ev_cast (r := dI) hsome11 (ev_modP (by decide +kernel) (ev_mul hp10 (ev_var rfl) (ev_c _)) (ev_c _))) ?_)
      show SW K _ _ [.dat ((dL dI) script1), .dat (dI k2), .dat (dI st6), .dat (dI some11)] _ _ _
      obtain ⟨p12, hp12, h⟩ := R.bind_inv h
      obtain ⟨p13, hp13, h⟩ := R.bind_inv h
      exact sw_ret (ev_cast (r := dI) h (ev_modP (by decide +kernel) (ev_divP (by decide +kernel) (ev_mul hp13 (ev_var rfl) (ev_i0 (g := fun i j => .int (i + j)) (ev_i0 (g := fun i j => .int (i + j)) (ev_var rfl) (ev_mul hp12 (ev_c _) (ev_var rfl))) (ev_c _))) (ev_c _)) (ev_c _))) rfl
abbrev s__law_spread : Stmt := topS 24
abbrev n__law_spread : List Str := ["_law_cell_here", "_law_k"]
theorem sc__law_spread : FnScope n__law_spread ["_law_cell_here", "_law_k"] (defScope s__law_spread) := ⟨rfl, rfl, rfl, by decide +kernel, rfl, by decide +kernel, by decide +kernel⟩
abbrev sp__law_spread (K : PySem.W.Frag) : Sp := spR K (fun (x : Int × Int) => [dI x.1, dI x.2]) (fun (x : Int × Int) => l_spread x.1 x.2) dI
set_option maxHeartbeats 4000000 in
theorem ok__law_spread {f : Addr} {fd : FuncData} (F : FnP K "_law_spread" s__law_spread f fd)  : FnOk P w K mg base CX0 41 f fd ["_law_cell_here", "_law_k"] (sp__law_spread K) := by
  refine F.ok sc__law_spread (fun vs H Q E h => ?_) (fun cdv A outer s H vs Q E hr h => ?_)
  · obtain ⟨x, _, _, _, _, d, _⟩ := h
    exact d.length
  · skip
    refine ⟨_, PSs.nox (pss_cons (ps_if (pt_chain op_lt op_lt (pe_un un_neg pe_int) (pv 0) pe_int) (pss_one (ps_ret (pe_op op_modN (pe_op op_mulP (pe_op op_add (pe_op op_mulP (pe_op op_add (pv 0) pe_int) (pe_op op_add (pe_op op_add (pv 0) pe_int) (pe_op op_mulP pe_int (pv 1)))) (pe_op op_mulP pe_int (pv 1))) pe_int) pe_int))) pss_nil) (pss_one (ps_ret (pv 0)))), ?_⟩
    refine spR_run (n := 2) (k := 0) rfl (fun _ => rfl) (fun x b h => ?_) h
    obtain ⟨cell1, k2⟩ := x
    show SW K _ _ [.dat (dI cell1), .dat (dI k2)] _ _ _
    have h : l_spread cell1 k2 = R.ok b := h
    unfold l_spread at h
    refine sw_seq (sw_if (et_test (ev_chain (p := fun i j => decide (i < j)) (p' := fun i j => decide (i < j)) (ev_u (g := fun i => .int (-i)) (ev_c _)) (ev_var rfl) (fun _ => (ev_c _)))) (fun hc => ?_) (fun hc => ?_))
    · have h := if_t hc h
      obtain ⟨p3, hp3, h⟩ := R.bind_inv h
      obtain ⟨p4, hp4, h⟩ := R.bind_inv h
      obtain ⟨p5, hp5, h⟩ := R.bind_inv h
      obtain ⟨p6, hp6, h⟩ := R.bind_inv h
      exact sw_ret (ev_cast (r := dI) h (ev_modP (by decide +kernel) (ev_mul hp6 (ev_i0 (g := fun i j => .int (i + j)) (ev_mul hp4 (ev_i0 (g := fun i j => .int (i + j)) (ev_var rfl) (ev_c _)) (ev_i0 (g := fun i j => .int (i + j)) (ev_i0 (g := fun i j => .int (i + j)) (ev_var rfl) (ev_c _)) (ev_mul hp3 (ev_c _) (ev_var rfl)))) (ev_mul hp5 (ev_c _) (ev_var rfl))) (ev_c _)) (ev_c _))) rfl
    · have h := if_f hc h
      refine sw_next ?_
      show SW K _ _ [.dat (dI cell1), .dat (dI k2)] _ _ _
      exact sw_ret (ev_cast (r := dI) h (ev_var rfl)) rfl
abbrev s__law_whole : Stmt := topS 25
abbrev n__law_whole : List Str := ["_law_found"]
theorem sc__law_whole : FnScope n__law_whole ["_law_found"] (defScope s__law_whole) := ⟨rfl, rfl, rfl, by decide +kernel, rfl, by decide +kernel, by decide +kernel⟩
abbrev sp__law_whole (K : PySem.W.Frag) : Sp := spR K (fun (x : Int) => [dI x]) (fun (x : Int) => l_whole x) dB
set_option maxHeartbeats 4000000 in
theorem ok__law_whole {f : Addr} {fd : FuncData} (F : FnP K "_law_whole" s__law_whole f fd) (z_bool : mg "bool" = none) (z_int : mg "int" = none) (z_isinstance : mg "isinstance" = none) : FnOk P w K mg base CX0 41 f fd ["_law_found"] (sp__law_whole K) := by
  refine F.ok sc__law_whole (fun vs H Q E h => ?_) (fun cdv A outer s H vs Q E hr h => ?_)
  · obtain ⟨x, _, _, _, _, d, _⟩ := h
    exact d.length
  · skip
    refine ⟨_, PSs.nox (pss_one (ps_ret (pe_and (pe_callB (id := "isinstance") (r := rIsi K) call_isi (by rfl) z_isinstance (by decide +kernel) (pa_cons (pv 0) (pa_cons (pe_bltn (v := .ty "int") (u := .type "int") (by rfl) z_int (by decide +kernel) rfl) pa_nil))) (pe_one (pe_not (pe_callB (id := "isinstance") (r := rIsi K) call_isi (by rfl) z_isinstance (by decide +kernel) (pa_cons (pv 0) (pa_cons (pe_bltn (v := .ty "bool") (u := .type "bool") (by rfl) z_bool (by decide +kernel) rfl) pa_nil)))))))), ?_⟩
    refine spR_run (n := 1) (k := 0) rfl (fun _ => rfl) (fun x b h => ?_) h
    generalize x = found1 at h ⊢
    show SW K _ _ [.dat (dI found1)] _ _ _
    have h : l_whole found1 = R.ok b := h
    unfold l_whole at h
    exact sw_ret (ev_cast (r := dB) h (ev_andV (ev_isi (r := true) (ev_var rfl) rfl (by decide +kernel)) (fun hc => (ev_notV (ev_isi (r := false) (ev_var rfl) rfl (by decide +kernel)))))) rfl
abbrev s__law_ratio : Stmt := topS 26
abbrev n__law_ratio : List Str := ["_law_top", "_law_bottom", "_law_one", "_law_most", "_law_rest"]
theorem sc__law_ratio : FnScope n__law_ratio ["_law_top", "_law_bottom"] (defScope s__law_ratio) := ⟨rfl, rfl, rfl, by decide +kernel, rfl, by decide +kernel, by decide +kernel⟩
abbrev sp__law_ratio (K : PySem.W.Frag) : Sp := spR K (fun (x : Int × Int) => [dI x.1, dI x.2]) (fun (x : Int × Int) => l_ratio_3 x.1 x.2) dQ
set_option maxHeartbeats 4000000 in
theorem ok__law_ratio {f : Addr} {fd : FuncData} (F : FnP K "_law_ratio" s__law_ratio f fd) (z_abs : mg "abs" = none) (hS : base.NoSeer) (hT : P.given.tree = none) : FnOk P w K mg base CX0 41 f fd ["_law_top", "_law_bottom"] (sp__law_ratio K) := by
  refine F.ok sc__law_ratio (fun vs H Q E h => ?_) (fun cdv A outer s H vs Q E hr h => ?_)
  · obtain ⟨x, _, _, _, _, d, _⟩ := h
    exact d.length
  · have hp := pyRm (qual := "_law_ratio") (sc := defScope s__law_ratio) (n := s.heap.objs.size) (f := f) (cd := cdv) (outer := outer) hS hT hr (by decide) rfl rfl
    refine ⟨_, PSs.nox (pss_cons (ps_set (i := 2) sc__law_ratio.nd rfl (Or.inl rfl) (pe_callB (id := "abs") cl_abs (by rfl) z_abs (by decide +kernel) (pa_cons (pv 0) pa_nil))) (pss_cons (ps_set (i := 3) sc__law_ratio.nd rfl (Or.inl rfl) (pe_callB (id := "abs") cl_abs (by rfl) z_abs (by decide +kernel) (pa_cons (pv 1) pa_nil))) (pss_cons (ps_while PassesOwn.never (pt_cmpR op_gt (pv 2) pe_int (nomark _)) (pss_cons (ps_set (i := 4) sc__law_ratio.nd rfl (Or.inl rfl) (pe_op op_modN (pv 3) (pv 2))) (pss_cons (ps_set (i := 3) sc__law_ratio.nd rfl (Or.inl rfl) (pv 2)) (pss_one (ps_set (i := 2) sc__law_ratio.nd rfl (Or.inl rfl) (pv 4)))))) (pss_cons (ps_if (pt_cmpR op_lt (pv 1) pe_int (nomark _)) (pss_one (ps_set (i := 3) sc__law_ratio.nd rfl (Or.inl rfl) (pe_un un_neg (pv 3)))) pss_nil) (pss_one (ps_ret (pe_tup (pa_cons (pe_op (op_fdivP hp) (pv 0) (pv 3)) (pa_cons (pe_op (op_fdivP hp) (pv 1) (pv 3)) pa_nil))))))))), ?_⟩
    refine spR_run (n := 2) (k := 3) rfl (fun _ => rfl) (fun x b h => ?_) h
    obtain ⟨top1, bottom2⟩ := x
    show SW K _ _ [.dat (dI top1), .dat (dI bottom2), .un, .un, .un] _ _ _
    have h : l_ratio_3 top1 bottom2 = R.ok b := h
    unfold l_ratio_3 at h
    obtain ⟨one3, hone3, h⟩ := R.bind_inv h
    refine sw_seq (sw_set (ev_cast (r := dI) hone3 (ev_abs (ev_var rfl))) ?_)
    show SW K _ _ [.dat (dI top1), .dat (dI bottom2), .dat (dI one3), .un, .un] _ _ _
    obtain ⟨most4, hmost4, h⟩ := R.bind_inv h
    refine sw_seq (sw_set (ev_cast (r := dI) hmost4 (ev_abs (ev_var rfl))) ?_)
    show SW K _ _ [.dat (dI top1), .dat (dI bottom2), .dat (dI one3), .dat (dI most4), .un] _ _ _
    obtain ⟨g5, hg5, h⟩ := R.bind_inv h
    refine sw_seq (sw_gcd (fun (z : Int × Int) => [.dat (dI top1), .dat (dI bottom2), .dat (dI z.2), .dat (dI z.1), .un]) (x0 := most4) (y0 := one3) hg5 (.eq (.eq (.eq (.eq (.un .nil))))) (fun z => (et_test (ev_i0 (g := fun i j => .bl (decide (j < i))) (ev_var rfl) (ev_c _)))) (fun z w hm hw => sw_seq (sw_set (ev_fmod hm (ev_var rfl) (ev_var rfl)) (sw_seq (sw_set (ev_var rfl) (sw_set (ev_var rfl) ⟨(z.2, w), hw.1, hw.2, .eq (.eq (.eq (.eq (.un .nil))))⟩))))) ?_)
    show SW K _ _ [.dat (dI top1), .dat (dI bottom2), .dat (dI ((0 : Int))), .dat (dI g5), .un] _ _ _
    obtain ⟨st6, hst6, h⟩ := R.bind_inv h
    refine sw_seq (sw_mono (Nx := fun e => Wk e [.dat (dI top1), .dat (dI bottom2), .dat (dI ((0 : Int))), .dat (dI st6), .un]) (sw_if (et_test (ev_i0 (g := fun i j => .bl (decide (i < j))) (ev_var rfl) (ev_c _))) (fun hc => ?_) (fun hc => ?_)) (fun e w => sw_weak w ?_))
    · have h := if_t hc hst6
      clear hst6
      obtain ⟨most7, hmost7, h⟩ := R.bind_inv h
      refine sw_set (ev_cast (r := dI) hmost7 (ev_u (g := fun i => .int (-i)) (ev_var rfl))) ?_
      obtain rfl := R.ok_inj h
      exact .eq (.eq (.eq (.eq (.un .nil))))
    · have h := if_f hc hst6
      clear hst6
      refine sw_next ?_
      obtain rfl := R.ok_inj h
      exact .eq (.eq (.eq (.eq (.un .nil))))
    show SW K _ _ [.dat (dI top1), .dat (dI bottom2), .dat (dI ((0 : Int))), .dat (dI st6), .un] _ _ _
    obtain ⟨q8, hq8, h⟩ := R.bind_inv h
    obtain ⟨q9, hq9, h⟩ := R.bind_inv h
    obtain ⟨q10, hq10, h⟩ := R.bind_inv h
    exact sw_ret (ev_cast (r := dQ) h (ev_mkQ hq10 (ev_fdiv hq8 (ev_var rfl) (ev_var rfl)) (ev_fdiv hq9 (ev_var rfl) (ev_var rfl)))) rfl
abbrev s__law_plus : Stmt := topS 27
abbrev n__law_plus : List Str := ["_law_one", "_law_other"]
theorem sc__law_plus : FnScope n__law_plus ["_law_one", "_law_other"] (defScope s__law_plus) := ⟨rfl, rfl, rfl, by decide +kernel, rfl, by decide +kernel, by decide +kernel⟩
abbrev sp__law_plus (K : PySem.W.Frag) : Sp := spR K (fun (x : Rat × Rat) => [dQ x.1, dQ x.2]) (fun (x : Rat × Rat) => l_plus_2 x.1 x.2) dQ
set_option maxHeartbeats 4000000 in
theorem ok__law_plus {f : Addr} {fd : FuncData} (F : FnP K "_law_plus" s__law_plus f fd) {f__law_ratio : Addr} {fd__law_ratio : FuncData} (F__law_ratio : FnP K "_law_ratio" s__law_ratio f__law_ratio fd__law_ratio) (b__law_ratio : Binds K fd__law_ratio ["_law_top", "_law_bottom"] []) (g__law_ratio : mg "_law_ratio" = some (.ref f__law_ratio)) (G__law_ratio : FnOk P w K mg base CX0 41 f__law_ratio fd__law_ratio ["_law_top", "_law_bottom"] (sp__law_ratio K)) : FnOk P w K mg base CX0 42 f fd ["_law_one", "_law_other"] (sp__law_plus K) := by
  refine F.ok sc__law_plus (fun vs H Q E h => ?_) (fun cdv A outer s H vs Q E hr h => ?_)
  · obtain ⟨x, _, _, _, _, d, _⟩ := h
    exact d.length
  · skip
    refine ⟨_, PSs.nox (pss_one (ps_ret (pe_call G__law_ratio (hr.mono (by decide)) (by rfl) g__law_ratio F__law_ratio.kp b__law_ratio .nil pass0 (pa_cons (pe_op op_add (pe_op op_mulP (pe_ix (r := rIxT K) ix_tup (pv 0) pe_int (fun _ _ => rfl)) (pe_ix (r := rIxT K) ix_tup (pv 1) pe_int (fun _ _ => rfl))) (pe_op op_mulP (pe_ix (r := rIxT K) ix_tup (pv 1) pe_int (fun _ _ => rfl)) (pe_ix (r := rIxT K) ix_tup (pv 0) pe_int (fun _ _ => rfl)))) (pa_cons (pe_op op_mulP (pe_ix (r := rIxT K) ix_tup (pv 0) pe_int (fun _ _ => rfl)) (pe_ix (r := rIxT K) ix_tup (pv 1) pe_int (fun _ _ => rfl))) pa_nil))))), ?_⟩
    refine spR_run (n := 2) (k := 0) rfl (fun _ => rfl) (fun x b h => ?_) h
    obtain ⟨one1, other2⟩ := x
    show SW K _ _ [.dat (dQ one1), .dat (dQ other2)] _ _ _
    have h : l_plus_2 one1 other2 = R.ok b := h
    unfold l_plus_2 at h
    obtain ⟨p3, hp3, h⟩ := R.bind_inv h
    obtain ⟨p4, hp4, h⟩ := R.bind_inv h
    obtain ⟨p5, hp5, h⟩ := R.bind_inv h
    obtain ⟨r6, hr6, h⟩ := R.bind_inv h
    exact sw_ret (ev_cast (r := dQ) h (ev_call (x := ((p3 + p4), p5)) hr6 (ea_cons (ev_i0 (g := fun i j => .int (i + j)) (ev_mul hp3 (ev_ixT (k := 0) (ev_var rfl) (ev_c _) (by rfl) rfl) (ev_ixT (k := 1) (ev_var rfl) (ev_c _) (by rfl) rfl)) (ev_mul hp4 (ev_ixT (k := 0) (ev_var rfl) (ev_c _) (by rfl) rfl) (ev_ixT (k := 1) (ev_var rfl) (ev_c _) (by rfl) rfl))) (ea_cons (ev_mul hp5 (ev_ixT (k := 1) (ev_var rfl) (ev_c _) (by rfl) rfl) (ev_ixT (k := 1) (ev_var rfl) (ev_c _) (by rfl) rfl)) ea_nil)))) rfl
abbrev s__law_minus : Stmt := topS 28
abbrev n__law_minus : List Str := ["_law_one", "_law_other"]
theorem sc__law_minus : FnScope n__law_minus ["_law_one", "_law_other"] (defScope s__law_minus) := ⟨rfl, rfl, rfl, by decide +kernel, rfl, by decide +kernel, by decide +kernel⟩
abbrev sp__law_minus (K : PySem.W.Frag) : Sp := spR K (fun (x : Rat × Rat) => [dQ x.1, dQ x.2]) (fun (x : Rat × Rat) => l_minus_2 x.1 x.2) dQ
set_option maxHeartbeats 4000000 in
theorem ok__law_minus {f : Addr} {fd : FuncData} (F : FnP K "_law_minus" s__law_minus f fd) {f__law_ratio : Addr} {fd__law_ratio : FuncData} (F__law_ratio : FnP K "_law_ratio" s__law_ratio f__law_ratio fd__law_ratio) (b__law_ratio : Binds K fd__law_ratio ["_law_top", "_law_bottom"] []) (g__law_ratio : mg "_law_ratio" = some (.ref f__law_ratio)) (G__law_ratio : FnOk P w K mg base CX0 41 f__law_ratio fd__law_ratio ["_law_top", "_law_bottom"] (sp__law_ratio K)) : FnOk P w K mg base CX0 42 f fd ["_law_one", "_law_other"] (sp__law_minus K) := by
  refine F.ok sc__law_minus (fun vs H Q E h => ?_) (fun cdv A outer s H vs Q E hr h => ?_)
  · obtain ⟨x, _, _, _, _, d, _⟩ := h
    exact d.length
  · skip
    refine ⟨_, PSs.nox (pss_one (ps_ret (pe_call G__law_ratio (hr.mono (by decide)) (by rfl) g__law_ratio F__law_ratio.kp b__law_ratio .nil pass0 (pa_cons (pe_op op_sub (pe_op op_mulP (pe_ix (r := rIxT K) ix_tup (pv 0) pe_int (fun _ _ => rfl)) (pe_ix (r := rIxT K) ix_tup (pv 1) pe_int (fun _ _ => rfl))) (pe_op op_mulP (pe_ix (r := rIxT K) ix_tup (pv 1) pe_int (fun _ _ => rfl)) (pe_ix (r := rIxT K) ix_tup (pv 0) pe_int (fun _ _ => rfl)))) (pa_cons (pe_op op_mulP (pe_ix (r := rIxT K) ix_tup (pv 0) pe_int (fun _ _ => rfl)) (pe_ix (r := rIxT K) ix_tup (pv 1) pe_int (fun _ _ => rfl))) pa_nil))))), ?_⟩
    refine spR_run (n := 2) (k := 0) rfl (fun _ => rfl) (fun x b h => ?_) h
    obtain ⟨one1, other2⟩ := x
    show SW K _ _ [.dat (dQ one1), .dat (dQ other2)] _ _ _
    have h : l_minus_2 one1 other2 = R.ok b := h
    unfold l_minus_2 at h
    obtain ⟨p3, hp3, h⟩ := R.bind_inv h
    obtain ⟨p4, hp4, h⟩ := R.bind_inv h
    obtain ⟨p5, hp5, h⟩ := R.bind_inv h
    obtain ⟨r6, hr6, h⟩ := R.bind_inv h
    exact sw_ret (ev_cast (r := dQ) h (ev_call (x := ((p3 - p4), p5)) hr6 (ea_cons (ev_i0 (g := fun i j => .int (i - j)) (ev_mul hp3 (ev_ixT (k := 0) (ev_var rfl) (ev_c _) (by rfl) rfl) (ev_ixT (k := 1) (ev_var rfl) (ev_c _) (by rfl) rfl)) (ev_mul hp4 (ev_ixT (k := 0) (ev_var rfl) (ev_c _) (by rfl) rfl) (ev_ixT (k := 1) (ev_var rfl) (ev_c _) (by rfl) rfl))) (ea_cons (ev_mul hp5 (ev_ixT (k := 1) (ev_var rfl) (ev_c _) (by rfl) rfl) (ev_ixT (k := 1) (ev_var rfl) (ev_c _) (by rfl) rfl)) ea_nil)))) rfl
abbrev s__law_times : Stmt := topS 29
abbrev n__law_times : List Str := ["_law_one", "_law_other"]
theorem sc__law_times : FnScope n__law_times ["_law_one", "_law_other"] (defScope s__law_times) := ⟨rfl, rfl, rfl, by decide +kernel, rfl, by decide +kernel, by decide +kernel⟩
abbrev sp__law_times (K : PySem.W.Frag) : Sp := spR K (fun (x : Rat × Rat) => [dQ x.1, dQ x.2]) (fun (x : Rat × Rat) => l_times_2 x.1 x.2) dQ
set_option maxHeartbeats 4000000 in
theorem ok__law_times {f : Addr} {fd : FuncData} (F : FnP K "_law_times" s__law_times f fd) {f__law_ratio : Addr} {fd__law_ratio : FuncData} (F__law_ratio : FnP K "_law_ratio" s__law_ratio f__law_ratio fd__law_ratio) (b__law_ratio : Binds K fd__law_ratio ["_law_top", "_law_bottom"] []) (g__law_ratio : mg "_law_ratio" = some (.ref f__law_ratio)) (G__law_ratio : FnOk P w K mg base CX0 41 f__law_ratio fd__law_ratio ["_law_top", "_law_bottom"] (sp__law_ratio K)) : FnOk P w K mg base CX0 42 f fd ["_law_one", "_law_other"] (sp__law_times K) := by
  refine F.ok sc__law_times (fun vs H Q E h => ?_) (fun cdv A outer s H vs Q E hr h => ?_)
  · obtain ⟨x, _, _, _, _, d, _⟩ := h
    exact d.length
  · skip
    refine ⟨_, PSs.nox (pss_one (ps_ret (pe_call G__law_ratio (hr.mono (by decide)) (by rfl) g__law_ratio F__law_ratio.kp b__law_ratio .nil pass0 (pa_cons (pe_op op_mulP (pe_ix (r := rIxT K) ix_tup (pv 0) pe_int (fun _ _ => rfl)) (pe_ix (r := rIxT K) ix_tup (pv 1) pe_int (fun _ _ => rfl))) (pa_cons (pe_op op_mulP (pe_ix (r := rIxT K) ix_tup (pv 0) pe_int (fun _ _ => rfl)) (pe_ix (r := rIxT K) ix_tup (pv 1) pe_int (fun _ _ => rfl))) pa_nil))))), ?_⟩
    refine spR_run (n := 2) (k := 0) rfl (fun _ => rfl) (fun x b h => ?_) h
    obtain ⟨one1, other2⟩ := x
    show SW K _ _ [.dat (dQ one1), .dat (dQ other2)] _ _ _
    have h : l_times_2 one1 other2 = R.ok b := h
    unfold l_times_2 at h
    obtain ⟨p3, hp3, h⟩ := R.bind_inv h
    obtain ⟨p4, hp4, h⟩ := R.bind_inv h
    obtain ⟨r5, hr5, h⟩ := R.bind_inv h
    exact sw_ret (ev_cast (r := dQ) h (ev_call (x := (p3, p4)) hr5 (ea_cons (ev_mul hp3 (ev_ixT (k := 0) (ev_var rfl) (ev_c _) (by rfl) rfl) (ev_ixT (k := 0) (ev_var rfl) (ev_c _) (by rfl) rfl)) (ea_cons (ev_mul hp4 (ev_ixT (k := 1) (ev_var rfl) (ev_c _) (by rfl) rfl) (ev_ixT (k := 1) (ev_var rfl) (ev_c _) (by rfl) rfl)) ea_nil)))) rfl
abbrev s__law_is : Stmt := topS 30
abbrev n__law_is : List Str := ["_law_found", "_law_due_here"]
theorem sc__law_is : FnScope n__law_is ["_law_found", "_law_due_here"] (defScope s__law_is) := ⟨rfl, rfl, rfl, by decide +kernel, rfl, by decide +kernel, by decide +kernel⟩
abbrev sp__law_is (K : PySem.W.Frag) : Sp := spR K (fun (x : Rat × Rat) => [dQ x.1, dQ x.2]) (fun (x : Rat × Rat) => l_is_2 x.1 x.2) dB
set_option maxHeartbeats 4000000 in
theorem ok__law_is {f : Addr} {fd : FuncData} (F : FnP K "_law_is" s__law_is f fd) {f__law_whole : Addr} {fd__law_whole : FuncData} (F__law_whole : FnP K "_law_whole" s__law_whole f__law_whole fd__law_whole) (b__law_whole : Binds K fd__law_whole ["_law_found"] []) (g__law_whole : mg "_law_whole" = some (.ref f__law_whole)) (G__law_whole : FnOk P w K mg base CX0 41 f__law_whole fd__law_whole ["_law_found"] (sp__law_whole K)) (z_isinstance : mg "isinstance" = none) (z_len : mg "len" = none) (z_tuple : mg "tuple" = none) : FnOk P w K mg base CX0 42 f fd ["_law_found", "_law_due_here"] (sp__law_is K) := by
  refine F.ok sc__law_is (fun vs H Q E h => ?_) (fun cdv A outer s H vs Q E hr h => ?_)
  · obtain ⟨x, _, _, _, _, d, _⟩ := h
    exact d.length
  · skip
    refine ⟨_, PSs.nox (pss_cons (ps_if (PW.pt (pw_or (pt_not (pt_val (pe_callB (id := "isinstance") (r := rIsi K) call_isi (by rfl) z_isinstance (by decide +kernel) (pa_cons (pv 0) (pa_cons (pe_bltn (v := .ty "tuple") (u := .type "tuple") (by rfl) z_tuple (by decide +kernel) rfl) pa_nil))))) (pw_or (pt_cmpR op_ne (pe_callB (id := "len") (r := rLenP K) cl_len (by rfl) z_len (by decide +kernel) (pa_cons (pv 0) pa_nil)) pe_int (nomark _)) (pw_or (pt_not (pt_val (pe_call G__law_whole (hr.mono (by decide)) (by rfl) g__law_whole F__law_whole.kp b__law_whole .nil pass0 (pa_cons (pe_ix (r := rIxT K) ix_tup (pv 0) pe_int (fun _ _ => rfl)) pa_nil)))) (pw_or1 (pt_not (pt_val (pe_call G__law_whole (hr.mono (by decide)) (by rfl) g__law_whole F__law_whole.kp b__law_whole .nil pass0 (pa_cons (pe_ix (r := rIxT K) ix_tup (pv 0) pe_int (fun _ _ => rfl)) pa_nil))))))))) (pss_one (ps_ret pe_bl)) pss_nil) (pss_one (ps_ret (pe_cmpR (r := rEqD K) (op_eqD hr.units) (pv 0) (pv 1) (nomark _))))), ?_⟩
    refine spR_run (n := 2) (k := 0) rfl (fun _ => rfl) (fun x b h => ?_) h
    obtain ⟨found1, due2⟩ := x
    show SW K _ _ [.dat (dQ found1), .dat (dQ due2)] _ _ _
    have h : l_is_2 found1 due2 = R.ok b := h
    unfold l_is_2 at h
    obtain ⟨b7, hb7, h⟩ := R.bind_inv h
    refine sw_seq (sw_if (et_orR hb7 (et_not (et_b (ev_isi (r := true) (ev_var rfl) rfl (by decide +kernel)))) (fun hc h => by obtain ⟨b6, hb6, h⟩ := R.bind_inv h; exact et_cast h (et_orR hb6 (et_test (ev_neI (ev_lenW (n := 2) rfl (ev_var rfl)) (ev_c _))) (fun hc h => by obtain ⟨w3, hw3, h⟩ := R.bind_inv h; obtain ⟨b5, hb5, h⟩ := R.bind_inv h; exact et_cast h (et_orR hb5 (et_not (et_b (ev_call (x := found1.num) hw3 (ea_cons (ev_ixT (k := 0) (ev_var rfl) (ev_c _) (by rfl) rfl) ea_nil)))) (fun hc h => by obtain ⟨w4, hw4, h⟩ := R.bind_inv h; exact et_cast h (et_not (et_b (ev_call (x := (found1.den : Int)) hw4 (ea_cons (ev_ixT (k := 1) (ev_var rfl) (ev_c _) (by rfl) rfl) ea_nil)))))))))) (fun hc => ?_) (fun hc => ?_))
    · have h := if_t hc h
      exact sw_ret (ev_cast (r := dB) h (ev_c _)) rfl
    · have h := if_f hc h
      refine sw_next ?_
      show SW K _ _ [.dat (dQ found1), .dat (dQ due2)] _ _ _
      exact sw_ret (ev_cast (r := dB) h (ev_eqD eqQ (ev_var rfl) (ev_var rfl))) rfl
abbrev s__law_number : Stmt := topS 31
abbrev n__law_number : List Str := ["_law_cell_here"]
theorem sc__law_number : FnScope n__law_number ["_law_cell_here"] (defScope s__law_number) := ⟨rfl, rfl, rfl, by decide +kernel, rfl, by decide +kernel, by decide +kernel⟩
abbrev sp__law_number (K : PySem.W.Frag) : Sp := spR K (fun (x : Int) => [dI x]) (fun (x : Int) => l_number_2 x) dQ
set_option maxHeartbeats 4000000 in
theorem ok__law_number {f : Addr} {fd : FuncData} (F : FnP K "_law_number" s__law_number f fd) {f__law_ratio : Addr} {fd__law_ratio : FuncData} (F__law_ratio : FnP K "_law_ratio" s__law_ratio f__law_ratio fd__law_ratio) (b__law_ratio : Binds K fd__law_ratio ["_law_top", "_law_bottom"] []) (g__law_ratio : mg "_law_ratio" = some (.ref f__law_ratio)) (G__law_ratio : FnOk P w K mg base CX0 41 f__law_ratio fd__law_ratio ["_law_top", "_law_bottom"] (sp__law_ratio K)) (hS : base.NoSeer) (hT : P.given.tree = none) : FnOk P w K mg base CX0 42 f fd ["_law_cell_here"] (sp__law_number K) := by
  refine F.ok sc__law_number (fun vs H Q E h => ?_) (fun cdv A outer s H vs Q E hr h => ?_)
  · obtain ⟨x, _, _, _, _, d, _⟩ := h
    exact d.length
  · have hp := pyRm (qual := "_law_number") (sc := defScope s__law_number) (n := s.heap.objs.size) (f := f) (cd := cdv) (outer := outer) hS hT hr (by decide) rfl rfl
    refine ⟨_, PSs.nox (pss_cons (ps_if (pt_cmpR op_eq (pe_op op_modN (pv 0) pe_int) pe_int (nomark _)) (pss_one (ps_ret (pe_call G__law_ratio (hr.mono (by decide)) (by rfl) g__law_ratio F__law_ratio.kp b__law_ratio .nil pass0 (pa_cons (pe_op op_sub (pe_op op_modN (pe_op (op_fdivP hp) (pv 0) pe_int) (pe_op op_mulP pe_int (pe_op op_pow pe_int pe_int))) (pe_op op_pow pe_int pe_int)) (pa_cons (pe_op op_add pe_int (pe_op op_modN (pe_op (op_fdivP hp) (pv 0) pe_int) pe_int)) pa_nil))))) pss_nil) (pss_one (ps_ret (pe_call G__law_ratio (hr.mono (by decide)) (by rfl) g__law_ratio F__law_ratio.kp b__law_ratio .nil pass0 (pa_cons (pe_op op_sub (pe_op op_modN (pe_op (op_fdivP hp) (pv 0) pe_int) pe_int) pe_int) (pa_cons (pe_ix (r := rIxL K) ix_list (pe_lst (pa_cons pe_int (pa_cons pe_int (pa_cons pe_int (pa_cons pe_int (pa_cons pe_int (pa_cons pe_int (pa_cons pe_int pa_nil)))))))) (pe_op op_modN (pv 0) pe_int) (fun _ _ => rfl)) pa_nil)))))), ?_⟩
    refine spR_run (n := 1) (k := 0) rfl (fun _ => rfl) (fun x b h => ?_) h
    generalize x = cell1 at h ⊢
    show SW K _ _ [.dat (dI cell1)] _ _ _
    have h : l_number_2 cell1 = R.ok b := h
    unfold l_number_2 at h
    refine sw_seq (sw_if (et_test (ev_eqI (ev_modP (by decide +kernel) (ev_var rfl) (ev_c _)) (ev_c _))) (fun hc => ?_) (fun hc => ?_))
    · have h := if_t hc h
      obtain ⟨r2, hr2, h⟩ := R.bind_inv h
      exact sw_ret (ev_cast (r := dQ) h (ev_call (x := ((((cell1 / (8 : Int)) % (2000000000000 : Int)) - (1000000000000 : Int)), ((1 : Int) + ((cell1 / (8 : Int)) % (7 : Int))))) hr2 (ea_cons (ev_i0 (g := fun i j => .int (i - j)) (ev_modP (by decide +kernel) (ev_divP (by decide +kernel) (ev_var rfl) (ev_c _)) (ev_mulL (i := (2 : Int)) (j := (1000000000000 : Int)) (k := 2000000000000) (by decide +kernel) (by decide +kernel) (ev_c _) (ev_pow (i := (10 : Int)) (j := (12 : Int)) (n := 1000000000000) (by decide +kernel) (by decide +kernel) (ev_c _) (ev_c _)))) (ev_pow (i := (10 : Int)) (j := (12 : Int)) (n := 1000000000000) (by decide +kernel) (by decide +kernel) (ev_c _) (ev_c _))) (ea_cons (ev_i0 (g := fun i j => .int (i + j)) (ev_c _) (ev_modP (by decide +kernel) (ev_divP (by decide +kernel) (ev_var rfl) (ev_c _)) (ev_c _))) ea_nil)))) rfl
    · have h := if_f hc h
      refine sw_next ?_
      show SW K _ _ [.dat (dI cell1)] _ _ _
      obtain ⟨it3, hit3, h⟩ := R.bind_inv h
      obtain ⟨r4, hr4, h⟩ := R.bind_inv h
      exact sw_ret (ev_cast (r := dQ) h (ev_call (x := ((((cell1 / (8 : Int)) % (29 : Int)) - (6 : Int)), it3)) hr4 (ea_cons (ev_i0 (g := fun i j => .int (i - j)) (ev_modP (by decide +kernel) (ev_divP (by decide +kernel) (ev_var rfl) (ev_c _)) (ev_c _)) (ev_c _)) (ea_cons (ev_atL (r := dI) hit3 (EV.frz (en_lst (ds := [(4 : Int), (1 : Int), (2 : Int), (4 : Int), (3 : Int), (1 : Int), (6 : Int)].map dI) (ea_cons (ev_c _) (ea_cons (ev_c _) (ea_cons (ev_c _) (ea_cons (ev_c _) (ea_cons (ev_c _) (ea_cons (ev_c _) (ea_cons (ev_c _) ea_nil))))))))) (ev_modP (by decide +kernel) (ev_var rfl) (ev_c _))) ea_nil)))) rfl
abbrev s__law_at : Stmt := topS 32
abbrev n__law_at : List Str := ["_law_script", "_law_k"]
theorem sc__law_at : FnScope n__law_at ["_law_script", "_law_k"] (defScope s__law_at) := ⟨rfl, rfl, rfl, by decide +kernel, rfl, by decide +kernel, by decide +kernel⟩
abbrev sp__law_at (K : PySem.W.Frag) : Sp := spR K (fun (x : (List Int) × Int) => [(dL dI) x.1, dI x.2]) (fun (x : (List Int) × Int) => l_at x.1 x.2) dQ
set_option maxHeartbeats 4000000 in
theorem ok__law_at {f : Addr} {fd : FuncData} (F : FnP K "_law_at" s__law_at f fd) {f__law_cell : Addr} {fd__law_cell : FuncData} (F__law_cell : FnP K "_law_cell" s__law_cell f__law_cell fd__law_cell) (b__law_cell : Binds K fd__law_cell ["_law_script", "_law_k"] []) (g__law_cell : mg "_law_cell" = some (.ref f__law_cell)) {f__law_number : Addr} {fd__law_number : FuncData} (F__law_number : FnP K "_law_number" s__law_number f__law_number fd__law_number) (b__law_number : Binds K fd__law_number ["_law_cell_here"] []) (g__law_number : mg "_law_number" = some (.ref f__law_number)) {f__law_spread : Addr} {fd__law_spread : FuncData} (F__law_spread : FnP K "_law_spread" s__law_spread f__law_spread fd__law_spread) (b__law_spread : Binds K fd__law_spread ["_law_cell_here", "_law_k"] []) (g__law_spread : mg "_law_spread" = some (.ref f__law_spread)) (G__law_cell : FnOk P w K mg base CX0 41 f__law_cell fd__law_cell ["_law_script", "_law_k"] (sp__law_cell K)) (G__law_number : FnOk P w K mg base CX0 42 f__law_number fd__law_number ["_law_cell_here"] (sp__law_number K)) (G__law_spread : FnOk P w K mg base CX0 41 f__law_spread fd__law_spread ["_law_cell_here", "_law_k"] (sp__law_spread K)) : FnOk P w K mg base CX0 43 f fd ["_law_script", "_law_k"] (sp__law_at K) := by
  refine F.ok sc__law_at (fun vs H Q E h => ?_) (fun cdv A outer s H vs Q E hr h => ?_)
  · obtain ⟨x, _, _, _, _, d, _⟩ := h
    exact d.length
  · skip
    refine ⟨_, PSs.nox (pss_one (ps_ret (pe_call G__law_number (hr.mono (by decide)) (by rfl) g__law_number F__law_number.kp b__law_number .nil pass0 (pa_cons (pe_call G__law_spread (hr.mono (by decide)) (by rfl) g__law_spread F__law_spread.kp b__law_spread .nil pass0 (pa_cons (pe_call G__law_cell (hr.mono (by decide)) (by rfl) g__law_cell F__law_cell.kp b__law_cell .nil pass0 (pa_cons (pv 0) (pa_cons (pv 1) pa_nil))) (pa_cons (pv 1) pa_nil))) pa_nil)))), ?_⟩
    refine spR_run (n := 2) (k := 0) rfl (fun _ => rfl) (fun x b h => ?_) h
    obtain ⟨script1, k2⟩ := x
    show SW K _ _ [.dat ((dL dI) script1), .dat (dI k2)] _ _ _
    have h : l_at script1 k2 = R.ok b := h
    unfold l_at at h
    obtain ⟨c3, hc3, h⟩ := R.bind_inv h
    obtain ⟨s4, hs4, h⟩ := R.bind_inv h
    obtain ⟨n5, hn5, h⟩ := R.bind_inv h
    exact sw_ret (ev_cast (r := dQ) h (ev_call (x := s4) hn5 (ea_cons (ev_call (x := (c3, k2)) hs4 (ea_cons (ev_call (x := (script1, k2)) hc3 (ea_cons (ev_var rfl) (ea_cons (ev_var rfl) ea_nil))) (ea_cons (ev_var rfl) ea_nil))) ea_nil))) rfl
abbrev s__law_floor : Stmt := topS 33
abbrev n__law_floor : List Str := ["_law_cell_here"]
theorem sc__law_floor : FnScope n__law_floor ["_law_cell_here"] (defScope s__law_floor) := ⟨rfl, rfl, rfl, by decide +kernel, rfl, by decide +kernel, by decide +kernel⟩
abbrev sp__law_floor (K : PySem.W.Frag) : Sp := spR K (fun (x : Int) => [dI x]) (fun (x : Int) => l_floor x) (d2 dI dI)
set_option maxHeartbeats 4000000 in
theorem ok__law_floor {f : Addr} {fd : FuncData} (F : FnP K "_law_floor" s__law_floor f fd) (hS : base.NoSeer) (hT : P.given.tree = none) : FnOk P w K mg base CX0 41 f fd ["_law_cell_here"] (sp__law_floor K) := by
  refine F.ok sc__law_floor (fun vs H Q E h => ?_) (fun cdv A outer s H vs Q E hr h => ?_)
  · obtain ⟨x, _, _, _, _, d, _⟩ := h
    exact d.length
  · have hp := pyRm (qual := "_law_floor") (sc := defScope s__law_floor) (n := s.heap.objs.size) (f := f) (cd := cdv) (outer := outer) hS hT hr (by decide) rfl rfl
    refine ⟨_, PSs.nox (pss_cons (ps_if (pt_cmpR op_eq (pe_op op_modN (pv 0) pe_int) pe_int (nomark _)) (pss_one (ps_ret (pe_tup (pa_cons (pe_op op_add pe_int (pe_op op_modN (pe_op (op_fdivP hp) (pv 0) pe_int) pe_int)) (pa_cons (pe_op op_add pe_int (pe_op op_modN (pe_op (op_fdivP hp) (pv 0) pe_int) pe_int)) pa_nil))))) pss_nil) (pss_one (ps_ret (pe_tup (pa_cons (pe_op op_add pe_int (pe_op op_modN (pe_op (op_fdivP hp) (pv 0) pe_int) pe_int)) (pa_cons (pe_op op_add pe_int (pe_op op_modN (pe_op (op_fdivP hp) (pv 0) pe_int) pe_int)) pa_nil)))))), ?_⟩
    refine spR_run (n := 1) (k := 0) rfl (fun _ => rfl) (fun x b h => ?_) h
    generalize x = cell1 at h ⊢
    show SW K _ _ [.dat (dI cell1)] _ _ _
    have h : l_floor cell1 = R.ok b := h
    unfold l_floor at h
    refine sw_seq (sw_if (et_test (ev_eqI (ev_modP (by decide +kernel) (ev_var rfl) (ev_c _)) (ev_c _))) (fun hc => ?_) (fun hc => ?_))
    · have h := if_t hc h
      exact sw_ret (ev_cast (r := (d2 dI dI)) h (ev_tup (ea_cons (ev_i0 (g := fun i j => .int (i + j)) (ev_c _) (ev_modP (by decide +kernel) (ev_divP (by decide +kernel) (ev_var rfl) (ev_c _)) (ev_c _))) (ea_cons (ev_i0 (g := fun i j => .int (i + j)) (ev_c _) (ev_modP (by decide +kernel) (ev_divP (by decide +kernel) (ev_var rfl) (ev_c _)) (ev_c _))) ea_nil)))) rfl
    · have h := if_f hc h
      refine sw_next ?_
      show SW K _ _ [.dat (dI cell1)] _ _ _
      exact sw_ret (ev_cast (r := (d2 dI dI)) h (ev_tup (ea_cons (ev_i0 (g := fun i j => .int (i + j)) (ev_c _) (ev_modP (by decide +kernel) (ev_divP (by decide +kernel) (ev_var rfl) (ev_c _)) (ev_c _))) (ea_cons (ev_i0 (g := fun i j => .int (i + j)) (ev_c _) (ev_modP (by decide +kernel) (ev_divP (by decide +kernel) (ev_var rfl) (ev_c _)) (ev_c _))) ea_nil)))) rfl
abbrev s__law_side : Stmt := topS 34
abbrev n__law_side : List Str := ["_law_script", "_law_at_here", "_law_cell_here", "_law_one", "_law_other"]
theorem sc__law_side : FnScope n__law_side ["_law_script", "_law_at_here", "_law_cell_here"] (defScope s__law_side) := ⟨rfl, rfl, rfl, by decide +kernel, rfl, by decide +kernel, by decide +kernel⟩
abbrev sp__law_side (K : PySem.W.Frag) : Sp := spR K (fun (x : (List Int) × Int × Int) => [(dL dI) x.1, dI x.2.1, dI x.2.2]) (fun (x : (List Int) × Int × Int) => l_side_2 x.1 x.2.1 x.2.2) (d2 (d2 dQ dQ) (d2 dQ dQ))
set_option maxHeartbeats 4000000 in
theorem ok__law_side {f : Addr} {fd : FuncData} (F : FnP K "_law_side" s__law_side f fd) {f__law_at : Addr} {fd__law_at : FuncData} (F__law_at : FnP K "_law_at" s__law_at f__law_at fd__law_at) (b__law_at : Binds K fd__law_at ["_law_script", "_law_k"] []) (g__law_at : mg "_law_at" = some (.ref f__law_at)) (G__law_at : FnOk P w K mg base CX0 43 f__law_at fd__law_at ["_law_script", "_law_k"] (sp__law_at K)) (hS : base.NoSeer) (hT : P.given.tree = none) : FnOk P w K mg base CX0 44 f fd ["_law_script", "_law_at_here", "_law_cell_here"] (sp__law_side K) := by
  refine F.ok sc__law_side (fun vs H Q E h => ?_) (fun cdv A outer s H vs Q E hr h => ?_)
  · obtain ⟨x, _, _, _, _, d, _⟩ := h
    exact d.length
  · have hp := pyRm (qual := "_law_side") (sc := defScope s__law_side) (n := s.heap.objs.size) (f := f) (cd := cdv) (outer := outer) hS hT hr (by decide) rfl rfl
    refine ⟨_, PSs.nox (pss_cons (ps_set (i := 3) sc__law_side.nd rfl (Or.inl rfl) (pe_tup (pa_cons (pe_call G__law_at (hr.mono (by decide)) (by rfl) g__law_at F__law_at.kp b__law_at .nil pass0 (pa_cons (pv 0) (pa_cons (pv 1) pa_nil))) (pa_cons (pe_call G__law_at (hr.mono (by decide)) (by rfl) g__law_at F__law_at.kp b__law_at .nil pass0 (pa_cons (pv 0) (pa_cons (pe_op op_add (pv 1) pe_int) pa_nil))) pa_nil)))) (pss_cons (ps_set (i := 4) sc__law_side.nd rfl (Or.inl rfl) (pe_tup (pa_cons (pe_call G__law_at (hr.mono (by decide)) (by rfl) g__law_at F__law_at.kp b__law_at .nil pass0 (pa_cons (pv 0) (pa_cons (pe_op op_add (pv 1) pe_int) pa_nil))) (pa_cons (pe_call G__law_at (hr.mono (by decide)) (by rfl) g__law_at F__law_at.kp b__law_at .nil pass0 (pa_cons (pv 0) (pa_cons (pe_op op_add (pv 1) pe_int) pa_nil))) pa_nil)))) (pss_cons (ps_if (pt_cmpR op_eq (pe_op op_modN (pv 2) pe_int) pe_int (nomark _)) (pss_one (ps_set (i := 4) sc__law_side.nd rfl (Or.inl rfl) (pe_tup (pa_cons (pe_ix (r := rIxT K) ix_tup (pv 3) pe_int (fun _ _ => rfl)) (pa_cons (pe_ix (r := rIxT K) ix_tup (pv 4) pe_int (fun _ _ => rfl)) pa_nil))))) pss_nil) (pss_cons (ps_if (pt_cmpR op_eq (pe_op op_modN (pv 2) pe_int) pe_int (nomark _)) (pss_one (ps_set (i := 4) sc__law_side.nd rfl (Or.inl rfl) (pe_tup (pa_cons (pe_ix (r := rIxT K) ix_tup (pv 4) pe_int (fun _ _ => rfl)) (pa_cons (pe_ix (r := rIxT K) ix_tup (pv 3) pe_int (fun _ _ => rfl)) pa_nil))))) pss_nil) (pss_cons (ps_if (PW.pt (pw_and (pt_cmpR op_lt (pe_op op_modN (pv 2) pe_int) pe_int (nomark _)) (pw_and1 (pt_cmpR op_gt (pe_op op_modN (pv 2) pe_int) pe_int (nomark _))))) (pss_one (ps_set (i := 4) sc__law_side.nd rfl (Or.inl rfl) (pv 3))) pss_nil) (pss_cons (ps_if (pt_cmpR op_gt (pe_op op_modN (pv 2) pe_int) pe_int (nomark _)) (pss_cons (ps_set (i := 3) sc__law_side.nd rfl (Or.inl rfl) (pe_tup (pa_cons (pe_tup (pa_cons (pe_op (op_fdivP hp) (pe_ix (r := rIxT K) ix_tup (pe_ix (r := rIxT K) ix_tup (pv 3) pe_int (fun _ _ => rfl)) pe_int (fun _ _ => rfl)) (pe_ix (r := rIxT K) ix_tup (pe_ix (r := rIxT K) ix_tup (pv 3) pe_int (fun _ _ => rfl)) pe_int (fun _ _ => rfl))) (pa_cons pe_int pa_nil))) (pa_cons (pe_tup (pa_cons (pe_op (op_fdivP hp) (pe_ix (r := rIxT K) ix_tup (pe_ix (r := rIxT K) ix_tup (pv 3) pe_int (fun _ _ => rfl)) pe_int (fun _ _ => rfl)) (pe_ix (r := rIxT K) ix_tup (pe_ix (r := rIxT K) ix_tup (pv 3) pe_int (fun _ _ => rfl)) pe_int (fun _ _ => rfl))) (pa_cons pe_int pa_nil))) pa_nil)))) (pss_one (ps_set (i := 4) sc__law_side.nd rfl (Or.inl rfl) (pe_tup (pa_cons (pe_tup (pa_cons (pe_op (op_fdivP hp) (pe_ix (r := rIxT K) ix_tup (pe_ix (r := rIxT K) ix_tup (pv 4) pe_int (fun _ _ => rfl)) pe_int (fun _ _ => rfl)) (pe_ix (r := rIxT K) ix_tup (pe_ix (r := rIxT K) ix_tup (pv 4) pe_int (fun _ _ => rfl)) pe_int (fun _ _ => rfl))) (pa_cons pe_int pa_nil))) (pa_cons (pe_tup (pa_cons (pe_op (op_fdivP hp) (pe_ix (r := rIxT K) ix_tup (pe_ix (r := rIxT K) ix_tup (pv 4) pe_int (fun _ _ => rfl)) pe_int (fun _ _ => rfl)) (pe_ix (r := rIxT K) ix_tup (pe_ix (r := rIxT K) ix_tup (pv 4) pe_int (fun _ _ => rfl)) pe_int (fun _ _ => rfl))) (pa_cons pe_int pa_nil))) pa_nil)))))) pss_nil) (pss_one (ps_ret (pe_tup (pa_cons (pv 3) (pa_cons (pv 4) pa_nil))))))))))), ?_⟩
    refine spR_run (n := 3) (k := 2) rfl (fun _ => rfl) (fun x b h => ?_) h
    obtain ⟨script1, at2, cell3⟩ := x
    show SW K _ _ [.dat ((dL dI) script1), .dat (dI at2), .dat (dI cell3), .un, .un] _ _ _
    have h : l_side_2 script1 at2 cell3 = R.ok b := h
    unfold l_side_2 at h
    obtain ⟨a4, ha4, h⟩ := R.bind_inv h
    obtain ⟨a5, ha5, h⟩ := R.bind_inv h
    obtain ⟨one6, hone6, h⟩ := R.bind_inv h
    refine sw_seq (sw_set (ev_cast (r := (d2 dQ dQ)) hone6 (ev_tup (ea_cons (ev_call (x := (script1, at2)) ha4 (ea_cons (ev_var rfl) (ea_cons (ev_var rfl) ea_nil))) (ea_cons (ev_call (x := (script1, (at2 + (1 : Int)))) ha5 (ea_cons (ev_var rfl) (ea_cons (ev_i0 (g := fun i j => .int (i + j)) (ev_var rfl) (ev_c _)) ea_nil))) ea_nil)))) ?_)
    show SW K _ _ [.dat ((dL dI) script1), .dat (dI at2), .dat (dI cell3), .dat ((d2 dQ dQ) one6), .un] _ _ _
    obtain ⟨a7, ha7, h⟩ := R.bind_inv h
    obtain ⟨a8, ha8, h⟩ := R.bind_inv h
    obtain ⟨other9, hother9, h⟩ := R.bind_inv h
    refine sw_seq (sw_set (ev_cast (r := (d2 dQ dQ)) hother9 (ev_tup (ea_cons (ev_call (x := (script1, (at2 + (2 : Int)))) ha7 (ea_cons (ev_var rfl) (ea_cons (ev_i0 (g := fun i j => .int (i + j)) (ev_var rfl) (ev_c _)) ea_nil))) (ea_cons (ev_call (x := (script1, (at2 + (3 : Int)))) ha8 (ea_cons (ev_var rfl) (ea_cons (ev_i0 (g := fun i j => .int (i + j)) (ev_var rfl) (ev_c _)) ea_nil))) ea_nil)))) ?_)
    show SW K _ _ [.dat ((dL dI) script1), .dat (dI at2), .dat (dI cell3), .dat ((d2 dQ dQ) one6), .dat ((d2 dQ dQ) other9)] _ _ _
    obtain ⟨st10, hst10, h⟩ := R.bind_inv h
    refine sw_seq (sw_mono (Nx := fun e => Wk e [.dat ((dL dI) script1), .dat (dI at2), .dat (dI cell3), .dat ((d2 dQ dQ) one6), .dat ((d2 dQ dQ) st10)]) (sw_if (et_test (ev_eqI (ev_modP (by decide +kernel) (ev_var rfl) (ev_c _)) (ev_c _))) (fun hc => ?_) (fun hc => ?_)) (fun e w => sw_weak w ?_))
    · have h := if_t hc hst10
      clear hst10
      obtain ⟨other11, hother11, h⟩ := R.bind_inv h
      refine sw_set (ev_cast (r := (d2 dQ dQ)) hother11 (ev_tup (ea_cons (ev_ixT (k := 0) (ev_var rfl) (ev_c _) (by rfl) rfl) (ea_cons (ev_ixT (k := 1) (ev_var rfl) (ev_c _) (by rfl) rfl) ea_nil)))) ?_
      obtain rfl := R.ok_inj h
      exact .eq (.eq (.eq (.eq (.eq .nil))))
    · have h := if_f hc hst10
      clear hst10
      refine sw_next ?_
      obtain rfl := R.ok_inj h
      exact .eq (.eq (.eq (.eq (.eq .nil))))
    show SW K _ _ [.dat ((dL dI) script1), .dat (dI at2), .dat (dI cell3), .dat ((d2 dQ dQ) one6), .dat ((d2 dQ dQ) st10)] _ _ _
    obtain ⟨st12, hst12, h⟩ := R.bind_inv h
    refine sw_seq (sw_mono (Nx := fun e => Wk e [.dat ((dL dI) script1), .dat (dI at2), .dat (dI cell3), .dat ((d2 dQ dQ) one6), .dat ((d2 dQ dQ) st12)]) (sw_if (et_test (ev_eqI (ev_modP (by decide +kernel) (ev_var rfl) (ev_c _)) (ev_c _))) (fun hc => ?_) (fun hc => ?_)) (fun e w => sw_weak w ?_))
    · have h := if_t hc hst12
      clear hst12
      obtain ⟨other13, hother13, h⟩ := R.bind_inv h
      refine sw_set (ev_cast (r := (d2 dQ dQ)) hother13 (ev_tup (ea_cons (ev_ixT (k := 0) (ev_var rfl) (ev_c _) (by rfl) rfl) (ea_cons (ev_ixT (k := 1) (ev_var rfl) (ev_c _) (by rfl) rfl) ea_nil)))) ?_
      obtain rfl := R.ok_inj h
      exact .eq (.eq (.eq (.eq (.eq .nil))))
    · have h := if_f hc hst12
      clear hst12
      refine sw_next ?_
      obtain rfl := R.ok_inj h
      exact .eq (.eq (.eq (.eq (.eq .nil))))
    show SW K _ _ [.dat ((dL dI) script1), .dat (dI at2), .dat (dI cell3), .dat ((d2 dQ dQ) one6), .dat ((d2 dQ dQ) st12)] _ _ _
    obtain ⟨st14, hst14, h⟩ := R.bind_inv h
    refine sw_seq (sw_mono (Nx := fun e => Wk e [.dat ((dL dI) script1), .dat (dI at2), .dat (dI cell3), .dat ((d2 dQ dQ) one6), .dat ((d2 dQ dQ) st14)]) (sw_if (et_and (et_test (ev_i0 (g := fun i j => .bl (decide (i < j))) (ev_modP (by decide +kernel) (ev_var rfl) (ev_c _)) (ev_c _))) (fun hc => (et_test (ev_i0 (g := fun i j => .bl (decide (j < i))) (ev_modP (by decide +kernel) (ev_var rfl) (ev_c _)) (ev_c _))))) (fun hc => ?_) (fun hc => ?_)) (fun e w => sw_weak w ?_))
    · have h := if_t hc hst14
      clear hst14
      obtain ⟨other15, hother15, h⟩ := R.bind_inv h
      refine sw_set (ev_cast (r := (d2 dQ dQ)) hother15 (ev_var rfl)) ?_
      obtain rfl := R.ok_inj h
      exact .eq (.eq (.eq (.eq (.eq .nil))))
    · have h := if_f hc hst14
      clear hst14
      refine sw_next ?_
      obtain rfl := R.ok_inj h
      exact .eq (.eq (.eq (.eq (.eq .nil))))
    show SW K _ _ [.dat ((dL dI) script1), .dat (dI at2), .dat (dI cell3), .dat ((d2 dQ dQ) one6), .dat ((d2 dQ dQ) st14)] _ _ _
    obtain ⟨st16, hst16, h⟩ := R.bind_inv h
    refine sw_seq (sw_mono (Nx := fun e => Wk e [.dat ((dL dI) script1), .dat (dI at2), .dat (dI cell3), .dat ((d2 dQ dQ) st16.1), .dat ((d2 dQ dQ) st16.2)]) (sw_if (et_test (ev_i0 (g := fun i j => .bl (decide (j < i))) (ev_modP (by decide +kernel) (ev_var rfl) (ev_c _)) (ev_c _))) (fun hc => ?_) (fun hc => ?_)) (fun e w => sw_weak w ?_))
    · have h := if_t hc hst16
      clear hst16
      obtain ⟨q17, hq17, h⟩ := R.bind_inv h
      obtain ⟨q18, hq18, h⟩ := R.bind_inv h
      obtain ⟨q19, hq19, h⟩ := R.bind_inv h
      obtain ⟨q20, hq20, h⟩ := R.bind_inv h
      obtain ⟨one21, hone21, h⟩ := R.bind_inv h
      refine sw_seq (sw_set (ev_cast (r := (d2 dQ dQ)) hone21 (ev_tup (ea_cons (ev_mkQ hq18 (ev_fdiv hq17 (ev_ixT (k := 0) (ev_ixT (k := 0) (ev_var rfl) (ev_c _) (by rfl) rfl) (ev_c _) (by rfl) rfl) (ev_ixT (k := 1) (ev_ixT (k := 0) (ev_var rfl) (ev_c _) (by rfl) rfl) (ev_c _) (by rfl) rfl)) (ev_c _)) (ea_cons (ev_mkQ hq20 (ev_fdiv hq19 (ev_ixT (k := 0) (ev_ixT (k := 1) (ev_var rfl) (ev_c _) (by rfl) rfl) (ev_c _) (by rfl) rfl) (ev_ixT (k := 1) (ev_ixT (k := 1) (ev_var rfl) (ev_c _) (by rfl) rfl) (ev_c _) (by rfl) rfl)) (ev_c _)) ea_nil)))) ?_)
      show SW K _ _ [.dat ((dL dI) script1), .dat (dI at2), .dat (dI cell3), .dat ((d2 dQ dQ) one21), .dat ((d2 dQ dQ) st14)] _ _ _
      obtain ⟨q22, hq22, h⟩ := R.bind_inv h
      obtain ⟨q23, hq23, h⟩ := R.bind_inv h
      obtain ⟨q24, hq24, h⟩ := R.bind_inv h
      obtain ⟨q25, hq25, h⟩ := R.bind_inv h
      obtain ⟨other26, hother26, h⟩ := R.bind_inv h
      refine sw_set (ev_cast (r := (d2 dQ dQ)) hother26 (ev_tup (ea_cons (ev_mkQ hq23 (ev_fdiv hq22 (ev_ixT (k := 0) (ev_ixT (k := 0) (ev_var rfl) (ev_c _) (by rfl) rfl) (ev_c _) (by rfl) rfl) (ev_ixT (k := 1) (ev_ixT (k := 0) (ev_var rfl) (ev_c _) (by rfl) rfl) (ev_c _) (by rfl) rfl)) (ev_c _)) (ea_cons (ev_mkQ hq25 (ev_fdiv hq24 (ev_ixT (k := 0) (ev_ixT (k := 1) (ev_var rfl) (ev_c _) (by rfl) rfl) (ev_c _) (by rfl) rfl) (ev_ixT (k := 1) (ev_ixT (k := 1) (ev_var rfl) (ev_c _) (by rfl) rfl) (ev_c _) (by rfl) rfl)) (ev_c _)) ea_nil)))) ?_
      obtain rfl := R.ok_inj h
      exact .eq (.eq (.eq (.eq (.eq .nil))))
    · have h := if_f hc hst16
      clear hst16
      refine sw_next ?_
      obtain rfl := R.ok_inj h
      exact .eq (.eq (.eq (.eq (.eq .nil))))
    show SW K _ _ [.dat ((dL dI) script1), .dat (dI at2), .dat (dI cell3), .dat ((d2 dQ dQ) st16.1), .dat ((d2 dQ dQ) st16.2)] _ _ _
    exact sw_ret (ev_cast (r := (d2 (d2 dQ dQ) (d2 dQ dQ))) h (ev_tup (ea_cons (ev_var rfl) (ea_cons (ev_var rfl) ea_nil)))) rfl
abbrev s__law_scaled : Stmt := topS 35
abbrev n__law_scaled : List Str := ["_law_side_here", "_law_bottom", "_law_one", "_law_other", "_law_number_here"]
theorem sc__law_scaled : FnScope n__law_scaled ["_law_side_here"] (defScope s__law_scaled) := ⟨rfl, rfl, rfl, by decide +kernel, rfl, by decide +kernel, by decide +kernel⟩
abbrev sp__law_scaled (K : PySem.W.Frag) : Sp := spR K (fun (x : ((Rat × Rat) × (Rat × Rat))) => [(d2 (d2 dQ dQ) (d2 dQ dQ)) x]) (fun (x : ((Rat × Rat) × (Rat × Rat))) => l_scaled_2 x) (d3 dI (dL dI) (dL dI))
set_option maxHeartbeats 4000000 in
theorem ok__law_scaled {f : Addr} {fd : FuncData} (F : FnP K "_law_scaled" s__law_scaled f fd) (hS : base.NoSeer) (hT : P.given.tree = none) : FnOk P w K mg base CX0 41 f fd ["_law_side_here"] (sp__law_scaled K) := by
  refine F.ok sc__law_scaled (fun vs H Q E h => ?_) (fun cdv A outer s H vs Q E hr h => ?_)
  · obtain ⟨x, _, _, _, _, d, _⟩ := h
    exact d.length
  · have hp := pyRm (qual := "_law_scaled") (sc := defScope s__law_scaled) (n := s.heap.objs.size) (f := f) (cd := cdv) (outer := outer) hS hT hr (by decide) rfl rfl
    refine ⟨_, PSs.nox (pss_cons (ps_set (i := 1) sc__law_scaled.nd rfl (Or.inr rfl) (pe_op op_mulP (pe_op op_mulP (pe_op op_mulP (pe_ix (r := rIxT K) ix_tup (pe_ix (r := rIxT K) ix_tup (pe_ix (r := rIxT K) ix_tup (pv 0) pe_int (fun _ _ => rfl)) pe_int (fun _ _ => rfl)) pe_int (fun _ _ => rfl)) (pe_ix (r := rIxT K) ix_tup (pe_ix (r := rIxT K) ix_tup (pe_ix (r := rIxT K) ix_tup (pv 0) pe_int (fun _ _ => rfl)) pe_int (fun _ _ => rfl)) pe_int (fun _ _ => rfl))) (pe_ix (r := rIxT K) ix_tup (pe_ix (r := rIxT K) ix_tup (pe_ix (r := rIxT K) ix_tup (pv 0) pe_int (fun _ _ => rfl)) pe_int (fun _ _ => rfl)) pe_int (fun _ _ => rfl))) (pe_ix (r := rIxT K) ix_tup (pe_ix (r := rIxT K) ix_tup (pe_ix (r := rIxT K) ix_tup (pv 0) pe_int (fun _ _ => rfl)) pe_int (fun _ _ => rfl)) pe_int (fun _ _ => rfl)))) (pss_cons (ps_setLc (i := 2) (own := [("_law_number_here", 4)]) (by rfl) sc__law_scaled.nd rfl rfl (sw_true rfl rfl rfl (by decide +kernel)) (show PI _ _ _ (iTup K _) from pi_tup (pe_ix (r := rIxT K) ix_tup (pv 0) pe_int (fun _ _ => rfl))) (blkOk_by (own := [("_law_number_here", 4)]) (N := n__law_scaled) (sc := defScope s__law_scaled) (by decide +kernel)) (fun _ _ _ _ _ => (pg_name (i := 4) sc__law_scaled.nd rfl (Or.inl rfl))) (fun _ _ _ _ _ => pts_nil) (fun _ _ _ _ _ => (pe_op (op_fdivP hp) (pe_op op_mulP (pe_ix (r := rIxT K) ix_tup (pv 4) pe_int (fun _ _ => rfl)) (pv 1)) (pe_ix (r := rIxT K) ix_tup (pv 4) pe_int (fun _ _ => rfl))))) (pss_cons (ps_setLc (i := 3) (own := [("_law_number_here", 4)]) (by rfl) sc__law_scaled.nd rfl rfl (sw_true rfl rfl rfl (by decide +kernel)) (show PI _ _ _ (iTup K _) from pi_tup (pe_ix (r := rIxT K) ix_tup (pv 0) pe_int (fun _ _ => rfl))) (blkOk_by (own := [("_law_number_here", 4)]) (N := n__law_scaled) (sc := defScope s__law_scaled) (by decide +kernel)) (fun _ _ _ _ _ => (pg_name (i := 4) sc__law_scaled.nd rfl (Or.inl rfl))) (fun _ _ _ _ _ => pts_nil) (fun _ _ _ _ _ => (pe_op (op_fdivP hp) (pe_op op_mulP (pe_ix (r := rIxT K) ix_tup (pv 4) pe_int (fun _ _ => rfl)) (pv 1)) (pe_ix (r := rIxT K) ix_tup (pv 4) pe_int (fun _ _ => rfl))))) (pss_one (ps_ret (pe_tup (pa_cons (pv 1) (pa_cons (pv 2) (pa_cons (pv 3) pa_nil))))))))), ?_⟩
    refine spR_run (n := 1) (k := 4) rfl (fun _ => rfl) (fun x b h => ?_) h
    generalize x = side1 at h ⊢
    show SW K _ _ [.dat ((d2 (d2 dQ dQ) (d2 dQ dQ)) side1), .un, .un, .un, .un] _ _ _
    have h : l_scaled_2 side1 = R.ok b := h
    unfold l_scaled_2 at h
    obtain ⟨p2, hp2, h⟩ := R.bind_inv h
    obtain ⟨p3, hp3, h⟩ := R.bind_inv h
    obtain ⟨p4, hp4, h⟩ := R.bind_inv h
    obtain ⟨bottom5, hbottom5, h⟩ := R.bind_inv h
    refine sw_seq (sw_set (ev_cast (r := dI) hbottom5 (ev_mul hp4 (ev_mul hp3 (ev_mul hp2 (ev_ixT (k := 1) (ev_ixT (k := 0) (ev_ixT (k := 0) (ev_var rfl) (ev_c _) (by rfl) rfl) (ev_c _) (by rfl) rfl) (ev_c _) (by rfl) rfl) (ev_ixT (k := 1) (ev_ixT (k := 1) (ev_ixT (k := 0) (ev_var rfl) (ev_c _) (by rfl) rfl) (ev_c _) (by rfl) rfl) (ev_c _) (by rfl) rfl)) (ev_ixT (k := 1) (ev_ixT (k := 0) (ev_ixT (k := 1) (ev_var rfl) (ev_c _) (by rfl) rfl) (ev_c _) (by rfl) rfl) (ev_c _) (by rfl) rfl)) (ev_ixT (k := 1) (ev_ixT (k := 1) (ev_ixT (k := 1) (ev_var rfl) (ev_c _) (by rfl) rfl) (ev_c _) (by rfl) rfl) (ev_c _) (by rfl) rfl))) ?_)
    show SW K _ _ [.dat ((d2 (d2 dQ dQ) (d2 dQ dQ)) side1), .dat (dI bottom5), .un, .un, .un] _ _ _
    obtain ⟨c9, hc9, h⟩ := R.bind_inv h
    obtain ⟨one10, hone10, h⟩ := R.bind_inv h
    refine sw_seq (sw_set (ev_cast (r := (dL dI)) hone10 (EV.frz (en_compR (rb := dI) (js := [4]) (iv_tup (ev_ixT (k := 0) (ev_var rfl) (ev_c _) (by rfl) rfl)) hc9 (by rfl) (by decide) (fun x6 _ => ⟨_, (gt_name 4 _ _), fun y h => by obtain ⟨p7, hp7, h⟩ := R.bind_inv h; obtain ⟨q8, hq8, h⟩ := R.bind_inv h; exact ev_cast (r := dI) h (ev_fdiv hq8 (ev_mul hp7 (ev_ixT (k := 0) (ev_var rfl) (ev_c _) (by rfl) rfl) (ev_var rfl)) (ev_ixT (k := 1) (ev_var rfl) (ev_c _) (by rfl) rfl))⟩)))) ?_)
    show SW K _ _ [.dat ((d2 (d2 dQ dQ) (d2 dQ dQ)) side1), .dat (dI bottom5), .dat ((dL dI) one10), .un, .un] _ _ _
    obtain ⟨c14, hc14, h⟩ := R.bind_inv h
    obtain ⟨other15, hother15, h⟩ := R.bind_inv h
    refine sw_seq (sw_set (ev_cast (r := (dL dI)) hother15 (EV.frz (en_compR (rb := dI) (js := [4]) (iv_tup (ev_ixT (k := 1) (ev_var rfl) (ev_c _) (by rfl) rfl)) hc14 (by rfl) (by decide) (fun x11 _ => ⟨_, (gt_name 4 _ _), fun y h => by obtain ⟨p12, hp12, h⟩ := R.bind_inv h; obtain ⟨q13, hq13, h⟩ := R.bind_inv h; exact ev_cast (r := dI) h (ev_fdiv hq13 (ev_mul hp12 (ev_ixT (k := 0) (ev_var rfl) (ev_c _) (by rfl) rfl) (ev_var rfl)) (ev_ixT (k := 1) (ev_var rfl) (ev_c _) (by rfl) rfl))⟩)))) ?_)
    show SW K _ _ [.dat ((d2 (d2 dQ dQ) (d2 dQ dQ)) side1), .dat (dI bottom5), .dat ((dL dI) one10), .dat ((dL dI) other15), .un] _ _ _
    exact sw_ret (ev_cast (r := (d3 dI (dL dI) (dL dI))) h (ev_tup (ea_cons (ev_var rfl) (ea_cons (ev_var rfl) (ea_cons (ev_var rfl) ea_nil))))) rfl
abbrev s__law_steps : Stmt := topS 36
abbrev n__law_steps : List Str := ["_law_bottom", "_law_one", "_law_other", "_law_floor_here", "_law_ways", "_law_whole_here", "_law_steps_here", "_law_axis", "_law_line", "_law_step"]
theorem sc__law_steps : FnScope n__law_steps ["_law_bottom", "_law_one", "_law_other", "_law_floor_here"] (defScope s__law_steps) := ⟨rfl, rfl, rfl, by decide +kernel, rfl, by decide +kernel, by decide +kernel⟩
abbrev sp__law_steps (K : PySem.W.Frag) : Sp := spR K (fun (x : Int × (List Int) × (List Int) × (Int × Int)) => [dI x.1, (dL dI) x.2.1, (dL dI) x.2.2.1, (d2 dI dI) x.2.2.2]) (fun (x : Int × (List Int) × (List Int) × (Int × Int)) => l_steps x.1 x.2.1 x.2.2.1 x.2.2.2) (d2 dI (dL dI))
set_option maxHeartbeats 4000000 in
theorem ok__law_steps {f : Addr} {fd : FuncData} (F : FnP K "_law_steps" s__law_steps f fd) (z_abs : mg "abs" = none) (z_max : mg "max" = none) (z_range : mg "range" = none) (z_sorted : mg "sorted" = none) (hS : base.NoSeer) (hT : P.given.tree = none) : FnOk P w K mg base CX0 41 f fd ["_law_bottom", "_law_one", "_law_other", "_law_floor_here"] (sp__law_steps K) := by
  refine F.ok sc__law_steps (fun vs H Q E h => ?_) (fun cdv A outer s H vs Q E hr h => ?_)
  · obtain ⟨x, _, _, _, _, d, _⟩ := h
    exact d.length
  · have hp := pyRm (qual := "_law_steps") (sc := defScope s__law_steps) (n := s.heap.objs.size) (f := f) (cd := cdv) (outer := outer) hS hT hr (by decide) rfl rfl
    refine ⟨_, PSs.nox (pss_cons (ps_set (i := 4) sc__law_steps.nd rfl (Or.inl rfl) (pe_lst (pa_cons (pe_op op_sub (pe_ix (r := rIxL K) ix_list (pv 2) pe_int (fun _ _ => rfl)) (pe_ix (r := rIxL K) ix_list (pv 1) pe_int (fun _ _ => rfl))) (pa_cons (pe_op op_sub (pe_ix (r := rIxL K) ix_list (pv 2) pe_int (fun _ _ => rfl)) (pe_ix (r := rIxL K) ix_list (pv 1) pe_int (fun _ _ => rfl))) pa_nil)))) (pss_cons (ps_set (i := 5) sc__law_steps.nd rfl (Or.inl rfl) (pe_op op_mulP (pe_callB (id := "max") (cl_max rfl) (by rfl) z_max (by decide +kernel) (pa_cons pe_int (pa_cons (pe_callB (id := "abs") cl_abs (by rfl) z_abs (by decide +kernel) (pa_cons (pe_ix (r := rIxL K) ix_list (pv 4) pe_int (fun _ _ => rfl)) pa_nil)) pa_nil))) (pe_callB (id := "max") (cl_max rfl) (by rfl) z_max (by decide +kernel) (pa_cons pe_int (pa_cons (pe_callB (id := "abs") cl_abs (by rfl) z_abs (by decide +kernel) (pa_cons (pe_ix (r := rIxL K) ix_list (pv 4) pe_int (fun _ _ => rfl)) pa_nil)) pa_nil))))) (pss_cons (ps_set (i := 6) sc__law_steps.nd rfl (Or.inl rfl) (pe_disp (pps_cons pe_int pe_bl (pps_cons (pv 5) pe_bl pps_nil)) rfl rfl (fun z => nomatch z) (Nat.le_of_ble_eq_true rfl))) (pss_cons (ps_for PassesOwn.never rfl (pi_range1 (by rfl) z_range (pa_cons pe_int pa_nil)) (pg_name (i := 7) sc__law_steps.nd rfl (Or.inl rfl)) (pss_one (ps_for PassesOwn.never rfl (pi_range1 (by rfl) z_range (pa_cons (pe_op op_add (pe_ix (r := rIxT K) ix_tup (pv 3) (pv 7) (fun _ _ => rfl)) pe_int) pa_nil)) (pg_name (i := 8) sc__law_steps.nd rfl (Or.inl rfl)) (pss_one (ps_if (pt_cmpR op_ne (pe_ix (r := rIxL K) ix_list (pv 4) (pv 7) (fun _ _ => rfl)) pe_int (nomark _)) (pss_cons (ps_set (i := 9) sc__law_steps.nd rfl (Or.inl rfl) (pe_op op_mulP (pe_op op_sub (pe_op op_mulP (pv 8) (pv 0)) (pe_ix (r := rIxL K) ix_list (pv 1) (pv 7) (fun _ _ => rfl))) (pe_op (op_fdivP hp) (pv 5) (pe_ix (r := rIxL K) ix_list (pv 4) (pv 7) (fun _ _ => rfl))))) (pss_one (ps_if (pt_chain op_lt op_lt pe_int (pv 9) (pv 5)) (pss_one (ps_dput (hu_of hr) (pv 6) (pv 9) pe_bl rfl)) pss_nil))) pss_nil))))) (pss_one (ps_ret (pe_tup (pa_cons (pv 5) (pa_cons (pe_callB (id := "sorted") (cl_sorted rfl) (by rfl) z_sorted (by decide +kernel) (pa_cons (pv 6) pa_nil)) pa_nil))))))))), ?_⟩
    refine spR_run (n := 4) (k := 6) rfl (fun _ => rfl) (fun x b h => ?_) h
    obtain ⟨bottom1, one2, other3, floor4⟩ := x
    show SW K _ _ [.dat (dI bottom1), .dat ((dL dI) one2), .dat ((dL dI) other3), .dat ((d2 dI dI) floor4), .un, .un, .un, .un, .un, .un] _ _ _
    have h : l_steps bottom1 one2 other3 floor4 = R.ok b := h
    unfold l_steps at h
    obtain ⟨it5, hit5, h⟩ := R.bind_inv h
    obtain ⟨it6, hit6, h⟩ := R.bind_inv h
    obtain ⟨it7, hit7, h⟩ := R.bind_inv h
    obtain ⟨it8, hit8, h⟩ := R.bind_inv h
    obtain ⟨ways9, hways9, h⟩ := R.bind_inv h
    refine sw_seq (sw_set (ev_cast (r := (dL dI)) hways9 (EV.frz (en_lst (ds := [(it5 - it6), (it7 - it8)].map dI) (ea_cons (ev_i0 (g := fun i j => .int (i - j)) (ev_atL (r := dI) hit5 (ev_var rfl) (ev_c _)) (ev_atL (r := dI) hit6 (ev_var rfl) (ev_c _))) (ea_cons (ev_i0 (g := fun i j => .int (i - j)) (ev_atL (r := dI) hit7 (ev_var rfl) (ev_c _)) (ev_atL (r := dI) hit8 (ev_var rfl) (ev_c _))) ea_nil))))) ?_)
    show SW K _ _ [.dat (dI bottom1), .dat ((dL dI) one2), .dat ((dL dI) other3), .dat ((d2 dI dI) floor4), .dat ((dL dI) ways9), .un, .un, .un, .un, .un] _ _ _
    obtain ⟨it10, hit10, h⟩ := R.bind_inv h
    obtain ⟨it11, hit11, h⟩ := R.bind_inv h
    obtain ⟨p12, hp12, h⟩ := R.bind_inv h
    obtain ⟨whole13, hwhole13, h⟩ := R.bind_inv h
    refine sw_seq (sw_set (ev_cast (r := dI) hwhole13 (ev_mul hp12 (ev_max (ev_c _) (ev_abs (ev_atL (r := dI) hit10 (ev_var rfl) (ev_c _)))) (ev_max (ev_c _) (ev_abs (ev_atL (r := dI) hit11 (ev_var rfl) (ev_c _)))))) ?_)
    show SW K _ _ [.dat (dI bottom1), .dat ((dL dI) one2), .dat ((dL dI) other3), .dat ((d2 dI dI) floor4), .dat ((dL dI) ways9), .dat (dI whole13), .un, .un, .un, .un] _ _ _
    obtain ⟨steps14, hsteps14, h⟩ := R.bind_inv h
    refine sw_seq (sw_setM (em_cast (r := fun z => T.dK none (repK kI dB z)) hsteps14 (EW.m (ew_disp2 (r := dB) (ev_c _) (ev_c _) (ev_var rfl) (ev_c _)))) (by exact Nat.le_of_ble_eq_true rfl) ?_)
    show SW K _ _ [.dat (dI bottom1), .dat ((dL dI) one2), .dat ((dL dI) other3), .dat ((d2 dI dI) floor4), .dat ((dL dI) ways9), .dat (dI whole13), .tr (.dK none (repK kI dB steps14)), .un, .un, .un] _ _ _
    obtain ⟨r15, hr15, h⟩ := R.bind_inv h
    obtain ⟨s31, hs31, h⟩ := R.bind_inv h
    refine sw_seq (sw_forR (ra := dI) (js := [7]) _ (fun (z : (List (Int × Bool))) => [.dat (dI bottom1), .dat ((dL dI) one2), .dat ((dL dI) other3), .dat ((d2 dI dI) floor4), .dat ((dL dI) ways9), .dat (dI whole13), .tr (.dK none (repK kI dB z)), .un, .un, .un]) _ (iv_rng1 hr15 (ev_c _)) hs31 (.eq (.eq (.eq (.eq (.eq (.eq (.eq (.un (.un (.un .nil)))))))))) (fun x16 s17 s' _ h => ⟨_, (gt_name 7 _ _), ?_⟩) ?_)
    · show SW K _ _ [.dat (dI bottom1), .dat ((dL dI) one2), .dat ((dL dI) other3), .dat ((d2 dI dI) floor4), .dat ((dL dI) ways9), .dat (dI whole13), .tr (.dK none (repK kI dB s17)), .dat (dI x16), .un, .un] _ _ _
      obtain ⟨it18, hit18, h⟩ := R.bind_inv h
      obtain ⟨r19, hr19, h⟩ := R.bind_inv h
      obtain ⟨s30, hs30, h⟩ := R.bind_inv h
      refine sw_forR (ra := dI) (js := [8]) _ (fun (z : (List (Int × Bool))) => [.dat (dI bottom1), .dat ((dL dI) one2), .dat ((dL dI) other3), .dat ((d2 dI dI) floor4), .dat ((dL dI) ways9), .dat (dI whole13), .tr (.dK none (repK kI dB z)), .dat (dI x16), .un, .un]) _ (iv_rng1 hr19 (ev_i0 (g := fun i j => .int (i + j)) (ev_atT (r := dI) (xs := [floor4.1, floor4.2]) hit18 (ev_var rfl) (ev_var rfl)) (ev_c _))) hs30 (.eq (.eq (.eq (.eq (.eq (.eq (.eq (.eq (.un (.un .nil)))))))))) (fun x20 s21 s' _ h => ⟨_, (gt_name 8 _ _), ?_⟩) ?_
      · show SW K _ _ [.dat (dI bottom1), .dat ((dL dI) one2), .dat ((dL dI) other3), .dat ((d2 dI dI) floor4), .dat ((dL dI) ways9), .dat (dI whole13), .tr (.dK none (repK kI dB s21)), .dat (dI x16), .dat (dI x20), .un] _ _ _
        obtain ⟨it22, hit22, h⟩ := R.bind_inv h
        refine sw_if (et_test (ev_neI (ev_atL (r := dI) hit22 (ev_var rfl) (ev_var rfl)) (ev_c _))) (fun hc => ?_) (fun hc => ?_)
        · have h := if_t hc h
          obtain ⟨p23, hp23, h⟩ := R.bind_inv h
          obtain ⟨it24, hit24, h⟩ := R.bind_inv h
          obtain ⟨it25, hit25, h⟩ := R.bind_inv h
          obtain ⟨q26, hq26, h⟩ := R.bind_inv h
          obtain ⟨p27, hp27, h⟩ := R.bind_inv h
          obtain ⟨step28, hstep28, h⟩ := R.bind_inv h
          refine sw_seq (sw_set (ev_cast (r := dI) hstep28 (ev_mul hp27 (ev_i0 (g := fun i j => .int (i - j)) (ev_mul hp23 (ev_var rfl) (ev_var rfl)) (ev_atL (r := dI) hit24 (ev_var rfl) (ev_var rfl))) (ev_fdiv hq26 (ev_var rfl) (ev_atL (r := dI) hit25 (ev_var rfl) (ev_var rfl))))) ?_)
          show SW K _ _ [.dat (dI bottom1), .dat ((dL dI) one2), .dat ((dL dI) other3), .dat ((d2 dI dI) floor4), .dat ((dL dI) ways9), .dat (dI whole13), .tr (.dK none (repK kI dB s21)), .dat (dI x16), .dat (dI x20), .dat (dI step28)] _ _ _
          refine sw_if (et_test (ev_chain (p := fun i j => decide (i < j)) (p' := fun i j => decide (i < j)) (ev_c _) (ev_var rfl) (fun _ => (ev_var rfl)))) (fun hc => ?_) (fun hc => ?_)
          · have h := if_t hc h
            obtain ⟨steps29, hsteps29, h⟩ := R.bind_inv h
            refine sw_dputI (r := dB) hsteps29 (ev_c _) (ep_var rfl) rfl (ev_var rfl) ?_
            obtain rfl := R.ok_inj h
            exact .eq (.eq (.eq (.eq (.eq (.eq (.eq (.eq (.un (.un .nil)))))))))
          · have h := if_f hc h
            refine sw_next ?_
            obtain rfl := R.ok_inj h
            exact .eq (.eq (.eq (.eq (.eq (.eq (.eq (.eq (.un (.un .nil)))))))))
        · have h := if_f hc h
          refine sw_next ?_
          obtain rfl := R.ok_inj h
          exact .eq (.eq (.eq (.eq (.eq (.eq (.eq (.eq (.un (.un .nil)))))))))
      obtain rfl := R.ok_inj h
      exact .eq (.eq (.eq (.eq (.eq (.eq (.eq (.un (.un (.un .nil)))))))))
    show SW K _ _ [.dat (dI bottom1), .dat ((dL dI) one2), .dat ((dL dI) other3), .dat ((d2 dI dI) floor4), .dat ((dL dI) ways9), .dat (dI whole13), .tr (.dK none (repK kI dB s31)), .un, .un, .un] _ _ _
    obtain ⟨sorted32, hsorted32, h⟩ := R.bind_inv h
    exact sw_ret (ev_cast (r := (d2 dI (dL dI))) h (ev_tup (ea_cons (ev_var rfl) (ea_cons (EV.frz (en_sortI (r := dB) hsorted32 (ep_var rfl) rfl)) ea_nil)))) rfl
abbrev s__law_due : Stmt := topS 37
abbrev n__law_due : List Str := ["_law_side_here", "_law_floor_here", "_law_bottom", "_law_one", "_law_other", "_law_whole_here", "_law_steps_here", "_law_due_here", "_law_k", "_law_spots", "_law_ends", "_law_axis", "_law_way", "_law_first", "_law_last"]
theorem sc__law_due : FnScope n__law_due ["_law_side_here", "_law_floor_here"] (defScope s__law_due) := ⟨rfl, rfl, rfl, by decide +kernel, rfl, by decide +kernel, by decide +kernel⟩
abbrev sp__law_due (K : PySem.W.Frag) : Sp := spN K (fun (x : ((Rat × Rat) × (Rat × Rat)) × (Int × Int)) => [(d2 (d2 dQ dQ) (d2 dQ dQ)) x.1, (d2 dI dI) x.2]) (fun (x : ((Rat × Rat) × (Rat × Rat)) × (Int × Int)) => l_due_5 x.1 x.2) (d4 dI dI (d2 dQ dQ) (d2 dQ dQ))
set_option maxHeartbeats 4000000 in
theorem ok__law_due {f : Addr} {fd : FuncData} (F : FnP K "_law_due" s__law_due f fd) {f__law_ratio : Addr} {fd__law_ratio : FuncData} (F__law_ratio : FnP K "_law_ratio" s__law_ratio f__law_ratio fd__law_ratio) (b__law_ratio : Binds K fd__law_ratio ["_law_top", "_law_bottom"] []) (g__law_ratio : mg "_law_ratio" = some (.ref f__law_ratio)) {f__law_scaled : Addr} {fd__law_scaled : FuncData} (F__law_scaled : FnP K "_law_scaled" s__law_scaled f__law_scaled fd__law_scaled) (b__law_scaled : Binds K fd__law_scaled ["_law_side_here"] []) (g__law_scaled : mg "_law_scaled" = some (.ref f__law_scaled)) {f__law_steps : Addr} {fd__law_steps : FuncData} (F__law_steps : FnP K "_law_steps" s__law_steps f__law_steps fd__law_steps) (b__law_steps : Binds K fd__law_steps ["_law_bottom", "_law_one", "_law_other", "_law_floor_here"] []) (g__law_steps : mg "_law_steps" = some (.ref f__law_steps)) (G__law_ratio : FnOk P w K mg base CX0 41 f__law_ratio fd__law_ratio ["_law_top", "_law_bottom"] (sp__law_ratio K)) (G__law_scaled : FnOk P w K mg base CX0 41 f__law_scaled fd__law_scaled ["_law_side_here"] (sp__law_scaled K)) (G__law_steps : FnOk P w K mg base CX0 41 f__law_steps fd__law_steps ["_law_bottom", "_law_one", "_law_other", "_law_floor_here"] (sp__law_steps K)) (z_len : mg "len" = none) (z_max : mg "max" = none) (z_range : mg "range" = none) (z_tuple : mg "tuple" = none) (hS : base.NoSeer) (hT : P.given.tree = none) : FnOk P w K mg base CX0 42 f fd ["_law_side_here", "_law_floor_here"] (sp__law_due K) := by
  refine F.ok sc__law_due (fun vs H Q E h => ?_) (fun cdv A outer s H vs Q E hr h => ?_)
  · obtain ⟨x, _, _, _, _, d, _⟩ := h
    exact d.length
  · have hp := pyRm (qual := "_law_due") (sc := defScope s__law_due) (n := s.heap.objs.size) (f := f) (cd := cdv) (outer := outer) hS hT hr (by decide) rfl rfl
    refine ⟨_, PSs.nox (pss_cons (ps_if (pt_cmpR (r := rEqD K) (op_eqD hr.units) (pe_ix (r := rIxT K) ix_tup (pv 0) pe_int (fun _ _ => rfl)) (pe_ix (r := rIxT K) ix_tup (pv 0) pe_int (fun _ _ => rfl)) (nomark _)) (pss_one (ps_ret (pe_lst pa_nil))) pss_nil) (pss_cons (ps_asg (pe_call G__law_scaled (hr.mono (by decide)) (by rfl) g__law_scaled F__law_scaled.kp b__law_scaled .nil pass0 (pa_cons (pv 0) pa_nil)) (show PG _ _ (gTup K 3 _) from pg_tup rfl (pgs_cons (pg_name (i := 2) sc__law_due.nd rfl (Or.inl rfl)) (pgs_cons (pg_name (i := 3) sc__law_due.nd rfl (Or.inl rfl)) (pgs_cons (pg_name (i := 4) sc__law_due.nd rfl (Or.inl rfl)) pgs_nil))))) (pss_cons (ps_asg (pe_call G__law_steps (hr.mono (by decide)) (by rfl) g__law_steps F__law_steps.kp b__law_steps .nil pass0 (pa_cons (pv 2) (pa_cons (pv 3) (pa_cons (pv 4) (pa_cons (pv 1) pa_nil))))) (show PG _ _ (gTup K 2 _) from pg_tup rfl (pgs_cons (pg_name (i := 5) sc__law_due.nd rfl (Or.inl rfl)) (pgs_cons (pg_name (i := 6) sc__law_due.nd rfl (Or.inl rfl)) pgs_nil)))) (pss_cons (ps_set (i := 7) sc__law_due.nd rfl (Or.inl rfl) (pe_lst pa_nil)) (pss_cons (ps_for PassesOwn.never rfl (pi_range1 (by rfl) z_range (pa_cons (pe_op op_sub (pe_callB (id := "len") (r := rLenP K) cl_len (by rfl) z_len (by decide +kernel) (pa_cons (pv 6) pa_nil)) pe_int) pa_nil)) (pg_name (i := 8) sc__law_due.nd rfl (Or.inl rfl)) (pss_cons (ps_set (i := 9) sc__law_due.nd rfl (Or.inl rfl) (pe_lst pa_nil)) (pss_cons (ps_set (i := 10) sc__law_due.nd rfl (Or.inl rfl) (pe_lst (pa_cons (pe_lst pa_nil) (pa_cons (pe_lst pa_nil) pa_nil)))) (pss_cons (ps_for PassesOwn.never rfl (pi_range1 (by rfl) z_range (pa_cons pe_int pa_nil)) (pg_name (i := 11) sc__law_due.nd rfl (Or.inl rfl)) (pss_cons (ps_set (i := 12) sc__law_due.nd rfl (Or.inl rfl) (pe_op op_sub (pe_ix (r := rIxL K) ix_list (pv 4) (pv 11) (fun _ _ => rfl)) (pe_ix (r := rIxL K) ix_list (pv 3) (pv 11) (fun _ _ => rfl)))) (pss_cons (ps_set (i := 13) sc__law_due.nd rfl (Or.inl rfl) (pe_op op_add (pe_op op_mulP (pe_ix (r := rIxL K) ix_list (pv 3) (pv 11) (fun _ _ => rfl)) (pv 5)) (pe_op op_mulP (pv 12) (pe_ix (r := rIxL K) ix_list (pv 6) (pv 8) (fun _ _ => rfl))))) (pss_cons (ps_set (i := 14) sc__law_due.nd rfl (Or.inl rfl) (pe_op op_add (pe_op op_mulP (pe_ix (r := rIxL K) ix_list (pv 3) (pv 11) (fun _ _ => rfl)) (pv 5)) (pe_op op_mulP (pv 12) (pe_ix (r := rIxL K) ix_list (pv 6) (pe_op op_add (pv 8) pe_int) (fun _ _ => rfl))))) (pss_cons (ps_expr (pe_bm PySem.F.plainAttrs_list PySem.F.slot_list_append PySem.F.type_list_append mt_append (pv 9) (pa_cons (pe_op (op_fdivP hp) (pe_op op_add (pv 13) (pv 14)) (pe_op op_mulP (pe_op op_mulP pe_int (pv 2)) (pv 5))) pa_nil))) (pss_cons (ps_expr (pe_bm PySem.F.plainAttrs_list PySem.F.slot_list_append PySem.F.type_list_append mt_append (pe_ix (r := rIxL K) ix_list (pv 10) pe_int (fun _ _ => rfl)) (pa_cons (pe_call G__law_ratio (hr.mono (by decide)) (by rfl) g__law_ratio F__law_ratio.kp b__law_ratio .nil pass0 (pa_cons (pv 13) (pa_cons (pe_op op_mulP (pv 2) (pv 5)) pa_nil))) pa_nil))) (pss_one (ps_expr (pe_bm PySem.F.plainAttrs_list PySem.F.slot_list_append PySem.F.type_list_append mt_append (pe_ix (r := rIxL K) ix_list (pv 10) pe_int (fun _ _ => rfl)) (pa_cons (pe_call G__law_ratio (hr.mono (by decide)) (by rfl) g__law_ratio F__law_ratio.kp b__law_ratio .nil pass0 (pa_cons (pv 14) (pa_cons (pe_op op_mulP (pv 2) (pv 5)) pa_nil))) pa_nil)))))))))) (pss_one (ps_if (PW.pt (pw_and (pt_chain op_le op_lt pe_int (pe_ix (r := rIxL K) ix_list (pv 9) pe_int (fun _ _ => rfl)) (pe_ix (r := rIxT K) ix_tup (pv 1) pe_int (fun _ _ => rfl))) (pw_and1 (pt_cmpR op_lt (pe_ix (r := rIxL K) ix_list (pv 9) pe_int (fun _ _ => rfl)) (pe_ix (r := rIxT K) ix_tup (pv 1) pe_int (fun _ _ => rfl)) (nomark _))))) (pss_one (ps_expr (pe_bm PySem.F.plainAttrs_list PySem.F.slot_list_append PySem.F.type_list_append mt_append (pv 7) (pa_cons (pe_tup (pa_cons (pe_callB (id := "max") (cl_max rfl) (by rfl) z_max (by decide +kernel) (pa_cons (pe_un un_neg pe_int) (pa_cons (pe_ix (r := rIxL K) ix_list (pv 9) pe_int (fun _ _ => rfl)) pa_nil))) (pa_cons (pe_ix (r := rIxL K) ix_list (pv 9) pe_int (fun _ _ => rfl)) (pa_cons (pe_callTy (T := "tuple") (r := rTupP K) cl_tuple (by rfl) z_tuple (by decide +kernel) (pa_cons (pe_ix (r := rIxL K) ix_list (pv 10) pe_int (fun _ _ => rfl)) pa_nil)) (pa_cons (pe_callTy (T := "tuple") (r := rTupP K) cl_tuple (by rfl) z_tuple (by decide +kernel) (pa_cons (pe_ix (r := rIxL K) ix_list (pv 10) pe_int (fun _ _ => rfl)) pa_nil)) pa_nil))))) pa_nil)))) pss_nil)))))) (pss_one (ps_ret (pv 7)))))))), ?_⟩
    refine spN_run (n := 2) (k := 13) rfl (fun _ => rfl) (fun x b h => ?_) h
    obtain ⟨side1, floor2⟩ := x
    show SW K _ _ [.dat ((d2 (d2 dQ dQ) (d2 dQ dQ)) side1), .dat ((d2 dI dI) floor2), .un, .un, .un, .un, .un, .un, .un, .un, .un, .un, .un, .un, .un] _ _ _
    have h : l_due_5 side1 floor2 = R.ok b := h
    unfold l_due_5 at h
    refine sw_seq (sw_if (et_test (ev_eqD (eq2 eqQ eqQ) (ev_ixT (k := 0) (ev_var rfl) (ev_c _) (by rfl) rfl) (ev_ixT (k := 1) (ev_var rfl) (ev_c _) (by rfl) rfl))) (fun hc => ?_) (fun hc => ?_))
    · have h := if_t hc h
      exact sw_retO (en_cast (r := (d4 dI dI (d2 dQ dQ) (d2 dQ dQ))) h (en_lst ea_nil)) rfl
    · have h := if_f hc h
      refine sw_next ?_
      show SW K _ _ [.dat ((d2 (d2 dQ dQ) (d2 dQ dQ)) side1), .dat ((d2 dI dI) floor2), .un, .un, .un, .un, .un, .un, .un, .un, .un, .un, .un, .un, .un] _ _ _
      obtain ⟨s3, hs3, h⟩ := R.bind_inv h
      obtain ⟨t4, ht4, h⟩ := R.bind_inv h
      refine sw_seq (sw_asgG (js := [2, 3, 4]) (ev_cast (r := (d3 dI (dL dI) (dL dI))) ht4 (ev_call (x := side1) hs3 (ea_cons (ev_var rfl) ea_nil))) (gt_tupN rfl (gts_cons (gt_name 2 _ _) (gts_cons (gt_name 3 _ _) (gts_cons (gt_name 4 _ _) gts_nil)))) ?_)
      show SW K _ _ [.dat ((d2 (d2 dQ dQ) (d2 dQ dQ)) side1), .dat ((d2 dI dI) floor2), .dat (dI t4.1), .dat ((dL dI) t4.2.1), .dat ((dL dI) t4.2.2), .un, .un, .un, .un, .un, .un, .un, .un, .un, .un] _ _ _
      obtain ⟨s5, hs5, h⟩ := R.bind_inv h
      obtain ⟨t6, ht6, h⟩ := R.bind_inv h
      refine sw_seq (sw_asgG (js := [5, 6]) (ev_cast (r := (d2 dI (dL dI))) ht6 (ev_call (x := (t4.1, t4.2.1, t4.2.2, floor2)) hs5 (ea_cons (ev_var rfl) (ea_cons (ev_var rfl) (ea_cons (ev_var rfl) (ea_cons (ev_var rfl) ea_nil)))))) (gt_tup2 (gt_name 5 _ _) (gt_name 6 _ _)) ?_)
      show SW K _ _ [.dat ((d2 (d2 dQ dQ) (d2 dQ dQ)) side1), .dat ((d2 dI dI) floor2), .dat (dI t4.1), .dat ((dL dI) t4.2.1), .dat ((dL dI) t4.2.2), .dat (dI t6.1), .dat ((dL dI) t6.2), .un, .un, .un, .un, .un, .un, .un, .un] _ _ _
      obtain ⟨due7, hdue7, h⟩ := R.bind_inv h
      refine sw_seq (sw_own (en_cast (r := (d4 dI dI (d2 dQ dQ) (d2 dQ dQ))) hdue7 (en_lst ea_nil)) (Nat.le_of_ble_eq_true rfl) ?_)
      show SW K _ _ [.dat ((d2 (d2 dQ dQ) (d2 dQ dQ)) side1), .dat ((d2 dI dI) floor2), .dat (dI t4.1), .dat ((dL dI) t4.2.1), .dat ((dL dI) t4.2.2), .dat (dI t6.1), .dat ((dL dI) t6.2), .ownN none (due7.map (d4 dI dI (d2 dQ dQ) (d2 dQ dQ))), .un, .un, .un, .un, .un, .un, .un] _ _ _
      obtain ⟨r8, hr8, h⟩ := R.bind_inv h
      obtain ⟨s50, hs50, h⟩ := R.bind_inv h
      refine sw_seq (sw_forR (ra := dI) (js := [8]) _ (fun (z : (List (Int × Int × (Rat × Rat) × (Rat × Rat)))) => [.dat ((d2 (d2 dQ dQ) (d2 dQ dQ)) side1), .dat ((d2 dI dI) floor2), .dat (dI t4.1), .dat ((dL dI) t4.2.1), .dat ((dL dI) t4.2.2), .dat (dI t6.1), .dat ((dL dI) t6.2), .ownN none (z.map (d4 dI dI (d2 dQ dQ) (d2 dQ dQ))), .un, .un, .un, .un, .un, .un, .un]) _ (iv_rng1 hr8 (ev_i0 (g := fun i j => .int (i - j)) (ev_lenM (ev_lenL (ev_var rfl))) (ev_c _))) hs50 (.eq (.eq (.eq (.eq (.eq (.eq (.eq (.eq (.un (.un (.un (.un (.un (.un (.un .nil))))))))))))))) (fun x9 s10 s' _ h => ⟨_, (gt_name 8 _ _), ?_⟩) ?_)
      · show SW K _ _ [.dat ((d2 (d2 dQ dQ) (d2 dQ dQ)) side1), .dat ((d2 dI dI) floor2), .dat (dI t4.1), .dat ((dL dI) t4.2.1), .dat ((dL dI) t4.2.2), .dat (dI t6.1), .dat ((dL dI) t6.2), .ownN none (s10.map (d4 dI dI (d2 dQ dQ) (d2 dQ dQ))), .dat (dI x9), .un, .un, .un, .un, .un, .un] _ _ _
        obtain ⟨spots11, hspots11, h⟩ := R.bind_inv h
        refine sw_seq (sw_own (en_cast (r := dI) hspots11 (en_lst ea_nil)) (Nat.le_of_ble_eq_true rfl) ?_)
        show SW K _ _ [.dat ((d2 (d2 dQ dQ) (d2 dQ dQ)) side1), .dat ((d2 dI dI) floor2), .dat (dI t4.1), .dat ((dL dI) t4.2.1), .dat ((dL dI) t4.2.2), .dat (dI t6.1), .dat ((dL dI) t6.2), .ownN none (s10.map (d4 dI dI (d2 dQ dQ) (d2 dQ dQ))), .dat (dI x9), .ownN none (spots11.map dI), .un, .un, .un, .un, .un] _ _ _
        obtain ⟨ends12, hends12, h⟩ := R.bind_inv h
        refine sw_seq (sw_setM (em_cast (r := fun z => T.lst none ((z.map (oL dQ)).map OD.toT)) hends12 (em_eq (y := .lst none ((([([] : (List Rat)), ([] : (List Rat))] : (List (List Rat))).map (oL dQ)).map OD.toT)) rfl (em_lst (eam_cons (em_en (en_lst ea_nil)) (eam_cons (em_en (en_lst ea_nil)) eam_nil))))) (by exact Nat.le_of_ble_eq_true rfl) ?_)
        show SW K _ _ [.dat ((d2 (d2 dQ dQ) (d2 dQ dQ)) side1), .dat ((d2 dI dI) floor2), .dat (dI t4.1), .dat ((dL dI) t4.2.1), .dat ((dL dI) t4.2.2), .dat (dI t6.1), .dat ((dL dI) t6.2), .ownN none (s10.map (d4 dI dI (d2 dQ dQ) (d2 dQ dQ))), .dat (dI x9), .ownN none (spots11.map dI), .own2N none (ends12.map (oL dQ)), .un, .un, .un, .un] _ _ _
        obtain ⟨r13, hr13, h⟩ := R.bind_inv h
        obtain ⟨s39, hs39, h⟩ := R.bind_inv h
        refine sw_seq (sw_forR (ra := dI) (js := [11]) _ (fun (z : ((List (List Rat)) × (List Int))) => [.dat ((d2 (d2 dQ dQ) (d2 dQ dQ)) side1), .dat ((d2 dI dI) floor2), .dat (dI t4.1), .dat ((dL dI) t4.2.1), .dat ((dL dI) t4.2.2), .dat (dI t6.1), .dat ((dL dI) t6.2), .ownN none (s10.map (d4 dI dI (d2 dQ dQ) (d2 dQ dQ))), .dat (dI x9), .ownN none (z.2.map dI), .own2N none (z.1.map (oL dQ)), .un, .un, .un, .un]) _ (iv_rng1 hr13 (ev_c _)) hs39 (.eq (.eq (.eq (.eq (.eq (.eq (.eq (.eq (.eq (.eq (.eq (.un (.un (.un (.un .nil))))))))))))))) (fun x14 s15 s' _ h => ⟨_, (gt_name 11 _ _), ?_⟩) ?_)
        · show SW K _ _ [.dat ((d2 (d2 dQ dQ) (d2 dQ dQ)) side1), .dat ((d2 dI dI) floor2), .dat (dI t4.1), .dat ((dL dI) t4.2.1), .dat ((dL dI) t4.2.2), .dat (dI t6.1), .dat ((dL dI) t6.2), .ownN none (s10.map (d4 dI dI (d2 dQ dQ) (d2 dQ dQ))), .dat (dI x9), .ownN none (s15.2.map dI), .own2N none (s15.1.map (oL dQ)), .dat (dI x14), .un, .un, .un] _ _ _
          obtain ⟨it16, hit16, h⟩ := R.bind_inv h
          obtain ⟨it17, hit17, h⟩ := R.bind_inv h
          obtain ⟨way18, hway18, h⟩ := R.bind_inv h
          refine sw_seq (sw_set (ev_cast (r := dI) hway18 (ev_i0 (g := fun i j => .int (i - j)) (ev_atL (r := dI) hit16 (ev_var rfl) (ev_var rfl)) (ev_atL (r := dI) hit17 (ev_var rfl) (ev_var rfl)))) ?_)
          show SW K _ _ [.dat ((d2 (d2 dQ dQ) (d2 dQ dQ)) side1), .dat ((d2 dI dI) floor2), .dat (dI t4.1), .dat ((dL dI) t4.2.1), .dat ((dL dI) t4.2.2), .dat (dI t6.1), .dat ((dL dI) t6.2), .ownN none (s10.map (d4 dI dI (d2 dQ dQ) (d2 dQ dQ))), .dat (dI x9), .ownN none (s15.2.map dI), .own2N none (s15.1.map (oL dQ)), .dat (dI x14), .dat (dI way18), .un, .un] _ _ _
          obtain ⟨it19, hit19, h⟩ := R.bind_inv h
          obtain ⟨p20, hp20, h⟩ := R.bind_inv h
          obtain ⟨it21, hit21, h⟩ := R.bind_inv h
          obtain ⟨p22, hp22, h⟩ := R.bind_inv h
          obtain ⟨first23, hfirst23, h⟩ := R.bind_inv h
          refine sw_seq (sw_set (ev_cast (r := dI) hfirst23 (ev_i0 (g := fun i j => .int (i + j)) (ev_mul hp20 (ev_atL (r := dI) hit19 (ev_var rfl) (ev_var rfl)) (ev_var rfl)) (ev_mul hp22 (ev_var rfl) (ev_atL (r := dI) hit21 (ev_var rfl) (ev_var rfl))))) ?_)
          show SW K _ _ [.dat ((d2 (d2 dQ dQ) (d2 dQ dQ)) side1), .dat ((d2 dI dI) floor2), .dat (dI t4.1), .dat ((dL dI) t4.2.1), .dat ((dL dI) t4.2.2), .dat (dI t6.1), .dat ((dL dI) t6.2), .ownN none (s10.map (d4 dI dI (d2 dQ dQ) (d2 dQ dQ))), .dat (dI x9), .ownN none (s15.2.map dI), .own2N none (s15.1.map (oL dQ)), .dat (dI x14), .dat (dI way18), .dat (dI first23), .un] _ _ _
          obtain ⟨it24, hit24, h⟩ := R.bind_inv h
          obtain ⟨p25, hp25, h⟩ := R.bind_inv h
          obtain ⟨it26, hit26, h⟩ := R.bind_inv h
          obtain ⟨p27, hp27, h⟩ := R.bind_inv h
          obtain ⟨last28, hlast28, h⟩ := R.bind_inv h
          refine sw_seq (sw_set (ev_cast (r := dI) hlast28 (ev_i0 (g := fun i j => .int (i + j)) (ev_mul hp25 (ev_atL (r := dI) hit24 (ev_var rfl) (ev_var rfl)) (ev_var rfl)) (ev_mul hp27 (ev_var rfl) (ev_atL (r := dI) hit26 (ev_var rfl) (ev_i0 (g := fun i j => .int (i + j)) (ev_var rfl) (ev_c _)))))) ?_)
          show SW K _ _ [.dat ((d2 (d2 dQ dQ) (d2 dQ dQ)) side1), .dat ((d2 dI dI) floor2), .dat (dI t4.1), .dat ((dL dI) t4.2.1), .dat ((dL dI) t4.2.2), .dat (dI t6.1), .dat ((dL dI) t6.2), .ownN none (s10.map (d4 dI dI (d2 dQ dQ) (d2 dQ dQ))), .dat (dI x9), .ownN none (s15.2.map dI), .own2N none (s15.1.map (oL dQ)), .dat (dI x14), .dat (dI way18), .dat (dI first23), .dat (dI last28)] _ _ _
          obtain ⟨p29, hp29, h⟩ := R.bind_inv h
          obtain ⟨p30, hp30, h⟩ := R.bind_inv h
          obtain ⟨q31, hq31, h⟩ := R.bind_inv h
          obtain ⟨spots32, hspots32, h⟩ := R.bind_inv h
          refine sw_seq (sw_app (r := dI) hspots32 rfl (ev_fdiv hq31 (ev_i0 (g := fun i j => .int (i + j)) (ev_var rfl) (ev_var rfl)) (ev_mul hp30 (ev_mul hp29 (ev_c _) (ev_var rfl)) (ev_var rfl))) ?_)
          show SW K _ _ [.dat ((d2 (d2 dQ dQ) (d2 dQ dQ)) side1), .dat ((d2 dI dI) floor2), .dat (dI t4.1), .dat ((dL dI) t4.2.1), .dat ((dL dI) t4.2.2), .dat (dI t6.1), .dat ((dL dI) t6.2), .ownN none (s10.map (d4 dI dI (d2 dQ dQ) (d2 dQ dQ))), .dat (dI x9), .ownN none (spots32.map dI), .own2N none (s15.1.map (oL dQ)), .dat (dI x14), .dat (dI way18), .dat (dI first23), .dat (dI last28)] _ _ _
          obtain ⟨p33, hp33, h⟩ := R.bind_inv h
          obtain ⟨r34, hr34, h⟩ := R.bind_inv h
          obtain ⟨ends35, hends35, h⟩ := R.bind_inv h
          refine sw_seq (sw_app2T (r := dQ) hends35 rfl (ev_c _) (ev_call (x := (first23, p33)) hr34 (ea_cons (ev_var rfl) (ea_cons (ev_mul hp33 (ev_var rfl) (ev_var rfl)) ea_nil))) ?_)
          show SW K _ _ [.dat ((d2 (d2 dQ dQ) (d2 dQ dQ)) side1), .dat ((d2 dI dI) floor2), .dat (dI t4.1), .dat ((dL dI) t4.2.1), .dat ((dL dI) t4.2.2), .dat (dI t6.1), .dat ((dL dI) t6.2), .ownN none (s10.map (d4 dI dI (d2 dQ dQ) (d2 dQ dQ))), .dat (dI x9), .ownN none (spots32.map dI), .own2N none (ends35.map (oL dQ)), .dat (dI x14), .dat (dI way18), .dat (dI first23), .dat (dI last28)] _ _ _
          obtain ⟨p36, hp36, h⟩ := R.bind_inv h
          obtain ⟨r37, hr37, h⟩ := R.bind_inv h
          obtain ⟨ends38, hends38, h⟩ := R.bind_inv h
          refine sw_app2T (r := dQ) hends38 rfl (ev_c _) (ev_call (x := (last28, p36)) hr37 (ea_cons (ev_var rfl) (ea_cons (ev_mul hp36 (ev_var rfl) (ev_var rfl)) ea_nil))) ?_
          obtain rfl := R.ok_inj h
          exact .eq (.eq (.eq (.eq (.eq (.eq (.eq (.eq (.eq (.eq (.eq (.un (.un (.un (.un .nil))))))))))))))
        show SW K _ _ [.dat ((d2 (d2 dQ dQ) (d2 dQ dQ)) side1), .dat ((d2 dI dI) floor2), .dat (dI t4.1), .dat ((dL dI) t4.2.1), .dat ((dL dI) t4.2.2), .dat (dI t6.1), .dat ((dL dI) t6.2), .ownN none (s10.map (d4 dI dI (d2 dQ dQ) (d2 dQ dQ))), .dat (dI x9), .ownN none (s39.2.map dI), .own2N none (s39.1.map (oL dQ)), .un, .un, .un, .un] _ _ _
        refine sw_frz (i := 9) rfl ?_
        show SW K _ _ [.dat ((d2 (d2 dQ dQ) (d2 dQ dQ)) side1), .dat ((d2 dI dI) floor2), .dat (dI t4.1), .dat ((dL dI) t4.2.1), .dat ((dL dI) t4.2.2), .dat (dI t6.1), .dat ((dL dI) t6.2), .ownN none (s10.map (d4 dI dI (d2 dQ dQ) (d2 dQ dQ))), .dat (dI x9), .dat ((dL dI) s39.2), .own2N none (s39.1.map (oL dQ)), .un, .un, .un, .un] _ _ _
        obtain ⟨it40, hit40, h⟩ := R.bind_inv h
        obtain ⟨b42, hb42, h⟩ := R.bind_inv h
        refine sw_if (et_andR hb42 (et_test (ev_chain (p := fun i j => decide (i ≤ j)) (p' := fun i j => decide (i < j)) (ev_c _) (ev_atL (r := dI) hit40 (ev_var rfl) (ev_c _)) (fun _ => (ev_ixT (k := 1) (ev_var rfl) (ev_c _) (by rfl) rfl)))) (fun hc h => by obtain ⟨it41, hit41, h⟩ := R.bind_inv h; exact et_cast h (et_test (ev_i0 (g := fun i j => .bl (decide (i < j))) (ev_atL (r := dI) hit41 (ev_var rfl) (ev_c _)) (ev_ixT (k := 0) (ev_var rfl) (ev_c _) (by rfl) rfl))))) (fun hc => ?_) (fun hc => ?_)
        · have h := if_t hc h
          refine sw_frz2L (n := 10) rfl ?_
          show SW K _ _ [.dat ((d2 (d2 dQ dQ) (d2 dQ dQ)) side1), .dat ((d2 dI dI) floor2), .dat (dI t4.1), .dat ((dL dI) t4.2.1), .dat ((dL dI) t4.2.2), .dat (dI t6.1), .dat ((dL dI) t6.2), .ownN none (s10.map (d4 dI dI (d2 dQ dQ) (d2 dQ dQ))), .dat (dI x9), .dat ((dL dI) s39.2), .dat ((dL (dL dQ)) s39.1), .un, .un, .un, .un] _ _ _
          obtain ⟨it43, hit43, h⟩ := R.bind_inv h
          obtain ⟨it44, hit44, h⟩ := R.bind_inv h
          obtain ⟨it45, hit45, h⟩ := R.bind_inv h
          obtain ⟨t46, ht46, h⟩ := R.bind_inv h
          obtain ⟨it47, hit47, h⟩ := R.bind_inv h
          obtain ⟨t48, ht48, h⟩ := R.bind_inv h
          obtain ⟨due49, hdue49, h⟩ := R.bind_inv h
          refine sw_app (r := (d4 dI dI (d2 dQ dQ) (d2 dQ dQ))) hdue49 rfl (ev_tup (ea_cons (ev_max (ev_u (g := fun i => .int (-i)) (ev_c _)) (ev_atL (r := dI) hit43 (ev_var rfl) (ev_c _))) (ea_cons (ev_atL (r := dI) hit44 (ev_var rfl) (ev_c _)) (ea_cons (ev_tup2 ht46 (ev_tuple (ev_atL (r := (dL dQ)) hit45 (ev_var rfl) (ev_c _)))) (ea_cons (ev_tup2 ht48 (ev_tuple (ev_atL (r := (dL dQ)) hit47 (ev_var rfl) (ev_c _)))) ea_nil))))) ?_
          obtain rfl := R.ok_inj h
          exact .eq (.eq (.eq (.eq (.eq (.eq (.eq (.eq (.un (.un (.un (.un (.un (.un (.un .nil))))))))))))))
        · have h := if_f hc h
          refine sw_next ?_
          obtain rfl := R.ok_inj h
          exact .eq (.eq (.eq (.eq (.eq (.eq (.eq (.eq (.un (.un (.un (.un (.un (.un (.un .nil))))))))))))))
      show SW K _ _ [.dat ((d2 (d2 dQ dQ) (d2 dQ dQ)) side1), .dat ((d2 dI dI) floor2), .dat (dI t4.1), .dat ((dL dI) t4.2.1), .dat ((dL dI) t4.2.2), .dat (dI t6.1), .dat ((dL dI) t6.2), .ownN none (s50.map (d4 dI dI (d2 dQ dQ) (d2 dQ dQ))), .un, .un, .un, .un, .un, .un, .un] _ _ _
      obtain rfl := R.ok_inj h
      exact sw_retV rfl rfl
abbrev s_law : Stmt := topS 38
abbrev n_law : List Str := ["_law_script", "_law_floor_here", "_law_k", "_law_side_here"]
theorem sc_law : FnScope n_law ["_law_script"] (defScope s_law) := ⟨rfl, rfl, rfl, by decide +kernel, rfl, by decide +kernel, by decide +kernel⟩
abbrev sp_law (K : PySem.W.Frag) : Sp := spR K (fun (x : (List Int)) => [(dL dI) x]) (fun (x : (List Int)) => k13_law x) dB
set_option maxHeartbeats 4000000 in
theorem ok_law {f : Addr} {fd : FuncData} (F : FnP K "law" s_law f fd) {f__law_cell : Addr} {fd__law_cell : FuncData} (F__law_cell : FnP K "_law_cell" s__law_cell f__law_cell fd__law_cell) (b__law_cell : Binds K fd__law_cell ["_law_script", "_law_k"] []) (g__law_cell : mg "_law_cell" = some (.ref f__law_cell)) {f__law_due : Addr} {fd__law_due : FuncData} (F__law_due : FnP K "_law_due" s__law_due f__law_due fd__law_due) (b__law_due : Binds K fd__law_due ["_law_side_here", "_law_floor_here"] []) (g__law_due : mg "_law_due" = some (.ref f__law_due)) {f__law_floor : Addr} {fd__law_floor : FuncData} (F__law_floor : FnP K "_law_floor" s__law_floor f__law_floor fd__law_floor) (b__law_floor : Binds K fd__law_floor ["_law_cell_here"] []) (g__law_floor : mg "_law_floor" = some (.ref f__law_floor)) {f__law_side : Addr} {fd__law_side : FuncData} (F__law_side : FnP K "_law_side" s__law_side f__law_side fd__law_side) (b__law_side : Binds K fd__law_side ["_law_script", "_law_at_here", "_law_cell_here"] []) (g__law_side : mg "_law_side" = some (.ref f__law_side)) {f_pieces : Addr} {fd_pieces : FuncData} (F_pieces : FnP K "pieces" s_pieces f_pieces fd_pieces) (b_pieces : Binds K fd_pieces ["width", "height", "side"] []) (g_pieces : mg "pieces" = some (.ref f_pieces)) (G__law_cell : FnOk P w K mg base CX0 41 f__law_cell fd__law_cell ["_law_script", "_law_k"] (sp__law_cell K)) (G__law_due : FnOk P w K mg base CX0 42 f__law_due fd__law_due ["_law_side_here", "_law_floor_here"] (sp__law_due K)) (G__law_floor : FnOk P w K mg base CX0 41 f__law_floor fd__law_floor ["_law_cell_here"] (sp__law_floor K)) (G__law_side : FnOk P w K mg base CX0 44 f__law_side fd__law_side ["_law_script", "_law_at_here", "_law_cell_here"] (sp__law_side K)) (G_pieces : FnOk P w K mg base CX0 46 f_pieces fd_pieces ["width", "height", "side"] (sp_pieces K)) (z_range : mg "range" = none) (hS : base.NoSeer) (hT : P.given.tree = none) : FnOk P w K mg base CX0 47 f fd ["_law_script"] (sp_law K) := by
  refine F.ok sc_law (fun vs H Q E h => ?_) (fun cdv A outer s H vs Q E hr h => ?_)
  · obtain ⟨x, _, _, _, _, d, _⟩ := h
    exact d.length
  · have hp := pyRm (qual := "law") (sc := defScope s_law) (n := s.heap.objs.size) (f := f) (cd := cdv) (outer := outer) hS hT hr (by decide) rfl rfl
    refine ⟨_, PSs.nox (pss_cons (ps_set (i := 1) sc_law.nd rfl (Or.inl rfl) (pe_call G__law_floor (hr.mono (by decide)) (by rfl) g__law_floor F__law_floor.kp b__law_floor .nil pass0 (pa_cons (pe_call G__law_cell (hr.mono (by decide)) (by rfl) g__law_cell F__law_cell.kp b__law_cell .nil pass0 (pa_cons (pv 0) (pa_cons pe_int pa_nil))) pa_nil))) (pss_cons (ps_for PassesOwn.never rfl (pi_range1 (by rfl) z_range (pa_cons pe_int pa_nil)) (pg_name (i := 2) sc_law.nd rfl (Or.inl rfl)) (pss_cons (ps_set (i := 3) sc_law.nd rfl (Or.inl rfl) (pe_call G__law_side (hr.mono (by decide)) (by rfl) g__law_side F__law_side.kp b__law_side .nil pass0 (pa_cons (pv 0) (pa_cons (pe_op op_add pe_int (pe_op op_mulP pe_int (pv 2))) (pa_cons (pe_op (op_fdivP hp) (pe_call G__law_cell (hr.mono (by decide)) (by rfl) g__law_cell F__law_cell.kp b__law_cell .nil pass0 (pa_cons (pv 0) (pa_cons pe_int pa_nil))) (pe_ix (r := rIxL K) ix_list (pe_lst (pa_cons pe_int (pa_cons pe_int (pa_cons pe_int pa_nil)))) (pv 2) (fun _ _ => rfl))) pa_nil))))) (pss_one (ps_if (pt_cmpR (r := rNeD K) (op_neD hr.units) (pe_call G_pieces (hr.mono (by decide)) (by rfl) g_pieces F_pieces.kp b_pieces .nil pass0 (pa_cons (pe_ix (r := rIxT K) ix_tup (pv 1) pe_int (fun _ _ => rfl)) (pa_cons (pe_ix (r := rIxT K) ix_tup (pv 1) pe_int (fun _ _ => rfl)) (pa_cons (pv 3) pa_nil)))) (pe_call G__law_due (hr.mono (by decide)) (by rfl) g__law_due F__law_due.kp b__law_due .nil pass0 (pa_cons (pv 3) (pa_cons (pv 1) pa_nil))) (nomark _)) (pss_one (ps_ret pe_bl)) pss_nil)))) (pss_one (ps_ret pe_bl)))), ?_⟩
    refine spR_run (n := 1) (k := 3) rfl (fun _ => rfl) (fun x b h => ?_) h
    generalize x = script1 at h ⊢
    show SW K _ _ [.dat ((dL dI) script1), .un, .un, .un] _ _ _
    have h : k13_law script1 = R.ok b := h
    unfold k13_law at h
    obtain ⟨c2, hc2, h⟩ := R.bind_inv h
    obtain ⟨f3, hf3, h⟩ := R.bind_inv h
    obtain ⟨floor4, hfloor4, h⟩ := R.bind_inv h
    refine sw_seq (sw_set (ev_cast (r := (d2 dI dI)) hfloor4 (ev_call (x := c2) hf3 (ea_cons (ev_call (x := (script1, (0 : Int))) hc2 (ea_cons (ev_var rfl) (ea_cons (ev_c _) ea_nil))) ea_nil))) ?_)
    show SW K _ _ [.dat ((dL dI) script1), .dat ((d2 dI dI) floor4), .un, .un] _ _ _
    obtain ⟨r5, hr5, h⟩ := R.bind_inv h
    obtain ⟨r16, hr16, h⟩ := R.bind_inv h
    refine sw_seq (sw_forX (ra := dI) (js := [2]) _ (fun (z : Unit) => [.dat ((dL dI) script1), .dat ((d2 dI dI) floor4), .un, .un]) (fun b _ v => v = .dat (dB b)) (fun _ _ _ => False) _ (iv_rng1 hr5 (ev_c _)) hr16 (.eq (.eq (.un (.un .nil)))) (fun x6 s7 r1 _ h => ⟨_, (gt_name 2 _ _), ?_⟩) (fun s17 e => ?_) (fun b18 e => ?_))
    · show SW K _ _ [.dat ((dL dI) script1), .dat ((d2 dI dI) floor4), .dat (dI x6), .un] _ _ _
      obtain ⟨p8, hp8, h⟩ := R.bind_inv h
      obtain ⟨c9, hc9, h⟩ := R.bind_inv h
      obtain ⟨it10, hit10, h⟩ := R.bind_inv h
      obtain ⟨q11, hq11, h⟩ := R.bind_inv h
      obtain ⟨s12, hs12, h⟩ := R.bind_inv h
      obtain ⟨side13, hside13, h⟩ := R.bind_inv h
      refine sw_seq (sw_set (ev_cast (r := (d2 (d2 dQ dQ) (d2 dQ dQ))) hside13 (ev_call (x := (script1, ((2 : Int) + p8), q11)) hs12 (ea_cons (ev_var rfl) (ea_cons (ev_i0 (g := fun i j => .int (i + j)) (ev_c _) (ev_mul hp8 (ev_c _) (ev_var rfl))) (ea_cons (ev_fdiv hq11 (ev_call (x := (script1, (1 : Int))) hc9 (ea_cons (ev_var rfl) (ea_cons (ev_c _) ea_nil))) (ev_atL (r := dI) hit10 (EV.frz (en_lst (ds := [(1 : Int), (12 : Int), (144 : Int)].map dI) (ea_cons (ev_c _) (ea_cons (ev_c _) (ea_cons (ev_c _) ea_nil))))) (ev_var rfl))) ea_nil))))) ?_)
      show SW K _ _ [.dat ((dL dI) script1), .dat ((d2 dI dI) floor4), .dat (dI x6), .dat ((d2 (d2 dQ dQ) (d2 dQ dQ)) side13)] _ _ _
      obtain ⟨pieces14, hpieces14, h⟩ := R.bind_inv h
      obtain ⟨d15, hd15, h⟩ := R.bind_inv h
      refine sw_if (et_test (ev_neD (eqL (eq4 eqI eqI (eq2 eqQ eqQ) (eq2 eqQ eqQ))) (EV.frz (en_call (x := (floor4.1, floor4.2, side13)) hpieces14 (ea_cons (ev_ixT (k := 0) (ev_var rfl) (ev_c _) (by rfl) rfl) (ea_cons (ev_ixT (k := 1) (ev_var rfl) (ev_c _) (by rfl) rfl) (ea_cons (ev_var rfl) ea_nil))))) (EV.frz (en_call (x := (side13, floor4)) hd15 (ea_cons (ev_var rfl) (ea_cons (ev_var rfl) ea_nil)))))) (fun hc => ?_) (fun hc => ?_)
      · have h := if_t hc h
        exact sw_ret (ev_c _) ⟨_, (R.ok_inj h).symm, rfl⟩
      · have h := if_f hc h
        refine sw_next ?_
        exact ⟨_, (R.ok_inj h).symm, .eq (.eq (.un (.un .nil)))⟩
    · subst e
      have h := R.case_l h
      show SW K _ _ [.dat ((dL dI) script1), .dat ((d2 dI dI) floor4), .un, .un] _ _ _
      exact sw_ret (ev_cast (r := dB) h (ev_c _)) rfl
    · subst e
      have h := R.case_r h
      obtain rfl := R.ok_inj h; exact ⟨fun _ _ z => z, fun _ _ z => z.elim⟩
end
end Pg

set_option Elab.async false
set_option linter.all false
namespace Pg
open R
/-! ### outcomes, simplified -/
theorem bind_ok {α β : Type} (a : α) (k : α → R β) : R.bind (.ok a) k = k a := rfl
theorem andR_t (m : R Bool) : R.andR true m = m := rfl
theorem andR_f (m : R Bool) : R.andR false m = .ok false := rfl
theorem orR_t (m : R Bool) : R.orR true m = .ok true := rfl
theorem orR_f (m : R Bool) : R.orR false m = m := rfl
theorem caseX_l {S β γ : Type} (s : S) (k1 : S → R γ) (k2 : β → R γ) : R.caseX (.inl s) k1 k2 = k1 s := rfl
theorem caseX_r {S β γ : Type} (b : β) (k1 : S → R γ) (k2 : β → R γ) : R.caseX (.inr b) k1 k2 = k2 b := rfl
theorem if_ok_t {α : Type} (a b : α) : (if true = true then a else b) = a := rfl
theorem if_ok_f {α : Type} (a b : α) : (if false = true then a else b) = b := rfl
/-! ### sizes: less than 2 ^ n -/
def S (n : Nat) (i : Int) : Prop := i.natAbs < 2 ^ n
instance (n : Nat) (i : Int) : Decidable (S n i) := inferInstanceAs (Decidable (i.natAbs < 2 ^ n))
theorem S.mono {a b : Nat} {i : Int} (h : S a i) (l : a ≤ b) : S b i := Nat.lt_of_lt_of_le h (Nat.pow_le_pow_right (by decide) l)
theorem S.mul {a b : Nat} {i j : Int} (h : S a i) (k : S b j) : S (a + b) (i * j) := by
  unfold S at *
  rw [Int.natAbs_mul, Nat.pow_add]
  exact Nat.mul_lt_mul'' h k
theorem S.add {a b : Nat} {i j : Int} (h : S a i) (k : S b j) : S (max a b + 1) (i + j) := by
  have h1 := h.mono (Nat.le_max_left a b)
  have h2 := k.mono (Nat.le_max_right a b)
  unfold S at *
  have := Int.natAbs_add_le i j
  rw [Nat.pow_succ]; omega
theorem S.neg {a : Nat} {i : Int} (h : S a i) : S a (-i) := by unfold S at *; rwa [Int.natAbs_neg]
theorem S.sub {a b : Nat} {i j : Int} (h : S a i) (k : S b j) : S (max a b + 1) (i - j) := by rw [Int.sub_eq_add_neg]; exact h.add k.neg
theorem S.abs {a : Nat} {i : Int} (h : S a i) : S a (absZ i) := by unfold absZ; split; exact h.neg; exact h
theorem S.log {n : Nat} {i : Int} (h : S n i) : i.natAbs.log2 ≤ n := by
  by_cases h0 : i.natAbs = 0
  · rw [h0]; exact Nat.zero_le _
  · exact Nat.le_of_lt ((Nat.log2_lt h0).mpr h)
theorem S.of_log {n : Nat} {i : Int} (h : i.natAbs.log2 ≤ n) : S (n + 1) i := by
  unfold S
  by_cases h0 : i.natAbs = 0
  · rw [h0]; exact Nat.pow_pos (by decide)
  · exact (Nat.log2_lt h0).mp (by omega)
theorem mulR_ok {a b : Nat} {i j : Int} (h : S a i) (k : S b j) (l : a + b < 134000000) : mulR i j = .ok (i * j) := by
  unfold mulR
  rw [if_pos (by have := h.log; have := k.log; omega)]
theorem fdivR_ok {i j : Int} (h : j ≠ 0) : fdivR i j = .ok (i.fdiv j) := by unfold fdivR; rw [if_neg h]
theorem fmodR_ok {i j : Int} (h : j ≠ 0) : fmodR i j = .ok (i.fmod j) := by unfold fmodR; rw [if_neg h]
theorem gcdR_ok {i j : Int} (h : 0 ≤ i) (k : 0 ≤ j) : gcdR i j = .ok (Int.gcd i j : Nat) := by unfold gcdR; rw [if_pos ⟨h, k⟩]
theorem absZ_eq (i : Int) : absZ i = (i.natAbs : Int) := by unfold absZ; split <;> omega
theorem absZ_nn (i : Int) : 0 ≤ absZ i := by rw [absZ_eq]; omega
/-! ### lists by place -/
theorem ixP_nat {n k : Nat} (h : k < n) : ixP n (k : Int) = some k := by
  unfold ixP
  rw [if_pos (by omega), if_pos (by omega)]
  simp
theorem atR_nat {α : Type} {xs : List α} {k : Nat} {x : α} (h : xs[k]? = some x) : atR xs (k : Int) = .ok x := by
  have hk : k < xs.length := by
    rcases Nat.lt_or_ge k xs.length with z | z
    · exact z
    · rw [List.getElem?_eq_none z] at h; cases h
  unfold atR
  rw [ixP_nat hk]
  simp only [h]
theorem atR_int {α : Type} {xs : List α} {i : Int} (h0 : 0 ≤ i) (h1 : i < xs.length) : ∃ x, xs[i.toNat]? = some x ∧ atR xs i = .ok x := by
  have hk : i.toNat < xs.length := by omega
  refine ⟨xs[i.toNat], by simp [hk], ?_⟩
  have := atR_nat (xs := xs) (k := i.toNat) (x := xs[i.toNat]) (by simp [hk])
  rwa [Int.toNat_of_nonneg h0] at this
theorem rngR_ok {i j : Int} (h1 : -(2 ^ 62) ≤ i) (h2 : i < 2 ^ 62) (h3 : -(2 ^ 62) ≤ j) (h4 : j < 2 ^ 62) : rngR i j = .ok ((List.range (j - i).toNat).map fun k => i + (k : Nat)) := by
  unfold rngR; rw [if_pos ⟨h1, h2, h3, h4⟩]
theorem appR_ok {α : Type} {xs : List α} {x : α} (h : xs.length < 16777216) : appR xs x = .ok (xs ++ [x]) := by unfold appR; rw [if_pos h]
theorem catR_ok {α : Type} {xs ys : List α} (h : xs.length + ys.length ≤ 16777216) : catR xs ys = .ok (xs ++ ys) := by unfold catR; rw [if_pos h]
theorem compR_ok {α β : Type} {f : α → R β} {xs : List α} {ys : List β} (h : xs.length < 16777216) (hm : R.mapR f xs = .ok ys) : R.compR f xs = .ok ys := by unfold R.compR; rw [if_pos h, hm]
theorem mapR_ok {α β : Type} {f : α → R β} {g : α → β} : ∀ {xs : List α}, (∀ x ∈ xs, f x = .ok (g x)) → R.mapR f xs = .ok (xs.map g)
  | [], _ => rfl
  | x :: xs, h => by
    unfold R.mapR
    rw [h x List.mem_cons_self, bind_ok, mapR_ok (fun y hy => h y (List.mem_cons_of_mem _ hy)), bind_ok]
    rfl
/-- a loop by its invariant -/
theorem forR_inv {α T : Type} {f : α → T → R T} (P : Nat → T → Prop) : ∀ (xs : List α) (k : Nat) (s : T), P k s → (∀ i s x, P (k + i) s → xs[i]? = some x → ∃ s', f x s = .ok s' ∧ P (k + i + 1) s') → ∃ s', R.forR f xs s = .ok s' ∧ P (k + xs.length) s'
  | [], k, s, h, _ => ⟨s, rfl, h⟩
  | x :: xs, k, s, h, hs => by
    obtain ⟨s1, e1, p1⟩ := hs 0 s x h rfl
    obtain ⟨s2, e2, p2⟩ := forR_inv P xs (k + 1) s1 p1 fun i s y hp hy => by
      have := hs (i + 1) s y (by rw [show k + (i + 1) = k + 1 + i by omega]; exact hp) (by simpa using hy)
      rwa [show k + (i + 1) + 1 = k + 1 + i + 1 by omega] at this
    refine ⟨s2, ?_, by rw [List.length_cons, show k + (xs.length + 1) = k + 1 + xs.length by omega]; exact p2⟩
    unfold R.forR
    rw [e1, bind_ok, e2]
/-- a loop that never hands back -/
theorem forX_inv {α T β : Type} {f : α → T → R (Sum T β)} (P : Nat → T → Prop) : ∀ (xs : List α) (k : Nat) (s : T), P k s → (∀ i s x, P (k + i) s → xs[i]? = some x → ∃ s', f x s = .ok (.inl s') ∧ P (k + i + 1) s') → ∃ s', R.forX f xs s = .ok (.inl s') ∧ P (k + xs.length) s'
  | [], k, s, h, _ => ⟨s, rfl, h⟩
  | x :: xs, k, s, h, hs => by
    obtain ⟨s1, e1, p1⟩ := hs 0 s x h rfl
    obtain ⟨s2, e2, p2⟩ := forX_inv P xs (k + 1) s1 p1 fun i s y hp hy => by
      have := hs (i + 1) s y (by rw [show k + (i + 1) = k + 1 + i by omega]; exact hp) (by simpa using hy)
      rwa [show k + (i + 1) + 1 = k + 1 + i + 1 by omega] at this
    refine ⟨s2, ?_, by rw [List.length_cons, show k + (xs.length + 1) = k + 1 + xs.length by omega]; exact p2⟩
    unfold R.forX
    rw [e1, bind_ok]
    exact e2
/-- .. of no state, by what holds of every item -/
theorem forX_all {α β : Type} {f : α → Unit → R (Sum Unit β)} {xs : List α} (h : ∀ x ∈ xs, f x () = .ok (.inl ())) : R.forX f xs () = .ok (.inl ()) := by
  obtain ⟨s, e, _⟩ := forX_inv (fun _ _ => True) xs 0 () trivial fun i s x _ hx => ⟨(), h x (List.mem_of_getElem? hx), trivial⟩
  exact e
/-! ### a small logic of outcomes -/
/-- the outcome is a value that Q holds of -/
def Ok {α : Type} (m : R α) (Q : α → Prop) : Prop := ∃ a, m = .ok a ∧ Q a
theorem Ok.pure {α : Type} {a : α} {Q : α → Prop} (h : Q a) : Ok (.ok a) Q := ⟨a, rfl, h⟩
theorem Ok.eq {α : Type} {m : R α} {a : α} {Q : α → Prop} (e : m = .ok a) (h : Q a) : Ok m Q := ⟨a, e, h⟩
theorem Ok.bind {α β : Type} {m : R α} {k : α → R β} {P : α → Prop} {Q : β → Prop} (h : Ok m P) (hk : ∀ a, P a → Ok (k a) Q) : Ok (R.bind m k) Q := by
  obtain ⟨a, e, p⟩ := h
  rw [e]; exact hk a p
/-- a step whose value is known -/
theorem Ok.step {α β : Type} {m : R α} {k : α → R β} {a : α} {Q : β → Prop} (e : m = .ok a) (hk : Ok (k a) Q) : Ok (R.bind m k) Q := by rw [e]; exact hk
theorem Ok.one {α β : Type} {k : α → R β} {a : α} {Q : β → Prop} (hk : Ok (k a) Q) : Ok (R.bind (.ok a) k) Q := hk
theorem Ok.mono {α : Type} {m : R α} {P Q : α → Prop} (h : Ok m P) (i : ∀ a, P a → Q a) : Ok m Q := let ⟨a, e, p⟩ := h; ⟨a, e, i a p⟩
theorem Ok.ite {α : Type} {c : Prop} [Decidable c] {a b : R α} {Q : α → Prop} (h1 : c → Ok a Q) (h2 : ¬ c → Ok b Q) : Ok (if decide c = true then a else b) Q := by
  by_cases h : c
  · rw [decide_eq_true h, if_ok_t]; exact h1 h
  · rw [decide_eq_false h, if_ok_f]; exact h2 h
theorem Ok.iteB {α : Type} {c : Bool} {a b : R α} {Q : α → Prop} (h1 : c = true → Ok a Q) (h2 : c = false → Ok b Q) : Ok (if c = true then a else b) Q := by
  cases c
  · exact h2 rfl
  · exact h1 rfl
theorem Ok.andR {c : Bool} {m : R Bool} {Q : Bool → Prop} (h1 : c = true → Ok m Q) (h2 : c = false → Q false) : Ok (R.andR c m) Q := by
  cases c
  · exact .pure (h2 rfl)
  · exact h1 rfl
theorem Ok.orR {c : Bool} {m : R Bool} {Q : Bool → Prop} (h1 : c = false → Ok m Q) (h2 : c = true → Q true) : Ok (R.orR c m) Q := by
  cases c
  · exact h1 rfl
  · exact .pure (h2 rfl)
theorem Ok.forR {α T : Type} {f : α → T → R T} {xs : List α} {s : T} (P : Nat → T → Prop) (h0 : P 0 s) (hs : ∀ i s x, P i s → xs[i]? = some x → Ok (f x s) (P (i + 1))) : Ok (R.forR f xs s) (P xs.length) := by
  obtain ⟨s', e, p⟩ := forR_inv (f := f) P xs 0 s h0 fun i s x hp hx => by
    rw [Nat.zero_add] at hp ⊢
    exact hs i s x hp hx
  exact ⟨s', e, by rwa [Nat.zero_add] at p⟩
theorem Ok.forX {α T β : Type} {f : α → T → R (Sum T β)} {xs : List α} {s : T} (P : Nat → T → Prop) (h0 : P 0 s) (hs : ∀ i s x, P i s → xs[i]? = some x → Ok (f x s) (fun r => ∃ s', r = .inl s' ∧ P (i + 1) s')) :
    Ok (R.forX f xs s) (fun r => ∃ s', r = .inl s' ∧ P xs.length s') := by
  obtain ⟨s', e, p⟩ := forX_inv (f := f) P xs 0 s h0 fun i s x hp hx => by
    rw [Nat.zero_add] at hp ⊢
    obtain ⟨r, e, s', e2, q⟩ := hs i s x hp hx
    exact ⟨s', by rw [e, e2], q⟩
  exact ⟨.inl s', e, s', rfl, by rwa [Nat.zero_add] at p⟩
theorem Ok.mapR {α β : Type} {f : α → R β} {P : α → β → Prop} : ∀ {xs : List α}, (∀ x ∈ xs, Ok (f x) (P x)) → Ok (R.mapR f xs) (fun ys => ys.length = xs.length ∧ ∀ (i : Nat) x y, xs[i]? = some x → ys[i]? = some y → P x y)
  | [], _ => ⟨[], rfl, rfl, fun i x y h => by simp at h⟩
  | x :: xs, h => by
    obtain ⟨y, e, p⟩ := h x List.mem_cons_self
    obtain ⟨ys, e2, hl, p2⟩ := Ok.mapR (xs := xs) fun z hz => h z (List.mem_cons_of_mem _ hz)
    refine ⟨y :: ys, ?_, by rw [List.length_cons, List.length_cons, hl], fun i a b ha hb => ?_⟩
    · unfold R.mapR
      rw [e, bind_ok, e2, bind_ok]
    · cases i with
      | zero => simp at ha hb; subst ha hb; exact p
      | succ i => exact p2 i a b (by simpa using ha) (by simpa using hb)
theorem Ok.compR {α β : Type} {f : α → R β} {P : α → β → Prop} {xs : List α} (hl : xs.length < 16777216) (h : ∀ x ∈ xs, Ok (f x) (P x)) : Ok (R.compR f xs) (fun ys => ys.length = xs.length ∧ ∀ (i : Nat) x y, xs[i]? = some x → ys[i]? = some y → P x y) := by
  obtain ⟨ys, e, q⟩ := Ok.mapR h
  exact ⟨ys, compR_ok hl e, q⟩
/-- every item by what it comes of -/
theorem all_of {α β : Type} {P : α → β → Prop} {Q : β → Prop} {xs : List α} {ys : List β} (h : ys.length = xs.length ∧ ∀ (i : Nat) x y, xs[i]? = some x → ys[i]? = some y → P x y) (hq : ∀ x y, x ∈ xs → P x y → Q y) : ∀ y ∈ ys, Q y := fun y hy => by
  obtain ⟨i, hi, e⟩ := List.mem_iff_getElem.mp hy
  have hx : i < xs.length := by omega
  exact hq xs[i] y (List.getElem_mem hx) (h.2 i xs[i] y (by simp [hx]) (by rw [← e]; simp [hi]))
theorem Ok.true {m : R Bool} (h : Ok m (· = true)) : m = .ok true := by
  obtain ⟨a, e, p⟩ := h
  rw [e, p]
/-- an item of range(n) -/
theorem rng_at {i j x : Int} {k : Nat} (h : ((List.range (j - i).toNat).map fun k => i + (k : Nat))[k]? = some x) : x = i + (k : Nat) ∧ x < j := by
  rw [List.getElem?_map] at h
  by_cases hk : k < (j - i).toNat
  · rw [List.getElem?_range hk] at h
    have e : i + (k : Nat) = x := Option.some.inj h
    exact ⟨e.symm, by omega⟩
  · rw [List.getElem?_eq_none (by simpa using hk)] at h
    cases h
theorem rng_mem {i j x : Int} (h : x ∈ (List.range (j - i).toNat).map fun k => i + (k : Nat)) : i ≤ x ∧ x < j := by
  obtain ⟨k, hk, e⟩ := List.mem_map.mp h
  have := List.mem_range.mp hk
  omega
theorem rng_len (i j : Int) : ((List.range (j - i).toNat).map fun k => i + (k : Nat)).length = (j - i).toNat := by simp
/-! ### ratios by tops and bottoms -/
theorem mkQ_divInt {a b : Int} (hb : b ≠ 0) : fdivR a (if b < 0 then -(Int.gcd a b : Nat) else (Int.gcd a b : Nat)) = .ok (Rat.divInt a b).num ∧ fdivR b (if b < 0 then -(Int.gcd a b : Nat) else (Int.gcd a b : Nat)) = .ok ((Rat.divInt a b).den : Int) := by
  have hg : (Int.gcd a b : Nat) ≠ 0 := Int.gcd_ne_zero_right hb
  rw [Rat.num_divInt, Rat.den_divInt, if_neg hb, Int.gcd_comm b a]
  obtain ⟨x, hx⟩ := Int.gcd_dvd_left a b
  obtain ⟨y, hy⟩ := Int.gcd_dvd_right a b
  generalize hG : (Int.gcd a b : Nat) = g at *
  have hg' : (g : Int) ≠ 0 := by omega
  have hgp : (0 : Int) < g := by omega
  have hfa : ∀ z : Int, ((g : Int) * z).fdiv g = z := fun z => by rw [Int.fdiv_eq_ediv_of_nonneg _ (by omega)]; exact Int.mul_ediv_cancel_left z hg'
  have hfn : ∀ z : Int, ((g : Int) * z).fdiv (-g) = -z := fun z => by
    have e : (g : Int) * z = (-g) * (-z) := by rw [Int.neg_mul_neg]
    rw [e]; exact Int.mul_fdiv_cancel_left (-z) (by omega)
  by_cases hn : b < 0
  · rw [if_pos hn, fdivR_ok (by omega), fdivR_ok (by omega)]
    refine ⟨congrArg R.ok ?_, congrArg R.ok ?_⟩
    · rw [Int.sign_eq_neg_one_of_neg hn, hx, hfn, Int.neg_one_mul, ← Int.mul_neg, Int.mul_ediv_cancel_left _ hg']
    · have e : ((b.natAbs / g : Nat) : Int) = -y := by
        rw [Int.natCast_ediv, show ((b.natAbs : Nat) : Int) = -b by omega, hy, ← Int.mul_neg, Int.mul_ediv_cancel_left _ hg']
      rw [e, hy, hfn]
  · rw [if_neg hn, fdivR_ok (by omega), fdivR_ok (by omega)]
    refine ⟨congrArg R.ok ?_, congrArg R.ok ?_⟩
    · rw [Int.sign_eq_one_of_pos (by omega), hx, hfa, Int.one_mul, Int.mul_ediv_cancel_left _ hg']
    · have e : ((b.natAbs / g : Nat) : Int) = y := by
        rw [Int.natCast_ediv, show ((b.natAbs : Nat) : Int) = b by omega, hy, Int.mul_ediv_cancel_left _ hg']
      rw [e, hy, hfa]
theorem mkQ_self (q : Rat) : mkQ q.num (q.den : Int) = .ok q := by
  unfold mkQ
  have hd := q.den_pos
  rw [dif_pos ⟨by omega, by rw [Int.toNat_natCast]; exact q.reduced⟩]
  exact congrArg R.ok (Rat.ext rfl (by show ((q.den : Int)).toNat = q.den; simp))
end Pg

set_option Elab.async false
set_option linter.all false
namespace Pg
/-! ### ratios of core Lean: sizes, the program's ratio, the laws' looks -/
theorem natAbs_ediv_le (a : Int) {g : Int} (hg : 0 < g) : (a / g).natAbs ≤ a.natAbs := by
  by_cases h : 0 ≤ a
  · have h1 := Int.ediv_nonneg h (Int.le_of_lt hg)
    have h2 := Int.ediv_le_self g h
    omega
  · have h1 : a / g < 0 := Int.ediv_neg_of_neg_of_pos (by omega) hg
    have h2 : a ≤ a / g := by
      have h3 := Int.mul_ediv_self_le (x := a) (k := g) (by omega)
      have h4 := Int.emod_lt_of_pos a hg
      have h5 := Int.emod_add_mul_ediv a g
      have h6 : g * (a / g) ≤ a / g := by
        have : (g - 1) * (a / g) ≤ 0 := Int.mul_nonpos_of_nonneg_of_nonpos (by omega) (by omega)
        have e : (g - 1) * (a / g) = g * (a / g) - a / g := by rw [Int.sub_mul, Int.one_mul]
        omega
      by_cases h7 : a % g = 0
      · omega
      · by_cases h8 : g = 1
        · subst h8; simp
        · -- g ≥ 2
          have h9 : (g - 1) * (a / g) ≤ (g - 1) * (-1) := Int.mul_le_mul_of_nonneg_left (by omega) (by omega)
          have e : (g - 1) * (a / g) = g * (a / g) - a / g := by rw [Int.sub_mul, Int.one_mul]
          omega
    omega
theorem S_num {n : Nat} {a b : Int} (h : S n a) : S n (Rat.divInt a b).num := by
  unfold S at *
  refine Nat.lt_of_le_of_lt ?_ h
  rw [Rat.num_divInt]
  by_cases hb : b = 0
  · subst hb; simp
  · have hg : (0 : Int) < (Int.gcd b a : Nat) := by have := Int.gcd_pos_of_ne_zero_left (a := b) a hb; omega
    have hs : (b.sign * a).natAbs ≤ a.natAbs := by
      rw [Int.natAbs_mul, Int.natAbs_sign_of_ne_zero hb]; omega
    exact Nat.le_trans (natAbs_ediv_le _ hg) hs
theorem S_den {n : Nat} {a b : Int} (hb : b ≠ 0) (h : S n b) : S n ((Rat.divInt a b).den : Int) := by
  unfold S at *
  refine Nat.lt_of_le_of_lt ?_ h
  rw [Rat.den_divInt, if_neg hb, Int.natAbs_natCast]
  exact Nat.div_le_self _ _
/-- both parts below 2 ^ n -/
def SQ (n : Nat) (q : Rat) : Prop := S n q.num ∧ S n (q.den : Int)
theorem SQ.mono {a b : Nat} {q : Rat} (h : SQ a q) (l : a ≤ b) : SQ b q := ⟨h.1.mono l, h.2.mono l⟩
theorem SQ_divInt {n : Nat} {a b : Int} (hb : b ≠ 0) (ha : S n a) (h : S n b) : SQ n (Rat.divInt a b) := ⟨S_num ha, S_den hb h⟩
theorem p_ratio_ok {a b : Int} (hb : b ≠ 0) : p_ratio a b = .ok (Rat.divInt a b) := by
  unfold p_ratio
  rw [decide_eq_false hb, if_ok_f]
  have key : ∀ x y : Int, 0 < y → R.bind (p_divisor (absZ x) y) (fun d => R.bind (R.ok d) fun m => R.bind (fdivR x m) fun q8 => R.bind (fdivR y m) fun q9 => R.bind (mkQ q8 q9) fun q => R.ok q) = .ok (Rat.divInt x y) := fun x y hy => by
    unfold p_divisor
    rw [gcdR_ok (absZ_nn x) (by omega), bind_ok, bind_ok, bind_ok]
    have hg : Int.gcd (absZ x) y = Int.gcd x y := by rw [absZ_eq, Int.gcd_eq_natAbs_gcd_natAbs, Int.natAbs_natCast]; rfl
    obtain ⟨h1, h2⟩ := mkQ_divInt (a := x) (b := y) (by omega)
    rw [if_neg (by omega)] at h1 h2
    rw [hg, h1, bind_ok, h2, bind_ok, mkQ_self, bind_ok]
  by_cases hn : b < 0
  · rw [decide_eq_true hn, if_ok_t, bind_ok, bind_ok, bind_ok]
    show R.bind (p_divisor (absZ (-a)) (-b)) _ = _
    rw [← Rat.neg_divInt_neg a b]
    exact key (-a) (-b) (by omega)
  · rw [decide_eq_false hn, if_ok_f, bind_ok]
    exact key a b (by omega)
theorem l_most_ok {a b : Int} (h : 0 ≤ a) (k : 0 ≤ b) : l_most a b = .ok (Int.gcd a b : Nat) := by
  unfold l_most
  rw [gcdR_ok h k, bind_ok]
theorem divInt_cross {q : Rat} {a b : Int} (hb : b ≠ 0) (h : q = Rat.divInt a b) : q.num * b = a * (q.den : Int) := by
  have h1 : Rat.divInt q.num (q.den : Int) = Rat.divInt a b := by rw [Rat.num_divInt_den, h]
  exact (Rat.divInt_eq_divInt_iff (by have := q.den_nz; omega) hb).mp h1
theorem l_is_ok {n : Nat} {q : Rat} {a b : Int} (hb : b ≠ 0) (h : q = Rat.divInt a b) (ha : S n a) (hB : S n b) (hn : n ≤ 60000000) : l_is q a b = .ok true := by
  unfold l_is l_whole
  have s1 : S n q.num := by rw [h]; exact S_num ha
  have s2 : S n (q.den : Int) := by rw [h]; exact S_den hb hB
  have hd := q.den_pos
  have hlt : ¬ ((q.den : Int) < 1) := by omega
  simp only [bind_ok, Bool.not_true, Bool.not_false, Bool.true_and, Bool.and_true, Bool.and_false, decide_true, Bool.or_false, Bool.false_or, if_ok_f, orR_f, decide_eq_false hlt, Bool.or_self]
  rw [mulR_ok s1 hB (by omega), bind_ok, mulR_ok ha s2 (by omega), bind_ok, divInt_cross hb h, decide_eq_true rfl, andR_t,
    l_most_ok (absZ_nn _) (by omega), bind_ok]
  have hg : Int.gcd (absZ q.num) (q.den : Int) = 1 := by
    rw [absZ_eq, Int.gcd_eq_natAbs_gcd_natAbs, Int.natAbs_natCast, Int.natAbs_natCast]; exact q.reduced
  rw [hg]
  rfl
/-! ### the drawn cells -/
def Bits (ns : List Int) : Prop := ∀ z ∈ ns, z.natAbs.log2 ≤ 1048576
theorem S_lit {n : Nat} {i : Int} (h : i.natAbs < 2 ^ n) : S n i := h
theorem S_lt {n : Nat} {i : Int} {m : Nat} (h0 : 0 ≤ i) (h : i < m) (hm : m ≤ 2 ^ n) : S n i := by unfold S; omega
theorem S_emod {n : Nat} {i : Int} (m : Nat) (hm : 0 < m) (h : m ≤ 2 ^ n) : S n (i % (m : Int)) := by
  have h1 := Int.emod_nonneg i (show (m : Int) ≠ 0 by omega)
  have h2 := Int.emod_lt_of_pos i (show (0 : Int) < m by omega)
  exact S_lt h1 h2 h
theorem S_ediv {n : Nat} {i : Int} {m : Int} (hm : 0 < m) (h : S n i) : S n (i / m) := Nat.lt_of_le_of_lt (natAbs_ediv_le i hm) h
/-- every cell is a whole number of bounded size -/
theorem l_cell_ok {ns : List Int} (hb : Bits ns) {k : Int} (h0 : 0 ≤ k) (h1 : k < 1000000) : ∃ c, l_cell ns k = .ok c ∧ S 1048577 c := by
  unfold l_cell
  by_cases h : k < (ns.length : Int)
  · obtain ⟨x, hx, e⟩ := atR_int h0 h
    rw [decide_eq_true h, if_ok_t, e, bind_ok]
    exact ⟨x, rfl, .of_log (hb x (List.mem_of_getElem? hx))⟩
  · rw [decide_eq_false h, if_ok_f]
    have sk : S 20 k := by unfold S; omega
    rw [mulR_ok (b := 13) sk (by decide) (by omega), bind_ok, bind_ok]
    have fin : ∀ s : Int, S 60 s → ∃ c, R.bind (mulR s (48271 : Int)) (fun p10 => R.bind (R.ok ((p10 % (65537 : Int)))) fun some11 => R.bind (mulR ((2 : Int)) k) fun p12 => R.bind (mulR some11 (((some11 + p12) + (1 : Int)))) fun p13 => R.ok (((p13 / (7 : Int)) % (65521 : Int)))) = .ok c ∧ S 1048577 c := fun s hs => by
      rw [mulR_ok (b := 16) hs (by decide) (by omega), bind_ok, bind_ok, mulR_ok (a := 2) (by decide) sk (by omega), bind_ok]
      have hm : S 17 (s * 48271 % 65537) := S_emod (i := s * 48271) 65537 (by decide) (by decide)
      rw [mulR_ok hm (b := 30) ?_ (by omega), bind_ok]
      · refine ⟨_, rfl, ?_⟩
        exact (S_emod (n := 17) (i := _ / 7) 65521 (by decide) (by decide)).mono (by omega)
      · have h2 := Int.emod_nonneg (s * 48271) (show (65537 : Int) ≠ 0 by decide)
        have h3 := Int.emod_lt_of_pos (s * 48271) (show (0 : Int) < 65537 by decide)
        unfold S; omega
    by_cases hl : (ns.length : Int) > 0
    · rw [decide_eq_true hl, if_ok_t, fmodR_ok (by omega), bind_ok]
      have e1 : k.fmod (ns.length : Int) = k % (ns.length : Int) := Int.fmod_eq_emod_of_nonneg k (by omega)
      have h2 := Int.emod_nonneg k (show (ns.length : Int) ≠ 0 by omega)
      have h3 := Int.emod_lt_of_pos k (show (0 : Int) < (ns.length : Int) by omega)
      rw [e1]
      obtain ⟨x, hx, e⟩ := atR_int h2 h3
      rw [e, bind_ok, bind_ok, bind_ok]
      refine fin _ ?_
      have h4 := Int.emod_nonneg x (show (65537 : Int) ≠ 0 by decide)
      have h5 := Int.emod_lt_of_pos x (show (0 : Int) < 65537 by decide)
      unfold S; omega
    · rw [decide_eq_false hl, if_ok_f, bind_ok]
      refine fin _ ?_
      unfold S; omega
theorem l_top_ok (c : Int) : ∃ t, l_top c = .ok t ∧ S 101 t := by
  unfold l_top
  have h2 := Int.emod_nonneg (c / 4) (show (2000000000000000000000000000000 - 1 : Int) ≠ 0 by decide)
  have h3 := Int.emod_lt_of_pos (c / 4) (show (0 : Int) < 2000000000000000000000000000000 - 1 by decide)
  by_cases h : c % 4 = 3
  · rw [decide_eq_true h, if_ok_t]
    exact ⟨_, rfl, by unfold S; omega⟩
  · rw [decide_eq_false h, if_ok_f]
    exact ⟨_, rfl, by unfold S; omega⟩
theorem l_bottom_ok (c : Int) : ∃ t, l_bottom c = .ok t ∧ S 101 t ∧ 0 < t := by
  unfold l_bottom
  have h2 := Int.emod_nonneg (c / 4) (show (1000000000000000000000000000000 - 1 : Int) ≠ 0 by decide)
  have h3 := Int.emod_lt_of_pos (c / 4) (show (0 : Int) < 1000000000000000000000000000000 - 1 by decide)
  by_cases h : c % 4 = 3
  · rw [decide_eq_true h, if_ok_t]
    exact ⟨_, rfl, by unfold S; omega, by omega⟩
  · rw [decide_eq_false h, if_ok_f]
    exact ⟨_, rfl, by unfold S; omega, by omega⟩
end Pg

set_option Elab.async false
set_option linter.all false
namespace Pg
/-! ### sums, differences, products, quotients -/
theorem add_divInt (a b : Rat) : a + b = Rat.divInt (a.num * b.den + b.num * a.den) ((a.den : Int) * b.den) := by
  rw [Rat.add_def', ← Rat.divInt_ofNat, Int.natCast_mul]
theorem sub_divInt (a b : Rat) : a - b = Rat.divInt (a.num * b.den - b.num * a.den) ((a.den : Int) * b.den) := by
  rw [Rat.sub_def', ← Rat.divInt_ofNat, Int.natCast_mul]
theorem mul_divInt (a b : Rat) : a * b = Rat.divInt (a.num * b.num) ((a.den : Int) * b.den) := by
  rw [Rat.mul_def', ← Rat.divInt_ofNat, Int.natCast_mul]
theorem div_divInt (a b : Rat) : a / b = Rat.divInt (a.num * b.den) (a.den * b.num) := by
  rw [Rat.div_def, Rat.inv_def]
  have e : a = Rat.divInt a.num a.den := (Rat.num_divInt_den a).symm
  conv => lhs; rw [e]
  rw [Rat.divInt_mul_divInt]
theorem den_ne (q : Rat) : (q.den : Int) ≠ 0 := by have := q.den_nz; omega
theorem dens_ne (p q : Rat) : (p.den : Int) * q.den ≠ 0 := Int.mul_ne_zero (den_ne p) (den_ne q)
theorem num_ne {q : Rat} (h : q ≠ 0) : q.num ≠ 0 := fun z => h (Rat.num_eq_zero.mp z)
theorem S_cross {n m : Nat} {p q : Rat} (hp : SQ n p) (hq : SQ m q) : S (n + m + 1) (p.num * q.den + q.num * p.den) :=
  ((hp.1.mul hq.2).add (hq.1.mul hp.2)).mono (by omega)
theorem S_cross' {n m : Nat} {p q : Rat} (hp : SQ n p) (hq : SQ m q) : S (n + m + 1) (p.num * q.den - q.num * p.den) :=
  ((hp.1.mul hq.2).sub (hq.1.mul hp.2)).mono (by omega)
theorem S_dens {n m : Nat} {p q : Rat} (hp : SQ n p) (hq : SQ m q) : S (n + m) ((p.den : Int) * q.den) := hp.2.mul hq.2
theorem SQ.add {n m : Nat} {p q : Rat} (hp : SQ n p) (hq : SQ m q) : SQ (n + m + 1) (p + q) := by
  rw [add_divInt]; exact SQ_divInt (dens_ne p q) (S_cross hp hq) ((S_dens hp hq).mono (by omega))
theorem SQ.sub {n m : Nat} {p q : Rat} (hp : SQ n p) (hq : SQ m q) : SQ (n + m + 1) (p - q) := by
  rw [sub_divInt]; exact SQ_divInt (dens_ne p q) (S_cross' hp hq) ((S_dens hp hq).mono (by omega))
theorem SQ.mul {n m : Nat} {p q : Rat} (hp : SQ n p) (hq : SQ m q) : SQ (n + m) (p * q) := by
  rw [mul_divInt]; exact SQ_divInt (dens_ne p q) (hp.1.mul hq.1) (S_dens hp hq)
theorem SQ.div {n m : Nat} {p q : Rat} (hp : SQ n p) (hq : SQ m q) (h0 : q ≠ 0) : SQ (n + m) (p / q) := by
  rw [div_divInt]; exact SQ_divInt (Int.mul_ne_zero (den_ne p) (num_ne h0)) (hp.1.mul hq.2) (hp.2.mul hq.1)
theorem SQ.neg {n : Nat} {p : Rat} (hp : SQ n p) : SQ n (-p) := ⟨hp.1.neg, hp.2⟩
theorem SQ_zero (n : Nat) : SQ (n + 1) 0 := ⟨S.mono (a := 1) (by decide) (by omega), S.mono (a := 1) (by decide) (by omega)⟩
theorem SQ_one (n : Nat) : SQ (n + 1) 1 := ⟨S.mono (a := 1) (by decide) (by omega), S.mono (a := 1) (by decide) (by omega)⟩
theorem p_plus_ok {n m : Nat} {p q : Rat} (hp : SQ n p) (hq : SQ m q) (h : n + m < 134000000) : p_plus p q = .ok (p + q) := by
  unfold p_plus
  rw [mulR_ok hp.1 hq.2 h, bind_ok, mulR_ok hq.1 hp.2 (by omega), bind_ok, mulR_ok hp.2 hq.2 h, bind_ok, p_ratio_ok (dens_ne p q), bind_ok, ← add_divInt]
theorem p_minus_ok {n m : Nat} {p q : Rat} (hp : SQ n p) (hq : SQ m q) (h : n + m < 134000000) : p_minus p q = .ok (p - q) := by
  unfold p_minus
  rw [mulR_ok hp.1 hq.2 h, bind_ok, mulR_ok hq.1 hp.2 (by omega), bind_ok, mulR_ok hp.2 hq.2 h, bind_ok, p_ratio_ok (dens_ne p q), bind_ok, ← sub_divInt]
theorem p_times_ok {n m : Nat} {p q : Rat} (hp : SQ n p) (hq : SQ m q) (h : n + m < 134000000) : p_times p q = .ok (p * q) := by
  unfold p_times
  rw [mulR_ok hp.1 hq.1 h, bind_ok, mulR_ok hp.2 hq.2 h, bind_ok, p_ratio_ok (dens_ne p q), bind_ok, ← mul_divInt]
theorem p_parted_ok {n m : Nat} {p q : Rat} (hp : SQ n p) (hq : SQ m q) (h : n + m < 134000000) (h0 : q ≠ 0) : p_parted p q = .ok (p / q) := by
  unfold p_parted
  rw [mulR_ok hp.1 hq.2 h, bind_ok, mulR_ok hp.2 hq.1 h, bind_ok, p_ratio_ok (Int.mul_ne_zero (den_ne p) (num_ne h0)), bind_ok, ← div_divInt]
/-! ### constants -/
theorem mkQ_lit {a b : Int} {q : Rat} (h1 : q.num = a) (h2 : (q.den : Int) = b) : mkQ a b = .ok q := by rw [← h1, ← h2]; exact mkQ_self q
theorem mkQ_zero : mkQ 0 1 = .ok (0 : Rat) := mkQ_lit rfl rfl
theorem mkQ_one : mkQ 1 1 = .ok (1 : Rat) := mkQ_lit rfl rfl
theorem mkQ_neg (q : Rat) : mkQ (-q.num) (q.den : Int) = .ok (-q) := mkQ_lit (Rat.neg_num q) (congrArg Nat.cast (Rat.neg_den q))
theorem mkQ_int (i : Int) : mkQ i 1 = .ok (i : Rat) := mkQ_lit (Rat.num_intCast i) (congrArg Nat.cast (Rat.den_intCast i))
theorem SQ_int {n : Nat} {i : Int} (h : S n i) (hn : 0 < n) : SQ n (i : Rat) := ⟨by rw [Rat.num_intCast]; exact h, by
  rw [Rat.den_intCast]; exact S.mono (a := 1) (by decide) hn⟩
/-! ### sums of lists -/
def sumQ : List Rat → Rat
  | [] => 0
  | x :: xs => x + sumQ xs
theorem sumQ_append : ∀ xs ys : List Rat, sumQ (xs ++ ys) = sumQ xs + sumQ ys
  | [], ys => by show sumQ ys = 0 + sumQ ys; grind
  | x :: xs, ys => by show x + sumQ (xs ++ ys) = x + sumQ xs + sumQ ys; rw [sumQ_append xs ys]; grind
theorem sumQ_reverse : ∀ xs : List Rat, sumQ xs.reverse = sumQ xs
  | [] => rfl
  | x :: xs => by rw [List.reverse_cons, sumQ_append, sumQ_reverse xs]; show sumQ xs + (x + 0) = x + sumQ xs; grind
theorem SQ_sum {m : Nat} : ∀ {xs : List Rat}, (∀ x ∈ xs, SQ m x) → SQ ((m + 1) * xs.length + 1) (sumQ xs)
  | [], _ => SQ_zero 0
  | x :: xs, h => by
    have h1 := (h x List.mem_cons_self).add (SQ_sum fun y hy => h y (List.mem_cons_of_mem _ hy))
    exact h1.mono (by rw [List.length_cons, Nat.mul_add, Nat.mul_one]; omega)
/-- a loop that adds up -/
theorem plus_loop {f : Rat → Rat → R Rat} (hf : ∀ x s, f x s = R.bind (p_plus s x) fun y => R.ok y) {m : Nat} : ∀ (xs : List Rat) (s : Rat) (n : Nat), SQ n s → (∀ x ∈ xs, SQ m x) → n + (m + 1) * xs.length + m < 134000000 → R.forR f xs s = .ok (s + sumQ xs)
  | [], s, n, _, _, _ => by show R.ok s = R.ok (s + 0); congr 1; grind
  | x :: xs, s, n, hs, hx, hl => by
    have h1 := hx x List.mem_cons_self
    rw [List.length_cons, Nat.mul_add, Nat.mul_one] at hl
    unfold R.forR
    rw [hf, p_plus_ok hs h1 (by omega), bind_ok, bind_ok, plus_loop hf xs (s + x) (n + m + 1) (hs.add h1) (fun y hy => hx y (List.mem_cons_of_mem _ hy)) (by omega)]
    congr 1
    show s + x + sumQ xs = s + (x + sumQ xs)
    grind
theorem p_total_ok {m : Nat} {xs : List Rat} (h : ∀ x ∈ xs, SQ m x) (hl : (m + 1) * xs.length + m < 133000000) : p_total xs = .ok (sumQ xs) := by
  unfold p_total
  rw [mkQ_zero, bind_ok, bind_ok, plus_loop (fun x s => by rfl) xs 0 1 (SQ_zero 0) h (by omega), bind_ok]
  congr 1; grind
/-! ### what the laws draw -/
theorem l_ratio_ok {a b : Int} (hb : b ≠ 0) : l_ratio a b = .ok (Rat.divInt a b) := by
  unfold l_ratio
  rw [l_most_ok (absZ_nn a) (absZ_nn b), bind_ok, bind_ok]
  have hg : Int.gcd (absZ a) (absZ b) = Int.gcd a b := by
    rw [absZ_eq, absZ_eq, Int.gcd_eq_natAbs_gcd_natAbs, Int.natAbs_natCast, Int.natAbs_natCast]; rfl
  rw [hg]
  obtain ⟨h1, h2⟩ := mkQ_divInt (a := a) (b := b) hb
  by_cases hn : b < 0
  · rw [if_pos hn] at h1 h2
    rw [decide_eq_true hn, if_ok_t, bind_ok, bind_ok, h1, bind_ok, h2, bind_ok, mkQ_self, bind_ok]
  · rw [if_neg hn] at h1 h2
    rw [decide_eq_false hn, if_ok_f, bind_ok, h1, bind_ok, h2, bind_ok, mkQ_self, bind_ok]
theorem l_drawn_ok {ns : List Int} (hb : Bits ns) {k : Int} (h0 : 0 ≤ k) (h1 : k < 100000) : ∃ q, l_drawn ns k = .ok q ∧ SQ 101 q := by
  unfold l_drawn
  obtain ⟨c, ec, _⟩ := l_cell_ok hb h0 (show k < 1000000 by omega)
  obtain ⟨t, et, st⟩ := l_top_ok c
  obtain ⟨c2, ec2, _⟩ := l_cell_ok hb (show 0 ≤ k + 1 by omega) (show k + 1 < 1000000 by omega)
  obtain ⟨b, eb, sb, pb⟩ := l_bottom_ok c2
  rw [ec, bind_ok, et, bind_ok, ec2, bind_ok, eb, bind_ok, l_ratio_ok (by omega), bind_ok]
  exact ⟨_, rfl, SQ_divInt (by omega) st sb⟩
/-- the look at a ratio that is due -/
theorem l_is_self {n : Nat} {q : Rat} (h : SQ n q) (hn : n ≤ 60000000) : l_is q q.num (q.den : Int) = .ok true :=
  l_is_ok (den_ne q) (Rat.num_divInt_den q).symm h.1 h.2 hn
end Pg

set_option Elab.async false
set_option linter.all false
namespace Pg
theorem p_under_ok {n m : Nat} {p q : Rat} (hp : SQ n p) (hq : SQ m q) (h : n + m < 134000000) : p_under p q = .ok (decide (p < q)) := by
  unfold p_under
  rw [mulR_ok hp.1 hq.2 h, bind_ok, mulR_ok hq.1 hp.2 (by omega), bind_ok]
  congr 1
  rw [Bool.eq_iff_iff, decide_eq_true_iff, decide_eq_true_iff]
  exact (Rat.lt_iff p q).symm
theorem l_under_ok {n m : Nat} {p q : Rat} (hp : SQ n p) (hq : SQ m q) (h : n + m < 134000000) : l_under p q = .ok (decide (p < q)) := by
  unfold l_under
  rw [mulR_ok hp.1 hq.2 h, bind_ok, mulR_ok hq.1 hp.2 (by omega), bind_ok]
  congr 1
  rw [Bool.eq_iff_iff, decide_eq_true_iff, decide_eq_true_iff]
  exact (Rat.lt_iff p q).symm
/-- held between -/
def clampQ (p low high : Rat) : Rat := if p < low then low else if high < p then high else p
theorem p_between_ok {n m k : Nat} {p q r : Rat} (hp : SQ n p) (hq : SQ m q) (hr : SQ k r) (h : n + m + k < 134000000) : p_between p q r = .ok (clampQ p q r) := by
  unfold p_between clampQ
  rw [p_under_ok hp hq (by omega), bind_ok]
  by_cases h1 : p < q
  · rw [decide_eq_true h1, if_ok_t, if_pos h1]
  · rw [decide_eq_false h1, if_ok_f, if_neg h1, p_under_ok hr hp (by omega), bind_ok]
    by_cases h2 : r < p
    · rw [decide_eq_true h2, if_ok_t, if_pos h2]
    · rw [decide_eq_false h2, if_ok_f, if_neg h2]
theorem p_whole_ok (q : Rat) : p_whole_part q = .ok (q.num / q.den) := by
  unfold p_whole_part
  rw [fdivR_ok (den_ne q), bind_ok, Int.fdiv_eq_ediv_of_nonneg _ (by have := q.den_pos; omega)]
end Pg

set_option Elab.async false
set_option linter.all false
namespace Pg

/-! mirrors of the defs of k26, printed by pygen -/
def p_weakened (parts1 : (List Rat)) (t2 : Rat) : R ((List Rat)) :=
  R.bind (R.compR (fun x3 => R.bind (p_times t2 x3) fun times4 => R.ok times4) parts1) fun c5 =>
  R.ok c5
def p_weakened_v2 (parts1 : (List Rat)) (t2 : Rat) : R ((List Rat)) :=
  R.bind (R.compR (fun x3 => R.bind (p_times t2 x3) fun times4 => R.ok times4) parts1) fun c5 =>
  R.ok c5
def p_ink_film (s1 : Rat) (ink2 : (List Int)) : R ((List Rat)) :=
  R.bind (p_minus ((1 : Rat)) s1) fun minus3 =>
  R.bind (R.compR (fun x4 => R.bind (mkQ x4 ((1 : Int))) fun q5 => R.ok q5) ink2) fun c6 =>
  R.bind (p_weakened_v2 c6 s1) fun weaken7 =>
  R.bind (catR ([minus3, s1]) weaken7) fun c8 =>
  R.ok c8
def p_rub_film (s1 : Rat) : R ((List Rat)) :=
  R.bind (p_minus ((1 : Rat)) s1) fun minus2 =>
  R.ok ([minus2, (0 : Rat), (0 : Rat), (0 : Rat), (0 : Rat)])
def l_plus (one1 : Rat) (other2 : Rat) : R Rat :=
  R.bind (mulR one1.num ((other2.den : Int))) fun p3 =>
  R.bind (mulR other2.num ((one1.den : Int))) fun p4 =>
  R.bind (mulR ((one1.den : Int)) ((other2.den : Int))) fun p5 =>
  R.bind (l_low ((p3 + p4)) p5) fun l6 =>
  R.ok l6
def l_minus (one1 : Rat) (other2 : Rat) : R Rat :=
  R.bind (mulR one1.num ((other2.den : Int))) fun p3 =>
  R.bind (mulR other2.num ((one1.den : Int))) fun p4 =>
  R.bind (mulR ((one1.den : Int)) ((other2.den : Int))) fun p5 =>
  R.bind (l_low ((p3 - p4)) p5) fun l6 =>
  R.ok l6
def l_times (one1 : Rat) (other2 : Rat) : R Rat :=
  R.bind (mulR one1.num other2.num) fun p3 =>
  R.bind (mulR ((one1.den : Int)) ((other2.den : Int))) fun p4 =>
  R.bind (l_low p3 p4) fun l5 =>
  R.ok l5
def l_part (cell1 : Int) : R Rat :=
  R.bind (R.ok (((1 : Int) + (cell1 % (12 : Int))))) fun bottom2 =>
  R.bind (R.ok ((cell1 / (12 : Int)))) fun rest3 =>
  R.bind (if (decide ((rest3 % (8 : Int)) = (5 : Int))) = true then (R.bind (R.ok (((1 : Int) + ((rest3 / (8 : Int)) % (100000000000000000000 : Int))))) fun bottom5 => R.ok bottom5) else (R.ok bottom2) : R Int) fun st4 =>
  R.bind (R.ok ((rest3 % (7 : Int)))) fun way6 =>
  if (decide (way6 = (0 : Int))) = true then (R.bind (mkQ ((0 : Int)) ((1 : Int))) fun q7 => R.ok q7) else (if (decide (way6 = (1 : Int))) = true then (R.bind (mkQ ((1 : Int)) ((1 : Int))) fun q8 => R.ok q8) else (R.bind (mulR ((rest3 / (9 : Int))) ((48271 : Int))) fun p9 => R.bind (fmodR p9 ((st4 + (1 : Int)))) fun m10 => R.bind (l_low m10 st4) fun l11 => R.ok l11))
def l_ink_film (s1 : Rat) (ink2 : (List Int)) : R ((List Rat)) :=
  R.bind (mkQ ((1 : Int)) ((1 : Int))) fun q3 =>
  R.bind (l_minus q3 s1) fun m4 =>
  R.bind (R.ok ([m4, s1])) fun parts5 =>
  R.bind (R.forR (fun (x6 : Int) (s7 : (List Rat)) => R.bind (mkQ x6 ((1 : Int))) fun q8 => R.bind (l_times s1 q8) fun t9 => R.bind (appR s7 t9) fun parts10 => R.ok parts10) ink2 parts5) fun s11 =>
  R.ok s11
def l_ink (cell1 : Int) : R ((List Int)) :=
  R.bind (R.ok (([] : (List Int)))) fun parts2 =>
  R.bind (rngR 0 ((3 : Int))) fun r3 =>
  R.bind (R.forR (fun (x4 : Int) (s5 : (List Int)) => R.bind (mulR ((300 : Int)) x4) fun p6 => R.bind (fdivR cell1 (((1 : Int) + p6))) fun q7 => R.bind (R.ok q7) fun rest8 => R.bind (R.ok (((rest8 / (7 : Int)) % (256 : Int)))) fun part9 => R.bind (if (decide ((rest8 % (7 : Int)) = (0 : Int))) = true then (R.bind (R.ok ((255 : Int))) fun part11 => R.ok part11) else (R.ok part9) : R Int) fun st10 => R.bind (if (decide ((rest8 % (7 : Int)) = (1 : Int))) = true then (R.bind (R.ok ((0 : Int))) fun part13 => R.ok part13) else (R.ok st10) : R Int) fun st12 => R.bind (appR s5 st12) fun parts14 => R.ok parts14) r3 parts2) fun s15 =>
  R.ok s15
def k26_law (script1 : (List Int)) : R Bool :=
  R.bind (rngR 0 ((6 : Int))) fun r2 =>
  R.bind (R.compR (fun x3 => R.bind (l_cell script1 x3) fun c4 => R.ok c4) r2) fun c5 =>
  R.bind (catR c5 ((cutL script1 none (some ((60 : Int)))))) fun c6 =>
  R.bind (R.ok c6) fun cells7 =>
  R.bind (rng3R ((0 : Int)) (((cells7.length : Int) - (1 : Int))) ((2 : Int))) fun r8 =>
  R.bind (R.forX (fun (x9 : Int) (s10 : Unit) => (R.bind (atR cells7 x9) fun it11 => R.bind (l_spread it11 x9) fun s12 => R.bind (l_part s12) fun p13 => R.bind (R.ok p13) fun s14 => R.bind (atR cells7 ((x9 + (1 : Int)))) fun it15 => R.bind (l_spread it15 ((x9 + (1 : Int)))) fun s16 => R.bind (l_ink s16) fun i17 => R.bind (R.ok i17) fun ink18 => R.bind (p_ink_film s14 ink18) fun ink_fi19 => R.bind (l_ink_film s14 ink18) fun i20 => R.bind (l_like ink_fi19 i20) fun l21 => if (!l21) = true then (R.ok (Sum.inr false)) else (R.bind (mkQ ((0 : Int)) ((1 : Int))) fun q22 => R.bind (R.ok q22) fun nought23 => R.bind (p_rub_film s14) fun rub_fi24 => R.bind (mkQ ((1 : Int)) ((1 : Int))) fun q25 => R.bind (l_minus q25 s14) fun m26 => R.bind (l_like rub_fi24 ([m26, nought23, nought23, nought23, nought23])) fun l27 => if (!l27) = true then (R.ok (Sum.inr false)) else (R.bind (p_ink_film nought23 ink18) fun ink_fi28 => R.bind (p_clear_film) fun clear29 => if (!decide (ink_fi28 = clear29)) = true then (R.ok (Sum.inr false)) else (R.ok (Sum.inl (()))))) : R (Sum Unit Bool))) r8 (())) fun r30 =>
  R.caseX r30 (fun s31 => R.bind (mkQ ((0 : Int)) ((1 : Int))) fun q33 => R.bind (p_rub_film q33) fun rub_fi34 => R.bind (p_clear_film) fun clear35 => R.ok ((decide (rub_fi34 = clear35)))) (fun b32 => R.ok b32)
end Pg

set_option Elab.async false
set_option linter.all false
namespace Pg
/-! ### the laws' own ratios -/
theorem l_low_ok {a b : Int} (hb : 0 < b) : l_low a b = .ok (Rat.divInt a b) := by
  unfold l_low
  rw [bind_ok, bind_ok, gcdR_ok (absZ_nn a) (by omega), bind_ok]
  have hg : Int.gcd (absZ a) b = Int.gcd a b := by rw [absZ_eq, Int.gcd_eq_natAbs_gcd_natAbs, Int.natAbs_natCast]; rfl
  obtain ⟨h1, h2⟩ := mkQ_divInt (a := a) (b := b) (by omega)
  rw [if_neg (by omega)] at h1 h2
  rw [hg, h1, bind_ok, h2, bind_ok, mkQ_self, bind_ok]
theorem dens_pos (p q : Rat) : (0 : Int) < (p.den : Int) * q.den := by
  have h1 := p.den_pos; have h2 := q.den_pos
  exact Int.mul_pos (by omega) (by omega)
theorem l_plus_ok {n m : Nat} {p q : Rat} (hp : SQ n p) (hq : SQ m q) (h : n + m < 134000000) : l_plus p q = .ok (p + q) := by
  unfold l_plus
  rw [mulR_ok hp.1 hq.2 h, bind_ok, mulR_ok hq.1 hp.2 (by omega), bind_ok, mulR_ok hp.2 hq.2 h, bind_ok, l_low_ok (dens_pos p q), bind_ok, ← add_divInt]
theorem l_minus_ok {n m : Nat} {p q : Rat} (hp : SQ n p) (hq : SQ m q) (h : n + m < 134000000) : l_minus p q = .ok (p - q) := by
  unfold l_minus
  rw [mulR_ok hp.1 hq.2 h, bind_ok, mulR_ok hq.1 hp.2 (by omega), bind_ok, mulR_ok hp.2 hq.2 h, bind_ok, l_low_ok (dens_pos p q), bind_ok, ← sub_divInt]
theorem l_times_ok {n m : Nat} {p q : Rat} (hp : SQ n p) (hq : SQ m q) (h : n + m < 134000000) : l_times p q = .ok (p * q) := by
  unfold l_times
  rw [mulR_ok hp.1 hq.1 h, bind_ok, mulR_ok hp.2 hq.2 h, bind_ok, l_low_ok (dens_pos p q), bind_ok, ← mul_divInt]
theorem l_whole_ok (i : Int) : l_whole i = .ok true := rfl
/-- the look at ratios -/
theorem l_like_ok (xs : List Rat) : l_like xs xs = .ok true := by
  unfold l_like
  have e : ((!true) || (!decide ((xs.length : Int) = (xs.length : Int)))) = false := by simp
  rw [e, if_ok_f, forX_all (fun x _ => ?_), bind_ok, caseX_l, decide_eq_true rfl]
  rw [show ((!true) || (!decide ((2 : Int) = (2 : Int)))) = false by decide, if_ok_f, forX_all (fun y _ => ?_)]
  · rfl
  · rw [l_whole_ok]; rfl
/-- cells -/
theorem l_spread_ok {n m : Nat} {c k : Int} (hc : S n c) (hk : S m k) (hm : m ≤ 1000) : Ok (l_spread c k) (S (max n 20)) := by
  unfold l_spread
  refine .iteB (fun h => ?_) fun _ => .pure (hc.mono (Nat.le_max_left _ _))
  simp only [Bool.and_eq_true, decide_eq_true_eq] at h
  have s1 : S 11 (c + 1000) := by unfold S; omega
  refine .step (mulR_ok (a := 6) (by decide) hk (by omega)) (.step (mulR_ok (b := m + 18) s1 ?_ (by omega)) (.step (mulR_ok (a := 10) (by decide) hk (by omega)) (.step (mulR_ok (a := m + 40) (b := 16) ?_ (by decide) (by omega)) (.pure ?_))))
  · exact (s1.add ((show S 6 37 by decide).mul hk)).mono (by omega)
  · have h1 : S (m + 30) ((c + 1000) * (c + 1000 + 37 * k)) := (s1.mul ((s1.add ((show S 6 37 by decide).mul hk)))).mono (by omega)
    exact (h1.add ((show S 10 911 by decide).mul hk)).mono (by omega)
  · exact (S_emod (n := 20) (i := ((c + 1000) * (c + 1000 + 37 * k) + 911 * k) * 48271) 1000003 (by decide) (by decide)).mono (Nat.le_max_right _ _)
/-- the cells of a law: the first ones, then those of the script -/
theorem cells_ok {ns : List Int} (hb : Bits ns) {i : Int} (h0 : 0 ≤ i) (hn : i ≤ 1000) {xs : List Int} (hx : ∀ z ∈ xs, z ∈ ns) (hl : xs.length ≤ 1000) {β : Type} {k : List Int → R β} {Q : β → Prop} (hQ : ∀ cs : List Int, (cs.length : Int) = i + xs.length → (∀ c ∈ cs, S 1048577 c) → Ok (k cs) Q) :
    Ok (R.bind (rngR 0 i) fun r => R.bind (R.compR (fun x => R.bind (l_cell ns x) fun c => R.ok c) r) fun c => R.bind (catR c xs) k) Q := by
  refine .step (rngR_ok (by decide) (by decide) (by omega) (by omega)) ?_
  have hlen : ((List.range (i - 0).toNat).map fun k => (0 : Int) + (k : Nat)).length = i.toNat := by simp
  refine .bind (.compR (P := fun _ c => S 1048577 c) (by rw [hlen]; omega) fun x hx => ?_) fun cs hcs => ?_
  · have := rng_mem hx
    obtain ⟨c, e, s⟩ := l_cell_ok hb (k := x) (by omega) (by omega)
    exact .step e (.pure s)
  · have h1 := all_of (Q := S 1048577) hcs fun _ _ _ h => h
    have h2 := hcs.1
    rw [hlen] at h2
    refine .step (catR_ok (by omega)) (hQ _ (by rw [List.length_append, h2]; omega) fun c hc => ?_)
    rcases List.mem_append.mp hc with h | h
    · exact h1 c h
    · exact .of_log (hb c (hx c h))
/-- a list's item, all of which are alike -/
theorem at_all {α : Type} {xs : List α} {i : Int} {P : α → Prop} (h : ∀ x ∈ xs, P x) (h0 : 0 ≤ i) (h1 : i < xs.length) : Ok (atR xs i) P := by
  obtain ⟨x, gx, ax⟩ := atR_int h0 h1
  exact ⟨x, ax, h x (List.mem_of_getElem? gx)⟩
/-- the end of a loop that only looks -/
theorem Ok.caseU {β γ : Type} {m : R (Sum Unit β)} {k1 : Unit → R γ} {k2 : β → R γ} {Q : γ → Prop} (h : Ok m (· = .inl ())) (hk : Ok (k1 ()) Q) : Ok (R.bind m fun r => R.caseX r k1 k2) Q := .bind h fun r e => by rw [e, caseX_l]; exact hk
theorem Ok.forU {α β : Type} {f : α → Unit → R (Sum Unit β)} {xs : List α} (h : ∀ x ∈ xs, Ok (f x ()) (· = .inl ())) : Ok (R.forX f xs ()) (· = .inl ()) :=
  .eq (forX_all fun x hx => by obtain ⟨r, e, q⟩ := h x hx; rw [e, q]) rfl
theorem mem_cut {α : Type} {xs : List α} {lo hi : Option Int} {x : α} (h : x ∈ cutL xs lo hi) : x ∈ xs := by
  unfold cutL at h
  exact List.mem_of_mem_drop (List.mem_of_mem_take h)
theorem cut_len {α : Type} (xs : List α) (lo hi : Option Int) : (cutL xs lo hi).length ≤ xs.length := by
  unfold cutL
  rw [List.length_take, List.length_drop]; omega
theorem rng3_mem {i j c x : Int} (hc : 0 < c) (h : x ∈ (List.range (stepN i j c)).map fun k => i + (k : Nat) * c) : i ≤ x ∧ x < j := by
  obtain ⟨k, hk, e⟩ := List.mem_map.mp h
  have hk := List.mem_range.mp hk
  unfold stepN at hk
  rw [if_pos hc] at hk
  split at hk
  · have h0 := Int.ediv_nonneg (a := j - i - 1) (b := c) (by omega) (by omega)
    have h1 : (k : Int) ≤ (j - i - 1) / c := by omega
    have h2 : (k : Int) * c ≤ j - i - 1 := (Int.le_ediv_iff_mul_le hc).mp h1
    have h3 : 0 ≤ (k : Int) * c := Int.mul_nonneg (by omega) (by omega)
    omega
  · omega
theorem rng3R_ok {i j c : Int} (h0 : 0 < c) (hc : c < 1073741824) (h1 : -(2 ^ 61) ≤ i) (h2 : i < 2 ^ 61) (h3 : -(2 ^ 61) ≤ j) (h4 : j < 2 ^ 61) : rng3R i j c = .ok ((List.range (stepN i j c)).map fun k => i + (k : Nat) * c) := by
  unfold rng3R; rw [if_pos ⟨by omega, by omega, h1, h2, h3, h4⟩]
/-- a drawn part: from 0 to 1 -/
def Part (n : Nat) (q : Rat) : Prop := SQ n q ∧ 0 ≤ q ∧ q ≤ 1
theorem Part.mono {a b : Nat} {q : Rat} (h : Part a q) (l : a ≤ b) : Part b q := ⟨h.1.mono l, h.2⟩
theorem Part.zero (n : Nat) : Part (n + 1) 0 := ⟨SQ_zero n, by decide, by decide⟩
theorem Part.one (n : Nat) : Part (n + 1) 1 := ⟨SQ_one n, by decide, by decide⟩
theorem divInt_nonneg {a b : Int} (h : 0 ≤ a) (k : 0 < b) : 0 ≤ Rat.divInt a b := by
  rw [Rat.divInt_nonneg_iff_of_pos_right k]; exact h
theorem divInt_le_one {a b : Int} (h : a ≤ b) (k : 0 < b) : Rat.divInt a b ≤ 1 := by
  have e : (1 : Rat) = Rat.divInt b b := by
    rw [show (1 : Rat) = Rat.divInt 1 1 by rfl]
    exact (Rat.divInt_eq_divInt_iff (by decide) (by omega)).mpr (by omega)
  have h2 : Rat.divInt b b - Rat.divInt a b = Rat.divInt (b - a) b := by
    rw [Rat.divInt_sub_divInt _ _ (by omega) (by omega)]
    exact (Rat.divInt_eq_divInt_iff (Int.mul_ne_zero (by omega) (by omega)) (by omega)).mpr (by rw [← Int.sub_mul, Int.mul_assoc])
  have h3 := divInt_nonneg (a := b - a) (b := b) (by omega) k
  rw [← h2, ← e] at h3
  grind
theorem part_low {n : Nat} {a b : Int} (h0 : 0 ≤ a) (h : a ≤ b) (k : 0 < b) (hs : S n b) : Ok (l_low a b) (Part n) := by
  refine .eq (l_low_ok k) ⟨SQ_divInt (by omega) ?_ hs, divInt_nonneg h0 k, divInt_le_one h k⟩
  unfold S at *; omega
theorem l_part_ok {n : Nat} {c : Int} (hc : S n c) (hn : n ≤ 100000000) : Ok (l_part c) (Part 70) := by
  unfold l_part
  have m12 := Int.emod_nonneg c (show (12 : Int) ≠ 0 by decide)
  have l12 := Int.emod_lt_of_pos c (show (0 : Int) < 12 by decide)
  refine .one (.one (.bind (P := fun b => 0 < b ∧ b ≤ 100000000000000000000) (.ite (fun _ => .one (.pure ?_)) fun _ => .pure (by omega)) fun b hb => .one ?_))
  · have h1 := Int.emod_nonneg (c / 12 / 8) (show (100000000000000000000 : Int) ≠ 0 by decide)
    have h2 := Int.emod_lt_of_pos (c / 12 / 8) (show (0 : Int) < 100000000000000000000 by decide)
    omega
  · refine .ite (fun _ => .step mkQ_zero (.pure (Part.zero 69))) fun _ => .ite (fun _ => .step mkQ_one (.pure (Part.one 69))) fun _ => ?_
    have s1 : S n (c / 12 / 9) := S_ediv (by decide) (S_ediv (by decide) hc)
    refine .step (mulR_ok (b := 16) s1 (by decide) (by omega)) (.step (fmodR_ok (by omega)) ?_)
    rw [Int.fmod_eq_emod_of_nonneg _ (by omega)]
    have h1 := Int.emod_nonneg (c / 12 / 9 * 48271) (show b + 1 ≠ 0 by omega)
    have h2 := Int.emod_lt_of_pos (c / 12 / 9 * 48271) (show 0 < b + 1 by omega)
    exact .bind (part_low h1 (by omega) hb.1 (by unfold S; omega)) fun _ h => .pure h
theorem at0 {α : Type} (x : α) (xs : List α) : atR (x :: xs) 0 = .ok x := atR_nat (k := 0) rfl
theorem at1 {α : Type} (x y : α) (xs : List α) : atR (x :: y :: xs) 1 = .ok y := atR_nat (k := 1) rfl
theorem at2 {α : Type} (x y z : α) (xs : List α) : atR (x :: y :: z :: xs) 2 = .ok z := atR_nat (k := 2) rfl
theorem at3 {α : Type} (x y z u : α) (xs : List α) : atR (x :: y :: z :: u :: xs) 3 = .ok u := atR_nat (k := 3) rfl
theorem at4 {α : Type} (x y z u v : α) (xs : List α) : atR (x :: y :: z :: u :: v :: xs) 4 = .ok v := atR_nat (k := 4) rfl
end Pg

set_option Elab.async false
set_option linter.all false
namespace Pg
/-! ### the laws' second ratios -/
theorem l_ratio3_ok {a b : Int} (hb : b ≠ 0) : l_ratio_3 a b = .ok (Rat.divInt a b) := by
  unfold l_ratio_3
  rw [bind_ok, bind_ok, gcdR_ok (absZ_nn b) (absZ_nn a), bind_ok]
  have hg : Int.gcd (absZ b) (absZ a) = Int.gcd a b := by
    rw [Int.gcd_comm, absZ_eq, absZ_eq, Int.gcd_eq_natAbs_gcd_natAbs, Int.natAbs_natCast, Int.natAbs_natCast]; rfl
  rw [hg]
  obtain ⟨h1, h2⟩ := mkQ_divInt (a := a) (b := b) hb
  by_cases hn : b < 0
  · rw [if_pos hn] at h1 h2
    rw [decide_eq_true hn, if_ok_t, bind_ok, bind_ok, h1, bind_ok, h2, bind_ok, mkQ_self, bind_ok]
  · rw [if_neg hn] at h1 h2
    rw [decide_eq_false hn, if_ok_f, bind_ok, h1, bind_ok, h2, bind_ok, mkQ_self, bind_ok]
theorem l_plus2_ok {n m : Nat} {p q : Rat} (hp : SQ n p) (hq : SQ m q) (h : n + m < 134000000) : l_plus_2 p q = .ok (p + q) := by
  unfold l_plus_2
  rw [mulR_ok hp.1 hq.2 h, bind_ok, mulR_ok hq.1 hp.2 (by omega), bind_ok, mulR_ok hp.2 hq.2 h, bind_ok, l_ratio3_ok (dens_ne p q), bind_ok, ← add_divInt]
theorem l_minus2_ok {n m : Nat} {p q : Rat} (hp : SQ n p) (hq : SQ m q) (h : n + m < 134000000) : l_minus_2 p q = .ok (p - q) := by
  unfold l_minus_2
  rw [mulR_ok hp.1 hq.2 h, bind_ok, mulR_ok hq.1 hp.2 (by omega), bind_ok, mulR_ok hp.2 hq.2 h, bind_ok, l_ratio3_ok (dens_ne p q), bind_ok, ← sub_divInt]
theorem l_times2_ok {n m : Nat} {p q : Rat} (hp : SQ n p) (hq : SQ m q) (h : n + m < 134000000) : l_times_2 p q = .ok (p * q) := by
  unfold l_times_2
  rw [mulR_ok hp.1 hq.1 h, bind_ok, mulR_ok hp.2 hq.2 h, bind_ok, l_ratio3_ok (dens_ne p q), bind_ok, ← mul_divInt]
theorem l_is2_ok (q : Rat) : l_is_2 q q = .ok true := by
  unfold l_is_2
  rw [l_whole_ok, l_whole_ok]
  show R.ok (decide (q = q)) = _
  rw [decide_eq_true rfl]
/-! ### drawn numbers, points, lines -/
theorem l_number2_ok {n : Nat} {c : Int} : Ok (l_number_2 c) (SQ 50) := by
  unfold l_number_2
  have m1 := Int.emod_nonneg (c / 8) (show (2000000000000 : Int) ≠ 0 by decide)
  have m2 := Int.emod_lt_of_pos (c / 8) (show (0 : Int) < 2000000000000 by decide)
  have m3 := Int.emod_nonneg (c / 8) (show (7 : Int) ≠ 0 by decide)
  have m4 := Int.emod_lt_of_pos (c / 8) (show (0 : Int) < 7 by decide)
  have m5 := Int.emod_nonneg (c / 8) (show (29 : Int) ≠ 0 by decide)
  have m6 := Int.emod_lt_of_pos (c / 8) (show (0 : Int) < 29 by decide)
  have m7 := Int.emod_nonneg c (show (8 : Int) ≠ 0 by decide)
  have m8 := Int.emod_lt_of_pos c (show (0 : Int) < 8 by decide)
  refine .ite (fun _ => ?_) fun h => ?_
  · exact .step (l_ratio3_ok (by omega)) (.pure (SQ_divInt (by omega) (by unfold S; omega) (by unfold S; omega)))
  · refine .bind (at_all (P := fun x => 0 < x ∧ x ≤ 6) (fun x hx => ?_) m7 ?_) fun x hx => ?_
    · simp at hx; omega
    · show c % 8 < 7
      omega
    · exact .step (l_ratio3_ok (by omega)) (.pure (SQ_divInt (by omega) (by unfold S; omega) (by unfold S; omega)))
theorem l_at_ok {ns : List Int} (hb : Bits ns) {k : Int} (h0 : 0 ≤ k) (h1 : k < 1000000) : Ok (l_at ns k) (SQ 50) := by
  unfold l_at
  obtain ⟨c, ec, sc⟩ := l_cell_ok hb h0 h1
  exact .step ec (.bind (l_spread_ok sc (show S 20 k by unfold S; omega) (by decide)) fun d hd => .bind (l_number2_ok (n := 0)) fun q hq => .pure hq)
/-- a line's or a point's numbers -/
def SP (n : Nat) (p : Rat × Rat) : Prop := SQ n p.1 ∧ SQ n p.2
def SL (n : Nat) (l : Rat × Rat × Rat) : Prop := SQ n l.1 ∧ SQ n l.2.1 ∧ SQ n l.2.2
theorem SP.mono {a b : Nat} {p : Rat × Rat} (h : SP a p) (l : a ≤ b) : SP b p := ⟨h.1.mono l, h.2.mono l⟩
theorem SL.mono {a b : Nat} {p : Rat × Rat × Rat} (h : SL a p) (l : a ≤ b) : SL b p := ⟨h.1.mono l, h.2.1.mono l, h.2.2.mono l⟩
theorem set_all {α : Type} {xs : List α} {i : Int} {x : α} {P : α → Prop} (h : ∀ y ∈ xs, P y) (hx : P x) (h0 : 0 ≤ i) (h1 : i < xs.length) : Ok (setR xs i x) (fun ys => ys.length = xs.length ∧ ∀ y ∈ ys, P y) := by
  have := ixP_nat (n := xs.length) (k := i.toNat) (by omega)
  rw [Int.toNat_of_nonneg h0] at this
  refine ⟨xs.set i.toNat x, by unfold setR; rw [this], by rw [List.length_set], fun y hy => ?_⟩
  rcases List.mem_or_eq_of_mem_set hy with h' | h'
  · exact h y h'
  · rw [h']; exact hx
theorem l_line_ok {ns : List Int} (hb : Bits ns) {k : Int} (h0 : 0 ≤ k) (h1 : k < 100000) : Ok (l_line ns k) (SL 50) := by
  unfold l_line
  obtain ⟨c0, e0, s0⟩ := l_cell_ok hb (k := k) h0 (by omega)
  obtain ⟨c2, e2, s2⟩ := l_cell_ok hb (k := k + 2) (by omega) (by omega)
  have m1 := Int.emod_nonneg c0 (show (5 : Int) ≠ 0 by decide)
  refine .one (.step (rngR_ok (by decide) (by decide) (by decide) (by decide)) ?_)
  refine .bind (.forR (fun i f => f.length = i ∧ ∀ x ∈ f, SQ 50 x) ⟨rfl, fun x hx => nomatch hx⟩ fun i f x hf hx => ?_) fun f hf => .step e0 ?_
  · obtain ⟨e, hx3⟩ := rng_at hx
    obtain ⟨c, ec, sc⟩ := l_cell_ok hb (k := k + x) (by omega) (by omega)
    refine .step ec (.bind (l_spread_ok sc (show S 20 (x + 40) by unfold S; omega) (by decide)) fun d hd => .one ?_)
    have q1 := Int.emod_nonneg d (show (9 : Int) ≠ 0 by decide)
    have q2 := Int.emod_lt_of_pos d (show (0 : Int) < 9 by decide)
    have q3 := Int.emod_nonneg (d / 9) (show (3 : Int) ≠ 0 by decide)
    have q4 := Int.emod_lt_of_pos (d / 9) (show (0 : Int) < 3 by decide)
    refine .step (l_ratio3_ok (by omega)) (.step (appR_ok (by rw [hf.1]; omega)) (.pure ⟨by simp [hf.1], fun y hy => ?_⟩))
    rcases List.mem_append.mp hy with h | h
    · exact hf.2 y h
    · simp at h; subst h; exact SQ_divInt (by omega) (by unfold S; omega) (by unfold S; omega)
  · have hl : f.length = 3 := hf.1
    refine .bind (P := fun f : List Rat => f.length = 3 ∧ ∀ x ∈ f, SQ 50 x) (.ite (fun h => ?_) fun _ => .pure ⟨hl, hf.2⟩) fun f2 h2 => .step e2 ?_
    · exact .step mkQ_zero (.step e0 (.bind (set_all hf.2 (SQ_zero 49) m1 (by rw [hl]; omega)) fun y hy => .pure ⟨by rw [hy.1, hl], hy.2⟩))
    · refine .bind (P := fun f : List Rat => f.length = 3 ∧ ∀ x ∈ f, SQ 50 x) (.ite (fun h => ?_) fun _ => .pure h2) fun f3 h3 => ?_
      · exact .step e2 (.bind (l_number2_ok (n := 0)) fun q hq => .bind (set_all h2.2 hq (by decide) (by rw [h2.1]; decide)) fun y hy => .pure ⟨by rw [hy.1, h2.1], hy.2⟩)
      · match f3, h3 with
        | [a, b, c], h3 => exact .one (.pure ⟨h3.2 a (by simp), h3.2 b (by simp), h3.2 c (by simp)⟩)
/-- how high a point lies over a line -/
def hgt (l : Rat × Rat × Rat) (p : Rat × Rat) : Rat := l.1 * p.1 + l.2.1 * p.2 - l.2.2
theorem SQ_hgt {n m : Nat} {l : Rat × Rat × Rat} {p : Rat × Rat} (hl : SL n l) (hp : SP m p) : SQ (3 * n + 2 * m + 4) (hgt l p) :=
  (((hl.1.mul hp.1).add (hl.2.1.mul hp.2)).sub hl.2.2).mono (by omega)
theorem l_over_ok {n m : Nat} {l : Rat × Rat × Rat} {p : Rat × Rat} (hl : SL n l) (hp : SP m p) (h : 3 * n + 2 * m + 4 < 134000000) : l_over l p = .ok (hgt l p) := by
  unfold l_over
  rw [l_times2_ok hl.1 hp.1 (by omega), bind_ok, l_times2_ok hl.2.1 hp.2 (by omega), bind_ok, l_plus2_ok (hl.1.mul hp.1) (hl.2.1.mul hp.2) (by omega), bind_ok, l_minus2_ok ((hl.1.mul hp.1).add (hl.2.1.mul hp.2)) hl.2.2 (by omega), bind_ok]
  rfl
theorem p_height_ok {n m : Nat} {l : Rat × Rat × Rat} {p : Rat × Rat} (hl : SL n l) (hp : SP m p) (h : 3 * n + 2 * m + 4 < 134000000) : p_height_over l p = .ok (hgt l p) := by
  unfold p_height_over
  rw [p_times_ok hl.1 hp.1 (by omega), bind_ok, p_times_ok hl.2.1 hp.2 (by omega), bind_ok, p_plus_ok (hl.1.mul hp.1) (hl.2.1.mul hp.2) (by omega), bind_ok, p_minus_ok ((hl.1.mul hp.1).add (hl.2.1.mul hp.2)) hl.2.2 (by omega), bind_ok]
  rfl
def turnL (l : Rat × Rat × Rat) : Rat × Rat × Rat := (-l.1, -l.2.1, -l.2.2)
theorem SL.turn {n : Nat} {l : Rat × Rat × Rat} (h : SL n l) : SL n (turnL l) := ⟨h.1.neg, h.2.1.neg, h.2.2.neg⟩
theorem p_against_ok {n : Nat} {l : Rat × Rat × Rat} (hl : SL n l) (h : n < 100000000) : p_against l = .ok (turnL l) := by
  unfold p_against
  rw [p_minus_ok (SQ_zero 0) hl.1 (by omega), bind_ok, p_minus_ok (SQ_zero 0) hl.2.1 (by omega), bind_ok, p_minus_ok (SQ_zero 0) hl.2.2 (by omega), bind_ok]
  unfold turnL
  have e : ∀ q : Rat, 0 - q = -q := fun q => by grind
  rw [e, e, e]
theorem hgt_turn (l : Rat × Rat × Rat) (p : Rat × Rat) : hgt (turnL l) p = -hgt l p := by unfold hgt turnL; grind
end Pg

set_option Elab.async false
set_option linter.all false
namespace Pg

/-! mirrors of the defs of k06, printed by pygen -/
def p_sides (ring1 : (List (Rat × Rat))) : R ((List ((Rat × Rat) × (Rat × Rat)))) :=
  R.bind (R.ok (([] : (List ((Rat × Rat) × (Rat × Rat)))))) fun some2 =>
  R.bind (rngR 0 ((ring1.length : Int))) fun r3 =>
  R.bind (R.forR (fun (x4 : Int) (s5 : (List ((Rat × Rat) × (Rat × Rat)))) => R.bind (atR ring1 x4) fun it6 => R.bind (fmodR ((x4 + (1 : Int))) ((ring1.length : Int))) fun m7 => R.bind (atR ring1 m7) fun it8 => R.bind (appR s5 ((it6, it8))) fun some9 => R.ok some9) r3 some2) fun s10 =>
  R.ok s10
def p_area (ring1 : (List (Rat × Rat))) : R Rat :=
  R.bind (mkQ ((0 : Int)) ((1 : Int))) fun q2 =>
  R.bind (R.ok q2) fun come3 =>
  R.bind (p_sides ring1) fun sides4 =>
  R.bind (R.forR (fun (x5 : ((Rat × Rat) × (Rat × Rat))) (s6 : Rat) => R.bind (p_times x5.1.1 x5.2.2) fun times7 => R.bind (p_times x5.2.1 x5.1.2) fun times8 => R.bind (p_minus times7 times8) fun minus9 => R.bind (p_plus s6 minus9) fun plus10 => R.bind (R.ok plus10) fun come11 => R.ok come11) sides4 come3) fun s12 =>
  R.bind (mkQ ((1 : Int)) ((2 : Int))) fun q13 =>
  R.bind (p_times s12 q13) fun times14 =>
  R.ok times14
def l_number (cell1 : Int) : R Rat :=
  if (decide ((cell1 % (8 : Int)) = (7 : Int))) = true then (R.bind (mkQ ((((cell1 / (8 : Int)) % (2000000000000 : Int)) - (1000000000000 : Int))) ((1 : Int))) fun q2 => R.ok q2) else (R.bind (l_ratio ((((cell1 / (8 : Int)) % (61 : Int)) - (20 : Int))) (((1 : Int) + ((cell1 / (488 : Int)) % (6 : Int))))) fun r3 => R.ok r3)
def l_ring (script1 : (List Int)) (at2 : Int) (many3 : Int) : R ((List (Rat × Rat))) :=
  R.bind (R.ok (([] : (List (Rat × Rat))))) fun ring4 =>
  R.bind (rngR 0 many3) fun r5 =>
  R.bind (R.forR (fun (x6 : Int) (s7 : (List (Rat × Rat))) => R.bind (mulR ((2 : Int)) x6) fun p8 => R.bind (l_cell script1 ((at2 + p8))) fun c9 => R.bind (l_number c9) fun n10 => R.bind (R.ok n10) fun x11 => R.bind (mulR ((2 : Int)) x6) fun p12 => R.bind (l_cell script1 (((at2 + p12) + (1 : Int)))) fun c13 => R.bind (l_number c13) fun n14 => R.bind (R.ok n14) fun y15 => R.bind (appR s7 ((x11, y15))) fun ring16 => R.ok ring16) r5 ring4) fun s17 =>
  R.ok s17
def l_points (script1 : (List Int)) : R ((List (Rat × Rat))) :=
  R.bind (l_cell script1 ((0 : Int))) fun c2 =>
  R.bind (R.ok (((c2 / (6 : Int)) % (9 : Int)))) fun many3 =>
  R.bind (l_cell script1 ((0 : Int))) fun c4 =>
  R.bind (if (decide ((c4 % (6 : Int)) = (0 : Int))) = true then (R.bind (l_cell script1 ((0 : Int))) fun c6 => R.bind (R.ok (((c6 / (6 : Int)) % (41 : Int)))) fun many7 => R.ok many7) else (R.ok many3) : R Int) fun st5 =>
  R.bind (l_ring script1 ((3 : Int)) st5) fun r8 =>
  R.bind (R.ok r8) fun ring9 =>
  R.bind (R.andR ((decide (st5 > (0 : Int)))) (R.bind (R.andR ((decide (st5 < (40 : Int)))) (R.bind (l_cell script1 ((1 : Int))) fun c10 => R.ok ((decide ((c10 % (4 : Int)) = (0 : Int)))))) fun b11 => R.ok b11)) fun b12 =>
  R.bind (if b12 = true then (R.bind (l_cell script1 ((1 : Int))) fun c14 => R.bind (fmodR ((c14 / (4 : Int))) st5) fun m15 => R.bind (R.ok m15) fun at16 => R.bind (l_cell script1 ((2 : Int))) fun c17 => R.bind (fmodR c17 st5) fun m18 => R.bind (R.ok m18) fun behind19 => R.bind (atR ring9 at16) fun it20 => R.bind (insR ring9 ((behind19 + (1 : Int))) it20) fun ring21 => R.ok ring21) else (R.ok ring9) : R ((List (Rat × Rat)))) fun st13 =>
  R.ok st13
def l_twice (ring1 : (List (Rat × Rat))) : R Int :=
  R.bind (R.ok ((0 : Int))) fun some2 =>
  R.bind (rngR 0 ((ring1.length : Int))) fun r3 =>
  R.bind (R.forR (fun (x4 : Int) (s5 : Int) => R.bind (atR ring1 x4) fun it6 => R.bind (R.ok it6) fun one7 => R.bind (fmodR ((x4 + (1 : Int))) ((ring1.length : Int))) fun m8 => R.bind (atR ring1 m8) fun it9 => R.bind (R.ok it9) fun other10 => R.bind (R.compR (fun x11 => R.bind (fdivR ((60 : Int)) ((x11.den : Int))) fun q12 => R.bind (mulR x11.num q12) fun p13 => R.ok p13) ([one7.1, one7.2])) fun c14 => R.bind (R.ok c14) fun a15 => R.bind (R.compR (fun x16 => R.bind (fdivR ((60 : Int)) ((x16.den : Int))) fun q17 => R.bind (mulR x16.num q17) fun p18 => R.ok p18) ([other10.1, other10.2])) fun c19 => R.bind (R.ok c19) fun b20 => R.bind (atR a15 ((0 : Int))) fun it21 => R.bind (atR b20 ((1 : Int))) fun it22 => R.bind (mulR it21 it22) fun p23 => R.bind (atR b20 ((0 : Int))) fun it24 => R.bind (atR a15 ((1 : Int))) fun it25 => R.bind (mulR it24 it25) fun p26 => R.bind (R.ok (((s5 + p23) - p26))) fun some27 => R.ok some27) r3 some2) fun s28 =>
  R.ok s28
def l_sides_good (found1 : (List ((Rat × Rat) × (Rat × Rat)))) (ring2 : (List (Rat × Rat))) : R Bool :=
  if ((!true) || (!decide ((found1.length : Int) = (ring2.length : Int)))) = true then (R.ok false) else (R.bind (rngR 0 ((ring2.length : Int))) fun r3 => R.bind (R.forX (fun (x4 : Int) (s5 : Unit) => (R.bind (atR found1 x4) fun it6 => R.bind (R.ok it6) fun side7 => if ((!true) || (!decide ((2 : Int) = (2 : Int)))) = true then (R.ok (Sum.inr false)) else (R.bind (atR ring2 x4) fun it8 => R.bind (R.orR ((!decide (side7.1 = it8))) (R.bind (fmodR ((x4 + (1 : Int))) ((ring2.length : Int))) fun m9 => R.bind (atR ring2 m9) fun it10 => R.ok ((!decide (side7.2 = it10))))) fun b11 => if b11 = true then (R.ok (Sum.inr false)) else (R.bind (R.forX (fun (x12 : (Rat × Rat)) (s13 : Unit) => (R.bind (R.orR ((!true)) (R.bind (l_is x12.1 x12.1.num ((x12.1.den : Int))) fun i14 => R.ok ((!i14)))) fun b15 => if b15 = true then (R.ok (Sum.inr false)) else (R.bind (l_is x12.2 x12.2.num ((x12.2.den : Int))) fun i16 => if (!i16) = true then (R.ok (Sum.inr false)) else (R.ok (Sum.inl (())))) : R (Sum Unit Bool))) ([side7.1, side7.2]) (())) fun r17 => R.caseX r17 (fun s18 => R.ok (Sum.inl (()))) (fun b19 => R.ok (Sum.inr b19)))) : R (Sum Unit Bool))) r3 (())) fun r20 => R.caseX r20 (fun s21 => R.ok true) (fun b22 => R.ok b22))
def k06_law (script1 : (List Int)) : R Bool :=
  R.bind (l_points script1) fun p2 =>
  R.bind (R.ok p2) fun ring3 =>
  R.bind (R.ok ring3) fun handed4 =>
  R.bind (p_sides handed4) fun sides5 =>
  R.bind (R.ok sides5) fun found6 =>
  R.bind (l_sides_good found6 ring3) fun s7 =>
  if ((!s7) || (!decide (handed4 = ring3))) = true then (R.ok false) else (R.bind (roomR found6) fun u8 => R.bind (p_sides handed4) fun sides9 => R.bind (l_sides_good sides9 ring3) fun s10 => if (!s10) = true then (R.ok false) else (R.bind (p_area handed4) fun area11 => R.bind (l_twice ring3) fun t12 => R.bind (l_is area11 t12 ((7200 : Int))) fun i13 => R.ok ((i13 && (decide (handed4 = ring3))))))
end Pg

set_option Elab.async false
set_option linter.all false
namespace Pg
abbrev Pt := Rat × Rat
/-! ### rings: their sides -/
def rot {α : Type} (xs : List α) : List α := xs.drop 1 ++ xs.take 1
/-- the sides, in order, the last one back to the first -/
def edges (r : List Pt) : List (Pt × Pt) := zipL r (rot r)
theorem zipL_len {α β : Type} : ∀ (xs : List α) (ys : List β), (zipL xs ys).length = min xs.length ys.length
  | [], _ => by simp [zipL]
  | _ :: _, [] => by simp [zipL]
  | x :: xs, y :: ys => by simp only [zipL, List.length_cons, zipL_len xs ys]; omega
theorem zipL_get {α β : Type} : ∀ {xs : List α} {ys : List β} {i : Nat} {x : α} {y : β}, xs[i]? = some x → ys[i]? = some y → (zipL xs ys)[i]? = some (x, y)
  | [], _, _, _, _, h, _ => by simp at h
  | _ :: _, [], _, _, _, _, h => by simp at h
  | x :: xs, y :: ys, 0, a, b, h1, h2 => by simp at h1 h2; subst h1 h2; simp [zipL]
  | x :: xs, y :: ys, i + 1, a, b, h1, h2 => by
    simp [zipL]
    exact zipL_get (by simpa using h1) (by simpa using h2)
theorem rot_len {α : Type} (xs : List α) : (rot xs).length = xs.length := by
  cases xs with
  | nil => rfl
  | cons x xs => simp [rot]
theorem edges_len (r : List Pt) : (edges r).length = r.length := by
  unfold edges
  rw [zipL_len, rot_len, Nat.min_self]
theorem rot_get {α : Type} {xs : List α} {i : Nat} (h : i < xs.length) : (rot xs)[i]? = xs[(i + 1) % xs.length]? := by
  cases xs with
  | nil => simp at h
  | cons x xs =>
    simp only [rot, List.drop_succ_cons, List.drop_zero, List.take_succ_cons, List.take_zero, List.length_cons] at *
    by_cases h1 : i < xs.length
    · rw [List.getElem?_append_left h1, Nat.mod_eq_of_lt (by omega), List.getElem?_cons_succ]
    · have e : i = xs.length := by omega
      subst e
      rw [List.getElem?_append_right (Nat.le_refl _), Nat.sub_self, Nat.mod_self]
      rfl
/-- the i-th side's ends, as the code reads them -/
theorem ring_at {r : List Pt} {i : Nat} {x : Int} (h : x = i) (hi : i < r.length) : ∃ p q, (edges r)[i]? = some (p, q) ∧ atR r x = .ok p ∧ fmodR (x + 1) (r.length : Int) = .ok (((i + 1) % r.length : Nat) : Int) ∧ atR r (((i + 1) % r.length : Nat) : Int) = .ok q ∧ p ∈ r ∧ q ∈ r := by
  subst h
  have hp : r[i]? = some r[i] := List.getElem?_eq_getElem hi
  have hj : (i + 1) % r.length < r.length := Nat.mod_lt _ (by omega)
  have hq : r[(i + 1) % r.length]? = some r[(i + 1) % r.length] := List.getElem?_eq_getElem hj
  refine ⟨r[i], r[(i + 1) % r.length], zipL_get hp (by rw [rot_get hi]; exact hq), atR_nat hp, ?_, atR_nat hq, List.getElem_mem hi, List.getElem_mem hj⟩
  rw [fmodR_ok (by omega), Int.fmod_eq_emod_of_nonneg _ (by omega)]
  rfl
theorem edges_mem {r : List Pt} {e : Pt × Pt} (h : e ∈ edges r) : e.1 ∈ r ∧ e.2 ∈ r := by
  obtain ⟨i, hi, he⟩ := List.mem_iff_getElem.mp h
  rw [edges_len] at hi
  obtain ⟨p, q, e1, _, _, _, h1, h2⟩ := ring_at (r := r) (i := i) rfl hi
  have e2 : (edges r)[i]? = some e := by rw [← he]; exact List.getElem?_eq_getElem (by rw [edges_len]; exact hi)
  rw [e1] at e2
  cases e2
  exact ⟨h1, h2⟩
theorem take_more {α : Type} {xs : List α} {i : Nat} {x : α} (h : xs[i]? = some x) : xs.take (i + 1) = xs.take i ++ [x] := by
  rw [List.take_add_one, h]; rfl
/-! ### loops over the sides of a ring -/
/-- a loop over the places of a ring is one over its sides -/
theorem ring_loop {T : Type} {r : List Pt} (hr : r.length < 16777216) {f : Int → T → R T} {s0 : T} (P : List (Pt × Pt) → T → Prop) (h0 : P [] s0)
    (hs : ∀ (i : Nat) (x : Int) (p q : Pt) (s : T), x = i → i < r.length → (edges r)[i]? = some (p, q) → atR r x = .ok p → fmodR (x + 1) (r.length : Int) = .ok (((i + 1) % r.length : Nat) : Int) → atR r (((i + 1) % r.length : Nat) : Int) = .ok q → p ∈ r → q ∈ r →
      P ((edges r).take i) s → Ok (f x s) (P ((edges r).take i ++ [(p, q)]))) :
    Ok (R.bind (rngR 0 (r.length : Int)) fun xs => R.forR f xs s0) (P (edges r)) := by
  refine .step (rngR_ok (by decide) (by decide) (by omega) (by omega)) ?_
  have hlen : ((List.range ((r.length : Int) - 0).toNat).map fun k => (0 : Int) + (k : Nat)).length = (edges r).length := by simp [edges_len]
  have := Ok.forR (f := f) (xs := (List.range ((r.length : Int) - 0).toNat).map fun k => (0 : Int) + (k : Nat)) (s := s0) (fun i s => P ((edges r).take i) s) h0 fun i s x hp hx => ?_
  · rw [hlen, List.take_length] at this
    exact this
  · obtain ⟨e, hx2⟩ := rng_at hx
    obtain ⟨p, q, g1, g2, g3, g4, g5, g6⟩ := ring_at (r := r) (i := i) (x := x) (by omega) (by omega)
    rw [take_more g1]
    exact hs i x p q s (by omega) (by omega) g1 g2 g3 g4 g5 g6 hp
theorem ring_step {T β : Type} {r : List Pt} {f : Int → T → R T} {s0 : T} {P : T → Prop} {k : T → R β} {Q : β → Prop} (h : Ok (R.bind (rngR 0 (r.length : Int)) fun xs => R.forR f xs s0) P) (hk : ∀ s, P s → Ok (k s) Q) :
    Ok (R.bind (rngR 0 (r.length : Int)) fun xs => R.bind (R.forR f xs s0) k) Q := by
  have e : (R.bind (rngR 0 (r.length : Int)) fun xs => R.bind (R.forR f xs s0) k) = R.bind (R.bind (rngR 0 (r.length : Int)) fun xs => R.forR f xs s0) k := by
    cases rngR 0 (r.length : Int) <;> rfl
  rw [e]
  exact .bind h hk
theorem p_sides_ok {r : List Pt} (hr : r.length < 1000000) : p_sides r = .ok (edges r) := by
  unfold p_sides
  have h : Ok (R.bind (R.ok (([] : (List ((Rat × Rat) × (Rat × Rat)))))) fun some2 => R.bind (rngR 0 ((r.length : Int))) fun r3 =>
    R.bind (R.forR (fun (x4 : Int) (s5 : (List ((Rat × Rat) × (Rat × Rat)))) => R.bind (atR r x4) fun it6 => R.bind (fmodR ((x4 + (1 : Int))) ((r.length : Int))) fun m7 => R.bind (atR r m7) fun it8 => R.bind (appR s5 ((it6, it8))) fun some9 => R.ok some9) r3 some2) fun s10 => R.ok s10) (· = edges r) := by
    refine .one (ring_step (ring_loop (by omega) (fun es s => s = es) rfl fun i x p q s hx hi g1 g2 g3 g4 g5 g6 hp => ?_) fun s e => .pure e)
    refine .step g2 (.step g3 (.step g4 (.step (appR_ok ?_) (.pure (by rw [hp])))))
    rw [hp, List.length_take, edges_len]; omega
  obtain ⟨a, e1, e2⟩ := h
  rw [e1, e2]
/-! ### areas -/
def cross (e : Pt × Pt) : Rat := e.1.1 * e.2.2 - e.2.1 * e.1.2
def areaQ (r : List Pt) : Rat := sumQ ((edges r).map cross) * (1 / 2)
theorem half_num : (1 / 2 : Rat).num = 1 := by decide +kernel
theorem half_den : (1 / 2 : Rat).den = 2 := by decide +kernel
theorem mkQ_half : mkQ 1 2 = .ok (1 / 2 : Rat) := mkQ_lit half_num (by rw [half_den]; rfl)
theorem SQ_half (n : Nat) : SQ (n + 2) (1 / 2 : Rat) := ⟨by rw [half_num]; exact S.mono (a := 1) (by decide) (by omega), by rw [half_den]; exact S.mono (a := 2) (by decide) (by omega)⟩
theorem SQ_cross {n : Nat} {e : Pt × Pt} (h1 : SP n e.1) (h2 : SP n e.2) : SQ (4 * n + 1) (cross e) := ((h1.1.mul h2.2).sub (h2.1.mul h1.2)).mono (by omega)
def SR (n : Nat) (r : List Pt) : Prop := ∀ p ∈ r, SP n p
theorem SR.mono {a b : Nat} {r : List Pt} (h : SR a r) (l : a ≤ b) : SR b r := fun p hp => (h p hp).mono l
theorem SR.cross {n : Nat} {r : List Pt} (h : SR n r) : ∀ x ∈ (edges r).map cross, SQ (4 * n + 1) x := fun x hx => by
  obtain ⟨e, he, rfl⟩ := List.mem_map.mp hx
  obtain ⟨h1, h2⟩ := edges_mem he
  exact SQ_cross (h _ h1) (h _ h2)
theorem SQ_area {n : Nat} {r : List Pt} (h : SR n r) : SQ ((4 * n + 2) * r.length + 3) (areaQ r) := by
  have := (SQ_sum h.cross).mul (SQ_half 0)
  rw [List.length_map, edges_len] at this
  exact this.mono (by rw [show 4 * n + 1 + 1 = 4 * n + 2 by omega]; omega)
theorem p_area_ok {n : Nat} {r : List Pt} (h : SR n r) (hr : r.length < 1000000) (hb : (4 * n + 2) * r.length + 4 * n + 10 < 133000000) : p_area r = .ok (areaQ r) := by
  unfold p_area
  rw [mkQ_zero, bind_ok, bind_ok, p_sides_ok hr, bind_ok]
  have key : ∀ (es : List (Pt × Pt)) (s : Rat) (m : Nat), SQ m s → (∀ e ∈ es, SP n e.1 ∧ SP n e.2) → m + (4 * n + 2) * es.length + 4 * n + 2 < 134000000 →
      R.forR (fun (x5 : ((Rat × Rat) × (Rat × Rat))) (s6 : Rat) => R.bind (p_times x5.1.1 x5.2.2) fun times7 => R.bind (p_times x5.2.1 x5.1.2) fun times8 => R.bind (p_minus times7 times8) fun minus9 => R.bind (p_plus s6 minus9) fun plus10 => R.bind (R.ok plus10) fun come11 => R.ok come11) es s = .ok (s + sumQ (es.map cross)) := by
    intro es
    induction es with
    | nil => intro s m _ _ _; show R.ok s = R.ok (s + 0); congr 1; grind
    | cons e es ih =>
      intro s m hs he hm
      rw [List.length_cons, Nat.mul_add, Nat.mul_one] at hm
      obtain ⟨h1, h2⟩ := he e List.mem_cons_self
      unfold R.forR
      have sc := SQ_cross h1 h2
      rw [p_times_ok h1.1 h2.2 (by omega), bind_ok, p_times_ok h2.1 h1.2 (by omega), bind_ok, p_minus_ok (h1.1.mul h2.2) (h2.1.mul h1.2) (by omega), bind_ok]
      show R.bind (R.bind (p_plus s (cross e)) _) _ = _
      rw [p_plus_ok hs sc (by omega), bind_ok, bind_ok, bind_ok, ih _ _ (hs.add sc) (fun e he' => he e (List.mem_cons_of_mem _ he')) (by omega)]
      congr 1
      show s + cross e + sumQ (es.map cross) = s + (cross e + sumQ (es.map cross))
      grind
  have hs := SQ_sum h.cross
  rw [List.length_map, edges_len] at hs
  rw [key (edges r) 0 1 (SQ_zero 0) (fun e he => ⟨h _ (edges_mem he).1, h _ (edges_mem he).2⟩) (by rw [edges_len]; omega), bind_ok, mkQ_half, bind_ok, show (0 : Rat) + sumQ ((edges r).map cross) = sumQ ((edges r).map cross) by grind, p_times_ok hs (SQ_half 0) (by rw [show 4 * n + 1 + 1 = 4 * n + 2 by omega]; omega), bind_ok]
  rfl
theorem l_area_ok {n : Nat} {r : List Pt} (h : SR n r) (hr : r.length < 1000000) (hb : (4 * n + 2) * r.length + 4 * n + 10 < 133000000) : l_area r = .ok (areaQ r) := by
  unfold l_area
  rw [mkQ_zero, bind_ok, bind_ok]
  have hw : ∀ k : Nat, k ≤ r.length → (4 * n + 2) * k ≤ (4 * n + 2) * r.length := fun k hk => Nat.mul_le_mul_left _ hk
  have key := ring_loop (r := r) (by omega) (f := fun (x5 : Int) (s6 : Rat) => R.bind (atR r x5) fun it7 => R.bind (R.ok it7) fun one8 => R.bind (fmodR ((x5 + (1 : Int))) ((r.length : Int))) fun m9 => R.bind (atR r m9) fun it10 => R.bind (R.ok it10) fun other11 => R.bind (l_times_2 one8.1 other11.2) fun t12 => R.bind (l_times_2 other11.1 one8.2) fun t13 => R.bind (l_minus_2 t12 t13) fun m14 => R.bind (l_plus_2 s6 m14) fun p15 => R.bind (R.ok p15) fun some16 => R.ok some16) (s0 := 0)
    (fun es s => es.length ≤ r.length ∧ SQ ((4 * n + 2) * es.length + 1) s ∧ s = sumQ (es.map cross)) ⟨Nat.zero_le _, SQ_zero _, rfl⟩ fun i x p q s hx hi g1 g2 g3 g4 g5 g6 hp => by
    obtain ⟨q0, q1, q2⟩ := hp
    have h1 := h p g5
    have h2 := h q g6
    have hl : ((edges r).take i).length = i := by rw [List.length_take, edges_len]; omega
    rw [hl] at q1
    have hi2 := hw i (by omega)
    have sc := SQ_cross (e := (p, q)) h1 h2
    refine .step g2 (.one (.step g3 (.step g4 (.one (.step (l_times2_ok h1.1 h2.2 (by omega)) (.step (l_times2_ok h2.1 h1.2 (by omega)) (.step (l_minus2_ok (h1.1.mul h2.2) (h2.1.mul h1.2) (by omega)) (.step (l_plus2_ok q1 sc (by omega)) (.one (.pure ?_))))))))))
    rw [List.length_append, hl, List.map_append, sumQ_append]
    refine ⟨by simp; omega, ?_, ?_⟩
    · exact (q1.add sc).mono (by rw [List.length_singleton, Nat.mul_add]; omega)
    · rw [q2]
      show _ + cross (p, q) = _ + (cross (p, q) + 0)
      grind
  have fin := ring_step (k := fun s17 => R.bind (mkQ ((1 : Int)) ((2 : Int))) fun q18 => R.bind (l_times_2 s17 q18) fun t19 => R.ok t19) (Q := (· = areaQ r)) key fun s hs => by
    obtain ⟨q0, q1, q2⟩ := hs
    rw [edges_len] at q1
    refine .step mkQ_half (.step (l_times2_ok q1 (SQ_half 0) (by omega)) (.pure ?_))
    rw [q2]; rfl
  obtain ⟨a, e1, e2⟩ := fin
  rw [← e2]
  exact e1
end Pg

set_option Elab.async false
set_option linter.all false
namespace Pg
abbrev Ln := Rat × Rat × Rat
/-! ### rings cut by lines -/
/-- the point where a side meets a line -/
def meet (l : Ln) (e : Pt × Pt) : Pt := (e.1.1 + hgt l e.1 / (hgt l e.1 - hgt l e.2) * (e.2.1 - e.1.1), e.1.2 + hgt l e.1 / (hgt l e.1 - hgt l e.2) * (e.2.2 - e.1.2))
/-- the side goes through the line -/
def parts (l : Ln) (e : Pt × Pt) : Bool := (decide (0 < hgt l e.1) && decide (hgt l e.2 < 0)) || (decide (hgt l e.1 < 0) && decide (0 < hgt l e.2))
/-- what a side gives to the cut ring -/
def cutE (l : Ln) (e : Pt × Pt) : List Pt := (if 0 < hgt l e.1 then [] else [e.1]) ++ (if parts l e = true then [meet l e] else [])
def cutL' (l : Ln) (es : List (Pt × Pt)) : List Pt := es.flatMap (cutE l)
def cutQ (l : Ln) (r : List Pt) : List Pt := cutL' l (edges r)
theorem mul_eq0 {a b : Rat} (h : a * b = 0) : a = 0 ∨ b = 0 := by
  by_cases ha : a = 0
  · exact .inl ha
  · right
    have h1 : a⁻¹ * (a * b) = 0 := by rw [h]; grind
    rw [← Rat.mul_assoc, Rat.mul_comm a⁻¹ a, Rat.mul_inv_cancel a ha] at h1
    grind
theorem hgt_meet {l : Ln} {e : Pt × Pt} (h : hgt l e.1 ≠ hgt l e.2) : hgt l (meet l e) = 0 := by
  have h0 : hgt l e.1 - hgt l e.2 ≠ 0 := by grind
  have h1 : hgt l e.1 / (hgt l e.1 - hgt l e.2) * (hgt l e.1 - hgt l e.2) = hgt l e.1 := Rat.div_mul_cancel h0
  generalize hs : hgt l e.1 / (hgt l e.1 - hgt l e.2) = s at h1
  unfold meet
  rw [hs]
  unfold hgt at h1 ⊢
  grind
theorem parts_ne {l : Ln} {e : Pt × Pt} (h : parts l e = true) : hgt l e.1 ≠ hgt l e.2 := by
  unfold parts at h
  simp only [Bool.or_eq_true, Bool.and_eq_true, decide_eq_true_eq] at h
  grind
theorem meet_turn (l : Ln) (e : Pt × Pt) : meet (turnL l) e = meet l e := by
  have e1 : hgt (turnL l) e.1 / (hgt (turnL l) e.1 - hgt (turnL l) e.2) = hgt l e.1 / (hgt l e.1 - hgt l e.2) := by
    rw [hgt_turn, hgt_turn]
    by_cases h : hgt l e.1 - hgt l e.2 = 0
    · have h2 : -hgt l e.1 - -hgt l e.2 = 0 := by grind
      rw [h, h2, Rat.div_def, Rat.div_def, Rat.inv_zero, Rat.mul_zero, Rat.mul_zero]
    · have h2 : -hgt l e.1 - -hgt l e.2 ≠ 0 := by grind
      have a1 := Rat.div_mul_cancel (a := hgt l e.1) h
      have a2 := Rat.div_mul_cancel (a := -hgt l e.1) h2
      generalize hgt l e.1 / (hgt l e.1 - hgt l e.2) = x at a1 ⊢
      generalize -hgt l e.1 / (-hgt l e.1 - -hgt l e.2) = y at a2 ⊢
      have a3 : (hgt l e.1 - hgt l e.2) * (y - x) = 0 := by grind
      rcases mul_eq0 a3 with z | z
      · exact absurd z h
      · grind
  unfold meet
  rw [e1]
/-! ### sums along a way, round a ring -/
section
variable (c : Pt → Pt → Rat)
/-- along the points from w on -/
def chain : Pt → List Pt → Rat
  | _, [] => 0
  | w, v :: vs => c w v + chain v vs
def lastP : Pt → List Pt → Pt
  | w, [] => w
  | _, v :: vs => lastP v vs
theorem chain_append : ∀ (w : Pt) (xs ys : List Pt), chain c w (xs ++ ys) = chain c w xs + chain c (lastP w xs) ys
  | w, [], ys => by show chain c w ys = 0 + chain c w ys; grind
  | w, x :: xs, ys => by
    show c w x + chain c x (xs ++ ys) = c w x + chain c x xs + chain c (lastP x xs) ys
    rw [chain_append x xs ys]; grind
theorem lastP_append : ∀ (w : Pt) (xs ys : List Pt), lastP w (xs ++ ys) = lastP (lastP w xs) ys
  | w, [], ys => rfl
  | w, x :: xs, ys => lastP_append x xs ys
/-- round a ring -/
def cyc (r : List Pt) : Rat := sumQ ((edges r).map fun e => c e.1 e.2)
theorem zip_chain : ∀ (v : Pt) (vs : List Pt) (z : Pt), sumQ ((zipL (v :: vs) (vs ++ [z])).map fun e => c e.1 e.2) = chain c v (vs ++ [z])
  | v, [], z => by show c v z + 0 = c v z + 0; rfl
  | v, u :: us, z => by
    show c v u + sumQ ((zipL (u :: us) (us ++ [z])).map fun e => c e.1 e.2) = c v u + chain c u (us ++ [z])
    rw [zip_chain u us z]
theorem lastP_snoc (w : Pt) (xs : List Pt) (z : Pt) : lastP w (xs ++ [z]) = z := by rw [lastP_append]; rfl
/-- begun with the last point -/
theorem cyc_chain (v : Pt) (vs : List Pt) : cyc c (v :: vs) = chain c (lastP v vs) (v :: vs) := by
  have e : edges (v :: vs) = zipL (v :: vs) (vs ++ [v]) := rfl
  unfold cyc
  rw [e, zip_chain, chain_append]
  show chain c v vs + (c (lastP v vs) v + 0) = c (lastP v vs) v + chain c v vs
  grind
/-! ### a cut ring's sum is what of its sides stays -/
variable (l : Ln)
/-- what of a side does not lie over the line -/
def kept (e : Pt × Pt) : Rat :=
  if 0 < hgt l e.1 then (if hgt l e.2 < 0 then c (meet l e) e.2 else 0)
  else (if 0 < hgt l e.2 then (if hgt l e.1 < 0 then c e.1 (meet l e) else 0) else c e.1 e.2)
def pend (w p : Pt) : Rat := if 0 < hgt l p then 0 else c w p
/-- the last point that was given, and the one to come -/
def Rel (w p : Pt) : Prop := 0 < hgt l p → hgt l w = 0
variable {c l}
theorem cut_step (hc : ∀ u v, hgt l u = 0 → hgt l v = 0 → c u v = 0) (w p q : Pt) (h : Rel l w p) :
    chain c w (cutE l (p, q)) + pend c l (lastP w (cutE l (p, q))) q = pend c l w p + kept c l (p, q) ∧ Rel l (lastP w (cutE l (p, q))) q := by
  unfold cutE kept pend Rel
  by_cases hp : 0 < hgt l p
  · have hw := h hp
    by_cases hq : hgt l q < 0
    · have hpar : parts l (p, q) = true := by unfold parts; simp [hp, hq]
      have hm := hgt_meet (parts_ne hpar)
      have hq2 : ¬ 0 < hgt l q := by grind
      simp only [hp, hq, hpar, if_true, if_pos, List.nil_append, chain, lastP]
      rw [if_neg hq2, hc w _ hw hm]
      refine ⟨by grind, fun _ => hm⟩
    · have hpar : ¬ parts l (p, q) = true := by unfold parts; simp [hp, hq]; grind
      simp only [hp, hq, if_pos, if_neg hpar, List.nil_append, chain, lastP, if_true, if_false]
      refine ⟨?_, fun _ => hw⟩
      by_cases hq2 : 0 < hgt l q
      · rw [if_pos hq2]
      · rw [if_neg hq2, hc w q hw (by grind)]
  · by_cases hq : 0 < hgt l q
    · by_cases hp2 : hgt l p < 0
      · have hpar : parts l (p, q) = true := by unfold parts; simp [hp2, hq]
        have hm := hgt_meet (parts_ne hpar)
        simp only [if_neg hp, hq, hp2, hpar, if_true, if_pos, List.singleton_append, chain, lastP, List.cons_append, List.nil_append]
        exact ⟨by grind, fun _ => hm⟩
      · have hpar : ¬ parts l (p, q) = true := by unfold parts; simp [hp, hp2]
        simp only [if_neg hp, hq, if_neg hp2, if_neg hpar, if_true, if_pos, List.append_nil, chain, lastP]
        exact ⟨by grind, fun _ => by grind⟩
    · have hpar : ¬ parts l (p, q) = true := by unfold parts; simp [hp, hq]
      simp only [if_neg hp, if_neg hq, if_neg hpar, List.append_nil, chain, lastP]
      exact ⟨by grind, fun z => absurd z hq⟩
/-- a way: each side begins where the one ahead ends -/
inductive Way : Pt → List (Pt × Pt) → Pt → Prop
  | nil (p : Pt) : Way p [] p
  | cons {p q z : Pt} {es : List (Pt × Pt)} : Way q es z → Way p ((p, q) :: es) z
theorem cut_way (hc : ∀ u v, hgt l u = 0 → hgt l v = 0 → c u v = 0) : ∀ {p z : Pt} {es : List (Pt × Pt)} (w : Pt), Way p es z → Rel l w p →
    chain c w (cutL' l es) + pend c l (lastP w (cutL' l es)) z = pend c l w p + sumQ (es.map (kept c l)) ∧ Rel l (lastP w (cutL' l es)) z
  | p, z, [], w, t, h => by
    cases t
    exact ⟨by show 0 + pend c l w p = pend c l w p + 0; grind, h⟩
  | p, z, (_, q) :: es, w, t, h => by
    cases t with | cons t =>
    obtain ⟨a, b⟩ := cut_step hc w p q h
    obtain ⟨a2, b2⟩ := cut_way hc _ t b
    have e : cutL' l ((p, q) :: es) = cutE l (p, q) ++ cutL' l es := rfl
    rw [e, chain_append, lastP_append]
    refine ⟨?_, b2⟩
    show _ = pend c l w p + (kept c l (p, q) + sumQ (es.map (kept c l)))
    grind
/-- .. from any first point, if something is given -/
theorem rel_end : ∀ {p z : Pt} {es : List (Pt × Pt)} (w : Pt), Way p es z → cutL' l es ≠ [] → Rel l (lastP w (cutL' l es)) z
  | p, z, [], w, t, h => absurd rfl h
  | p, z, (_, q) :: es, w, t, h => by
    cases t with | cons t =>
    have e : cutL' l ((p, q) :: es) = cutE l (p, q) ++ cutL' l es := rfl
    rw [e] at h ⊢
    rw [lastP_append]
    by_cases h2 : cutL' l es = []
    · rw [h2] at h ⊢
      rw [List.append_nil] at h
      -- the step gave something
      have key : Rel l (lastP w (cutE l (p, q))) q := by
        by_cases hp : 0 < hgt l p
        · by_cases hpar : parts l (p, q) = true
          · have hm := hgt_meet (parts_ne hpar)
            unfold cutE
            simp only [hp, if_true, if_pos, hpar, List.nil_append]
            exact fun _ => hm
          · exact absurd (by unfold cutE; simp [hp, hpar]) h
        · -- p is given
          by_cases hpar : parts l (p, q) = true
          · have hm := hgt_meet (parts_ne hpar)
            unfold cutE
            simp only [if_neg hp, if_pos hpar]
            exact fun _ => hm
          · unfold cutE
            simp only [if_neg hp, if_neg hpar, List.append_nil]
            intro hq
            show hgt l p = 0
            unfold parts at hpar
            simp only [Bool.or_eq_true, Bool.and_eq_true, decide_eq_true_eq] at hpar
            grind
      -- no more is given: the relation stays
      have stay : ∀ {p z : Pt} {es : List (Pt × Pt)} (w : Pt), Way p es z → cutL' l es = [] → Rel l w p → Rel l w z := by
        intro p z es w t
        induction t with
        | nil _ => exact fun _ h => h
        | cons t ih =>
          rename_i p q z es
          intro h3 hr
          have e : cutL' l ((p, q) :: es) = cutE l (p, q) ++ cutL' l es := rfl
          rw [e, List.append_eq_nil_iff] at h3
          refine ih h3.2 ?_
          have hp : 0 < hgt l p := by
            have := h3.1
            unfold cutE at this
            by_cases hp : 0 < hgt l p
            · exact hp
            · rw [if_neg hp] at this; simp at this
          exact fun _ => hr hp
      exact stay _ t h2 key
    · exact rel_end _ t h2
theorem zip_way : ∀ (v : Pt) (vs : List Pt) (z : Pt), Way v (zipL (v :: vs) (vs ++ [z])) z
  | v, [], z => .cons (.nil z)
  | v, u :: us, z => .cons (zip_way u us z)
/-- what of a ring is left by a line sums up to what of its sides stays -/
theorem cyc_cut (hc : ∀ u v, hgt l u = 0 → hgt l v = 0 → c u v = 0) (r : List Pt) : cyc c (cutQ l r) = sumQ ((edges r).map (kept c l)) := by
  cases r with
  | nil => rfl
  | cons v vs =>
    have hw : Way v (edges (v :: vs)) v := zip_way v vs v
    unfold cutQ
    cases hcut : cutL' l (edges (v :: vs)) with
    | nil =>
      -- nothing is given: nothing stays
      have none : ∀ es : List (Pt × Pt), cutL' l es = [] → sumQ (es.map (kept c l)) = 0 := by
        intro es
        induction es with
        | nil => intro _; rfl
        | cons e es ih =>
          intro h
          have e2 : cutL' l (e :: es) = cutE l e ++ cutL' l es := rfl
          rw [e2, List.append_eq_nil_iff] at h
          show kept c l e + sumQ (es.map (kept c l)) = 0
          rw [ih h.2]
          have h1 := h.1
          unfold cutE at h1
          rw [List.append_eq_nil_iff] at h1
          have hp : 0 < hgt l e.1 := by
            by_cases hp : 0 < hgt l e.1
            · exact hp
            · have := h1.1; rw [if_neg hp] at this; simp at this
          have hq : ¬ hgt l e.2 < 0 := fun hq => by
            have := h1.2
            rw [if_pos (by unfold parts; simp [hp, hq])] at this
            simp at this
          unfold kept
          rw [if_pos hp, if_neg hq]
          grind
      rw [none _ hcut]; rfl
    | cons u us =>
      have h1 := rel_end (l := l) (lastP u us) hw (by rw [hcut]; simp)
      have e1 : lastP (lastP u us) (cutL' l (edges (v :: vs))) = lastP u us := by rw [hcut]; rfl
      rw [e1] at h1
      have h2 := (cut_way hc (lastP u us) hw h1).1
      rw [e1] at h2
      have e2 := cyc_chain c u us
      rw [e2, ← hcut]
      have : chain c (lastP u us) (cutL' l (edges (v :: vs))) = sumQ ((edges (v :: vs)).map (kept c l)) := by grind
      exact this
/-- a sum that comes to nought round every ring -/
theorem cyc_tele (g : Pt → Rat) (r : List Pt) : cyc (fun u v => g v - g u) r = 0 := by
  cases r with
  | nil => rfl
  | cons v vs =>
    rw [cyc_chain]
    have key : ∀ (w : Pt) (xs : List Pt), chain (fun u v => g v - g u) w xs = g (lastP w xs) - g w := by
      intro w xs
      induction xs generalizing w with
      | nil => show (0 : Rat) = g w - g w; grind
      | cons x xs ih => show g x - g w + chain _ x xs = g (lastP x xs) - g w; rw [ih]; grind
    rw [key]
    show g (lastP v vs) - g (lastP v vs) = 0
    grind
theorem cyc_add (a b : Pt → Pt → Rat) (r : List Pt) : cyc (fun u v => a u v + b u v) r = cyc a r + cyc b r := by
  unfold cyc
  induction edges r with
  | nil => show (0 : Rat) = 0 + 0; grind
  | cons e es ih =>
    show a e.1 e.2 + b e.1 e.2 + sumQ _ = a e.1 e.2 + sumQ _ + (b e.1 e.2 + sumQ _)
    rw [ih]; grind
theorem cyc_mul (k : Rat) (a : Pt → Pt → Rat) (r : List Pt) : cyc (fun u v => k * a u v) r = k * cyc a r := by
  unfold cyc
  induction edges r with
  | nil => show (0 : Rat) = k * 0; grind
  | cons e es ih =>
    show k * a e.1 e.2 + sumQ _ = k * (a e.1 e.2 + sumQ _)
    rw [ih]; grind
theorem cyc_congr {a b : Pt → Pt → Rat} (h : ∀ u v, a u v = b u v) (r : List Pt) : cyc a r = cyc b r := by
  have : a = b := funext fun u => funext fun v => h u v
  rw [this]
theorem sum_add {α : Type} (f g : α → Rat) : ∀ es : List α, sumQ (es.map f) + sumQ (es.map g) = sumQ (es.map fun e => f e + g e)
  | [] => by show (0 : Rat) + 0 = 0; grind
  | e :: es => by
    show f e + sumQ (es.map f) + (g e + sumQ (es.map g)) = f e + g e + sumQ (es.map fun e => f e + g e)
    rw [← sum_add f g es]; grind
theorem sum_congr {α : Type} {f g : α → Rat} {es : List α} (h : ∀ e ∈ es, f e = g e) : sumQ (es.map f) = sumQ (es.map g) := by rw [List.map_congr_left h]
end
/-! ### areas of both parts -/
/-- along the line, by the height -/
def trap (l : Ln) (u v : Pt) : Rat := (-l.2.1 * (u.1 + v.1) + l.1 * (u.2 + v.2)) * (hgt l v - hgt l u)
theorem trap_line (l : Ln) (u v : Pt) (hu : hgt l u = 0) (hv : hgt l v = 0) : trap l u v = 0 := by unfold trap; rw [hu, hv]; grind
theorem area_trap (l : Ln) (r : List Pt) : cyc (trap l) r = -(2 * (l.1 * l.1 + l.2.1 * l.2.1)) * areaQ r := by
  have e : ∀ u v : Pt, trap l u v = -(l.1 * l.1 + l.2.1 * l.2.1) * cross (u, v) + ((fun p : Pt => (-l.2.1 * p.1 + l.1 * p.2) * (l.1 * p.1 + l.2.1 * p.2)) v - (fun p : Pt => (-l.2.1 * p.1 + l.1 * p.2) * (l.1 * p.1 + l.2.1 * p.2)) u) := fun u v => by
    unfold trap cross hgt; grind
  rw [cyc_congr e, cyc_add, cyc_mul, cyc_tele (fun p : Pt => (-l.2.1 * p.1 + l.1 * p.2) * (l.1 * p.1 + l.2.1 * p.2))]
  unfold areaQ cyc
  rw [show (fun e : Pt × Pt => cross (e.1, e.2)) = cross from rfl]
  grind
theorem kept_both (l : Ln) (e : Pt × Pt) : kept (trap l) l e + kept (trap l) (turnL l) e = trap l e.1 e.2 := by
  obtain ⟨p, q⟩ := e
  unfold kept
  rw [meet_turn, hgt_turn, hgt_turn]
  have mid : hgt l p ≠ hgt l q → trap l p (meet l (p, q)) + trap l (meet l (p, q)) q = trap l p q := fun h => by
    have h0 : hgt l p - hgt l q ≠ 0 := by grind
    have h1 : hgt l p / (hgt l p - hgt l q) * (hgt l p - hgt l q) = hgt l p := Rat.div_mul_cancel h0
    have hm := hgt_meet (l := l) (e := (p, q)) h
    unfold trap
    rw [hm]
    unfold meet
    show _ = _
    generalize hgt l p / (hgt l p - hgt l q) = s at h1
    simp only
    grind
  by_cases h1 : 0 < hgt l p
  · have h2 : ¬ 0 < -hgt l p := by grind
    have h5 : -hgt l p < 0 := by grind
    by_cases h3 : hgt l q < 0
    · have h4 : 0 < -hgt l q := by grind
      rw [if_pos h1, if_pos h3, if_neg h2, if_pos h4, if_pos h5]
      have := mid (by grind)
      simp only at this ⊢
      grind
    · have h4 : ¬ 0 < -hgt l q := by grind
      rw [if_pos h1, if_neg h3, if_neg h2, if_neg h4]; grind
  · by_cases h2 : hgt l p < 0
    · have h5 : 0 < -hgt l p := by grind
      by_cases h3 : 0 < hgt l q
      · have h4 : -hgt l q < 0 := by grind
        rw [if_neg h1, if_pos h3, if_pos h2, if_pos h5, if_pos h4]
        exact mid (by grind)
      · have h4 : ¬ -hgt l q < 0 := by grind
        rw [if_neg h1, if_neg h3, if_pos h5, if_neg h4]; grind
    · have h0 : hgt l p = 0 := by grind
      have h5 : ¬ 0 < -hgt l p := by grind
      by_cases h3 : 0 < hgt l q
      · have h6 : ¬ 0 < -hgt l q := by grind
        rw [if_neg h1, if_pos h3, if_neg h2, if_neg h5, if_neg h6]; grind
      · by_cases h4 : hgt l q < 0
        · have h6 : 0 < -hgt l q := by grind
          have h7 : ¬ -hgt l p < 0 := by grind
          rw [if_neg h1, if_neg h3, if_neg h5, if_pos h6, if_neg h7]; grind
        · have h8 : hgt l q = 0 := by grind
          have h6 : ¬ 0 < -hgt l q := by grind
          rw [if_neg h1, if_neg h3, if_neg h5, if_neg h6]
          have := trap_line l p q h0 h8
          simp only at this ⊢
          grind
theorem sq_nn (a : Rat) : 0 ≤ a * a := by
  by_cases h : 0 ≤ a
  · exact Rat.mul_nonneg h h
  · have h2 : 0 ≤ -a := by grind
    have := Rat.mul_nonneg h2 h2
    grind
theorem norm_ne {a b : Rat} (h : ¬ (a = 0 ∧ b = 0)) : a * a + b * b ≠ 0 := fun z => by
  have h1 := sq_nn a
  have h2 := sq_nn b
  have h3 : a * a = 0 := by grind
  have h4 : b * b = 0 := by grind
  refine h ⟨?_, ?_⟩
  · rcases mul_eq0 h3 with h | h <;> exact h
  · rcases mul_eq0 h4 with h | h <;> exact h
/-- the areas of both parts of a cut ring come to the ring's -/
theorem area_cut {l : Ln} (h : ¬ (l.1 = 0 ∧ l.2.1 = 0)) (r : List Pt) : areaQ (cutQ l r) + areaQ (cutQ (turnL l) r) = areaQ r := by
  have e1 := cyc_cut (c := trap l) (l := l) (trap_line l) r
  have e2 := cyc_cut (c := trap l) (l := turnL l) (fun u v hu hv => trap_line l u v (by rw [hgt_turn] at hu; grind) (by rw [hgt_turn] at hv; grind)) r
  have e3 : cyc (trap l) (cutQ l r) + cyc (trap l) (cutQ (turnL l) r) = cyc (trap l) r := by
    rw [e1, e2, sum_add]
    unfold cyc
    exact sum_congr fun e _ => kept_both l e
  rw [area_trap, area_trap, area_trap] at e3
  have hn := norm_ne h
  have e4 : (2 * (l.1 * l.1 + l.2.1 * l.2.1)) * (areaQ (cutQ l r) + areaQ (cutQ (turnL l) r) - areaQ r) = 0 := by grind
  rcases mul_eq0 e4 with z | z
  · exact absurd (show l.1 * l.1 + l.2.1 * l.2.1 = 0 by grind) hn
  · grind
end Pg

set_option Elab.async false
set_option linter.all false
namespace Pg
/-! ### the program's cuts -/
theorem p_point_ok {n m k : Nat} {p q : Pt} {s : Rat} (hp : SP n p) (hq : SP m q) (hs : SQ k s) (h : n + (k + (m + n + 1)) < 134000000) : p_point_at p q s = .ok (p.1 + s * (q.1 - p.1), p.2 + s * (q.2 - p.2)) := by
  unfold p_point_at
  rw [p_minus_ok hq.1 hp.1 (by omega), bind_ok, p_times_ok hs (hq.1.sub hp.1) (by omega), bind_ok, p_plus_ok hp.1 (hs.mul (hq.1.sub hp.1)) (by omega), bind_ok, bind_ok,
    p_minus_ok hq.2 hp.2 (by omega), bind_ok, p_times_ok hs (hq.2.sub hp.2) (by omega), bind_ok, p_plus_ok hp.2 (hs.mul (hq.2.sub hp.2)) (by omega), bind_ok]
theorem p_parted_are_ok {n m : Nat} {h k : Rat} (sh : SQ n h) (sk : SQ m k) (hb : n + m + 2 < 134000000) : p_are_parted h k = .ok ((decide (0 < h) && decide (k < 0)) || (decide (h < 0) && decide (0 < k))) := by
  unfold p_are_parted
  rw [p_under_ok (SQ_zero 0) sh (by omega), bind_ok]
  by_cases h1 : 0 < h
  · have h2 : ¬ h < 0 := by grind
    rw [decide_eq_true h1, if_ok_t, p_under_ok sk (SQ_zero 0) (by omega), bind_ok, decide_eq_false h2]
    simp
  · rw [decide_eq_false h1, if_ok_f, p_under_ok sh (SQ_zero 0) (by omega), bind_ok]
    by_cases h2 : h < 0
    · rw [decide_eq_true h2, andR_t, p_under_ok (SQ_zero 0) sk (by omega), bind_ok, bind_ok]
      simp
    · rw [decide_eq_false h2, andR_f, bind_ok]
      simp
/-- the size of a cut ring's points: of heights a, points m -/
theorem SP_meet {a m : Nat} {l : Ln} {e : Pt × Pt} (hp : SP m e.1) (hq : SP m e.2) (h1 : SQ a (hgt l e.1)) (h2 : SQ a (hgt l e.2)) (hn : hgt l e.1 ≠ hgt l e.2) : SP (3 * a + 3 * m + 3) (meet l e) := by
  have h0 : hgt l e.1 - hgt l e.2 ≠ 0 := by grind
  have ss := h1.div (h1.sub h2) h0
  exact ⟨(hp.1.add (ss.mul (hq.1.sub hp.1))).mono (by omega), (hp.2.add (ss.mul (hq.2.sub hp.2))).mono (by omega)⟩
theorem cutE_mem {l : Ln} {e : Pt × Pt} {p : Pt} (h : p ∈ cutE l e) : (p = e.1 ∧ ¬ 0 < hgt l e.1) ∨ (p = meet l e ∧ parts l e = true) := by
  unfold cutE at h
  rcases List.mem_append.mp h with h | h
  · split at h
    · cases h
    · rename_i c; simp at h; exact .inl ⟨h, c⟩
  · split at h
    · rename_i c; simp at h; exact .inr ⟨h, c⟩
    · cases h
theorem cutE_len (l : Ln) (e : Pt × Pt) : (cutE l e).length ≤ 2 := by
  unfold cutE
  rw [List.length_append]
  split <;> split <;> simp
theorem cutL_len (l : Ln) : ∀ es : List (Pt × Pt), (cutL' l es).length ≤ 2 * es.length
  | [] => Nat.le_refl _
  | e :: es => by
    have h1 := cutE_len l e
    have h2 := cutL_len l es
    have h3 : cutL' l (e :: es) = cutE l e ++ cutL' l es := rfl
    rw [h3, List.length_append, List.length_cons]; omega
theorem cutQ_len (l : Ln) (r : List Pt) : (cutQ l r).length ≤ 2 * r.length := by
  have := cutL_len l (edges r)
  rw [edges_len] at this
  exact this
theorem cutQ_mem {l : Ln} {r : List Pt} {p : Pt} (h : p ∈ cutQ l r) : (p ∈ r ∧ ¬ 0 < hgt l p) ∨ ∃ e ∈ edges r, p = meet l e ∧ parts l e = true := by
  unfold cutQ cutL' at h
  obtain ⟨e, he, hp⟩ := List.mem_flatMap.mp h
  rcases cutE_mem hp with ⟨h1, h2⟩ | ⟨h1, h2⟩
  · subst h1; exact .inl ⟨(edges_mem he).1, h2⟩
  · exact .inr ⟨e, he, h1, h2⟩
theorem SR_cut {a m : Nat} {l : Ln} {r : List Pt} (hr : SR m r) (hh : ∀ p ∈ r, SQ a (hgt l p)) : SR (3 * a + 3 * m + 3) (cutQ l r) := fun p hp => by
  rcases cutQ_mem hp with h | ⟨e, he, rfl, hpar⟩
  · exact (hr p h.1).mono (by omega)
  · obtain ⟨h1, h2⟩ := edges_mem he
    exact SP_meet (hr _ h1) (hr _ h2) (hh _ h1) (hh _ h2) (parts_ne hpar)
/-- no point of a cut ring lies over the line -/
theorem cut_under {l : Ln} {r : List Pt} {p : Pt} (h : p ∈ cutQ l r) : hgt l p ≤ 0 := by
  rcases cutQ_mem h with h | ⟨e, he, rfl, hpar⟩
  · have := h.2; grind
  · have := hgt_meet (parts_ne hpar); grind
theorem map_get {α β : Type} {f : α → β} {xs : List α} {x : Int} {y : α} (h : atR xs x = .ok y) : atR (xs.map f) x = .ok (f y) := by
  unfold atR at h ⊢
  rw [List.length_map]
  cases e : ixP xs.length x with
  | none => rw [e] at h; cases h
  | some k =>
    rw [e] at h
    cases e2 : xs[k]? with
    | none => simp only [e2] at h; cases h
    | some z =>
      simp only [e2] at h
      have := R.ok_inj h
      subst this
      simp [e2]
theorem p_cut_ok {a n m : Nat} {l : Ln} {r : List Pt} (hl : SL n l) (hr : SR m r) (hh : ∀ p ∈ r, SQ a (hgt l p)) (hlen : r.length < 1000000) (hb1 : 3 * n + 2 * m + 4 < 134000000) (hb : 3 * a + 3 * m + 10 < 134000000) : p_cut r l = .ok (cutQ l r) := by
  unfold p_cut
  rw [compR_ok (by omega) (mapR_ok (g := hgt l) fun p hp => by rw [p_height_ok hl (hr p hp) hb1, bind_ok]), bind_ok, bind_ok, bind_ok]
  have key := ring_loop (r := r) (by omega) (f := fun (x9 : Int) (s10 : (List (Rat × Rat))) => R.bind (fmodR ((x9 + (1 : Int))) ((r.length : Int))) fun m11 => R.bind (R.ok m11) fun after12 => R.bind (atR (r.map (hgt l)) x9) fun it13 => R.bind (p_under ((0 : Rat)) it13) fun under14 => R.bind (if (!under14) = true then (R.bind (atR r x9) fun it16 => R.bind (appR s10 it16) fun come17 => R.ok come17) else (R.ok s10) : R ((List (Rat × Rat)))) fun st15 => R.bind (atR (r.map (hgt l)) x9) fun it18 => R.bind (atR (r.map (hgt l)) after12) fun it19 => R.bind (p_are_parted it18 it19) fun are_pa20 => if are_pa20 = true then (R.bind (atR (r.map (hgt l)) x9) fun it21 => R.bind (atR (r.map (hgt l)) x9) fun it22 => R.bind (atR (r.map (hgt l)) after12) fun it23 => R.bind (p_minus it22 it23) fun minus24 => R.bind (p_parted it21 minus24) fun parted25 => R.bind (R.ok parted25) fun share26 => R.bind (atR r x9) fun it27 => R.bind (atR r after12) fun it28 => R.bind (p_point_at it27 it28 share26) fun point29 => R.bind (appR st15 point29) fun come30 => R.ok come30) else (R.ok st15)) (s0 := ([] : List (Rat × Rat)))
    (fun es s => es.length ≤ r.length ∧ s = cutL' l es) ⟨Nat.zero_le _, rfl⟩ fun i x p q s hx hi g1 g2 g3 g4 g5 g6 hp => by
    obtain ⟨q0, rfl⟩ := hp
    have hl1 : ((edges r).take i).length = i := by rw [List.length_take, edges_len]; omega
    have hl2 := cutL_len l ((edges r).take i)
    have h1 := hr p g5
    have h2 := hr q g6
    have k1 := hh p g5
    have k2 := hh q g6
    have fl : cutL' l ((edges r).take i ++ [(p, q)]) = cutL' l ((edges r).take i) ++ cutE l (p, q) := by
      unfold cutL'
      rw [List.flatMap_append, List.flatMap_singleton]
    refine .step g3 (.one (.step (map_get g2) (.step (p_under_ok (SQ_zero 0) k1 (by omega)) (.bind (P := fun s => s = cutL' l ((edges r).take i) ++ if 0 < hgt l p then [] else [p]) ?_ fun s hs => ?_))))
    · by_cases c : 0 < hgt l p
      · rw [decide_eq_true c, if_pos c]
        exact .pure (by rw [List.append_nil])
      · rw [decide_eq_false c, if_neg c]
        exact .step g2 (.step (appR_ok (by omega)) (.pure rfl))
    · have ls : s.length < 16777216 := by
        rw [hs, List.length_append]
        split <;> simp <;> omega
      refine .step (map_get g2) (.step (map_get g4) (.step (p_parted_are_ok k1 k2 (by omega)) ?_))
      rw [fl]
      have fin : cutE l (p, q) = (if 0 < hgt l p then [] else [p]) ++ (if parts l (p, q) = true then [meet l (p, q)] else []) := rfl
      rw [fin, ← List.append_assoc, ← hs]
      refine .iteB (fun c => ?_) fun c => ?_
      · have cp : parts l (p, q) = true := c
        have h0 : hgt l p - hgt l q ≠ 0 := by have := parts_ne cp; simp only at this; grind
        rw [if_pos cp]
        refine .step (map_get g2) (.step (map_get g2) (.step (map_get g4) (.step (p_minus_ok k1 k2 (by omega)) (.step (p_parted_ok k1 (k1.sub k2) (by omega) h0) (.one (.step g2 (.step g4 (.step (p_point_ok h1 h2 (k1.div (k1.sub k2) h0) (by omega)) (.step (appR_ok ls) (.pure ⟨?_, rfl⟩))))))))))
        rw [List.length_append, hl1, List.length_singleton]; omega
      · have cp : ¬ parts l (p, q) = true := fun z => by
          have z2 : ((decide (0 < hgt l p) && decide (hgt l q < 0)) || (decide (hgt l p < 0) && decide (0 < hgt l q))) = true := z
          rw [c] at z2; cases z2
        rw [if_neg cp, List.append_nil]
        refine .pure ⟨?_, rfl⟩
        rw [List.length_append, hl1, List.length_singleton]; omega
  have fin := ring_step (k := fun s31 => R.ok s31) (Q := (· = cutQ l r)) key fun s hs => .pure hs.2
  obtain ⟨b, e1, e2⟩ := fin
  rw [← e2]
  exact e1
theorem l_points_like_ok (r : List Pt) : l_points_like r = .ok true := by
  unfold l_points_like
  rw [Bool.not_true, if_ok_f, forX_all (fun p _ => ?_), bind_ok, caseX_l]
  rw [show (false || (!decide ((2 : Int) = (2 : Int)))) = false by decide, if_ok_f, l_is2_ok, l_is2_ok, bind_ok]
  rfl
theorem l_ring2_ok {ns : List Int} (hb : Bits ns) {a n : Int} (h0 : 0 ≤ a) (h1 : a < 1000) (h2 : 0 ≤ n) (h3 : n ≤ 100) : Ok (l_ring_2 ns a n) (fun r => (r.length : Int) = n ∧ SR 50 r) := by
  unfold l_ring_2
  refine .one (.step (rngR_ok (by decide) (by decide) (by omega) (by omega)) ?_)
  refine .bind (.forR (fun i f => f.length = i ∧ SR 50 f) ⟨rfl, fun x hx => nomatch hx⟩ fun i f x hf hx => ?_) fun f hf => .pure ⟨by rw [hf.1]; simp; omega, hf.2⟩
  obtain ⟨e, hx3⟩ := rng_at hx
  have m2 : ∀ {β : Type} (g : Int → R β), R.bind (mulR 2 x) g = g (2 * x) := fun g => by rw [mulR_ok (a := 2) (b := 10) (by decide) (by unfold S; omega) (by decide), bind_ok]
  rw [m2]
  refine .bind (l_at_ok hb (by omega) (by omega)) fun p hp => ?_
  rw [m2]
  refine .bind (l_at_ok hb (by omega) (by omega)) fun q hq => .step (appR_ok (by rw [hf.1]; omega)) (.pure ⟨by simp [hf.1], fun y hy => ?_⟩)
  rcases List.mem_append.mp hy with h | h
  · exact hf.2 y h
  · simp at h; subst h; exact ⟨hp, hq⟩
theorem num_le0 {q : Rat} (h : q ≤ 0) : q.num ≤ 0 := by
  have := (Rat.le_iff q 0).mp h
  have e1 : (0 : Rat).num = 0 := rfl
  have e2 : ((0 : Rat).den : Int) = 1 := rfl
  rw [e1, e2] at this
  omega
theorem num_ge0 {q : Rat} (h : 0 ≤ q) : 0 ≤ q.num := Rat.num_nonneg.mpr h
end Pg

set_option Elab.async false
set_option linter.all false
set_option maxRecDepth 100000
namespace Pg
/-! ### the point of a side at a share of the way -/
abbrev Sd := Pt × Pt
def at_ (e : Sd) (t : Rat) : Pt := (e.1.1 + t * (e.2.1 - e.1.1), e.1.2 + t * (e.2.2 - e.1.2))
theorem at_zero (e : Sd) : at_ e 0 = e.1 := by unfold at_; rw [show e.1.1 + 0 * (e.2.1 - e.1.1) = e.1.1 by grind, show e.1.2 + 0 * (e.2.2 - e.1.2) = e.1.2 by grind]
theorem at_one (e : Sd) : at_ e 1 = e.2 := by unfold at_; rw [show e.1.1 + 1 * (e.2.1 - e.1.1) = e.2.1 by grind, show e.1.2 + 1 * (e.2.2 - e.1.2) = e.2.2 by grind]
/-! ### the shares at which whole numbers lie -/
def shareQ (a b : Rat) (k : Int) : Rat := ((k : Rat) - a) / (b - a)
def sharesF (a b : Rat) (ks : List Int) : List Rat := (ks.map (shareQ a b)).filter fun s => decide (0 < s) && decide (s < 1)
def range0 (n : Int) : List Int := (List.range (n - 0).toNat).map fun k => (0 : Int) + (k : Nat)
def sharesQ (a b : Rat) (n : Int) : List Rat := if a = b then [] else sharesF a b (range0 (n + 1))
theorem range0_mem {n k : Int} : k ∈ range0 n ↔ 0 ≤ k ∧ k < n := by
  constructor
  · intro h; exact rng_mem h
  · intro h
    refine List.mem_map.mpr ⟨k.toNat, List.mem_range.mpr (by omega), by omega⟩
theorem SQ_share {n : Nat} {a b : Rat} {k : Int} (ha : SQ n a) (hb : SQ n b) (hk : S 6 k) (h0 : b - a ≠ 0) : SQ (3 * n + 8) (shareQ a b k) :=
  (((SQ_int hk (by decide)).sub ha).div (hb.sub ha) h0).mono (by omega)
theorem flat_loop {α β : Type} {f : α → List β → R (List β)} {g : α → List β} : ∀ (xs : List α) (s : List β), (∀ x ∈ xs, ∀ s : List β, s.length < 100000 → f x s = .ok (s ++ g x)) → (∀ x, (g x).length ≤ 2) → s.length + 2 * xs.length < 100000 → R.forR f xs s = .ok (s ++ xs.flatMap g)
  | [], s, _, _, _ => by rw [List.flatMap_nil, List.append_nil]; rfl
  | x :: xs, s, h, h2, hl => by
    rw [List.length_cons] at hl
    have := h2 x
    unfold R.forR
    rw [h x List.mem_cons_self s (by omega), bind_ok, flat_loop xs _ (fun y hy => h y (List.mem_cons_of_mem _ hy)) h2 (by rw [List.length_append]; omega), List.flatMap_cons, List.append_assoc]
theorem sharesF_flat (a b : Rat) : ∀ ks : List Int, (ks.flatMap fun k => if (decide (0 < shareQ a b k) && decide (shareQ a b k < 1)) = true then [shareQ a b k] else []) = sharesF a b ks
  | [] => rfl
  | k :: ks => by
    rw [List.flatMap_cons, sharesF_flat a b ks]
    unfold sharesF
    rw [List.map_cons, List.filter_cons]
    split <;> rfl
theorem p_shares_ok {n : Nat} {a b : Rat} {m : Int} (ha : SQ n a) (hb : SQ n b) (h0 : 0 ≤ m) (h1 : m ≤ 40) (hn : 4 * n + 20 < 134000000) : p_shares_between a b m = .ok (sharesQ a b m) := by
  unfold p_shares_between sharesQ
  rw [bind_ok]
  by_cases h : a = b
  · rw [if_pos h, decide_eq_true h]; rfl
  · rw [if_neg h, decide_eq_false h]
    show R.bind (if true = true then _ else _) _ = _
    rw [if_ok_t, rngR_ok (by decide) (by decide) (by omega) (by omega), bind_ok]
    have hba : b - a ≠ 0 := by grind
    rw [flat_loop (g := fun k => if (decide (0 < shareQ a b k) && decide (shareQ a b k < 1)) = true then [shareQ a b k] else []) _ _ (fun k hk s hl => ?_) (fun k => by split <;> simp) (by simp; omega), bind_ok, bind_ok, sharesF_flat]
    · rfl
    · have hk0 := rng_mem hk
      have sk : S 6 k := by unfold S; omega
      have ss := SQ_share ha hb sk hba
      rw [mkQ_int, bind_ok, p_minus_ok (SQ_int sk (by decide)) ha (by omega), bind_ok, p_minus_ok hb ha (by omega), bind_ok, p_parted_ok ((SQ_int sk (by decide)).sub ha) (hb.sub ha) (by omega) hba, bind_ok, bind_ok]
      show R.bind (p_under 0 (shareQ a b k)) _ = _
      rw [p_under_ok (SQ_zero 0) ss (by omega), bind_ok, mkQ_one, bind_ok]
      have e2 : R.bind (p_under (((k : Rat) - a) / (b - a)) 1) (fun under16 => R.ok under16) = R.ok (decide (shareQ a b k < 1)) := by
        show R.bind (p_under (shareQ a b k) 1) _ = _
        rw [p_under_ok ss (SQ_one 0) (by omega), bind_ok]
      rw [e2]
      have e3 : R.andR (decide (0 < shareQ a b k)) (R.ok (decide (shareQ a b k < 1))) = R.ok (decide (0 < shareQ a b k) && decide (shareQ a b k < 1)) := by
        cases decide (0 < shareQ a b k) <;> rfl
      rw [e3, bind_ok]
      by_cases c : (decide (0 < shareQ a b k) && decide (shareQ a b k < 1)) = true
      · rw [if_pos c, if_pos c]
        show R.bind (appR s (shareQ a b k)) _ = _
        rw [appR_ok (by omega), bind_ok]
      · rw [if_neg c, if_neg c, List.append_nil]
theorem sharesF_mem {a b : Rat} {ks : List Int} {s : Rat} : s ∈ sharesF a b ks ↔ (∃ k ∈ ks, s = shareQ a b k) ∧ 0 < s ∧ s < 1 := by
  unfold sharesF
  rw [List.mem_filter, List.mem_map]
  simp only [Bool.and_eq_true, decide_eq_true_eq]
  constructor
  · rintro ⟨⟨k, h1, h2⟩, h3⟩; exact ⟨⟨k, h1, h2.symm⟩, h3⟩
  · rintro ⟨⟨k, h1, h2⟩, h3⟩; exact ⟨⟨k, h1, h2.symm⟩, h3⟩
theorem sharesQ_mem {a b : Rat} {n : Int} {s : Rat} : s ∈ sharesQ a b n ↔ a ≠ b ∧ (∃ k : Int, 0 ≤ k ∧ k ≤ n ∧ s = shareQ a b k) ∧ 0 < s ∧ s < 1 := by
  unfold sharesQ
  by_cases h : a = b
  · rw [if_pos h]; simp [h]
  · rw [if_neg h, sharesF_mem]
    constructor
    · rintro ⟨⟨k, h1, h2⟩, h3⟩
      have := range0_mem.mp h1
      exact ⟨h, ⟨k, by omega, by omega, h2⟩, h3⟩
    · rintro ⟨_, ⟨k, h1, h2, h4⟩, h3⟩
      exact ⟨⟨k, range0_mem.mpr (by omega), h4⟩, h3⟩
theorem sharesQ_len {a b : Rat} {n : Int} (h : 0 ≤ n) : (sharesQ a b n).length ≤ n.toNat + 1 := by
  unfold sharesQ
  split
  · simp
  · unfold sharesF range0
    refine Nat.le_trans (List.length_filter_le _ _) ?_
    simp; omega
/-! ### a rising row with one more -/
def putQ : List Rat → Rat → List Rat
  | [], s => [s]
  | x :: xs, s => if x = s then x :: xs else if s < x then s :: x :: xs else x :: putQ xs s
theorem putQ_cons (x : Rat) (xs : List Rat) (s : Rat) : putQ (x :: xs) s = if x = s then x :: xs else if s < x then s :: x :: xs else x :: putQ xs s := rfl
def Rising : List Rat → Prop
  | [] => True
  | [_] => True
  | x :: y :: r => x < y ∧ Rising (y :: r)
theorem putQ_mem : ∀ {xs : List Rat} {s z : Rat}, z ∈ putQ xs s ↔ z = s ∨ z ∈ xs
  | [], s, z => by simp [putQ]
  | x :: xs, s, z => by
    unfold putQ
    split
    · rename_i h; subst h; simp
    · split
      · simp
      · simp only [List.mem_cons, putQ_mem (xs := xs)]; grind
theorem rising_cons {x : Rat} : ∀ {xs : List Rat}, Rising xs → (∀ y ∈ xs, x < y) → Rising (x :: xs)
  | [], _, _ => trivial
  | _ :: _, h, h2 => ⟨h2 _ List.mem_cons_self, h⟩
theorem rising_tail {x : Rat} : ∀ {xs : List Rat}, Rising (x :: xs) → Rising xs
  | [], _ => trivial
  | _ :: _, h => h.2
theorem rising_lt {x : Rat} : ∀ {xs : List Rat}, Rising (x :: xs) → ∀ y ∈ xs, x < y
  | [], _, _, h => nomatch h
  | y :: ys, h, z, hz => by
    rcases List.mem_cons.mp hz with rfl | hz
    · exact h.1
    · have := rising_lt h.2 z hz
      have := h.1
      grind
theorem putQ_rising : ∀ {xs : List Rat} {s : Rat}, Rising xs → Rising (putQ xs s)
  | [], s, _ => trivial
  | x :: xs, s, h => by
    unfold putQ
    split
    · exact h
    · rename_i h1
      split
      · rename_i h2; exact ⟨h2, h⟩
      · rename_i h2
        refine rising_cons (putQ_rising (rising_tail h)) fun y hy => ?_
        rcases putQ_mem.mp hy with rfl | hy
        · grind
        · exact rising_lt h y hy
theorem putQ_len : ∀ (xs : List Rat) (s : Rat), (putQ xs s).length ≤ xs.length + 1
  | [], s => by simp [putQ]
  | x :: xs, s => by
    unfold putQ
    have := putQ_len xs s
    split
    · simp
    · split
      · simp
      · simp only [List.length_cons]; omega
theorem p_put_ok {n : Nat} {row : List Rat} {s : Rat} (hr : ∀ x ∈ row, SQ n x) (hs : SQ n s) (hl : row.length < 1000) (hn : n < 60000000) : p_put_in row s = .ok (putQ row s) := by
  unfold p_put_in
  rw [rngR_ok (by decide) (by decide) (by omega) (by omega), bind_ok]
  have key : ∀ (xs : List Int) (i : Nat), (∀ j, xs[j]? = if i + j < row.length then some ((i + j : Nat) : Int) else none) → putQ row s = row.take i ++ putQ (row.drop i) s →
      R.forX (fun (x4 : Int) (s5 : Unit) => (R.bind (atR row x4) fun it6 => if (decide (it6 = s)) = true then (R.ok (Sum.inr row)) else (R.bind (atR row x4) fun it7 => R.bind (p_under s it7) fun under8 => if under8 = true then (R.bind (catR ((cutL row none (some x4))) ([s])) fun c9 => R.bind (catR c9 ((cutL row (some x4) none))) fun c10 => R.ok (Sum.inr c10)) else (R.ok (Sum.inl (())))) : R (Sum Unit ((List Rat))))) xs () = .ok (.inr (putQ row s)) ∨
      (R.forX (fun (x4 : Int) (s5 : Unit) => (R.bind (atR row x4) fun it6 => if (decide (it6 = s)) = true then (R.ok (Sum.inr row)) else (R.bind (atR row x4) fun it7 => R.bind (p_under s it7) fun under8 => if under8 = true then (R.bind (catR ((cutL row none (some x4))) ([s])) fun c9 => R.bind (catR c9 ((cutL row (some x4) none))) fun c10 => R.ok (Sum.inr c10)) else (R.ok (Sum.inl (())))) : R (Sum Unit ((List Rat))))) xs () = .ok (.inl ()) ∧ putQ row s = row ++ [s]) := by
    intro xs
    induction xs with
    | nil =>
      intro i hx hp
      right
      refine ⟨rfl, ?_⟩
      have h0 := hx 0
      have hi : row.length ≤ i := by
        by_cases c : i + 0 < row.length
        · rw [if_pos c] at h0; simp at h0
        · omega
      rw [hp, List.take_of_length_le hi, List.drop_eq_nil_of_le hi]; rfl
    | cons x xs ih =>
      intro i hx hp
      have h0 := hx 0
      have hi : i < row.length := by
        by_cases c : i + 0 < row.length
        · omega
        · rw [if_neg c] at h0; simp at h0
      have ex : x = (i : Int) := by
        rw [if_pos (by omega)] at h0
        have := Option.some.inj (show some x = _ from h0)
        simpa using this
      subst ex
      have hg : row[i]? = some row[i] := List.getElem?_eq_getElem hi
      have hd : row.drop i = row[i] :: row.drop (i + 1) := List.drop_eq_getElem_cons hi
      have hm := hr row[i] (List.getElem_mem hi)
      unfold R.forX
      rw [atR_nat hg, bind_ok]
      rw [hd, putQ_cons] at hp
      by_cases c1 : row[i] = s
      · left
        rw [decide_eq_true c1, if_ok_t, bind_ok]
        show R.ok (Sum.inr row) = _
        rw [if_pos c1, ← hd, List.take_append_drop] at hp
        rw [hp]
      · rw [decide_eq_false c1, if_ok_f, bind_ok, p_under_ok hs hm (by omega), bind_ok]
        rw [if_neg c1] at hp
        by_cases c2 : s < row[i]
        · left
          rw [decide_eq_true c2, if_ok_t]
          rw [if_pos c2] at hp
          have e1 : cutL row none (some (i : Int)) = row.take i := by
            unfold cutL sIxP
            simp only [if_neg (show ¬ (i : Int) < 0 by omega), Nat.sub_zero, List.drop_zero]
            rw [Nat.min_eq_left (by omega)]; simp
          have e2 : cutL row (some (i : Int)) none = row.drop i := by
            unfold cutL sIxP
            simp only [if_neg (show ¬ (i : Int) < 0 by omega)]
            rw [Nat.min_eq_left (by omega), List.take_of_length_le (by rw [List.length_drop]; omega)]; simp
          rw [e1, e2, catR_ok (by rw [List.length_take]; simp; omega), bind_ok, catR_ok (by rw [List.length_append, List.length_take, List.length_drop]; simp; omega), bind_ok, bind_ok]
          show R.ok (Sum.inr _) = _
          rw [hp, hd, List.append_assoc]; rfl
        · rw [decide_eq_false c2, if_ok_f, bind_ok]
          rw [if_neg c2] at hp
          refine ih (i + 1) (fun j => ?_) ?_
          · have := hx (j + 1)
            rw [List.getElem?_cons_succ] at this
            rw [this, show i + (j + 1) = i + 1 + j by omega]
          · rw [hp, take_more hg, List.append_assoc]; rfl
  rcases key ((List.range ((row.length : Int) - 0).toNat).map fun k => (0 : Int) + (k : Nat)) 0 (fun j => by
      rw [List.getElem?_map]
      by_cases c : j < row.length
      · rw [List.getElem?_range (by omega), if_pos (by omega)]; simp
      · rw [List.getElem?_eq_none (by simp; omega), if_neg (by omega)]; rfl) rfl with h | ⟨h, h2⟩
  · rw [h, bind_ok, caseX_r]
  · rw [h, bind_ok, caseX_l, catR_ok (by simp; omega), bind_ok, h2]
/-! ### all shares of a side, its points -/
def putAll (xs : List Rat) : List Rat → List Rat
  | [] => xs
  | s :: ss => putAll (putQ xs s) ss
theorem putAll_mem : ∀ {ss xs : List Rat} {z : Rat}, z ∈ putAll xs ss ↔ z ∈ xs ∨ z ∈ ss
  | [], xs, z => by simp [putAll]
  | s :: ss, xs, z => by
    unfold putAll
    rw [putAll_mem, putQ_mem, List.mem_cons]; grind
theorem putAll_rising : ∀ {ss xs : List Rat}, Rising xs → Rising (putAll xs ss)
  | [], _, h => h
  | s :: ss, xs, h => by
    show Rising (putAll (putQ xs s) ss)
    exact putAll_rising (putQ_rising h)
theorem putAll_len : ∀ (ss xs : List Rat), (putAll xs ss).length ≤ xs.length + ss.length
  | [], xs => Nat.le_refl _
  | s :: ss, xs => by
    unfold putAll
    have h1 := putAll_len ss (putQ xs s)
    have h2 := putQ_len xs s
    rw [List.length_cons]; omega
/-- the shares at which a side is cut, within -/
def innerQ (w h : Int) (e : Sd) : List Rat := putAll [] (sharesQ e.1.1 e.2.1 w ++ sharesQ e.1.2 e.2.2 h)
/-- with both ends -/
def knots (w h : Int) (e : Sd) : List Rat := 0 :: innerQ w h e ++ [1]
theorem inner_mem {w h : Int} {e : Sd} {s : Rat} : s ∈ innerQ w h e ↔ s ∈ sharesQ e.1.1 e.2.1 w ∨ s ∈ sharesQ e.1.2 e.2.2 h := by
  unfold innerQ
  rw [putAll_mem, List.mem_append]; simp
theorem inner_01 {w h : Int} {e : Sd} {s : Rat} (hs : s ∈ innerQ w h e) : 0 < s ∧ s < 1 := by
  rcases inner_mem.mp hs with h | h <;> exact (sharesQ_mem.mp h).2.2
theorem rising_snoc {z : Rat} : ∀ {xs : List Rat}, Rising xs → (∀ y ∈ xs, y < z) → Rising (xs ++ [z])
  | [], _, _ => trivial
  | [x], _, h => ⟨h x (by simp), trivial⟩
  | x :: y :: r, h, h2 => ⟨h.1, rising_snoc h.2 fun u hu => h2 u (List.mem_cons_of_mem _ hu)⟩
theorem knots_rising (w h : Int) (e : Sd) : Rising (knots w h e) := by
  unfold knots
  refine rising_snoc (rising_cons (putAll_rising trivial) fun y hy => (inner_01 hy).1) fun y hy => ?_
  rcases List.mem_cons.mp hy with rfl | hy
  · decide
  · exact (inner_01 hy).2
theorem SQ_inner {n : Nat} {w h : Int} {e : Sd} (hp : SP n e.1) (hq : SP n e.2) (hw : w ≤ 40) (hh : h ≤ 40) {s : Rat} (hs : s ∈ innerQ w h e) : SQ (3 * n + 8) s := by
  have one : ∀ {a b : Rat} {m : Int}, SQ n a → SQ n b → m ≤ 40 → s ∈ sharesQ a b m → SQ (3 * n + 8) s := fun ha hb hm hs => by
    obtain ⟨hne, ⟨k, k0, k1, rfl⟩, _⟩ := sharesQ_mem.mp hs
    exact SQ_share ha hb (by unfold S; omega) (by grind)
  rcases inner_mem.mp hs with h | h
  · exact one hp.1 hq.1 hw h
  · exact one hp.2 hq.2 hh h
theorem SP_at {n k : Nat} {e : Sd} {s : Rat} (hp : SP n e.1) (hq : SP n e.2) (hs : SQ k s) : SP (3 * n + k + 2) (at_ e s) :=
  ⟨(hp.1.add (hs.mul (hq.1.sub hp.1))).mono (by omega), (hp.2.add (hs.mul (hq.2.sub hp.2))).mono (by omega)⟩
theorem p_points_ok {n : Nat} {w h : Int} {e : Sd} (hp : SP n e.1) (hq : SP n e.2) (hw0 : 0 ≤ w) (hw : w ≤ 40) (hh0 : 0 ≤ h) (hh : h ≤ 40) (hn : 8 * n + 30 < 60000000) : p_points_on w h e = .ok ((knots w h e).map (at_ e)) := by
  unfold p_points_on
  have l1 := sharesQ_len (a := e.1.1) (b := e.2.1) hw0
  have l2 := sharesQ_len (a := e.1.2) (b := e.2.2) hh0
  rw [bind_ok, bind_ok, p_shares_ok hp.1 hq.1 hw0 hw (by omega), bind_ok, p_shares_ok hp.2 hq.2 hh0 hh (by omega), bind_ok, catR_ok (by omega), bind_ok]
  have key : ∀ (ss xs : List Rat), (∀ x ∈ xs, SQ (3 * n + 8) x) → (∀ x ∈ ss, SQ (3 * n + 8) x) → xs.length + ss.length < 1000 →
      R.forR (fun (x9 : Rat) (s10 : (List Rat)) => R.bind (p_put_in s10 x9) fun put_in11 => R.bind (R.ok put_in11) fun row12 => R.ok row12) ss xs = .ok (putAll xs ss) := by
    intro ss
    induction ss with
    | nil => intro xs _ _ _; rfl
    | cons s ss ih =>
      intro xs h1 h2 hl
      rw [List.length_cons] at hl
      unfold R.forR
      have hlen := putQ_len xs s
      rw [p_put_ok h1 (h2 s List.mem_cons_self) (by omega) (by omega), bind_ok, bind_ok, bind_ok, ih _ (fun x hx => ?_) (fun x hx => h2 x (List.mem_cons_of_mem _ hx)) (by omega)]
      · rfl
      · rcases putQ_mem.mp hx with rfl | hx
        · exact h2 x List.mem_cons_self
        · exact h1 x hx
  have sh : ∀ s ∈ sharesQ e.1.1 e.2.1 w ++ sharesQ e.1.2 e.2.2 h, SQ (3 * n + 8) s := fun s hs => SQ_inner hp hq hw hh (inner_mem.mpr (List.mem_append.mp hs))
  rw [key _ [] (fun x hx => nomatch hx) sh (by rw [List.length_append]; simp; omega), bind_ok]
  have l3 := putAll_len (sharesQ e.1.1 e.2.1 w ++ sharesQ e.1.2 e.2.2 h) []
  rw [List.length_append, List.length_nil] at l3
  rw [compR_ok (by omega) (mapR_ok (g := at_ e) fun s hs => by rw [p_point_ok hp hq (SQ_inner hp hq hw hh hs) (by omega), bind_ok]; rfl), bind_ok, catR_ok (by rw [List.length_map]; simp; omega), bind_ok, catR_ok (by rw [List.length_append, List.length_map]; simp; omega), bind_ok]
  have e1 : (knots w h e).map (at_ e) = [e.1] ++ (innerQ w h e).map (at_ e) ++ [e.2] := by
    unfold knots
    rw [List.map_append, List.map_cons, at_zero]
    show e.1 :: _ ++ [at_ e 1] = _
    rw [at_one]; rfl
  rw [e1]; rfl
end Pg

set_option Elab.async false
set_option linter.all false
set_option maxRecDepth 100000
namespace Pg
/-! ### whole parts -/
def fl (q : Rat) : Int := q.num / (q.den : Int)
theorem int_le_rat (n : Int) (q : Rat) : (n : Rat) ≤ q ↔ n * (q.den : Int) ≤ q.num := by
  rw [Rat.le_iff, Rat.num_intCast, Rat.den_intCast]
  simp
theorem rat_lt_int (n : Int) (q : Rat) : q < (n : Rat) ↔ q.num < n * (q.den : Int) := by
  rw [Rat.lt_iff, Rat.num_intCast, Rat.den_intCast]
  simp
theorem fl_le (q : Rat) : ((fl q : Int) : Rat) ≤ q := by
  rw [int_le_rat]
  have hd := q.den_pos
  have := Int.mul_ediv_self_le (x := q.num) (k := (q.den : Int)) (by omega)
  unfold fl
  rw [Int.mul_comm]; exact this
theorem lt_fl (q : Rat) : q < ((fl q + 1 : Int) : Rat) := by
  rw [rat_lt_int]
  have hd := q.den_pos
  have := Int.lt_mul_ediv_self_add (x := q.num) (k := (q.den : Int)) (by omega)
  unfold fl
  rw [Int.add_mul, Int.one_mul, Int.mul_comm]; exact this
theorem fl_lt_iff (q : Rat) (n : Int) : fl q < n ↔ q < (n : Rat) := by
  have h1 := fl_le q
  have h2 := lt_fl q
  constructor
  · intro h
    have h3 : ((fl q + 1 : Int) : Rat) ≤ (n : Rat) := Rat.intCast_le_intCast.mpr (by omega)
    grind
  · intro h
    have h3 : ((fl q : Int) : Rat) < (n : Rat) := by grind
    exact Rat.intCast_lt_intCast.mp h3
theorem le_fl_iff (q : Rat) (n : Int) : n ≤ fl q ↔ (n : Rat) ≤ q := by
  have := fl_lt_iff q n
  constructor
  · intro h; by_cases c : q < (n : Rat)
    · have := this.mpr c; omega
    · grind
  · intro h; by_cases c : fl q < n
    · have := this.mp c; grind
    · omega
def mid (a b : Rat) : Rat := (a + b) * (1 / 2)
theorem p_middle_ok' {n m : Nat} {p q : Rat} (hp : SQ n p) (hq : SQ m q) (h : n + m + 10 < 134000000) : p_middle p q = .ok (mid p q) := by
  unfold p_middle
  rw [p_plus_ok hp hq (by omega), bind_ok, p_times_ok (hp.add hq) (SQ_half 0) (by omega), bind_ok]; rfl
theorem SQ_mid {n m : Nat} {p q : Rat} (hp : SQ n p) (hq : SQ m q) : SQ (n + m + 3) (mid p q) := ((hp.add hq).mul (SQ_half 0)).mono (by omega)
theorem mid2 (a b : Rat) : 2 * mid a b = a + b := by unfold mid; grind
/-! ### pieces -/
abbrev Pc := Int × Int × Pt × Pt
def pairs (ks : List Rat) : List (Rat × Rat) := zipL ks (ks.drop 1)
def colQ (e : Sd) (k : Rat × Rat) : Int := fl (mid (at_ e k.1).1 (at_ e k.2).1)
def rowQ (e : Sd) (k : Rat × Rat) : Int := fl (mid (at_ e k.1).2 (at_ e k.2).2)
def onFloor (w h : Int) (e : Sd) (k : Rat × Rat) : Bool := decide (0 ≤ rowQ e k) && decide (rowQ e k < h) && decide (colQ e k < w)
def pieceOf (e : Sd) (k : Rat × Rat) : Pc := (maxZ (colQ e k) (-1), rowQ e k, at_ e k.1, at_ e k.2)
def pieceE (w h : Int) (e : Sd) (k : Rat × Rat) : List Pc := if onFloor w h e k = true then [pieceOf e k] else []
def piecesQ (w h : Int) (e : Sd) : List Pc := if e.1 = e.2 then [] else (pairs (knots w h e)).flatMap (pieceE w h e)
theorem pairs_len (ks : List Rat) : (pairs ks).length = ks.length - 1 := by
  unfold pairs
  rw [zipL_len, List.length_drop]; omega
theorem pairs_get {ks : List Rat} {i : Nat} (h : i + 1 < ks.length) : (pairs ks)[i]? = some (ks[i], ks[i + 1]) := by
  unfold pairs
  refine zipL_get (List.getElem?_eq_getElem (by omega)) ?_
  rw [List.getElem?_drop, show 1 + i = i + 1 by omega]
  exact List.getElem?_eq_getElem h
theorem knots_len {w h : Int} (e : Sd) (hw0 : 0 ≤ w) (hw : w ≤ 40) (hh0 : 0 ≤ h) (hh : h ≤ 40) : 2 ≤ (knots w h e).length ∧ (knots w h e).length ≤ 100 := by
  have l1 := sharesQ_len (a := e.1.1) (b := e.2.1) hw0
  have l2 := sharesQ_len (a := e.1.2) (b := e.2.2) hh0
  have l3 := putAll_len (sharesQ e.1.1 e.2.1 w ++ sharesQ e.1.2 e.2.2 h) []
  rw [List.length_append, List.length_nil] at l3
  unfold knots innerQ
  rw [List.length_append, List.length_cons]
  simp only [List.length_singleton]
  omega
theorem knots_mem {w h : Int} {e : Sd} {s : Rat} : s ∈ knots w h e ↔ s = 0 ∨ s ∈ innerQ w h e ∨ s = 1 := by
  unfold knots
  simp
theorem SQ_knot {n : Nat} {w h : Int} {e : Sd} (hp : SP n e.1) (hq : SP n e.2) (hw : w ≤ 40) (hh : h ≤ 40) {s : Rat} (hs : s ∈ knots w h e) : SQ (3 * n + 8) s := by
  rcases knots_mem.mp hs with rfl | h | rfl
  · exact (SQ_zero 0).mono (by omega)
  · exact SQ_inner hp hq hw hh h
  · exact (SQ_one 0).mono (by omega)
theorem SP_knot {n : Nat} {w h : Int} {e : Sd} (hp : SP n e.1) (hq : SP n e.2) (hw : w ≤ 40) (hh : h ≤ 40) {s : Rat} (hs : s ∈ knots w h e) : SP (6 * n + 10) (at_ e s) :=
  (SP_at hp hq (SQ_knot hp hq hw hh hs)).mono (by omega)
theorem p_pieces_ok {n : Nat} {w h : Int} {e : Sd} (hp : SP n e.1) (hq : SP n e.2) (hw0 : 0 ≤ w) (hw : w ≤ 40) (hh0 : 0 ≤ h) (hh : h ≤ 40) (hn : 14 * n + 60 < 60000000) : p_pieces w h e = .ok (piecesQ w h e) := by
  unfold p_pieces piecesQ
  rw [bind_ok]
  by_cases he : e.1 = e.2
  · rw [decide_eq_true he, if_ok_t, if_pos he]
  · rw [decide_eq_false he, if_ok_f, if_neg he, p_points_ok hp hq hw0 hw hh0 hh (by omega), bind_ok, bind_ok, List.length_map]
    obtain ⟨k2, k100⟩ := knots_len e hw0 hw hh0 hh
    rw [rngR_ok (by decide) (by decide) (by omega) (by omega), bind_ok]
    have hlen : ((List.range (((knots w h e).length : Int) - 1 - 0).toNat).map fun k => (0 : Int) + (k : Nat)).length = (pairs (knots w h e)).length := by rw [pairs_len]; simp
    have fin := Ok.forR (f := fun (x8 : Int) (s9 : (List (Int × Int × (Rat × Rat) × (Rat × Rat)))) => R.bind (atR ((knots w h e).map (at_ e)) x8) fun it10 => R.bind (R.ok it10) fun one11 => R.bind (atR ((knots w h e).map (at_ e)) ((x8 + (1 : Int)))) fun it12 => R.bind (R.ok it12) fun other13 => R.bind (p_middle one11.1 other13.1) fun middle14 => R.bind (p_whole_part middle14) fun whole15 => R.bind (R.ok whole15) fun column16 => R.bind (p_middle one11.2 other13.2) fun middle17 => R.bind (p_whole_part middle17) fun whole18 => R.bind (R.ok whole18) fun row19 => if ((decide ((0 : Int) ≤ row19) && decide (row19 < h)) && (decide (column16 < w))) = true then (R.bind (appR s9 (((maxZ column16 ((-((1 : Int))))), row19, one11, other13))) fun come20 => R.ok come20) else (R.ok s9))
      (xs := (List.range (((knots w h e).length : Int) - 1 - 0).toNat).map fun k => (0 : Int) + (k : Nat)) (s := [])
      (fun i s => s = ((pairs (knots w h e)).take i).flatMap (pieceE w h e) ∧ s.length ≤ i) ⟨by simp, by simp⟩ fun i s x hs hx => by
        obtain ⟨ex, hx2⟩ := rng_at hx
        have hi : i + 1 < (knots w h e).length := by omega
        have ex : x = (i : Int) := by omega
        subst ex
        have g1 : (knots w h e)[i]? = some (knots w h e)[i] := List.getElem?_eq_getElem (by omega)
        have g2 : (knots w h e)[i + 1]? = some (knots w h e)[i + 1] := List.getElem?_eq_getElem hi
        have a1 := map_get (f := at_ e) (atR_nat g1)
        have a2 := map_get (f := at_ e) (atR_nat g2)
        have s1 := SP_knot hp hq hw hh (List.mem_of_getElem? g1)
        have s2 := SP_knot hp hq hw hh (List.mem_of_getElem? g2)
        have gp := pairs_get hi
        generalize (knots w h e)[i] = u at *
        generalize (knots w h e)[i + 1] = v at *
        refine .step a1 (.one (.step a2 (.one (.step (p_middle_ok' s1.1 s2.1 (by omega)) (.step (p_whole_ok _) (.one (.step (p_middle_ok' s1.2 s2.2 (by omega)) (.step (p_whole_ok _) (.one ?_)))))))))
        have tk : ((pairs (knots w h e)).take (i + 1)).flatMap (pieceE w h e) = s ++ pieceE w h e (u, v) := by rw [take_more gp, List.flatMap_append, ← hs.1, List.flatMap_singleton]
        rw [tk]
        have e1 : pieceE w h e (u, v) = if onFloor w h e (u, v) = true then [pieceOf e (u, v)] else [] := rfl
        rw [e1]
        refine .iteB (fun c => ?_) fun c => ?_
        · have c2 : onFloor w h e (u, v) = true := c
          rw [if_pos c2]
          exact .step (appR_ok (by have := hs.2; omega)) (.pure ⟨rfl, by rw [List.length_append]; simp; exact hs.2⟩)
        · have c2 : ¬ onFloor w h e (u, v) = true := fun z => by
            have z2 : ((decide ((0 : Int) ≤ rowQ e (u, v)) && decide (rowQ e (u, v) < h)) && (decide (colQ e (u, v) < w))) = true := z
            have c3 : ((decide ((0 : Int) ≤ rowQ e (u, v)) && decide (rowQ e (u, v) < h)) && (decide (colQ e (u, v) < w))) = false := c
            rw [z2] at c3; cases c3
          rw [if_neg c2, List.append_nil]
          exact .pure ⟨rfl, by have := hs.2; omega⟩
    obtain ⟨a, e1, e2⟩ := fin
    rw [e1, bind_ok, e2.1, hlen, List.take_length]
/-! ### neighbours among the knots -/
/-- s, t: neighbours -/
structure Nb (w h : Int) (e : Sd) (k : Rat × Rat) : Prop where
  lt : k.1 < k.2
  ge : 0 ≤ k.1
  le : k.2 ≤ 1
  no : ∀ z ∈ knots w h e, z ≤ k.1 ∨ k.2 ≤ z
  m1 : k.1 ∈ knots w h e
  m2 : k.2 ∈ knots w h e
theorem rising_nb : ∀ {ks : List Rat}, Rising ks → ∀ k ∈ pairs ks, k.1 < k.2 ∧ k.1 ∈ ks ∧ k.2 ∈ ks ∧ ∀ z ∈ ks, z ≤ k.1 ∨ k.2 ≤ z
  | [], _, k, hk => nomatch hk
  | [x], _, k, hk => nomatch hk
  | x :: y :: r, hr, k, hk => by
    have e : pairs (x :: y :: r) = (x, y) :: pairs (y :: r) := rfl
    rw [e] at hk
    rcases List.mem_cons.mp hk with rfl | hk
    · refine ⟨hr.1, by simp, by simp, fun z hz => ?_⟩
      rcases List.mem_cons.mp hz with rfl | hz
      · left; exact Rat.le_refl
      · right
        rcases List.mem_cons.mp hz with rfl | hz
        · exact Rat.le_refl
        · have := rising_lt hr.2 z hz
          show y ≤ z
          grind
    · obtain ⟨h1, h2, h3, h4⟩ := rising_nb hr.2 k hk
      refine ⟨h1, List.mem_cons_of_mem _ h2, List.mem_cons_of_mem _ h3, fun z hz => ?_⟩
      rcases List.mem_cons.mp hz with rfl | hz
      · left
        have := rising_lt hr k.1 h2
        grind
      · exact h4 z hz
theorem nb_of {w h : Int} {e : Sd} {k : Rat × Rat} (hk : k ∈ pairs (knots w h e)) : Nb w h e k := by
  obtain ⟨h1, h2, h3, h4⟩ := rising_nb (knots_rising w h e) k hk
  have b : ∀ z ∈ knots w h e, 0 ≤ z ∧ z ≤ 1 := fun z hz => by
    rcases knots_mem.mp hz with rfl | hz | rfl
    · exact ⟨by decide, by decide⟩
    · have := inner_01 hz; constructor <;> grind
    · exact ⟨by decide, by decide⟩
  exact ⟨h1, (b _ h2).1, (b _ h3).2, h4, h2, h3⟩
theorem pos_of_mul {x y : Rat} (h : 0 < x * y) (hx : 0 < x) : 0 < y := by
  by_cases c : 0 < y
  · exact c
  · have := Rat.mul_le_mul_of_nonneg_left (show y ≤ 0 by grind) (show 0 ≤ x by grind)
    grind
/-- of one way: no whole number of the floor lies strictly within a piece -/
theorem side_of {a b s t : Rat} {m k : Int} (k0 : 0 ≤ k) (k1 : k ≤ m) (hst : s < t) (h0 : 0 ≤ s) (h1 : t ≤ 1) (no : ∀ z ∈ sharesQ a b m, z ≤ s ∨ t ≤ z) :
    (a + s * (b - a) ≤ (k : Rat) ∧ a + t * (b - a) ≤ (k : Rat)) ∨ ((k : Rat) ≤ a + s * (b - a) ∧ (k : Rat) ≤ a + t * (b - a)) := by
  by_cases hab : a = b
  · subst hab
    by_cases c : a ≤ (k : Rat)
    · left; constructor <;> grind
    · right; constructor <;> grind
  · have hba : b - a ≠ 0 := by grind
    have hu : shareQ a b k * (b - a) = (k : Rat) - a := Rat.div_mul_cancel hba
    have hn : shareQ a b k ∈ sharesQ a b m → shareQ a b k ≤ s ∨ t ≤ shareQ a b k := no _
    generalize shareQ a b k = u at hu hn
    by_cases c1 : s < u ∧ u < t
    · exfalso
      have hm : shareQ a b k ∈ sharesQ a b m := by
        refine sharesQ_mem.mpr ⟨hab, ⟨k, k0, k1, rfl⟩, ?_, ?_⟩
        all_goals
          have e : shareQ a b k = u := by
            have h2 : shareQ a b k * (b - a) = (k : Rat) - a := Rat.div_mul_cancel hba
            have h3 : (b - a) * (shareQ a b k - u) = 0 := by grind
            rcases mul_eq0 h3 with z | z
            · exact absurd z hba
            · grind
          rw [e]; grind
      have e : shareQ a b k = u := by
        have h2 : shareQ a b k * (b - a) = (k : Rat) - a := Rat.div_mul_cancel hba
        have h3 : (b - a) * (shareQ a b k - u) = 0 := by grind
        rcases mul_eq0 h3 with z | z
        · exact absurd z hba
        · grind
      rw [e] at hm
      have := hn hm
      grind
    · have hd : 0 < b - a ∨ 0 < a - b := by grind
      have c2 : u ≤ s ∨ t ≤ u := by grind
      rcases hd with hd | hd <;> rcases c2 with c2 | c2
      · right
        have h3 := Rat.mul_le_mul_of_nonneg_left (show u ≤ s from c2) (show 0 ≤ b - a by grind)
        have h4 := Rat.mul_le_mul_of_nonneg_left (show u ≤ t by grind) (show 0 ≤ b - a by grind)
        constructor <;> grind
      · left
        have h3 := Rat.mul_le_mul_of_nonneg_left (show s ≤ u by grind) (show 0 ≤ b - a by grind)
        have h4 := Rat.mul_le_mul_of_nonneg_left (show t ≤ u from c2) (show 0 ≤ b - a by grind)
        constructor <;> grind
      · left
        have h3 := Rat.mul_le_mul_of_nonneg_left (show u ≤ s from c2) (show 0 ≤ a - b by grind)
        have h4 := Rat.mul_le_mul_of_nonneg_left (show u ≤ t by grind) (show 0 ≤ a - b by grind)
        constructor <;> grind
      · right
        have h3 := Rat.mul_le_mul_of_nonneg_left (show s ≤ u by grind) (show 0 ≤ a - b by grind)
        have h4 := Rat.mul_le_mul_of_nonneg_left (show t ≤ u from c2) (show 0 ≤ a - b by grind)
        constructor <;> grind
theorem nb_x {w h : Int} {e : Sd} {k : Rat × Rat} (n : Nb w h e k) {z : Int} (z0 : 0 ≤ z) (z1 : z ≤ w) :
    ((at_ e k.1).1 ≤ (z : Rat) ∧ (at_ e k.2).1 ≤ (z : Rat)) ∨ ((z : Rat) ≤ (at_ e k.1).1 ∧ (z : Rat) ≤ (at_ e k.2).1) :=
  side_of z0 z1 n.lt n.ge n.le fun u hu => n.no u (knots_mem.mpr (.inr (.inl (inner_mem.mpr (.inl hu)))))
theorem nb_y {w h : Int} {e : Sd} {k : Rat × Rat} (n : Nb w h e k) {z : Int} (z0 : 0 ≤ z) (z1 : z ≤ h) :
    ((at_ e k.1).2 ≤ (z : Rat) ∧ (at_ e k.2).2 ≤ (z : Rat)) ∨ ((z : Rat) ≤ (at_ e k.1).2 ∧ (z : Rat) ≤ (at_ e k.2).2) :=
  side_of z0 z1 n.lt n.ge n.le fun u hu => n.no u (knots_mem.mpr (.inr (.inl (inner_mem.mpr (.inr hu)))))
/-- ends in the cell of their middle -/
theorem in_cell {a b : Rat} {m : Int} (hs : ∀ z : Int, 0 ≤ z → z ≤ m → (a ≤ (z : Rat) ∧ b ≤ (z : Rat)) ∨ ((z : Rat) ≤ a ∧ (z : Rat) ≤ b)) (h1 : fl (mid a b) < m) (hm : 0 ≤ m) :
    (a ≤ ((maxZ (fl (mid a b)) (-1) + 1 : Int) : Rat) ∧ b ≤ ((maxZ (fl (mid a b)) (-1) + 1 : Int) : Rat)) ∧ (0 ≤ fl (mid a b) → ((fl (mid a b) : Int) : Rat) ≤ a ∧ ((fl (mid a b) : Int) : Rat) ≤ b) := by
  have m2 := mid2 a b
  have f1 := fl_le (mid a b)
  have f2 := lt_fl (mid a b)
  generalize mid a b = x at *
  by_cases c : 0 ≤ fl x
  · have e : maxZ (fl x) (-1) = fl x := by unfold maxZ; rw [if_neg (by omega)]
    rw [e]
    refine ⟨?_, fun _ => ?_⟩
    · rcases hs (fl x + 1) (by omega) (by omega) with z | z
      · exact z
      · constructor <;> grind
    · rcases hs (fl x) c (by omega) with z | z
      · constructor <;> grind
      · exact z
  · have e : maxZ (fl x) (-1) = -1 := by unfold maxZ; split <;> omega
    rw [e]
    refine ⟨?_, fun z => absurd z c⟩
    have hx : x < 0 := by
      have h3 : ((fl x + 1 : Int) : Rat) ≤ ((0 : Int) : Rat) := Rat.intCast_le_intCast.mpr (by omega)
      have h4 : ((0 : Int) : Rat) = 0 := rfl
      grind
    have h5 : ((-1 + 1 : Int) : Rat) = ((0 : Int) : Rat) := rfl
    rw [h5]
    have h4 : ((0 : Int) : Rat) = 0 := rfl
    rcases hs 0 (by omega) hm with z | z
    · exact z
    · rw [h4] at z ⊢; constructor <;> grind
end Pg

set_option Elab.async false
set_option linter.all false
set_option maxRecDepth 100000
namespace Pg
/-! ### pieces in a row -/
inductive Lk : Rat → List (Rat × Rat) → Rat → Prop
  | nil (p : Rat) : Lk p [] p
  | cons {p q z : Rat} {es : List (Rat × Rat)} : Lk q es z → Lk p ((p, q) :: es) z
theorem pairs_lk : ∀ (x : Rat) (r : List Rat) (z : Rat), Lk x (pairs (x :: r ++ [z])) z
  | x, [], z => .cons (.nil z)
  | x, y :: r, z => .cons (pairs_lk y r z)
theorem lk_split : ∀ {A B : List (Rat × Rat)} {s t : Rat}, Lk s (A ++ B) t → ∃ m, Lk s A m ∧ Lk m B t
  | [], B, s, t, h => ⟨s, .nil s, h⟩
  | (_, q) :: A, B, s, t, h => by
    cases h with | cons h =>
    obtain ⟨m, h1, h2⟩ := lk_split h
    exact ⟨m, .cons h1, h2⟩
theorem lk_last {A : List (Rat × Rat)} {s t : Rat} {k : Rat × Rat} (h : Lk s (A ++ [k]) t) : k.2 = t := by
  obtain ⟨m, _, h2⟩ := lk_split h
  cases h2 with | cons h => cases h; rfl
theorem pairs_sorted : ∀ {ks : List Rat}, Rising ks → (pairs ks).Pairwise fun k k' => k.2 ≤ k'.1
  | [], _ => List.Pairwise.nil
  | [x], _ => List.Pairwise.nil
  | x :: y :: r, hr => by
    have e : pairs (x :: y :: r) = (x, y) :: pairs (y :: r) := rfl
    rw [e]
    refine List.Pairwise.cons (fun k hk => ?_) (pairs_sorted hr.2)
    obtain ⟨_, h2, _, _⟩ := rising_nb hr.2 k hk
    rcases List.mem_cons.mp h2 with h | h
    · show y ≤ k.1; rw [h]; exact Rat.le_refl
    · have := rising_lt hr.2 _ h
      show y ≤ k.1
      grind
/-- a property that holds between any two that have it: one stretch -/
theorem one_stretch {α : Type} {R : α → α → Prop} {K : α → Bool} (cv : ∀ a b c, R a b → R b c → K a = true → K c = true → K b = true) : ∀ {P : List α}, P.Pairwise R →
    ∃ A B C, P = A ++ B ++ C ∧ (∀ a ∈ A, K a = false) ∧ (∀ b ∈ B, K b = true) ∧ ∀ c ∈ C, K c = false
  | [], _ => ⟨[], [], [], rfl, by simp, by simp, by simp⟩
  | k :: P, h => by
    rw [List.pairwise_cons] at h
    obtain ⟨A, B, C, e, hA, hB, hC⟩ := one_stretch cv h.2
    by_cases hk : K k = true
    · cases B with
      | nil =>
        refine ⟨[], [k], P, rfl, by simp, by simp [hk], fun c hc => ?_⟩
        rw [e] at hc
        simp only [List.append_nil, List.mem_append] at hc
        rcases hc with hc | hc
        · exact hA c hc
        · exact hC c hc
      | cons b B =>
        cases A with
        | nil => exact ⟨[], k :: b :: B, C, by rw [e]; rfl, by simp, by simp only [List.mem_cons]; rintro x (rfl | hx); exact hk; exact hB x (by simpa using hx), hC⟩
        | cons a A =>
          exfalso
          have h1 := h.1 a (by rw [e]; simp)
          have h2 : R a b := by
            have h3 := h.2
            rw [e, List.cons_append, List.cons_append, List.pairwise_cons] at h3
            exact h3.1 b (by simp)
          have := cv k a b h1 h2 hk (hB b (by simp))
          rw [hA a (by simp)] at this
          cases this
    · exact ⟨k :: A, B, C, by rw [e]; rfl, by simp only [List.mem_cons]; rintro x (rfl | hx); simpa using hk; exact hA x hx, hB, hC⟩
/-! ### along a side -/
theorem mid_x (e : Sd) (k : Rat × Rat) : mid (at_ e k.1).1 (at_ e k.2).1 = e.1.1 + mid k.1 k.2 * (e.2.1 - e.1.1) := by unfold mid at_; grind
theorem mid_y (e : Sd) (k : Rat × Rat) : mid (at_ e k.1).2 (at_ e k.2).2 = e.1.2 + mid k.1 k.2 * (e.2.2 - e.1.2) := by unfold mid at_; grind
theorem onFloor_iff {w h : Int} {e : Sd} {k : Rat × Rat} : onFloor w h e k = true ↔ 0 ≤ e.1.2 + mid k.1 k.2 * (e.2.2 - e.1.2) ∧ e.1.2 + mid k.1 k.2 * (e.2.2 - e.1.2) < (h : Rat) ∧ e.1.1 + mid k.1 k.2 * (e.2.1 - e.1.1) < (w : Rat) := by
  unfold onFloor rowQ colQ
  simp only [Bool.and_eq_true, decide_eq_true_eq]
  rw [mid_x, mid_y, le_fl_iff, fl_lt_iff, fl_lt_iff]
  have z : ((0 : Int) : Rat) = 0 := rfl
  rw [z]
  constructor
  · rintro ⟨⟨a, b⟩, c⟩; exact ⟨a, b, c⟩
  · rintro ⟨a, b, c⟩; exact ⟨⟨a, b⟩, c⟩
/-- a number between two along a way -/
theorem between_way {a d x y z : Rat} (h1 : x ≤ y) (h2 : y ≤ z) : (a + x * d ≤ a + y * d ∧ a + y * d ≤ a + z * d) ∨ (a + z * d ≤ a + y * d ∧ a + y * d ≤ a + x * d) := by
  by_cases hd : 0 ≤ d
  · have e1 := Rat.mul_le_mul_of_nonneg_left h1 hd
    have e2 := Rat.mul_le_mul_of_nonneg_left h2 hd
    left; constructor <;> grind
  · have e1 := Rat.mul_le_mul_of_nonneg_left h1 (show 0 ≤ -d by grind)
    have e2 := Rat.mul_le_mul_of_nonneg_left h2 (show 0 ≤ -d by grind)
    right; constructor <;> grind
theorem floor_convex {w h : Int} {e : Sd} (a b c : Rat × Rat) (h1 : mid a.1 a.2 ≤ mid b.1 b.2) (h2 : mid b.1 b.2 ≤ mid c.1 c.2) (ka : onFloor w h e a = true) (kc : onFloor w h e c = true) : onFloor w h e b = true := by
  rw [onFloor_iff] at ka kc ⊢
  have hx := between_way (a := e.1.1) (d := e.2.1 - e.1.1) h1 h2
  have hy := between_way (a := e.1.2) (d := e.2.2 - e.1.2) h1 h2
  refine ⟨?_, ?_, ?_⟩ <;> grind
/-- beyond a place where a line is left -/
theorem far_way {a d x y z : Rat} (h : (x < y ∧ y < z) ∨ (z < y ∧ y < x)) : (a + x * d < a + y * d → a + y * d < a + z * d) ∧ (a + y * d < a + x * d → a + z * d < a + y * d) := by
  have key : ∀ d : Rat, ((x < y ∧ y < z) ∨ (z < y ∧ y < x)) → 0 < (y - x) * d → 0 < (z - y) * d := fun d h hd => by
    rcases h with ⟨h1, h2⟩ | ⟨h1, h2⟩
    · exact Rat.mul_pos (by grind) (pos_of_mul hd (by grind))
    · have h3 : 0 < (x - y) * (-d) := by grind
      have h4 := Rat.mul_pos (show 0 < y - z by grind) (pos_of_mul h3 (by grind))
      grind
  constructor
  · intro h1
    have := key d h (by grind)
    grind
  · intro h1
    have := key (-d) h (by grind)
    grind
/-- where the pieces on the floor begin or end: on a rim beyond which the side goes on -/
def Rim (w h : Int) (m far : Pt) : Prop := (m.2 = 0 ∧ far.2 < 0) ∨ (m.1 = (w : Rat) ∧ (w : Rat) < far.1) ∨ (m.2 = (h : Rat) ∧ (h : Rat) < far.2)
theorem rim_of {w h : Int} {e : Sd} (hw : 0 ≤ w) (hh : 0 ≤ h) {k k' : Rat × Rat} {m z : Rat} (nk : Nb w h e k) (nk' : Nb w h e k') (kk : onFloor w h e k = true) (kk' : onFloor w h e k' = false)
    (hm : k.1 = m ∨ k.2 = m) (hm' : k'.1 = m ∨ k'.2 = m) (hz : (mid k.1 k.2 < mid k'.1 k'.2 ∧ mid k'.1 k'.2 < z) ∨ (z < mid k'.1 k'.2 ∧ mid k'.1 k'.2 < mid k.1 k.2)) : Rim w h (at_ e m) (at_ e z) := by
  have hk := onFloor_iff.mp kk
  have hk' : ¬ (0 ≤ e.1.2 + mid k'.1 k'.2 * (e.2.2 - e.1.2) ∧ e.1.2 + mid k'.1 k'.2 * (e.2.2 - e.1.2) < (h : Rat) ∧ e.1.1 + mid k'.1 k'.2 * (e.2.1 - e.1.1) < (w : Rat)) := fun z => by
    have := onFloor_iff.mpr z
    rw [kk'] at this; cases this
  have fy := far_way (a := e.1.2) (d := e.2.2 - e.1.2) hz
  have fx := far_way (a := e.1.1) (d := e.2.1 - e.1.1) hz
  have my := mid2 (at_ e k.1).2 (at_ e k.2).2
  have my' := mid2 (at_ e k'.1).2 (at_ e k'.2).2
  have mx := mid2 (at_ e k.1).1 (at_ e k.2).1
  have mx' := mid2 (at_ e k'.1).1 (at_ e k'.2).1
  rw [mid_y] at my my'
  rw [mid_x] at mx mx'
  have z0 : ((0 : Int) : Rat) = 0 := rfl
  have y0 := nb_y nk (z := 0) (by omega) hh
  have y0' := nb_y nk' (z := 0) (by omega) hh
  have yh := nb_y nk (z := h) hh (by omega)
  have yh' := nb_y nk' (z := h) hh (by omega)
  have xw := nb_x nk (z := w) hw (by omega)
  have xw' := nb_x nk' (z := w) hw (by omega)
  rw [z0] at y0 y0'
  have q1 : (at_ e m).2 = (at_ e k.1).2 ∨ (at_ e m).2 = (at_ e k.2).2 := by rcases hm with h | h <;> rw [h] <;> simp
  have q2 : (at_ e m).2 = (at_ e k'.1).2 ∨ (at_ e m).2 = (at_ e k'.2).2 := by rcases hm' with h | h <;> rw [h] <;> simp
  have q3 : (at_ e m).1 = (at_ e k.1).1 ∨ (at_ e m).1 = (at_ e k.2).1 := by rcases hm with h | h <;> rw [h] <;> simp
  have q4 : (at_ e m).1 = (at_ e k'.1).1 ∨ (at_ e m).1 = (at_ e k'.2).1 := by rcases hm' with h | h <;> rw [h] <;> simp
  have za : (at_ e z).1 = e.1.1 + z * (e.2.1 - e.1.1) := rfl
  have zb : (at_ e z).2 = e.1.2 + z * (e.2.2 - e.1.2) := rfl
  unfold Rim
  rw [za, zb]
  generalize (at_ e m).1 = m1 at *
  generalize (at_ e m).2 = m2 at *
  generalize (at_ e k.1).1 = a1 at *
  generalize (at_ e k.1).2 = a2 at *
  generalize (at_ e k.2).1 = b1 at *
  generalize (at_ e k.2).2 = b2 at *
  generalize (at_ e k'.1).1 = c1 at *
  generalize (at_ e k'.1).2 = c2 at *
  generalize (at_ e k'.2).1 = d1 at *
  generalize (at_ e k'.2).2 = d2 at *
  generalize e.1.1 + z * (e.2.1 - e.1.1) = zx at *
  generalize e.1.2 + z * (e.2.2 - e.1.2) = zy at *
  generalize e.1.1 + mid k.1 k.2 * (e.2.1 - e.1.1) = px at *
  generalize e.1.2 + mid k.1 k.2 * (e.2.2 - e.1.2) = py at *
  generalize e.1.1 + mid k'.1 k'.2 * (e.2.1 - e.1.1) = qx at *
  generalize e.1.2 + mid k'.1 k'.2 * (e.2.2 - e.1.2) = qy at *
  generalize (w : Rat) = W at *
  generalize (h : Rat) = H at *
  clear za zb hz nk nk' kk kk' hm hm'
  obtain ⟨k1, k2, k3⟩ := hk
  by_cases c1 : qy < 0
  · left
    refine ⟨?_, by grind⟩
    rcases y0' with y0' | y0' <;> rcases y0 with y0 | y0 <;> grind
  · by_cases c2 : W ≤ qx
    · right; left
      refine ⟨?_, by grind⟩
      rcases xw' with xw' | xw' <;> rcases xw with xw | xw <;> grind
    · right; right
      have c3 : H ≤ qy := by grind
      refine ⟨?_, by grind⟩
      rcases yh' with yh' | yh' <;> rcases yh with yh | yh <;> grind
/-! ### the law's looks -/
theorem l_spot_ok {n m : Nat} {a b : Rat} (ha : SQ n a) (hb : SQ m b) (h : n + m + 10 < 134000000) : l_spot a b = .ok (fl (mid a b)) := by
  unfold l_spot
  have sc := ha.add hb
  have hd := (a + b).den_pos
  rw [l_plus2_ok ha hb (by omega), bind_ok, bind_ok, mulR_ok (a := 2) (by decide) sc.2 (by omega), bind_ok, fdivR_ok (by omega), bind_ok, Int.fdiv_eq_ediv_of_nonneg _ (by omega)]
  congr 1
  have key : ∀ n : Int, n ≤ (a + b).num / (2 * ((a + b).den : Int)) ↔ n ≤ fl (mid a b) := fun n => by
    rw [le_fl_iff, Int.le_ediv_iff_mul_le (by omega)]
    have e : n * (2 * ((a + b).den : Int)) = (2 * n) * ((a + b).den : Int) := by rw [← Int.mul_assoc, Int.mul_comm n 2]
    rw [e, ← int_le_rat, Rat.intCast_mul]
    have m2 := mid2 a b
    have e2 : ((2 : Int) : Rat) = 2 := rfl
    rw [e2]
    constructor <;> intro z <;> grind
  have h1 := (key _).mp (Int.le_refl _)
  have h2 := (key _).mpr (Int.le_refl _)
  omega
theorem num_neg {q : Rat} (h : ¬ q < 0) : ¬ q.num < 0 := fun z => by
  have := num_ge0 (show 0 ≤ q by grind)
  omega
theorem num_pos' {q : Rat} (h : q ≤ 0) : ¬ q.num > 0 := fun z => by
  have := num_le0 h
  omega
theorem l_in_cell_ok {n : Nat} {xs : List Rat} {c : Int} (hx : ∀ x ∈ xs, SQ n x) (hc : S 20 c) (hn : n < 60000000) (h1 : ∀ x ∈ xs, x ≤ ((c + 1 : Int) : Rat)) (h2 : 0 ≤ c → ∀ x ∈ xs, (c : Rat) ≤ x) : l_in_cell xs c = .ok true := by
  unfold l_in_cell
  have sc : S 21 (c + 1) := (hc.add (b := 1) (by decide)).mono (by decide)
  rw [forX_all (fun x hm => ?_), bind_ok, caseX_l]
  have s := hx x hm
  rw [mkQ_int, bind_ok, l_minus2_ok s (SQ_int sc (by decide)) (by omega), bind_ok, decide_eq_false (num_pos' (by have := h1 x hm; grind)), orR_f]
  by_cases c0 : 0 ≤ c
  · rw [decide_eq_true (show c ≥ 0 from c0), andR_t, mkQ_int, bind_ok, l_minus2_ok s (SQ_int hc (by decide)) (by omega), bind_ok, bind_ok, bind_ok, decide_eq_false (num_neg (by have := h2 c0 x hm; grind))]
    rfl
  · rw [decide_eq_false (show ¬ c ≥ 0 from c0), andR_f, bind_ok, bind_ok]
    rfl
/-- a way of a share of the side's -/
theorem l_along_ok {n m : Nat} {u v : Pt} {r : Rat} (hu : SP n u) (hv : SP m v) (h : 4 * n + 4 * m + 10 < 134000000) (h1 : u.1 = r * v.1) (h2 : u.2 = r * v.2) (hr : 0 ≤ r) : l_along u v = .ok true := by
  unfold l_along
  rw [l_times2_ok hu.1 hv.2 (by omega), bind_ok, l_times2_ok hu.2 hv.1 (by omega), bind_ok, l_minus2_ok (hu.1.mul hv.2) (hu.2.mul hv.1) (by omega), bind_ok, bind_ok, l_times2_ok hu.1 hv.1 (by omega), bind_ok, l_times2_ok hu.2 hv.2 (by omega), bind_ok, l_plus2_ok (hu.1.mul hv.1) (hu.2.mul hv.2) (by omega), bind_ok, bind_ok]
  have e1 : u.1 * v.2 - u.2 * v.1 = 0 := by rw [h1, h2]; grind
  have e2 : 0 ≤ u.1 * v.1 + u.2 * v.2 := by
    have a1 := Rat.mul_nonneg hr (sq_nn v.1)
    have a2 := Rat.mul_nonneg hr (sq_nn v.2)
    rw [h1, h2]; grind
  have e3 : (u.1 * v.1 + u.2 * v.2).num ≥ 0 := num_ge0 e2
  rw [e1, decide_eq_true e3]
  rfl
theorem l_way_ok {n m : Nat} {u v : Pt} (hu : SP n u) (hv : SP m v) (h : n + m < 134000000) : l_way u v = .ok (v.1 - u.1, v.2 - u.2) := by
  unfold l_way
  rw [l_minus2_ok hv.1 hu.1 (by omega), bind_ok, l_minus2_ok hv.2 hu.2 (by omega), bind_ok]
theorem rat_gt_int (n : Int) (q : Rat) : (n : Rat) < q ↔ q.num > n * (q.den : Int) := by
  have := int_le_rat
  have h := Rat.lt_iff (n : Rat) q
  rw [h, Rat.num_intCast, Rat.den_intCast]
  simp
theorem num_lt0 (q : Rat) : q < 0 ↔ q.num < 0 := by rw [Rat.lt_iff]; simp
theorem l_rim_ok {n : Nat} {p z : Pt} {w h : Int} (hz : SP n z) (hw : S 10 w) (hh : S 10 h) (hn : n < 60000000) (hr : p = z ∨ Rim w h p z) : l_rim p z (w, h) = .ok true := by
  unfold l_rim
  by_cases e : p = z
  · rw [decide_eq_true e, if_ok_t]
  · rw [decide_eq_false e, if_ok_f, mkQ_zero, bind_ok, mkQ_int, bind_ok, mulR_ok hw hz.1.2 (by omega), bind_ok, mkQ_int, bind_ok, mulR_ok hh hz.2.2 (by omega), bind_ok]
    have hr := hr.resolve_left e
    show R.bind (R.orR (decide (p.2 = 0) && decide (z.2.num < 0)) (R.bind (R.andR (decide (p.1 = (w : Rat))) (R.ok (decide (z.1.num > w * (z.1.den : Int))))) fun b7 => R.ok b7)) (fun b8 => if b8 = true then R.ok true else R.bind (R.andR (decide (p.2 = (h : Rat))) (R.ok (decide (z.2.num > h * (z.2.den : Int))))) fun b11 => R.ok b11) = _
    rcases hr with ⟨a, b⟩ | ⟨a, b⟩ | ⟨a, b⟩
    · rw [decide_eq_true a, decide_eq_true ((num_lt0 _).mp b)]; rfl
    · rw [decide_eq_true a, decide_eq_true ((rat_gt_int _ _).mp b)]
      cases (decide (p.2 = 0) && decide (z.2.num < 0)) <;> rfl
    · rw [decide_eq_true a, decide_eq_true ((rat_gt_int _ _).mp b)]
      cases (decide (p.2 = 0) && decide (z.2.num < 0)) <;> cases (decide (p.1 = (w : Rat))) <;> cases (decide (z.1.num > w * (z.1.den : Int))) <;> rfl
theorem fl_S {n : Nat} {q : Rat} (h : SQ n q) : S n (fl q) := S_ediv (by have := q.den_pos; omega) h.1
theorem l_piece_ok {n : Nat} {w h : Int} {e : Sd} {k : Rat × Rat} (hp : SP n e.1) (hq : SP n e.2) (he : e.1 ≠ e.2) (hw0 : 0 ≤ w) (hw : w ≤ 40) (hh0 : 0 ≤ h) (hh : h ≤ 40) (hn : 14 * n + 60 < 6000000) (nb : Nb w h e k) (on : onFloor w h e k = true) :
    l_piece_good (pieceOf e k) (w, h) (e.2.1 - e.1.1, e.2.2 - e.1.2) = .ok true := by
  have s1 := SP_knot hp hq hw hh nb.m1
  have s2 := SP_knot hp hq hw hh nb.m2
  have on2 := on
  unfold onFloor at on2
  simp only [Bool.and_eq_true, decide_eq_true_eq] at on2
  obtain ⟨⟨o1, o2⟩, o3⟩ := on2
  have cx := in_cell (fun z z0 z1 => nb_x nb z0 z1) (show fl (mid (at_ e k.1).1 (at_ e k.2).1) < w from o3) hw0
  have cy := in_cell (fun z z0 z1 => nb_y nb z0 z1) (show fl (mid (at_ e k.1).2 (at_ e k.2).2) < h from o2) hh0
  have ne : at_ e k.1 ≠ at_ e k.2 := fun z => by
    have z1 : e.1.1 + k.1 * (e.2.1 - e.1.1) = e.1.1 + k.2 * (e.2.1 - e.1.1) := congrArg Prod.fst z
    have z2 : e.1.2 + k.1 * (e.2.2 - e.1.2) = e.1.2 + k.2 * (e.2.2 - e.1.2) := congrArg Prod.snd z
    have hk := nb.lt
    have y1 : (k.2 - k.1) * (e.2.1 - e.1.1) = 0 := by grind
    have y2 : (k.2 - k.1) * (e.2.2 - e.1.2) = 0 := by grind
    refine he (Prod.ext ?_ ?_)
    · rcases mul_eq0 y1 with z | z <;> grind
    · rcases mul_eq0 y2 with z | z <;> grind
  have hc : maxZ (colQ e k) (-1) = if colQ e k < -1 then -1 else colQ e k := rfl
  have hc2 : maxZ (-1) (colQ e k) = maxZ (colQ e k) (-1) := by unfold maxZ; split <;> split <;> omega
  have c1 : -1 ≤ maxZ (colQ e k) (-1) := by unfold maxZ; split <;> omega
  have c2 : maxZ (colQ e k) (-1) < w := by rw [hc]; split <;> omega
  unfold l_piece_good pieceOf
  show R.bind (R.orR (!true) _) _ = _
  have e0 : R.orR (!true) (R.bind (R.orR ((!decide ((4 : Int) = (4 : Int)))) (R.bind (l_whole (maxZ (colQ e k) (-1))) fun w4 => R.bind (R.orR ((!w4)) (R.bind (l_whole (rowQ e k)) fun w5 => R.ok ((!w5)))) fun b6 => R.ok b6)) fun b7 => R.ok b7) = R.ok false := by
    rw [show (!decide ((4 : Int) = (4 : Int))) = false by decide]; rfl
  rw [e0, bind_ok, if_ok_f, bind_ok, catR_ok (by simp), bind_ok, forX_all (fun x hx => by rw [l_is2_ok, bind_ok]; rfl), bind_ok, caseX_l]
  have t1 : (decide (maxZ (colQ e k) (-1) < -1) || (decide (maxZ (colQ e k) (-1) ≥ w) || (decide (rowQ e k < 0) || (decide (rowQ e k ≥ h) || decide (at_ e k.1 = at_ e k.2))))) = false := by
    rw [decide_eq_false (show ¬ maxZ (colQ e k) (-1) < -1 by omega), decide_eq_false (show ¬ maxZ (colQ e k) (-1) ≥ w by omega), decide_eq_false (show ¬ rowQ e k < 0 by omega), decide_eq_false (show ¬ rowQ e k ≥ h by omega), decide_eq_false ne]; rfl
  show (if (decide (maxZ (colQ e k) (-1) < -1) || (decide (maxZ (colQ e k) (-1) ≥ w) || (decide (rowQ e k < 0) || (decide (rowQ e k ≥ h) || decide (at_ e k.1 = at_ e k.2))))) = true then _ else _) = _
  rw [t1, if_ok_f, l_spot_ok s1.1 s2.1 (by omega), bind_ok, l_spot_ok s1.2 s2.2 (by omega), bind_ok]
  have t2 : R.orR (!decide (maxZ (-1) (fl (mid (at_ e k.1).1 (at_ e k.2).1)) = maxZ (colQ e k) (-1))) (R.ok (!decide (fl (mid (at_ e k.1).2 (at_ e k.2).2) = rowQ e k))) = R.ok false := by
    rw [show maxZ (-1) (fl (mid (at_ e k.1).1 (at_ e k.2).1)) = maxZ (colQ e k) (-1) from hc2, decide_eq_true rfl, show fl (mid (at_ e k.1).2 (at_ e k.2).2) = rowQ e k from rfl, decide_eq_true rfl]; rfl
  rw [t2, bind_ok, if_ok_f]
  have sc : S 20 (maxZ (colQ e k) (-1)) := by unfold S; omega
  have sr : S 20 (rowQ e k) := by unfold S; omega
  have ic1 : l_in_cell [(at_ e k.1).1, (at_ e k.2).1] (maxZ (colQ e k) (-1)) = .ok true := l_in_cell_ok (n := 6 * n + 10) (fun x hx => by simp at hx; rcases hx with rfl | rfl; exact s1.1; exact s2.1) sc (by omega) (fun x hx => by
      simp at hx; rcases hx with rfl | rfl; exact cx.1.1; exact cx.1.2) (fun c0 x hx => by
      have cc : 0 ≤ fl (mid (at_ e k.1).1 (at_ e k.2).1) := by
        show 0 ≤ colQ e k
        rw [hc] at c0; split at c0 <;> omega
      have ec : maxZ (colQ e k) (-1) = fl (mid (at_ e k.1).1 (at_ e k.2).1) := by
        rw [hc, if_neg (by show ¬ fl _ < -1; omega)]; rfl
      rw [ec]
      simp at hx; rcases hx with rfl | rfl; exact (cx.2 cc).1; exact (cx.2 cc).2)
  have er : maxZ (fl (mid (at_ e k.1).2 (at_ e k.2).2)) (-1) = rowQ e k := by unfold maxZ; rw [if_neg (by show ¬ -1 > rowQ e k; omega)]; rfl
  have cy1 := cy.1
  rw [er] at cy1
  have ic2 : l_in_cell [(at_ e k.1).2, (at_ e k.2).2] (rowQ e k) = .ok true := l_in_cell_ok (n := 6 * n + 10) (fun x hx => by simp at hx; rcases hx with rfl | rfl; exact s1.2; exact s2.2) sr (by omega) (fun x hx => by
      simp at hx; rcases hx with rfl | rfl; exact cy1.1; exact cy1.2) (fun c0 x hx => by
      simp at hx; rcases hx with rfl | rfl; exact (cy.2 c0).1; exact (cy.2 c0).2)
  rw [ic1, bind_ok, ic2]
  have e9 : R.orR (!true) (R.bind (R.ok true) fun i21 => R.ok (!i21)) = R.ok false := rfl
  rw [e9, bind_ok, if_ok_f, l_way_ok s1 s2 (by omega), bind_ok]
  have hv : SP (2 * n + 1) (e.2.1 - e.1.1, e.2.2 - e.1.2) := ⟨(hq.1.sub hp.1).mono (by omega), (hq.2.sub hp.2).mono (by omega)⟩
  have hu : SP (12 * n + 21) ((at_ e k.2).1 - (at_ e k.1).1, (at_ e k.2).2 - (at_ e k.1).2) := ⟨(s2.1.sub s1.1).mono (by omega), (s2.2.sub s1.2).mono (by omega)⟩
  have hk := nb.lt
  rw [l_along_ok (r := k.2 - k.1) hu hv (by omega) (by unfold at_; grind) (by unfold at_; grind) (by grind), bind_ok]
/-! ### the loop over the pieces -/
theorem l_loop_ok {n : Nat} {w h : Int} {e : Sd} (hp : SP n e.1) (hq : SP n e.2) (he : e.1 ≠ e.2) (hw0 : 0 ≤ w) (hw : w ≤ 40) (hh0 : 0 ≤ h) (hh : h ≤ 40) (hn : 14 * n + 60 < 6000000) : ∀ {B : List (Rat × Rat)} {s t : Rat}, Lk s B t → (∀ k ∈ B, Nb w h e k ∧ onFloor w h e k = true) →
    R.forX (fun (x8 : (Int × Int × (Rat × Rat) × (Rat × Rat))) (s9 : (Rat × Rat)) => (R.bind (l_piece_good x8 (w, h) (e.2.1 - e.1.1, e.2.2 - e.1.2)) fun p10 => if ((!p10) || (!decide (x8.2.2.1 = s9))) = true then (R.ok (Sum.inr false)) else (R.bind (R.ok x8.2.2.2) fun at11 => R.ok (Sum.inl at11)) : R (Sum ((Rat × Rat)) Bool))) (B.map (pieceOf e)) (at_ e s) = .ok (.inl (at_ e t))
  | [], _, _, h, _ => by cases h; rfl
  | (u, q) :: B, s, t, h, hB => by
    cases h with | cons h =>
    have hk := hB (u, q) (by simp)
    rw [List.map_cons]
    unfold R.forX
    rw [l_piece_ok hp hq he hw0 hw hh0 hh hn hk.1 hk.2, bind_ok]
    have e1 : (pieceOf e (u, q)).2.2.1 = at_ e u := rfl
    have e2 : (pieceOf e (u, q)).2.2.2 = at_ e q := rfl
    rw [e1, e2, decide_eq_true rfl]
    exact l_loop_ok hp hq he hw0 hw hh0 hh hn h fun k hk => hB k (List.mem_cons_of_mem _ hk)
theorem mid_lt {k : Rat × Rat} (h : k.1 < k.2) : k.1 < mid k.1 k.2 ∧ mid k.1 k.2 < k.2 := by
  have := mid2 k.1 k.2
  constructor <;> grind
theorem flat_filter {α β : Type} {f : α → β} {K : α → Bool} (P : List α) : (P.flatMap fun k => if K k = true then [f k] else []) = (P.filter K).map f := by
  induction P with
  | nil => rfl
  | cons k P ih =>
    rw [List.flatMap_cons, ih, List.filter_cons]
    by_cases h : K k = true
    · rw [if_pos h, if_pos h]; rfl
    · rw [if_neg h, if_neg h]; rfl
theorem filter_all {α : Type} {K : α → Bool} {P : List α} (h : ∀ a ∈ P, K a = true) : P.filter K = P := List.filter_eq_self.mpr h
theorem filter_none {α : Type} {K : α → Bool} {P : List α} (h : ∀ a ∈ P, K a = false) : P.filter K = [] := List.filter_eq_nil_iff.mpr fun a ha => by rw [h a ha]; decide
/-- the pieces of a side: one stretch of its parts -/
theorem pieces_stretch {w h : Int} {e : Sd} (he : e.1 ≠ e.2) : ∃ A B C m1 m2, pairs (knots w h e) = A ++ B ++ C ∧ piecesQ w h e = B.map (pieceOf e) ∧ Lk 0 A m1 ∧ Lk m1 B m2 ∧ Lk m2 C 1 ∧ (∀ k ∈ A, onFloor w h e k = false) ∧ (∀ k ∈ B, onFloor w h e k = true) ∧ (∀ k ∈ C, onFloor w h e k = false) := by
  have srt : (pairs (knots w h e)).Pairwise fun k k' => mid k.1 k.2 ≤ mid k'.1 k'.2 := by
    have h1 := pairs_sorted (knots_rising w h e)
    refine List.Pairwise.imp_of_mem ?_ h1
    intro a b ha hb h2
    have a1 := mid_lt (nb_of ha).lt
    have b1 := mid_lt (nb_of hb).lt
    grind
  obtain ⟨A, B, C, e1, hA, hB, hC⟩ := one_stretch (K := onFloor w h e) (fun a b c h1 h2 ka kc => floor_convex a b c h1 h2 ka kc) srt
  have lk : Lk 0 (pairs (knots w h e)) 1 := pairs_lk 0 (innerQ w h e) 1
  rw [e1] at lk
  obtain ⟨m2, l1, l3⟩ := lk_split lk
  obtain ⟨m1, l1, l2⟩ := lk_split l1
  refine ⟨A, B, C, m1, m2, e1, ?_, l1, l2, l3, hA, hB, hC⟩
  unfold piecesQ
  rw [if_neg he]
  have := flat_filter (f := pieceOf e) (K := onFloor w h e) (pairs (knots w h e))
  have e2 : (pairs (knots w h e)).flatMap (pieceE w h e) = ((pairs (knots w h e)).filter (onFloor w h e)).map (pieceOf e) := this
  rw [e2, e1, List.filter_append, List.filter_append, filter_none hA, filter_all hB, filter_none hC, List.nil_append, List.append_nil]
theorem lk_eq : ∀ {A : List (Rat × Rat)} {s t : Rat}, Lk s A t → A = [] → s = t
  | _, _, _, .nil _, _ => rfl
theorem l_good3_ok {n : Nat} {w h : Int} {e : Sd} (hp : SP n e.1) (hq : SP n e.2) (hw0 : 0 ≤ w) (hw : w ≤ 40) (hh0 : 0 ≤ h) (hh : h ≤ 40) (hn : 14 * n + 60 < 6000000) : l_good_3 (piecesQ w h e) (w, h) e = .ok true := by
  unfold l_good_3
  rw [Bool.not_true, if_ok_f]
  by_cases he : e.1 = e.2
  · have e0 : piecesQ w h e = [] := by unfold piecesQ; rw [if_pos he]
    rw [e0, decide_eq_true he]; rfl
  · obtain ⟨A, B, C, m1, m2, e1, e2, l1, l2, l3, hA, hB, hC⟩ := pieces_stretch (w := w) (h := h) he
    rw [e2, decide_eq_false he]
    cases B with
    | nil => rfl
    | cons k B =>
      have nbs : ∀ k ∈ pairs (knots w h e), Nb w h e k := fun k hk => nb_of hk
      have inB : ∀ k' ∈ k :: B, Nb w h e k' := fun k' hk => nbs k' (by rw [e1]; simp only [List.mem_append]; exact .inl (.inr hk))
      have k1 : k.1 = m1 := by cases l2; rfl
      have s1 : SP (6 * n + 10) (at_ e m1) := by rw [← k1]; exact SP_knot hp hq hw hh (inB k (by simp)).m1
      -- the last one of the stretch
      obtain ⟨B0, kz, eB⟩ : ∃ B0 kz, k :: B = B0 ++ [kz] := ⟨(k :: B).dropLast, (k :: B).getLast (by simp), (List.dropLast_concat_getLast (by simp)).symm⟩
      have kz2 : kz.2 = m2 := lk_last (A := B0) (s := m1) (by rw [← eB]; exact l2)
      have kzB : kz ∈ k :: B := by rw [eB]; simp
      have s2 : SP (6 * n + 10) (at_ e m2) := by rw [← kz2]; exact SP_knot hp hq hw hh (inB kz kzB).m2
      have hv : SP (2 * n + 1) (e.2.1 - e.1.1, e.2.2 - e.1.2) := ⟨(hq.1.sub hp.1).mono (by omega), (hq.2.sub hp.2).mono (by omega)⟩
      have hu1 : SP (7 * n + 11) ((at_ e m1).1 - e.1.1, (at_ e m1).2 - e.1.2) := ⟨(s1.1.sub hp.1).mono (by omega), (s1.2.sub hp.2).mono (by omega)⟩
      have hu2 : SP (7 * n + 11) (e.2.1 - (at_ e m2).1, e.2.2 - (at_ e m2).2) := ⟨(hq.1.sub s2.1).mono (by omega), (hq.2.sub s2.2).mono (by omega)⟩
      have m1ge : 0 ≤ m1 := by rw [← k1]; exact (inB k (by simp)).ge
      have m2le : m2 ≤ 1 := by rw [← kz2]; exact (inB kz kzB).le
      have r1 : at_ e m1 = e.1 ∨ Rim w h (at_ e m1) e.1 := by
        by_cases hA0 : A = []
        · left; rw [← lk_eq l1 hA0, at_zero]
        · right
          obtain ⟨A0, ka, eA⟩ : ∃ A0 ka, A = A0 ++ [ka] := ⟨A.dropLast, A.getLast hA0, (List.dropLast_concat_getLast hA0).symm⟩
          have ka2 : ka.2 = m1 := lk_last (A := A0) (s := 0) (by rw [← eA]; exact l1)
          have kaA : ka ∈ A := by rw [eA]; simp
          have na := nbs ka (by rw [e1]; simp only [List.mem_append]; exact .inl (.inl kaA))
          have nk := inB k (by simp)
          have q1 := mid_lt na.lt
          have q2 := mid_lt nk.lt
          have := rim_of (z := 0) (m := m1) hw0 hh0 nk na (hB k (by simp)) (hA ka kaA) (.inl k1) (.inr ka2) (.inr ⟨by have := na.ge; grind, by rw [k1] at q2; rw [ka2] at q1; grind⟩)
          rw [at_zero] at this
          exact this
      have r2 : at_ e m2 = e.2 ∨ Rim w h (at_ e m2) e.2 := by
        cases C with
        | nil => left; rw [lk_eq l3 rfl, at_one]
        | cons kc C =>
          right
          have kc1 : kc.1 = m2 := by cases l3; rfl
          have nc := nbs kc (by rw [e1]; simp)
          have nk := inB kz kzB
          have q1 := mid_lt nc.lt
          have q2 := mid_lt nk.lt
          have := rim_of (z := 1) (m := m2) hw0 hh0 nk nc (hB kz kzB) (hC kc (by simp)) (.inr kz2) (.inl kc1) (.inl ⟨by rw [kz2] at q2; rw [kc1] at q1; grind, by have := nc.le; grind⟩)
          rw [at_one] at this
          exact this
      have sw : S 10 w := by unfold S; omega
      have sh : S 10 h := by unfold S; omega
      have e4 : (pieceOf e k).2.2.1 = at_ e m1 := by show at_ e k.1 = _; rw [k1]
      show (if (false || decide ((((k :: B).map (pieceOf e)).length : Int) = 0)) = true then _ else _) = _
      rw [show (false || decide ((((k :: B).map (pieceOf e)).length : Int) = 0)) = false by simp; omega, if_ok_f, l_way_ok hp hq (by omega), bind_ok, bind_ok]
      have a0 : atR ((k :: B).map (pieceOf e)) 0 = .ok (pieceOf e k) := atR_nat (k := 0) rfl
      rw [a0, bind_ok, bind_ok, e4, l_loop_ok hp hq he hw0 hw hh0 hh hn l2 (fun k hk => ⟨inB k hk, hB k hk⟩), bind_ok, caseX_l, bind_ok, e4, l_way_ok hp s1 (by omega), bind_ok, l_along_ok (r := m1) hu1 hv (by omega) (by unfold at_; grind) (by unfold at_; grind) m1ge, bind_ok,
        l_way_ok s2 hq (by omega), bind_ok, l_along_ok (r := 1 - m2) hu2 hv (by omega) (by unfold at_; grind) (by unfold at_; grind) (by grind), bind_ok]
      show R.bind (R.ok false) _ = _
      rw [bind_ok, if_ok_f, bind_ok, e4, l_rim_ok hp sw sh (by omega) r1, bind_ok, l_rim_ok hq sw sh (by omega) r2]
      rfl
theorem l_floor_ok (c : Int) : Ok (l_floor c) (fun f => 0 < f.1 ∧ f.1 ≤ 12 ∧ 0 < f.2 ∧ f.2 ≤ 12) := by
  unfold l_floor
  have a1 := Int.emod_nonneg (c / 8) (show (12 : Int) ≠ 0 by decide)
  have a2 := Int.emod_lt_of_pos (c / 8) (show (0 : Int) < 12 by decide)
  have a3 := Int.emod_nonneg (c / 96) (show (12 : Int) ≠ 0 by decide)
  have a4 := Int.emod_lt_of_pos (c / 96) (show (0 : Int) < 12 by decide)
  have a5 := Int.emod_nonneg (c / 8) (show (4 : Int) ≠ 0 by decide)
  have a6 := Int.emod_lt_of_pos (c / 8) (show (0 : Int) < 4 by decide)
  have a7 := Int.emod_nonneg (c / 32) (show (4 : Int) ≠ 0 by decide)
  have a8 := Int.emod_lt_of_pos (c / 32) (show (0 : Int) < 4 by decide)
  refine .ite (fun _ => .pure ?_) fun _ => .pure ?_
  · exact ⟨by show 0 < 1 + c / 8 % 12; omega, by show 1 + c / 8 % 12 ≤ 12; omega, by show 0 < 1 + c / 96 % 12; omega, by show 1 + c / 96 % 12 ≤ 12; omega⟩
  · exact ⟨by show 0 < 1 + c / 8 % 4; omega, by show 1 + c / 8 % 4 ≤ 12; omega, by show 0 < 1 + c / 32 % 4; omega, by show 1 + c / 32 % 4 ≤ 12; omega⟩
theorem l_side_ok {ns : List Int} (hb : Bits ns) {a c : Int} (h0 : 0 ≤ a) (h1 : a < 1000) : Ok (l_side ns a c) (fun e => SP 50 e.1 ∧ SP 50 e.2) := by
  unfold l_side
  refine .bind (l_at_ok hb (by omega) (by omega)) fun p1 h1 => .bind (l_at_ok hb (by omega) (by omega)) fun p2 h2 => .one (.bind (l_at_ok hb (by omega) (by omega)) fun q1 h3 => .bind (l_at_ok hb (by omega) (by omega)) fun q2 h4 => .one ?_)
  refine .bind (P := SP 50) (.ite (fun _ => .one (.pure ⟨h1, h4⟩)) fun _ => .pure ⟨h3, h4⟩) fun q hq => ?_
  refine .bind (P := SP 50) (.ite (fun _ => .one (.pure ⟨hq.1, h2⟩)) fun _ => .pure hq) fun q hq => ?_
  refine .bind (P := SP 50) (.iteB (fun _ => .one (.pure ⟨h1, h2⟩)) fun _ => .pure hq) fun q hq => .pure ⟨⟨h1, h2⟩, hq⟩
theorem piecesQ_len {w h : Int} (e : Sd) (hw0 : 0 ≤ w) (hw : w ≤ 40) (hh0 : 0 ≤ h) (hh : h ≤ 40) : (piecesQ w h e).length ≤ 100 := by
  unfold piecesQ
  split
  · simp
  · have l := (knots_len e hw0 hw hh0 hh).2
    have e2 : (pairs (knots w h e)).flatMap (pieceE w h e) = ((pairs (knots w h e)).filter (onFloor w h e)).map (pieceOf e) := flat_filter (f := pieceOf e) (K := onFloor w h e) (pairs (knots w h e))
    rw [e2, List.length_map]
    have h1 := List.length_filter_le (onFloor w h e) (pairs (knots w h e))
    rw [pairs_len] at h1
    omega
theorem k12_ok : ∀ ns : List Int, ns.length ≤ 63 → (∀ z ∈ ns, z.natAbs.log2 ≤ 1048576) → k12_law ns = .ok true := fun ns hl hb => by
  unfold k12_law
  obtain ⟨c0, e0, _⟩ := l_cell_ok hb (k := 0) (by decide) (by decide)
  obtain ⟨c1, e1, _⟩ := l_cell_ok hb (k := 1) (by decide) (by decide)
  refine Ok.true (.step e0 (.bind (l_floor_ok c0) fun f hf => .one (.step (rngR_ok (by decide) (by decide) (by decide) (by decide)) (.caseU (.forU fun x hx => ?_) (.pure rfl)))))
  have hx := rng_mem hx
  obtain ⟨w, h⟩ := f
  obtain ⟨f1, f2, f3, f4⟩ := hf
  have f1 : 0 < w := f1
  have f2 : w ≤ 12 := f2
  have f3 : 0 < h := f3
  have f4 : h ≤ 12 := f4
  refine .step (mulR_ok (a := 3) (b := 10) (by decide) (by unfold S; omega) (by decide)) (.step e1 (.bind (at_all (P := fun z : Int => z ≠ 0) (xs := [1, 12, 144]) (fun z hz => by simp at hz; omega) hx.1 (by simpa using hx.2)) fun z hz => .step (fdivR_ok hz) ?_))
  refine .bind (l_side_ok hb (by omega) (by omega)) fun e he => .one (.step (p_pieces_ok he.1 he.2 (by omega) (by omega) (by omega) (by omega) (by decide)) (.one (.step (l_good3_ok he.1 he.2 (by omega) (by omega) (by omega) (by omega) (by decide)) ?_)))
  rw [Bool.not_true, if_ok_f]
  have pl := piecesQ_len (w := w) (h := h) e (by omega) (by omega) (by omega) (by omega)
  refine .one (.step (show roomR (piecesQ w h e) = .ok () by unfold roomR; rw [if_pos (by omega)]) (.step (p_pieces_ok he.1 he.2 (by omega) (by omega) (by omega) (by omega) (by decide)) ?_))
  rw [decide_eq_true rfl]
  exact .pure rfl
end Pg

set_option Elab.async false
set_option linter.all false
set_option maxRecDepth 100000
namespace Pg
/-! ### over one bottom -/
def scl (x : Rat) (b : Int) : Int := (x.num * b).fdiv (x.den : Int)
theorem num_eq13 (q : Rat) : (q.num : Rat) = q * ((q.den : Int) : Rat) := by
  have h : ((q.num : Int) : Rat) / ((q.den : Int) : Rat) = q := by rw [← Rat.divInt_eq_div, Rat.num_divInt_den]
  have hd : ((q.den : Int) : Rat) ≠ 0 := by
    rw [Ne, Rat.intCast_eq_zero_iff]
    have := q.den_nz; omega
  have h2 := (Rat.div_mul_cancel (a := ((q.num : Int) : Rat)) hd).symm
  rw [h] at h2
  exact h2
theorem scl_eq {x : Rat} {b : Int} (h : (x.den : Int) ∣ b) : ((scl x b : Int) : Rat) = (b : Rat) * x := by
  obtain ⟨k, rfl⟩ := h
  have hd := x.den_pos
  unfold scl
  rw [Int.fdiv_eq_ediv_of_nonneg _ (by omega), show x.num * ((x.den : Int) * k) = (x.den : Int) * (x.num * k) by rw [← Int.mul_assoc, Int.mul_comm x.num, Int.mul_assoc], Int.mul_ediv_cancel_left _ (by omega), Rat.intCast_mul, Rat.intCast_mul, num_eq13 x]
  grind
theorem scl_S {x : Rat} {b : Int} (hx : SQ 50 x) (hb : S 200 b) : S 250 (scl x b) := by
  have hd := x.den_pos
  unfold scl
  rw [Int.fdiv_eq_ediv_of_nonneg _ (by omega)]
  exact S_ediv (by omega) (hx.1.mul hb)
structure Sc (e : Sd) (b P1 P2 Q1 Q2 : Int) : Prop where
  hb : 0 < b
  sb : S 200 b
  p1 : (P1 : Rat) = (b : Rat) * e.1.1
  p2 : (P2 : Rat) = (b : Rat) * e.1.2
  q1 : (Q1 : Rat) = (b : Rat) * e.2.1
  q2 : (Q2 : Rat) = (b : Rat) * e.2.2
  s1 : S 250 P1
  s2 : S 250 P2
  s3 : S 250 Q1
  s4 : S 250 Q2
theorem l_scaled2_ok {e : Sd} (hp : SP 50 e.1) (hq : SP 50 e.2) : ∃ b P1 P2 Q1 Q2, l_scaled_2 e = .ok (b, [P1, P2], [Q1, Q2]) ∧ Sc e b P1 P2 Q1 Q2 := by
  obtain ⟨⟨a, c⟩, ⟨d, f⟩⟩ := e
  have da := a.den_pos
  have dc := c.den_pos
  have dd := d.den_pos
  have df := f.den_pos
  have sb : S 200 ((a.den : Int) * (c.den : Int) * (d.den : Int) * (f.den : Int)) := (((hp.1.2.mul hp.2.2).mul hq.1.2).mul hq.2.2).mono (by decide)
  have d1 : (a.den : Int) ∣ (a.den : Int) * (c.den : Int) * (d.den : Int) * (f.den : Int) := ⟨(c.den : Int) * (d.den : Int) * (f.den : Int), by simp only [Int.mul_assoc]⟩
  have d2 : (c.den : Int) ∣ (a.den : Int) * (c.den : Int) * (d.den : Int) * (f.den : Int) := ⟨(a.den : Int) * (d.den : Int) * (f.den : Int), by rw [Int.mul_comm (a.den : Int)]; simp only [Int.mul_assoc]⟩
  have d3 : (d.den : Int) ∣ (a.den : Int) * (c.den : Int) * (d.den : Int) * (f.den : Int) := ⟨(a.den : Int) * (c.den : Int) * (f.den : Int), by rw [Int.mul_comm _ (d.den : Int), Int.mul_assoc]⟩
  have d4 : (f.den : Int) ∣ (a.den : Int) * (c.den : Int) * (d.den : Int) * (f.den : Int) := ⟨_, Int.mul_comm _ _⟩
  have pb : 0 < (a.den : Int) * (c.den : Int) * (d.den : Int) * (f.den : Int) := Int.mul_pos (Int.mul_pos (Int.mul_pos (by omega) (by omega)) (by omega)) (by omega)
  have m1 : mulR (a.den : Int) (c.den : Int) = .ok ((a.den : Int) * (c.den : Int)) := mulR_ok hp.1.2 hp.2.2 (by decide)
  have m2 : mulR ((a.den : Int) * (c.den : Int)) (d.den : Int) = .ok ((a.den : Int) * (c.den : Int) * (d.den : Int)) := mulR_ok (hp.1.2.mul hp.2.2) hq.1.2 (by decide)
  have m3 : mulR ((a.den : Int) * (c.den : Int) * (d.den : Int)) (f.den : Int) = .ok ((a.den : Int) * (c.den : Int) * (d.den : Int) * (f.den : Int)) := mulR_ok ((hp.1.2.mul hp.2.2).mul hq.1.2) hq.2.2 (by decide)
  generalize hB : (a.den : Int) * (c.den : Int) * (d.den : Int) * (f.den : Int) = b at *
  have one : ∀ x : Rat, SQ 50 x → (R.bind (mulR x.num b) fun p7 => R.bind (fdivR p7 ((x.den : Int))) fun q8 => R.ok q8) = .ok (scl x b) := fun x sx => by
    have := x.den_pos
    rw [mulR_ok sx.1 sb (by decide), bind_ok, fdivR_ok (by omega), bind_ok]; rfl
  refine ⟨b, scl a b, scl c b, scl d b, scl f b, ?_, pb, sb, scl_eq d1, scl_eq d2, scl_eq d3, scl_eq d4, scl_S hp.1 sb, scl_S hp.2 sb, scl_S hq.1 sb, scl_S hq.2 sb⟩
  unfold l_scaled_2
  simp only
  rw [m1, bind_ok, m2, bind_ok, m3, bind_ok, bind_ok]
  have c1 : R.compR (fun x6 : Rat => R.bind (mulR x6.num b) fun p7 => R.bind (fdivR p7 ((x6.den : Int))) fun q8 => R.ok q8) [a, c] = .ok [scl a b, scl c b] := compR_ok (by simp) (mapR_ok (g := fun x => scl x b) fun x hx => one x (by
    simp only [List.mem_cons, List.not_mem_nil, or_false] at hx
    rcases hx with rfl | rfl
    · exact hp.1
    · exact hp.2))
  have c2 : R.compR (fun x6 : Rat => R.bind (mulR x6.num b) fun p7 => R.bind (fdivR p7 ((x6.den : Int))) fun q8 => R.ok q8) [d, f] = .ok [scl d b, scl f b] := compR_ok (by simp) (mapR_ok (g := fun x => scl x b) fun x hx => one x (by
    simp only [List.mem_cons, List.not_mem_nil, or_false] at hx
    rcases hx with rfl | rfl
    · exact hq.1
    · exact hq.2))
  rw [c1, bind_ok, bind_ok, c2, bind_ok, bind_ok]
/-! ### the steps' dict -/
theorem hasA_mem {β : Type} (xs : List (Int × β)) (z : Int) : hasA xs z = true ↔ z ∈ xs.map (·.1) := by
  unfold hasA
  rw [List.any_eq_true, List.mem_map]
  constructor
  · rintro ⟨p, hp, h⟩; exact ⟨p, hp, of_decide_eq_true h⟩
  · rintro ⟨p, hp, h⟩; exact ⟨p, hp, decide_eq_true h⟩
theorem putA_keys {β : Type} (xs : List (Int × β)) (k : Int) (v : β) : (putA xs k v).map (·.1) = if k ∈ xs.map (·.1) then xs.map (·.1) else xs.map (·.1) ++ [k] := by
  unfold putA
  have := hasA_mem xs k
  unfold hasA at this
  by_cases h : k ∈ xs.map (·.1)
  · rw [if_pos (this.mpr h), if_pos h, List.map_map]
    refine List.map_congr_left fun p _ => ?_
    show (if p.1 = k then (p.1, v) else p).1 = p.1
    split <;> rfl
  · rw [if_neg (fun z => h (this.mp z)), if_neg h, List.map_append]; rfl
theorem putA_mem {β : Type} (xs : List (Int × β)) (k z : Int) (v : β) : z ∈ (putA xs k v).map (·.1) ↔ z ∈ xs.map (·.1) ∨ z = k := by
  rw [putA_keys]
  split
  · rename_i h
    constructor
    · exact .inl
    · rintro (h2 | rfl)
      · exact h2
      · exact h
  · simp
theorem putA_nodup {β : Type} {xs : List (Int × β)} (h : (xs.map (·.1)).Nodup) (k : Int) (v : β) : ((putA xs k v).map (·.1)).Nodup := by
  rw [putA_keys]
  split
  · exact h
  · rename_i hn
    exact List.nodup_append.mpr ⟨h, by simp, fun a ha b hb e => hn (by rw [List.mem_singleton] at hb; rw [← hb, ← e]; exact ha)⟩
theorem putA_len13 {β : Type} (xs : List (Int × β)) (k : Int) (v : β) : (putA xs k v).length ≤ xs.length + 1 := by
  unfold putA
  split <;> simp
def stepZ (b N P W k : Int) : Int := (k * b - P) * N.fdiv W
def Dk (xs : List (Int × Bool)) : Prop := (xs.map (·.1)).Nodup
theorem steps_loop {f : Int → List (Int × Bool) → R (List (Int × Bool))} {ways one : List Int} {ax b N P W : Int} (hf : ∀ x20 s21, f x20 s21 = R.bind (atR ways ax) fun it22 => if (!decide (it22 = (0 : Int))) = true then (R.bind (mulR x20 b) fun p23 => R.bind (atR one ax) fun it24 => R.bind (atR ways ax) fun it25 => R.bind (fdivR N it25) fun q26 => R.bind (mulR ((p23 - it24)) q26) fun p27 => R.bind (R.ok p27) fun step28 => if (decide ((0 : Int) < step28) && decide (step28 < N)) = true then (R.bind (putR s21 step28 true) fun steps29 => R.ok steps29) else (R.ok s21)) else (R.ok s21)) (hw : atR ways ax = .ok W) (hp : atR one ax = .ok P) (sb : S 200 b) (sP : S 250 P) (sN : S 600 N) : ∀ (ks : List Int) (s : List (Int × Bool)), (∀ k ∈ ks, S 20 k) → s.length + ks.length < 1000 →
    ∃ s', R.forR f ks s = .ok s' ∧
      (∀ z, z ∈ s'.map (·.1) ↔ z ∈ s.map (·.1) ∨ ∃ k ∈ ks, W ≠ 0 ∧ z = stepZ b N P W k ∧ 0 < z ∧ z < N) ∧ (Dk s → Dk s') ∧ s'.length ≤ s.length + ks.length
  | [], s, _, _ => ⟨s, rfl, fun z => by simp, id, by simp⟩
  | k :: ks, s, hk, hl => by
    rw [List.length_cons] at hl
    have rest := fun s => steps_loop hf hw hp sb sP sN ks s (fun x hx => hk x (List.mem_cons_of_mem _ hx))
    unfold R.forR
    rw [hf, hw, bind_ok]
    by_cases w0 : W = 0
    · obtain ⟨s', e1, e2, e3, e4⟩ := rest s (by omega)
      refine ⟨s', ?_, fun z => ?_, e3, by rw [List.length_cons]; omega⟩
      · rw [decide_eq_true w0, show (!true) = false from rfl, if_ok_f, bind_ok]; exact e1
      · rw [e2]
        constructor
        · rintro (h | ⟨k', _, h, _⟩)
          · exact .inl h
          · exact absurd w0 h
        · rintro (h | ⟨k', _, h, _⟩)
          · exact .inl h
          · exact absurd w0 h
    · have sk := hk k List.mem_cons_self
      have s1 : S 252 (k * b - P) := ((sk.mul sb).sub sP).mono (by decide)
      have sf : S 601 (N.fdiv W) := by
        unfold S at *
        have := Int.natAbs_fdiv_le_natAbs N W
        omega
      rw [decide_eq_false w0, show (!false) = true from rfl, if_ok_t, mulR_ok sk sb (by decide), bind_ok, hp, bind_ok, bind_ok, fdivR_ok w0, bind_ok, mulR_ok s1 sf (by decide), bind_ok, bind_ok]
      rw [show (k * b - P) * N.fdiv W = stepZ b N P W k from rfl]
      generalize hz : stepZ b N P W k = zk
      by_cases c : 0 < zk ∧ zk < N
      · rw [decide_eq_true c.1, decide_eq_true c.2, show (true && true) = true from rfl, if_ok_t]
        have ep : putR s zk true = .ok (putA s zk true) := by unfold putR; rw [if_pos (by omega)]
        rw [ep, bind_ok, bind_ok]
        have pl := putA_len13 s zk true
        obtain ⟨s', e1, e2, e3, e4⟩ := rest (putA s zk true) (by omega)
        refine ⟨s', e1, fun z => ?_, fun h => e3 (putA_nodup h _ _), by rw [List.length_cons]; omega⟩
        rw [e2, putA_mem]
        constructor
        · rintro ((h | rfl) | ⟨k', h1, h2⟩)
          · exact .inl h
          · exact .inr ⟨k, List.mem_cons_self, w0, hz.symm, c.1, c.2⟩
          · exact .inr ⟨k', List.mem_cons_of_mem _ h1, h2⟩
        · rintro (h | ⟨k', h1, h2, h3, h4⟩)
          · exact .inl (.inl h)
          · rcases List.mem_cons.mp h1 with rfl | h1
            · exact .inl (.inr (by rw [h3, hz]))
            · exact .inr ⟨k', h1, h2, h3, h4⟩
      · have cf : (decide (0 < zk) && decide (zk < N)) = false := by
          rw [← Bool.decide_and]; exact decide_eq_false c
        rw [cf, if_ok_f, bind_ok]
        obtain ⟨s', e1, e2, e3, e4⟩ := rest s (by omega)
        refine ⟨s', e1, fun z => ?_, e3, by rw [List.length_cons]; omega⟩
        rw [e2]
        constructor
        · rintro (h | ⟨k', h1, h2⟩)
          · exact .inl h
          · exact .inr ⟨k', List.mem_cons_of_mem _ h1, h2⟩
        · rintro (h | ⟨k', h1, h2, h3, h4, h5⟩)
          · exact .inl h
          · rcases List.mem_cons.mp h1 with rfl | h1
            · exact absurd ⟨by rw [← hz, ← h3]; exact h4, by rw [← hz, ← h3]; exact h5⟩ c
            · exact .inr ⟨k', h1, h2, h3, h4, h5⟩
/-- a step is its share of the whole -/
theorem step_share {b N P W : Int} {p q : Rat} (hb : 0 < b) (hN : 0 < N) (hW : W ≠ 0) (hd : W ∣ N) (h1 : (P : Rat) = (b : Rat) * p) (h2 : (W : Rat) = (b : Rat) * (q - p)) (k : Int) : ((stepZ b N P W k : Int) : Rat) / (N : Rat) = shareQ p q k := by
  have nb : (b : Rat) ≠ 0 := by rw [Ne, Rat.intCast_eq_zero_iff]; omega
  have nN : (N : Rat) ≠ 0 := by rw [Ne, Rat.intCast_eq_zero_iff]; omega
  have nW : (W : Rat) ≠ 0 := by rw [Ne, Rat.intCast_eq_zero_iff]; exact hW
  have e1 : N.fdiv W * W = N := by rw [Int.fdiv_eq_ediv_of_dvd hd]; exact Int.ediv_mul_cancel hd
  have e2 : ((N.fdiv W : Int) : Rat) * (W : Rat) = (N : Rat) := by rw [← Rat.intCast_mul, e1]
  have e3 : ((stepZ b N P W k : Int) : Rat) = ((k : Rat) * (b : Rat) - (P : Rat)) * ((N.fdiv W : Int) : Rat) := by
    unfold stepZ
    rw [Rat.intCast_mul, Rat.intCast_sub, Rat.intCast_mul]
  have nq : q - p ≠ 0 := fun z => nW (by rw [h2, z]; grind)
  have e4 : ((stepZ b N P W k : Int) : Rat) / (N : Rat) * (N : Rat) = ((stepZ b N P W k : Int) : Rat) := Rat.div_mul_cancel nN
  have e5 : shareQ p q k * (q - p) = (k : Rat) - p := Rat.div_mul_cancel nq
  generalize ((stepZ b N P W k : Int) : Rat) / (N : Rat) = t at *
  generalize shareQ p q k = u at *
  rw [e3] at e4
  have e6 : (t - u) * ((N : Rat) * (W : Rat)) = 0 := by
    have x1 : t * (N : Rat) * (W : Rat) = ((k : Rat) * (b : Rat) - (P : Rat)) * (N : Rat) := by rw [e4]; grind
    have x2 : u * (W : Rat) = (k : Rat) * (b : Rat) - (P : Rat) := by rw [h2, h1]; grind
    grind
  rcases mul_eq0 e6 with z | z
  · grind
  · rcases mul_eq0 z with z | z
    · exact absurd z nN
    · exact absurd z nW
theorem rising_pw : ∀ {xs : List Rat}, Rising xs → xs.Pairwise (· < ·)
  | [], _ => .nil
  | x :: xs, h => .cons (fun y hy => rising_lt h y hy) (rising_pw (rising_tail h))
theorem pw_eq {xs ys : List Rat} (hx : xs.Pairwise (· < ·)) (hy : ys.Pairwise (· < ·)) (h : ∀ z, z ∈ xs ↔ z ∈ ys) : xs = ys := by
  refine List.Perm.eq_of_pairwise (le := (· < ·)) (fun a b _ _ h1 h2 => by grind) hx hy ?_
  exact (List.perm_ext_iff_of_nodup (hx.imp fun h e => by subst e; grind) (hy.imp fun h e => by subst e; grind)).mpr h
theorem maxZ_one (W : Int) : 0 < maxZ 1 (absZ W) ∧ (W ≠ 0 → maxZ 1 (absZ W) = absZ W) := by
  unfold maxZ absZ
  constructor
  · split <;> split <;> omega
  · intro h; split <;> split <;> omega
theorem absZ_dvd (W : Int) : W ∣ absZ W := by
  unfold absZ
  split
  · exact ⟨-1, by omega⟩
  · exact ⟨1, by omega⟩
theorem div_lt_div {a b N : Rat} (hN : 0 < N) (h : a < b) : a / N < b / N := by
  have n0 : N ≠ 0 := by grind
  have e1 : a / N * N = a := Rat.div_mul_cancel n0
  have e2 : b / N * N = b := Rat.div_mul_cancel n0
  by_cases c : a / N < b / N
  · exact c
  · have := Rat.mul_le_mul_of_nonneg_right (show b / N ≤ a / N by grind) (show 0 ≤ N by grind)
    grind
theorem mul_lt_iff13 {x y k : Rat} (h : 0 < k) : x * k < y * k ↔ x < y := by
  constructor
  · intro z
    by_cases c : x < y
    · exact c
    · have := Rat.mul_le_mul_of_nonneg_right (show y ≤ x by grind) (show 0 ≤ k by grind)
      grind
  · exact fun z => Rat.mul_lt_mul_of_pos_right z h
theorem div_self13 {N : Rat} (h : N ≠ 0) : N / N = 1 := by
  have e : N / N * N = N := Rat.div_mul_cancel h
  have : (N / N - 1) * N = 0 := by grind
  rcases mul_eq0 this with z | z
  · grind
  · exact absurd z h
theorem l_steps_ok {e : Sd} {b P1 P2 Q1 Q2 w h : Int} (sc : Sc e b P1 P2 Q1 Q2) (w0 : 0 ≤ w) (w1 : w ≤ 12) (h0 : 0 ≤ h) (h1 : h ≤ 12) :
    ∃ (N : Int) (zs : List Int), l_steps b [P1, P2] [Q1, Q2] (w, h) = .ok (N, zs) ∧ 0 < N ∧ S 600 N ∧ zs.map (fun z : Int => (z : Rat) / (N : Rat)) = knots w h e ∧ (∀ z ∈ zs, 0 ≤ z ∧ z ≤ N) := by
  obtain ⟨hb, sb, p1, p2, q1, q2, s1, s2, s3, s4⟩ := sc
  have sW1 : S 251 (Q1 - P1) := s3.sub s1
  have sW2 : S 251 (Q2 - P2) := s4.sub s2
  have r1 : ((Q1 - P1 : Int) : Rat) = (b : Rat) * (e.2.1 - e.1.1) := by rw [Rat.intCast_sub, p1, q1]; grind
  have r2 : ((Q2 - P2 : Int) : Rat) = (b : Rat) * (e.2.2 - e.1.2) := by rw [Rat.intCast_sub, p2, q2]; grind
  obtain ⟨m1, m2⟩ := maxZ_one (Q1 - P1)
  obtain ⟨m3, m4⟩ := maxZ_one (Q2 - P2)
  have sm : ∀ {W : Int}, S 251 W → S 251 (maxZ 1 (absZ W)) := fun {W} hW => by
    unfold maxZ
    split
    · exact hW.abs
    · exact S.mono (a := 1) (by decide) (by decide)
  have d1 : Q1 - P1 ≠ 0 → (Q1 - P1) ∣ maxZ 1 (absZ (Q1 - P1)) * maxZ 1 (absZ (Q2 - P2)) := fun hn => by
    rw [m2 hn]; exact Int.dvd_trans (absZ_dvd _) (Int.dvd_mul_right _ _)
  have d2 : Q2 - P2 ≠ 0 → (Q2 - P2) ∣ maxZ 1 (absZ (Q1 - P1)) * maxZ 1 (absZ (Q2 - P2)) := fun hn => by
    rw [m4 hn]; exact Int.dvd_trans (absZ_dvd _) (Int.dvd_mul_left _ _)
  have mm := mulR_ok (sm sW1) (sm sW2) (by decide)
  have sN : S 600 (maxZ 1 (absZ (Q1 - P1)) * maxZ 1 (absZ (Q2 - P2))) := ((sm sW1).mul (sm sW2)).mono (by decide)
  have hN := Int.mul_pos m1 m3
  unfold l_steps
  rw [at0, bind_ok, at0, bind_ok, at1, bind_ok, at1, bind_ok, bind_ok, at0, bind_ok, at1, bind_ok, mm, bind_ok, bind_ok]
  generalize maxZ 1 (absZ (Q1 - P1)) * maxZ 1 (absZ (Q2 - P2)) = N at *
  generalize hW1 : Q1 - P1 = W1 at *
  generalize hW2 : Q2 - P2 = W2 at *
  have st0 : ∀ z, z ∈ (putA (putA ([] : (List (Int × Bool))) ((0 : Int)) true) N true).map (·.1) ↔ z = 0 ∨ z = N := fun z => by
    rw [putA_mem, putA_mem]; simp
  have nd0 : Dk (putA (putA ([] : (List (Int × Bool))) ((0 : Int)) true) N true) := putA_nodup (putA_nodup (by simp) _ _) _ _
  have ln0 : (putA (putA ([] : (List (Int × Bool))) ((0 : Int)) true) N true).length ≤ 2 := Nat.le_trans (putA_len13 _ _ _) (Nat.succ_le_succ (putA_len13 _ _ _))
  generalize putA (putA ([] : (List (Int × Bool))) ((0 : Int)) true) N true = st at *
  have rg : rngR (0 : Int) (2 : Int) = .ok [0, 1] := rfl
  have ra : rngR (0 : Int) (w + 1) = .ok (range0 (w + 1)) := rngR_ok (by decide) (by decide) (by omega) (by omega)
  have rb : rngR (0 : Int) (h + 1) = .ok (range0 (h + 1)) := rngR_ok (by decide) (by decide) (by omega) (by omega)
  have lw : (range0 (w + 1)).length ≤ 13 := by unfold range0; simp; omega
  have lh : (range0 (h + 1)).length ≤ 13 := by unfold range0; simp; omega
  have kw : ∀ m : Int, m ≤ 12 → ∀ k ∈ range0 (m + 1), S 20 k := fun m hm k hk => by
    have := range0_mem.mp hk
    unfold S; omega
  obtain ⟨sa, a1, a2, a3, a4⟩ := steps_loop (fun _ _ => rfl) (ways := [W1, W2]) (one := [P1, P2]) (ax := 0) (b := b) (N := N) (at0 _ _) (at0 _ _) sb s1 sN (range0 (w + 1)) st (kw w w1) (by omega)
  obtain ⟨sc, c1, c2, c3, c4⟩ := steps_loop (fun _ _ => rfl) (ways := [W1, W2]) (one := [P1, P2]) (ax := 1) (b := b) (N := N) (at1 _ _ _) (at1 _ _ _) sb s2 sN (range0 (h + 1)) sa (kw h h1) (by omega)
  rw [rg, bind_ok]
  have body : R.forR (fun (x16 : Int) (s17 : (List (Int × Bool))) => R.bind (atR ([w, h]) x16) fun it18 => R.bind (rngR 0 ((it18 + (1 : Int)))) fun r19 => R.bind (R.forR (fun (x20 : Int) (s21 : (List (Int × Bool))) => R.bind (atR [W1, W2] x16) fun it22 => if (!decide (it22 = (0 : Int))) = true then (R.bind (mulR x20 b) fun p23 => R.bind (atR [P1, P2] x16) fun it24 => R.bind (atR [W1, W2] x16) fun it25 => R.bind (fdivR N it25) fun q26 => R.bind (mulR ((p23 - it24)) q26) fun p27 => R.bind (R.ok p27) fun step28 => if (decide ((0 : Int) < step28) && decide (step28 < N)) = true then (R.bind (putR s21 step28 true) fun steps29 => R.ok steps29) else (R.ok s21)) else (R.ok s21)) r19 s17) fun s30 => R.ok s30) [0, 1] st = .ok sc := by
    unfold R.forR
    rw [at0, bind_ok, ra, bind_ok, a1, bind_ok, bind_ok]
    unfold R.forR
    rw [at1, bind_ok, rb, bind_ok, c1, bind_ok, bind_ok]
    rfl
  have so : sortR (sc.map (·.1)) = .ok ((sc.map (·.1)).mergeSort fun a b => decide (a ≤ b)) := by
    unfold sortR
    rw [if_pos (by rw [List.length_map]; omega)]
  refine ⟨N, (sc.map (·.1)).mergeSort fun a b => decide (a ≤ b), ?_, hN, sN, ?_, ?_⟩
  · refine (congrArg (fun m => R.bind m fun s31 : List (Int × Bool) => R.bind (sortR (s31.map (·.1))) fun sorted32 => R.ok (N, sorted32)) body).trans ?_
    show R.bind (R.ok sc) _ = _
    rw [bind_ok, so, bind_ok]
  · have NQ : (0 : Rat) < (N : Rat) := Rat.intCast_pos.mpr hN
    have nN : (N : Rat) ≠ 0 := by grind
    have ndc : (sc.map (·.1)).Nodup := c3 (a3 nd0)
    have pm := List.mergeSort_perm (sc.map (·.1)) fun a b => decide (a ≤ b)
    have pw := List.pairwise_mergeSort (le := fun a b : Int => decide (a ≤ b)) (fun a b c h1 h2 => by simp only [decide_eq_true_eq] at *; omega) (fun a b => by simp only [Bool.or_eq_true, decide_eq_true_eq]; omega) (sc.map (·.1))
    have nds := pm.nodup_iff.mpr ndc
    have pl : ((sc.map (·.1)).mergeSort fun a b => decide (a ≤ b)).Pairwise (· < ·) := (List.Pairwise.and pw nds).imp fun h => by
      have := of_decide_eq_true h.1
      have := h.2
      omega
    refine pw_eq ?_ (rising_pw (knots_rising w h e)) fun q => ?_
    · rw [List.pairwise_map]
      exact pl.imp fun h => div_lt_div NQ (Rat.intCast_lt_intCast.mpr h)
    · rw [List.mem_map, knots_mem, inner_mem, sharesQ_mem, sharesQ_mem]
      have key : ∀ z, z ∈ (sc.map (·.1)).mergeSort (fun a b => decide (a ≤ b)) ↔ (z = 0 ∨ z = N) ∨ (∃ k ∈ range0 (w + 1), W1 ≠ 0 ∧ z = stepZ b N P1 W1 k ∧ 0 < z ∧ z < N) ∨ ∃ k ∈ range0 (h + 1), W2 ≠ 0 ∧ z = stepZ b N P2 W2 k ∧ 0 < z ∧ z < N := fun z => by
        rw [List.mem_mergeSort, c2, a2, st0, or_assoc]
      have u1 : W1 ≠ 0 ↔ e.1.1 ≠ e.2.1 := by
        constructor
        · intro hn he
          rw [he] at r1
          exact hn (Rat.intCast_inj.mp (by rw [r1]; grind))
        · intro hn hz
          rw [hz] at r1
          have nb : (b : Rat) ≠ 0 := by rw [Ne, Rat.intCast_eq_zero_iff]; omega
          have : (b : Rat) * (e.2.1 - e.1.1) = 0 := by rw [← r1]; rfl
          rcases mul_eq0 this with z | z
          · exact nb z
          · grind
      have u2 : W2 ≠ 0 ↔ e.1.2 ≠ e.2.2 := by
        constructor
        · intro hn he
          rw [he] at r2
          exact hn (Rat.intCast_inj.mp (by rw [r2]; grind))
        · intro hn hz
          rw [hz] at r2
          have nb : (b : Rat) ≠ 0 := by rw [Ne, Rat.intCast_eq_zero_iff]; omega
          have : (b : Rat) * (e.2.2 - e.1.2) = 0 := by rw [← r2]; rfl
          rcases mul_eq0 this with z | z
          · exact nb z
          · grind
      have t1 := fun (hn : W1 ≠ 0) k => step_share (q := e.2.1) hb hN hn (d1 hn) p1 r1 k
      have t2 := fun (hn : W2 ≠ 0) k => step_share (q := e.2.2) hb hN hn (d2 hn) p2 r2 k
      have fr : ∀ z : Int, ((0 : Rat) < (z : Rat) / (N : Rat) ↔ 0 < z) ∧ ((z : Rat) / (N : Rat) < 1 ↔ z < N) := fun z => by
        have e0 : (z : Rat) / (N : Rat) * (N : Rat) = (z : Rat) := Rat.div_mul_cancel nN
        have i1 := mul_lt_iff13 (x := 0) (y := (z : Rat) / (N : Rat)) NQ
        have i2 := mul_lt_iff13 (x := (z : Rat) / (N : Rat)) (y := 1) NQ
        rw [e0] at i1 i2
        have j1 : (0 : Rat) < (z : Rat) ↔ 0 < z := Rat.intCast_pos
        have j2 : (z : Rat) < (N : Rat) ↔ z < N := Rat.intCast_lt_intCast
        constructor
        · rw [← j1, ← i1]; constructor <;> intro h <;> grind
        · rw [← j2, ← i2]; constructor <;> intro h <;> grind
      constructor
      · rintro ⟨z, hz, rfl⟩
        rcases (key z).mp hz with (rfl | rfl) | ⟨k, k1, k2, k3, k4, k5⟩ | ⟨k, k1, k2, k3, k4, k5⟩
        · left; show (0 : Rat) / (N : Rat) = 0; grind
        · right; right; exact div_self13 nN
        · right; left; left
          exact ⟨u1.mp k2, ⟨k, (range0_mem.mp k1).1, by have := (range0_mem.mp k1).2; omega, by rw [k3]; exact t1 k2 k⟩, (fr z).1.mpr k4, (fr z).2.mpr k5⟩
        · right; left; right
          exact ⟨u2.mp k2, ⟨k, (range0_mem.mp k1).1, by have := (range0_mem.mp k1).2; omega, by rw [k3]; exact t2 k2 k⟩, (fr z).1.mpr k4, (fr z).2.mpr k5⟩
      · rintro (rfl | (⟨n1, ⟨k, k1, k2, rfl⟩, k3, k4⟩ | ⟨n1, ⟨k, k1, k2, rfl⟩, k3, k4⟩) | rfl)
        · exact ⟨0, (key 0).mpr (.inl (.inl rfl)), by show (0 : Rat) / (N : Rat) = 0; grind⟩
        · have hn := u1.mpr n1
          rw [← t1 hn k] at k3 k4 ⊢
          exact ⟨_, (key _).mpr (.inr (.inl ⟨k, range0_mem.mpr ⟨k1, by omega⟩, hn, rfl, (fr _).1.mp k3, (fr _).2.mp k4⟩)), rfl⟩
        · have hn := u2.mpr n1
          rw [← t2 hn k] at k3 k4 ⊢
          exact ⟨_, (key _).mpr (.inr (.inr ⟨k, range0_mem.mpr ⟨k1, by omega⟩, hn, rfl, (fr _).1.mp k3, (fr _).2.mp k4⟩)), rfl⟩
        · exact ⟨N, (key N).mpr (.inl (.inr rfl)), div_self13 nN⟩
  · intro z hz
    rw [List.mem_mergeSort, c2, a2, st0] at hz
    rcases hz with ((rfl | rfl) | ⟨_, _, _, _, k4, k5⟩) | ⟨_, _, _, _, k4, k5⟩ <;> omega
/-! ### the law's pieces -/
theorem fl_divInt {x m : Int} (hm : 0 < m) : x.fdiv m = fl (Rat.divInt x m) := by
  rw [Int.fdiv_eq_ediv_of_nonneg _ (by omega)]
  have h1 := Int.mul_ediv_self_le (x := x) (k := m) (by omega)
  have h2 := Int.lt_mul_ediv_self_add (x := x) (k := m) hm
  have mQ : (0 : Rat) < (m : Rat) := Rat.intCast_pos.mpr hm
  have e : Rat.divInt x m * (m : Rat) = (x : Rat) := by rw [Rat.divInt_eq_div]; exact Rat.div_mul_cancel (by grind)
  have a1 : x / m ≤ fl (Rat.divInt x m) := by
    rw [le_fl_iff]
    have : ((m * (x / m) : Int) : Rat) ≤ (x : Rat) := Rat.intCast_le_intCast.mpr h1
    rw [Rat.intCast_mul] at this
    generalize Rat.divInt x m = q at *
    by_cases c : ((x / m : Int) : Rat) ≤ q
    · exact c
    · have := Rat.mul_lt_mul_of_pos_right (show q < ((x / m : Int) : Rat) by grind) mQ
      grind
  have a2 : fl (Rat.divInt x m) < x / m + 1 := by
    rw [fl_lt_iff]
    have : (x : Rat) < ((m * (x / m) + m : Int) : Rat) := Rat.intCast_lt_intCast.mpr h2
    rw [Rat.intCast_add, Rat.intCast_mul] at this
    rw [Rat.intCast_add, show (((1 : Int)) : Rat) = 1 from rfl]
    generalize Rat.divInt x m = q at *
    by_cases c : q < ((x / m : Int) : Rat) + 1
    · exact c
    · have := Rat.mul_le_mul_of_nonneg_right (show ((x / m : Int) : Rat) + 1 ≤ q by grind) (show 0 ≤ (m : Rat) by grind)
      grind
  omega
/-- a place along a side, over one bottom -/
theorem place_eq {b N P Q z : Int} {p q : Rat} (hb : 0 < b) (hN : 0 < N) (h1 : (P : Rat) = (b : Rat) * p) (h2 : (Q : Rat) = (b : Rat) * q) : Rat.divInt (P * N + (Q - P) * z) (b * N) = p + (z : Rat) / (N : Rat) * (q - p) := by
  have nb : (b : Rat) ≠ 0 := by rw [Ne, Rat.intCast_eq_zero_iff]; omega
  have nN : (N : Rat) ≠ 0 := by rw [Ne, Rat.intCast_eq_zero_iff]; omega
  rw [Rat.divInt_eq_div, Rat.intCast_add, Rat.intCast_mul, Rat.intCast_mul, Rat.intCast_sub, Rat.intCast_mul, h1, h2]
  have e1 : (z : Rat) / (N : Rat) * (N : Rat) = (z : Rat) := Rat.div_mul_cancel nN
  generalize (z : Rat) / (N : Rat) = t at *
  have nbN : (b : Rat) * (N : Rat) ≠ 0 := fun h => by
    rcases mul_eq0 h with z | z
    · exact nb z
    · exact nN z
  have e2 : ((b : Rat) * p * (N : Rat) + ((b : Rat) * q - (b : Rat) * p) * (z : Rat)) / ((b : Rat) * (N : Rat)) * ((b : Rat) * (N : Rat)) = (b : Rat) * p * (N : Rat) + ((b : Rat) * q - (b : Rat) * p) * (z : Rat) := Rat.div_mul_cancel nbN
  generalize ((b : Rat) * p * (N : Rat) + ((b : Rat) * q - (b : Rat) * p) * (z : Rat)) / ((b : Rat) * (N : Rat)) = u at *
  have : (u - (p + t * (q - p))) * ((b : Rat) * (N : Rat)) = 0 := by rw [← e1] at e2; grind
  rcases mul_eq0 this with z | z
  · grind
  · exact absurd z nbN
theorem middle_eq {b N f l : Int} (hb : 0 < b) (hN : 0 < N) : Rat.divInt (f + l) (2 * b * N) = mid (Rat.divInt f (b * N)) (Rat.divInt l (b * N)) := by
  have h0 := Int.mul_pos hb hN
  have nbN : ((b * N : Int) : Rat) ≠ 0 := by rw [Ne, Rat.intCast_eq_zero_iff]; omega
  have n2 : ((2 * b * N : Int) : Rat) ≠ 0 := by rw [Ne, Rat.intCast_eq_zero_iff, Int.mul_assoc]; omega
  have e2 : ((2 * b * N : Int) : Rat) = 2 * ((b * N : Int) : Rat) := by rw [Int.mul_assoc, Rat.intCast_mul]; rfl
  rw [Rat.divInt_eq_div, Rat.divInt_eq_div, Rat.divInt_eq_div, Rat.intCast_add]
  have g1 : ((f : Rat) + (l : Rat)) / ((2 * b * N : Int) : Rat) * ((2 * b * N : Int) : Rat) = (f : Rat) + (l : Rat) := Rat.div_mul_cancel n2
  have g2 : (f : Rat) / ((b * N : Int) : Rat) * ((b * N : Int) : Rat) = (f : Rat) := Rat.div_mul_cancel nbN
  have g3 : (l : Rat) / ((b * N : Int) : Rat) * ((b * N : Int) : Rat) = (l : Rat) := Rat.div_mul_cancel nbN
  generalize ((f : Rat) + (l : Rat)) / ((2 * b * N : Int) : Rat) = u at *
  generalize (f : Rat) / ((b * N : Int) : Rat) = v at *
  generalize (l : Rat) / ((b * N : Int) : Rat) = w at *
  rw [e2] at g1
  unfold mid
  have : (u - (v + w) * (1 / 2)) * ((b * N : Int) : Rat) = 0 := by grind
  rcases mul_eq0 this with z | z
  · grind
  · exact absurd z nbN
theorem app2_0 {α : Type} {a : List α} {bs : List (List α)} (h : a.length < 16777216) (x : α) : app2R (a :: bs) 0 x = .ok ((a ++ [x]) :: bs) := by
  unfold app2R
  rw [at0, bind_ok, appR_ok h, bind_ok]
  have e : ixP (a :: bs).length 0 = some 0 := ixP_nat (k := 0) (by simp)
  unfold setR
  rw [e]; rfl
theorem app2_1 {α : Type} {a b : List α} (h : b.length < 16777216) (x : α) : app2R [a, b] 1 x = .ok [a, b ++ [x]] := by
  unfold app2R
  rw [at1, bind_ok, appR_ok h, bind_ok]
  rfl
theorem l_due5_ok {e : Sd} {w h : Int} (hp : SP 50 e.1) (hq : SP 50 e.2) (w0 : 0 ≤ w) (w1 : w ≤ 12) (h0 : 0 ≤ h) (h1 : h ≤ 12) : l_due_5 e (w, h) = .ok (piecesQ w h e) := by
  unfold l_due_5 piecesQ
  by_cases c : e.1 = e.2
  · rw [decide_eq_true c, if_ok_t, if_pos c]
  rw [decide_eq_false c, if_ok_f, if_neg c]
  obtain ⟨b, P1, P2, Q1, Q2, e1, sc⟩ := l_scaled2_ok hp hq
  obtain ⟨N, zs, e2, hN, sN, hz, hzs⟩ := l_steps_ok sc w0 w1 h0 h1
  obtain ⟨hb, sb, p1, p2, q1, q2, s1, s2, s3, s4⟩ := sc
  have zl : zs.length = (knots w h e).length := by rw [← hz, List.length_map]
  have kl := knots_len e w0 (show w ≤ 40 by omega) h0 (show h ≤ 40 by omega)
  rw [e1, bind_ok, bind_ok]
  show R.bind (l_steps b [P1, P2] [Q1, Q2] (w, h)) _ = _
  rw [e2, bind_ok, bind_ok, bind_ok]
  show R.bind (rngR 0 ((zs.length : Int) - 1)) _ = _
  have hbN := Int.mul_pos hb hN
  have h2bN : 0 < 2 * b * N := by rw [Int.mul_assoc]; omega
  have rg : rngR (0 : Int) (2 : Int) = .ok [0, 1] := rfl
  have main : Ok (R.bind (rngR 0 ((zs.length : Int) - 1)) fun r8 => R.bind (R.forR (fun (x9 : Int) (s10 : (List (Int × Int × (Rat × Rat) × (Rat × Rat)))) => R.bind (R.ok (([] : (List Int)))) fun spots11 => R.bind (R.ok (([([] : (List Rat)), ([] : (List Rat))] : (List (List Rat))))) fun ends12 => R.bind (rngR 0 ((2 : Int))) fun r13 => R.bind (R.forR (fun (x14 : Int) (s15 : ((List (List Rat)) × (List Int))) => R.bind (atR [Q1, Q2] x14) fun it16 => R.bind (atR [P1, P2] x14) fun it17 => R.bind (R.ok ((it16 - it17))) fun way18 => R.bind (atR [P1, P2] x14) fun it19 => R.bind (mulR it19 N) fun p20 => R.bind (atR zs x9) fun it21 => R.bind (mulR way18 it21) fun p22 => R.bind (R.ok ((p20 + p22))) fun first23 => R.bind (atR [P1, P2] x14) fun it24 => R.bind (mulR it24 N) fun p25 => R.bind (atR zs ((x9 + (1 : Int)))) fun it26 => R.bind (mulR way18 it26) fun p27 => R.bind (R.ok ((p25 + p27))) fun last28 => R.bind (mulR ((2 : Int)) b) fun p29 => R.bind (mulR p29 N) fun p30 => R.bind (fdivR ((first23 + last28)) p30) fun q31 => R.bind (appR s15.2 q31) fun spots32 => R.bind (mulR b N) fun p33 => R.bind (l_ratio_3 first23 p33) fun r34 => R.bind (app2R s15.1 ((0 : Int)) r34) fun ends35 => R.bind (mulR b N) fun p36 => R.bind (l_ratio_3 last28 p36) fun r37 => R.bind (app2R ends35 ((1 : Int)) r37) fun ends38 => R.ok ((ends38, spots32))) r13 ((ends12, spots11))) fun s39 => R.bind (atR s39.2 ((1 : Int))) fun it40 => R.bind (R.andR ((decide ((0 : Int) ≤ it40) && decide (it40 < h))) (R.bind (atR s39.2 ((0 : Int))) fun it41 => R.ok ((decide (it41 < w))))) fun b42 => if b42 = true then (R.bind (atR s39.2 ((0 : Int))) fun it43 => R.bind (atR s39.2 ((1 : Int))) fun it44 => R.bind (atR s39.1 ((0 : Int))) fun it45 => R.bind (tup2R it45) fun t46 => R.bind (atR s39.1 ((1 : Int))) fun it47 => R.bind (tup2R it47) fun t48 => R.bind (appR s10 (((maxZ ((-((1 : Int)))) it43), it44, t46, t48))) fun due49 => R.ok due49) else (R.ok s10)) r8 []) fun s50 => R.ok s50) (· = (pairs (knots w h e)).flatMap (pieceE w h e)) := by
    refine .step (rngR_ok (by decide) (by decide) (by omega) (by omega)) ?_
    refine .bind (.forR (fun i s => s = ((pairs (knots w h e)).take i).flatMap (pieceE w h e) ∧ s.length ≤ i) ⟨rfl, Nat.le_refl _⟩ fun i s x hs hx => ?_) fun s hs => .pure ?_
    · obtain ⟨ex, hx3⟩ := rng_at hx
      obtain ⟨hs, hsl⟩ := hs
      have hi : i + 1 < zs.length := by omega
      have ez1 : zs[i]? = some zs[i] := List.getElem?_eq_getElem (by omega)
      have ez2 : zs[i + 1]? = some zs[i + 1] := List.getElem?_eq_getElem hi
      have pg := pairs_get (ks := knots w h e) (i := i) (by omega)
      have ke : ∀ j (hj : j < zs.length), (knots w h e)[j]'(by omega) = (zs[j] : Rat) / (N : Rat) := fun j hj => by
        have h1 : (knots w h e)[j]? = some ((zs[j] : Rat) / (N : Rat)) := by rw [← hz, List.getElem?_map, List.getElem?_eq_getElem hj]; rfl
        rw [List.getElem?_eq_getElem (by omega)] at h1
        exact Option.some.inj h1
      rw [ke i (by omega), ke (i + 1) hi] at pg
      have b1 := hzs zs[i] (List.getElem_mem _)
      have b2 := hzs zs[i + 1] (List.getElem_mem _)
      have sz : ∀ z : Int, 0 ≤ z ∧ z ≤ N → S 600 z := fun z hz => by unfold S at *; omega
      generalize zs[i] = y1 at *
      generalize zs[i + 1] = y2 at *
      have x1 : atR zs x = .ok y1 := by rw [show x = ((i : Nat) : Int) by omega]; exact atR_nat ez1
      have x2 : atR zs (x + 1) = .ok y2 := by rw [show x + 1 = ((i + 1 : Nat) : Int) by omega]; exact atR_nat ez2
      have axis : ∀ (ax P Q : Int) (p q : Rat) (es es1 : List (List Rat)) (sp : List Int), atR [Q1, Q2] ax = .ok Q → atR [P1, P2] ax = .ok P → (P : Rat) = (b : Rat) * p → (Q : Rat) = (b : Rat) * q → S 250 P → S 250 Q → sp.length ≤ 2 →
          (∀ (u v : Rat), R.bind (app2R es 0 u) (fun z => app2R z 1 v) = .ok es1 → True) →
          (R.bind (atR [Q1, Q2] ax) fun it16 => R.bind (atR [P1, P2] ax) fun it17 => R.bind (R.ok ((it16 - it17))) fun way18 => R.bind (atR [P1, P2] ax) fun it19 => R.bind (mulR it19 N) fun p20 => R.bind (atR zs x) fun it21 => R.bind (mulR way18 it21) fun p22 => R.bind (R.ok ((p20 + p22))) fun first23 => R.bind (atR [P1, P2] ax) fun it24 => R.bind (mulR it24 N) fun p25 => R.bind (atR zs ((x + (1 : Int)))) fun it26 => R.bind (mulR way18 it26) fun p27 => R.bind (R.ok ((p25 + p27))) fun last28 => R.bind (mulR ((2 : Int)) b) fun p29 => R.bind (mulR p29 N) fun p30 => R.bind (fdivR ((first23 + last28)) p30) fun q31 => R.bind (appR sp q31) fun spots32 => R.bind (mulR b N) fun p33 => R.bind (l_ratio_3 first23 p33) fun r34 => R.bind (app2R es ((0 : Int)) r34) fun ends35 => R.bind (mulR b N) fun p36 => R.bind (l_ratio_3 last28 p36) fun r37 => R.bind (app2R ends35 ((1 : Int)) r37) fun ends38 => R.ok ((ends38, spots32))) =
          R.bind (app2R es 0 (p + (y1 : Rat) / (N : Rat) * (q - p))) fun ends35 => R.bind (app2R ends35 1 (p + (y2 : Rat) / (N : Rat) * (q - p))) fun ends38 => R.ok (ends38, sp ++ [fl (mid (p + (y1 : Rat) / (N : Rat) * (q - p)) (p + (y2 : Rat) / (N : Rat) * (q - p)))]) := by
        intro ax P Q p q es es1 sp aQ aP hP hQ sP sQ hsp _
        have sw : S 251 (Q - P) := sQ.sub sP
        rw [aQ, bind_ok, aP, bind_ok, bind_ok, bind_ok, mulR_ok sP sN (by decide), bind_ok, x1, bind_ok, mulR_ok sw (sz _ b1) (by decide), bind_ok, bind_ok, bind_ok, mulR_ok sP sN (by decide), bind_ok, x2, bind_ok, mulR_ok sw (sz _ b2) (by decide), bind_ok, bind_ok,
          mulR_ok (a := 2) (by decide) sb (by decide), bind_ok, mulR_ok ((show S 2 2 by decide).mul sb) sN (by decide), bind_ok, fdivR_ok (by omega), bind_ok, appR_ok (by omega), bind_ok, mulR_ok sb sN (by decide), bind_ok, l_ratio3_ok (by omega), bind_ok, fl_divInt h2bN, middle_eq hb hN, place_eq hb hN hP hQ, place_eq hb hN hP hQ]
        congr 1
        funext ends35
        rw [bind_ok, l_ratio3_ok (by omega), bind_ok, place_eq hb hN hP hQ]
      refine .one (.one (.step rg ?_))
      refine .step (a := ([[e.1.1 + (y1 : Rat) / (N : Rat) * (e.2.1 - e.1.1), e.1.2 + (y1 : Rat) / (N : Rat) * (e.2.2 - e.1.2)], [e.1.1 + (y2 : Rat) / (N : Rat) * (e.2.1 - e.1.1), e.1.2 + (y2 : Rat) / (N : Rat) * (e.2.2 - e.1.2)]], [colQ e ((y1 : Rat) / (N : Rat), (y2 : Rat) / (N : Rat)), rowQ e ((y1 : Rat) / (N : Rat), (y2 : Rat) / (N : Rat))])) ?_ ?_
      · unfold R.forR
        have := axis 0 P1 Q1 e.1.1 e.2.1 [[], []] [] [] (at0 _ _) (at0 _ _) p1 q1 s1 s3 (by decide) (fun _ _ _ => trivial)
        rw [this, app2_0 (by simp), bind_ok, app2_1 (by simp), bind_ok, bind_ok]
        unfold R.forR
        have := axis 1 P2 Q2 e.1.2 e.2.2 [[e.1.1 + (y1 : Rat) / (N : Rat) * (e.2.1 - e.1.1)], [e.1.1 + (y2 : Rat) / (N : Rat) * (e.2.1 - e.1.1)]] [] [colQ e ((y1 : Rat) / (N : Rat), (y2 : Rat) / (N : Rat))] (at1 _ _ _) (at1 _ _ _) p2 q2 s2 s4 (by simp) (fun _ _ _ => trivial)
        refine (congrArg (fun m => R.bind m _) this).trans ?_
        rw [app2_0 (by simp), bind_ok, app2_1 (by simp), bind_ok]
        rfl
      · rw [take_more pg, List.flatMap_append]
        generalize hk : ((y1 : Rat) / (N : Rat), (y2 : Rat) / (N : Rat)) = k at *
        have on : onFloor w h e k = ((decide (0 ≤ rowQ e k) && decide (rowQ e k < h)) && decide (colQ e k < w)) := rfl
        refine .step (at1 _ _ _) (.step (a := onFloor w h e k) ?_ (.iteB (fun c => ?_) fun c => ?_))
        · rw [on]
          cases hh : (decide (0 ≤ rowQ e k) && decide (rowQ e k < h)) with
          | true => rw [andR_t, at0, bind_ok]; rfl
          | false => rw [andR_f]; rfl
        · refine .step (at0 _ _) (.step (at1 _ _ _) (.step (at0 _ _) (.step rfl (.step (at1 _ _ _) (.step rfl (.step (appR_ok (by omega)) (.pure ⟨?_, by rw [List.length_append, List.length_singleton]; omega⟩)))))))
          rw [hs]
          congr 1
          show _ = pieceE w h e k ++ []
          unfold pieceE
          rw [if_pos c, List.append_nil]
          unfold pieceOf
          have mx : maxZ (-1) (colQ e k) = maxZ (colQ e k) (-1) := by unfold maxZ; split <;> split <;> omega
          rw [← mx, ← hk]; rfl
        · refine .pure ⟨?_, by omega⟩
          rw [hs]
          have : pieceE w h e k = [] := by unfold pieceE; rw [if_neg (by rw [c]; decide)]
          show _ = _ ++ (pieceE w h e k ++ [])
          rw [this]; simp
    · have : ((List.range ((zs.length : Int) - 1 - 0).toNat).map fun k => (0 : Int) + (k : Nat)).length = (pairs (knots w h e)).length := by
        rw [List.length_map, List.length_range, pairs_len]; omega
      rw [hs.1, this, List.take_length]
  obtain ⟨a, m1, m2⟩ := main
  rw [← m2]
  exact m1
theorem l_side2_ok {ns : List Int} (hb : Bits ns) {a c : Int} (h0 : 0 ≤ a) (h1 : a < 1000) : Ok (l_side_2 ns a c) (fun e => SP 50 e.1 ∧ SP 50 e.2) := by
  unfold l_side_2
  have wh : ∀ {q : Rat}, SQ 50 q → ∀ {β : Type} {K : Rat → R β} {Q : β → Prop}, (∀ i : Int, SQ 50 (i : Rat) → Ok (K (i : Rat)) Q) → Ok (R.bind (fdivR q.num ((q.den : Int))) fun x => R.bind (mkQ x 1) K) Q := fun {q} hq {β K Q} hK => by
    have hd := q.den_pos
    refine .step (fdivR_ok (by omega)) (.step (mkQ_int _) (hK _ (SQ_int ?_ (by decide))))
    rw [Int.fdiv_eq_ediv_of_nonneg _ (by omega)]
    exact S_ediv (by omega) hq.1
  refine .bind (l_at_ok hb (by omega) (by omega)) fun p1 h1 => .bind (l_at_ok hb (by omega) (by omega)) fun p2 h2 => .one (.bind (l_at_ok hb (by omega) (by omega)) fun q1 h3 => .bind (l_at_ok hb (by omega) (by omega)) fun q2 h4 => .one ?_)
  refine .bind (P := SP 50) (.ite (fun _ => .one (.pure ⟨h1, h4⟩)) fun _ => .pure ⟨h3, h4⟩) fun q hq => ?_
  refine .bind (P := SP 50) (.ite (fun _ => .one (.pure ⟨hq.1, h2⟩)) fun _ => .pure hq) fun q hq => ?_
  refine .bind (P := SP 50) (.iteB (fun _ => .one (.pure ⟨h1, h2⟩)) fun _ => .pure hq) fun q hq => ?_
  refine .bind (P := fun e : Sd => SP 50 e.1 ∧ SP 50 e.2) (.ite (fun _ => ?_) fun _ => .pure ⟨⟨h1, h2⟩, hq⟩) fun e he => .pure he
  exact wh h1 fun a ha => wh h2 fun b hb => .one (wh hq.1 fun c hc => wh hq.2 fun d hd => .one (.pure ⟨⟨ha, hb⟩, hc, hd⟩))
theorem k13_ok : ∀ ns : List Int, ns.length ≤ 63 → (∀ z ∈ ns, z.natAbs.log2 ≤ 1048576) → k13_law ns = .ok true := fun ns hl hb => by
  unfold k13_law
  obtain ⟨c0, e0, _⟩ := l_cell_ok hb (k := 0) (by decide) (by decide)
  obtain ⟨c1, e1, _⟩ := l_cell_ok hb (k := 1) (by decide) (by decide)
  refine Ok.true (.step e0 (.bind (l_floor_ok c0) fun f hf => .one (.step (rngR_ok (by decide) (by decide) (by decide) (by decide)) (.caseU (.forU fun x hx => ?_) (.pure rfl)))))
  have hx := rng_mem hx
  obtain ⟨w, h⟩ := f
  obtain ⟨f1, f2, f3, f4⟩ := hf
  have f1 : 0 < w := f1
  have f2 : w ≤ 12 := f2
  have f3 : 0 < h := f3
  have f4 : h ≤ 12 := f4
  refine .step (mulR_ok (a := 3) (b := 10) (by decide) (by unfold S; omega) (by decide)) (.step e1 (.bind (at_all (P := fun z : Int => z ≠ 0) (xs := [1, 12, 144]) (fun z hz => by simp at hz; omega) hx.1 (by simpa using hx.2)) fun z hz => .step (fdivR_ok hz) ?_))
  refine .bind (l_side2_ok hb (by omega) (by omega)) fun e he => .one (.step (p_pieces_ok he.1 he.2 (by omega) (by omega) (by omega) (by omega) (by decide)) (.step (l_due5_ok he.1 he.2 (by omega) (by omega) (by omega) (by omega)) ?_))
  rw [decide_eq_true rfl]
  exact .pure rfl
end Pg

set_option Elab.async false
set_option linter.all false
set_option maxRecDepth 100000
set_option maxHeartbeats 0
namespace Pg
open PySem PySem.Spec PyProof.Rows L2

def dd_divisor : He.DefD := ⟨("divisor", none), "divisor", "divisor", defArgs s_divisor, defBody s_divisor, defScope s_divisor, [], []⟩
def dd_ratio : He.DefD := ⟨("ratio", none), "ratio", "ratio", defArgs s_ratio, defBody s_ratio, defScope s_ratio, [], []⟩
def dd_plus : He.DefD := ⟨("plus", none), "plus", "plus", defArgs s_plus, defBody s_plus, defScope s_plus, [], []⟩
def dd_minus : He.DefD := ⟨("minus", none), "minus", "minus", defArgs s_minus, defBody s_minus, defScope s_minus, [], []⟩
def dd_times : He.DefD := ⟨("times", none), "times", "times", defArgs s_times, defBody s_times, defScope s_times, [], []⟩
def dd_parted : He.DefD := ⟨("parted", none), "parted", "parted", defArgs s_parted, defBody s_parted, defScope s_parted, [], []⟩
def dd_under : He.DefD := ⟨("under", none), "under", "under", defArgs s_under, defBody s_under, defScope s_under, [], []⟩
def dd_whole_part : He.DefD := ⟨("whole_part", none), "whole_part", "whole_part", defArgs s_whole_part, defBody s_whole_part, defScope s_whole_part, [], []⟩
def dd_point_at : He.DefD := ⟨("point_at", none), "point_at", "point_at", defArgs s_point_at, defBody s_point_at, defScope s_point_at, [], []⟩
def dd_shares_between : He.DefD := ⟨("shares_between", none), "shares_between", "shares_between", defArgs s_shares_between, defBody s_shares_between, defScope s_shares_between, [], []⟩
def dd_put_in : He.DefD := ⟨("put_in", none), "put_in", "put_in", defArgs s_put_in, defBody s_put_in, defScope s_put_in, [], []⟩
def dd_points_on : He.DefD := ⟨("points_on", none), "points_on", "points_on", defArgs s_points_on, defBody s_points_on, defScope s_points_on, [], []⟩
def dd_middle : He.DefD := ⟨("middle", none), "middle", "middle", defArgs s_middle, defBody s_middle, defScope s_middle, [], []⟩
def dd_pieces : He.DefD := ⟨("pieces", none), "pieces", "pieces", defArgs s_pieces, defBody s_pieces, defScope s_pieces, [], []⟩
def dd__law_cell : He.DefD := ⟨("_law_cell", none), "_law_cell", "_law_cell", defArgs s__law_cell, defBody s__law_cell, defScope s__law_cell, [], []⟩
def dd__law_spread : He.DefD := ⟨("_law_spread", none), "_law_spread", "_law_spread", defArgs s__law_spread, defBody s__law_spread, defScope s__law_spread, [], []⟩
def dd__law_whole : He.DefD := ⟨("_law_whole", none), "_law_whole", "_law_whole", defArgs s__law_whole, defBody s__law_whole, defScope s__law_whole, [], []⟩
def dd__law_ratio : He.DefD := ⟨("_law_ratio", none), "_law_ratio", "_law_ratio", defArgs s__law_ratio, defBody s__law_ratio, defScope s__law_ratio, [], []⟩
def dd__law_plus : He.DefD := ⟨("_law_plus", none), "_law_plus", "_law_plus", defArgs s__law_plus, defBody s__law_plus, defScope s__law_plus, [], []⟩
def dd__law_minus : He.DefD := ⟨("_law_minus", none), "_law_minus", "_law_minus", defArgs s__law_minus, defBody s__law_minus, defScope s__law_minus, [], []⟩
def dd__law_times : He.DefD := ⟨("_law_times", none), "_law_times", "_law_times", defArgs s__law_times, defBody s__law_times, defScope s__law_times, [], []⟩
def dd__law_is : He.DefD := ⟨("_law_is", none), "_law_is", "_law_is", defArgs s__law_is, defBody s__law_is, defScope s__law_is, [], []⟩
def dd__law_number : He.DefD := ⟨("_law_number", none), "_law_number", "_law_number", defArgs s__law_number, defBody s__law_number, defScope s__law_number, [], []⟩
def dd__law_at : He.DefD := ⟨("_law_at", none), "_law_at", "_law_at", defArgs s__law_at, defBody s__law_at, defScope s__law_at, [], []⟩
def dd__law_floor : He.DefD := ⟨("_law_floor", none), "_law_floor", "_law_floor", defArgs s__law_floor, defBody s__law_floor, defScope s__law_floor, [], []⟩
def dd__law_side : He.DefD := ⟨("_law_side", none), "_law_side", "_law_side", defArgs s__law_side, defBody s__law_side, defScope s__law_side, [], []⟩
def dd__law_scaled : He.DefD := ⟨("_law_scaled", none), "_law_scaled", "_law_scaled", defArgs s__law_scaled, defBody s__law_scaled, defScope s__law_scaled, [], []⟩
def dd__law_steps : He.DefD := ⟨("_law_steps", none), "_law_steps", "_law_steps", defArgs s__law_steps, defBody s__law_steps, defScope s__law_steps, [], []⟩
def dd__law_due : He.DefD := ⟨("_law_due", none), "_law_due", "_law_due", defArgs s__law_due, defBody s__law_due, defScope s__law_due, [], []⟩
def dd_law : He.DefD := ⟨("law", none), "law", "law", defArgs s_law, defBody s_law, defScope s_law, [], []⟩
def hdFn : List He.DefD := [dd_divisor, dd_ratio, dd_plus, dd_minus, dd_times, dd_parted, dd_under, dd_whole_part, dd_point_at, dd_shares_between, dd_put_in, dd_points_on, dd_middle, dd_pieces, dd__law_cell, dd__law_spread, dd__law_whole, dd__law_ratio, dd__law_plus, dd__law_minus, dd__law_times, dd__law_is, dd__law_number, dd__law_at, dd__law_floor, dd__law_side, dd__law_scaled, dd__law_steps, dd__law_due, dd_law]
def hdEx (K : PySem.W.Frag) : Bool := conB K 3 (.ref (He.ga K "HALF")) (.tup [dI 1, dI 2]) && conB K 3 (.ref (He.ga K "NOUGHT")) (.tup [dI 0, dI 1])
theorem cd_HALF : ((.tup [dI 1, dI 2]) : D) = dQ (1 / 2 : Rat) := by show _ = D.tup [dI (1 / 2 : Rat).num, dI ((1 / 2 : Rat).den : Int)]; rw [show (1 / 2 : Rat).num = 1 by decide +kernel, show (1 / 2 : Rat).den = 2 by decide +kernel]; rfl
theorem cd_NOUGHT : ((.tup [dI 0, dI 1]) : D) = dQ (0 : Rat) := by rfl
def hdFa : List He.Fa := [.glo "divisor", .glo "ratio", .glo "plus", .glo "minus", .glo "times", .glo "parted", .glo "under", .glo "whole_part", .glo "point_at", .glo "shares_between", .glo "put_in", .glo "points_on", .glo "middle", .glo "pieces", .glo "_law_cell", .glo "_law_spread", .glo "_law_whole", .glo "_law_ratio", .glo "_law_plus", .glo "_law_minus", .glo "_law_times", .glo "_law_is", .glo "_law_number", .glo "_law_at", .glo "_law_floor", .glo "_law_side", .glo "_law_scaled", .glo "_law_steps", .glo "_law_due", .glo "law", .free "abs", .free "bool", .free "int", .free "isinstance", .free "len", .free "max", .free "range", .free "sorted", .free "tuple", .glo "HALF", .glo "NOUGHT"]
abbrev hdR : PySem.W.OpenRow := PySem.W.OpenLaw.row PySem.Challenge.rw_coverfill_k13_pieces_are_all
abbrev hdK : PySem.W.Hook := hookP 4 hdFa hdFn hdEx
def hdNames : List Str := (["CoverError", "NoRatio", "divisor", "ratio", "plus", "minus", "times", "parted", "under", "whole_part", "point_at", "NOUGHT", "HALF", "shares_between", "put_in", "points_on", "middle", "pieces", "_law_cell", "_law_spread", "_law_whole", "_law_ratio", "_law_plus", "_law_minus", "_law_times", "_law_is", "_law_number", "_law_at", "_law_floor", "_law_side"] : List Str) ++ (["_law_scaled", "_law_steps", "_law_due"] : List Str)
theorem hd_run (w : World) : HandSHeadRun.RunEq hdR (PySem.W.view hdR.prog [38]) hdK (obT 4 hdFa hdFn hdEx) 20000 hdNames w := by
  intro os
  kernel_rfl
theorem hd_facts {P : Program} {w : World} {K : PySem.W.Frag} {h : Heap} {mg : Str → Option Value} {f : Addr} (hT : P.given.tree = none) (X : K.In h) (G : h.Ns mainGlobals mg) (hfa : mg ("law" : Str) = some (.ref f)) (c : SaysP hdFa hdFn hdEx K) :
    ∃ fd : FuncData, (∀ (s : Shared) (v : Value), BindsTo s fd ⟨[v], []⟩ [("_law_script", v)]) ∧ ∀ base : Heap, K.In base → base.Ns mainGlobals mg → base.NoSeer → FnOk P w K mg base CX0 47 f fd ["_law_script"] (sp_law K) := by
  obtain ⟨fd_divisor, F_divisor⟩ := c.1.def_ 0 (d := dd_divisor) rfl
  have b_divisor : Binds K fd_divisor ["one", "other"] [] := F_divisor.bindsN fun _ _ _ _ _ _ us hl => match us, hl with | [_, _], _ => rfl
  have g_divisor := He.glo_ok X G (c.1.fact 0 (f := .glo "divisor") rfl)
  obtain ⟨fd_ratio, F_ratio⟩ := c.1.def_ 1 (d := dd_ratio) rfl
  have b_ratio : Binds K fd_ratio ["top", "bottom"] [] := F_ratio.bindsN fun _ _ _ _ _ _ us hl => match us, hl with | [_, _], _ => rfl
  have g_ratio := He.glo_ok X G (c.1.fact 1 (f := .glo "ratio") rfl)
  obtain ⟨fd_plus, F_plus⟩ := c.1.def_ 2 (d := dd_plus) rfl
  have b_plus : Binds K fd_plus ["one", "other"] [] := F_plus.bindsN fun _ _ _ _ _ _ us hl => match us, hl with | [_, _], _ => rfl
  have g_plus := He.glo_ok X G (c.1.fact 2 (f := .glo "plus") rfl)
  obtain ⟨fd_minus, F_minus⟩ := c.1.def_ 3 (d := dd_minus) rfl
  have b_minus : Binds K fd_minus ["one", "other"] [] := F_minus.bindsN fun _ _ _ _ _ _ us hl => match us, hl with | [_, _], _ => rfl
  have g_minus := He.glo_ok X G (c.1.fact 3 (f := .glo "minus") rfl)
  obtain ⟨fd_times, F_times⟩ := c.1.def_ 4 (d := dd_times) rfl
  have b_times : Binds K fd_times ["one", "other"] [] := F_times.bindsN fun _ _ _ _ _ _ us hl => match us, hl with | [_, _], _ => rfl
  have g_times := He.glo_ok X G (c.1.fact 4 (f := .glo "times") rfl)
  obtain ⟨fd_parted, F_parted⟩ := c.1.def_ 5 (d := dd_parted) rfl
  have b_parted : Binds K fd_parted ["one", "other"] [] := F_parted.bindsN fun _ _ _ _ _ _ us hl => match us, hl with | [_, _], _ => rfl
  have g_parted := He.glo_ok X G (c.1.fact 5 (f := .glo "parted") rfl)
  obtain ⟨fd_under, F_under⟩ := c.1.def_ 6 (d := dd_under) rfl
  have b_under : Binds K fd_under ["one", "other"] [] := F_under.bindsN fun _ _ _ _ _ _ us hl => match us, hl with | [_, _], _ => rfl
  have g_under := He.glo_ok X G (c.1.fact 6 (f := .glo "under") rfl)
  obtain ⟨fd_whole_part, F_whole_part⟩ := c.1.def_ 7 (d := dd_whole_part) rfl
  have b_whole_part : Binds K fd_whole_part ["one"] [] := F_whole_part.bindsN fun _ _ _ _ _ _ us hl => match us, hl with | [_], _ => rfl
  have g_whole_part := He.glo_ok X G (c.1.fact 7 (f := .glo "whole_part") rfl)
  obtain ⟨fd_point_at, F_point_at⟩ := c.1.def_ 8 (d := dd_point_at) rfl
  have b_point_at : Binds K fd_point_at ["one", "other", "share"] [] := F_point_at.bindsN fun _ _ _ _ _ _ us hl => match us, hl with | [_, _, _], _ => rfl
  have g_point_at := He.glo_ok X G (c.1.fact 8 (f := .glo "point_at") rfl)
  obtain ⟨fd_shares_between, F_shares_between⟩ := c.1.def_ 9 (d := dd_shares_between) rfl
  have b_shares_between : Binds K fd_shares_between ["one", "other", "most"] [] := F_shares_between.bindsN fun _ _ _ _ _ _ us hl => match us, hl with | [_, _, _], _ => rfl
  have g_shares_between := He.glo_ok X G (c.1.fact 9 (f := .glo "shares_between") rfl)
  obtain ⟨fd_put_in, F_put_in⟩ := c.1.def_ 10 (d := dd_put_in) rfl
  have b_put_in : Binds K fd_put_in ["row", "share"] [] := F_put_in.bindsN fun _ _ _ _ _ _ us hl => match us, hl with | [_, _], _ => rfl
  have g_put_in := He.glo_ok X G (c.1.fact 10 (f := .glo "put_in") rfl)
  obtain ⟨fd_points_on, F_points_on⟩ := c.1.def_ 11 (d := dd_points_on) rfl
  have b_points_on : Binds K fd_points_on ["width", "height", "side"] [] := F_points_on.bindsN fun _ _ _ _ _ _ us hl => match us, hl with | [_, _, _], _ => rfl
  have g_points_on := He.glo_ok X G (c.1.fact 11 (f := .glo "points_on") rfl)
  obtain ⟨fd_middle, F_middle⟩ := c.1.def_ 12 (d := dd_middle) rfl
  have b_middle : Binds K fd_middle ["one", "other"] [] := F_middle.bindsN fun _ _ _ _ _ _ us hl => match us, hl with | [_, _], _ => rfl
  have g_middle := He.glo_ok X G (c.1.fact 12 (f := .glo "middle") rfl)
  obtain ⟨fd_pieces, F_pieces⟩ := c.1.def_ 13 (d := dd_pieces) rfl
  have b_pieces : Binds K fd_pieces ["width", "height", "side"] [] := F_pieces.bindsN fun _ _ _ _ _ _ us hl => match us, hl with | [_, _, _], _ => rfl
  have g_pieces := He.glo_ok X G (c.1.fact 13 (f := .glo "pieces") rfl)
  obtain ⟨fd__law_cell, F__law_cell⟩ := c.1.def_ 14 (d := dd__law_cell) rfl
  have b__law_cell : Binds K fd__law_cell ["_law_script", "_law_k"] [] := F__law_cell.bindsN fun _ _ _ _ _ _ us hl => match us, hl with | [_, _], _ => rfl
  have g__law_cell := He.glo_ok X G (c.1.fact 14 (f := .glo "_law_cell") rfl)
  obtain ⟨fd__law_spread, F__law_spread⟩ := c.1.def_ 15 (d := dd__law_spread) rfl
  have b__law_spread : Binds K fd__law_spread ["_law_cell_here", "_law_k"] [] := F__law_spread.bindsN fun _ _ _ _ _ _ us hl => match us, hl with | [_, _], _ => rfl
  have g__law_spread := He.glo_ok X G (c.1.fact 15 (f := .glo "_law_spread") rfl)
  obtain ⟨fd__law_whole, F__law_whole⟩ := c.1.def_ 16 (d := dd__law_whole) rfl
  have b__law_whole : Binds K fd__law_whole ["_law_found"] [] := F__law_whole.bindsN fun _ _ _ _ _ _ us hl => match us, hl with | [_], _ => rfl
  have g__law_whole := He.glo_ok X G (c.1.fact 16 (f := .glo "_law_whole") rfl)
  obtain ⟨fd__law_ratio, F__law_ratio⟩ := c.1.def_ 17 (d := dd__law_ratio) rfl
  have b__law_ratio : Binds K fd__law_ratio ["_law_top", "_law_bottom"] [] := F__law_ratio.bindsN fun _ _ _ _ _ _ us hl => match us, hl with | [_, _], _ => rfl
  have g__law_ratio := He.glo_ok X G (c.1.fact 17 (f := .glo "_law_ratio") rfl)
  obtain ⟨fd__law_plus, F__law_plus⟩ := c.1.def_ 18 (d := dd__law_plus) rfl
  have b__law_plus : Binds K fd__law_plus ["_law_one", "_law_other"] [] := F__law_plus.bindsN fun _ _ _ _ _ _ us hl => match us, hl with | [_, _], _ => rfl
  have g__law_plus := He.glo_ok X G (c.1.fact 18 (f := .glo "_law_plus") rfl)
  obtain ⟨fd__law_minus, F__law_minus⟩ := c.1.def_ 19 (d := dd__law_minus) rfl
  have b__law_minus : Binds K fd__law_minus ["_law_one", "_law_other"] [] := F__law_minus.bindsN fun _ _ _ _ _ _ us hl => match us, hl with | [_, _], _ => rfl
  have g__law_minus := He.glo_ok X G (c.1.fact 19 (f := .glo "_law_minus") rfl)
  obtain ⟨fd__law_times, F__law_times⟩ := c.1.def_ 20 (d := dd__law_times) rfl
  have b__law_times : Binds K fd__law_times ["_law_one", "_law_other"] [] := F__law_times.bindsN fun _ _ _ _ _ _ us hl => match us, hl with | [_, _], _ => rfl
  have g__law_times := He.glo_ok X G (c.1.fact 20 (f := .glo "_law_times") rfl)
  obtain ⟨fd__law_is, F__law_is⟩ := c.1.def_ 21 (d := dd__law_is) rfl
  have b__law_is : Binds K fd__law_is ["_law_found", "_law_due_here"] [] := F__law_is.bindsN fun _ _ _ _ _ _ us hl => match us, hl with | [_, _], _ => rfl
  have g__law_is := He.glo_ok X G (c.1.fact 21 (f := .glo "_law_is") rfl)
  obtain ⟨fd__law_number, F__law_number⟩ := c.1.def_ 22 (d := dd__law_number) rfl
  have b__law_number : Binds K fd__law_number ["_law_cell_here"] [] := F__law_number.bindsN fun _ _ _ _ _ _ us hl => match us, hl with | [_], _ => rfl
  have g__law_number := He.glo_ok X G (c.1.fact 22 (f := .glo "_law_number") rfl)
  obtain ⟨fd__law_at, F__law_at⟩ := c.1.def_ 23 (d := dd__law_at) rfl
  have b__law_at : Binds K fd__law_at ["_law_script", "_law_k"] [] := F__law_at.bindsN fun _ _ _ _ _ _ us hl => match us, hl with | [_, _], _ => rfl
  have g__law_at := He.glo_ok X G (c.1.fact 23 (f := .glo "_law_at") rfl)
  obtain ⟨fd__law_floor, F__law_floor⟩ := c.1.def_ 24 (d := dd__law_floor) rfl
  have b__law_floor : Binds K fd__law_floor ["_law_cell_here"] [] := F__law_floor.bindsN fun _ _ _ _ _ _ us hl => match us, hl with | [_], _ => rfl
  have g__law_floor := He.glo_ok X G (c.1.fact 24 (f := .glo "_law_floor") rfl)
  obtain ⟨fd__law_side, F__law_side⟩ := c.1.def_ 25 (d := dd__law_side) rfl
  have b__law_side : Binds K fd__law_side ["_law_script", "_law_at_here", "_law_cell_here"] [] := F__law_side.bindsN fun _ _ _ _ _ _ us hl => match us, hl with | [_, _, _], _ => rfl
  have g__law_side := He.glo_ok X G (c.1.fact 25 (f := .glo "_law_side") rfl)
  obtain ⟨fd__law_scaled, F__law_scaled⟩ := c.1.def_ 26 (d := dd__law_scaled) rfl
  have b__law_scaled : Binds K fd__law_scaled ["_law_side_here"] [] := F__law_scaled.bindsN fun _ _ _ _ _ _ us hl => match us, hl with | [_], _ => rfl
  have g__law_scaled := He.glo_ok X G (c.1.fact 26 (f := .glo "_law_scaled") rfl)
  obtain ⟨fd__law_steps, F__law_steps⟩ := c.1.def_ 27 (d := dd__law_steps) rfl
  have b__law_steps : Binds K fd__law_steps ["_law_bottom", "_law_one", "_law_other", "_law_floor_here"] [] := F__law_steps.bindsN fun _ _ _ _ _ _ us hl => match us, hl with | [_, _, _, _], _ => rfl
  have g__law_steps := He.glo_ok X G (c.1.fact 27 (f := .glo "_law_steps") rfl)
  obtain ⟨fd__law_due, F__law_due⟩ := c.1.def_ 28 (d := dd__law_due) rfl
  have b__law_due : Binds K fd__law_due ["_law_side_here", "_law_floor_here"] [] := F__law_due.bindsN fun _ _ _ _ _ _ us hl => match us, hl with | [_, _], _ => rfl
  have g__law_due := He.glo_ok X G (c.1.fact 28 (f := .glo "_law_due") rfl)
  obtain ⟨fd_law, F_law⟩ := c.1.def_ 29 (d := dd_law) rfl
  have z_abs := He.free_ok X G (c.1.fact 30 (f := .free "abs") rfl)
  have z_bool := He.free_ok X G (c.1.fact 31 (f := .free "bool") rfl)
  have z_int := He.free_ok X G (c.1.fact 32 (f := .free "int") rfl)
  have z_isinstance := He.free_ok X G (c.1.fact 33 (f := .free "isinstance") rfl)
  have z_len := He.free_ok X G (c.1.fact 34 (f := .free "len") rfl)
  have z_max := He.free_ok X G (c.1.fact 35 (f := .free "max") rfl)
  have z_range := He.free_ok X G (c.1.fact 36 (f := .free "range") rfl)
  have z_sorted := He.free_ok X G (c.1.fact 37 (f := .free "sorted") rfl)
  have z_tuple := He.free_ok X G (c.1.fact 38 (f := .free "tuple") rfl)
  have c_HALF := con_ok (x := "HALF") X G (c.1.fact 39 (f := .glo "HALF") rfl) ((Bool.and_eq_true_iff.mp (c.2)).1)
  rw [cd_HALF] at c_HALF
  have c_NOUGHT := con_ok (x := "NOUGHT") X G (c.1.fact 40 (f := .glo "NOUGHT") rfl) ((Bool.and_eq_true_iff.mp (c.2)).2)
  rw [cd_NOUGHT] at c_NOUGHT
  have e := hfa.symm.trans (He.glo_ok X G (c.1.fact 29 (f := .glo "law") rfl))
  cases e
  have b := FunD.bindsA (ps := ["_law_script"]) F_law fun _ _ _ _ _ _ us hl => match us, hl with | [_], _ => rfl
  refine ⟨fd_law, fun s v => b s [v] rfl, fun base hB hN hS => ?_⟩
  have G_divisor : FnOk P w K mg base CX0 41 _ fd_divisor ["one", "other"] (sp_divisor K) := ok_divisor F_divisor
  have G_ratio : FnOk P w K mg base CX0 42 _ fd_ratio ["top", "bottom"] (sp_ratio K) := ok_ratio F_ratio F_divisor b_divisor g_divisor G_divisor z_abs hS hT
  have G_plus : FnOk P w K mg base CX0 43 _ fd_plus ["one", "other"] (sp_plus K) := ok_plus F_plus F_ratio b_ratio g_ratio G_ratio
  have G_minus : FnOk P w K mg base CX0 43 _ fd_minus ["one", "other"] (sp_minus K) := ok_minus F_minus F_ratio b_ratio g_ratio G_ratio
  have G_times : FnOk P w K mg base CX0 43 _ fd_times ["one", "other"] (sp_times K) := ok_times F_times F_ratio b_ratio g_ratio G_ratio
  have G_parted : FnOk P w K mg base CX0 43 _ fd_parted ["one", "other"] (sp_parted K) := ok_parted F_parted F_ratio b_ratio g_ratio G_ratio
  have G_under : FnOk P w K mg base CX0 41 _ fd_under ["one", "other"] (sp_under K) := ok_under F_under
  have G_whole_part : FnOk P w K mg base CX0 41 _ fd_whole_part ["one"] (sp_whole_part K) := ok_whole_part F_whole_part hS hT
  have G_point_at : FnOk P w K mg base CX0 44 _ fd_point_at ["one", "other", "share"] (sp_point_at K) := ok_point_at F_point_at F_minus b_minus g_minus F_plus b_plus g_plus F_times b_times g_times G_minus G_plus G_times
  have G_shares_between : FnOk P w K mg base CX0 44 _ fd_shares_between ["one", "other", "most"] (sp_shares_between K) := ok_shares_between F_shares_between F_minus b_minus g_minus F_parted b_parted g_parted F_under b_under g_under G_minus G_parted G_under z_range c_NOUGHT
  have G_put_in : FnOk P w K mg base CX0 42 _ fd_put_in ["row", "share"] (sp_put_in K) := ok_put_in F_put_in F_under b_under g_under G_under z_len z_range
  have G_points_on : FnOk P w K mg base CX0 45 _ fd_points_on ["width", "height", "side"] (sp_points_on K) := ok_points_on F_points_on F_point_at b_point_at g_point_at F_put_in b_put_in g_put_in F_shares_between b_shares_between g_shares_between G_point_at G_put_in G_shares_between
  have G_middle : FnOk P w K mg base CX0 44 _ fd_middle ["one", "other"] (sp_middle K) := ok_middle F_middle F_plus b_plus g_plus F_times b_times g_times G_plus G_times c_HALF
  have G_pieces : FnOk P w K mg base CX0 46 _ fd_pieces ["width", "height", "side"] (sp_pieces K) := ok_pieces F_pieces F_middle b_middle g_middle F_points_on b_points_on g_points_on F_whole_part b_whole_part g_whole_part G_middle G_points_on G_whole_part z_len z_max z_range
  have G__law_cell : FnOk P w K mg base CX0 41 _ fd__law_cell ["_law_script", "_law_k"] (sp__law_cell K) := ok__law_cell F__law_cell z_len hS hT
  have G__law_spread : FnOk P w K mg base CX0 41 _ fd__law_spread ["_law_cell_here", "_law_k"] (sp__law_spread K) := ok__law_spread F__law_spread
  have G__law_whole : FnOk P w K mg base CX0 41 _ fd__law_whole ["_law_found"] (sp__law_whole K) := ok__law_whole F__law_whole z_bool z_int z_isinstance
  have G__law_ratio : FnOk P w K mg base CX0 41 _ fd__law_ratio ["_law_top", "_law_bottom"] (sp__law_ratio K) := ok__law_ratio F__law_ratio z_abs hS hT
  have G__law_plus : FnOk P w K mg base CX0 42 _ fd__law_plus ["_law_one", "_law_other"] (sp__law_plus K) := ok__law_plus F__law_plus F__law_ratio b__law_ratio g__law_ratio G__law_ratio
  have G__law_minus : FnOk P w K mg base CX0 42 _ fd__law_minus ["_law_one", "_law_other"] (sp__law_minus K) := ok__law_minus F__law_minus F__law_ratio b__law_ratio g__law_ratio G__law_ratio
  have G__law_times : FnOk P w K mg base CX0 42 _ fd__law_times ["_law_one", "_law_other"] (sp__law_times K) := ok__law_times F__law_times F__law_ratio b__law_ratio g__law_ratio G__law_ratio
  have G__law_is : FnOk P w K mg base CX0 42 _ fd__law_is ["_law_found", "_law_due_here"] (sp__law_is K) := ok__law_is F__law_is F__law_whole b__law_whole g__law_whole G__law_whole z_isinstance z_len z_tuple
  have G__law_number : FnOk P w K mg base CX0 42 _ fd__law_number ["_law_cell_here"] (sp__law_number K) := ok__law_number F__law_number F__law_ratio b__law_ratio g__law_ratio G__law_ratio hS hT
  have G__law_at : FnOk P w K mg base CX0 43 _ fd__law_at ["_law_script", "_law_k"] (sp__law_at K) := ok__law_at F__law_at F__law_cell b__law_cell g__law_cell F__law_number b__law_number g__law_number F__law_spread b__law_spread g__law_spread G__law_cell G__law_number G__law_spread
  have G__law_floor : FnOk P w K mg base CX0 41 _ fd__law_floor ["_law_cell_here"] (sp__law_floor K) := ok__law_floor F__law_floor hS hT
  have G__law_side : FnOk P w K mg base CX0 44 _ fd__law_side ["_law_script", "_law_at_here", "_law_cell_here"] (sp__law_side K) := ok__law_side F__law_side F__law_at b__law_at g__law_at G__law_at hS hT
  have G__law_scaled : FnOk P w K mg base CX0 41 _ fd__law_scaled ["_law_side_here"] (sp__law_scaled K) := ok__law_scaled F__law_scaled hS hT
  have G__law_steps : FnOk P w K mg base CX0 41 _ fd__law_steps ["_law_bottom", "_law_one", "_law_other", "_law_floor_here"] (sp__law_steps K) := ok__law_steps F__law_steps z_abs z_max z_range z_sorted hS hT
  have G__law_due : FnOk P w K mg base CX0 42 _ fd__law_due ["_law_side_here", "_law_floor_here"] (sp__law_due K) := ok__law_due F__law_due F__law_ratio b__law_ratio g__law_ratio F__law_scaled b__law_scaled g__law_scaled F__law_steps b__law_steps g__law_steps G__law_ratio G__law_scaled G__law_steps z_len z_max z_range z_tuple hS hT
  exact ok_law F_law F__law_cell b__law_cell g__law_cell F__law_due b__law_due g__law_due F__law_floor b__law_floor g__law_floor F__law_side b__law_side g__law_side F_pieces b_pieces g_pieces G__law_cell G__law_due G__law_floor G__law_side G_pieces z_range hS hT
end Pg
open PySem PySem.W PySem.Calls PyProof.Rows
theorem PySem.Challenge.cw_coverfill_k13_pieces_are_all_holds : PySem.Challenge.rw_coverfill_k13_pieces_are_all.Holds := by
  w_on; o_law
  refine HandSHeadRun.head_any (r := OpenLaw.row PySem.Challenge.rw_coverfill_k13_pieces_are_all) (q := view (OpenLaw.row PySem.Challenge.rw_coverfill_k13_pieces_are_all).prog [38]) (H := Pg.hdK) (ob := Pg.obT 4 Pg.hdFa Pg.hdFn Pg.hdEx) (M := 20000) (loose := Pg.hdNames) (d := HandSHeadRun.topDef (OpenLaw.row PySem.Challenge.rw_coverfill_k13_pieces_are_all).prog 38) (kwd := []) Pg.obT_eq
    (by kernel_rfl) (fun s => by kernel_rfl) Pg.hd_run (by kernel_rfl) (by kernel_rfl) (by kernel_rfl) (by rfl) (by first | assumption | decide +kernel) (by decide +kernel) ⟨rfl, rfl, rfl, rfl, rfl, by decide +kernel⟩ ?hw ?hc
  case hw => w_witness2
  case hc =>
    refine Pg.walk_ofP (l := PySem.Challenge.rw_coverfill_k13_pieces_are_all) (n := 63) (k := 47) (x := "_law_script") (CX := L2.CX0) rfl (by decide) (by kernel_rfl) ⟨rfl, by decide, by decide⟩ (by decide +kernel) ?F (fun _ _ _ _ z => z)
    intro w mg fa h Y G hmg0
    obtain ⟨K, KX, c⟩ := Y
    have hmg : mg ("law" : PySem.Str) = some (.ref fa) := by
      have e : (HandSHeadRun.topDef (OpenLaw.row PySem.Challenge.rw_coverfill_k13_pieces_are_all).prog 38).name = ("law" : PySem.Str) := by kernel_rfl
      rw [← e]
      exact hmg0
    obtain ⟨fd, hb, hF⟩ := Pg.hd_facts (P := (PySem.Challenge.rw_coverfill_k13_pieces_are_all).prog) (w := w) rfl KX G hmg c
    exact ⟨K, fd, Pg.sp_law K, KX, hb, fun H a ns hl hbits _ hS => Pg.law_sp Pg.k13_ok H a ns hl hbits hS, hF⟩

