import PyProof.Rows.All
import Wide.All
import OpenK.AllK
import Wide.FinOn
import HandS.ForMost
import HandS.IsInst
import HandS.Wide
import HandS.TupAny
import HandS.Rev
import HandS.Zip
import HandS.Defaults
import HandS.ExcOwn
import HandS.ExcIs
import HandS.ExcValue
import HandS.WordsExc
import HandS.TryOnly
import HandS.EndBits
import HandS.HeadEnd
import KE.KStateDown
import HandS.Head0
import HandS.Head1
import HandS.Head2
import HandS.HeadHook1
import HandS.HeadHook2
import HandS.More
import HandS.Steps
import PyProof.ListRange
import HandS.RevTup
import HandS.MakeKw
import PyProof.ExcBaseAll.ValueError
import PySem.Challenge.RW_coverfill_k05_no_ratio
set_option Elab.async false
set_option linter.all false
/-! Pg: outcomes; core Lean alone. -/
namespace Pg

/-! ### outcomes -/
inductive R (α : Type) where
  | ok (a : α)
  | err (n : Nat)
  | bad
namespace R
def bind {α β : Type} (m : R α) (k : α → R β) : R β := match m with
  | ok a => k a
  | err n => err n
  | bad => bad
theorem bind_inv {α β : Type} {m : R α} {k : α → R β} {b : β} (h : bind m k = ok b) : ∃ a, m = ok a ∧ k a = ok b := by
  cases m with
  | ok a => exact ⟨a, rfl, h⟩
  | err n => exact nomatch h
  | bad => exact nomatch h
theorem ok_inj {α : Type} {a b : α} (h : ok a = ok b) : a = b := by injection h
def forR {α S : Type} (f : α → S → R S) : List α → S → R S
  | [], s => ok s
  | x :: xs, s => bind (f x s) fun s' => forR f xs s'
def forX {α S β : Type} (f : α → S → R (Sum S β)) : List α → S → R (Sum S β)
  | [], s => ok (.inl s)
  | x :: xs, s => bind (f x s) fun r => match r with
    | .inl s' => forX f xs s'
    | .inr b => ok (.inr b)
def mapR {α β : Type} (f : α → R β) : List α → R (List β)
  | [] => ok []
  | x :: xs => bind (f x) fun y => bind (mapR f xs) fun ys => ok (y :: ys)
/-- with a test -/
def mapIf {α β : Type} (p : α → R Bool) (f : α → R β) : List α → R (List β)
  | [] => ok []
  | x :: xs => bind (p x) fun b => if b = true then bind (f x) fun y => bind (mapIf p f xs) fun ys => ok (y :: ys) else mapIf p f xs
def andR (c : Bool) (m : R Bool) : R Bool := if c = true then m else ok false
def orR (c : Bool) (m : R Bool) : R Bool := if c = true then ok true else m
def compR {α β : Type} (f : α → R β) (xs : List α) : R (List β) := if xs.length < 16777216 then mapR f xs else bad
def compIf {α β : Type} (p : α → R Bool) (f : α → R β) (xs : List α) : R (List β) := if xs.length < 16777216 then mapIf p f xs else bad
def caseX {S β γ : Type} (r : Sum S β) (k1 : S → R γ) (k2 : β → R γ) : R γ := match r with
  | .inl s => k1 s
  | .inr b => k2 b
theorem case_l {S β γ : Type} {s : S} {k1 : S → R γ} {k2 : β → R γ} {c : R γ} (h : caseX (.inl s) k1 k2 = c) : k1 s = c := h
theorem case_r {S β γ : Type} {b : β} {k1 : S → R γ} {k2 : β → R γ} {c : R γ} (h : caseX (.inr b) k1 k2 = c) : k2 b = c := h
end R
theorem if_t {α : Type} {c : Bool} {a b : α} {r : α} (hc : c = true) (h : (if c = true then a else b) = r) : a = r := by rw [if_pos hc] at h; exact h
theorem if_f {α : Type} {c : Bool} {a b : α} {r : α} (hc : c = false) (h : (if c = true then a else b) = r) : b = r := by rw [if_neg (by rw [hc]; decide)] at h; exact h
def mulR (i j : Int) : R Int := if i.natAbs.log2 + j.natAbs.log2 < 134000000 then .ok (i * j) else .bad
def fdivR (i j : Int) : R Int := if j = 0 then .bad else .ok (i.fdiv j)
def fmodR (i j : Int) : R Int := if j = 0 then .bad else .ok (i.fmod j)
/-- the place of a Python index -/
def ixP (n : Nat) (i : Int) : Option Nat := if 0 ≤ i then (if i < n then some i.toNat else none) else (if 0 ≤ i + n then some (i + n).toNat else none)
def atR {α : Type} (xs : List α) (i : Int) : R α := match ixP xs.length i with
  | some k => (match xs[k]? with
    | some x => .ok x
    | none => .bad)
  | none => .bad
def appR {α : Type} (xs : List α) (x : α) : R (List α) := if xs.length < 16777216 then .ok (xs ++ [x]) else .bad
def setR {α : Type} (xs : List α) (i : Int) (x : α) : R (List α) := match ixP xs.length i with
  | some k => .ok (xs.set k x)
  | none => .bad
def catR {α : Type} (xs ys : List α) : R (List α) := if xs.length + ys.length ≤ 16777216 then .ok (xs ++ ys) else .bad
def rngR (i j : Int) : R (List Int) := if -(2 ^ 62) ≤ i ∧ i < 2 ^ 62 ∧ -(2 ^ 62) ≤ j ∧ j < 2 ^ 62 then .ok ((List.range (j - i).toNat).map fun k => i + (k : Nat)) else .bad


/-- the clamped end of a slice -/
def sIxP (n d : Nat) (o : Option Int) : Nat := match o with
  | none => d
  | some i => if i < 0 then (i + n).toNat else min i.toNat n
def cutL {α : Type} (xs : List α) (lo hi : Option Int) : List α := (xs.drop (sIxP xs.length 0 lo)).take (sIxP xs.length xs.length hi - sIxP xs.length 0 lo)
def absZ (i : Int) : Int := if i < 0 then -i else i
def maxZ (i j : Int) : Int := if j > i then j else i
def minZ (i j : Int) : Int := if j < i then j else i
/-- a tuple of two whole numbers as a ratio -/
def mkQ (a b : Int) : R Rat := if h : 0 < b ∧ a.natAbs.Coprime b.toNat then .ok ⟨a, b.toNat, by omega, h.2⟩ else .bad
def gcdR (a b : Int) : R Int := if 0 ≤ a ∧ 0 ≤ b then .ok (Int.gcd a b : Nat) else .bad
end Pg

set_option Elab.async false
set_option linter.all false
set_option maxRecDepth 100000
/-! Pg: data over the hand layer. A datum D stands at a value in a frozen part F of the heap; an abstract frame holds data and own lists. -/
namespace Pg
open PySem PySem.Spec PyProof.Rows L2

/-! ### data -/
inductive D where
  | v (x : V)
  | tup (ds : List D)
  | lst (ds : List D)
  | ins (C : Addr) (fs : List (Str × D))
  | hp (k : List L2.Key)
  | ob (φ : Addr → Heap → Prop)
abbrev dI (i : Int) : D := .v (.int i)
abbrev dB (b : Bool) : D := .v (.bl b)
abbrev dS (s : Str) : D := .v (.str s)
abbrev dN (_ : Unit) : D := .v .non
abbrev dQ (q : Rat) : D := .tup [dI q.num, dI (q.den : Int)]
abbrev d2 {α β : Type} (f : α → D) (g : β → D) (x : α × β) : D := .tup [f x.1, g x.2]
abbrev d3 {α β γ : Type} (f : α → D) (g : β → D) (h : γ → D) (x : α × β × γ) : D := .tup [f x.1, g x.2.1, h x.2.2]
abbrev d4 {α β γ δ : Type} (f : α → D) (g : β → D) (h : γ → D) (k : δ → D) (x : α × β × γ × δ) : D := .tup [f x.1, g x.2.1, h x.2.2.1, k x.2.2.2]
abbrev d5 {α β γ δ ε : Type} (f : α → D) (g : β → D) (h : γ → D) (k : δ → D) (l : ε → D) (x : α × β × γ × δ × ε) : D := .tup [f x.1, g x.2.1, h x.2.2.1, k x.2.2.2.1, l x.2.2.2.2]
abbrev dL {α : Type} (f : α → D) (xs : List α) : D := .lst (xs.map f)
abbrev dT {α : Type} (f : α → D) (xs : List α) : D := .tup (xs.map f)

mutual
inductive Dat (K : PySem.W.Frag) (F : Hp) : V → D → Prop
  | v (x : V) : Dat K F x (.v x)
  | tup {a : Addr} {xs : List V} {ds : List D} : SqT K F a xs → Dats K F xs ds → Dat K F (.ref a) (.tup ds)
  | lst {a : Addr} {xs : List V} {ds : List D} : SqL K F a xs → Dats K F xs ds → Dat K F (.ref a) (.lst ds)
  | ins {a C dx : Addr} {us : List (Str × V)} {fs : List (Str × D)} : F a = some (.ins C dx us) → Datf K F us fs → Dat K F (.ref a) (.ins C fs)
  | hp {a : Addr} {k : List L2.Key} : F a = some (.tup (k.map kV)) → Dat K F (.ref a) (.hp k)
  | ob {a : Addr} {φ : Addr → Heap → Prop} : F a = some (.ext (φ a)) → Dat K F (.ref a) (.ob φ)
inductive Dats (K : PySem.W.Frag) (F : Hp) : List V → List D → Prop
  | nil : Dats K F [] []
  | cons {v : V} {vs : List V} {d : D} {ds : List D} : Dat K F v d → Dats K F vs ds → Dats K F (v :: vs) (d :: ds)
inductive Datf (K : PySem.W.Frag) (F : Hp) : List (Str × V) → List (Str × D) → Prop
  | nil : Datf K F [] []
  | cons {f : Str} {v : V} {vs : List (Str × V)} {d : D} {ds : List (Str × D)} : Dat K F v d → Datf K F vs ds → Datf K F ((f, v) :: vs) ((f, d) :: ds)
end
section
variable {K : PySem.W.Frag} {F F' H H' : Hp}
theorem _root_.L2.Same.sqt {H H' : Hp} {a : Addr} {xs : List V} (e : Same H H') (h : SqT K H a xs) : SqT K H' a xs :=
  h.imp_left (Or.imp (e _ _) fun ⟨o, x⟩ => ⟨o, e _ _ x⟩)
mutual
theorem Dat.mono (s : Same F F') : ∀ {v : V} {d : D}, Dat K F v d → Dat K F' v d
  | _, _, .v x => .v x
  | _, _, .tup a b => .tup (s.sqt a) (Dats.mono s b)
  | _, _, .lst a b => .lst (s.seq a) (Dats.mono s b)
  | _, _, .ins a b => .ins (s _ _ a) (Datf.mono s b)
  | _, _, .hp a => .hp (s _ _ a)
  | _, _, .ob a => .ob (s _ _ a)
theorem Dats.mono (s : Same F F') : ∀ {vs : List V} {ds : List D}, Dats K F vs ds → Dats K F' vs ds
  | _, _, .nil => .nil
  | _, _, .cons a b => .cons (Dat.mono s a) (Dats.mono s b)
theorem Datf.mono (s : Same F F') : ∀ {vs : List (Str × V)} {ds : List (Str × D)}, Datf K F vs ds → Datf K F' vs ds
  | _, _, .nil => .nil
  | _, _, .cons a b => .cons (Dat.mono s a) (Datf.mono s b)
end
theorem Dat.up {v : V} {d : D} (h : Dat K F v d) (s : Same F F') : Dat K F' v d := Dat.mono s h
theorem Dats.up {v : List V} {d : List D} (h : Dats K F v d) (s : Same F F') : Dats K F' v d := Dats.mono s h
theorem Datf.up {v : List (Str × V)} {d : List (Str × D)} (h : Datf K F v d) (s : Same F F') : Datf K F' v d := Datf.mono s h
theorem Datf.lookup : ∀ {us : List (Str × V)} {fs : List (Str × D)} {f : Str} {d : D}, Datf K F us fs → fs.lookup f = some d → ∃ v, us.lookup f = some v ∧ Dat K F v d
  | _, _, _, _, .nil, e => by simp at e
  | _, _, f, d, .cons (f := g) a b, e => by
    rw [List.lookup_cons] at e ⊢
    by_cases h : f == g
    · rw [h] at e ⊢
      simp at e
      subst e
      exact ⟨_, rfl, a⟩
    · have h : (f == g) = false := by simpa using h
      rw [h] at e ⊢
      exact Datf.lookup b e
theorem Datf.none : ∀ {us : List (Str × V)} {fs : List (Str × D)} {f : Str}, Datf K F us fs → fs.lookup f = none → us.lookup f = none
  | _, _, _, .nil, _ => by simp
  | _, _, f, .cons (f := g) a b, e => by
    rw [List.lookup_cons] at e ⊢
    by_cases h : f == g
    · rw [h] at e; simp at e
    · have h : (f == g) = false := by simpa using h
      rw [h] at e ⊢
      exact Datf.none b e
theorem Dats.length : ∀ {vs : List V} {ds : List D}, Dats K F vs ds → vs.length = ds.length
  | _, _, .nil => rfl
  | _, _, .cons _ b => by rw [List.length_cons, List.length_cons, b.length]
theorem Dats.get : ∀ {vs : List V} {ds : List D} {i : Nat} {d : D}, Dats K F vs ds → ds[i]? = some d → ∃ v, vs[i]? = some v ∧ Dat K F v d
  | _, _, _, _, .nil, e => by simp at e
  | _, _, 0, _, .cons a _, e => by simp at e; subst e; exact ⟨_, rfl, a⟩
  | _, _, i + 1, d, .cons _ b, e => by
    obtain ⟨v, h1, h2⟩ := Dats.get (i := i) (d := d) b (by simpa using e)
    exact ⟨v, by simpa using h1, h2⟩
theorem Dats.append : ∀ {vs ws : List V} {ds es : List D}, Dats K F vs ds → Dats K F ws es → Dats K F (vs ++ ws) (ds ++ es)
  | _, _, _, _, .nil, h => h
  | _, _, _, _, .cons a b, h => .cons a (Dats.append b h)
theorem Dats.set : ∀ {vs : List V} {ds : List D} (i : Nat) {v : V} {d : D}, Dats K F vs ds → Dat K F v d → Dats K F (vs.set i v) (ds.set i d)
  | _, _, _, _, _, .nil, _ => .nil
  | _, _, 0, _, _, .cons _ b, h => .cons h b
  | _, _, i + 1, _, _, .cons a b, h => .cons a (Dats.set i b h)
theorem Dats.take : ∀ {vs : List V} {ds : List D} (n : Nat), Dats K F vs ds → Dats K F (vs.take n) (ds.take n)
  | _, _, 0, _ => .nil
  | _, _, _ + 1, .nil => .nil
  | _, _, n + 1, .cons a b => .cons a (Dats.take n b)
theorem Dats.drop : ∀ {vs : List V} {ds : List D} (n : Nat), Dats K F vs ds → Dats K F (vs.drop n) (ds.drop n)
  | _, _, 0, h => h
  | _, _, _ + 1, .nil => .nil
  | _, _, n + 1, .cons _ b => Dats.drop n b
theorem Dats.reverse : ∀ {vs : List V} {ds : List D}, Dats K F vs ds → Dats K F vs.reverse ds.reverse
  | _, _, .nil => .nil
  | _, _, .cons a b => by rw [List.reverse_cons, List.reverse_cons]; exact (Dats.reverse b).append (.cons a .nil)

/-! ### what is owned -/
structure Own (F H : Hp) (O : List (Addr × HO)) : Prop where
  same : Same F H
  nd : (O.map (·.1)).Nodup
  has : ∀ p ∈ O, F p.1 = none ∧ H p.1 = some p.2
variable {O O' A B : List (Addr × HO)} {p : Addr} {o o' : HO}
theorem Own.sub (h : Own F H O) (s : O'.Sublist O) : Own F H O' := ⟨h.same, h.nd.sublist (s.map _), fun p hp => h.has p (s.subset hp)⟩
theorem Own.perm (h : Own F H O) (s : O.Perm O') : Own F H O' := ⟨h.same, (s.map _).nodup_iff.mp h.nd, fun p hp => h.has p (s.mem_iff.mpr hp)⟩
theorem Own.free (h : Own F H O) (n : H p = none) : F p = none := h.same.free n
theorem Own.new (h : Own F H O) (n : H p = none) : Own F (upd H p o) ((p, o) :: O) where
  same := fun b u e => by rw [upd_ne (ne_of_none (h.same b u e) n)]; exact h.same b u e
  nd := by
    rw [List.map_cons, List.nodup_cons]
    refine ⟨fun hm => ?_, h.nd⟩
    obtain ⟨q, hq, e⟩ := List.mem_map.mp hm
    have := (h.has q hq).2
    rw [e, n] at this; cases this
  has := fun q hq => by
    rcases List.mem_cons.mp hq with rfl | hq
    · exact ⟨h.free n, upd_same⟩
    · obtain ⟨h1, h2⟩ := h.has q hq
      exact ⟨h1, by rw [upd_ne (ne_of_none h2 n)]; exact h2⟩
/-- a new frozen object -/
theorem Own.newF (h : Own F H O) (n : H p = none) : Own (upd F p o) (upd H p o) O ∧ Same F (upd F p o) := by
  refine ⟨⟨fun b u e => ?_, h.nd, fun q hq => ?_⟩, fun b u e => ?_⟩
  · by_cases hb : b = p
    · subst hb; rw [upd_same] at e ⊢; exact e
    · rw [upd_ne hb] at e ⊢; exact h.same b u e
  · obtain ⟨h1, h2⟩ := h.has q hq
    have hne := ne_of_none h2 n
    exact ⟨by rw [upd_ne hne]; exact h1, by rw [upd_ne hne]; exact h2⟩
  · rw [upd_ne (ne_of_none e (h.free n))]; exact e
theorem Own.frz (h : Own F H ((p, o) :: O)) : Own (upd F p o) H O ∧ Same F (upd F p o) := by
  have hp := h.has (p, o) List.mem_cons_self
  have nd := h.nd
  rw [List.map_cons, List.nodup_cons] at nd
  refine ⟨⟨fun b u e => ?_, nd.2, fun q hq => ?_⟩, fun b u e => ?_⟩
  · by_cases hb : b = p
    · subst hb; rw [upd_same] at e; rw [← e]; exact hp.2
    · rw [upd_ne hb] at e; exact h.same b u e
  · obtain ⟨h1, h2⟩ := h.has q (List.mem_cons_of_mem _ hq)
    have hne : q.1 ≠ p := fun e => nd.1 (List.mem_map.mpr ⟨q, hq, e⟩)
    exact ⟨by rw [upd_ne hne]; exact h1, h2⟩
  · rw [upd_ne (ne_of_none e hp.1)]; exact e
theorem Own.put (h : Own F H ((p, o) :: O)) : Own F (upd H p o') ((p, o') :: O) := by
  have hp := h.has (p, o) List.mem_cons_self
  have nd := h.nd
  rw [List.map_cons, List.nodup_cons] at nd
  refine ⟨fun b u e => ?_, by rw [List.map_cons, List.nodup_cons]; exact nd, fun q hq => ?_⟩
  · rw [upd_ne (ne_of_none e hp.1)]; exact h.same b u e
  · rcases List.mem_cons.mp hq with rfl | hq
    · exact ⟨hp.1, upd_same⟩
    · obtain ⟨h1, h2⟩ := h.has q (List.mem_cons_of_mem _ hq)
      have hne : q.1 ≠ p := fun e => nd.1 (List.mem_map.mpr ⟨q, hq, e⟩)
      exact ⟨h1, by rw [upd_ne hne]; exact h2⟩
theorem Own.mid (h : Own F H (A ++ (p, o) :: B)) : Own F H ((p, o) :: (A ++ B)) := h.perm List.perm_middle
theorem Own.unmid (h : Own F H ((p, o) :: (A ++ B))) : Own F H (A ++ (p, o) :: B) := h.perm List.perm_middle.symm
theorem Own.refl (H : Hp) : Own H H [] := ⟨Same.refl H, List.nodup_nil, fun _ h => nomatch h⟩

/-! ### what is owned as a tree; a node may be told by its address -/
inductive T where
  | dat (d : D)
  | lst (a : Option Addr) (ts : List T)
  | ins (a : Option Addr) (C : Addr) (fs : List (Str × T))
  | dK (a : Option Addr) (kvs : List (L2.Key × D))
  | dT (a : Option Addr) (kvs : List (List L2.Key × D))
  | adr (q : Addr)
abbrev Nm (a : Option Addr) (p : Addr) : Prop := ∀ q, a = some q → p = q
inductive Datm (K : PySem.W.Frag) (F : Hp) {κ : Type} : List (κ × V) → List (κ × D) → Prop
  | nil : Datm K F [] []
  | cons {f : κ} {v : V} {vs : List (κ × V)} {d : D} {ds : List (κ × D)} : Dat K F v d → Datm K F vs ds → Datm K F ((f, v) :: vs) ((f, d) :: ds)
theorem Datm.up {κ : Type} (s : Same F F') : ∀ {us : List (κ × V)} {fs : List (κ × D)}, Datm K F us fs → Datm K F' us fs
  | _, _, .nil => .nil
  | _, _, .cons a b => .cons (a.up s) (b.up s)
mutual
inductive TR (K : PySem.W.Frag) (F : Hp) : V → T → List (Addr × HO) → Prop
  | dat {v : V} {d : D} : Dat K F v d → TR K F v (.dat d) []
  | lst {a : Option Addr} {p : Addr} {vs : List V} {ts : List T} {O : List (Addr × HO)} : Nm a p → TRs K F vs ts O → TR K F (.ref p) (.lst a ts) ((p, .lst vs) :: O)
  | ins {a : Option Addr} {p C dx : Addr} {us : List (Str × V)} {fs : List (Str × T)} {O : List (Addr × HO)} : Nm a p → TRf K F us fs O → TR K F (.ref p) (.ins a C fs) ((p, .ins C dx us) :: (dx, .own p) :: O)
  | dK {a : Option Addr} {p : Addr} {us : List (L2.Key × V)} {kvs : List (L2.Key × D)} : Nm a p → Datm K F us kvs → TR K F (.ref p) (.dK a kvs) [(p, .dK us)]
  | dT {a : Option Addr} {p : Addr} {us : List (List L2.Key × V)} {kvs : List (List L2.Key × D)} : Nm a p → Datm K F us kvs → TR K F (.ref p) (.dT a kvs) [(p, .dT us)]
  | adr {q : Addr} : TR K F (.ref q) (.adr q) []
inductive TRs (K : PySem.W.Frag) (F : Hp) : List V → List T → List (Addr × HO) → Prop
  | nil : TRs K F [] [] []
  | cons {v : V} {t : T} {vs : List V} {ts : List T} {O1 O2 : List (Addr × HO)} : TR K F v t O1 → TRs K F vs ts O2 → TRs K F (v :: vs) (t :: ts) (O1 ++ O2)
inductive TRf (K : PySem.W.Frag) (F : Hp) : List (Str × V) → List (Str × T) → List (Addr × HO) → Prop
  | nil : TRf K F [] [] []
  | cons {f : Str} {v : V} {t : T} {vs : List (Str × V)} {ts : List (Str × T)} {O1 O2 : List (Addr × HO)} : TR K F v t O1 → TRf K F vs ts O2 → TRf K F ((f, v) :: vs) ((f, t) :: ts) (O1 ++ O2)
end
mutual
theorem TR.up (s : Same F F') : ∀ {v : V} {t : T} {O : List (Addr × HO)}, TR K F v t O → TR K F' v t O
  | _, _, _, .dat d => .dat (d.up s)
  | _, _, _, .lst n h => .lst n (TRs.up s h)
  | _, _, _, .ins n h => .ins n (TRf.up s h)
  | _, _, _, .dK n h => .dK n (h.up s)
  | _, _, _, .dT n h => .dT n (h.up s)
  | _, _, _, .adr => .adr
theorem TRs.up (s : Same F F') : ∀ {vs : List V} {ts : List T} {O : List (Addr × HO)}, TRs K F vs ts O → TRs K F' vs ts O
  | _, _, _, .nil => .nil
  | _, _, _, .cons a b => .cons (TR.up s a) (TRs.up s b)
theorem TRf.up (s : Same F F') : ∀ {vs : List (Str × V)} {ts : List (Str × T)} {O : List (Addr × HO)}, TRf K F vs ts O → TRf K F' vs ts O
  | _, _, _, .nil => .nil
  | _, _, _, .cons a b => .cons (TR.up s a) (TRf.up s b)
end
/-- a flat list -/
theorem TRs.flat : ∀ {vs : List V} {ds : List D} {O : List (Addr × HO)}, TRs K F vs (ds.map T.dat) O → O = [] ∧ Dats K F vs ds
  | _, [], _, h => by cases h; exact ⟨rfl, .nil⟩
  | _, d :: ds, _, h => by
    cases h with
    | cons a b =>
      cases a with
      | dat a =>
        obtain ⟨e, q⟩ := TRs.flat b
        subst e
        exact ⟨rfl, .cons a q⟩
theorem Dats.tree : ∀ {vs : List V} {ds : List D}, Dats K F vs ds → TRs K F vs (ds.map T.dat) []
  | _, _, .nil => .nil
  | _, _, .cons a b => by
    have h := TRs.cons (TR.dat a) (Dats.tree b)
    exact h

/-! ### items of a list that are lists of its own -/
inductive OD where
  | dat (d : D)
  | own (ds : List D)
def OD.toD : OD → D
  | .dat d => d
  | .own ds => .lst ds
def OD.toT : OD → T
  | .dat d => .dat d
  | .own ds => .lst none (ds.map T.dat)
inductive ODs (K : PySem.W.Frag) (F : Hp) : List V → List OD → List (Addr × HO) → Prop
  | nil : ODs K F [] [] []
  | dat {v : V} {d : D} {vs : List V} {os : List OD} {O : List (Addr × HO)} : Dat K F v d → ODs K F vs os O → ODs K F (v :: vs) (.dat d :: os) O
  | own {p : Addr} {us : List V} {ds : List D} {vs : List V} {os : List OD} {O : List (Addr × HO)} : Dats K F us ds → ODs K F vs os O → ODs K F (.ref p :: vs) (.own ds :: os) ((p, .lst us) :: O)
theorem ODs.up (s : Same F F') : ∀ {vs : List V} {os : List OD} {O : List (Addr × HO)}, ODs K F vs os O → ODs K F' vs os O
  | _, _, _, .nil => .nil
  | _, _, _, .dat d m => .dat (d.up s) (ODs.up s m)
  | _, _, _, .own d m => .own (d.up s) (ODs.up s m)
theorem ODs.length : ∀ {vs : List V} {os : List OD} {O : List (Addr × HO)}, ODs K F vs os O → vs.length = os.length
  | _, _, _, .nil => rfl
  | _, _, _, .dat _ m => by rw [List.length_cons, List.length_cons, m.length]
  | _, _, _, .own _ m => by rw [List.length_cons, List.length_cons, m.length]
theorem ODs.append : ∀ {vs ws : List V} {os ps : List OD} {O O' : List (Addr × HO)}, ODs K F vs os O → ODs K F ws ps O' → ODs K F (vs ++ ws) (os ++ ps) (O ++ O')
  | _, _, _, _, _, _, .nil, h => h
  | _, _, _, _, _, _, .dat d m, h => .dat d (ODs.append m h)
  | _, _, _, _, _, _, .own d m, h => .own d (ODs.append m h)
/-- an item that is an own list: its place, and what may become of it -/
theorem ODs.getO : ∀ {vs : List V} {os : List OD} {O : List (Addr × HO)} {i : Nat} {ds : List D}, ODs K F vs os O → os[i]? = some (.own ds) →
    ∃ p us A B, O = A ++ (p, .lst us) :: B ∧ vs[i]? = some (.ref p) ∧ Dats K F us ds ∧ (∀ F' us' ds', Same F F' → Dats K F' us' ds' → ODs K F' vs (os.set i (.own ds')) (A ++ (p, .lst us') :: B))
  | _, _, _, _, _, .nil, e => by simp at e
  | _, _, _, 0, _, .dat _ _, e => by simp at e
  | _, _, _, 0, _, .own d m, e => by
    simp at e; subst e
    exact ⟨_, _, [], _, rfl, rfl, d, fun F' us' ds' s h => .own h (m.up s)⟩
  | _, _, _, i + 1, ds, .dat d m, e => by
    obtain ⟨p, us, A, B, h1, h2, h3, h4⟩ := ODs.getO (i := i) (ds := ds) m (by simpa using e)
    exact ⟨p, us, A, B, h1, by simpa using h2, h3, fun F' a b s h => .dat (d.up s) (h4 F' a b s h)⟩
  | _, _, _, i + 1, ds, .own (p := q) (us := ws) d m, e => by
    obtain ⟨p, us, A, B, h1, h2, h3, h4⟩ := ODs.getO (i := i) (ds := ds) m (by simpa using e)
    exact ⟨p, us, (q, .lst ws) :: A, B, congrArg (List.cons _) h1, by simpa using h2, h3, fun F' a b s h => .own (d.up s) (h4 F' a b s h)⟩
theorem ODs.tree : ∀ {vs : List V} {os : List OD} {O : List (Addr × HO)}, ODs K F vs os O → TRs K F vs (os.map OD.toT) O
  | _, _, _, .nil => .nil
  | _, _, _, .dat d m => by
    have h := TRs.cons (TR.dat d) (ODs.tree m)
    exact h
  | _, _, _, .own (p := p) d m => by
    have h := TRs.cons (TR.lst (a := none) (p := p) (fun _ z => nomatch z) d.tree) (ODs.tree m)
    exact h
theorem TRs.ods : ∀ {vs : List V} {os : List OD} {O : List (Addr × HO)}, TRs K F vs (os.map OD.toT) O → ODs K F vs os O
  | _, [], _, h => by cases h; exact .nil
  | _, .dat d :: os, _, h => by
    cases h with
    | cons a b =>
      cases a with
      | dat a => exact .dat a (TRs.ods b)
  | _, .own ds :: os, _, h => by
    cases h with
    | cons a b =>
      cases a with
      | lst n a =>
        obtain ⟨e, q⟩ := a.flat
        subst e
        exact .own q (TRs.ods b)
/-! ### the abstract frame -/
inductive Slot where
  | un
  | dat (d : D)
  | tr (t : T)
abbrev Slot.ownN (na : Option Addr) (ds : List D) : Slot := .tr (.lst na (ds.map T.dat))
abbrev Slot.own2N (na : Option Addr) (os : List OD) : Slot := .tr (.lst na (os.map OD.toT))
abbrev Slot.own (ds : List D) : Slot := .ownN none ds
abbrev Slot.own2 (os : List OD) : Slot := .own2N none os
inductive Match (K : PySem.W.Frag) (F : Hp) : L2.St → List Slot → List (Addr × HO) → Prop
  | nil : Match K F [] [] []
  | un {x : Option V} {σ : L2.St} {env : List Slot} {O : List (Addr × HO)} : Match K F σ env O → Match K F (x :: σ) (.un :: env) O
  | dat {v : V} {d : D} {σ : L2.St} {env : List Slot} {O : List (Addr × HO)} : Dat K F v d → Match K F σ env O → Match K F (some v :: σ) (.dat d :: env) O
  | tr {v : V} {t : T} {σ : L2.St} {env : List Slot} {O1 O : List (Addr × HO)} : TR K F v t O1 → Match K F σ env O → Match K F (some v :: σ) (.tr t :: env) (O1 ++ O)
theorem Match.up (s : Same F F') : ∀ {σ : L2.St} {env : List Slot} {O : List (Addr × HO)}, Match K F σ env O → Match K F' σ env O
  | _, _, _, .nil => .nil
  | _, _, _, .un m => .un (Match.up s m)
  | _, _, _, .dat d m => .dat (d.up s) (Match.up s m)
  | _, _, _, .tr d m => .tr (d.up s) (Match.up s m)
theorem Match.get : ∀ {σ : L2.St} {env : List Slot} {O : List (Addr × HO)} {i : Nat} {d : D}, Match K F σ env O → env[i]? = some (.dat d) → ∃ v, σ[i]? = some (some v) ∧ Dat K F v d
  | _, _, _, _, _, .nil, e => by simp at e
  | _, _, _, 0, _, .un _, e => by simp at e
  | _, _, _, 0, _, .dat d _, e => by simp at e; subst e; exact ⟨_, rfl, d⟩
  | _, _, _, 0, _, .tr _ _, e => by simp at e
  | _, _, _, i + 1, d, .un m, e => by
    obtain ⟨v, h1, h2⟩ := Match.get (i := i) (d := d) m (by simpa using e)
    exact ⟨v, by simpa using h1, h2⟩
  | _, _, _, i + 1, d, .dat _ m, e => by
    obtain ⟨v, h1, h2⟩ := Match.get (i := i) (d := d) m (by simpa using e)
    exact ⟨v, by simpa using h1, h2⟩
  | _, _, _, i + 1, d, .tr _ m, e => by
    obtain ⟨v, h1, h2⟩ := Match.get (i := i) (d := d) m (by simpa using e)
    exact ⟨v, by simpa using h1, h2⟩
/-- a datum stored (what the slot owned is let go) -/
theorem Match.set : ∀ {σ : L2.St} {env : List Slot} {O : List (Addr × HO)} (i : Nat) {v : V} {d : D}, Match K F σ env O → Dat K F v d → ∃ O', O'.Sublist O ∧ Match K F (σ.set i (some v)) (env.set i (.dat d)) O'
  | _, _, _, _, _, _, .nil, _ => ⟨[], .slnil, .nil⟩
  | _, _, _, 0, _, _, .un m, h => ⟨_, List.Sublist.refl _, .dat h m⟩
  | _, _, _, 0, _, _, .dat _ m, h => ⟨_, List.Sublist.refl _, .dat h m⟩
  | _, _, _, 0, _, _, .tr _ m, h => ⟨_, List.sublist_append_right _ _, .dat h m⟩
  | _, _, _, i + 1, _, _, .un m, h => let ⟨O', s, q⟩ := Match.set i m h; ⟨O', s, .un q⟩
  | _, _, _, i + 1, _, _, .dat d m, h => let ⟨O', s, q⟩ := Match.set i m h; ⟨O', s, .dat d q⟩
  | _, _, _, i + 1, _, _, .tr d m, h => let ⟨O', s, q⟩ := Match.set i m h; ⟨_, (List.Sublist.refl _).append s, .tr d q⟩
/-- a tree stored -/
theorem Match.putT : ∀ {σ : L2.St} {env : List Slot} {O : List (Addr × HO)} (i : Nat) {v : V} {t : T} {O1 : List (Addr × HO)}, Match K F σ env O → TR K F v t O1 → i < env.length →
    ∃ A B O', O = A ++ O' ∧ B.Sublist O' ∧ Match K F (σ.set i (some v)) (env.set i (.tr t)) (A ++ (O1 ++ B))
  | _, _, _, _, _, _, _, .nil, _, hl => absurd hl (by simp)
  | _, _, _, 0, _, _, _, .un m, h, _ => ⟨[], _, _, rfl, List.Sublist.refl _, by have z := Match.tr h m; exact z⟩
  | _, _, _, 0, _, _, _, .dat _ m, h, _ => ⟨[], _, _, rfl, List.Sublist.refl _, by have z := Match.tr h m; exact z⟩
  | _, _, _, 0, _, _, _, .tr _ m, h, _ => ⟨[], _, _, rfl, List.sublist_append_right _ _, by have z := Match.tr h m; exact z⟩
  | _, _, _, i + 1, _, _, _, .un m, h, hl => let ⟨A, B, O', e, s, q⟩ := Match.putT i m h (by simpa using hl); ⟨A, B, O', e, s, .un q⟩
  | _, _, _, i + 1, _, _, _, .dat d m, h, hl => let ⟨A, B, O', e, s, q⟩ := Match.putT i m h (by simpa using hl); ⟨A, B, O', e, s, .dat d q⟩
  | _, _, _, i + 1, _, _, _, .tr (O1 := P) d m, h, hl => by
    obtain ⟨A, B, O', e, s, q⟩ := Match.putT i m h (by simpa using hl)
    refine ⟨P ++ A, B, O', by rw [e, List.append_assoc], s, ?_⟩
    rw [List.append_assoc]
    exact .tr d q
/-- a tree: what it owns, and what may become of it -/
theorem Match.getT : ∀ {σ : L2.St} {env : List Slot} {O : List (Addr × HO)} {i : Nat} {t : T}, Match K F σ env O → env[i]? = some (.tr t) →
    ∃ v O1 A B, O = A ++ (O1 ++ B) ∧ σ[i]? = some (some v) ∧ TR K F v t O1 ∧
      (∀ F' t' O1', Same F F' → TR K F' v t' O1' → Match K F' σ (env.set i (.tr t')) (A ++ (O1' ++ B))) ∧
      (∀ F' d, Same F F' → Dat K F' v d → Match K F' σ (env.set i (.dat d)) (A ++ B)) ∧
      (∀ F', Same F F' → Match K F' σ (env.set i .un) (A ++ B))
  | _, _, _, _, _, .nil, e => by simp at e
  | _, _, _, 0, _, .un _, e => by simp at e
  | _, _, _, 0, _, .dat d _, e => by simp at e
  | _, _, _, 0, _, .tr d m, e => by
    simp at e; subst e
    exact ⟨_, _, [], _, rfl, rfl, d, fun F' t' O1' s h => by have z := Match.tr h (m.up s); exact z, fun F' d s h => .dat h (m.up s), fun F' s => .un (m.up s)⟩
  | _, _, _, i + 1, t, .un m, e => by
    obtain ⟨v, O1, A, B, h1, h2, h3, h4, h5, h6⟩ := Match.getT (i := i) (t := t) m (by simpa using e)
    exact ⟨v, O1, A, B, h1, by simpa using h2, h3, fun F' a b s h => .un (h4 F' a b s h), fun F' a s h => .un (h5 F' a s h), fun F' s => .un (h6 F' s)⟩
  | _, _, _, i + 1, t, .dat d m, e => by
    obtain ⟨v, O1, A, B, h1, h2, h3, h4, h5, h6⟩ := Match.getT (i := i) (t := t) m (by simpa using e)
    exact ⟨v, O1, A, B, h1, by simpa using h2, h3, fun F' a b s h => .dat (d.up s) (h4 F' a b s h), fun F' a s h => .dat (d.up s) (h5 F' a s h), fun F' s => .dat (d.up s) (h6 F' s)⟩
  | _, _, _, i + 1, t, .tr (O1 := P) d m, e => by
    obtain ⟨v, O1, A, B, h1, h2, h3, h4, h5, h6⟩ := Match.getT (i := i) (t := t) m (by simpa using e)
    refine ⟨v, O1, P ++ A, B, by rw [h1, List.append_assoc], by simpa using h2, h3, fun F' a b s h => ?_, fun F' a s h => ?_, fun F' s => ?_⟩
    · rw [List.append_assoc]; exact .tr (d.up s) (h4 F' a b s h)
    · rw [List.append_assoc]; exact .tr (d.up s) (h5 F' a s h)
    · rw [List.append_assoc]; exact .tr (d.up s) (h6 F' s)
theorem Match.put {σ : L2.St} {env : List Slot} {O : List (Addr × HO)} (i : Nat) {p : Addr} {vs : List V} {ds : List D} (m : Match K F σ env O) (h : Dats K F vs ds) (hl : i < env.length) :
    ∃ A B O', O = A ++ O' ∧ B.Sublist O' ∧ Match K F (σ.set i (some (.ref p))) (env.set i (.own ds)) (A ++ (p, .lst vs) :: B) :=
  m.putT i (.lst (a := none) (fun _ z => nomatch z) h.tree) hl
/-- an own list: its place, and what may become of it -/
theorem Match.getO {σ : L2.St} {env : List Slot} {O : List (Addr × HO)} {i : Nat} {ds : List D} {na : Option Addr} (m : Match K F σ env O) (e : env[i]? = some (.ownN na ds)) :
    ∃ p vs A B, O = A ++ (p, .lst vs) :: B ∧ σ[i]? = some (some (.ref p)) ∧ Dats K F vs ds ∧
      (∀ F' vs' ds', Same F F' → Dats K F' vs' ds' → Match K F' σ (env.set i (.ownN na ds')) (A ++ (p, .lst vs') :: B)) ∧
      (∀ F' d, Same F F' → Dat K F' (.ref p) d → Match K F' σ (env.set i (.dat d)) (A ++ B)) := by
  obtain ⟨v, O1, A, B, h1, h2, h3, h4, h5, _⟩ := m.getT e
  cases h3 with
  | lst n h3 =>
    obtain ⟨e1, q⟩ := h3.flat
    subst e1
    exact ⟨_, _, A, B, h1, h2, q, fun F' vs' ds' s h => h4 F' _ _ s (.lst n h.tree), h5⟩
/-- slots forgotten -/
inductive Wk : List Slot → List Slot → Prop
  | nil : Wk [] []
  | un {a : Slot} {e e' : List Slot} : Wk e e' → Wk (a :: e) (.un :: e')
  | eq {a : Slot} {e e' : List Slot} : Wk e e' → Wk (a :: e) (a :: e')
theorem Wk.refl : ∀ e : List Slot, Wk e e
  | [] => .nil
  | _ :: e => .eq (Wk.refl e)
theorem Match.weak : ∀ {σ : L2.St} {env env' : List Slot} {O : List (Addr × HO)}, Match K F σ env O → Wk env env' → ∃ O', O'.Sublist O ∧ Match K F σ env' O'
  | _, _, _, _, .nil, .nil => ⟨[], .slnil, .nil⟩
  | _, _, _, _, .un m, .un w => let ⟨O', s, q⟩ := Match.weak m w; ⟨O', s, .un q⟩
  | _, _, _, _, .un m, .eq w => let ⟨O', s, q⟩ := Match.weak m w; ⟨O', s, .un q⟩
  | _, _, _, _, .dat d m, .un w => let ⟨O', s, q⟩ := Match.weak m w; ⟨O', s, .un q⟩
  | _, _, _, _, .dat d m, .eq w => let ⟨O', s, q⟩ := Match.weak m w; ⟨O', s, .dat d q⟩
  | _, _, _, _, .tr (O1 := O1) d m, .un w => let ⟨O', s, q⟩ := Match.weak m w; ⟨O', s.trans (List.sublist_append_right O1 _), .un q⟩
  | _, _, _, _, .tr d m, .eq w => let ⟨O', s, q⟩ := Match.weak m w; ⟨_, (List.Sublist.refl _).append s, .tr d q⟩
/-- an own list of own lists: its place, and what may become of it -/
theorem Match.getO2 {σ : L2.St} {env : List Slot} {O : List (Addr × HO)} {i : Nat} {os : List OD} {na : Option Addr} (m : Match K F σ env O) (e : env[i]? = some (.own2N na os)) :
    ∃ p vs O1 A B, O = A ++ (p, .lst vs) :: (O1 ++ B) ∧ σ[i]? = some (some (.ref p)) ∧ ODs K F vs os O1 ∧
      (∀ F' vs' os' O1', Same F F' → ODs K F' vs' os' O1' → Match K F' σ (env.set i (.own2N na os')) (A ++ (p, .lst vs') :: (O1' ++ B))) ∧
      (∀ F' d, Same F F' → Dat K F' (.ref p) d → Match K F' σ (env.set i (.dat d)) (A ++ B)) := by
  obtain ⟨v, O1, A, B, h1, h2, h3, h4, h5, _⟩ := m.getT e
  cases h3 with
  | lst n h3 => exact ⟨_, _, _, A, B, h1, h2, h3.ods, fun F' vs' os' O1' s h => h4 F' _ _ s (.lst n h.tree), h5⟩
/-- a new own list of own lists stored -/
theorem Match.put2 {σ : L2.St} {env : List Slot} {O : List (Addr × HO)} (i : Nat) {p : Addr} {vs : List V} {os : List OD} {O1 : List (Addr × HO)} (m : Match K F σ env O) (h : ODs K F vs os O1) (hl : i < env.length) :
    ∃ A B O', O = A ++ O' ∧ B.Sublist O' ∧ Match K F (σ.set i (some (.ref p))) (env.set i (.own2 os)) (A ++ (p, .lst vs) :: (O1 ++ B)) :=
  m.putT i (.lst (a := none) (fun _ z => nomatch z) h.tree) hl
end
end Pg

set_option Elab.async false
set_option linter.all false
set_option maxRecDepth 100000
namespace Pg
open PySem PySem.Spec PyProof.Rows L2

/-! ### readings evaluate to data -/
section
variable (K : PySem.W.Frag)
/-- the expression's reading gives the datum d -/
def EV (t : TE) (env : List Slot) (d : D) : Prop := ∀ (σ : L2.St) (F H : Hp) (A O : List (Addr × HO)), Match K F σ env A → Own F H (A ++ O) → ∀ Q : VK,
  (∀ v F' H', Same F F' → Own F' H' (A ++ O) → Dat K F' v d → Q v H') → t σ H Q
def ET (t : TT) (env : List Slot) (b : Bool) : Prop := ∀ (σ : L2.St) (F H : Hp) (A O : List (Addr × HO)), Match K F σ env A → Own F H (A ++ O) → ∀ Q : Bool → Hp → Prop,
  (∀ F' H', Same F F' → Own F' H' (A ++ O) → Q b H') → t σ H Q
def EA (t : TA) (env : List Slot) (ds : List D) : Prop := ∀ (σ : L2.St) (F H : Hp) (A O : List (Addr × HO)), Match K F σ env A → Own F H (A ++ O) → ∀ Q : List V → Hp → Prop,
  (∀ vs F' H', Same F F' → Own F' H' (A ++ O) → Dats K F' vs ds → Q vs H') → t σ H Q
/-- a new list of these items, owned -/
def EN (t : TE) (env : List Slot) (ds : List D) : Prop := ∀ (σ : L2.St) (F H : Hp) (A O : List (Addr × HO)), Match K F σ env A → Own F H (A ++ O) → ∀ Q : VK,
  (∀ p vs F' H', Same F F' → Own F' H' ((p, .lst vs) :: (A ++ O)) → Dats K F' vs ds → Q (.ref p) H') → t σ H Q
def EO (t : TO) (env : List Slot) (o : Option Int) : Prop := ∀ (σ : L2.St) (F H : Hp) (A O : List (Addr × HO)), Match K F σ env A → Own F H (A ++ O) → ∀ Q : Option Int → Hp → Prop,
  (∀ F' H', Same F F' → Own F' H' (A ++ O) → Q o H') → t σ H Q
end
section
variable {K : PySem.W.Frag} {na : Option Addr} {env : List Slot} {t ta tb : TE} {tt tu : TT} {d e : D} {ds es : List D} {i j : Int}
theorem EV.frz (h : EN K t env ds) : EV K t env (.lst ds) := fun σ F H A O m w Q q => h σ F H A O m w Q fun p vs F' H' s w' dd => by
  obtain ⟨w2, s2⟩ := w'.frz
  exact q _ _ _ (s.trans s2) w2 (.lst (.of upd_same) (dd.up s2))
theorem ev_cast {α : Type} {r : α → D} {a b : α} (h : R.ok a = R.ok b) (x : EV K t env (r a)) : EV K t env (r b) := by rw [← R.ok_inj h]; exact x
theorem et_cast {a b : Bool} (h : R.ok a = R.ok b) (x : ET K tt env a) : ET K tt env b := by rw [← R.ok_inj h]; exact x
theorem en_cast {α : Type} {r : α → D} {a b : List α} (h : R.ok a = R.ok b) (x : EN K t env (a.map r)) : EN K t env (b.map r) := by rw [← R.ok_inj h]; exact x
theorem ev_eq (h : d = e) (x : EV K t env d) : EV K t env e := h ▸ x
theorem ev_var {i : Nat} (h : env[i]? = some (.dat d)) : EV K (tVar i) env d := fun σ F H A O m w Q q => by
  obtain ⟨v, h1, h2⟩ := m.get h
  exact ⟨v, h1, q v F H (Same.refl F) w h2⟩
theorem ev_c (x : V) : EV K (tC x) env (.v x) := fun σ F H A O m w Q q => q x F H (Same.refl F) w (.v x)
theorem ev_k {x : V} (h : ∀ F, Dat K F x d) : EV K (tC x) env d := fun σ F H A O m w Q q => q x F H (Same.refl F) w (h F)
theorem Dat.int {F : Hp} {v : V} (h : Dat K F v (dI i)) : v = .int i := by cases h; rfl
theorem Dat.bl {F : Hp} {v : V} {b : Bool} (h : Dat K F v (dB b)) : v = .bl b := by cases h; rfl
theorem Dat.scl {F : Hp} {v x : V} (h : Dat K F v (.v x)) : v = x := by cases h; rfl
/-- two parts, one behind the other -/
theorem ev_two (ha : EV K ta env d) (hb : EV K tb env e) {σ : L2.St} {F H : Hp} {A O : List (Addr × HO)} (m : Match K F σ env A) (w : Own F H (A ++ O)) {k : V → V → Hp → Prop}
    (q : ∀ x y F' H', Same F F' → Own F' H' (A ++ O) → Dat K F' x d → Dat K F' y e → k x y H') : ta σ H fun x H1 => tb σ H1 fun y H2 => k x y H2 :=
  ha σ F H A O m w _ fun x F1 H1 s1 w1 d1 => hb σ F1 H1 A O (m.up s1) w1 _ fun y F2 H2 s2 w2 d2 => q x y F2 H2 (s1.trans s2) w2 (d1.up s2) d2
theorem ev_i0 {g : Int → Int → V} (ha : EV K ta env (dI i)) (hb : EV K tb env (dI j)) : EV K (tOp (rI0 g) ta tb) env (.v (g i j)) := fun σ F H A O m w Q q =>
  ev_two ha hb m w fun x y F' H' s w' d1 d2 => ⟨i, j, d1.int, d2.int, q _ F' H' s w' (.v _)⟩
theorem ev_iC {C : Int → Int → Prop} {g : Int → Int → V} (hc : C i j) (ha : EV K ta env (dI i)) (hb : EV K tb env (dI j)) : EV K (tOp (rI C g) ta tb) env (.v (g i j)) := fun σ F H A O m w Q q =>
  ev_two ha hb m w fun x y F' H' s w' d1 d2 => ⟨i, j, d1.int, d2.int, hc, q _ F' H' s w' (.v _)⟩
theorem ev_u {g : Int → V} (ha : EV K ta env (dI i)) : EV K (tUn (rU g) ta) env (.v (g i)) := fun σ F H A O m w Q q =>
  ha σ F H A O m w _ fun x F' H' s w' d1 => ⟨i, d1.int, q _ F' H' s w' (.v _)⟩
theorem dec_V {α : Type} [DecidableEq α] {f : α → V} (hf : ∀ a b, f a = f b → a = b) (a b : α) : decide (f a = f b) = decide (a = b) := by
  by_cases h : a = b
  · subst h; simp
  · rw [decide_eq_false h, decide_eq_false (fun z => h (hf _ _ z))]
theorem ev_eqI (ha : EV K ta env (dI i)) (hb : EV K tb env (dI j)) : EV K (tOp rEq ta tb) env (dB (decide (i = j))) := fun σ F H A O m w Q q =>
  ev_two ha hb m w fun x y F' H' s w' d1 d2 => by
    rw [d1.int, d2.int]
    exact ⟨rfl, by rw [dec_V (f := V.int) (fun _ _ z => V.int.inj z)]; exact q _ F' H' s w' (.v _)⟩
theorem ev_neI (ha : EV K ta env (dI i)) (hb : EV K tb env (dI j)) : EV K (tOp rNe ta tb) env (dB (!decide (i = j))) := fun σ F H A O m w Q q =>
  ev_two ha hb m w fun x y F' H' s w' d1 d2 => by
    rw [d1.int, d2.int]
    exact ⟨rfl, by rw [dec_V (f := V.int) (fun _ _ z => V.int.inj z)]; exact q _ F' H' s w' (.v _)⟩
theorem ev_eqS {x y : Str} (ha : EV K ta env (dS x)) (hb : EV K tb env (dS y)) : EV K (tOp rEq ta tb) env (dB (decide (x = y))) := fun σ F H A O m w Q q =>
  ev_two ha hb m w fun x y F' H' s w' d1 d2 => by
    rw [d1.scl, d2.scl]
    exact ⟨rfl, by rw [dec_V (f := V.str) (fun _ _ z => V.str.inj z)]; exact q _ F' H' s w' (.v _)⟩
theorem ev_neS {x y : Str} (ha : EV K ta env (dS x)) (hb : EV K tb env (dS y)) : EV K (tOp rNe ta tb) env (dB (!decide (x = y))) := fun σ F H A O m w Q q =>
  ev_two ha hb m w fun x y F' H' s w' d1 d2 => by
    rw [d1.scl, d2.scl]
    exact ⟨rfl, by rw [dec_V (f := V.str) (fun _ _ z => V.str.inj z)]; exact q _ F' H' s w' (.v _)⟩
theorem ev_eqB {x y : Bool} (ha : EV K ta env (dB x)) (hb : EV K tb env (dB y)) : EV K (tOp rEq ta tb) env (dB (decide (x = y))) := fun σ F H A O m w Q q =>
  ev_two ha hb m w fun x y F' H' s w' d1 d2 => by
    rw [d1.scl, d2.scl]
    exact ⟨rfl, by rw [dec_V (f := V.bl) (fun _ _ z => V.bl.inj z)]; exact q _ F' H' s w' (.v _)⟩
theorem ev_neB {x y : Bool} (ha : EV K ta env (dB x)) (hb : EV K tb env (dB y)) : EV K (tOp rNe ta tb) env (dB (!decide (x = y))) := fun σ F H A O m w Q q =>
  ev_two ha hb m w fun x y F' H' s w' d1 d2 => by
    rw [d1.scl, d2.scl]
    exact ⟨rfl, by rw [dec_V (f := V.bl) (fun _ _ z => V.bl.inj z)]; exact q _ F' H' s w' (.v _)⟩

/-! ### tests -/
theorem et_test {b : Bool} (h : EV K t env (dB b)) : ET K (tTest t) env b := fun σ F H A O m w Q q => h σ F H A O m w _ fun v F' H' s w' d => ⟨b, d.bl, q F' H' s w'⟩
theorem et_b {b : Bool} (h : EV K t env (dB b)) : ET K (tB t) env b := fun σ F H A O m w Q q => h σ F H A O m w _ fun v F' H' s w' d => ⟨b, d.bl, q F' H' s w'⟩
theorem et_not {b : Bool} (h : ET K tt env b) : ET K (tNot tt) env (!b) := fun σ F H A O m w Q q => h σ F H A O m w _ fun F' H' s w' => q F' H' s w'
theorem et_and {b c : Bool} (h : ET K tt env b) (h2 : b = true → ET K tu env c) : ET K (tAnd tt tu) env (b && c) := fun σ F H A O m w Q q => h σ F H A O m w _ fun F' H' s w' => by
  cases b with
  | false => exact iteF (q F' H' s w')
  | true => exact iteT (h2 rfl σ F' H' A O (m.up s) w' _ fun F2 H2 s2 w2 => q F2 H2 (s.trans s2) w2)
theorem et_or {b c : Bool} (h : ET K tt env b) (h2 : b = false → ET K tu env c) : ET K (tOr tt tu) env (b || c) := fun σ F H A O m w Q q => h σ F H A O m w _ fun F' H' s w' => by
  cases b with
  | true => exact iteT (q F' H' s w')
  | false => exact iteF (h2 rfl σ F' H' A O (m.up s) w' _ fun F2 H2 s2 w2 => q F2 H2 (s.trans s2) w2)
theorem et_andR {b c : Bool} {x : R Bool} (e : R.andR b x = .ok c) (h : ET K tt env b) (h2 : b = true → x = .ok c → ET K tu env c) : ET K (tAnd tt tu) env c := by
  cases b with
  | false => rw [← R.ok_inj (show R.ok false = R.ok c from e)]; exact et_and (c := c) h fun z => nomatch z
  | true => exact et_and (c := c) h fun _ => h2 rfl e
theorem et_orR {b c : Bool} {x : R Bool} (e : R.orR b x = .ok c) (h : ET K tt env b) (h2 : b = false → x = .ok c → ET K tu env c) : ET K (tOr tt tu) env c := by
  cases b with
  | true => rw [← R.ok_inj (show R.ok true = R.ok c from e)]; exact et_or (c := c) h fun z => nomatch z
  | false => exact et_or (c := c) h fun _ => h2 rfl e
theorem ev_notV {b : Bool} (h : EV K t env (dB b)) : EV K (tNotV t) env (dB (!b)) := fun σ F H A O m w Q q => h σ F H A O m w _ fun v F' H' s w' d => ⟨b, d.bl, q _ F' H' s w' (.v _)⟩
theorem ev_andV {b c : Bool} (h : EV K ta env (dB b)) (h2 : b = true → EV K tb env (dB c)) : EV K (tAndV ta tb) env (dB (b && c)) := fun σ F H A O m w Q q => h σ F H A O m w _ fun v F' H' s w' d => by
  refine ⟨b, d.bl, ?_⟩
  cases b with
  | false => exact iteF (q _ F' H' s w' (.v _))
  | true => exact iteT (h2 rfl σ F' H' A O (m.up s) w' _ fun v F2 H2 s2 w2 d2 => q v F2 H2 (s.trans s2) w2 d2)
theorem ev_orV {b c : Bool} (h : EV K ta env (dB b)) (h2 : b = false → EV K tb env (dB c)) : EV K (tOrV ta tb) env (dB (b || c)) := fun σ F H A O m w Q q => h σ F H A O m w _ fun v F' H' s w' d => by
  refine ⟨b, d.bl, ?_⟩
  cases b with
  | true => exact iteT (q _ F' H' s w' (.v _))
  | false => exact iteF (h2 rfl σ F' H' A O (m.up s) w' _ fun v F2 H2 s2 w2 d2 => q v F2 H2 (s.trans s2) w2 d2)
theorem ev_andVR {b c : Bool} {x : R Bool} (e : R.andR b x = .ok c) (h : EV K ta env (dB b)) (h2 : b = true → x = .ok c → EV K tb env (dB c)) : EV K (tAndV ta tb) env (dB c) := by
  cases b with
  | false => rw [← R.ok_inj (show R.ok false = R.ok c from e)]; exact ev_andV (c := c) h fun z => nomatch z
  | true => exact ev_andV (c := c) h fun _ => h2 rfl e
theorem ev_orVR {b c : Bool} {x : R Bool} (e : R.orR b x = .ok c) (h : EV K ta env (dB b)) (h2 : b = false → x = .ok c → EV K tb env (dB c)) : EV K (tOrV ta tb) env (dB c) := by
  cases b with
  | true => rw [← R.ok_inj (show R.ok true = R.ok c from e)]; exact ev_orV (c := c) h fun z => nomatch z
  | false => exact ev_orV (c := c) h fun _ => h2 rfl e
theorem ev_if {α : Type} {r : α → D} {c : Bool} {x y : α} (h : ET K tt env c) (h1 : c = true → EV K ta env (r x)) (h2 : c = false → EV K tb env (r y)) : EV K (tIf tt ta tb) env (r (if c = true then x else y)) := fun σ F H A O m w Q q => h σ F H A O m w _ fun F' H' s w' => by
  cases c with
  | true => exact iteT (h1 rfl σ F' H' A O (m.up s) w' _ fun v F2 H2 s2 w2 d2 => q v F2 H2 (s.trans s2) w2 (by rw [if_pos rfl]; exact d2))
  | false => exact iteF (h2 rfl σ F' H' A O (m.up s) w' _ fun v F2 H2 s2 w2 d2 => q v F2 H2 (s.trans s2) w2 (by rw [if_neg (by decide)]; exact d2))
/-- a chain of two comparisons of whole numbers -/
theorem ev_chain {tc : TE} {k : Int} {p p' : Int → Int → Bool} (ha : EV K ta env (dI i)) (hb : EV K tb env (dI j)) (hc : p i j = true → EV K tc env (dI k)) :
    EV K (tChain (rI0 fun i j => .bl (p i j)) (rI0 fun i j => .bl (p' i j)) ta tb tc) env (dB (p i j && p' j k)) := fun σ F H A O m w Q q =>
  ev_two ha hb m w fun x y F' H' s w' d1 d2 => by
    refine ⟨i, j, d1.int, d2.int, p i j, rfl, ?_⟩
    cases hp : p i j with
    | false => exact iteF (q _ F' H' s w' (by rw [hp]; exact .v _))
    | true => exact iteT (hc hp σ F' H' A O (m.up s) w' _ fun v F2 H2 s2 w2 d3 => ⟨j, k, d2.int, d3.int, q _ F2 H2 (s.trans s2) w2 (by rw [hp]; exact .v _)⟩)

/-! ### arguments, displays -/
theorem ea_nil : EA K tNil env [] := fun σ F H A O m w Q q => q [] F H (Same.refl F) w .nil
theorem ea_cons {tr : TA} (h : EV K t env d) (hr : EA K tr env ds) : EA K (tCons t tr) env (d :: ds) := fun σ F H A O m w Q q =>
  h σ F H A O m w _ fun v F1 H1 s1 w1 d1 => hr σ F1 H1 A O (m.up s1) w1 _ fun vs F2 H2 s2 w2 d2 => q _ F2 H2 (s1.trans s2) w2 (.cons (d1.up s2) d2)
theorem ev_tup {t : TA} (h : EA K t env ds) (hl : ds.length ≤ sizeLine := by first | exact Nat.le_of_ble_eq_true rfl | decide) : EV K (tTup t) env (.tup ds) := fun σ F H A O m w Q q =>
  h σ F H A O m w _ fun vs F1 H1 s1 w1 d1 => ⟨by rw [d1.length]; exact hl, fun p n => by
    obtain ⟨w2, s2⟩ := w1.newF (o := .tup vs) n
    exact q _ _ _ (s1.trans s2) w2 (.tup (.of upd_same) (d1.up s2))⟩
theorem en_lst {t : TA} (h : EA K t env ds) (hl : ds.length ≤ sizeLine := by first | exact Nat.le_of_ble_eq_true rfl | decide) : EN K (tLst t) env ds := fun σ F H A O m w Q q =>
  h σ F H A O m w _ fun vs F1 H1 s1 w1 d1 => ⟨by rw [d1.length]; exact hl, fun p n => q p vs F1 _ s1 (w1.new n) d1⟩

/-! ### items, lengths -/
theorem ixP_some {n : Nat} {i : Int} {k : Nat} (h : ixP n i = some k) : k < n ∧ ((0 ≤ i ∧ i = (k : Int)) ∨ (i < 0 ∧ i + n = (k : Int))) := by
  unfold ixP at h
  split at h
  · split at h
    · injection h with h; omega
    · cases h
  · split at h
    · injection h with h; omega
    · cases h
theorem ixP_ixN (n : Nat) (i : Int) : ixP n i = ixN n i := by
  unfold ixP ixN
  split
  · rfl
  · by_cases h : 0 ≤ i + n
    · rw [if_pos h, if_pos (by omega)]
    · rw [if_neg h, if_neg (by omega)]
theorem atI_ixP {xs : List V} {i : Int} {k : Nat} {v : V} (h : ixP xs.length i = some k) (e : xs[k]? = some v) : atI xs i = some v := by
  unfold atI
  rw [← ixP_ixN, h]
  exact e
theorem atR_some {α : Type} {xs : List α} {i : Int} {x : α} (h : atR xs i = .ok x) : ∃ k, ixP xs.length i = some k ∧ xs[k]? = some x := by
  unfold atR at h
  cases e : ixP xs.length i with
  | none => rw [e] at h; cases h
  | some k =>
    rw [e] at h
    cases e2 : xs[k]? with
    | none => simp only [e2] at h; cases h
    | some y => simp only [e2] at h; exact ⟨k, rfl, by rw [e2, R.ok_inj h]⟩
theorem Dats.atI {F : Hp} {vs : List V} {ds : List D} {i : Int} {k : Nat} {d : D} (h : Dats K F vs ds) (h1 : ixP ds.length i = some k) (h2 : ds[k]? = some d) : ∃ v, L2.atI vs i = some v ∧ Dat K F v d := by
  obtain ⟨v, e, q⟩ := h.get h2
  exact ⟨v, atI_ixP (by rw [h.length]; exact h1) e, q⟩
theorem ev_ixT {i : Int} {k : Nat} (ha : EV K ta env (.tup ds)) (hb : EV K tb env (dI i)) (h1 : ixP ds.length i = some k) (h2 : ds[k]? = some d) : EV K (tOp (rIxT K) ta tb) env d := fun σ F H A O m w Q q =>
  ev_two ha hb m w fun x y F' H' s w' d1 d2 => by
    cases d1 with
    | tup a b =>
      obtain ⟨v, e, dv⟩ := b.atI h1 h2
      exact ⟨_, _, i, v, rfl, d2.int, w'.same.sqt a, e, q _ F' H' s w' dv⟩
theorem ev_ixL {i : Int} {k : Nat} (ha : EV K ta env (.lst ds)) (hb : EV K tb env (dI i)) (h1 : ixP ds.length i = some k) (h2 : ds[k]? = some d) : EV K (tOp (rIxL K) ta tb) env d := fun σ F H A O m w Q q =>
  ev_two ha hb m w fun x y F' H' s w' d1 d2 => by
    cases d1 with
    | lst a b =>
      obtain ⟨v, e, dv⟩ := b.atI h1 h2
      exact ⟨_, _, i, v, rfl, d2.int, w'.same.seq a, e, q _ F' H' s w' dv⟩
theorem map_at {α : Type} {r : α → D} {xs : List α} {i : Int} {x : α} (h : atR xs i = .ok x) : ∃ k, ixP (xs.map r).length i = some k ∧ (xs.map r)[k]? = some (r x) := by
  obtain ⟨k, h1, h2⟩ := atR_some h
  exact ⟨k, by rw [List.length_map]; exact h1, by rw [List.getElem?_map, h2]; rfl⟩
theorem ev_atL {α : Type} {r : α → D} {xs : List α} {x : α} (h : atR xs i = .ok x) (ha : EV K ta env (.lst (xs.map r))) (hb : EV K tb env (dI i)) : EV K (tOp (rIxL K) ta tb) env (r x) :=
  let ⟨k, h1, h2⟩ := map_at (r := r) h; ev_ixL ha hb h1 h2
theorem ev_atT {α : Type} {r : α → D} {xs : List α} {x : α} (h : atR xs i = .ok x) (ha : EV K ta env (.tup (xs.map r))) (hb : EV K tb env (dI i)) : EV K (tOp (rIxT K) ta tb) env (r x) :=
  let ⟨k, h1, h2⟩ := map_at (r := r) h; ev_ixT ha hb h1 h2
/-- an own list's item -/
theorem ev_atO {α : Type} {r : α → D} {xs : List α} {x : α} {n : Nat} (h : atR xs i = .ok x) (ha : env[n]? = some (.ownN na (xs.map r))) (hb : EV K tb env (dI i)) : EV K (tOp (rIxL K) (tVar n) tb) env (r x) := fun σ F H A O m w Q q => by
  obtain ⟨p, vs, A1, A2, e, h1, h2, _, _⟩ := m.getO ha
  refine ⟨_, h1, hb σ F H A O m w _ fun y F' H' s w' d2 => ?_⟩
  obtain ⟨k, g1, g2⟩ := map_at (r := r) h
  obtain ⟨v, e2, dv⟩ := (h2.up s).atI g1 g2
  have hp := (w'.has (p, .lst vs) (by rw [e]; simp)).2
  exact ⟨p, vs, i, v, rfl, d2.int, .of hp, e2, q v F' H' s w' dv⟩
def rLenP (K : PySem.W.Frag) : List V → Hp → VK → Prop := fun xs H Q => ∃ x n, xs = [x] ∧ LenV K x H n ∧ Q (.int n) H
theorem ev_lenL (ha : EV K ta env (.lst ds)) : EV K (tCB (rLenP K) (tCons ta tNil)) env (dI (ds.length : Nat)) := fun σ F H A O m w Q q =>
  ha σ F H A O m w _ fun v F' H' s w' d1 => by
    cases d1 with
    | lst a b => exact ⟨_, ds.length, rfl, .inl ⟨_, w'.same.seq a, b.length.symm⟩, q _ F' H' s w' (.v _)⟩
theorem ev_lenT (ha : EV K ta env (.tup ds)) : EV K (tCB (rLenP K) (tCons ta tNil)) env (dI (ds.length : Nat)) := fun σ F H A O m w Q q =>
  ha σ F H A O m w _ fun v F' H' s w' d1 => by
    cases d1 with
    | tup a b => exact ⟨_, ds.length, rfl, .inr ⟨_, w'.same.sqt a, b.length.symm⟩, q _ F' H' s w' (.v _)⟩
theorem ev_lenO {n : Nat} (ha : env[n]? = some (.ownN na ds)) : EV K (tCB (rLenP K) (tCons (tVar n) tNil)) env (dI (ds.length : Nat)) := fun σ F H A O m w Q q => by
  obtain ⟨p, vs, A1, A2, e, h1, h2, _, _⟩ := m.getO ha
  have hp := (w.has (p, .lst vs) (by rw [e]; simp)).2
  exact ⟨_, h1, _, ds.length, rfl, .inl ⟨_, .of hp, h2.length.symm⟩, q _ F H (Same.refl F) w (.v _)⟩
theorem ev_lenS {x : Str} (hx : x.length ≤ sizeLine) (ha : EV K ta env (dS x)) : EV K (tCB (rLenP K) (tCons ta tNil)) env (dI (x.length : Nat)) := fun σ F H A O m w Q q =>
  ha σ F H A O m w _ fun v F' H' s w' d1 => by
    rw [d1.scl]
    exact ⟨_, x.length, rfl, ⟨hx, rfl⟩, q _ F' H' s w' (.v _)⟩
/-- the length of mapped data -/
theorem ev_lenM {α : Type} {r : α → D} {xs : List α} (h : EV K t env (dI ((xs.map r).length : Nat))) : EV K t env (dI (xs.length : Nat)) := by rw [List.length_map] at h; exact h

/-! ### built-in calls of whole numbers -/
def rAbs : List V → Hp → VK → Prop := fun xs H Q => ∃ i, xs = [.int i] ∧ Q (.int (if i < 0 then -i else i)) H
theorem ev_abs (ha : EV K ta env (dI i)) : EV K (tCB rAbs (tCons ta tNil)) env (dI (absZ i)) := fun σ F H A O m w Q q =>
  ha σ F H A O m w _ fun v F' H' s w' d1 => ⟨i, by rw [d1.int], q _ F' H' s w' (.v _)⟩
def rMax2' : List V → Hp → VK → Prop := fun xs H Q => ∃ i j, xs = [.int i, .int j] ∧ Q (.int (if j > i then j else i)) H
def rMin2' : List V → Hp → VK → Prop := fun xs H Q => ∃ i j, xs = [.int i, .int j] ∧ Q (.int (if j < i then j else i)) H
theorem ev_max (ha : EV K ta env (dI i)) (hb : EV K tb env (dI j)) : EV K (tCB rMax2' (tCons ta (tCons tb tNil))) env (dI (maxZ i j)) := fun σ F H A O m w Q q =>
  ev_two ha hb m w fun x y F' H' s w' d1 d2 => ⟨i, j, by rw [d1.int, d2.int], q _ F' H' s w' (.v _)⟩
theorem ev_min (ha : EV K ta env (dI i)) (hb : EV K tb env (dI j)) : EV K (tCB rMin2' (tCons ta (tCons tb tNil))) env (dI (minZ i j)) := fun σ F H A O m w Q q =>
  ev_two ha hb m w fun x y F' H' s w' d1 d2 => ⟨i, j, by rw [d1.int, d2.int], q _ F' H' s w' (.v _)⟩
/-! ### isinstance -/
def tyD : D → Option String
  | .v .non => some "NoneType"
  | .v (.bl _) => some "bool"
  | .v (.int _) => some "int"
  | .v (.str _) => some "str"
  | .v _ => none
  | .tup _ => some "tuple"
  | .lst _ => some "list"
  | .ins _ _ => none
  | .hp _ => some "tuple"
  | .ob _ => none
theorem tyX_of {F H : Hp} {v : V} {d : D} {T : String} (s : Same F H) (h : Dat K F v d) (e : tyD d = some T) : TyX K H v (.type T) := by
  cases h with
  | v =>
    cases v with
    | non => cases e; exact .base .non
    | bl b => cases e; exact .base (.bl b)
    | int b => cases e; exact .base (.int b)
    | str b => cases e; exact .base (.str b)
    | _ => cases e
  | tup a b =>
    cases e
    rcases s.sqt a with (z | ⟨o, z⟩) | ⟨o, _, _, z, c, _⟩
    · exact .base (.tup z)
    · exact .fTuple z
    · exact .kTuple z c
  | lst a b =>
    cases e
    rcases s.seq a with (z | ⟨o, z⟩) | ⟨o, _, _, z, c, _⟩
    · exact .base (.lst z)
    · exact .base (.frz z)
    · exact .kList z c
  | ins a b => cases e
  | hp a => cases e; exact .base (.tup (s _ _ a))
  | ob a => cases e
theorem ev_isi {a b : String} {r : Bool} (ha : EV K ta env d) (e : tyD d = some a) (k : kitB a b = some r) : EV K (tCB (rIsi K) (tCons ta (tCons (tC (.ty b)) tNil))) env (dB r) := fun σ F H A O m w Q q =>
  ha σ F H A O m w _ fun v F' H' s w' d1 => ⟨v, .ty b, _, _, r, rfl, .ty b, tyX_of w'.same d1 e, kit_ty k, q _ F' H' s w' (.v _)⟩
end
end Pg

set_option Elab.async false
set_option linter.all false
set_option maxRecDepth 100000
namespace Pg
open PySem PySem.Spec PyProof.Rows L2
abbrev W0 : WX := fun c d _ H => E0 c d H

/-! ### statements -/
section
variable (K : PySem.W.Frag) (E : WX)
/-- from the abstract frame env the statement's reading comes to Nx, hands back a tree by Rt, or raises by Ex -/
def SW (t : TS) (env : List Slot) (Nx : List Slot → Prop) (Rt : List Slot → T → Prop) (Ex : List Slot → Value → Prop) : Prop :=
  ∀ (σ : L2.St) (F H : Hp) (A O : List (Addr × HO)), Match K F σ env A → Own F H (A ++ O) → ∀ Dn : Ends,
    (∀ env' σ' F' H' A', Nx env' → Same F F' → Match K F' σ' env' A' → Own F' H' (A' ++ O) → Dn.nx σ' H') →
    (∀ env' x v σ' F' H' A' O1, Rt env' x → Same F F' → Match K F' σ' env' A' → Own F' H' (O1 ++ (A' ++ O)) → TR K F' v x O1 → Dn.rt v H') →
    (∀ env' c σ' F' H' A', Ex env' c → Same F F' → Match K F' σ' env' A' → Own F' H' (A' ++ O) → E c none σ' H') → t Dn σ H
def ownAt (env : List Slot) (i : Nat) : Bool := match env[i]? with
  | some (.tr _) => true
  | _ => false
/-- a target: stores the datum d; js: the slots it stores to -/
def GT (g : TG) (js : List Nat) (d : D) (env env' : List Slot) : Prop :=
  (∀ i, ownAt env' i = true → ownAt env i = true) ∧ ∀ (σ : L2.St) (v : V) (F H : Hp) (A O : List (Addr × HO)), Match K F σ env A → Own F H (A ++ O) → Dat K F v d → ∀ Q : L2.St → Hp → Prop,
    (∀ σ' A', A'.Sublist A → ((∀ j ∈ js, ownAt env j = false) → A' = A) → Match K F σ' env' A' → (∀ vs : List Nat, (∀ j ∈ js, j ∈ vs) → wipe σ' vs = wipe σ vs) → Q σ' H) → g v σ H Q
end
section
variable {K : PySem.W.Frag} {na : Option Addr} {E : WX} {env env' : List Slot} {t u : TS} {te ta tb : TE} {tt : TT} {d e : D} {ds es : List D} {i j : Nat} {Nx Nx' : List Slot → Prop} {Rt : List Slot → T → Prop} {Ex : List Slot → Value → Prop} {g : TG}
theorem Own.subA {F H : Hp} {A A' O : List (Addr × HO)} (h : Own F H (A ++ O)) (s : A'.Sublist A) : Own F H (A' ++ O) := h.sub (s.append (List.Sublist.refl O))
theorem Own.dropA {F H : Hp} {A O : List (Addr × HO)} (h : Own F H (A ++ O)) : Own F H O := h.sub (List.sublist_append_right A O)
theorem sw_mono (h : SW K E t env Nx Rt Ex) (hn : ∀ e, Nx e → Nx' e) : SW K E t env Nx' Rt Ex := fun σ F H A O m w Dn q1 q2 q4 => h σ F H A O m w Dn (fun a b c d f z => q1 a b c d f (hn a z)) q2 q4
theorem sw_weak (hw : Wk env env') (h : SW K E t env' Nx Rt Ex) : SW K E t env Nx Rt Ex := fun σ F H A O m w Dn q1 q2 q4 => by
  obtain ⟨A', s, m'⟩ := m.weak hw
  exact h σ F H A' O m' (w.subA s) Dn q1 q2 q4
theorem sw_seq (h : SW K E t env (fun e => SW K E u e Nx Rt Ex) Rt Ex) : SW K E (tSeq t u) env Nx Rt Ex := fun σ F H A O m w Dn q1 q2 q4 =>
  h σ F H A O m w _ (fun e σ' F' H' A' n s m' w' => n σ' F' H' A' O m' w' Dn (fun e2 σ2 F2 H2 A2 n2 s2 m2 w2 => q1 e2 σ2 F2 H2 A2 n2 (s.trans s2) m2 w2)
    (fun e x v σ2 F2 H2 A2 O1 r s2 m2 w2 => q2 e x v σ2 F2 H2 A2 O1 r (s.trans s2) m2 w2) fun e c σ2 F2 H2 A2 r s2 m2 w2 => q4 e c σ2 F2 H2 A2 r (s.trans s2) m2 w2) q2 q4
theorem sw_next (h : Nx env) : SW K E tNext env Nx Rt Ex := fun σ F H A O m w Dn q1 q2 q4 => q1 env σ F H A h (Same.refl F) m w
/-- a way that cannot be -/
theorem sw_absurd (h : False) : SW K E t env Nx Rt Ex := h.elim
theorem match_setA {F : Hp} : ∀ {σ : L2.St} {env : List Slot} {O : List (Addr × HO)} (i : Nat) {v : V} {d : D}, Match K F σ env O → Dat K F v d → ownAt env i = false → Match K F (σ.set i (some v)) (env.set i (.dat d)) O
  | _, _, _, _, _, _, .nil, _, _ => .nil
  | _, _, _, 0, _, _, .un m, h, _ => .dat h m
  | _, _, _, 0, _, _, .dat _ m, h, _ => .dat h m
  | _, _, _, 0, _, _, .tr _ m, h, z => by simp [ownAt] at z
  | _, _, _, i + 1, _, _, .un m, h, z => .un (match_setA i m h (by simpa [ownAt] using z))
  | _, _, _, i + 1, _, _, .dat d m, h, z => .dat d (match_setA i m h (by simpa [ownAt] using z))
  | _, _, _, i + 1, _, _, .tr d m, h, z => .tr d (match_setA i m h (by simpa [ownAt] using z))
theorem ownAt_set {i : Nat} {d : D} (j : Nat) (h : ownAt (env.set i (.dat d)) j = true) : ownAt env j = true := by
  unfold ownAt at h ⊢
  by_cases e : i = j
  · subst e
    by_cases hl : i < env.length
    · rw [List.getElem?_set_self hl] at h; cases h
    · rw [List.getElem?_eq_none (by simpa using hl)] at h; cases h
  · rw [List.getElem?_set_ne e] at h; exact h
theorem gt_name (i : Nat) (d : D) (env : List Slot) : GT K (gName i) [i] d env (env.set i (.dat d)) := ⟨fun j h => ownAt_set j h, fun σ v F H A O m w hd Q q => by
  have hex : ∃ A', A'.Sublist A ∧ ((∀ j ∈ [i], ownAt env j = false) → A' = A) ∧ Match K F (σ.set i (some v)) (env.set i (.dat d)) A' := by
    by_cases ho : ownAt env i = true
    · obtain ⟨A', s, m'⟩ := m.set i hd
      exact ⟨A', s, fun z => absurd ho (by rw [z i (List.mem_singleton.mpr rfl)]; decide), m'⟩
    · exact ⟨A, List.Sublist.refl _, fun _ => rfl, match_setA i m hd (by simpa using ho)⟩
  obtain ⟨A', s, sA, m'⟩ := hex
  refine q _ A' s sA m' fun vs hv => ?_
  have hi := hv i (List.mem_singleton.mpr rfl)
  clear q m' hv
  induction vs with
  | nil => cases hi
  | cons b vs ih =>
    unfold wipe
    by_cases hb : i ∈ vs
    · rw [ih hb]
    · have e : b = i := by
        rcases List.mem_cons.mp hi with z | z
        · exact z.symm
        · exact absurd z hb
      subst e
      have key : ∀ (σ : L2.St) (ws : List Nat), b ∉ ws → (wipe (σ.set b (some v)) ws).set b none = (wipe σ ws).set b none := by
        intro σ ws
        induction ws with
        | nil => intro _; unfold wipe; rw [List.set_set]
        | cons c ws ih2 =>
          intro hn
          have h1 : c ≠ b := fun z => hn (by rw [z]; exact List.mem_cons_self)
          have h2 : b ∉ ws := fun z => hn (List.mem_cons_of_mem _ z)
          unfold wipe
          rw [List.set_comm _ _ h1, ih2 h2, List.set_comm _ _ h1.symm]
      exact key σ vs hb⟩
/-- name = e -/
theorem sw_set (h : EV K te env d) (hn : Nx (env.set i (.dat d))) : SW K E (tAsg te (gName i)) env Nx Rt Ex := fun σ F H A O m w Dn q1 q2 q4 =>
  h σ F H A O m w _ fun v F1 H1 s1 w1 d1 => by
    obtain ⟨A', s, m'⟩ := (m.up s1).set i d1
    exact q1 _ _ F1 H1 A' hn s1 m' (w1.subA s)
/-- name = a new list, owned -/
theorem sw_own (h : EN K te env ds) (hl : i < env.length) (hn : Nx (env.set i (.own ds))) : SW K E (tAsg te (gName i)) env Nx Rt Ex := fun σ F H A O m w Dn q1 q2 q4 =>
  h σ F H A O m w _ fun p vs F1 H1 s1 w1 d1 => by
    obtain ⟨A1, B, A2, e, s, m'⟩ := (m.up s1).put i d1 hl
    subst e
    refine q1 _ _ F1 H1 _ hn s1 m' ?_
    have w2 : Own F1 H1 ((p, .lst vs) :: ((A1 ++ B) ++ O)) := w1.sub (((List.Sublist.refl A1).append s |>.append (List.Sublist.refl O)).cons₂ _)
    rw [List.append_assoc] at w2 ⊢
    exact w2.unmid
/-- an own list frozen -/
theorem sw_frz {xs : List D} (h : env[i]? = some (.ownN na xs)) (hn : SW K E t (env.set i (.dat (.lst xs))) Nx Rt Ex) : SW K E t env Nx Rt Ex := fun σ F H A O m w Dn q1 q2 q4 => by
  obtain ⟨p, vs, A1, A2, e, h1, h2, _, h5⟩ := m.getO h
  subst e
  rw [List.append_assoc] at w
  obtain ⟨w2, s2⟩ := w.mid.frz
  have w2 : Own (upd F p (.lst vs)) H (A1 ++ A2 ++ O) := by rw [List.append_assoc]; exact w2
  exact hn σ _ H (A1 ++ A2) O (h5 _ _ s2 (.lst (.of upd_same) (h2.up s2))) w2 Dn (fun a b c d f z s => q1 a b c d f z (s2.trans s)) (fun e x v a b c d f z s => q2 e x v a b c d f z (s2.trans s)) fun e c a b d f z s => q4 e c a b d f z (s2.trans s)
theorem sw_ret (h : EV K te env d) (hr : Rt env (.dat d)) : SW K E (tRet te) env Nx Rt Ex := fun σ F H A O m w Dn q1 q2 q4 =>
  h σ F H A O m w _ fun v F1 H1 s1 w1 d1 => q2 env _ v σ F1 H1 A [] hr s1 (m.up s1) w1 (.dat d1)
theorem sw_retN (hr : Rt env (.dat (.v .non))) : SW K E tRetN env Nx Rt Ex := fun σ F H A O m w Dn q1 q2 q4 => q2 env _ .non σ F H A [] hr (Same.refl F) m w (.dat (.v _))
/-- return a new list -/
theorem sw_retO (h : EN K te env ds) (hr : Rt env (.lst none (ds.map T.dat))) : SW K E (tRet te) env Nx Rt Ex := fun σ F H A O m w Dn q1 q2 q4 =>
  h σ F H A O m w _ fun p vs F1 H1 s1 w1 d1 => q2 env _ _ σ F1 H1 A [(p, .lst vs)] hr s1 (m.up s1) w1 (.lst (fun _ z => nomatch z) d1.tree)
/-- return what a slot owns by its name -/
theorem sw_retT {x : T} (h : env[i]? = some (.tr x)) (hr : Rt (env.set i .un) x) : SW K E (tRet (tVar i)) env Nx Rt Ex := fun σ F H A O m w Dn q1 q2 q4 => by
  obtain ⟨v, O1, A1, A2, e, h1, h2, _, _, h6⟩ := m.getT h
  subst e
  refine ⟨_, h1, q2 _ _ _ σ F H (A1 ++ A2) O1 hr (Same.refl F) (h6 F (Same.refl F)) (w.perm ?_) h2⟩
  have e1 : A1 ++ (O1 ++ A2) ++ O = (A1 ++ O1) ++ (A2 ++ O) := by simp
  have e2 : O1 ++ (A1 ++ A2 ++ O) = (O1 ++ A1) ++ (A2 ++ O) := by simp
  rw [e1, e2]
  exact List.Perm.append_right _ List.perm_append_comm
theorem sw_retV (h : env[i]? = some (.own ds)) (hr : Rt (env.set i .un) (.lst none (ds.map T.dat))) : SW K E (tRet (tVar i)) env Nx Rt Ex := sw_retT h hr
theorem sw_drop (h : EV K te env d) (hn : Nx env) : SW K E (tDrop te) env Nx Rt Ex := fun σ F H A O m w Dn q1 q2 q4 =>
  h σ F H A O m w _ fun v F1 H1 s1 w1 d1 => q1 env σ F1 H1 A hn s1 (m.up s1) w1
theorem sw_if {c : Bool} (h : ET K tt env c) (h1 : c = true → SW K E t env Nx Rt Ex) (h2 : c = false → SW K E u env Nx Rt Ex) : SW K E (tIfS tt t u) env Nx Rt Ex := fun σ F H A O m w Dn q1 q2 q4 =>
  h σ F H A O m w _ fun F1 H1 s1 w1 => by
    have k : ∀ {t : TS}, SW K E t env Nx Rt Ex → t Dn σ H1 := fun z => z σ F1 H1 A O (m.up s1) w1 Dn (fun a b c d f y s => q1 a b c d f y (s1.trans s)) (fun e x v a b c d f z s => q2 e x v a b c d f z (s1.trans s)) fun e c a b d f z s => q4 e c a b d f z (s1.trans s)
    cases c with
    | true => exact iteT (k (h1 rfl))
    | false => exact iteF (k (h2 rfl))
/-- xs.append(e), xs an own list -/
theorem appR_some {α : Type} {xs ys : List α} {x : α} (h : appR xs x = .ok ys) : xs.length < 16777216 ∧ ys = xs ++ [x] := by
  unfold appR at h
  split at h
  · exact ⟨by assumption, (R.ok_inj h).symm⟩
  · cases h
theorem sw_app {α : Type} {r : α → D} {xs ys : List α} {x : α} (hx : appR xs x = .ok ys) (h : env[i]? = some (.ownN na (xs.map r))) (he : EV K te env (r x)) (hn : Nx (env.set i (.ownN na (ys.map r)))) :
    SW K E (tDrop (tBM K "list" rAppend (tVar i) (tCons te tNil))) env Nx Rt Ex := fun σ F H A O m w Dn q1 q2 q4 => by
  obtain ⟨p, vs, A1, A2, e, h1, h2, h4, _⟩ := m.getO h
  obtain ⟨hl, e2⟩ := appR_some hx
  subst e2
  have hp := (w.has (p, .lst vs) (by rw [e]; simp)).2
  refine ⟨_, h1, .inl ⟨rfl, vs, .of hp⟩, he σ F H A O m w _ fun v F1 H1 s1 w1 d1 => ?_⟩
  have hp1 := (w1.has (p, .lst vs) (by rw [e]; simp)).2
  refine ⟨p, vs, v, rfl, rfl, hp1, ?_, ?_⟩
  · have := h2.length
    rw [List.length_map] at this
    rw [this, sizeLine_eq]; exact hl
  · subst e
    refine q1 _ σ F1 _ (A1 ++ (p, .lst (vs ++ [v])) :: A2) hn s1 ?_ ?_
    · rw [List.map_append]
      exact h4 F1 _ _ s1 ((h2.up s1).append (.cons d1 .nil))
    · rw [List.append_assoc] at w1 ⊢
      exact (w1.mid.put (o' := .lst (vs ++ [v]))).unmid
/-- xs[k] = e, xs an own list -/
theorem setR_some {α : Type} {xs ys : List α} {x : α} {k : Int} (h : setR xs k x = .ok ys) : ∃ n, ixP xs.length k = some n ∧ ys = xs.set n x := by
  unfold setR at h
  split at h
  · exact ⟨_, by assumption, (R.ok_inj h).symm⟩
  · cases h
theorem sw_put {α : Type} {r : α → D} {xs ys : List α} {x : α} {k : Int} (hx : setR xs k x = .ok ys) (he : EV K te env (r x)) (h : env[i]? = some (.ownN na (xs.map r))) (hk : EV K tb env (dI k)) (hn : Nx (env.set i (.ownN na (ys.map r)))) :
    SW K E (tAsg te (gSub (tVar i) tb rSetL)) env Nx Rt Ex := fun σ F H A O m w Dn q1 q2 q4 =>
  he σ F H A O m w _ fun v F1 H1 s1 w1 d1 => by
    obtain ⟨p, vs, A1, A2, e, h1, h2, h4, _⟩ := m.getO h
    obtain ⟨n, e1, e2⟩ := setR_some hx
    subst e2
    refine ⟨_, h1, hk σ F1 H1 A O (m.up s1) w1 _ fun y F2 H2 s2 w2 d2 => ?_⟩
    have hp2 := (w2.has (p, .lst vs) (by rw [e]; simp)).2
    have hl := h2.length
    rw [List.length_map] at hl
    refine ⟨p, vs, k, n, rfl, d2.int, hp2, by rw [← ixP_ixN, hl]; exact e1, ?_⟩
    subst e
    refine q1 _ σ F2 _ (A1 ++ (p, .lst (vs.set n v)) :: A2) hn (s1.trans s2) ?_ ?_
    · rw [List.map_set]
      exact h4 F2 _ _ (s1.trans s2) ((h2.up (s1.trans s2)).set n (d1.up s2))
    · rw [List.append_assoc] at w2 ⊢
      exact (w2.mid.put (o' := .lst (vs.set n v))).unmid

/-! ### what is walked -/
variable (K) in
def Walks (J : It) (F : Hp) (ds : List D) : Prop :=
  (∀ (i : Nat) (F' H : Hp) (O : List (Addr × HO)) (d : D), Same F F' → Own F' H O → ds[i]? = some d → J.go i H ∧ ∀ x H', J.yld i H x H' → ∃ F'', Same F' F'' ∧ Own F'' H' O ∧ Dat K F'' x d) ∧
  (∀ (i : Nat) (F' H : Hp) (O : List (Addr × HO)), Same F F' → Own F' H O → ds.length ≤ i → J.stop i H)
variable (K) in
def IV (wi : TI) (env : List Slot) (ds : List D) : Prop := ∀ (σ : L2.St) (F H : Hp) (A O : List (Addr × HO)), Match K F σ env A → Own F H (A ++ O) → ∀ Q : It → Hp → Prop,
  (∀ J F' H', Same F F' → Own F' H' (A ++ O) → Walks K J F' ds → Q J H') → wi σ H Q
variable (K) in
/-- .. where what is walked changes the frame -/
def IVM (wi : TI) (env env' : List Slot) (ds : List D) : Prop := ∀ (σ : L2.St) (F H : Hp) (A O : List (Addr × HO)), Match K F σ env A → Own F H (A ++ O) → ∀ Q : It → Hp → Prop,
  (∀ J F' H' A', Same F F' → Match K F' σ env' A' → Own F' H' (A' ++ O) → Walks K J F' ds → Q J H') → wi σ H Q
theorem IV.m {wi : TI} (h : IV K wi env ds) : IVM K wi env env ds := fun σ F H A O m w Q q => h σ F H A O m w Q fun J F' H' s w' wk => q J F' H' A s (m.up s) w' wk
theorem iv_list (h : EV K te env (.lst ds)) : IV K (iList K te) env ds := fun σ F H A O m w Q q => h σ F H A O m w _ fun v F1 H1 s1 w1 d1 => by
  cases d1 with
  | lst a b =>
    refine ⟨_, rfl, ⟨_, w1.same.seq a⟩, q _ F1 H1 s1 w1 ⟨fun i F' H O d s w' hd => ?_, fun i F' H O s w' hl => ⟨_, w'.same.seq (s.seq a), by rw [b.length]; exact hl⟩⟩⟩
    obtain ⟨x, hx, dx⟩ := b.get hd
    refine ⟨⟨_, x, w'.same.seq (s.seq a), hx⟩, fun y H' hy => ?_⟩
    obtain ⟨e1, e2⟩ := hy
    subst e1
    have : x = y := Option.some.inj (hx.symm.trans (e2 _ (w'.same.seq (s.seq a))))
    subst this
    exact ⟨F', Same.refl _, w', dx.up s⟩
theorem iv_tup (h : EV K te env (.tup ds)) : IV K (iTup K te) env ds := fun σ F H A O m w Q q => h σ F H A O m w _ fun v F1 H1 s1 w1 d1 => by
  cases d1 with
  | tup a b =>
    refine ⟨_, rfl, ⟨_, w1.same.sqt a⟩, q _ F1 H1 s1 w1 ⟨fun i F' H O d s w' hd => ?_, fun i F' H O s w' hl => ⟨_, w'.same.sqt (s.sqt a), by rw [b.length]; exact hl⟩⟩⟩
    obtain ⟨x, hx, dx⟩ := b.get hd
    refine ⟨⟨_, x, w'.same.sqt (s.sqt a), hx⟩, fun y H' hy => ?_⟩
    obtain ⟨e1, e2⟩ := hy
    subst e1
    have : x = y := Option.some.inj (hx.symm.trans (e2 _ (w'.same.sqt (s.sqt a))))
    subst this
    exact ⟨F', Same.refl _, w', dx.up s⟩
theorem walks_rng (lo : Int) (n : Nat) (F : Hp) : Walks K (Itr lo n) F (((List.range n).map fun k => lo + (k : Nat)).map dI) := by
  refine ⟨fun i F' H O d s w' hd => ?_, fun i F' H O s w' hl => ?_⟩
  case refine_2 => rw [List.length_map, List.length_map, List.length_range] at hl; exact hl
  rw [List.map_map, List.getElem?_map] at hd
  by_cases hi : i < n
  · rw [List.getElem?_range hi] at hd
    have e : dI (lo + (i : Nat)) = d := Option.some.inj hd
    subst e
    refine ⟨hi, fun y H' hy => ?_⟩
    obtain ⟨e1, e2⟩ := hy
    subst e1 e2
    exact ⟨F', Same.refl _, w', .v _⟩
  · rw [List.getElem?_eq_none (by simpa using hi)] at hd
    cases hd
theorem rngR_some {i j : Int} {xs : List Int} (h : rngR i j = .ok xs) : (-(2 ^ 62) ≤ i ∧ i < 2 ^ 62 ∧ -(2 ^ 62) ≤ j ∧ j < 2 ^ 62) ∧ xs = (List.range (j - i).toNat).map fun k => i + (k : Nat) := by
  unfold rngR at h
  split at h
  · exact ⟨by assumption, (R.ok_inj h).symm⟩
  · cases h
theorem iv_rng1 {j : Int} {xs : List Int} (hx : rngR 0 j = .ok xs) (h : EV K te env (dI j)) : IV K (iRng1 (tCons te tNil)) env (xs.map dI) := fun σ F H A O m w Q q => h σ F H A O m w _ fun v F1 H1 s1 w1 d1 => by
  obtain ⟨⟨_, _, h1, h2⟩, e⟩ := rngR_some hx
  rw [d1.int]
  refine ⟨j, rfl, h1, h2, q _ F1 H1 s1 w1 ?_⟩
  rw [e]
  have := walks_rng (K := K) 0 (j - 0).toNat F1
  rw [show j - 0 = j by omega] at this ⊢
  exact this
theorem iv_rng2 {i j : Int} {xs : List Int} (hx : rngR i j = .ok xs) (ha : EV K ta env (dI i)) (hb : EV K tb env (dI j)) : IV K (iRng2 (tCons ta (tCons tb tNil))) env (xs.map dI) := fun σ F H A O m w Q q =>
  ev_two ha hb m w fun x y F' H' s w' d1 d2 => by
    obtain ⟨h, e⟩ := rngR_some hx
    rw [d1.int, d2.int]
    refine ⟨i, j, rfl, h, q _ F' H' s w' ?_⟩
    rw [e]
    exact walks_rng (K := K) i (j - i).toNat F'

/-! ### for -/
theorem forX_step {α S β : Type} {f : α → S → R (Sum S β)} : ∀ {xs : List α} {s : S} {r : Sum S β}, R.forX f xs s = .ok r →
    (xs = [] ∧ r = .inl s) ∨ ∃ x ys, xs = x :: ys ∧ ∃ r1, f x s = .ok r1 ∧ ((∃ s', r1 = .inl s' ∧ R.forX f ys s' = .ok r) ∨ ∃ b, r1 = .inr b ∧ r = .inr b)
  | [], s, r, h => .inl ⟨rfl, (R.ok_inj h).symm⟩
  | x :: ys, s, r, h => by
    obtain ⟨r1, h1, h2⟩ := R.bind_inv h
    refine .inr ⟨x, ys, rfl, r1, h1, ?_⟩
    cases r1 with
    | inl s' => exact .inl ⟨s', rfl, h2⟩
    | inr b => exact .inr ⟨b, rfl, (R.ok_inj h2).symm⟩
/-- a for whose turns may hand back -/
theorem sw_forXM {wi : TI} {tb : TS} {α S β : Type} {xs : List α} {ra : α → D} (f : α → S → R (Sum S β)) (ε : S → List Slot) (ρ : β → List Slot → T → Prop) (ξ : β → List Slot → Value → Prop) (s0 : S) {r : Sum S β} {js : List Nat} {envi : List Slot}
    (hi : IVM K wi env envi (xs.map ra)) (hf : R.forX f xs s0 = .ok r) (h0 : Wk envi (ε s0))
    (hb : ∀ x s r1, x ∈ xs → f x s = .ok r1 → ∃ env1, GT K g js (ra x) (ε s) env1 ∧ SW K E tb env1 (fun e => ∃ s', r1 = .inl s' ∧ Wk e (ε s')) (fun e v => ∃ b, r1 = .inr b ∧ ρ b e v) (fun e c => ∃ b, r1 = .inr b ∧ ξ b e c))
    (hn : ∀ s, r = .inl s → Nx (ε s)) (hr : ∀ b, r = .inr b → (∀ e v, ρ b e v → Rt e v) ∧ ∀ e c, ξ b e c → Ex e c) : SW K E (tFor wi g tb) env Nx Rt Ex := fun σ F H A O m w Dn q1 q2 q4 =>
  hi σ F H A O m w _ fun J F1 H1 A1 s1 m1 w1 wk => by
    obtain ⟨A0, sb0, m0⟩ := m1.weak h0
    refine ⟨fun i k σ2 H2 => ∃ (s : S) (F2 : Hp) (A2 : List (Addr × HO)), k + i = xs.length ∧ Same F1 F2 ∧ Match K F2 σ2 (ε s) A2 ∧ Own F2 H2 (A2 ++ O) ∧ R.forX f (xs.drop i) s = .ok r,
      ⟨xs.length, s0, F1, A0, rfl, Same.refl _, m0, w1.subA sb0, hf⟩, ?_⟩
    rintro i k σ2 H2 ⟨s, F2, A2, hk, ss, m2, w2, h2⟩
    rcases forX_step h2 with ⟨e1, e2⟩ | ⟨x, ys, e1, r1, h3, h4⟩
    · have hl : xs.length ≤ i := by
        have := congrArg List.length e1
        rw [List.length_drop, List.length_nil] at this
        omega
      exact .inl ⟨wk.2 i F2 H2 _ ss w2 (by rw [List.length_map]; exact hl), q1 _ _ F2 H2 A2 (hn s e2) (s1.trans ss) m2 w2⟩
    · have hx : xs[i]? = some x := by
        have := congrArg (fun l => l[0]?) e1
        simpa using this
      have hlt : i < xs.length := by
        rcases Nat.lt_or_ge i xs.length with z | z
        · exact z
        · rw [List.getElem?_eq_none z] at hx; cases hx
      have hys : xs.drop (i + 1) = ys := by
        rw [← List.drop_drop, e1]; rfl
      obtain ⟨g1, g2⟩ := wk.1 i F2 H2 _ (ra x) ss w2 (by rw [List.getElem?_map, hx]; rfl)
      refine .inr ⟨g1, fun σ3 H3 => ∃ (s' : S) (F3 : Hp) (A3 : List (Addr × HO)), r1 = .inl s' ∧ Same F1 F3 ∧ Match K F3 σ3 (ε s') A3 ∧ Own F3 H3 (A3 ++ O), ?_, fun y H3 hy => ?_⟩
      · rintro σ3 H3 ⟨s', F3, A3, e3, ss3, m3, w3⟩
        refine ⟨k - 1, by omega, s', F3, A3, by omega, ss3, m3, w3, ?_⟩
        rcases h4 with ⟨s4, e4, h5⟩ | ⟨b, e4, _⟩
        · rw [e3] at e4
          cases e4
          rw [hys]; exact h5
        · rw [e3] at e4; cases e4
      · obtain ⟨F3, ss3, w3, d3⟩ := g2 y H3 hy
        obtain ⟨env1, hg, hbody⟩ := hb x s r1 (List.mem_of_getElem? hx) h3
        refine hg.2 σ2 y F3 H3 A2 O (m2.up ss3) w3 d3 _ fun σ4 A4 sb4 _ m4 _ => ?_
        have sF : Same F F3 := s1.trans (ss.trans ss3)
        have e8 : ∀ b, r1 = .inr b → r = .inr b := fun b e6 => by
          rcases h4 with ⟨s4, e4, _⟩ | ⟨b', e4, e9⟩
          · rw [e6] at e4; cases e4
          · rw [e6] at e4; cases e4; exact e9
        refine hbody σ4 F3 H3 A4 O m4 (w3.subA sb4) _ ?_ ?_ ?_
        · rintro e5 σ5 F5 H5 A5 ⟨s', e6, wk6⟩ s5 m5 w5
          obtain ⟨A6, sb6, m6⟩ := m5.weak wk6
          exact ⟨s', F5, A6, e6, ss.trans (ss3.trans s5), m6, w5.subA sb6⟩
        · rintro e5 x5 v σ5 F5 H5 A5 O5 ⟨b, e6, e7⟩ s5 m5 w5 d5
          exact q2 e5 x5 v σ5 F5 H5 A5 O5 ((hr b (e8 b e6)).1 _ _ e7) (sF.trans s5) m5 w5 d5
        · rintro e5 c σ5 F5 H5 A5 ⟨b, e6, e7⟩ s5 m5 w5
          exact q4 e5 c σ5 F5 H5 A5 ((hr b (e8 b e6)).2 _ _ e7) (sF.trans s5) m5 w5
theorem sw_forX {wi : TI} {tb : TS} {α S β : Type} {xs : List α} {ra : α → D} (f : α → S → R (Sum S β)) (ε : S → List Slot) (ρ : β → List Slot → T → Prop) (ξ : β → List Slot → Value → Prop) (s0 : S) {r : Sum S β} {js : List Nat}
    (hi : IV K wi env (xs.map ra)) (hf : R.forX f xs s0 = .ok r) (h0 : Wk env (ε s0))
    (hb : ∀ x s r1, x ∈ xs → f x s = .ok r1 → ∃ env1, GT K g js (ra x) (ε s) env1 ∧ SW K E tb env1 (fun e => ∃ s', r1 = .inl s' ∧ Wk e (ε s')) (fun e v => ∃ b, r1 = .inr b ∧ ρ b e v) (fun e c => ∃ b, r1 = .inr b ∧ ξ b e c))
    (hn : ∀ s, r = .inl s → Nx (ε s)) (hr : ∀ b, r = .inr b → (∀ e v, ρ b e v → Rt e v) ∧ ∀ e c, ξ b e c → Ex e c) : SW K E (tFor wi g tb) env Nx Rt Ex :=
  sw_forXM f ε ρ ξ s0 hi.m hf h0 hb hn hr
/-- a for whose turns do not hand back -/
theorem forR_X {α S : Type} (f : α → S → R S) : ∀ (xs : List α) (s s1 : S), R.forR f xs s = .ok s1 → R.forX (β := Empty) (fun x s => R.bind (f x s) fun s' => .ok (Sum.inl s')) xs s = .ok (Sum.inl s1)
  | [], s, s1, h => by rw [R.ok_inj (show R.ok s = R.ok s1 from h)]; rfl
  | x :: xs, s, s1, h => by
    obtain ⟨s2, h1, h2⟩ := R.bind_inv h
    unfold R.forX
    rw [h1]
    exact forR_X f xs s2 s1 h2
theorem sw_forRM {wi : TI} {tb : TS} {α S : Type} {xs : List α} {ra : α → D} (f : α → S → R S) (ε : S → List Slot) (s0 : S) {s1 : S} {js : List Nat} {envi : List Slot}
    (hi : IVM K wi env envi (xs.map ra)) (hf : R.forR f xs s0 = .ok s1) (h0 : Wk envi (ε s0))
    (hb : ∀ x s s', x ∈ xs → f x s = .ok s' → ∃ env1, GT K g js (ra x) (ε s) env1 ∧ SW K E tb env1 (fun e => Wk e (ε s')) (fun _ _ => False) (fun _ _ => False))
    (hn : Nx (ε s1)) : SW K E (tFor wi g tb) env Nx Rt Ex := by
  refine sw_forXM (β := Empty) (js := js) (fun x s => R.bind (f x s) fun s' => .ok (Sum.inl s')) ε (fun b => nomatch b) (fun b => nomatch b) s0 hi (forR_X f xs s0 s1 hf) h0 (fun x s r1 hx h => ?_) (fun s e => ?_) (fun b => nomatch b)
  · obtain ⟨s', h1, h2⟩ := R.bind_inv h
    obtain ⟨env1, hg, hs⟩ := hb x s s' hx h1
    refine ⟨env1, hg, ?_⟩
    intro σ F H A O m w Dn q1 q2 q4
    exact hs σ F H A O m w Dn (fun a b c d f z => q1 a b c d f ⟨s', (R.ok_inj h2).symm, z⟩) (fun _ _ _ _ _ _ _ _ z => z.elim) (fun _ _ _ _ _ _ z => z.elim)
  · cases e; exact hn
theorem sw_forR {wi : TI} {tb : TS} {α S : Type} {xs : List α} {ra : α → D} (f : α → S → R S) (ε : S → List Slot) (s0 : S) {s1 : S} {js : List Nat}
    (hi : IV K wi env (xs.map ra)) (hf : R.forR f xs s0 = .ok s1) (h0 : Wk env (ε s0))
    (hb : ∀ x s s', x ∈ xs → f x s = .ok s' → ∃ env1, GT K g js (ra x) (ε s) env1 ∧ SW K E tb env1 (fun e => Wk e (ε s')) (fun _ _ => False) (fun _ _ => False))
    (hn : Nx (ε s1)) : SW K E (tFor wi g tb) env Nx Rt Ex :=
  sw_forRM f ε s0 hi.m hf h0 hb hn
/-- (a, b) targets -/
theorem gt_tup2 {g1 g2 : TG} {j1 j2 : List Nat} {d1 d2 : D} {env1 env2 : List Slot} (h1 : GT K g1 j1 d1 env env1) (h2 : GT K g2 j2 d2 env1 env2) : GT K (gTup K 2 (gCons g1 (gCons g2 gNil))) (j1 ++ j2) (.tup [d1, d2]) env env2 := ⟨fun i h => h1.1 i (h2.1 i h), fun σ v F H A O m w hd Q q => by
  cases hd with
  | tup a b =>
    cases b with
    | cons b1 b =>
      cases b with
      | cons b2 b =>
        cases b
        refine ⟨_, _, rfl, w.same.sqt a, rfl, _, _, rfl, h1.2 σ _ F H A O m w b1 _ fun σ1 A1 sb1 y1 m1 z1 => ?_⟩
        refine ⟨_, _, rfl, h2.2 σ1 _ F H A1 O m1 (w.subA sb1) b2 _ fun σ2 A2 sb2 y2 m2 z2 => ⟨rfl, ?_⟩⟩
        refine q σ2 A2 (sb2.trans sb1) (fun z => ?_) m2 fun vs hv => (z2 vs fun j hj => hv j (List.mem_append_right _ hj)).trans (z1 vs fun j hj => hv j (List.mem_append_left _ hj))
        have e1 := y1 fun j hj => z j (List.mem_append_left _ hj)
        have e2 := y2 fun j hj => by
          cases ho : ownAt env1 j with
          | false => rfl
          | true =>
            have := h1.1 j ho
            rw [z j (List.mem_append_right _ hj)] at this
            cases this
        rw [e2, e1]⟩
/-- target = e, any target -/
theorem sw_asgG {js : List Nat} (h : EV K te env d) (hg : GT K g js d env env') (hn : Nx env') : SW K E (tAsg te g) env Nx Rt Ex := fun σ F H A O m w Dn q1 q2 q4 =>
  h σ F H A O m w _ fun v F1 H1 s1 w1 d1 => hg.2 σ v F1 H1 A O (m.up s1) w1 d1 _ fun σ' A' sb _ m' _ => q1 _ _ F1 H1 A' hn s1 m' (w1.subA sb)
/-- a, b = x, y -/
theorem sw_par (ha : EV K ta env d) (hb : EV K tb env e) (hn : Nx ((env.set i (.dat d)).set j (.dat e))) : SW K E (tPar i j (tCons ta (tCons tb tNil))) env Nx Rt Ex := fun σ F H A O m w Dn q1 q2 q4 =>
  ev_two ha hb m w fun x y F' H' s w' d1 d2 => by
    obtain ⟨A1, sb1, m1⟩ := (m.up s).set i d1
    obtain ⟨A2, sb2, m2⟩ := m1.set j d2
    exact ⟨x, y, rfl, q1 _ _ F' H' A2 hn s m2 (w'.subA (sb2.trans sb1))⟩
/-- while, by an invariant and a measure -/
theorem sw_while {tb : TS} {S : Type} (I : S → Prop) (μ : S → Nat) (ε : S → List Slot) (s0 : S) (h0 : Wk env (ε s0)) (i0 : I s0)
    (hs : ∀ s, I s → ∃ b, ET K tt (ε s) b ∧ (b = true → SW K E tb (ε s) (fun e => ∃ s', I s' ∧ μ s' < μ s ∧ Wk e (ε s')) Rt Ex) ∧ (b = false → Nx (ε s))) : SW K E (tWhile tt tb) env Nx Rt Ex := fun σ F H A O m w Dn q1 q2 q4 => by
  obtain ⟨A0, sb0, m0⟩ := m.weak h0
  refine ⟨fun k σ2 H2 => ∃ (s : S) (F2 : Hp) (A2 : List (Addr × HO)), μ s = k ∧ I s ∧ Same F F2 ∧ Match K F2 σ2 (ε s) A2 ∧ Own F2 H2 (A2 ++ O), ⟨_, s0, F, A0, rfl, i0, Same.refl _, m0, w.subA sb0⟩, ?_⟩
  rintro k σ2 H2 ⟨s, F2, A2, rfl, is, ss, m2, w2⟩
  obtain ⟨b, e1, e2, e3⟩ := hs s is
  refine e1 σ2 F2 H2 A2 O m2 w2 _ fun F3 H3 s3 w3 => ?_
  cases b with
  | false => exact iteF (q1 _ _ F3 H3 A2 (e3 rfl) (ss.trans s3) (m2.up s3) w3)
  | true =>
    refine iteT ⟨fun σ4 H4 => ∃ (s' : S) (F4 : Hp) (A4 : List (Addr × HO)), I s' ∧ μ s' < μ s ∧ Same F F4 ∧ Match K F4 σ4 (ε s') A4 ∧ Own F4 H4 (A4 ++ O), ?_, ?_⟩
    · rintro σ4 H4 ⟨s', F4, A4, i4, l4, ss4, m4, w4⟩
      exact ⟨μ s', l4, s', F4, A4, rfl, i4, ss4, m4, w4⟩
    · refine e2 rfl σ2 F3 H3 A2 O (m2.up s3) w3 _ ?_ ?_ ?_
      · rintro e5 σ5 F5 H5 A5 ⟨s', i5, l5, wk5⟩ s5 m5 w5
        obtain ⟨A6, sb6, m6⟩ := m5.weak wk5
        exact ⟨s', F5, A6, i5, l5, ss.trans (s3.trans s5), m6, w5.subA sb6⟩
      · exact fun e x v σ5 F5 H5 A5 O5 z s5 => q2 e x v σ5 F5 H5 A5 O5 z (ss.trans (s3.trans s5))
      · exact fun e c σ5 F5 H5 A5 z s5 => q4 e c σ5 F5 H5 A5 z (ss.trans (s3.trans s5))

/-! ### defs -/
/-- a def that computes f: of the data args x hands back rr of what f x comes to -/
def spR (K : PySem.W.Frag) {ι β : Type} (args : ι → List D) (f : ι → R β) (rr : β → D) : Sp := fun vs H Q _ =>
  ∃ (x : ι) (F : Hp) (O : List (Addr × HO)) (b : β), Own F H O ∧ Dats K F vs (args x) ∧ f x = .ok b ∧ ∀ v F' H', Same F F' → Own F' H' O → Dat K F' v (rr b) → Q v H'
/-- a def that hands back a new list -/
def spN (K : PySem.W.Frag) {ι β : Type} (args : ι → List D) (f : ι → R (List β)) (rr : β → D) : Sp := fun vs H Q _ =>
  ∃ (x : ι) (F : Hp) (O : List (Addr × HO)) (b : List β), Own F H O ∧ Dats K F vs (args x) ∧ f x = .ok b ∧ ∀ p us F' H', Same F F' → Own F' H' ((p, .lst us) :: O) → Dats K F' us (b.map rr) → Q (.ref p) H'
theorem sp_len {ι : Type} {args : ι → List D} {n : Nat} (hn : ∀ x, (args x).length = n) {vs : List V} {F : Hp} {x : ι} (h : Dats K F vs (args x)) : vs.length = n := h.length.trans (hn x)
theorem match_un : ∀ (n : Nat), Match K F (List.replicate n none) (List.replicate n .un) []
  | 0 => .nil
  | n + 1 => .un (match_un n)
theorem match_start {F : Hp} : ∀ {vs : List V} {ds : List D} (n : Nat), Dats K F vs ds → Match K F (vs.map some ++ List.replicate n none) (ds.map Slot.dat ++ List.replicate n .un) []
  | _, _, n, .nil => match_un n
  | _, _, n, .cons a b => .dat a (match_start n b)
theorem spR_run {ι β : Type} {args : ι → List D} {f : ι → R β} {rr : β → D} {N : List Str} {vs : List V} {H : Hp} {Q : VK} {E : XK} (n k : Nat) (hN : N.length = n + k) (hn : ∀ x, (args x).length = n)
    (hb : ∀ x b, f x = .ok b → SW K W0 t ((args x).map Slot.dat ++ List.replicate k .un) (fun _ => rr b = .v .non) (fun _ v => v = .dat (rr b)) fun _ _ => False)
    (h : spR K args f rr vs H Q E) : t { nx := fun _ H' => Q .non H', rt := Q } (L2.start N vs) H := by
  obtain ⟨x, F, O, b, w, da, hf, q⟩ := h
  have hl := sp_len hn da
  have m := match_start (N.length - vs.length) da
  rw [show N.length - vs.length = k by omega] at m
  unfold L2.start
  rw [show N.length - vs.length = k by omega]
  refine hb x b hf _ F H [] O m w _ ?_ ?_ ?_
  · exact fun e σ' F' H' A' z s m' w' => q .non F' H' s w'.dropA (by rw [z]; exact .v _)
  · rintro e _ v σ' F' H' A' O1 rfl s m' w' d'
    cases d' with
    | dat d' => exact q v F' H' s (w'.dropA (A := A')) d'
  · exact fun _ _ _ _ _ _ z => z.elim
theorem spN_run {ι β : Type} {args : ι → List D} {f : ι → R (List β)} {rr : β → D} {N : List Str} {vs : List V} {H : Hp} {Q : VK} {E : XK} (n k : Nat) (hN : N.length = n + k) (hn : ∀ x, (args x).length = n)
    (hb : ∀ x b, f x = .ok b → SW K W0 t ((args x).map Slot.dat ++ List.replicate k .un) (fun _ => False) (fun _ v => v = .lst none ((b.map rr).map T.dat)) fun _ _ => False)
    (h : spN K args f rr vs H Q E) : t { nx := fun _ H' => Q .non H', rt := Q } (L2.start N vs) H := by
  obtain ⟨x, F, O, b, w, da, hf, q⟩ := h
  have hl := sp_len hn da
  have m := match_start (N.length - vs.length) da
  rw [show N.length - vs.length = k by omega] at m
  unfold L2.start
  rw [show N.length - vs.length = k by omega]
  refine hb x b hf _ F H [] O m w _ ?_ ?_ ?_
  · exact fun e σ' F' H' A' z => z.elim
  · rintro e _ v σ' F' H' A' O1 rfl s m' w' d'
    cases d' with
    | lst n d' =>
      obtain ⟨e1, d1⟩ := d'.flat
      subst e1
      exact q _ _ F' H' s (w'.sub ((List.sublist_append_right A' O).cons₂ _)) d1
  · exact fun _ _ _ _ _ _ z => z.elim
/-- the call of such a def -/
theorem ev_call {ι β : Type} {args : ι → List D} {f : ι → R β} {rr : β → D} {ta : TA} {E' : XK} (x : ι) {b : β} (hf : f x = .ok b) (ha : EA K ta env (args x)) : EV K (tCall (spR K args f rr) [] E' ta) env (rr b) := fun σ F H A O m w Q q =>
  ha σ F H A O m w _ fun vs F1 H1 s1 w1 d1 => ⟨x, F1, A ++ O, b, w1, by rw [List.append_nil]; exact d1, hf, fun v F' H' s w' d' => q v F' H' (s1.trans s) w' d'⟩
theorem en_call {ι β : Type} {args : ι → List D} {f : ι → R (List β)} {rr : β → D} {ta : TA} {E' : XK} (x : ι) {b : List β} (hf : f x = .ok b) (ha : EA K ta env (args x)) : EN K (tCall (spN K args f rr) [] E' ta) env (b.map rr) := fun σ F H A O m w Q q =>
  ha σ F H A O m w _ fun vs F1 H1 s1 w1 d1 => ⟨x, F1, A ++ O, b, w1, by rw [List.append_nil]; exact d1, hf, fun p us F' H' s w' d' => q p us F' H' (s1.trans s) w' d'⟩
end
end Pg

set_option Elab.async false
set_option linter.all false
set_option maxRecDepth 100000
namespace Pg
open PySem PySem.Spec PyProof.Rows L2

/-! ### great numbers -/
def CMulP (i j : Int) : Prop := i.natAbs.log2 + j.natAbs.log2 < 134000000
/-- a number's bits, by its logarithm -/
theorem bits_log2 (x : Int) : Builtin.Int.intBits x ≤ x.natAbs.log2 + 1 := by
  rw [Builtin.Int.intBits]
  split
  · exact Nat.zero_le _
  · exact Nat.le_refl _
theorem CMulP.ok {i j : Int} (h : CMulP i j) : IntMulOk i j := fun z => by
  have line : bitsLine < Builtin.Int.intBits i + Builtin.Int.intBits j := by
    have big := (Bool.and_eq_true _ _ ▸ z).2
    simp only [Builtin.Int.intTooBig, decide_eq_true_eq] at big
    omega
  have low : 134000002 ≤ bitsLine := by decide
  have b1 := bits_log2 i
  have b2 := bits_log2 j
  rw [CMulP] at h
  omega
/-- what a division of any size asks of the world and of the frames -/
structure PyRm (b : Heap) (P : Program) (A : Around) (st : List Env) : Prop where
  seer : b.NoSeer
  tree : P.given.tree = none
  room : A.depth + Builtin.pylongFrames < recursionLimit
  top : ∃ e l, st = e :: l ∧ e.scope.isGenerator = false ∧ e.scope.isCoroutine = false ∧ e.builtins = builtinsNs ∧ e.globals = mainGlobals
section
variable {X : Cx}
theorem op_mulP : OpR X (binaryOp .Mult) (rI CMulP fun i j => .int (i * j)) := opI fun _ _ _ _ _ _ _ hc q => mul_int q hc.ok
theorem op_fdivP (hp : PyRm X.base X.prog X.A X.stack) : OpR X (binaryOp .FloorDiv) (rI (fun _ j => j ≠ 0) fun i j => .int (i.fdiv j)) := by
  rintro pins s σ H _ _ _ _ Q I rx ry ⟨i, j, rfl, rfl, hc, q⟩
  cases rx with
  | intro t et =>
  cases ry with
  | intro t' et' =>
  subst et et'
  obtain ⟨e, l, h1, h2, h3, h4, h5⟩ := hp.top
  have fr : X.A.frames = some (e :: l) := I.ok.frames.trans (congrArg some h1)
  exact floordiv_int hc ⟨.int (i.fdiv j), H, I.tok _, ⟨_, rfl⟩, q⟩
    (.inr (PySem.PylongRoom.of I.nolimit hp.room (PySem.SeerAt.of (hp.seer.keeps I.bk) hp.tree fr h2 h3 h4 h5)))
theorem op_pow10 : OpR X (binaryOp .Pow) (rI CPow fun i j => .int (i ^ j.toNat)) := op_pow
end
theorem room_py {k : Nat} {A : Around} (hr : Room k A) (h : 40 ≤ k) : A.depth + Builtin.pylongFrames < recursionLimit := by
  have h1 := hr.dp
  have h2 : Builtin.pylongFrames = 100 := rfl
  omega
theorem pyRm {b : Heap} {P : Program} {k : Nat} {A : Around} {qual : Str} {sc : Scope} {n : Addr} {f : Addr} {cd : Value} {outer : List Env} (h : b.NoSeer) (ht : P.given.tree = none) (hr : Room k A) (hk : 40 ≤ k) (hg : sc.isGenerator = false) (hc : sc.isCoroutine = false) :
    PyRm b P A (envOfC qual sc n f cd :: outer) := ⟨h, ht, room_py hr hk, _, _, rfl, hg, hc, rfl, rfl⟩
section
variable {K : PySem.W.Frag} {env : List Slot} {t ta tb : TE} {tt : TT} {i j k : Int} {d : D} {ds : List D}
theorem mulR_some (h : mulR i j = .ok k) : CMulP i j ∧ k = i * j := by
  unfold mulR at h
  split at h
  · exact ⟨by assumption, (R.ok_inj h).symm⟩
  · cases h
theorem fdivR_some (h : fdivR i j = .ok k) : j ≠ 0 ∧ k = i.fdiv j := by
  unfold fdivR at h
  split at h
  · cases h
  · exact ⟨by assumption, (R.ok_inj h).symm⟩
theorem fmodR_some (h : fmodR i j = .ok k) : j ≠ 0 ∧ k = i.fmod j := by
  unfold fmodR at h
  split at h
  · cases h
  · exact ⟨by assumption, (R.ok_inj h).symm⟩
theorem ev_mul (h : mulR i j = .ok k) (ha : EV K ta env (dI i)) (hb : EV K tb env (dI j)) : EV K (tOp (rI CMulP fun i j => .int (i * j)) ta tb) env (dI k) := by
  rw [(mulR_some h).2]; exact ev_iC (g := fun i j => .int (i * j)) (mulR_some h).1 ha hb
theorem ev_mulL (hc : i.natAbs.log2 + j.natAbs.log2 < 134000000) (hk : i * j = k) (ha : EV K ta env (dI i)) (hb : EV K tb env (dI j)) : EV K (tOp (rI CMulP fun i j => .int (i * j)) ta tb) env (dI k) := by
  rw [← hk]; exact ev_iC (C := CMulP) (g := fun i j => .int (i * j)) hc ha hb
theorem ev_fdiv (h : fdivR i j = .ok k) (ha : EV K ta env (dI i)) (hb : EV K tb env (dI j)) : EV K (tOp (rI (fun _ j => j ≠ 0) fun i j => .int (i.fdiv j)) ta tb) env (dI k) := by
  rw [(fdivR_some h).2]; exact ev_iC (C := fun _ j => j ≠ 0) (g := fun i j => .int (i.fdiv j)) (fdivR_some h).1 ha hb
theorem ev_fmod (h : fmodR i j = .ok k) (ha : EV K ta env (dI i)) (hb : EV K tb env (dI j)) : EV K (tOp (rI (fun _ j => j ≠ 0) fun i j => .int (i.fmod j)) ta tb) env (dI k) := by
  rw [(fmodR_some h).2]; exact ev_iC (C := fun _ j => j ≠ 0) (g := fun i j => .int (i.fmod j)) (fmodR_some h).1 ha hb
/-- by a written positive number -/
theorem ev_divP {n : Int} (hn : 0 < n) (ha : EV K ta env (dI i)) (hb : EV K tb env (dI n)) : EV K (tOp (rI (fun _ j => j ≠ 0) fun i j => .int (i.fdiv j)) ta tb) env (dI (i / n)) := by
  have e : i / n = i.fdiv n := (Int.fdiv_eq_ediv_of_nonneg i (by omega)).symm
  rw [e]; exact ev_iC (C := fun _ j => j ≠ 0) (g := fun i j => .int (i.fdiv j)) (by omega) ha hb
theorem ev_modP {n : Int} (hn : 0 < n) (ha : EV K ta env (dI i)) (hb : EV K tb env (dI n)) : EV K (tOp (rI (fun _ j => j ≠ 0) fun i j => .int (i.fmod j)) ta tb) env (dI (i % n)) := by
  have e : i % n = i.fmod n := (Int.fmod_eq_emod_of_nonneg i (by omega)).symm
  rw [e]; exact ev_iC (C := fun _ j => j ≠ 0) (g := fun i j => .int (i.fmod j)) (by omega) ha hb

/-! ### list comprehensions -/
def wipeS (env : List Slot) : List Nat → List Slot
  | [] => env
  | v :: vs => (wipeS env vs).set v .un
def noOwn (env : List Slot) (vs : List Nat) : Bool := vs.all fun i => !ownAt env i
theorem match_forget : ∀ {σ : L2.St} {env : List Slot} {A : List (Addr × HO)} {F : Hp} (i : Nat) (x : Option V), Match K F σ env A → ownAt env i = false → Match K F (σ.set i x) (env.set i .un) A
  | _, _, _, _, _, _, .nil, _ => .nil
  | _, _, _, _, 0, _, .un m, _ => .un m
  | _, _, _, _, 0, _, .dat _ m, _ => .un m
  | _, _, _, _, 0, _, .tr _ m, h => by simp [ownAt] at h
  | _, _, _, _, i + 1, x, .un m, h => .un (match_forget i x m (by simpa [ownAt] using h))
  | _, _, _, _, i + 1, x, .dat d m, h => .dat d (match_forget i x m (by simpa [ownAt] using h))
  | _, _, _, _, i + 1, x, .tr d m, h => .tr d (match_forget i x m (by simpa [ownAt] using h))
theorem ownAt_un {i : Nat} (j : Nat) (h : ownAt env j = false) : ownAt (env.set i .un) j = false := by
  unfold ownAt at h ⊢
  by_cases e : i = j
  · subst e
    by_cases hl : i < env.length
    · rw [List.getElem?_set_self hl]
    · rw [List.getElem?_eq_none (by simpa using hl)]
  · rw [List.getElem?_set_ne e]; exact h
theorem ownAt_wipe (j : Nat) (h : ownAt env j = false) : ∀ ws : List Nat, ownAt (wipeS env ws) j = false
  | [] => h
  | w :: ws => ownAt_un j (ownAt_wipe j h ws)
theorem noOwn_at {vs : List Nat} (h : noOwn env vs = true) : ∀ j ∈ vs, ownAt env j = false := fun j hj => by
  have := List.all_eq_true.mp h j hj
  simpa using this
theorem match_wipe {σ : L2.St} {A : List (Addr × HO)} {F : Hp} (m : Match K F σ env A) : ∀ vs : List Nat, noOwn env vs = true → Match K F (wipe σ vs) (wipeS env vs) A
  | [], _ => m
  | v :: vs, h => by
    have h1 := noOwn_at h v List.mem_cons_self
    unfold noOwn at h
    rw [List.all_cons, Bool.and_eq_true] at h
    exact match_forget v none (match_wipe m vs h.2) (ownAt_wipe v h1 vs)
theorem wipe_set_in {σ : L2.St} {x : Option V} {i : Nat} : ∀ {vs : List Nat}, i ∈ vs → wipe (σ.set i x) vs = wipe σ vs
  | b :: vs, hi => by
    unfold wipe
    by_cases hb : i ∈ vs
    · rw [wipe_set_in hb]
    · have e : b = i := by
        rcases List.mem_cons.mp hi with z | z
        · exact z.symm
        · exact absurd z hb
      subst e
      have key : ∀ (σ : L2.St) (ws : List Nat), b ∉ ws → (wipe (σ.set b x) ws).set b none = (wipe σ ws).set b none := by
        intro σ ws
        induction ws with
        | nil => intro _; unfold wipe; rw [List.set_set]
        | cons c ws ih2 =>
          intro hn
          have h1 : c ≠ b := fun z => hn (by rw [z]; exact List.mem_cons_self)
          have h2 : b ∉ ws := fun z => hn (List.mem_cons_of_mem _ z)
          unfold wipe
          rw [List.set_comm _ _ h1, ih2 h2, List.set_comm _ _ h1.symm]
      exact key σ vs hb
theorem wipe_wipe (σ : L2.St) : ∀ (us vs : List Nat), (∀ u ∈ us, u ∈ vs) → wipe (wipe σ us) vs = wipe σ vs
  | [], _, _ => rfl
  | u :: us, vs, h => by
    show wipe ((wipe σ us).set u none) vs = _
    rw [wipe_set_in (h u List.mem_cons_self), wipe_wipe σ us vs fun w hw => h w (List.mem_cons_of_mem _ hw)]
theorem mapIf_step {α β : Type} {p : α → R Bool} {f : α → R β} : ∀ {xs : List α} {zs : List β}, R.mapIf p f xs = .ok zs →
    (xs = [] ∧ zs = []) ∨ ∃ x ys b, xs = x :: ys ∧ p x = .ok b ∧ ((b = true ∧ ∃ y ws, f x = .ok y ∧ R.mapIf p f ys = .ok ws ∧ zs = y :: ws) ∨ (b = false ∧ R.mapIf p f ys = .ok zs))
  | [], zs, h => .inl ⟨rfl, (R.ok_inj h).symm⟩
  | x :: ys, zs, h => by
    obtain ⟨b, h1, h2⟩ := R.bind_inv (show R.bind (p x) _ = _ from h)
    refine .inr ⟨x, ys, b, rfl, h1, ?_⟩
    cases b with
    | true =>
      obtain ⟨y, h3, h4⟩ := R.bind_inv (if_t rfl h2)
      obtain ⟨ws, h5, h6⟩ := R.bind_inv h4
      exact .inl ⟨rfl, y, ws, h3, h5, (R.ok_inj h6).symm⟩
    | false => exact .inr ⟨rfl, if_f rfl h2⟩
/-- [e for x in xs if p] -/
theorem en_compIf {wi : TI} {g : TG} {te : TE} {vs js : List Nat} {α β : Type} {xs : List α} {ra : α → D} {rb : β → D} (p : α → R Bool) (f : α → R β) {ys : List β}
    (hi : IV K wi env (xs.map ra)) (hf : R.mapIf p f xs = .ok ys) (hl : xs.length < 16777216) (hw : noOwn env vs = true) (hj : ∀ j ∈ js, j ∈ vs)
    (hb : ∀ x, x ∈ xs → ∃ env1, GT K g js (ra x) (wipeS env vs) env1 ∧ (∀ b, p x = .ok b → ET K tt env1 b) ∧ (∀ y, p x = .ok true → f x = .ok y → EV K te env1 (rb y))) : EN K (tLc wi g tt te vs) env (ys.map rb) := fun σ F H A O m w Q q =>
  hi σ F H A O m w _ fun J F1 H1 s1 w1 wk D hD => by
    refine ⟨fun i k H2 => ∃ (acc : List β) (us : List V) (F2 : Hp), k + i = xs.length ∧ acc.length ≤ i ∧ Same F1 F2 ∧ Own F2 H2 ((D, .lst us) :: (A ++ O)) ∧ Dats K F2 us (acc.map rb) ∧ ∃ zs, R.mapIf p f (xs.drop i) = .ok zs ∧ ys = acc ++ zs,
      ⟨xs.length, [], [], F1, rfl, Nat.le_refl _, Same.refl _, w1.new hD, .nil, ys, hf, rfl⟩, ?_⟩
    rintro i k H2 ⟨acc, us, F2, hk, hlen, ss, w2, dd, zs, h2, e2⟩
    rcases mapIf_step h2 with ⟨e1, e3⟩ | ⟨x, rest, b, e1, hp, h4⟩
    · have hl' : xs.length ≤ i := by
        have := congrArg List.length e1
        rw [List.length_drop, List.length_nil] at this
        omega
      refine .inl ⟨wk.2 i F2 H2 _ ss w2 (by rw [List.length_map]; exact hl'), q D us F2 H2 (s1.trans ss) w2 ?_⟩
      rw [e2, e3, List.append_nil]; exact dd
    · have hx : xs[i]? = some x := by
        have := congrArg (fun l => l[0]?) e1
        simpa using this
      have hlt : i < xs.length := by
        rcases Nat.lt_or_ge i xs.length with z | z
        · exact z
        · rw [List.getElem?_eq_none z] at hx; cases hx
      have hys : xs.drop (i + 1) = rest := by
        rw [← List.drop_drop, e1]; rfl
      obtain ⟨g1, g2⟩ := wk.1 i F2 H2 _ (ra x) ss w2 (by rw [List.getElem?_map, hx]; rfl)
      refine .inr ⟨g1, fun H3 => ∃ (acc : List β) (us : List V) (F3 : Hp), acc.length ≤ i + 1 ∧ Same F1 F3 ∧ Own F3 H3 ((D, .lst us) :: (A ++ O)) ∧ Dats K F3 us (acc.map rb) ∧ ∃ zs, R.mapIf p f rest = .ok zs ∧ ys = acc ++ zs, ?_, fun y H3 hy => ?_⟩
      · rintro H3 ⟨acc3, us3, F3, l3, ss3, w3, d3, zs3, h3, e3⟩
        exact ⟨k - 1, by omega, acc3, us3, F3, by omega, by omega, ss3, w3, d3, zs3, by rw [hys]; exact h3, e3⟩
      · obtain ⟨F3, ss3, w3, d3⟩ := g2 y H3 hy
        obtain ⟨env1, hg, ht, he⟩ := hb x (List.mem_of_getElem? hx)
        have mw := match_wipe (m.up (s1.trans (ss.trans ss3))) vs hw
        have w3' : Own F3 H3 (A ++ ((D, .lst us) :: O)) := w3.unmid
        refine hg.2 (wipe σ vs) y F3 H3 A ((D, .lst us) :: O) mw w3' d3 _ fun σ4 A4 sb4 eA m4 z4 => ⟨?_, ?_⟩
        · rw [z4 vs hj, wipe_wipe σ vs vs fun _ z => z]
        · have eA := eA fun j h => ownAt_wipe j (noOwn_at hw j (hj j h)) vs
          subst eA
          refine ht b hp σ4 F3 H3 A4 ((D, .lst us) :: O) m4 w3' _ fun F5 H5 s5 w5 => ?_
          rcases h4 with ⟨rfl, y1, ws, h5, h6, h7⟩ | ⟨rfl, h6⟩
          · refine iteT (he y1 hp h5 σ4 F5 H5 A4 ((D, .lst us) :: O) (m4.up s5) w5 _ fun v F6 H6 s6 w6 d6 => ?_)
            have s36 := ss3.trans (s5.trans s6)
            refine ⟨us, (w6.has (D, .lst us) (by simp)).2, ?_, acc ++ [y1], us ++ [v], F6, ?_, ss.trans s36, (w6.mid.put (o' := .lst (us ++ [v]))), ?_, ws, h6, ?_⟩
            · have := dd.length
              rw [List.length_map] at this
              rw [this, sizeLine_eq]; omega
            · rw [List.length_append, List.length_singleton]; omega
            · rw [List.map_append]
              exact (dd.up s36).append (.cons d6 .nil)
            · rw [e2, h7, List.append_assoc]; rfl
          · have s35 := ss3.trans s5
            exact iteF ⟨acc, us, F5, by omega, ss.trans s35, w5.mid, dd.up s35, zs, h6, e2⟩
theorem mapR_If {α β : Type} (f : α → R β) : ∀ (xs : List α) (ys : List β), R.mapR f xs = .ok ys → R.mapIf (fun _ => .ok true) f xs = .ok ys
  | [], ys, h => h
  | x :: xs, ys, h => by
    obtain ⟨y, h1, h2⟩ := R.bind_inv (show R.bind (f x) _ = _ from h)
    obtain ⟨zs, h3, h4⟩ := R.bind_inv h2
    have e : R.mapIf (fun _ => .ok true) f (x :: xs) = R.bind (f x) fun y => R.bind (R.mapIf (fun _ => .ok true) f xs) fun ys => R.ok (y :: ys) := rfl
    rw [e, h1]
    show R.bind (R.mapIf (fun _ => .ok true) f xs) (fun ys => R.ok (y :: ys)) = R.ok ys
    rw [mapR_If f xs zs h3]
    exact h4
theorem et_yes : ET K tYes env true := fun σ F H A O m w Q q => q F H (Same.refl F) w
/-- [e for x in xs] -/
theorem en_comp {wi : TI} {g : TG} {te : TE} {vs js : List Nat} {α β : Type} {xs : List α} {ra : α → D} {rb : β → D} (f : α → R β) {ys : List β}
    (hi : IV K wi env (xs.map ra)) (hf : R.mapR f xs = .ok ys) (hl : xs.length < 16777216) (hw : noOwn env vs = true) (hj : ∀ j ∈ js, j ∈ vs)
    (hb : ∀ x, x ∈ xs → ∃ env1, GT K g js (ra x) (wipeS env vs) env1 ∧ ∀ y, f x = .ok y → EV K te env1 (rb y)) : EN K (tLc wi g tYes te vs) env (ys.map rb) :=
  en_compIf (tt := tYes) (js := js) (fun _ => .ok true) f hi (mapR_If f xs ys hf) hl hw hj fun x hx =>
    let ⟨env1, h1, h2⟩ := hb x hx; ⟨env1, h1, fun b e => by rw [← R.ok_inj e]; exact et_yes, fun y _ e => h2 y e⟩
end
end Pg

set_option Elab.async false
set_option linter.all false
set_option maxRecDepth 100000
namespace Pg
open PySem PySem.Spec PyProof.Rows L2
/-! ### the end: the law's call over a base that nobody watches, the script's bits told -/
section
variable {P : Program} {w : World} {K : PySem.W.Frag} {mg mb : Str → Option Value} {CX : CXT} {k : Nat} {fa a : Addr} {fd : FuncData} {x : Str} {sp : Sp} {s1 : Shared} {vs : List Value} {ns : List Int}
/-- what the script's object leaves of the heap -/
theorem hid_get {h : Heap} {H : Hp} (hA : ∀ b, H b ≠ none → b = a) {b : Addr} {o : Obj} (e : h.get? b = some o) (n : b ≠ a) : (hidT h H).get? b = some o :=
  hidT_get e (Classical.byContradiction fun z => n (hA b z))
theorem hid_ns {h : Heap} {H : Hp} (hA : ∀ b, H b ≠ none → b = a) {its : List Value} (ha : h.get? a = some { cls := .type "list", data := .seq its.toArray }) {b : Addr} {m : Str → Option Value} (q : h.Ns b m) : (hidT h H).Ns b m := by
  obtain ⟨o, es, ep, e, d, r⟩ := q
  refine ⟨o, es, ep, hid_get hA e fun z => ?_, d, r⟩
  subst z
  rw [ha] at e
  have e2 := Option.some.inj e
  subst e2
  exact nomatch d
theorem hid_seer {h : Heap} {H : Hp} (hA : ∀ b, H b ≠ none → b = a) {its : List Value} (ha : h.get? a = some { cls := .type "list", data := .seq its.toArray }) (q : h.NoSeer) : (hidT h H).NoSeer where
  statics := let ⟨m, e1, e2⟩ := q.statics; ⟨m, hid_ns hA ha e1, e2⟩
  mods := let ⟨m, e1, e2⟩ := q.mods; ⟨m, hid_ns hA ha e1, e2⟩
  imp := let ⟨m, e1, e2⟩ := q.imp; ⟨m, hid_ns hA ha e1, e2⟩
  main := by
    obtain ⟨m, bm, ob, e1, e2, e3, e4, e5⟩ := q.main
    refine ⟨m, bm, ob, hid_ns hA ha e1, e2, hid_get hA e3 fun z => ?_, e4, e5⟩
    subst z
    rw [ha] at e3
    have e6 := Option.some.inj e3
    subst e6
    exact absurd (show Value.type "list" = Value.type "module" from e4) (by decide)
/-- what is known of the heap at the entry: the script's list, frozen, where the head does not have it -/
theorem entry_hp (KX : K.In s1.heap) (ha : s1.heap.get? a = some { cls := .type "list", data := .seq vs.toArray }) (hi : IntsAre vs ns) (hl : ns.length ≤ sizeLine) :
    ∃ H : Hp, (∀ b, H b = none ∨ b = a ∧ ∃ ob xs, H b = some (.frz ob (.lst xs))) ∧ SqL K H a (ns.map V.int) ∧ HOk P w H s1.heap ∧ ∀ o, K.lookup a = some o → H a = none := by
  have rv := vals_ints hi
  cases hk : K.lookup a with
  | some o =>
    cases ha.symm.trans (KX a o hk)
    exact ⟨fun _ => none, fun _ => .inl rfl, .inr ⟨_, _, _, hk, rfl, rfl, rfl, by simpa [hi.length] using hl, by simpa using rv⟩, fun _ _ z => (nomatch z), fun _ _ => rfl⟩
  | none =>
    generalize ho : ({ cls := .type "list", data := .seq vs.toArray } : Obj) = o at ha
    refine ⟨upd (fun _ => none) a (.frz o (.lst (ns.map V.int))), fun b => ?_, .inl (.inr ⟨_, upd_same⟩), fun b u e => ?_, fun _ z => (nomatch z)⟩
    · by_cases z : b = a
      · subst z
        exact .inr ⟨rfl, _, _, upd_same⟩
      · exact .inl (upd_ne z)
    · by_cases z : b = a
      · subst z
        cases upd_same.symm.trans e
        exact ⟨ha, by simpa using hl, vs, _, rv, ho ▸ ha⟩
      · cases (upd_ne z).symm.trans e
theorem law_run (KX : K.In s1.heap) (hse : s1.heap.NoSeer) (hns : s1.heap.Ns mainGlobals mg) (hb : s1.heap.Ns builtinsNs mb) (hbb : ∀ x : Str, x ≠ "__name__" → mb x = bootBuiltins x) (hlim : s1.heap.NoLimit) (hg : s1.gens = #[])
    (ha : s1.heap.get? a = some { cls := .type "list", data := .seq vs.toArray }) (hi : IntsAre vs ns) (hl : ns.length ≤ sizeLine) (hr : Room k callerA) (F : ∀ base, K.In base → base.Ns mainGlobals mg → base.NoSeer → FnOk P w K mg base CX k fa fd [x] sp)
    (hbind : ∀ s u, BindsTo s fd ⟨[u], []⟩ [(x, u)]) (hsp : ∀ H, Only H → SqL K H a (ns.map V.int) → sp [.ref a] H (fun v _ => v = .bl true) fun _ _ _ => False) (hCX : ∀ H e s', CX [] H s1 (fun _ _ _ => False) e s' → False) :
    codeAny (model P w) callerA (.call (.ref fa) ⟨[.ref a], []⟩) (fun r s' => r = .ok (.ret (.bool true)) ∧ OldK s1.heap s'.heap ∧ s'.os = s1.os ∧ AllBare s'.gens) s1 := by
  obtain ⟨H, only, sq, hok, free⟩ := entry_hp (P := P) (w := w) KX ha hi hl
  have at_a : ∀ b, H b ≠ none → b = a := fun b n => (only b).elim (fun z => absurd z n) And.left
  have base : K.In (hidT s1.heap H) := fun b o e => hidT_get (KX b o e) ((only b).elim id fun z => z.1 ▸ free o (z.1 ▸ e))
  have ns1 {b : Addr} {m : Str → Option Value} (q : s1.heap.Ns b m) := hid_ns at_a ha q
  have env : Env0 P w K mg (hidT s1.heap H) callerA [] s1 H := {
    frames := rfl
    mod := { kin := base, glob := ns1 hns, blt := ⟨mb, ns1 hb, hbb⟩, nolimit := hlim.imp fun _ z => ⟨ns1 z.1, z.2⟩ }
    bs := fun _ _ => of_hidT
    bsz := Nat.le_of_eq (hidT_size _ _)
    funs := trivial
    frf := fun _ z => (nomatch z)
    hok := hok
    bare := .of_eq hg }
  refine codeAny_mono ((F _ base (ns1 hns) (hid_seer at_a ha hse)).run callerA [] s1 H ⟨[.ref a], []⟩ [.ref a] [.ref a] _ _ hr env (hbind s1 _) (.cons rfl .nil) (hsp H (fun b => (only b).imp_right And.right) sq)) fun r s' z => ?_
  match r, z with
  | .error e, z => exact (hCX H e s' z).elim
  | .ok .next, z | .ok .brk, z | .ok .cont, z => exact z.elim
  | .ok (.ret u), ⟨v, H2, eo, bare, un, ok2, ru, (qv : v = .bl true)⟩ =>
    subst qv
    cases (show u = Value.bool true from ru)
    refine ⟨rfl, OldK.of_keep fun b o e => ?_, eo, bare⟩
    rcases only b with z | ⟨-, ob, xs, z⟩
    · exact un.keep b o e z (fun z => (nomatch z)) fun z => (nomatch z)
    · exact (ok2 b _ (un.frzs b ob _ z)).1.trans ((hok b _ z).1.symm.trans e)
end
/-- a function object that keeps the promise of a law over every base -/
abbrev Serves (P : Program) (n k : Nat) (x : Str) (CX : CXT) (w : World) (mg : Str → Option Value) (fa : Addr) (h : Heap) : Prop :=
  ∃ (K : PySem.W.Frag) (fd : FuncData) (sp : Sp), K.In h ∧
    (∀ s u, BindsTo s fd ⟨[u], []⟩ [(x, u)]) ∧
    (∀ H a (ns : List Int), ns.length ≤ n → (∀ z ∈ ns, Builtin.Int.intBits z ≤ 1048576) → Only H → SqL K H a (ns.map V.int) →
      sp [.ref a] H (fun v _ => v = .bl true) (fun _ _ _ => False)) ∧
    (∀ base, K.In base → base.Ns mainGlobals mg → base.NoSeer → FnOk P w K mg base CX k fa fd [x] sp)
/-- no exception leaves the law -/
abbrev Quiet (CX : CXT) : Prop := ∀ H s e s', CX [] H s (fun _ _ _ => False) e s' → False
theorem walk_ofP {l : PySem.W.OpenLaw} {n k : Nat} {q : Program} {loose : List Str} {XP : (Str → Option Value) → Heap → Prop} {YP : World → Heap → Prop} {d : DefRec} {CX : CXT} {x : Str} (hn : l.most = some n) (hn2 : n ≤ sizeLine) (hdf : d.params.defaults = [])
    (hr : Room k callerA) (hq : importsNone q = true) (F : ∀ w mg fa h, YP w h → h.Ns mainGlobals mg → mg d.name = some (.ref fa) → Serves l.prog n k x CX w mg fa h) (hCX : Quiet CX) :
    PySem.W.WalkO q loose XP YP l.row.toRowW d [] (fun f vs => PySem.call f vs) :=
  Att.attach_callB hn hdf fun w _ _ mg _ fa _ _ _ _ a _ ns G Y _ _ _ hmg hobj hints hlen hbits hg =>
    let ⟨_, _, _, KX, hb, hsp, hF⟩ := F w mg fa _ Y G.T.g hmg
    law_run KX (G.T.seer hq) G.T.g G.T.b G.T.builtins G.T.nolimit hg hobj hints (Nat.le_trans hlen hn2) hr hF hb (fun H hO hS => hsp H a ns hlen hbits hO hS) fun H => hCX H _
end Pg

set_option Elab.async false
set_option linter.all false
set_option maxRecDepth 100000
namespace Pg
open PySem PySem.Spec PyProof.Rows L2
/-! ### built-in calls by my readings -/
section
variable {X : Cx}
theorem cl_len : CallR X (.builtin "len") (rLenP X.K) := call_len
theorem cl_abs : CallR X (.builtin "abs") rAbs := call_abs
theorem cl_max (hc : X.calm = true) : CallR X (.builtin "max") rMax2' := call_max2 hc
theorem cl_min (hc : X.calm = true) : CallR X (.builtin "min") rMin2' := call_min2 hc
def rListP (K : PySem.W.Frag) : List V → Hp → VK → Prop := fun xs H Q => ∃ p ys, xs = [.ref p] ∧ (SqL K H p ys ∨ SqT K H p ys) ∧ ∀ l, H l = none → Q (.ref l) (upd H l (.lst ys))
theorem cl_list : CallR X (.type "list") (rListP X.K) := call_list_of
def rTupP (K : PySem.W.Frag) : List V → Hp → VK → Prop := fun xs H Q => ∃ p ys, xs = [.ref p] ∧ ((SqL K H p ys ∧ ∀ l, H l = none → Q (.ref l) (upd H l (.tup ys))) ∨ (SqT K H p ys ∧ Q (.ref p) H))
theorem cl_tuple : CallR X (.type "tuple") (rTupP X.K) := call_tuple_of
/-- xs + ys of any two lists that are read -/
def rCatS (K : PySem.W.Frag) : R2 := fun x y H Q => ∃ l b xs zs, x = .ref l ∧ y = .ref b ∧ SqL K H l xs ∧ SqL K H b zs ∧ xs.length + zs.length ≤ sizeLine ∧ ∀ p, H p = none → Q (.ref p) (upd H p (.lst (xs ++ zs)))
theorem op_catS : OpR X (binaryOp .Add) (rCatS X.K) := by
  intro pins s σ H x y v u Q I rx ry h
  obtain ⟨l, b, xs, zs, rfl, rfl, hH, hB, hz, q⟩ := h
  cases rx
  cases ry
  obtain ⟨its, r1, ⟨o1, n1, g1, c1, d1, e1⟩, z1⟩ := I.list hH
  obtain ⟨its2, r2, ⟨o2, n2, g2, c2, d2, e2⟩, z2⟩ := I.list hB
  obtain ⟨oc1, od1, odt1, os1⟩ := o1
  obtain ⟨oc2, od2, odt2, os2⟩ := o2
  simp only at c1 d1 e1 c2 d2 e2
  subst c1 d1 e1 c2 d2 e2
  have l1 := r1.length
  have l2 := r2.length
  refine concat_meets ⟨_, g1, rfl⟩ ⟨_, g2, rfl⟩ noFill_list_add seq_list_add PySem.F.slot_list_add PySem.F.entry_list_add (PySem.F.args_list_add_2 _ _)
    (list_addW l b its.toArray its2.toArray n1 n2 none none os1 os2 (by rw [List.size_toArray, List.size_toArray, ← l1, ← l2]; exact hz)) ⟨g1, g2, ?_⟩
  rw [show its.toArray ++ its2.toArray = (its ++ its2).toArray by simp]
  exact ⟨.ref _, _, I.lnew (t' := s.toks) (r1.append r2) (by rw [List.length_append]; exact hz), rfl, q _ I.fresh⟩
end
section
variable {K : PySem.W.Frag} {na : Option Addr} {E : WX} {env : List Slot} {t ta tb te : TE} {tt : TT} {i j k : Int} {d : D} {ds es : List D} {Nx : List Slot → Prop} {Rt : List Slot → T → Prop} {Ex : List Slot → Value → Prop}
theorem en_listL {α : Type} {r : α → D} {xs : List α} (h : EV K t env (.lst (xs.map r))) : EN K (tCB (rListP K) (tCons t tNil)) env (xs.map r) := fun σ F H A O m w Q q =>
  h σ F H A O m w _ fun v F1 H1 s1 w1 d1 => by
    cases d1 with
    | lst a b => exact ⟨_, _, rfl, .inl (w1.same.seq a), fun l n => q l _ F1 _ s1 (w1.new n) b⟩
theorem en_listT {α : Type} {r : α → D} {xs : List α} (h : EV K t env (.tup (xs.map r))) : EN K (tCB (rListP K) (tCons t tNil)) env (xs.map r) := fun σ F H A O m w Q q =>
  h σ F H A O m w _ fun v F1 H1 s1 w1 d1 => by
    cases d1 with
    | tup a b => exact ⟨_, _, rfl, .inr (w1.same.sqt a), fun l n => q l _ F1 _ s1 (w1.new n) b⟩
theorem ev_tuple {α : Type} {r : α → D} {xs : List α} (h : EV K t env (.lst (xs.map r))) : EV K (tCB (rTupP K) (tCons t tNil)) env (.tup (xs.map r)) := fun σ F H A O m w Q q =>
  h σ F H A O m w _ fun v F1 H1 s1 w1 d1 => by
    cases d1 with
    | lst a b => exact ⟨_, _, rfl, .inl ⟨w1.same.seq a, fun l n => by
        obtain ⟨w2, s2⟩ := w1.newF (o := .tup _) n
        exact q _ _ _ (s1.trans s2) w2 (.tup (.of upd_same) (b.up s2))⟩⟩
theorem ev_pow {n : Int} (hc : 0 ≤ j ∧ j ≤ 1000000 ∧ i.natAbs < 18446744073709551616) (hn : i ^ j.toNat = n) (ha : EV K ta env (dI i)) (hb : EV K tb env (dI j)) : EV K (tOp (rI CPow fun i j => .int (i ^ j.toNat)) ta tb) env (dI n) := by
  rw [← hn]; exact ev_iC (C := CPow) (g := fun i j => .int (i ^ j.toNat)) hc ha hb
theorem compR_some {α β : Type} {f : α → R β} {xs : List α} {ys : List β} (h : R.compR f xs = .ok ys) : xs.length < 16777216 ∧ R.mapR f xs = .ok ys := by
  unfold R.compR at h
  split at h
  · exact ⟨by assumption, h⟩
  · cases h
theorem compIf_some {α β : Type} {p : α → R Bool} {f : α → R β} {xs : List α} {ys : List β} (h : R.compIf p f xs = .ok ys) : xs.length < 16777216 ∧ R.mapIf p f xs = .ok ys := by
  unfold R.compIf at h
  split at h
  · exact ⟨by assumption, h⟩
  · cases h
theorem en_compR {wi : TI} {g : TG} {vs js : List Nat} {α β : Type} {xs : List α} {ra : α → D} {rb : β → D} {f : α → R β} {ys : List β}
    (hi : IV K wi env (xs.map ra)) (hf : R.compR f xs = .ok ys) (hw : noOwn env vs = true) (hj : ∀ j ∈ js, j ∈ vs)
    (hb : ∀ x, x ∈ xs → ∃ env1, GT K g js (ra x) (wipeS env vs) env1 ∧ ∀ y, f x = .ok y → EV K te env1 (rb y)) : EN K (tLc wi g tYes te vs) env (ys.map rb) :=
  en_comp f hi (compR_some hf).2 (compR_some hf).1 hw hj hb
theorem en_compIfR {wi : TI} {g : TG} {vs js : List Nat} {α β : Type} {xs : List α} {ra : α → D} {rb : β → D} {p : α → R Bool} {f : α → R β} {ys : List β}
    (hi : IV K wi env (xs.map ra)) (hf : R.compIf p f xs = .ok ys) (hw : noOwn env vs = true) (hj : ∀ j ∈ js, j ∈ vs)
    (hb : ∀ x, x ∈ xs → ∃ env1, GT K g js (ra x) (wipeS env vs) env1 ∧ (∀ b, p x = .ok b → ET K tt env1 b) ∧ (∀ y, p x = .ok true → f x = .ok y → EV K te env1 (rb y))) : EN K (tLc wi g tt te vs) env (ys.map rb) :=
  en_compIf p f hi (compIf_some hf).2 (compIf_some hf).1 hw hj hb
/-! ### ratios -/
theorem mkQ_some {q : Rat} (h : mkQ i j = .ok q) : q.num = i ∧ (q.den : Int) = j := by
  unfold mkQ at h
  split at h
  · rename_i h2
    rw [← R.ok_inj h]
    exact ⟨rfl, by show ((j.toNat : Nat) : Int) = j; omega⟩
  · cases h
theorem ev_mkQ {q : Rat} (h : mkQ i j = .ok q) (ha : EV K ta env (dI i)) (hb : EV K tb env (dI j)) : EV K (tTup (tCons ta (tCons tb tNil))) env (dQ q) := by
  have e : dQ q = .tup [dI i, dI j] := by rw [← (mkQ_some h).1, ← (mkQ_some h).2]
  rw [e]; exact ev_tup (ea_cons ha (ea_cons hb ea_nil)) (show 2 ≤ sizeLine by decide)
/-! ### lists together, slices -/
theorem catR_some {α : Type} {xs ys zs : List α} (h : catR xs ys = .ok zs) : xs.length + ys.length ≤ 16777216 ∧ zs = xs ++ ys := by
  unfold catR at h
  split at h
  · exact ⟨by assumption, (R.ok_inj h).symm⟩
  · cases h
theorem en_cat {α : Type} {r : α → D} {xs ys zs : List α} (h : catR xs ys = .ok zs) (ha : EV K ta env (.lst (xs.map r))) (hb : EV K tb env (.lst (ys.map r))) : EN K (tOp (rCatS K) ta tb) env (zs.map r) := fun σ F H A O m w Q q =>
  ev_two ha hb m w fun x y F' H' s w' d1 d2 => by
    cases d1 with
    | lst a1 b1 =>
      cases d2 with
      | lst a2 b2 =>
        obtain ⟨h1, h2⟩ := catR_some h
        have l1 := b1.length
        have l2 := b2.length
        rw [List.length_map] at l1 l2
        exact ⟨_, _, _, _, rfl, rfl, w'.same.seq a1, w'.same.seq a2, by rw [l1, l2, sizeLine_eq]; exact h1, fun p n => q p _ F' _ s (w'.new n) (by rw [h2, List.map_append]; exact b1.append b2)⟩
theorem ev_catT {α : Type} {r : α → D} {xs ys zs : List α} (h : catR xs ys = .ok zs) (ha : EV K ta env (.tup (xs.map r))) (hb : EV K tb env (.tup (ys.map r))) : EV K (tOp (rCatA K) ta tb) env (.tup (zs.map r)) := fun σ F H A O m w Q q =>
  ev_two ha hb m w fun x y F' H' s w' d1 d2 => by
    cases d1 with
    | tup a1 b1 =>
      cases d2 with
      | tup a2 b2 =>
        obtain ⟨h1, h2⟩ := catR_some h
        have l1 := b1.length
        have l2 := b2.length
        rw [List.length_map] at l1 l2
        refine ⟨_, _, _, _, rfl, rfl, w'.same.sqt a1, w'.same.sqt a2, by rw [l1, l2, sizeLine_eq]; exact h1, fun e => ?_, fun _ e => ?_, fun _ _ p n => ?_⟩
        · subst e
          have : xs = [] := List.length_eq_zero_iff.mp (by rw [← l1]; rfl)
          have e3 : zs = ys := by rw [h2, this]; rfl
          exact q _ F' H' s w' (by rw [e3]; exact .tup a2 b2)
        · subst e
          have : ys = [] := List.length_eq_zero_iff.mp (by rw [← l2]; rfl)
          have e3 : zs = xs := by rw [h2, this, List.append_nil]
          exact q _ F' H' s w' (by rw [e3]; exact .tup a1 b1)
        · obtain ⟨w2, s2⟩ := w'.newF (o := .tup _) n
          exact q _ _ _ (s.trans s2) w2 (.tup (.of upd_same) (by rw [h2, List.map_append]; exact (b1.append b2).up s2))
theorem eo_none : EO K tNoPart env none := fun σ F H A O m w Q q => q F H (Same.refl F) w
theorem eo_some (h : EV K t env (dI i)) : EO K (tPart t) env (some i) := fun σ F H A O m w Q q => h σ F H A O m w _ fun v F1 H1 s1 w1 d1 => ⟨i, d1.int, q F1 H1 s1 w1⟩
theorem sIxP_eq (n d : Nat) (o : Option Int) : sIxP n d o = HT.sIx n d o := by
  unfold sIxP HT.sIx
  cases o with
  | none => rfl
  | some i => first | rfl | (simp only []; split <;> omega)
theorem cutV_eq (xs : List V) (lo hi : Option Int) : cutV xs lo hi = cutL xs lo hi := by
  unfold cutV cutL
  rw [sIxP_eq, sIxP_eq]
theorem Dats.cut {F : Hp} {α : Type} {r : α → D} {vs : List V} {xs : List α} (h : Dats K F vs (xs.map r)) (lo hi : Option Int) : Dats K F (cutV vs lo hi) ((cutL xs lo hi).map r) := by
  have l := h.length
  rw [List.length_map] at l
  rw [cutV_eq]
  unfold cutL
  rw [List.map_take, List.map_drop, l]
  exact (h.drop _).take _
theorem en_cut {α : Type} {r : α → D} {xs : List α} {tl th : TO} {lo hi : Option Int} (h : EV K te env (.lst (xs.map r))) (hl : EO K tl env lo) (hh : EO K th env hi) : EN K (tSl (rSlL K) te tl th) env ((cutL xs lo hi).map r) := fun σ F H A O m w Q q =>
  h σ F H A O m w _ fun v F1 H1 s1 w1 d1 => hl σ F1 H1 A O (m.up s1) w1 _ fun F2 H2 s2 w2 => hh σ F2 H2 A O (m.up (s1.trans s2)) w2 _ fun F3 H3 s3 w3 => by
    cases d1.up (s2.trans s3) with
    | lst a b => exact ⟨_, _, rfl, w3.same.seq a, fun p n => q p _ F3 _ (s1.trans (s2.trans s3)) (w3.new n) (b.cut lo hi)⟩
theorem ev_cutT {α : Type} {r : α → D} {xs : List α} {tl th : TO} {lo hi : Option Int} (h : EV K te env (.tup (xs.map r))) (hl : EO K tl env lo) (hh : EO K th env hi) : EV K (tSl (rSlA K) te tl th) env (.tup ((cutL xs lo hi).map r)) := fun σ F H A O m w Q q =>
  h σ F H A O m w _ fun v F1 H1 s1 w1 d1 => hl σ F1 H1 A O (m.up s1) w1 _ fun F2 H2 s2 w2 => hh σ F2 H2 A O (m.up (s1.trans s2)) w2 _ fun F3 H3 s3 w3 => by
    cases d1.up (s2.trans s3) with
    | tup a b =>
      refine ⟨_, _, rfl, w3.same.sqt a, fun e => ?_, fun e p n => ?_⟩
      · have e2 : (cutL xs lo hi).map r = xs.map r := by
          have l := b.length
          rw [List.length_map] at l
          unfold cutL
          rw [sIxP_eq, sIxP_eq, ← l, e.1, e.2, List.drop_zero, Nat.sub_zero, l, List.take_length]
        exact q _ F3 H3 (s1.trans (s2.trans s3)) w3 (by rw [e2]; exact .tup a b)
      · obtain ⟨w4, s4⟩ := w3.newF (o := .tup _) n
        exact q _ _ _ (s1.trans (s2.trans (s3.trans s4))) w4 (.tup (.of upd_same) ((b.cut lo hi).up s4))
/-! ### name op= e -/
theorem sw_augA {n : Nat} {a b c : Int} {r : Int → D} (hr : r = dI := by rfl) (h : R.ok (a + b) = R.ok c) (he : env[n]? = some (.dat (dI a))) (hb : EV K te env (dI b)) (hn : Nx (env.set n (.dat (dI c)))) : SW K E (tAug n te (ipI fun i j => i + j)) env Nx Rt Ex := fun σ F H A O m w Dn q1 q2 q4 => by
  obtain ⟨v, e1, dv⟩ := m.get he
  refine ⟨v, e1, hb σ F H A O m w _ fun y F1 H1 s1 w1 d1 => ⟨a, b, dv.int, d1.int, ?_⟩⟩
  have e := R.ok_inj h
  subst e
  obtain ⟨A', sb, m'⟩ := (m.up s1).set n (Dat.v (K := K) (F := F1) (.int _))
  exact q1 _ _ F1 H1 A' hn s1 m' (w1.subA sb)
theorem sw_augS {n : Nat} {a b c : Int} {r : Int → D} (hr : r = dI := by rfl) (h : R.ok (a - b) = R.ok c) (he : env[n]? = some (.dat (dI a))) (hb : EV K te env (dI b)) (hn : Nx (env.set n (.dat (dI c)))) : SW K E (tAug n te (ipI fun i j => i - j)) env Nx Rt Ex := fun σ F H A O m w Dn q1 q2 q4 => by
  obtain ⟨v, e1, dv⟩ := m.get he
  refine ⟨v, e1, hb σ F H A O m w _ fun y F1 H1 s1 w1 d1 => ⟨a, b, dv.int, d1.int, ?_⟩⟩
  have e := R.ok_inj h
  subst e
  obtain ⟨A', sb, m'⟩ := (m.up s1).set n (Dat.v (K := K) (F := F1) (.int _))
  exact q1 _ _ F1 H1 A' hn s1 m' (w1.subA sb)
/-! ### the greatest divisor's loop -/
theorem gcdR_some {x y g : Int} (h : gcdR x y = .ok g) : 0 ≤ x ∧ 0 ≤ y ∧ ((Int.gcd x y : Nat) : Int) = g := by
  unfold gcdR at h
  split at h
  · exact ⟨by omega, by omega, R.ok_inj h⟩
  · cases h
theorem sw_gcd {tb : TS} (ε : Int × Int → List Slot) {x0 y0 g : Int} (h : gcdR x0 y0 = .ok g) (h0 : Wk env (ε (x0, y0))) (ht : ∀ z, ET K tt (ε z) (decide (z.2 > 0)))
    (hb : ∀ (z : Int × Int) (w : Int), fmodR z.1 z.2 = .ok w → ((0 ≤ z.2 ∧ 0 ≤ w ∧ ((Int.gcd z.2 w : Nat) : Int) = g) ∧ w.toNat < z.2.toNat) → SW K E tb (ε z) (fun e => ∃ s' : Int × Int, (0 ≤ s'.1 ∧ 0 ≤ s'.2 ∧ ((Int.gcd s'.1 s'.2 : Nat) : Int) = g) ∧ s'.2.toNat < z.2.toNat ∧ Wk e (ε s')) Rt Ex)
    (hn : Nx (ε (g, 0))) : SW K E (tWhile tt tb) env Nx Rt Ex := by
  refine sw_while (S := Int × Int) (fun s => 0 ≤ s.1 ∧ 0 ≤ s.2 ∧ ((Int.gcd s.1 s.2 : Nat) : Int) = g) (fun s => s.2.toNat) ε (x0, y0) h0 (gcdR_some h) fun z hz => ⟨_, ht z, fun hc => ?_, fun hc => ?_⟩
  · obtain ⟨a, b⟩ := z
    have hb0 : 0 < b := of_decide_eq_true hc
    have e : fmodR a b = .ok (a.fmod b) := by unfold fmodR; rw [if_neg (by omega)]
    have e2 : a.fmod b = a % b := Int.fmod_eq_emod_of_nonneg a (by omega)
    have h1 := Int.emod_nonneg a (show b ≠ 0 by omega)
    have h2 := Int.emod_lt_of_pos a hb0
    refine hb (a, b) _ e ⟨⟨hz.2.1, by rw [e2]; exact h1, ?_⟩, by rw [e2]; show (a % b).toNat < b.toNat; omega⟩
    rw [e2]
    have h3 : Int.gcd b (a % b) = Int.gcd a b := by
      rw [Int.gcd_comm a b, Int.gcd_right_eq_iff]
      intro c hc0
      have h5 := Int.emod_add_mul_ediv a b
      have h6 : c ∣ b * (a / b) := Int.dvd_trans hc0 (Int.dvd_mul_right b (a / b))
      constructor
      · intro h7
        rw [← h5]; exact Int.dvd_add h7 h6
      · intro h7
        have h8 : a % b = a - b * (a / b) := by omega
        rw [h8]; exact Int.dvd_sub h7 h6
    show ((Int.gcd b (a % b) : Nat) : Int) = g
    rw [h3]; exact hz.2.2
  · obtain ⟨a, b⟩ := z
    have hb0 : ¬ b > 0 := of_decide_eq_false hc
    have hb2 : 0 ≤ b := hz.2.1
    have hb1 : b = 0 := by omega
    subst hb1
    have h3 : ((Int.gcd a 0 : Nat) : Int) = g := hz.2.2
    rw [Int.gcd_zero_right] at h3
    have h5 : 0 ≤ a := hz.1
    have h4 : a = g := by omega
    subst h4
    exact hn
end
end Pg

set_option Elab.async false
set_option linter.all false
set_option maxRecDepth 100000
namespace Pg
open PySem PySem.Spec PyProof.Rows L2
/-! ### == of data -/
/-- how the data of a kind compare -/
structure EqR {α : Type} (r : α → D) where
  py : α → PyData
  dep : Nat
  ok : ∀ (K : PySem.W.Frag) (F H : Hp) (v : V) (x : α), Same F H → Dat K F v (r x) → Dp K H v (py x)
  lay : ∀ x, (py x).canLay0 = true
  depth : ∀ x, (py x).depth ≤ dep
  eqv : ∀ x y, PyData.eqv (py x) (py y) = true ↔ x = y
section
variable {α β γ δ ε : Type} {r : α → D}
def eqI : EqR dI where
  py := .int
  dep := 1
  ok := fun K F H v x s h => by rw [h.int]; exact .int x
  lay := fun _ => by simp [PyData.canLay0]
  depth := fun _ => by simp [PyData.depth]
  eqv := fun x y => by simp [PyData.eqv]
def eqB : EqR dB where
  py := .bool
  dep := 1
  ok := fun K F H v x s h => by rw [h.bl]; exact .bl x
  lay := fun _ => by simp [PyData.canLay0]
  depth := fun _ => by simp [PyData.depth]
  eqv := fun x y => by simp [PyData.eqv]
theorem eqvAll_map {f : α → PyData} (h : ∀ x y, PyData.eqv (f x) (f y) = true ↔ x = y) : ∀ xs ys : List α, PyData.eqvAll (xs.map f) (ys.map f) = true ↔ xs = ys := by
  intro xs
  induction xs with
  | nil => intro ys; cases ys <;> simp [PyData.eqvAll]
  | cons x xs ih => intro ys; cases ys <;> simp [PyData.eqvAll, h, ih]
theorem layAll_map {f : α → PyData} (h : ∀ x, (f x).canLay0 = true) : ∀ xs : List α, PyData.canLayAll0 (xs.map f) = true
  | [] => by simp [PyData.canLayAll0]
  | x :: xs => by simp [PyData.canLayAll0, h, layAll_map h xs]
theorem depthAll_map {f : α → PyData} {n : Nat} (h : ∀ x, (f x).depth ≤ n) : ∀ xs : List α, PyData.depthAll (xs.map f) ≤ n := by
  intro xs
  induction xs with
  | nil => exact Nat.zero_le n
  | cons x xs ih => exact Nat.max_le.mpr ⟨h x, ih⟩
theorem dpAll_map {K : PySem.W.Frag} {F H : Hp} (e : EqR r) (s : Same F H) : ∀ (xs : List α) (vs : List V), Dats K F vs (xs.map r) → DpAll K H vs (xs.map e.py)
  | [], _, h => by cases h; exact .nil
  | x :: xs, _, h => by
    cases h with
    | cons a b => exact .cons (e.ok K F H _ x s a) (dpAll_map e s xs _ b)
def eqL (e : EqR r) : EqR (dL r) where
  py := fun xs => .list (xs.map e.py)
  dep := e.dep + 1
  ok := fun K F H v xs s h => by
    cases h with
    | lst a b => exact .lst (s.seq a) (dpAll_map e s xs _ b)
  lay := fun xs => by simp [PyData.canLay0, layAll_map e.lay]
  depth := fun xs => by simpa [PyData.depth] using depthAll_map e.depth xs
  eqv := fun xs ys => by rw [PyData.eqv]; exact eqvAll_map e.eqv xs ys
def eqT (e : EqR r) : EqR (dT r) where
  py := fun xs => .tuple (xs.map e.py)
  dep := e.dep + 1
  ok := fun K F H v xs s h => by
    cases h with
    | tup a b => exact .tup (s.sqt a) (dpAll_map e s xs _ b)
  lay := fun xs => by simp [PyData.canLay0, layAll_map e.lay]
  depth := fun xs => by simpa [PyData.depth] using depthAll_map e.depth xs
  eqv := fun xs ys => by rw [PyData.eqv]; exact eqvAll_map e.eqv xs ys
def eq2 {r : α → D} {r2 : β → D} (e : EqR r) (e2 : EqR r2) : EqR (d2 r r2) where
  py := fun x => .tuple [e.py x.1, e2.py x.2]
  dep := max e.dep e2.dep + 1
  ok := fun K F H v x s h => by
    cases h with
    | tup a b =>
      cases b with
      | cons b1 b =>
        cases b with
        | cons b2 b =>
          cases b
          exact .tup (s.sqt a) (.cons (e.ok _ _ _ _ _ s b1) (.cons (e2.ok _ _ _ _ _ s b2) .nil))
  lay := fun x => by simp [PyData.canLay0, PyData.canLayAll0, e.lay, e2.lay]
  depth := fun x => by
    have h1 := e.depth x.1
    have h2 := e2.depth x.2
    simp only [PyData.depth, PyData.depthAll]
    omega
  eqv := fun x y => by
    simp only [PyData.eqv, PyData.eqvAll, Bool.and_eq_true, e.eqv, e2.eqv, and_true]
    exact ⟨fun h => Prod.ext h.1 h.2, fun h => by subst h; exact ⟨rfl, rfl⟩⟩
def eq3 {r : α → D} {r2 : β → D} {r3 : γ → D} (e : EqR r) (e2 : EqR r2) (e3 : EqR r3) : EqR (d3 r r2 r3) where
  py := fun x => .tuple [e.py x.1, e2.py x.2.1, e3.py x.2.2]
  dep := max e.dep (max e2.dep e3.dep) + 1
  ok := fun K F H v x s h => by
    cases h with
    | tup a b =>
      cases b with
      | cons b1 b =>
        cases b with
        | cons b2 b =>
          cases b with
          | cons b3 b =>
            cases b
            exact .tup (s.sqt a) (.cons (e.ok _ _ _ _ _ s b1) (.cons (e2.ok _ _ _ _ _ s b2) (.cons (e3.ok _ _ _ _ _ s b3) .nil)))
  lay := fun x => by simp [PyData.canLay0, PyData.canLayAll0, e.lay, e2.lay, e3.lay]
  depth := fun x => by
    have h1 := e.depth x.1
    have h2 := e2.depth x.2.1
    have h3 := e3.depth x.2.2
    simp only [PyData.depth, PyData.depthAll]
    omega
  eqv := fun x y => by
    simp only [PyData.eqv, PyData.eqvAll, Bool.and_eq_true, e.eqv, e2.eqv, e3.eqv, and_true]
    exact ⟨fun h => Prod.ext h.1 (Prod.ext h.2.1 h.2.2), fun h => by subst h; exact ⟨rfl, rfl, rfl⟩⟩
def eq4 {r : α → D} {r2 : β → D} {r3 : γ → D} {r4 : δ → D} (e : EqR r) (e2 : EqR r2) (e3 : EqR r3) (e4 : EqR r4) : EqR (d4 r r2 r3 r4) where
  py := fun x => .tuple [e.py x.1, e2.py x.2.1, e3.py x.2.2.1, e4.py x.2.2.2]
  dep := max e.dep (max e2.dep (max e3.dep e4.dep)) + 1
  ok := fun K F H v x s h => by
    cases h with
    | tup a b =>
      cases b with
      | cons b1 b =>
        cases b with
        | cons b2 b =>
          cases b with
          | cons b3 b =>
            cases b with
            | cons b4 b =>
              cases b
              exact .tup (s.sqt a) (.cons (e.ok _ _ _ _ _ s b1) (.cons (e2.ok _ _ _ _ _ s b2) (.cons (e3.ok _ _ _ _ _ s b3) (.cons (e4.ok _ _ _ _ _ s b4) .nil))))
  lay := fun x => by simp [PyData.canLay0, PyData.canLayAll0, e.lay, e2.lay, e3.lay, e4.lay]
  depth := fun x => by
    have h1 := e.depth x.1
    have h2 := e2.depth x.2.1
    have h3 := e3.depth x.2.2.1
    have h4 := e4.depth x.2.2.2
    simp only [PyData.depth, PyData.depthAll]
    omega
  eqv := fun x y => by
    simp only [PyData.eqv, PyData.eqvAll, Bool.and_eq_true, e.eqv, e2.eqv, e3.eqv, e4.eqv, and_true]
    exact ⟨fun h => Prod.ext h.1 (Prod.ext h.2.1 (Prod.ext h.2.2.1 h.2.2.2)), fun h => by subst h; exact ⟨rfl, rfl, rfl, rfl⟩⟩
def eqQ : EqR dQ where
  py := fun q => .tuple [.int q.num, .int (q.den : Int)]
  dep := 2
  ok := fun K F H v x s h => (eq2 eqI eqI).ok K F H v (x.num, (x.den : Int)) s h
  lay := fun _ => by simp [PyData.canLay0, PyData.canLayAll0]
  depth := fun _ => by simp [PyData.depth, PyData.depthAll]
  eqv := fun x y => by
    simp only [PyData.eqv, PyData.eqvAll, Bool.and_eq_true, beq_iff_eq, and_true]
    exact ⟨fun h => Rat.ext h.1 (by omega), fun h => by subst h; exact ⟨rfl, rfl⟩⟩
end
section
variable {K : PySem.W.Frag} {env : List Slot} {ta tb : TE} {α : Type} {r : α → D} {x y : α}
theorem eqv_dec [DecidableEq α] (e : EqR r) (x y : α) : PyData.eqv (e.py x) (e.py y) = decide (x = y) := by
  rw [Bool.eq_iff_iff, e.eqv, decide_eq_true_iff]
theorem shaped_of (e : EqR r) (h : e.dep ≤ 64) (x : α) : SeqAt.shaped (e.py x) = true := by
  unfold SeqAt.shaped
  rw [e.lay, decide_eq_true (Nat.le_trans (e.depth x) h)]
  rfl
theorem ev_eqD [DecidableEq α] (e : EqR r) (ha : EV K ta env (r x)) (hb : EV K tb env (r y)) (h : e.dep ≤ 64 := by decide) : EV K (tOp (rEqD K) ta tb) env (dB (decide (x = y))) := fun σ F H A O m w Q q =>
  ev_two ha hb m w fun u v F' H' s w' d1 d2 => ⟨_, _, e.ok _ _ _ _ _ w'.same d1, e.ok _ _ _ _ _ w'.same d2, shaped_of e h x, shaped_of e h y, by rw [eqv_dec]; exact q _ F' H' s w' (.v _)⟩
theorem ev_neD [DecidableEq α] (e : EqR r) (ha : EV K ta env (r x)) (hb : EV K tb env (r y)) (h : e.dep ≤ 64 := by decide) : EV K (tOp (rNeD K) ta tb) env (dB (!decide (x = y))) := fun σ F H A O m w Q q =>
  ev_two ha hb m w fun u v F' H' s w' d1 d2 => ⟨_, _, e.ok _ _ _ _ _ w'.same d1, e.ok _ _ _ _ _ w'.same d2, shaped_of e h x, shaped_of e h y, by rw [eqv_dec]; exact q _ F' H' s w' (.v _)⟩
end
end Pg

set_option Elab.async false
set_option linter.all false
set_option maxRecDepth 100000
namespace Pg
open PySem PySem.Spec PyProof.Rows L2
/-! ### the head's facts: defs, names, and one Bool of one's own -/
abbrev AlP : Type := He.AlD × Bool
def obsP (n : Nat) (fa : List He.Fa) (fn : List He.DefD) (ex : PySem.W.Frag → Bool) (g : Addr → Option Obj) : AlP := (He.obsD fa fn (He.frG g (He.asD g n)), ex (He.frG g (He.asD g n)))
def SaysP (fa : List He.Fa) (fn : List He.DefD) (ex : PySem.W.Frag → Bool) (K : PySem.W.Frag) : Prop := He.SaysD fa fn K ∧ ex K = true
def hookP (n : Nat) (fa : List He.Fa) (fn : List He.DefD) (ex : PySem.W.Frag → Bool) : PySem.W.Hook where
  α := AlP
  obs := fun s => obsP n fa fn ex s.heap.get?
  val := fun _ => (He.valD fn, true)
  says := fun _ h => ∃ K : PySem.W.Frag, K.In h ∧ SaysP fa fn ex K
  of := fun _ _ e => ⟨_, He.frG_in, congrArg Prod.fst e, congrArg Prod.snd e⟩
  keeps := fun _ _ _ ⟨K, hK, c⟩ k => ⟨K, PySem.W.Frag.In.keeps hK k, c⟩
def obT (n : Nat) (fa : List He.Fa) (fn : List He.DefD) (ex : PySem.W.Frag → Bool) (s : PySem.W.SharedT) : AlP := obsP n fa fn ex (HandSHeadRun.getT s)
theorem obT_eq {n : Nat} {fa : List He.Fa} {fn : List He.DefD} {ex : PySem.W.Frag → Bool} (s : PySem.W.SharedT) : obT n fa fn ex s = (hookP n fa fn ex).obs s.abs := by
  have e : HandSHeadRun.getT s = s.abs.heap.get? := funext (HandSHeadRun.getT_eq s)
  unfold obT
  rw [e] <;> rfl
/-! ### constants of the top -/
def relD : Value → V → Bool
  | .none, .non => true
  | .bool b, .bl c => b == c
  | .int i _, .int j => decide (i = j)
  | .str x _, .str y => decide (x = y)
  | _, _ => false
mutual
/-- the datum d as the written part K bears it -/
def conB (K : PySem.W.Frag) : Nat → Value → D → Bool
  | _, u, .v x => relD u x
  | n + 1, .ref a, .tup ds => (match K.lookup a with
    | some ⟨.type "tuple", _, .seq its _, _⟩ => decide (its.size ≤ sizeLine) && conAll K n its.toList ds
    | _ => false)
  | _, _, _ => false
def conAll (K : PySem.W.Frag) : Nat → List Value → List D → Bool
  | _, [], [] => true
  | n, u :: us, d :: ds => conB K n u d && conAll K n us ds
  | _, _, _ => false
end
end Pg
namespace Pg
open PySem PySem.Spec PyProof.Rows L2
theorem dats_ints {K : PySem.W.Frag} {F : Hp} : ∀ ns : List Int, Dats K F (ns.map V.int) (ns.map dI)
  | [] => .nil
  | _ :: ns => .cons (.v _) (dats_ints ns)
theorem bits_log {z : Int} (h : Builtin.Int.intBits z ≤ 1048576) : z.natAbs.log2 ≤ 1048576 := by
  unfold Builtin.Int.intBits at h
  split at h
  · rename_i e
    have : z = 0 := by simpa using e
    subst this
    decide
  · omega
/-- the law's promise at its script -/
theorem law_sp {K : PySem.W.Frag} {f : List Int → R Bool} (hf : ∀ ns : List Int, ns.length ≤ 63 → (∀ z ∈ ns, z.natAbs.log2 ≤ 1048576) → f ns = .ok true) (H : Hp) (a : Addr) (ns : List Int) (hl : ns.length ≤ 63)
    (hb : ∀ z ∈ ns, Builtin.Int.intBits z ≤ 1048576) (hS : SqL K H a (ns.map V.int)) : spR K (fun (x : List Int) => [dL dI x]) f dB [.ref a] H (fun v _ => v = .bl true) fun _ _ _ => False :=
  ⟨ns, H, [], true, Own.refl H, .cons (.lst hS (dats_ints ns)) .nil, hf ns hl fun z hz => bits_log (hb z hz), fun v F' H' _ _ d => d.bl⟩
end Pg

set_option Elab.async false
set_option linter.all false
/-! Pg: more outcomes; core Lean alone. -/
namespace Pg
/-- how many numbers range(i, j, c) has -/
def stepN (i j c : Int) : Nat := if c > 0 then (if i < j then ((j - i - 1) / c + 1).toNat else 0) else (if i > j then ((i - j - 1) / (-c) + 1).toNat else 0)
def rng3R (i j c : Int) : R (List Int) := if c ≠ 0 ∧ c.natAbs < 1073741824 ∧ -(2 ^ 61) ≤ i ∧ i < 2 ^ 61 ∧ -(2 ^ 61) ≤ j ∧ j < 2 ^ 61 then .ok ((List.range (stepN i j c)).map fun k => i + (k : Nat) * c) else .bad
/-- room for one more -/
def roomR {α : Type} (xs : List α) : R Unit := if xs.length < 16777216 then .ok () else .bad
def insR {α : Type} (xs : List α) (i : Int) (x : α) : R (List α) := if xs.length < 16777216 ∧ 0 ≤ i ∧ i < 2 ^ 63 then .ok (xs.take i.toNat ++ [x] ++ xs.drop i.toNat) else .bad
def extR {α : Type} (xs ys : List α) : R (List α) := if xs.length + ys.length ≤ 16777216 then .ok (xs ++ ys) else .bad
/-- two lists walked together -/
def zipL {α β : Type} : List α → List β → List (α × β)
  | [], _ => []
  | _ :: _, [] => []
  | x :: xs, y :: ys => (x, y) :: zipL xs ys
/-- what an option holds -/
def getR {α : Type} : Option α → R α
  | some x => .ok x
  | none => .bad
def tup2R {α : Type} : List α → R (α × α)
  | [a, b] => .ok (a, b)
  | _ => .bad
def tup3R {α : Type} : List α → R (α × α × α)
  | [a, b, c] => .ok (a, b, c)
  | _ => .bad
end Pg
namespace Pg
/-- xss[i][j] = x -/
def set2R {α : Type} (xss : List (List α)) (i j : Int) (x : α) : R (List (List α)) := R.bind (atR xss i) fun row => R.bind (setR row j x) fun row' => setR xss i row'
end Pg
namespace Pg
/-- xss[i].append(x) -/
def app2R {α : Type} (xss : List (List α)) (i : Int) (x : α) : R (List (List α)) := R.bind (atR xss i) fun row => R.bind (appR row x) fun row' => setR xss i row'
end Pg
namespace Pg
/-- xs.pop() -/
def popR {α : Type} (xs : List α) : R (List α) := if xs.isEmpty = true then .bad else .ok xs.dropLast
/-- every row with one more -/
def appAllR {α : Type} (xss : List (List α)) (x : α) : R (List (List α)) := if (xss.all fun r => decide (r.length < 16777216)) = true then .ok (xss.map (· ++ [x])) else .bad
section
variable {κ β : Type} [DecidableEq κ]
/-- a dict's pairs -/
def putA (xs : List (κ × β)) (k : κ) (v : β) : List (κ × β) := if (xs.any fun p => decide (p.1 = k)) = true then xs.map (fun p => if p.1 = k then (p.1, v) else p) else xs ++ [(k, v)]
def hasA (xs : List (κ × β)) (k : κ) : Bool := xs.any fun p => decide (p.1 = k)
def getA (xs : List (κ × β)) (k : κ) : Option β := (xs.find? fun p => decide (p.1 = k)).map (·.2)
def putR (xs : List (κ × β)) (k : κ) (v : β) : R (List (κ × β)) := if xs.length < 16777216 then .ok (putA xs k v) else .bad
end
end Pg

set_option Elab.async false
set_option linter.all false
set_option maxRecDepth 100000
namespace Pg
open PySem PySem.Spec PyProof.Rows L2
/-! ### two lists, two tuples walked together -/
section
variable {K : PySem.W.Frag} {na : Option Addr} {E : WX} {env : List Slot} {t ta tb te : TE} {tt : TT} {i j k : Int} {d : D} {ds es : List D} {Nx : List Slot → Prop} {Rt : List Slot → T → Prop} {Ex : List Slot → Value → Prop}
def zipD : List D → List D → List D
  | [], _ => []
  | _ :: _, [] => []
  | x :: xs, y :: ys => .tup [x, y] :: zipD xs ys
theorem zipD_get : ∀ {ds es : List D} {i : Nat} {d : D}, (zipD ds es)[i]? = some d → ∃ x y, ds[i]? = some x ∧ es[i]? = some y ∧ d = .tup [x, y]
  | [], _, i, d, h => by simp [zipD] at h
  | _ :: _, [], i, d, h => by simp [zipD] at h
  | x :: xs, y :: ys, 0, d, h => by
    simp [zipD] at h
    exact ⟨x, y, rfl, rfl, h.symm⟩
  | x :: xs, y :: ys, i + 1, d, h => by
    simp [zipD] at h
    obtain ⟨a, b, h1, h2, h3⟩ := zipD_get h
    exact ⟨a, b, by simpa using h1, by simpa using h2, h3⟩
theorem zipD_len : ∀ (ds es : List D), (zipD ds es).length = min ds.length es.length
  | [], _ => by simp [zipD]
  | _ :: _, [] => by simp [zipD]
  | x :: xs, y :: ys => by simp only [zipD, List.length_cons, zipD_len xs ys]; omega
theorem zipD_map {α β : Type} (f : α → D) (g : β → D) : ∀ (xs : List α) (ys : List β), zipD (xs.map f) (ys.map g) = (zipL xs ys).map (d2 f g)
  | [], _ => by simp [zipD, zipL]
  | _ :: _, [] => by simp [zipD, zipL]
  | x :: xs, y :: ys => by
    show D.tup [f x, g y] :: zipD (xs.map f) (ys.map g) = D.tup [f x, g y] :: (zipL xs ys).map (d2 f g)
    rw [zipD_map f g xs ys]
theorem own_pair {F F' H : Hp} {O : List (Addr × HO)} {T : Addr} {x y : V} {d e : D} (w : Own F' H O) (n : H T = none) (dx : Dat K F' x d) (dy : Dat K F' y e) :
    ∃ F'', Same F' F'' ∧ Own F'' (upd H T (.tup [x, y])) O ∧ Dat K F'' (.ref T) (.tup [d, e]) := by
  obtain ⟨w2, s2⟩ := w.newF (o := .tup [x, y]) n
  exact ⟨_, s2, w2, .tup (.of upd_same) (.cons (dx.up s2) (.cons (dy.up s2) .nil))⟩
theorem walks_zipT {F : Hp} {a b : Addr} {xs ys : List V} (hx : SqT K F a xs) (hy : SqT K F b ys) (dx : Dats K F xs ds) (dy : Dats K F ys es) : Walks K (RZ.ItzT K a b) F (zipD ds es) := by
  refine ⟨fun i F' H O d s w' hd => ?_, fun i F' H O s w' hl => ⟨xs, ys, w'.same.sqt (s.sqt hx), w'.same.sqt (s.sqt hy), ?_⟩⟩
  case refine_2 =>
    rw [zipD_len] at hl
    rw [dx.length, dy.length]; omega
  obtain ⟨u, v, h1, h2, rfl⟩ := zipD_get hd
  obtain ⟨x, e1, q1⟩ := dx.get h1
  obtain ⟨y, e2, q2⟩ := dy.get h2
  have hx2 := w'.same.sqt (s.sqt hx)
  have hy2 := w'.same.sqt (s.sqt hy)
  refine ⟨⟨xs, ys, x, y, hx2, hy2, e1, e2⟩, fun z H' hz => ?_⟩
  obtain ⟨T, x', y', rfl, hT, rfl, f1, f2⟩ := hz
  have ex : x = x' := Option.some.inj (e1.symm.trans (f1 xs hx2))
  have ey : y = y' := Option.some.inj (e2.symm.trans (f2 ys hy2))
  subst ex ey
  exact own_pair (F := F) w' hT (q1.up s) (q2.up s)
theorem walks_zipL {F : Hp} {a b : Addr} {xs ys : List V} (hx : SqL K F a xs) (hy : SqL K F b ys) (dx : Dats K F xs ds) (dy : Dats K F ys es) : Walks K (Itz K a b) F (zipD ds es) := by
  refine ⟨fun i F' H O d s w' hd => ?_, fun i F' H O s w' hl => ⟨xs, ys, w'.same.seq (s.seq hx), w'.same.seq (s.seq hy), ?_⟩⟩
  case refine_2 =>
    rw [zipD_len] at hl
    rw [dx.length, dy.length]; omega
  obtain ⟨u, v, h1, h2, rfl⟩ := zipD_get hd
  obtain ⟨x, e1, q1⟩ := dx.get h1
  obtain ⟨y, e2, q2⟩ := dy.get h2
  have hx2 := w'.same.seq (s.seq hx)
  have hy2 := w'.same.seq (s.seq hy)
  refine ⟨⟨xs, ys, x, y, hx2, hy2, e1, e2⟩, fun z H' hz => ?_⟩
  obtain ⟨T, x', y', rfl, hT, rfl, f1, f2⟩ := hz
  have ex : x = x' := Option.some.inj (e1.symm.trans (f1 xs hx2))
  have ey : y = y' := Option.some.inj (e2.symm.trans (f2 ys hy2))
  subst ex ey
  exact own_pair (F := F) w' hT (q1.up s) (q2.up s)
theorem iv_zipT {α β : Type} {f : α → D} {g : β → D} {xs : List α} {ys : List β} (ha : EV K ta env (.tup (xs.map f))) (hb : EV K tb env (.tup (ys.map g))) : IV K (RZ.iZipA K (tCons ta (tCons tb tNil))) env ((zipL xs ys).map (d2 f g)) := fun σ F H A O m w Q q =>
  ev_two ha hb m w fun x y F' H' s w' d1 d2 => by
    rw [← zipD_map] at q
    cases d1 with
    | tup a1 b1 =>
      cases d2 with
      | tup a2 b2 => exact ⟨_, _, _, _, rfl, .inr ⟨w'.same.sqt a1, w'.same.sqt a2, q _ F' H' s w' (walks_zipT a1 a2 b1 b2)⟩⟩
theorem iv_zipL {α β : Type} {f : α → D} {g : β → D} {xs : List α} {ys : List β} (ha : EV K ta env (.lst (xs.map f))) (hb : EV K tb env (.lst (ys.map g))) : IV K (RZ.iZipA K (tCons ta (tCons tb tNil))) env ((zipL xs ys).map (d2 f g)) := fun σ F H A O m w Q q =>
  ev_two ha hb m w fun x y F' H' s w' d1 d2 => by
    rw [← zipD_map] at q
    cases d1 with
    | lst a1 b1 =>
      cases d2 with
      | lst a2 b2 => exact ⟨_, _, _, _, rfl, .inl ⟨w'.same.seq a1, w'.same.seq a2, q _ F' H' s w' (walks_zipL a1 a2 b1 b2)⟩⟩
/-! ### reversed -/
theorem walks_revL {F : Hp} {a : Addr} {xs : List V} (hx : SqL K F a xs) (dx : Dats K F xs ds) : Walks K (Itv K a xs.length) F ds.reverse := by
  refine ⟨fun i F' H O d s w' hd => ?_, fun i F' H O s w' hl => ?_⟩
  case refine_2 => rw [List.length_reverse, ← dx.length] at hl; exact hl
  have hi : i < ds.length := by
    rcases Nat.lt_or_ge i ds.length with z | z
    · exact z
    · rw [List.getElem?_eq_none (by simpa using z)] at hd; cases hd
  rw [List.getElem?_reverse hi] at hd
  obtain ⟨x, e1, q1⟩ := dx.get hd
  rw [← dx.length] at e1 hi
  have hx2 := w'.same.seq (s.seq hx)
  refine ⟨⟨hi, xs, x, hx2, e1⟩, fun z H' hz => ?_⟩
  obtain ⟨e2, e3⟩ := hz
  subst e2
  have : x = z := Option.some.inj (e1.symm.trans (e3 _ hx2))
  subst this
  exact ⟨F', Same.refl _, w', q1.up s⟩
theorem iv_revL {α : Type} {f : α → D} {xs : List α} (ha : EV K te env (.lst (xs.map f))) : IV K (RT.iRevA K te) env (xs.reverse.map f) := fun σ F H A O m w Q q => ha σ F H A O m w _ fun v F1 H1 s1 w1 d1 => by
  rw [List.map_reverse] at q
  cases d1 with
  | lst a b => exact ⟨_, _, rfl, .inl ⟨w1.same.seq a, q _ F1 H1 s1 w1 (walks_revL a b)⟩⟩
/-! ### range of three -/
theorem walks_rngC (lo c : Int) (n : Nat) (F : Hp) : Walks K (Itc lo c n) F (((List.range n).map fun k => lo + (k : Nat) * c).map dI) := by
  refine ⟨fun i F' H O d s w' hd => ?_, fun i F' H O s w' hl => ?_⟩
  case refine_2 => rw [List.length_map, List.length_map, List.length_range] at hl; exact hl
  rw [List.map_map, List.getElem?_map] at hd
  by_cases hi : i < n
  · rw [List.getElem?_range hi] at hd
    have e : dI (lo + (i : Nat) * c) = d := Option.some.inj hd
    subst e
    refine ⟨hi, fun y H' hy => ?_⟩
    obtain ⟨e1, e2⟩ := hy
    subst e1 e2
    exact ⟨F', Same.refl _, w', .v _⟩
  · rw [List.getElem?_eq_none (by simpa using hi)] at hd
    cases hd
theorem step_small {i j c : Int} (h0 : c ≠ 0) (hc : c.natAbs < 1073741824) (h1 : -(2 ^ 61) ≤ i) (h2 : i < 2 ^ 61) (h3 : -(2 ^ 61) ≤ j) (h4 : j < 2 ^ 61) : RgC i j c (stepN i j c) := by
  have e : Builtin.Range.rangeSize i j c = (stepN i j c : Nat) := by
    unfold Builtin.Range.rangeSize stepN
    split
    · split
      · have := Int.ediv_nonneg (a := j - i - 1) (b := c) (by omega) (by omega)
        omega
      · rfl
    · split
      · have := Int.ediv_nonneg (a := i - j - 1) (b := -c) (by omega) (by omega)
        omega
      · rfl
  have b := PyProof.Rows.rangeSize_toNat_le i j c
  have p := PyProof.Rows.rangeSize_toNat i j c
  refine ⟨h0, hc, ?_, e⟩
  unfold Builtin.Range.small
  simp only [Builtin.Range.rangeFitsLong, Bool.and_eq_true, Bool.or_eq_true, decide_eq_true_eq, beq_iff_eq]
  refine ⟨⟨⟨⟨by omega, by omega⟩, by omega⟩, by omega⟩, .inr ?_⟩
  split <;> simp only [Bool.and_eq_true, decide_eq_true_eq] <;> omega
theorem rng3R_some {i j c : Int} {xs : List Int} (h : rng3R i j c = .ok xs) : RgC i j c (stepN i j c) ∧ xs = (List.range (stepN i j c)).map fun k => i + (k : Nat) * c := by
  unfold rng3R at h
  split at h
  · rename_i q
    exact ⟨step_small q.1 q.2.1 q.2.2.1 q.2.2.2.1 q.2.2.2.2.1 q.2.2.2.2.2, (R.ok_inj h).symm⟩
  · cases h
theorem iv_rng3 {tc : TE} {i j c : Int} {xs : List Int} (hx : rng3R i j c = .ok xs) (ha : EV K ta env (dI i)) (hb : EV K tb env (dI j)) (hc : EV K tc env (dI c)) : IV K (iRng3 (tCons ta (tCons tb (tCons tc tNil)))) env (xs.map dI) := fun σ F H A O m w Q q =>
  ev_two ha hb m w fun x y F' H' s w' d1 d2 => hc σ F' H' A O (m.up s) w' _ fun z F2 H2 s2 w2 d3 => by
    obtain ⟨h, e⟩ := rng3R_some hx
    rw [d1.int, d2.int, d3.int]
    refine ⟨i, j, c, _, rfl, h, q _ F2 H2 (s.trans s2) w2 ?_⟩
    rw [e]
    exact walks_rngC (K := K) i c _ F2
/-! ### own lists lent -/
mutual
def noL : D → Bool
  | .v _ => true
  | .tup ds => noLs ds
  | .lst _ => false
  | .ins _ _ => false
  | .hp _ => true
  | .ob _ => true
def noLs : List D → Bool
  | [] => true
  | d :: ds => noL d && noLs ds
end
def isTree : HO → Bool
  | .lst _ => true
  | .ins _ _ _ => true
  | .own _ => true
  | .dK _ => true
  | .dT _ => true
  | _ => false
def del (F : Hp) (p : Addr) : Hp := fun b => if b = p then none else F b
theorem del_ne {F : Hp} {p b : Addr} (h : b ≠ p) : del F p b = F b := if_neg h
theorem sqt_del {F : Hp} {p a : Addr} {o0 : HO} {xs : List V} (e : F p = some o0) (ho : isTree o0 = true) (h : SqT K F a xs) : SqT K (del F p) a xs := by
  rcases h with (h | ⟨o, h⟩) | h
  · exact .inl (.inl (by rw [del_ne]; exact h; intro z; subst z; rw [e] at h; cases h; cases ho))
  · exact .inl (.inr ⟨o, by rw [del_ne]; exact h; intro z; subst z; rw [e] at h; cases h; cases ho⟩)
  · exact .inr h
mutual
theorem Dat.del {F : Hp} {p : Addr} {o0 : HO} (e : F p = some o0) (ho : isTree o0 = true) : ∀ (d : D) (v : V), noL d = true → Dat K F v d → Dat K (Pg.del F p) v d
  | .v x, _, _, h => by cases h; exact .v x
  | .tup ds, _, n, h => by
    cases h with
    | tup a b => exact .tup (sqt_del e ho a) (Dats.del e ho ds _ n b)
  | .lst ds, _, n, h => by cases n
  | .ins _ _, _, n, h => by cases n
  | .hp k, _, n, h => by
    cases h with
    | @hp a _ q => exact .hp (by rw [del_ne]; exact q; intro z; subst z; rw [e] at q; cases q; cases ho)
  | .ob φ, _, n, h => by
    cases h with
    | @ob a _ q => exact .ob (by rw [del_ne]; exact q; intro z; subst z; rw [e] at q; cases q; cases ho)
theorem Dats.del {F : Hp} {p : Addr} {o0 : HO} (e : F p = some o0) (ho : isTree o0 = true) : ∀ (ds : List D) (vs : List V), noLs ds = true → Dats K F vs ds → Dats K (Pg.del F p) vs ds
  | [], _, _, h => by cases h; exact .nil
  | d :: ds, _, n, h => by
    cases h with
    | cons a b =>
      have n2 := Bool.and_eq_true_iff.mp n
      exact .cons (Dat.del e ho d _ n2.1 a) (Dats.del e ho ds _ n2.2 b)
end
theorem lend {σ : L2.St} {F H : Hp} {A O : List (Addr × HO)} {n : Nat} {xs : List D} (h : env[n]? = some (.ownN na xs)) (m : Match K F σ env A) (w : Own F H (A ++ O)) :
    ∃ (p : Addr) (vs : List V) (A' : List (Addr × HO)) (F1 : Hp), Same F F1 ∧ F1 p = some (.lst vs) ∧ Match K F1 σ (env.set n (.dat (.lst xs))) A' ∧ Own F1 H (A' ++ O) ∧
      ∀ F' H' B, Same F1 F' → Own F' H' (B ++ (A' ++ O)) → Same F (del F' p) ∧ Own (del F' p) H' (B ++ (A ++ O)) := by
  obtain ⟨p, vs, A1, A2, e, h1, h2, _, h5⟩ := m.getO h
  subst e
  have w0 := w
  rw [List.append_assoc] at w
  have hp := w.mid.has (p, .lst vs) List.mem_cons_self
  obtain ⟨w2, s2⟩ := w.mid.frz
  have w2 : Own (upd F p (.lst vs)) H (A1 ++ A2 ++ O) := by rw [List.append_assoc]; exact w2
  refine ⟨p, vs, A1 ++ A2, upd F p (.lst vs), s2, upd_same, h5 _ _ s2 (.lst (.of upd_same) (h2.up s2)), w2, fun F' H' B s w' => ?_⟩
  have ep : F' p = some (.lst vs) := s _ _ upd_same
  refine ⟨fun b u e => ?_, ?_⟩
  · have hb : b ≠ p := fun z => by subst z; rw [hp.1] at e; cases e
    rw [del_ne hb]
    exact s _ _ (by rw [upd_ne hb]; exact e)
  · have key : Own (del F' p) H' ((p, .lst vs) :: (B ++ (A1 ++ A2 ++ O))) := by
      refine ⟨fun b u e => ?_, ?_, fun q hq => ?_⟩
      · unfold del at e
        split at e
        · cases e
        · exact w'.same b u e
      · rw [List.map_cons, List.nodup_cons]
        refine ⟨fun hm => ?_, w'.nd⟩
        obtain ⟨q, hq, e⟩ := List.mem_map.mp hm
        have := (w'.has q hq).1
        have e2 : q.1 = p := e
        rw [e2, ep] at this
        cases this
      · rcases List.mem_cons.mp hq with rfl | hq
        · exact ⟨if_pos rfl, w'.same _ _ ep⟩
        · obtain ⟨z1, z2⟩ := w'.has q hq
          have hne : q.1 ≠ p := fun z => by rw [z, ep] at z1; cases z1
          exact ⟨by rw [del_ne hne]; exact z1, z2⟩
    have key2 := key.perm (List.perm_middle (l₁ := B) (l₂ := A1 ++ A2 ++ O) (a := (p, .lst vs))).symm
    refine key2.perm ?_
    refine List.Perm.append_left B ?_
    rw [List.append_assoc, List.append_assoc]
    exact List.perm_middle.symm
theorem ev_lend {n : Nat} {xs : List D} (h : env[n]? = some (.ownN na xs)) (hl : noL d = true) (x : EV K t (env.set n (.dat (.lst xs))) d) : EV K t env d := fun σ F H A O m w Q q => by
  obtain ⟨p, vs, A', F1, s1, ep, m1, w1, back⟩ := lend h m w
  refine x σ F1 H A' O m1 w1 _ fun v F' H' s w' dd => ?_
  obtain ⟨b1, b2⟩ := back F' H' [] s w'
  exact q v _ H' b1 b2 (Dat.del (s _ _ ep) rfl d v hl dd)
theorem et_lend {n : Nat} {xs : List D} {b : Bool} (h : env[n]? = some (.ownN na xs)) (x : ET K tt (env.set n (.dat (.lst xs))) b) : ET K tt env b := fun σ F H A O m w Q q => by
  obtain ⟨p, vs, A', F1, s1, ep, m1, w1, back⟩ := lend h m w
  refine x σ F1 H A' O m1 w1 _ fun F' H' s w' => ?_
  obtain ⟨b1, b2⟩ := back F' H' [] s w'
  exact q _ H' b1 b2
theorem en_lend {n : Nat} {xs : List D} (h : env[n]? = some (.ownN na xs)) (hl : noLs ds = true) (x : EN K t (env.set n (.dat (.lst xs))) ds) : EN K t env ds := fun σ F H A O m w Q q => by
  obtain ⟨p, vs, A', F1, s1, ep, m1, w1, back⟩ := lend h m w
  refine x σ F1 H A' O m1 w1 _ fun r us F' H' s w' dd => ?_
  obtain ⟨b1, b2⟩ := back F' H' [(r, .lst us)] s w'
  exact q r us _ H' b1 b2 (Dats.del (s _ _ ep) rfl ds us hl dd)
theorem noLs_map {α : Type} {r : α → D} (h : ∀ x, noL (r x) = true) : ∀ xs : List α, noLs (xs.map r) = true
  | [] => rfl
  | x :: xs => by
    show (noL (r x) && noLs (xs.map r)) = true
    rw [h x, noLs_map h xs]; rfl
theorem noL_T {α : Type} {r : α → D} (h : ∀ x, noL (r x) = true) (xs : List α) : noL (dT r xs) = true := noLs_map h xs
/-! ### changes of own lists -/
theorem match_unset : ∀ {σ : L2.St} {env : List Slot} {O : List (Addr × HO)} {F : Hp} (n : Nat), Match K F σ env O → ∃ O', O'.Sublist O ∧ Match K F σ (env.set n .un) O'
  | _, _, _, _, _, .nil => ⟨[], .slnil, .nil⟩
  | _, _, _, _, 0, .un m => ⟨_, List.Sublist.refl _, .un m⟩
  | _, _, _, _, 0, .dat _ m => ⟨_, List.Sublist.refl _, .un m⟩
  | _, _, _, _, 0, .tr _ m => ⟨_, List.sublist_append_right _ _, .un m⟩
  | _, _, _, _, n + 1, .un m => let ⟨O', s, q⟩ := match_unset n m; ⟨O', s, .un q⟩
  | _, _, _, _, n + 1, .dat d m => let ⟨O', s, q⟩ := match_unset n m; ⟨O', s, .dat d q⟩
  | _, _, _, _, n + 1, .tr d m => let ⟨O', s, q⟩ := match_unset n m; ⟨_, (List.Sublist.refl _).append s, .tr d q⟩
theorem roomR_some {α : Type} {xs : List α} {u : Unit} (h : roomR xs = .ok u) : xs.length < 16777216 := by
  unfold roomR at h
  split at h
  · assumption
  · cases h
/-- xs.append(e), what xs holds no longer asked for -/
theorem sw_appX {α : Type} {r : α → D} {xs : List α} {n : Nat} {u : Unit} (hx : roomR xs = .ok u) (h : env[n]? = some (.ownN na (xs.map r))) (he : EV K te env d) (hn : Nx (env.set n .un)) :
    SW K E (tDrop (tBM K "list" rAppend (tVar n) (tCons te tNil))) env Nx Rt Ex := fun σ F H A O m w Dn q1 q2 q4 => by
  obtain ⟨p, vs, A1, A2, e, h1, h2, h4, _⟩ := m.getO h
  have hl := roomR_some hx
  have hp := (w.has (p, .lst vs) (by rw [e]; simp)).2
  refine ⟨_, h1, .inl ⟨rfl, vs, .of hp⟩, he σ F H A O m w _ fun v F1 H1 s1 w1 d1 => ?_⟩
  have hp1 := (w1.has (p, .lst vs) (by rw [e]; simp)).2
  refine ⟨p, vs, v, rfl, rfl, hp1, ?_, ?_⟩
  · have := h2.length
    rw [List.length_map] at this
    rw [this, sizeLine_eq]; exact hl
  · subst e
    have m2 := h4 F1 _ _ s1 ((h2.up s1).append (.cons d1 .nil))
    obtain ⟨O', s2, m3⟩ := match_unset n m2
    rw [List.set_set] at m3
    refine q1 _ σ F1 _ O' hn s1 m3 ?_
    have w2 : Own F1 (upd H1 p (.lst (vs ++ [v]))) ((A1 ++ (p, .lst (vs ++ [v])) :: A2) ++ O) := by
      rw [List.append_assoc] at w1 ⊢
      exact (w1.mid.put (o' := .lst (vs ++ [v]))).unmid
    exact w2.sub (s2.append (List.Sublist.refl O))
def rInsP : V → List V → Hp → VK → Prop := fun x vs H Q => ∃ (l : Addr) (xs : List V) (i : Int) (y : V), x = .ref l ∧ vs = [.int i, y] ∧ H l = some (.lst xs) ∧ xs.length < sizeLine ∧ 0 ≤ i ∧ i < 2 ^ 63 ∧
    Q .non (upd H l (.lst (xs.take i.toNat ++ [y] ++ xs.drop i.toNat)))
theorem mt_ins {X : Cx} : MtR X "list.insert" rInsP := mt_insert
theorem sw_ins {α : Type} {r : α → D} {xs ys : List α} {x : α} {i : Int} {n : Nat} (hx : insR xs i x = .ok ys) (h : env[n]? = some (.ownN na (xs.map r))) (hi : EV K ta env (dI i)) (he : EV K te env (r x)) (hn : Nx (env.set n (.ownN na (ys.map r)))) :
    SW K E (tDrop (tBM K "list" rInsP (tVar n) (tCons ta (tCons te tNil)))) env Nx Rt Ex := fun σ F H A O m w Dn q1 q2 q4 => by
  obtain ⟨p, vs, A1, A2, e, h1, h2, h4, _⟩ := m.getO h
  unfold insR at hx
  split at hx
  case isFalse => cases hx
  rename_i hc
  have ey := R.ok_inj hx
  subst ey
  have hp := (w.has (p, .lst vs) (by rw [e]; simp)).2
  refine ⟨_, h1, .inl ⟨rfl, vs, .of hp⟩, ev_two hi he m w fun u v F1 H1 s1 w1 d0 d1 => ?_⟩
  have hp1 := (w1.has (p, .lst vs) (by rw [e]; simp)).2
  refine ⟨p, vs, i, v, rfl, by rw [d0.int], hp1, ?_, hc.2.1, hc.2.2, ?_⟩
  · have := h2.length
    rw [List.length_map] at this
    rw [this, sizeLine_eq]; exact hc.1
  · subst e
    refine q1 _ σ F1 _ (A1 ++ (p, .lst (vs.take i.toNat ++ [v] ++ vs.drop i.toNat)) :: A2) hn s1 ?_ ?_
    · rw [List.map_append, List.map_append, List.map_take, List.map_drop]
      exact h4 F1 _ _ s1 ((((h2.up s1).take _).append (.cons d1 .nil)).append ((h2.up s1).drop _))
    · rw [List.append_assoc] at w1
      rw [List.append_assoc A1]
      exact (w1.mid.put (o' := .lst (vs.take i.toNat ++ [v] ++ vs.drop i.toNat))).unmid
/-! ### slices, walks of own lists -/
theorem en_cutO {α : Type} {r : α → D} {xs : List α} {n : Nat} {tl th : TO} {lo hi : Option Int} (h : env[n]? = some (.ownN na (xs.map r))) (hl : EO K tl env lo) (hh : EO K th env hi) : EN K (tSl (rSlL K) (tVar n) tl th) env ((cutL xs lo hi).map r) := fun σ F H A O m w Q q => by
  obtain ⟨p, vs, A1, A2, e, h1, h2, h4, _⟩ := m.getO h
  refine ⟨_, h1, hl σ F H A O m w _ fun F2 H2 s2 w2 => hh σ F2 H2 A O (m.up s2) w2 _ fun F3 H3 s3 w3 => ?_⟩
  have hp := (w3.has (p, .lst vs) (by rw [e]; simp)).2
  exact ⟨p, vs, rfl, .of hp, fun p n => q p _ F3 _ (s2.trans s3) (w3.new n) ((h2.up (s2.trans s3)).cut lo hi)⟩
end
/-! ### options, tuples of a list -/
def dO {α : Type} (r : α → D) : Option α → D
  | none => .v .non
  | some x => r x
section
variable {K : PySem.W.Frag} {na : Option Addr} {env : List Slot} {t ta tb : TE} {α : Type} {r : α → D}
theorem ev_some {x : α} (h : EV K t env (r x)) : EV K t env (dO r (some x)) := h
theorem getR_some {α : Type} {o : Option α} {x : α} (h : getR o = .ok x) : o = some x := by
  cases o with
  | none => cases h
  | some y => rw [R.ok_inj (show R.ok y = R.ok x from h)]
theorem ev_get {o : Option α} {x : α} (h : getR o = .ok x) (e : EV K t env (dO r o)) : EV K t env (r x) := by rw [getR_some h] at e; exact e
def isRef : D → Bool
  | .v _ => false
  | _ => true
theorem dat_ref {F : Hp} {v : V} {d : D} (h : isRef d = true) (q : Dat K F v d) : decide (v = .non) = false := by
  cases q with
  | v => cases h
  | tup a b => rfl
  | lst a b => rfl
  | ins a b => rfl
  | hp a => rfl
  | ob a => rfl
theorem ev_isN {o : Option α} (hr : ∀ x, isRef (r x) = true) (h : EV K ta env (dO r o)) : EV K (tOp rIsN ta (tC .non)) env (dB o.isNone) := fun σ F H A O m w Q q =>
  ev_two h (ev_c .non) m w fun x y F' H' s w' d1 d2 => by
    refine And.intro d2.scl (q _ F' H' s w' ?_)
    cases o with
    | none => rw [d1.scl]; exact .v _
    | some z => rw [dat_ref (hr z) d1]; exact .v _
theorem ev_notN {o : Option α} (hr : ∀ x, isRef (r x) = true) (h : EV K ta env (dO r o)) : EV K (tOp rNotN ta (tC .non)) env (dB (!o.isNone)) := fun σ F H A O m w Q q =>
  ev_two h (ev_c .non) m w fun x y F' H' s w' d1 d2 => by
    refine And.intro d2.scl (q _ F' H' s w' ?_)
    cases o with
    | none => rw [d1.scl]; exact .v _
    | some z => rw [dat_ref (hr z) d1]; exact .v _
theorem ev_tup2 {xs : List α} {x : α × α} (h : tup2R xs = .ok x) (e : EV K t env (.tup (xs.map r))) : EV K t env (d2 r r x) := by
  match xs, h with
  | [a, b], h => rw [← R.ok_inj (show R.ok (a, b) = R.ok x from h)]; exact e
theorem ev_tup3 {xs : List α} {x : α × α × α} (h : tup3R xs = .ok x) (e : EV K t env (.tup (xs.map r))) : EV K t env (d3 r r r x) := by
  match xs, h with
  | [a, b, c], h => rw [← R.ok_inj (show R.ok (a, b, c) = R.ok x from h)]; exact e
end
/-! ### constants of the top -/
section
variable {K : PySem.W.Frag} {na : Option Addr}
theorem relD_ok {u : Value} {x : V} (h : relD u x = true) : RelV x u := by
  cases u <;> cases x <;> simp [relD] at h <;> first | (subst h; exact ⟨_, rfl⟩) | (subst h; rfl) | rfl
mutual
theorem con_dat : ∀ (n : Nat) (d : D) (u : Value), conB K n u d = true → ∃ v, RelV v u ∧ ∀ F, Dat K F v d
  | _, .v x, u, h => ⟨x, relD_ok (by unfold conB at h; exact h), fun F => .v x⟩
  | 0, .tup ds, u, h => by unfold conB at h; cases h
  | n + 1, .tup ds, u, h => by
    unfold conB at h
    split at h
    case h_1 e => cases e
    case h_3 => cases h
    case h_2 n1 a ds1 e1 e2 e3 =>
      cases e2
      cases e3
      split at h
      · rename_i its m _ hk
        obtain ⟨h1, h2⟩ := Bool.and_eq_true_iff.mp h
        obtain ⟨vs, r, q⟩ := con_dats n ds its.toList h2
        exact ⟨.ref _, rfl, fun F => .tup (.inr ⟨_, its, m, hk, rfl, rfl, of_decide_eq_true h1, r⟩) (q F)⟩
      · cases h
  | _, .lst ds, u, h => by
    unfold conB at h
    cases h
  | _, .ins _ _, u, h => by
    unfold conB at h
    cases h
  | _, .hp _, u, h => by
    unfold conB at h
    cases h
  | _, .ob _, u, h => by
    unfold conB at h
    cases h
theorem con_dats : ∀ (n : Nat) (ds : List D) (us : List Value), conAll K n us ds = true → ∃ vs, Vals vs us ∧ ∀ F, Dats K F vs ds
  | _, [], [], _ => ⟨[], .nil, fun _ => .nil⟩
  | _, [], _ :: _, h => by unfold conAll at h; cases h
  | _, _ :: _, [], h => by unfold conAll at h; cases h
  | n, d :: ds, u :: us, h => by
    unfold conAll at h
    obtain ⟨h1, h2⟩ := Bool.and_eq_true_iff.mp h
    obtain ⟨v, r, q⟩ := con_dat n d u h1
    obtain ⟨vs, rs, qs⟩ := con_dats n ds us h2
    exact ⟨v :: vs, .cons r rs, fun F => .cons (q F) (qs F)⟩
end
/-- a module's constant that is an object -/
theorem con_ok {h : Heap} {mg : Str → Option Value} (X : K.In h) (G : h.Ns mainGlobals mg) {x : Str} {d : D} {n : Nat} (c : (He.Fa.glo x).ok K = true) (e : conB K n (.ref (He.ga K x)) d = true) : mg x = some (.ref (He.ga K x)) ∧ ∀ F, Dat K F (.ref (He.ga K x)) d := by
  refine ⟨He.glo_ok X G c, ?_⟩
  obtain ⟨v, r, q⟩ := con_dat n d _ e
  have : v = .ref (He.ga K x) := by
    cases v with
    | ref a => cases r; rfl
    | int _ => obtain ⟨t, z⟩ := r; cases z
    | str _ => obtain ⟨t, z⟩ := r; cases z
    | byt _ => obtain ⟨t, z⟩ := r; cases z
    | flt _ => obtain ⟨t, z⟩ := r; cases z
    | non => cases r
    | bl _ => cases r
    | ty _ => cases r
  rw [← this]; exact q
end
end Pg

set_option Elab.async false
set_option linter.all false
set_option maxRecDepth 100000
set_option maxHeartbeats 1000000
/-! Pg: list(reversed(a list)) -/
namespace PySem
open PySem PySem.Spec PyProof.Rows RT
section
variable {prog : Program} {w : World} {A : Around} {E : Value → Shared → Prop} {s : Shared}
/-- a walker back through a list is asked nothing of its length -/
theorem lri_mute {it : Addr} {Q : Bool → Shared → Prop} (ty : s.TypeIs (.ref it) "list_reverseiterator") (q : Q false s) :
    wpAny (model prog w) A (Builtin.List.listLengthHint (.ref it)) Q E s := by
  unfold Builtin.List.listLengthHint
  wp_walk using wpAny_specialOf ty nolen_lri, wpAny_specialOf ty hint_lri
  refine wpAny_of_eq (a := true) (by rw [isSubtype_type]; kernel_rfl) ?_
  wp_walk
  exact q
/-- list(reversed(l)): the items of l, last one first, in a list of their own -/
theorem pg_list_rev {it l : Addr} {items : Array Value} {Q : Value → Shared → Prop} (hh : A.handled = none) (hit : s.heap.IsRevIter it l ((items.size : Int) - 1)) (hl : s.heap.IsList l items) (hne : l ≠ it) (hn : items.size ≤ sizeLine)
    (hQ : ∀ h' tk acc' c', (∀ b o, b ≠ it → s.heap.get? b = some o → h'.get? b = some o) →
      h'.get? s.heap.objs.size = some { cls := .type "list", dict := none, data := .seq acc' c', slots := #[] } → ItemsOf (fun i v => items[items.size - 1 - i]? = some v) acc' items.size → Q (.ref s.heap.objs.size) { s with heap := h', toks := tk }) :
    wpAny (model prog w) A (call (.type "list") [.ref it]) Q E s := by
  have old : ∀ {b o}, s.heap.get? b = some o → s.heap.objs.size ≠ b := fun e z => Nat.lt_irrefl _ (z ▸ Heap.lt_size e)
  have nI : s.heap.objs.size ≠ it := let ⟨_, e, _⟩ := hit; old e
  have nL : s.heap.objs.size ≠ l := let ⟨_, e, _⟩ := hl; old e
  generalize hp : s.heap.objs.size = p at old nI nL hQ
  let h1 : Heap := s.heap.push { cls := .type "list", data := .seq #[] }
  let h2 : Heap := h1.update p (Obj.mapSeq fun _ => #[])
  have e1 : h1.get? p = some { cls := .type "list", data := .seq #[] } := by rw [← hp]; exact Heap.get?_push_size _ rfl
  have e2 : h2.get? p = some { cls := .type "list", data := .seq #[] } := Heap.get?_update_self _ e1 rfl
  have k2 : ∀ {b o}, s.heap.get? b = some o → h2.get? b = some o := fun e => by
    rw [Heap.get?_update_other _ _ (old e)]
    exact Heap.get?_push_of_some _ e
  have it2 : h2.IsRevIter it l ((items.size : Int) - 1) := hit.at fun _ => k2
  have l2 : h2.IsList l items := let ⟨_, e, r⟩ := hl; ⟨_, k2 e, r⟩
  have out : p ∉ [it, l] := by simp [nI, nL]
  refine callType_codes (Q₁ := fun x s' => x = .ref p ∧ s' = { s with heap := h1 }) F.called_list (F.typeCall_list_1 _) F.entry_list_init ?new ?init
  case new => rw [← hp]; exact code_list_new _ ⟨rfl, rfl⟩
  rintro _ _ ⟨rfl, rfl⟩
  refine ⟨⟨_, e1, rfl⟩, F.args_list_init_2 _ _, ?_⟩
  have ty : Shared.TypeIs { s with heap := h2 } (.ref it) "list_reverseiterator" := Heap.IsRevIter.typeIs (s := { s with heap := h2 }) it2
  unfold Builtin.«list.__init__» Builtin.List.listItems Builtin.List.listUpdate
  wp_walk using wpAny_seqItems e1 rfl, wpAny_updateSeq e1 rfl, lri_mute ty, wpAny_pyIter_revIter it2, wpAny_typeOf ty
  refine wpAny_ite_false (by simp [Builtin.List.listSameRef, nI]) ?_
  wp_walk using wpAny_pyIter_revIter it2, lri_mute ty
  have W := (Walks.listRev (prog := prog) (w := w) (A := A.in1.in1) hh it l hne items).toS
  refine ⟨plainId_quiet F.plain_extend_loop _, codeAny_extend_loopS W hn p out .none items.size 0 _ #[] _ rfl (Nat.zero_le _) ⟨Nat.zero_le _, ?start, l2⟩ e2 (ItemsOf.nil _) fun s3 got c m at3 all => ⟨rfl, ?_⟩⟩
  case start => simpa using it2
  rw [Moved.eq_with m]
  refine hQ _ _ got c (fun b o nb e => m.heap b o ?_ (k2 e)) at3 all
  simp [nb, Ne.symm (old e)]
end
end PySem
namespace Pg
open PySem PySem.Spec PyProof.Rows L2
def tListRev (K : PySem.W.Frag) (te : TE) : TE := fun σ H Q => te σ H fun v H1 => ∃ (a : Addr) (xs : List V), v = .ref a ∧ SqL K H1 a xs ∧ ∀ q, H1 q = none → Q (.ref q) (upd H1 q (.lst xs.reverse))
section
variable {X : Cx}
/-- reversed of a list, and the list of that -/
theorem rev_list (hc : X.calm = true) {pins : List (Addr × Obj)} {σ : L2.St} {H : Hp} {s : Shared} {a : Addr} {xs : List V} {Q : VK} (I : Inv X pins σ H s) (hq : SqL X.K H a xs) (q : ∀ c, H c = none → Q (.ref c) (upd H c (.lst xs.reverse))) :
    wpAny (model X.prog X.w) X.A (call (.type "reversed") [.ref a]) (fun it s2 => wpAny (model X.prog X.w) X.A (call (.type "list") [it]) (L2.EP X pins σ Q) X.xe s2) X.xe s := by
  obtain ⟨its, rv, at0, hz⟩ := I.list hq
  have small : its.toArray.size ≤ sizeLine := by simpa [rv.length] using hz
  have neq : a ≠ s.heap.objs.size := let ⟨_, e, _⟩ := at0.isList; Nat.ne_of_lt (Heap.lt_size e)
  apply call_reversed_list at0.isList
  generalize ho : revObj a ((its.toArray.size : Int) - 1) = ro
  have old : ∀ b o, s.heap.get? b = some o → (s.heap.push ro).get? b = some o := fun _ o => Heap.get?_push_of_some ro
  have J := I.kept (t' := s.toks) old
  have fp := I.fpOk (H' := H) (b := s.heap.objs.size) (Nat.le_refl _) (I.hok.fresh (Nat.le_refl _))
  apply PySem.pg_list_rev (s := { s with heap := s.heap.push ro }) (l := a) (items := its.toArray) (I.ok.hd hc) ⟨ro, Heap.get?_push_size _ (by subst ho; rfl), by subst ho; exact ⟨rfl, rfl⟩⟩ (at0.isList.push _) neq small
  intro h3 tk got c keep3 new3 all
  rw [Heap.size_push] at new3 ⊢
  have fresh : H (s.heap.objs.size + 1) = none := I.hok.fresh (Nat.le_succ _)
  have J3 : Inv X pins σ (upd H (s.heap.objs.size + 1) (.lst xs.reverse)) { s with heap := h3, toks := tk } := by
    refine J.turnedNew (t' := tk) (ch := [s.heap.objs.size]) (fun b o nb => keep3 b o ?_) (fun b hb => ?_) ?_ ?_
    · simpa using nb
    · cases List.mem_singleton.mp hb
      exact fp
    · exact Nat.le_of_eq (Heap.size_push ..)
    · exact ⟨by simpa using hz, got.toList, c, RT.vals_rev rv all, by simpa using new3⟩
  exact ⟨.ref _, _, J3, rfl, q _ fresh⟩
theorem pe_listRev {e : Expr} {te : TE} {p p2 pos pos2 : Pos} (hc : X.calm = true) (hg : Gl X "list") (hm : X.mg "list" = none) (hg2 : Gl X "reversed") (hm2 : X.mg "reversed" = none) (he : PE X e te)
    (hs : starEach [e] X.env = (false, eval e X.env) :: starEach [] X.env := by rfl) (hs2 : starEach [.Call (.Name "reversed" p2) [e] [] pos2] X.env = (false, eval (.Call (.Name "reversed" p2) [e] [] pos2) X.env) :: starEach [] X.env := by rfl) :
    PE X (.Call (.Name "list" p) [.Call (.Name "reversed" p2) [e] [] pos2] [] pos) (tListRev X.K te) where
  run pins s σ H Q I h := by
    refine Call_ (ld_blt I hg hm PyProof.Rows.boot_list (PyProof.Rows.callWith_type1 (args_cons ?arg hs2) hs2 rfl))
    refine Call_ (ld_blt I hg2 hm2 PyProof.Rows.boot_reversed (PyProof.Rows.callWith_type1 (args_cons ?arg2 hs) hs rfl))
    refine thn (he.run pins s σ H _ I h) ?_
    rintro u s1 ⟨v, H1, I1, r, a, xs, rfl, sq, q⟩
    cases r
    exact args_nil (wpAny_mono (rev_list hc I1 sq q) (fun it s2 z => args_nil (by exact z)) fun _ _ z => z)
end
section
variable {K : PySem.W.Frag} {E : WX} {env env1 env' : List Slot} {t ta tb te : TE} {d : D} {ds : List D} {g : TG}
theorem en_listRev {α : Type} {r : α → D} {xs : List α} (h : EV K te env (.lst (xs.map r))) : EN K (tListRev K te) env (xs.reverse.map r) := fun σ F H A O m w Q q =>
  h σ F H A O m w _ fun v F1 H1 s1 w1 d1 => by
    rw [List.map_reverse] at q
    cases d1 with
    | lst a b => exact ⟨_, _, rfl, w1.same.seq a, fun l n => q l _ F1 _ s1 (w1.new n) b.reverse⟩
/-! ### lengths of tuples that are told -/
theorem ev_lenW {n : Nat} (hn : ds.length = n) (ha : EV K ta env (.tup ds)) : EV K (tCB (rLenP K) (tCons ta tNil)) env (dI (n : Nat)) := by rw [← hn]; exact ev_lenT ha
/-! ### targets of any number -/
variable (K) in
def GTs (t : TGs) (js : List Nat) (ds : List D) (env env' : List Slot) : Prop :=
  (∀ i, ownAt env' i = true → ownAt env i = true) ∧ ∀ (σ : L2.St) (vs : List V) (F H : Hp) (A O : List (Addr × HO)), Match K F σ env A → Own F H (A ++ O) → Dats K F vs ds → ∀ Q : L2.St → Hp → Prop,
    (∀ σ' A', A'.Sublist A → ((∀ j ∈ js, ownAt env j = false) → A' = A) → Match K F σ' env' A' → (∀ vs : List Nat, (∀ j ∈ js, j ∈ vs) → wipe σ' vs = wipe σ vs) → Q σ' H) → t vs σ H Q
theorem gts_nil : GTs K gNil [] [] env env := ⟨fun _ h => h, fun σ vs F H A O m w d Q q => by
  cases d
  exact ⟨rfl, q σ A (List.Sublist.refl _) (fun _ => rfl) m fun _ _ => rfl⟩⟩
theorem gts_cons {g : TG} {t : TGs} {j1 j2 : List Nat} (h1 : GT K g j1 d env env1) (h2 : GTs K t j2 ds env1 env') : GTs K (gCons g t) (j1 ++ j2) (d :: ds) env env' := ⟨fun i h => h1.1 i (h2.1 i h), fun σ vs F H A O m w hd Q q => by
  cases hd with
  | cons b1 b =>
    refine ⟨_, _, rfl, h1.2 σ _ F H A O m w b1 _ fun σ1 A1 sb1 y1 m1 z1 => ?_⟩
    refine h2.2 σ1 _ F H A1 O m1 (w.subA sb1) b _ fun σ2 A2 sb2 y2 m2 z2 => ?_
    refine q σ2 A2 (sb2.trans sb1) (fun z => ?_) m2 fun vs hv => (z2 vs fun j hj => hv j (List.mem_append_right _ hj)).trans (z1 vs fun j hj => hv j (List.mem_append_left _ hj))
    have e1 := y1 fun j hj => z j (List.mem_append_left _ hj)
    have e2 := y2 fun j hj => by
      cases ho : ownAt env1 j with
      | false => rfl
      | true =>
        have := h1.1 j ho
        rw [z j (List.mem_append_right _ hj)] at this
        cases this
    rw [e2, e1]⟩
theorem gt_tupN {t : TGs} {js : List Nat} {n : Nat} (hn : ds.length = n) (h : GTs K t js ds env env') : GT K (gTup K n t) js (.tup ds) env env' := ⟨h.1, fun σ v F H A O m w hd Q q => by
  cases hd with
  | tup a b => exact ⟨_, _, rfl, w.same.sqt a, b.length.trans hn, h.2 σ _ F H A O m w b Q q⟩⟩
end
/-! ### options of whole numbers -/
section
variable {K : PySem.W.Frag} {env : List Slot} {t ta tb : TE} {α : Type} {r : α → D}
def isSome : D → Bool
  | .v .non => false
  | _ => true
theorem dat_some {F : Hp} {v : V} {d : D} (h : isSome d = true) (q : Dat K F v d) : decide (v = .non) = false := by
  cases q with
  | v => cases v <;> first | (cases h; done) | (exact decide_eq_false (by intro z; cases z))
  | tup a b => rfl
  | lst a b => rfl
  | ins a b => rfl
  | hp a => rfl
  | ob a => rfl
theorem ev_isO {o : Option α} (hr : ∀ x, isSome (r x) = true) (h : EV K ta env (dO r o)) : EV K (tOp rIsN ta (tC .non)) env (dB o.isNone) := fun σ F H A O m w Q q =>
  ev_two h (ev_c .non) m w fun x y F' H' s w' d1 d2 => by
    refine And.intro d2.scl (q _ F' H' s w' ?_)
    cases o with
    | none => rw [d1.scl]; exact .v _
    | some z => rw [dat_some (hr z) d1]; exact .v _
theorem ev_notO {o : Option α} (hr : ∀ x, isSome (r x) = true) (h : EV K ta env (dO r o)) : EV K (tOp rNotN ta (tC .non)) env (dB (!o.isNone)) := fun σ F H A O m w Q q =>
  ev_two h (ev_c .non) m w fun x y F' H' s w' d1 d2 => by
    refine And.intro d2.scl (q _ F' H' s w' ?_)
    cases o with
    | none => rw [d1.scl]; exact .v _
    | some z => rw [dat_some (hr z) d1]; exact .v _
end
end Pg

set_option Elab.async false
set_option linter.all false
set_option maxRecDepth 100000
namespace Pg
open PySem PySem.Spec PyProof.Rows L2
/-! ### own lists of own lists -/
abbrev oL {α : Type} (r : α → D) (xs : List α) : OD := .own (xs.map r)
theorem map_toD {α : Type} {r : α → D} (xs : List (List α)) : (xs.map (oL r)).map OD.toD = xs.map (dL r) := by rw [List.map_map]; rfl
section
variable (K : PySem.W.Frag)
/-- a new list of new lists (and data), owned -/
def EN2 (t : TE) (env : List Slot) (os : List OD) : Prop := ∀ (σ : L2.St) (F H : Hp) (A O : List (Addr × HO)), Match K F σ env A → Own F H (A ++ O) → ∀ Q : VK,
  (∀ p vs F' H' O1, Same F F' → Own F' H' ((p, .lst vs) :: (O1 ++ (A ++ O))) → ODs K F' vs os O1 → Q (.ref p) H') → t σ H Q
end
section
variable {K : PySem.W.Frag} {na : Option Addr} {E : WX} {env env' : List Slot} {t u : TS} {te ta tb ti : TE} {tt : TT} {i j : Int} {d e : D} {ds es : List D} {os os' : List OD} {Nx : List Slot → Prop} {Rt : List Slot → T → Prop} {Ex : List Slot → Value → Prop}
/-- the inner lists frozen -/
theorem ODs.frz : ∀ {vs : List V} {os : List OD} {O1 R : List (Addr × HO)} {F H : Hp}, ODs K F vs os O1 → Own F H (O1 ++ R) → ∃ F', Same F F' ∧ Own F' H R ∧ Dats K F' vs (os.map OD.toD)
  | _, _, _, _, F, H, .nil, w => ⟨F, Same.refl F, w, .nil⟩
  | _, _, _, _, F, H, .dat d m, w => by
    obtain ⟨F', s, w', q⟩ := ODs.frz m w
    exact ⟨F', s, w', .cons (d.up s) q⟩
  | _, _, _, _, F, H, .own d m, w => by
    obtain ⟨w1, s1⟩ := Own.frz (show Own F H (_ :: (_ ++ _)) from w)
    obtain ⟨F', s, w', q⟩ := ODs.frz (m.up s1) w1
    exact ⟨F', s1.trans s, w', .cons (.lst (.of (s _ _ upd_same)) (d.up (s1.trans s))) q⟩
theorem EN2.en (h : EN2 K te env os) : EN K te env (os.map OD.toD) := fun σ F H A O m w Q q => h σ F H A O m w Q fun p vs F' H' O1 s w' dd => by
  have w2 : Own F' H' (O1 ++ ((p, .lst vs) :: (A ++ O))) := w'.perm List.perm_middle.symm
  obtain ⟨F2, s2, w3, q3⟩ := dd.frz w2
  exact q p vs F2 H' (s.trans s2) w3 q3
theorem EN2.enL {α : Type} {r : α → D} {xs : List (List α)} (h : EN2 K te env (xs.map (oL r))) : EN K te env (xs.map (dL r)) := by
  have := h.en
  rwa [map_toD] at this
theorem en2_cast {α : Type} {r : α → D} {a b : List (List α)} (h : R.ok a = R.ok b) (x : EN2 K te env (a.map (oL r))) : EN2 K te env (b.map (oL r)) := by rw [← R.ok_inj h]; exact x
/-- name = a new list of new lists -/
theorem sw_own2 {n : Nat} (h : EN2 K te env os) (hl : n < env.length) (hn : Nx (env.set n (.own2 os))) : SW K E (tAsg te (gName n)) env Nx Rt Ex := fun σ F H A O m w Dn q1 q2 q4 =>
  h σ F H A O m w _ fun p vs F1 H1 O1 s1 w1 d1 => by
    obtain ⟨A1, B, A2, e, s, m'⟩ := (m.up s1).put2 n d1 hl
    subst e
    refine q1 _ _ F1 H1 _ hn s1 m' ?_
    have w2 : Own F1 H1 ((p, .lst vs) :: (O1 ++ ((A1 ++ B) ++ O))) := w1.sub (((List.Sublist.refl O1).append ((List.Sublist.refl A1).append s |>.append (List.Sublist.refl O))).cons₂ _)
    refine w2.perm ?_
    have e1 : A1 ++ (p, HO.lst vs) :: (O1 ++ B) ++ O = A1 ++ ((p, HO.lst vs) :: (O1 ++ (B ++ O))) := by simp
    rw [e1]
    refine List.Perm.trans ?_ List.perm_middle.symm
    refine List.Perm.cons _ ?_
    rw [List.append_assoc A1, ← List.append_assoc O1, ← List.append_assoc A1]
    exact List.Perm.append_right _ List.perm_append_comm
/-- an own list of own lists frozen -/
theorem frz2 {σ : L2.St} {F H : Hp} {A O : List (Addr × HO)} {n : Nat} (h : env[n]? = some (.own2N na os)) (m : Match K F σ env A) (w : Own F H (A ++ O)) :
    ∃ F1 A', Same F F1 ∧ Match K F1 σ (env.set n (.dat (.lst (os.map OD.toD)))) A' ∧ Own F1 H (A' ++ O) := by
  obtain ⟨p, vs, O1, A1, A2, e, h1, h2, _, h5⟩ := m.getO2 h
  subst e
  have w1 : Own F H (O1 ++ ((p, .lst vs) :: ((A1 ++ A2) ++ O))) := by
    refine w.perm ?_
    have e1 : A1 ++ (p, HO.lst vs) :: (O1 ++ A2) ++ O = A1 ++ ((p, HO.lst vs) :: O1 ++ (A2 ++ O)) := by simp
    have e2 : O1 ++ ((p, HO.lst vs) :: ((A1 ++ A2) ++ O)) = O1 ++ ((p, HO.lst vs) :: (A1 ++ (A2 ++ O))) := by simp
    rw [e1, e2]
    refine List.Perm.trans ?_ List.perm_middle.symm
    rw [List.cons_append]
    refine List.Perm.trans List.perm_middle (List.Perm.cons _ ?_)
    have e3 : A1 ++ (O1 ++ (A2 ++ O)) = (A1 ++ O1) ++ (A2 ++ O) := by simp
    have e4 : O1 ++ (A1 ++ (A2 ++ O)) = (O1 ++ A1) ++ (A2 ++ O) := by simp
    rw [e3, e4]
    exact List.Perm.append_right _ List.perm_append_comm
  obtain ⟨F1, s1, w2, d1⟩ := h2.frz w1
  obtain ⟨w3, s2⟩ := w2.frz
  exact ⟨_, A1 ++ A2, s1.trans s2, h5 _ _ (s1.trans s2) (.lst (.of upd_same) (d1.up s2)), w3⟩
theorem sw_frz2 {n : Nat} (h : env[n]? = some (.own2N na os)) (hn : SW K E t (env.set n (.dat (.lst (os.map OD.toD)))) Nx Rt Ex) : SW K E t env Nx Rt Ex := fun σ F H A O m w Dn q1 q2 q4 => by
  obtain ⟨F1, A', s12, m', w'⟩ := frz2 h m w
  exact hn σ F1 H A' O m' w' Dn (fun a b c d f z s => q1 a b c d f z (s12.trans s)) (fun e x v a b c d f z s => q2 e x v a b c d f z (s12.trans s)) fun e c a b d f z s => q4 e c a b d f z (s12.trans s)
theorem sw_frz2L {α : Type} {r : α → D} {xs : List (List α)} {n : Nat} (h : env[n]? = some (.own2N na (xs.map (oL r)))) (hn : SW K E t (env.set n (.dat (dL (dL r) xs))) Nx Rt Ex) : SW K E t env Nx Rt Ex :=
  sw_frz2 h (by rw [map_toD]; exact hn)
/-! ### a def that hands back such a list -/
theorem sw_ret2 (h : EN2 K te env os) (hr : Rt env (.lst none (os.map OD.toT))) : SW K E (tRet te) env Nx Rt Ex := fun σ F H A O m w Dn q1 q2 q4 =>
  h σ F H A O m w _ fun p vs F1 H1 O1 s1 w1 d1 => q2 env _ _ σ F1 H1 A ((p, .lst vs) :: O1) hr s1 (m.up s1) w1 (.lst (fun _ z => nomatch z) d1.tree)
def spNN (K : PySem.W.Frag) {ι β : Type} (args : ι → List D) (f : ι → R (List (List β))) (rr : β → D) : Sp := fun vs H Q _ =>
  ∃ (x : ι) (F : Hp) (O : List (Addr × HO)) (b : List (List β)), Own F H O ∧ Dats K F vs (args x) ∧ f x = .ok b ∧ ∀ p us F' H' O1, Same F F' → Own F' H' ((p, .lst us) :: (O1 ++ O)) → ODs K F' us (b.map (oL rr)) O1 → Q (.ref p) H'
theorem spNN_run {ι β : Type} {args : ι → List D} {f : ι → R (List (List β))} {rr : β → D} {N : List Str} {vs : List V} {H : Hp} {Q : VK} {E : XK} (n k : Nat) (hN : N.length = n + k) (hn : ∀ x, (args x).length = n)
    (hb : ∀ x b, f x = .ok b → SW K W0 t ((args x).map Slot.dat ++ List.replicate k .un) (fun _ => False) (fun _ v => v = .lst none ((b.map (oL rr)).map OD.toT)) fun _ _ => False)
    (h : spNN K args f rr vs H Q E) : t { nx := fun _ H' => Q .non H', rt := Q } (L2.start N vs) H := by
  obtain ⟨x, F, O, b, w, da, hf, q⟩ := h
  have hl := sp_len hn da
  have m := match_start (N.length - vs.length) da
  rw [show N.length - vs.length = k by omega] at m
  unfold L2.start
  rw [show N.length - vs.length = k by omega]
  refine hb x b hf _ F H [] O m w _ ?_ ?_ ?_
  · exact fun e σ' F' H' A' z => z.elim
  · rintro e _ v σ' F' H' A' O1 rfl s m' w' d'
    cases d' with
    | lst n d' => exact q _ _ F' H' _ s (w'.sub (((List.Sublist.refl _).append (List.sublist_append_right A' O)).cons₂ _)) d'.ods
  · exact fun _ _ _ _ _ _ z => z.elim
theorem en_call2 {ι β : Type} {args : ι → List D} {f : ι → R (List (List β))} {rr : β → D} {ta : TA} {E' : XK} (x : ι) {b : List (List β)} (hf : f x = .ok b) (ha : EA K ta env (args x)) : EN2 K (tCall (spNN K args f rr) [] E' ta) env (b.map (oL rr)) := fun σ F H A O m w Q q =>
  ha σ F H A O m w _ fun vs F1 H1 s1 w1 d1 => ⟨x, F1, A ++ O, b, w1, by rw [List.append_nil]; exact d1, hf, fun p us F' H' O1 s w' d' => q p us F' H' O1 (s1.trans s) w' d'⟩
end
end Pg

set_option Elab.async false
set_option linter.all false
set_option maxRecDepth 100000
namespace Pg
open PySem PySem.Spec PyProof.Rows L2
section
variable {K : PySem.W.Frag} {na : Option Addr} {E : WX} {env env' : List Slot} {t u : TS} {te ta tb ti : TE} {tt : TT} {i j : Int} {d e : D} {ds es : List D} {os os' : List OD} {Nx : List Slot → Prop} {Rt : RV → Prop} {Ex : Value → Prop}
theorem mapR_step {α β : Type} {f : α → R β} : ∀ {xs : List α} {zs : List β}, R.mapR f xs = .ok zs → (xs = [] ∧ zs = []) ∨ ∃ x ys y ws, xs = x :: ys ∧ f x = .ok y ∧ R.mapR f ys = .ok ws ∧ zs = y :: ws
  | [], zs, h => .inl ⟨rfl, (R.ok_inj h).symm⟩
  | x :: ys, zs, h => by
    obtain ⟨y, h1, h2⟩ := R.bind_inv (show R.bind (f x) _ = _ from h)
    obtain ⟨ws, h3, h4⟩ := R.bind_inv h2
    exact .inr ⟨x, ys, y, ws, rfl, h1, h3, (R.ok_inj h4).symm⟩
theorem oL_snoc {β : Type} {rb : β → D} (acc : List (List β)) (y : List β) : (acc ++ [y]).map (oL rb) = acc.map (oL rb) ++ [.own (y.map rb)] := by rw [List.map_append]; rfl
/-- [e for x in xs], e a new list -/
theorem en2_comp {wi : TI} {g : TG} {te : TE} {vs js : List Nat} {α β : Type} {xs : List α} {ra : α → D} {rb : β → D} (f : α → R (List β)) {ys : List (List β)}
    (hi : IV K wi env (xs.map ra)) (hf : R.compR f xs = .ok ys) (hw : noOwn env vs = true) (hj : ∀ j ∈ js, j ∈ vs)
    (hb : ∀ x, x ∈ xs → ∃ env1, GT K g js (ra x) (wipeS env vs) env1 ∧ ∀ y, f x = .ok y → EN K te env1 (y.map rb)) : EN2 K (tLc wi g tYes te vs) env (ys.map (oL rb)) := fun σ F H A O m w Q q => by
  obtain ⟨hl, hf⟩ := compR_some hf
  refine hi σ F H A O m w _ fun J F1 H1 s1 w1 wk D hD => ?_
  refine ⟨fun i k H2 => ∃ (acc : List (List β)) (us : List V) (F2 : Hp) (OO : List (Addr × HO)), k + i = xs.length ∧ acc.length ≤ i ∧ Same F1 F2 ∧ Own F2 H2 ((D, .lst us) :: (OO ++ (A ++ O))) ∧ ODs K F2 us (acc.map (oL rb)) OO ∧ ∃ zs, R.mapR f (xs.drop i) = .ok zs ∧ ys = acc ++ zs,
    ⟨xs.length, [], [], F1, [], rfl, Nat.le_refl _, Same.refl _, w1.new hD, .nil, ys, hf, rfl⟩, ?_⟩
  rintro i k H2 ⟨acc, us, F2, OO, hk, hlen, ss, w2, dd, zs, h2, e2⟩
  rcases mapR_step h2 with ⟨e1, e3⟩ | ⟨x, rest, y1, ws, e1, h5, h6, h7⟩
  · have hl' : xs.length ≤ i := by
      have := congrArg List.length e1
      rw [List.length_drop, List.length_nil] at this
      omega
    refine .inl ⟨wk.2 i F2 H2 _ ss w2 (by rw [List.length_map]; exact hl'), q D us F2 H2 OO (s1.trans ss) w2 ?_⟩
    rw [e2, e3, List.append_nil]; exact dd
  · have hx : xs[i]? = some x := by
      have := congrArg (fun l => l[0]?) e1
      simpa using this
    have hlt : i < xs.length := by
      rcases Nat.lt_or_ge i xs.length with z | z
      · exact z
      · rw [List.getElem?_eq_none z] at hx; cases hx
    have hys : xs.drop (i + 1) = rest := by
      rw [← List.drop_drop, e1]; rfl
    obtain ⟨g1, g2⟩ := wk.1 i F2 H2 _ (ra x) ss w2 (by rw [List.getElem?_map, hx]; rfl)
    refine .inr ⟨g1, fun H3 => ∃ (acc : List (List β)) (us : List V) (F3 : Hp) (OO : List (Addr × HO)), acc.length ≤ i + 1 ∧ Same F1 F3 ∧ Own F3 H3 ((D, .lst us) :: (OO ++ (A ++ O))) ∧ ODs K F3 us (acc.map (oL rb)) OO ∧ ∃ zs, R.mapR f rest = .ok zs ∧ ys = acc ++ zs, ?_, fun y H3 hy => ?_⟩
    · rintro H3 ⟨acc3, us3, F3, OO3, l3, ss3, w3, d3, zs3, h3, e3⟩
      exact ⟨k - 1, by omega, acc3, us3, F3, OO3, by omega, by omega, ss3, w3, d3, zs3, by rw [hys]; exact h3, e3⟩
    · obtain ⟨F3, ss3, w3, d3⟩ := g2 y H3 hy
      obtain ⟨env1, hg, he⟩ := hb x (List.mem_of_getElem? hx)
      have mw := match_wipe (m.up (s1.trans (ss.trans ss3))) vs hw
      have w3' : Own F3 H3 (A ++ ((D, .lst us) :: (OO ++ O))) := w3.perm (by
        refine List.Perm.trans ?_ List.perm_middle.symm
        refine List.Perm.cons _ ?_
        rw [← List.append_assoc, ← List.append_assoc]
        exact List.Perm.append_right _ List.perm_append_comm)
      refine hg.2 (wipe σ vs) y F3 H3 A ((D, .lst us) :: (OO ++ O)) mw w3' d3 _ fun σ4 A4 sb4 eA m4 z4 => ⟨?_, ?_⟩
      · rw [z4 vs hj, wipe_wipe σ vs vs fun _ z => z]
      · have eA := eA fun j h => ownAt_wipe j (noOwn_at hw j (hj j h)) vs
        subst eA
        show te σ4 H3 _
        refine he y1 h5 σ4 F3 H3 A4 ((D, .lst us) :: (OO ++ O)) m4 w3' _ fun p ps F6 H6 s6 w6 d6 => ?_
        have s36 := ss3.trans s6
        have w7 : Own F6 H6 ((D, .lst us) :: ((OO ++ [(p, .lst ps)]) ++ (A4 ++ O))) := w6.perm (by
          have a1 : ((p, HO.lst ps) :: (A4 ++ (D, HO.lst us) :: (OO ++ O))).Perm ((D, HO.lst us) :: ((p, HO.lst ps) :: (A4 ++ (OO ++ O)))) :=
            (List.Perm.cons _ List.perm_middle).trans (List.Perm.swap _ _ _)
          refine a1.trans (List.Perm.cons _ ?_)
          have e1 : (OO ++ [(p, HO.lst ps)]) ++ (A4 ++ O) = OO ++ ((p, HO.lst ps) :: (A4 ++ O)) := by simp
          rw [e1]
          refine List.Perm.trans (List.Perm.cons _ ?_) List.perm_middle.symm
          rw [← List.append_assoc, ← List.append_assoc]
          exact List.Perm.append_right _ List.perm_append_comm)
        refine ⟨us, (w7.has (D, .lst us) (by simp)).2, ?_, acc ++ [y1], us ++ [.ref p], F6, OO ++ [(p, .lst ps)], ?_, ss.trans s36, w7.put (o' := .lst (us ++ [.ref p])), ?_, ws, h6, ?_⟩
        · have := dd.length
          rw [List.length_map] at this
          rw [this, sizeLine_eq]; omega
        · rw [List.length_append, List.length_singleton]; omega
        · rw [oL_snoc]
          exact (dd.up s36).append (.own d6 .nil)
        · rw [e2, h7, List.append_assoc]; rfl
/-! ### own lists of own lists lent -/
def delL (F : Hp) : List (Addr × HO) → Hp
  | [] => F
  | q :: qs => del (delL F qs) q.1
theorem delL_ne {F : Hp} {b : Addr} : ∀ {qs : List (Addr × HO)}, (∀ q ∈ qs, q.1 ≠ b) → delL F qs b = F b
  | [], _ => rfl
  | q :: qs, h => by
    show del (delL F qs) q.1 b = F b
    rw [del_ne (fun z => h q List.mem_cons_self z.symm), delL_ne fun r hr => h r (List.mem_cons_of_mem _ hr)]
def AllL (O0 : List (Addr × HO)) : Prop := ∀ q ∈ O0, isTree q.2 = true
theorem dat_delL {F : Hp} {d : D} {v : V} (hl : noL d = true) (h : Dat K F v d) : ∀ {O0 : List (Addr × HO)}, (O0.map (·.1)).Nodup → AllL O0 → (∀ q ∈ O0, F q.1 = some q.2) → Dat K (delL F O0) v d
  | [], _, _, _ => h
  | q :: qs, nd, al, hF => by
    rw [List.map_cons, List.nodup_cons] at nd
    refine Dat.del (o0 := q.2) ?_ (al q List.mem_cons_self) d v hl (dat_delL hl h nd.2 (fun r hr => al r (List.mem_cons_of_mem _ hr)) fun r hr => hF r (List.mem_cons_of_mem _ hr))
    rw [delL_ne fun r hr z => nd.1 (List.mem_map.mpr ⟨r, hr, z⟩), hF q List.mem_cons_self]
theorem dats_delL {F : Hp} {ds : List D} {vs : List V} (hl : noLs ds = true) (h : Dats K F vs ds) : ∀ {O0 : List (Addr × HO)}, (O0.map (·.1)).Nodup → AllL O0 → (∀ q ∈ O0, F q.1 = some q.2) → Dats K (delL F O0) vs ds
  | [], _, _, _ => h
  | q :: qs, nd, al, hF => by
    rw [List.map_cons, List.nodup_cons] at nd
    refine Dats.del (o0 := q.2) ?_ (al q List.mem_cons_self) ds vs hl (dats_delL hl h nd.2 (fun r hr => al r (List.mem_cons_of_mem _ hr)) fun r hr => hF r (List.mem_cons_of_mem _ hr))
    rw [delL_ne fun r hr z => nd.1 (List.mem_map.mpr ⟨r, hr, z⟩), hF q List.mem_cons_self]
/-- frozen for a while, and taken back -/
theorem own_back {F F' H' : Hp} {O0 B R : List (Addr × HO)} (nd0 : (O0.map (·.1)).Nodup) (h0 : ∀ q ∈ O0, F q.1 = none) (hF : ∀ q ∈ O0, F' q.1 = some q.2) (s : ∀ b u, F b = some u → F' b = some u) (w : Own F' H' (B ++ R)) :
    Same F (delL F' O0) ∧ Own (delL F' O0) H' (B ++ (O0 ++ R)) := by
  have out : ∀ q ∈ B ++ R, ∀ r ∈ O0, r.1 ≠ q.1 := fun q hq r hr z => by
    have a := (w.has q hq).1
    have b := hF r hr
    rw [z, a] at b; cases b
  refine ⟨fun b u e => ?_, ?_⟩
  · rw [delL_ne fun q hq z => by rw [← z, h0 q hq] at e; cases e]
    exact s b u e
  · have key : Own (delL F' O0) H' (O0 ++ (B ++ R)) := by
      refine ⟨fun b u e => ?_, ?_, fun q hq => ?_⟩
      · have sub : ∀ (qs : List (Addr × HO)), delL F' qs b = some u → F' b = some u := by
          intro qs
          induction qs with
          | nil => exact id
          | cons q qs ih =>
            intro e
            have e : del (delL F' qs) q.1 b = some u := e
            unfold del at e
            split at e
            · cases e
            · exact ih e
        exact w.same b u (sub O0 e)
      · rw [List.map_append, List.nodup_append]
        refine ⟨nd0, w.nd, fun a ha b hb z => ?_⟩
        obtain ⟨r, hr, e1⟩ := List.mem_map.mp ha
        obtain ⟨q, hq, e2⟩ := List.mem_map.mp hb
        exact out q hq r hr (by rw [e1, e2, z])
      · rcases List.mem_append.mp hq with hq | hq
        · have none : ∀ {qs : List (Addr × HO)}, q ∈ qs → delL F' qs q.1 = none := by
            intro qs
            induction qs with
            | nil => intro z; cases z
            | cons r qs ih =>
              intro z
              show del (delL F' qs) r.1 q.1 = none
              unfold del
              by_cases e : q.1 = r.1
              · rw [if_pos e]
              · rw [if_neg e]
                rcases List.mem_cons.mp z with z | z
                · exact absurd (by rw [z]) e
                · exact ih z
          exact ⟨none hq, w.same _ _ (hF q hq)⟩
        · obtain ⟨a, b⟩ := w.has q hq
          exact ⟨by rw [delL_ne fun r hr => out q hq r hr]; exact a, b⟩
    refine key.perm ?_
    rw [← List.append_assoc, ← List.append_assoc]
    exact List.Perm.append_right _ List.perm_append_comm
theorem ODs.allL : ∀ {vs : List V} {os : List OD} {O1 : List (Addr × HO)} {F : Hp}, ODs K F vs os O1 → AllL O1
  | _, _, _, _, .nil => fun q hq => nomatch hq
  | _, _, _, _, .dat _ m => m.allL
  | _, _, _, _, .own (us := us) _ m => fun q hq => by
    rcases List.mem_cons.mp hq with rfl | hq
    · rfl
    · exact m.allL q hq
theorem ODs.frzF : ∀ {vs : List V} {os : List OD} {O1 R : List (Addr × HO)} {F H : Hp}, ODs K F vs os O1 → Own F H (O1 ++ R) → ∃ F', Same F F' ∧ Own F' H R ∧ Dats K F' vs (os.map OD.toD) ∧ ∀ q ∈ O1, F' q.1 = some q.2
  | _, _, _, _, F, H, .nil, w => ⟨F, Same.refl F, w, .nil, fun q hq => nomatch hq⟩
  | _, _, _, _, F, H, .dat d m, w => by
    obtain ⟨F', s, w', q, r⟩ := ODs.frzF m w
    exact ⟨F', s, w', .cons (d.up s) q, r⟩
  | _, _, _, _, F, H, .own d m, w => by
    obtain ⟨w1, s1⟩ := Own.frz (show Own F H (_ :: (_ ++ _)) from w)
    obtain ⟨F', s, w', q, r⟩ := ODs.frzF (m.up s1) w1
    refine ⟨F', s1.trans s, w', .cons (.lst (.of (s _ _ upd_same)) (d.up (s1.trans s))) q, fun z hz => ?_⟩
    rcases List.mem_cons.mp hz with rfl | hz
    · exact s _ _ upd_same
    · exact r z hz
theorem lend2 {σ : L2.St} {F H : Hp} {A O : List (Addr × HO)} {n : Nat} (h : env[n]? = some (.own2N na os)) (m : Match K F σ env A) (w : Own F H (A ++ O)) :
    ∃ (O0 A' : List (Addr × HO)) (F1 : Hp), Same F F1 ∧ Match K F1 σ (env.set n (.dat (.lst (os.map OD.toD)))) A' ∧ Own F1 H (A' ++ O) ∧ (O0.map (·.1)).Nodup ∧ AllL O0 ∧
      (∀ q ∈ O0, F1 q.1 = some q.2) ∧ ∀ F' H' B, Same F1 F' → Own F' H' (B ++ (A' ++ O)) → Same F (delL F' O0) ∧ Own (delL F' O0) H' (B ++ (A ++ O)) := by
  obtain ⟨p, vs, O1, A1, A2, e, h1, h2, _, h5⟩ := m.getO2 h
  subst e
  have pm : (A1 ++ (p, HO.lst vs) :: (O1 ++ A2) ++ O).Perm (O1 ++ ((p, .lst vs) :: ((A1 ++ A2) ++ O))) := by
    have e1 : A1 ++ (p, HO.lst vs) :: (O1 ++ A2) ++ O = A1 ++ ((p, HO.lst vs) :: O1 ++ (A2 ++ O)) := by simp
    have e2 : O1 ++ ((p, HO.lst vs) :: ((A1 ++ A2) ++ O)) = O1 ++ ((p, HO.lst vs) :: (A1 ++ (A2 ++ O))) := by simp
    rw [e1, e2]
    refine List.Perm.trans ?_ List.perm_middle.symm
    rw [List.cons_append]
    refine List.Perm.trans List.perm_middle (List.Perm.cons _ ?_)
    have e3 : A1 ++ (O1 ++ (A2 ++ O)) = (A1 ++ O1) ++ (A2 ++ O) := by simp
    have e4 : O1 ++ (A1 ++ (A2 ++ O)) = (O1 ++ A1) ++ (A2 ++ O) := by simp
    rw [e3, e4]
    exact List.Perm.append_right _ List.perm_append_comm
  have w1 := w.perm pm
  obtain ⟨F1, s1, w2, d1, f1⟩ := h2.frzF w1
  obtain ⟨w3, s2⟩ := w2.frz
  have nd := w1.nd
  have fr : ∀ q ∈ O1 ++ [(p, HO.lst vs)], F q.1 = none := fun q hq => (w1.has q (by
    rcases List.mem_append.mp hq with hq | hq
    · exact List.mem_append_left _ hq
    · exact List.mem_append_right _ (by simp at hq; rw [hq]; exact List.mem_cons_self))).1
  have nd0 : ((O1 ++ [(p, HO.lst vs)]).map (·.1)).Nodup := by
    refine nd.sublist (List.Sublist.map _ ?_)
    exact (List.Sublist.refl O1).append (List.Sublist.cons₂ _ (List.nil_sublist _))
  have hF : ∀ q ∈ O1 ++ [(p, HO.lst vs)], upd F1 p (.lst vs) q.1 = some q.2 := fun q hq => by
    rcases List.mem_append.mp hq with hq | hq
    · exact s2 _ _ (f1 q hq)
    · simp at hq; rw [hq]; exact upd_same
  refine ⟨O1 ++ [(p, .lst vs)], A1 ++ A2, _, s1.trans s2, h5 _ _ (s1.trans s2) (.lst (.of upd_same) (d1.up s2)), w3, nd0, ?_, hF, fun F' H' B s w' => ?_⟩
  · intro q hq
    rcases List.mem_append.mp hq with hq | hq
    · exact h2.allL q hq
    · simp at hq; rw [hq]; rfl
  · obtain ⟨b1, b2⟩ := own_back nd0 fr (fun q hq => s _ _ (hF q hq)) (fun b u z => s _ _ ((s1.trans s2) b u z)) w'
    refine ⟨b1, b2.perm (List.Perm.append_left B ?_)⟩
    refine List.Perm.trans ?_ pm.symm
    rw [List.append_assoc]; exact List.Perm.refl _
theorem ev_lend2 {n : Nat} (h : env[n]? = some (.own2N na os)) (hl : noL d = true) (x : EV K te (env.set n (.dat (.lst (os.map OD.toD)))) d) : EV K te env d := fun σ F H A O m w Q q => by
  obtain ⟨O0, A', F1, s1, m1, w1, nd, al, hF, back⟩ := lend2 h m w
  refine x σ F1 H A' O m1 w1 _ fun v F' H' s w' dd => ?_
  obtain ⟨b1, b2⟩ := back F' H' [] s w'
  exact q v _ H' b1 b2 (dat_delL hl dd nd al fun r hr => s _ _ (hF r hr))
theorem et_lend2 {n : Nat} {b : Bool} (h : env[n]? = some (.own2N na os)) (x : ET K tt (env.set n (.dat (.lst (os.map OD.toD)))) b) : ET K tt env b := fun σ F H A O m w Q q => by
  obtain ⟨O0, A', F1, s1, m1, w1, nd, al, hF, back⟩ := lend2 h m w
  refine x σ F1 H A' O m1 w1 _ fun F' H' s w' => ?_
  obtain ⟨b1, b2⟩ := back F' H' [] s w'
  exact q _ H' b1 b2
theorem en_lend2 {n : Nat} (h : env[n]? = some (.own2N na os)) (hl : noLs ds = true) (x : EN K te (env.set n (.dat (.lst (os.map OD.toD)))) ds) : EN K te env ds := fun σ F H A O m w Q q => by
  obtain ⟨O0, A', F1, s1, m1, w1, nd, al, hF, back⟩ := lend2 h m w
  refine x σ F1 H A' O m1 w1 _ fun r us F' H' s w' dd => ?_
  obtain ⟨b1, b2⟩ := back F' H' [(r, .lst us)] s w'
  exact q r us _ H' b1 b2 (dats_delL hl dd nd al fun r hr => s _ _ (hF r hr))
theorem ev_lend2L {α : Type} {r : α → D} {xs : List (List α)} {n : Nat} (h : env[n]? = some (.own2N na (xs.map (oL r)))) (hl : noL d = true) (x : EV K te (env.set n (.dat (dL (dL r) xs))) d) : EV K te env d := ev_lend2 h hl (by rw [map_toD]; exact x)
theorem et_lend2L {α : Type} {r : α → D} {xs : List (List α)} {n : Nat} {b : Bool} (h : env[n]? = some (.own2N na (xs.map (oL r)))) (x : ET K tt (env.set n (.dat (dL (dL r) xs))) b) : ET K tt env b := et_lend2 h (by rw [map_toD]; exact x)
theorem en_lend2L {α : Type} {r : α → D} {xs : List (List α)} {n : Nat} (h : env[n]? = some (.own2N na (xs.map (oL r)))) (hl : noLs ds = true) (x : EN K te (env.set n (.dat (dL (dL r) xs))) ds) : EN K te env ds := en_lend2 h hl (by rw [map_toD]; exact x)
end
end Pg

set_option Elab.async false
set_option linter.all false
set_option maxRecDepth 100000
namespace Pg
open PySem PySem.Spec PyProof.Rows L2
section
variable {K : PySem.W.Frag} {na : Option Addr} {E : WX} {env env' : List Slot} {t u : TS} {te ta tb ti : TE} {tt : TT} {i j : Int} {d e : D} {ds es : List D} {os os' : List OD} {Nx : List Slot → Prop} {Rt : List Slot → T → Prop} {Ex : List Slot → Value → Prop}
theorem en2_nil (h : EN K te env []) : EN2 K te env [] := fun σ F H A O m w Q q => h σ F H A O m w Q fun p vs F' H' s w' d => by
  cases d
  exact q p [] F' H' [] s w' .nil
/-- xs.extend(a new list) -/
theorem sw_ext {α : Type} {r : α → D} {xs zs ys : List α} {n : Nat} (hx : extR xs ys = .ok zs) (h : env[n]? = some (.ownN na (xs.map r))) (he : EN K te env (ys.map r)) (hn : Nx (env.set n (.ownN na (zs.map r)))) :
    SW K E (tDrop (tBM K "list" rExtend (tVar n) (tCons te tNil))) env Nx Rt Ex := fun σ F H A O m w Dn q1 q2 q4 => by
  obtain ⟨p, vs, A1, A2, e, h1, h2, h4, _⟩ := m.getO h
  unfold extR at hx
  split at hx
  case isFalse => cases hx
  rename_i hl
  have ey := R.ok_inj hx
  subst ey
  have hp := (w.has (p, .lst vs) (by rw [e]; simp)).2
  refine ⟨_, h1, .inl ⟨rfl, vs, .of hp⟩, he σ F H A O m w _ fun p1 us F1 H1 s1 w1 d1 => ?_⟩
  have hp1 := (w1.has (p, .lst vs) (by rw [e]; simp)).2
  have hq1 := (w1.has (p1, .lst us) (by simp)).2
  refine ⟨p, p1, vs, us, rfl, rfl, hp1, hq1, ?_, ?_⟩
  · have a1 := h2.length
    have a2 := d1.length
    rw [List.length_map] at a1 a2
    rw [a1, a2, sizeLine_eq]; exact hl
  · subst e
    have w2 : Own F1 H1 (A1 ++ (p, .lst vs) :: A2 ++ O) := w1.sub (List.sublist_cons_self _ _)
    refine q1 _ σ F1 _ (A1 ++ (p, .lst (vs ++ us)) :: A2) hn s1 ?_ ?_
    · rw [List.map_append]
      exact h4 F1 _ _ s1 ((h2.up s1).append d1)
    · rw [List.append_assoc] at w2 ⊢
      exact (w2.mid.put (o' := .lst (vs ++ us))).unmid
/-- rows.append(a new list) -/
theorem sw_app2 {α : Type} {r : α → D} {xs ys : List (List α)} {x : List α} {n : Nat} (hx : appR xs x = .ok ys) (h : env[n]? = some (.own2N na (xs.map (oL r)))) (he : EN K te env (x.map r)) (hn : Nx (env.set n (.own2N na (ys.map (oL r))))) :
    SW K E (tDrop (tBM K "list" rAppend (tVar n) (tCons te tNil))) env Nx Rt Ex := fun σ F H A O m w Dn q1 q2 q4 => by
  obtain ⟨p, vs, O1, A1, A2, e, h1, h2, h4, _⟩ := m.getO2 h
  obtain ⟨hl, ey⟩ := appR_some hx
  subst ey
  have hp := (w.has (p, .lst vs) (by rw [e]; simp)).2
  refine ⟨_, h1, .inl ⟨rfl, vs, .of hp⟩, he σ F H A O m w _ fun p1 us F1 H1 s1 w1 d1 => ?_⟩
  have hp1 := (w1.has (p, .lst vs) (by rw [e]; simp)).2
  refine ⟨p, vs, .ref p1, rfl, rfl, hp1, ?_, ?_⟩
  · have := h2.length
    rw [List.length_map] at this
    rw [this, sizeLine_eq]; exact hl
  · subst e
    have m2 := h4 F1 (vs ++ [.ref p1]) (xs.map (oL r) ++ [.own (x.map r)]) (O1 ++ [(p1, .lst us)]) s1 ((h2.up s1).append (.own d1 .nil))
    rw [← oL_snoc] at m2
    refine q1 _ σ F1 _ _ hn s1 m2 ?_
    have w2 : Own F1 H1 ((p, .lst vs) :: (A1 ++ ((O1 ++ [(p1, .lst us)]) ++ A2) ++ O)) := w1.perm (by
      have e1 : (p1, HO.lst us) :: (A1 ++ (p, HO.lst vs) :: (O1 ++ A2) ++ O) = (p1, HO.lst us) :: (A1 ++ ((p, HO.lst vs) :: (O1 ++ A2 ++ O))) := by simp
      have e2 : (p, HO.lst vs) :: (A1 ++ ((O1 ++ [(p1, HO.lst us)]) ++ A2) ++ O) = (p, HO.lst vs) :: ((A1 ++ O1) ++ ((p1, HO.lst us) :: (A2 ++ O))) := by simp
      rw [e1, e2]
      refine List.Perm.trans (List.Perm.cons _ List.perm_middle) (List.Perm.trans (List.Perm.swap _ _ _) (List.Perm.cons _ ?_))
      have e3 : A1 ++ (O1 ++ A2 ++ O) = (A1 ++ O1) ++ (A2 ++ O) := by simp
      rw [e3]
      exact List.perm_middle.symm)
    have w3 := w2.put (o' := .lst (vs ++ [.ref p1]))
    refine w3.perm ?_
    have e4 : A1 ++ (p, HO.lst (vs ++ [.ref p1])) :: ((O1 ++ [(p1, HO.lst us)]) ++ A2) ++ O = A1 ++ ((p, HO.lst (vs ++ [.ref p1])) :: (((O1 ++ [(p1, HO.lst us)]) ++ A2) ++ O)) := by simp
    have e5 : (p, HO.lst (vs ++ [.ref p1])) :: (A1 ++ ((O1 ++ [(p1, HO.lst us)]) ++ A2) ++ O) = (p, HO.lst (vs ++ [.ref p1])) :: (A1 ++ (((O1 ++ [(p1, HO.lst us)]) ++ A2) ++ O)) := by simp
    rw [e4, e5]
    exact List.perm_middle.symm
/-- the inner list of a place: where it stands -/
theorem inner_at {σ : L2.St} {F H : Hp} {A O : List (Addr × HO)} {n k : Nat} (h : env[n]? = some (.own2N na os)) (hk : os[k]? = some (.own ds)) (m : Match K F σ env A) (w : Own F H (A ++ O)) :
    ∃ p vs q us C D, σ[n]? = some (some (.ref p)) ∧ (p, HO.lst vs) ∈ A ∧ vs[k]? = some (.ref q) ∧ vs.length = os.length ∧ A = C ++ (q, HO.lst us) :: D ∧ Dats K F us ds ∧
      ∀ F' us' ds', Same F F' → Dats K F' us' ds' → Match K F' σ (env.set n (.own2N na (os.set k (.own ds')))) (C ++ (q, HO.lst us') :: D) := by
  obtain ⟨p, vs, O1, A1, A2, e, h1, h2, h4, _⟩ := m.getO2 h
  obtain ⟨q, us, B1, B2, e1, g1, g2, g3⟩ := h2.getO hk
  subst e e1
  refine ⟨p, vs, q, us, A1 ++ (p, .lst vs) :: B1, B2 ++ A2, h1, by simp, g1, h2.length, by simp, g2, fun F' us' ds' s hd => ?_⟩
  have := h4 F' vs (os.set k (.own ds')) (B1 ++ (q, .lst us') :: B2) s (g3 F' us' ds' s hd)
  have e2 : A1 ++ (p, HO.lst vs) :: B1 ++ (q, HO.lst us') :: (B2 ++ A2) = A1 ++ (p, HO.lst vs) :: ((B1 ++ (q, HO.lst us') :: B2) ++ A2) := by simp
  rw [e2]; exact this
theorem set2_some {α : Type} {xss yss : List (List α)} {i j : Int} {x : α} (h : set2R xss i j x = .ok yss) : ∃ k n row, ixP xss.length i = some k ∧ xss[k]? = some row ∧ ixP row.length j = some n ∧ yss = xss.set k (row.set n x) := by
  obtain ⟨row, h1, h2⟩ := R.bind_inv h
  obtain ⟨row', h3, h4⟩ := R.bind_inv h2
  obtain ⟨k, a1, a2⟩ := atR_some h1
  obtain ⟨n, b1, b2⟩ := setR_some h3
  obtain ⟨k', c1, c2⟩ := setR_some h4
  rw [a1] at c1
  cases c1
  exact ⟨k, n, row, a1, a2, b1, by rw [c2, b2]⟩
/-- xss[i][j] = e -/
theorem sw_put2 {α : Type} {r : α → D} {xss yss : List (List α)} {x : α} {n : Nat} (hx : set2R xss i j x = .ok yss) (he : EV K te env (r x)) (h : env[n]? = some (.own2N na (xss.map (oL r)))) (hi : EV K ti env (dI i)) (hj : EV K tb env (dI j)) (hn : Nx (env.set n (.own2N na (yss.map (oL r))))) :
    SW K E (tAsg te (gSub (tOp (rIxL K) (tVar n) ti) tb rSetL)) env Nx Rt Ex := fun σ F H A O m w Dn q1 q2 q4 =>
  he σ F H A O m w _ fun v F1 H1 s1 w1 d1 => by
    obtain ⟨k, c, row, a1, a2, b1, ey⟩ := set2_some hx
    subst ey
    have hk : (xss.map (oL r))[k]? = some (.own (row.map r)) := by rw [List.getElem?_map, a2]; rfl
    obtain ⟨p, vs, q, us, C, D, g1, g2, g3, g4, g5, g6, g7⟩ := inner_at h hk (m.up s1) w1
    rw [List.length_map] at g4
    refine ⟨_, g1, hi σ F1 H1 A O (m.up s1) w1 _ fun y F2 H2 s2 w2 d2 => ?_⟩
    have hp2 := (w2.has (p, .lst vs) (List.mem_append_left _ g2)).2
    refine ⟨p, vs, i, .ref q, rfl, d2.int, .of hp2, atI_ixP (by rw [g4]; exact a1) g3, hj σ F2 H2 A O (m.up (s1.trans s2)) w2 _ fun z F3 H3 s3 w3 d3 => ?_⟩
    have hq3 := (w3.has (q, .lst us) (by rw [g5]; simp)).2
    have hl := g6.length
    rw [List.length_map] at hl
    refine ⟨q, us, j, c, rfl, d3.int, hq3, by rw [← ixP_ixN, hl]; exact b1, ?_⟩
    have s123 := s1.trans (s2.trans s3)
    have m2 := g7 F3 (us.set c v) ((row.map r).set c (r x)) (s2.trans s3) ((g6.up (s2.trans s3)).set c (d1.up (s2.trans s3)))
    have e1 : (xss.map (oL r)).set k (.own ((row.map r).set c (r x))) = (xss.set k (row.set c x)).map (oL r) := by
      rw [List.map_set]; congr 1; show OD.own _ = OD.own ((row.set c x).map r); rw [List.map_set]
    rw [e1] at m2
    refine q1 _ σ F3 _ _ hn s123 m2 ?_
    subst g5
    rw [List.append_assoc] at w3 ⊢
    exact (w3.mid.put (o' := .lst (us.set c v))).unmid
/-- xss[i].append(e), what it holds of a kind of its own then -/
theorem sw_app2i {α : Type} {r : α → D} {xss : List (List α)} {row : List α} {n k : Nat} {u : Unit} (hk0 : ixP xss.length i = some k) (hrow : xss[k]? = some row) (hx : roomR row = .ok u) (h : env[n]? = some (.own2N na (xss.map (oL r)))) (hi : EV K ti env (dI i)) (he : EV K te env d)
    (hn : Nx (env.set n (.own2N na ((xss.map (oL r)).set k (.own (row.map r ++ [d])))))) : SW K E (tDrop (tBM K "list" rAppend (tOp (rIxL K) (tVar n) ti) (tCons te tNil))) env Nx Rt Ex := fun σ F H A O m w Dn q1 q2 q4 => by
  have hk : (xss.map (oL r))[k]? = some (.own (row.map r)) := by rw [List.getElem?_map, hrow]; rfl
  obtain ⟨p, vs, q, us, C, D, g1, g2, g3, g4, g5, g6, g7⟩ := inner_at h hk m w
  rw [List.length_map] at g4
  have hl := roomR_some hx
  refine ⟨_, g1, hi σ F H A O m w _ fun y F2 H2 s2 w2 d2 => ?_⟩
  have hp2 := (w2.has (p, .lst vs) (List.mem_append_left _ g2)).2
  have hq2 := (w2.has (q, .lst us) (by rw [g5]; simp)).2
  refine ⟨p, vs, i, .ref q, rfl, d2.int, .of hp2, atI_ixP (by rw [g4]; exact hk0) g3, .inl ⟨rfl, us, .of hq2⟩, he σ F2 H2 A O (m.up s2) w2 _ fun v F3 H3 s3 w3 d3 => ?_⟩
  have hq3 := (w3.has (q, .lst us) (by rw [g5]; simp)).2
  refine ⟨q, us, v, rfl, rfl, hq3, ?_, ?_⟩
  · have := g6.length
    rw [List.length_map] at this
    rw [this, sizeLine_eq]; exact hl
  · have m2 := g7 F3 (us ++ [v]) (row.map r ++ [d]) (s2.trans s3) ((g6.up (s2.trans s3)).append (.cons d3 .nil))
    refine q1 _ σ F3 _ _ hn (s2.trans s3) m2 ?_
    subst g5
    rw [List.append_assoc] at w3 ⊢
    exact (w3.mid.put (o' := .lst (us ++ [v]))).unmid
theorem app2_some {α : Type} {xss yss : List (List α)} {i : Int} {x : α} (h : app2R xss i x = .ok yss) : ∃ k row, ixP xss.length i = some k ∧ xss[k]? = some row ∧ row.length < 16777216 ∧ yss = xss.set k (row ++ [x]) := by
  obtain ⟨row, h1, h2⟩ := R.bind_inv h
  obtain ⟨row', h3, h4⟩ := R.bind_inv h2
  obtain ⟨k, a1, a2⟩ := atR_some h1
  obtain ⟨b1, b2⟩ := appR_some h3
  obtain ⟨k', c1, c2⟩ := setR_some h4
  rw [a1] at c1
  cases c1
  exact ⟨k, row, a1, a2, b1, by rw [c2, b2]⟩
/-- xss[i].append(e), of the kind -/
theorem sw_app2T {α : Type} {r : α → D} {xss yss : List (List α)} {x : α} {n : Nat} (hx : app2R xss i x = .ok yss) (h : env[n]? = some (.own2N na (xss.map (oL r)))) (hi : EV K ti env (dI i)) (he : EV K te env (r x)) (hn : Nx (env.set n (.own2N na (yss.map (oL r))))) :
    SW K E (tDrop (tBM K "list" rAppend (tOp (rIxL K) (tVar n) ti) (tCons te tNil))) env Nx Rt Ex := by
  obtain ⟨k, row, a1, a2, a3, ey⟩ := app2_some hx
  subst ey
  refine sw_app2i (u := ()) a1 a2 (by unfold roomR; rw [if_pos a3]) h hi he ?_
  have e1 : (xss.map (oL r)).set k (.own (row.map r ++ [r x])) = (xss.set k (row ++ [x])).map (oL r) := by
    rw [List.map_set]; congr 1; show OD.own _ = OD.own ((row ++ [x]).map r); rw [List.map_append]; rfl
  rw [e1]; exact hn
theorem ods_del {F : Hp} {p : Addr} {o0 : HO} (e : F p = some o0) (ho : isTree o0 = true) {α : Type} {r : α → D} (hr : ∀ x, noL (r x) = true) : ∀ {vs : List V} {xs : List (List α)} {O1 : List (Addr × HO)}, ODs K F vs (xs.map (oL r)) O1 → ODs K (del F p) vs (xs.map (oL r)) O1
  | _, [], _, h => by cases h; exact .nil
  | _, x :: xs, _, h => by
    cases h with
    | own d m => exact .own (Dats.del e ho _ _ (noLs_map hr x) d) (ods_del e ho hr m)
theorem ods_delL {F : Hp} {α : Type} {r : α → D} (hr : ∀ x, noL (r x) = true) {vs : List V} {xs : List (List α)} {O1 : List (Addr × HO)} (h : ODs K F vs (xs.map (oL r)) O1) : ∀ {O0 : List (Addr × HO)}, (O0.map (·.1)).Nodup → AllL O0 → (∀ q ∈ O0, F q.1 = some q.2) → ODs K (delL F O0) vs (xs.map (oL r)) O1
  | [], _, _, _ => h
  | q :: qs, nd, al, hF => by
    rw [List.map_cons, List.nodup_cons] at nd
    refine ods_del (o0 := q.2) ?_ (al q List.mem_cons_self) hr (ods_delL hr h nd.2 (fun r hr => al r (List.mem_cons_of_mem _ hr)) fun r hr => hF r (List.mem_cons_of_mem _ hr))
    rw [delL_ne fun r hr z => nd.1 (List.mem_map.mpr ⟨r, hr, z⟩), hF q List.mem_cons_self]
theorem en2_lend2L {α β : Type} {r : α → D} {r2 : β → D} {xs : List (List α)} {ys : List (List β)} {n : Nat} (h : env[n]? = some (.own2N na (xs.map (oL r)))) (hr : ∀ x, noL (r2 x) = true) (x : EN2 K te (env.set n (.dat (dL (dL r) xs))) (ys.map (oL r2))) : EN2 K te env (ys.map (oL r2)) := fun σ F H A O m w Q q => by
  obtain ⟨O0, A', F1, s1, m1, w1, nd, al, hF, back⟩ := lend2 h m w
  rw [map_toD] at m1
  refine x σ F1 H A' O m1 w1 _ fun p us F' H' O1 s w' dd => ?_
  obtain ⟨b1, b2⟩ := back F' H' ((p, .lst us) :: O1) s w'
  exact q p us _ H' O1 b1 b2 (ods_delL hr dd nd al fun r hr => s _ _ (hF r hr))
/-- a slot let go -/
theorem sw_un {n : Nat} (hn : SW K E t (env.set n .un) Nx Rt Ex) : SW K E t env Nx Rt Ex := fun σ F H A O m w Dn q1 q2 q4 => by
  obtain ⟨A', s, m'⟩ := match_unset n m
  exact hn σ F H A' O m' (w.subA s) Dn q1 q2 q4
end
end Pg

set_option Elab.async false
set_option linter.all false
set_option maxRecDepth 100000
namespace Pg
open PySem PySem.Spec PyProof.Rows L2
/-! ### places in what is owned -/
inductive Stp where
  | ix (k : Nat)
  | fld (f : Str)
def setF {α : Type} (f : Str) (y : α) : List (Str × α) → List (Str × α)
  | [] => []
  | (g, z) :: r => if f == g then (g, y) :: r else (g, z) :: setF f y r
def T.get : T → List Stp → Option T
  | t, [] => some t
  | .lst _ ts, .ix k :: π => match ts[k]? with
    | some t => T.get t π
    | none => none
  | .ins _ _ fs, .fld f :: π => match fs.lookup f with
    | some t => T.get t π
    | none => none
  | _, _ :: _ => none
def T.put : T → List Stp → T → T
  | _, [], x => x
  | .lst a ts, .ix k :: π, x => match ts[k]? with
    | some t => .lst a (ts.set k (T.put t π x))
    | none => .lst a ts
  | .ins a C fs, .fld f :: π, x => match fs.lookup f with
    | some t => .ins a C (setF f (T.put t π x) fs)
    | none => .ins a C fs
  | t, _ :: _, _ => t
/-- the root told by its address -/
def T.nm (a : Option Addr) : T → T
  | .lst _ ts => .lst a ts
  | .ins _ C fs => .ins a C fs
  | .dK _ k => .dK a k
  | .dT _ k => .dT a k
  | t => t
def T.name : T → Option Addr
  | .lst a _ => a
  | .ins a _ _ => a
  | .dK a _ => a
  | .dT a _ => a
  | .adr q => some q
  | .dat _ => none
section
variable {K : PySem.W.Frag} {F F' H H' : Hp}
theorem TRs.at : ∀ {vs : List V} {ts : List T} {O : List (Addr × HO)} {k : Nat} {t : T}, TRs K F vs ts O → ts[k]? = some t →
    ∃ v A O1 B, O = A ++ (O1 ++ B) ∧ vs[k]? = some v ∧ TR K F v t O1 ∧ ∀ F' t' O1', Same F F' → TR K F' v t' O1' → TRs K F' vs (ts.set k t') (A ++ (O1' ++ B))
  | _, _, _, _, _, .nil, e => by simp at e
  | _, _, _, 0, _, .cons a b, e => by
    simp at e; subst e
    exact ⟨_, [], _, _, rfl, rfl, a, fun F' t' O1' s h => by have z := TRs.cons h (b.up s); exact z⟩
  | _, _, _, k + 1, t, .cons (O1 := P) a b, e => by
    obtain ⟨v, A, O1, B, h1, h2, h3, h4⟩ := TRs.at (k := k) (t := t) b (by simpa using e)
    refine ⟨v, P ++ A, O1, B, by rw [h1, List.append_assoc], by simpa using h2, h3, fun F' t' O1' s h => ?_⟩
    have z := TRs.cons (a.up s) (h4 F' t' O1' s h)
    rw [List.append_assoc]
    exact z
theorem TRf.at : ∀ {us : List (Str × V)} {fs : List (Str × T)} {O : List (Addr × HO)} {f : Str} {t : T}, TRf K F us fs O → fs.lookup f = some t →
    ∃ v A O1 B, O = A ++ (O1 ++ B) ∧ us.lookup f = some v ∧ TR K F v t O1 ∧ ∀ F' t' O1', Same F F' → TR K F' v t' O1' → TRf K F' us (setF f t' fs) (A ++ (O1' ++ B))
  | _, _, _, _, _, .nil, e => by simp at e
  | _, _, _, f, t, .cons (f := g) (O1 := P) a b, e => by
    rw [List.lookup_cons] at e
    by_cases hg : (f == g) = true
    · rw [hg] at e
      simp at e; subst e
      refine ⟨_, [], _, _, rfl, by rw [List.lookup_cons, hg], a, fun F' t' O1' s h => ?_⟩
      unfold setF
      rw [if_pos hg]
      have z := TRf.cons (f := g) h (b.up s); exact z
    · have hg' : (f == g) = false := by simpa using hg
      rw [hg'] at e
      obtain ⟨v, A, O1, B, h1, h2, h3, h4⟩ := TRf.at (f := f) (t := t) b e
      refine ⟨v, P ++ A, O1, B, by rw [h1, List.append_assoc], by rw [List.lookup_cons, hg']; exact h2, h3, fun F' t' O1' s h => ?_⟩
      unfold setF
      rw [if_neg hg, List.append_assoc]
      have z := TRf.cons (f := g) (a.up s) (h4 F' t' O1' s h)
      exact z
theorem TRf.none : ∀ {us : List (Str × V)} {fs : List (Str × T)} {O : List (Addr × HO)} {f : Str}, TRf K F us fs O → fs.lookup f = none → us.lookup f = none
  | _, _, _, _, .nil, _ => by simp
  | _, _, _, f, .cons (f := g) a b, e => by
    rw [List.lookup_cons] at e ⊢
    by_cases h : (f == g) = true
    · rw [h] at e; simp at e
    · have h : (f == g) = false := by simpa using h
      rw [h] at e ⊢
      exact TRf.none b e
theorem TRs.length : ∀ {vs : List V} {ts : List T} {O : List (Addr × HO)}, TRs K F vs ts O → vs.length = ts.length
  | _, _, _, .nil => rfl
  | _, _, _, .cons _ b => by rw [List.length_cons, List.length_cons, b.length]
theorem TRf.length : ∀ {vs : List (Str × V)} {ts : List (Str × T)} {O : List (Addr × HO)}, TRf K F vs ts O → vs.length = ts.length
  | _, _, _, .nil => rfl
  | _, _, _, .cons _ b => by rw [List.length_cons, List.length_cons, b.length]
theorem TRs.append : ∀ {vs ws : List V} {ts us : List T} {O O' : List (Addr × HO)}, TRs K F vs ts O → TRs K F ws us O' → TRs K F (vs ++ ws) (ts ++ us) (O ++ O')
  | _, _, _, _, _, _, .nil, h => h
  | _, _, _, _, _, _, .cons a b, h => by
    have z := TRs.cons a (TRs.append b h)
    rw [List.append_assoc]
    exact z
theorem T.get_ix {a : Option Addr} {ts : List T} {k : Nat} {z : T} (e : ts[k]? = some z) (π : List Stp) : T.get (.lst a ts) (.ix k :: π) = z.get π := by
  show (match ts[k]? with | some t => T.get t π | none => none) = _
  rw [e]
theorem T.get_fld {a : Option Addr} {C : Addr} {fs : List (Str × T)} {f : Str} {z : T} (e : fs.lookup f = some z) (π : List Stp) : T.get (.ins a C fs) (.fld f :: π) = z.get π := by
  show (match fs.lookup f with | some t => T.get t π | none => none) = _
  rw [e]
theorem T.put_ix {a : Option Addr} {ts : List T} {k : Nat} {z : T} (e : ts[k]? = some z) (π : List Stp) (x : T) : T.put (.lst a ts) (.ix k :: π) x = .lst a (ts.set k (z.put π x)) := by
  show (match ts[k]? with | some t => T.lst a (ts.set k (T.put t π x)) | none => .lst a ts) = _
  rw [e]
theorem T.put_fld {a : Option Addr} {C : Addr} {fs : List (Str × T)} {f : Str} {z : T} (e : fs.lookup f = some z) (π : List Stp) (x : T) : T.put (.ins a C fs) (.fld f :: π) x = .ins a C (setF f (z.put π x) fs) := by
  show (match fs.lookup f with | some t => T.ins a C (setF f (T.put t π x) fs) | none => .ins a C fs) = _
  rw [e]
/-- what stands at a place, and what may come there -/
theorem TR.focus : ∀ (π : List Stp) {v : V} {t : T} {O : List (Addr × HO)} {t' : T}, TR K F v t O → t.get π = some t' →
    ∃ v' A O1 B, O = A ++ (O1 ++ B) ∧ TR K F v' t' O1 ∧ ∀ F' t'' O1', Same F F' → TR K F' v' t'' O1' → TR K F' v (t.put π t'') (A ++ (O1' ++ B))
  | [], v, t, O, t', h, e => by
    have e : some t = some t' := by cases t <;> exact e
    cases e
    exact ⟨v, [], O, [], by simp, h, fun F' t'' O1' s h' => by
      have : T.put t [] t'' = t'' := by cases t <;> rfl
      rw [this]; simpa using h'⟩
  | .ix k :: π, v, .lst a ts, O, t', h, e => by
    unfold T.get at e
    cases e1 : ts[k]? with
    | none => rw [e1] at e; cases e
    | some y =>
      rw [e1] at e
      cases h with
      | @lst _ p us _ _ n h =>
        obtain ⟨v1, A1, P1, B1, p1, p2, p3, p4⟩ := h.at e1
        obtain ⟨v2, A2, P2, B2, r1, r2, r3⟩ := TR.focus π p3 e
        subst p1 r1
        refine ⟨v2, (p, .lst us) :: (A1 ++ A2), P2, B2 ++ B1, by simp, r2, fun F' t'' O1' s h' => ?_⟩
        have z := TR.lst n (p4 F' _ _ s (r3 F' t'' O1' s h'))
        rw [T.put_ix e1]
        simpa using z
  | .fld f :: π, v, .ins a C fs, O, t', h, e => by
    unfold T.get at e
    cases e1 : fs.lookup f with
    | none => rw [e1] at e; cases e
    | some y =>
      rw [e1] at e
      cases h with
      | @ins _ p _ dx us _ _ n h =>
        obtain ⟨v1, A1, P1, B1, p1, p2, p3, p4⟩ := h.at e1
        obtain ⟨v2, A2, P2, B2, r1, r2, r3⟩ := TR.focus π p3 e
        subst p1 r1
        refine ⟨v2, (p, .ins C dx us) :: (dx, .own p) :: (A1 ++ A2), P2, B2 ++ B1, by simp, r2, fun F' t'' O1' s h' => ?_⟩
        have z := TR.ins (C := C) (dx := dx) n (p4 F' _ _ s (r3 F' t'' O1' s h'))
        rw [T.put_fld e1]
        simpa using z
  | .ix k :: π, v, .dat _, O, t', h, e => by cases e
  | .ix k :: π, v, .ins _ _ _, O, t', h, e => by cases e
  | .ix k :: π, v, .dK _ _, O, t', h, e => by cases e
  | .ix k :: π, v, .dT _ _, O, t', h, e => by cases e
  | .ix k :: π, v, .adr _, O, t', h, e => by cases e
  | .fld k :: π, v, .dat _, O, t', h, e => by cases e
  | .fld k :: π, v, .lst _ _, O, t', h, e => by cases e
  | .fld k :: π, v, .dK _ _, O, t', h, e => by cases e
  | .fld k :: π, v, .dT _ _, O, t', h, e => by cases e
  | .fld k :: π, v, .adr _, O, t', h, e => by cases e
theorem T.get_nil (t : T) : t.get [] = some t := by cases t <;> rfl
theorem T.put_nil (t x : T) : t.put [] x = x := by cases t <;> rfl
theorem T.get_snoc : ∀ (π : List Stp) (s : Stp) (t y : T), t.get π = some y → t.get (π ++ [s]) = y.get [s]
  | [], s, t, y, e => by rw [T.get_nil] at e; cases e; rfl
  | .ix k :: π, s, .lst a ts, y, e => by
    unfold T.get at e
    show T.get (.lst a ts) (.ix k :: (π ++ [s])) = _
    cases e1 : ts[k]? with
    | none => rw [e1] at e; cases e
    | some z => rw [e1] at e; rw [T.get_ix e1]; exact T.get_snoc π s z y e
  | .fld f :: π, s, .ins a C fs, y, e => by
    unfold T.get at e
    show T.get (.ins a C fs) (.fld f :: (π ++ [s])) = _
    cases e1 : fs.lookup f with
    | none => rw [e1] at e; cases e
    | some z => rw [e1] at e; rw [T.get_fld e1]; exact T.get_snoc π s z y e
  | .ix k :: π, s, .dat _, y, e => by cases e
  | .ix k :: π, s, .ins _ _ _, y, e => by cases e
  | .ix k :: π, s, .dK _ _, y, e => by cases e
  | .ix k :: π, s, .dT _ _, y, e => by cases e
  | .ix k :: π, s, .adr _, y, e => by cases e
  | .fld k :: π, s, .dat _, y, e => by cases e
  | .fld k :: π, s, .lst _ _, y, e => by cases e
  | .fld k :: π, s, .dK _ _, y, e => by cases e
  | .fld k :: π, s, .dT _ _, y, e => by cases e
  | .fld k :: π, s, .adr _, y, e => by cases e
theorem T.put_snoc : ∀ (π : List Stp) (s : Stp) (t y x : T), t.get π = some y → t.put (π ++ [s]) x = t.put π (y.put [s] x)
  | [], s, t, y, x, e => by rw [T.get_nil] at e; cases e; rw [T.put_nil]; rfl
  | .ix k :: π, s, .lst a ts, y, x, e => by
    unfold T.get at e
    show T.put (.lst a ts) (.ix k :: (π ++ [s])) x = _
    cases e1 : ts[k]? with
    | none => rw [e1] at e; cases e
    | some z => rw [e1] at e; rw [T.put_ix e1, T.put_ix e1, T.put_snoc π s z y x e]
  | .fld f :: π, s, .ins a C fs, y, x, e => by
    unfold T.get at e
    show T.put (.ins a C fs) (.fld f :: (π ++ [s])) x = _
    cases e1 : fs.lookup f with
    | none => rw [e1] at e; cases e
    | some z => rw [e1] at e; rw [T.put_fld e1, T.put_fld e1, T.put_snoc π s z y x e]
  | .ix k :: π, s, .dat _, y, x, e => by cases e
  | .ix k :: π, s, .ins _ _ _, y, x, e => by cases e
  | .ix k :: π, s, .dK _ _, y, x, e => by cases e
  | .ix k :: π, s, .dT _ _, y, x, e => by cases e
  | .ix k :: π, s, .adr _, y, x, e => by cases e
  | .fld k :: π, s, .dat _, y, x, e => by cases e
  | .fld k :: π, s, .lst _ _, y, x, e => by cases e
  | .fld k :: π, s, .dK _ _, y, x, e => by cases e
  | .fld k :: π, s, .dT _ _, y, x, e => by cases e
  | .fld k :: π, s, .adr _, y, x, e => by cases e
/-! ### .. of a frame -/
def getAt (env : List Slot) (n : Nat) (π : List Stp) : Option T := match env[n]? with
  | some (.tr t) => t.get π
  | _ => none
def putAt (env : List Slot) (n : Nat) (π : List Stp) (x : T) : List Slot := match env[n]? with
  | some (.tr t) => env.set n (.tr (t.put π x))
  | _ => env
theorem getAt_some {env : List Slot} {n : Nat} {π : List Stp} {t : T} (h : getAt env n π = some t) : ∃ r, env[n]? = some (.tr r) ∧ r.get π = some t ∧ ∀ x, putAt env n π x = env.set n (.tr (r.put π x)) := by
  unfold getAt at h
  split at h
  · rename_i r e
    exact ⟨r, e, h, fun x => by unfold putAt; rw [e]⟩
  · cases h
theorem getAt_root {env : List Slot} {n : Nat} {t : T} (h : env[n]? = some (.tr t)) : getAt env n [] = some t := by unfold getAt; rw [h]; exact T.get_nil t
theorem putAt_root {env : List Slot} {n : Nat} {t x : T} (h : env[n]? = some (.tr t)) : putAt env n [] x = env.set n (.tr x) := by unfold putAt; rw [h]; simp only; rw [T.put_nil]
theorem getAt_snoc {env : List Slot} {n : Nat} {π : List Stp} {s : Stp} {t : T} (h : getAt env n π = some t) : getAt env n (π ++ [s]) = t.get [s] := by
  obtain ⟨r, h1, h2, _⟩ := getAt_some h
  unfold getAt
  rw [h1]
  exact T.get_snoc π s r t h2
theorem putAt_snoc {env : List Slot} {n : Nat} {π : List Stp} {s : Stp} {t x : T} (h : getAt env n π = some t) : putAt env n (π ++ [s]) x = putAt env n π (t.put [s] x) := by
  obtain ⟨r, h1, h2, h3⟩ := getAt_some h
  rw [h3]
  unfold putAt
  rw [h1]
  simp only
  rw [T.put_snoc π s r t x h2]
theorem Match.focus {σ : L2.St} {env : List Slot} {A : List (Addr × HO)} {n : Nat} {π : List Stp} {t : T} (m : Match K F σ env A) (h : getAt env n π = some t) :
    ∃ v A1 O1 A2, A = A1 ++ (O1 ++ A2) ∧ TR K F v t O1 ∧ ∀ F' t' O1', Same F F' → TR K F' v t' O1' → Match K F' σ (putAt env n π t') (A1 ++ (O1' ++ A2)) := by
  obtain ⟨r, h1, h2, h3⟩ := getAt_some h
  obtain ⟨v, P, A1, A2, e, g1, g2, g3, _, _⟩ := m.getT h1
  obtain ⟨v', B1, O1, B2, e2, g4, g5⟩ := g2.focus π h2
  subst e e2
  refine ⟨v', A1 ++ B1, O1, B2 ++ A2, by simp, g4, fun F' t' O1' s h' => ?_⟩
  rw [h3]
  have z := g3 F' _ _ s (g5 F' t' O1' s h')
  simpa using z
/-- v is what stands at the place -/
def Pl (K : PySem.W.Frag) (F : Hp) (σ : L2.St) (env : List Slot) (A : List (Addr × HO)) (n : Nat) (π : List Stp) (v : V) : Prop :=
  ∃ t A1 O1 A2, getAt env n π = some t ∧ A = A1 ++ (O1 ++ A2) ∧ TR K F v t O1 ∧ ∀ F' t' O1', Same F F' → TR K F' v t' O1' → Match K F' σ (putAt env n π t') (A1 ++ (O1' ++ A2))
theorem Pl.up {σ : L2.St} {env : List Slot} {A : List (Addr × HO)} {n : Nat} {π : List Stp} {v : V} (h : Pl K F σ env A n π v) (s : Same F F') : Pl K F' σ env A n π v := by
  obtain ⟨t, A1, O1, A2, h1, h2, h3, h4⟩ := h
  exact ⟨t, A1, O1, A2, h1, h2, h3.up s, fun F2 t' O1' s2 h' => h4 F2 t' O1' (s.trans s2) h'⟩
/-- a node told by its address -/
theorem TR.named {q : Addr} {t : T} {O : List (Addr × HO)} (h : TR K F (.ref q) t O) : TR K F (.ref q) (t.nm (some q)) O := by
  cases h with
  | dat d => exact .dat d
  | lst n h => exact .lst (fun _ z => Option.some.inj z) h
  | ins n h => exact .ins (fun _ z => Option.some.inj z) h
  | dK n h => exact .dK (fun _ z => Option.some.inj z) h
  | dT n h => exact .dT (fun _ z => Option.some.inj z) h
  | adr => exact .adr
theorem TR.unnamed {v : V} {t : T} {O : List (Addr × HO)} (h : TR K F v t O) : TR K F v (t.nm none) O := by
  cases h with
  | dat d => exact .dat d
  | lst n h => exact .lst (fun _ z => nomatch z) h
  | ins n h => exact .ins (fun _ z => nomatch z) h
  | dK n h => exact .dK (fun _ z => nomatch z) h
  | dT n h => exact .dT (fun _ z => nomatch z) h
  | adr => exact .adr
theorem TR.at_name {v : V} {t : T} {O : List (Addr × HO)} {q : Addr} (h : TR K F v t O) (e : t.name = some q) : v = .ref q := by
  cases h with
  | dat d => cases e
  | lst n h => rw [n q e]
  | ins n h => rw [n q e]
  | dK n h => rw [n q e]
  | dT n h => rw [n q e]
  | adr => cases e; rfl
/-- is an object (not a datum) -/
def T.isObj : T → Bool
  | .dat _ => false
  | _ => true
theorem TR.ref {v : V} {t : T} {O : List (Addr × HO)} (h : TR K F v t O) (e : t.isObj = true) : ∃ q, v = .ref q := by
  cases h with
  | dat d => cases e
  | lst n h => exact ⟨_, rfl⟩
  | ins n h => exact ⟨_, rfl⟩
  | dK n h => exact ⟨_, rfl⟩
  | dT n h => exact ⟨_, rfl⟩
  | adr => exact ⟨_, rfl⟩
end
end Pg

set_option Elab.async false
set_option linter.all false
set_option maxRecDepth 100000
namespace Pg
open PySem PySem.Spec PyProof.Rows L2
/-! ### readings that change what is owned -/
section
variable (K : PySem.W.Frag)
def EM (te : TE) (env : List Slot) (x : T) (env' : List Slot) : Prop := ∀ (σ : L2.St) (F H : Hp) (A O : List (Addr × HO)), Match K F σ env A → Own F H (A ++ O) → ∀ Q : VK,
  (∀ v O1 F' H' A', Same F F' → Match K F' σ env' A' → Own F' H' (O1 ++ (A' ++ O)) → TR K F' v x O1 → Q v H') → te σ H Q
def EAM (ta : TA) (env : List Slot) (xs : List T) (env' : List Slot) : Prop := ∀ (σ : L2.St) (F H : Hp) (A O : List (Addr × HO)), Match K F σ env A → Own F H (A ++ O) → ∀ Q : List V → Hp → Prop,
  (∀ vs O1 F' H' A', Same F F' → Match K F' σ env' A' → Own F' H' (O1 ++ (A' ++ O)) → TRs K F' vs xs O1 → Q vs H') → ta σ H Q
def ETM (tt : TT) (env : List Slot) (b : Bool) (env' : List Slot) : Prop := ∀ (σ : L2.St) (F H : Hp) (A O : List (Addr × HO)), Match K F σ env A → Own F H (A ++ O) → ∀ Q : Bool → Hp → Prop,
  (∀ F' H' A', Same F F' → Match K F' σ env' A' → Own F' H' (A' ++ O) → Q b H') → tt σ H Q
/-- the value is what stands at a place -/
def EP (te : TE) (env : List Slot) (n : Nat) (π : List Stp) : Prop := ∀ (σ : L2.St) (F H : Hp) (A O : List (Addr × HO)), Match K F σ env A → Own F H (A ++ O) → ∀ Q : VK,
  (∀ v F' H', Same F F' → Own F' H' (A ++ O) → Pl K F' σ env A n π v → Q v H') → te σ H Q
end
/-- an expression's outcome as a slot -/
def T.slot : T → Slot
  | .dat d => .dat d
  | t => .tr t
mutual
/-- frozen -/
def T.fz : T → D
  | .dat d => d
  | .lst _ ts => .lst (T.fzs ts)
  | .ins _ C fs => .ins C (T.fzf fs)
  | _ => .v .non
def T.fzs : List T → List D
  | [] => []
  | t :: ts => t.fz :: T.fzs ts
def T.fzf : List (Str × T) → List (Str × D)
  | [] => []
  | (f, t) :: ts => (f, t.fz) :: T.fzf ts
end
mutual
def T.fzOk : T → Bool
  | .dat _ => true
  | .lst _ ts => T.fzsOk ts
  | .ins _ _ fs => T.fzfOk fs
  | _ => false
def T.fzsOk : List T → Bool
  | [] => true
  | t :: ts => t.fzOk && T.fzsOk ts
def T.fzfOk : List (Str × T) → Bool
  | [] => true
  | (_, t) :: ts => t.fzOk && T.fzfOk ts
end
section
variable {K : PySem.W.Frag} {F F' H H' : Hp}
mutual
theorem TR.frz : ∀ (t : T) {v : V} {O1 R : List (Addr × HO)} {F H : Hp}, t.fzOk = true → TR K F v t O1 → Own F H (O1 ++ R) → ∃ F', Same F F' ∧ Own F' H R ∧ Dat K F' v t.fz
  | .dat d, v, _, R, F, H, _, h, w => by
    cases h with
    | dat h => exact ⟨F, Same.refl F, w, by unfold T.fz; exact h⟩
  | .lst a ts, v, _, R, F, H, e, h, w => by
    cases h with
    | @lst _ p vs _ O n h =>
      have w2 : Own F H (O ++ ((p, .lst vs) :: R)) := w.perm List.perm_middle.symm
      obtain ⟨F1, s1, w1, d1⟩ := TRs.frz ts (by unfold T.fzOk at e; exact e) h w2
      obtain ⟨w3, s3⟩ := w1.frz
      exact ⟨_, s1.trans s3, w3, by unfold T.fz; exact .lst (.of upd_same) (d1.up s3)⟩
  | .ins a C fs, v, _, R, F, H, e, h, w => by
    cases h with
    | @ins _ p _ dx us _ O n h =>
      have w2 : Own F H (O ++ ((p, .ins C dx us) :: (dx, .own p) :: R)) := w.perm (by
        have z : ((p, HO.ins C dx us) :: (dx, HO.own p) :: O ++ R).Perm (O ++ ((p, HO.ins C dx us) :: (dx, HO.own p) :: R)) := by
          have e1 : (p, HO.ins C dx us) :: (dx, HO.own p) :: O ++ R = [(p, HO.ins C dx us), (dx, HO.own p)] ++ (O ++ R) := by simp
          have e2 : O ++ ((p, HO.ins C dx us) :: (dx, HO.own p) :: R) = O ++ ([(p, HO.ins C dx us), (dx, HO.own p)] ++ R) := by simp
          rw [e1, e2, ← List.append_assoc, ← List.append_assoc]
          exact List.Perm.append_right _ List.perm_append_comm
        exact z)
      obtain ⟨F1, s1, w1, d1⟩ := TRf.frz fs (by unfold T.fzOk at e; exact e) h w2
      obtain ⟨w3, s3⟩ := w1.frz
      obtain ⟨w4, s4⟩ := w3.frz
      exact ⟨_, s1.trans (s3.trans s4), w4, by unfold T.fz; exact .ins (s4 _ _ upd_same) (d1.up (s3.trans s4))⟩
  | .dK _ _, v, _, R, F, H, e, h, w => by unfold T.fzOk at e; cases e
  | .dT _ _, v, _, R, F, H, e, h, w => by unfold T.fzOk at e; cases e
  | .adr _, v, _, R, F, H, e, h, w => by unfold T.fzOk at e; cases e
theorem TRs.frz : ∀ (ts : List T) {vs : List V} {O1 R : List (Addr × HO)} {F H : Hp}, T.fzsOk ts = true → TRs K F vs ts O1 → Own F H (O1 ++ R) → ∃ F', Same F F' ∧ Own F' H R ∧ Dats K F' vs (T.fzs ts)
  | [], vs, _, R, F, H, _, h, w => by
    cases h
    exact ⟨F, Same.refl F, w, by unfold T.fzs; exact .nil⟩
  | t :: ts, vs, _, R, F, H, e, h, w => by
    cases h with
    | cons a b =>
      unfold T.fzsOk at e
      have e := Bool.and_eq_true_iff.mp e
      rw [List.append_assoc] at w
      obtain ⟨F1, s1, w1, d1⟩ := TR.frz t e.1 a w
      obtain ⟨F2, s2, w2, d2⟩ := TRs.frz ts e.2 (b.up s1) w1
      exact ⟨F2, s1.trans s2, w2, by unfold T.fzs; exact .cons (d1.up s2) d2⟩
theorem TRf.frz : ∀ (fs : List (Str × T)) {us : List (Str × V)} {O1 R : List (Addr × HO)} {F H : Hp}, T.fzfOk fs = true → TRf K F us fs O1 → Own F H (O1 ++ R) → ∃ F', Same F F' ∧ Own F' H R ∧ Datf K F' us (T.fzf fs)
  | [], us, _, R, F, H, _, h, w => by
    cases h
    exact ⟨F, Same.refl F, w, by unfold T.fzf; exact .nil⟩
  | (f, t) :: fs, us, _, R, F, H, e, h, w => by
    cases h with
    | cons a b =>
      unfold T.fzfOk at e
      have e := Bool.and_eq_true_iff.mp e
      rw [List.append_assoc] at w
      obtain ⟨F1, s1, w1, d1⟩ := TR.frz t e.1 a w
      obtain ⟨F2, s2, w2, d2⟩ := TRf.frz fs e.2 (b.up s1) w1
      exact ⟨F2, s1.trans s2, w2, by unfold T.fzf; exact .cons (d1.up s2) d2⟩
end
theorem perm_front {α : Type} (a b c : List α) : (a ++ (b ++ c)).Perm (b ++ (a ++ c)) := by
  rw [← List.append_assoc, ← List.append_assoc]
  exact List.Perm.append_right _ List.perm_append_comm
theorem Own.front {A B C : List (Addr × HO)} (h : Own F H (A ++ (B ++ C))) : Own F H (B ++ (A ++ C)) := h.perm (perm_front A B C)
variable {env env1 env2 env3 env' : List Slot} {te ta tb : TE} {tt tu : TT} {x y : T} {d e : D} {ds es : List D} {i j : Int} {n : Nat} {π : List Stp}
/-! ### readings that change nothing -/
theorem em_ev (h : EV K te env d) : EM K te env (.dat d) env := fun σ F H A O m w Q q => h σ F H A O m w Q fun v F' H' s w' dd => q v [] F' H' A s (m.up s) w' (.dat dd)
theorem em_en (h : EN K te env ds) : EM K te env (.lst none (ds.map T.dat)) env := fun σ F H A O m w Q q => h σ F H A O m w Q fun p vs F' H' s w' dd => q _ [(p, .lst vs)] F' H' A s (m.up s) w' (.lst (fun _ z => nomatch z) dd.tree)
theorem em_en2 {os : List OD} (h : EN2 K te env os) : EM K te env (.lst none (os.map OD.toT)) env := fun σ F H A O m w Q q => h σ F H A O m w Q fun p vs F' H' O1 s w' dd => q _ ((p, .lst vs) :: O1) F' H' A s (m.up s) w' (.lst (fun _ z => nomatch z) dd.tree)
theorem etm_et {b : Bool} (h : ET K tt env b) : ETM K tt env b env := fun σ F H A O m w Q q => h σ F H A O m w Q fun F' H' s w' => q F' H' A s (m.up s) w'
/-- frozen at once -/
theorem em_frz (h : EM K te env x env') (e : x.fzOk = true) : EM K te env (.dat x.fz) env' := fun σ F H A O m w Q q => h σ F H A O m w Q fun v O1 F' H' A' s m' w' dd => by
  obtain ⟨F2, s2, w2, d2⟩ := dd.frz x e w'
  exact q v [] F2 H' A' (s.trans s2) (m'.up s2) w2 (.dat d2)
theorem em_cast {α : Type} {r : α → T} {a b : α} (h : R.ok a = R.ok b) (z : EM K te env (r a) env') : EM K te env (r b) env' := by rw [← R.ok_inj h]; exact z
theorem em_eq (h : x = y) (z : EM K te env x env') : EM K te env y env' := h ▸ z
/-- .. in a frame that is told otherwise -/
theorem em_to (h : env1 = env2) (z : EM K te env x env1) : EM K te env x env2 := h ▸ z
/-! ### arguments, displays, operators -/
theorem eam_nil : EAM K tNil env [] env := fun σ F H A O m w Q q => q [] [] F H A (Same.refl F) m w .nil
theorem eam_cons {tr : TA} {xs : List T} (h : EM K te env x env1) (hr : EAM K tr env1 xs env') : EAM K (tCons te tr) env (x :: xs) env' := fun σ F H A O m w Q q =>
  h σ F H A O m w _ fun v O1 F1 H1 A1 s1 m1 w1 d1 => hr σ F1 H1 A1 (O1 ++ O) m1 w1.front _ fun vs O2 F2 H2 A2 s2 m2 w2 d2 => by
    refine q _ (O1 ++ O2) F2 H2 A2 (s1.trans s2) m2 (w2.perm ?_) (.cons (d1.up s2) d2)
    have e1 : O2 ++ (A2 ++ (O1 ++ O)) = (O2 ++ A2) ++ (O1 ++ O) := by simp
    rw [e1]
    refine (perm_front (O2 ++ A2) O1 O).trans ?_
    rw [List.append_assoc O1, List.append_assoc O2]
theorem em_tup {ta : TA} (h : EAM K ta env (ds.map T.dat) env') (hl : ds.length ≤ sizeLine := by first | exact Nat.le_of_ble_eq_true rfl | decide) : EM K (tTup ta) env (.dat (.tup ds)) env' := fun σ F H A O m w Q q =>
  h σ F H A O m w _ fun vs O1 F1 H1 A1 s1 m1 w1 d1 => by
    obtain ⟨e1, d3⟩ := d1.flat
    subst e1
    refine ⟨by rw [d3.length]; exact hl, fun p np => ?_⟩
    have w1 : Own F1 H1 (A1 ++ O) := w1
    obtain ⟨w2, s2⟩ := w1.newF (o := .tup vs) np
    exact q _ [] _ _ A1 (s1.trans s2) (m1.up s2) w2 (.dat (.tup (.of upd_same) (d3.up s2)))
theorem em_lst {ta : TA} {xs : List T} (h : EAM K ta env xs env') (hl : xs.length ≤ sizeLine := by first | exact Nat.le_of_ble_eq_true rfl | decide) : EM K (tLst ta) env (.lst none xs) env' := fun σ F H A O m w Q q =>
  h σ F H A O m w _ fun vs O1 F1 H1 A1 s1 m1 w1 d1 => ⟨by rw [d1.length]; exact hl, fun p np => q _ ((p, .lst vs) :: O1) F1 _ A1 s1 m1 (w1.new np) (.lst (fun _ z => nomatch z) d1)⟩
/-- an operator of two values that are no objects -/
theorem em_op {r : V → V → Hp → VK → Prop} {a b : V} (ha : EM K ta env (.dat (.v a)) env1) (hb : EM K tb env1 (.dat (.v b)) env2) (h : EV K (tOp r (tC a) (tC b)) env2 d) : EM K (tOp r ta tb) env (.dat d) env2 := fun σ F H A O m w Q q =>
  ha σ F H A O m w _ fun v O1 F1 H1 A1 s1 m1 w1 d1 => by
    cases d1 with
    | dat d1 =>
      refine hb σ F1 H1 A1 O m1 w1 _ fun v2 O2 F2 H2 A2 s2 m2 w2 d2 => ?_
      cases d2 with
      | dat d2 =>
        rw [d1.scl, d2.scl]
        refine h σ F2 H2 A2 O m2 w2 _ fun v3 F3 H3 s3 w3 d3 => ?_
        exact q v3 [] F3 H3 A2 (s1.trans (s2.trans s3)) (m2.up s3) w3 (.dat d3)
theorem em_un {r : V → Hp → VK → Prop} {a : V} (ha : EM K ta env (.dat (.v a)) env1) (h : EV K (tUn r (tC a)) env1 d) : EM K (tUn r ta) env (.dat d) env1 := fun σ F H A O m w Q q =>
  ha σ F H A O m w _ fun v O1 F1 H1 A1 s1 m1 w1 d1 => by
    cases d1 with
    | dat d1 =>
      rw [d1.scl]
      refine h σ F1 H1 A1 O m1 w1 _ fun v3 F3 H3 s3 w3 d3 => ?_
      exact q v3 [] F3 H3 A1 (s1.trans s3) (m1.up s3) w3 (.dat d3)
theorem em_ixL {i : Int} {k : Nat} (ha : EV K ta env (.lst ds)) (hb : EM K tb env (.dat (dI i)) env1) (h1 : ixP ds.length i = some k) (h2 : ds[k]? = some d) : EM K (tOp (rIxL K) ta tb) env (.dat d) env1 := fun σ F H A O m w Q q =>
  ha σ F H A O m w _ fun v F1 H1 s1 w1 d1 => hb σ F1 H1 A O (m.up s1) w1 _ fun v2 O2 F2 H2 A2 s2 m2 w2 d2 => by
    cases d2 with
    | dat d2 =>
      cases d1 with
      | lst a b =>
        obtain ⟨x, e, dv⟩ := b.atI h1 h2
        exact ⟨_, _, i, x, rfl, d2.int, w2.same.seq (s2.seq a), e, q _ [] F2 H2 A2 (s1.trans s2) m2 w2 (.dat (dv.up s2))⟩
theorem em_atL {α : Type} {r : α → D} {xs : List α} {i : Int} {x : α} (h : atR xs i = .ok x) (ha : EV K ta env (.lst (xs.map r))) (hb : EM K tb env (.dat (dI i)) env1) : EM K (tOp (rIxL K) ta tb) env (.dat (r x)) env1 := by
  obtain ⟨k, g1, g2⟩ := map_at (r := r) h
  exact em_ixL ha hb g1 g2
/-! ### tests -/
theorem etm_test {b : Bool} (h : EM K te env (.dat (dB b)) env') : ETM K (tTest te) env b env' := fun σ F H A O m w Q q => h σ F H A O m w _ fun v O1 F' H' A' s m' w' dd => by
  cases dd with
  | dat dd => exact ⟨b, dd.bl, q F' H' A' s m' w'⟩
theorem etm_b {b : Bool} (h : EM K te env (.dat (dB b)) env') : ETM K (tB te) env b env' := fun σ F H A O m w Q q => h σ F H A O m w _ fun v O1 F' H' A' s m' w' dd => by
  cases dd with
  | dat dd => exact ⟨b, dd.bl, q F' H' A' s m' w'⟩
theorem etm_not {b : Bool} (h : ETM K tt env b env') : ETM K (tNot tt) env (!b) env' := fun σ F H A O m w Q q => h σ F H A O m w _ fun F' H' A' s m' w' => q F' H' A' s m' w'
theorem etm_and {S : Type} {b : Bool} (ε : S → List Slot) {s0 : S} {f : R (Bool × S)} {st : Bool × S} (e : (if b = true then f else .ok (false, s0)) = .ok st) (h : ETM K tt env b (ε s0)) (h2 : b = true → f = .ok st → ETM K tu (ε s0) st.1 (ε st.2)) : ETM K (tAnd tt tu) env st.1 (ε st.2) := fun σ F H A O m w Q q => h σ F H A O m w _ fun F' H' A' s m' w' => by
  cases b with
  | false =>
    rw [if_neg (by decide)] at e
    have e := R.ok_inj e
    cases e
    exact iteF (q F' H' A' s m' w')
  | true =>
    rw [if_pos rfl] at e
    exact iteT (h2 rfl e σ F' H' A' O m' w' _ fun F2 H2 A2 s2 m2 w2 => q F2 H2 A2 (s.trans s2) m2 w2)
theorem etm_or {S : Type} {b : Bool} (ε : S → List Slot) {s0 : S} {f : R (Bool × S)} {st : Bool × S} (e : (if b = true then .ok (true, s0) else f) = .ok st) (h : ETM K tt env b (ε s0)) (h2 : b = false → f = .ok st → ETM K tu (ε s0) st.1 (ε st.2)) : ETM K (tOr tt tu) env st.1 (ε st.2) := fun σ F H A O m w Q q => h σ F H A O m w _ fun F' H' A' s m' w' => by
  cases b with
  | true =>
    rw [if_pos rfl] at e
    have e := R.ok_inj e
    cases e
    exact iteT (q F' H' A' s m' w')
  | false =>
    rw [if_neg (by decide)] at e
    exact iteF (h2 rfl e σ F' H' A' O m' w' _ fun F2 H2 A2 s2 m2 w2 => q F2 H2 A2 (s.trans s2) m2 w2)
/-- .. where only the first test changes -/
theorem etm_andP {b c : Bool} (h : ETM K tt env b env') (h2 : b = true → ET K tu env' c) : ETM K (tAnd tt tu) env (b && c) env' := fun σ F H A O m w Q q => h σ F H A O m w _ fun F' H' A' s m' w' => by
  cases b with
  | false => exact iteF (q F' H' A' s m' w')
  | true => exact iteT (h2 rfl σ F' H' A' O m' w' _ fun F2 H2 s2 w2 => q F2 H2 A' (s.trans s2) (m'.up s2) w2)
theorem etm_orP {b c : Bool} (h : ETM K tt env b env') (h2 : b = false → ET K tu env' c) : ETM K (tOr tt tu) env (b || c) env' := fun σ F H A O m w Q q => h σ F H A O m w _ fun F' H' A' s m' w' => by
  cases b with
  | true => exact iteT (q F' H' A' s m' w')
  | false => exact iteF (h2 rfl σ F' H' A' O m' w' _ fun F2 H2 s2 w2 => q F2 H2 A' (s.trans s2) (m'.up s2) w2)
/-! ### what is walked -/
theorem ivm_rng1 {j : Int} {xs : List Int} (hx : rngR 0 j = .ok xs) (h : EM K te env (.dat (dI j)) env') : IVM K (iRng1 (tCons te tNil)) env env' (xs.map dI) := fun σ F H A O m w Q q => h σ F H A O m w _ fun v O1 F1 H1 A1 s1 m1 w1 d1 => by
  cases d1 with
  | dat d1 =>
    obtain ⟨⟨_, _, h1, h2⟩, e⟩ := rngR_some hx
    rw [d1.int]
    refine ⟨j, rfl, h1, h2, q _ F1 H1 A1 s1 m1 w1 ?_⟩
    rw [e]
    have := walks_rng (K := K) 0 (j - 0).toNat F1
    rw [show j - 0 = j by omega] at this ⊢
    exact this
theorem ivm_list {ds : List D} (h : EM K te env (.dat (.lst ds)) env') : IVM K (iList K te) env env' ds := fun σ F H A O m w Q q => h σ F H A O m w _ fun v O1 F1 H1 A1 s1 m1 w1 d1 => by
  cases d1 with
  | dat d1 =>
    cases d1 with
    | lst a b =>
      refine ⟨_, rfl, ⟨_, w1.same.seq a⟩, q _ F1 H1 A1 s1 m1 w1 ⟨fun i F' H O d s w' hd => ?_, fun i F' H O s w' hl => ⟨_, w'.same.seq (s.seq a), by rw [b.length]; exact hl⟩⟩⟩
      obtain ⟨x, hx, dx⟩ := b.get hd
      refine ⟨⟨_, x, w'.same.seq (s.seq a), hx⟩, fun y H' hy => ?_⟩
      obtain ⟨e1, e2⟩ := hy
      subst e1
      have e3 := e2 _ (w'.same.seq (s.seq a))
      rw [hx] at e3
      cases e3
      exact ⟨F', Same.refl _, w', dx.up s⟩
/-! ### places -/
theorem ep_var {r : T} (h : env[n]? = some (.tr r)) : EP K (tVar n) env n [] := fun σ F H A O m w Q q => by
  obtain ⟨v, O1, A1, A2, e, h1, h2, h3, _, _⟩ := m.getT h
  refine ⟨v, h1, q v F H (Same.refl F) w ⟨r, A1, O1, A2, getAt_root h, e, h2, fun F' t' O1' s z => ?_⟩⟩
  rw [putAt_root h]
  exact h3 F' t' O1' s z
theorem ep_ix {a : Option Addr} {ts : List T} {k : Nat} (h : EP K te env n π) (hg : getAt env n π = some (.lst a ts)) (hi : EV K tb env (dI i)) (hk : ixP ts.length i = some k) : EP K (tOp (rIxL K) te tb) env n (π ++ [.ix k]) := fun σ F H A O m w Q q =>
  h σ F H A O m w _ fun v F1 H1 s1 w1 pl => hi σ F1 H1 A O (m.up s1) w1 _ fun u F2 H2 s2 w2 d2 => by
    obtain ⟨t, A1, O1, A2, g1, e, g3, g4⟩ := pl.up s2
    rw [hg] at g1
    cases g1
    cases g3 with
    | @lst _ p vs _ P nm hs =>
      have hlt := (ixP_some hk).1
      obtain ⟨y, hy⟩ : ∃ y, ts[k]? = some y := ⟨ts[k], by simp [hlt]⟩
      obtain ⟨v', B1, P1, B2, e2, r1, r2, r3⟩ := hs.at hy
      have hp := (w2.has (p, .lst vs) (by rw [e]; simp)).2
      refine ⟨p, vs, i, v', rfl, d2.int, .of hp, atI_ixP (by rw [hs.length]; exact hk) r1, q v' F2 H2 (s1.trans s2) w2 ?_⟩
      subst e2
      refine ⟨y, A1 ++ (p, .lst vs) :: B1, P1, B2 ++ A2, by rw [getAt_snoc hg, T.get_ix hy, T.get_nil], by rw [e]; simp, r2, fun F' t' O1' s z => ?_⟩
      rw [putAt_snoc hg, T.put_ix hy, T.put_nil]
      have z2 := g4 F' _ _ s (.lst nm (r3 F' t' O1' s z))
      simpa using z2
theorem ep_fld {a : Option Addr} {C : Addr} {fs : List (Str × T)} {f : Str} (h : EP K te env n π) (hg : getAt env n π = some (.ins a C fs)) (hc : Cls K C) (hn : NoAttr K C f) (hf : (fs.lookup f).isSome = true) : EP K (tFld K te f) env n (π ++ [.fld f]) := fun σ F H A O m w Q q =>
  h σ F H A O m w _ fun v F1 H1 s1 w1 pl => by
    obtain ⟨t, A1, O1, A2, g1, e, g3, g4⟩ := pl
    rw [hg] at g1
    cases g1
    cases g3 with
    | @ins _ p _ dx us _ P nm hs =>
      obtain ⟨y, hy⟩ := Option.isSome_iff_exists.mp hf
      obtain ⟨v', B1, P1, B2, e2, r1, r2, r3⟩ := hs.at hy
      have hp := (w1.has (p, .ins C dx us) (by rw [e]; simp)).2
      refine ⟨p, C, dx, us, v', rfl, hp, hc, hn, r1, q v' F1 H1 s1 w1 ?_⟩
      subst e2
      refine ⟨y, A1 ++ (p, .ins C dx us) :: (dx, .own p) :: B1, P1, B2 ++ A2, by rw [getAt_snoc hg, T.get_fld hy, T.get_nil], by rw [e]; simp, r2, fun F' t' O1' s z => ?_⟩
      rw [putAt_snoc hg, T.put_fld hy, T.put_nil]
      have z2 := g4 F' _ _ s (TR.ins (C := C) (dx := dx) nm (r3 F' t' O1' s z))
      simpa using z2
/-- a datum that stands at a place -/
theorem ev_pl (h : EP K te env n π) (hg : getAt env n π = some (.dat d)) : EV K te env d := fun σ F H A O m w Q q => h σ F H A O m w _ fun v F1 H1 s1 w1 pl => by
  obtain ⟨t, A1, O1, A2, g1, e, g3, g4⟩ := pl
  rw [hg] at g1
  cases g1
  cases g3 with
  | dat dd => exact q v F1 H1 s1 w1 dd
theorem ev_lenPl {a : Option Addr} {ts : List T} (h : EP K te env n π) (hg : getAt env n π = some (.lst a ts)) : EV K (tCB (rLenP K) (tCons te tNil)) env (dI (ts.length : Nat)) := fun σ F H A O m w Q q => h σ F H A O m w _ fun v F1 H1 s1 w1 pl => by
  obtain ⟨t, A1, O1, A2, g1, e, g3, g4⟩ := pl
  rw [hg] at g1
  cases g1
  cases g3 with
  | @lst _ p vs _ P nm hs =>
    have hp := (w1.has (p, .lst vs) (by rw [e]; simp)).2
    exact ⟨_, ts.length, rfl, .inl ⟨_, .of hp, hs.length.symm⟩, q _ F1 H1 s1 w1 (.v _)⟩
/-- the address of a named thing -/
theorem em_adr {t : T} {q : Addr} (h : EP K te env n π) (hg : getAt env n π = some t) (hq : t.name = some q) : EM K te env (.adr q) env := fun σ F H A O m w Q k => h σ F H A O m w _ fun v F1 H1 s1 w1 pl => by
  obtain ⟨t, A1, O1, A2, g1, e, g3, g4⟩ := pl
  rw [hg] at g1
  cases g1
  have := g3.at_name hq
  subst this
  exact k _ [] F1 H1 A s1 (m.up s1) w1 .adr
/-- what a slot owns, taken out of it -/
theorem em_move {t : T} (h : env[n]? = some (.tr t)) : EM K (tVar n) env t (env.set n .un) := fun σ F H A O m w Q q => by
  obtain ⟨v, O1, A1, A2, e, h1, h2, h3, _, h6⟩ := m.getT h
  subst e
  refine ⟨v, h1, q v O1 F H (A1 ++ A2) (Same.refl F) (h6 F (Same.refl F)) (w.perm ?_) h2⟩
  have e1 : A1 ++ (O1 ++ A2) ++ O = A1 ++ (O1 ++ (A2 ++ O)) := by simp
  have e2 : O1 ++ (A1 ++ A2 ++ O) = O1 ++ (A1 ++ (A2 ++ O)) := by simp
  rw [e1, e2]
  exact perm_front _ _ _
/-- names given for a while -/
theorem em_name {t : T} {envq : Addr → List Slot} (h : getAt env n π = some t) (ho : t.isObj = true) (he : ∀ q, EM K te (putAt env n π (t.nm (some q))) x (envq q)) (hu : ∀ q, ∃ t1, getAt (envq q) n π = some t1 ∧ putAt (envq q) n π (t1.nm none) = env') : EM K te env x env' := fun σ F H A O m w Q q => by
  obtain ⟨v, A1, O1, A2, e, g2, g3⟩ := m.focus h
  obtain ⟨p, rfl⟩ := g2.ref ho
  have m2 := g3 F _ _ (Same.refl F) g2.named
  refine he p σ F H _ O m2 (by rw [← e]; exact w) Q fun v2 O2 F' H' A' s m' w' dd => ?_
  obtain ⟨t1, h1, h2⟩ := hu p
  obtain ⟨v3, B1, P1, B2, e3, r2, r3⟩ := m'.focus h1
  have m3 := r3 F' _ _ (Same.refl F') r2.unnamed
  rw [h2] at m3
  exact q v2 O2 F' H' _ s m3 (by rw [← e3]; exact w') dd
/-! ### arguments that are owned by the caller's frame -/
/-- from the frame and the arguments' trees: the callee's slots, and what is left of the frame -/
inductive Take : List Slot → List T → List Slot → List Slot → Prop
  | nil {env : List Slot} : Take env [] [] env
  | dat {env env' as : List Slot} {d : D} {xs : List T} : Take env xs as env' → Take env (.dat d :: xs) (.dat d :: as) env'
  | new {env env' as : List Slot} {x : T} {xs : List T} : Take env xs as env' → Take env (x :: xs) (.tr x :: as) env'
  | pl {env env' as : List Slot} {n : Nat} {π : List Stp} {t : T} {q : Addr} {s : Slot} {xs : List T} : getAt env n π = some t → t.name = some q → s = .tr (t.nm none) → Take (putAt env n π (.adr q)) xs as env' → Take env (.adr q :: xs) (s :: as) env'
theorem Take.run : ∀ {env xs as env'}, Take env xs as env' → ∀ {σ : L2.St} {A : List (Addr × HO)} {vs : List V} {O1 : List (Addr × HO)}, Match K F σ env A → TRs K F vs xs O1 →
    ∃ O2 A', Match K F (vs.map some) as O2 ∧ Match K F σ env' A' ∧ ∀ F' H O, Own F' H (O1 ++ (A ++ O)) → Own F' H (O2 ++ (A' ++ O))
  | _, _, _, _, .nil, σ, A, vs, O1, m, h => by
    cases h
    exact ⟨[], A, .nil, m, fun _ _ _ w => w⟩
  | _, _, _, _, .dat k, σ, A, vs, O1, m, h => by
    cases h with
    | cons a b =>
      cases a with
      | dat a =>
        obtain ⟨O2, A', h1, h2, h3⟩ := k.run m b
        exact ⟨O2, A', .dat a h1, h2, h3⟩
  | _, _, _, _, .new k, σ, A, vs, O1, m, h => by
    cases h with
    | @cons v _ vs _ P1 P2 a b =>
      obtain ⟨O2, A', h1, h2, h3⟩ := k.run m b
      refine ⟨P1 ++ O2, A', .tr a h1, h2, fun F' H O w => ?_⟩
      have w2 : Own F' H (P2 ++ (A ++ (P1 ++ O))) := w.perm (by
        have e1 : P1 ++ P2 ++ (A ++ O) = P1 ++ ((P2 ++ A) ++ O) := by simp
        rw [e1]
        refine (perm_front P1 (P2 ++ A) O).trans ?_
        rw [List.append_assoc])
      have w3 := h3 F' H _ w2
      refine w3.perm ?_
      have e1 : O2 ++ (A' ++ (P1 ++ O)) = (O2 ++ A') ++ (P1 ++ O) := by simp
      rw [e1]
      refine (perm_front (O2 ++ A') P1 O).trans ?_
      simp
  | _, _, _, _, .pl (q := q) g gn es k, σ, A, vs, O1, m, h => by
    subst es
    cases h with
    | cons a b =>
      cases a with
      | adr =>
        obtain ⟨v, A1, P1, A2, e, g2, g3⟩ := m.focus g
        have hv := g2.at_name gn
        subst hv
        have m2 := g3 F (.adr q) [] (Same.refl F) .adr
        obtain ⟨O2, A', h1, h2, h3⟩ := k.run m2 b
        refine ⟨P1 ++ O2, A', .tr g2.unnamed h1, h2, fun F' H O w => ?_⟩
        rename_i P2
        have w : Own F' H (P2 ++ (A ++ O)) := w
        subst e
        have w2 : Own F' H (P2 ++ ((A1 ++ ([] ++ A2)) ++ (P1 ++ O))) := w.perm (List.Perm.append_left _ (by
          have e1 : A1 ++ (P1 ++ A2) ++ O = A1 ++ (P1 ++ (A2 ++ O)) := by simp
          have e2 : A1 ++ ([] ++ A2) ++ (P1 ++ O) = A1 ++ (A2 ++ (P1 ++ O)) := by simp
          rw [e1, e2]
          exact List.Perm.append_left _ (perm_front P1 A2 O)))
        have w3 := h3 F' H _ w2
        refine w3.perm ?_
        have e1 : O2 ++ (A' ++ (P1 ++ O)) = (O2 ++ A') ++ (P1 ++ O) := by simp
        rw [e1]
        refine (perm_front (O2 ++ A') P1 O).trans ?_
        simp
/-- .. and back -/
inductive Give : List Slot → List T → List Slot → List Slot → Prop
  | nil {env : List Slot} : Give env [] [] env
  | skip {env env' os : List Slot} {s : Slot} {x : T} {xs : List T} : Give env xs os env' → Give env (x :: xs) (s :: os) env'
  | pl {env env' os : List Slot} {n : Nat} {π : List Stp} {t : T} {q : Addr} {xs : List T} (a : Option Addr) : getAt env n π = some (.adr q) → (a = none ∨ a = some q) → Give (putAt env n π (t.nm a)) xs os env' → Give env (.adr q :: xs) (.tr t :: os) env'
theorem Give.run : ∀ {env xs os env'}, Give env xs os env' → ∀ {σ : L2.St} {A : List (Addr × HO)} {vs : List V} {F0 : Hp} {O1 O2 : List (Addr × HO)}, Match K F σ env A → TRs K F0 vs xs O1 → Match K F (vs.map some) os O2 →
    ∃ A', Match K F σ env' A' ∧ ∀ H O, Own F H (O2 ++ (A ++ O)) → Own F H (A' ++ O)
  | _, _, _, _, .nil, σ, A, vs, F0, O1, O2, m, h, h2 => by
    cases h
    cases h2
    exact ⟨A, m, fun _ _ w => w⟩
  | _, _, _, _, .skip k, σ, A, vs, F0, O1, O2, m, h, h2 => by
    cases h with
    | cons a b =>
      cases h2 with
      | un h2 => exact k.run m b h2
      | dat _ h2 => exact k.run m b h2
      | tr c h2 =>
        obtain ⟨A', g1, g2⟩ := k.run m b h2
        exact ⟨A', g1, fun H O w => g2 H O (by rw [List.append_assoc] at w; exact w.sub (List.sublist_append_right _ _))⟩
  | _, _, _, _, .pl (q := q) a g ga k, σ, A, vs, F0, O1, O2, m, h, h2 => by
    cases h with
    | cons c b =>
      cases c with
      | adr =>
        cases h2 with
        | @tr _ _ _ _ P1 P2 c2 h2 =>
          obtain ⟨v, A1, R1, A2, e, g2, g3⟩ := m.focus g
          cases g2 with
          | adr =>
            rename_i t0 _ _ _
            have c3 : TR K F (.ref q) (T.nm a t0) P1 := by
              rcases ga with rfl | rfl
              · exact c2.unnamed
              · exact c2.named
            have m2 := g3 F _ _ (Same.refl F) c3
            obtain ⟨A', r1, r2⟩ := k.run m2 b h2
            refine ⟨A', r1, fun H O w => r2 H O (w.perm ?_)⟩
            subst e
            have e1 : P1 ++ P2 ++ (A1 ++ ([] ++ A2) ++ O) = P1 ++ ((P2 ++ A1) ++ (A2 ++ O)) := by simp
            have e2 : P2 ++ (A1 ++ (P1 ++ A2) ++ O) = (P2 ++ A1) ++ (P1 ++ (A2 ++ O)) := by simp
            rw [e1, e2]
            exact perm_front _ _ _
/-- a def that may change what it is handed: the slots of its arguments, its outcome, what becomes of the slots -/
def spT (K : PySem.W.Frag) {ι β : Type} (args : ι → List Slot) (f : ι → R β) (res : β → Sum T Value) (outs : ι → β → List Slot) : Sp := fun vs H Q E =>
  ∃ (x : ι) (F : Hp) (O O1 : List (Addr × HO)) (b : β), Match K F (vs.map some) (args x) O1 ∧ Own F H (O1 ++ O) ∧ f x = .ok b ∧
    (∀ y, res b = .inl y → ∀ v F' H' O1' O2, Same F F' → Match K F' (vs.map some) (outs x b) O1' → Own F' H' (O2 ++ (O1' ++ O)) → TR K F' v y O2 → Q v H') ∧
    (∀ c, res b = .inr c → ∀ F' H' O1', Same F F' → Match K F' (vs.map some) (outs x b) O1' → Own F' H' (O1' ++ O) → E c none H')
theorem em_callT {ι β : Type} {args : ι → List Slot} {f : ι → R β} {res : β → Sum T Value} {outs : ι → β → List Slot} {ta : TA} {E' : XK} (x : ι) {b : β} {xs : List T} {y : T} (hf : f x = .ok b) (hy : res b = .inl y)
    (ha : EAM K ta env xs env1) (ht : Take env1 xs (args x) env2) (hg : Give env2 xs (outs x b) env3) : EM K (tCall (spT K args f res outs) [] E' ta) env y env3 := fun σ F H A O m w Q q =>
  ha σ F H A O m w _ fun vs O1 F1 H1 A1 s1 m1 w1 d1 => by
    obtain ⟨O2, A2, t1, t2, t3⟩ := ht.run m1 d1
    have w2 := t3 F1 H1 O w1
    refine ⟨x, F1, A2 ++ O, O2, b, by rw [List.append_nil]; exact t1, w2, hf, fun y' hy' v F' H' O1' O3 s mo wo dv => ?_, fun c hc => by rw [hy] at hc; cases hc⟩
    rw [hy] at hy'
    cases hy'
    rw [List.append_nil] at mo
    obtain ⟨A3, g1, g2⟩ := hg.run (t2.up s) d1 mo
    have w3 : Own F' H' (O1' ++ (A2 ++ (O3 ++ O))) := wo.perm (by
      have e1 : O3 ++ (O1' ++ (A2 ++ O)) = O3 ++ ((O1' ++ A2) ++ O) := by simp
      rw [e1]
      refine (perm_front O3 (O1' ++ A2) O).trans ?_
      simp)
    exact q v O3 F' H' A3 (s1.trans s) g1 (g2 H' _ w3).front dv
/-! ### the body of such a def -/
/-- the slots' roots told by the addresses that came in -/
def nmS (p : Nat → Addr) : Nat → List Slot → List Slot
  | _, [] => []
  | k, Slot.tr t :: r => Slot.tr (T.nm (some (p k)) t) :: nmS p (k + 1) r
  | k, s :: r => s :: nmS p (k + 1) r
/-- what has become of them, at the end -/
inductive Rk (p : Nat → Addr) : Nat → List Slot → List Slot → Prop
  | nil {k : Nat} {e : List Slot} : Rk p k e []
  | un {k : Nat} {e os : List Slot} {s : Slot} : Rk p (k + 1) e os → Rk p k (s :: e) (.un :: os)
  | tr {k : Nat} {e os : List Slot} {t : T} {s : Slot} (hs : s = .tr (t.nm (some (p k)))) (h1 : t.nm none = t) (h2 : (t.nm (some (p k))).name = some (p k)) : Rk p (k + 1) e os → Rk p k (s :: e) (.tr t :: os)
/-- what comes back stood among the arguments as an object -/
def okS : List Slot → List Slot → Bool
  | .tr t :: as, .tr _ :: os => t.isObj && okS as os
  | _ :: as, .un :: os => okS as os
  | [], [] => true
  | _, _ => false
def vAdr (vs : List V) (k : Nat) : Addr := match vs[k]? with
  | some (.ref a) => a
  | _ => (0 : Nat)
theorem vAdr_ref {vs us : List V} {k : Nat} {q : Addr} (hv : ∀ j, (V.ref q :: us)[j]? = vs[k + j]?) : vAdr vs k = q := by
  have := hv 0
  simp at this
  unfold vAdr
  rw [← this]
theorem vs_next {u : V} {vs us : List V} {k : Nat} (hv : ∀ j, (u :: us)[j]? = vs[k + j]?) : ∀ j, us[j]? = vs[k + 1 + j]? := fun j => by
  have := hv (j + 1)
  rw [show k + 1 + j = k + (j + 1) by omega, ← this]; simp
theorem nmS_match (vs : List V) : ∀ (us : List V) (k : Nat) {as : List Slot} {O : List (Addr × HO)}, (∀ j, us[j]? = vs[k + j]?) → Match K F (us.map some) as O → Match K F (us.map some) (nmS (vAdr vs) k as) O
  | [], k, _, _, _, m => by cases m; exact .nil
  | u :: us, k, _, _, hv, m => by
    have hv2 := vs_next hv
    cases m with
    | un m => exact .un (nmS_match vs us (k + 1) hv2 m)
    | dat d m => exact .dat d (nmS_match vs us (k + 1) hv2 m)
    | @tr _ t _ _ _ _ d m =>
      refine .tr ?_ (nmS_match vs us (k + 1) hv2 m)
      by_cases ho : t.isObj = true
      · obtain ⟨q, rfl⟩ := d.ref ho
        rw [vAdr_ref hv]
        exact d.named
      · cases d with
        | dat d => exact .dat d
        | lst => simp [T.isObj] at ho
        | ins => simp [T.isObj] at ho
        | dK => simp [T.isObj] at ho
        | dT => simp [T.isObj] at ho
        | adr => exact .adr
theorem Rk.run (vs : List V) : ∀ {k : Nat} {e os as : List Slot} {F0 : Hp} {O0 : List (Addr × HO)}, Rk (vAdr vs) k e os → ∀ {σ : L2.St} {A : List (Addr × HO)} {us : List V}, okS as os = true → Match K F0 (us.map some) as O0 → (∀ j, us[j]? = vs[k + j]?) →
    Match K F σ e A → ∃ A', Match K F (us.map some) os A' ∧ A'.Sublist A
  | k, _, _, as, F0, O0, .nil, σ, A, us, hs, h0, hv, m => by
    match us, as, h0, hs with
    | [], [], _, _ => exact ⟨[], .nil, List.nil_sublist _⟩
    | _ :: _, _ :: _, _, hs => simp [okS] at hs
  | k, _, _, as, F0, O0, .un (os := os) r, σ, A, us, hs, h0, hv, m => by
    match us, as, h0, hs with
    | u :: us, a :: as, h0, hs =>
      have hs2 : okS as os = true := by cases a <;> exact hs
      have h02 : ∃ O, Match K F0 (us.map some) as O := by
        cases h0 with
        | un m => exact ⟨_, m⟩
        | dat _ m => exact ⟨_, m⟩
        | tr _ m => exact ⟨_, m⟩
      obtain ⟨O, h02⟩ := h02
      cases m with
      | un m =>
        obtain ⟨A', a, b⟩ := Rk.run vs r hs2 h02 (vs_next hv) m
        exact ⟨A', .un a, b⟩
      | dat d m =>
        obtain ⟨A', a, b⟩ := Rk.run vs r hs2 h02 (vs_next hv) m
        exact ⟨A', .un a, b⟩
      | tr d m =>
        obtain ⟨A', a, b⟩ := Rk.run vs r hs2 h02 (vs_next hv) m
        exact ⟨A', .un a, b.trans (List.sublist_append_right _ _)⟩
    | [], [], _, hs => simp [okS] at hs
  | k, _, _, as, F0, O0, .tr (os := os) (t := t) hss h1 h2 r, σ, A, us, hs, h0, hv, m => by
    subst hss
    match us, as, h0, hs with
    | u :: us, .tr t0 :: as, h0, hs =>
      have hs2 := Bool.and_eq_true_iff.mp hs
      cases h0 with
      | tr d0 m0 =>
        obtain ⟨q, rfl⟩ := d0.ref hs2.1
        have e := vAdr_ref hv
        cases m with
        | @tr v _ _ _ P1 P2 d m =>
          obtain ⟨A', a, b⟩ := Rk.run vs r hs2.2 m0 (vs_next hv) m
          have hq := d.at_name h2
          rw [e] at hq
          subst hq
          have d2 := d.unnamed
          have e3 : (t.nm (some (vAdr vs k))).nm none = t := by
            rw [← h1]; cases t <;> rfl
          rw [e3] at d2
          exact ⟨P1 ++ A', .tr d2 a, (List.Sublist.refl _).append b⟩
    | [], [], _, hs => simp [okS] at hs
    | u :: us, .un :: as, h0, hs => simp [okS] at hs
    | u :: us, .dat _ :: as, h0, hs => simp [okS] at hs
/-- a body's way of its exceptions, told of as the def's -/
theorem spT_run {ι β : Type} {args : ι → List Slot} {f : ι → R β} {res : β → Sum T Value} {outs : ι → β → List Slot} {N : List Str} {vs : List V} {H : Hp} {Q : VK} {E : XK} {t : TS} (n k : Nat) (hN : N.length = n + k) (hn : ∀ x, (args x).length = n) (ho : ∀ x b, okS (args x) (outs x b) = true)
    (hb : ∀ x b (p : Nat → Addr), f x = .ok b → SW K (fun c d _ H => E c d H) t (nmS p 0 (args x) ++ List.replicate k .un) (fun e => res b = .inl (.dat (.v .non)) ∧ Rk p 0 e (outs x b)) (fun e y => res b = .inl y ∧ Rk p 0 e (outs x b)) fun e c => res b = .inr c ∧ Rk p 0 e (outs x b))
    (h : spT K args f res outs vs H Q E) : t { nx := fun _ H' => Q .non H', rt := Q } (L2.start N vs) H := by
  obtain ⟨x, F, O, O1, b, m, w, hf, q1, q2⟩ := h
  have len : ∀ {us : List V} {as : List Slot} {O : List (Addr × HO)}, Match K F (us.map some) as O → us.length = as.length := by
    intro us
    induction us with
    | nil => intro as O m; cases m; rfl
    | cons u us ih =>
      intro as O m
      cases m with
      | un m => simp [ih m]
      | dat _ m => simp [ih m]
      | tr _ m => simp [ih m]
  have hl : vs.length = n := (len m).trans (hn x)
  have ms : ∀ {us : List V} {as : List Slot} {O : List (Addr × HO)}, Match K F (us.map some) as O → Match K F (us.map some ++ List.replicate k none) (as ++ List.replicate k .un) O := by
    intro us
    induction us with
    | nil => intro as O m; cases m; exact match_un k
    | cons u us ih =>
      intro as O m
      cases m with
      | un m => exact .un (ih m)
      | dat d m => exact .dat d (ih m)
      | tr d m => exact .tr d (ih m)
  have m2 := ms (nmS_match vs vs 0 (fun j => by simp) m)
  unfold L2.start
  rw [show N.length - vs.length = k by omega]
  refine hb x b (vAdr vs) hf _ F H O1 O m2 w _ ?_ ?_ ?_
  · rintro e σ' F' H' A' ⟨hr, rk⟩ s m' w'
    obtain ⟨A2, g1, g2⟩ := Rk.run vs rk (ho x b) m (fun j => by simp) m'
    exact q1 _ hr .non F' H' A2 [] s g1 (w'.subA g2) (.dat (.v _))
  · rintro e y v σ' F' H' A' O2 ⟨hr, rk⟩ s m' w' dv
    obtain ⟨A2, g1, g2⟩ := Rk.run vs rk (ho x b) m (fun j => by simp) m'
    exact q1 _ hr v F' H' A2 O2 s g1 (w'.sub ((List.Sublist.refl _).append (g2.append (List.Sublist.refl _)))) dv
  · rintro e c σ' F' H' A' ⟨hr, rk⟩ s m' w'
    obtain ⟨A2, g1, g2⟩ := Rk.run vs rk (ho x b) m (fun j => by simp) m'
    exact q2 _ hr F' H' A2 s g1 (w'.subA g2)
end
end Pg

set_option Elab.async false
set_option linter.all false
set_option maxRecDepth 100000
namespace Pg
open PySem PySem.Spec PyProof.Rows L2
section
variable {K : PySem.W.Frag} {E : WX} {env env1 env2 env' : List Slot} {t u : TS} {te ta tb ti : TE} {tt : TT} {x y : T} {d e : D} {ds es : List D} {i j : Int} {n : Nat} {π : List Stp} {Nx : List Slot → Prop} {Rt : List Slot → T → Prop} {Ex : List Slot → Value → Prop} {g : TG} {na : Option Addr}
theorem match_len {F : Hp} : ∀ {σ : L2.St} {env : List Slot} {A : List (Addr × HO)}, Match K F σ env A → σ.length = env.length
  | _, _, _, .nil => rfl
  | _, _, _, .un m => by rw [List.length_cons, List.length_cons, match_len m]
  | _, _, _, .dat _ m => by rw [List.length_cons, List.length_cons, match_len m]
  | _, _, _, .tr _ m => by rw [List.length_cons, List.length_cons, match_len m]
/-- an outcome stored -/
theorem Match.setT {F : Hp} {σ : L2.St} {A O1 : List (Addr × HO)} (i : Nat) {v : V} (m : Match K F σ env A) (h : TR K F v x O1) (hl : i < env.length) :
    ∃ A', Match K F (σ.set i (some v)) (env.set i x.slot) A' ∧ ∀ H O, Own F H (O1 ++ (A ++ O)) → Own F H (A' ++ O) := by
  by_cases hx : ∃ d, x = .dat d
  · obtain ⟨d, rfl⟩ := hx
    cases h with
    | dat h =>
      obtain ⟨A', s, m'⟩ := m.set i h
      exact ⟨A', m', fun H O w => w.sub (s.append (List.Sublist.refl O))⟩
  · have hs : x.slot = .tr x := by
      cases x with
      | dat d => exact absurd ⟨d, rfl⟩ hx
      | _ => rfl
    rw [hs]
    obtain ⟨A1, B, A2, e, s, m'⟩ := m.putT i h hl
    refine ⟨_, m', fun H O w => ?_⟩
    subst e
    have w2 : Own F H (O1 ++ ((A1 ++ B) ++ O)) := w.sub ((List.Sublist.refl O1).append (((List.Sublist.refl A1).append s).append (List.Sublist.refl O)))
    refine w2.perm ?_
    have e1 : O1 ++ ((A1 ++ B) ++ O) = O1 ++ (A1 ++ (B ++ O)) := by simp
    have e2 : A1 ++ (O1 ++ B) ++ O = A1 ++ (O1 ++ (B ++ O)) := by simp
    rw [e1, e2]
    exact perm_front _ _ _
theorem sw_setM (h : EM K te env x env') (hl : n < env'.length) (hn : Nx (env'.set n x.slot)) : SW K E (tAsg te (gName n)) env Nx Rt Ex := fun σ F H A O m w Dn q1 q2 q4 =>
  h σ F H A O m w _ fun v O1 F1 H1 A1 s1 m1 w1 d1 => by
    obtain ⟨A', m', w'⟩ := m1.setT n d1 hl
    exact q1 _ _ F1 H1 A' hn s1 m' (w' H1 O w1)
theorem sw_dropM (h : EM K te env x env') (hn : Nx env') : SW K E (tDrop te) env Nx Rt Ex := fun σ F H A O m w Dn q1 q2 q4 =>
  h σ F H A O m w _ fun v O1 F1 H1 A1 s1 m1 w1 d1 => q1 _ σ F1 H1 A1 hn s1 m1 (w1.sub (List.sublist_append_right O1 _))
theorem sw_retM (h : EM K te env x env') (hr : Rt env' x) : SW K E (tRet te) env Nx Rt Ex := fun σ F H A O m w Dn q1 q2 q4 =>
  h σ F H A O m w _ fun v O1 F1 H1 A1 s1 m1 w1 d1 => q2 _ x v σ F1 H1 A1 O1 hr s1 m1 w1 d1
theorem sw_ifM {c : Bool} (h : ETM K tt env c env') (h1 : c = true → SW K E t env' Nx Rt Ex) (h2 : c = false → SW K E u env' Nx Rt Ex) : SW K E (tIfS tt t u) env Nx Rt Ex := fun σ F H A O m w Dn q1 q2 q4 =>
  h σ F H A O m w _ fun F1 H1 A1 s1 m1 w1 => by
    have k : ∀ {t : TS}, SW K E t env' Nx Rt Ex → t Dn σ H1 := fun z => z σ F1 H1 A1 O m1 w1 Dn (fun a b c d f y s => q1 a b c d f y (s1.trans s)) (fun e x v a b c d f z s => q2 e x v a b c d f z (s1.trans s)) fun e c a b d f z s => q4 e c a b d f z (s1.trans s)
    cases c with
    | true => exact iteT (k (h1 rfl))
    | false => exact iteF (k (h2 rfl))
theorem sw_asgGM {js : List Nat} (h : EM K te env (.dat d) env1) (hg : GT K g js d env1 env') (hn : Nx env') : SW K E (tAsg te g) env Nx Rt Ex := fun σ F H A O m w Dn q1 q2 q4 =>
  h σ F H A O m w _ fun v O1 F1 H1 A1 s1 m1 w1 d1 => by
    cases d1 with
    | dat d1 =>
      have w1 : Own F1 H1 (A1 ++ O) := w1
      exact hg.2 σ v F1 H1 A1 O m1 w1 d1 _ fun σ' A' sb _ m' _ => q1 _ _ F1 H1 A' hn s1 m' (w1.subA sb)
/-- the frame told otherwise: what changes no value -/
theorem sw_match (h : ∀ (σ : L2.St) (F H : Hp) (A O : List (Addr × HO)), Match K F σ env A → Own F H (A ++ O) → ∃ F' A', Same F F' ∧ Match K F' σ env' A' ∧ Own F' H (A' ++ O)) (hn : SW K E t env' Nx Rt Ex) : SW K E t env Nx Rt Ex := fun σ F H A O m w Dn q1 q2 q4 => by
  obtain ⟨F1, A', s12, m', w'⟩ := h σ F H A O m w
  exact hn σ F1 H A' O m' w' Dn (fun a b c d f z s => q1 a b c d f z (s12.trans s)) (fun e x v a b c d f z s => q2 e x v a b c d f z (s12.trans s)) fun e c a b d f z s => q4 e c a b d f z (s12.trans s)
/-- a root told by its address for what follows -/
theorem sw_name {t0 : T} (h : getAt env n π = some t0) (ho : t0.isObj = true) (hn : ∀ q, SW K E t (putAt env n π (t0.nm (some q))) Nx Rt Ex) : SW K E t env Nx Rt Ex := fun σ F H A O m w Dn q1 q2 q4 => by
  obtain ⟨v, A1, O1, A2, e, g2, g3⟩ := m.focus h
  obtain ⟨p, rfl⟩ := g2.ref ho
  exact hn p σ F H _ O (g3 F _ _ (Same.refl F) g2.named) (by rw [← e]; exact w) Dn q1 q2 q4
theorem sw_unname {t0 : T} (h : getAt env n π = some t0) (hn : SW K E t (putAt env n π (t0.nm none)) Nx Rt Ex) : SW K E t env Nx Rt Ex :=
  sw_match (fun σ F H A O m w => by
    obtain ⟨v, A1, O1, A2, e, g2, g3⟩ := m.focus h
    exact ⟨F, _, Same.refl F, g3 F _ _ (Same.refl F) g2.unnamed, by rw [← e]; exact w⟩) hn
/-- what a slot owns frozen -/
theorem sw_frzT {t0 : T} (h : env[n]? = some (.tr t0)) (hf : t0.fzOk = true) (hn : SW K E t (env.set n (.dat t0.fz)) Nx Rt Ex) : SW K E t env Nx Rt Ex :=
  sw_match (fun σ F H A O m w => by
    obtain ⟨v, O1, A1, A2, e, h1, h2, _, h5, _⟩ := m.getT h
    subst e
    have w2 : Own F H (O1 ++ ((A1 ++ A2) ++ O)) := w.perm (by
      have e1 : A1 ++ (O1 ++ A2) ++ O = A1 ++ (O1 ++ (A2 ++ O)) := by simp
      have e2 : O1 ++ ((A1 ++ A2) ++ O) = O1 ++ (A1 ++ (A2 ++ O)) := by simp
      rw [e1, e2]
      exact perm_front _ _ _)
    obtain ⟨F1, s1, w1, d1⟩ := h2.frz _ hf w2
    exact ⟨F1, _, s1, h5 F1 _ s1 d1, w1⟩) hn
/-! ### changes at places -/
theorem TRs.atV {F : Hp} : ∀ {vs : List V} {ts : List T} {O : List (Addr × HO)} {k : Nat} {t : T}, TRs K F vs ts O → ts[k]? = some t →
    ∃ v A O1 B, O = A ++ (O1 ++ B) ∧ vs[k]? = some v ∧ TR K F v t O1 ∧ ∀ F' v' t' O1', Same F F' → TR K F' v' t' O1' → TRs K F' (vs.set k v') (ts.set k t') (A ++ (O1' ++ B))
  | _, _, _, _, _, .nil, e => by simp at e
  | _, _, _, 0, _, .cons a b, e => by
    simp at e; subst e
    exact ⟨_, [], _, _, rfl, rfl, a, fun F' v' t' O1' s h => by have z := TRs.cons h (b.up s); exact z⟩
  | _, _, _, k + 1, t, .cons (O1 := P) a b, e => by
    obtain ⟨v, A, O1, B, h1, h2, h3, h4⟩ := TRs.atV (k := k) (t := t) b (by simpa using e)
    refine ⟨v, P ++ A, O1, B, by rw [h1, List.append_assoc], by simpa using h2, h3, fun F' v' t' O1' s h => ?_⟩
    have z := TRs.cons (a.up s) (h4 F' v' t' O1' s h)
    rw [List.append_assoc]
    exact z
theorem TRf.atV {F : Hp} : ∀ {us : List (Str × V)} {fs : List (Str × T)} {O : List (Addr × HO)} {f : Str} {t : T}, TRf K F us fs O → fs.lookup f = some t →
    ∃ v A O1 B, O = A ++ (O1 ++ B) ∧ us.lookup f = some v ∧ TR K F v t O1 ∧ ∀ F' v' t' O1', Same F F' → TR K F' v' t' O1' → TRf K F' (setF f v' us) (setF f t' fs) (A ++ (O1' ++ B))
  | _, _, _, _, _, .nil, e => by simp at e
  | _, _, _, f, t, .cons (f := g) (O1 := P) a b, e => by
    rw [List.lookup_cons] at e
    by_cases hg : (f == g) = true
    · rw [hg] at e
      simp at e; subst e
      refine ⟨_, [], _, _, rfl, by rw [List.lookup_cons, hg], a, fun F' v' t' O1' s h => ?_⟩
      unfold setF
      rw [if_pos hg, if_pos hg]
      have z := TRf.cons (f := g) h (b.up s); exact z
    · have hg' : (f == g) = false := by simpa using hg
      rw [hg'] at e
      obtain ⟨v, A, O1, B, h1, h2, h3, h4⟩ := TRf.atV (f := f) (t := t) b e
      refine ⟨v, P ++ A, O1, B, by rw [h1, List.append_assoc], by rw [List.lookup_cons, hg']; exact h2, h3, fun F' v' t' O1' s h => ?_⟩
      unfold setF
      rw [if_neg hg, if_neg hg, List.append_assoc]
      have z := TRf.cons (f := g) (a.up s) (h4 F' v' t' O1' s h)
      exact z
theorem TRf.append {F : Hp} : ∀ {vs ws : List (Str × V)} {ts us : List (Str × T)} {O O' : List (Addr × HO)}, TRf K F vs ts O → TRf K F ws us O' → TRf K F (vs ++ ws) (ts ++ us) (O ++ O')
  | _, _, _, _, _, _, .nil, h => h
  | _, _, _, _, _, _, .cons (f := g) a b, h => by
    have z := TRf.cons (f := g) a (TRf.append b h)
    rw [List.append_assoc]
    exact z
/-- a list at a place -/
theorem Pl.list {F : Hp} {σ : L2.St} {A : List (Addr × HO)} {v : V} {ts : List T} (pl : Pl K F σ env A n π v) (hg : getAt env n π = some (.lst na ts)) :
    ∃ p vs P A1 A2, v = .ref p ∧ A = A1 ++ (((p, .lst vs) :: P) ++ A2) ∧ TRs K F vs ts P ∧
      ∀ (F' : Hp) (vs' : List V) (ts' : List T) (P' : List (Addr × HO)), Same F F' → TRs K F' vs' ts' P' → Match K F' σ (putAt env n π (.lst na ts')) (A1 ++ (((p, .lst vs') :: P') ++ A2)) := by
  obtain ⟨t, A1, O1, A2, g1, e, g3, g4⟩ := pl
  rw [hg] at g1
  cases g1
  cases g3 with
  | @lst _ p vs _ P nm hs => exact ⟨p, vs, P, A1, A2, rfl, e, hs, fun F' vs' ts' P' s hs' => g4 F' _ _ s (.lst nm hs')⟩
/-- .. an instance -/
theorem Pl.inst {F : Hp} {σ : L2.St} {A : List (Addr × HO)} {v : V} {C : Addr} {fs : List (Str × T)} (pl : Pl K F σ env A n π v) (hg : getAt env n π = some (.ins na C fs)) :
    ∃ p dx us P A1 A2, v = .ref p ∧ A = A1 ++ (((p, .ins C dx us) :: (dx, .own p) :: P) ++ A2) ∧ TRf K F us fs P ∧
      ∀ (F' : Hp) (us' : List (Str × V)) (fs' : List (Str × T)) (P' : List (Addr × HO)), Same F F' → TRf K F' us' fs' P' → Match K F' σ (putAt env n π (.ins na C fs')) (A1 ++ (((p, .ins C dx us') :: (dx, .own p) :: P') ++ A2)) := by
  obtain ⟨t, A1, O1, A2, g1, e, g3, g4⟩ := pl
  rw [hg] at g1
  cases g1
  cases g3 with
  | @ins _ p _ dx us _ P nm hs => exact ⟨p, dx, us, P, A1, A2, rfl, e, hs, fun F' us' fs' P' s hs' => g4 F' _ _ s (TR.ins (C := C) (dx := dx) nm hs')⟩
theorem Pl.dK {F : Hp} {σ : L2.St} {A : List (Addr × HO)} {v : V} {kvs : List (L2.Key × D)} (pl : Pl K F σ env A n π v) (hg : getAt env n π = some (.dK na kvs)) :
    ∃ p us A1 A2, v = .ref p ∧ A = A1 ++ ([(p, .dK us)] ++ A2) ∧ Datm K F us kvs ∧
      ∀ (F' : Hp) (us' : List (L2.Key × V)) (kvs' : List (L2.Key × D)), Same F F' → Datm K F' us' kvs' → Match K F' σ (putAt env n π (.dK na kvs')) (A1 ++ ([(p, .dK us')] ++ A2)) := by
  obtain ⟨t, A1, O1, A2, g1, e, g3, g4⟩ := pl
  rw [hg] at g1
  cases g1
  cases g3 with
  | @dK _ p us _ nm hs => exact ⟨p, us, A1, A2, rfl, e, hs, fun F' us' kvs' s hs' => g4 F' _ _ s (.dK nm hs')⟩
theorem Pl.dT {F : Hp} {σ : L2.St} {A : List (Addr × HO)} {v : V} {kvs : List (List L2.Key × D)} (pl : Pl K F σ env A n π v) (hg : getAt env n π = some (.dT na kvs)) :
    ∃ p us A1 A2, v = .ref p ∧ A = A1 ++ ([(p, .dT us)] ++ A2) ∧ Datm K F us kvs ∧
      ∀ (F' : Hp) (us' : List (List L2.Key × V)) (kvs' : List (List L2.Key × D)), Same F F' → Datm K F' us' kvs' → Match K F' σ (putAt env n π (.dT na kvs')) (A1 ++ ([(p, .dT us')] ++ A2)) := by
  obtain ⟨t, A1, O1, A2, g1, e, g3, g4⟩ := pl
  rw [hg] at g1
  cases g1
  cases g3 with
  | @dT _ p us _ nm hs => exact ⟨p, us, A1, A2, rfl, e, hs, fun F' us' kvs' s hs' => g4 F' _ _ s (.dT nm hs')⟩
/-- an object within what is owned given other contents; what it owned and what is new go over -/
theorem own_upd {F H : Hp} {p : Addr} {o o' : HO} {A1 A2 O R P P' M : List (Addr × HO)} (hP : ∃ S : List (Addr × HO), S.Sublist (R ++ P) ∧ S.Perm P') (w : Own F H (R ++ ((A1 ++ (((p, o) :: (M ++ P)) ++ A2)) ++ O))) :
    Own F (upd H p o') ((A1 ++ (((p, o') :: (M ++ P')) ++ A2)) ++ O) := by
  obtain ⟨S, s1, s2⟩ := hP
  have w2 : Own F H ((p, o) :: ((R ++ P) ++ (M ++ (A1 ++ (A2 ++ O))))) := w.perm (by
    have e1 : R ++ ((A1 ++ (((p, o) :: (M ++ P)) ++ A2)) ++ O) = (R ++ A1) ++ ((p, o) :: ((M ++ P) ++ (A2 ++ O))) := by simp
    rw [e1]
    refine List.perm_middle.trans (List.Perm.cons _ ?_)
    have e2 : (R ++ A1) ++ ((M ++ P) ++ (A2 ++ O)) = R ++ (A1 ++ ((M ++ P) ++ (A2 ++ O))) := by simp
    have e3 : (R ++ P) ++ (M ++ (A1 ++ (A2 ++ O))) = R ++ (P ++ (M ++ (A1 ++ (A2 ++ O)))) := by simp
    rw [e2, e3]
    refine List.Perm.append_left R ?_
    refine (perm_front A1 (M ++ P) (A2 ++ O)).trans ?_
    rw [List.append_assoc]
    exact perm_front M P _)
  have w3 := (w2.sub ((s1.append (List.Sublist.refl _)).cons₂ _)).put (o' := o')
  refine w3.perm ?_
  have e1 : (A1 ++ (((p, o') :: (M ++ P')) ++ A2)) ++ O = A1 ++ ((p, o') :: ((M ++ P') ++ (A2 ++ O))) := by simp
  rw [e1]
  refine List.Perm.trans (List.Perm.cons _ ?_) List.perm_middle.symm
  refine (List.Perm.append_right _ s2).trans ?_
  have e2 : P' ++ (M ++ (A1 ++ (A2 ++ O))) = P' ++ (M ++ (A1 ++ (A2 ++ O))) := rfl
  refine (perm_front P' M _).trans ?_
  have e3 : M ++ (P' ++ (A1 ++ (A2 ++ O))) = (M ++ P') ++ (A1 ++ (A2 ++ O)) := by simp
  rw [e3]
  exact perm_front _ _ _
theorem own_updL {F H : Hp} {p : Addr} {o o' : HO} {A1 A2 O R P P' : List (Addr × HO)} (hP : ∃ S : List (Addr × HO), S.Sublist (R ++ P) ∧ S.Perm P') (w : Own F H (R ++ ((A1 ++ (((p, o) :: P) ++ A2)) ++ O))) :
    Own F (upd H p o') ((A1 ++ (((p, o') :: P') ++ A2)) ++ O) := own_upd (M := []) hP w
variable (K) in
/-- a new tree, the frame's own untouched -/
def EW (te : TE) (env : List Slot) (x : T) : Prop := ∀ (σ : L2.St) (F H : Hp) (A O : List (Addr × HO)), Match K F σ env A → Own F H (A ++ O) → ∀ Q : VK,
  (∀ v O1 F' H', Same F F' → Own F' H' (O1 ++ (A ++ O)) → TR K F' v x O1 → Q v H') → te σ H Q
theorem ew_ev (h : EV K te env d) : EW K te env (.dat d) := fun σ F H A O m w Q q => h σ F H A O m w Q fun v F' H' s w' dd => q v [] F' H' s w' (.dat dd)
theorem ew_en (h : EN K te env ds) : EW K te env (.lst none (ds.map T.dat)) := fun σ F H A O m w Q q => h σ F H A O m w Q fun p vs F' H' s w' dd => q _ [(p, .lst vs)] F' H' s w' (.lst (fun _ z => nomatch z) dd.tree)
theorem ew_en2 {os : List OD} (h : EN2 K te env os) : EW K te env (.lst none (os.map OD.toT)) := fun σ F H A O m w Q q => h σ F H A O m w Q fun p vs F' H' O1 s w' dd => q _ ((p, .lst vs) :: O1) F' H' s w' (.lst (fun _ z => nomatch z) dd.tree)
theorem EW.m (h : EW K te env x) : EM K te env x env := fun σ F H A O m w Q q => h σ F H A O m w Q fun v O1 F' H' s w' dd => q v O1 F' H' A s (m.up s) w' dd
/-- place.append(e) -/
theorem sw_appP {ts : List T} (hp : EP K ta env n π) (hg : getAt env n π = some (.lst na ts)) (hl : ts.length < 16777216) (he : EW K te env x) (hn : Nx (putAt env n π (.lst na (ts ++ [x])))) :
    SW K E (tDrop (tBM K "list" rAppend ta (tCons te tNil))) env Nx Rt Ex := fun σ F H A O m w Dn q1 q2 q4 =>
  hp σ F H A O m w _ fun v F1 H1 s1 w1 pl => by
    obtain ⟨p, vs, P, A1, A2, rfl, e, hs, hr⟩ := pl.list hg
    refine ⟨.inl ⟨rfl, vs, .of (w1.has (p, .lst vs) (by rw [e]; simp)).2⟩, he σ F1 H1 A O (m.up s1) w1 _ fun v O1 F2 H2 s2 w2 d2 => ?_⟩
    refine ⟨p, vs, v, rfl, rfl, (w2.has (p, .lst vs) (by rw [e]; simp)).2, by rw [hs.length, sizeLine_eq]; exact hl, ?_⟩
    subst e
    have z := TRs.append (hs.up s2) (TRs.cons d2 .nil)
    exact q1 _ σ F2 _ _ hn (s1.trans s2) (hr F2 _ _ _ s2 z) (own_updL ⟨O1 ++ P, List.Sublist.refl _, by rw [List.append_nil]; exact List.perm_append_comm⟩ w2)
/-- place[i] = e -/
theorem sw_putP {ts : List T} {k : Nat} (he : EW K te env x) (hp : EP K ta env n π) (hg : getAt env n π = some (.lst na ts)) (hi : EV K ti env (dI i)) (hk : ixP ts.length i = some k) (hn : Nx (putAt env n π (.lst na (ts.set k x)))) :
    SW K E (tAsg te (gSub ta ti rSetL)) env Nx Rt Ex := fun σ F H A O m w Dn q1 q2 q4 =>
  he σ F H A O m w _ fun v O1 F1 H1 s1 w1 d1 => by
    refine hp σ F1 H1 A (O1 ++ O) (m.up s1) w1.front _ fun u F2 H2 s2 w2 pl => hi σ F2 H2 A (O1 ++ O) (m.up (s1.trans s2)) w2 _ fun y F3 H3 s3 w3 d3 => ?_
    obtain ⟨p, vs, P, A1, A2, rfl, e, hs, hr⟩ := (pl.up s3).list hg
    refine ⟨p, vs, i, k, rfl, d3.int, (w3.has (p, .lst vs) (by rw [e]; simp)).2, by rw [← ixP_ixN, hs.length]; exact hk, ?_⟩
    subst e
    have hlt := (ixP_some hk).1
    obtain ⟨y, hy⟩ : ∃ y, ts[k]? = some y := ⟨ts[k], by simp [hlt]⟩
    obtain ⟨v', B1, P1, B2, e2, r1, r2, r3⟩ := TRs.atV hs hy
    subst e2
    have z := r3 F3 v x O1 (Same.refl F3) (d1.up (s2.trans s3))
    refine q1 _ σ F3 _ _ hn (s1.trans (s2.trans s3)) (hr F3 _ _ _ (Same.refl F3) z) (own_updL ⟨O1 ++ (B1 ++ B2), (List.Sublist.refl O1).append ((List.Sublist.refl B1).append (List.sublist_append_right P1 B2)), perm_front _ _ _⟩ w3.front)
/-- place.f = e, a field that is there -/
theorem putF_set {f : Str} {v : V} : ∀ {us : List (Str × V)}, (us.lookup f).isSome = true → putF f v us = setF f v us
  | [], h => by simp at h
  | (g, y) :: us, h => by
    unfold putF setF
    by_cases e : g = f
    · subst e
      rw [if_pos rfl, if_pos (by simp)]
    · have e2 : ¬ (f == g) = true := by simp; exact fun z => e z.symm
      rw [if_neg e, if_neg e2, putF_set (by rw [List.lookup_cons, show (f == g) = false by simpa using e2] at h; exact h)]
theorem putF_new {f : Str} {v : V} : ∀ {us : List (Str × V)}, us.lookup f = none → putF f v us = us ++ [(f, v)]
  | [], h => rfl
  | (g, y) :: us, h => by
    unfold putF
    by_cases e : g = f
    · subst e
      simp at h
    · have e2 : ¬ (f == g) = true := by simp; exact fun z => e z.symm
      rw [if_neg e, putF_new (by rw [List.lookup_cons, show (f == g) = false by simpa using e2] at h; exact h)]
      rfl
theorem sw_fldP {C : Addr} {fs : List (Str × T)} {f : Str} (he : EW K te env x) (hp : EP K ta env n π) (hg : getAt env n π = some (.ins na C fs)) (hc : Cls K C) (hna : NoAttr K C f) (hl : fs.length < 1000) (hf : (fs.lookup f).isSome = true) (hn : Nx (putAt env n π (.ins na C (setF f x fs)))) :
    SW K E (sFld K ta te f) env Nx Rt Ex := fun σ F H A O m w Dn q1 q2 q4 =>
  he σ F H A O m w _ fun v O1 F1 H1 s1 w1 d1 => by
    refine hp σ F1 H1 A (O1 ++ O) (m.up s1) w1.front _ fun u F2 H2 s2 w2 pl => ?_
    obtain ⟨p, dx, us, P, A1, A2, rfl, e, hs, hr⟩ := pl.inst hg
    refine ⟨p, C, dx, us, rfl, (w2.has (p, .ins C dx us) (by rw [e]; simp)).2, hc, hna, by rw [hs.length]; exact hl, ?_⟩
    subst e
    obtain ⟨y, hy⟩ := Option.isSome_iff_exists.mp hf
    obtain ⟨v', B1, P1, B2, e2, r1, r2, r3⟩ := TRf.atV hs hy
    subst e2
    rw [putF_set (by rw [r1]; rfl)]
    have z := r3 F2 v x O1 (Same.refl F2) (d1.up s2)
    refine q1 _ σ F2 _ _ hn (s1.trans s2) (hr F2 _ _ _ (Same.refl F2) z) (own_upd (M := [(dx, .own p)]) ⟨O1 ++ (B1 ++ B2), (List.Sublist.refl O1).append ((List.Sublist.refl B1).append (List.sublist_append_right P1 B2)), perm_front _ _ _⟩ w2.front)
/-- .. a new one -/
theorem sw_fldN {C : Addr} {fs : List (Str × T)} {f : Str} (he : EW K te env x) (hp : EP K ta env n π) (hg : getAt env n π = some (.ins na C fs)) (hc : Cls K C) (hna : NoAttr K C f) (hl : fs.length < 1000) (hf : fs.lookup f = none) (hn : Nx (putAt env n π (.ins na C (fs ++ [(f, x)])))) :
    SW K E (sFld K ta te f) env Nx Rt Ex := fun σ F H A O m w Dn q1 q2 q4 =>
  he σ F H A O m w _ fun v O1 F1 H1 s1 w1 d1 => by
    refine hp σ F1 H1 A (O1 ++ O) (m.up s1) w1.front _ fun u F2 H2 s2 w2 pl => ?_
    obtain ⟨p, dx, us, P, A1, A2, rfl, e, hs, hr⟩ := pl.inst hg
    refine ⟨p, C, dx, us, rfl, (w2.has (p, .ins C dx us) (by rw [e]; simp)).2, hc, hna, by rw [hs.length]; exact hl, ?_⟩
    subst e
    rw [putF_new (hs.none hf)]
    have z := TRf.append hs (TRf.cons (f := f) (d1.up s2) .nil)
    refine q1 _ σ F2 _ _ hn (s1.trans s2) (hr F2 _ _ _ (Same.refl F2) z) (own_upd (M := [(dx, .own p)]) ⟨O1 ++ P, List.Sublist.refl _, by rw [List.append_nil]; exact List.perm_append_comm⟩ w2.front)
end
end Pg

set_option Elab.async false
set_option linter.all false
set_option maxRecDepth 100000
namespace Pg
open PySem PySem.Spec PyProof.Rows L2
section
variable {K : PySem.W.Frag} {E : WX} {env env1 env2 env' : List Slot} {t u : TS} {te ta tb ti : TE} {tt : TT} {x y : T} {d e : D} {ds es : List D} {i j : Int} {n : Nat} {π : List Stp} {Nx : List Slot → Prop} {Rt : List Slot → T → Prop} {Ex : List Slot → Value → Prop} {g : TG} {na : Option Addr}
/-! ### xs.append(e), where e changes what is owned -/
theorem sw_appM {ts ts1 : List T} {envq : Addr → List Slot} (h : env[n]? = some (.tr (.lst na ts))) (he : ∀ q, EM K te (env.set n (.tr (.lst (some q) ts))) x (envq q)) (h1 : ∀ q, (envq q)[n]? = some (.tr (.lst (some q) ts1))) (hl : ts1.length < 16777216)
    (hn : ∀ q, Nx ((envq q).set n (.tr (.lst na (ts1 ++ [x]))))) : SW K E (tDrop (tBM K "list" rAppend (tVar n) (tCons te tNil))) env Nx Rt Ex := fun σ F H A O m w Dn q1 q2 q4 => by
  obtain ⟨v, O1, A1, A2, e, g1, g2, g3, _, _⟩ := m.getT h
  cases g2 with
  | @lst _ p vs _ P nm hs =>
    have m2 := g3 F _ _ (Same.refl F) (.lst (a := some p) (fun _ z => Option.some.inj z) hs)
    refine ⟨_, g1, .inl ⟨rfl, vs, .of (w.has (p, .lst vs) (by rw [e]; simp)).2⟩, ?_⟩
    refine he p σ F H _ O m2 (by rw [← e]; exact w) _ fun v O2 F2 H2 A' s2 m' w2 d2 => ?_
    obtain ⟨v', O3, B1, B2, e2, r1, r2, r3, _, _⟩ := m'.getT (h1 p)
    rw [g1] at r1
    cases r1
    cases r2 with
    | @lst _ _ vs2 _ P2 nm2 hs2 =>
      refine ⟨p, vs2, v, rfl, rfl, (w2.has (p, .lst vs2) (by rw [e2]; simp)).2, by rw [hs2.length, sizeLine_eq]; exact hl, ?_⟩
      have z := TRs.append hs2 (TRs.cons d2 .nil)
      subst e2
      exact q1 _ σ F2 _ _ (hn p) s2 (r3 F2 _ _ (Same.refl F2) (.lst nm z)) (own_updL ⟨O2 ++ P2, List.Sublist.refl _, by rw [List.append_nil]; exact List.perm_append_comm⟩ w2)
/-! ### pops -/
theorem popR_some {α : Type} {xs ys : List α} (h : popR xs = .ok ys) : xs ≠ [] ∧ ys = xs.dropLast := by
  unfold popR at h
  split at h
  · cases h
  · rename_i z
    exact ⟨fun q => z (by rw [q]; rfl), (R.ok_inj h).symm⟩
theorem TRs.dropLast {F : Hp} : ∀ {vs : List V} {ts : List T} {O : List (Addr × HO)}, TRs K F vs ts O → ∃ O', O'.Sublist O ∧ TRs K F vs.dropLast ts.dropLast O'
  | _, _, _, .nil => ⟨[], .slnil, .nil⟩
  | _, _, _, .cons (vs := []) (ts := []) a .nil => ⟨[], List.nil_sublist _, .nil⟩
  | _, _, _, .cons (vs := v :: vs) (ts := t :: ts) a b => by
    obtain ⟨O', s, h⟩ := TRs.dropLast b
    exact ⟨_, (List.Sublist.refl _).append s, .cons a h⟩
/-- place.pop() -/
theorem sw_popP {ts : List T} (hp : EP K ta env n π) (hg : getAt env n π = some (.lst na ts)) (h0 : ts ≠ []) (hn : Nx (putAt env n π (.lst na ts.dropLast))) :
    SW K E (tDrop (tBM0 K "list" rPop ta)) env Nx Rt Ex := fun σ F H A O m w Dn q1 q2 q4 =>
  hp σ F H A O m w _ fun v F1 H1 s1 w1 pl => by
    obtain ⟨p, vs, P, A1, A2, rfl, e, hs, hr⟩ := pl.list hg
    have hH := (w1.has (p, .lst vs) (by rw [e]; simp)).2
    have hl := hs.length
    have hpos : 0 < vs.length := by rw [hl]; exact List.length_pos_iff.mpr h0
    refine ⟨.inl ⟨rfl, vs, .of hH⟩, p, vs, vs[vs.length - 1], rfl, rfl, hH, by simp, ?_⟩
    obtain ⟨O', s, h⟩ := TRs.dropLast hs
    subst e
    exact q1 _ σ F1 _ _ hn s1 (hr F1 _ _ _ (Same.refl F1) h) (own_updL (R := []) ⟨O', s, List.Perm.refl _⟩ w1)
/-! ### dicts -/
section
variable {κ κ' β : Type} [DecidableEq κ] [DecidableEq κ']
theorem Datm.any {F : Hp} (k : κ) : ∀ {us : List (κ × V)} {kvs : List (κ × D)}, Datm K F us kvs → (us.any fun p => decide (p.1 = k)) = hasA kvs k
  | _, _, .nil => rfl
  | _, _, .cons _ b => by
    unfold hasA
    rw [List.any_cons, List.any_cons, Datm.any k b]; rfl
theorem Datm.isSome {F : Hp} {k : κ} {us : List (κ × V)} {kvs : List (κ × D)} (h : Datm K F us kvs) : (valV us k).isSome = hasA kvs k := by rw [← valV_any, h.any k]
theorem Datm.getS {F : Hp} {k : κ} {d : D} : ∀ {us : List (κ × V)} {kvs : List (κ × D)}, Datm K F us kvs → getA kvs k = some d → ∃ v, valV us k = some v ∧ Dat K F v d
  | _, _, .nil, e => by simp [getA] at e
  | _, _, .cons (f := f) a b, e => by
    by_cases hf : f = k
    · subst hf
      unfold getA at e
      rw [List.find?_cons, decide_eq_true rfl] at e
      have e : some _ = some d := e
      cases e
      exact ⟨_, valV_pos rfl, a⟩
    · unfold getA at e
      rw [List.find?_cons, decide_eq_false hf] at e
      obtain ⟨v, h1, h2⟩ := Datm.getS b e
      exact ⟨v, by rw [valV_neg hf]; exact h1, h2⟩
theorem Datm.map {F : Hp} {k : κ} {v : V} {d : D} (hd : Dat K F v d) : ∀ {us : List (κ × V)} {kvs : List (κ × D)}, Datm K F us kvs → Datm K F (us.map fun p => if p.1 = k then (p.1, v) else p) (kvs.map fun p => if p.1 = k then (p.1, d) else p)
  | _, _, .nil => .nil
  | _, _, .cons (f := f) a b => by
    rw [List.map_cons, List.map_cons]
    by_cases hf : f = k
    · rw [if_pos hf, if_pos hf]; exact .cons hd (Datm.map hd b)
    · rw [if_neg hf, if_neg hf]; exact .cons a (Datm.map hd b)
theorem Datm.snoc {F : Hp} {k : κ} {v : V} {d : D} (hd : Dat K F v d) : ∀ {us : List (κ × V)} {kvs : List (κ × D)}, Datm K F us kvs → Datm K F (us ++ [(k, v)]) (kvs ++ [(k, d)])
  | _, _, .nil => .cons hd .nil
  | _, _, .cons a b => .cons a (Datm.snoc hd b)
theorem Datm.put {F : Hp} {k : κ} {v : V} {d : D} {us : List (κ × V)} {kvs : List (κ × D)} (h : Datm K F us kvs) (hd : Dat K F v d) : Datm K F (putK us k v) (putA kvs k d) := by
  unfold putK putA
  rw [h.any k]
  unfold hasA
  split
  · exact Datm.map hd h
  · exact Datm.snoc hd h
theorem Datm.length {F : Hp} : ∀ {us : List (κ × V)} {kvs : List (κ × D)}, Datm K F us kvs → us.length = kvs.length
  | _, _, .nil => rfl
  | _, _, .cons _ b => by rw [List.length_cons, List.length_cons, Datm.length b]
/-- a dict's pairs as data -/
def repK (kr : κ → κ') (r : β → D) (xs : List (κ × β)) : List (κ' × D) := xs.map fun p => (kr p.1, r p.2)
theorem repK_any {kr : κ → κ'} {r : β → D} (hk : ∀ a b, kr a = kr b → a = b) (k : κ) : ∀ xs : List (κ × β), hasA (repK kr r xs) (kr k) = hasA xs k
  | [] => rfl
  | p :: xs => by
    have ih := repK_any (r := r) hk k xs
    unfold hasA repK at ih ⊢
    rw [List.map_cons, List.any_cons, List.any_cons, ih]
    congr 1
    by_cases h : p.1 = k
    · rw [decide_eq_true h, decide_eq_true (by rw [h])]
    · rw [decide_eq_false h, decide_eq_false fun z => h (hk _ _ z)]
theorem repK_put {kr : κ → κ'} {r : β → D} (hk : ∀ a b, kr a = kr b → a = b) (k : κ) (v : β) (xs : List (κ × β)) : repK kr r (putA xs k v) = putA (repK kr r xs) (kr k) (r v) := by
  have ha := repK_any (r := r) hk k xs
  unfold hasA at ha
  unfold putA
  rw [ha]
  split
  · unfold repK
    rw [List.map_map, List.map_map]
    refine List.map_congr_left fun p _ => ?_
    show (kr (if p.1 = k then (p.1, v) else p).1, r (if p.1 = k then (p.1, v) else p).2) = if kr p.1 = kr k then (kr p.1, r v) else (kr p.1, r p.2)
    by_cases h : p.1 = k
    · rw [if_pos h, if_pos (by rw [h])]
    · rw [if_neg h, if_neg fun z => h (hk _ _ z)]
  · unfold repK
    rw [List.map_append]; rfl
theorem repK_get {kr : κ → κ'} {r : β → D} (hk : ∀ a b, kr a = kr b → a = b) (k : κ) {v : β} : ∀ {xs : List (κ × β)}, getA xs k = some v → getA (repK kr r xs) (kr k) = some (r v)
  | [], e => by simp [getA] at e
  | p :: xs, e => by
    unfold getA repK at *
    rw [List.map_cons]
    rw [List.find?_cons] at e ⊢
    by_cases h : p.1 = k
    · rw [decide_eq_true h] at e
      rw [decide_eq_true (show kr p.1 = kr k by rw [h])]
      simp only at e ⊢
      have e : some p.2 = some v := e
      cases e; rfl
    · rw [decide_eq_false h] at e
      rw [decide_eq_false fun z => h (hk _ _ z)]
      exact repK_get hk k e
end
theorem putR_some {κ β : Type} [DecidableEq κ] {xs ys : List (κ × β)} {k : κ} {v : β} (h : putR xs k v = .ok ys) : xs.length < 16777216 ∧ ys = putA xs k v := by
  unfold putR at h
  split at h
  · exact ⟨by assumption, (R.ok_inj h).symm⟩
  · cases h
theorem ew_dK : EW K tDNewK env (.dK none []) := fun σ F H A O m w Q q p np => q _ [(p, .dK [])] F _ (Same.refl F) (w.new np) (.dK (fun _ z => nomatch z) .nil)
theorem ew_dT : EW K tDNewT env (.dT none []) := fun σ F H A O m w Q q p np => q _ [(p, .dT [])] F _ (Same.refl F) (w.new np) (.dT (fun _ z => nomatch z) .nil)
abbrev kT2 (p : Int × Int) : List L2.Key := [.inl p.1, .inl p.2]
theorem kT2_inj : ∀ a b : Int × Int, kT2 a = kT2 b → a = b := fun a b h => by
  injection h with h1 h2
  injection h2 with h2 _
  exact Prod.ext (Sum.inl.inj h1) (Sum.inl.inj h2)
/-- a tuple key written in its place -/
theorem tup_key {F H : Hp} {A O : List (Addr × HO)} {σ : L2.St} (hi : EV K ta env (dI i)) (hj : EV K tb env (dI j)) (m : Match K F σ env A) (w : Own F H (A ++ O)) {Q : VK}
    (q : ∀ b F' H', Same F F' → Own F' H' (A ++ O) → F' b = some (.tup ((kT2 (i, j)).map kV)) → Q (.ref b) H') : tTup (tCons ta (tCons tb tNil)) σ H Q :=
  hi σ F H A O m w _ fun v F1 H1 s1 w1 d1 => hj σ F1 H1 A O (m.up s1) w1 _ fun v2 F2 H2 s2 w2 d2 => ⟨by show 2 ≤ sizeLine; exact Nat.le_of_ble_eq_true rfl, fun p np => by
    obtain ⟨w3, s3⟩ := w2.newF (o := .tup [v, v2]) np
    refine q p _ _ (s1.trans (s2.trans s3)) w3 ?_
    rw [upd_same, d1.int, d2.int]; rfl⟩
/-- (a, b) in d -/
theorem ev_inT {β : Type} {r : β → D} {xs : List ((Int × Int) × β)} {td : TE} (hi : EV K ta env (dI i)) (hj : EV K tb env (dI j)) (hp : EP K td env n π) (hg : getAt env n π = some (.dT na (repK kT2 r xs))) :
    EV K (tDIn (tTup (tCons ta (tCons tb tNil))) td) env (dB (hasA xs (i, j))) := fun σ F H A O m w Q q =>
  tup_key hi hj m w fun b F1 H1 s1 w1 hb => hp σ F1 H1 A O (m.up s1) w1 _ fun v F2 H2 s2 w2 pl => by
    obtain ⟨p, us, A1, A2, rfl, e, hs, _⟩ := pl.dT hg
    have hH := (w2.has (p, .dT us) (by rw [e]; simp)).2
    refine ⟨p, _, rfl, DGet.t hH (w2.same _ _ (s2 _ _ hb)), ?_⟩
    rw [hs.isSome, repK_any kT2_inj]
    exact q _ F2 H2 (s1.trans s2) w2 (.v _)
theorem ev_notinT {β : Type} {r : β → D} {xs : List ((Int × Int) × β)} {td : TE} (hi : EV K ta env (dI i)) (hj : EV K tb env (dI j)) (hp : EP K td env n π) (hg : getAt env n π = some (.dT na (repK kT2 r xs))) :
    EV K (tDNotIn (tTup (tCons ta (tCons tb tNil))) td) env (dB (!hasA xs (i, j))) := fun σ F H A O m w Q q =>
  tup_key hi hj m w fun b F1 H1 s1 w1 hb => hp σ F1 H1 A O (m.up s1) w1 _ fun v F2 H2 s2 w2 pl => by
    obtain ⟨p, us, A1, A2, rfl, e, hs, _⟩ := pl.dT hg
    have hH := (w2.has (p, .dT us) (by rw [e]; simp)).2
    refine ⟨p, _, rfl, DGet.t hH (w2.same _ _ (s2 _ _ hb)), ?_⟩
    rw [hs.isSome, repK_any kT2_inj]
    exact q _ F2 H2 (s1.trans s2) w2 (.v _)
/-- d[(a, b)] = e -/
theorem sw_dputT {β : Type} {r : β → D} {xs ys : List ((Int × Int) × β)} {td tv : TE} {b : β} (hx : putR xs (i, j) b = .ok ys) (hv : EV K tv env (r b)) (hp : EP K td env n π) (hg : getAt env n π = some (.dT na (repK kT2 r xs))) (hi : EV K ta env (dI i)) (hj : EV K tb env (dI j)) (hn : Nx (putAt env n π (.dT na (repK kT2 r ys)))) :
    SW K E (sDPut td (tTup (tCons ta (tCons tb tNil))) tv) env Nx Rt Ex := fun σ F H A O m w Dn q1 q2 q4 =>
  hv σ F H A O m w _ fun v F0 H0 s0 w0 d0 => hp σ F0 H0 A O (m.up s0) w0 _ fun u F1 H1 s1 w1 pl => tup_key hi hj (m.up (s0.trans s1)) w1 fun b' F2 H2 s2 w2 hb => by
    obtain ⟨hl, ey⟩ := putR_some hx
    subst ey
    obtain ⟨p, us, A1, A2, rfl, e, hs, hr⟩ := (pl.up s2).dT hg
    have hH := (w2.has (p, .dT us) (by rw [e]; simp)).2
    have z := hs.put (k := kT2 (i, j)) (d0.up (s1.trans s2))
    rw [← repK_put kT2_inj] at z
    refine ⟨p, _, rfl, DPut.t hH (w2.same _ _ hb) (by rw [hs.length, sizeLine_eq]; unfold repK; rw [List.length_map]; exact hl), ?_⟩
    subst e
    exact q1 _ σ F2 _ _ hn (s0.trans (s1.trans s2)) (hr F2 _ _ (Same.refl F2) z) (own_updL (R := []) (P := []) (P' := []) ⟨[], List.Sublist.refl _, List.Perm.refl _⟩ w2)
/-! ### dicts by whole numbers -/
abbrev kI (i : Int) : L2.Key := .inl i
theorem kI_inj : ∀ a b : Int, kI a = kI b → a = b := fun a b h => Sum.inl.inj h
theorem kV_I (i : Int) : kV (kI i) = .int i := rfl
theorem ev_inI {β : Type} {r : β → D} {xs : List (Int × β)} {td : TE} (hi : EV K ta env (dI i)) (hp : EP K td env n π) (hg : getAt env n π = some (.dK na (repK kI r xs))) :
    EV K (tDIn ta td) env (dB (hasA xs i)) := fun σ F H A O m w Q q =>
  hi σ F H A O m w _ fun y F1 H1 s1 w1 d1 => hp σ F1 H1 A O (m.up s1) w1 _ fun v F2 H2 s2 w2 pl => by
    obtain ⟨p, us, A1, A2, rfl, e, hs, _⟩ := pl.dK hg
    have hH := (w2.has (p, .dK us) (by rw [e]; simp)).2
    have g := DGet.k (k := kI i) hH
    rw [d1.int]
    refine ⟨p, _, rfl, g, ?_⟩
    rw [hs.isSome, repK_any kI_inj]
    exact q _ F2 H2 (s1.trans s2) w2 (.v _)
theorem ev_notinI {β : Type} {r : β → D} {xs : List (Int × β)} {td : TE} (hi : EV K ta env (dI i)) (hp : EP K td env n π) (hg : getAt env n π = some (.dK na (repK kI r xs))) :
    EV K (tDNotIn ta td) env (dB (!hasA xs i)) := fun σ F H A O m w Q q =>
  hi σ F H A O m w _ fun y F1 H1 s1 w1 d1 => hp σ F1 H1 A O (m.up s1) w1 _ fun v F2 H2 s2 w2 pl => by
    obtain ⟨p, us, A1, A2, rfl, e, hs, _⟩ := pl.dK hg
    have hH := (w2.has (p, .dK us) (by rw [e]; simp)).2
    have g := DGet.k (k := kI i) hH
    rw [d1.int]
    refine ⟨p, _, rfl, g, ?_⟩
    rw [hs.isSome, repK_any kI_inj]
    exact q _ F2 H2 (s1.trans s2) w2 (.v _)
theorem sw_dputI {β : Type} {r : β → D} {xs ys : List (Int × β)} {td tv : TE} {b : β} (hx : putR xs i b = .ok ys) (hv : EV K tv env (r b)) (hp : EP K td env n π) (hg : getAt env n π = some (.dK na (repK kI r xs))) (hi : EV K ta env (dI i)) (hn : Nx (putAt env n π (.dK na (repK kI r ys)))) :
    SW K E (sDPut td ta tv) env Nx Rt Ex := fun σ F H A O m w Dn q1 q2 q4 =>
  hv σ F H A O m w _ fun v F0 H0 s0 w0 d0 => hp σ F0 H0 A O (m.up s0) w0 _ fun u F1 H1 s1 w1 pl => hi σ F1 H1 A O (m.up (s0.trans s1)) w1 _ fun y F2 H2 s2 w2 d2 => by
    obtain ⟨hl, ey⟩ := putR_some hx
    subst ey
    obtain ⟨p, us, A1, A2, rfl, e, hs, hr⟩ := (pl.up s2).dK hg
    have hH := (w2.has (p, .dK us) (by rw [e]; simp)).2
    have z := hs.put (k := kI i) (d0.up (s1.trans s2))
    rw [← repK_put kI_inj] at z
    have g := DPut.k (k := kI i) (v := v) hH (by rw [hs.length, sizeLine_eq]; unfold repK; rw [List.length_map]; exact hl)
    rw [d2.int]
    refine ⟨p, _, rfl, g, ?_⟩
    subst e
    exact q1 _ σ F2 _ _ hn (s0.trans (s1.trans s2)) (hr F2 _ _ (Same.refl F2) z) (own_updL (R := []) (P := []) (P' := []) ⟨[], List.Sublist.refl _, List.Perm.refl _⟩ w2)
/-! ### lists of what may be missing -/
theorem dL_some {α : Type} {r : α → D} (xs : List α) : xs.map r = (xs.map some).map (dO r) := by rw [List.map_map]; rfl
theorem ev_optL {α : Type} {r : α → D} {xs : List α} (h : EV K te env (dL r xs)) : EV K te env (dL (dO r) (xs.map some)) := by
  have : dL (dO r) (xs.map some) = dL r xs := by show D.lst _ = D.lst _; rw [← dL_some]
  rw [this]; exact h
theorem en_optL {α : Type} {r : α → D} {xs : List α} (h : EN K te env (xs.map r)) : EN K te env ((xs.map some).map (dO r)) := by rw [← dL_some]; exact h
theorem en2_optL {α : Type} {r : α → D} {xss : List (List α)} (h : EN2 K te env (xss.map (oL r))) : EN2 K te env ((xss.map (·.map some)).map (oL (dO r))) := by
  have : (xss.map (·.map some)).map (oL (dO r)) = xss.map (oL r) := by
    rw [List.map_map]
    refine List.map_congr_left fun xs _ => ?_
    show OD.own _ = OD.own _
    rw [← dL_some]
  rw [this]; exact h
/-! ### every row given one more -/
theorem Match.at {F : Hp} : ∀ {σ : L2.St} {env : List Slot} {A : List (Addr × HO)} (i : Nat), Match K F σ env A → i < env.length → ∃ o, σ[i]? = some o
  | _, _, _, i, m, h => by
    have := match_len m
    exact ⟨_, List.getElem?_eq_getElem (by omega)⟩
theorem match_setUn {F : Hp} : ∀ {σ : L2.St} {env : List Slot} {A : List (Addr × HO)} (i : Nat) (v : Option V), Match K F σ env A → env[i]? = some .un → Match K F (σ.set i v) env A
  | _, _, _, _, _, .nil, _ => .nil
  | _, _, _, 0, v, .un m, _ => .un m
  | _, _, _, 0, v, .dat _ m, h => by simp at h
  | _, _, _, 0, v, .tr _ m, h => by simp at h
  | _, _, _, i + 1, v, .un m, h => .un (match_setUn i v m (by simpa using h))
  | _, _, _, i + 1, v, .dat d m, h => .dat d (match_setUn i v m (by simpa using h))
  | _, _, _, i + 1, v, .tr d m, h => .tr d (match_setUn i v m (by simpa using h))
theorem appAllR_some {α : Type} {xss yss : List (List α)} {x : α} (h : appAllR xss x = .ok yss) : (∀ r ∈ xss, r.length < 16777216) ∧ yss = xss.map (· ++ [x]) := by
  unfold appAllR at h
  split at h
  · rename_i z
    exact ⟨fun r hr => of_decide_eq_true (List.all_eq_true.mp z r hr), (R.ok_inj h).symm⟩
  · cases h
/-- for r in rows: r.append(e) -/
theorem sw_appAll {α : Type} {r : α → D} {xss yss : List (List α)} {x : α} {k : Nat} (hx : appAllR xss x = .ok yss) (h : env[n]? = some (.own2N na (xss.map (oL r)))) (hk : k ≠ n) (hkl : k < env.length) (he : ∀ e, EV K te e (r x))
    (hn : Nx ((env.set k .un).set n (.own2N na (yss.map (oL r))))) : SW K E (tFor (iList K (tVar n)) (gName k) (tDrop (tBM K "list" rAppend (tVar k) (tCons te tNil)))) env Nx Rt Ex := fun σ F H A O m w Dn q1 q2 q4 => by
  obtain ⟨hl, ey⟩ := appAllR_some hx
  subst ey
  obtain ⟨A0, sb, m0⟩ := match_unset k m
  have w0 := w.subA sb
  have h0 : (env.set k .un)[n]? = some (.own2N na (xss.map (oL r))) := by rw [List.getElem?_set_ne hk]; exact h
  have hu : (env.set k .un)[k]? = some .un := by rw [List.getElem?_set_self hkl]
  obtain ⟨v, O1, A1, A2, e, g1, g2, g3, _, _⟩ := m0.getT h0
  cases g2 with
  | @lst _ p vs _ P nm hs =>
    have start := g3 F _ _ (Same.refl F) (TR.lst (a := some p) (fun _ z => Option.some.inj z) hs)
    refine ⟨_, g1, p, rfl, ⟨vs, .of (w0.has (p, .lst vs) (by rw [e]; simp)).2⟩, fun i c σ2 H2 => ∃ (F2 : Hp) (A2 : List (Addr × HO)), c + i = xss.length ∧ Same F F2 ∧ Match K F2 σ2 ((env.set k .un).set n (.own2N (some p) (((xss.take i).map (· ++ [x]) ++ xss.drop i).map (oL r)))) A2 ∧ Own F2 H2 (A2 ++ O), ?_, ?_⟩
    · refine ⟨xss.length, F, A0, rfl, Same.refl F, ?_, w0⟩
      rw [e]
      exact start
    · rintro i c σ2 H2 ⟨F2, A2', hc, s2, m2, w2⟩
      have hlen : n < (env.set k .un).length := by
        rcases Nat.lt_or_ge n (env.set k .un).length with z | z
        · exact z
        · rw [List.getElem?_eq_none z] at h0; cases h0
      have hi0 : ((env.set k .un).set n (.own2N (some p) (((xss.take i).map (· ++ [x]) ++ xss.drop i).map (oL r))))[n]? = some (.own2N (some p) (((xss.take i).map (· ++ [x]) ++ xss.drop i).map (oL r))) := by rw [List.getElem?_set_self hlen]
      obtain ⟨v2, P1, B1, B2, e2, r1, r2, r3, _, _⟩ := m2.getT hi0
      cases r2 with
      | @lst _ p2 vs2 _ P2 nm2 hs2 =>
        have := nm2 p rfl
        subst this
        have hs3 := hs2.ods
        have hp2 := (w2.has (p2, .lst vs2) (by rw [e2]; simp)).2
        have hl2 : vs2.length = xss.length := by
          have := hs3.length
          rw [List.length_map, List.length_append, List.length_map, List.length_take, List.length_drop] at this
          omega
        by_cases hi : i = xss.length
        · refine .inl ⟨⟨vs2, .of hp2, by omega⟩, ?_⟩
          have m4 := r3 F2 _ _ (Same.refl F2) (TR.lst nm hs2)
          rw [List.set_set] at m4
          have e5 : (xss.take i).map (· ++ [x]) ++ xss.drop i = xss.map (· ++ [x]) := by rw [hi]; simp
          rw [e5] at m4
          exact q1 _ σ2 F2 H2 _ hn s2 m4 (by rw [← e2]; exact w2)
        · have hlt : i < xss.length := by omega
          have hrow : ((xss.take i).map (· ++ [x]) ++ xss.drop i)[i]? = some xss[i] := by
            rw [List.getElem?_append_right (by simp; omega)]
            simp [Nat.min_eq_left (Nat.le_of_lt hlt)]
          have hrow2 : (((xss.take i).map (· ++ [x]) ++ xss.drop i).map (oL r))[i]? = some (.own (xss[i].map r)) := by rw [List.getElem?_map, hrow]; rfl
          obtain ⟨q, us, C1, C2, e3, h1, h2, h3⟩ := hs3.getO hrow2
          refine .inr ⟨⟨vs2, _, .of hp2, h1⟩, fun σ' H' => ∃ (F2 : Hp) (A2 : List (Addr × HO)), (c - 1) + (i + 1) = xss.length ∧ Same F F2 ∧ Match K F2 σ' ((env.set k .un).set n (.own2N (some p2) (((xss.take (i + 1)).map (· ++ [x]) ++ xss.drop (i + 1)).map (oL r)))) A2 ∧ Own F2 H' (A2 ++ O), fun σ' H' hN => ⟨c - 1, by omega, hN⟩, fun y H' hy => ?_⟩
          obtain ⟨rfl, hy2⟩ := hy
          have := hy2 _ (.of hp2)
          rw [h1] at this
          cases this
          have huk : ((env.set k .un).set n (.own2N (some p2) (((xss.take i).map (· ++ [x]) ++ xss.drop i).map (oL r))))[k]? = some .un := by rw [List.getElem?_set_ne (fun z => hk z.symm)]; exact hu
          have m3 := match_setUn k (some (.ref q)) m2 huk
          have hkσ : k < σ2.length := by rw [match_len m2]; simpa using hkl
          have hq := (w2.has (q, .lst us) (by rw [e2, e3]; simp)).2
          refine ⟨.ref q, by rw [List.getElem?_set_self hkσ], .inl ⟨rfl, us, .of hq⟩, he _ _ F2 _ _ O m3 w2 _ fun v3 F3 H3 s3 w3 d3 => ?_⟩
          have hq3 := (w3.has (q, .lst us) (by rw [e2, e3]; simp)).2
          have hul := h2.length
          rw [List.length_map] at hul
          refine ⟨q, us, v3, rfl, rfl, hq3, by rw [hul, sizeLine_eq]; exact hl _ (List.getElem_mem hlt), ?_⟩
          have z1 := h3 F3 (us ++ [v3]) (xss[i].map r ++ [r x]) s3 ((h2.up s3).append (.cons d3 .nil))
          have e4 : (((xss.take i).map (· ++ [x]) ++ xss.drop i).map (oL r)).set i (.own (xss[i].map r ++ [r x])) = ((xss.take (i + 1)).map (· ++ [x]) ++ xss.drop (i + 1)).map (oL r) := by
            have a1 : OD.own (xss[i].map r ++ [r x]) = oL r (xss[i] ++ [x]) := by show _ = OD.own _; rw [List.map_append]; rfl
            rw [a1, ← List.map_set]
            congr 1
            rw [List.set_append_right _ _ (by simp; omega)]
            have a2 : i - ((xss.take i).map (· ++ [x])).length = 0 := by simp; omega
            rw [a2, List.take_succ_eq_append_getElem hlt, List.map_append, List.drop_eq_getElem_cons hlt, List.append_assoc]
            rfl
          rw [e4] at z1
          obtain ⟨v5, P5, B5, B6, e6, t1, t2, t3, _, _⟩ := (m3.up s3).getT hi0
          have m6 := r3 F3 _ _ s3 (TR.lst (a := some p2) (fun _ z => Option.some.inj z) z1.tree)
          rw [List.set_set] at m6
          have m7 := match_setUn k (some (.ref q)) m6 (by rw [List.getElem?_set_ne (fun z => hk z.symm)]; exact hu)
          refine ⟨F3, _, by omega, s2.trans s3, m7, ?_⟩
          subst e2 e3
          have w4 : Own F3 H3 ((B1 ++ (p2, .lst vs2) :: C1) ++ (((q, .lst us) :: []) ++ (C2 ++ B2)) ++ O) := w3.perm (by simp)
          have w5 := own_updL (R := []) (P := []) (P' := []) (o' := .lst (us ++ [v3])) ⟨[], List.Sublist.refl _, List.Perm.refl _⟩ w4
          exact w5.perm (by simp)
/-! ### typed forms -/
theorem sw_opt1 {α : Type} {r : α → D} {xs : List α} (h : env[n]? = some (.ownN na (xs.map r))) (hn : SW K E t (env.set n (.ownN na ((xs.map some).map (dO r)))) Nx Rt Ex) : SW K E t env Nx Rt Ex := by
  rw [← dL_some] at hn
  have e : env.set n (.ownN na (xs.map r)) = env := by
    apply List.ext_getElem?
    intro j
    by_cases hj : n = j
    · subst hj
      rw [h, List.getElem?_set_self]
      rcases Nat.lt_or_ge n env.length with z | z
      · exact z
      · rw [List.getElem?_eq_none z] at h; cases h
    · rw [List.getElem?_set_ne hj]
  rw [e] at hn
  exact hn
theorem sw_opt2 {α : Type} {r : α → D} {xss : List (List α)} (h : env[n]? = some (.own2N na (xss.map (oL r)))) (hn : SW K E t (env.set n (.own2N na ((xss.map (·.map some)).map (oL (dO r))))) Nx Rt Ex) : SW K E t env Nx Rt Ex := by
  have e0 : (xss.map (·.map some)).map (oL (dO r)) = xss.map (oL r) := by
    rw [List.map_map]
    refine List.map_congr_left fun xs _ => ?_
    show OD.own _ = OD.own _
    rw [← dL_some]
  rw [e0] at hn
  have e : env.set n (.own2N na (xss.map (oL r))) = env := by
    apply List.ext_getElem?
    intro j
    by_cases hj : n = j
    · subst hj
      rw [h, List.getElem?_set_self]
      rcases Nat.lt_or_ge n env.length with z | z
      · exact z
      · rw [List.getElem?_eq_none z] at h; cases h
    · rw [List.getElem?_set_ne hj]
  rw [e] at hn
  exact hn
theorem map_dropLast' {α β : Type} (f : α → β) (xs : List α) : (xs.map f).dropLast = xs.dropLast.map f := by
  induction xs with
  | nil => rfl
  | cons x xs ih =>
    cases xs with
    | nil => rfl
    | cons y ys => simp only [List.map_cons, List.dropLast_cons₂] at ih ⊢; rw [ih]
theorem sw_pop1 {α : Type} {r : α → D} {xs ys : List α} (hx : popR xs = .ok ys) (h : env[n]? = some (.ownN na (xs.map r))) (hn : Nx (env.set n (.ownN na (ys.map r)))) : SW K E (tDrop (tBM0 K "list" rPop (tVar n))) env Nx Rt Ex := by
  obtain ⟨h0, rfl⟩ := popR_some hx
  refine sw_popP (ep_var h) (getAt_root h) (by simpa using h0) ?_
  rw [putAt_root h, map_dropLast', map_dropLast']
  exact hn
theorem sw_pop2 {α : Type} {r : α → D} {xs ys : List (List α)} (hx : popR xs = .ok ys) (h : env[n]? = some (.own2N na (xs.map (oL r)))) (hn : Nx (env.set n (.own2N na (ys.map (oL r))))) : SW K E (tDrop (tBM0 K "list" rPop (tVar n))) env Nx Rt Ex := by
  obtain ⟨h0, rfl⟩ := popR_some hx
  refine sw_popP (ep_var h) (getAt_root h) (by simpa using h0) ?_
  rw [putAt_root h, map_dropLast', map_dropLast']
  exact hn
theorem sw_appM1 {α : Type} {r : α → D} {xs ys : List α} {x : α} {envq : Addr → List Slot} (hx : appR xs x = .ok ys) {ts : List T} (h : env[n]? = some (.tr (.lst na ts))) (he : ∀ q, EM K te (env.set n (.tr (.lst (some q) ts))) (.dat (r x)) (envq q)) (h1 : ∀ q, (envq q)[n]? = some (.ownN (some q) (xs.map r)))
    (hn : ∀ q, Nx ((envq q).set n (.ownN na (ys.map r)))) : SW K E (tDrop (tBM K "list" rAppend (tVar n) (tCons te tNil))) env Nx Rt Ex := by
  obtain ⟨hl, rfl⟩ := appR_some hx
  refine sw_appM h he h1 (by rw [List.length_map, List.length_map]; exact hl) fun q => ?_
  have := hn q
  rw [List.map_append] at this
  show Nx ((envq q).set n (.tr (.lst na ((xs.map r).map T.dat ++ [T.dat (r x)]))))
  have e : Slot.ownN na (xs.map r ++ [x].map r) = .tr (.lst na ((xs.map r).map T.dat ++ [T.dat (r x)])) := by
    show Slot.tr (.lst na ((xs.map r ++ [x].map r).map T.dat)) = _
    rw [List.map_append]; rfl
  rw [e] at this
  exact this
theorem sw_appM2 {α : Type} {r : α → D} {xs ys : List (List α)} {x : List α} {envq : Addr → List Slot} (hx : appR xs x = .ok ys) {ts : List T} (h : env[n]? = some (.tr (.lst na ts))) (he : ∀ q, EM K te (env.set n (.tr (.lst (some q) ts))) (.lst none ((x.map r).map T.dat)) (envq q)) (h1 : ∀ q, (envq q)[n]? = some (.own2N (some q) (xs.map (oL r))))
    (hn : ∀ q, Nx ((envq q).set n (.own2N na (ys.map (oL r))))) : SW K E (tDrop (tBM K "list" rAppend (tVar n) (tCons te tNil))) env Nx Rt Ex := by
  obtain ⟨hl, rfl⟩ := appR_some hx
  refine sw_appM h he h1 (by rw [List.length_map, List.length_map]; exact hl) fun q => ?_
  have := hn q
  have e : Slot.own2N na ((xs ++ [x]).map (oL r)) = .tr (.lst na ((xs.map (oL r)).map OD.toT ++ [T.lst none ((x.map r).map T.dat)])) := by
    show Slot.tr (.lst na (((xs ++ [x]).map (oL r)).map OD.toT)) = _
    rw [List.map_append, List.map_append]; rfl
  rw [e] at this
  exact this
/-- calls of plain defs with such arguments -/
theorem em_call {ι β : Type} {args : ι → List D} {f : ι → R β} {rr : β → D} {ta : TA} {E' : XK} (x : ι) {b : β} (hf : f x = .ok b) (ha : EAM K ta env ((args x).map T.dat) env') : EM K (tCall (spR K args f rr) [] E' ta) env (.dat (rr b)) env' := fun σ F H A O m w Q q =>
  ha σ F H A O m w _ fun vs O1 F1 H1 A1 s1 m1 w1 d1 => by
    obtain ⟨e1, d3⟩ := d1.flat
    subst e1
    have w1 : Own F1 H1 (A1 ++ O) := w1
    exact ⟨x, F1, A1 ++ O, b, w1, by rw [List.append_nil]; exact d3, hf, fun v F' H' s w' d' => q v [] F' H' A1 (s1.trans s) (m1.up s) w' (.dat d')⟩
theorem em_callN {ι β : Type} {args : ι → List D} {f : ι → R (List β)} {rr : β → D} {ta : TA} {E' : XK} (x : ι) {b : List β} (hf : f x = .ok b) (ha : EAM K ta env ((args x).map T.dat) env') : EM K (tCall (spN K args f rr) [] E' ta) env (.lst none ((b.map rr).map T.dat)) env' := fun σ F H A O m w Q q =>
  ha σ F H A O m w _ fun vs O1 F1 H1 A1 s1 m1 w1 d1 => by
    obtain ⟨e1, d3⟩ := d1.flat
    subst e1
    have w1 : Own F1 H1 (A1 ++ O) := w1
    exact ⟨x, F1, A1 ++ O, b, w1, by rw [List.append_nil]; exact d3, hf, fun p us F' H' s w' d' => q _ [(p, .lst us)] F' H' A1 (s1.trans s) (m1.up s) w' (.lst (fun _ z => nomatch z) d'.tree)⟩
theorem em_callNN {ι β : Type} {args : ι → List D} {f : ι → R (List (List β))} {rr : β → D} {ta : TA} {E' : XK} (x : ι) {b : List (List β)} (hf : f x = .ok b) (ha : EAM K ta env ((args x).map T.dat) env') : EM K (tCall (spNN K args f rr) [] E' ta) env (.lst none ((b.map (oL rr)).map OD.toT)) env' := fun σ F H A O m w Q q =>
  ha σ F H A O m w _ fun vs O1 F1 H1 A1 s1 m1 w1 d1 => by
    obtain ⟨e1, d3⟩ := d1.flat
    subst e1
    have w1 : Own F1 H1 (A1 ++ O) := w1
    exact ⟨x, F1, A1 ++ O, b, w1, by rw [List.append_nil]; exact d3, hf, fun p us F' H' O1 s w' d' => q _ ((p, .lst us) :: O1) F' H' A1 (s1.trans s) (m1.up s) w' (.lst (fun _ z => nomatch z) d'.tree)⟩
theorem em_mkQ {a b : Int} {v : Rat} {ta : TA} (h : mkQ a b = .ok v) (ha : EAM K ta env [.dat (dI a), .dat (dI b)] env') : EM K (tTup ta) env (.dat (dQ v)) env' := by
  obtain ⟨h1, h2⟩ := mkQ_some h
  have := em_tup (ds := [dI a, dI b]) ha
  show EM K (tTup ta) env (.dat (.tup [dI v.num, dI (v.den : Int)])) env'
  rw [h1, h2]; exact this
theorem em_frzL (h : EM K te env (.lst na (ds.map T.dat)) env') : EM K te env (.dat (.lst ds)) env' := fun σ F H A O m w Q q => h σ F H A O m w Q fun v O1 F' H' A' s m' w' dd => by
  cases dd with
  | lst n h =>
    obtain ⟨e1, d1⟩ := h.flat
    subst e1
    obtain ⟨w2, s2⟩ := Own.frz (show Own F' H' (_ :: (A' ++ O)) from w')
    exact q _ [] _ H' A' (s.trans s2) (m'.up s2) w2 (.dat (.lst (.of upd_same) (d1.up s2)))
theorem em_frz2 {α : Type} {r : α → D} {xs : List (List α)} (h : EM K te env (.lst na ((xs.map (oL r)).map OD.toT)) env') : EM K te env (.dat (dL (dL r) xs)) env' := fun σ F H A O m w Q q => h σ F H A O m w Q fun v O1 F' H' A' s m' w' dd => by
  cases dd with
  | @lst _ p vs _ P n h =>
    have w2 : Own F' H' (P ++ ((p, .lst vs) :: (A' ++ O))) := w'.perm List.perm_middle.symm
    obtain ⟨F1, s1, w3, d1⟩ := h.ods.frz w2
    obtain ⟨w4, s4⟩ := w3.frz
    rw [map_toD] at d1
    exact q _ [] _ H' A' (s.trans (s1.trans s4)) (m'.up (s1.trans s4)) w4 (.dat (.lst (.of upd_same) (d1.up s4)))
theorem spT_len {ι β : Type} {args : ι → List Slot} {f : ι → R β} {res : β → Sum T Value} {outs : ι → β → List Slot} {vs : List V} {H : Hp} {Q : VK} {n : Nat} (hn : ∀ x, (args x).length = n) {E : XK} (h : spT K args f res outs vs H Q E) : vs.length = n := by
  obtain ⟨x, F, O, O1, b, m, _⟩ := h
  have := match_len m
  rw [List.length_map, hn x] at this
  exact this
/-- for over a list of what is owned, made for it -/
theorem sw_forOwn {α S : Type} {zs : List α} {rt : α → T} {tb : TS} {k : Nat} (f : α → S → R S) (ε : S → List Slot) (s0 : S) {s1 : S} {envi : List Slot}
    (hi : EM K te env (.lst none (zs.map rt)) envi) (hf : R.forR f zs s0 = .ok s1) (h0 : Wk envi (ε s0)) (hk : ∀ s, (ε s)[k]? = some .un)
    (hb : ∀ x s s', x ∈ zs → f x s = .ok s' → SW K E tb ((ε s).set k (.tr (rt x))) (fun e => Wk e (ε s')) (fun _ _ => False) (fun _ _ => False))
    (hn : Nx (ε s1)) : SW K E (tFor (iList K te) (gName k) tb) env Nx Rt Ex := fun σ F H A O m w Dn q1 q2 q4 =>
  hi σ F H A O m w _ fun v O1 F1 H1 A1 s1' m1 w1 d1 => by
    cases d1 with
    | @lst _ p vs _ P nm hs =>
      obtain ⟨A0, sb0, m0⟩ := m1.weak h0
      have hp := (w1.has (p, .lst vs) (by simp)).2
      refine ⟨p, rfl, ⟨vs, .of hp⟩, fun i c σ2 H2 => ∃ (s : S) (F2 : Hp) (A2 R1 : List (Addr × HO)), c + i = zs.length ∧ Same F1 F2 ∧ Match K F2 σ2 (ε s) A2 ∧ TRs K F2 (vs.drop i) ((zs.drop i).map rt) R1 ∧ Own F2 H2 ((p, .lst vs) :: (R1 ++ (A2 ++ O))) ∧ R.forR f (zs.drop i) s = .ok s1, ?_, ?_⟩
      · exact ⟨zs.length, s0, F1, A0, P, rfl, Same.refl _, m0, hs, w1.sub (((List.Sublist.refl P).append (sb0.append (List.Sublist.refl O))).cons₂ _), hf⟩
      · rintro i c σ2 H2 ⟨s, F2, A2, R1, hc, ss, m2, hs2, w2, h2⟩
        have hp2 := (w2.has (p, .lst vs) (by simp)).2
        have hlen : vs.length = zs.length := by rw [hs.length, List.length_map]
        by_cases hi : i = zs.length
        · refine .inl ⟨⟨vs, .of hp2, by omega⟩, ?_⟩
          rw [hi, List.drop_length] at h2
          have e := R.ok_inj (show R.ok s = R.ok s1 from h2)
          subst e
          exact q1 _ σ2 F2 H2 A2 hn (s1'.trans ss) m2 (w2.sub ((List.sublist_append_right R1 _).cons _))
        · have hlt : i < zs.length := by omega
          rw [List.drop_eq_getElem_cons hlt] at h2 hs2
          rw [List.drop_eq_getElem_cons (by omega : i < vs.length)] at hs2
          obtain ⟨s', f1, f2⟩ := R.bind_inv (show R.bind (f zs[i] s) _ = _ from h2)
          rw [List.map_cons] at hs2
          cases hs2 with
          | @cons _ _ _ _ P1 P2 a b =>
            refine .inr ⟨⟨vs, _, .of hp2, List.getElem?_eq_getElem (by omega)⟩, fun σ' H' => ∃ (F3 : Hp) (A3 : List (Addr × HO)), Same F2 F3 ∧ Match K F3 σ' (ε s') A3 ∧ Own F3 H' (A3 ++ ((p, .lst vs) :: (P2 ++ O))), ?_, fun y H' hy => ?_⟩
            · rintro σ' H' ⟨F3, A3, s3, m3, w3⟩
              refine ⟨c - 1, by omega, s', F3, A3, P2, by omega, ss.trans s3, m3, b.up s3, w3.perm ?_, f2⟩
              refine List.perm_middle.trans (List.Perm.cons _ ?_)
              exact perm_front _ _ _
            · obtain ⟨rfl, hy2⟩ := hy
              have := hy2 _ (.of hp2)
              rw [List.getElem?_eq_getElem (by omega)] at this
              cases this
              have hk2 : k < (ε s).length := by
                rcases Nat.lt_or_ge k (ε s).length with z | z
                · exact z
                · have := hk s
                  rw [List.getElem?_eq_none z] at this; cases this
              obtain ⟨B1, B2, A5, e5, sb, m5⟩ := m2.putT k a hk2
              subst e5
              have w5 : Own F2 H' ((B1 ++ (P1 ++ B2)) ++ ((p, .lst vs) :: (P2 ++ O))) := by
                have w6 : Own F2 H' ((p, .lst vs) :: ((P1 ++ P2) ++ ((B1 ++ B2) ++ O))) := w2.sub (((List.Sublist.refl _).append (((List.Sublist.refl B1).append sb).append (List.Sublist.refl O))).cons₂ _)
                refine w6.perm ?_
                refine List.Perm.trans (List.Perm.cons _ ?_) List.perm_middle.symm
                have e1 : (P1 ++ P2) ++ ((B1 ++ B2) ++ O) = P1 ++ (P2 ++ (B1 ++ (B2 ++ O))) := by simp
                have e2 : (B1 ++ (P1 ++ B2)) ++ (P2 ++ O) = B1 ++ (P1 ++ (B2 ++ (P2 ++ O))) := by simp
                rw [e1, e2]
                refine List.Perm.trans (List.Perm.append_left P1 ?_) (perm_front P1 B1 _)
                refine (perm_front P2 B1 _).trans (List.Perm.append_left B1 ?_)
                exact perm_front P2 B2 O
              refine hb zs[i] s s' (List.getElem_mem hlt) f1 _ F2 H' _ ((p, .lst vs) :: (P2 ++ O)) m5 w5 _ ?_ ?_ ?_
              · rintro e6 σ6 F6 H6 A6 wk6 s6 m6 w6
                obtain ⟨A7, sb7, m7⟩ := m6.weak wk6
                exact ⟨F6, A7, s6, m7, w6.subA sb7⟩
              · exact fun _ _ _ _ _ _ _ _ z => z.elim
              · exact fun _ _ _ _ _ _ z => z.elim
theorem ev_lenO2 {α : Type} {r : α → D} {xs : List (List α)} (h : env[n]? = some (.own2N na (xs.map (oL r)))) : EV K (tCB (rLenP K) (tCons (tVar n) tNil)) env (dI (xs.length : Nat)) := by
  have := ev_lenPl (K := K) (ep_var h) (getAt_root h)
  rw [List.length_map, List.length_map] at this
  exact this
/-! ### an item of a list of own lists by a name of its own -/
/-- rows, the k-th of which is told by its address -/
abbrev tAl {α : Type} (r : α → D) (xss : List (List α)) (k : Nat) (row : List α) (q : Addr) : List T := ((xss.map (oL r)).map OD.toT).set k (.lst (some q) ((row.map r).map T.dat))
theorem tAl_get {α : Type} {r : α → D} {xss : List (List α)} {k : Nat} {row row' : List α} {q : Addr} (hk : xss[k]? = some row') : (tAl r xss k row q)[k]? = some (.lst (some q) ((row.map r).map T.dat)) := by
  have hlt : k < xss.length := by
    rcases Nat.lt_or_ge k xss.length with z | z
    · exact z
    · rw [List.getElem?_eq_none z] at hk; cases hk
  unfold tAl
  rw [List.getElem?_set_self (by simpa using hlt)]
/-- x = rows[i] -/
theorem sw_alias {α : Type} {r : α → D} {xss : List (List α)} {row : List α} {k xn : Nat} {envq : Addr → List Slot} {ts : List T} (h : env[n]? = some (.tr (.lst na ts))) (hi : ∀ p, EM K ti (env.set n (.tr (.lst (some p) ts))) (.dat (dI i)) (envq p)) (h1 : ∀ p, (envq p)[n]? = some (.own2N (some p) (xss.map (oL r))))
    (hk : ixP xss.length i = some k) (hrow : xss[k]? = some row) (hxn : ∀ p, xn < (envq p).length) (hn : ∀ p q, Nx (((envq p).set n (.tr (.lst na (tAl r xss k row q)))).set xn (.tr (.adr q)))) :
    SW K E (tAsg (tOp (rIxL K) (tVar n) ti) (gName xn)) env Nx Rt Ex := fun σ F H A O m w Dn q1 q2 q4 => by
  obtain ⟨v, O1, A1, A2, e, g1, g2, g3, _, _⟩ := m.getT h
  cases g2 with
  | @lst _ p vs _ P nm hs =>
    have m2 := g3 F _ _ (Same.refl F) (.lst (a := some p) (fun _ z => Option.some.inj z) hs)
    refine ⟨_, g1, hi p σ F H _ O m2 (by rw [← e]; exact w) _ fun v O2 F2 H2 A' s2 m' w2 d2 => ?_⟩
    cases d2 with
    | dat d2 =>
      obtain ⟨v', O3, B1, B2, e2, r1, r2, r3, _, _⟩ := m'.getT (h1 p)
      rw [g1] at r1
      cases r1
      cases r2 with
      | @lst _ _ vs2 _ P2 nm2 hs2 =>
        have hrow2 : ((xss.map (oL r)).map OD.toT)[k]? = some (.lst none ((row.map r).map T.dat)) := by rw [List.getElem?_map, List.getElem?_map, hrow]; rfl
        obtain ⟨u, C1, P3, C2, e3, t1, t2, t3⟩ := hs2.at hrow2
        obtain ⟨q, rfl⟩ := t2.ref rfl
        have hp := (w2.has (p, .lst vs2) (by rw [e2]; simp)).2
        have hl := hs2.length
        rw [List.length_map, List.length_map] at hl
        refine ⟨p, vs2, i, .ref q, rfl, d2.int, .of hp, atI_ixP (by rw [hl]; exact hk) t1, ?_⟩
        have m3 := r3 F2 _ _ (Same.refl F2) (TR.lst nm (t3 F2 _ _ (Same.refl F2) t2.named))
        subst e3
        have w3 : Own F2 H2 ((B1 ++ ((p, .lst vs2) :: (C1 ++ (P3 ++ C2)) ++ B2)) ++ O) := by rw [← e2]; exact w2
        obtain ⟨A5, m5, w5⟩ := m3.setT (x := .adr q) (O1 := []) xn TR.adr (by rw [List.length_set]; exact hxn p)
        exact q1 _ _ F2 H2 A5 (hn p q) s2 m5 (w5 H2 O w3)
/-- len(x) -/
theorem ev_lenAl {xn : Nat} {q : Addr} {ts : List T} (hx : env[xn]? = some (.tr (.adr q))) (hg : getAt env n π = some (.lst (some q) ts)) : EV K (tCB (rLenP K) (tCons (tVar xn) tNil)) env (dI (ts.length : Nat)) := fun σ F H A O m w Q k => by
  obtain ⟨v, O1, A1, A2, e, g1, g2, _, _, _⟩ := m.getT hx
  cases g2
  obtain ⟨v2, B1, P1, B2, e2, r2, _⟩ := m.focus hg
  have := r2.at_name rfl
  subst this
  cases r2 with
  | @lst _ p vs _ P nm hs =>
    have hp := (w.has (q, .lst vs) (by rw [e2]; simp)).2
    exact ⟨_, g1, _, ts.length, rfl, .inl ⟨_, .of hp, hs.length.symm⟩, k _ F H (Same.refl F) w (.v _)⟩
theorem ev_lenAlT {α : Type} {r : α → D} {xss : List (List α)} {row : List α} {k xn : Nat} {q : Addr} (hx : env[xn]? = some (.tr (.adr q))) (h : env[n]? = some (.tr (.lst na (tAl r xss k row q)))) (hrow : xss[k]? = some row) : EV K (tCB (rLenP K) (tCons (tVar xn) tNil)) env (dI (row.length : Nat)) := by
  have hg : getAt env n [.ix k] = some (.lst (some q) ((row.map r).map T.dat)) := by
    unfold getAt
    rw [h]
    simp only
    rw [T.get_ix (tAl_get hrow), T.get_nil]
  have := ev_lenAl (K := K) hx hg
  rw [List.length_map, List.length_map] at this
  exact this
theorem tAl_set {α : Type} {r : α → D} (xss : List (List α)) (k : Nat) (row row' : List α) (q : Addr) : (tAl r xss k row q).set k (.lst none ((row'.map r).map T.dat)) = ((xss.set k row').map (oL r)).map OD.toT := by
  unfold tAl
  rw [List.set_set, List.map_set, List.map_set]; rfl
/-- the name let go again -/
theorem sw_unal {α : Type} {r : α → D} {xss : List (List α)} {row : List α} {k xn : Nat} {q : Addr} (h : env[n]? = some (.tr (.lst na (tAl r xss k row q)))) (hrow : xss[k]? = some row) (hn : SW K E t ((env.set n (.own2N na (xss.map (oL r)))).set xn .un) Nx Rt Ex) : SW K E t env Nx Rt Ex :=
  sw_match (fun σ F H A O m w => by
    have hg : getAt env n [.ix k] = some (.lst (some q) ((row.map r).map T.dat)) := by
      unfold getAt
      rw [h]
      simp only
      rw [T.get_ix (tAl_get hrow), T.get_nil]
    obtain ⟨v2, B1, P1, B2, e2, r2, r3⟩ := m.focus hg
    have m2 := r3 F _ _ (Same.refl F) r2.unnamed
    have e3 : putAt env n [.ix k] (.lst none ((row.map r).map T.dat)) = env.set n (.own2N na (xss.map (oL r))) := by
      unfold putAt
      rw [h]
      simp only
      rw [T.put_ix (tAl_get hrow), T.put_nil, tAl_set]
      have : xss.set k row = xss := by
        apply List.ext_getElem?
        intro j
        by_cases hj : k = j
        · subst hj
          rcases Nat.lt_or_ge k xss.length with z | z
          · rw [List.getElem?_set_self z, hrow]
          · rw [List.getElem?_eq_none z] at hrow; cases hrow
        · rw [List.getElem?_set_ne hj]
      rw [this]
    have m2 : Match K F σ (putAt env n [.ix k] (.lst none ((row.map r).map T.dat))) _ := m2
    rw [e3] at m2
    obtain ⟨A', s, m'⟩ := match_unset xn m2
    exact ⟨F, A', Same.refl F, m', (by rw [← e2]; exact w : Own F H ((B1 ++ (P1 ++ B2)) ++ O)).subA s⟩) hn
/-- x.extend(a new list), x then let go -/
theorem sw_extAl {α : Type} {r : α → D} {xss yss : List (List α)} {row row' ys : List α} {k xn : Nat} {q : Addr} {env1 : List Slot} (hx : env[xn]? = some (.tr (.adr q))) (h : env[n]? = some (.tr (.lst na (tAl r xss k row q))))
    (hg0 : xss[k]? = some row) (hk : ixP xss.length i = some k) (he : extR row ys = .ok row') (hs : setR xss i row' = .ok yss) (hy : EM K te env (.lst none ((ys.map r).map T.dat)) env1) (h1 : env1[n]? = some (.tr (.lst na (tAl r xss k row q)))) (hx1 : env1[xn]? = some (.tr (.adr q)))
    (hn : Nx ((env1.set n (.own2N na (yss.map (oL r)))).set xn .un)) : SW K E (tDrop (tBM K "list" rExtend (tVar xn) (tCons te tNil))) env Nx Rt Ex := fun σ F H A O m w Dn q1 q2 q4 => by
  obtain ⟨v, O1, A1, A2, e, g1, g2, _, _, _⟩ := m.getT hx
  cases g2
  have hg : ∀ {env : List Slot}, env[n]? = some (.tr (.lst na (tAl r xss k row q))) → getAt env n [.ix k] = some (.lst (some q) ((row.map r).map T.dat)) := fun h => by
    unfold getAt
    rw [h]
    simp only
    rw [T.get_ix (tAl_get hg0), T.get_nil]
  obtain ⟨v2, B1, P1, B2, e2, r2, _⟩ := m.focus (hg h)
  have := r2.at_name rfl
  subst this
  cases r2 with
  | @lst _ _ vs _ P nm hv =>
    have hp := (w.has (q, .lst vs) (by rw [e2]; simp)).2
    refine ⟨_, g1, .inl ⟨rfl, vs, .of hp⟩, hy σ F H A O m w _ fun v3 O2 F3 H3 A3 s3 m3 w3 d3 => ?_⟩
    obtain ⟨v5, C1, P5, C2, e5, r5, r6⟩ := m3.focus (hg h1)
    have := r5.at_name rfl
    subst this
    cases r5 with
    | @lst _ _ vs5 _ P6 nm5 hv5 =>
      cases d3 with
      | @lst _ p3 us _ P7 nm7 hu =>
        obtain ⟨z1, d5⟩ := hv5.flat
        obtain ⟨z2, d7⟩ := hu.flat
        subst z1 z2
        have hq3 := (w3.has (q, .lst vs5) (by rw [e5]; simp)).2
        have hp3 := (w3.has (p3, .lst us) (by simp)).2
        unfold extR at he
        split at he
        case isFalse => cases he
        rename_i hl
        have ey := R.ok_inj he
        subst ey
        obtain ⟨k', c1, c2⟩ := setR_some hs
        rw [hk] at c1
        cases c1
        subst c2
        have l5 := d5.length
        have l7 := d7.length
        rw [List.length_map] at l5 l7
        refine ⟨q, p3, vs5, us, rfl, rfl, hq3, hp3, by rw [l5, l7, sizeLine_eq]; exact hl, ?_⟩
        have tr : TR K F3 (.ref q) (.lst none (((row ++ ys).map r).map T.dat)) [(q, .lst (vs5 ++ us))] := .lst (fun _ z => nomatch z) (by rw [List.map_append]; exact (d5.append d7).tree)
        have m6 := r6 F3 _ _ (Same.refl F3) tr
        have e6 : putAt env1 n [.ix k] (.lst none (((row ++ ys).map r).map T.dat)) = env1.set n (.own2N na ((xss.set k (row ++ ys)).map (oL r))) := by
          unfold putAt
          rw [h1]
          simp only
          rw [T.put_ix (tAl_get hg0), T.put_nil, tAl_set]
        rw [e6] at m6
        obtain ⟨A7, s7, m7⟩ := match_unset xn m6
        have w4 : Own F3 H3 ((C1 ++ ([(q, .lst vs5)] ++ C2)) ++ O) := by rw [← e5]; exact w3.sub (List.sublist_cons_self _ _)
        have w5 := own_updL (R := []) (P := []) (P' := []) (o' := .lst (vs5 ++ us)) ⟨[], List.Sublist.refl _, List.Perm.refl _⟩ w4
        exact q1 _ σ F3 _ A7 hn s3 m7 (w5.subA s7)
end
/-! ### options compare -/
section
variable {α : Type} {r : α → D}
def eqO (e : EqR r) (hn : ∀ x, PyData.eqv .none (e.py x) = false) (hn2 : ∀ x, PyData.eqv (e.py x) .none = false) : EqR (dO r) where
  py := fun o => match o with
    | none => .none
    | some x => e.py x
  dep := max e.dep 1
  ok := fun K F H v o s h => by
    cases o with
    | none => rw [h.scl]; exact .non
    | some x => exact e.ok K F H v x s h
  lay := fun o => by
    cases o with
    | none => simp [PyData.canLay0]
    | some x => exact e.lay x
  depth := fun o => by
    cases o with
    | none => simp [PyData.depth]
    | some x => have := e.depth x; simp only; omega
  eqv := fun x y => by
    cases x with
    | none =>
      cases y with
      | none => simp [PyData.eqv]
      | some y => simp only [hn y]; simp
    | some x =>
      cases y with
      | none => simp only [hn2 x]; simp
      | some y => simp only [e.eqv]; simp
end
end Pg

set_option Elab.async false
set_option linter.all false
/-! Pg: more outcomes; core Lean alone. -/
namespace Pg
/-- sorted(..) of fewer than 64 whole numbers -/
def sortR (xs : List Int) : R (List Int) := if xs.length < 64 then .ok (xs.mergeSort fun a b => decide (a ≤ b)) else .bad
/-- xss[i].clear() -/
def clrR {α : Type} (xss : List (List α)) (i : Int) : R (List (List α)) := R.bind (atR xss i) fun _ => setR xss i []
end Pg

set_option Elab.async false
set_option linter.all false
set_option maxRecDepth 100000
namespace Pg
open PySem PySem.Spec PyProof.Rows L2
section
variable {K : PySem.W.Frag} {E : WX} {env : List Slot} {ta tb tc td te : TE} {i j : Int} {n : Nat} {π : List Stp} {na : Option Addr}
/-! ### dict displays of two pairs -/
theorem ew_disp2 {β : Type} {r : β → D} {b1 b2 : β} (ha : EV K ta env (dI i)) (hc : EV K tc env (r b1)) (hb : EV K tb env (dI j)) (hd : EV K td env (r b2)) :
    EW K (tDisp [(ta, tc), (tb, td)]) env (.dK none (repK kI r (putA (putA [] i b1) j b2))) := fun σ F H A O m w Q q p np => by
  have w1 : Own F (upd H p (.dK [])) (A ++ ((p, .dK []) :: O)) := (w.new np).unmid
  refine ha σ F _ A _ m w1 _ fun v1 F1 H1 s1 w2 d1 => hc σ F1 H1 A _ (m.up s1) w2 _ fun v2 F2 H2 s2 w3 d2 => hb σ F2 H2 A _ (m.up (s1.trans s2)) w3 _ fun v3 F3 H3 s3 w4 d3 => hd σ F3 H3 A _ (m.up ((s1.trans s2).trans s3)) w4 _ fun v4 F4 H4 s4 w5 d4 => ?_
  have hp := (w5.has (p, .dK []) (by simp)).2
  refine ⟨hp, [(kI i, v2), (kI j, v4)], ?_, by simp, ?_⟩
  · rw [d1.int, d3.int]; rfl
  · have w6 : Own F4 (upd H4 p (.dK (mergeK [] [(kI i, v2), (kI j, v4)]))) ((p, .dK (mergeK [] [(kI i, v2), (kI j, v4)])) :: (A ++ O)) := w5.mid.put
    refine q (.ref p) [(p, .dK (mergeK [] [(kI i, v2), (kI j, v4)]))] F4 _ (((s1.trans s2).trans s3).trans s4) w6 (.dK (fun _ z => nomatch z) ?_)
    have z1 : Datm K F4 (putK ([] : List (L2.Key × V)) (kI i) v2) (putA [] (kI i) (r b1)) := Datm.put .nil (d2.up (s3.trans s4))
    have z2 := Datm.put (k := kI j) z1 d4
    rw [repK_put kI_inj, repK_put kI_inj]
    exact z2
/-! ### sorted(d) -/
def rSortDI : List V → Hp → VK → Prop := fun xs H Q => ∃ (a : Addr) (kvs : List (L2.Key × V)) (ks : List Int), xs = [.ref a] ∧ Rd H a (.dK kvs) ∧ kvs.map (·.1) = ks.map Sum.inl ∧ ks.length < 64 ∧
    ∀ (ys : List Int) (p : Addr), ys.Perm ks → ys.Pairwise (· ≤ ·) → H p = none → Q (.ref p) (upd H p (.lst (ys.map V.int)))
theorem cl_sorted {X : Cx} (hc : X.calm = true) : CallR X (.builtin "sorted") rSortDI := call_sortedDI hc
theorem Datm.keys {κ : Type} {F : Hp} : ∀ {us : List (κ × V)} {kvs : List (κ × D)}, Datm K F us kvs → us.map (·.1) = kvs.map (·.1)
  | _, _, .nil => rfl
  | _, _, .cons _ h => by rw [List.map_cons, List.map_cons, Datm.keys h]
theorem sort_one {xs ys : List Int} (h : ys.Perm xs) (s : ys.Pairwise (· ≤ ·)) : ys = xs.mergeSort fun a b => decide (a ≤ b) := by
  refine List.Perm.eq_of_pairwise (le := (· ≤ ·)) (fun a b _ _ h1 h2 => Int.le_antisymm h1 h2) s ?_ (h.trans (List.mergeSort_perm xs _).symm)
  have := List.pairwise_mergeSort (le := fun a b : Int => decide (a ≤ b)) (fun a b c h1 h2 => by simp only [decide_eq_true_eq] at *; omega) (fun a b => by simp only [Bool.or_eq_true, decide_eq_true_eq]; omega) xs
  exact this.imp fun h => by simpa using h
theorem dats_int {F : Hp} : ∀ ys : List Int, Dats K F (ys.map V.int) (ys.map dI)
  | [] => .nil
  | y :: ys => .cons (.v _) (dats_int ys)
theorem en_sortI {β : Type} {r : β → D} {xs : List (Int × β)} {ys : List Int} (hx : sortR (xs.map (·.1)) = .ok ys) (hp : EP K td env n π) (hg : getAt env n π = some (.dK na (repK kI r xs))) :
    EN K (tCB rSortDI (tCons td tNil)) env (ys.map dI) := fun σ F H A O m w Q q => hp σ F H A O m w _ fun v F2 H2 s2 w2 pl => by
  obtain ⟨p, us, A1, A2, rfl, e, hs, _⟩ := pl.dK hg
  have hH := (w2.has (p, .dK us) (by rw [e]; simp)).2
  unfold sortR at hx
  split at hx
  · rename_i hl
    have ex := R.ok_inj hx
    refine ⟨p, us, xs.map (·.1), rfl, .of hH, ?_, hl, fun zs l pz sz nl => ?_⟩
    · rw [hs.keys]
      unfold repK
      rw [List.map_map, List.map_map]; rfl
    · have e2 := sort_one pz sz
      rw [ex] at e2
      subst e2
      exact q l _ F2 _ s2 (w2.new nl) (dats_int _)
  · cases hx
end
end Pg

set_option Elab.async false
set_option linter.all false
set_option maxRecDepth 100000
/-! Pg: classes: fields of told instances, methods found by the instance's class. -/
namespace Pg
open PySem PySem.Spec PyProof.Rows L2
/-- o.m(e, ..): the method's promise by the class of what is there -/
def tMethD (m : Str) (S : Addr → Sp → Prop) (E : XK) (ta : TE) (t : TA) : TE := fun σ H Q => ta σ H fun x H1 => ∃ a C dx fs sp, x = .ref a ∧ H1 a = some (.ins C dx fs) ∧ fs.lookup m = none ∧ S C sp ∧ t σ H1 fun vs H2 => sp (x :: (vs ++ [])) H2 Q E
/-- the class at C has a method m that keeps sp -/
def MethOk (X : Cx) (CX : CXT) (k : Nat) (m : Str) (C : Addr) (sp : Sp) : Prop := ∃ (f : Addr) (fd : FuncData) (ps : List Str), Cls X.K C ∧ Meth X.K C m f ∧ FnOk X.prog X.w X.K X.mg X.base CX k f fd ps sp ∧ Binds X.K fd ps []
section
variable {X : Cx} {CX : CXT} {k : Nat} {S : Addr → Sp → Prop} {E : XK} {m : Str} {pos apos : Pos} {e o : Expr} {es : List Expr} {ta : TE} {t : TA}
/-- o.m(es) runs as the kit's rule of method calls has it -/
abbrev AsMeth (X : Cx) (o : Expr) (m : Str) (es : List Expr) (pos apos : Pos) (pl : Sem Bool) : Prop :=
  ∀ {Q E : Value → Shared → Prop} {s : Shared}, wpAny (model X.prog X.w) X.A (eval o X.env) (fun ov s1 => wpAny (model X.prog X.w) X.A (getMethod ov m pl) (fun fx s2 =>
    wpAny (model X.prog X.w) X.A (callWith pos fx.1 fx.2 (backTo pos (starEach es X.env)) []) Q E s2) E s1) E s → wpAny (model X.prog X.w) X.A (eval (.Call (.Attribute o m apos) es [] pos) X.env) Q E s
/-- the receiver is run, its class looked up there; what is left is the call by values -/
theorem meth_at {pl : Sem Bool} (am : AsMeth X o m es pos apos pl) (he : PE X o ta) (hS : ∀ C sp, S C sp → MethOk X CX k m C sp) {P : Sp → V → Hp → Prop} {pins : List (Addr × Obj)} {σ : L2.St} {H : Hp} {s : Shared} {Q : VK} (I : Inv X pins σ H s)
    (h : ta σ H fun x H1 => ∃ a C dx fs sp, x = .ref a ∧ H1 a = some (.ins C dx fs) ∧ fs.lookup m = none ∧ S C sp ∧ P sp x H1)
    (next : ∀ {a sp f fd ps H1 s1}, P sp (.ref a) H1 → Inv X pins σ H1 s1 → FnOk X.prog X.w X.K X.mg X.base CX k f fd ps sp → Binds X.K fd ps [] → PySem.W.keepIn X.K (.ref f) = true →
      wpAny (model X.prog X.w) X.A (callWith pos (.ref f) [.ref a] (backTo pos (starEach es X.env)) []) (L2.EP X pins σ Q) X.xe s1) :
    wpAny (model X.prog X.w) X.A (eval (.Call (.Attribute o m apos) es [] pos) X.env) (L2.EP X pins σ Q) X.xe s := by
  apply am
  apply thn (he.run pins s σ H _ I h)
  rintro _ s1 ⟨_, H1, I1, ru, a, C, dx, fs, sp, rfl, there, free, hsp, p⟩
  cases ru
  have ⟨f, fd, ps, c, hm, F, hb⟩ := hS C sp hsp
  exact getmeth_ok I1 there c hm free (next p I1 F hb hm.kp)
theorem pe_methD {pl : Sem Bool} (he : PE X o ta) (hS : ∀ C sp, S C sp → MethOk X CX k m C sp) (hr : Room k X.A) (hx : Passes CX X E) (ha : PA X (e :: es) t) (hst : starEach (e :: es) X.env = (false, eval e X.env) :: starEach es X.env := by rfl)
    (hpl : (backTo pos (starEach es X.env)).any (·.1) = false := by rfl) (am : AsMeth X o m (e :: es) pos apos pl := by exact fun h => PySem.W.methodCall_KW h) :
    PE X (.Call (.Attribute o m apos) (e :: es) [] pos) (tMethD m S E ta t) where
  run pins _ σ _ Q I h := meth_at am he hS (P := fun sp x H1 => t σ H1 fun vs H2 => sp (x :: (vs ++ [])) H2 Q E) I h fun {a _ _ _ _ H1 s1} q I1 F hb kp =>
    PySem.W.callWith_K (h₀ := X.base) I1.ok.mod.kin kp (thn (ha.run pos pins s1 σ H1 _ I1 q) fun _ _ ⟨_, _, I2, r, q2⟩ => ⟨I2.kIn, run_fn F hr hb .nil hx I2 (.cons (a := V.ref a) rfl r) q2⟩) hst hpl
theorem pe_methD0 {pl : Sem Bool} (he : PE X o ta) (hS : ∀ C sp, S C sp → MethOk X CX k m C sp) (hr : Room k X.A) (hx : Passes CX X E) (am : AsMeth X o m [] pos apos pl := by exact fun h => PySem.W.methodCall_KW h) :
    PE X (.Call (.Attribute o m apos) [] [] pos) (tMethD m S E ta tNil) where
  run _ _ _ _ Q I h := meth_at am he hS (P := fun sp x H1 => sp [x] H1 Q E) I h fun {a _ _ _ _ _ _} q I1 F hb kp =>
    PySem.W.callWith_K0 I1.kIn kp (run_fn F hr hb .nil hx I1 (.cons (a := V.ref a) rfl .nil) q)
end
/-- a class's method's statement -/
def clsS (s : Stmt) (j : Nat) : Stmt := match s with
  | .ClassDef _ _ _ b _ _ _ _ _ _ _ => b.getD j (.Pass ⟨0, 0, 0, 0⟩)
  | _ => .Pass ⟨0, 0, 0, 0⟩
section
variable {K : PySem.W.Frag} {env : List Slot} {te ta : TE} {t : TA} {d : D} {ds : List D} {C : Addr} {fs : List (Str × D)} {f m : Str} {E' : XK} {S : Addr → Sp → Prop}
theorem Datf.at {F : Hp} : ∀ {us : List (Str × V)} {fs : List (Str × D)}, Datf K F us fs → fs.lookup f = some d → ∃ v, us.lookup f = some v ∧ Dat K F v d
  | _, _, .nil, h => by cases h
  | _, _, .cons (f := g) a b, h => by
    rw [List.lookup_cons] at h ⊢
    cases e : f == g with
    | true =>
      rw [e] at h
      cases h
      exact ⟨_, rfl, a⟩
    | false =>
      rw [e] at h
      exact Datf.at b h
/-- e.f of an instance that is told -/
theorem ev_fldD (h : EV K te env (.ins C fs)) (hc : Cls K C) (hn : NoAttr K C f) (hf : fs.lookup f = some d) : EV K (tFld K te f) env d := fun σ F H A O m w Q q =>
  h σ F H A O m w _ fun v F1 H1 s1 w1 dd => by
    cases dd with
    | ins a b =>
      obtain ⟨v, hv, dv⟩ := Datf.at b hf
      exact ⟨_, _, _, _, v, rfl, w1.same _ _ a, hc, hn, hv, q v F1 H1 s1 w1 dv⟩
/-- o.m(..) of an instance that is told: new lists of new lists -/
theorem en2_methD {ι β : Type} {args : ι → List D} {g : ι → R (List (List β))} {rr : β → D} (x : ι) {b : List (List β)} (hg : g x = .ok b) (ho : EV K ta env (.ins C fs)) (ha : EA K t env ds) (hx : args x = .ins C fs :: ds) (hl : fs.lookup m = none) (hS : S C (spNN K args g rr)) :
    EN2 K (tMethD m S E' ta t) env (b.map (oL rr)) := fun σ F H A O mm w Q q =>
  ho σ F H A O mm w _ fun v F1 H1 s1 w1 d1 => by
    cases d1 with
    | @ins a _ dx us _ e1 e2 =>
      refine ⟨a, C, dx, us, _, rfl, w1.same _ _ e1, e2.none hl, hS, ha σ F1 H1 A O (mm.up s1) w1 _ fun vs F2 H2 s2 w2 d2 => ?_⟩
      refine ⟨x, F2, A ++ O, b, w2, ?_, hg, fun p us F' H' O1 s w' d' => q p us F' H' O1 (s1.trans (s2.trans s)) w' d'⟩
      rw [List.append_nil, hx]
      exact .cons (.ins (s2 _ _ e1) (Datf.mono s2 e2)) d2
/-- C(..): a new instance, by __init__ -/
theorem em_make {ι β : Type} {env1 env2 env3 as os : List Slot} {args : ι → List Slot} {g : ι → R β} {res : β → Sum T Value} {outs : ι → β → List Slot} (x : ι) {b : β} {xs : List T} {y : T} (hg : g x = .ok b) (hy : res b = .inl (.dat (.v .non)))
    (hx : args x = .tr (.ins none C []) :: as) (ho : outs x b = .tr y :: os) (ha : EAM K t env xs env1) (ht : Take env1 xs as env2) (hgv : Give env2 xs os env3) : EM K (tMake C (spT K args g res outs) [] E' t) env y env3 := fun σ F H A O m w Q q =>
  ha σ F H A O m w _ fun vs O1 F1 H1 A1 s1 m1 w1 d1 => by
    intro p dx np nd ne
    obtain ⟨O2, A2, t1, t2, t3⟩ := ht.run m1 d1
    have w2 := t3 F1 H1 O w1
    have w3 : Own F1 (upd (upd H1 dx (.own p)) p (.ins C dx [])) ((p, .ins C dx []) :: (dx, .own p) :: (O2 ++ (A2 ++ O))) := (w2.new nd).new (by rw [upd_ne (fun z => ne z.symm)]; exact np)
    refine ⟨x, F1, A2 ++ O, (p, .ins C dx []) :: (dx, .own p) :: O2, b, ?_, w3, hg, fun y' hy' v F' H' O1' O3 s mo wo dv => ?_, fun c hc => by rw [hy] at hc; cases hc⟩
    · rw [hx, List.append_nil]
      exact Match.tr (O1 := [(p, .ins C dx []), (dx, .own p)]) (TR.ins (fun _ z => nomatch z) .nil) t1
    · rw [hy] at hy'
      cases hy'
      rw [ho, List.append_nil] at mo
      have mo2 : Match K F' (some (V.ref p) :: vs.map some) (.tr y :: os) O1' := mo
      cases mo2 with
      | @tr _ _ _ _ P1 P2 c2 h2 =>
        cases dv with
        | dat dd =>
          cases dd
          obtain ⟨A3, g1, g2⟩ := hgv.run (t2.up s) d1 h2
          refine ⟨rfl, q (.ref p) P1 F' H' A3 (s1.trans s) g1 ?_ c2⟩
          have wo2 : Own F' H' (P1 ++ P2 ++ (A2 ++ O)) := wo
          have w4 : Own F' H' (P2 ++ (A2 ++ (P1 ++ O))) := wo2.perm (by
            have e1 : P1 ++ P2 ++ (A2 ++ O) = P1 ++ ((P2 ++ A2) ++ O) := by simp
            have e2 : P2 ++ (A2 ++ (P1 ++ O)) = (P2 ++ A2) ++ (P1 ++ O) := by simp
            rw [e1, e2]
            exact perm_front P1 (P2 ++ A2) O)
          exact (g2 H' _ w4).front
/-- arguments with defaults behind -/
def tDef (t : TA) (dvs : List V) : TA := fun σ H Q => t σ H fun vs H1 => Q (vs ++ dvs) H1
theorem trs_v {F : Hp} : ∀ dvs : List V, TRs K F dvs (dvs.map fun v => T.dat (.v v)) []
  | [] => .nil
  | v :: dvs => .cons (O1 := []) (.dat (.v v)) (trs_v dvs)
theorem eam_def {env' : List Slot} {xs : List T} (h : EAM K t env xs env') (dvs : List V) : EAM K (tDef t dvs) env (xs ++ dvs.map fun v => T.dat (.v v)) env' := fun σ F H A O m w Q q =>
  h σ F H A O m w _ fun vs O1 F' H' A' s m' w' d => q (vs ++ dvs) O1 F' H' A' s m' w' (by
    have := TRs.append d (trs_v (K := K) (F := F') dvs)
    rwa [List.append_nil] at this)
theorem tMake_def (sp : Sp) (dvs : List V) : tMake C sp dvs E' t = tMake C sp [] E' (tDef t dvs) := by
  unfold tMake tDef
  simp only [List.append_nil]
theorem tCall_def (sp : Sp) (dvs : List V) : tCall sp dvs E' t = tCall sp [] E' (tDef t dvs) := by
  unfold tCall tDef
  simp only [List.append_nil]
end
section
variable {X : Cx} {CX : CXT} {k : Nat} {f C : Addr} {fd : FuncData} {ps : List Str} {sp : Sp} {dvs : List V} {ds : List Value} {E : XK} {x : Str} {p pos : Pos} {e : Expr} {es : List Expr} {t : TA}
/-- C(..) with defaults behind -/
theorem pe_mkD (M : Mk X.K C f) (F : FnOk X.prog X.w X.K X.mg X.base CX k f fd ps sp) (hr : Room (k + 1) X.A) (hg : Gl X x) (hm : X.mg x = some (.ref C)) (hb : Binds X.K fd ps ds) (hd : Vals dvs ds) (hx : Passes CX X E)
    (ha : PA X (e :: es) t)
    (hdb : (x == ("__debug__" : Str)) = false := by decide) (he : starEach (e :: es) X.env = (false, eval e X.env) :: starEach es X.env := by rfl) (hpl : (backTo pos (starEach es X.env)).any (·.1) = false := by rfl) :
    PE X (.Call (.Name x p) (e :: es) [] pos) (tMake C sp [] E (tDef t dvs)) := by
  rw [← tMake_def]
  exact pe_make M F hr hg hm hb hd hx ha hdb he hpl
end
section
variable {K : PySem.W.Frag} {E : WX} {na : Option Addr} {env : List Slot} {ti : TE} {i : Int} {Nx : List Slot → Prop} {Rt : List Slot → T → Prop} {Ex : List Slot → Value → Prop}
theorem clr_some {α : Type} {xss yss : List (List α)} {i : Int} (h : clrR xss i = .ok yss) : ∃ k row, ixP xss.length i = some k ∧ xss[k]? = some row ∧ yss = xss.set k [] := by
  obtain ⟨row, h1, h2⟩ := R.bind_inv h
  obtain ⟨k, a1, a2⟩ := atR_some h1
  obtain ⟨k', c1, c2⟩ := setR_some h2
  rw [a1] at c1
  cases c1
  exact ⟨k, row, a1, a2, c2⟩
theorem sw_clr2T {α : Type} {r : α → D} {xss yss : List (List α)} {n : Nat} (hx : clrR xss i = .ok yss) (h : env[n]? = some (.own2N na (xss.map (oL r)))) (hi : EV K ti env (dI i)) (hn : Nx (env.set n (.own2N na (yss.map (oL r))))) :
    SW K E (tDrop (tBM0 K "list" rClear (tOp (rIxL K) (tVar n) ti))) env Nx Rt Ex := fun σ F H A O m w Dn q1 q2 q4 => by
  obtain ⟨k, row, hk0, hrow, ey⟩ := clr_some hx
  subst ey
  have hk : (xss.map (oL r))[k]? = some (.own (row.map r)) := by rw [List.getElem?_map, hrow]; rfl
  obtain ⟨p, vs, q, us, C, D, g1, g2, g3, g4, g5, g6, g7⟩ := inner_at h hk m w
  rw [List.length_map] at g4
  refine ⟨_, g1, hi σ F H A O m w _ fun y F2 H2 s2 w2 d2 => ?_⟩
  have hp2 := (w2.has (p, .lst vs) (List.mem_append_left _ g2)).2
  have hq2 := (w2.has (q, .lst us) (by rw [g5]; simp)).2
  refine ⟨p, vs, i, .ref q, rfl, d2.int, .of hp2, atI_ixP (by rw [g4]; exact hk0) g3, .inl ⟨rfl, us, .of hq2⟩, q, us, rfl, rfl, hq2, ?_⟩
  have m2 := g7 F2 [] [] s2 .nil
  have e1 : (xss.map (oL r)).set k (.own []) = (xss.set k []).map (oL r) := by rw [List.map_set]; rfl
  rw [e1] at m2
  refine q1 _ σ F2 _ _ hn s2 m2 ?_
  subst g5
  rw [List.append_assoc] at w2 ⊢
  exact (w2.mid.put (o' := .lst [])).unmid
end
section
variable {K : PySem.W.Frag} {env : List Slot} {ta : TE}
/-- an instance of the class at C is one of the class at L -/
structure IsOk (K : PySem.W.Frag) (C L : Addr) : Prop where
  ty : ∀ {H : Hp} {a dx : Addr} {fs : List (Str × V)}, H a = some (.ins C dx fs) → L2.TyX K H (.ref a) (.ref C)
  ki : PySem.W.kitOne K (.ref C) (.ref L) = some true
theorem ev_isiO {C L : Addr} {fs : List (Str × D)} (ho : EV K ta env (.ins C fs)) (c : IsOk K C L) : EV K (tCB (rIsi K) (tCons ta (tCons (tC (.ref L)) tNil))) env (dB true) := fun σ F H A O m w Q q =>
  ho σ F H A O m w _ fun v F' H' s w' d1 => by
    cases d1 with
    | @ins a _ dx us _ e1 e2 => exact ⟨.ref a, .ref L, _, _, true, rfl, .own L, c.ty (w'.same _ _ e1), c.ki, q _ F' H' s w' (.v _)⟩
end
section
variable {K : PySem.W.Frag} {env : List Slot} {t tk : TA} {C : Addr} {E' : XK}
/-- two rows of arguments, one behind the other -/
def tApp (t tk : TA) : TA := fun σ H Q => t σ H fun vs H1 => tk σ H1 fun zs H2 => Q (vs ++ zs) H2
/-- with keywords behind: what a call without them wishes is enough -/
theorem tMakeN_of {n m : Nat} {sp : Sp} {σ : L2.St} {H : Hp} {Q : VK} (h : (fun σ H Q => t σ H fun vs H1 => tk σ H1 fun zs H2 => vs.length = n ∧ zs.length = m ∧ Q (vs ++ zs) H2) σ H fun ws H2 => ∀ x dx, H2 x = none → H2 dx = none → dx ≠ x →
    sp (.ref x :: ws) (upd (upd H2 dx (.own x)) x (.ins C dx [])) (fun v H3 => v = .non ∧ Q (.ref x) H3) E') : tMakeN C n m sp (fun vs zs => vs ++ zs) E' t tk σ H Q := h
/-- the places' values and the keywords' -/
def tKw (n m : Nat) (t tk : TA) : TA := fun σ H Q => t σ H fun vs H1 => tk σ H1 fun zs H2 => vs.length = n ∧ zs.length = m ∧ Q (vs ++ zs) H2
theorem eam_kw {env1 env2 : List Slot} {xs ys : List T} (h : EAM K t env xs env1) (h2 : EAM K tk env1 ys env2) : EAM K (tKw xs.length ys.length t tk) env (xs ++ ys) env2 := fun σ F H A O m w Q q =>
  h σ F H A O m w _ fun vs O1 F1 H1 A1 s1 m1 w1 d1 => h2 σ F1 H1 A1 (O1 ++ O) m1 w1.front _ fun zs O2 F2 H2 A2 s2 m2 w2 d2 =>
    ⟨d1.length, d2.length, q (vs ++ zs) (O1 ++ O2) F2 H2 A2 (s1.trans s2) m2 (w2.perm (by
      have e1 : O2 ++ (A2 ++ (O1 ++ O)) = (O2 ++ A2) ++ (O1 ++ O) := by simp
      have e2 : O1 ++ O2 ++ (A2 ++ O) = O1 ++ ((O2 ++ A2) ++ O) := by simp
      rw [e1, e2]
      exact perm_front (O2 ++ A2) O1 O)) (TRs.append (d1.up s2) d2)⟩
theorem em_kw {n m : Nat} {env' : List Slot} {x : T} {sp : Sp} (h : EM K (tMake C sp [] E' (tKw n m t tk)) env x env') : EM K (tMakeN C n m sp (fun vs zs => vs ++ zs) E' t tk) env x env' := fun σ F H A O mm w Q q => by
  have := h σ F H A O mm w Q q
  unfold tMake tKw at this
  simp only [List.append_nil] at this
  exact this
end
end Pg

set_option Elab.async false
set_option linter.all false
/-! Pg: layers, in core Lean. -/
namespace Pg
inductive Lay where
  | fill (x : List (List (Rat × Rat)) × List Int × Rat)
  | rub (x : List (List (Rat × Rat)) × Rat)
  | masked (s : List (List (Rat × Rat))) (l : Lay)
  | join (ls : List Lay) (s : Rat)
  | group (ls : List Lay) (s : Rat)
end Pg

set_option Elab.async false
set_option linter.all false
set_option maxRecDepth 100000
/-! Pg: layers as data. -/
namespace Pg
open PySem PySem.Spec PyProof.Rows L2
abbrev dShape (x : List (List (Rat × Rat))) : D := dL (dL (d2 dQ dQ)) x
abbrev dFill (K : PySem.W.Frag) (x : List (List (Rat × Rat)) × List Int × Rat) : D := .ins (He.ga K "Fill") [("shape", dShape x.1), ("ink", dT dI x.2.1), ("strength", dQ x.2.2)]
abbrev dRub (K : PySem.W.Frag) (x : List (List (Rat × Rat)) × Rat) : D := .ins (He.ga K "Rub") [("shape", dShape x.1), ("strength", dQ x.2)]
mutual
def dLay (K : PySem.W.Frag) : Lay → D
  | .fill x => dFill K x
  | .rub x => dRub K x
  | .masked s l => .ins (He.ga K "Masked") [("shape", dShape s), ("layer", dLay K l)]
  | .join ls s => .ins (He.ga K "Join") [("row", .lst (dLays K ls)), ("strength", dQ s)]
  | .group ls s => .ins (He.ga K "Group") [("row", .lst (dLays K ls)), ("strength", dQ s)]
def dLays (K : PySem.W.Frag) : List Lay → List D
  | [] => []
  | l :: ls => dLay K l :: dLays K ls
end
theorem dLays_map (K : PySem.W.Frag) : ∀ ls : List Lay, dLays K ls = ls.map (dLay K)
  | [] => rfl
  | l :: ls => by rw [dLays, dLays_map K ls]; rfl
end Pg
namespace Pg
open PySem PySem.Spec PyProof.Rows L2
/-- the head's look for isinstance -/
def isB (K : PySem.W.Frag) (C L : Addr) : Bool := decide (PySem.W.findIn K (.ref C) "__class__" = some (some (.builtin "object.__class__"))) && (decide (PySem.W.specialIn K (.builtin "object.__class__") "__get__" = some (some (.builtin "getset_descriptor.__get__"))) &&
  (decide (PySem.W.takesIn K (.builtin "object.__class__") = some true) && (decide (PySem.W.mroIn K C (.type "object") = some true) && decide (PySem.W.kitOne K (.ref C) (.ref L) = some true))))
theorem isB_ok {K : PySem.W.Frag} {C L : Addr} (c : Cls K C) (h : isB K C L = true) : IsOk K C L := by
  unfold isB at h
  simp only [Bool.and_eq_true, decide_eq_true_eq] at h
  obtain ⟨ha, hn, ht, hm, ki⟩ := h
  exact ⟨fun e => .base (.ins e c ha hn ht hm), ki⟩
end Pg

set_option Elab.async false
set_option linter.all false
namespace Pg
/-- the refusals -/
inductive Exc where
  | ratio | layer | place | text | row | name | cell
  deriving DecidableEq
/-- what is caught: one of these classes -/
def R.caught {α : Type} (l : List Exc) (c : Exc) (x : R α) : R α := if c ∈ l then x else .bad
theorem R.caught_inv {α : Type} {l : List Exc} {c : Exc} {x : R α} {y : α} (h : R.caught l c x = .ok y) : c ∈ l ∧ x = .ok y := by
  unfold R.caught at h
  split at h
  · exact ⟨by assumption, h⟩
  · cases h
/-- the one in hand, where there is one -/
def R.some1 {α : Type} : Option α → R α
  | some x => .ok x
  | none => .bad
end Pg
namespace Pg
/-- xs.index(x) -/
def idxR (xs : List Int) (x : Int) : R Int := match xs.findIdx? (fun z => decide (z = x)) with
  | some j => .ok ((j : Nat) : Int)
  | none => .bad
end Pg
namespace Pg
/-- [f(x) for x in xs], f may refuse -/
def R.mapX {α β : Type} (f : α → R (Sum β Exc)) : List α → R (Sum (List β) Exc)
  | [] => .ok (.inl [])
  | x :: xs => R.bind (f x) fun r => match r with
    | .inr c => .ok (.inr c)
    | .inl y => R.bind (R.mapX f xs) fun r2 => match r2 with
      | .inl ys => .ok (.inl (y :: ys))
      | .inr c => .ok (.inr c)
def R.compX {α β : Type} (f : α → R (Sum β Exc)) (xs : List α) : R (Sum (List β) Exc) := if xs.length < 16777216 then R.mapX f xs else .bad
def consX {β : Type} (y : β) : Sum (List β) Exc → Sum (List β) Exc
  | .inl ys => .inl (y :: ys)
  | .inr c => .inr c
theorem mapX_step {α β : Type} {f : α → R (Sum β Exc)} : ∀ {xs : List α} {b : Sum (List β) Exc}, R.mapX f xs = .ok b →
    (xs = [] ∧ b = .inl []) ∨ ∃ x ys r, xs = x :: ys ∧ f x = .ok r ∧ ((∃ c, r = .inr c ∧ b = .inr c) ∨ ∃ y b', r = .inl y ∧ R.mapX f ys = .ok b' ∧ b = consX y b')
  | [], b, h => .inl ⟨rfl, (R.ok_inj h).symm⟩
  | x :: ys, b, h => by
    obtain ⟨r, h1, h2⟩ := R.bind_inv (show R.bind (f x) _ = _ from h)
    refine .inr ⟨x, ys, r, rfl, h1, ?_⟩
    cases r with
    | inr c => exact .inl ⟨c, rfl, (R.ok_inj h2).symm⟩
    | inl y =>
      obtain ⟨b', h3, h4⟩ := R.bind_inv h2
      refine .inr ⟨y, b', rfl, h3, ?_⟩
      cases b' with
      | inl zs => exact (R.ok_inj h4).symm
      | inr c => exact (R.ok_inj h4).symm
end Pg

set_option Elab.async false
set_option linter.all false
set_option maxRecDepth 100000
set_option maxHeartbeats 2000000
namespace Pg
open PySem PySem.Spec PyProof.Rows L2
/-! ### refusals: classes of the program -/
def Exc.nm : Exc → Str
  | .ratio => "NoRatio"
  | .layer => "NoLayer"
  | .place => "NoPlace"
  | .text => "NoText"
  | .row => "NoRow"
  | .name => "NoName"
  | .cell => "NoCell"
abbrev xA (K : PySem.W.Frag) (c : Exc) : Addr := He.ga K c.nm
/-- an exception's object -/
def exO (cls : Value) (a : Addr) (h : Heap) : Prop := ∃ (oe : Obj) (vs : Array Value), h.get? a = some oe ∧ Zc cls none oe ∧ oe.data = .fields vs
abbrev dE (K : PySem.W.Frag) (c : Exc) : D := .ob (exO (.ref (xA K c)))
theorem exO_obj {P : Program} {w : World} {H : Hp} {h : Heap} {a : Addr} {cls : Value} {oe : Obj} {vs : Array Value} (e : h.get? a = some oe) (z : Zc cls none oe) (d : oe.data = .fields vs) : ObjOk P w H h a (.ext (exO cls a)) :=
  ⟨⟨oe, vs, e, z, d⟩, ⟨oe, e⟩, fun _ _ ⟨o, v, q, r⟩ k => ⟨o, v, k o q, r⟩⟩

/-! ### except X as n, the exception kept as a value -/
section
variable {X : Cx} {pins : List (Addr × Obj)} {σ : L2.St} {H : Hp} {s s' : Shared}
abbrev suiteX (X : Cx) (a : Addr) (pn : List (Addr × Obj)) : Cx := X.suite a pn
theorem suiteX_ok (ok : X.Ok) (a : Addr) (pn : List (Addr × Obj)) : (suiteX X a pn).Ok := ok.suite a pn
theorem toSuite (I : Inv X pins σ H s) (a : Addr) : Inv (suiteX X a (X.pn ++ pins)) [] σ H s where
  ok := suiteX_ok I.ok a _
  os := I.os
  bare := I.bare
  base := I.base
  loc := I.loc
  cell := I.cell
  free := I.free
  freeC := I.freeC
  pin p m := I.pin p (by simpa using m)
  hok := I.hok
  len := I.len
theorem ofSuite {a : Addr} {pn' : List (Addr × Obj)} (I : Inv (suiteX X a (X.pn ++ pins)) pn' σ H s) (ok : X.Ok) : Inv X pins σ H s where
  ok := ok
  os := I.os
  bare := I.bare
  base := I.base
  loc := I.loc
  cell := I.cell
  free := I.free
  freeC := I.freeC
  pin p m := I.pin p (List.mem_append_left _ m)
  hok := I.hok
  len := I.len
/-- what the clause wishes of an exception of the body -/
def wAsX (K : PySem.W.Frag) (c : Value) (i : Nat) (ts : Addr → Value → TS) (Wout : WX) (D : Ends) : WX := fun cls d σ H =>
  d = none ∧ ∃ b, PySem.W.exmOne K cls c = some b ∧ (b = true → ∀ a, H a = none → ts a cls { nx := fun σ' H' => D.nx (σ'.set i none) H', rt := D.rt, bk := fun σ' H' => D.bk (σ'.set i none) H', ct := fun σ' H' => D.ct (σ'.set i none) H' } (σ.set i (some (.ref a))) (upd H a (.ext (exO cls a)))) ∧
    (b = false → Wout cls d σ H)
def tTry (K : PySem.W.Frag) (c : Value) (i : Nat) (tb : WX → TS) (ts : Addr → Value → TS) (Wout : WX) : TS := fun D σ H => tb (wAsX K c i ts Wout D) D σ H
variable {x n : Str} {c : Value} {i : Nat} {body suite : List Stmt} {b₀ : Stmt} {np pos pos' : Pos} {tb : WX → TS} {ts : Addr → Value → TS} {Wout : WX}
/-- an exception that has landed is none of the frames -/
theorem exc_no_frame {B h : Heap} {es : List Env} {a : Addr} {o : Obj} {vs : Array Value} (ff : h.FunFrames B es) (e : h.get? a = some o) (d : o.data = .fields vs) : a ∉ frs es := fun hm =>
  let ⟨_, _, e2, nf⟩ := ff.mem hm
  nf _ (Option.some.inj (e.symm.trans e2) ▸ d)
/-- what is not in the later base, and no frame, was not there ahead -/
theorem exc_new {B h : Heap} {es : List Env} {a : Addr} (nb : ∀ b o, h.get? b = some o → b ∉ frs es → B.get? b = some o) (nf : a ∉ frs es) (n : B.get? a = none) : h.get? a = none :=
  Option.eq_none_iff_forall_ne_some.mpr fun o e => nomatch n.symm.trans (nb a o e nf)
/-- the clause's class is read -/
theorem names_ld {a : Addr} {pn : List (Addr × Obj)} {Q : Value → Shared → Prop} {E : Value → Shared → Prop} (S : Inv (suiteX X a pn) [] σ H s) (hc : Names X x c) (q : Q c s) :
    wpAny (model X.prog X.w) (X.A.mark (some (.ref a))) (eval (.Name x np) X.env) Q E s :=
  match hc with
  | ⟨hg, db, .inl hm⟩ => ld_glob (X := suiteX X a pn) S hg hm q db
  | ⟨hg, db, .inr ⟨hm, hv, nn⟩⟩ => ld_blt (X := suiteX X a pn) S hg hm hv q nn db
/-- an exception that has a flight goes on -/
theorem pass_on {α : Type} {M : Model} {A : Around} {E : Value → Shared → Prop} {Q : α → Shared → Prop} {r : String} {a : Addr} {B : Heap} {Z : Obj → Prop} {fl : Value} {ce : Env} {s : Shared} (t : HandSPX.TracedZ s.heap B a Z fl)
    (k : wpAny M A (setFlight (.ref a) ce.frame) (fun _ s2 => E (.ref a) s2) E s) : wpAny M A (PySem.passOn r (.ref a) ce : Sem α) Q E s := by
  have ⟨_, _, _, _, _, there, _, data, at1, _⟩ := t
  have go : wpAny M A (setFlight (.ref a) ce.frame >>= fun _ => (throw (.ref a) : Sem α)) Q E s := wpAny_bind (wpAny_mono k (fun _ _ => wpAny_throw) fun _ _ => id)
  unfold PySem.passOn
  refine wpAny_bind (wpAny_field there data at1 (wpAny_ite_false rfl ?_))
  first | exact go | exact wpAny_bind (wpAny_pure go)
theorem ps_tryX (hs : X.stack = X.env :: X.outer) (hf : X.env.frame = some X.env.locals) (hex : X.ex = []) (hN : X.N.Nodup) (hi : X.N[i]? = some n) (hln : X.env.kindOf n = some .local) (hc : Names X x c) (tk : Takes X Wout)
    (hb : ∀ (W : WX) (pn : List (Addr × Obj)) (xe : Value → Shared → Prop), Takes (X.tr pn xe) W → PassesOwn (model X.prog X.w) X.A X.env xe → PSs (X.tr pn xe) body (tb W))
    (hsu : ∀ (a : Addr) (cls : Value) (pn : List (Addr × Obj)), PSs (suiteX X a pn) (b₀ :: suite) (ts a cls)) :
    PS X (.Try body [.ExceptHandler (some (.Name x np)) (some n) (b₀ :: suite) pos'] [] [] pos) (tTry X.K c i tb ts Wout) := by
  refine ⟨fun pins s σ H D I h => wpAny_Try_except (wpAny_mono ((hb (wAsX X.K c i ts Wout D) (X.pn ++ pins) _ (fun u s' xx => ?_) PassesOwn.looking).run [] s σ H D (I.toTry _) h) (fun f s1 hsp => ?_) (fun e s1 he => he))⟩
  case refine_2 =>
    have ok := I.ok
    cases f with
    | next => obtain ⟨σ', H', J, q⟩ := hsp; exact wpAny_execs_nil ⟨σ', H', J.ofTry ok, q⟩
    | brk => obtain ⟨σ', H', J, q⟩ := hsp; exact ⟨σ', H', J.ofTry ok, q⟩
    | cont => obtain ⟨σ', H', J, q⟩ := hsp; exact ⟨σ', H', J.ofTry ok, q⟩
    | ret u => obtain ⟨v, σ', H', J, r, q⟩ := hsp; exact ⟨v, σ', H', J.ofTry ok, r, q⟩
  case refine_1 =>
    have ok := I.ok
    have hfr : X.A.frames = some (X.env :: X.outer) := ok.frames.trans (congrArg some hs)
    obtain ⟨a, B, sI, _, σ', H', cls, _, rfl, J', nb, up, sky, na, os, ag, rfl, b, hb1, hyes, hno⟩ := xx
    have J := J'.ofTry ok
    rw [hs] at nb sky
    apply Sky.land Zc.steady hfr hf sky
    intro h3 fl3 up3
    have ⟨oe3, vs3, he3, hz3, hd3⟩ := fl3.there
    have nI : sI.heap.get? a = none := exc_new nb (exc_no_frame fl3.2.2.1 he3 hd3) fl3.2.1
    have J3 : Inv X pins σ' H' ⟨h3, s'.gens, s'.drawn, s'.toks, s'.os⟩ := J.landed (by rw [hs]; exact nb) fl3.1 (up.trans up3) os ag
    refine wpAny_handleBy_cons (codeAny_handlers_test (names_ld (toSuite J3 a) hc ?_)) (by rintro ⟨⟩)
    have LM := PySem.W.exm_one (M := model X.prog X.w) J3.kIn (fun _ _ _ _ k q => wpAny_typeOf_ref (k _ _ he3) (by rw [hz3.1]; exact q)) hb1
    refine LM.here ?_
    cases b with
    | true =>
      apply codeAny_handlers_suite_as (HandSPX.lands_againZ fl3 ?_)
      intro h4 fl4 up4
      have ⟨oe4, vs4, he4, hz4, hd4⟩ := fl4.there
      -- the heap without the exception, then with it
      obtain ⟨G, g1, g2⟩ := restrict h4 fun b => decide (b ≠ a)
      have gk : ∀ b o, b ≠ a → h4.get? b = some o → G.get? b = some o := fun b _ n e => (g1 b (decide_eq_true n)).trans e
      have ga : G.get? a = none := g2 a (by simp)
      have gs : ∀ b o, G.get? b = some o → h4.get? b = some o := fun b o e =>
        if z : b = a then nomatch (z ▸ e : G.get? a = some o).symm.trans ga else (g1 b (decide_eq_true z)).symm.trans e
      have up5 : sI.heap.UpToSlots h4 := (up.trans up3).trans up4
      have JG : Inv X pins σ' H' { s' with heap := G } := J.landed (by rw [hs]; exact nb) (fun b o e => gk b o (fun z => by rw [z, fl3.2.1] at e; cases e) (fl4.1 b o e)) (fun b o e hnf => by
        obtain ⟨sl, q⟩ := up5 b o e hnf
        exact ⟨sl, gk b _ (fun z => by rw [z, nI] at e; cases e) q⟩) os ag
      have J4 : Inv X pins σ' (upd H' a (.ext (exO cls a))) { s' with heap := h4 } := JG.laidN (t' := s'.toks) gs ga na (exO_obj he4 hz4 hd4)
      refine store_ok (X := suiteX X a (X.pn ++ pins)) (v := .ref a) (toSuite J4 a) hN hi (.inl hln) rfl (fun s5 S5 => ?_) (.inr hln)
      refine wpAny_mono ((hsu a cls (X.pn ++ pins)).run [] s5 _ _ _ S5 (hyes rfl a na)) (fun f s6 hsp => ?_) (fun _ _ z => False.elim z)
      have leave {σ6 : L2.St} {H6 : Hp} (S6 : Inv (suiteX X a (X.pn ++ pins)) [] σ6 H6 s6) {Q : Unit → Shared → Prop} (k : ∀ s7, Inv X pins (σ6.set i none) H6 s7 → Q () s7) :=
        gone_ok (M := model X.prog X.w) (A := X.A) (E := X.xe) (pos := pos') (ofSuite S6 ok) hN hi hln k
      match f, hsp with
      | .next, ⟨_, _, S6, q6⟩ => exact leave S6 fun _ J7 => ⟨_, _, J7, q6⟩
      | .brk, ⟨_, _, S6, q6⟩ => exact leave S6 fun _ J7 => ⟨_, _, J7, q6⟩
      | .cont, ⟨_, _, S6, q6⟩ => exact leave S6 fun _ J7 => ⟨_, _, J7, q6⟩
      | .ret _, ⟨_, _, _, S6, r6, q6⟩ => exact leave S6 fun _ J7 => ⟨_, _, _, J7, r6, q6⟩
    | false =>
      apply wpAny_handleBy_nil
      apply pass_on fl3.2.2.2
      rw [hf]
      exact HandSPX.setFlight_upZ fl3 fun h4 hh4 up4 => tk _ _ ⟨a, B, sI, pins, σ', H', cls, none, rfl, J, by rw [hs]; exact nb, (up.trans up3).trans up4, .inr (.inr (by rw [hs]; exact hh4)), na, os, ag, hno rfl⟩
end

/-! ### isinstance(e, C) -/
def rIsX (K : PySem.W.Frag) : List V → Hp → VK → Prop := fun xs H Q => ∃ (a D : Addr) (c : V) (cv : Value) (b : Bool), xs = [.ref a, c] ∧ ExcC K D ∧ H a = some (.ext (exO (.ref D) a)) ∧ (∀ u, RelV c u → u = cv) ∧ PySem.W.kitOne K (.ref D) cv = some b ∧ Q (.bl b) H
/-- an exception's object, as an instance of its class -/
theorem exO_inst {D a : Addr} {h : Heap} : exO (.ref D) a h → ∃ oe, PySem.W.InstAt h a oe D none
  | ⟨oe, _, there, ⟨cls, dict⟩, fields⟩ => ⟨oe, there, cls, by rw [PySem.W.notCls, fields], by rw [dict]; trivial⟩
/-- the facts of an exception's class that isinstance asks for -/
theorem exc_kit {K : PySem.W.Frag} {D : Addr} {x : Addr} {ox : Obj} (C : ExcC K D) : PySem.W.KitX K (.ref x) (.ref D) (fun h => PySem.W.InstAt h x ox D none) := PySem.W.handS_kitx_exc C.hg C.hk C.hs C.hd C.ha C.hn C.ht C.hm
theorem call_isX {X : Cx} : CallR X (.builtin "isinstance") (rIsX X.K) := by
  rintro pins s σ H _ _ Q I r ⟨a, D, c, cv, b, rfl, C, ha, hcv, e, q⟩
  obtain ⟨oe, J⟩ := exO_inst (I.hok a _ ha).1
  match r with
  | .cons rx (.cons rt .nil) =>
    cases rx
    cases hcv _ rt
    exact PySem.W.kia_one (exc_kit C) I.kIn J e (fun z => nomatch z) fun tk => ⟨.bl b, _, I.kept (t' := tk) fun _ _ => id, rfl, q⟩
section
variable {K : PySem.W.Frag} {env env' : List Slot} {ta te : TE} {c : Exc}
theorem ev_isX {L : Addr} {b : Bool} (ho : EV K ta env (dE K c)) (C : ExcC K (xA K c)) (e : PySem.W.kitOne K (.ref (xA K c)) (.ref L) = some b) : EV K (tCB (rIsX K) (tCons ta (tCons (tC (.ref L)) tNil))) env (dB b) := fun σ F H A O m w Q q =>
  ho σ F H A O m w _ fun v F1 H1 s1 w1 d1 => by
    cases d1 with
    | ob h => exact ⟨_, _, _, _, b, rfl, C, w1.same _ _ h, fun u r => by cases r; rfl, e, q _ F1 H1 s1 w1 (.v _)⟩
theorem ev_isXB {t : String} {b : Bool} (ho : EV K ta env (dE K c)) (C : ExcC K (xA K c)) (e : PySem.W.kitOne K (.ref (xA K c)) (.type t) = some b) : EV K (tCB (rIsX K) (tCons ta (tCons (tC (.ty t)) tNil))) env (dB b) := fun σ F H A O m w Q q =>
  ho σ F H A O m w _ fun v F1 H1 s1 w1 d1 => by
    cases d1 with
    | ob h => exact ⟨_, _, _, _, b, rfl, C, w1.same _ _ h, fun u r => by cases r; rfl, e, q _ F1 H1 s1 w1 (.v _)⟩
end

/-! ### what may raise -/
section
variable (K : PySem.W.Frag) (W : WX)
/-- a datum, or a refusal -/
def EX (te : TE) (env : List Slot) (o : Sum D Exc) : Prop := ∀ (σ : L2.St) (F H : Hp) (A O : List (Addr × HO)), Match K F σ env A → Own F H (A ++ O) → ∀ Q : VK,
  (∀ d, o = .inl d → ∀ v F' H', Same F F' → Own F' H' (A ++ O) → Dat K F' v d → Q v H') →
  (∀ c, o = .inr c → ∀ F' H', Same F F' → Own F' H' (A ++ O) → W (.ref (xA K c)) none σ H') → te σ H Q
def EXA (ta : TA) (env : List Slot) (o : Sum (List D) Exc) : Prop := ∀ (σ : L2.St) (F H : Hp) (A O : List (Addr × HO)), Match K F σ env A → Own F H (A ++ O) → ∀ Q : List V → Hp → Prop,
  (∀ ds, o = .inl ds → ∀ vs F' H', Same F F' → Own F' H' (A ++ O) → Dats K F' vs ds → Q vs H') →
  (∀ c, o = .inr c → ∀ F' H', Same F F' → Own F' H' (A ++ O) → W (.ref (xA K c)) none σ H') → ta σ H Q
end
/-- a def of data that hands back a datum, or refuses -/
def spX (K : PySem.W.Frag) {ι β : Type} (args : ι → List D) (f : ι → R (Sum β Exc)) (rr : β → D) : Sp := fun vs H Q E =>
  ∃ (x : ι) (F : Hp) (O : List (Addr × HO)) (b : Sum β Exc), Own F H O ∧ Dats K F vs (args x) ∧ f x = .ok b ∧
    (∀ y, b = .inl y → ∀ v F' H', Same F F' → Own F' H' O → Dat K F' v (rr y) → Q v H') ∧
    (∀ c, b = .inr c → ∀ F' H', Same F F' → Own F' H' O → E (.ref (xA K c)) none H')
section
variable {K : PySem.W.Frag} {W : WX} {env env' : List Slot} {te : TE} {ta : TA} {t : TS} {i : Nat} {Nx : List Slot → Prop} {Rt : List Slot → T → Prop} {Ex : List Slot → Value → Prop}
def mapXS {α β γ : Type} (r : α → β) : Sum α γ → Sum β γ
  | .inl x => .inl (r x)
  | .inr c => .inr c
theorem mapXS_l {α β γ : Type} {r : α → β} {b : Sum α γ} {d : β} (h : mapXS r b = .inl d) : ∃ y, b = .inl y ∧ d = r y := by
  cases b with
  | inl y => cases h; exact ⟨y, rfl, rfl⟩
  | inr c => cases h
theorem mapXS_r {α β γ : Type} {r : α → β} {b : Sum α γ} {c : γ} (h : mapXS r b = .inr c) : b = .inr c := by
  cases b with
  | inl y => cases h
  | inr c => cases h; rfl
theorem ex_call {ι β : Type} {args : ι → List D} {f : ι → R (Sum β Exc)} {rr : β → D} (x : ι) {b : Sum β Exc} (hf : f x = .ok b) (ha : EA K ta env (args x)) : EX K W (tCallS (spX K args f rr) (WE W) ta) env (mapXS rr b) := fun σ F H A O m w Q q1 q2 =>
  ha σ F H A O m w _ fun vs F1 H1 s1 w1 d1 => ⟨x, F1, A ++ O, b, w1, d1, hf, fun y hy v F' H' s w' d' => q1 (rr y) (by rw [hy]; rfl) v F' H' (s1.trans s) w' d', fun c hc F' H' s w' => q2 c (by rw [hc]; rfl) F' H' (s1.trans s) w'⟩
theorem ex_ev {d : D} (h : EV K te env d) : EX K W te env (.inl d) := fun σ F H A O m w Q q1 q2 => h σ F H A O m w Q (q1 d rfl)
theorem swx_set {o : Sum D Exc} (h : EX K W te env o) (hn : ∀ d, o = .inl d → Nx (env.set i (.dat d))) (hx : ∀ c, o = .inr c → Ex env (.ref (xA K c))) : SW K W (tAsg te (gName i)) env Nx Rt Ex := fun σ F H A O m w Dn q1 q2 q4 =>
  h σ F H A O m w _ (fun d hd v F1 H1 s1 w1 d1 => by
    obtain ⟨A', s, m'⟩ := (m.up s1).set i d1
    exact q1 _ _ F1 H1 A' (hn d hd) s1 m' (w1.subA s)) fun c hc F1 H1 s1 w1 => q4 env _ σ F1 H1 A (hx c hc) s1 (m.up s1) w1
theorem swx_ret {o : Sum D Exc} (h : EX K W te env o) (hr : ∀ d, o = .inl d → Rt env (.dat d)) (hx : ∀ c, o = .inr c → Ex env (.ref (xA K c))) : SW K W (tRet te) env Nx Rt Ex := fun σ F H A O m w Dn q1 q2 q4 =>
  h σ F H A O m w _ (fun d hd v F1 H1 s1 w1 d1 => q2 env _ v σ F1 H1 A [] (hr d hd) s1 (m.up s1) w1 (.dat d1)) fun c hc F1 H1 s1 w1 => q4 env _ σ F1 H1 A (hx c hc) s1 (m.up s1) w1
theorem swx_drop {o : Sum D Exc} (h : EX K W te env o) (hn : ∀ d, o = .inl d → Nx env) (hx : ∀ c, o = .inr c → Ex env (.ref (xA K c))) : SW K W (tDrop te) env Nx Rt Ex := fun σ F H A O m w Dn q1 q2 q4 =>
  h σ F H A O m w _ (fun d hd v F1 H1 s1 w1 d1 => q1 env σ F1 H1 A (hn d hd) s1 (m.up s1) w1) fun c hc F1 H1 s1 w1 => q4 env _ σ F1 H1 A (hx c hc) s1 (m.up s1) w1
theorem swx_raise {c : Exc} (hx : Ex env (.ref (xA K c))) : SW K W (fun _ σ H => W (.ref (xA K c)) none σ H) env Nx Rt Ex := fun σ F H A O m w Dn q1 q2 q4 => q4 env _ σ F H A hx (Same.refl F) m w
theorem spX_run {ι β : Type} {args : ι → List D} {f : ι → R (Sum β Exc)} {rr : β → D} {N : List Str} {vs : List V} {H : Hp} {Q : VK} {E : XK} (n k : Nat) (hN : N.length = n + k) (hn : ∀ x, (args x).length = n)
    (hb : ∀ x b, f x = .ok b → SW K (fun c d _ H => E c d H) t ((args x).map Slot.dat ++ List.replicate k .un) (fun _ => ∃ y, b = .inl y ∧ rr y = .v .non) (fun _ v => ∃ y, b = .inl y ∧ v = .dat (rr y)) fun _ cv => ∃ c, b = .inr c ∧ cv = .ref (xA K c))
    (h : spX K args f rr vs H Q E) : t { nx := fun _ H' => Q .non H', rt := Q } (L2.start N vs) H := by
  obtain ⟨x, F, O, b, w, da, hf, q, qx⟩ := h
  have hl := sp_len hn da
  have m := match_start (N.length - vs.length) da
  rw [show N.length - vs.length = k by omega] at m
  unfold L2.start
  rw [show N.length - vs.length = k by omega]
  refine hb x b hf _ F H [] O m w _ ?_ ?_ ?_
  · rintro e σ' F' H' A' ⟨y, hy, z⟩ s m' w'
    exact q y hy .non F' H' s w'.dropA (by rw [z]; exact .v _)
  · rintro e _ v σ' F' H' A' O1 ⟨y, hy, rfl⟩ s m' w' d'
    cases d' with
    | dat d' => exact q y hy v F' H' s (w'.dropA (A := A')) d'
  · rintro e _ σ' F' H' A' ⟨c, hc, rfl⟩ s m' w'
    exact qx c hc F' H' s w'.dropA
theorem match_gone : ∀ {σ : L2.St} {env : List Slot} {O : List (Addr × HO)} {F : Hp} (n : Nat), Match K F σ env O → ∃ O', O'.Sublist O ∧ Match K F (σ.set n none) (env.set n .un) O'
  | _, _, _, _, _, .nil => ⟨[], .slnil, .nil⟩
  | _, _, _, _, 0, .un m => ⟨_, List.Sublist.refl _, .un m⟩
  | _, _, _, _, 0, .dat _ m => ⟨_, List.Sublist.refl _, .un m⟩
  | _, _, _, _, 0, .tr _ m => ⟨_, List.sublist_append_right _ _, .un m⟩
  | _, _, _, _, n + 1, .un m => let ⟨O', s, q⟩ := match_gone n m; ⟨O', s, .un q⟩
  | _, _, _, _, n + 1, .dat d m => let ⟨O', s, q⟩ := match_gone n m; ⟨O', s, .dat d q⟩
  | _, _, _, _, n + 1, .tr d m => let ⟨O', s, q⟩ := match_gone n m; ⟨_, (List.Sublist.refl _).append s, .tr d q⟩
/-- try .. except C as n: suite -/
theorem sw_tryX {cc : Value} {tb : WX → TS} {ts : Addr → Value → TS} {Ex1 : List Slot → Value → Prop} (hb : ∀ W', SW K W' (tb W') env Nx Rt Ex1)
    (hx : ∀ e cls, Ex1 e cls → ∃ b, PySem.W.exmOne K cls cc = some b ∧ (b = true → ∀ a, SW K (fun _ _ _ _ => False) (ts a cls) (e.set i (.dat (.ob (exO cls)))) (fun e' => Nx (e'.set i .un)) Rt (fun _ _ => False)) ∧ (b = false → Ex e cls)) :
    SW K W (tTry K cc i tb ts W) env Nx Rt Ex := fun σ F H A O m w Dn q1 q2 q4 =>
  hb _ σ F H A O m w Dn q1 q2 fun e cls σ' F' H' A' ex s m' w' => by
    obtain ⟨b, hb1, yes, no⟩ := hx e cls ex
    refine ⟨rfl, b, hb1, fun hb a ha => ?_, fun hb => q4 e cls σ' F' H' A' (no hb) s m' w'⟩
    obtain ⟨w2, s2⟩ := w'.newF (o := .ext (exO cls a)) ha
    obtain ⟨A2, sb, m2⟩ := (m'.up s2).set i (Dat.ob (K := K) (φ := exO cls) (upd_same (H := F') (a := a) (o := .ext (exO cls a))))
    refine yes hb a _ _ _ A2 O m2 (w2.subA sb) _ ?_ ?_ ?_
    · intro e2 σ2 F2 H2 A3 n2 s3 m3 w3
      obtain ⟨A4, sb4, m4⟩ := match_gone i m3
      exact q1 _ _ F2 H2 A4 n2 (s.trans (s2.trans s3)) m4 (w3.subA sb4)
    · exact fun e2 y v σ2 F2 H2 A3 O1 r s3 => q2 e2 y v σ2 F2 H2 A3 O1 r (s.trans (s2.trans s3))
    · exact fun _ _ _ _ _ _ z => z.elim
end
end Pg
namespace Pg
open PySem PySem.Spec PyProof.Rows L2
section
variable {K : PySem.W.Frag} {W : WX} {env env' : List Slot} {te : TE} {ta : TA} {t : TS} {i : Nat} {Nx Nx1 : List Slot → Prop} {Rt : List Slot → T → Prop} {Ex : List Slot → Value → Prop}
variable {ι β : Type} {args : ι → List D} {f : ι → R (Sum β Exc)} {rr : β → D}
theorem swx_setC (x : ι) {b : Sum β Exc} (hf : f x = .ok b) (ha : EA K ta env (args x)) (hn : ∀ y, b = .inl y → Nx (env.set i (.dat (rr y)))) (hx : ∀ c, b = .inr c → Ex env (.ref (xA K c))) : SW K W (tAsg (tCallS (spX K args f rr) (WE W) ta) (gName i)) env Nx Rt Ex :=
  swx_set (ex_call x hf ha) (fun d hd => by
    cases b with
    | inl y => cases hd; exact hn y rfl
    | inr c => cases hd) fun c hc => by
    cases b with
    | inl y => cases hc
    | inr c => cases hc; exact hx _ rfl
theorem swx_retC (x : ι) {b : Sum β Exc} (hf : f x = .ok b) (ha : EA K ta env (args x)) (hr : ∀ y, b = .inl y → Rt env (.dat (rr y))) (hx : ∀ c, b = .inr c → Ex env (.ref (xA K c))) : SW K W (tRet (tCallS (spX K args f rr) (WE W) ta)) env Nx Rt Ex :=
  swx_ret (ex_call x hf ha) (fun d hd => by
    cases b with
    | inl y => cases hd; exact hr y rfl
    | inr c => cases hd) fun c hc => by
    cases b with
    | inl y => cases hc
    | inr c => cases hc; exact hx _ rfl
theorem swx_dropC (x : ι) {b : Sum β Exc} (hf : f x = .ok b) (ha : EA K ta env (args x)) (hn : ∀ y, b = .inl y → Nx env) (hx : ∀ c, b = .inr c → Ex env (.ref (xA K c))) : SW K W (tDrop (tCallS (spX K args f rr) (WE W) ta)) env Nx Rt Ex :=
  swx_drop (ex_call x hf ha) (fun d hd => by
    cases b with
    | inl y => exact hn y rfl
    | inr c => cases hd) fun c hc => by
    cases b with
    | inl y => cases hc
    | inr c => cases hc; exact hx _ rfl
/-- .. its body told apart from what follows -/
theorem sw_tryN {cc : Value} {tb : WX → TS} {ts : Addr → Value → TS} {Ex1 : List Slot → Value → Prop} (hb : ∀ W', SW K W' (tb W') env Nx1 Rt Ex1) (hn : ∀ e, Nx1 e → Nx e)
    (hx : ∀ e cls, Ex1 e cls → ∃ b, PySem.W.exmOne K cls cc = some b ∧ (b = true → ∀ a, SW K (fun _ _ _ _ => False) (ts a cls) (e.set i (.dat (.ob (exO cls)))) (fun e' => Nx (e'.set i .un)) Rt (fun _ _ => False)) ∧ (b = false → Ex e cls)) :
    SW K W (tTry K cc i tb ts W) env Nx Rt Ex := sw_tryX (fun W' => sw_mono (hb W') hn) hx
end
/-- what a class must say that is raised -/
structure RaiseOk (K : PySem.W.Frag) (mg : Str → Option Value) (x : Str) : Prop where
  g : mg x = some (.ref (He.ga K x))
  q : PySem.W.excIn K (He.ga K x) He.veBase "ValueError.__new__" = true
  k : PySem.W.keepIn K (.ref (He.ga K x)) = true
  s : PySem.W.subIn K (.ref (He.ga K x)) (.type "BaseException") = some true
  t : PySem.W.typeIn K (.ref (He.ga K x)) = some (.type "type")
theorem pmk_raise {X : Cx} {x m : Str} {j : Nat} {p p2 pos : Pos} (r : RaiseOk X.K X.mg x) (hg : Gl X x) (hdb : (x == ("__debug__" : Str)) = false := by decide) : PMk X (.Call (.Name x p) [.Constant (.str m) j p2] [] pos) (fun _ H Q => Q (.ref (He.ga X.K x)) none H) :=
  pmk_own PySem.F.excBase_ValueError r.q r.g r.k (raises_own r.s r.t) hg hdb
/-- .. that isinstance asks rightly -/
def excB (K : PySem.W.Frag) (D : Addr) : Bool := decide (PySem.W.findIn K (.ref D) "__getattribute__" = some (some (.builtin "BaseException.__getattribute__"))) && (decide (PySem.W.findIn K (.ref D) "__getattr__" = some none) &&
  (decide (PySem.W.subIn K (.ref D) (.type "BaseException") = some true) && (PySem.W.hasDictIn K D && (decide (PySem.W.findIn K (.ref D) "__class__" = some (some (.builtin "object.__class__"))) &&
  (decide (PySem.W.specialIn K (.builtin "object.__class__") "__get__" = some (some (.builtin "getset_descriptor.__get__"))) && (decide (PySem.W.takesIn K (.builtin "object.__class__") = some true) && decide (PySem.W.mroIn K D (.type "object") = some true)))))))
theorem excB_ok {K : PySem.W.Frag} {D : Addr} (h : excB K D = true) : ExcC K D := by
  unfold excB at h
  simp only [Bool.and_eq_true, decide_eq_true_eq] at h
  exact ⟨h.1, h.2.1, h.2.2.1, h.2.2.2.1, h.2.2.2.2.1, h.2.2.2.2.2.1, h.2.2.2.2.2.2.1, h.2.2.2.2.2.2.2⟩
end Pg

set_option Elab.async false
set_option linter.all false
namespace Pg

/-! mirrors of the defs of k01, printed by pygen -/
def p_divisor (one1 : Int) (other2 : Int) : R Int :=
  R.bind (gcdR one1 other2) fun g3 =>
  R.ok g3
def p_ratio (top1 : Int) (bottom2 : Int) : R Rat :=
  if (decide (bottom2 = (0 : Int))) = true then (R.bad) else (R.bind (if (decide (bottom2 < (0 : Int))) = true then (R.bind (R.ok ((-top1))) fun top4 => R.bind (R.ok ((-bottom2))) fun bottom5 => R.ok (top4, bottom5)) else (R.ok (top1, bottom2)) : R ((Int × Int))) fun st3 => R.bind (p_divisor ((absZ st3.1)) st3.2) fun diviso6 => R.bind (R.ok diviso6) fun most7 => R.bind (fdivR st3.1 most7) fun q8 => R.bind (fdivR st3.2 most7) fun q9 => R.bind (mkQ q8 q9) fun q10 => R.ok q10)
def l_cell (script1 : (List Int)) (k2 : Int) : R Int :=
  if (decide (k2 < (script1.length : Int))) = true then (R.bind (atR script1 k2) fun it3 => R.ok it3) else (R.bind (mulR k2 ((7919 : Int))) fun p4 => R.bind (R.ok p4) fun seed5 => R.bind (if (decide ((script1.length : Int) > (0 : Int))) = true then (R.bind (fmodR k2 ((script1.length : Int))) fun m7 => R.bind (atR script1 m7) fun it8 => R.bind (R.ok ((seed5 + (it8 % (65537 : Int))))) fun seed9 => R.ok seed9) else (R.ok seed5) : R Int) fun st6 => R.bind (mulR st6 ((48271 : Int))) fun p10 => R.bind (R.ok ((p10 % (65537 : Int)))) fun some11 => R.bind (mulR ((2 : Int)) k2) fun p12 => R.bind (mulR some11 (((some11 + p12) + (1 : Int)))) fun p13 => R.ok (((p13 / (7 : Int)) % (65521 : Int))))
def l_whole (found1 : Int) : R Bool :=
  R.ok ((true && (!false)))
def l_most (one1 : Int) (other2 : Int) : R Int :=
  R.bind (gcdR one1 other2) fun g3 =>
  R.ok g3
def l_is (found1 : Rat) (top2 : Int) (bottom3 : Int) : R Bool :=
  if ((!true) || (!decide ((2 : Int) = (2 : Int)))) = true then (R.ok false) else (R.bind (l_whole found1.num) fun w4 => R.bind (R.orR ((!w4)) (R.bind (l_whole ((found1.den : Int))) fun w5 => R.ok (((!w5) || (decide ((found1.den : Int) < (1 : Int))))))) fun b6 => if b6 = true then (R.ok false) else (R.bind (mulR found1.num bottom3) fun p7 => R.bind (mulR top2 ((found1.den : Int))) fun p8 => R.bind (R.andR ((decide (p7 = p8))) (R.bind (l_most ((absZ found1.num)) ((found1.den : Int))) fun m9 => R.ok ((decide (m9 = (1 : Int)))))) fun b10 => R.ok b10))
def l_ratio (top1 : Int) (bottom2 : Int) : R Rat :=
  R.bind (l_most ((absZ top1)) ((absZ bottom2))) fun m3 =>
  R.bind (R.ok m3) fun most4 =>
  R.bind (if (decide (bottom2 < (0 : Int))) = true then (R.bind (R.ok ((-most4))) fun most6 => R.ok most6) else (R.ok most4) : R Int) fun st5 =>
  R.bind (fdivR top1 st5) fun q7 =>
  R.bind (fdivR bottom2 st5) fun q8 =>
  R.bind (mkQ q7 q8) fun q9 =>
  R.ok q9
def l_top (cell1 : Int) : R Int :=
  if (decide ((cell1 % (4 : Int)) = (3 : Int))) = true then (R.ok (((((cell1 / (4 : Int)) % ((2000000000000000000000000000000 : Int) - (1 : Int))) - (1000000000000000000000000000000 : Int)) + (1 : Int)))) else (R.ok ((((cell1 / (4 : Int)) % (41 : Int)) - (20 : Int))))
def l_bottom (cell1 : Int) : R Int :=
  if (decide ((cell1 % (4 : Int)) = (3 : Int))) = true then (R.ok (((1 : Int) + ((cell1 / (4 : Int)) % ((1000000000000000000000000000000 : Int) - (1 : Int)))))) else (R.ok (((1 : Int) + ((cell1 / (4 : Int)) % (12 : Int)))))
def l_drawn (script1 : (List Int)) (at2 : Int) : R Rat :=
  R.bind (l_cell script1 at2) fun c3 =>
  R.bind (l_top c3) fun t4 =>
  R.bind (l_cell script1 ((at2 + (1 : Int)))) fun c5 =>
  R.bind (l_bottom c5) fun b6 =>
  R.bind (l_ratio t4 b6) fun r7 =>
  R.ok r7
def l_pairs (script1 : (List Int)) : R ((List (Int × Int))) :=
  R.bind (R.ok ([((0 : Int), (5 : Int)), ((0 : Int), (-((1 : Int)))), ((7 : Int), (1 : Int)), ((-((7 : Int))), (-((1 : Int))))])) fun pairs2 =>
  R.bind (rngR 0 ((maxZ ((3 : Int)) ((minZ ((24 : Int)) (((script1.length : Int) / (2 : Int)))))))) fun r3 =>
  R.bind (R.forR (fun (x4 : Int) (s5 : (List (Int × Int))) => R.bind (mulR ((2 : Int)) x4) fun p6 => R.bind (l_cell script1 p6) fun c7 => R.bind (l_top c7) fun t8 => R.bind (R.ok t8) fun top9 => R.bind (mulR ((2 : Int)) x4) fun p10 => R.bind (l_cell script1 ((p10 + (1 : Int)))) fun c11 => R.bind (l_bottom c11) fun b12 => R.bind (R.ok b12) fun bottom13 => R.bind (mulR ((2 : Int)) x4) fun p14 => R.bind (l_cell script1 p14) fun c15 => R.bind (if (decide (((c15 / (3 : Int)) % (2 : Int)) = (0 : Int))) = true then (R.bind (R.ok ((-bottom13))) fun bottom17 => R.ok bottom17) else (R.ok bottom13) : R Int) fun st16 => R.bind (appR s5 ((top9, st16))) fun pairs18 => R.bind (mulR ((2 : Int)) x4) fun p19 => R.bind (l_cell script1 ((p19 + (1 : Int)))) fun c20 => R.bind (R.ok (((2 : Int) + ((c20 / (5 : Int)) % (12 : Int))))) fun more21 => R.bind (mulR top9 more21) fun p22 => R.bind (R.andR ((decide ((absZ p22) < (1000000000000000000000000000000 : Int)))) (R.bind (mulR st16 more21) fun p23 => R.ok ((decide ((absZ p23) < (1000000000000000000000000000000 : Int)))))) fun b24 => if b24 = true then (R.bind (mulR top9 more21) fun p25 => R.bind (mulR st16 more21) fun p26 => R.bind (appR pairs18 ((p25, p26))) fun pairs27 => R.ok pairs27) else (R.ok pairs18)) r3 pairs2) fun s28 =>
  R.bind (l_cell script1 ((0 : Int))) fun c29 =>
  R.bind (if (decide ((c29 % (8 : Int)) = (5 : Int))) = true then (R.bind (R.ok ((1 : Int))) fun far31 => R.bind (rngR 0 ((50 : Int))) fun r32 => R.bind (R.forR (fun (x33 : Int) (s34 : Int) => R.bind (mulR s34 ((10000000000000000000000000000000000000000 : Int))) fun p35 => R.bind (R.ok p35) fun far36 => R.ok far36) r32 far31) fun s37 => R.bind (atR s28 ((4 : Int))) fun it38 => R.bind (mulR ((6 : Int)) ((s37 + it38.1))) fun p39 => R.bind (atR s28 ((4 : Int))) fun it40 => R.bind (mulR ((6 : Int)) (((s37 / (10 : Int)) + (absZ it40.2)))) fun p41 => R.bind (catR ((cutL s28 none (some ((4 : Int))))) ([(p39, p41)])) fun c42 => R.bind (R.ok c42) fun pairs43 => R.ok pairs43) else (R.ok s28) : R ((List (Int × Int)))) fun st30 =>
  R.ok st30
def k01_law (script1 : (List Int)) : R Bool :=
  R.bind (l_pairs script1) fun p2 =>
  R.bind (R.forX (fun (x3 : (Int × Int)) (s4 : Unit) => (R.bind (p_ratio x3.1 x3.2) fun ratio5 => R.bind (l_is ratio5 x3.1 x3.2) fun i6 => if (!i6) = true then (R.ok (Sum.inr false)) else (R.ok (Sum.inl (()))) : R (Sum Unit Bool))) p2 (())) fun r7 =>
  R.caseX r7 (fun s8 => R.ok true) (fun b9 => R.ok b9)
end Pg

set_option Elab.async false
set_option linter.all false
namespace Pg

/-! mirrors of the defs of k03, printed by pygen -/
def p_times (one1 : Rat) (other2 : Rat) : R Rat :=
  R.bind (mulR one1.num other2.num) fun p3 =>
  R.bind (mulR ((one1.den : Int)) ((other2.den : Int))) fun p4 =>
  R.bind (p_ratio p3 p4) fun ratio5 =>
  R.ok ratio5
def p_parted (one1 : Rat) (other2 : Rat) : R Rat :=
  R.bind (mulR one1.num ((other2.den : Int))) fun p3 =>
  R.bind (mulR ((one1.den : Int)) other2.num) fun p4 =>
  R.bind (p_ratio p3 p4) fun ratio5 =>
  R.ok ratio5
def k03_law (script1 : (List Int)) : R Bool :=
  R.bind (l_drawn script1 ((0 : Int))) fun d2 =>
  R.bind (R.ok d2) fun one3 =>
  R.bind (l_drawn script1 ((2 : Int))) fun d4 =>
  R.bind (R.ok d4) fun other5 =>
  R.bind (l_cell script1 ((4 : Int))) fun c6 =>
  R.bind (R.ok ((c6 % (10 : Int)))) fun way7 =>
  R.bind (if ((decide (way7 = (0 : Int))) && (!decide (one3.num = (0 : Int)))) = true then (R.bind (l_ratio ((one3.den : Int)) one3.num) fun r9 => R.bind (R.ok r9) fun other10 => R.ok other10) else (R.ok other5) : R Rat) fun st8 =>
  R.bind (if (decide (way7 = (1 : Int))) = true then (R.bind (mkQ ((0 : Int)) ((1 : Int))) fun q12 => R.bind (R.ok q12) fun other13 => R.ok other13) else (R.ok st8) : R Rat) fun st11 =>
  R.bind (p_times one3 st11) fun times14 =>
  R.bind (R.ok times14) fun come15 =>
  R.bind (mulR one3.num st11.num) fun p16 =>
  R.bind (mulR ((one3.den : Int)) ((st11.den : Int))) fun p17 =>
  R.bind (l_is come15 p16 p17) fun i18 =>
  R.bind (R.orR ((!i18)) (R.bind (p_times st11 one3) fun times19 => R.ok ((!decide (times19 = come15))))) fun b20 =>
  if b20 = true then (R.ok false) else (R.bind (mkQ ((1 : Int)) ((1 : Int))) fun q21 => R.bind (p_parted one3 q21) fun parted22 => R.bind (l_is parted22 one3.num ((one3.den : Int))) fun i23 => if (!i23) = true then (R.ok false) else (if (decide (st11.num = (0 : Int))) = true then (R.bind (l_is come15 ((0 : Int)) ((1 : Int))) fun i24 => R.ok i24) else (R.bind (p_parted one3 st11) fun parted25 => R.bind (mulR one3.num ((st11.den : Int))) fun p26 => R.bind (mulR ((one3.den : Int)) st11.num) fun p27 => R.bind (l_is parted25 p26 p27) fun i28 => if (!i28) = true then (R.ok false) else (R.bind (p_parted come15 st11) fun parted29 => R.bind (l_is parted29 one3.num ((one3.den : Int))) fun i30 => R.ok i30))))
end Pg

set_option Elab.async false
set_option linter.all false
namespace Pg

/-! mirrors of the defs of k05, printed by pygen -/
def p_ratio_v2 (top1 : Int) (bottom2 : Int) : R (Sum Rat Exc) :=
  if (decide (bottom2 = (0 : Int))) = true then (R.ok (Sum.inr Exc.ratio)) else (R.bind (if (decide (bottom2 < (0 : Int))) = true then (R.bind (R.ok ((-top1))) fun top4 => R.bind (R.ok ((-bottom2))) fun bottom5 => R.ok (top4, bottom5)) else (R.ok (top1, bottom2)) : R ((Int × Int))) fun st3 => R.bind (p_divisor ((absZ st3.1)) st3.2) fun diviso6 => R.bind (R.ok diviso6) fun most7 => R.bind (fdivR st3.1 most7) fun q8 => R.bind (fdivR st3.2 most7) fun q9 => R.bind (mkQ q8 q9) fun q10 => R.ok (Sum.inl q10))
def p_parted_v2 (one1 : Rat) (other2 : Rat) : R (Sum Rat Exc) :=
  R.bind (mulR one1.num ((other2.den : Int))) fun p3 =>
  R.bind (mulR ((one1.den : Int)) other2.num) fun p4 =>
  p_ratio_v2 p3 p4
def l_refusal (way1 : Int) (one2 : Rat) (number3 : Int) : R ((Option Exc)) :=
  R.bind (if (decide (way1 = (0 : Int))) = true then (R.bind (p_ratio_v2 number3 ((0 : Int))) fun r10 => R.caseX r10 (fun y11 => R.ok (Sum.inl ())) (fun c => R.ok (Sum.inr c))) else (if (decide (way1 = (1 : Int))) = true then (R.bind (p_ratio_v2 ((0 : Int)) ((0 : Int))) fun r12 => R.caseX r12 (fun y13 => R.ok (Sum.inl ())) (fun c => R.ok (Sum.inr c))) else (if (decide (way1 = (2 : Int))) = true then (R.bind (mkQ ((0 : Int)) ((1 : Int))) fun q14 => R.bind (p_parted_v2 one2 q14) fun r15 => R.caseX r15 (fun y16 => R.ok (Sum.inl ())) (fun c => R.ok (Sum.inr c))) else (R.bind (mkQ ((0 : Int)) ((1 : Int))) fun q17 => R.bind (mkQ ((0 : Int)) ((1 : Int))) fun q18 => R.bind (p_parted_v2 q17 q18) fun r19 => R.caseX r19 (fun y20 => R.ok (Sum.inl ())) (fun c => R.ok (Sum.inr c))))) : R (Sum Unit Exc)) fun st4 => R.caseX st4 (fun _ => R.ok ((none : (Option Exc)))) (fun c9 => R.caught [Exc.ratio] c9 (R.ok ((some c9))))
def l_only (some1 : (Option Exc)) : R Bool :=
  R.bind (getR some1) fun o2 =>
  R.bind (R.caught [Exc.ratio] o2 (.ok (decide (o2 = .ratio)))) fun isx3 =>
  R.bind (R.orR ((!isx3)) (R.bind (getR some1) fun o4 => R.bind (R.caught [Exc.ratio] o4 (.ok (true))) fun isx5 => R.ok ((!isx5)))) fun b6 =>
  if b6 = true then (R.ok false) else (R.bind (getR some1) fun o7 => R.bind (R.caught [Exc.ratio] o7 (.ok (decide (o7 = .layer)))) fun isx8 => R.bind (R.orR isx8 (R.bind (getR some1) fun o9 => R.bind (R.caught [Exc.ratio] o9 (.ok (decide (o9 = .place)))) fun isx10 => R.bind (R.orR isx10 (R.bind (getR some1) fun o11 => R.bind (R.caught [Exc.ratio] o11 (.ok (decide (o11 = .text)))) fun isx12 => R.ok isx12)) fun b13 => R.ok b13)) fun b14 => if b14 = true then (R.ok false) else (R.bind (getR some1) fun o15 => R.bind (R.caught [Exc.ratio] o15 (.ok (decide (o15 = .row)))) fun isx16 => R.bind (R.andR ((!isx16)) (R.bind (getR some1) fun o17 => R.bind (R.caught [Exc.ratio] o17 (.ok (decide (o17 = .name)))) fun isx18 => R.bind (R.andR ((!isx18)) (R.bind (getR some1) fun o19 => R.bind (R.caught [Exc.ratio] o19 (.ok (decide (o19 = .cell)))) fun isx20 => R.ok ((!isx20)))) fun b21 => R.ok b21)) fun b22 => R.ok b22))
def k05_law (script1 : (List Int)) : R Bool :=
  R.bind (l_drawn script1 ((0 : Int))) fun d2 =>
  R.bind (R.ok d2) fun one3 =>
  R.bind (l_cell script1 ((2 : Int))) fun c4 =>
  R.bind (l_top c4) fun t5 =>
  R.bind (R.ok t5) fun number6 =>
  R.bind (rngR 0 ((4 : Int))) fun r7 =>
  R.bind (R.forX (fun (x8 : Int) (s9 : Unit) => (R.bind (l_refusal x8 one3 number6) fun r10 => R.bind (l_only r10) fun o11 => if (!o11) = true then (R.ok (Sum.inr false)) else (R.bind (R.andR ((!decide (one3.num = (0 : Int)))) (R.bind (mkQ ((0 : Int)) ((1 : Int))) fun q12 => R.bind (p_parted q12 one3) fun parted13 => R.bind (l_is parted13 ((0 : Int)) ((1 : Int))) fun i14 => R.ok ((!i14)))) fun b15 => if b15 = true then (R.ok (Sum.inr false)) else (R.bind (p_ratio number6 ((1 : Int))) fun ratio16 => R.bind (l_is ratio16 number6 ((1 : Int))) fun i17 => if (!i17) = true then (R.ok (Sum.inr false)) else (R.ok (Sum.inl (()))))) : R (Sum Unit Bool))) r7 (())) fun r18 =>
  R.caseX r18 (fun s19 => R.ok true) (fun b20 => R.ok b20)
end Pg

set_option Elab.async false
set_option linter.all false
set_option maxRecDepth 100000
namespace Pg
open PySem PySem.Spec PyProof.Rows L2

def topS (i : Nat) : Stmt := PySem.Challenge.pw_coverfill_k05_no_ratio.main.body.getD i (.Pass ⟨0, 0, 0, 0⟩)
abbrev FnP (K : PySem.W.Frag) (x : Str) (st : Stmt) (f : Addr) (fd : FuncData) : Prop := FunD K x x (defArgs st) (defBody st) (defScope st) [] [] f fd
section
variable {P : Program} {w : World} {K : PySem.W.Frag} {mg : Str → Option Value} {base : Heap}
abbrev s_divisor : Stmt := topS 10
abbrev n_divisor : List Str := ["one", "other"]
theorem sc_divisor : FnScope n_divisor ["one", "other"] (defScope s_divisor) := ⟨rfl, rfl, rfl, by decide +kernel, rfl, by decide +kernel, by decide +kernel⟩
abbrev sp_divisor (K : PySem.W.Frag) : Sp := spR K (fun (x : Int × Int) => [dI x.1, dI x.2]) (fun (x : Int × Int) => p_divisor x.1 x.2) dI
set_option maxHeartbeats 4000000 in
theorem ok_divisor {f : Addr} {fd : FuncData} (F : FnP K "divisor" s_divisor f fd)  : FnOk P w K mg base CX0 41 f fd ["one", "other"] (sp_divisor K) := by
  refine F.ok sc_divisor (fun vs H Q E h => ?_) (fun cdv A outer s H vs Q E hr h => ?_)
  · obtain ⟨x, _, _, _, _, d, _⟩ := h
    exact d.length
  · skip
    refine ⟨_, PSs.nox (pss_cons (ps_while PassesOwn.never (pt_cmpR op_gt (pv 1) pe_int (nomark _)) (pss_one (ps_par (i := 0) (j := 1) rfl sc_divisor.nd rfl rfl (by decide) rfl rfl (pa_cons (pv 1) (pa_cons (pe_op op_modN (pv 0) (pv 1)) pa_nil)) rfl))) (pss_one (ps_ret (pv 0)))), ?_⟩
    refine spR_run (n := 2) (k := 0) rfl (fun _ => rfl) (fun x b h => ?_) h
    obtain ⟨one1, other2⟩ := x
    show SW K _ _ [.dat (dI one1), .dat (dI other2)] _ _ _
    have h : p_divisor one1 other2 = R.ok b := h
    unfold p_divisor at h
    obtain ⟨g3, hg3, h⟩ := R.bind_inv h
    refine sw_seq (sw_gcd (fun (z : Int × Int) => [.dat (dI z.1), .dat (dI z.2)]) (x0 := one1) (y0 := other2) hg3 (.eq (.eq .nil)) (fun z => (et_test (ev_i0 (g := fun i j => .bl (decide (j < i))) (ev_var rfl) (ev_c _)))) (fun z w hm hw => sw_par (ev_var rfl) (ev_fmod hm (ev_var rfl) (ev_var rfl)) ⟨(z.2, w), hw.1, hw.2, .eq (.eq .nil)⟩) ?_)
    show SW K _ _ [.dat (dI g3), .dat (dI ((0 : Int)))] _ _ _
    exact sw_ret (ev_cast (r := dI) h (ev_var rfl)) rfl
abbrev s_ratio : Stmt := topS 11
abbrev n_ratio : List Str := ["top", "bottom", "most"]
theorem sc_ratio : FnScope n_ratio ["top", "bottom"] (defScope s_ratio) := ⟨rfl, rfl, rfl, by decide +kernel, rfl, by decide +kernel, by decide +kernel⟩
abbrev sp_ratio (K : PySem.W.Frag) : Sp := spR K (fun (x : Int × Int) => [dI x.1, dI x.2]) (fun (x : Int × Int) => p_ratio x.1 x.2) dQ
set_option maxHeartbeats 4000000 in
theorem ok_ratio {f : Addr} {fd : FuncData} (F : FnP K "ratio" s_ratio f fd) {f_divisor : Addr} {fd_divisor : FuncData} (F_divisor : FnP K "divisor" s_divisor f_divisor fd_divisor) (b_divisor : Binds K fd_divisor ["one", "other"] []) (g_divisor : mg "divisor" = some (.ref f_divisor)) (G_divisor : FnOk P w K mg base CX0 41 f_divisor fd_divisor ["one", "other"] (sp_divisor K)) (z_abs : mg "abs" = none) (hS : base.NoSeer) (hT : P.given.tree = none) : FnOk P w K mg base CX0 42 f fd ["top", "bottom"] (sp_ratio K) := by
  refine F.ok sc_ratio (fun vs H Q E h => ?_) (fun cdv A outer s H vs Q E hr h => ?_)
  · obtain ⟨x, _, _, _, _, d, _⟩ := h
    exact d.length
  · have hp := pyRm (qual := "ratio") (sc := defScope s_ratio) (n := s.heap.objs.size) (f := f) (cd := cdv) (outer := outer) hS hT hr (by decide) rfl rfl
    refine ⟨_, PSs.nox (pss_cons (ps_if (pt_cmpR op_eq (pv 1) pe_int (nomark _)) (pss_one ps_never) pss_nil) (pss_cons (ps_if (pt_cmpR op_lt (pv 1) pe_int (nomark _)) (pss_cons (ps_set (i := 0) sc_ratio.nd rfl (Or.inl rfl) (pe_un un_neg (pv 0))) (pss_one (ps_set (i := 1) sc_ratio.nd rfl (Or.inl rfl) (pe_un un_neg (pv 1))))) pss_nil) (pss_cons (ps_set (i := 2) sc_ratio.nd rfl (Or.inl rfl) (pe_call G_divisor (hr.mono (by decide)) (by rfl) g_divisor F_divisor.kp b_divisor .nil pass0 (pa_cons (pe_callB (id := "abs") cl_abs (by rfl) z_abs (by decide +kernel) (pa_cons (pv 0) pa_nil)) (pa_cons (pv 1) pa_nil)))) (pss_one (ps_ret (pe_tup (pa_cons (pe_op (op_fdivP hp) (pv 0) (pv 2)) (pa_cons (pe_op (op_fdivP hp) (pv 1) (pv 2)) pa_nil)))))))), ?_⟩
    refine spR_run (n := 2) (k := 1) rfl (fun _ => rfl) (fun x b h => ?_) h
    obtain ⟨top1, bottom2⟩ := x
    show SW K _ _ [.dat (dI top1), .dat (dI bottom2), .un] _ _ _
    have h : p_ratio top1 bottom2 = R.ok b := h
    unfold p_ratio at h
    refine sw_seq (sw_if (et_test (ev_eqI (ev_var rfl) (ev_c _))) (fun hc => ?_) (fun hc => ?_))
    · have h := if_t hc h
      cases h
    · have h := if_f hc h
      refine sw_next ?_
      show SW K _ _ [.dat (dI top1), .dat (dI bottom2), .un] _ _ _
      obtain ⟨st3, hst3, h⟩ := R.bind_inv h
      refine sw_seq (sw_mono (Nx := fun e => Wk e [.dat (dI st3.1), .dat (dI st3.2), .un]) (sw_if (et_test (ev_i0 (g := fun i j => .bl (decide (i < j))) (ev_var rfl) (ev_c _))) (fun hc => ?_) (fun hc => ?_)) (fun e w => sw_weak w ?_))
      · have h := if_t hc hst3
        clear hst3
        obtain ⟨top4, htop4, h⟩ := R.bind_inv h
        refine sw_seq (sw_set (ev_cast (r := dI) htop4 (ev_u (g := fun i => .int (-i)) (ev_var rfl))) ?_)
        show SW K _ _ [.dat (dI top4), .dat (dI bottom2), .un] _ _ _
        obtain ⟨bottom5, hbottom5, h⟩ := R.bind_inv h
        refine sw_set (ev_cast (r := dI) hbottom5 (ev_u (g := fun i => .int (-i)) (ev_var rfl))) ?_
        obtain rfl := R.ok_inj h
        exact .eq (.eq (.un .nil))
      · have h := if_f hc hst3
        clear hst3
        refine sw_next ?_
        obtain rfl := R.ok_inj h
        exact .eq (.eq (.un .nil))
      show SW K _ _ [.dat (dI st3.1), .dat (dI st3.2), .un] _ _ _
      obtain ⟨diviso6, hdiviso6, h⟩ := R.bind_inv h
      obtain ⟨most7, hmost7, h⟩ := R.bind_inv h
      refine sw_seq (sw_set (ev_cast (r := dI) hmost7 (ev_call (x := ((absZ st3.1), st3.2)) hdiviso6 (ea_cons (ev_abs (ev_var rfl)) (ea_cons (ev_var rfl) ea_nil)))) ?_)
      show SW K _ _ [.dat (dI st3.1), .dat (dI st3.2), .dat (dI most7)] _ _ _
      obtain ⟨q8, hq8, h⟩ := R.bind_inv h
      obtain ⟨q9, hq9, h⟩ := R.bind_inv h
      obtain ⟨q10, hq10, h⟩ := R.bind_inv h
      exact sw_ret (ev_cast (r := dQ) h (ev_mkQ hq10 (ev_fdiv hq8 (ev_var rfl) (ev_var rfl)) (ev_fdiv hq9 (ev_var rfl) (ev_var rfl)))) rfl
abbrev sp_ratio__v2 (K : PySem.W.Frag) : Sp := spX K (fun (x : Int × Int) => [dI x.1, dI x.2]) (fun (x : Int × Int) => p_ratio_v2 x.1 x.2) dQ
set_option maxHeartbeats 4000000 in
theorem ok_ratio__v2 {f : Addr} {fd : FuncData} (F : FnP K "ratio" s_ratio f fd) {f_divisor : Addr} {fd_divisor : FuncData} (F_divisor : FnP K "divisor" s_divisor f_divisor fd_divisor) (b_divisor : Binds K fd_divisor ["one", "other"] []) (g_divisor : mg "divisor" = some (.ref f_divisor)) (G_divisor : FnOk P w K mg base CX0 41 f_divisor fd_divisor ["one", "other"] (sp_divisor K)) (z_abs : mg "abs" = none) (xr_NoRatio : RaiseOk K mg "NoRatio") (hS : base.NoSeer) (hT : P.given.tree = none) : FnOk P w K mg base (L2.CX P w) 42 f fd ["top", "bottom"] (sp_ratio__v2 K) := by
  refine F.ok sc_ratio (fun vs H Q E h => ?_) (fun cdv A outer s H vs Q E hr h => ?_)
  · obtain ⟨x, _, _, _, _, d, _⟩ := h
    exact d.length
  · have hp := pyRm (qual := "ratio") (sc := defScope s_ratio) (n := s.heap.objs.size) (f := f) (cd := cdv) (outer := outer) hS hT hr (by decide) rfl rfl
    refine ⟨_, (pss_cons (ps_if (pt_cmpR op_eq (pv 1) pe_int (nomark _)) (pss_one (ps_raise rfl (takes_of rfl rfl rfl rfl) (pmk_raise xr_NoRatio rfl))) pss_nil) (pss_cons (ps_if (pt_cmpR op_lt (pv 1) pe_int (nomark _)) (pss_cons (ps_set (i := 0) sc_ratio.nd rfl (Or.inl rfl) (pe_un un_neg (pv 0))) (pss_one (ps_set (i := 1) sc_ratio.nd rfl (Or.inl rfl) (pe_un un_neg (pv 1))))) pss_nil) (pss_cons (ps_set (i := 2) sc_ratio.nd rfl (Or.inl rfl) (pe_call G_divisor (hr.mono (by decide)) (by rfl) g_divisor F_divisor.kp b_divisor .nil pass0 (pa_cons (pe_callB (id := "abs") cl_abs (by rfl) z_abs (by decide +kernel) (pa_cons (pv 0) pa_nil)) (pa_cons (pv 1) pa_nil)))) (pss_one (ps_ret (pe_tup (pa_cons (pe_op (op_fdivP hp) (pv 0) (pv 2)) (pa_cons (pe_op (op_fdivP hp) (pv 1) (pv 2)) pa_nil)))))))), ?_⟩
    refine spX_run (n := 2) (k := 1) rfl (fun _ => rfl) (fun x b h => ?_) h
    obtain ⟨top1, bottom2⟩ := x
    show SW K _ _ [.dat (dI top1), .dat (dI bottom2), .un] _ _ _
    have h : p_ratio_v2 top1 bottom2 = R.ok b := h
    unfold p_ratio_v2 at h
    refine sw_seq (sw_if (et_test (ev_eqI (ev_var rfl) (ev_c _))) (fun hc => ?_) (fun hc => ?_))
    · have h := if_t hc h
      obtain rfl := R.ok_inj h
      exact swx_raise (c := .ratio) ⟨_, rfl, rfl⟩
    · have h := if_f hc h
      refine sw_next ?_
      show SW K _ _ [.dat (dI top1), .dat (dI bottom2), .un] _ _ _
      obtain ⟨st3, hst3, h⟩ := R.bind_inv h
      refine sw_seq (sw_mono (Nx := fun e => Wk e [.dat (dI st3.1), .dat (dI st3.2), .un]) (sw_if (et_test (ev_i0 (g := fun i j => .bl (decide (i < j))) (ev_var rfl) (ev_c _))) (fun hc => ?_) (fun hc => ?_)) (fun e w => sw_weak w ?_))
      · have h := if_t hc hst3
        clear hst3
        obtain ⟨top4, htop4, h⟩ := R.bind_inv h
        refine sw_seq (sw_set (ev_cast (r := dI) htop4 (ev_u (g := fun i => .int (-i)) (ev_var rfl))) ?_)
        show SW K _ _ [.dat (dI top4), .dat (dI bottom2), .un] _ _ _
        obtain ⟨bottom5, hbottom5, h⟩ := R.bind_inv h
        refine sw_set (ev_cast (r := dI) hbottom5 (ev_u (g := fun i => .int (-i)) (ev_var rfl))) ?_
        obtain rfl := R.ok_inj h
        exact .eq (.eq (.un .nil))
      · have h := if_f hc hst3
        clear hst3
        refine sw_next ?_
        obtain rfl := R.ok_inj h
        exact .eq (.eq (.un .nil))
      show SW K _ _ [.dat (dI st3.1), .dat (dI st3.2), .un] _ _ _
      obtain ⟨diviso6, hdiviso6, h⟩ := R.bind_inv h
      obtain ⟨most7, hmost7, h⟩ := R.bind_inv h
      refine sw_seq (sw_set (ev_cast (r := dI) hmost7 (ev_call (x := ((absZ st3.1), st3.2)) hdiviso6 (ea_cons (ev_abs (ev_var rfl)) (ea_cons (ev_var rfl) ea_nil)))) ?_)
      show SW K _ _ [.dat (dI st3.1), .dat (dI st3.2), .dat (dI most7)] _ _ _
      obtain ⟨q8, hq8, h⟩ := R.bind_inv h
      obtain ⟨q9, hq9, h⟩ := R.bind_inv h
      obtain ⟨q10, hq10, h⟩ := R.bind_inv h
      obtain rfl := R.ok_inj h
      exact sw_ret (ev_mkQ hq10 (ev_fdiv hq8 (ev_var rfl) (ev_var rfl)) (ev_fdiv hq9 (ev_var rfl) (ev_var rfl))) ⟨_, rfl, rfl⟩
abbrev s_parted : Stmt := topS 12
abbrev n_parted : List Str := ["one", "other"]
theorem sc_parted : FnScope n_parted ["one", "other"] (defScope s_parted) := ⟨rfl, rfl, rfl, by decide +kernel, rfl, by decide +kernel, by decide +kernel⟩
abbrev sp_parted (K : PySem.W.Frag) : Sp := spR K (fun (x : Rat × Rat) => [dQ x.1, dQ x.2]) (fun (x : Rat × Rat) => p_parted x.1 x.2) dQ
set_option maxHeartbeats 4000000 in
theorem ok_parted {f : Addr} {fd : FuncData} (F : FnP K "parted" s_parted f fd) {f_ratio : Addr} {fd_ratio : FuncData} (F_ratio : FnP K "ratio" s_ratio f_ratio fd_ratio) (b_ratio : Binds K fd_ratio ["top", "bottom"] []) (g_ratio : mg "ratio" = some (.ref f_ratio)) (G_ratio : FnOk P w K mg base CX0 42 f_ratio fd_ratio ["top", "bottom"] (sp_ratio K)) : FnOk P w K mg base CX0 43 f fd ["one", "other"] (sp_parted K) := by
  refine F.ok sc_parted (fun vs H Q E h => ?_) (fun cdv A outer s H vs Q E hr h => ?_)
  · obtain ⟨x, _, _, _, _, d, _⟩ := h
    exact d.length
  · skip
    refine ⟨_, PSs.nox (pss_one (ps_ret (pe_call G_ratio (hr.mono (by decide)) (by rfl) g_ratio F_ratio.kp b_ratio .nil pass0 (pa_cons (pe_op op_mulP (pe_ix (r := rIxT K) ix_tup (pv 0) pe_int (fun _ _ => rfl)) (pe_ix (r := rIxT K) ix_tup (pv 1) pe_int (fun _ _ => rfl))) (pa_cons (pe_op op_mulP (pe_ix (r := rIxT K) ix_tup (pv 0) pe_int (fun _ _ => rfl)) (pe_ix (r := rIxT K) ix_tup (pv 1) pe_int (fun _ _ => rfl))) pa_nil))))), ?_⟩
    refine spR_run (n := 2) (k := 0) rfl (fun _ => rfl) (fun x b h => ?_) h
    obtain ⟨one1, other2⟩ := x
    show SW K _ _ [.dat (dQ one1), .dat (dQ other2)] _ _ _
    have h : p_parted one1 other2 = R.ok b := h
    unfold p_parted at h
    obtain ⟨p3, hp3, h⟩ := R.bind_inv h
    obtain ⟨p4, hp4, h⟩ := R.bind_inv h
    obtain ⟨ratio5, hratio5, h⟩ := R.bind_inv h
    exact sw_ret (ev_cast (r := dQ) h (ev_call (x := (p3, p4)) hratio5 (ea_cons (ev_mul hp3 (ev_ixT (k := 0) (ev_var rfl) (ev_c _) (by rfl) rfl) (ev_ixT (k := 1) (ev_var rfl) (ev_c _) (by rfl) rfl)) (ea_cons (ev_mul hp4 (ev_ixT (k := 1) (ev_var rfl) (ev_c _) (by rfl) rfl) (ev_ixT (k := 0) (ev_var rfl) (ev_c _) (by rfl) rfl)) ea_nil)))) rfl
abbrev sp_parted__v2 (K : PySem.W.Frag) : Sp := spX K (fun (x : Rat × Rat) => [dQ x.1, dQ x.2]) (fun (x : Rat × Rat) => p_parted_v2 x.1 x.2) dQ
set_option maxHeartbeats 4000000 in
theorem ok_parted__v2 {f : Addr} {fd : FuncData} (F : FnP K "parted" s_parted f fd) {f_ratio : Addr} {fd_ratio : FuncData} (F_ratio : FnP K "ratio" s_ratio f_ratio fd_ratio) (b_ratio : Binds K fd_ratio ["top", "bottom"] []) (g_ratio : mg "ratio" = some (.ref f_ratio)) (G_ratio__v2 : FnOk P w K mg base (L2.CX P w) 42 f_ratio fd_ratio ["top", "bottom"] (sp_ratio__v2 K)) : FnOk P w K mg base (L2.CX P w) 43 f fd ["one", "other"] (sp_parted__v2 K) := by
  refine F.ok sc_parted (fun vs H Q E h => ?_) (fun cdv A outer s H vs Q E hr h => ?_)
  · obtain ⟨x, _, _, _, _, d, _⟩ := h
    exact d.length
  · skip
    refine ⟨_, (pss_one (ps_ret (pe_callS G_ratio__v2 (hr.mono (by decide)) (by rfl) g_ratio F_ratio.kp b_ratio (fun σ => passAt (takes_of rfl rfl rfl rfl) σ) (pa_cons (pe_op op_mulP (pe_ix (r := rIxT K) ix_tup (pv 0) pe_int (fun _ _ => rfl)) (pe_ix (r := rIxT K) ix_tup (pv 1) pe_int (fun _ _ => rfl))) (pa_cons (pe_op op_mulP (pe_ix (r := rIxT K) ix_tup (pv 0) pe_int (fun _ _ => rfl)) (pe_ix (r := rIxT K) ix_tup (pv 1) pe_int (fun _ _ => rfl))) pa_nil))))), ?_⟩
    refine spX_run (n := 2) (k := 0) rfl (fun _ => rfl) (fun x b h => ?_) h
    obtain ⟨one1, other2⟩ := x
    show SW K _ _ [.dat (dQ one1), .dat (dQ other2)] _ _ _
    have h : p_parted_v2 one1 other2 = R.ok b := h
    unfold p_parted_v2 at h
    obtain ⟨p3, hp3, h⟩ := R.bind_inv h
    obtain ⟨p4, hp4, h⟩ := R.bind_inv h
    exact swx_retC (x := (p3, p4)) h (ea_cons (ev_mul hp3 (ev_ixT (k := 0) (ev_var rfl) (ev_c _) (by rfl) rfl) (ev_ixT (k := 1) (ev_var rfl) (ev_c _) (by rfl) rfl)) (ea_cons (ev_mul hp4 (ev_ixT (k := 1) (ev_var rfl) (ev_c _) (by rfl) rfl) (ev_ixT (k := 0) (ev_var rfl) (ev_c _) (by rfl) rfl)) ea_nil)) (fun y hy => ⟨_, hy, rfl⟩) (fun c hc => ⟨_, hc, rfl⟩)
abbrev s__law_cell : Stmt := topS 14
abbrev n__law_cell : List Str := ["_law_script", "_law_k", "_law_seed", "_law_some"]
theorem sc__law_cell : FnScope n__law_cell ["_law_script", "_law_k"] (defScope s__law_cell) := ⟨rfl, rfl, rfl, by decide +kernel, rfl, by decide +kernel, by decide +kernel⟩
abbrev sp__law_cell (K : PySem.W.Frag) : Sp := spR K (fun (x : (List Int) × Int) => [(dL dI) x.1, dI x.2]) (fun (x : (List Int) × Int) => l_cell x.1 x.2) dI
set_option maxHeartbeats 4000000 in
theorem ok__law_cell {f : Addr} {fd : FuncData} (F : FnP K "_law_cell" s__law_cell f fd) (z_len : mg "len" = none) (hS : base.NoSeer) (hT : P.given.tree = none) : FnOk P w K mg base CX0 41 f fd ["_law_script", "_law_k"] (sp__law_cell K) := by
  refine F.ok sc__law_cell (fun vs H Q E h => ?_) (fun cdv A outer s H vs Q E hr h => ?_)
  · obtain ⟨x, _, _, _, _, d, _⟩ := h
    exact d.length
  · have hp := pyRm (qual := "_law_cell") (sc := defScope s__law_cell) (n := s.heap.objs.size) (f := f) (cd := cdv) (outer := outer) hS hT hr (by decide) rfl rfl
    refine ⟨_, PSs.nox (pss_cons (ps_if (pt_cmpR op_lt (pv 1) (pe_callB (id := "len") (r := rLenP K) cl_len (by rfl) z_len (by decide +kernel) (pa_cons (pv 0) pa_nil)) (nomark _)) (pss_one (ps_ret (pe_ix (r := rIxL K) ix_list (pv 0) (pv 1) (fun _ _ => rfl)))) pss_nil) (pss_cons (ps_set (i := 2) sc__law_cell.nd rfl (Or.inl rfl) (pe_op op_mulP (pv 1) pe_int)) (pss_cons (ps_if (pt_cmpR op_gt (pe_callB (id := "len") (r := rLenP K) cl_len (by rfl) z_len (by decide +kernel) (pa_cons (pv 0) pa_nil)) pe_int (nomark _)) (pss_one (ps_set (i := 2) sc__law_cell.nd rfl (Or.inl rfl) (pe_op op_add (pv 2) (pe_op op_modN (pe_ix (r := rIxL K) ix_list (pv 0) (pe_op op_modN (pv 1) (pe_callB (id := "len") (r := rLenP K) cl_len (by rfl) z_len (by decide +kernel) (pa_cons (pv 0) pa_nil))) (fun _ _ => rfl)) pe_int)))) pss_nil) (pss_cons (ps_set (i := 3) sc__law_cell.nd rfl (Or.inl rfl) (pe_op op_modN (pe_op op_mulP (pv 2) pe_int) pe_int)) (pss_one (ps_ret (pe_op op_modN (pe_op (op_fdivP hp) (pe_op op_mulP (pv 3) (pe_op op_add (pe_op op_add (pv 3) (pe_op op_mulP pe_int (pv 1))) pe_int)) pe_int) pe_int))))))), ?_⟩
    refine spR_run (n := 2) (k := 2) rfl (fun _ => rfl) (fun x b h => ?_) h
    obtain ⟨script1, k2⟩ := x
    show SW K _ _ [.dat ((dL dI) script1), .dat (dI k2), .un, .un] _ _ _
    have h : l_cell script1 k2 = R.ok b := h
    unfold l_cell at h
    refine sw_seq (sw_if (et_test (ev_i0 (g := fun i j => .bl (decide (i < j))) (ev_var rfl) (ev_lenM (ev_lenL (ev_var rfl))))) (fun hc => ?_) (fun hc => ?_))
    · have h := if_t hc h
      obtain ⟨it3, hit3, h⟩ := R.bind_inv h
      exact sw_ret (ev_cast (r := dI) h (ev_atL (r := dI) hit3 (ev_var rfl) (ev_var rfl))) rfl
    · have h := if_f hc h
      refine sw_next ?_
      show SW K _ _ [.dat ((dL dI) script1), .dat (dI k2), .un, .un] _ _ _
      obtain ⟨p4, hp4, h⟩ := R.bind_inv h
      obtain ⟨seed5, hseed5, h⟩ := R.bind_inv h
      refine sw_seq (sw_set (ev_cast (r := dI) hseed5 (ev_mul hp4 (ev_var rfl) (ev_c _))) ?_)
      show SW K _ _ [.dat ((dL dI) script1), .dat (dI k2), .dat (dI seed5), .un] _ _ _
      obtain ⟨st6, hst6, h⟩ := R.bind_inv h
      refine sw_seq (sw_mono (Nx := fun e => Wk e [.dat ((dL dI) script1), .dat (dI k2), .dat (dI st6), .un]) (sw_if (et_test (ev_i0 (g := fun i j => .bl (decide (j < i))) (ev_lenM (ev_lenL (ev_var rfl))) (ev_c _))) (fun hc => ?_) (fun hc => ?_)) (fun e w => sw_weak w ?_))
      · have h := if_t hc hst6
        clear hst6
        obtain ⟨m7, hm7, h⟩ := R.bind_inv h
        obtain ⟨it8, hit8, h⟩ := R.bind_inv h
        obtain ⟨seed9, hseed9, h⟩ := R.bind_inv h
        refine sw_set (ev_cast (r := dI) hseed9 (ev_i0 (g := fun i j => .int (i + j)) (ev_var rfl) (ev_modP (by decide +kernel) (ev_atL (r := dI) hit8 (ev_var rfl) (ev_fmod hm7 (ev_var rfl) (ev_lenM (ev_lenL (ev_var rfl))))) (ev_c _)))) ?_
        obtain rfl := R.ok_inj h
        exact .eq (.eq (.eq (.un .nil)))
      · have h := if_f hc hst6
        clear hst6
        refine sw_next ?_
        obtain rfl := R.ok_inj h
        exact .eq (.eq (.eq (.un .nil)))
      show SW K _ _ [.dat ((dL dI) script1), .dat (dI k2), .dat (dI st6), .un] _ _ _
      obtain ⟨p10, hp10, h⟩ := R.bind_inv h
      obtain ⟨some11, hsome11, h⟩ := R.bind_inv h
      refine sw_seq (sw_set (ev_cast (r := dI) hsome11 (ev_modP (by decide +kernel) (ev_mul hp10 (ev_var rfl) (ev_c _)) (ev_c _))) ?_)
      show SW K _ _ [.dat ((dL dI) script1), .dat (dI k2), .dat (dI st6), .dat (dI some11)] _ _ _
      obtain ⟨p12, hp12, h⟩ := R.bind_inv h
      obtain ⟨p13, hp13, h⟩ := R.bind_inv h
      exact sw_ret (ev_cast (r := dI) h (ev_modP (by decide +kernel) (ev_divP (by decide +kernel) (ev_mul hp13 (ev_var rfl) (ev_i0 (g := fun i j => .int (i + j)) (ev_i0 (g := fun i j => .int (i + j)) (ev_var rfl) (ev_mul hp12 (ev_c _) (ev_var rfl))) (ev_c _))) (ev_c _)) (ev_c _))) rfl
abbrev s__law_whole : Stmt := topS 15
abbrev n__law_whole : List Str := ["_law_found"]
theorem sc__law_whole : FnScope n__law_whole ["_law_found"] (defScope s__law_whole) := ⟨rfl, rfl, rfl, by decide +kernel, rfl, by decide +kernel, by decide +kernel⟩
abbrev sp__law_whole (K : PySem.W.Frag) : Sp := spR K (fun (x : Int) => [dI x]) (fun (x : Int) => l_whole x) dB
set_option maxHeartbeats 4000000 in
theorem ok__law_whole {f : Addr} {fd : FuncData} (F : FnP K "_law_whole" s__law_whole f fd) (z_bool : mg "bool" = none) (z_int : mg "int" = none) (z_isinstance : mg "isinstance" = none) : FnOk P w K mg base CX0 41 f fd ["_law_found"] (sp__law_whole K) := by
  refine F.ok sc__law_whole (fun vs H Q E h => ?_) (fun cdv A outer s H vs Q E hr h => ?_)
  · obtain ⟨x, _, _, _, _, d, _⟩ := h
    exact d.length
  · skip
    refine ⟨_, PSs.nox (pss_one (ps_ret (pe_and (pe_callB (id := "isinstance") (r := rIsi K) call_isi (by rfl) z_isinstance (by decide +kernel) (pa_cons (pv 0) (pa_cons (pe_bltn (v := .ty "int") (u := .type "int") (by rfl) z_int (by decide +kernel) rfl) pa_nil))) (pe_one (pe_not (pe_callB (id := "isinstance") (r := rIsi K) call_isi (by rfl) z_isinstance (by decide +kernel) (pa_cons (pv 0) (pa_cons (pe_bltn (v := .ty "bool") (u := .type "bool") (by rfl) z_bool (by decide +kernel) rfl) pa_nil)))))))), ?_⟩
    refine spR_run (n := 1) (k := 0) rfl (fun _ => rfl) (fun x b h => ?_) h
    generalize x = found1 at h ⊢
    show SW K _ _ [.dat (dI found1)] _ _ _
    have h : l_whole found1 = R.ok b := h
    unfold l_whole at h
    exact sw_ret (ev_cast (r := dB) h (ev_andV (ev_isi (r := true) (ev_var rfl) rfl (by decide +kernel)) (fun hc => (ev_notV (ev_isi (r := false) (ev_var rfl) rfl (by decide +kernel)))))) rfl
abbrev s__law_most : Stmt := topS 16
abbrev n__law_most : List Str := ["_law_one", "_law_other", "_law_rest"]
theorem sc__law_most : FnScope n__law_most ["_law_one", "_law_other"] (defScope s__law_most) := ⟨rfl, rfl, rfl, by decide +kernel, rfl, by decide +kernel, by decide +kernel⟩
abbrev sp__law_most (K : PySem.W.Frag) : Sp := spR K (fun (x : Int × Int) => [dI x.1, dI x.2]) (fun (x : Int × Int) => l_most x.1 x.2) dI
set_option maxHeartbeats 4000000 in
theorem ok__law_most {f : Addr} {fd : FuncData} (F : FnP K "_law_most" s__law_most f fd)  : FnOk P w K mg base CX0 41 f fd ["_law_one", "_law_other"] (sp__law_most K) := by
  refine F.ok sc__law_most (fun vs H Q E h => ?_) (fun cdv A outer s H vs Q E hr h => ?_)
  · obtain ⟨x, _, _, _, _, d, _⟩ := h
    exact d.length
  · skip
    refine ⟨_, PSs.nox (pss_cons (ps_while PassesOwn.never (pt_cmpR op_gt (pv 1) pe_int (nomark _)) (pss_cons (ps_set (i := 2) sc__law_most.nd rfl (Or.inl rfl) (pe_op op_modN (pv 0) (pv 1))) (pss_cons (ps_set (i := 0) sc__law_most.nd rfl (Or.inl rfl) (pv 1)) (pss_one (ps_set (i := 1) sc__law_most.nd rfl (Or.inl rfl) (pv 2)))))) (pss_one (ps_ret (pv 0)))), ?_⟩
    refine spR_run (n := 2) (k := 1) rfl (fun _ => rfl) (fun x b h => ?_) h
    obtain ⟨one1, other2⟩ := x
    show SW K _ _ [.dat (dI one1), .dat (dI other2), .un] _ _ _
    have h : l_most one1 other2 = R.ok b := h
    unfold l_most at h
    obtain ⟨g3, hg3, h⟩ := R.bind_inv h
    refine sw_seq (sw_gcd (fun (z : Int × Int) => [.dat (dI z.1), .dat (dI z.2), .un]) (x0 := one1) (y0 := other2) hg3 (.eq (.eq (.un .nil))) (fun z => (et_test (ev_i0 (g := fun i j => .bl (decide (j < i))) (ev_var rfl) (ev_c _)))) (fun z w hm hw => sw_seq (sw_set (ev_fmod hm (ev_var rfl) (ev_var rfl)) (sw_seq (sw_set (ev_var rfl) (sw_set (ev_var rfl) ⟨(z.2, w), hw.1, hw.2, .eq (.eq (.un .nil))⟩))))) ?_)
    show SW K _ _ [.dat (dI g3), .dat (dI ((0 : Int))), .un] _ _ _
    exact sw_ret (ev_cast (r := dI) h (ev_var rfl)) rfl
abbrev s__law_is : Stmt := topS 17
abbrev n__law_is : List Str := ["_law_found", "_law_top_here", "_law_bottom_here"]
theorem sc__law_is : FnScope n__law_is ["_law_found", "_law_top_here", "_law_bottom_here"] (defScope s__law_is) := ⟨rfl, rfl, rfl, by decide +kernel, rfl, by decide +kernel, by decide +kernel⟩
abbrev sp__law_is (K : PySem.W.Frag) : Sp := spR K (fun (x : Rat × Int × Int) => [dQ x.1, dI x.2.1, dI x.2.2]) (fun (x : Rat × Int × Int) => l_is x.1 x.2.1 x.2.2) dB
set_option maxHeartbeats 4000000 in
theorem ok__law_is {f : Addr} {fd : FuncData} (F : FnP K "_law_is" s__law_is f fd) {f__law_most : Addr} {fd__law_most : FuncData} (F__law_most : FnP K "_law_most" s__law_most f__law_most fd__law_most) (b__law_most : Binds K fd__law_most ["_law_one", "_law_other"] []) (g__law_most : mg "_law_most" = some (.ref f__law_most)) {f__law_whole : Addr} {fd__law_whole : FuncData} (F__law_whole : FnP K "_law_whole" s__law_whole f__law_whole fd__law_whole) (b__law_whole : Binds K fd__law_whole ["_law_found"] []) (g__law_whole : mg "_law_whole" = some (.ref f__law_whole)) (G__law_most : FnOk P w K mg base CX0 41 f__law_most fd__law_most ["_law_one", "_law_other"] (sp__law_most K)) (G__law_whole : FnOk P w K mg base CX0 41 f__law_whole fd__law_whole ["_law_found"] (sp__law_whole K)) (z_abs : mg "abs" = none) (z_isinstance : mg "isinstance" = none) (z_len : mg "len" = none) (z_tuple : mg "tuple" = none) : FnOk P w K mg base CX0 42 f fd ["_law_found", "_law_top_here", "_law_bottom_here"] (sp__law_is K) := by
  refine F.ok sc__law_is (fun vs H Q E h => ?_) (fun cdv A outer s H vs Q E hr h => ?_)
  · obtain ⟨x, _, _, _, _, d, _⟩ := h
    exact d.length
  · skip
    refine ⟨_, PSs.nox (pss_cons (ps_if (PW.pt (pw_or (pt_not (pt_val (pe_callB (id := "isinstance") (r := rIsi K) call_isi (by rfl) z_isinstance (by decide +kernel) (pa_cons (pv 0) (pa_cons (pe_bltn (v := .ty "tuple") (u := .type "tuple") (by rfl) z_tuple (by decide +kernel) rfl) pa_nil))))) (pw_or1 (pt_cmpR op_ne (pe_callB (id := "len") (r := rLenP K) cl_len (by rfl) z_len (by decide +kernel) (pa_cons (pv 0) pa_nil)) pe_int (nomark _))))) (pss_one (ps_ret pe_bl)) pss_nil) (pss_cons (ps_if (PW.pt (pw_or (pt_not (pt_val (pe_call G__law_whole (hr.mono (by decide)) (by rfl) g__law_whole F__law_whole.kp b__law_whole .nil pass0 (pa_cons (pe_ix (r := rIxT K) ix_tup (pv 0) pe_int (fun _ _ => rfl)) pa_nil)))) (pw_or (pt_not (pt_val (pe_call G__law_whole (hr.mono (by decide)) (by rfl) g__law_whole F__law_whole.kp b__law_whole .nil pass0 (pa_cons (pe_ix (r := rIxT K) ix_tup (pv 0) pe_int (fun _ _ => rfl)) pa_nil)))) (pw_or1 (pt_cmpR op_lt (pe_ix (r := rIxT K) ix_tup (pv 0) pe_int (fun _ _ => rfl)) pe_int (nomark _)))))) (pss_one (ps_ret pe_bl)) pss_nil) (pss_one (ps_ret (pe_and (pe_cmpR op_eq (pe_op op_mulP (pe_ix (r := rIxT K) ix_tup (pv 0) pe_int (fun _ _ => rfl)) (pv 2)) (pe_op op_mulP (pv 1) (pe_ix (r := rIxT K) ix_tup (pv 0) pe_int (fun _ _ => rfl))) (nomark _)) (pe_one (pe_cmpR op_eq (pe_call G__law_most (hr.mono (by decide)) (by rfl) g__law_most F__law_most.kp b__law_most .nil pass0 (pa_cons (pe_callB (id := "abs") cl_abs (by rfl) z_abs (by decide +kernel) (pa_cons (pe_ix (r := rIxT K) ix_tup (pv 0) pe_int (fun _ _ => rfl)) pa_nil)) (pa_cons (pe_ix (r := rIxT K) ix_tup (pv 0) pe_int (fun _ _ => rfl)) pa_nil))) pe_int (nomark _)))))))), ?_⟩
    refine spR_run (n := 3) (k := 0) rfl (fun _ => rfl) (fun x b h => ?_) h
    obtain ⟨found1, top2, bottom3⟩ := x
    show SW K _ _ [.dat (dQ found1), .dat (dI top2), .dat (dI bottom3)] _ _ _
    have h : l_is found1 top2 bottom3 = R.ok b := h
    unfold l_is at h
    refine sw_seq (sw_if (et_or (et_not (et_b (ev_isi (r := true) (ev_var rfl) rfl (by decide +kernel)))) (fun hc => (et_test (ev_neI (ev_lenW (n := 2) rfl (ev_var rfl)) (ev_c _))))) (fun hc => ?_) (fun hc => ?_))
    · have h := if_t hc h
      exact sw_ret (ev_cast (r := dB) h (ev_c _)) rfl
    · have h := if_f hc h
      refine sw_next ?_
      show SW K _ _ [.dat (dQ found1), .dat (dI top2), .dat (dI bottom3)] _ _ _
      obtain ⟨w4, hw4, h⟩ := R.bind_inv h
      obtain ⟨b6, hb6, h⟩ := R.bind_inv h
      refine sw_seq (sw_if (et_orR hb6 (et_not (et_b (ev_call (x := found1.num) hw4 (ea_cons (ev_ixT (k := 0) (ev_var rfl) (ev_c _) (by rfl) rfl) ea_nil)))) (fun hc h => by obtain ⟨w5, hw5, h⟩ := R.bind_inv h; exact et_cast h (et_or (et_not (et_b (ev_call (x := (found1.den : Int)) hw5 (ea_cons (ev_ixT (k := 1) (ev_var rfl) (ev_c _) (by rfl) rfl) ea_nil)))) (fun hc => (et_test (ev_i0 (g := fun i j => .bl (decide (i < j))) (ev_ixT (k := 1) (ev_var rfl) (ev_c _) (by rfl) rfl) (ev_c _))))))) (fun hc => ?_) (fun hc => ?_))
      · have h := if_t hc h
        exact sw_ret (ev_cast (r := dB) h (ev_c _)) rfl
      · have h := if_f hc h
        refine sw_next ?_
        show SW K _ _ [.dat (dQ found1), .dat (dI top2), .dat (dI bottom3)] _ _ _
        obtain ⟨p7, hp7, h⟩ := R.bind_inv h
        obtain ⟨p8, hp8, h⟩ := R.bind_inv h
        obtain ⟨b10, hb10, h⟩ := R.bind_inv h
        exact sw_ret (ev_cast (r := dB) h (ev_andVR hb10 (ev_eqI (ev_mul hp7 (ev_ixT (k := 0) (ev_var rfl) (ev_c _) (by rfl) rfl) (ev_var rfl)) (ev_mul hp8 (ev_var rfl) (ev_ixT (k := 1) (ev_var rfl) (ev_c _) (by rfl) rfl))) (fun hc h => by obtain ⟨m9, hm9, h⟩ := R.bind_inv h; exact ev_cast (r := dB) h (ev_eqI (ev_call (x := ((absZ found1.num), (found1.den : Int))) hm9 (ea_cons (ev_abs (ev_ixT (k := 0) (ev_var rfl) (ev_c _) (by rfl) rfl)) (ea_cons (ev_ixT (k := 1) (ev_var rfl) (ev_c _) (by rfl) rfl) ea_nil))) (ev_c _))))) rfl
abbrev s__law_ratio : Stmt := topS 18
abbrev n__law_ratio : List Str := ["_law_top_here", "_law_bottom_here", "_law_most_here"]
theorem sc__law_ratio : FnScope n__law_ratio ["_law_top_here", "_law_bottom_here"] (defScope s__law_ratio) := ⟨rfl, rfl, rfl, by decide +kernel, rfl, by decide +kernel, by decide +kernel⟩
abbrev sp__law_ratio (K : PySem.W.Frag) : Sp := spR K (fun (x : Int × Int) => [dI x.1, dI x.2]) (fun (x : Int × Int) => l_ratio x.1 x.2) dQ
set_option maxHeartbeats 4000000 in
theorem ok__law_ratio {f : Addr} {fd : FuncData} (F : FnP K "_law_ratio" s__law_ratio f fd) {f__law_most : Addr} {fd__law_most : FuncData} (F__law_most : FnP K "_law_most" s__law_most f__law_most fd__law_most) (b__law_most : Binds K fd__law_most ["_law_one", "_law_other"] []) (g__law_most : mg "_law_most" = some (.ref f__law_most)) (G__law_most : FnOk P w K mg base CX0 41 f__law_most fd__law_most ["_law_one", "_law_other"] (sp__law_most K)) (z_abs : mg "abs" = none) (hS : base.NoSeer) (hT : P.given.tree = none) : FnOk P w K mg base CX0 42 f fd ["_law_top_here", "_law_bottom_here"] (sp__law_ratio K) := by
  refine F.ok sc__law_ratio (fun vs H Q E h => ?_) (fun cdv A outer s H vs Q E hr h => ?_)
  · obtain ⟨x, _, _, _, _, d, _⟩ := h
    exact d.length
  · have hp := pyRm (qual := "_law_ratio") (sc := defScope s__law_ratio) (n := s.heap.objs.size) (f := f) (cd := cdv) (outer := outer) hS hT hr (by decide) rfl rfl
    refine ⟨_, PSs.nox (pss_cons (ps_set (i := 2) sc__law_ratio.nd rfl (Or.inl rfl) (pe_call G__law_most (hr.mono (by decide)) (by rfl) g__law_most F__law_most.kp b__law_most .nil pass0 (pa_cons (pe_callB (id := "abs") cl_abs (by rfl) z_abs (by decide +kernel) (pa_cons (pv 0) pa_nil)) (pa_cons (pe_callB (id := "abs") cl_abs (by rfl) z_abs (by decide +kernel) (pa_cons (pv 1) pa_nil)) pa_nil)))) (pss_cons (ps_if (pt_cmpR op_lt (pv 1) pe_int (nomark _)) (pss_one (ps_set (i := 2) sc__law_ratio.nd rfl (Or.inl rfl) (pe_un un_neg (pv 2)))) pss_nil) (pss_one (ps_ret (pe_tup (pa_cons (pe_op (op_fdivP hp) (pv 0) (pv 2)) (pa_cons (pe_op (op_fdivP hp) (pv 1) (pv 2)) pa_nil))))))), ?_⟩
    refine spR_run (n := 2) (k := 1) rfl (fun _ => rfl) (fun x b h => ?_) h
    obtain ⟨top1, bottom2⟩ := x
    show SW K _ _ [.dat (dI top1), .dat (dI bottom2), .un] _ _ _
    have h : l_ratio top1 bottom2 = R.ok b := h
    unfold l_ratio at h
    obtain ⟨m3, hm3, h⟩ := R.bind_inv h
    obtain ⟨most4, hmost4, h⟩ := R.bind_inv h
    refine sw_seq (sw_set (ev_cast (r := dI) hmost4 (ev_call (x := ((absZ top1), (absZ bottom2))) hm3 (ea_cons (ev_abs (ev_var rfl)) (ea_cons (ev_abs (ev_var rfl)) ea_nil)))) ?_)
    show SW K _ _ [.dat (dI top1), .dat (dI bottom2), .dat (dI most4)] _ _ _
    obtain ⟨st5, hst5, h⟩ := R.bind_inv h
    refine sw_seq (sw_mono (Nx := fun e => Wk e [.dat (dI top1), .dat (dI bottom2), .dat (dI st5)]) (sw_if (et_test (ev_i0 (g := fun i j => .bl (decide (i < j))) (ev_var rfl) (ev_c _))) (fun hc => ?_) (fun hc => ?_)) (fun e w => sw_weak w ?_))
    · have h := if_t hc hst5
      clear hst5
      obtain ⟨most6, hmost6, h⟩ := R.bind_inv h
      refine sw_set (ev_cast (r := dI) hmost6 (ev_u (g := fun i => .int (-i)) (ev_var rfl))) ?_
      obtain rfl := R.ok_inj h
      exact .eq (.eq (.eq .nil))
    · have h := if_f hc hst5
      clear hst5
      refine sw_next ?_
      obtain rfl := R.ok_inj h
      exact .eq (.eq (.eq .nil))
    show SW K _ _ [.dat (dI top1), .dat (dI bottom2), .dat (dI st5)] _ _ _
    obtain ⟨q7, hq7, h⟩ := R.bind_inv h
    obtain ⟨q8, hq8, h⟩ := R.bind_inv h
    obtain ⟨q9, hq9, h⟩ := R.bind_inv h
    exact sw_ret (ev_cast (r := dQ) h (ev_mkQ hq9 (ev_fdiv hq7 (ev_var rfl) (ev_var rfl)) (ev_fdiv hq8 (ev_var rfl) (ev_var rfl)))) rfl
abbrev s__law_top : Stmt := topS 19
abbrev n__law_top : List Str := ["_law_cell_here"]
theorem sc__law_top : FnScope n__law_top ["_law_cell_here"] (defScope s__law_top) := ⟨rfl, rfl, rfl, by decide +kernel, rfl, by decide +kernel, by decide +kernel⟩
abbrev sp__law_top (K : PySem.W.Frag) : Sp := spR K (fun (x : Int) => [dI x]) (fun (x : Int) => l_top x) dI
set_option maxHeartbeats 4000000 in
theorem ok__law_top {f : Addr} {fd : FuncData} (F : FnP K "_law_top" s__law_top f fd) (hS : base.NoSeer) (hT : P.given.tree = none) : FnOk P w K mg base CX0 41 f fd ["_law_cell_here"] (sp__law_top K) := by
  refine F.ok sc__law_top (fun vs H Q E h => ?_) (fun cdv A outer s H vs Q E hr h => ?_)
  · obtain ⟨x, _, _, _, _, d, _⟩ := h
    exact d.length
  · have hp := pyRm (qual := "_law_top") (sc := defScope s__law_top) (n := s.heap.objs.size) (f := f) (cd := cdv) (outer := outer) hS hT hr (by decide) rfl rfl
    refine ⟨_, PSs.nox (pss_cons (ps_if (pt_cmpR op_eq (pe_op op_modN (pv 0) pe_int) pe_int (nomark _)) (pss_one (ps_ret (pe_op op_add (pe_op op_sub (pe_op op_modN (pe_op (op_fdivP hp) (pv 0) pe_int) (pe_op op_sub (pe_op op_mulP pe_int (pe_op op_pow pe_int pe_int)) pe_int)) (pe_op op_pow pe_int pe_int)) pe_int))) pss_nil) (pss_one (ps_ret (pe_op op_sub (pe_op op_modN (pe_op (op_fdivP hp) (pv 0) pe_int) pe_int) pe_int)))), ?_⟩
    refine spR_run (n := 1) (k := 0) rfl (fun _ => rfl) (fun x b h => ?_) h
    generalize x = cell1 at h ⊢
    show SW K _ _ [.dat (dI cell1)] _ _ _
    have h : l_top cell1 = R.ok b := h
    unfold l_top at h
    refine sw_seq (sw_if (et_test (ev_eqI (ev_modP (by decide +kernel) (ev_var rfl) (ev_c _)) (ev_c _))) (fun hc => ?_) (fun hc => ?_))
    · have h := if_t hc h
      exact sw_ret (ev_cast (r := dI) h (ev_i0 (g := fun i j => .int (i + j)) (ev_i0 (g := fun i j => .int (i - j)) (ev_modP (by decide +kernel) (ev_divP (by decide +kernel) (ev_var rfl) (ev_c _)) (ev_i0 (g := fun i j => .int (i - j)) (ev_mulL (i := (2 : Int)) (j := (1000000000000000000000000000000 : Int)) (k := 2000000000000000000000000000000) (by decide +kernel) (by decide +kernel) (ev_c _) (ev_pow (i := (10 : Int)) (j := (30 : Int)) (n := 1000000000000000000000000000000) (by decide +kernel) (by decide +kernel) (ev_c _) (ev_c _))) (ev_c _))) (ev_pow (i := (10 : Int)) (j := (30 : Int)) (n := 1000000000000000000000000000000) (by decide +kernel) (by decide +kernel) (ev_c _) (ev_c _))) (ev_c _))) rfl
    · have h := if_f hc h
      refine sw_next ?_
      show SW K _ _ [.dat (dI cell1)] _ _ _
      exact sw_ret (ev_cast (r := dI) h (ev_i0 (g := fun i j => .int (i - j)) (ev_modP (by decide +kernel) (ev_divP (by decide +kernel) (ev_var rfl) (ev_c _)) (ev_c _)) (ev_c _))) rfl
abbrev s__law_bottom : Stmt := topS 20
abbrev n__law_bottom : List Str := ["_law_cell_here"]
theorem sc__law_bottom : FnScope n__law_bottom ["_law_cell_here"] (defScope s__law_bottom) := ⟨rfl, rfl, rfl, by decide +kernel, rfl, by decide +kernel, by decide +kernel⟩
abbrev sp__law_bottom (K : PySem.W.Frag) : Sp := spR K (fun (x : Int) => [dI x]) (fun (x : Int) => l_bottom x) dI
set_option maxHeartbeats 4000000 in
theorem ok__law_bottom {f : Addr} {fd : FuncData} (F : FnP K "_law_bottom" s__law_bottom f fd) (hS : base.NoSeer) (hT : P.given.tree = none) : FnOk P w K mg base CX0 41 f fd ["_law_cell_here"] (sp__law_bottom K) := by
  refine F.ok sc__law_bottom (fun vs H Q E h => ?_) (fun cdv A outer s H vs Q E hr h => ?_)
  · obtain ⟨x, _, _, _, _, d, _⟩ := h
    exact d.length
  · have hp := pyRm (qual := "_law_bottom") (sc := defScope s__law_bottom) (n := s.heap.objs.size) (f := f) (cd := cdv) (outer := outer) hS hT hr (by decide) rfl rfl
    refine ⟨_, PSs.nox (pss_cons (ps_if (pt_cmpR op_eq (pe_op op_modN (pv 0) pe_int) pe_int (nomark _)) (pss_one (ps_ret (pe_op op_add pe_int (pe_op op_modN (pe_op (op_fdivP hp) (pv 0) pe_int) (pe_op op_sub (pe_op op_pow pe_int pe_int) pe_int))))) pss_nil) (pss_one (ps_ret (pe_op op_add pe_int (pe_op op_modN (pe_op (op_fdivP hp) (pv 0) pe_int) pe_int))))), ?_⟩
    refine spR_run (n := 1) (k := 0) rfl (fun _ => rfl) (fun x b h => ?_) h
    generalize x = cell1 at h ⊢
    show SW K _ _ [.dat (dI cell1)] _ _ _
    have h : l_bottom cell1 = R.ok b := h
    unfold l_bottom at h
    refine sw_seq (sw_if (et_test (ev_eqI (ev_modP (by decide +kernel) (ev_var rfl) (ev_c _)) (ev_c _))) (fun hc => ?_) (fun hc => ?_))
    · have h := if_t hc h
      exact sw_ret (ev_cast (r := dI) h (ev_i0 (g := fun i j => .int (i + j)) (ev_c _) (ev_modP (by decide +kernel) (ev_divP (by decide +kernel) (ev_var rfl) (ev_c _)) (ev_i0 (g := fun i j => .int (i - j)) (ev_pow (i := (10 : Int)) (j := (30 : Int)) (n := 1000000000000000000000000000000) (by decide +kernel) (by decide +kernel) (ev_c _) (ev_c _)) (ev_c _))))) rfl
    · have h := if_f hc h
      refine sw_next ?_
      show SW K _ _ [.dat (dI cell1)] _ _ _
      exact sw_ret (ev_cast (r := dI) h (ev_i0 (g := fun i j => .int (i + j)) (ev_c _) (ev_modP (by decide +kernel) (ev_divP (by decide +kernel) (ev_var rfl) (ev_c _)) (ev_c _)))) rfl
abbrev s__law_drawn : Stmt := topS 21
abbrev n__law_drawn : List Str := ["_law_script", "_law_at"]
theorem sc__law_drawn : FnScope n__law_drawn ["_law_script", "_law_at"] (defScope s__law_drawn) := ⟨rfl, rfl, rfl, by decide +kernel, rfl, by decide +kernel, by decide +kernel⟩
abbrev sp__law_drawn (K : PySem.W.Frag) : Sp := spR K (fun (x : (List Int) × Int) => [(dL dI) x.1, dI x.2]) (fun (x : (List Int) × Int) => l_drawn x.1 x.2) dQ
set_option maxHeartbeats 4000000 in
theorem ok__law_drawn {f : Addr} {fd : FuncData} (F : FnP K "_law_drawn" s__law_drawn f fd) {f__law_bottom : Addr} {fd__law_bottom : FuncData} (F__law_bottom : FnP K "_law_bottom" s__law_bottom f__law_bottom fd__law_bottom) (b__law_bottom : Binds K fd__law_bottom ["_law_cell_here"] []) (g__law_bottom : mg "_law_bottom" = some (.ref f__law_bottom)) {f__law_cell : Addr} {fd__law_cell : FuncData} (F__law_cell : FnP K "_law_cell" s__law_cell f__law_cell fd__law_cell) (b__law_cell : Binds K fd__law_cell ["_law_script", "_law_k"] []) (g__law_cell : mg "_law_cell" = some (.ref f__law_cell)) {f__law_ratio : Addr} {fd__law_ratio : FuncData} (F__law_ratio : FnP K "_law_ratio" s__law_ratio f__law_ratio fd__law_ratio) (b__law_ratio : Binds K fd__law_ratio ["_law_top_here", "_law_bottom_here"] []) (g__law_ratio : mg "_law_ratio" = some (.ref f__law_ratio)) {f__law_top : Addr} {fd__law_top : FuncData} (F__law_top : FnP K "_law_top" s__law_top f__law_top fd__law_top) (b__law_top : Binds K fd__law_top ["_law_cell_here"] []) (g__law_top : mg "_law_top" = some (.ref f__law_top)) (G__law_bottom : FnOk P w K mg base CX0 41 f__law_bottom fd__law_bottom ["_law_cell_here"] (sp__law_bottom K)) (G__law_cell : FnOk P w K mg base CX0 41 f__law_cell fd__law_cell ["_law_script", "_law_k"] (sp__law_cell K)) (G__law_ratio : FnOk P w K mg base CX0 42 f__law_ratio fd__law_ratio ["_law_top_here", "_law_bottom_here"] (sp__law_ratio K)) (G__law_top : FnOk P w K mg base CX0 41 f__law_top fd__law_top ["_law_cell_here"] (sp__law_top K)) : FnOk P w K mg base CX0 43 f fd ["_law_script", "_law_at"] (sp__law_drawn K) := by
  refine F.ok sc__law_drawn (fun vs H Q E h => ?_) (fun cdv A outer s H vs Q E hr h => ?_)
  · obtain ⟨x, _, _, _, _, d, _⟩ := h
    exact d.length
  · skip
    refine ⟨_, PSs.nox (pss_one (ps_ret (pe_call G__law_ratio (hr.mono (by decide)) (by rfl) g__law_ratio F__law_ratio.kp b__law_ratio .nil pass0 (pa_cons (pe_call G__law_top (hr.mono (by decide)) (by rfl) g__law_top F__law_top.kp b__law_top .nil pass0 (pa_cons (pe_call G__law_cell (hr.mono (by decide)) (by rfl) g__law_cell F__law_cell.kp b__law_cell .nil pass0 (pa_cons (pv 0) (pa_cons (pv 1) pa_nil))) pa_nil)) (pa_cons (pe_call G__law_bottom (hr.mono (by decide)) (by rfl) g__law_bottom F__law_bottom.kp b__law_bottom .nil pass0 (pa_cons (pe_call G__law_cell (hr.mono (by decide)) (by rfl) g__law_cell F__law_cell.kp b__law_cell .nil pass0 (pa_cons (pv 0) (pa_cons (pe_op op_add (pv 1) pe_int) pa_nil))) pa_nil)) pa_nil))))), ?_⟩
    refine spR_run (n := 2) (k := 0) rfl (fun _ => rfl) (fun x b h => ?_) h
    obtain ⟨script1, at2⟩ := x
    show SW K _ _ [.dat ((dL dI) script1), .dat (dI at2)] _ _ _
    have h : l_drawn script1 at2 = R.ok b := h
    unfold l_drawn at h
    obtain ⟨c3, hc3, h⟩ := R.bind_inv h
    obtain ⟨t4, ht4, h⟩ := R.bind_inv h
    obtain ⟨c5, hc5, h⟩ := R.bind_inv h
    obtain ⟨b6, hb6, h⟩ := R.bind_inv h
    obtain ⟨r7, hr7, h⟩ := R.bind_inv h
    exact sw_ret (ev_cast (r := dQ) h (ev_call (x := (t4, b6)) hr7 (ea_cons (ev_call (x := c3) ht4 (ea_cons (ev_call (x := (script1, at2)) hc3 (ea_cons (ev_var rfl) (ea_cons (ev_var rfl) ea_nil))) ea_nil)) (ea_cons (ev_call (x := c5) hb6 (ea_cons (ev_call (x := (script1, (at2 + (1 : Int)))) hc5 (ea_cons (ev_var rfl) (ea_cons (ev_i0 (g := fun i j => .int (i + j)) (ev_var rfl) (ev_c _)) ea_nil))) ea_nil)) ea_nil)))) rfl
abbrev s__law_refusal : Stmt := topS 22
abbrev n__law_refusal : List Str := ["_law_way", "_law_one", "_law_number", "e"]
theorem sc__law_refusal : FnScope n__law_refusal ["_law_way", "_law_one", "_law_number"] (defScope s__law_refusal) := ⟨rfl, rfl, rfl, by decide +kernel, rfl, by decide +kernel, by decide +kernel⟩
abbrev sp__law_refusal (K : PySem.W.Frag) : Sp := spR K (fun (x : Int × Rat × Int) => [dI x.1, dQ x.2.1, dI x.2.2]) (fun (x : Int × Rat × Int) => l_refusal x.1 x.2.1 x.2.2) (dO (dE K))
set_option maxHeartbeats 4000000 in
theorem ok__law_refusal {f : Addr} {fd : FuncData} (F : FnP K "_law_refusal" s__law_refusal f fd) {f_parted : Addr} {fd_parted : FuncData} (F_parted : FnP K "parted" s_parted f_parted fd_parted) (b_parted : Binds K fd_parted ["one", "other"] []) (g_parted : mg "parted" = some (.ref f_parted)) {f_ratio : Addr} {fd_ratio : FuncData} (F_ratio : FnP K "ratio" s_ratio f_ratio fd_ratio) (b_ratio : Binds K fd_ratio ["top", "bottom"] []) (g_ratio : mg "ratio" = some (.ref f_ratio)) (G_parted__v2 : FnOk P w K mg base (L2.CX P w) 43 f_parted fd_parted ["one", "other"] (sp_parted__v2 K)) (G_ratio__v2 : FnOk P w K mg base (L2.CX P w) 42 f_ratio fd_ratio ["top", "bottom"] (sp_ratio__v2 K)) (gx_CoverError : mg "CoverError" = some (.ref (He.ga K "CoverError"))) (xm_CoverError : ∀ c ∈ [Exc.ratio], PySem.W.exmOne K (.ref (xA K c)) (.ref (He.ga K "CoverError")) = some true) : FnOk P w K mg base CX0 44 f fd ["_law_way", "_law_one", "_law_number"] (sp__law_refusal K) := by
  refine F.ok sc__law_refusal (fun vs H Q E h => ?_) (fun cdv A outer s H vs Q E hr h => ?_)
  · obtain ⟨x, _, _, _, _, d, _⟩ := h
    exact d.length
  · skip
    refine ⟨_, PSs.nox (pss_cons (ps_tryX (i := 3) rfl rfl rfl sc__law_refusal.nd rfl rfl ⟨rfl, by decide, Or.inl gx_CoverError⟩ takes0 (fun W7 pn xe tk5 po6 => (pss_one (ps_if (pt_cmpR op_eq (pv 0) pe_int (nomark _)) (pss_one (ps_expr (pe_callS G_ratio__v2 (hr.mono (by decide)) (by rfl) g_ratio F_ratio.kp b_ratio (fun σ => passAt tk5 σ) (pa_cons (pv 2) (pa_cons pe_int pa_nil))))) (pss_one (ps_if (pt_cmpR op_eq (pv 0) pe_int (nomark _)) (pss_one (ps_expr (pe_callS G_ratio__v2 (hr.mono (by decide)) (by rfl) g_ratio F_ratio.kp b_ratio (fun σ => passAt tk5 σ) (pa_cons pe_int (pa_cons pe_int pa_nil))))) (pss_one (ps_if (pt_cmpR op_eq (pv 0) pe_int (nomark _)) (pss_one (ps_expr (pe_callS G_parted__v2 (hr.mono (by decide)) (by rfl) g_parted F_parted.kp b_parted (fun σ => passAt tk5 σ) (pa_cons (pv 1) (pa_cons (pe_tup (pa_cons pe_int (pa_cons pe_int pa_nil))) pa_nil))))) (pss_one (ps_expr (pe_callS G_parted__v2 (hr.mono (by decide)) (by rfl) g_parted F_parted.kp b_parted (fun σ => passAt tk5 σ) (pa_cons (pe_tup (pa_cons pe_int (pa_cons pe_int pa_nil))) (pa_cons (pe_tup (pa_cons pe_int (pa_cons pe_int pa_nil))) pa_nil)))))))))))) (fun a cls pn => (pss_one (ps_ret (pv 3))))) (pss_one (ps_ret pe_non))), ?_⟩
    refine spR_run (n := 3) (k := 1) rfl (fun _ => rfl) (fun x b h => ?_) h
    obtain ⟨way1, one2, number3⟩ := x
    show SW K _ _ [.dat (dI way1), .dat (dQ one2), .dat (dI number3), .un] _ _ _
    have h : l_refusal way1 one2 number3 = R.ok b := h
    unfold l_refusal at h
    obtain ⟨st4, hst4, h⟩ := R.bind_inv h
    refine sw_seq (sw_tryN (Nx1 := fun e => Wk e [.dat (dI way1), .dat (dQ one2), .dat (dI number3), .un] ∧ st4 = .inl ()) (Ex1 := fun e cls => e = [.dat (dI way1), .dat (dQ one2), .dat (dI number3), .un] ∧ ∃ c, st4 = .inr c ∧ cls = .ref (xA K c)) (fun _ => ?_) (fun e hn => ?_) (fun e cls hx => ?_))
    · have h := hst4
      clear hst4
      refine sw_if (et_test (ev_eqI (ev_var rfl) (ev_c _))) (fun hc => ?_) (fun hc => ?_)
      · have h := if_t hc h
        obtain ⟨r10, hr10, h⟩ := R.bind_inv h
        refine swx_dropC (x := (number3, (0 : Int))) hr10 (ea_cons (ev_var rfl) (ea_cons (ev_c _) ea_nil)) (fun y11 hy => ?_) (fun c hc => ?_)
        · subst hy
          have h := R.case_l h
          obtain rfl := R.ok_inj h
          exact ⟨.eq (.eq (.eq (.un .nil))), rfl⟩
        · subst hc
          have h := R.case_r h
          obtain rfl := R.ok_inj h
          exact ⟨rfl, _, rfl, rfl⟩
      · have h := if_f hc h
        refine sw_if (et_test (ev_eqI (ev_var rfl) (ev_c _))) (fun hc => ?_) (fun hc => ?_)
        · have h := if_t hc h
          obtain ⟨r12, hr12, h⟩ := R.bind_inv h
          refine swx_dropC (x := ((0 : Int), (0 : Int))) hr12 (ea_cons (ev_c _) (ea_cons (ev_c _) ea_nil)) (fun y13 hy => ?_) (fun c hc => ?_)
          · subst hy
            have h := R.case_l h
            obtain rfl := R.ok_inj h
            exact ⟨.eq (.eq (.eq (.un .nil))), rfl⟩
          · subst hc
            have h := R.case_r h
            obtain rfl := R.ok_inj h
            exact ⟨rfl, _, rfl, rfl⟩
        · have h := if_f hc h
          refine sw_if (et_test (ev_eqI (ev_var rfl) (ev_c _))) (fun hc => ?_) (fun hc => ?_)
          · have h := if_t hc h
            obtain ⟨q14, hq14, h⟩ := R.bind_inv h
            obtain ⟨r15, hr15, h⟩ := R.bind_inv h
            refine swx_dropC (x := (one2, q14)) hr15 (ea_cons (ev_var rfl) (ea_cons (ev_mkQ hq14 (ev_c _) (ev_c _)) ea_nil)) (fun y16 hy => ?_) (fun c hc => ?_)
            · subst hy
              have h := R.case_l h
              obtain rfl := R.ok_inj h
              exact ⟨.eq (.eq (.eq (.un .nil))), rfl⟩
            · subst hc
              have h := R.case_r h
              obtain rfl := R.ok_inj h
              exact ⟨rfl, _, rfl, rfl⟩
          · have h := if_f hc h
            obtain ⟨q17, hq17, h⟩ := R.bind_inv h
            obtain ⟨q18, hq18, h⟩ := R.bind_inv h
            obtain ⟨r19, hr19, h⟩ := R.bind_inv h
            refine swx_dropC (x := (q17, q18)) hr19 (ea_cons (ev_mkQ hq17 (ev_c _) (ev_c _)) (ea_cons (ev_mkQ hq18 (ev_c _) (ev_c _)) ea_nil)) (fun y20 hy => ?_) (fun c hc => ?_)
            · subst hy
              have h := R.case_l h
              obtain rfl := R.ok_inj h
              exact ⟨.eq (.eq (.eq (.un .nil))), rfl⟩
            · subst hc
              have h := R.case_r h
              obtain rfl := R.ok_inj h
              exact ⟨rfl, _, rfl, rfl⟩
    · obtain ⟨hw, rfl⟩ := hn
      have h := R.case_l h
      refine sw_weak hw ?_
      show SW K _ _ [.dat (dI way1), .dat (dQ one2), .dat (dI number3), .un] _ _ _
      exact sw_ret (ev_cast (r := (dO (dE K))) h (ev_c _)) rfl
    · obtain ⟨rfl, c9, rfl, rfl⟩ := hx
      have h := R.case_r h
      obtain ⟨hcm, h⟩ := R.caught_inv h
      refine ⟨true, xm_CoverError _ hcm, fun _ a => ?_, fun z => nomatch z⟩
      show SW K _ _ [.dat (dI way1), .dat (dQ one2), .dat (dI number3), .dat ((dE K) c9)] _ _ _
      exact sw_ret (ev_cast (r := (dO (dE K))) h (ev_some (ev_var rfl))) rfl
abbrev s__law_only : Stmt := topS 23
abbrev n__law_only : List Str := ["_law_some"]
theorem sc__law_only : FnScope n__law_only ["_law_some"] (defScope s__law_only) := ⟨rfl, rfl, rfl, by decide +kernel, rfl, by decide +kernel, by decide +kernel⟩
abbrev sp__law_only (K : PySem.W.Frag) : Sp := spR K (fun (x : (Option Exc)) => [(dO (dE K)) x]) (fun (x : (Option Exc)) => l_only x) dB
set_option maxHeartbeats 4000000 in
theorem ok__law_only {f : Addr} {fd : FuncData} (F : FnP K "_law_only" s__law_only f fd) (z_ValueError : mg "ValueError" = none) (z_isinstance : mg "isinstance" = none) (gx_NoCell : mg "NoCell" = some (.ref (He.ga K "NoCell"))) (gx_NoLayer : mg "NoLayer" = some (.ref (He.ga K "NoLayer"))) (gx_NoName : mg "NoName" = some (.ref (He.ga K "NoName"))) (gx_NoPlace : mg "NoPlace" = some (.ref (He.ga K "NoPlace"))) (gx_NoRatio : mg "NoRatio" = some (.ref (He.ga K "NoRatio"))) (gx_NoRow : mg "NoRow" = some (.ref (He.ga K "NoRow"))) (gx_NoText : mg "NoText" = some (.ref (He.ga K "NoText"))) (xc : ∀ c ∈ [Exc.ratio], ExcC K (xA K c)) (xk_NoCell : ∀ c ∈ [Exc.ratio], PySem.W.kitOne K (.ref (xA K c)) (.ref (He.ga K "NoCell")) = some (decide (c = .cell))) (xk_NoLayer : ∀ c ∈ [Exc.ratio], PySem.W.kitOne K (.ref (xA K c)) (.ref (He.ga K "NoLayer")) = some (decide (c = .layer))) (xk_NoName : ∀ c ∈ [Exc.ratio], PySem.W.kitOne K (.ref (xA K c)) (.ref (He.ga K "NoName")) = some (decide (c = .name))) (xk_NoPlace : ∀ c ∈ [Exc.ratio], PySem.W.kitOne K (.ref (xA K c)) (.ref (He.ga K "NoPlace")) = some (decide (c = .place))) (xk_NoRatio : ∀ c ∈ [Exc.ratio], PySem.W.kitOne K (.ref (xA K c)) (.ref (He.ga K "NoRatio")) = some (decide (c = .ratio))) (xk_NoRow : ∀ c ∈ [Exc.ratio], PySem.W.kitOne K (.ref (xA K c)) (.ref (He.ga K "NoRow")) = some (decide (c = .row))) (xk_NoText : ∀ c ∈ [Exc.ratio], PySem.W.kitOne K (.ref (xA K c)) (.ref (He.ga K "NoText")) = some (decide (c = .text))) (xb_ValueError : ∀ c ∈ [Exc.ratio], PySem.W.kitOne K (.ref (xA K c)) (.type "ValueError") = some true) : FnOk P w K mg base CX0 41 f fd ["_law_some"] (sp__law_only K) := by
  refine F.ok sc__law_only (fun vs H Q E h => ?_) (fun cdv A outer s H vs Q E hr h => ?_)
  · obtain ⟨x, _, _, _, _, d, _⟩ := h
    exact d.length
  · skip
    refine ⟨_, PSs.nox (pss_cons (ps_if (PW.pt (pw_or (pt_not (pt_val (pe_callB (id := "isinstance") (r := rIsX K) call_isX (by rfl) z_isinstance (by decide +kernel) (pa_cons (pv 0) (pa_cons (pe_glob (v := .ref (He.ga K "NoRatio")) (by rfl) gx_NoRatio rfl) pa_nil))))) (pw_or1 (pt_not (pt_val (pe_callB (id := "isinstance") (r := rIsX K) call_isX (by rfl) z_isinstance (by decide +kernel) (pa_cons (pv 0) (pa_cons (pe_bltn (v := .ty "ValueError") (u := .type "ValueError") (by rfl) z_ValueError (by decide +kernel) rfl) pa_nil)))))))) (pss_one (ps_ret pe_bl)) pss_nil) (pss_cons (ps_if (PW.pt (pw_or (pt_val (pe_callB (id := "isinstance") (r := rIsX K) call_isX (by rfl) z_isinstance (by decide +kernel) (pa_cons (pv 0) (pa_cons (pe_glob (v := .ref (He.ga K "NoLayer")) (by rfl) gx_NoLayer rfl) pa_nil)))) (pw_or (pt_val (pe_callB (id := "isinstance") (r := rIsX K) call_isX (by rfl) z_isinstance (by decide +kernel) (pa_cons (pv 0) (pa_cons (pe_glob (v := .ref (He.ga K "NoPlace")) (by rfl) gx_NoPlace rfl) pa_nil)))) (pw_or1 (pt_val (pe_callB (id := "isinstance") (r := rIsX K) call_isX (by rfl) z_isinstance (by decide +kernel) (pa_cons (pv 0) (pa_cons (pe_glob (v := .ref (He.ga K "NoText")) (by rfl) gx_NoText rfl) pa_nil)))))))) (pss_one (ps_ret pe_bl)) pss_nil) (pss_one (ps_ret (pe_and (pe_not (pe_callB (id := "isinstance") (r := rIsX K) call_isX (by rfl) z_isinstance (by decide +kernel) (pa_cons (pv 0) (pa_cons (pe_glob (v := .ref (He.ga K "NoRow")) (by rfl) gx_NoRow rfl) pa_nil)))) (pe_and (pe_not (pe_callB (id := "isinstance") (r := rIsX K) call_isX (by rfl) z_isinstance (by decide +kernel) (pa_cons (pv 0) (pa_cons (pe_glob (v := .ref (He.ga K "NoName")) (by rfl) gx_NoName rfl) pa_nil)))) (pe_one (pe_not (pe_callB (id := "isinstance") (r := rIsX K) call_isX (by rfl) z_isinstance (by decide +kernel) (pa_cons (pv 0) (pa_cons (pe_glob (v := .ref (He.ga K "NoCell")) (by rfl) gx_NoCell rfl) pa_nil))))))))))), ?_⟩
    refine spR_run (n := 1) (k := 0) rfl (fun _ => rfl) (fun x b h => ?_) h
    generalize x = some1 at h ⊢
    show SW K _ _ [.dat ((dO (dE K)) some1)] _ _ _
    have h : l_only some1 = R.ok b := h
    unfold l_only at h
    obtain ⟨o2, ho2, h⟩ := R.bind_inv h
    obtain ⟨isx3, hisx3, h⟩ := R.bind_inv h
    obtain ⟨b6, hb6, h⟩ := R.bind_inv h
    refine sw_seq (sw_if (et_orR hb6 (et_not (et_b (ev_cast (r := dB) (R.caught_inv hisx3).2 (ev_isX (ev_get (r := (dE K)) ho2 (ev_var rfl)) (xc _ (R.caught_inv hisx3).1) (xk_NoRatio _ (R.caught_inv hisx3).1))))) (fun hc h => by obtain ⟨o4, ho4, h⟩ := R.bind_inv h; obtain ⟨isx5, hisx5, h⟩ := R.bind_inv h; exact et_cast h (et_not (et_b (ev_cast (r := dB) (R.caught_inv hisx5).2 (ev_isXB (ev_get (r := (dE K)) ho4 (ev_var rfl)) (xc _ (R.caught_inv hisx5).1) (xb_ValueError _ (R.caught_inv hisx5).1))))))) (fun hc => ?_) (fun hc => ?_))
    · have h := if_t hc h
      exact sw_ret (ev_cast (r := dB) h (ev_c _)) rfl
    · have h := if_f hc h
      refine sw_next ?_
      show SW K _ _ [.dat ((dO (dE K)) some1)] _ _ _
      obtain ⟨o7, ho7, h⟩ := R.bind_inv h
      obtain ⟨isx8, hisx8, h⟩ := R.bind_inv h
      obtain ⟨b14, hb14, h⟩ := R.bind_inv h
      refine sw_seq (sw_if (et_orR hb14 (et_b (ev_cast (r := dB) (R.caught_inv hisx8).2 (ev_isX (ev_get (r := (dE K)) ho7 (ev_var rfl)) (xc _ (R.caught_inv hisx8).1) (xk_NoLayer _ (R.caught_inv hisx8).1)))) (fun hc h => by obtain ⟨o9, ho9, h⟩ := R.bind_inv h; obtain ⟨isx10, hisx10, h⟩ := R.bind_inv h; obtain ⟨b13, hb13, h⟩ := R.bind_inv h; exact et_cast h (et_orR hb13 (et_b (ev_cast (r := dB) (R.caught_inv hisx10).2 (ev_isX (ev_get (r := (dE K)) ho9 (ev_var rfl)) (xc _ (R.caught_inv hisx10).1) (xk_NoPlace _ (R.caught_inv hisx10).1)))) (fun hc h => by obtain ⟨o11, ho11, h⟩ := R.bind_inv h; obtain ⟨isx12, hisx12, h⟩ := R.bind_inv h; exact et_cast h (et_b (ev_cast (r := dB) (R.caught_inv hisx12).2 (ev_isX (ev_get (r := (dE K)) ho11 (ev_var rfl)) (xc _ (R.caught_inv hisx12).1) (xk_NoText _ (R.caught_inv hisx12).1)))))))) (fun hc => ?_) (fun hc => ?_))
      · have h := if_t hc h
        exact sw_ret (ev_cast (r := dB) h (ev_c _)) rfl
      · have h := if_f hc h
        refine sw_next ?_
        show SW K _ _ [.dat ((dO (dE K)) some1)] _ _ _
        obtain ⟨o15, ho15, h⟩ := R.bind_inv h
        obtain ⟨isx16, hisx16, h⟩ := R.bind_inv h
        obtain ⟨b22, hb22, h⟩ := R.bind_inv h
        exact sw_ret (ev_cast (r := dB) h (ev_andVR hb22 (ev_notV (ev_cast (r := dB) (R.caught_inv hisx16).2 (ev_isX (ev_get (r := (dE K)) ho15 (ev_var rfl)) (xc _ (R.caught_inv hisx16).1) (xk_NoRow _ (R.caught_inv hisx16).1)))) (fun hc h => by obtain ⟨o17, ho17, h⟩ := R.bind_inv h; obtain ⟨isx18, hisx18, h⟩ := R.bind_inv h; obtain ⟨b21, hb21, h⟩ := R.bind_inv h; exact ev_cast (r := dB) h (ev_andVR hb21 (ev_notV (ev_cast (r := dB) (R.caught_inv hisx18).2 (ev_isX (ev_get (r := (dE K)) ho17 (ev_var rfl)) (xc _ (R.caught_inv hisx18).1) (xk_NoName _ (R.caught_inv hisx18).1)))) (fun hc h => by obtain ⟨o19, ho19, h⟩ := R.bind_inv h; obtain ⟨isx20, hisx20, h⟩ := R.bind_inv h; exact ev_cast (r := dB) h (ev_notV (ev_cast (r := dB) (R.caught_inv hisx20).2 (ev_isX (ev_get (r := (dE K)) ho19 (ev_var rfl)) (xc _ (R.caught_inv hisx20).1) (xk_NoCell _ (R.caught_inv hisx20).1))))))))) rfl
abbrev s_law : Stmt := topS 24
abbrev n_law : List Str := ["_law_script", "_law_one", "_law_number", "_law_way"]
theorem sc_law : FnScope n_law ["_law_script"] (defScope s_law) := ⟨rfl, rfl, rfl, by decide +kernel, rfl, by decide +kernel, by decide +kernel⟩
abbrev sp_law (K : PySem.W.Frag) : Sp := spR K (fun (x : (List Int)) => [(dL dI) x]) (fun (x : (List Int)) => k05_law x) dB
set_option maxHeartbeats 4000000 in
theorem ok_law {f : Addr} {fd : FuncData} (F : FnP K "law" s_law f fd) {f__law_cell : Addr} {fd__law_cell : FuncData} (F__law_cell : FnP K "_law_cell" s__law_cell f__law_cell fd__law_cell) (b__law_cell : Binds K fd__law_cell ["_law_script", "_law_k"] []) (g__law_cell : mg "_law_cell" = some (.ref f__law_cell)) {f__law_drawn : Addr} {fd__law_drawn : FuncData} (F__law_drawn : FnP K "_law_drawn" s__law_drawn f__law_drawn fd__law_drawn) (b__law_drawn : Binds K fd__law_drawn ["_law_script", "_law_at"] []) (g__law_drawn : mg "_law_drawn" = some (.ref f__law_drawn)) {f__law_is : Addr} {fd__law_is : FuncData} (F__law_is : FnP K "_law_is" s__law_is f__law_is fd__law_is) (b__law_is : Binds K fd__law_is ["_law_found", "_law_top_here", "_law_bottom_here"] []) (g__law_is : mg "_law_is" = some (.ref f__law_is)) {f__law_only : Addr} {fd__law_only : FuncData} (F__law_only : FnP K "_law_only" s__law_only f__law_only fd__law_only) (b__law_only : Binds K fd__law_only ["_law_some"] []) (g__law_only : mg "_law_only" = some (.ref f__law_only)) {f__law_refusal : Addr} {fd__law_refusal : FuncData} (F__law_refusal : FnP K "_law_refusal" s__law_refusal f__law_refusal fd__law_refusal) (b__law_refusal : Binds K fd__law_refusal ["_law_way", "_law_one", "_law_number"] []) (g__law_refusal : mg "_law_refusal" = some (.ref f__law_refusal)) {f__law_top : Addr} {fd__law_top : FuncData} (F__law_top : FnP K "_law_top" s__law_top f__law_top fd__law_top) (b__law_top : Binds K fd__law_top ["_law_cell_here"] []) (g__law_top : mg "_law_top" = some (.ref f__law_top)) {f_parted : Addr} {fd_parted : FuncData} (F_parted : FnP K "parted" s_parted f_parted fd_parted) (b_parted : Binds K fd_parted ["one", "other"] []) (g_parted : mg "parted" = some (.ref f_parted)) {f_ratio : Addr} {fd_ratio : FuncData} (F_ratio : FnP K "ratio" s_ratio f_ratio fd_ratio) (b_ratio : Binds K fd_ratio ["top", "bottom"] []) (g_ratio : mg "ratio" = some (.ref f_ratio)) (G__law_cell : FnOk P w K mg base CX0 41 f__law_cell fd__law_cell ["_law_script", "_law_k"] (sp__law_cell K)) (G__law_drawn : FnOk P w K mg base CX0 43 f__law_drawn fd__law_drawn ["_law_script", "_law_at"] (sp__law_drawn K)) (G__law_is : FnOk P w K mg base CX0 42 f__law_is fd__law_is ["_law_found", "_law_top_here", "_law_bottom_here"] (sp__law_is K)) (G__law_only : FnOk P w K mg base CX0 41 f__law_only fd__law_only ["_law_some"] (sp__law_only K)) (G__law_refusal : FnOk P w K mg base CX0 44 f__law_refusal fd__law_refusal ["_law_way", "_law_one", "_law_number"] (sp__law_refusal K)) (G__law_top : FnOk P w K mg base CX0 41 f__law_top fd__law_top ["_law_cell_here"] (sp__law_top K)) (G_parted : FnOk P w K mg base CX0 43 f_parted fd_parted ["one", "other"] (sp_parted K)) (G_ratio : FnOk P w K mg base CX0 42 f_ratio fd_ratio ["top", "bottom"] (sp_ratio K)) (z_range : mg "range" = none) : FnOk P w K mg base CX0 45 f fd ["_law_script"] (sp_law K) := by
  refine F.ok sc_law (fun vs H Q E h => ?_) (fun cdv A outer s H vs Q E hr h => ?_)
  · obtain ⟨x, _, _, _, _, d, _⟩ := h
    exact d.length
  · skip
    refine ⟨_, PSs.nox (pss_cons (ps_set (i := 1) sc_law.nd rfl (Or.inl rfl) (pe_call G__law_drawn (hr.mono (by decide)) (by rfl) g__law_drawn F__law_drawn.kp b__law_drawn .nil pass0 (pa_cons (pv 0) (pa_cons pe_int pa_nil)))) (pss_cons (ps_set (i := 2) sc_law.nd rfl (Or.inl rfl) (pe_call G__law_top (hr.mono (by decide)) (by rfl) g__law_top F__law_top.kp b__law_top .nil pass0 (pa_cons (pe_call G__law_cell (hr.mono (by decide)) (by rfl) g__law_cell F__law_cell.kp b__law_cell .nil pass0 (pa_cons (pv 0) (pa_cons pe_int pa_nil))) pa_nil))) (pss_cons (ps_for PassesOwn.never rfl (pi_range1 (by rfl) z_range (pa_cons pe_int pa_nil)) (pg_name (i := 3) sc_law.nd rfl (Or.inl rfl)) (pss_cons (ps_if (pt_not (pt_val (pe_call G__law_only (hr.mono (by decide)) (by rfl) g__law_only F__law_only.kp b__law_only .nil pass0 (pa_cons (pe_call G__law_refusal (hr.mono (by decide)) (by rfl) g__law_refusal F__law_refusal.kp b__law_refusal .nil pass0 (pa_cons (pv 3) (pa_cons (pv 1) (pa_cons (pv 2) pa_nil)))) pa_nil)))) (pss_one (ps_ret pe_bl)) pss_nil) (pss_cons (ps_if (PW.pt (pw_and (pt_cmpR op_ne (pe_ix (r := rIxT K) ix_tup (pv 1) pe_int (fun _ _ => rfl)) pe_int (nomark _)) (pw_and1 (pt_not (pt_val (pe_call G__law_is (hr.mono (by decide)) (by rfl) g__law_is F__law_is.kp b__law_is .nil pass0 (pa_cons (pe_call G_parted (hr.mono (by decide)) (by rfl) g_parted F_parted.kp b_parted .nil pass0 (pa_cons (pe_tup (pa_cons pe_int (pa_cons pe_int pa_nil))) (pa_cons (pv 1) pa_nil))) (pa_cons pe_int (pa_cons pe_int pa_nil))))))))) (pss_one (ps_ret pe_bl)) pss_nil) (pss_one (ps_if (pt_not (pt_val (pe_call G__law_is (hr.mono (by decide)) (by rfl) g__law_is F__law_is.kp b__law_is .nil pass0 (pa_cons (pe_call G_ratio (hr.mono (by decide)) (by rfl) g_ratio F_ratio.kp b_ratio .nil pass0 (pa_cons (pv 2) (pa_cons pe_int pa_nil))) (pa_cons (pv 2) (pa_cons pe_int pa_nil)))))) (pss_one (ps_ret pe_bl)) pss_nil))))) (pss_one (ps_ret pe_bl))))), ?_⟩
    refine spR_run (n := 1) (k := 3) rfl (fun _ => rfl) (fun x b h => ?_) h
    generalize x = script1 at h ⊢
    show SW K _ _ [.dat ((dL dI) script1), .un, .un, .un] _ _ _
    have h : k05_law script1 = R.ok b := h
    unfold k05_law at h
    obtain ⟨d2, hd2, h⟩ := R.bind_inv h
    obtain ⟨one3, hone3, h⟩ := R.bind_inv h
    refine sw_seq (sw_set (ev_cast (r := dQ) hone3 (ev_call (x := (script1, (0 : Int))) hd2 (ea_cons (ev_var rfl) (ea_cons (ev_c _) ea_nil)))) ?_)
    show SW K _ _ [.dat ((dL dI) script1), .dat (dQ one3), .un, .un] _ _ _
    obtain ⟨c4, hc4, h⟩ := R.bind_inv h
    obtain ⟨t5, ht5, h⟩ := R.bind_inv h
    obtain ⟨number6, hnumber6, h⟩ := R.bind_inv h
    refine sw_seq (sw_set (ev_cast (r := dI) hnumber6 (ev_call (x := c4) ht5 (ea_cons (ev_call (x := (script1, (2 : Int))) hc4 (ea_cons (ev_var rfl) (ea_cons (ev_c _) ea_nil))) ea_nil))) ?_)
    show SW K _ _ [.dat ((dL dI) script1), .dat (dQ one3), .dat (dI number6), .un] _ _ _
    obtain ⟨r7, hr7, h⟩ := R.bind_inv h
    obtain ⟨r18, hr18, h⟩ := R.bind_inv h
    refine sw_seq (sw_forX (ra := dI) (js := [3]) _ (fun (z : Unit) => [.dat ((dL dI) script1), .dat (dQ one3), .dat (dI number6), .un]) (fun b _ v => v = .dat (dB b)) (fun _ _ _ => False) _ (iv_rng1 hr7 (ev_c _)) hr18 (.eq (.eq (.eq (.un .nil)))) (fun x8 s9 r1 _ h => ⟨_, (gt_name 3 _ _), ?_⟩) (fun s19 e => ?_) (fun b20 e => ?_))
    · show SW K _ _ [.dat ((dL dI) script1), .dat (dQ one3), .dat (dI number6), .dat (dI x8)] _ _ _
      obtain ⟨r10, hr10, h⟩ := R.bind_inv h
      obtain ⟨o11, ho11, h⟩ := R.bind_inv h
      refine sw_seq (sw_if (et_not (et_b (ev_call (x := r10) ho11 (ea_cons (ev_call (x := (x8, one3, number6)) hr10 (ea_cons (ev_var rfl) (ea_cons (ev_var rfl) (ea_cons (ev_var rfl) ea_nil)))) ea_nil)))) (fun hc => ?_) (fun hc => ?_))
      · have h := if_t hc h
        exact sw_ret (ev_c _) ⟨_, (R.ok_inj h).symm, rfl⟩
      · have h := if_f hc h
        refine sw_next ?_
        show SW K _ _ [.dat ((dL dI) script1), .dat (dQ one3), .dat (dI number6), .dat (dI x8)] _ _ _
        obtain ⟨b15, hb15, h⟩ := R.bind_inv h
        refine sw_seq (sw_if (et_andR hb15 (et_test (ev_neI (ev_ixT (k := 0) (ev_var rfl) (ev_c _) (by rfl) rfl) (ev_c _))) (fun hc h => by obtain ⟨q12, hq12, h⟩ := R.bind_inv h; obtain ⟨parted13, hparted13, h⟩ := R.bind_inv h; obtain ⟨i14, hi14, h⟩ := R.bind_inv h; exact et_cast h (et_not (et_b (ev_call (x := (parted13, (0 : Int), (1 : Int))) hi14 (ea_cons (ev_call (x := (q12, one3)) hparted13 (ea_cons (ev_mkQ hq12 (ev_c _) (ev_c _)) (ea_cons (ev_var rfl) ea_nil))) (ea_cons (ev_c _) (ea_cons (ev_c _) ea_nil)))))))) (fun hc => ?_) (fun hc => ?_))
        · have h := if_t hc h
          exact sw_ret (ev_c _) ⟨_, (R.ok_inj h).symm, rfl⟩
        · have h := if_f hc h
          refine sw_next ?_
          show SW K _ _ [.dat ((dL dI) script1), .dat (dQ one3), .dat (dI number6), .dat (dI x8)] _ _ _
          obtain ⟨ratio16, hratio16, h⟩ := R.bind_inv h
          obtain ⟨i17, hi17, h⟩ := R.bind_inv h
          refine sw_if (et_not (et_b (ev_call (x := (ratio16, number6, (1 : Int))) hi17 (ea_cons (ev_call (x := (number6, (1 : Int))) hratio16 (ea_cons (ev_var rfl) (ea_cons (ev_c _) ea_nil))) (ea_cons (ev_var rfl) (ea_cons (ev_c _) ea_nil)))))) (fun hc => ?_) (fun hc => ?_)
          · have h := if_t hc h
            exact sw_ret (ev_c _) ⟨_, (R.ok_inj h).symm, rfl⟩
          · have h := if_f hc h
            refine sw_next ?_
            exact ⟨_, (R.ok_inj h).symm, .eq (.eq (.eq (.un .nil)))⟩
    · subst e
      have h := R.case_l h
      show SW K _ _ [.dat ((dL dI) script1), .dat (dQ one3), .dat (dI number6), .un] _ _ _
      exact sw_ret (ev_cast (r := dB) h (ev_c _)) rfl
    · subst e
      have h := R.case_r h
      obtain rfl := R.ok_inj h; exact ⟨fun _ _ z => z, fun _ _ z => z.elim⟩
end
end Pg

set_option Elab.async false
set_option linter.all false
namespace Pg
open R
/-! ### outcomes, simplified -/
theorem bind_ok {α β : Type} (a : α) (k : α → R β) : R.bind (.ok a) k = k a := rfl
theorem andR_t (m : R Bool) : R.andR true m = m := rfl
theorem andR_f (m : R Bool) : R.andR false m = .ok false := rfl
theorem orR_t (m : R Bool) : R.orR true m = .ok true := rfl
theorem orR_f (m : R Bool) : R.orR false m = m := rfl
theorem caseX_l {S β γ : Type} (s : S) (k1 : S → R γ) (k2 : β → R γ) : R.caseX (.inl s) k1 k2 = k1 s := rfl
theorem caseX_r {S β γ : Type} (b : β) (k1 : S → R γ) (k2 : β → R γ) : R.caseX (.inr b) k1 k2 = k2 b := rfl
theorem if_ok_t {α : Type} (a b : α) : (if true = true then a else b) = a := rfl
theorem if_ok_f {α : Type} (a b : α) : (if false = true then a else b) = b := rfl
/-! ### sizes: less than 2 ^ n -/
def S (n : Nat) (i : Int) : Prop := i.natAbs < 2 ^ n
instance (n : Nat) (i : Int) : Decidable (S n i) := inferInstanceAs (Decidable (i.natAbs < 2 ^ n))
theorem S.mono {a b : Nat} {i : Int} (h : S a i) (l : a ≤ b) : S b i := Nat.lt_of_lt_of_le h (Nat.pow_le_pow_right (by decide) l)
theorem S.mul {a b : Nat} {i j : Int} (h : S a i) (k : S b j) : S (a + b) (i * j) := by
  unfold S at *
  rw [Int.natAbs_mul, Nat.pow_add]
  exact Nat.mul_lt_mul'' h k
theorem S.add {a b : Nat} {i j : Int} (h : S a i) (k : S b j) : S (max a b + 1) (i + j) := by
  have h1 := h.mono (Nat.le_max_left a b)
  have h2 := k.mono (Nat.le_max_right a b)
  unfold S at *
  have := Int.natAbs_add_le i j
  rw [Nat.pow_succ]; omega
theorem S.neg {a : Nat} {i : Int} (h : S a i) : S a (-i) := by unfold S at *; rwa [Int.natAbs_neg]
theorem S.sub {a b : Nat} {i j : Int} (h : S a i) (k : S b j) : S (max a b + 1) (i - j) := by rw [Int.sub_eq_add_neg]; exact h.add k.neg
theorem S.abs {a : Nat} {i : Int} (h : S a i) : S a (absZ i) := by unfold absZ; split; exact h.neg; exact h
theorem S.log {n : Nat} {i : Int} (h : S n i) : i.natAbs.log2 ≤ n := by
  by_cases h0 : i.natAbs = 0
  · rw [h0]; exact Nat.zero_le _
  · exact Nat.le_of_lt ((Nat.log2_lt h0).mpr h)
theorem S.of_log {n : Nat} {i : Int} (h : i.natAbs.log2 ≤ n) : S (n + 1) i := by
  unfold S
  by_cases h0 : i.natAbs = 0
  · rw [h0]; exact Nat.pow_pos (by decide)
  · exact (Nat.log2_lt h0).mp (by omega)
theorem mulR_ok {a b : Nat} {i j : Int} (h : S a i) (k : S b j) (l : a + b < 134000000) : mulR i j = .ok (i * j) := by
  unfold mulR
  rw [if_pos (by have := h.log; have := k.log; omega)]
theorem fdivR_ok {i j : Int} (h : j ≠ 0) : fdivR i j = .ok (i.fdiv j) := by unfold fdivR; rw [if_neg h]
theorem fmodR_ok {i j : Int} (h : j ≠ 0) : fmodR i j = .ok (i.fmod j) := by unfold fmodR; rw [if_neg h]
theorem gcdR_ok {i j : Int} (h : 0 ≤ i) (k : 0 ≤ j) : gcdR i j = .ok (Int.gcd i j : Nat) := by unfold gcdR; rw [if_pos ⟨h, k⟩]
theorem absZ_eq (i : Int) : absZ i = (i.natAbs : Int) := by unfold absZ; split <;> omega
theorem absZ_nn (i : Int) : 0 ≤ absZ i := by rw [absZ_eq]; omega
/-! ### lists by place -/
theorem ixP_nat {n k : Nat} (h : k < n) : ixP n (k : Int) = some k := by
  unfold ixP
  rw [if_pos (by omega), if_pos (by omega)]
  simp
theorem atR_nat {α : Type} {xs : List α} {k : Nat} {x : α} (h : xs[k]? = some x) : atR xs (k : Int) = .ok x := by
  have hk : k < xs.length := by
    rcases Nat.lt_or_ge k xs.length with z | z
    · exact z
    · rw [List.getElem?_eq_none z] at h; cases h
  unfold atR
  rw [ixP_nat hk]
  simp only [h]
theorem atR_int {α : Type} {xs : List α} {i : Int} (h0 : 0 ≤ i) (h1 : i < xs.length) : ∃ x, xs[i.toNat]? = some x ∧ atR xs i = .ok x := by
  have hk : i.toNat < xs.length := by omega
  refine ⟨xs[i.toNat], by simp [hk], ?_⟩
  have := atR_nat (xs := xs) (k := i.toNat) (x := xs[i.toNat]) (by simp [hk])
  rwa [Int.toNat_of_nonneg h0] at this
theorem rngR_ok {i j : Int} (h1 : -(2 ^ 62) ≤ i) (h2 : i < 2 ^ 62) (h3 : -(2 ^ 62) ≤ j) (h4 : j < 2 ^ 62) : rngR i j = .ok ((List.range (j - i).toNat).map fun k => i + (k : Nat)) := by
  unfold rngR; rw [if_pos ⟨h1, h2, h3, h4⟩]
theorem appR_ok {α : Type} {xs : List α} {x : α} (h : xs.length < 16777216) : appR xs x = .ok (xs ++ [x]) := by unfold appR; rw [if_pos h]
theorem catR_ok {α : Type} {xs ys : List α} (h : xs.length + ys.length ≤ 16777216) : catR xs ys = .ok (xs ++ ys) := by unfold catR; rw [if_pos h]
theorem compR_ok {α β : Type} {f : α → R β} {xs : List α} {ys : List β} (h : xs.length < 16777216) (hm : R.mapR f xs = .ok ys) : R.compR f xs = .ok ys := by unfold R.compR; rw [if_pos h, hm]
theorem mapR_ok {α β : Type} {f : α → R β} {g : α → β} : ∀ {xs : List α}, (∀ x ∈ xs, f x = .ok (g x)) → R.mapR f xs = .ok (xs.map g)
  | [], _ => rfl
  | x :: xs, h => by
    unfold R.mapR
    rw [h x List.mem_cons_self, bind_ok, mapR_ok (fun y hy => h y (List.mem_cons_of_mem _ hy)), bind_ok]
    rfl
/-- a loop by its invariant -/
theorem forR_inv {α T : Type} {f : α → T → R T} (P : Nat → T → Prop) : ∀ (xs : List α) (k : Nat) (s : T), P k s → (∀ i s x, P (k + i) s → xs[i]? = some x → ∃ s', f x s = .ok s' ∧ P (k + i + 1) s') → ∃ s', R.forR f xs s = .ok s' ∧ P (k + xs.length) s'
  | [], k, s, h, _ => ⟨s, rfl, h⟩
  | x :: xs, k, s, h, hs => by
    obtain ⟨s1, e1, p1⟩ := hs 0 s x h rfl
    obtain ⟨s2, e2, p2⟩ := forR_inv P xs (k + 1) s1 p1 fun i s y hp hy => by
      have := hs (i + 1) s y (by rw [show k + (i + 1) = k + 1 + i by omega]; exact hp) (by simpa using hy)
      rwa [show k + (i + 1) + 1 = k + 1 + i + 1 by omega] at this
    refine ⟨s2, ?_, by rw [List.length_cons, show k + (xs.length + 1) = k + 1 + xs.length by omega]; exact p2⟩
    unfold R.forR
    rw [e1, bind_ok, e2]
/-- a loop that never hands back -/
theorem forX_inv {α T β : Type} {f : α → T → R (Sum T β)} (P : Nat → T → Prop) : ∀ (xs : List α) (k : Nat) (s : T), P k s → (∀ i s x, P (k + i) s → xs[i]? = some x → ∃ s', f x s = .ok (.inl s') ∧ P (k + i + 1) s') → ∃ s', R.forX f xs s = .ok (.inl s') ∧ P (k + xs.length) s'
  | [], k, s, h, _ => ⟨s, rfl, h⟩
  | x :: xs, k, s, h, hs => by
    obtain ⟨s1, e1, p1⟩ := hs 0 s x h rfl
    obtain ⟨s2, e2, p2⟩ := forX_inv P xs (k + 1) s1 p1 fun i s y hp hy => by
      have := hs (i + 1) s y (by rw [show k + (i + 1) = k + 1 + i by omega]; exact hp) (by simpa using hy)
      rwa [show k + (i + 1) + 1 = k + 1 + i + 1 by omega] at this
    refine ⟨s2, ?_, by rw [List.length_cons, show k + (xs.length + 1) = k + 1 + xs.length by omega]; exact p2⟩
    unfold R.forX
    rw [e1, bind_ok]
    exact e2
/-- .. of no state, by what holds of every item -/
theorem forX_all {α β : Type} {f : α → Unit → R (Sum Unit β)} {xs : List α} (h : ∀ x ∈ xs, f x () = .ok (.inl ())) : R.forX f xs () = .ok (.inl ()) := by
  obtain ⟨s, e, _⟩ := forX_inv (fun _ _ => True) xs 0 () trivial fun i s x _ hx => ⟨(), h x (List.mem_of_getElem? hx), trivial⟩
  exact e
/-! ### a small logic of outcomes -/
/-- the outcome is a value that Q holds of -/
def Ok {α : Type} (m : R α) (Q : α → Prop) : Prop := ∃ a, m = .ok a ∧ Q a
theorem Ok.pure {α : Type} {a : α} {Q : α → Prop} (h : Q a) : Ok (.ok a) Q := ⟨a, rfl, h⟩
theorem Ok.eq {α : Type} {m : R α} {a : α} {Q : α → Prop} (e : m = .ok a) (h : Q a) : Ok m Q := ⟨a, e, h⟩
theorem Ok.bind {α β : Type} {m : R α} {k : α → R β} {P : α → Prop} {Q : β → Prop} (h : Ok m P) (hk : ∀ a, P a → Ok (k a) Q) : Ok (R.bind m k) Q := by
  obtain ⟨a, e, p⟩ := h
  rw [e]; exact hk a p
/-- a step whose value is known -/
theorem Ok.step {α β : Type} {m : R α} {k : α → R β} {a : α} {Q : β → Prop} (e : m = .ok a) (hk : Ok (k a) Q) : Ok (R.bind m k) Q := by rw [e]; exact hk
theorem Ok.one {α β : Type} {k : α → R β} {a : α} {Q : β → Prop} (hk : Ok (k a) Q) : Ok (R.bind (.ok a) k) Q := hk
theorem Ok.mono {α : Type} {m : R α} {P Q : α → Prop} (h : Ok m P) (i : ∀ a, P a → Q a) : Ok m Q := let ⟨a, e, p⟩ := h; ⟨a, e, i a p⟩
theorem Ok.ite {α : Type} {c : Prop} [Decidable c] {a b : R α} {Q : α → Prop} (h1 : c → Ok a Q) (h2 : ¬ c → Ok b Q) : Ok (if decide c = true then a else b) Q := by
  by_cases h : c
  · rw [decide_eq_true h, if_ok_t]; exact h1 h
  · rw [decide_eq_false h, if_ok_f]; exact h2 h
theorem Ok.iteB {α : Type} {c : Bool} {a b : R α} {Q : α → Prop} (h1 : c = true → Ok a Q) (h2 : c = false → Ok b Q) : Ok (if c = true then a else b) Q := by
  cases c
  · exact h2 rfl
  · exact h1 rfl
theorem Ok.andR {c : Bool} {m : R Bool} {Q : Bool → Prop} (h1 : c = true → Ok m Q) (h2 : c = false → Q false) : Ok (R.andR c m) Q := by
  cases c
  · exact .pure (h2 rfl)
  · exact h1 rfl
theorem Ok.orR {c : Bool} {m : R Bool} {Q : Bool → Prop} (h1 : c = false → Ok m Q) (h2 : c = true → Q true) : Ok (R.orR c m) Q := by
  cases c
  · exact h1 rfl
  · exact .pure (h2 rfl)
theorem Ok.forR {α T : Type} {f : α → T → R T} {xs : List α} {s : T} (P : Nat → T → Prop) (h0 : P 0 s) (hs : ∀ i s x, P i s → xs[i]? = some x → Ok (f x s) (P (i + 1))) : Ok (R.forR f xs s) (P xs.length) := by
  obtain ⟨s', e, p⟩ := forR_inv (f := f) P xs 0 s h0 fun i s x hp hx => by
    rw [Nat.zero_add] at hp ⊢
    exact hs i s x hp hx
  exact ⟨s', e, by rwa [Nat.zero_add] at p⟩
theorem Ok.forX {α T β : Type} {f : α → T → R (Sum T β)} {xs : List α} {s : T} (P : Nat → T → Prop) (h0 : P 0 s) (hs : ∀ i s x, P i s → xs[i]? = some x → Ok (f x s) (fun r => ∃ s', r = .inl s' ∧ P (i + 1) s')) :
    Ok (R.forX f xs s) (fun r => ∃ s', r = .inl s' ∧ P xs.length s') := by
  obtain ⟨s', e, p⟩ := forX_inv (f := f) P xs 0 s h0 fun i s x hp hx => by
    rw [Nat.zero_add] at hp ⊢
    obtain ⟨r, e, s', e2, q⟩ := hs i s x hp hx
    exact ⟨s', by rw [e, e2], q⟩
  exact ⟨.inl s', e, s', rfl, by rwa [Nat.zero_add] at p⟩
theorem Ok.mapR {α β : Type} {f : α → R β} {P : α → β → Prop} : ∀ {xs : List α}, (∀ x ∈ xs, Ok (f x) (P x)) → Ok (R.mapR f xs) (fun ys => ys.length = xs.length ∧ ∀ (i : Nat) x y, xs[i]? = some x → ys[i]? = some y → P x y)
  | [], _ => ⟨[], rfl, rfl, fun i x y h => by simp at h⟩
  | x :: xs, h => by
    obtain ⟨y, e, p⟩ := h x List.mem_cons_self
    obtain ⟨ys, e2, hl, p2⟩ := Ok.mapR (xs := xs) fun z hz => h z (List.mem_cons_of_mem _ hz)
    refine ⟨y :: ys, ?_, by rw [List.length_cons, List.length_cons, hl], fun i a b ha hb => ?_⟩
    · unfold R.mapR
      rw [e, bind_ok, e2, bind_ok]
    · cases i with
      | zero => simp at ha hb; subst ha hb; exact p
      | succ i => exact p2 i a b (by simpa using ha) (by simpa using hb)
theorem Ok.compR {α β : Type} {f : α → R β} {P : α → β → Prop} {xs : List α} (hl : xs.length < 16777216) (h : ∀ x ∈ xs, Ok (f x) (P x)) : Ok (R.compR f xs) (fun ys => ys.length = xs.length ∧ ∀ (i : Nat) x y, xs[i]? = some x → ys[i]? = some y → P x y) := by
  obtain ⟨ys, e, q⟩ := Ok.mapR h
  exact ⟨ys, compR_ok hl e, q⟩
/-- every item by what it comes of -/
theorem all_of {α β : Type} {P : α → β → Prop} {Q : β → Prop} {xs : List α} {ys : List β} (h : ys.length = xs.length ∧ ∀ (i : Nat) x y, xs[i]? = some x → ys[i]? = some y → P x y) (hq : ∀ x y, x ∈ xs → P x y → Q y) : ∀ y ∈ ys, Q y := fun y hy => by
  obtain ⟨i, hi, e⟩ := List.mem_iff_getElem.mp hy
  have hx : i < xs.length := by omega
  exact hq xs[i] y (List.getElem_mem hx) (h.2 i xs[i] y (by simp [hx]) (by rw [← e]; simp [hi]))
theorem Ok.true {m : R Bool} (h : Ok m (· = true)) : m = .ok true := by
  obtain ⟨a, e, p⟩ := h
  rw [e, p]
/-- an item of range(n) -/
theorem rng_at {i j x : Int} {k : Nat} (h : ((List.range (j - i).toNat).map fun k => i + (k : Nat))[k]? = some x) : x = i + (k : Nat) ∧ x < j := by
  rw [List.getElem?_map] at h
  by_cases hk : k < (j - i).toNat
  · rw [List.getElem?_range hk] at h
    have e : i + (k : Nat) = x := Option.some.inj h
    exact ⟨e.symm, by omega⟩
  · rw [List.getElem?_eq_none (by simpa using hk)] at h
    cases h
theorem rng_mem {i j x : Int} (h : x ∈ (List.range (j - i).toNat).map fun k => i + (k : Nat)) : i ≤ x ∧ x < j := by
  obtain ⟨k, hk, e⟩ := List.mem_map.mp h
  have := List.mem_range.mp hk
  omega
theorem rng_len (i j : Int) : ((List.range (j - i).toNat).map fun k => i + (k : Nat)).length = (j - i).toNat := by simp
/-! ### ratios by tops and bottoms -/
theorem mkQ_divInt {a b : Int} (hb : b ≠ 0) : fdivR a (if b < 0 then -(Int.gcd a b : Nat) else (Int.gcd a b : Nat)) = .ok (Rat.divInt a b).num ∧ fdivR b (if b < 0 then -(Int.gcd a b : Nat) else (Int.gcd a b : Nat)) = .ok ((Rat.divInt a b).den : Int) := by
  have hg : (Int.gcd a b : Nat) ≠ 0 := Int.gcd_ne_zero_right hb
  rw [Rat.num_divInt, Rat.den_divInt, if_neg hb, Int.gcd_comm b a]
  obtain ⟨x, hx⟩ := Int.gcd_dvd_left a b
  obtain ⟨y, hy⟩ := Int.gcd_dvd_right a b
  generalize hG : (Int.gcd a b : Nat) = g at *
  have hg' : (g : Int) ≠ 0 := by omega
  have hgp : (0 : Int) < g := by omega
  have hfa : ∀ z : Int, ((g : Int) * z).fdiv g = z := fun z => by rw [Int.fdiv_eq_ediv_of_nonneg _ (by omega)]; exact Int.mul_ediv_cancel_left z hg'
  have hfn : ∀ z : Int, ((g : Int) * z).fdiv (-g) = -z := fun z => by
    have e : (g : Int) * z = (-g) * (-z) := by rw [Int.neg_mul_neg]
    rw [e]; exact Int.mul_fdiv_cancel_left (-z) (by omega)
  by_cases hn : b < 0
  · rw [if_pos hn, fdivR_ok (by omega), fdivR_ok (by omega)]
    refine ⟨congrArg R.ok ?_, congrArg R.ok ?_⟩
    · rw [Int.sign_eq_neg_one_of_neg hn, hx, hfn, Int.neg_one_mul, ← Int.mul_neg, Int.mul_ediv_cancel_left _ hg']
    · have e : ((b.natAbs / g : Nat) : Int) = -y := by
        rw [Int.natCast_ediv, show ((b.natAbs : Nat) : Int) = -b by omega, hy, ← Int.mul_neg, Int.mul_ediv_cancel_left _ hg']
      rw [e, hy, hfn]
  · rw [if_neg hn, fdivR_ok (by omega), fdivR_ok (by omega)]
    refine ⟨congrArg R.ok ?_, congrArg R.ok ?_⟩
    · rw [Int.sign_eq_one_of_pos (by omega), hx, hfa, Int.one_mul, Int.mul_ediv_cancel_left _ hg']
    · have e : ((b.natAbs / g : Nat) : Int) = y := by
        rw [Int.natCast_ediv, show ((b.natAbs : Nat) : Int) = b by omega, hy, Int.mul_ediv_cancel_left _ hg']
      rw [e, hy, hfa]
theorem mkQ_self (q : Rat) : mkQ q.num (q.den : Int) = .ok q := by
  unfold mkQ
  have hd := q.den_pos
  rw [dif_pos ⟨by omega, by rw [Int.toNat_natCast]; exact q.reduced⟩]
  exact congrArg R.ok (Rat.ext rfl (by show ((q.den : Int)).toNat = q.den; simp))
end Pg

set_option Elab.async false
set_option linter.all false
namespace Pg
/-! ### ratios of core Lean: sizes, the program's ratio, the laws' looks -/
theorem natAbs_ediv_le (a : Int) {g : Int} (hg : 0 < g) : (a / g).natAbs ≤ a.natAbs := by
  by_cases h : 0 ≤ a
  · have h1 := Int.ediv_nonneg h (Int.le_of_lt hg)
    have h2 := Int.ediv_le_self g h
    omega
  · have h1 : a / g < 0 := Int.ediv_neg_of_neg_of_pos (by omega) hg
    have h2 : a ≤ a / g := by
      have h3 := Int.mul_ediv_self_le (x := a) (k := g) (by omega)
      have h4 := Int.emod_lt_of_pos a hg
      have h5 := Int.emod_add_mul_ediv a g
      have h6 : g * (a / g) ≤ a / g := by
        have : (g - 1) * (a / g) ≤ 0 := Int.mul_nonpos_of_nonneg_of_nonpos (by omega) (by omega)
        have e : (g - 1) * (a / g) = g * (a / g) - a / g := by rw [Int.sub_mul, Int.one_mul]
        omega
      by_cases h7 : a % g = 0
      · omega
      · by_cases h8 : g = 1
        · subst h8; simp
        · -- g ≥ 2
          have h9 : (g - 1) * (a / g) ≤ (g - 1) * (-1) := Int.mul_le_mul_of_nonneg_left (by omega) (by omega)
          have e : (g - 1) * (a / g) = g * (a / g) - a / g := by rw [Int.sub_mul, Int.one_mul]
          omega
    omega
theorem S_num {n : Nat} {a b : Int} (h : S n a) : S n (Rat.divInt a b).num := by
  unfold S at *
  refine Nat.lt_of_le_of_lt ?_ h
  rw [Rat.num_divInt]
  by_cases hb : b = 0
  · subst hb; simp
  · have hg : (0 : Int) < (Int.gcd b a : Nat) := by have := Int.gcd_pos_of_ne_zero_left (a := b) a hb; omega
    have hs : (b.sign * a).natAbs ≤ a.natAbs := by
      rw [Int.natAbs_mul, Int.natAbs_sign_of_ne_zero hb]; omega
    exact Nat.le_trans (natAbs_ediv_le _ hg) hs
theorem S_den {n : Nat} {a b : Int} (hb : b ≠ 0) (h : S n b) : S n ((Rat.divInt a b).den : Int) := by
  unfold S at *
  refine Nat.lt_of_le_of_lt ?_ h
  rw [Rat.den_divInt, if_neg hb, Int.natAbs_natCast]
  exact Nat.div_le_self _ _
/-- both parts below 2 ^ n -/
def SQ (n : Nat) (q : Rat) : Prop := S n q.num ∧ S n (q.den : Int)
theorem SQ.mono {a b : Nat} {q : Rat} (h : SQ a q) (l : a ≤ b) : SQ b q := ⟨h.1.mono l, h.2.mono l⟩
theorem SQ_divInt {n : Nat} {a b : Int} (hb : b ≠ 0) (ha : S n a) (h : S n b) : SQ n (Rat.divInt a b) := ⟨S_num ha, S_den hb h⟩
theorem p_ratio_ok {a b : Int} (hb : b ≠ 0) : p_ratio a b = .ok (Rat.divInt a b) := by
  unfold p_ratio
  rw [decide_eq_false hb, if_ok_f]
  have key : ∀ x y : Int, 0 < y → R.bind (p_divisor (absZ x) y) (fun d => R.bind (R.ok d) fun m => R.bind (fdivR x m) fun q8 => R.bind (fdivR y m) fun q9 => R.bind (mkQ q8 q9) fun q => R.ok q) = .ok (Rat.divInt x y) := fun x y hy => by
    unfold p_divisor
    rw [gcdR_ok (absZ_nn x) (by omega), bind_ok, bind_ok, bind_ok]
    have hg : Int.gcd (absZ x) y = Int.gcd x y := by rw [absZ_eq, Int.gcd_eq_natAbs_gcd_natAbs, Int.natAbs_natCast]; rfl
    obtain ⟨h1, h2⟩ := mkQ_divInt (a := x) (b := y) (by omega)
    rw [if_neg (by omega)] at h1 h2
    rw [hg, h1, bind_ok, h2, bind_ok, mkQ_self, bind_ok]
  by_cases hn : b < 0
  · rw [decide_eq_true hn, if_ok_t, bind_ok, bind_ok, bind_ok]
    show R.bind (p_divisor (absZ (-a)) (-b)) _ = _
    rw [← Rat.neg_divInt_neg a b]
    exact key (-a) (-b) (by omega)
  · rw [decide_eq_false hn, if_ok_f, bind_ok]
    exact key a b (by omega)
theorem l_most_ok {a b : Int} (h : 0 ≤ a) (k : 0 ≤ b) : l_most a b = .ok (Int.gcd a b : Nat) := by
  unfold l_most
  rw [gcdR_ok h k, bind_ok]
theorem divInt_cross {q : Rat} {a b : Int} (hb : b ≠ 0) (h : q = Rat.divInt a b) : q.num * b = a * (q.den : Int) := by
  have h1 : Rat.divInt q.num (q.den : Int) = Rat.divInt a b := by rw [Rat.num_divInt_den, h]
  exact (Rat.divInt_eq_divInt_iff (by have := q.den_nz; omega) hb).mp h1
theorem l_is_ok {n : Nat} {q : Rat} {a b : Int} (hb : b ≠ 0) (h : q = Rat.divInt a b) (ha : S n a) (hB : S n b) (hn : n ≤ 60000000) : l_is q a b = .ok true := by
  unfold l_is l_whole
  have s1 : S n q.num := by rw [h]; exact S_num ha
  have s2 : S n (q.den : Int) := by rw [h]; exact S_den hb hB
  have hd := q.den_pos
  have hlt : ¬ ((q.den : Int) < 1) := by omega
  simp only [bind_ok, Bool.not_true, Bool.not_false, Bool.true_and, Bool.and_true, Bool.and_false, decide_true, Bool.or_false, Bool.false_or, if_ok_f, orR_f, decide_eq_false hlt, Bool.or_self]
  rw [mulR_ok s1 hB (by omega), bind_ok, mulR_ok ha s2 (by omega), bind_ok, divInt_cross hb h, decide_eq_true rfl, andR_t,
    l_most_ok (absZ_nn _) (by omega), bind_ok]
  have hg : Int.gcd (absZ q.num) (q.den : Int) = 1 := by
    rw [absZ_eq, Int.gcd_eq_natAbs_gcd_natAbs, Int.natAbs_natCast, Int.natAbs_natCast]; exact q.reduced
  rw [hg]
  rfl
/-! ### the drawn cells -/
def Bits (ns : List Int) : Prop := ∀ z ∈ ns, z.natAbs.log2 ≤ 1048576
theorem S_lit {n : Nat} {i : Int} (h : i.natAbs < 2 ^ n) : S n i := h
theorem S_lt {n : Nat} {i : Int} {m : Nat} (h0 : 0 ≤ i) (h : i < m) (hm : m ≤ 2 ^ n) : S n i := by unfold S; omega
theorem S_emod {n : Nat} {i : Int} (m : Nat) (hm : 0 < m) (h : m ≤ 2 ^ n) : S n (i % (m : Int)) := by
  have h1 := Int.emod_nonneg i (show (m : Int) ≠ 0 by omega)
  have h2 := Int.emod_lt_of_pos i (show (0 : Int) < m by omega)
  exact S_lt h1 h2 h
theorem S_ediv {n : Nat} {i : Int} {m : Int} (hm : 0 < m) (h : S n i) : S n (i / m) := Nat.lt_of_le_of_lt (natAbs_ediv_le i hm) h
/-- every cell is a whole number of bounded size -/
theorem l_cell_ok {ns : List Int} (hb : Bits ns) {k : Int} (h0 : 0 ≤ k) (h1 : k < 1000000) : ∃ c, l_cell ns k = .ok c ∧ S 1048577 c := by
  unfold l_cell
  by_cases h : k < (ns.length : Int)
  · obtain ⟨x, hx, e⟩ := atR_int h0 h
    rw [decide_eq_true h, if_ok_t, e, bind_ok]
    exact ⟨x, rfl, .of_log (hb x (List.mem_of_getElem? hx))⟩
  · rw [decide_eq_false h, if_ok_f]
    have sk : S 20 k := by unfold S; omega
    rw [mulR_ok (b := 13) sk (by decide) (by omega), bind_ok, bind_ok]
    have fin : ∀ s : Int, S 60 s → ∃ c, R.bind (mulR s (48271 : Int)) (fun p10 => R.bind (R.ok ((p10 % (65537 : Int)))) fun some11 => R.bind (mulR ((2 : Int)) k) fun p12 => R.bind (mulR some11 (((some11 + p12) + (1 : Int)))) fun p13 => R.ok (((p13 / (7 : Int)) % (65521 : Int)))) = .ok c ∧ S 1048577 c := fun s hs => by
      rw [mulR_ok (b := 16) hs (by decide) (by omega), bind_ok, bind_ok, mulR_ok (a := 2) (by decide) sk (by omega), bind_ok]
      have hm : S 17 (s * 48271 % 65537) := S_emod (i := s * 48271) 65537 (by decide) (by decide)
      rw [mulR_ok hm (b := 30) ?_ (by omega), bind_ok]
      · refine ⟨_, rfl, ?_⟩
        exact (S_emod (n := 17) (i := _ / 7) 65521 (by decide) (by decide)).mono (by omega)
      · have h2 := Int.emod_nonneg (s * 48271) (show (65537 : Int) ≠ 0 by decide)
        have h3 := Int.emod_lt_of_pos (s * 48271) (show (0 : Int) < 65537 by decide)
        unfold S; omega
    by_cases hl : (ns.length : Int) > 0
    · rw [decide_eq_true hl, if_ok_t, fmodR_ok (by omega), bind_ok]
      have e1 : k.fmod (ns.length : Int) = k % (ns.length : Int) := Int.fmod_eq_emod_of_nonneg k (by omega)
      have h2 := Int.emod_nonneg k (show (ns.length : Int) ≠ 0 by omega)
      have h3 := Int.emod_lt_of_pos k (show (0 : Int) < (ns.length : Int) by omega)
      rw [e1]
      obtain ⟨x, hx, e⟩ := atR_int h2 h3
      rw [e, bind_ok, bind_ok, bind_ok]
      refine fin _ ?_
      have h4 := Int.emod_nonneg x (show (65537 : Int) ≠ 0 by decide)
      have h5 := Int.emod_lt_of_pos x (show (0 : Int) < 65537 by decide)
      unfold S; omega
    · rw [decide_eq_false hl, if_ok_f, bind_ok]
      refine fin _ ?_
      unfold S; omega
theorem l_top_ok (c : Int) : ∃ t, l_top c = .ok t ∧ S 101 t := by
  unfold l_top
  have h2 := Int.emod_nonneg (c / 4) (show (2000000000000000000000000000000 - 1 : Int) ≠ 0 by decide)
  have h3 := Int.emod_lt_of_pos (c / 4) (show (0 : Int) < 2000000000000000000000000000000 - 1 by decide)
  by_cases h : c % 4 = 3
  · rw [decide_eq_true h, if_ok_t]
    exact ⟨_, rfl, by unfold S; omega⟩
  · rw [decide_eq_false h, if_ok_f]
    exact ⟨_, rfl, by unfold S; omega⟩
theorem l_bottom_ok (c : Int) : ∃ t, l_bottom c = .ok t ∧ S 101 t ∧ 0 < t := by
  unfold l_bottom
  have h2 := Int.emod_nonneg (c / 4) (show (1000000000000000000000000000000 - 1 : Int) ≠ 0 by decide)
  have h3 := Int.emod_lt_of_pos (c / 4) (show (0 : Int) < 1000000000000000000000000000000 - 1 by decide)
  by_cases h : c % 4 = 3
  · rw [decide_eq_true h, if_ok_t]
    exact ⟨_, rfl, by unfold S; omega, by omega⟩
  · rw [decide_eq_false h, if_ok_f]
    exact ⟨_, rfl, by unfold S; omega, by omega⟩
end Pg

set_option Elab.async false
set_option linter.all false
namespace Pg

/-! mirrors of the defs of k02, printed by pygen -/
def p_plus (one1 : Rat) (other2 : Rat) : R Rat :=
  R.bind (mulR one1.num ((other2.den : Int))) fun p3 =>
  R.bind (mulR other2.num ((one1.den : Int))) fun p4 =>
  R.bind (mulR ((one1.den : Int)) ((other2.den : Int))) fun p5 =>
  R.bind (p_ratio ((p3 + p4)) p5) fun ratio6 =>
  R.ok ratio6
def p_minus (one1 : Rat) (other2 : Rat) : R Rat :=
  R.bind (mulR one1.num ((other2.den : Int))) fun p3 =>
  R.bind (mulR other2.num ((one1.den : Int))) fun p4 =>
  R.bind (mulR ((one1.den : Int)) ((other2.den : Int))) fun p5 =>
  R.bind (p_ratio ((p3 - p4)) p5) fun ratio6 =>
  R.ok ratio6
def p_total (some1 : (List Rat)) : R Rat :=
  R.bind (mkQ ((0 : Int)) ((1 : Int))) fun q2 =>
  R.bind (R.ok q2) fun come3 =>
  R.bind (R.forR (fun (x4 : Rat) (s5 : Rat) => R.bind (p_plus s5 x4) fun plus6 => R.bind (R.ok plus6) fun come7 => R.ok come7) some1 come3) fun s8 =>
  R.ok s8
def l_some (script1 : (List Int)) : R ((List Rat)) :=
  R.bind (R.ok (([] : (List Rat)))) fun some2 =>
  R.bind (l_cell script1 ((5 : Int))) fun c3 =>
  R.bind (rngR 0 ((c3 % (13 : Int)))) fun r4 =>
  R.bind (R.forR (fun (x5 : Int) (s6 : (List Rat)) => R.bind (l_cell script1 (((6 : Int) + x5))) fun c7 => R.bind (R.ok c7) fun cell8 => R.bind (l_top ((cell8 / (12 : Int)))) fun t9 => R.bind (l_ratio t9 (((1 : Int) + (cell8 % (12 : Int))))) fun r10 => R.bind (appR s6 r10) fun some11 => R.ok some11) r4 some2) fun s12 =>
  R.bind (R.andR ((decide ((s12.length : Int) > (0 : Int)))) (R.bind (l_cell script1 ((5 : Int))) fun c13 => R.ok ((decide (((c13 / (13 : Int)) % (4 : Int)) = (0 : Int)))))) fun b14 =>
  R.bind (if b14 = true then (R.bind (l_drawn script1 ((18 : Int))) fun d16 => R.bind (l_cell script1 ((4 : Int))) fun c17 => R.bind (fmodR c17 ((s12.length : Int))) fun m18 => R.bind (setR s12 m18 d16) fun some19 => R.ok some19) else (R.ok s12) : R ((List Rat))) fun st15 =>
  R.ok st15
def l_total_good (some1 : (List Rat)) : R Bool :=
  R.bind (R.ok ((0 : Int))) fun top2 =>
  R.bind (R.ok ((1 : Int))) fun bottom3 =>
  R.bind (R.forR (fun (x4 : Rat) (s5 : (Int × Int)) => R.bind (mulR s5.1 ((x4.den : Int))) fun p6 => R.bind (mulR x4.num s5.2) fun p7 => R.bind (R.ok ((p6 + p7))) fun top8 => R.bind (mulR s5.2 ((x4.den : Int))) fun p9 => R.bind (R.ok p9) fun bottom10 => R.ok ((top8, bottom10))) some1 ((top2, bottom3))) fun s11 =>
  R.bind (R.ok some1) fun handed12 =>
  R.bind (p_total handed12) fun total13 =>
  R.bind (l_is total13 s11.1 s11.2) fun i14 =>
  R.ok ((i14 && (decide (handed12 = some1))))
def k02_law (script1 : (List Int)) : R Bool :=
  R.bind (l_drawn script1 ((0 : Int))) fun d2 =>
  R.bind (R.ok d2) fun one3 =>
  R.bind (l_drawn script1 ((2 : Int))) fun d4 =>
  R.bind (R.ok d4) fun other5 =>
  R.bind (l_cell script1 ((4 : Int))) fun c6 =>
  R.bind (if (decide ((c6 % (5 : Int)) = (0 : Int))) = true then (R.bind (mkQ ((-one3.num)) ((one3.den : Int))) fun q8 => R.bind (R.ok q8) fun other9 => R.ok other9) else (R.ok other5) : R Rat) fun st7 =>
  R.bind (mulR ((one3.den : Int)) ((st7.den : Int))) fun p10 =>
  R.bind (R.ok p10) fun both11 =>
  R.bind (p_plus one3 st7) fun plus12 =>
  R.bind (R.ok plus12) fun come13 =>
  R.bind (mulR one3.num ((st7.den : Int))) fun p14 =>
  R.bind (mulR st7.num ((one3.den : Int))) fun p15 =>
  R.bind (l_is come13 ((p14 + p15)) both11) fun i16 =>
  if (!i16) = true then (R.ok false) else (R.bind (p_minus one3 st7) fun minus17 => R.bind (mulR one3.num ((st7.den : Int))) fun p18 => R.bind (mulR st7.num ((one3.den : Int))) fun p19 => R.bind (l_is minus17 ((p18 - p19)) both11) fun i20 => if (!i20) = true then (R.ok false) else (R.bind (p_minus st7 one3) fun minus21 => R.bind (mulR st7.num ((one3.den : Int))) fun p22 => R.bind (mulR one3.num ((st7.den : Int))) fun p23 => R.bind (l_is minus21 ((p22 - p23)) both11) fun i24 => if (!i24) = true then (R.ok false) else (R.bind (p_minus come13 st7) fun minus25 => R.bind (l_is minus25 one3.num ((one3.den : Int))) fun i26 => R.bind (R.orR ((!i26)) (R.bind (p_minus one3 one3) fun minus27 => R.bind (l_is minus27 ((0 : Int)) ((1 : Int))) fun i28 => R.ok ((!i28)))) fun b29 => if b29 = true then (R.ok false) else (R.bind (l_some script1) fun s30 => R.bind (R.ok s30) fun some31 => R.bind (rngR 0 ((some31.length : Int))) fun r32 => R.bind (R.compR (fun x33 => R.bind (atR some31 ((((some31.length : Int) - (1 : Int)) - x33))) fun it34 => R.ok it34) r32) fun c35 => R.bind (R.ok c35) fun back36 => R.bind (l_total_good some31) fun t37 => R.bind (R.andR t37 (R.bind (l_total_good back36) fun t38 => R.bind (R.andR t38 (R.bind (l_total_good ([one3])) fun t39 => R.bind (R.andR t39 (R.bind (l_total_good (([] : (List Rat)))) fun t40 => R.ok t40)) fun b41 => R.ok b41)) fun b42 => R.ok b42)) fun b43 => R.ok b43))))
end Pg

set_option Elab.async false
set_option linter.all false
namespace Pg
/-! ### sums, differences, products, quotients -/
theorem add_divInt (a b : Rat) : a + b = Rat.divInt (a.num * b.den + b.num * a.den) ((a.den : Int) * b.den) := by
  rw [Rat.add_def', ← Rat.divInt_ofNat, Int.natCast_mul]
theorem sub_divInt (a b : Rat) : a - b = Rat.divInt (a.num * b.den - b.num * a.den) ((a.den : Int) * b.den) := by
  rw [Rat.sub_def', ← Rat.divInt_ofNat, Int.natCast_mul]
theorem mul_divInt (a b : Rat) : a * b = Rat.divInt (a.num * b.num) ((a.den : Int) * b.den) := by
  rw [Rat.mul_def', ← Rat.divInt_ofNat, Int.natCast_mul]
theorem div_divInt (a b : Rat) : a / b = Rat.divInt (a.num * b.den) (a.den * b.num) := by
  rw [Rat.div_def, Rat.inv_def]
  have e : a = Rat.divInt a.num a.den := (Rat.num_divInt_den a).symm
  conv => lhs; rw [e]
  rw [Rat.divInt_mul_divInt]
theorem den_ne (q : Rat) : (q.den : Int) ≠ 0 := by have := q.den_nz; omega
theorem dens_ne (p q : Rat) : (p.den : Int) * q.den ≠ 0 := Int.mul_ne_zero (den_ne p) (den_ne q)
theorem num_ne {q : Rat} (h : q ≠ 0) : q.num ≠ 0 := fun z => h (Rat.num_eq_zero.mp z)
theorem S_cross {n m : Nat} {p q : Rat} (hp : SQ n p) (hq : SQ m q) : S (n + m + 1) (p.num * q.den + q.num * p.den) :=
  ((hp.1.mul hq.2).add (hq.1.mul hp.2)).mono (by omega)
theorem S_cross' {n m : Nat} {p q : Rat} (hp : SQ n p) (hq : SQ m q) : S (n + m + 1) (p.num * q.den - q.num * p.den) :=
  ((hp.1.mul hq.2).sub (hq.1.mul hp.2)).mono (by omega)
theorem S_dens {n m : Nat} {p q : Rat} (hp : SQ n p) (hq : SQ m q) : S (n + m) ((p.den : Int) * q.den) := hp.2.mul hq.2
theorem SQ.add {n m : Nat} {p q : Rat} (hp : SQ n p) (hq : SQ m q) : SQ (n + m + 1) (p + q) := by
  rw [add_divInt]; exact SQ_divInt (dens_ne p q) (S_cross hp hq) ((S_dens hp hq).mono (by omega))
theorem SQ.sub {n m : Nat} {p q : Rat} (hp : SQ n p) (hq : SQ m q) : SQ (n + m + 1) (p - q) := by
  rw [sub_divInt]; exact SQ_divInt (dens_ne p q) (S_cross' hp hq) ((S_dens hp hq).mono (by omega))
theorem SQ.mul {n m : Nat} {p q : Rat} (hp : SQ n p) (hq : SQ m q) : SQ (n + m) (p * q) := by
  rw [mul_divInt]; exact SQ_divInt (dens_ne p q) (hp.1.mul hq.1) (S_dens hp hq)
theorem SQ.div {n m : Nat} {p q : Rat} (hp : SQ n p) (hq : SQ m q) (h0 : q ≠ 0) : SQ (n + m) (p / q) := by
  rw [div_divInt]; exact SQ_divInt (Int.mul_ne_zero (den_ne p) (num_ne h0)) (hp.1.mul hq.2) (hp.2.mul hq.1)
theorem SQ.neg {n : Nat} {p : Rat} (hp : SQ n p) : SQ n (-p) := ⟨hp.1.neg, hp.2⟩
theorem SQ_zero (n : Nat) : SQ (n + 1) 0 := ⟨S.mono (a := 1) (by decide) (by omega), S.mono (a := 1) (by decide) (by omega)⟩
theorem SQ_one (n : Nat) : SQ (n + 1) 1 := ⟨S.mono (a := 1) (by decide) (by omega), S.mono (a := 1) (by decide) (by omega)⟩
theorem p_plus_ok {n m : Nat} {p q : Rat} (hp : SQ n p) (hq : SQ m q) (h : n + m < 134000000) : p_plus p q = .ok (p + q) := by
  unfold p_plus
  rw [mulR_ok hp.1 hq.2 h, bind_ok, mulR_ok hq.1 hp.2 (by omega), bind_ok, mulR_ok hp.2 hq.2 h, bind_ok, p_ratio_ok (dens_ne p q), bind_ok, ← add_divInt]
theorem p_minus_ok {n m : Nat} {p q : Rat} (hp : SQ n p) (hq : SQ m q) (h : n + m < 134000000) : p_minus p q = .ok (p - q) := by
  unfold p_minus
  rw [mulR_ok hp.1 hq.2 h, bind_ok, mulR_ok hq.1 hp.2 (by omega), bind_ok, mulR_ok hp.2 hq.2 h, bind_ok, p_ratio_ok (dens_ne p q), bind_ok, ← sub_divInt]
theorem p_times_ok {n m : Nat} {p q : Rat} (hp : SQ n p) (hq : SQ m q) (h : n + m < 134000000) : p_times p q = .ok (p * q) := by
  unfold p_times
  rw [mulR_ok hp.1 hq.1 h, bind_ok, mulR_ok hp.2 hq.2 h, bind_ok, p_ratio_ok (dens_ne p q), bind_ok, ← mul_divInt]
theorem p_parted_ok {n m : Nat} {p q : Rat} (hp : SQ n p) (hq : SQ m q) (h : n + m < 134000000) (h0 : q ≠ 0) : p_parted p q = .ok (p / q) := by
  unfold p_parted
  rw [mulR_ok hp.1 hq.2 h, bind_ok, mulR_ok hp.2 hq.1 h, bind_ok, p_ratio_ok (Int.mul_ne_zero (den_ne p) (num_ne h0)), bind_ok, ← div_divInt]
/-! ### constants -/
theorem mkQ_lit {a b : Int} {q : Rat} (h1 : q.num = a) (h2 : (q.den : Int) = b) : mkQ a b = .ok q := by rw [← h1, ← h2]; exact mkQ_self q
theorem mkQ_zero : mkQ 0 1 = .ok (0 : Rat) := mkQ_lit rfl rfl
theorem mkQ_one : mkQ 1 1 = .ok (1 : Rat) := mkQ_lit rfl rfl
theorem mkQ_neg (q : Rat) : mkQ (-q.num) (q.den : Int) = .ok (-q) := mkQ_lit (Rat.neg_num q) (congrArg Nat.cast (Rat.neg_den q))
theorem mkQ_int (i : Int) : mkQ i 1 = .ok (i : Rat) := mkQ_lit (Rat.num_intCast i) (congrArg Nat.cast (Rat.den_intCast i))
theorem SQ_int {n : Nat} {i : Int} (h : S n i) (hn : 0 < n) : SQ n (i : Rat) := ⟨by rw [Rat.num_intCast]; exact h, by
  rw [Rat.den_intCast]; exact S.mono (a := 1) (by decide) hn⟩
/-! ### sums of lists -/
def sumQ : List Rat → Rat
  | [] => 0
  | x :: xs => x + sumQ xs
theorem sumQ_append : ∀ xs ys : List Rat, sumQ (xs ++ ys) = sumQ xs + sumQ ys
  | [], ys => by show sumQ ys = 0 + sumQ ys; grind
  | x :: xs, ys => by show x + sumQ (xs ++ ys) = x + sumQ xs + sumQ ys; rw [sumQ_append xs ys]; grind
theorem sumQ_reverse : ∀ xs : List Rat, sumQ xs.reverse = sumQ xs
  | [] => rfl
  | x :: xs => by rw [List.reverse_cons, sumQ_append, sumQ_reverse xs]; show sumQ xs + (x + 0) = x + sumQ xs; grind
theorem SQ_sum {m : Nat} : ∀ {xs : List Rat}, (∀ x ∈ xs, SQ m x) → SQ ((m + 1) * xs.length + 1) (sumQ xs)
  | [], _ => SQ_zero 0
  | x :: xs, h => by
    have h1 := (h x List.mem_cons_self).add (SQ_sum fun y hy => h y (List.mem_cons_of_mem _ hy))
    exact h1.mono (by rw [List.length_cons, Nat.mul_add, Nat.mul_one]; omega)
/-- a loop that adds up -/
theorem plus_loop {f : Rat → Rat → R Rat} (hf : ∀ x s, f x s = R.bind (p_plus s x) fun y => R.ok y) {m : Nat} : ∀ (xs : List Rat) (s : Rat) (n : Nat), SQ n s → (∀ x ∈ xs, SQ m x) → n + (m + 1) * xs.length + m < 134000000 → R.forR f xs s = .ok (s + sumQ xs)
  | [], s, n, _, _, _ => by show R.ok s = R.ok (s + 0); congr 1; grind
  | x :: xs, s, n, hs, hx, hl => by
    have h1 := hx x List.mem_cons_self
    rw [List.length_cons, Nat.mul_add, Nat.mul_one] at hl
    unfold R.forR
    rw [hf, p_plus_ok hs h1 (by omega), bind_ok, bind_ok, plus_loop hf xs (s + x) (n + m + 1) (hs.add h1) (fun y hy => hx y (List.mem_cons_of_mem _ hy)) (by omega)]
    congr 1
    show s + x + sumQ xs = s + (x + sumQ xs)
    grind
theorem p_total_ok {m : Nat} {xs : List Rat} (h : ∀ x ∈ xs, SQ m x) (hl : (m + 1) * xs.length + m < 133000000) : p_total xs = .ok (sumQ xs) := by
  unfold p_total
  rw [mkQ_zero, bind_ok, bind_ok, plus_loop (fun x s => by rfl) xs 0 1 (SQ_zero 0) h (by omega), bind_ok]
  congr 1; grind
/-! ### what the laws draw -/
theorem l_ratio_ok {a b : Int} (hb : b ≠ 0) : l_ratio a b = .ok (Rat.divInt a b) := by
  unfold l_ratio
  rw [l_most_ok (absZ_nn a) (absZ_nn b), bind_ok, bind_ok]
  have hg : Int.gcd (absZ a) (absZ b) = Int.gcd a b := by
    rw [absZ_eq, absZ_eq, Int.gcd_eq_natAbs_gcd_natAbs, Int.natAbs_natCast, Int.natAbs_natCast]; rfl
  rw [hg]
  obtain ⟨h1, h2⟩ := mkQ_divInt (a := a) (b := b) hb
  by_cases hn : b < 0
  · rw [if_pos hn] at h1 h2
    rw [decide_eq_true hn, if_ok_t, bind_ok, bind_ok, h1, bind_ok, h2, bind_ok, mkQ_self, bind_ok]
  · rw [if_neg hn] at h1 h2
    rw [decide_eq_false hn, if_ok_f, bind_ok, h1, bind_ok, h2, bind_ok, mkQ_self, bind_ok]
theorem l_drawn_ok {ns : List Int} (hb : Bits ns) {k : Int} (h0 : 0 ≤ k) (h1 : k < 100000) : ∃ q, l_drawn ns k = .ok q ∧ SQ 101 q := by
  unfold l_drawn
  obtain ⟨c, ec, _⟩ := l_cell_ok hb h0 (show k < 1000000 by omega)
  obtain ⟨t, et, st⟩ := l_top_ok c
  obtain ⟨c2, ec2, _⟩ := l_cell_ok hb (show 0 ≤ k + 1 by omega) (show k + 1 < 1000000 by omega)
  obtain ⟨b, eb, sb, pb⟩ := l_bottom_ok c2
  rw [ec, bind_ok, et, bind_ok, ec2, bind_ok, eb, bind_ok, l_ratio_ok (by omega), bind_ok]
  exact ⟨_, rfl, SQ_divInt (by omega) st sb⟩
/-- the look at a ratio that is due -/
theorem l_is_self {n : Nat} {q : Rat} (h : SQ n q) (hn : n ≤ 60000000) : l_is q q.num (q.den : Int) = .ok true :=
  l_is_ok (den_ne q) (Rat.num_divInt_den q).symm h.1 h.2 hn
end Pg

set_option Elab.async false
set_option linter.all false
namespace Pg
theorem ratio_v2_0 (a : Int) : p_ratio_v2 a 0 = .ok (.inr .ratio) := rfl
theorem parted_v2_0 {n : Nat} {q : Rat} (h : SQ n q) (l : n ≤ 1000000) : p_parted_v2 q 0 = .ok (.inr .ratio) := by
  unfold p_parted_v2
  have e1 : mulR q.num ((0 : Rat).den : Int) = .ok (q.num * ((0 : Rat).den : Int)) := mulR_ok h.1 (S_lit (n := 1) (by decide)) (by omega)
  have e2 : mulR (q.den : Int) (0 : Rat).num = .ok ((q.den : Int) * (0 : Rat).num) := mulR_ok h.2 (S_lit (n := 1) (by decide)) (by omega)
  rw [e1, bind_ok, e2, bind_ok, show ((q.den : Int) * (0 : Rat).num) = 0 from Int.mul_zero _]
  exact ratio_v2_0 _
theorem refusal_ok {n : Nat} {q : Rat} (h : SQ n q) (l : n ≤ 1000000) (w a : Int) : l_refusal w q a = .ok (some .ratio) := by
  unfold l_refusal
  by_cases h0 : w = 0
  · rw [decide_eq_true h0, if_ok_t, ratio_v2_0]; rfl
  rw [decide_eq_false h0, if_ok_f]
  by_cases h1 : w = 1
  · rw [decide_eq_true h1, if_ok_t, ratio_v2_0]; rfl
  rw [decide_eq_false h1, if_ok_f]
  by_cases h2 : w = 2
  · rw [decide_eq_true h2, if_ok_t, mkQ_zero, bind_ok, parted_v2_0 h l]; rfl
  rw [decide_eq_false h2, if_ok_f, mkQ_zero, bind_ok, bind_ok, parted_v2_0 (SQ_zero 0) (by decide)]; rfl
theorem only_ok : l_only (some .ratio) = .ok true := rfl
theorem k05_ok : ∀ ns : List Int, ns.length ≤ 63 → (∀ z ∈ ns, z.natAbs.log2 ≤ 1048576) → k05_law ns = .ok true := fun ns hl hb => by
  unfold k05_law
  obtain ⟨p, ep, sp⟩ := l_drawn_ok hb (k := 0) (by decide) (by decide)
  obtain ⟨c, ec, _⟩ := l_cell_ok hb (k := 2) (by decide) (by decide)
  obtain ⟨t, et, st⟩ := l_top_ok c
  refine Ok.true (.step ep (.one (.step ec (.step et (.one (.step (rngR_ok (by decide) (by decide) (by decide) (by decide)) (.step (forX_all fun x _ => ?_) ?_)))))))
  · rw [refusal_ok sp (by decide), bind_ok, only_ok, bind_ok, if_neg (by decide)]
    have hz : R.andR ((!decide (p.num = (0 : Int)))) (R.bind (mkQ ((0 : Int)) ((1 : Int))) fun q12 => R.bind (p_parted q12 p) fun parted13 => R.bind (l_is parted13 ((0 : Int)) ((1 : Int))) fun i14 => R.ok ((!i14))) = .ok false := by
      by_cases h : p.num = 0
      · rw [decide_eq_true h]; rfl
      · rw [decide_eq_false h]
        show R.bind (mkQ 0 1) (fun q12 => R.bind (p_parted q12 p) fun parted13 => R.bind (l_is parted13 ((0 : Int)) ((1 : Int))) fun i14 => R.ok ((!i14))) = _
        rw [mkQ_zero, bind_ok, p_parted_ok (SQ_zero 0) sp (by decide) (fun z => h (by rw [z]; rfl)), bind_ok, show (0 : Rat) / p = 0 by grind]
        rw [l_is_self (q := 0) (SQ_zero 0) (by decide) |> fun z => (show l_is 0 0 1 = .ok true from z)]
        rfl
    rw [hz, bind_ok, if_ok_f, p_ratio_ok (by decide), bind_ok, l_is_ok (by decide) rfl st (S_lit (n := 101) (by decide)) (by decide)]
    rfl
  · exact .pure rfl
end Pg

set_option Elab.async false
set_option linter.all false
set_option maxRecDepth 100000
set_option maxHeartbeats 0
namespace Pg
open PySem PySem.Spec PyProof.Rows L2

def dd_divisor : He.DefD := ⟨("divisor", none), "divisor", "divisor", defArgs s_divisor, defBody s_divisor, defScope s_divisor, [], []⟩
def dd_ratio : He.DefD := ⟨("ratio", none), "ratio", "ratio", defArgs s_ratio, defBody s_ratio, defScope s_ratio, [], []⟩
def dd_parted : He.DefD := ⟨("parted", none), "parted", "parted", defArgs s_parted, defBody s_parted, defScope s_parted, [], []⟩
def dd__law_cell : He.DefD := ⟨("_law_cell", none), "_law_cell", "_law_cell", defArgs s__law_cell, defBody s__law_cell, defScope s__law_cell, [], []⟩
def dd__law_whole : He.DefD := ⟨("_law_whole", none), "_law_whole", "_law_whole", defArgs s__law_whole, defBody s__law_whole, defScope s__law_whole, [], []⟩
def dd__law_most : He.DefD := ⟨("_law_most", none), "_law_most", "_law_most", defArgs s__law_most, defBody s__law_most, defScope s__law_most, [], []⟩
def dd__law_is : He.DefD := ⟨("_law_is", none), "_law_is", "_law_is", defArgs s__law_is, defBody s__law_is, defScope s__law_is, [], []⟩
def dd__law_ratio : He.DefD := ⟨("_law_ratio", none), "_law_ratio", "_law_ratio", defArgs s__law_ratio, defBody s__law_ratio, defScope s__law_ratio, [], []⟩
def dd__law_top : He.DefD := ⟨("_law_top", none), "_law_top", "_law_top", defArgs s__law_top, defBody s__law_top, defScope s__law_top, [], []⟩
def dd__law_bottom : He.DefD := ⟨("_law_bottom", none), "_law_bottom", "_law_bottom", defArgs s__law_bottom, defBody s__law_bottom, defScope s__law_bottom, [], []⟩
def dd__law_drawn : He.DefD := ⟨("_law_drawn", none), "_law_drawn", "_law_drawn", defArgs s__law_drawn, defBody s__law_drawn, defScope s__law_drawn, [], []⟩
def dd__law_refusal : He.DefD := ⟨("_law_refusal", none), "_law_refusal", "_law_refusal", defArgs s__law_refusal, defBody s__law_refusal, defScope s__law_refusal, [], []⟩
def dd__law_only : He.DefD := ⟨("_law_only", none), "_law_only", "_law_only", defArgs s__law_only, defBody s__law_only, defScope s__law_only, [], []⟩
def dd_law : He.DefD := ⟨("law", none), "law", "law", defArgs s_law, defBody s_law, defScope s_law, [], []⟩
def hdFn : List He.DefD := [dd_divisor, dd_ratio, dd_parted, dd__law_cell, dd__law_whole, dd__law_most, dd__law_is, dd__law_ratio, dd__law_top, dd__law_bottom, dd__law_drawn, dd__law_refusal, dd__law_only, dd_law]
def hdEx (K : PySem.W.Frag) : Bool := excB K (He.ga K "NoRatio") && decide (PySem.W.kitOne K (.ref (He.ga K "NoRatio")) (.ref (He.ga K "NoCell")) = some false) && decide (PySem.W.kitOne K (.ref (He.ga K "NoRatio")) (.ref (He.ga K "NoLayer")) = some false) && decide (PySem.W.kitOne K (.ref (He.ga K "NoRatio")) (.ref (He.ga K "NoName")) = some false) && decide (PySem.W.kitOne K (.ref (He.ga K "NoRatio")) (.ref (He.ga K "NoPlace")) = some false) && decide (PySem.W.kitOne K (.ref (He.ga K "NoRatio")) (.ref (He.ga K "NoRatio")) = some true) && decide (PySem.W.kitOne K (.ref (He.ga K "NoRatio")) (.ref (He.ga K "NoRow")) = some false) && decide (PySem.W.kitOne K (.ref (He.ga K "NoRatio")) (.ref (He.ga K "NoText")) = some false) && decide (PySem.W.kitOne K (.ref (He.ga K "NoRatio")) (.type "ValueError") = some true)
def hdFa : List He.Fa := [.glo "divisor", .glo "ratio", .glo "parted", .glo "_law_cell", .glo "_law_whole", .glo "_law_most", .glo "_law_is", .glo "_law_ratio", .glo "_law_top", .glo "_law_bottom", .glo "_law_drawn", .glo "_law_refusal", .glo "_law_only", .glo "law", .free "ValueError", .free "abs", .free "bool", .free "int", .free "isinstance", .free "len", .free "range", .free "tuple", .exc "NoRatio", .glo "NoRatio", .glo "CoverError", .glo "NoCell", .glo "NoLayer", .glo "NoName", .glo "NoPlace", .glo "NoRow", .glo "NoText", .exm "NoRatio" "CoverError" true]
abbrev hdR : PySem.W.OpenRow := PySem.W.OpenLaw.row PySem.Challenge.rw_coverfill_k05_no_ratio
abbrev hdK : PySem.W.Hook := hookP 4 hdFa hdFn hdEx
def hdNames : List Str := (["CoverError", "NoRatio", "NoLayer", "NoPlace", "NoText", "NoRow", "NoName", "NoCell", "divisor", "ratio", "parted", "_law_cell", "_law_whole", "_law_most", "_law_is", "_law_ratio", "_law_top", "_law_bottom", "_law_drawn", "_law_refusal", "_law_only"] : List Str)
theorem hd_run (w : World) : HandSHeadRun.RunEq hdR (PySem.W.view hdR.prog [24]) hdK (obT 4 hdFa hdFn hdEx) 20000 hdNames w := by
  intro os
  kernel_rfl
theorem hd_facts {P : Program} {w : World} {K : PySem.W.Frag} {h : Heap} {mg : Str → Option Value} {f : Addr} (hT : P.given.tree = none) (X : K.In h) (G : h.Ns mainGlobals mg) (hfa : mg ("law" : Str) = some (.ref f)) (c : SaysP hdFa hdFn hdEx K) :
    ∃ fd : FuncData, (∀ (s : Shared) (v : Value), BindsTo s fd ⟨[v], []⟩ [("_law_script", v)]) ∧ ∀ base : Heap, K.In base → base.Ns mainGlobals mg → base.NoSeer → FnOk P w K mg base CX0 45 f fd ["_law_script"] (sp_law K) := by
  obtain ⟨fd_divisor, F_divisor⟩ := c.1.def_ 0 (d := dd_divisor) rfl
  have b_divisor : Binds K fd_divisor ["one", "other"] [] := F_divisor.bindsN fun _ _ _ _ _ _ us hl => match us, hl with | [_, _], _ => rfl
  have g_divisor := He.glo_ok X G (c.1.fact 0 (f := .glo "divisor") rfl)
  obtain ⟨fd_ratio, F_ratio⟩ := c.1.def_ 1 (d := dd_ratio) rfl
  have b_ratio : Binds K fd_ratio ["top", "bottom"] [] := F_ratio.bindsN fun _ _ _ _ _ _ us hl => match us, hl with | [_, _], _ => rfl
  have g_ratio := He.glo_ok X G (c.1.fact 1 (f := .glo "ratio") rfl)
  obtain ⟨fd_parted, F_parted⟩ := c.1.def_ 2 (d := dd_parted) rfl
  have b_parted : Binds K fd_parted ["one", "other"] [] := F_parted.bindsN fun _ _ _ _ _ _ us hl => match us, hl with | [_, _], _ => rfl
  have g_parted := He.glo_ok X G (c.1.fact 2 (f := .glo "parted") rfl)
  obtain ⟨fd__law_cell, F__law_cell⟩ := c.1.def_ 3 (d := dd__law_cell) rfl
  have b__law_cell : Binds K fd__law_cell ["_law_script", "_law_k"] [] := F__law_cell.bindsN fun _ _ _ _ _ _ us hl => match us, hl with | [_, _], _ => rfl
  have g__law_cell := He.glo_ok X G (c.1.fact 3 (f := .glo "_law_cell") rfl)
  obtain ⟨fd__law_whole, F__law_whole⟩ := c.1.def_ 4 (d := dd__law_whole) rfl
  have b__law_whole : Binds K fd__law_whole ["_law_found"] [] := F__law_whole.bindsN fun _ _ _ _ _ _ us hl => match us, hl with | [_], _ => rfl
  have g__law_whole := He.glo_ok X G (c.1.fact 4 (f := .glo "_law_whole") rfl)
  obtain ⟨fd__law_most, F__law_most⟩ := c.1.def_ 5 (d := dd__law_most) rfl
  have b__law_most : Binds K fd__law_most ["_law_one", "_law_other"] [] := F__law_most.bindsN fun _ _ _ _ _ _ us hl => match us, hl with | [_, _], _ => rfl
  have g__law_most := He.glo_ok X G (c.1.fact 5 (f := .glo "_law_most") rfl)
  obtain ⟨fd__law_is, F__law_is⟩ := c.1.def_ 6 (d := dd__law_is) rfl
  have b__law_is : Binds K fd__law_is ["_law_found", "_law_top_here", "_law_bottom_here"] [] := F__law_is.bindsN fun _ _ _ _ _ _ us hl => match us, hl with | [_, _, _], _ => rfl
  have g__law_is := He.glo_ok X G (c.1.fact 6 (f := .glo "_law_is") rfl)
  obtain ⟨fd__law_ratio, F__law_ratio⟩ := c.1.def_ 7 (d := dd__law_ratio) rfl
  have b__law_ratio : Binds K fd__law_ratio ["_law_top_here", "_law_bottom_here"] [] := F__law_ratio.bindsN fun _ _ _ _ _ _ us hl => match us, hl with | [_, _], _ => rfl
  have g__law_ratio := He.glo_ok X G (c.1.fact 7 (f := .glo "_law_ratio") rfl)
  obtain ⟨fd__law_top, F__law_top⟩ := c.1.def_ 8 (d := dd__law_top) rfl
  have b__law_top : Binds K fd__law_top ["_law_cell_here"] [] := F__law_top.bindsN fun _ _ _ _ _ _ us hl => match us, hl with | [_], _ => rfl
  have g__law_top := He.glo_ok X G (c.1.fact 8 (f := .glo "_law_top") rfl)
  obtain ⟨fd__law_bottom, F__law_bottom⟩ := c.1.def_ 9 (d := dd__law_bottom) rfl
  have b__law_bottom : Binds K fd__law_bottom ["_law_cell_here"] [] := F__law_bottom.bindsN fun _ _ _ _ _ _ us hl => match us, hl with | [_], _ => rfl
  have g__law_bottom := He.glo_ok X G (c.1.fact 9 (f := .glo "_law_bottom") rfl)
  obtain ⟨fd__law_drawn, F__law_drawn⟩ := c.1.def_ 10 (d := dd__law_drawn) rfl
  have b__law_drawn : Binds K fd__law_drawn ["_law_script", "_law_at"] [] := F__law_drawn.bindsN fun _ _ _ _ _ _ us hl => match us, hl with | [_, _], _ => rfl
  have g__law_drawn := He.glo_ok X G (c.1.fact 10 (f := .glo "_law_drawn") rfl)
  obtain ⟨fd__law_refusal, F__law_refusal⟩ := c.1.def_ 11 (d := dd__law_refusal) rfl
  have b__law_refusal : Binds K fd__law_refusal ["_law_way", "_law_one", "_law_number"] [] := F__law_refusal.bindsN fun _ _ _ _ _ _ us hl => match us, hl with | [_, _, _], _ => rfl
  have g__law_refusal := He.glo_ok X G (c.1.fact 11 (f := .glo "_law_refusal") rfl)
  obtain ⟨fd__law_only, F__law_only⟩ := c.1.def_ 12 (d := dd__law_only) rfl
  have b__law_only : Binds K fd__law_only ["_law_some"] [] := F__law_only.bindsN fun _ _ _ _ _ _ us hl => match us, hl with | [_], _ => rfl
  have g__law_only := He.glo_ok X G (c.1.fact 12 (f := .glo "_law_only") rfl)
  obtain ⟨fd_law, F_law⟩ := c.1.def_ 13 (d := dd_law) rfl
  have z_ValueError := He.free_ok X G (c.1.fact 14 (f := .free "ValueError") rfl)
  have z_abs := He.free_ok X G (c.1.fact 15 (f := .free "abs") rfl)
  have z_bool := He.free_ok X G (c.1.fact 16 (f := .free "bool") rfl)
  have z_int := He.free_ok X G (c.1.fact 17 (f := .free "int") rfl)
  have z_isinstance := He.free_ok X G (c.1.fact 18 (f := .free "isinstance") rfl)
  have z_len := He.free_ok X G (c.1.fact 19 (f := .free "len") rfl)
  have z_range := He.free_ok X G (c.1.fact 20 (f := .free "range") rfl)
  have z_tuple := He.free_ok X G (c.1.fact 21 (f := .free "tuple") rfl)
  have xr_NoRatio : RaiseOk K mg "NoRatio" := by obtain ⟨x1, x2, x3, x4⟩ := He.exc_ok (x := "NoRatio") (c.1.fact 22 (f := .exc "NoRatio") rfl); exact ⟨He.glo_ok X G (c.1.fact 23 (f := .glo "NoRatio") rfl), x1, x2, x3, x4⟩
  have gx_CoverError := He.glo_ok X G (c.1.fact 24 (f := .glo "CoverError") rfl)
  have gx_NoCell := He.glo_ok X G (c.1.fact 25 (f := .glo "NoCell") rfl)
  have gx_NoLayer := He.glo_ok X G (c.1.fact 26 (f := .glo "NoLayer") rfl)
  have gx_NoName := He.glo_ok X G (c.1.fact 27 (f := .glo "NoName") rfl)
  have gx_NoPlace := He.glo_ok X G (c.1.fact 28 (f := .glo "NoPlace") rfl)
  have gx_NoRatio := He.glo_ok X G (c.1.fact 23 (f := .glo "NoRatio") rfl)
  have gx_NoRow := He.glo_ok X G (c.1.fact 29 (f := .glo "NoRow") rfl)
  have gx_NoText := He.glo_ok X G (c.1.fact 30 (f := .glo "NoText") rfl)
  have xm_CoverError : ∀ c ∈ [Exc.ratio], PySem.W.exmOne K (.ref (xA K c)) (.ref (He.ga K "CoverError")) = some true := fun xx hx => by cases xx <;> first | exact He.exm_ok (x := "NoRatio") (y := "CoverError") (b := true) (c.1.fact 31 (f := .exm "NoRatio" "CoverError" true) rfl) | exact absurd hx (by decide)
  have xc : ∀ c ∈ [Exc.ratio], ExcC K (xA K c) := fun xx hx => by cases xx <;> first | exact excB_ok ((Bool.and_eq_true_iff.mp ((Bool.and_eq_true_iff.mp ((Bool.and_eq_true_iff.mp ((Bool.and_eq_true_iff.mp ((Bool.and_eq_true_iff.mp ((Bool.and_eq_true_iff.mp ((Bool.and_eq_true_iff.mp ((Bool.and_eq_true_iff.mp (c.2)).1)).1)).1)).1)).1)).1)).1)).1) | exact absurd hx (by decide)
  have xk_NoCell : ∀ c ∈ [Exc.ratio], PySem.W.kitOne K (.ref (xA K c)) (.ref (He.ga K "NoCell")) = some (decide (c = .cell)) := fun xx hx => by cases xx <;> first | exact of_decide_eq_true ((Bool.and_eq_true_iff.mp ((Bool.and_eq_true_iff.mp ((Bool.and_eq_true_iff.mp ((Bool.and_eq_true_iff.mp ((Bool.and_eq_true_iff.mp ((Bool.and_eq_true_iff.mp ((Bool.and_eq_true_iff.mp ((Bool.and_eq_true_iff.mp (c.2)).1)).1)).1)).1)).1)).1)).1)).2) | exact absurd hx (by decide)
  have xk_NoLayer : ∀ c ∈ [Exc.ratio], PySem.W.kitOne K (.ref (xA K c)) (.ref (He.ga K "NoLayer")) = some (decide (c = .layer)) := fun xx hx => by cases xx <;> first | exact of_decide_eq_true ((Bool.and_eq_true_iff.mp ((Bool.and_eq_true_iff.mp ((Bool.and_eq_true_iff.mp ((Bool.and_eq_true_iff.mp ((Bool.and_eq_true_iff.mp ((Bool.and_eq_true_iff.mp ((Bool.and_eq_true_iff.mp (c.2)).1)).1)).1)).1)).1)).1)).2) | exact absurd hx (by decide)
  have xk_NoName : ∀ c ∈ [Exc.ratio], PySem.W.kitOne K (.ref (xA K c)) (.ref (He.ga K "NoName")) = some (decide (c = .name)) := fun xx hx => by cases xx <;> first | exact of_decide_eq_true ((Bool.and_eq_true_iff.mp ((Bool.and_eq_true_iff.mp ((Bool.and_eq_true_iff.mp ((Bool.and_eq_true_iff.mp ((Bool.and_eq_true_iff.mp ((Bool.and_eq_true_iff.mp (c.2)).1)).1)).1)).1)).1)).2) | exact absurd hx (by decide)
  have xk_NoPlace : ∀ c ∈ [Exc.ratio], PySem.W.kitOne K (.ref (xA K c)) (.ref (He.ga K "NoPlace")) = some (decide (c = .place)) := fun xx hx => by cases xx <;> first | exact of_decide_eq_true ((Bool.and_eq_true_iff.mp ((Bool.and_eq_true_iff.mp ((Bool.and_eq_true_iff.mp ((Bool.and_eq_true_iff.mp ((Bool.and_eq_true_iff.mp (c.2)).1)).1)).1)).1)).2) | exact absurd hx (by decide)
  have xk_NoRatio : ∀ c ∈ [Exc.ratio], PySem.W.kitOne K (.ref (xA K c)) (.ref (He.ga K "NoRatio")) = some (decide (c = .ratio)) := fun xx hx => by cases xx <;> first | exact of_decide_eq_true ((Bool.and_eq_true_iff.mp ((Bool.and_eq_true_iff.mp ((Bool.and_eq_true_iff.mp ((Bool.and_eq_true_iff.mp (c.2)).1)).1)).1)).2) | exact absurd hx (by decide)
  have xk_NoRow : ∀ c ∈ [Exc.ratio], PySem.W.kitOne K (.ref (xA K c)) (.ref (He.ga K "NoRow")) = some (decide (c = .row)) := fun xx hx => by cases xx <;> first | exact of_decide_eq_true ((Bool.and_eq_true_iff.mp ((Bool.and_eq_true_iff.mp ((Bool.and_eq_true_iff.mp (c.2)).1)).1)).2) | exact absurd hx (by decide)
  have xk_NoText : ∀ c ∈ [Exc.ratio], PySem.W.kitOne K (.ref (xA K c)) (.ref (He.ga K "NoText")) = some (decide (c = .text)) := fun xx hx => by cases xx <;> first | exact of_decide_eq_true ((Bool.and_eq_true_iff.mp ((Bool.and_eq_true_iff.mp (c.2)).1)).2) | exact absurd hx (by decide)
  have xb_ValueError : ∀ c ∈ [Exc.ratio], PySem.W.kitOne K (.ref (xA K c)) (.type "ValueError") = some true := fun xx hx => by cases xx <;> first | exact of_decide_eq_true ((Bool.and_eq_true_iff.mp (c.2)).2) | exact absurd hx (by decide)
  have e := hfa.symm.trans (He.glo_ok X G (c.1.fact 13 (f := .glo "law") rfl))
  cases e
  have b := FunD.bindsA (ps := ["_law_script"]) F_law fun _ _ _ _ _ _ us hl => match us, hl with | [_], _ => rfl
  refine ⟨fd_law, fun s v => b s [v] rfl, fun base hB hN hS => ?_⟩
  have G_divisor : FnOk P w K mg base CX0 41 _ fd_divisor ["one", "other"] (sp_divisor K) := ok_divisor F_divisor
  have G_ratio : FnOk P w K mg base CX0 42 _ fd_ratio ["top", "bottom"] (sp_ratio K) := ok_ratio F_ratio F_divisor b_divisor g_divisor G_divisor z_abs hS hT
  have G_ratio__v2 : FnOk P w K mg base (L2.CX P w) 42 _ fd_ratio ["top", "bottom"] (sp_ratio__v2 K) := ok_ratio__v2 F_ratio F_divisor b_divisor g_divisor G_divisor z_abs xr_NoRatio hS hT
  have G_parted : FnOk P w K mg base CX0 43 _ fd_parted ["one", "other"] (sp_parted K) := ok_parted F_parted F_ratio b_ratio g_ratio G_ratio
  have G_parted__v2 : FnOk P w K mg base (L2.CX P w) 43 _ fd_parted ["one", "other"] (sp_parted__v2 K) := ok_parted__v2 F_parted F_ratio b_ratio g_ratio G_ratio__v2
  have G__law_cell : FnOk P w K mg base CX0 41 _ fd__law_cell ["_law_script", "_law_k"] (sp__law_cell K) := ok__law_cell F__law_cell z_len hS hT
  have G__law_whole : FnOk P w K mg base CX0 41 _ fd__law_whole ["_law_found"] (sp__law_whole K) := ok__law_whole F__law_whole z_bool z_int z_isinstance
  have G__law_most : FnOk P w K mg base CX0 41 _ fd__law_most ["_law_one", "_law_other"] (sp__law_most K) := ok__law_most F__law_most
  have G__law_is : FnOk P w K mg base CX0 42 _ fd__law_is ["_law_found", "_law_top_here", "_law_bottom_here"] (sp__law_is K) := ok__law_is F__law_is F__law_most b__law_most g__law_most F__law_whole b__law_whole g__law_whole G__law_most G__law_whole z_abs z_isinstance z_len z_tuple
  have G__law_ratio : FnOk P w K mg base CX0 42 _ fd__law_ratio ["_law_top_here", "_law_bottom_here"] (sp__law_ratio K) := ok__law_ratio F__law_ratio F__law_most b__law_most g__law_most G__law_most z_abs hS hT
  have G__law_top : FnOk P w K mg base CX0 41 _ fd__law_top ["_law_cell_here"] (sp__law_top K) := ok__law_top F__law_top hS hT
  have G__law_bottom : FnOk P w K mg base CX0 41 _ fd__law_bottom ["_law_cell_here"] (sp__law_bottom K) := ok__law_bottom F__law_bottom hS hT
  have G__law_drawn : FnOk P w K mg base CX0 43 _ fd__law_drawn ["_law_script", "_law_at"] (sp__law_drawn K) := ok__law_drawn F__law_drawn F__law_bottom b__law_bottom g__law_bottom F__law_cell b__law_cell g__law_cell F__law_ratio b__law_ratio g__law_ratio F__law_top b__law_top g__law_top G__law_bottom G__law_cell G__law_ratio G__law_top
  have G__law_refusal : FnOk P w K mg base CX0 44 _ fd__law_refusal ["_law_way", "_law_one", "_law_number"] (sp__law_refusal K) := ok__law_refusal F__law_refusal F_parted b_parted g_parted F_ratio b_ratio g_ratio G_parted__v2 G_ratio__v2 gx_CoverError xm_CoverError
  have G__law_only : FnOk P w K mg base CX0 41 _ fd__law_only ["_law_some"] (sp__law_only K) := ok__law_only F__law_only z_ValueError z_isinstance gx_NoCell gx_NoLayer gx_NoName gx_NoPlace gx_NoRatio gx_NoRow gx_NoText xc xk_NoCell xk_NoLayer xk_NoName xk_NoPlace xk_NoRatio xk_NoRow xk_NoText xb_ValueError
  exact ok_law F_law F__law_cell b__law_cell g__law_cell F__law_drawn b__law_drawn g__law_drawn F__law_is b__law_is g__law_is F__law_only b__law_only g__law_only F__law_refusal b__law_refusal g__law_refusal F__law_top b__law_top g__law_top F_parted b_parted g_parted F_ratio b_ratio g_ratio G__law_cell G__law_drawn G__law_is G__law_only G__law_refusal G__law_top G_parted G_ratio z_range
end Pg
open PySem PySem.W PySem.Calls PyProof.Rows
theorem PySem.Challenge.cw_coverfill_k05_no_ratio_holds : PySem.Challenge.rw_coverfill_k05_no_ratio.Holds := by
  w_on; o_law
  refine HandSHeadRun.head_any (r := OpenLaw.row PySem.Challenge.rw_coverfill_k05_no_ratio) (q := view (OpenLaw.row PySem.Challenge.rw_coverfill_k05_no_ratio).prog [24]) (H := Pg.hdK) (ob := Pg.obT 4 Pg.hdFa Pg.hdFn Pg.hdEx) (M := 20000) (loose := Pg.hdNames) (d := HandSHeadRun.topDef (OpenLaw.row PySem.Challenge.rw_coverfill_k05_no_ratio).prog 24) (kwd := []) Pg.obT_eq
    (by kernel_rfl) (fun s => by kernel_rfl) Pg.hd_run (by kernel_rfl) (by kernel_rfl) (by kernel_rfl) (by rfl) (by first | assumption | decide +kernel) (by decide +kernel) ⟨rfl, rfl, rfl, rfl, rfl, by decide +kernel⟩ ?hw ?hc
  case hw => w_witness2
  case hc =>
    refine Pg.walk_ofP (l := PySem.Challenge.rw_coverfill_k05_no_ratio) (n := 63) (k := 45) (x := "_law_script") (CX := L2.CX0) rfl (by decide) (by kernel_rfl) ⟨rfl, by decide, by decide⟩ (by decide +kernel) ?F (fun _ _ _ _ z => z)
    intro w mg fa h Y G hmg0
    obtain ⟨K, KX, c⟩ := Y
    have hmg : mg ("law" : PySem.Str) = some (.ref fa) := by
      have e : (HandSHeadRun.topDef (OpenLaw.row PySem.Challenge.rw_coverfill_k05_no_ratio).prog 24).name = ("law" : PySem.Str) := by kernel_rfl
      rw [← e]
      exact hmg0
    obtain ⟨fd, hb, hF⟩ := Pg.hd_facts (P := (PySem.Challenge.rw_coverfill_k05_no_ratio).prog) (w := w) rfl KX G hmg c
    exact ⟨K, fd, Pg.sp_law K, KX, hb, fun H a ns hl hbits _ hS => Pg.law_sp Pg.k05_ok H a ns hl hbits hS, hF⟩

