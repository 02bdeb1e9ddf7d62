import PyProof.Rows.All
import Wide.All
import OpenK.AllK
import Wide.FinOn
import HandS.ForMost
import HandS.ForExc
import HandS.Zip
import HandS.SortInts
import HandS.IsInst
import KE.SortData
import KE.DataMinMax
import KE.KTupSum
import HandS.TupAny
import HandS.TupLe
import HandS.TupMul
import HandS.Deep
import HandS.Style
import HandS.Rev
import HandS.SetFor
import HandS.Wide
import PyProof.ReprRoads
import HandS.Exc
import HandS.ExcOwn
import HandS.Conv
import HandS.Strs
import KE.KRevSl
import HandS.TupSets
import HandS.Small
import HandS.TryOnly
import PySem.Challenge.RW_everycatalan_k25_whole_rows_reflected
set_option Elab.async false
set_option linter.all false
set_option maxRecDepth 100000
/-! Ev0: pure data, what stands for it in the heap, an environment of slots, how a step keeps it. -/
namespace Ev
open PySem L2
abbrev D := PyData
/-- what a slot holds: nothing yet, a value that never changes, a list of one's own, a caller's list -/
inductive Ent where
  | un | val (d : D) | own (d : D) | io (d : D)
abbrev Rho := List Ent
def Ent.got : Ent → Option D
  | .un => none | .val d => some d | .own d => some d | .io d => some d
def Ent.isOwn : Ent → Bool
  | .own _ => true | .io _ => true | _ => false
abbrev NoH : Hp := fun _ => none
section
variable (K : PySem.W.Frag) (H : Hp) (M : Addr → Prop)
def LsA (a : Addr) (xs : List V) : Prop := (Rd H a (.lst xs) ∧ ¬ M a) ∨ SqL K NoH a xs
/-- a tuple as a step makes it -/
def tOb (us : Array Value) : Obj := { cls := .type "tuple", data := .seq us }
def TpA (a : Addr) (xs : List V) : Prop := (∃ us, H a = some (.frz (tOb us) (.tup xs)) ∧ ¬ M a) ∨
  ∃ (o : Obj) (its : Array Value) (n : Nat), K.lookup a = some o ∧ o.cls = .type "tuple" ∧ o.dict = none ∧ o.data = .seq its n ∧ its.size ≤ sizeLine ∧ Vals xs its.toList
mutual
def Rp : D → V → Prop
  | .none, v => v = .non
  | .bool b, v => v = .bl b
  | .int i, v => v = .int i
  | .str x, v => v = .str x
  | .list ds, v => ∃ a xs, v = .ref a ∧ LsA K H M a xs ∧ Rps ds xs
  | .tuple ds, v => ∃ a xs, v = .ref a ∧ TpA K H M a xs ∧ Rps ds xs
  | .dict kvs, v => ∃ a ks, v = .ref a ∧ H a = some (.dK ks) ∧ ¬ M a ∧ Rpk kvs ks
def Rps : List D → List V → Prop
  | [], xs => xs = []
  | d :: ds, xs => ∃ x r, xs = x :: r ∧ Rp d x ∧ Rps ds r
def Rpk : List (D × D) → List (Key × V) → Prop
  | [], ks => ks = []
  | (k, d) :: r, ks => ∃ q x t, ks = (q, x) :: t ∧ Rp k (kV q) ∧ Rp d x ∧ Rpk r t
end
/-- what is known of a list (a dict) of one's own, at a -/
def OwnAt (a : Addr) : D → Prop
  | .list ds => ∃ xs, H a = some (.lst xs) ∧ Rps K H M ds xs
  | .dict kvs => ∃ ks, H a = some (.dK ks) ∧ Rpk K H M kvs ks
  | _ => False
/-- v may be read as d -/
def Rq (d : D) (v : V) : Prop := Rp K H M d v ∨ ∃ a, v = .ref a ∧ OwnAt K H M a d
end
section
variable {K : PySem.W.Frag} {H H' : Hp} {M M' : Addr → Prop}
abbrev Stays (H : Hp) (M : Addr → Prop) (H' : Hp) (M' : Addr → Prop) : Prop := ∀ a o, H a = some o → ¬ M a → H' a = some o ∧ ¬ M' a
theorem LsA.mono (h : Stays H M H' M') {a : Addr} {xs : List V} : LsA K H M a xs → LsA K H' M' a xs
  | .inr x => .inr x
  | .inl ⟨.inl e, n⟩ => .inl ⟨.inl (h a _ e n).1, (h a _ e n).2⟩
  | .inl ⟨.inr ⟨o, e⟩, n⟩ => .inl ⟨.inr ⟨o, (h a _ e n).1⟩, (h a _ e n).2⟩
theorem TpA.mono (h : Stays H M H' M') {a : Addr} {xs : List V} : TpA K H M a xs → TpA K H' M' a xs
  | .inr x => .inr x
  | .inl ⟨us, e, n⟩ => .inl ⟨us, (h a _ e n).1, (h a _ e n).2⟩
mutual
theorem Rp.mono (h : Stays H M H' M') : ∀ (d : D) (v : V), Rp K H M d v → Rp K H' M' d v
  | .none, v, x => by simpa [Rp] using x
  | .bool b, v, x => by simpa [Rp] using x
  | .int i, v, x => by simpa [Rp] using x
  | .str s, v, x => by simpa [Rp] using x
  | .list ds, v, x => by
    simp only [Rp] at x ⊢
    obtain ⟨a, xs, e, l, r⟩ := x
    exact ⟨a, xs, e, l.mono h, Rps.mono h ds xs r⟩
  | .tuple ds, v, x => by
    simp only [Rp] at x ⊢
    obtain ⟨a, xs, e, l, r⟩ := x
    exact ⟨a, xs, e, l.mono h, Rps.mono h ds xs r⟩
  | .dict kvs, v, x => by
    simp only [Rp] at x ⊢
    obtain ⟨a, ks, e, l, n, r⟩ := x
    exact ⟨a, ks, e, (h a _ l n).1, (h a _ l n).2, Rpk.mono h kvs ks r⟩
theorem Rps.mono (h : Stays H M H' M') : ∀ (ds : List D) (xs : List V), Rps K H M ds xs → Rps K H' M' ds xs
  | [], xs, x => by simpa [Rps] using x
  | d :: ds, xs, x => by
    simp only [Rps] at x ⊢
    obtain ⟨y, r, e, p, q⟩ := x
    exact ⟨y, r, e, Rp.mono h d y p, Rps.mono h ds r q⟩
theorem Rpk.mono (h : Stays H M H' M') : ∀ (kvs : List (D × D)) (ks : List (Key × V)), Rpk K H M kvs ks → Rpk K H' M' kvs ks
  | [], xs, x => by simpa [Rpk] using x
  | (k, d) :: r, xs, x => by
    simp only [Rpk] at x ⊢
    obtain ⟨q, y, t, e, p1, p2, p3⟩ := x
    exact ⟨q, y, t, e, Rp.mono h k _ p1, Rp.mono h d y p2, Rpk.mono h r t p3⟩
end
theorem OwnAt.mono (h : Stays H M H' M') {a : Addr} (e : H' a = H a) : ∀ {d : D}, OwnAt K H M a d → OwnAt K H' M' a d
  | .list ds, ⟨xs, l, r⟩ => ⟨xs, by rw [e]; exact l, Rps.mono h ds xs r⟩
  | .dict kvs, ⟨ks, l, r⟩ => ⟨ks, by rw [e]; exact l, Rpk.mono h kvs ks r⟩
  | .none, x => x.elim
  | .bool _, x => x.elim
  | .int _, x => x.elim
  | .str _, x => x.elim
  | .tuple _, x => x.elim
theorem OwnAt.there {a : Addr} : ∀ {d : D}, OwnAt K H M a d → ∃ o, H a = some o
  | .list ds, ⟨xs, l, r⟩ => ⟨_, l⟩
  | .dict kvs, ⟨ks, l, r⟩ => ⟨_, l⟩
  | .none, x => x.elim
  | .bool _, x => x.elim
  | .int _, x => x.elim
  | .str _, x => x.elim
  | .tuple _, x => x.elim
theorem Rps.length : ∀ {ds : List D} {xs : List V}, Rps K H M ds xs → xs.length = ds.length
  | [], xs, x => by simp only [Rps] at x; rw [x]; rfl
  | d :: ds, xs, x => by
    simp only [Rps] at x
    obtain ⟨y, r, e, p, q⟩ := x
    rw [e, List.length_cons, List.length_cons, Rps.length q]
theorem Rps.nil : Rps K H M [] [] := by simp [Rps]
theorem Rps.cons {d : D} {ds : List D} {x : V} {xs : List V} (p : Rp K H M d x) (q : Rps K H M ds xs) : Rps K H M (d :: ds) (x :: xs) := by
  simp only [Rps]; exact ⟨x, xs, rfl, p, q⟩
theorem Rps.uncons {d : D} {ds : List D} {xs : List V} (q : Rps K H M (d :: ds) xs) : ∃ x r, xs = x :: r ∧ Rp K H M d x ∧ Rps K H M ds r := by
  simpa only [Rps] using q
theorem Rps.get : ∀ {ds : List D} {xs : List V} {i : Nat} {d : D}, Rps K H M ds xs → ds[i]? = some d → ∃ x, xs[i]? = some x ∧ Rp K H M d x
  | [], _, _, _, _, e => by simp at e
  | d0 :: ds, xs, 0, d, q, e => by
    obtain ⟨x, r, rfl, p, _⟩ := q.uncons
    simp at e; subst e
    exact ⟨x, rfl, p⟩
  | d0 :: ds, xs, i + 1, d, q, e => by
    obtain ⟨x, r, rfl, _, q⟩ := q.uncons
    simp at e
    obtain ⟨y, e', p⟩ := Rps.get (i := i) q e
    exact ⟨y, by simpa using e', p⟩
theorem Rps.get' {ds : List D} {xs : List V} {i : Nat} {x : V} (q : Rps K H M ds xs) (e : xs[i]? = some x) : ∃ d, ds[i]? = some d ∧ Rp K H M d x := by
  have h : i < ds.length := by rw [← q.length]; exact (List.getElem?_eq_some_iff.mp e).1
  obtain ⟨y, e', p⟩ := q.get (List.getElem?_eq_getElem h)
  rw [e] at e'; cases e'
  exact ⟨_, List.getElem?_eq_getElem h, p⟩
theorem Rps.append : ∀ {ds es : List D} {xs ys : List V}, Rps K H M ds xs → Rps K H M es ys → Rps K H M (ds ++ es) (xs ++ ys)
  | [], _, xs, _, p, q => by simp only [Rps] at p; subst p; exact q
  | d :: ds, es, xs, ys, p, q => by
    obtain ⟨x, r, rfl, p1, p2⟩ := p.uncons
    exact Rps.cons p1 (Rps.append p2 q)
theorem Rps.take : ∀ {ds : List D} {xs : List V} (n : Nat), Rps K H M ds xs → Rps K H M (ds.take n) (xs.take n)
  | [], xs, n, p => by simp only [Rps] at p; subst p; simpa using Rps.nil
  | d :: ds, xs, 0, p => by simpa using Rps.nil
  | d :: ds, xs, n + 1, p => by
    obtain ⟨x, r, rfl, p1, p2⟩ := p.uncons
    exact Rps.cons p1 (Rps.take n p2)
theorem Rps.drop : ∀ {ds : List D} {xs : List V} (n : Nat), Rps K H M ds xs → Rps K H M (ds.drop n) (xs.drop n)
  | [], xs, n, p => by simp only [Rps] at p; subst p; simpa using Rps.nil
  | d :: ds, xs, 0, p => by simpa using p
  | d :: ds, xs, n + 1, p => by
    obtain ⟨x, r, rfl, p1, p2⟩ := p.uncons
    simpa using Rps.drop n p2
theorem Rps.reverse : ∀ {ds : List D} {xs : List V}, Rps K H M ds xs → Rps K H M ds.reverse xs.reverse
  | [], xs, p => by simp only [Rps] at p; subst p; exact Rps.nil
  | d :: ds, xs, p => by
    obtain ⟨x, r, rfl, p1, p2⟩ := p.uncons
    rw [List.reverse_cons, List.reverse_cons]
    exact (Rps.reverse p2).append (.cons p1 .nil)
theorem Rps.set : ∀ {ds : List D} {xs : List V} {d : D} {x : V} (i : Nat), Rp K H M d x → Rps K H M ds xs → Rps K H M (ds.set i d) (xs.set i x)
  | [], xs, _, _, _, _, p => by simp only [Rps] at p; subst p; exact Rps.nil
  | d0 :: ds, xs, _, _, 0, r, p => by
    obtain ⟨x, r', rfl, p1, p2⟩ := p.uncons
    exact Rps.cons r p2
  | d0 :: ds, xs, _, _, i + 1, r, p => by
    obtain ⟨x, r', rfl, p1, p2⟩ := p.uncons
    exact Rps.cons p1 (Rps.set i r p2)
theorem Rps.dropLast {ds : List D} {xs : List V} (p : Rps K H M ds xs) : Rps K H M ds.dropLast xs.dropLast := by
  rw [List.dropLast_eq_take, List.dropLast_eq_take, p.length]
  exact p.take _
theorem LsA.sq {a : Addr} {xs : List V} : LsA K H M a xs → SqL K H a xs
  | .inl ⟨h, _⟩ => .inl h
  | .inr (.inl h) => by rcases h with h | ⟨_, h⟩ <;> cases h
  | .inr (.inr h) => .inr h
theorem TpA.sq {a : Addr} {xs : List V} : TpA K H M a xs → SqT K H a xs
  | .inl ⟨us, h, _⟩ => .inl (.inr ⟨_, h⟩)
  | .inr ⟨o, its, n, h1, h2, _, h3, h4, h5⟩ => .inr ⟨o, its, n, h1, h2, h3, h4, h5⟩
/-- .. as long as it stands -/
theorem TpA.at {a : Addr} {xs : List V} (l : TpA K H M a xs) {H' : Hp} (h : ∀ a o, H a = some o → ¬ M a → H' a = some o) : SqT K H' a xs := by
  rcases l with ⟨us, l, n⟩ | l
  · exact .inl (.inr ⟨_, h a _ l n⟩)
  · exact TpA.sq (H := H') (M := M) (.inr l)
/-- a value, or a tuple of which the items alone are known -/
def RpY (K : PySem.W.Frag) (H : Hp) (M : Addr → Prop) (lo : Bool) (d : D) (v : V) : Prop := Rp K H M d v ∨ (lo = true ∧ ∃ ds a xs, d = .tuple ds ∧ v = .ref a ∧ SqT K H a xs ∧ Rps K H M ds xs)
theorem Rq.of {d : D} {v : V} (h : Rp K H M d v) : Rq K H M d v := .inl h
theorem Rq.list {ds : List D} {v : V} : Rq K H M (.list ds) v → ∃ a xs, v = .ref a ∧ SqL K H a xs ∧ Rps K H M ds xs
  | .inl h => by
    simp only [Rp] at h
    obtain ⟨a, xs, e, l, r⟩ := h
    exact ⟨a, xs, e, l.sq, r⟩
  | .inr ⟨a, e, xs, l, r⟩ => ⟨a, xs, e, .of l, r⟩
theorem Rp.tup {ds : List D} {v : V} (h : Rp K H M (.tuple ds) v) : ∃ a xs, v = .ref a ∧ TpA K H M a xs ∧ Rps K H M ds xs := by simpa only [Rp] using h
theorem Rp.lst {ds : List D} {v : V} (h : Rp K H M (.list ds) v) : ∃ a xs, v = .ref a ∧ LsA K H M a xs ∧ Rps K H M ds xs := by simpa only [Rp] using h
theorem Rq.tup {ds : List D} {v : V} : Rq K H M (.tuple ds) v → ∃ a xs, v = .ref a ∧ TpA K H M a xs ∧ Rps K H M ds xs
  | .inl h => h.tup
  | .inr ⟨_, _, h⟩ => h.elim
theorem Rq.none {v : V} : Rq K H M .none v → v = .non
  | .inl h => by simpa [Rp] using h
  | .inr ⟨_, _, h⟩ => h.elim
theorem Rq.bool {b : Bool} {v : V} : Rq K H M (.bool b) v → v = .bl b
  | .inl h => by simpa [Rp] using h
  | .inr ⟨_, _, h⟩ => h.elim
theorem Rq.int {b : Int} {v : V} : Rq K H M (.int b) v → v = .int b
  | .inl h => by simpa [Rp] using h
  | .inr ⟨_, _, h⟩ => h.elim
theorem Rq.str {b : Str} {v : V} : Rq K H M (.str b) v → v = .str b
  | .inl h => by simpa [Rp] using h
  | .inr ⟨_, _, h⟩ => h.elim
theorem Rq.dict {kvs : List (D × D)} {v : V} : Rq K H M (.dict kvs) v → ∃ a ks, v = .ref a ∧ H a = some (.dK ks) ∧ Rpk K H M kvs ks
  | .inl h => by
    simp only [Rp] at h
    obtain ⟨a, ks, e, l, n, r⟩ := h
    exact ⟨a, ks, e, l, r⟩
  | .inr ⟨a, e, ks, l, r⟩ => ⟨a, ks, e, l, r⟩
theorem rp_none : Rp K H M .none .non := by simp [Rp]
theorem rp_bool {b : Bool} : Rp K H M (.bool b) (.bl b) := by simp [Rp]
theorem rp_int {b : Int} : Rp K H M (.int b) (.int b) := by simp [Rp]
theorem rp_str {b : Str} : Rp K H M (.str b) (.str b) := by simp [Rp]
theorem rp_tup {ds : List D} {a : Addr} {xs : List V} (l : TpA K H M a xs) (r : Rps K H M ds xs) : Rp K H M (.tuple ds) (.ref a) := by
  simp only [Rp]; exact ⟨a, xs, rfl, l, r⟩
theorem rp_lst {ds : List D} {a : Addr} {xs : List V} (l : LsA K H M a xs) (r : Rps K H M ds xs) : Rp K H M (.list ds) (.ref a) := by
  simp only [Rp]; exact ⟨a, xs, rfl, l, r⟩
/-- a new tuple, a new list -/
theorem stays_new (hb : ∀ a, M a → ∃ o, H a = some o) {p : Addr} {o : HO} (hp : H p = .none) : Stays H M (upd H p o) M := fun a u e n => ⟨by rw [upd_ne (ne_of_none e hp)]; exact e, n⟩
theorem same_new {p : Addr} {o : HO} (hp : H p = .none) : Same H (upd H p o) := fun b u q => by rw [upd_ne (ne_of_none q hp)]; exact q
theorem notM (hb : ∀ a, M a → ∃ o, H a = some o) {p : Addr} (hp : H p = .none) : ¬ M p := fun h => by
  obtain ⟨o, e⟩ := hb p h
  rw [hp] at e; cases e
theorem rp_newT (hb : ∀ a, M a → ∃ o, H a = some o) {p : Addr} {us : Array Value} {ds : List D} {xs : List V} (hp : H p = .none) (r : Rps K H M ds xs) : Rp K (upd H p (.frz (tOb us) (.tup xs))) M (.tuple ds) (.ref p) :=
  rp_tup (.inl ⟨us, upd_same, notM hb hp⟩) (Rps.mono (stays_new hb hp) _ _ r)
/-- .. of which the items alone are known -/
theorem rp_newY (hb : ∀ a, M a → ∃ o, H a = some o) {p : Addr} {ds : List D} {xs : List V} (hp : H p = .none) (r : Rps K H M ds xs) : RpY K (upd H p (.tup xs)) M true (.tuple ds) (.ref p) :=
  .inr ⟨rfl, ds, p, xs, rfl, rfl, .of upd_same, Rps.mono (stays_new hb hp) _ _ r⟩
theorem rp_newL (hb : ∀ a, M a → ∃ o, H a = some o) {p : Addr} {ds : List D} {xs : List V} (hp : H p = .none) (r : Rps K H M ds xs) : Rp K (upd H p (.lst xs)) M (.list ds) (.ref p) :=
  rp_lst (.inl ⟨.inl upd_same, notM hb hp⟩) (Rps.mono (stays_new hb hp) _ _ r)
end

/-! ### environments -/
def Owner (ρ : Rho) (σ : St) (i : Nat) (a : Addr) : Prop := (∃ e : Ent, ρ[i]? = some e ∧ e.isOwn = true) ∧ σ[i]? = some (some (V.ref a))
def MM (B : Addr → Prop) (ρ : Rho) (σ : St) : Addr → Prop := fun a => B a ∨ ∃ i, Owner ρ σ i a
structure SR (K : PySem.W.Frag) (H : Hp) (B : Addr → Prop) (ρ : Rho) (σ : St) : Prop where
  len : ρ.length = σ.length
  val : ∀ (i : Nat) (d : D), ρ[i]? = some (Ent.val d) → ∃ v : V, σ[i]? = some (some v) ∧ Rp K H (MM B ρ σ) d v
  own : ∀ (i : Nat) (e : Ent) (d : D), ρ[i]? = some e → e.isOwn = true → e.got = some d → ∃ a : Addr, σ[i]? = some (some (V.ref a)) ∧ ¬ B a ∧ OwnAt K H (MM B ρ σ) a d
  inj : ∀ i j a, Owner ρ σ i a → Owner ρ σ j a → i = j
  bnd : ∀ a, B a → ∃ o, H a = some o
/-- a step from (ρ, σ, H) to (ρ', σ', H') -/
structure Kp (ρ : Rho) (σ : St) (H : Hp) (ρ' : Rho) (σ' : St) (H' : Hp) : Prop where
  keep : ∀ a o, H a = some o → (∀ i, ¬ Owner ρ σ i a) → H' a = some o
  new : ∀ (i : Nat) (a : Addr), Owner ρ' σ' i a → (∃ j, Owner ρ σ j a) ∨ H a = none
  there : ∀ a o, H a = some o → ∃ o', H' a = some o'
  io : ∀ (i : Nat) (d : D), ρ[i]? = some (Ent.io d) → σ'[i]? = σ[i]? ∧ ∃ d', ρ'[i]? = some (Ent.io d')
section
variable {K : PySem.W.Frag} {H H' H1 H2 : Hp} {B : Addr → Prop} {ρ ρ' ρ1 ρ2 : Rho} {σ σ' σ1 σ2 : St}
theorem Ent.got_of_own : ∀ {e : Ent}, e.isOwn = true → ∃ d, e.got = some d
  | .own d, _ => ⟨d, rfl⟩
  | .io d, _ => ⟨d, rfl⟩
  | .un, h => by cases h
  | .val _, h => by cases h
theorem SR.owner_there (S : SR K H B ρ σ) {i : Nat} {a : Addr} (h : Owner ρ σ i a) : ∃ o, H a = some o := by
  obtain ⟨⟨e, h1, h2⟩, h3⟩ := h
  obtain ⟨d, hd⟩ := Ent.got_of_own h2
  obtain ⟨a', h4, _, h5⟩ := S.own i e d h1 h2 hd
  rw [h3] at h4
  cases h4
  exact h5.there
theorem SR.mb (S : SR K H B ρ σ) : ∀ a, MM B ρ σ a → ∃ o, H a = some o := fun a h => h.elim (S.bnd a) fun ⟨_, q⟩ => S.owner_there q
theorem SR.notM (S : SR K H B ρ σ) {p : Addr} (hp : H p = none) : ¬ MM B ρ σ p := Ev.notM S.mb hp
theorem Kp.refl : Kp ρ σ H ρ σ H := ⟨fun _ _ h _ => h, fun i a h => .inl ⟨i, h⟩, fun _ o h => ⟨o, h⟩, fun i d h => ⟨rfl, d, h⟩⟩
theorem Kp.same (h : Same H H') : Kp ρ σ H ρ σ H' := ⟨fun a o e _ => h a o e, fun i a h => .inl ⟨i, h⟩, fun a o e => ⟨o, h a o e⟩, fun i d h => ⟨rfl, d, h⟩⟩
theorem Kp.trans (a : Kp ρ σ H ρ1 σ1 H1) (b : Kp ρ1 σ1 H1 ρ2 σ2 H2) : Kp ρ σ H ρ2 σ2 H2 where
  keep := fun c o e n => b.keep c o (a.keep c o e n) fun i h => (a.new i c h).elim (fun ⟨j, q⟩ => n j q) fun z => by rw [z] at e; cases e
  new := fun i c h => (b.new i c h).elim (fun ⟨j, q⟩ => a.new j c q) fun z => .inr (by
    cases q : H c with
    | none => rfl
    | some o => obtain ⟨o', e⟩ := a.there c o q; rw [z] at e; cases e)
  there := fun c o e => let ⟨o', e'⟩ := a.there c o e; b.there c o' e'
  io := fun i d h => by
    obtain ⟨h1, d1, h2⟩ := a.io i d h
    obtain ⟨h3, h4⟩ := b.io i d1 h2
    exact ⟨h3.trans h1, h4⟩
theorem Kp.stays (k : Kp ρ σ H ρ' σ' H') : Stays H (MM B ρ σ) H' (MM B ρ' σ') := fun a o e n =>
  ⟨k.keep a o e fun i h => n (.inr ⟨i, h⟩), fun h => h.elim (fun z => n (.inl z)) fun ⟨i, q⟩ => (k.new i a q).elim (fun ⟨j, z⟩ => n (.inr ⟨j, z⟩)) fun z => by rw [z] at e; cases e⟩
theorem Rp.kp {d : D} {v : V} (k : Kp ρ σ H ρ' σ' H') (h : Rp K H (MM B ρ σ) d v) : Rp K H' (MM B ρ' σ') d v := Rp.mono k.stays d v h
theorem Rps.kp {d : List D} {v : List V} (k : Kp ρ σ H ρ' σ' H') (h : Rps K H (MM B ρ σ) d v) : Rps K H' (MM B ρ' σ') d v := Rps.mono k.stays d v h
/-- new objects alone -/
theorem SR.same (S : SR K H B ρ σ) (h : Same H H') : SR K H' B ρ σ where
  len := S.len
  val := fun i d e => let ⟨v, e1, r⟩ := S.val i d e; ⟨v, e1, Rp.mono (Kp.same (ρ := ρ) (σ := σ) h).stays _ _ r⟩
  own := fun i en d e o g => by
    obtain ⟨a, e1, n, q⟩ := S.own i en d e o g
    obtain ⟨u, hu⟩ := q.there
    exact ⟨a, e1, n, q.mono (Kp.same (ρ := ρ) (σ := σ) h).stays (by rw [hu]; exact h a u hu)⟩
  inj := S.inj
  bnd := fun a b => let ⟨o, e⟩ := S.bnd a b; ⟨o, h a o e⟩
/-- a slot as it may be read -/
theorem SR.get (S : SR K H B ρ σ) {i : Nat} {e : Ent} {d : D} (h : ρ[i]? = some e) (g : e.got = some d) : ∃ v, σ[i]? = some (some v) ∧ Rq K H (MM B ρ σ) d v := by
  cases e with
  | un => cases g
  | val d0 => cases g; obtain ⟨v, h1, h2⟩ := S.val i d h; exact ⟨v, h1, .of h2⟩
  | own d0 => obtain ⟨a, h1, _, h2⟩ := S.own i _ d h rfl g; exact ⟨_, h1, .inr ⟨a, rfl, h2⟩⟩
  | io d0 => obtain ⟨a, h1, _, h2⟩ := S.own i _ d h rfl g; exact ⟨_, h1, .inr ⟨a, rfl, h2⟩⟩
theorem get_set {α : Type} {l : List α} {i j : Nat} {x y : α} (h : (l.set i x)[j]? = some y) : (i = j ∧ y = x ∧ i < l.length) ∨ (i ≠ j ∧ l[j]? = some y) := by
  by_cases e : i = j
  · subst e
    by_cases hl : i < l.length
    · rw [List.getElem?_set_self hl] at h; cases h; exact .inl ⟨rfl, rfl, hl⟩
    · rw [List.getElem?_eq_none (by simpa using hl)] at h; cases h
  · rw [List.getElem?_set_ne e] at h; exact .inr ⟨e, h⟩
theorem lt_of_get {α : Type} {l : List α} {i : Nat} {x : α} (h : l[i]? = some x) : i < l.length := (List.getElem?_eq_some_iff.mp h).1
/-- owners behind a change of slots -/
theorem owner_setVal {i j : Nat} {d : D} {w : Option V} {a : Addr} (h : Owner (ρ.set i (.val d)) (σ.set i w) j a) : i ≠ j ∧ Owner ρ σ j a := by
  obtain ⟨⟨e, h1, h2⟩, h3⟩ := h
  rcases get_set h1 with ⟨_, rfl, _⟩ | ⟨ne, h1⟩
  · cases h2
  · rw [List.getElem?_set_ne ne] at h3
    exact ⟨ne, ⟨e, h1, h2⟩, h3⟩
/-- a slot gets a value -/
theorem SR.setVal (S : SR K H B ρ σ) {i : Nat} {d : D} {v : V} (r : Rp K H (MM B ρ σ) d v) : SR K H B (ρ.set i (.val d)) (σ.set i (some v)) := by
  have st : Stays H (MM B ρ σ) H (MM B (ρ.set i (.val d)) (σ.set i (some v))) := fun a o e n => ⟨e, fun h => h.elim (fun z => n (.inl z)) fun ⟨j, q⟩ => n (.inr ⟨j, (owner_setVal q).2⟩)⟩
  refine ⟨by simp [S.len], fun j d' h => ?_, fun j e d' h o g => ?_, fun j k a h h' => S.inj j k a (owner_setVal h).2 (owner_setVal h').2, S.bnd⟩
  · rcases get_set h with ⟨rfl, e, hl⟩ | ⟨ne, h⟩
    · cases e
      exact ⟨v, by rw [List.getElem?_set_self (by rw [← S.len]; exact hl)], Rp.mono st _ _ r⟩
    · obtain ⟨w, h1, h2⟩ := S.val j d' h
      exact ⟨w, by rw [List.getElem?_set_ne ne]; exact h1, Rp.mono st _ _ h2⟩
  · rcases get_set h with ⟨rfl, e', hl⟩ | ⟨ne, h⟩
    · subst e'; cases o
    · obtain ⟨a, h1, h2, h3⟩ := S.own j e d' h o g
      exact ⟨a, by rw [List.getElem?_set_ne ne]; exact h1, h2, h3.mono st rfl⟩
theorem kp_setVal {i : Nat} {d : D} {w : Option V} (hio : ∀ d' : D, ρ[i]? ≠ some (Ent.io d')) : Kp ρ σ H (ρ.set i (.val d)) (σ.set i w) H := by
  refine ⟨fun _ _ h _ => h, fun j a h => .inl ⟨j, (owner_setVal h).2⟩, fun _ o h => ⟨o, h⟩, fun j d' h => ?_⟩
  have ne : i ≠ j := fun e => by subst e; exact hio d' h
  exact ⟨by rw [List.getElem?_set_ne ne], d', by rw [List.getElem?_set_ne ne]; exact h⟩
/-- a list of one's own is given away: from here on it never changes -/
theorem SR.freeze (S : SR K H B ρ σ) {i : Nat} {d : D} (h : ρ[i]? = some (.own d)) : ∃ v, σ[i]? = some (some v) ∧ SR K H B (ρ.set i (.val d)) σ ∧ Kp ρ σ H (ρ.set i (.val d)) σ H ∧ Rp K H (MM B (ρ.set i (.val d)) σ) d v := by
  obtain ⟨a, h1, h2, h3⟩ := S.own i _ d h rfl rfl
  have hself : σ.set i (some (.ref a)) = σ := by
    apply List.ext_getElem?
    intro j
    by_cases e : i = j
    · subst e; rw [List.getElem?_set_self (lt_of_get h1), h1]
    · rw [List.getElem?_set_ne e]
  have own : ∀ {j b}, Owner (ρ.set i (.val d)) σ j b → i ≠ j ∧ Owner ρ σ j b := fun {j b} q => owner_setVal (w := some (.ref a)) (by rw [hself]; exact q)
  have st : Stays H (MM B ρ σ) H (MM B (ρ.set i (.val d)) σ) := fun b o e n => ⟨e, fun h => h.elim (fun z => n (.inl z)) fun ⟨j, q⟩ => n (.inr ⟨j, (own q).2⟩)⟩
  have na : ¬ MM B (ρ.set i (.val d)) σ a := fun z => z.elim h2 fun ⟨j, q⟩ => (own q).1 (S.inj i j a ⟨⟨_, h, rfl⟩, h1⟩ (own q).2)
  have rp : Rp K H (MM B (ρ.set i (.val d)) σ) d (.ref a) := by
    cases d with
    | list ds =>
      obtain ⟨xs, e, r⟩ := h3
      exact rp_lst (.inl ⟨.inl e, na⟩) (Rps.mono st _ _ r)
    | dict kvs =>
      obtain ⟨ks, e, r⟩ := h3
      simp only [Rp]
      exact ⟨a, ks, rfl, e, na, Rpk.mono st _ _ r⟩
    | none => exact h3.elim
    | bool _ => exact h3.elim
    | int _ => exact h3.elim
    | str _ => exact h3.elim
    | tuple _ => exact h3.elim
  refine ⟨_, h1, ⟨by simp [S.len], fun j d' hj => ?_, fun j e d' hj o g => ?_, fun j k b q q' => S.inj j k b (own q).2 (own q').2, S.bnd⟩, ⟨fun _ _ h _ => h, fun j b q => .inl ⟨j, (own q).2⟩, fun _ o h => ⟨o, h⟩, fun j d' hj => ?_⟩, rp⟩
  · rcases get_set hj with ⟨rfl, e, hl⟩ | ⟨ne, hj⟩
    · cases e; exact ⟨_, h1, rp⟩
    · obtain ⟨w, e1, e2⟩ := S.val j d' hj
      exact ⟨w, e1, Rp.mono st _ _ e2⟩
  · rcases get_set hj with ⟨rfl, e', hl⟩ | ⟨ne, hj⟩
    · subst e'; cases o
    · obtain ⟨b, e1, e2, e3⟩ := S.own j e d' hj o g
      exact ⟨b, e1, e2, e3.mono st rfl⟩
  · have ne : i ≠ j := fun e => by subst e; rw [h] at hj; cases hj
    exact ⟨rfl, d', by rw [List.getElem?_set_ne ne]; exact hj⟩
/-- a new list of one's own -/
theorem SR.setOwn {a : Addr} (S : SR K H (fun b => B b ∨ b = a) ρ σ) {i : Nat} {d : D} (hB : ¬ B a) (hio : ∀ d' : D, ρ[i]? ≠ some (Ent.io d')) (q : OwnAt K H (MM (fun b => B b ∨ b = a) ρ σ) a d) :
    SR K H B (ρ.set i (.own d)) (σ.set i (some (.ref a))) := by
  have own : ∀ {j b}, Owner (ρ.set i (.own d)) (σ.set i (some (.ref a))) j b → (i = j ∧ b = a ∧ i < ρ.length) ∨ (i ≠ j ∧ Owner ρ σ j b) := fun {j b} ⟨⟨e, h1, h2⟩, h3⟩ => by
    rcases get_set h1 with ⟨rfl, rfl, hl⟩ | ⟨ne, h1⟩
    · rw [List.getElem?_set_self (by rw [← S.len]; exact hl)] at h3; cases h3; exact .inl ⟨rfl, rfl, hl⟩
    · rw [List.getElem?_set_ne ne] at h3; exact .inr ⟨ne, ⟨e, h1, h2⟩, h3⟩
  have nown : ∀ {j b}, Owner ρ σ j b → b ≠ a := fun {j b} h z => by
    obtain ⟨⟨e, h1, h2⟩, h3⟩ := h
    obtain ⟨d', hd⟩ := Ent.got_of_own h2
    obtain ⟨b', e1, e2, _⟩ := S.own j e d' h1 h2 hd
    rw [h3] at e1; cases e1
    exact e2 (.inr z)
  have st : Stays H (MM (fun b => B b ∨ b = a) ρ σ) H (MM B (ρ.set i (.own d)) (σ.set i (some (.ref a)))) := fun b o e n => ⟨e, fun h => h.elim (fun z => n (.inl (.inl z))) fun ⟨j, q⟩ => (own q).elim (fun z => n (.inl (.inr z.2.1))) fun z => n (.inr ⟨j, z.2⟩)⟩
  refine ⟨by simp [S.len], fun j d' h => ?_, fun j e d' h o g => ?_, fun j k b h h' => ?_, fun b hb => S.bnd b (.inl hb)⟩
  · rcases get_set h with ⟨rfl, e, hl⟩ | ⟨ne, h⟩
    · cases e
    · obtain ⟨w, h1, h2⟩ := S.val j d' h
      exact ⟨w, by rw [List.getElem?_set_ne ne]; exact h1, Rp.mono st _ _ h2⟩
  · rcases get_set h with ⟨rfl, e', hl⟩ | ⟨ne, h⟩
    · subst e'
      cases g
      exact ⟨a, by rw [List.getElem?_set_self (by rw [← S.len]; exact hl)], hB, q.mono st rfl⟩
    · obtain ⟨b, h1, h2, h3⟩ := S.own j e d' h o g
      exact ⟨b, by rw [List.getElem?_set_ne ne]; exact h1, fun z => h2 (.inl z), h3.mono st rfl⟩
  · rcases own h with ⟨e1, e2, _⟩ | ⟨ne, h⟩
    · rcases own h' with ⟨e1', _, _⟩ | ⟨ne', h'⟩
      · exact e1.symm.trans e1'
      · exact absurd e2 (nown h')
    · rcases own h' with ⟨_, e2', _⟩ | ⟨ne', h'⟩
      · exact absurd e2' (nown h)
      · exact S.inj j k b h h'
theorem kp_setOwn {a : Addr} {i : Nat} {d : D} (hio : ∀ d' : D, ρ[i]? ≠ some (Ent.io d')) (hn : H a = none) (k : Kp ρ σ H ρ σ H') : Kp ρ σ H (ρ.set i (.own d)) (σ.set i (some (.ref a))) H' := by
  refine ⟨k.keep, fun j b ⟨⟨e, h1, h2⟩, h3⟩ => ?_, k.there, fun j d' h => ?_⟩
  · rcases get_set h1 with ⟨rfl, rfl, hl⟩ | ⟨ne, h1⟩
    · by_cases hs : i < σ.length
      · rw [List.getElem?_set_self hs] at h3; cases h3; exact .inr hn
      · rw [List.getElem?_eq_none (by simpa using hs)] at h3; cases h3
    · rw [List.getElem?_set_ne ne] at h3; exact .inl ⟨j, ⟨e, h1, h2⟩, h3⟩
  · have ne : i ≠ j := fun e => by subst e; exact hio d' h
    exact ⟨by rw [List.getElem?_set_ne ne], d', by rw [List.getElem?_set_ne ne]; exact h⟩
/-- the addresses that others hold, weaker -/
theorem SR.weakB {B' : Addr → Prop} (S : SR K H B ρ σ) (h : ∀ a, B' a → B a) : SR K H B' ρ σ := by
  have st : Stays H (MM B ρ σ) H (MM B' ρ σ) := fun b o e n => ⟨e, fun z => n (z.imp (h b) id)⟩
  exact ⟨S.len, fun i d e => let ⟨v, e1, r⟩ := S.val i d e; ⟨v, e1, Rp.mono st _ _ r⟩, fun i en d e o g => let ⟨a, e1, n, q⟩ := S.own i en d e o g; ⟨a, e1, fun z => n (h a z), q.mono st rfl⟩, S.inj, fun a b => S.bnd a (h a b)⟩
/-- a new object, protected -/
theorem SR.newB {a : Addr} {o : HO} (S : SR K H B ρ σ) (hn : H a = none) : SR K (upd H a o) (fun b => B b ∨ b = a) ρ σ := by
  have st : Stays H (MM B ρ σ) (upd H a o) (MM (fun b => B b ∨ b = a) ρ σ) := fun b u e n =>
    ⟨by rw [upd_ne (ne_of_none e hn)]; exact e, fun z => z.elim (fun z => z.elim (fun z => n (.inl z)) fun z => ne_of_none e hn z) fun q => n (.inr q)⟩
  refine ⟨S.len, fun i d e => let ⟨v, e1, r⟩ := S.val i d e; ⟨v, e1, Rp.mono st _ _ r⟩, fun i en d e o' g => ?_, S.inj, fun b hb => ?_⟩
  · obtain ⟨b, e1, n, q⟩ := S.own i en d e o' g
    obtain ⟨u, hu⟩ := q.there
    exact ⟨b, e1, fun z => z.elim n fun z => ne_of_none hu hn z, q.mono st (by rw [upd_ne (ne_of_none hu hn)])⟩
  · rcases hb with hb | rfl
    · obtain ⟨u, e⟩ := S.bnd b hb
      exact ⟨u, by rw [upd_ne (ne_of_none e hn)]; exact e⟩
    · exact ⟨o, upd_same⟩
/-- a list of one's own is changed, and whatever is new -/
theorem SR.change (S : SR K H B ρ σ) {i : Nat} {e e' : Ent} {d' : D} {a : Addr} (h : ρ[i]? = some e) (ho : e.isOwn = true) (ha : σ[i]? = some (some (.ref a))) (ho' : e'.isOwn = true) (hio : (∃ d, e = .io d) → ∃ d, e' = .io d) (g : e'.got = some d')
    (hk : ∀ b u, H b = some u → b ≠ a → H' b = some u) (ht : ∃ u, H' a = some u)
    (q : ∀ M, (∀ b, M b ↔ MM B ρ σ b) → Stays H (MM B ρ σ) H' M → OwnAt K H' M a d') : SR K H' B (ρ.set i e') σ ∧ Kp ρ σ H (ρ.set i e') σ H' := by
  have own : ∀ {j b}, Owner (ρ.set i e') σ j b → Owner ρ σ j b := fun {j b} ⟨⟨u, h1, h2⟩, h3⟩ => by
    rcases get_set h1 with ⟨rfl, rfl, hl⟩ | ⟨ne, h1⟩
    · exact ⟨⟨e, h, ho⟩, h3⟩
    · exact ⟨⟨u, h1, h2⟩, h3⟩
  have oa : Owner ρ σ i a := ⟨⟨e, h, ho⟩, ha⟩
  have st : Stays H (MM B ρ σ) H' (MM B (ρ.set i e') σ) := fun b u hb n =>
    ⟨hk b u hb (fun z => n (.inr ⟨i, by rw [z]; exact oa⟩)), fun z => z.elim (fun z => n (.inl z)) fun ⟨j, z⟩ => n (.inr ⟨j, own z⟩)⟩
  obtain ⟨d0, g0⟩ := Ent.got_of_own ho
  obtain ⟨a', ha', nB, _⟩ := S.own i e d0 h ho g0
  rw [ha] at ha'; cases ha'
  have there : ∀ b u, H b = some u → ∃ u', H' b = some u' := fun b u hb => by
    by_cases z : b = a
    · subst z; exact ht
    · exact ⟨u, hk b u hb z⟩
  refine ⟨⟨by simp [S.len], fun j d hj => ?_, fun j u d hj o' g' => ?_, fun j k b x y => S.inj j k b (own x) (own y), fun b hb => ?_⟩, ⟨fun b u hb n => ?_, fun j b x => .inl ⟨j, own x⟩, there, fun j d hj => ⟨rfl, ?_⟩⟩⟩
  · rcases get_set hj with ⟨rfl, eq, hl⟩ | ⟨ne, hj⟩
    · subst eq; cases ho'
    · obtain ⟨v, e1, r⟩ := S.val j d hj
      exact ⟨v, e1, Rp.mono st _ _ r⟩
  · rcases get_set hj with ⟨rfl, eq, hl⟩ | ⟨ne, hj⟩
    · subst eq
      rw [g] at g'; cases g'
      refine ⟨a, ha, nB, q _ (fun b => ⟨fun z => z.imp id fun ⟨j, z⟩ => ⟨j, own z⟩, fun z => z.imp id fun ⟨j, ⟨u, hu, hu2⟩, hb⟩ => ?_⟩) st⟩
      by_cases ji : i = j
      · subst ji
        exact ⟨i, ⟨_, List.getElem?_set_self (lt_of_get h), ho'⟩, hb⟩
      · exact ⟨j, ⟨u, by rw [List.getElem?_set_ne ji]; exact hu, hu2⟩, hb⟩
    · obtain ⟨b, e1, e2, e3⟩ := S.own j u d hj o' g'
      have nb : b ≠ a := fun z => ne (S.inj i j a oa (by rw [← z]; exact ⟨⟨u, hj, o'⟩, e1⟩))
      obtain ⟨w, hw⟩ := e3.there
      exact ⟨b, e1, e2, e3.mono st (by rw [hw]; exact hk b w hw nb)⟩
  · obtain ⟨u, e1⟩ := S.bnd b hb
    exact there b u e1
  · exact hk b u hb (fun z => n i (by rw [z]; exact oa))
  · by_cases ne : i = j
    · subst ne
      rw [h] at hj
      obtain ⟨d2, z⟩ := hio ⟨d, Option.some.inj hj⟩
      exact ⟨d2, by rw [List.getElem?_set_self (lt_of_get h), z]⟩
    · exact ⟨d, by rw [List.getElem?_set_ne ne]; exact hj⟩
/-- a list of one's own is written -/
theorem SR.write (S : SR K H B ρ σ) {i : Nat} {e e' : Ent} {d' : D} {a : Addr} {o : HO} (h : ρ[i]? = some e) (ho : e.isOwn = true) (ha : σ[i]? = some (some (.ref a))) (ho' : e'.isOwn = true) (hio : (∃ d, e = .io d) → ∃ d, e' = .io d) (g : e'.got = some d')
    (q : ∀ M, Stays H (MM B ρ σ) (upd H a o) M → OwnAt K (upd H a o) M a d') : SR K (upd H a o) B (ρ.set i e') σ ∧ Kp ρ σ H (ρ.set i e') σ (upd H a o) :=
  S.change h ho ha ho' hio g (fun b u hb z => by rw [upd_ne z]; exact hb) ⟨o, upd_same⟩ fun M _ => q M
end
end Ev

set_option Elab.async false
set_option linter.all false
set_option maxRecDepth 100000
/-! Ev0t: tuples are made: with the object as it stands. -/
namespace L2
open PySem PySem.Spec PyProof.Rows HT Ev
section
variable {X : Cx} {pins : List (Addr × Obj)} {σ : St} {H : Hp} {s : Shared}
theorem Inv.laidT (I : Inv X pins σ H s) {xs : List V} {its : List Value} (rv : Vals xs its) (hz : xs.length ≤ sizeLine) (t' : Nat) : Inv X pins σ (upd H s.heap.objs.size (.frz (tOb its.toArray) (.tup xs))) { s with heap := s.heap.push (tOb its.toArray), toks := t' } :=
  I.laid (t' := t') (o := .frz (tOb its.toArray) (.tup xs)) (fun b o e => Heap.get?_push_of_some _ e) (Nat.le_refl _) ⟨Heap.get?_push_size _ rfl, hz, its, rv, IsTup.new _ _⟩
/-- a new tuple -/
def NewT (H : Hp) (xs : List V) (Q : VK) : Prop := ∀ p us, H p = none → Q (.ref p) (upd H p (.frz (tOb us) (.tup xs)))
theorem NewT.end_ (I : Inv X pins σ H s) {xs : List V} {its : List Value} (rv : Vals xs its) (hz : xs.length ≤ sizeLine) {Q : VK} (q : NewT H xs Q) (t' : Nat) : EP X pins σ Q (.ref s.heap.objs.size) { s with heap := s.heap.push (tOb its.toArray), toks := t' } :=
  ⟨.ref s.heap.objs.size, _, I.laidT rv hz t', rfl, q _ _ (I.hok.fresh (Nat.le_refl _))⟩
variable {pos : Pos}
def tTupF (t : TA) : TE := fun σ H Q => t σ H fun xs H1 => xs.length ≤ sizeLine ∧ NewT H1 xs Q
theorem pe_tupF {es : List Expr} {t : TA} {k : Nat} (h : PA X es t) : PE X (.Tuple es k pos) (tTupF t) :=
  ⟨fun pins s σ H Q I hq => wpAny_Tuple_spliced (thn (h.run pos pins s σ H _ I hq) fun us s1 ⟨xs, H1, I1, r, z, q⟩ => ⟨by rw [← r.length]; exact z, q.end_ I1 r z s1.toks⟩)⟩
def rCatF (K : PySem.W.Frag) : R2 := fun x y H Q => ∃ a b xs ys, x = .ref a ∧ y = .ref b ∧ SqT K H a xs ∧ SqT K H b ys ∧ xs.length + ys.length ≤ sizeLine ∧ (xs = [] → Q (.ref b) H) ∧ (xs ≠ [] → ys = [] → Q (.ref a) H) ∧ (xs ≠ [] → ys ≠ [] → NewT H (xs ++ ys) Q)
theorem op_catF : OpR X (binaryOp .Add) (rCatF X.K) := by
  intro pins s σ H x y v u Q I rx ry ⟨a, b, xs, ys, e1, e2, ha, hb, hz, q0, q1, q2⟩
  subst e1 e2
  by_cases hx : xs = []
  · exact op_catA pins s σ H _ _ v u Q I rx ry ⟨a, b, xs, ys, rfl, rfl, ha, hb, hz, q0, fun z => absurd hx z, fun z => absurd hx z⟩
  by_cases hy : ys = []
  · exact op_catA pins s σ H _ _ v u Q I rx ry ⟨a, b, xs, ys, rfl, rfl, ha, hb, hz, q0, q1, fun _ z => absurd hy z⟩
  cases rx
  cases ry
  obtain ⟨its, r1, p1, _⟩ := I.tuple ha
  obtain ⟨its2, r2, p2, _⟩ := I.tuple hb
  exact HT.cat_tup p1 p2 (fun z => hx (r1.nil_iff.mp z)) (fun z => absurd (r2.nil_iff.mp z) hy) (fun z => (q2 hx hy).end_ I (r1.append r2) (by rw [List.length_append]; exact hz) s.toks) (by rw [← r1.length, ← r2.length]; exact hz)
theorem call_tupleF : CallR X (.type "tuple") (fun xs H Q => ∃ p ys, xs = [.ref p] ∧ SqL X.K H p ys ∧ NewT H ys Q) := by
  intro pins s σ H xs us Q I r ⟨p, ys, e, hq, q⟩
  subst e
  obtain ⟨u, rfl, rx⟩ := vals1 r
  cases rx
  obtain ⟨its, r', pl, hz⟩ := I.list hq
  have hlen := r'.length
  refine call_tuple_list pl.isList (fun g kp => ?_) (by simp only [List.size_toArray] <;> omega)
  have I1 : Inv X pins σ H { s with heap := g } := I.kept (t' := s.toks) kp
  exact q.end_ I1 r' hz s.toks
def rSlF (K : PySem.W.Frag) : V → Option Int → Option Int → Hp → VK → Prop := fun x lo hi H Q => ∃ a xs, x = .ref a ∧ SqT K H a xs ∧
  (sIx xs.length 0 lo = 0 ∧ sIx xs.length xs.length hi = xs.length → Q (.ref a) H) ∧ (¬ (sIx xs.length 0 lo = 0 ∧ sIx xs.length xs.length hi = xs.length) → NewT H (cutV xs lo hi) Q)
theorem sl_tupF : SlR X (rSlF X.K) := by
  intro pins s σ H x v vl vu lo hi sl Q I rx hs pl pu ⟨a, xs, e, hx, q1, q2⟩
  subst e
  by_cases hw : sIx xs.length 0 lo = 0 ∧ sIx xs.length xs.length hi = xs.length
  · exact sl_tupA pins s σ H _ v vl vu lo hi sl Q I rx hs pl pu ⟨a, xs, rfl, hx, q1, fun z => absurd hw z⟩
  cases rx
  obtain ⟨its, r, ht, hz⟩ := I.tuple hx
  have hlen : its.toArray.size = xs.length := by rw [List.size_toArray]; exact r.length.symm
  refine ⟨"tuple", _, slot_tuple_getitem.lookup, ht.typeIs, HT.getItem_tuple_cut ht hs pl pu (by rw [hlen]; exact hw) ?_ (by rw [hlen]; exact hz)⟩
  rw [hlen]
  exact (q2 hw).end_ I ((r.drop (sIx xs.length 0 lo)).take (sIx xs.length xs.length hi - sIx xs.length 0 lo)) (Nat.le_trans (cutV_length xs lo hi) hz) s.toks
def tTupRevF (K : PySem.W.Frag) (te : TE) : TE := fun σ H Q => te σ H fun x H1 => ∃ a xs, x = .ref a ∧ SqL K H1 a xs ∧ NewT H1 xs.reverse Q
theorem pe_tupRevF {e : Expr} {te : TE} {p p2 pos2 : Pos} (hc : X.calm = true) (hg : Gl X "tuple") (hm : X.mg "tuple" = none) (hg2 : Gl X "reversed") (hm2 : X.mg "reversed" = none) (he : PE X e te)
    (hs : starEach [e] X.env = (false, eval e X.env) :: starEach [] X.env)
    (hs2 : starEach [.Call (.Name "reversed" p2) [e] [] pos2] X.env = (false, eval (.Call (.Name "reversed" p2) [e] [] pos2) X.env) :: starEach [] X.env) :
    PE X (.Call (.Name "tuple" p) [.Call (.Name "reversed" p2) [e] [] pos2] [] pos) (tTupRevF X.K te) := by
  refine ⟨fun pins s σ H Q I h => Call_ (ld_blt I hg hm boot_tuple (callWith_type1 (args_cons (Call_ (ld_blt I hg2 hm2 boot_reversed (callWith_type1 (args_cons (thn (he.run pins s σ H _ I h) fun u s1 ⟨v, H1, I1, r1, a, xs, ev, hq, q⟩ => args_nil ?_) hs) hs rfl))) hs2) hs2 rfl))⟩
  subst ev
  cases r1
  obtain ⟨its, rv, p', hz⟩ := I1.list hq
  refine call_reversed_list p'.isList (args_nil ?_)
  have I2 : Inv X pins σ H1 { s1 with heap := s1.heap.push (revObj a ((its.toArray.size : Int) - 1)) } := I1.kept (t' := s1.toks) fun b o e => Heap.get?_push_of_some _ e
  obtain ⟨f0, f1, f2, f3, f4, f5⟩ := I1.fpOk (H' := H1) (b := s1.heap.objs.size) (Nat.le_refl _) (I1.hok.fresh (Nat.le_refl _))
  obtain ⟨ol, hol, _⟩ := id p'.isList
  refine RT.call_tuple_rev (s := { s1 with heap := s1.heap.push (revObj a ((its.toArray.size : Int) - 1)) }) (I1.ok.hd hc) ⟨_, Heap.get?_push_size _ rfl, rfl, rfl⟩ (p'.isList.push _) (Nat.ne_of_lt (Heap.lt_size hol)) (by rw [List.size_toArray, ← rv.length]; exact hz) fun g tk acc hk hi => ?_
  have I3 : Inv X pins σ H1 { s1 with heap := g, toks := tk } := I2.turned (t' := tk) (fun b o hb e => hk b o hb e) f0 f1 f3 f4 f5
  have w := q.end_ I3 (its := acc.toList) (RT.vals_rev rv hi) (by rw [List.length_reverse]; exact hz) tk
  rw [Array.toArray_toList] at w
  exact w
end
end L2

set_option Elab.async false
set_option linter.all false
set_option maxRecDepth 100000
/-! Ev1: a small language over pure data, and what its terms are worth. -/
namespace Ev
open PySem L2

/-- an error of the program's own: which class, with which arguments -/
structure Exn where
  cls : Nat
  args : List D
/-- how a part of an expression ends -/
inductive R (α : Type) where
  | ok (a : α) (ρ : Rho) | ex (x : Exn) (ρ : Rho) | no
@[simp] def R.bind {α β : Type} (r : R α) (f : α → Rho → R β) : R β := match r with
  | .ok a ρ => f a ρ | .ex x ρ => .ex x ρ | .no => .no
@[simp] def R.lift {α : Type} (o : Option α) (ρ : Rho) : R α := match o with
  | some a => .ok a ρ | none => .no
/-- how statements end -/
inductive SRes where
  | nx (ρ : Rho) | rt (e : Ent) (ρ : Rho) | bk (ρ : Rho) | ct (ρ : Rho) | ex (x : Exn) (ρ : Rho) | no
/-- how a call ends: its value, what its first parameter's list has become -/
inductive CRes where
  | ok (e : Ent) (o : Option D) | ex (x : Exn) (o : Option D) | no

inductive Bop where | add | sub | mul | fdiv | mod
  deriving DecidableEq
inductive Cop where | eq | ne | lt | le | gt | ge | in_ | nin
  deriving DecidableEq
inductive Ty where | int | bool | str | tuple | list | dict
  deriving DecidableEq
inductive P1 where | len | tuple | list | int | abs | sum | max | min | any | all | sorted | repr | str | tupRev | setLen | lrange
  deriving DecidableEq
inductive P2 where | max | min | lrange
  deriving DecidableEq
inductive M1 where | count | index
  deriving DecidableEq
inductive Tgt where | one (i : Nat) | tup (is : List Nat)

mutual
inductive E where
  | v (i : Nat)
  | k (d : D)
  | g (d : D)
  | tup (es : Es)
  | lst (es : Es)
  | bin (o : Bop) (a b : E)
  | cmp (o : Cop) (a b : E)
  | chn (o o' : Cop) (a b c : E)
  | chn3 (o o' o'' : Cop) (a b c d : E)
  | and_ (es : Es)
  | or_ (es : Es)
  | not_ (a : E)
  | neg (a : E)
  | isN (a : E)
  | notN (a : E)
  | ite (c a b : E)
  | idx (a b : E)
  | slc (a : E) (lo hi : Oe)
  | rev (a : E)
  | call (f : Nat) (es : Es)
  | callp (f : Nat) (i : Nat) (es : Es)
  | callo (f : Nat) (es : Es)
  | p1 (p : P1) (a : E)
  | p2 (p : P2) (a b : E)
  | isi (a : E) (t : Ty)
  | m1 (m : M1) (a b : E)
  | popv (i : Nat)
  | popi (i : Nat) (e : E)
  | m1t (m : M1) (a b : E)
  | comp (own : List Nat) (elt : E) (t : Tgt) (it : It) (c : Oe)
  | comp2 (own : List Nat) (elt : E) (t : Tgt) (it : It) (c : Oe) (own1 : List Nat) (t1 : Tgt) (it1 : It) (c1 : Oe)
  | dct (kvs : List (D × D))
  | disp (ks : List (D × Nat)) (e a : E)
  | inK (neg : Bool) (ks : List D) (e : E)
inductive Es where
  | nil | cons (e : E) (r : Es)
inductive Oe where
  | no | yes (e : E)
inductive It where
  | ov (e : E) | rng1 (a : E) | rng2 (a b : E) | rng3 (a b c : E) | zip (a b : E) | rvs (a : E)
end
mutual
inductive S where
  | asg (i : Nat) (e : E)
  | new (i : Nat) (e : E)
  | asgT (is : List Nat) (e : E)
  | par (is : List Nat) (es : Es)
  | aug (i : Nat) (o : Bop) (e : E)
  | sub (i : Nat) (k e : E)
  | app (i : Nat) (e : E)
  | ext (i : Nat) (e : E)
  | popS (i : Nat)
  | drop (e : E)
  | ret (e : E)
  | retO (e : E)
  | retN
  | if_ (c : E) (a b : Ss)
  | for_ (t : Tgt) (it : It) (b : Ss)
  | while_ (c : E) (b : Ss)
  | brk
  | pass
  | swap (i : Nat) (a b : E) (es : Es)
  | raise (c : Nat) (es : Es)
  | tryR (b : Ss) (d : D)
  | asub (i : Nat) (o : Bop) (k e : E)
  | tryA (b : Ss) (i : Nat) (n : Int)
  | fgt (is : List Nat)
inductive Ss where
  | nil | cons (s : S) (r : Ss)
end
structure Fn where
  params : Nat
  names : List Str
  io : Bool
  body : Ss

/-! ### operators on data -/
def toInts : List D → Option (List Int)
  | [] => some []
  | .int i :: r => (toInts r).map (i :: ·)
  | _ :: _ => none
def toBools : List D → Option (List Bool)
  | [] => some []
  | .bool i :: r => (toBools r).map (i :: ·)
  | _ :: _ => none
def cutD (xs : List D) (lo hi : Option Int) : List D := (xs.drop (HT.sIx xs.length 0 lo)).take (HT.sIx xs.length xs.length hi - HT.sIx xs.length 0 lo)
@[irreducible] def mulOk (a b : Int) : Bool := (decide (-(2 ^ 64) < a) && decide (a < 2 ^ 64)) || (decide (-(2 ^ 64) < b) && decide (b < 2 ^ 64))
@[irreducible] def mulL (k : Int) (n : Nat) : Bool := decide (-(2 ^ 63) ≤ k) && decide (k < 2 ^ 63) && decide (n * k.toNat ≤ sizeLine)
@[irreducible] def mulT (k : Int) (n : Nat) : Bool := decide (-(2 ^ 63) ≤ k) && decide (k ≤ 1000) && decide (n ≤ 1000)
@[irreducible] def divOk (b : Int) : Bool := decide (b < 2 ^ 200)
def binF : Bop → D → D → Option D
  | .add, .int a, .int b => some (.int (a + b))
  | .add, .tuple a, .tuple b => if a.length + b.length ≤ sizeLine then some (.tuple (a ++ b)) else none
  | .add, .list a, .list b => if a.length + b.length ≤ sizeLine then some (.list (a ++ b)) else none
  | .add, .str a, .str b => if a.length + b.length ≤ sizeLine then some (.str (a ++ b)) else none
  | .sub, .int a, .int b => some (.int (a - b))
  | .mul, .int a, .int b => if mulOk a b = true then some (.int (a * b)) else none
  | .mul, .list a, .int k => if mulL k a.length = true then some (.list (List.replicate k.toNat a).flatten) else none
  | .mul, .tuple a, .int k => if mulT k a.length = true then some (.tuple (List.replicate k.toNat a).flatten) else none
  | .fdiv, .int a, .int b => if decide (0 < b) && (decide (b < 1073741824) || divOk b) then some (.int (a / b)) else none
  | .mod, .int a, .int b => if 0 < b then some (.int (a % b)) else none
  | _, _, _ => none
/-- in place, of what is never changed -/
def augF : Bop → D → D → Option D
  | .add, .int a, .int b => some (.int (a + b))
  | .add, .tuple a, .tuple b => if a.length + b.length ≤ sizeLine then some (.tuple (a ++ b)) else none
  | .add, .str a, .str b => if a.length + b.length ≤ sizeLine then some (.str (a ++ b)) else none
  | .sub, .int a, .int b => some (.int (a - b))
  | .mul, .int a, .int b => if mulOk a b = true then some (.int (a * b)) else none
  | _, _, _ => none
/-! what stands as a key in a dict of the module: a word, or a tuple of words -/
def keyL : List D → Option (List Str)
  | [] => some []
  | .str s :: r => (keyL r).map (s :: ·)
  | _ :: _ => none
def keyD : D → Option (Bool × List Str)
  | .str s => some (false, [s])
  | .tuple ds => (keyL ds).map (true, ·)
  | _ => none
def dispF (ks : List (D × Nat)) (x : D) : Option Nat := match keyD x with
  | some k => (ks.find? fun p => decide (keyD p.1 = some k)).map (·.2)
  | none => none
def inKF (neg : Bool) (ks : List D) (x : D) : Option D := match keyD x with
  | some k => if (ks.all fun d => decide ((keyD d).map (·.1) = some k.1)) = true then some (.bool (xor neg (ks.any fun d => decide (keyD d = some k)))) else none
  | none => none
def shp (d : D) : Bool := SeqAt.shaped d
def cmpEq (a b : D) : Option Bool := match a, b with
  | .int a, .int b => some (decide (a = b))
  | a, b => if shp a && shp b then some (PyData.eqv a b) else none
def cmpLex (f : List Int → List Int → Bool) (a b : List D) : Option Bool := match toInts a, toInts b with
  | some x, some y => some (f x y)
  | _, _ => none
def lexLeq : List Int → List Int → Bool
  | [], _ => true
  | _ :: _, [] => false
  | x :: xs, y :: ys => if x = y then lexLeq xs ys else decide (x < y)
def inD (x : D) (ds : List D) : Option Bool := if shp x && shp (.list ds) then some (ds.any fun z => PyData.eqv z x) else none
def cmpF : Cop → D → D → Option Bool
  | .eq, a, b => cmpEq a b
  | .ne, a, b => (cmpEq a b).map (!·)
  | .lt, .int a, .int b => some (decide (a < b))
  | .le, .int a, .int b => some (decide (a ≤ b))
  | .gt, .int a, .int b => some (decide (b < a))
  | .ge, .int a, .int b => some (decide (b ≤ a))
  | .lt, .tuple a, .tuple b => cmpLex HT.lexLt a b
  | .gt, .tuple a, .tuple b => cmpLex (fun x y => HT.lexLt y x) a b
  | .le, .tuple a, .tuple b => cmpLex lexLeq a b
  | .ge, .tuple a, .tuple b => cmpLex (fun x y => lexLeq y x) a b
  | .in_, x, .list ds => inD x ds
  | .in_, x, .tuple ds => inD x ds
  | .nin, x, .list ds => (inD x ds).map (!·)
  | .nin, x, .tuple ds => (inD x ds).map (!·)
  | _, _, _ => none
def isTy : D → Ty → Bool
  | .int _, .int => true | .bool _, .int => true | .bool _, .bool => true | .str _, .str => true | .tuple _, .tuple => true | .list _, .list => true | .dict _, .dict => true
  | _, _ => false
def isNoneD : D → Bool
  | .none => true
  | _ => false
def maxI : List Int → Int
  | [] => 0
  | x :: xs => xs.foldl max x
def minI : List Int → Int
  | [] => 0
  | x :: xs => xs.foldl min x
def seqOf : D → Option (List D)
  | .list ds => some ds
  | .tuple ds => some ds
  | _ => none
def dLe : D → D → Bool := PySem.W.dataLe false id
/-- what may be sorted: ints alone, or tuples of ints (none of them empty) -/
def rowOk : D → Bool
  | .tuple (d :: ds) => (toInts (d :: ds)).isSome
  | _ => false
def sortOk (ds : List D) : Bool := match ds with
  | [] => true
  | [_] => true
  | _ => (toInts ds).isSome || ds.all rowOk
def shownD (d : D) : Option D := if shp d && d.showable && !d.hasDict && decide (d.depth ≤ 60) && decide (d.shown.length ≤ sizeLine) then some (.str d.shown) else none
@[irreducible] def lrOk (j : Int) : Bool := decide (-(2 ^ 62) ≤ j) && decide (j < 100000)
def p1F : P1 → D → Option D
  | .lrange, .int j => if lrOk j = true then some (.list ((List.range j.toNat).map fun i => .int ((i : Nat) : Int))) else none
  | .len, .list ds => some (.int ds.length)
  | .len, .tuple ds => some (.int ds.length)
  | .len, .str z => if z.length ≤ sizeLine then some (.int z.length) else none
  | .tuple, .list ds => some (.tuple ds)
  | .tuple, .tuple ds => some (.tuple ds)
  | .list, .list ds => some (.list ds)
  | .list, .tuple ds => some (.list ds)
  | .int, .int i => some (.int i)
  | .int, .bool b => some (.int (if b then 1 else 0))
  | .abs, .int i => some (.int i.natAbs)
  | .sum, .list ds => (toInts ds).map fun ns => .int ns.sum
  | .max, .list ds => (toInts ds).bind fun ns => if ns = [] then none else some (.int (maxI ns))
  | .min, .list ds => (toInts ds).bind fun ns => if ns = [] then none else some (.int (minI ns))
  | .sum, .tuple ds => (toInts ds).map fun ns => .int ns.sum
  | .max, .tuple ds => (toInts ds).bind fun ns => if ns = [] then none else some (.int (maxI ns))
  | .min, .tuple ds => (toInts ds).bind fun ns => if ns = [] then none else some (.int (minI ns))
  | .any, .list ds => (toBools ds).map fun bs => .bool (bs.any id)
  | .all, .list ds => (toBools ds).map fun bs => .bool (bs.all id)
  | .tupRev, .list ds => some (.tuple ds.reverse)
  | .setLen, .tuple ds => (toInts ds).bind fun ns => if ns.length ≤ 1000 then some (.int ns.eraseDups.length) else none
  | .repr, .tuple ds => shownD (.tuple ds)
  | .repr, .list ds => shownD (.list ds)
  | .sorted, .list ds => if sortOk ds && decide (ds.length ≤ sizeLine) then some (.list (ds.mergeSort dLe)) else none
  | _, _ => none
def p2F : P2 → D → D → Option D
  | .max, .int a, .int b => some (.int (if a < b then b else a))
  | .min, .int a, .int b => some (.int (if b < a then b else a))
  | .lrange, .int a, .int b => if lrOk a && lrOk b && lrOk (b - a) then some (.list ((List.range (b - a).toNat).map fun i => .int (a + ((i : Nat) : Int)))) else none
  | _, _, _ => none
def m1F : M1 → D → D → Option D
  | .count, .list ds, .int x => (toInts ds).map fun ns => .int (ns.count x : Nat)
  | .count, .tuple ds, .int x => (toInts ds).map fun ns => .int (ns.count x : Nat)
  | .index, .list ds, .int x => (toInts ds).bind fun ns => if x ∈ ns then some (.int (ns.idxOf x : Nat)) else none
  | .index, .tuple ds, .int x => (toInts ds).bind fun ns => if x ∈ ns then some (.int (ns.idxOf x : Nat)) else none
  | _, _, _ => none
/-- what is taken out at a place -/
def popAt (ds : List D) (k : D) : Option (D × List D) := match k with
  | .int n => if -(2 ^ 62) ≤ n ∧ n < 2 ^ 62 then (ixN ds.length n).bind fun j => (ds[j]?).map fun d => (d, ds.eraseIdx j) else none
  | _ => none
def idxF : D → D → Option D
  | .list ds, .int i => atI ds i
  | .tuple ds, .int i => atI ds i
  | .str z, .int i => if z.length ≤ sizeLine then (atI z.cps.toList i).map fun c => .str ⟨#[c]⟩ else none
  | _, _ => none
def slcF (lo hi : Option Int) : D → Option D
  | .list ds => some (.list (cutD ds lo hi))
  | .tuple ds => some (.tuple (cutD ds lo hi))
  | .str z => if z.length ≤ sizeLine then some (.str (cutS z lo hi)) else none
  | _ => none
def revF : D → Option D
  | .list ds => some (.list ds.reverse)
  | .tuple ds => some (.tuple ds.reverse)
  | _ => none
def rngD (lo : Int) (n : Nat) : List D := (List.range n).map fun i => .int (lo + (i : Nat))
@[irreducible] def rOk1 (j : Int) : Bool := decide (-(2 ^ 62) ≤ j) && decide (j < 2 ^ 62)
@[irreducible] def rOk2 (i j : Int) : Bool := decide (-(2 ^ 62) ≤ i) && decide (i < 2 ^ 62) && decide (-(2 ^ 62) ≤ j) && decide (j < 2 ^ 62)
@[irreducible] def rOk3 (i j c : Int) : Bool := decide (c = -1) && decide (-(2 ^ 61) ≤ i) && decide (i < 2 ^ 61) && decide (-(2 ^ 61) ≤ j) && decide (j < 2 ^ 61) && decide ((i - j).toNat < 2 ^ 30)
def rngF1 : D → Option (List D)
  | .int j => if rOk1 j = true then some (rngD 0 j.toNat) else none
  | _ => none
def rngF2 : D → D → Option (List D)
  | .int i, .int j => if rOk2 i j = true then some (rngD i (j - i).toNat) else none
  | _, _ => none
/-- range(i, j, -1) -/
def rngF3 : D → D → D → Option (List D)
  | .int i, .int j, .int c => if rOk3 i j c = true then some ((List.range (i - j).toNat).map fun n => .int (i - (n : Nat))) else none
  | _, _, _ => none
def zipF : D → D → Option (List D)
  | .list a, .list b => some ((a.zip b).map fun p => .tuple [p.1, p.2])
  | .tuple a, .tuple b => some ((a.zip b).map fun p => .tuple [p.1, p.2])
  | _, _ => none

/-- what may be one's own: a list, a dict -/
def ownable : D → Bool
  | .list _ => true
  | .dict _ => true
  | _ => false

/-! ### slots -/
def Rho.at (ρ : Rho) (i : Nat) : Option D := (ρ[i]?).bind Ent.got
/-- the value of a slot, given away -/
def Rho.take (ρ : Rho) (i : Nat) : R D := match ρ[i]? with
  | some (.val d) => .ok d ρ
  | some (.own d) => .ok d (ρ.set i (.val d))
  | _ => .no
def Rho.put (ρ : Rho) (i : Nat) (e : Ent) : Option Rho := match ρ[i]? with
  | some (.io _) => none
  | some _ => some (ρ.set i e)
  | none => none
/-- what an own list becomes -/
def Rho.upd (ρ : Rho) (i : Nat) (d : D) : Option Rho := match ρ[i]? with
  | some (.own _) => some (ρ.set i (.own d))
  | some (.io _) => some (ρ.set i (.io d))
  | _ => none
/-- a list of one's own: what it holds -/
def Rho.mine (ρ : Rho) (i : Nat) : Option (List D) := match ρ[i]? with
  | some (.own (.list ds)) => some ds
  | some (.io (.list ds)) => some ds
  | _ => none
def putAll : List Nat → List D → Rho → Option Rho
  | [], [], ρ => some ρ
  | i :: is, d :: ds, ρ => (ρ.put i (.val d)).bind (putAll is ds)
  | _, _, _ => none
def Tgt.set : Tgt → D → Rho → Option Rho
  | .one i, d, ρ => ρ.put i (.val d)
  | .tup is, .tuple ds, ρ => putAll is ds ρ
  | .tup is, .list ds, ρ => putAll is ds ρ
  | .tup _, _, _ => none
def wipeR (ρ : Rho) : List Nat → Rho
  | [] => ρ
  | v :: vs => (wipeR ρ vs).set v .un
/-- the slots of a block's own names as they were ahead of it -/
def backR (ρ0 ρ : Rho) : List Nat → Rho
  | [] => ρ
  | v :: vs => (backR ρ0 ρ vs).set v ((ρ0[v]?).getD .un)
/-- slots that nobody looks at any more -/
def fgtR (ρ : Rho) : List Nat → Option Rho
  | [] => some ρ
  | i :: is => match ρ[i]? with
    | some (.io _) => none
    | _ => fgtR (ρ.set i .un) is
/-- none of them holds a list of one's own -/
def plainAt (ρ : Rho) (vs : List Nat) : Bool := vs.all fun v => match ρ[v]? with
  | some (.val _) => true | some .un => true | _ => false

/-- an operand: a slot that is read when the operation is done, or a value -/
inductive Pnd where
  | at (i : Nat) | got (d : D)
def Pnd.get (p : Pnd) (ρ : Rho) : Option D := match p with
  | .at i => ρ.at i
  | .got d => some d
def asB : D → Option Bool
  | .bool b => some b
  | _ => none
def R.noEx {α : Type} : R α → R α
  | .ex _ _ => .no
  | r => r
def wipeO (ρ : Rho) (own : List Nat) : Option Rho := if plainAt ρ own = true then some (wipeR ρ own) else none
/-- a comprehension's turns: what each gives, joined -/
def loopC (own : List Nat) (t : Tgt) (c : Rho → R Bool) (b : Rho → R (List D)) : List D → Rho → R (List D)
  | [], ρ => R.lift ((wipeO ρ own).map fun _ => []) (wipeR ρ own)
  | x :: xs, ρ => match (wipeO ρ own).bind (t.set x) with
    | none => .no
    | some ρ1 => (c ρ1).noEx.bind fun ok ρ2 => match ok with
      | true => (b ρ2).noEx.bind fun ys ρ3 => (loopC own t c b xs ρ3).bind fun zs ρ4 => .ok (ys ++ zs) ρ4
      | false => loopC own t c b xs ρ2
def compC (own : List Nat) (t : Tgt) (c : Rho → R Bool) (b : Rho → R (List D)) (xs : List D) (ρ : Rho) : R (List D) :=
  if plainAt ρ own = true then (loopC own t c b xs (wipeR ρ own)).bind fun zs ρ' => if zs.length ≤ sizeLine then .ok zs (backR ρ ρ' own) else .no else .no
def loopF (t : Tgt) (b : Rho → SRes) : List D → Rho → SRes
  | [], ρ => .nx ρ
  | x :: xs, ρ => match t.set x ρ with
    | none => .no
    | some ρ1 => match b ρ1 with
      | .nx ρ2 => loopF t b xs ρ2
      | .ct ρ2 => loopF t b xs ρ2
      | .bk ρ2 => .nx ρ2
      | .rt e ρ2 => .rt e ρ2
      | .ex x ρ2 => .ex x ρ2
      | .no => .no
@[simp] def R.sb {α : Type} (r : R α) (f : α → Rho → SRes) : SRes := match r with
  | .ok a ρ => f a ρ | .ex x ρ => .ex x ρ | .no => .no
@[simp] def SRes.nb (r : SRes) (f : Rho → SRes) : SRes := match r with
  | .nx ρ => f ρ | .rt e ρ => .rt e ρ | .bk ρ => .bk ρ | .ct ρ => .ct ρ | .ex x ρ => .ex x ρ | .no => .no
/-- a place of a list of one's own is written -/
def storeAt (i : Nat) (k y : D) (ρ : Rho) : SRes := match k with
  | .int n => (match (ρ.mine i).bind fun ds => (ixN ds.length n).bind fun j => ρ.upd i (.list (ds.set j y)) with | some ρ' => .nx ρ' | none => .no)
  | _ => .no
def loopW (c : Rho → R Bool) (b : Rho → SRes) : Nat → Rho → SRes
  | 0, _ => .no
  | n + 1, ρ => match c ρ with
    | .ok false ρ1 => .nx ρ1
    | .ok true ρ1 => match b ρ1 with
      | .nx ρ2 => loopW c b n ρ2
      | .ct ρ2 => loopW c b n ρ2
      | .bk ρ2 => .nx ρ2
      | .rt e ρ2 => .rt e ρ2
      | .ex x ρ2 => .ex x ρ2
      | .no => .no
    | .ex x ρ1 => .ex x ρ1
    | .no => .no
def CRes.valO (r : CRes) (ρ : Rho) : R D := match r with
  | .ok (.own d) _ => if ownable d = true then .ok d ρ else .no
  | .ex x _ => .ex x ρ
  | _ => .no
/-- the answer of a call, at the caller's -/
def CRes.val (r : CRes) (ρ : Rho) : R D := match r with
  | .ok (.val d) _ => .ok d ρ
  | .ex x _ => .ex x ρ
  | _ => .no
def CRes.valp (r : CRes) (i : Nat) (ρ : Rho) : R D := match r with
  | .ok (.val d) (some o) => R.lift ((ρ.upd i o).map fun ρ' => (d, ρ')) ρ |>.bind fun p _ => .ok p.1 p.2
  | .ex x (some o) => match ρ.upd i o with
    | some ρ' => .ex x ρ'
    | none => .no
  | _ => .no
def two (o : D → D → Option D) (p q : Pnd) (ρ : Rho) : R D := R.lift ((p.get ρ).bind fun a => (q.get ρ).bind fun b => o a b) ρ
def one (o : D → Option D) (p : Pnd) (ρ : Rho) : R D := R.lift ((p.get ρ).bind o) ρ
/-- an operand: a name is looked up when the operation is done -/
def opd (e : E) (r : Rho → R D) (ρ : Rho) : R Pnd := match e with
  | .v i => match ρ.at i with
    | some _ => .ok (.at i) ρ
    | none => .no
  | _ => (r ρ).bind fun d ρ => .ok (.got d) ρ
def oInt : D → Option Int
  | .int i => some i
  | _ => none
def wFuel : Nat := 1000000

section
variable (cl : Nat → List Ent → CRes)
mutual
def ev : E → Rho → R D
  | .v i, ρ => ρ.take i
  | .k d, ρ => .ok d ρ
  | .g d, ρ => .ok d ρ
  | .tup es, ρ => (evs es ρ).bind fun ds ρ => if ds.length ≤ sizeLine then .ok (.tuple ds) ρ else .no
  | .lst es, ρ => (evs es ρ).bind fun ds ρ => if ds.length ≤ sizeLine then .ok (.list ds) ρ else .no
  | .bin o a b, ρ => (opd a (ev a) ρ).bind fun p ρ => (opd b (ev b) ρ).bind fun q ρ => two (binF o) p q ρ
  | .cmp o a b, ρ => (opd a (ev a) ρ).bind fun p ρ => (opd b (ev b) ρ).bind fun q ρ => two (fun x y => (cmpF o x y).map .bool) p q ρ
  | .chn o o' a b c, ρ => (opd a (ev a) ρ).bind fun p ρ => (opd b (ev b) ρ).bind fun q ρ => (two (fun x y => (cmpF o x y).map .bool) p q ρ).bind fun z ρ => match z with
    | .bool true => (opd c (ev c) ρ).bind fun r ρ => two (fun x y => (cmpF o' x y).map .bool) q r ρ
    | .bool false => .ok (.bool false) ρ
    | _ => .no
  | .chn3 o o' o'' a b c d, ρ => (opd a (ev a) ρ).bind fun p ρ => (opd b (ev b) ρ).bind fun q ρ => (two (fun x y => (cmpF o x y).map .bool) p q ρ).bind fun z ρ => match z with
    | .bool true => (opd c (ev c) ρ).bind fun r ρ => (two (fun x y => (cmpF o' x y).map .bool) q r ρ).bind fun z ρ => match z with
      | .bool true => (opd d (ev d) ρ).bind fun r' ρ => two (fun x y => (cmpF o'' x y).map .bool) r r' ρ
      | .bool false => .ok (.bool false) ρ
      | _ => .no
    | .bool false => .ok (.bool false) ρ
    | _ => .no
  | .and_ es, ρ => evAnd es ρ
  | .or_ es, ρ => evOr es ρ
  | .not_ a, ρ => (ev a ρ).bind fun x ρ => match x with
    | .bool b => .ok (.bool (!b)) ρ
    | _ => .no
  | .neg a, ρ => (ev a ρ).bind fun x ρ => match x with
    | .int i => .ok (.int (-i)) ρ
    | _ => .no
  | .isN a, ρ => (opd a (ev a) ρ).bind fun p ρ => one (fun x => some (.bool (isNoneD x))) p ρ
  | .notN a, ρ => (opd a (ev a) ρ).bind fun p ρ => one (fun x => some (.bool (!isNoneD x))) p ρ
  | .ite c a b, ρ => (ev c ρ).bind fun x ρ => match x with
    | .bool true => ev a ρ
    | .bool false => ev b ρ
    | _ => .no
  | .idx a b, ρ => (opd a (ev a) ρ).bind fun p ρ => (opd b (ev b) ρ).bind fun q ρ => two idxF p q ρ
  | .slc a lo hi, ρ => (opd a (ev a) ρ).bind fun p ρ => (evI lo ρ).bind fun l ρ => (evI hi ρ).bind fun h ρ => one (slcF l h) p ρ
  | .rev a, ρ => (opd a (ev a) ρ).bind fun p ρ => one revF p ρ
  | .call f es, ρ => (evs es ρ).bind fun ds ρ => (cl f (ds.map .val)).val ρ
  | .callp f i es, ρ => match ρ.at i with
    | none => .no
    | some _ => (evs es ρ).bind fun ds ρ => match ρ.mine i with
      | some d => (cl f (.io (.list d) :: ds.map .val)).valp i ρ
      | none => .no
  | .callo f es, ρ => (evs es ρ).bind fun ds ρ => (cl f (ds.map .val)).valO ρ
  | .p1 o a, ρ => (opd a (ev a) ρ).bind fun p ρ => one (p1F o) p ρ
  | .p2 o a b, ρ => (opd a (ev a) ρ).bind fun p ρ => (opd b (ev b) ρ).bind fun q ρ => two (p2F o) p q ρ
  | .isi a t, ρ => (opd a (ev a) ρ).bind fun p ρ => one (fun x => some (.bool (isTy x t))) p ρ
  | .m1 o a b, ρ => (ev a ρ).bind fun x ρ => match x with
    | .list ds => (ev b ρ).bind fun y ρ => R.lift (m1F o (.list ds) y) ρ
    | _ => .no
  | .m1t o a b, ρ => (ev a ρ).bind fun x ρ => match x with
    | .tuple ds => (ev b ρ).bind fun y ρ => R.lift (m1F o (.tuple ds) y) ρ
    | _ => .no
  | .popi i e, ρ => match ρ.mine i with
    | none => .no
    | some _ => (ev e ρ).bind fun x ρ => (R.lift ((ρ.mine i).bind fun ds => (popAt ds x).bind fun p => (ρ.upd i (.list p.2)).map fun ρ' => (p.1, ρ')) ρ).bind fun p _ => .ok p.1 p.2
  | .popv i, ρ => match ρ.mine i with
    | some ds => (match ds.getLast? with
      | some d => R.lift ((ρ.upd i (.list ds.dropLast)).map fun ρ' => (d, ρ')) ρ |>.bind fun p _ => .ok p.1 p.2
      | none => .no)
    | none => .no
  | .comp own e t it c, ρ => (evit it ρ).bind fun xs ρ => (compC own t (evc c) (fun ρ => (ev e ρ).bind fun d ρ => .ok [d] ρ) xs ρ).bind fun zs ρ => .ok (.list zs) ρ
  | .comp2 own e t it c own1 t1 it1 c1, ρ => (evit it ρ).bind fun xs ρ => (compC own t (evc c) (fun ρ => (evit it1 ρ).bind fun ys ρ => loopC own1 t1 (evc c1) (fun ρ => (ev e ρ).bind fun d ρ => .ok [d] ρ) ys ρ) xs ρ).bind fun zs ρ => .ok (.list zs) ρ
  | .dct kvs, ρ => .ok (.dict kvs) ρ
  | .inK neg ks e, ρ => (ev e ρ).bind fun x ρ => R.lift (inKF neg ks x) ρ
  | .disp ks e a, ρ => (ev e ρ).bind fun x ρ => match dispF ks x with
    | some f => (ev a ρ).bind fun y ρ => (cl f [.val y]).val ρ
    | none => .no
def evs : Es → Rho → R (List D)
  | .nil, ρ => .ok [] ρ
  | .cons e r, ρ => (ev e ρ).bind fun d ρ => (evs r ρ).bind fun ds ρ => .ok (d :: ds) ρ
def evAnd : Es → Rho → R D
  | .nil, _ => .no
  | .cons e .nil, ρ => ev e ρ
  | .cons e (.cons e' r), ρ => (ev e ρ).bind fun x ρ => match x with
    | .bool true => evAnd (.cons e' r) ρ
    | .bool false => .ok (.bool false) ρ
    | _ => .no
def evOr : Es → Rho → R D
  | .nil, _ => .no
  | .cons e .nil, ρ => ev e ρ
  | .cons e (.cons e' r), ρ => (ev e ρ).bind fun x ρ => match x with
    | .bool true => .ok (.bool true) ρ
    | .bool false => evOr (.cons e' r) ρ
    | _ => .no
/-- an optional test: none is true -/
def evc : Oe → Rho → R Bool
  | .no, ρ => .ok true ρ
  | .yes e, ρ => (ev e ρ).bind fun x ρ => R.lift (asB x) ρ
/-- an optional int -/
def evI : Oe → Rho → R (Option Int)
  | .no, ρ => .ok none ρ
  | .yes e, ρ => (ev e ρ).bind fun x ρ => R.lift ((oInt x).map some) ρ
/-- what is walked -/
def evit : It → Rho → R (List D)
  | .ov e, ρ => (ev e ρ).bind fun d ρ => R.lift (seqOf d) ρ
  | .rng1 a, ρ => (ev a ρ).bind fun x ρ => R.lift (rngF1 x) ρ
  | .rng2 a b, ρ => (ev a ρ).bind fun x ρ => (ev b ρ).bind fun y ρ => R.lift (rngF2 x y) ρ
  | .rng3 a b c, ρ => (ev a ρ).bind fun x ρ => (ev b ρ).bind fun y ρ => (ev c ρ).bind fun z ρ => R.lift (rngF3 x y z) ρ
  | .zip a b, ρ => (ev a ρ).bind fun x ρ => (ev b ρ).bind fun y ρ => R.lift (zipF x y) ρ
  | .rvs a, ρ => (ev a ρ).bind fun x ρ => R.lift ((seqOf x).map List.reverse) ρ
end
/-- a test -/
def evT (e : E) (ρ : Rho) : R Bool := (ev cl e ρ).bind fun x ρ => R.lift (asB x) ρ
mutual
def evS : S → Rho → SRes
  | .asg i e, ρ => (ev cl e ρ).sb fun d ρ => match ρ.put i (.val d) with | some ρ' => .nx ρ' | none => .no
  | .new i e, ρ => (ev cl e ρ).sb fun d ρ => if ownable d = true then (match ρ.put i (.own d) with | some ρ' => .nx ρ' | none => .no) else .no
  | .asgT is e, ρ => (ev cl e ρ).sb fun d ρ => match (Tgt.tup is).set d ρ with | some ρ' => .nx ρ' | none => .no
  | .par is es, ρ => (evs cl es ρ).sb fun ds ρ => match putAll is ds ρ with | some ρ' => .nx ρ' | none => .no
  | .aug i o e, ρ => match ρ.at i with
    | none => .no
    | some _ => (ev cl e ρ).sb fun y ρ => match (ρ.at i).bind fun x => augF o x y with
      | some d => (match ρ[i]? with
        | some (.val _) => .nx (ρ.set i (.val d))
        | _ => .no)
      | none => .no
  | .sub i k e, ρ => match ρ.mine i with
    | none => .no
    | some _ => (ev cl e ρ).sb fun y ρ => (ev cl k ρ).sb fun x ρ => storeAt i x y ρ
  | .app i e, ρ => match ρ.mine i with
    | none => .no
    | some _ => (ev cl e ρ).sb fun y ρ => match (ρ.mine i).bind fun ds => if ds.length < sizeLine then ρ.upd i (.list (ds ++ [y])) else none with | some ρ' => .nx ρ' | none => .no
  | .ext i e, ρ => match ρ.mine i with
    | none => .no
    | some _ => (ev cl e ρ).sb fun y ρ => match y with
      | .list ys => (match (ρ.mine i).bind fun ds => if ds.length + ys.length ≤ sizeLine then ρ.upd i (.list (ds ++ ys)) else none with | some ρ' => .nx ρ' | none => .no)
      | _ => .no
  | .popS i, ρ => match (ρ.mine i).bind fun ds => if ds = [] then none else ρ.upd i (.list ds.dropLast) with | some ρ' => .nx ρ' | none => .no
  | .drop e, ρ => (ev cl e ρ).sb fun _ ρ => .nx ρ
  | .ret e, ρ => (ev cl e ρ).sb fun d ρ => .rt (.val d) ρ
  | .retO e, ρ => (ev cl e ρ).sb fun d ρ => if ownable d = true then .rt (.own d) ρ else .no
  | .retN, ρ => .rt (.val .none) ρ
  | .if_ c a b, ρ => (evT cl c ρ).sb fun k ρ => match k with
    | true => evSs a ρ
    | false => evSs b ρ
  | .for_ t it b, ρ => (evit cl it ρ).sb fun xs ρ => loopF t (evSs b) xs ρ
  | .while_ c b, ρ => loopW (evT cl c) (evSs b) wFuel ρ
  | .brk, ρ => .bk ρ
  | .pass, ρ => .nx ρ
  | .raise c es, ρ => (evs cl es ρ).sb fun ds ρ => if c = 0 ∧ ds.length ≤ sizeLine then .ex ⟨0, []⟩ ρ else .no
  | .tryR b d, ρ => match evSs b ρ with
    | .ex x ρ' => if x.cls = 0 then .rt (.val d) ρ' else .no
    | r => r
  | .fgt is, ρ => match fgtR ρ is with | some ρ' => .nx ρ' | none => .no
  | .asub i o k e, ρ => match ρ.mine i with
    | none => .no
    | some _ => (ev cl k ρ).sb fun x ρ => match (ρ.mine i).bind fun ds => idxF (.list ds) x with
      | none => .no
      | some old => (ev cl e ρ).sb fun y ρ => match augF o old y with
        | none => .no
        | some z => storeAt i x z ρ
  | .tryA b i n, ρ => match evSs b ρ with
    | .ex x ρ' => if x.cls = 0 then (match ρ'.at i with
      | some (.int m) => (match ρ'.put i (.val (.int (m + n))) with | some ρ2 => .nx ρ2 | none => .no)
      | _ => .no) else .no
    | r => r
  | .swap i a b es, ρ => match ρ.mine i with
    | none => .no
    | some _ => (ev cl (.tup es) ρ).sb fun d ρ => match d with
      | .tuple [x, y] => (ev cl a ρ).sb fun n ρ => (storeAt i n x ρ).nb fun ρ => match ρ.mine i with
        | none => .no
        | some _ => (ev cl b ρ).sb fun m ρ => storeAt i m y ρ
      | _ => .no
def evSs : Ss → Rho → SRes
  | .nil, ρ => .nx ρ
  | .cons s r, ρ => (evS s ρ).nb fun ρ => evSs r ρ
end
end
def ioOf (ρ : Rho) (io : Bool) : Option D := match io, ρ with
  | true, .io d :: _ => some d
  | _, _ => none
/-- what a caller may hand over: values, and ahead of them a list of its own -/
def argsOk (io : Bool) (args : List Ent) : Bool := match io, args with
  | true, .io _ :: r => r.all fun e => match e with | .val _ => true | _ => false
  | false, r => r.all fun e => match e with | .val _ => true | _ => false
  | _, _ => false
def callF (tb : Nat → Option Fn) : Nat → Nat → List Ent → CRes
  | 0, _, _ => .no
  | n + 1, f, args => match tb f with
    | none => .no
    | some fn => if args.length = fn.params ∧ argsOk fn.io args = true then
        match evSs (callF tb n) fn.body (args ++ List.replicate (fn.names.length - fn.params) .un) with
        | .nx ρ => .ok (.val .none) (ioOf ρ fn.io)
        | .rt e ρ => .ok e (ioOf ρ fn.io)
        | .ex x ρ => .ex x (ioOf ρ fn.io)
        | _ => .no
      else .no
end Ev

set_option Elab.async false
set_option linter.all false
set_option maxRecDepth 100000
/-! Ev2: readings by the evaluator; expressions. -/
namespace Ev
open PySem L2
/-- no exception -/
def Ew : WX := fun _ _ _ _ => False

section
variable (K : PySem.W.Frag) (XR : Hp → (Addr → Prop) → Exn → Value → Option Addr → Prop) (Ek : WX)
/-- what must hold of a result's answers -/
def Pst {α β : Type} (Rel : St → Hp → (Addr → Prop) → α → β → Prop) (B : Addr → Prop) (ρ : Rho) (σ : St) (H : Hp) (r : R α) (Q : β → Hp → Prop) : Prop := match r with
  | .ok a ρ' => ∀ b H', SR K H' B ρ' σ → Kp ρ σ H ρ' σ H' → Rel σ H' (MM B ρ' σ) a b → Q b H'
  | .ex x ρ' => ∀ c d H', SR K H' B ρ' σ → Kp ρ σ H ρ' σ H' → XR H' (MM B ρ' σ) x c d → Ek c d σ H'
  | .no => False
def rdG {α β : Type} (Rel : St → Hp → (Addr → Prop) → α → β → Prop) (f : Rho → R α) : St → Hp → (β → Hp → Prop) → Prop := fun σ H Q => ∃ B ρ, SR K H B ρ σ ∧ Pst K XR Ek Rel B ρ σ H (f ρ) Q
def RelE : St → Hp → (Addr → Prop) → D → V → Prop := fun _ H M d v => Rp K H M d v
def RelS : St → Hp → (Addr → Prop) → List D → List V → Prop := fun _ H M d v => Rps K H M d v
def RelP : St → Hp → (Addr → Prop) → Pnd → V → Prop := fun σ H M p v => match p with
  | .at i => σ[i]? = some (some v)
  | .got d => Rp K H M d v
def RelB : St → Hp → (Addr → Prop) → Bool → Bool → Prop := fun _ _ _ a b => a = b
def RelI : St → Hp → (Addr → Prop) → Option Int → Option Int → Prop := fun _ _ _ a b => a = b
abbrev rdE (f : Rho → R D) : TE := rdG K XR Ek (RelE K) f
abbrev rdO (f : Rho → R Pnd) : TE := rdG K XR Ek (RelP K) f
abbrev rdT (f : Rho → R Bool) : TT := rdG K XR Ek RelB f
abbrev rdA (f : Rho → R (List D)) : TA := rdG K XR Ek (RelS K) f
/-- .. of a new list -/
def PstF (B : Addr → Prop) (ρ : Rho) (σ : St) (H : Hp) (r : R D) (Q : VK) : Prop := match r with
  | .ok d ρ' => ownable d = true ∧ ∀ a H', SR K H' (fun b => B b ∨ b = a) ρ' σ → Kp ρ σ H ρ' σ H' → H a = none → OwnAt K H' (MM (fun b => B b ∨ b = a) ρ' σ) a d → Q (.ref a) H'
  | .ex x ρ' => ∀ c d H', SR K H' B ρ' σ → Kp ρ σ H ρ' σ H' → XR H' (MM B ρ' σ) x c d → Ek c d σ H'
  | .no => False
def rdF (f : Rho → R D) : TE := fun σ H Q => ∃ B ρ, SR K H B ρ σ ∧ PstF K XR Ek B ρ σ H (f ρ) Q
end
section
variable {K : PySem.W.Frag} {XR : Hp → (Addr → Prop) → Exn → Value → Option Addr → Prop} {Ek : WX} {α β γ δ : Type} {Rel : St → Hp → (Addr → Prop) → α → β → Prop} {RelC : St → Hp → (Addr → Prop) → γ → δ → Prop}
variable {B : Addr → Prop} {ρ ρ1 ρ2 : Rho} {σ : St} {H H1 H2 : Hp}
theorem Pst.shift {r : R α} {Q : β → Hp → Prop} (k : Kp ρ σ H ρ1 σ H1) (h : Pst K XR Ek Rel B ρ σ H r Q) : Pst K XR Ek Rel B ρ1 σ H1 r Q := by
  cases r with
  | ok a ρ' => exact fun b H' s k' q => h b H' s (k.trans k') q
  | ex x ρ' => exact fun c d H' s k' q => h c d H' s (k.trans k') q
  | no => exact h
theorem Pst.imp {r : R α} {Q Q' : β → Hp → Prop} (hq : ∀ b H', Q b H' → Q' b H') (h : Pst K XR Ek Rel B ρ σ H r Q) : Pst K XR Ek Rel B ρ σ H r Q' := by
  cases r with
  | ok a ρ' => exact fun b H' s k' q => hq _ _ (h b H' s k' q)
  | ex x ρ' => exact h
  | no => exact h
theorem PstF.shift {r : R D} {Q : VK} (k : Kp ρ σ H ρ1 σ H1) (h : PstF K XR Ek B ρ σ H r Q) : PstF K XR Ek B ρ1 σ H1 r Q := by
  cases r with
  | ok a ρ' => exact ⟨h.1, fun b H' s k' n q => h.2 b H' s (k.trans k') (by
      cases z : H b with
      | none => rfl
      | some o => obtain ⟨o', e⟩ := k.there b o z; rw [n] at e; cases e) q⟩
  | ex x ρ' => exact fun c d H' s k' q => h c d H' s (k.trans k') q
  | no => exact h
/-- one part, then the rest -/
theorem seq {f : Rho → R α} {g : α → Rho → R γ} {Q : β → Hp → Prop} {Qc : δ → Hp → Prop} (S : SR K H B ρ σ) (h : Pst K XR Ek RelC B ρ σ H ((f ρ).bind g) Qc)
    (k : ∀ a ρ1 b H1, f ρ = .ok a ρ1 → SR K H1 B ρ1 σ → Kp ρ σ H ρ1 σ H1 → Rel σ H1 (MM B ρ1 σ) a b → Pst K XR Ek RelC B ρ1 σ H1 (g a ρ1) Qc → Q b H1) : rdG K XR Ek Rel f σ H Q := by
  refine ⟨B, ρ, S, ?_⟩
  cases e : f ρ with
  | ok a ρ1 => rw [e] at h; exact fun b H1 s1 k1 r1 => k a ρ1 b H1 e s1 k1 r1 (Pst.shift k1 h)
  | ex x ρ1 => rw [e] at h; exact h
  | no => rw [e] at h; exact h
theorem seqF {f : Rho → R α} {g : α → Rho → R D} {Q : β → Hp → Prop} {Qc : VK} (S : SR K H B ρ σ) (h : PstF K XR Ek B ρ σ H ((f ρ).bind g) Qc)
    (k : ∀ a ρ1 b H1, f ρ = .ok a ρ1 → SR K H1 B ρ1 σ → Kp ρ σ H ρ1 σ H1 → Rel σ H1 (MM B ρ1 σ) a b → PstF K XR Ek B ρ1 σ H1 (g a ρ1) Qc → Q b H1) : rdG K XR Ek Rel f σ H Q := by
  refine ⟨B, ρ, S, ?_⟩
  cases e : f ρ with
  | ok a ρ1 => rw [e] at h; exact fun b H1 s1 k1 r1 => k a ρ1 b H1 e s1 k1 r1 (PstF.shift k1 h)
  | ex x ρ1 => rw [e] at h; exact h
  | no => rw [e] at h; exact h
theorem Pst.of_lift {o : Option α} {Q : β → Hp → Prop} (h : Pst K XR Ek Rel B ρ σ H (R.lift o ρ) Q) : ∃ a, o = some a ∧ Pst K XR Ek Rel B ρ σ H (.ok a ρ) Q := by
  cases o with
  | none => exact h.elim
  | some a => exact ⟨a, rfl, h⟩
theorem PstF.of_lift {o : Option D} {Q : VK} (h : PstF K XR Ek B ρ σ H (R.lift o ρ) Q) : ∃ a, o = some a ∧ PstF K XR Ek B ρ σ H (.ok a ρ) Q := by
  cases o with
  | none => exact h.elim
  | some a => exact ⟨a, rfl, h⟩
/-- a fresh list is a value -/
theorem SR.ofF {d : D} {a : Addr} (S : SR K H B ρ σ) (S' : SR K H1 (fun b => B b ∨ b = a) ρ1 σ) (n : H a = none) (q : OwnAt K H1 (MM (fun b => B b ∨ b = a) ρ1 σ) a d) : SR K H1 B ρ1 σ ∧ Rp K H1 (MM B ρ1 σ) d (.ref a) := by
  have nB : ¬ B a := fun z => by obtain ⟨o, e⟩ := S.bnd a z; rw [n] at e; cases e
  have nO : ∀ i, ¬ Owner ρ1 σ i a := fun i ⟨⟨e, h1, h2⟩, h3⟩ => by
    obtain ⟨d', hd⟩ := Ent.got_of_own h2
    obtain ⟨a', e1, e2, _⟩ := S'.own i e d' h1 h2 hd
    rw [h3] at e1; cases e1
    exact e2 (.inr rfl)
  have nM : ¬ MM B ρ1 σ a := fun z => z.elim nB fun ⟨i, y⟩ => nO i y
  have st : Stays H1 (MM (fun b => B b ∨ b = a) ρ1 σ) H1 (MM B ρ1 σ) := fun b o e n => ⟨e, fun z => n (z.imp .inl id)⟩
  refine ⟨S'.weakB fun b => .inl, ?_⟩
  cases d with
  | list ds =>
    obtain ⟨xs, l, r⟩ := q
    exact rp_lst (.inl ⟨.inl l, nM⟩) (Rps.mono st _ _ r)
  | dict kvs =>
    obtain ⟨ks, l, r⟩ := q
    simp only [Rp]
    exact ⟨a, ks, rfl, l, nM, Rpk.mono st _ _ r⟩
  | none => exact q.elim
  | bool _ => exact q.elim
  | int _ => exact q.elim
  | str _ => exact q.elim
  | tuple _ => exact q.elim
theorem rdF_E {f : Rho → R D} {Q : VK} (ho : ∀ ρ d ρ', f ρ = .ok d ρ' → ownable d = true) (h : rdE K XR Ek f σ H Q) : rdF K XR Ek f σ H Q := by
  obtain ⟨B, ρ, S, h⟩ := h
  refine ⟨B, ρ, S, ?_⟩
  cases e : f ρ with
  | no => rw [e] at h; exact h
  | ex x ρ1 => rw [e] at h; exact h
  | ok d ρ1 =>
    rw [e] at h
    exact ⟨ho _ _ _ e, fun a H' S' k n q => h _ _ (S.ofF S' n q).1 k (S.ofF S' n q).2⟩
theorem _root_.L2.PE.weak {X : Cx} {e : Expr} {t t' : TE} (h : PE X e t) (w : ∀ σ H Q, t' σ H Q → t σ H Q) : PE X e t' := ⟨fun pins s σ H Q I q => h.run pins s σ H Q I (w σ H Q q)⟩
theorem _root_.L2.PT.weak {X : Cx} {e : Expr} {t t' : TT} (h : PT X e t) (w : ∀ σ H Q, t' σ H Q → t σ H Q) : PT X e t' := ⟨fun pins s σ H Q I q => h.run pins s σ H Q I (w σ H Q q)⟩
theorem _root_.L2.PW.weak {X : Cx} {e : Expr} {t t' : TT} (h : PW X e t) (w : ∀ σ H Q, t' σ H Q → t σ H Q) : PW X e t' := ⟨fun wh pins s σ H Q I q => h.run wh pins s σ H Q I (w σ H Q q)⟩
theorem _root_.L2.PA.weak {X : Cx} {e : List Expr} {t t' : TA} (h : PA X e t) (w : ∀ σ H Q, t' σ H Q → t σ H Q) : PA X e t' := ⟨fun p pins s σ H Q I q => h.run p pins s σ H Q I (w σ H Q q)⟩
theorem _root_.L2.PS.weak {X : Cx} {e : Stmt} {t t' : TS} (h : PS X e t) (w : ∀ D σ H, t' D σ H → t D σ H) : PS X e t' := ⟨fun pins s σ H D I q => h.run pins s σ H D I (w D σ H q)⟩
theorem _root_.L2.PSs.weak {X : Cx} {e : List Stmt} {t t' : TS} (h : PSs X e t) (w : ∀ D σ H, t' D σ H → t D σ H) : PSs X e t' := ⟨fun pins s σ H D I q => h.run pins s σ H D I (w D σ H q)⟩
theorem _root_.L2.PI.weak {X : Cx} {tg e : Expr} {t t' : TI} (h : PI X tg e t) (w : ∀ σ H Q, t' σ H Q → t σ H Q) : PI X tg e t' := ⟨fun pins s σ H Q I q => h.run pins s σ H Q I (w σ H Q q)⟩

/-! ### names, constants -/
theorem take_ok {i : Nat} {Q : VK} (h : rdE K XR Ek (fun ρ => ρ.take i) σ H Q) : tVar i σ H Q := by
  obtain ⟨B, ρ, S, h⟩ := h
  cases e : ρ[i]? with
  | none => simp only [Rho.take, e] at h; exact h.elim
  | some en =>
    simp only [Rho.take, e] at h
    cases en with
    | un => exact h.elim
    | io d => exact h.elim
    | val d =>
      obtain ⟨v, e1, r⟩ := S.val i d e
      exact ⟨v, e1, h v H S .refl r⟩
    | own d =>
      obtain ⟨v, e1, S', k, r⟩ := S.freeze e
      exact ⟨v, e1, h v H S' k r⟩
theorem const_ok {d : D} {v : V} {Q : VK} (hv : ∀ H M, Rp K H M d v) (h : rdE K XR Ek (fun ρ => .ok d ρ) σ H Q) : tC v σ H Q := by
  obtain ⟨B, ρ, S, h⟩ := h
  exact h v H S .refl (hv _ _)
/-- an operand that is a name -/
theorem opd_var {i : Nat} {f : Rho → R D} {Q : VK} (h : rdO K XR Ek (opd (.v i) f) σ H Q) : tVar i σ H Q := by
  obtain ⟨B, ρ, S, h⟩ := h
  unfold opd at h
  cases e : ρ.at i with
  | none => simp only [e] at h; exact h.elim
  | some d =>
    simp only [e] at h
    unfold Rho.at at e
    cases e2 : ρ[i]? with
    | none => rw [e2] at e; cases e
    | some en =>
      rw [e2] at e
      obtain ⟨v, e1, r⟩ := S.get e2 e
      exact ⟨v, e1, h v H S .refl e1⟩
theorem opd_got {e : E} {f : Rho → R D} {Q : VK} (he : opd e f = fun ρ => (f ρ).bind fun d ρ => .ok (.got d) ρ) (h : rdO K XR Ek (opd e f) σ H Q) : rdE K XR Ek f σ H Q := by
  obtain ⟨B, ρ, S, h⟩ := h
  rw [he] at h
  exact seq S h fun a ρ1 b H1 e1 S1 k1 r1 h1 => h1 b H1 S1 .refl r1
/-- an operand as it may be read when the operation is done -/
theorem RelP.get {p : Pnd} {v : V} {d : D} (S : SR K H B ρ σ) (h : RelP K σ H (MM B ρ σ) p v) (g : p.get ρ = some d) : Rq K H (MM B ρ σ) d v := by
  cases p with
  | got d' => cases g; exact .of h
  | «at» i =>
    unfold Pnd.get Rho.at at g
    cases e : ρ[i]? with
    | none => simp only [e] at g; cases g
    | some en =>
      simp only [e] at g
      obtain ⟨w, e1, r⟩ := S.get e g
      have h' : σ[i]? = some (some v) := h
      rw [e1] at h'; cases h'
      exact r
theorem RelP.kp {p : Pnd} {v : V} (k : Kp ρ1 σ H1 ρ2 σ H2) (h : RelP K σ H1 (MM B ρ1 σ) p v) : RelP K σ H2 (MM B ρ2 σ) p v := by
  cases p with
  | got d' => exact Rp.kp k h
  | «at» i => exact h

/-! ### operations by values -/
/-- what an operation on known operands gives -/
def Gives (K : PySem.W.Frag) (H : Hp) (M : Addr → Prop) (d : D) (Q : VK) : Prop := ∀ v H', Same H H' → Rp K H' M d v → Q v H'
def GivesF (K : PySem.W.Frag) (H : Hp) (M : Addr → Prop) (d : D) (Q : VK) : Prop := ∀ a xs ds, d = .list ds → H a = none → Rps K H M ds xs → Q (.ref a) (L2.upd H a (.lst xs))
abbrev Trk (H : Hp) (M : Addr → Prop) : Prop := ∀ a, M a → ∃ o, H a = some o
def Op2 (K : PySem.W.Frag) (r : R2) (o : D → D → Option D) : Prop := ∀ H M d1 d2 d x y Q, Trk H M → Rq K H M d1 x → Rq K H M d2 y → o d1 d2 = some d → Gives K H M d Q → r x y H Q
def Op2F (K : PySem.W.Frag) (r : R2) (o : D → D → Option D) : Prop := ∀ H M d1 d2 ds x y Q, Trk H M → Rq K H M d1 x → Rq K H M d2 y → o d1 d2 = some (.list ds) → GivesF K H M (.list ds) Q → r x y H Q
theorem Gives.ofF {M : Addr → Prop} {ds : List D} {Q : VK} (hb : Trk H M) (h : Gives K H M (.list ds) Q) : GivesF K H M (.list ds) Q := fun a xs ds' e n r => by
  cases e
  exact h _ _ (Ev.same_new n) (rp_newL hb n r)
theorem Gives.of_ok {Q : VK} {d : D} (S : SR K H B ρ σ) (h : Pst K XR Ek (RelE K) B ρ σ H (.ok d ρ) Q) : Gives K H (MM B ρ σ) d Q := fun v H' s r => h v H' (S.same s) (.same s) r
theorem GivesF.of_ok {Q : VK} {d : D} (S : SR K H B ρ σ) (h : PstF K XR Ek B ρ σ H (.ok d ρ) Q) : GivesF K H (MM B ρ σ) d Q := fun a xs ds e n r => by
  subst e
  refine h.2 a _ (S.newB n) (.same (Ev.same_new n)) n ⟨xs, upd_same, ?_⟩
  exact Rps.mono (fun b u e nM => ⟨by rw [upd_ne (ne_of_none e n)]; exact e, fun z => z.elim (fun z => z.elim (fun z => nM (.inl z)) fun z => ne_of_none e n z) fun z => nM (.inr z)⟩) _ _ r
theorem Pst.of_two {o : D → D → Option D} {p q : Pnd} {Q : VK} (h : Pst K XR Ek (RelE K) B ρ σ H (two o p q ρ) Q) : ∃ a b d, p.get ρ = some a ∧ q.get ρ = some b ∧ o a b = some d ∧ Pst K XR Ek (RelE K) B ρ σ H (.ok d ρ) Q := by
  obtain ⟨d, e, h⟩ := Pst.of_lift h
  cases e1 : p.get ρ with
  | none => rw [e1] at e; cases e
  | some a =>
    cases e2 : q.get ρ with
    | none => rw [e1, e2] at e; cases e
    | some b => rw [e1, e2] at e; exact ⟨a, b, d, rfl, rfl, e, h⟩
theorem PstF.of_two {o : D → D → Option D} {p q : Pnd} {Q : VK} (h : PstF K XR Ek B ρ σ H (two o p q ρ) Q) : ∃ a b d, p.get ρ = some a ∧ q.get ρ = some b ∧ o a b = some d ∧ PstF K XR Ek B ρ σ H (.ok d ρ) Q := by
  obtain ⟨d, e, h⟩ := PstF.of_lift h
  cases e1 : p.get ρ with
  | none => rw [e1] at e; cases e
  | some a =>
    cases e2 : q.get ρ with
    | none => rw [e1, e2] at e; cases e
    | some b => rw [e1, e2] at e; exact ⟨a, b, d, rfl, rfl, e, h⟩
theorem Pst.of_one {o : D → Option D} {p : Pnd} {Q : VK} (h : Pst K XR Ek (RelE K) B ρ σ H (one o p ρ) Q) : ∃ a d, p.get ρ = some a ∧ o a = some d ∧ Pst K XR Ek (RelE K) B ρ σ H (.ok d ρ) Q := by
  obtain ⟨d, e, h⟩ := Pst.of_lift h
  cases e1 : p.get ρ with
  | none => rw [e1] at e; cases e
  | some a => rw [e1] at e; exact ⟨a, d, rfl, e, h⟩
theorem PstF.of_one {o : D → Option D} {p : Pnd} {Q : VK} (h : PstF K XR Ek B ρ σ H (one o p ρ) Q) : ∃ a d, p.get ρ = some a ∧ o a = some d ∧ PstF K XR Ek B ρ σ H (.ok d ρ) Q := by
  obtain ⟨d, e, h⟩ := PstF.of_lift h
  cases e1 : p.get ρ with
  | none => rw [e1] at e; cases e
  | some a => rw [e1] at e; exact ⟨a, d, rfl, e, h⟩
/-- two operands, then the operation -/
theorem op2_ok {r : R2} {o : D → D → Option D} {fa fb : Rho → R Pnd} {Q : VK} (hs : Op2 K r o) (h : rdE K XR Ek (fun ρ => (fa ρ).bind fun p ρ => (fb ρ).bind fun q ρ => two o p q ρ) σ H Q) : tOp r (rdO K XR Ek fa) (rdO K XR Ek fb) σ H Q := by
  obtain ⟨B, ρ, S, h⟩ := h
  refine seq S h fun p ρ1 x H1 _ S1 k1 r1 h1 => ?_
  refine seq S1 h1 fun q ρ2 y H2 _ S2 k2 r2 h2 => ?_
  obtain ⟨a, b, d, e1, e2, e3, h3⟩ := h2.of_two
  exact hs H2 _ a b d x y Q S2.mb (RelP.get S2 (RelP.kp k2 r1) e1) (RelP.get S2 r2 e2) e3 (.of_ok S2 h3)
theorem op2F_ok {r : R2} {o : D → D → Option D} {fa fb : Rho → R Pnd} {Q : VK} (hs : Op2F K r o) (hn : ∀ a b kvs, o a b ≠ some (.dict kvs)) (h : rdF K XR Ek (fun ρ => (fa ρ).bind fun p ρ => (fb ρ).bind fun q ρ => two o p q ρ) σ H Q) : tOp r (rdO K XR Ek fa) (rdO K XR Ek fb) σ H Q := by
  obtain ⟨B, ρ, S, h⟩ := h
  refine seqF S h fun p ρ1 x H1 _ S1 k1 r1 h1 => ?_
  refine seqF S1 h1 fun q ρ2 y H2 _ S2 k2 r2 h2 => ?_
  obtain ⟨a, b, d, e1, e2, e3, h3⟩ := h2.of_two
  cases d with
  | list ds => exact hs H2 _ a b ds x y Q S2.mb (RelP.get S2 (RelP.kp k2 r1) e1) (RelP.get S2 r2 e2) e3 (.of_ok S2 h3)
  | dict kvs => exact (hn _ _ _ e3).elim
  | none => cases h3.1
  | bool _ => cases h3.1
  | int _ => cases h3.1
  | str _ => cases h3.1
  | tuple _ => cases h3.1
end
end Ev

set_option Elab.async false
set_option linter.all false
set_option maxRecDepth 100000
/-! Ev3: the operations, by values. -/
namespace Ev
open PySem L2
section
variable {K : PySem.W.Frag} {H : Hp} {M : Addr → Prop}
mutual
theorem Rp.dp : ∀ (d : D) (v : V), d.canLay0 = true → Rp K H M d v → Dp K H v d
  | .none, v, _, x => by simp only [Rp] at x; subst x; exact .non
  | .bool b, v, _, x => by simp only [Rp] at x; subst x; exact .bl b
  | .int i, v, _, x => by simp only [Rp] at x; subst x; exact .int i
  | .str s, v, _, x => by simp only [Rp] at x; subst x; exact .str s
  | .list ds, v, c, x => by
    simp only [Rp] at x
    obtain ⟨a, xs, rfl, l, r⟩ := x
    exact .lst l.sq (Rps.dp ds xs (by simpa [PyData.canLay0] using c) r)
  | .tuple ds, v, c, x => by
    simp only [Rp] at x
    obtain ⟨a, xs, rfl, l, r⟩ := x
    exact .tup l.sq (Rps.dp ds xs (by simpa [PyData.canLay0] using c) r)
  | .dict kvs, v, c, x => by simp [PyData.canLay0] at c
theorem Rps.dp : ∀ (ds : List D) (xs : List V), PyData.canLayAll0 ds = true → Rps K H M ds xs → DpAll K H xs ds
  | [], xs, _, x => by simp only [Rps] at x; subst x; exact .nil
  | d :: ds, xs, c, x => by
    simp only [PyData.canLayAll0, Bool.and_eq_true] at c
    obtain ⟨y, r, rfl, p, q⟩ := x.uncons
    exact .cons (Rp.dp d y c.1 p) (Rps.dp ds r c.2 q)
end
theorem Rq.dp {d : D} {v : V} (h : shp d = true) : Rq K H M d v → Dp K H v d
  | .inl x => Rp.dp d v (SeqAt.canLay_of_shaped h) x
  | .inr ⟨a, e, x⟩ => by
    subst e
    cases d with
    | list ds =>
      obtain ⟨xs, l, r⟩ := x
      exact .lst (.of l) (Rps.dp ds xs (by have := SeqAt.canLay_of_shaped h; simpa [PyData.canLay0] using this) r)
    | dict kvs => have := SeqAt.canLay_of_shaped h; simp [PyData.canLay0] at this
    | none => exact x.elim
    | bool _ => exact x.elim
    | int _ => exact x.elim
    | str _ => exact x.elim
    | tuple _ => exact x.elim
theorem toInts_rps : ∀ {ds : List D} {ns : List Int} {xs : List V}, toInts ds = some ns → Rps K H M ds xs → xs = ns.map V.int
  | [], ns, xs, e, r => by simp only [toInts] at e; cases e; simp only [Rps] at r; exact r
  | .int i :: ds, ns, xs, e, r => by
    simp only [toInts] at e
    cases e2 : toInts ds with
    | none => rw [e2] at e; cases e
    | some ms =>
      rw [e2] at e; cases e
      obtain ⟨y, t, rfl, p, q⟩ := r.uncons
      simp only [Rp] at p
      subst p
      rw [toInts_rps e2 q]; rfl
  | .none :: _, _, _, e, _ => by simp [toInts] at e
  | .bool _ :: _, _, _, e, _ => by simp [toInts] at e
  | .str _ :: _, _, _, e, _ => by simp [toInts] at e
  | .list _ :: _, _, _, e, _ => by simp [toInts] at e
  | .tuple _ :: _, _, _, e, _ => by simp [toInts] at e
  | .dict _ :: _, _, _, e, _ => by simp [toInts] at e
theorem toInts_eq : ∀ {ds : List D} {ns : List Int}, toInts ds = some ns → ds = ns.map PyData.int
  | [], ns, e => by simp only [toInts] at e; cases e; rfl
  | .int i :: ds, ns, e => by
    simp only [toInts] at e
    cases e2 : toInts ds with
    | none => rw [e2] at e; cases e
    | some ms => rw [e2] at e; cases e; rw [toInts_eq e2]; rfl
  | .none :: _, _, e => by simp [toInts] at e
  | .bool _ :: _, _, e => by simp [toInts] at e
  | .str _ :: _, _, e => by simp [toInts] at e
  | .list _ :: _, _, e => by simp [toInts] at e
  | .tuple _ :: _, _, e => by simp [toInts] at e
  | .dict _ :: _, _, e => by simp [toInts] at e
theorem toBools_rps : ∀ {ds : List D} {ns : List Bool} {xs : List V}, toBools ds = some ns → Rps K H M ds xs → xs = ns.map V.bl
  | [], ns, xs, e, r => by simp only [toBools] at e; cases e; simp only [Rps] at r; exact r
  | .bool i :: ds, ns, xs, e, r => by
    simp only [toBools] at e
    cases e2 : toBools ds with
    | none => rw [e2] at e; cases e
    | some ms =>
      rw [e2] at e; cases e
      obtain ⟨y, t, rfl, p, q⟩ := r.uncons
      simp only [Rp] at p
      subst p
      rw [toBools_rps e2 q]; rfl
  | .none :: _, _, _, e, _ => by simp [toBools] at e
  | .int _ :: _, _, _, e, _ => by simp [toBools] at e
  | .str _ :: _, _, _, e, _ => by simp [toBools] at e
  | .list _ :: _, _, _, e, _ => by simp [toBools] at e
  | .tuple _ :: _, _, _, e, _ => by simp [toBools] at e
  | .dict _ :: _, _, _, e, _ => by simp [toBools] at e
theorem Rps.ints {ns : List Int} : Rps K H M (ns.map PyData.int) (ns.map V.int) := by
  induction ns with
  | nil => exact .nil
  | cons n ns ih => exact .cons rp_int ih
theorem Gives.refl {Q : VK} {d : D} {v : V} (g : Gives K H M d Q) (r : Rp K H M d v) : Q v H := g v H (Same.refl H) r
theorem rq_seq {d : D} {v : V} {ds : List D} (h : Rq K H M d v) (e : seqOf d = some ds) : ∃ a xs, v = .ref a ∧ (SqL K H a xs ∨ SqT K H a xs) ∧ Rps K H M ds xs := by
  cases d with
  | list es => cases e; obtain ⟨a, xs, e1, l, r⟩ := h.list; exact ⟨a, xs, e1, .inl l, r⟩
  | tuple es => cases e; obtain ⟨a, xs, e1, l, r⟩ := h.tup; exact ⟨a, xs, e1, .inr l.sq, r⟩
  | none => cases e
  | bool _ => cases e
  | int _ => cases e
  | str _ => cases e
  | dict _ => cases e
theorem cut_length (ds : List D) (xs : List V) (lo hi : Option Int) (h : xs.length = ds.length) : Rps K H M ds xs → Rps K H M (cutD ds lo hi) (cutV xs lo hi) := fun r => by
  unfold cutD cutV
  rw [h]
  exact (r.drop _).take _
end

/-- an operation, by what it gives -/
def opR (K : PySem.W.Frag) (o : D → D → Option D) : R2 := fun x y H Q => ∃ M d1 d2 d, Trk H M ∧ Rq K H M d1 x ∧ Rq K H M d2 y ∧ o d1 d2 = some d ∧ Gives K H M d Q
def opRF (K : PySem.W.Frag) (o : D → D → Option D) : R2 := fun x y H Q => ∃ M d1 d2 ds, Trk H M ∧ Rq K H M d1 x ∧ Rq K H M d2 y ∧ o d1 d2 = some (.list ds) ∧ GivesF K H M (.list ds) Q
theorem op2_opR {K : PySem.W.Frag} {o : D → D → Option D} : Op2 K (opR K o) o := fun H M d1 d2 d x y Q hb q1 q2 e g => ⟨M, d1, d2, d, hb, q1, q2, e, g⟩
theorem op2_opRF {K : PySem.W.Frag} {o : D → D → Option D} : Op2F K (opRF K o) o := fun H M d1 d2 d x y Q hb q1 q2 e g => ⟨M, d1, d2, d, hb, q1, q2, e, g⟩
def unR (K : PySem.W.Frag) (o : D → Option D) : V → Hp → VK → Prop := fun x H Q => ∃ M d1 d, Trk H M ∧ Rq K H M d1 x ∧ o d1 = some d ∧ Gives K H M d Q
def unRF (K : PySem.W.Frag) (o : D → Option D) : V → Hp → VK → Prop := fun x H Q => ∃ M d1 ds, Trk H M ∧ Rq K H M d1 x ∧ o d1 = some (.list ds) ∧ GivesF K H M (.list ds) Q
section
variable {X : Cx}
/-- list + list, whatever it is read from -/
theorem op_catL : OpR X (binaryOp .Add) (fun x y H Q => ∃ l b xs zs, x = .ref l ∧ y = .ref b ∧ SqL X.K H l xs ∧ SqL X.K H b zs ∧ xs.length + zs.length ≤ sizeLine ∧ ∀ p, H p = none → Q (.ref p) (L2.upd H p (.lst (xs ++ zs)))) := by
  intro pins s σ H x y v u Q I rx ry h
  obtain ⟨l, b, xs, zs, rfl, rfl, hH, hB, hz, q⟩ := h
  cases rx
  cases ry
  obtain ⟨its, r, ⟨o, n, e, c1, c2, c3⟩, z⟩ := I.list hH
  obtain ⟨its2, r2, ⟨o2, n2, e2, d1, d2, d3⟩, z2⟩ := I.list hB
  have hl := r.length
  have hl2 := r2.length
  obtain ⟨oc, od, odt, osl⟩ := o
  obtain ⟨oc2, od2, odt2, osl2⟩ := o2
  simp only at c1 c2 c3 d1 d2 d3
  subst c1 c2 c3 d1 d2 d3
  have ea : its.toArray ++ its2.toArray = (its ++ its2).toArray := by simp
  refine PySem.concat_meets ⟨_, e, rfl⟩ ⟨_, e2, rfl⟩ PySem.noFill_list_add PySem.seq_list_add PySem.F.slot_list_add PySem.F.entry_list_add (PySem.F.args_list_add_2 _ _)
    (PyProof.Rows.list_addW l b its.toArray its2.toArray n n2 none none osl osl2 (by rw [List.size_toArray, List.size_toArray]; omega)) ⟨e, e2, ?_⟩
  rw [ea]
  exact ⟨.ref _, _, I.lnew (t' := s.toks) (r.append r2) (by rw [List.length_append]; omega), rfl, q _ I.fresh⟩
theorem or_addF : OpR X (binaryOp .Add) (opRF X.K (binF .add)) := by
  intro pins s σ H x y v u Q I rx ry ⟨M, d1, d2, ds, hb, q1, q2, e, g⟩
  cases d1 <;> cases d2 <;> simp only [binF] at e <;> try (first | (cases e; done) | (split at e <;> cases e; done))
  rename_i as bs
  split at e
  · cases e
    obtain ⟨l, xs, rfl, h1, r1⟩ := q1.list
    obtain ⟨b, ys, rfl, h2, r2⟩ := q2.list
    exact op_catL pins s σ H _ _ v u Q I rx ry ⟨l, b, xs, ys, rfl, rfl, h1, h2, by rw [r1.length, r2.length]; assumption, fun p hp => g p _ _ rfl hp (r1.append r2)⟩
  · cases e
theorem or_add : OpR X (binaryOp .Add) (opR X.K (binF .add)) := by
  intro pins s σ H x y v u Q I rx ry ⟨M, d1, d2, d, hb, q1, q2, e, g⟩
  cases d1 with
  | int a =>
    cases d2 <;> simp only [binF] at e <;> cases e
    exact op_add pins s σ H x y v u Q I rx ry ⟨_, _, q1.int, q2.int, g.refl rp_int⟩
  | str a =>
    cases d2 <;> simp only [binF] at e <;> try (cases e; done)
    split at e <;> cases e
    exact op_add_str pins s σ H x y v u Q I rx ry ⟨_, _, q1.str, q2.str, by assumption, g.refl rp_str⟩
  | list as =>
    cases d2 <;> simp only [binF] at e <;> try (cases e; done)
    split at e <;> cases e
    rename_i h
    exact or_addF pins s σ H x y v u Q I rx ry ⟨M, _, _, _, hb, q1, q2, by simp only [binF]; rw [if_pos h], Gives.ofF hb g⟩
  | tuple as =>
    cases d2 <;> simp only [binF] at e <;> try (cases e; done)
    split at e <;> cases e
    obtain ⟨l, xs, rfl, h1, r1⟩ := q1.tup
    obtain ⟨b, ys, rfl, h2, r2⟩ := q2.tup
    refine op_catF pins s σ H _ _ v u Q I rx ry ⟨l, b, xs, ys, rfl, rfl, h1.sq, h2.sq, by rw [r1.length, r2.length]; assumption, fun z => ?_, fun z1 z2 => ?_, fun _ _ p us hp => ?_⟩
    · have ea : as = [] := by have := r1.length; rw [z] at this; exact List.eq_nil_of_length_eq_zero this.symm
      subst ea
      exact g.refl (rp_tup h2 r2)
    · have ea := r2.length
      rw [z2] at ea
      have ea := List.eq_nil_of_length_eq_zero ea.symm
      subst ea
      rw [List.append_nil] at g
      exact g.refl (rp_tup h1 r1)
    · exact g _ _ (Ev.same_new hp) (rp_newT hb hp (r1.append r2))
  | none => simp [binF] at e
  | bool _ => simp [binF] at e
  | dict _ => simp [binF] at e
theorem or_sub : OpR X (binaryOp .Sub) (opR X.K (binF .sub)) := by
  intro pins s σ H x y v u Q I rx ry ⟨M, d1, d2, d, hb, q1, q2, e, g⟩
  cases d1 <;> cases d2 <;> simp only [binF] at e <;> cases e
  exact op_sub pins s σ H x y v u Q I rx ry ⟨_, _, q1.int, q2.int, g.refl rp_int⟩
theorem or_fdiv : OpR X (binaryOp .FloorDiv) (opR X.K (binF .fdiv)) := by
  intro pins s σ H x y v u Q I rx ry ⟨M, d1, d2, d, hb, q1, q2, e, g⟩
  cases d1 <;> cases d2 <;> simp only [binF] at e <;> try (cases e; done)
  split at e <;> cases e
  rename_i h
  simp only [Bool.and_eq_true, Bool.or_eq_true, decide_eq_true_eq] at h
  have hb : ∀ j : Int, 0 < j → (j < 1073741824 ∨ divOk j = true) → j.natAbs < 2 ^ 200 := fun j h0 h => by
    unfold divOk at h
    simp only [decide_eq_true_eq] at h
    have e : (1073741824 : Int) ≤ 2 ^ 200 := by decide
    have e2 : ((2 ^ 200 : Nat) : Int) = 2 ^ 200 := by decide
    have h2 : j < 2 ^ 200 := by
      rcases h with h | h
      · exact Int.lt_of_lt_of_le h e
      · exact h
    rw [← e2] at h2
    omega
  exact op_fdivW pins s σ H x y v u Q I rx ry ⟨_, _, q1.int, q2.int, wide_div h.1 (hb _ h.1 h.2) (by decide) (by decide), g.refl rp_int⟩
theorem or_mod : OpR X (binaryOp .Mod) (opR X.K (binF .mod)) := by
  intro pins s σ H x y v u Q I rx ry ⟨M, d1, d2, d, hb, q1, q2, e, g⟩
  cases d1 <;> cases d2 <;> simp only [binF] at e <;> try (cases e; done)
  split at e <;> cases e
  rename_i h
  exact op_mod pins s σ H x y v u Q I rx ry ⟨_, _, q1.int, q2.int, h, g.refl rp_int⟩
end
end Ev

set_option Elab.async false
set_option linter.all false
set_option maxRecDepth 100000
set_option maxHeartbeats 4000000
/-! Ev3m: a list, a tuple times an int. -/
namespace L2
open PySem PySem.Spec PyProof.Rows
theorem ev_tuple_mul_same (l : Addr) (items : Array Value) (n : Nat) (dd : Option Addr) (sl : Array (Option Value)) (x : Int) (u : Tok) (c0 : (decide (x < -(2 ^ 63)) || decide (x ≥ 2 ^ 63)) = false) (c1 : (items.isEmpty || x == 1) = true) :
    Meets (Builtin.«tuple.__mul__» ⟨[.ref l, .int x u], []⟩) (fun _ R s => s.heap.get? l = some { cls := .type "tuple", dict := dd, data := .seq items n, slots := sl } ∧
      R (.ok (.ret (Value.ref l))) s) :=
  .of_wp fun prog w A R s h => by
    obtain ⟨hp, g, d, tk, os⟩ := s
    obtain ⟨hl, h⟩ := h
    have f1 := AutoSeq1.idx_int
    wp_walk using wpAny_loadPart' hl
    repeat (first
      | (refine wpAny_ite_false (decide_eq_false (by rw [c0]; exact Bool.false_ne_true)) ?_; wp_walk using wpAny_loadPart' hl)
      | (refine wpAny_ite_true (decide_eq_true c1) ?_; wp_walk using wpAny_loadPart' hl))
    exact ⟨_, rfl, h⟩
theorem ev_tuple_mul_none (l : Addr) (items : Array Value) (n : Nat) (dd : Option Addr) (sl : Array (Option Value)) (x : Int) (u : Tok) (c0 : (decide (x < -(2 ^ 63)) || decide (x ≥ 2 ^ 63)) = false) (c1 : (items.isEmpty || x == 1) = false) (c2 : (decide (x ≤ 0) || items.isEmpty) = true) :
    Meets (Builtin.«tuple.__mul__» ⟨[.ref l, .int x u], []⟩) (fun _ R s => s.heap.get? l = some { cls := .type "tuple", dict := dd, data := .seq items n, slots := sl } ∧
      R (.ok (.ret (Value.ref s.heap.objs.size))) { s with heap := s.heap.push { cls := Value.type "tuple", data := Data.seq #[] }, toks := s.toks }) :=
  .of_wp fun prog w A R s h => by
    obtain ⟨hp, g, d, tk, os⟩ := s
    obtain ⟨hl, h⟩ := h
    have f1 := AutoSeq1.idx_int
    wp_walk using wpAny_loadPart' hl
    repeat (first
      | (refine wpAny_ite_false (decide_eq_false (by rw [c0]; exact Bool.false_ne_true)) ?_; wp_walk using wpAny_loadPart' hl)
      | (refine wpAny_ite_false (decide_eq_false (by rw [c1]; exact Bool.false_ne_true)) ?_; wp_walk using wpAny_loadPart' hl)
      | (refine wpAny_ite_true (decide_eq_true c2) ?_; wp_walk using wpAny_loadPart' hl))
    exact ⟨_, rfl, h⟩
section
variable {X : Cx}
theorem ev_rep2 : OpR X (binaryOp .Mult) (fun x y H Q => ∃ l k xs, x = .ref l ∧ y = .int k ∧ SqT X.K H l xs ∧ xs ≠ [] ∧ 2 ≤ k ∧ k ≤ 1000 ∧ xs.length ≤ 1000 ∧ NewT H (List.replicate k.toNat xs).flatten Q) := by
  intro pins s σ H x y v u Q I rx ry ⟨l, k, xs, ex, ey, hT, hne, h1, h2, hz, q⟩
  subst ex ey
  cases rx
  obtain ⟨t, rfl⟩ := ry
  obtain ⟨its, r, ⟨⟨cls, dd, data, sl⟩, ho, hc, n, hd⟩, hs⟩ := I.tuple hT
  simp only at hc hd
  subst hc hd
  have hle : its.length = xs.length := r.length.symm
  have hn : 0 < its.length := by rw [hle]; exact List.length_pos_iff.mpr hne
  have ne : its.toArray.isEmpty = false := by cases its <;> first | rfl | (simp at hn)
  have km : k.toNat * xs.length ≤ 1000000 := Nat.le_trans (Nat.mul_le_mul (show k.toNat ≤ 1000 by omega) hz) (by decide)
  have kz : ((its.toArray.size : Nat) : Int) * k ≤ 1000000 := by
    rw [List.size_toArray, hle]
    have : ((xs.length : Nat) : Int) * k ≤ 1000 * k := Int.mul_le_mul_of_nonneg_right (by omega) (by omega)
    omega
  have fl : (List.replicate k.toNat its).flatten.length ≤ sizeLine := by rw [PyProof.Rows.lm_len_rep_flat, hle, sizeLine_eq]; omega
  have fx : (List.replicate k.toNat xs).flatten.length ≤ sizeLine := by rw [PyProof.Rows.lm_len_rep_flat, sizeLine_eq]; omega
  have d0 : (decide (k < -(2 ^ 63)) || decide (k ≥ 2 ^ 63)) = false := by rw [decide_eq_false (by omega), decide_eq_false (by omega)]; rfl
  have d1 : (its.toArray.isEmpty || k == 1) = false := by rw [ne]; exact beq_eq_false_iff_ne.mpr (by omega)
  have d2 : (decide (k ≤ 0) || its.toArray.isEmpty) = false := by rw [ne, decide_eq_false (by omega)]; rfl
  have d4 : Builtin.Tuple.tupleTooMany (((its.toArray.size : Nat) : Int) * k) = false := by unfold Builtin.Tuple.tupleTooMany; rw [sizeLine_eq]; exact decide_eq_false (by omega)
  refine wpAny_binaryOp_repeat_ref (T := "tuple") (U := "int") (by decide) ⟨_, ho, rfl⟩ (fun s' => typeIs_int s' k t) noFill_tuple_mul F.fills_int_mul F.slot_int_rmul repeat_tuple F.slot_int_index.lookup (call_meets F.slot_int_rmul (typeIs_int s k t) F.entry_int_rmul (F.args_int_rmul_2 _ _) (int_rmul_tuple k t l its.toArray n dd sl) ⟨ho, rfl, ⟨_, ho, rfl⟩, call_meets F.slot_tuple_mul ⟨_, ho, rfl⟩ F.entry_tuple_mul (F.args_tuple_mul_2 _ _) (tuple_mulW l its.toArray n dd sl k t d0 d1 d2 (by omega) d4 (by rw [size_rep, List.size_toArray]; exact fl)) ⟨ho, ?_⟩⟩)
  rw [size_rep]
  exact q.end_ I (r.rep k.toNat) fx s.toks
theorem ev_op_repT : OpR X (binaryOp .Mult) (fun x y H Q => ∃ l k xs, x = .ref l ∧ y = .int k ∧ SqT X.K H l xs ∧ -(2 ^ 63) ≤ k ∧ k ≤ 1000 ∧ xs.length ≤ 1000 ∧
    (xs = [] ∨ k = 1 → Q (.ref l) H) ∧ (xs ≠ [] → k ≠ 1 → NewT H (List.replicate k.toNat xs).flatten Q)) := by
  intro pins s σ H x y v u Q I rx ry h
  obtain ⟨l, k, xs, rfl, rfl, hT, h0, h2, hz, q1, q2⟩ := h
  by_cases hk : xs ≠ [] ∧ 2 ≤ k
  · exact ev_rep2 pins s σ H _ _ v u Q I rx ry ⟨l, k, xs, rfl, rfl, hT, hk.1, hk.2, h2, hz, q2 hk.1 (by omega)⟩
  · cases rx
    obtain ⟨t, rfl⟩ := ry
    obtain ⟨its, r, ⟨⟨cls, dd, data, sl⟩, ho, hc, n, hd⟩, hs⟩ := I.tuple hT
    simp only at hc hd
    subst hc hd
    have hle : its.length = xs.length := r.length.symm
    have c0 : (decide (k < -(2 ^ 63)) || decide (k ≥ 2 ^ 63)) = false := by
      rw [decide_eq_false (by omega), decide_eq_false (by omega)] <;> rfl
    have ie : its.toArray.isEmpty = xs.isEmpty := by
      cases its with
      | nil => cases xs with
        | nil => rfl
        | cons => simp at hle
      | cons => cases xs with
        | nil => simp at hle
        | cons => rfl
    by_cases hs1 : xs = [] ∨ k = 1
    · have c1 : (its.toArray.isEmpty || k == 1) = true := by
        rcases hs1 with z | z
        · rw [ie, z]; rfl
        · rw [z]; simp
      refine wpAny_binaryOp_repeat_ref (T := "tuple") (U := "int") (by decide) ⟨_, ho, rfl⟩ (fun s' => typeIs_int s' k t) noFill_tuple_mul F.fills_int_mul F.slot_int_rmul repeat_tuple F.slot_int_index.lookup
        (call_meets F.slot_int_rmul (typeIs_int s k t) F.entry_int_rmul (F.args_int_rmul_2 _ _) (int_rmul_tuple k t l its.toArray n dd sl)
          ⟨ho, rfl, ⟨_, ho, rfl⟩, call_meets F.slot_tuple_mul ⟨_, ho, rfl⟩ F.entry_tuple_mul (F.args_tuple_mul_2 _ _) (ev_tuple_mul_same l its.toArray n dd sl k t c0 c1) ⟨ho, ?_⟩⟩)
      exact ⟨.ref l, _, I, rfl, q1 hs1⟩
    · have hne : xs ≠ [] := fun z => hs1 (.inl z)
      have hk1 : k ≠ 1 := fun z => hs1 (.inr z)
      have hk2 : ¬ 2 ≤ k := fun z => hk ⟨hne, z⟩
      have hk0 : k ≤ 0 := by omega
      have ief : xs.isEmpty = false := by
        cases xs with
        | nil => exact absurd rfl hne
        | cons => rfl
      have c1 : (its.toArray.isEmpty || k == 1) = false := by
        rw [ie, ief]; simpa using hk1
      have c2 : (decide (k ≤ 0) || its.toArray.isEmpty) = true := by rw [decide_eq_true hk0]; rfl
      refine wpAny_binaryOp_repeat_ref (T := "tuple") (U := "int") (by decide) ⟨_, ho, rfl⟩ (fun s' => typeIs_int s' k t) noFill_tuple_mul F.fills_int_mul F.slot_int_rmul repeat_tuple F.slot_int_index.lookup
        (call_meets F.slot_int_rmul (typeIs_int s k t) F.entry_int_rmul (F.args_int_rmul_2 _ _) (int_rmul_tuple k t l its.toArray n dd sl)
          ⟨ho, rfl, ⟨_, ho, rfl⟩, call_meets F.slot_tuple_mul ⟨_, ho, rfl⟩ F.entry_tuple_mul (F.args_tuple_mul_2 _ _) (ev_tuple_mul_none l its.toArray n dd sl k t c0 c1 c2) ⟨ho, ?_⟩⟩)
      have e : (List.replicate k.toNat xs).flatten = [] := by rw [show k.toNat = 0 by omega]; rfl
      have q := q2 hne hk1
      rw [e] at q
      exact q.end_ I (its := []) .nil (Nat.zero_le _) s.toks
theorem ev_op_repL : OpR X (binaryOp .Mult) (fun x y H Q => ∃ l k xs, x = .ref l ∧ y = .int k ∧ SqL X.K H l xs ∧ -(2 ^ 63) ≤ k ∧ k < 2 ^ 63 ∧ xs.length * k.toNat ≤ sizeLine ∧
    ∀ p, H p = none → Q (.ref p) (upd H p (.lst (List.replicate k.toNat xs).flatten))) := by
  intro pins s σ H x y v u Q I rx ry h
  obtain ⟨l, k, xs, rfl, rfl, hT, h1, h2, hz, q⟩ := h
  cases rx
  obtain ⟨t, rfl⟩ := ry
  obtain ⟨its, r, ⟨⟨cls, dd, data, sl⟩, n, ho, hc, hdn, hd⟩, hs⟩ := I.list hT
  simp only at hc hd hdn
  subst hc hd hdn
  have hl := r.length
  have hlen : its.toArray.size * k.toNat ≤ sizeLine := by rw [List.size_toArray, ← hl]; exact hz
  have hcap : ¬ its.toArray.size * k.toNat > (2 ^ 63 - 1) / 8 := by
    have : (sizeLine : Nat) ≤ (2 ^ 63 - 1) / 8 := by decide
    omega
  have hfit : ¬ (!Builtin.List.listFitsIndex k) = true := by
    rw [fitsIndex_both h1 h2]
    exact Bool.false_ne_true
  have hlong : ¬ Builtin.List.listTooLong (its.toArray.size * k.toNat) = true := by
    rw [notLongL hlen]
    exact Bool.false_ne_true
  refine wpAny_binaryOp_repeat_ref (T := "list") (U := "int") (by decide) ⟨_, ho, rfl⟩ (fun s' => typeIs_int s' k t) noFill_list_mul F.fills_int_mul F.slot_int_rmul repeat_list F.slot_int_index.lookup
    (call_meets F.slot_int_rmul (typeIs_int s k t) F.entry_int_rmul (F.args_int_rmul_2 _ _) (lm_int_rmul_list_any k t l its.toArray n none sl)
      ⟨ho, rfl, ⟨_, ho, rfl⟩, call_meets F.slot_list_mul ⟨_, ho, rfl⟩ F.entry_list_mul (F.args_list_mul_2 _ _) (lm_list_mul_any l its.toArray n none sl k t hfit hcap hlong) ⟨ho, ?_⟩⟩)
  rw [PyProof.Rows.listMul_foldl_if]
  exact ⟨.ref _, _, I.lnew (t' := s.toks) (r.rep k.toNat) (by rw [PyProof.Rows.lm_len_rep_flat, Nat.mul_comm]; exact hz), rfl, q _ I.fresh⟩
end
end L2

set_option Elab.async false
set_option linter.all false
set_option maxRecDepth 100000
/-! Ev3b: comparisons, items, slices, built-in functions, by values. -/
namespace L2
open PySem PySem.Spec PyProof.Rows
theorem ev_lexAt {ns ms : List Int} {r : Int → Int → Bool} {z : Bool} {f : List Int → List Int → Bool} (hc : ∀ x y xs ys, f (x :: xs) (y :: ys) = if x = y then f xs ys else r x y)
    (hz : ∀ i, i = min ns.length ms.length → f (ns.drop i) (ms.drop i) = z) : ∀ (k i : Nat), i + k = min ns.length ms.length →
      Ob.lexAt (fun j => decide (ns.getD j 0 = ms.getD j 0)) (fun j => r (ns.getD j 0) (ms.getD j 0)) z i k = f (ns.drop i) (ms.drop i)
  | 0, i, h => by rw [Ob.lexAt_zero, hz i (by omega)]
  | k + 1, i, h => by
    have h1 : i < ns.length := by omega
    have h2 : i < ms.length := by omega
    rw [Ob.lexAt_succ, List.drop_eq_getElem_cons h1, List.drop_eq_getElem_cons h2, hc, ev_lexAt hc hz k (i + 1) (by omega)]
    have e1 : ns.getD i 0 = ns[i] := by simp [List.getD, h1]
    have e2 : ms.getD i 0 = ms[i] := by simp [List.getD, h2]
    rw [e1, e2]
    by_cases q : ns[i] = ms[i]
    · rw [if_pos q, if_pos (decide_eq_true q)]
    · rw [if_neg q, if_neg (by rw [decide_eq_false q]; exact Bool.false_ne_true)]
section
variable {X : Cx}
/-- two tuples of ints, in an order -/
theorem ev_ordT {op : CmpOp} {pins : List (Addr × Obj)} {σ : St} {H : Hp} {s : Shared} {a b : Addr} {ns ms : List Int} (I : Inv X pins σ H s) (ha : SqT X.K H a (ns.map V.int)) (hb : SqT X.K H b (ms.map V.int)) :
    ∃ (its its2 : Array Value), s.heap.IsTuple a its ∧ s.heap.IsTuple b its2 ∧ its.size = ns.length ∧ its2.size = ms.length ∧
      (∀ j (h1 : j < its.size) (h2 : j < its2.size), SeqAt.EqAt X.A.in1 s its[j] its2[j] (decide (ns.getD j 0 = ms.getD j 0))) ∧
      (∀ j (h1 : j < its.size), ∃ t, its[j] = .int (ns.getD j 0) t) ∧ (∀ j (h1 : j < its2.size), ∃ t, its2[j] = .int (ms.getD j 0) t) := by
  obtain ⟨its, r1, p1, _⟩ := I.tuple ha
  obtain ⟨its2, r2, p2, _⟩ := I.tuple hb
  have i1 : IntsAre its ns := Vals.ints r1
  have i2 : IntsAre its2 ms := Vals.ints r2
  have at1 : ∀ j (h1 : j < its.toArray.size), ∃ t, its.toArray[j] = .int (ns.getD j 0) t := fun j h1 => PyProof.Rows.IntsAre.int_at i1 _ _ (by simp at h1; simp [h1])
  have at2 : ∀ j (h1 : j < its2.toArray.size), ∃ t, its2.toArray[j] = .int (ms.getD j 0) t := fun j h1 => PyProof.Rows.IntsAre.int_at i2 _ _ (by simp at h1; simp [h1])
  refine ⟨its.toArray, its2.toArray, p1, p2, by rw [List.size_toArray]; exact i1.length, by rw [List.size_toArray]; exact i2.length, fun j h1 h2 => ?_, at1, at2⟩
  obtain ⟨t, et⟩ := at1 j h1
  obtain ⟨t', et'⟩ := at2 j h2
  rw [et, et']
  have z : (ns.getD j 0 == ms.getD j 0) = decide (ns.getD j 0 = ms.getD j 0) := by
    by_cases q : ns.getD j 0 = ms.getD j 0
    · rw [decide_eq_true q]; exact beq_iff_eq.mpr q
    · rw [decide_eq_false q]; exact beq_eq_false_iff_ne.mpr q
  rw [← z]
  exact SeqAt.EqAt.int_int _ _ _ _
def ev_rT (K : PySem.W.Frag) (f : List Int → List Int → Bool) : R2 := fun x y H Q => ∃ (a b : Addr) (ns ms : List Int), x = .ref a ∧ y = .ref b ∧ SqT K H a (ns.map V.int) ∧ SqT K H b (ms.map V.int) ∧ Q (.bl (f ns ms)) H
theorem ev_op_gtT (hu : X.A.units < cLine) {f : List Int → List Int → Bool} (hc : ∀ x y xs ys, f (x :: xs) (y :: ys) = if x = y then f xs ys else decide (y < x)) (h0 : ∀ ys, f [] ys = false) (h1 : ∀ x xs, f (x :: xs) [] = true) : OpR X (compareOp .Gt) (ev_rT X.K f) := by
  intro pins s σ H x y v u Q I rx ry h
  obtain ⟨a, b, ns, ms, rfl, rfl, ha, hb, q⟩ := h
  cases rx
  cases ry
  obtain ⟨its, its2, p1, p2, e1, e2, he, at1, at2⟩ := ev_ordT (op := .Gt) I ha hb
  have R := Ob.RcOp.tuples_gt (A := X.A) (s := s) (e := fun j => decide (ns.getD j 0 = ms.getD j 0)) (r := fun j => decide (ms.getD j 0 < ns.getD j 0)) p1 p2 hu he (fun j h1 h2 _ => by
    obtain ⟨t, et⟩ := at1 j h1
    obtain ⟨t', et'⟩ := at2 j h2
    rw [et, et']
    exact Ob.RcOp.gt_int _ _ _ _)
  rw [e1, e2, ev_lexAt (r := fun x y => decide (y < x)) hc (fun i hi => ?_) _ 0 (by omega)] at R
  · exact R X.prog X.w X.xe (EP X pins σ Q) ⟨.bl _, H, I, rfl, q⟩
  · by_cases z : ns.length ≤ ms.length
    · rw [List.drop_eq_nil_of_le (by omega), h0, decide_eq_false (by omega)]
    · rw [List.drop_eq_nil_of_le (as := ms) (by omega), List.drop_eq_getElem_cons (l := ns) (show i < ns.length by omega), h1, decide_eq_true (by omega)]
theorem ev_op_geT (hu : X.A.units < cLine) {f : List Int → List Int → Bool} (hc : ∀ x y xs ys, f (x :: xs) (y :: ys) = if x = y then f xs ys else decide (y ≤ x)) (h0 : ∀ xs, f xs [] = true) (h1 : ∀ x xs, f [] (x :: xs) = false) : OpR X (compareOp .GtE) (ev_rT X.K f) := by
  intro pins s σ H x y v u Q I rx ry h
  obtain ⟨a, b, ns, ms, rfl, rfl, ha, hb, q⟩ := h
  cases rx
  cases ry
  obtain ⟨its, its2, p1, p2, e1, e2, he, at1, at2⟩ := ev_ordT (op := .Gt) I ha hb
  have R := Ob.RcOp.tuples_ge (A := X.A) (s := s) (e := fun j => decide (ns.getD j 0 = ms.getD j 0)) (r := fun j => decide (ms.getD j 0 ≤ ns.getD j 0)) p1 p2 hu he (fun j h1 h2 _ => by
    obtain ⟨t, et⟩ := at1 j h1
    obtain ⟨t', et'⟩ := at2 j h2
    rw [et, et']
    exact Ob.RcOp.ge_int _ _ _ _)
  rw [e1, e2, ev_lexAt (r := fun x y => decide (y ≤ x)) hc (fun i hi => ?_) _ 0 (by omega)] at R
  · exact R X.prog X.w X.xe (EP X pins σ Q) ⟨.bl _, H, I, rfl, q⟩
  · by_cases z : ms.length ≤ ns.length
    · rw [List.drop_eq_nil_of_le (as := ms) (by omega), h0, decide_eq_true (by omega)]
    · rw [List.drop_eq_nil_of_le (as := ns) (by omega), List.drop_eq_getElem_cons (l := ms) (show i < ms.length by omega), h1, decide_eq_false (by omega)]
theorem ev_op_leT (hu : X.A.units < cLine) {f : List Int → List Int → Bool} (hc : ∀ x y xs ys, f (x :: xs) (y :: ys) = if x = y then f xs ys else decide (x ≤ y)) (h0 : ∀ ys, f [] ys = true) (h1 : ∀ x xs, f (x :: xs) [] = false) : OpR X (compareOp .LtE) (ev_rT X.K f) := by
  intro pins s σ H x y v u Q I rx ry h
  obtain ⟨a, b, ns, ms, rfl, rfl, ha, hb, q⟩ := h
  cases rx
  cases ry
  obtain ⟨its, its2, p1, p2, e1, e2, he, at1, at2⟩ := ev_ordT (op := .Gt) I ha hb
  have R := Ob.RcOp.tuples_le (A := X.A) (s := s) (e := fun j => decide (ns.getD j 0 = ms.getD j 0)) (r := fun j => decide (ns.getD j 0 ≤ ms.getD j 0)) p1 p2 hu he (fun j h1 h2 _ => by
    obtain ⟨t, et⟩ := at1 j h1
    obtain ⟨t', et'⟩ := at2 j h2
    rw [et, et']
    exact Ob.RcOp.le_int _ _ _ _)
  rw [e1, e2, ev_lexAt (r := fun x y => decide (x ≤ y)) hc (fun i hi => ?_) _ 0 (by omega)] at R
  · exact R X.prog X.w X.xe (EP X pins σ Q) ⟨.bl _, H, I, rfl, q⟩
  · by_cases z : ns.length ≤ ms.length
    · rw [List.drop_eq_nil_of_le (by omega), h0, decide_eq_true (by omega)]
    · rw [List.drop_eq_nil_of_le (as := ms) (by omega), List.drop_eq_getElem_cons (l := ns) (show i < ns.length by omega), h1, decide_eq_false (by omega)]
/-- x in a tuple -/
theorem ev_op_inT (hu : X.A.units + 65 < cLine) : OpR X (compareOp .In) (fun x y H Q => ∃ d ds, Dp X.K H x d ∧ Dp X.K H y (.tuple ds) ∧ SeqAt.shaped d = true ∧ SeqAt.shaped (.list ds) = true ∧ Q (.bl (ds.any fun z => PyData.eqv z d)) H) := by
  intro pins s σ H x y v u Q I rx ry h
  obtain ⟨d, ds, hd, he, sd, se, q⟩ := h
  obtain ⟨as, r1⟩ := Dp.reads I d x v hd rx
  obtain ⟨bs, r2⟩ := Dp.reads I (.tuple ds) y u he ry
  exact SeqAt.in_tuple_reads r2 r1 (SeqAt.canLay_of_shaped se) (SeqAt.canLay_of_shaped sd) (room_in_shaped sd hu) ⟨.bl _, H, I, rfl, q⟩
theorem ev_op_ninT (hu : X.A.units + 65 < cLine) : OpR X (compareOp .NotIn) (fun x y H Q => ∃ d ds, Dp X.K H x d ∧ Dp X.K H y (.tuple ds) ∧ SeqAt.shaped d = true ∧ SeqAt.shaped (.list ds) = true ∧ Q (.bl (!ds.any fun z => PyData.eqv z d)) H) := by
  intro pins s σ H x y v u Q I rx ry h
  obtain ⟨d, ds, hd, he, sd, se, q⟩ := h
  obtain ⟨as, r1⟩ := Dp.reads I d x v hd rx
  obtain ⟨bs, r2⟩ := Dp.reads I (.tuple ds) y u he ry
  exact SeqAt.notIn_tuple_reads r2 r1 (SeqAt.canLay_of_shaped se) (SeqAt.canLay_of_shaped sd) (room_in_shaped sd hu) ⟨.bl _, H, I, rfl, q⟩
end
end L2
namespace Ev
open PySem L2
section
variable {X : Cx}
theorem or_mulF : OpR X (binaryOp .Mult) (opRF X.K (binF .mul)) := by
  intro pins s σ H x y v u Q I rx ry ⟨M, d1, d2, ds, hb, q1, q2, e, g⟩
  cases d1 <;> cases d2 <;> simp only [binF] at e <;> try (first | (cases e; done) | (split at e <;> cases e; done))
  split at e <;> cases e
  rename_i h
  simp only [mulL, Bool.and_eq_true, decide_eq_true_eq] at h
  obtain ⟨l, xs, rfl, h1, r1⟩ := q1.list
  refine ev_op_repL pins s σ H _ _ v u Q I rx ry ⟨l, _, xs, rfl, q2.int, h1, h.1.1, h.1.2, by rw [r1.length]; exact h.2, fun p hp => g p _ _ rfl hp ?_⟩
  generalize Int.toNat _ = k
  induction k with
  | zero => exact .nil
  | succ k ih => rw [List.replicate_succ, List.replicate_succ]; exact r1.append ih
theorem Rps.rep {K : PySem.W.Frag} {H : Hp} {M : Addr → Prop} {ds : List D} {xs : List V} (r : Rps K H M ds xs) : ∀ k : Nat, Rps K H M (List.replicate k ds).flatten (List.replicate k xs).flatten
  | 0 => .nil
  | k + 1 => by rw [List.replicate_succ, List.replicate_succ]; exact r.append (Rps.rep r k)
theorem or_mul : OpR X (binaryOp .Mult) (opR X.K (binF .mul)) := by
  intro pins s σ H x y v u Q I rx ry ⟨M, d1, d2, d, hb, q1, q2, e, g⟩
  cases d1 with
  | int a =>
    cases d2 <;> simp only [binF] at e <;> try (cases e; done)
    split at e <;> cases e
    rename_i h
    simp only [mulOk, Bool.or_eq_true, Bool.and_eq_true, decide_eq_true_eq] at h
    exact op_mul pins s σ H x y v u Q I rx ry ⟨_, _, q1.int, q2.int, h, g.refl rp_int⟩
  | list as =>
    cases d2 <;> simp only [binF] at e <;> try (cases e; done)
    have e0 := e
    split at e <;> cases e
    exact or_mulF pins s σ H x y v u Q I rx ry ⟨M, _, _, _, hb, q1, q2, by simp only [binF]; exact e0, Gives.ofF hb g⟩
  | tuple as =>
    cases d2 <;> simp only [binF] at e <;> try (cases e; done)
    split at e <;> cases e
    rename_i k h
    simp only [mulT, Bool.and_eq_true, decide_eq_true_eq] at h
    obtain ⟨l, xs, rfl, h1, r1⟩ := q1.tup
    refine ev_op_repT pins s σ H _ _ v u Q I rx ry ⟨l, _, xs, rfl, q2.int, h1.sq, h.1.1, h.1.2, by rw [r1.length]; exact h.2, fun z => ?_, fun _ _ p us hp => ?_⟩
    · refine g.refl ?_
      rcases z with z | z
      · have ea : as = [] := by have := r1.length; rw [z] at this; exact List.eq_nil_of_length_eq_zero this.symm
        subst ea
        have e0 : (List.replicate k.toNat ([] : List D)).flatten = [] := by simp
        rw [e0]; exact rp_tup h1 r1
      · subst z
        have e0 : (List.replicate (1 : Int).toNat as).flatten = as := by simp
        rw [e0]; exact rp_tup h1 r1
    · exact g _ _ (Ev.same_new hp) (rp_newT hb hp (r1.rep _))
  | none => simp [binF] at e
  | bool _ => simp [binF] at e
  | str _ => simp [binF] at e
  | dict _ => simp [binF] at e
abbrev cmpD (o : Cop) (x y : D) : Option D := (cmpF o x y).map .bool
theorem cmpEq_ne {d1 d2 : D} (hi : ¬ ∃ a b, d1 = .int a ∧ d2 = .int b) : cmpEq d1 d2 = if shp d1 && shp d2 then some (PyData.eqv d1 d2) else none := by
  cases d1 <;> cases d2 <;> first | rfl | exact absurd ⟨_, _, rfl, rfl⟩ hi
theorem or_eq (hu : X.A.units + 64 < cLine) : OpR X (compareOp .Eq) (opR X.K (cmpD .eq)) := by
  intro pins s σ H x y v u Q I rx ry ⟨M, d1, d2, d, hb, q1, q2, e, g⟩
  by_cases hi : ∃ a b, d1 = .int a ∧ d2 = .int b
  · obtain ⟨a, b, rfl, rfl⟩ := hi
    simp only [cmpD, cmpF, cmpEq, Option.map_some, Option.some.injEq] at e
    subst e
    have z : decide (V.int a = V.int b) = decide (a = b) := by simp
    exact op_eq pins s σ H x y v u Q I rx ry ⟨by rw [q1.int, q2.int]; rfl, by rw [q1.int, q2.int, z]; exact g.refl rp_bool⟩
  · have e' : (if shp d1 && shp d2 then some (PyData.eqv d1 d2) else none).map PyData.bool = some d := by
      rw [← e]
      simp only [cmpD, cmpF]
      rw [cmpEq_ne hi]
    split at e'
    · rename_i h
      simp only [Bool.and_eq_true] at h
      simp only [Option.map_some, Option.some.injEq] at e'
      subst e'
      exact op_eqD hu pins s σ H x y v u Q I rx ry ⟨d1, d2, q1.dp h.1, q2.dp h.2, h.1, h.2, g.refl rp_bool⟩
    · cases e'
theorem or_ne (hu : X.A.units + 64 < cLine) : OpR X (compareOp .NotEq) (opR X.K (cmpD .ne)) := by
  intro pins s σ H x y v u Q I rx ry ⟨M, d1, d2, d, hb, q1, q2, e, g⟩
  by_cases hi : ∃ a b, d1 = .int a ∧ d2 = .int b
  · obtain ⟨a, b, rfl, rfl⟩ := hi
    simp only [cmpD, cmpF, cmpEq, Option.map_some, Option.some.injEq] at e
    subst e
    have z : decide (V.int a = V.int b) = decide (a = b) := by simp
    exact op_ne pins s σ H x y v u Q I rx ry ⟨by rw [q1.int, q2.int]; rfl, by rw [q1.int, q2.int, z]; exact g.refl rp_bool⟩
  · have e' : ((if shp d1 && shp d2 then some (PyData.eqv d1 d2) else none).map (!·)).map PyData.bool = some d := by
      rw [← e]
      simp only [cmpD, cmpF]
      rw [cmpEq_ne hi]
    split at e'
    · rename_i h
      simp only [Bool.and_eq_true] at h
      simp only [Option.map_some, Option.some.injEq] at e'
      subst e'
      exact op_neD hu pins s σ H x y v u Q I rx ry ⟨d1, d2, q1.dp h.1, q2.dp h.2, h.1, h.2, g.refl rp_bool⟩
    · cases e'
theorem lex_of {f : List Int → List Int → Bool} {a b : List D} {d : D} (e : (cmpLex f a b).map PyData.bool = some d) : ∃ x y, toInts a = some x ∧ toInts b = some y ∧ d = .bool (f x y) := by
  unfold cmpLex at e
  split at e
  · simp only [Option.map_some, Option.some.injEq] at e
    exact ⟨_, _, by assumption, by assumption, e.symm⟩
  · cases e
theorem or_lt (hu : X.A.units < cLine) : OpR X (compareOp .Lt) (opR X.K (cmpD .lt)) := by
  intro pins s σ H x y v u Q I rx ry ⟨M, d1, d2, d, hb, q1, q2, e, g⟩
  cases d1 <;> cases d2 <;> simp only [cmpD, cmpF] at e <;> try (cases e; done)
  · cases e
    exact op_lt pins s σ H x y v u Q I rx ry ⟨_, _, q1.int, q2.int, g.refl rp_bool⟩
  · obtain ⟨ns, ms, e1, e2, rfl⟩ := lex_of e
    obtain ⟨a, xs, rfl, l1, r1⟩ := q1.tup
    obtain ⟨b, ys, rfl, l2, r2⟩ := q2.tup
    rw [toInts_rps e1 r1] at l1
    rw [toInts_rps e2 r2] at l2
    exact op_ltT hu pins s σ H _ _ v u Q I rx ry ⟨a, b, _, _, rfl, rfl, l1.sq, l2.sq, g.refl rp_bool⟩
theorem or_gt (hu : X.A.units < cLine) : OpR X (compareOp .Gt) (opR X.K (cmpD .gt)) := by
  intro pins s σ H x y v u Q I rx ry ⟨M, d1, d2, d, hb, q1, q2, e, g⟩
  cases d1 <;> cases d2 <;> simp only [cmpD, cmpF] at e <;> try (cases e; done)
  · cases e
    exact op_gt pins s σ H x y v u Q I rx ry ⟨_, _, q1.int, q2.int, g.refl rp_bool⟩
  · obtain ⟨ns, ms, e1, e2, rfl⟩ := lex_of e
    obtain ⟨a, xs, rfl, l1, r1⟩ := q1.tup
    obtain ⟨b, ys, rfl, l2, r2⟩ := q2.tup
    rw [toInts_rps e1 r1] at l1
    rw [toInts_rps e2 r2] at l2
    refine ev_op_gtT (f := fun x y => HT.lexLt y x) hu (fun x y xs ys => ?_) (fun ys => by cases ys <;> rfl) (fun x xs => rfl) pins s σ H _ _ v u Q I rx ry ⟨a, b, _, _, rfl, rfl, l1.sq, l2.sq, g.refl rp_bool⟩
    show HT.lexLt (y :: ys) (x :: xs) = _
    rw [HT.lexLt_cons]
    by_cases z : x = y
    · rw [if_pos z, if_pos z.symm]
    · rw [if_neg z, if_neg (fun h => z h.symm)]
theorem lexLeq_cons (x y : Int) (xs ys : List Int) : lexLeq (x :: xs) (y :: ys) = if x = y then lexLeq xs ys else decide (x < y) := rfl
theorem or_le (hu : X.A.units < cLine) : OpR X (compareOp .LtE) (opR X.K (cmpD .le)) := by
  intro pins s σ H x y v u Q I rx ry ⟨M, d1, d2, d, hb, q1, q2, e, g⟩
  cases d1 <;> cases d2 <;> simp only [cmpD, cmpF] at e <;> try (cases e; done)
  · cases e
    exact op_le pins s σ H x y v u Q I rx ry ⟨_, _, q1.int, q2.int, g.refl rp_bool⟩
  · obtain ⟨ns, ms, e1, e2, rfl⟩ := lex_of e
    obtain ⟨a, xs, rfl, l1, r1⟩ := q1.tup
    obtain ⟨b, ys, rfl, l2, r2⟩ := q2.tup
    rw [toInts_rps e1 r1] at l1
    rw [toInts_rps e2 r2] at l2
    refine ev_op_leT (f := lexLeq) hu (fun x y xs ys => ?_) (fun ys => by cases ys <;> rfl) (fun x xs => rfl) pins s σ H _ _ v u Q I rx ry ⟨a, b, _, _, rfl, rfl, l1.sq, l2.sq, g.refl rp_bool⟩
    show lexLeq (x :: xs) (y :: ys) = _
    rw [lexLeq_cons]
    by_cases z : x = y
    · rw [if_pos z, if_pos z]
    · rw [if_neg z, if_neg z]
      congr 1
      exact propext ⟨fun h => by omega, fun h => by omega⟩
theorem or_ge (hu : X.A.units < cLine) : OpR X (compareOp .GtE) (opR X.K (cmpD .ge)) := by
  intro pins s σ H x y v u Q I rx ry ⟨M, d1, d2, d, hb, q1, q2, e, g⟩
  cases d1 <;> cases d2 <;> simp only [cmpD, cmpF] at e <;> try (cases e; done)
  · cases e
    exact op_ge pins s σ H x y v u Q I rx ry ⟨_, _, q1.int, q2.int, g.refl rp_bool⟩
  · obtain ⟨ns, ms, e1, e2, rfl⟩ := lex_of e
    obtain ⟨a, xs, rfl, l1, r1⟩ := q1.tup
    obtain ⟨b, ys, rfl, l2, r2⟩ := q2.tup
    rw [toInts_rps e1 r1] at l1
    rw [toInts_rps e2 r2] at l2
    refine ev_op_geT (f := fun x y => lexLeq y x) hu (fun x y xs ys => ?_) (fun ys => by cases ys <;> rfl) (fun x xs => rfl) pins s σ H _ _ v u Q I rx ry ⟨a, b, _, _, rfl, rfl, l1.sq, l2.sq, g.refl rp_bool⟩
    show lexLeq (y :: ys) (x :: xs) = _
    rw [lexLeq_cons]
    by_cases z : x = y
    · rw [if_pos z, if_pos z.symm]
    · rw [if_neg z, if_neg (fun h => z h.symm)]
      congr 1
      exact propext ⟨fun h => by omega, fun h => by omega⟩
theorem in_of {x : D} {ds : List D} {d : D} (e : (inD x ds).map PyData.bool = some d) : shp x = true ∧ shp (.list ds) = true ∧ d = .bool (ds.any fun z => PyData.eqv z x) := by
  unfold inD at e
  split at e
  · rename_i h
    simp only [Bool.and_eq_true] at h
    simp only [Option.map_some, Option.some.injEq] at e
    exact ⟨h.1, h.2, e.symm⟩
  · cases e
theorem nin_of {x : D} {ds : List D} {d : D} (e : ((inD x ds).map (!·)).map PyData.bool = some d) : shp x = true ∧ shp (.list ds) = true ∧ d = .bool (!ds.any fun z => PyData.eqv z x) := by
  unfold inD at e
  split at e
  · rename_i h
    simp only [Bool.and_eq_true] at h
    simp only [Option.map_some, Option.some.injEq] at e
    exact ⟨h.1, h.2, e.symm⟩
  · cases e
theorem shp_tup {ds : List D} (h : shp (.list ds) = true) : shp (.tuple ds) = true := by
  unfold shp at h ⊢
  simpa [SeqAt.shaped, PyData.canLay0, PyData.depth] using h
theorem or_in (hu : X.A.units + 65 < cLine) : OpR X (compareOp .In) (opR X.K (cmpD .in_)) := by
  intro pins s σ H x y v u Q I rx ry ⟨M, d1, d2, d, hb, q1, q2, e, g⟩
  cases d2 with
  | list ds =>
    have e' : (inD d1 ds).map PyData.bool = some d := by cases d1 <;> exact e
    obtain ⟨h1, h2, rfl⟩ := in_of e'
    exact op_inD hu pins s σ H x y v u Q I rx ry ⟨d1, ds, q1.dp h1, q2.dp h2, h1, h2, g.refl rp_bool⟩
  | tuple ds =>
    have e' : (inD d1 ds).map PyData.bool = some d := by cases d1 <;> exact e
    obtain ⟨h1, h2, rfl⟩ := in_of e'
    exact ev_op_inT hu pins s σ H x y v u Q I rx ry ⟨d1, ds, q1.dp h1, q2.dp (shp_tup h2), h1, h2, g.refl rp_bool⟩
  | none => cases d1 <;> cases e
  | bool _ => cases d1 <;> cases e
  | int _ => cases d1 <;> cases e
  | str _ => cases d1 <;> cases e
  | dict _ => cases d1 <;> cases e
theorem or_nin (hu : X.A.units + 65 < cLine) : OpR X (compareOp .NotIn) (opR X.K (cmpD .nin)) := by
  intro pins s σ H x y v u Q I rx ry ⟨M, d1, d2, d, hb, q1, q2, e, g⟩
  cases d2 with
  | list ds =>
    have e' : ((inD d1 ds).map (!·)).map PyData.bool = some d := by cases d1 <;> exact e
    obtain ⟨h1, h2, rfl⟩ := nin_of e'
    exact op_notInD hu pins s σ H x y v u Q I rx ry ⟨d1, ds, q1.dp h1, q2.dp h2, h1, h2, g.refl rp_bool⟩
  | tuple ds =>
    have e' : ((inD d1 ds).map (!·)).map PyData.bool = some d := by cases d1 <;> exact e
    obtain ⟨h1, h2, rfl⟩ := nin_of e'
    exact ev_op_ninT hu pins s σ H x y v u Q I rx ry ⟨d1, ds, q1.dp h1, q2.dp (shp_tup h2), h1, h2, g.refl rp_bool⟩
  | none => cases d1 <;> cases e
  | bool _ => cases d1 <;> cases e
  | int _ => cases d1 <;> cases e
  | str _ => cases d1 <;> cases e
  | dict _ => cases d1 <;> cases e
end
end Ev

set_option Elab.async false
set_option linter.all false
set_option maxRecDepth 100000
/-! Ev3c: items, slices, built-in functions, by values. -/
namespace Ev
open PySem L2
/-- a function of one value -/
def c1R (K : PySem.W.Frag) (o : D → Option D) : List V → Hp → VK → Prop := fun xs H Q => ∃ x, xs = [x] ∧ unR K o x H Q
def c1RF (K : PySem.W.Frag) (o : D → Option D) : List V → Hp → VK → Prop := fun xs H Q => ∃ x, xs = [x] ∧ unRF K o x H Q
def c2R (K : PySem.W.Frag) (o : D → D → Option D) : List V → Hp → VK → Prop := fun xs H Q => ∃ x y, xs = [x, y] ∧ opR K o x y H Q
theorem foldMax (ys : List Int) : ∀ x : Int, (ys.foldl max x ∈ x :: ys) ∧ ∀ z ∈ x :: ys, z ≤ ys.foldl max x := by
  induction ys with
  | nil => exact fun x => ⟨by simp, by simp⟩
  | cons y ys ih =>
    intro x
    rw [List.foldl_cons]
    obtain ⟨h1, h2⟩ := ih (max x y)
    have h3 := h2 (max x y) List.mem_cons_self
    have m1 : x ≤ max x y := Int.le_max_left x y
    have m2 : y ≤ max x y := Int.le_max_right x y
    refine ⟨?_, fun z hz => ?_⟩
    · rcases List.mem_cons.mp h1 with e | e
      · rw [e]
        by_cases q : x ≤ y
        · rw [Int.max_eq_right q]; simp
        · rw [Int.max_eq_left (by omega)]; simp
      · exact List.mem_cons_of_mem _ (List.mem_cons_of_mem _ e)
    · rcases List.mem_cons.mp hz with rfl | hz
      · omega
      · rcases List.mem_cons.mp hz with rfl | hz
        · omega
        · exact h2 z (List.mem_cons_of_mem _ hz)
theorem foldMin (ys : List Int) : ∀ x : Int, (ys.foldl min x ∈ x :: ys) ∧ ∀ z ∈ x :: ys, ys.foldl min x ≤ z := by
  induction ys with
  | nil => exact fun x => ⟨by simp, by simp⟩
  | cons y ys ih =>
    intro x
    rw [List.foldl_cons]
    obtain ⟨h1, h2⟩ := ih (min x y)
    have h3 := h2 (min x y) List.mem_cons_self
    have m1 : min x y ≤ x := Int.min_le_left x y
    have m2 : min x y ≤ y := Int.min_le_right x y
    refine ⟨?_, fun z hz => ?_⟩
    · rcases List.mem_cons.mp h1 with e | e
      · rw [e]
        by_cases q : x ≤ y
        · rw [Int.min_eq_left q]; simp
        · rw [Int.min_eq_right (by omega)]; simp
      · exact List.mem_cons_of_mem _ (List.mem_cons_of_mem _ e)
    · rcases List.mem_cons.mp hz with rfl | hz
      · omega
      · rcases List.mem_cons.mp hz with rfl | hz
        · omega
        · exact h2 z (List.mem_cons_of_mem _ hz)
theorem maxI_spec : ∀ {ns : List Int}, ns ≠ [] → maxI ns ∈ ns ∧ ∀ y ∈ ns, y ≤ maxI ns
  | [], h => absurd rfl h
  | x :: xs, _ => foldMax xs x
theorem minI_spec : ∀ {ns : List Int}, ns ≠ [] → minI ns ∈ ns ∧ ∀ y ∈ ns, minI ns ≤ y
  | [], h => absurd rfl h
  | x :: xs, _ => foldMin xs x
theorem maxI_eq {ns : List Int} (h : ns ≠ []) {m : Int} (h1 : m ∈ ns) (h2 : ∀ y ∈ ns, y ≤ m) : m = maxI ns := by
  have a := (maxI_spec h).2 m h1
  have b := h2 _ (maxI_spec h).1
  omega
theorem minI_eq {ns : List Int} (h : ns ≠ []) {m : Int} (h1 : m ∈ ns) (h2 : ∀ y ∈ ns, m ≤ y) : m = minI ns := by
  have a := (minI_spec h).2 m h1
  have b := h2 _ (minI_spec h).1
  omega
section
variable {X : Cx}
theorem cr_len : CallR X (.builtin "len") (c1R X.K (p1F .len)) := by
  intro pins s σ H xs us Q I r ⟨x, e1, M, d1, d, hb, q1, e, g⟩
  subst e1
  cases d1 <;> simp only [p1F] at e <;> try (cases e; done)
  · split at e <;> cases e
    cases q1.str
    exact call_len_str pins s σ H _ us Q I r ⟨_, rfl, by assumption, g.refl rp_int⟩
  · cases e
    obtain ⟨a, ys, rfl, l, rr⟩ := q1.list
    refine call_len_seq pins s σ H _ us Q I r ⟨a, ys, rfl, .inl l, ?_⟩
    rw [rr.length]; exact g.refl rp_int
  · cases e
    obtain ⟨a, ys, rfl, l, rr⟩ := q1.tup
    refine call_len_seq pins s σ H _ us Q I r ⟨a, ys, rfl, .inr l.sq, ?_⟩
    rw [rr.length]; exact g.refl rp_int
theorem cr_tuple : CallR X (.type "tuple") (c1R X.K (p1F .tuple)) := by
  intro pins s σ H xs us Q I r ⟨x, e1, M, d1, d, hb, q1, e, g⟩
  subst e1
  cases d1 <;> simp only [p1F] at e <;> try (cases e; done)
  · cases e
    obtain ⟨a, ys, rfl, l, rr⟩ := q1.list
    exact call_tupleF pins s σ H _ us Q I r ⟨a, ys, rfl, l, fun p us hp => g _ _ (Ev.same_new hp) (rp_newT hb hp rr)⟩
  · cases e
    obtain ⟨a, ys, rfl, l, rr⟩ := q1.tup
    exact call_tuple_of pins s σ H _ us Q I r ⟨a, ys, rfl, .inr ⟨l.sq, g.refl (rp_tup l rr)⟩⟩
theorem cr_listF : CallR X (.type "list") (c1RF X.K (p1F .list)) := by
  intro pins s σ H xs us Q I r ⟨x, e1, M, d1, ds, hb, q1, e, g⟩
  subst e1
  cases d1 <;> simp only [p1F] at e <;> try (cases e; done)
  · cases e
    obtain ⟨a, ys, rfl, l, rr⟩ := q1.list
    exact call_list_of pins s σ H _ us Q I r ⟨a, ys, rfl, .inl l, fun p hp => g p _ _ rfl hp rr⟩
  · cases e
    obtain ⟨a, ys, rfl, l, rr⟩ := q1.tup
    exact call_list_of pins s σ H _ us Q I r ⟨a, ys, rfl, .inr l.sq, fun p hp => g p _ _ rfl hp rr⟩
theorem p1_list {d1 d : D} (e : p1F .list d1 = some d) : ∃ ds, d = .list ds := by
  cases d1 <;> simp only [p1F] at e <;> cases e <;> exact ⟨_, rfl⟩
theorem cr_list : CallR X (.type "list") (c1R X.K (p1F .list)) := by
  intro pins s σ H xs us Q I r ⟨x, e1, M, d1, d, hb, q1, e, g⟩
  obtain ⟨ds, rfl⟩ := p1_list e
  exact cr_listF pins s σ H xs us Q I r ⟨x, e1, M, d1, ds, hb, q1, e, Gives.ofF hb g⟩
theorem cr_int : CallR X (.type "int") (c1R X.K (p1F .int)) := by
  intro pins s σ H xs us Q I r ⟨x, e1, M, d1, d, hb, q1, e, g⟩
  subst e1
  cases d1 <;> simp only [p1F] at e <;> try (cases e; done)
  · cases e
    exact call_int1 pins s σ H _ us Q I r (.inr ⟨_, by rw [q1.bool], g.refl rp_int⟩)
  · cases e
    exact call_int1 pins s σ H _ us Q I r (.inl ⟨_, by rw [q1.int], g.refl rp_int⟩)
theorem cr_absI : CallR X (.builtin "abs") (c1R X.K (p1F .abs)) := by
  intro pins s σ H xs us Q I r ⟨x, e1, M, d1, d, hb, q1, e, g⟩
  subst e1
  cases d1 <;> simp only [p1F] at e <;> cases e
  rename_i i
  refine call_abs pins s σ H _ us Q I r ⟨i, by rw [q1.int], ?_⟩
  have z : (if i < 0 then -i else i) = (i.natAbs : Int) := by split <;> omega
  rw [z]; exact g.refl rp_int
/-! sum, max, min of a tuple of ints -/
section
open PyProof.Rows
theorem reads_ints {h : Heap} : ∀ {us : List Value} {ns : List Int}, IntsAre us ns → ∃ as, ReadsAll h us (ns.map .int) as
  | _, _, .nil => ⟨_, .nil⟩
  | _, _, .cons i t r => by
    obtain ⟨as, q⟩ := reads_ints r
    exact ⟨_, .cons (.int i t) q⟩
theorem alike_ints (ns : List Int) : PySem.W.AlikeAll (ns.map PyData.int) := by
  refine ⟨fun x hx y hy => ?_, fun x hx => ?_⟩
  · obtain ⟨i, _, rfl⟩ := List.mem_map.mp hx
    obtain ⟨j, _, rfl⟩ := List.mem_map.mp hy
    rfl
  · obtain ⟨i, _, rfl⟩ := List.mem_map.mp hx
    exact fun z => by cases z
theorem depth_ints : ∀ ns : List Int, PyData.depthAll (ns.map PyData.int) = 0
  | [] => rfl
  | n :: ns => by
    show max (PyData.depth (.int n)) (PyData.depthAll (ns.map PyData.int)) = 0
    rw [depth_ints ns]
    rfl
theorem cr_sumT (hc : X.calm = true) : CallR X (.builtin "sum") (fun vs H Q => ∃ (a : Addr) (ns : List Int), vs = [V.ref a] ∧ SqT X.K H a (ns.map V.int) ∧ Q (.int ns.sum) H) := by
  intro pins s σ H vs us Q I r h
  obtain ⟨a, ns, rfl, hs, q⟩ := h
  obtain ⟨its, rv, hl, _⟩ := I.tuple hs
  rw [Vals.ref1 r]
  have hi := rv.ints
  obtain ⟨xs, e⟩ := hi.allInts.items
  have hn : numsOf (intItems xs).toList = ns := by rw [← e]; exact hi.numsOf
  rw [nums_intItems] at hn
  have hl : s.heap.IsTuple a its.toArray := hl
  rw [e] at hl
  refine PySem.W.ktm_sumG (I.ok.hd hc) hl fun h' tk t' hk => ?_
  refine ⟨.int ns.sum, H, I.kept hk, ⟨t', ?_⟩, q⟩
  rw [preSum_eq, List.take_of_length_le (by simp), hn]
theorem cr_maxT (hc : X.calm = true) (hu : X.A.units + 4 < cLine) : CallR X (.builtin "max") (fun vs H Q => ∃ (a : Addr) (ns : List Int), vs = [V.ref a] ∧ SqT X.K H a (ns.map V.int) ∧ ns ≠ [] ∧ Q (.int (maxI ns)) H) := by
  intro pins s σ H vs us Q I r h
  obtain ⟨a, ns, rfl, hs, hn, q⟩ := h
  obtain ⟨its, rv, hl, _⟩ := I.tuple hs
  rw [Vals.ref1 r]
  have hi := rv.ints
  obtain ⟨as, hr⟩ := reads_ints (h := s.heap) hi
  cases ns with
  | nil => exact absurd rfl hn
  | cons n ns =>
    have d0 : PyData.depthAll (PyData.int n :: ns.map PyData.int) = 0 := depth_ints (n :: ns)
    refine PySem.W.max_tuple_data (x := .int n) (xs := ns.map .int) (I.ok.hd hc) (show s.heap.IsTuple a its.toArray from hl) hr (alike_ints (n :: ns)) (by rw [d0]; omega) fun i v h' tk bs _ rd hk => ?_
    rw [PySem.W.maxD_ints] at rd
    cases rd
    exact ⟨.int _, H, I.kept hk, ⟨_, rfl⟩, q⟩
theorem cr_minT (hc : X.calm = true) (hu : X.A.units + 4 < cLine) : CallR X (.builtin "min") (fun vs H Q => ∃ (a : Addr) (ns : List Int), vs = [V.ref a] ∧ SqT X.K H a (ns.map V.int) ∧ ns ≠ [] ∧ Q (.int (minI ns)) H) := by
  intro pins s σ H vs us Q I r h
  obtain ⟨a, ns, rfl, hs, hn, q⟩ := h
  obtain ⟨its, rv, hl, _⟩ := I.tuple hs
  rw [Vals.ref1 r]
  have hi := rv.ints
  obtain ⟨as, hr⟩ := reads_ints (h := s.heap) hi
  cases ns with
  | nil => exact absurd rfl hn
  | cons n ns =>
    have d0 : PyData.depthAll (PyData.int n :: ns.map PyData.int) = 0 := depth_ints (n :: ns)
    refine PySem.W.min_tuple_data (x := .int n) (xs := ns.map .int) (I.ok.hd hc) (show s.heap.IsTuple a its.toArray from hl) hr (alike_ints (n :: ns)) (by rw [d0]; omega) fun i v h' tk bs _ rd hk => ?_
    rw [PySem.W.minD_ints] at rd
    cases rd
    exact ⟨.int _, H, I.kept hk, ⟨_, rfl⟩, q⟩
end
theorem cr_sumI (hc : X.calm = true) : CallR X (.builtin "sum") (c1R X.K (p1F .sum)) := by
  intro pins s σ H xs us Q I r ⟨x, e1, M, d1, d, hb, q1, e, g⟩
  subst e1
  cases d1 <;> simp only [p1F] at e <;> try (cases e; done)
  case tuple ds =>
    cases e2 : toInts ds with
    | none => rw [e2] at e; cases e
    | some ns =>
      rw [e2] at e; cases e
      obtain ⟨a, ys, rfl, l, rr⟩ := q1.tup
      have l := l.sq
      rw [toInts_rps e2 rr] at l
      exact cr_sumT hc pins s σ H _ us Q I r ⟨a, ns, rfl, l, g.refl rp_int⟩
  rename_i ds
  cases e2 : toInts ds with
  | none => rw [e2] at e; cases e
  | some ns =>
    rw [e2] at e; cases e
    obtain ⟨a, ys, rfl, l, rr⟩ := q1.list
    rw [toInts_rps e2 rr] at l
    exact cr_sum hc pins s σ H _ us Q I r ⟨a, ns, rfl, l, g.refl rp_int⟩
theorem cr_maxI (hc : X.calm = true) (hu : X.A.units + 4 < cLine) : CallR X (.builtin "max") (c1R X.K (p1F .max)) := by
  intro pins s σ H xs us Q I r ⟨x, e1, M, d1, d, hb, q1, e, g⟩
  subst e1
  cases d1 <;> simp only [p1F] at e <;> try (cases e; done)
  case tuple ds =>
    cases e2 : toInts ds with
    | none => rw [e2] at e; cases e
    | some ns =>
      rw [e2] at e
      simp only [Option.bind_some] at e
      split at e <;> cases e
      rename_i hn
      obtain ⟨a, ys, rfl, l, rr⟩ := q1.tup
      have l := l.sq
      rw [toInts_rps e2 rr] at l
      exact cr_maxT hc hu pins s σ H _ us Q I r ⟨a, ns, rfl, l, hn, g.refl rp_int⟩
  rename_i ds
  cases e2 : toInts ds with
  | none => rw [e2] at e; cases e
  | some ns =>
    rw [e2] at e
    simp only [Option.bind_some] at e
    split at e <;> cases e
    rename_i hn
    obtain ⟨a, ys, rfl, l, rr⟩ := q1.list
    rw [toInts_rps e2 rr] at l
    refine cr_max hc pins s σ H _ us Q I r ⟨a, ns, rfl, l, List.length_pos_iff.mpr hn, fun m h1 h2 => ?_⟩
    rw [maxI_eq hn h1 h2]; exact g.refl rp_int
theorem cr_minI (hc : X.calm = true) (hu : X.A.units + 4 < cLine) : CallR X (.builtin "min") (c1R X.K (p1F .min)) := by
  intro pins s σ H xs us Q I r ⟨x, e1, M, d1, d, hb, q1, e, g⟩
  subst e1
  cases d1 <;> simp only [p1F] at e <;> try (cases e; done)
  case tuple ds =>
    cases e2 : toInts ds with
    | none => rw [e2] at e; cases e
    | some ns =>
      rw [e2] at e
      simp only [Option.bind_some] at e
      split at e <;> cases e
      rename_i hn
      obtain ⟨a, ys, rfl, l, rr⟩ := q1.tup
      have l := l.sq
      rw [toInts_rps e2 rr] at l
      exact cr_minT hc hu pins s σ H _ us Q I r ⟨a, ns, rfl, l, hn, g.refl rp_int⟩
  rename_i ds
  cases e2 : toInts ds with
  | none => rw [e2] at e; cases e
  | some ns =>
    rw [e2] at e
    simp only [Option.bind_some] at e
    split at e <;> cases e
    rename_i hn
    obtain ⟨a, ys, rfl, l, rr⟩ := q1.list
    rw [toInts_rps e2 rr] at l
    refine cr_min hc pins s σ H _ us Q I r ⟨a, ns, rfl, l, List.length_pos_iff.mpr hn, fun m h1 h2 => ?_⟩
    rw [minI_eq hn h1 h2]; exact g.refl rp_int
theorem cr_anyB (hc : X.calm = true) : CallR X (.builtin "any") (c1R X.K (p1F .any)) := by
  intro pins s σ H xs us Q I r ⟨x, e1, M, d1, d, hb, q1, e, g⟩
  subst e1
  cases d1 <;> simp only [p1F] at e <;> try (cases e; done)
  rename_i ds
  cases e2 : toBools ds with
  | none => rw [e2] at e; cases e
  | some ns =>
    rw [e2] at e; cases e
    obtain ⟨a, ys, rfl, l, rr⟩ := q1.list
    rw [toBools_rps e2 rr] at l
    exact cr_any hc pins s σ H _ us Q I r ⟨a, ns, rfl, l, g.refl rp_bool⟩
theorem cr_allB (hc : X.calm = true) : CallR X (.builtin "all") (c1R X.K (p1F .all)) := by
  intro pins s σ H xs us Q I r ⟨x, e1, M, d1, d, hb, q1, e, g⟩
  subst e1
  cases d1 <;> simp only [p1F] at e <;> try (cases e; done)
  rename_i ds
  cases e2 : toBools ds with
  | none => rw [e2] at e; cases e
  | some ns =>
    rw [e2] at e; cases e
    obtain ⟨a, ys, rfl, l, rr⟩ := q1.list
    rw [toBools_rps e2 rr] at l
    exact cr_all hc pins s σ H _ us Q I r ⟨a, ns, rfl, l, g.refl rp_bool⟩
theorem cr_max2I (hc : X.calm = true) : CallR X (.builtin "max") (c2R X.K (p2F .max)) := by
  intro pins s σ H xs us Q I r ⟨x, y, e1, M, d1, d2, d, hb, q1, q2, e, g⟩
  subst e1
  cases d1 <;> cases d2 <;> simp only [p2F] at e <;> cases e
  exact call_max2 hc pins s σ H _ us Q I r ⟨_, _, by rw [q1.int, q2.int], g.refl rp_int⟩
theorem cr_min2I (hc : X.calm = true) : CallR X (.builtin "min") (c2R X.K (p2F .min)) := by
  intro pins s σ H xs us Q I r ⟨x, y, e1, M, d1, d2, d, hb, q1, q2, e, g⟩
  subst e1
  cases d1 <;> cases d2 <;> simp only [p2F] at e <;> cases e
  exact call_min2 hc pins s σ H _ us Q I r ⟨_, _, by rw [q1.int, q2.int], g.refl rp_int⟩
/-- o[i] -/
theorem atI_rps {K : PySem.W.Frag} {H : Hp} {M : Addr → Prop} {ds : List D} {xs : List V} {i : Int} {d : D} (r : Rps K H M ds xs) (e : atI ds i = some d) : ∃ x, atI xs i = some x ∧ Rp K H M d x := by
  unfold atI at e ⊢
  rw [r.length]
  cases h : ixN ds.length i with
  | none => rw [h] at e; cases e
  | some j => rw [h] at e; exact r.get (i := j) e
theorem ix_all : IxR X (opR X.K idxF) := by
  intro va sl pins s σ H x y v u Q I rx ry ⟨M, d1, d2, d, hb, q1, q2, e, g⟩ hp
  cases d2 with
  | int i =>
    cases d1 with
    | list ds =>
      obtain ⟨a, xs, rfl, l, rr⟩ := q1.list
      obtain ⟨z, e2, rz⟩ := atI_rps rr e
      exact ix_list va sl pins s σ H _ _ v u Q I rx ry ⟨a, xs, i, z, rfl, q2.int, l, e2, g.refl rz⟩ hp
    | tuple ds =>
      obtain ⟨a, xs, rfl, l, rr⟩ := q1.tup
      obtain ⟨z, e2, rz⟩ := atI_rps rr e
      exact ix_tup va sl pins s σ H _ _ v u Q I rx ry ⟨a, xs, i, z, rfl, q2.int, l.sq, e2, g.refl rz⟩ hp
    | str z =>
      simp only [idxF] at e
      split at e
      · cases e2 : atI z.cps.toList i with
        | none => rw [e2] at e; cases e
        | some c =>
          rw [e2] at e; cases e
          exact ix_str va sl pins s σ H _ _ v u Q I rx ry ⟨z, i, c, q1.str, q2.int, by assumption, e2, g.refl rp_str⟩ hp
      · cases e
    | none => cases e
    | bool _ => cases e
    | int _ => cases e
    | dict _ => cases e
  | none => cases d1 <;> cases e
  | bool _ => cases d1 <;> cases e
  | str _ => cases d1 <;> cases e
  | list _ => cases d1 <;> cases e
  | tuple _ => cases d1 <;> cases e
  | dict _ => cases d1 <;> cases e
/-- o[lo:hi] -/
def slR (K : PySem.W.Frag) : V → Option Int → Option Int → Hp → VK → Prop := fun x lo hi H Q => unR K (slcF lo hi) x H Q
def slRF (K : PySem.W.Frag) : V → Option Int → Option Int → Hp → VK → Prop := fun x lo hi H Q => unRF K (slcF lo hi) x H Q
theorem sl_allF : SlR X (slRF X.K) := by
  intro pins s σ H x v vl vu lo hi sl Q I rx hs pl pu ⟨M, d1, ds, hb, q1, e, g⟩
  cases d1 <;> simp only [slcF] at e <;> try (cases e; done)
  · split at e <;> cases e
  · cases e
    obtain ⟨a, xs, rfl, l, rr⟩ := q1.list
    exact sl_list pins s σ H _ v vl vu lo hi sl Q I rx hs pl pu ⟨a, xs, rfl, l, fun p hp => g p _ _ rfl hp (cut_length _ _ lo hi rr.length rr)⟩
theorem cut_whole {ds : List D} {lo hi : Option Int} (h : HT.sIx ds.length 0 lo = 0 ∧ HT.sIx ds.length ds.length hi = ds.length) : cutD ds lo hi = ds := by
  unfold cutD
  rw [h.1, h.2]
  simp
theorem sl_all : SlR X (slR X.K) := by
  intro pins s σ H x v vl vu lo hi sl Q I rx hs pl pu ⟨M, d1, d, hb, q1, e, g⟩
  cases d1 with
  | list ds =>
    cases e
    exact sl_allF pins s σ H x v vl vu lo hi sl Q I rx hs pl pu ⟨M, _, _, hb, q1, rfl, Gives.ofF hb g⟩
  | tuple ds =>
    cases e
    obtain ⟨a, xs, rfl, l, rr⟩ := q1.tup
    refine sl_tupF pins s σ H _ v vl vu lo hi sl Q I rx hs pl pu ⟨a, xs, rfl, l.sq, fun h => ?_, fun _ p us hp => g _ _ (Ev.same_new hp) (rp_newT hb hp (cut_length _ _ lo hi rr.length rr))⟩
    rw [rr.length] at h
    rw [cut_whole h] at g
    exact g.refl (rp_tup l rr)
  | str z =>
    simp only [slcF] at e
    split at e <;> cases e
    exact sl_str pins s σ H x v vl vu lo hi sl Q I rx hs pl pu ⟨z, q1.str, by assumption, g.refl rp_str⟩
  | none => cases e
  | bool _ => cases e
  | int _ => cases e
  | dict _ => cases e
end
end Ev

set_option Elab.async false
set_option linter.all false
set_option maxRecDepth 100000
/-! Ev3d: isinstance, sorted. -/
namespace Ev
open PySem L2
def Ty.name : Ty → String
  | .int => "int" | .bool => "bool" | .str => "str" | .tuple => "tuple" | .list => "list" | .dict => "dict"
def tyName : D → String
  | .none => "NoneType" | .bool _ => "bool" | .int _ => "int" | .str _ => "str" | .list _ => "list" | .tuple _ => "tuple" | .dict _ => "dict"
theorem kit_all (d : D) (t : Ty) : kitB (tyName d) t.name = some (isTy d t) := by
  cases d <;> cases t <;> first | rfl | decide +kernel
theorem sql_cls {K : PySem.W.Frag} {a : Addr} {xs : List V} (h : SqL K NoH a xs) : ∃ o, K.lookup a = some o ∧ o.cls = .type "list" := by
  rcases h with (h | ⟨_, h⟩) | ⟨o, its, n, e, c, _⟩
  · cases h
  · cases h
  · exact ⟨o, e, c⟩
theorem sqt_cls {K : PySem.W.Frag} {a : Addr} {xs : List V} (h : SqT K NoH a xs) : ∃ o, K.lookup a = some o ∧ o.cls = .type "tuple" := by
  rcases h with (h | ⟨_, h⟩) | ⟨o, its, n, e, c, _⟩
  · cases h
  · cases h
  · exact ⟨o, e, c⟩
theorem rq_ty {K : PySem.W.Frag} {H : Hp} {M : Addr → Prop} {d : D} {v : V} (h : Rq K H M d v) : TyX K H v (.type (tyName d)) := by
  cases d with
  | none => cases h.none; exact .base .non
  | bool b => cases h.bool; exact .base (.bl b)
  | int b => cases h.int; exact .base (.int b)
  | str b => cases h.str; exact .base (.str b)
  | list ds =>
    rcases h with h | ⟨a, e, xs, l, r⟩
    · obtain ⟨a, xs, rfl, l, r⟩ := h.lst
      rcases l with ⟨l | ⟨o, l⟩, _⟩ | l
      · exact .base (.lst l)
      · exact .base (.frz l)
      · obtain ⟨o, e, c⟩ := sql_cls l; exact .kList e c
    · subst e; exact .base (.lst l)
  | tuple ds =>
    obtain ⟨a, xs, rfl, l, r⟩ := h.tup
    rcases l with ⟨us, l, _⟩ | ⟨o, its, n, e, c, _⟩
    · exact .fTuple l
    · exact .kTuple e c
  | dict kvs =>
    obtain ⟨a, ks, rfl, l, r⟩ := h.dict
    exact .base (.dK l)
section
variable {X : Cx}
theorem cr_isi : CallR X (.builtin "isinstance") (fun xs H Q => ∃ x t, xs = [x, .ty (Ty.name t)] ∧ unR X.K (fun d => some (.bool (isTy d t))) x H Q) := by
  intro pins s σ H xs us Q I r ⟨x, t, e1, M, d1, d, hb, q1, e, g⟩
  cases e
  exact call_isi pins s σ H xs us Q I r ⟨x, _, _, _, _, e1, .ty _, rq_ty q1, kit_ty (kit_all d1 t), g.refl rp_bool⟩
/-- sorted(xs): ints, or tuples of ints -/
theorem each_of {K : PySem.W.Frag} {H : Hp} {M : Addr → Prop} : ∀ {ds : List D} {xs : List V} {us : List Value}, Rps K H M ds xs → Vals xs us → PySem.W.EachIs (fun u d => ∃ x, RelV x u ∧ Rp K H M d x) us ds
  | [], xs, us, r, v => by simp only [Rps] at r; subst r; cases v; exact .nil
  | d :: ds, xs, us, r, v => by
    obtain ⟨x, t, rfl, p, q⟩ := r.uncons
    cases v with
    | cons a b => exact .cons ⟨x, a, p⟩ (each_of q b)
theorem of_each {K : PySem.W.Frag} {H : Hp} {M : Addr → Prop} : ∀ {ds : List D} {us : List Value}, PySem.W.EachIs (fun u d => ∃ x, RelV x u ∧ Rp K H M d x) us ds → ∃ xs, Vals xs us ∧ Rps K H M ds xs
  | _, _, .nil => ⟨[], .nil, .nil⟩
  | _, _, .cons ⟨x, a, p⟩ t => by
    obtain ⟨xs, h1, h2⟩ := of_each t
    exact ⟨x :: xs, .cons a h1, .cons p h2⟩
theorem alikeInts : ∀ {ds es : List D} {ns ms : List Int}, toInts ds = some ns → toInts es = some ms → PySem.W.alikeAll ds es = true := fun h1 h2 => by
  rw [toInts_eq h1, toInts_eq h2]; exact PySem.W.alike_ints _ _
theorem rowOk_spec {d : D} (h : rowOk d = true) : ∃ x r ns, d = .tuple (x :: r) ∧ toInts (x :: r) = some ns := by
  unfold rowOk at h
  split at h
  · rename_i x r
    cases e : toInts (x :: r) with
    | none => rw [e] at h; cases h
    | some ns => exact ⟨x, r, ns, rfl, e⟩
  · cases h
theorem lay_ints (ns : List Int) : PyData.canLayAll0 (ns.map PyData.int) = true := by
  induction ns with
  | nil => rfl
  | cons n ns ih => simp [PyData.canLayAll0, PyData.canLay0, ih]
/-- what may be sorted: alike, with keys, flat, layable -/
theorem sort_facts {ds : List D} (h : (toInts ds).isSome = true ∨ ds.all rowOk = true) : PySem.W.AllAlike ds ∧ PySem.W.Sortable ds ∧ PyData.canLayAll0 ds = true ∧ ∀ d ∈ ds, d.depth ≤ 1 := by
  rcases h with h | h
  · cases e : toInts ds with
    | none => rw [e] at h; cases h
    | some ns =>
      have e' := toInts_eq e
      subst e'
      refine ⟨fun d hd d' hd' => ?_, .inr fun d hd => ?_, lay_ints ns, fun d hd => ?_⟩
      · obtain ⟨a, _, rfl⟩ := List.mem_map.mp hd
        obtain ⟨b, _, rfl⟩ := List.mem_map.mp hd'
        rfl
      · obtain ⟨a, _, rfl⟩ := List.mem_map.mp hd
        exact ⟨nofun, nofun⟩
      · obtain ⟨a, _, rfl⟩ := List.mem_map.mp hd
        exact Nat.zero_le _
  · have hall : ∀ d ∈ ds, ∃ x r ns, d = .tuple (x :: r) ∧ toInts (x :: r) = some ns := fun d hd => rowOk_spec (List.all_eq_true.mp h d hd)
    refine ⟨fun d hd d' hd' => ?_, .inl fun d hd => ?_, ?_, fun d hd => ?_⟩
    · obtain ⟨x, r, ns, rfl, e⟩ := hall d hd
      obtain ⟨x', r', ns', rfl, e'⟩ := hall d' hd'
      exact alikeInts e e'
    · obtain ⟨x, r, ns, rfl, e⟩ := hall d hd
      exact ⟨x, r, rfl⟩
    · clear h
      induction ds with
      | nil => rfl
      | cons d ds ih =>
        obtain ⟨x, r, ns, rfl, e⟩ := hall d List.mem_cons_self
        rw [PyData.canLayAll0, ih fun d hd => hall d (List.mem_cons_of_mem _ hd), toInts_eq e]
        simp only [PyData.canLay0, lay_ints, Bool.and_self]
    · obtain ⟨x, r, ns, rfl, e⟩ := hall d hd
      rw [toInts_eq e]
      simp [PyData.depth, PySem.W.depth_ints]
theorem readsAll_eachD {h : Heap} : ∀ {ds : List D} {us : List Value} {as : List Addr}, ReadsAll h us ds as → PySem.W.EachIs (fun v b => ∃ as, Reads h v (id b) as) us ds
  | [], _, _, r => by cases r; exact .nil
  | d :: ds, _, _, r => by
    cases r with
    | cons h1 h2 => exact .cons ⟨_, h1⟩ (readsAll_eachD h2)
theorem perm_few {α : Type} : ∀ {l m : List α}, l.Perm m → m.length ≤ 1 → l = m
  | l, [], p, _ => List.perm_nil.mp p
  | l, [u], p, _ => List.perm_singleton.mp p
  | _, _ :: _ :: _, _, h => absurd h (by simp)
theorem sort_few : ∀ {ds : List D}, ds.length ≤ 1 → ds.mergeSort dLe = ds
  | [], _ => List.mergeSort_nil
  | [d], _ => List.mergeSort_singleton d
  | _ :: _ :: _, h => absurd h (by simp)
theorem sortOk_two {ds : List D} (h : sortOk ds = true) (h2 : 2 ≤ ds.length) : (toInts ds).isSome = true ∨ ds.all rowOk = true := by
  cases ds with
  | nil => simp at h2
  | cons d1 r =>
    cases r with
    | nil => simp at h2
    | cons d2 r => exact Bool.or_eq_true_iff.mp h
set_option maxHeartbeats 1000000 in
theorem cr_sortedD (hu : X.A.units + 4 < cLine) : CallR X (.builtin "sorted") (c1RF X.K (p1F .sorted)) := by
  intro pins s σ H xs us Q I r ⟨x, e1, M, d1, es, hb, q1, e, g⟩
  subst e1
  cases d1 <;> simp only [p1F] at e <;> try (cases e; done)
  rename_i ds
  split at e
  · rename_i hs
    cases e
    simp only [Bool.and_eq_true, decide_eq_true_eq] at hs
    obtain ⟨a, ys, rfl, l, rr⟩ := q1.list
    obtain ⟨its, rv, hl, hz⟩ := I.list l
    rw [Vals.ref1 r]
    have fin : ∀ out : List Value, PySem.W.EachIs (fun u d => ∃ x, RelV x u ∧ Rp X.K H M d x) out (ds.mergeSort dLe) → EP X pins σ Q (.ref (s.heap.objs.size + 1)) { s with heap := PyProof.Rows.sortedAll s.heap its out.toArray } := fun out ho => by
      obtain ⟨zs, v2, r2⟩ := of_each ho
      obtain ⟨ep, he'⟩ := PyProof.Rows.sortedAll_at s.heap its out.toArray
      have hlen : zs.length ≤ sizeLine := by
        rw [r2.length, List.length_mergeSort]
        exact hs.2
      exact ⟨.ref _, L2.upd H (s.heap.objs.size + 1) (.lst zs), I.laid (t' := s.toks) (fun _ _ => PyProof.Rows.sortedAll_old) (Nat.le_succ _) ⟨hlen, out, ep, v2, he'⟩, rfl, g _ _ _ rfl (I.hok.fresh (Nat.le_succ _)) r2⟩
    by_cases h1 : its.length ≤ 1
    · refine SrtO.sorted_ord SrtO.swo_int hl.isList (by rw [← rv.length]; exact hz) (fun h2 => absurd h2 (by omega)) fun out _ hst => fin out ?_
      rw [perm_few hst.perm h1, sort_few (by rw [← rr.length, rv.length]; exact h1)]
      exact each_of rr rv
    · have hdl : 2 ≤ ds.length := by rw [← rr.length, rv.length]; omega
      have hs1 := sortOk_two hs.1 hdl
      obtain ⟨f1, f2, f3, f4⟩ := sort_facts hs1
      obtain ⟨as, hr⟩ := Dp.readsAll I ds ys its (Rps.dp ds ys f3 rr) rv
      refine PySem.W.sorted_data (enc := id) hl.isList (each_of rr rv) (readsAll_eachD hr) (by simpa using f1) (by simpa using f2) hs.2 (fun d hd => ?_) fun out _ ho => fin out ho
      have := f4 d hd
      show X.A.units + 2 + d.depth < cLine
      omega
  · cases e
theorem p1_sorted {d1 d : D} (e : p1F .sorted d1 = some d) : ∃ ds, d = .list ds := by
  cases d1 <;> simp only [p1F] at e <;> try (cases e; done)
  split at e <;> cases e
  exact ⟨_, rfl⟩
theorem cr_sortedE (hu : X.A.units + 4 < cLine) : CallR X (.builtin "sorted") (c1R X.K (p1F .sorted)) := by
  intro pins s σ H xs us Q I r ⟨x, e1, M, d1, d, hb, q1, e, g⟩
  obtain ⟨ds, rfl⟩ := p1_sorted e
  exact cr_sortedD hu pins s σ H xs us Q I r ⟨x, e1, M, d1, ds, hb, q1, e, Gives.ofF hb g⟩
end
end Ev

set_option Elab.async false
set_option linter.all false
set_option maxRecDepth 100000
/-! Ev4a: defs that are called where nothing is being written out (no guard stands): for repr. -/
namespace Ev
open PySem L2 PySem.Spec
structure FnG (P : Program) (w : World) (K : PySem.W.Frag) (mg : Str → Option Value) (base : Heap) (CX : CXT) (k : Nat) (f : Addr) (fd : FuncData) (ps : List Str) (sp : Sp) : Prop where
  len : ∀ vs H Q E, sp vs H Q E → vs.length = ps.length
  run : ∀ (A : Around) (outer : List PySem.Env) (s : Shared) (H : Hp) (args : Args) (us : List Value) (vs : List V) (Q : VK) (E : XK), Room k A → A.guards = some [] → Env0 P w K mg base A outer s H →
    BindsTo s fd args (ps.zip us) → Vals vs us → sp vs H Q E → codeAny (model P w) A (.call (.ref f) args) (CR CX outer P w H s Q E) s
section
variable {X : Cx} {CX : CXT} {k : Nat} {f : Addr} {fd : FuncData} {ps : List Str} {sp : Sp} {Ek : St → XK} {x : Str} {p pos : Pos} {e : Expr} {es : List Expr} {t : TA}
theorem run_fnG {pins : List (Addr × Obj)} {σ : L2.St} {H : Hp} {s : Shared} {Q : VK} {us : List Value} {vs : List V} (F : FnG X.prog X.w X.K X.mg X.base CX k f fd ps sp) (hr : Room k X.A) (gd : X.A.guards = some []) (hb : Binds X.K fd ps [])
    (hx : PassesAt CX X σ (Ek σ)) (I : Inv X pins σ H s) (r : Vals vs us) (h : sp vs H Q (Ek σ)) : wpAny (model X.prog X.w) X.A (call (.ref f) us) (EP X pins σ Q) X.xe s := by
  have hl : (us ++ []).length = ps.length := by rw [List.append_nil, ← r.length]; exact F.len _ _ _ _ h
  have bd := hb s us I.kIn hl
  rw [List.append_nil] at bd
  have go := F.run X.A X.stack s H ⟨us, []⟩ us vs Q (Ek σ) hr gd I.env0 bd r h
  refine wpAny_call (codeAny_mono go fun res s' q => ?_)
  match res, q with
  | .error e, q => exact hx pins H s e s' I q
  | .ok (.ret u), q => exact I.after q
theorem pe_callG (F : FnG X.prog X.w X.K X.mg X.base CX k f fd ps sp) (hr : Room k X.A) (gd : X.A.guards = some []) (hg : Gl X x) (hm : X.mg x = some (.ref f)) (hk : PySem.W.keepIn X.K (.ref f) = true) (hb : Binds X.K fd ps []) (hx : ∀ σ, PassesAt CX X σ (Ek σ))
    (ha : PA X (e :: es) t) (hdb : (x == ("__debug__" : Str)) = false) (he : starEach (e :: es) X.env = (false, eval e X.env) :: starEach es X.env) (hpl : (backTo pos (starEach es X.env)).any (·.1) = false) :
    PE X (.Call (.Name x p) (e :: es) [] pos) (tCallS sp Ek t) := ⟨fun pins s σ H Q I h =>
  wpAny_Call_Name_kw (ld_glob I hg hm (PySem.W.callWith_K (h₀ := X.base) I.ok.mod.kin hk (thn (ha.run pos pins s σ H _ I h) fun us s1 ⟨vs, H1, I1, r, q⟩ =>
    ⟨I1.kIn, run_fnG F hr gd hb (hx σ) I1 r q⟩) he hpl) hdb)⟩
theorem pe_callG0 (F : FnG X.prog X.w X.K X.mg X.base CX k f fd ps sp) (hr : Room k X.A) (gd : X.A.guards = some []) (hg : Gl X x) (hm : X.mg x = some (.ref f)) (hk : PySem.W.keepIn X.K (.ref f) = true) (hb : Binds X.K fd ps []) (hx : ∀ σ, PassesAt CX X σ (Ek σ))
    (hdb : (x == ("__debug__" : Str)) = false) : PE X (.Call (.Name x p) [] [] pos) (tCallS sp Ek tNil) := ⟨fun pins s σ H Q I h =>
  wpAny_Call_Name_kw (ld_glob I hg hm (PySem.W.callWith_K0 I.kIn hk (run_fnG (us := []) F hr gd hb (hx σ) I .nil (by simpa [tCallS, tNil] using h))) hdb)⟩
end
/-- a def keeps its promise, by its body -/
theorem fnG_of {CX : CXT} {P : Program} {w : World} {K : PySem.W.Frag} {mg : Str → Option Value} {base : Heap} {k : Nat} {f : Addr} {name qual : Str} {params : Arguments} {body : List Stmt} {scope : Scope} {dV kV doc pm cdv ct oc : Value} {an od : Option Addr}
    {osl : Array (Option Value)} {N ps : List Str} {sp : Sp} (lk : K.lookup f = some ⟨oc, od, .func (PySem.W.fnOf name qual params body scope dV kV doc pm an cdv ct), osl⟩) (hcd : PySem.W.codeIn K cdv qual = true) (S : FnScope N ps scope)
    (len : ∀ vs H Q E, sp vs H Q E → vs.length = ps.length)
    (hbody : ∀ (A : Around) (outer : List PySem.Env) (s : Shared) (H : Hp) (vs : List V) (Q : VK) (E : XK), Room k (A.deeper (PyProof.Rows.envOfC qual scope s.heap.objs.size f cdv)) → A.guards = some [] → sp vs H Q E →
      ∃ t, PSs (cxOf CX P w K mg base N qual scope f cdv A outer s H E) body t ∧ t { nx := fun _ H' => Q .non H', rt := Q } (start N vs) H) :
    FnG P w K mg base CX (k + 1) f (PySem.W.fnOf name qual params body scope dV kV doc pm an cdv ct) ps sp where
  len := len
  run := fun A outer s H args us vs Q E hr gd e0 hb r hsp => by
    have hl := len _ _ _ _ hsp
    have heap0 : ∀ b o, base.get? b = some o → s.heap.get? b = some o := fun b o q => (e0.bs b o q).1
    have KX := e0.mod.kin.keeps heap0
    have kinds : ∀ y ∈ ps.zip us, scope.names.lookup y.1 = some .local ∨ (scope.names.lookup y.1 = some .cell ∧ ((cellsFrom (s.heap.objs.size + 1) scope.names []).lookup y.1).isSome = true) := fun y hy =>
      (S.par y.1 (List.of_mem_zip (a := y.1) (b := y.2) hy).1).imp id fun q => ⟨q, PySem.W.cellsFrom_some _ _ _ (.inl q)⟩
    refine codeAny_call_function hr.depth (KX _ _ lk) rfl S.co S.gen rfl (PySem.W.codeRec_of KX hcd) (hb _ _ _ _ (wpAny_newFunctionEnv_cells S.kind kinds fun env he s1 x => ?_))
    subst he
    refine ⟨(e0.mod.nolimit.keeps heap0).keeps x.toInCall.keep, codeAny_func ?_⟩
    obtain ⟨t, ht, hq⟩ := hbody A outer s H vs Q E (hr.deeper _) gd hsp
    refine wpAny_mono (ht.run [] s1 (start N vs) H _ (inv_start S hr.hd e0 hl r x) hq) (fun fl s' hs => ?_) fun e s' hs => hs
    match fl, hs with
    | .ret u, ⟨v, _, H', J, rv, q⟩ => exact ⟨v, H', J.os, J.bare, J.base, J.hok, rv, q⟩
    | .next, ⟨_, H', J, q⟩ => exact ⟨V.non, H', J.os, J.bare, J.base, J.hok, rfl, q⟩
    | .brk, ⟨_, _, _, q⟩ => exact q.elim
    | .cont, ⟨_, _, _, q⟩ => exact q.elim
end Ev

set_option Elab.async false
set_option linter.all false
set_option maxRecDepth 100000
set_option autoImplicit false
/-! Ev4: each form of an expression is worth what the evaluator says. -/
namespace Ev
open PySem L2
/-! ### forms -/
def plainX : Expr → Bool
  | .Starred .. => false
  | .Set .. => false
  | .Slice .. => false
  | _ => true
def noComp : Expr → Bool
  | .ListComp .. => false
  | .SetComp .. => false
  | .DictComp .. => false
  | _ => true
def tstX : Expr → Bool
  | .BoolOp .. => false
  | .UnaryOp .Not _ _ => false
  | .IfExp .. => false
  | .Compare .. => false
  | _ => true
theorem star_plain {e : Expr} (h : plainX e = true) (es : List Expr) (env : PySem.Env) : starEach (e :: es) env = (false, eval e env) :: starEach es env := by
  cases e <;> first | rfl | cases h
theorem mark_plain {e : Expr} (h : plainX e = true) (op : CmpOp) : behindInMarks op e = false := by
  cases e <;> first | rfl | cases h
theorem ix_plain {e : Expr} (h : plainX e = true) : PlainIx e := fun _ _ => by
  cases e <;> first | rfl | cases h
theorem fold_plain {e : Expr} (h : plainX e = true) (env : PySem.Env) (x : Value) : foldedSetIterable e env x = pure x := by
  cases e <;> first | rfl | cases h
theorem sw_plain {e : Expr} (h : noComp e = true) (t : Option Expr) (l : Nat) (env : PySem.Env) : swapsWith e t l env = pure false := by
  cases e <;> first | rfl | cases h
theorem tst_plain {e : Expr} (h : tstX e = true) (env : PySem.Env) (whole : Sem Value) : isTrue e env whole = (do let v ← whole; standAt e.pos; holding [v] (truthy v)) := by
  cases e with
  | UnaryOp op x p => cases op <;> first | rfl | cases h
  | _ => first | rfl | cases h
theorem star_all {pos : Pos} {env : PySem.Env} : ∀ {es : List Expr}, es.all plainX = true → (backTo pos (starEach es env)).any (·.1) = false
  | [], _ => rfl
  | e :: es, h => by
    simp only [List.all_cons, Bool.and_eq_true] at h
    rw [star_plain h.1]
    have ih := star_all (pos := pos) (env := env) h.2
    show (false || (backTo pos (starEach es env)).any (·.1)) = false
    rw [ih]; rfl

/-- where one stands -/
structure Cok (X : Cx) (Ek : WX) (n : Nat) (sc : Scope) : Prop where
  calm : X.calm = true
  nd : X.N.Nodup
  room : Room n X.A
  gd : X.A.guards = some []
  scope : X.env.scope = sc
  pass : ∀ σ, PassesAt (L2.CX X.prog X.w) X σ (WE Ek σ)
theorem Cok.gl {X : Cx} {Ek : WX} {n : Nat} {sc : Scope} (c : Cok X Ek n sc) {x : Str} (h : sc.names.lookup x = some .globalImplicit) : Gl X x := by
  show X.env.scope.names.lookup x = _
  rw [c.scope]; exact h

section
variable {XR : Hp → (Addr → Prop) → Exn → Value → Option Addr → Prop} {X : Cx} {Ek : WX} {n : Nat} {sc : Scope} {cl : Nat → List Ent → CRes} {pos : Pos}
abbrev SE (XR : Hp → (Addr → Prop) → Exn → Value → Option Addr → Prop) (X : Cx) (Ek : WX) (cl : Nat → List Ent → CRes) (e : Ev.E) (a : Expr) : Prop := PE X a (rdE X.K XR Ek (ev cl e))
abbrev SF (XR : Hp → (Addr → Prop) → Exn → Value → Option Addr → Prop) (X : Cx) (Ek : WX) (cl : Nat → List Ent → CRes) (e : Ev.E) (a : Expr) : Prop := PE X a (rdF X.K XR Ek (ev cl e))
abbrev SO (XR : Hp → (Addr → Prop) → Exn → Value → Option Addr → Prop) (X : Cx) (Ek : WX) (cl : Nat → List Ent → CRes) (e : Ev.E) (a : Expr) : Prop := PE X a (rdO X.K XR Ek (opd e (ev cl e)))
abbrev SA (XR : Hp → (Addr → Prop) → Exn → Value → Option Addr → Prop) (X : Cx) (Ek : WX) (cl : Nat → List Ent → CRes) (es : Es) (a : List Expr) : Prop := PA X a (rdA X.K XR Ek (evs cl es))
abbrev STt (XR : Hp → (Addr → Prop) → Exn → Value → Option Addr → Prop) (X : Cx) (Ek : WX) (cl : Nat → List Ent → CRes) (e : Ev.E) (a : Expr) : Prop := PT X a (rdT X.K XR Ek (evT cl e))
/-- the name of a slot -/
theorem s_var {i : Nat} {x : Str} (hN : X.N[i]? = some x) (hv : Vis X.env.scope x) (hd : (x == ("__debug__" : Str)) = false) (hcd : (x == ("__classdict__" : Str)) = false) : SE XR X Ek cl (.v i) (.Name x pos) ∧ SO XR X Ek cl (.v i) (.Name x pos) :=
  ⟨(pe_var hN hv hd hcd).weak fun _ _ _ h => take_ok h, (pe_var hN hv hd hcd).weak fun _ _ _ h => opd_var h⟩
theorem opd_ne {e : Ev.E} (h : ∀ i, e ≠ .v i) (f : Rho → R D) : opd e f = fun ρ => (f ρ).bind fun d ρ => .ok (.got d) ρ := by
  cases e <;> first | rfl | exact absurd rfl (h _)
theorem s_opd {e : Ev.E} {a : Expr} (h : SE XR X Ek cl e a) (hne : ∀ i, e ≠ .v i) : SO XR X Ek cl e a := h.weak fun _ _ _ q => opd_got (opd_ne hne _) q
theorem s_int {i : Int} {j : Nat} : SE XR X Ek cl (.k (.int i)) (.Constant (.int i) j pos) := pe_int.weak fun _ _ _ h => const_ok (fun _ _ => rp_int) h
theorem s_str {i : Str} {j : Nat} : SE XR X Ek cl (.k (.str i)) (.Constant (.str i) j pos) := pe_str.weak fun _ _ _ h => const_ok (fun _ _ => rp_str) h
theorem s_bool {i : Bool} {j : Nat} : SE XR X Ek cl (.k (.bool i)) (.Constant (.bool i) j pos) := pe_bl.weak fun _ _ _ h => const_ok (fun _ _ => rp_bool) h
theorem s_none {j : Nat} : SE XR X Ek cl (.k .none) (.Constant .none j pos) := pe_non.weak fun _ _ _ h => const_ok (fun _ _ => rp_none) h
theorem rp_con {K : PySem.W.Frag} {d : D} {v : V} (h : Rp K NoH (fun _ => False) d v) (H : Hp) (M : Addr → Prop) : Rp K H M d v := Rp.mono (fun _ _ e => by cases e) d v h
theorem s_glob {x : Str} {d : D} {v : V} {u : Value} (hg : Gl X x) (hm : X.mg x = some u) (r : RelV v u) (h : Rp X.K NoH (fun _ => False) d v) (hd : (x == ("__debug__" : Str)) = false) : SE XR X Ek cl (.g d) (.Name x pos) :=
  (pe_glob hg hm r hd).weak fun _ _ _ q => const_ok (rp_con h) q
/-! ### argument lists, displays -/
theorem a_nil : SA XR X Ek cl .nil [] := pa_nil.weak fun σ H Q ⟨B, ρ, S, h⟩ => h [] H S .refl .nil
theorem a_cons {e : Ev.E} {r : Es} {a : Expr} {as : List Expr} (he : SE XR X Ek cl e a) (hr : SA XR X Ek cl r as) (hp : plainX a = true) : SA XR X Ek cl (.cons e r) (a :: as) :=
  (pa_cons he hr (star_plain hp _ _)).weak fun σ H Q ⟨B, ρ, S, h⟩ => by
    refine seq S h fun d ρ1 x H1 _ S1 k1 r1 h1 => ?_
    refine seq S1 h1 fun ds ρ2 xs H2 _ S2 k2 r2 h2 => ?_
    exact h2 (x :: xs) H2 S2 .refl (.cons (Rp.kp k2 r1) r2)
theorem s_tup {es : Es} {as : List Expr} {k : Nat} (h : SA XR X Ek cl es as) : SE XR X Ek cl (.tup es) (.Tuple as k pos) :=
  (pe_tupF h).weak fun σ H Q ⟨B, ρ, S, h⟩ => by
    refine seq S h fun ds ρ1 xs H1 _ S1 k1 r1 h1 => ?_
    have r1 : Rps X.K H1 (MM B ρ1 σ) ds xs := r1
    split at h1
    · exact ⟨by rw [r1.length]; assumption, fun p us hp => Gives.of_ok S1 h1 _ _ (Ev.same_new hp) (rp_newT S1.mb hp r1)⟩
    · exact h1.elim
theorem s_lst {es : Es} {as : List Expr} (h : SA XR X Ek cl es as) : SF XR X Ek cl (.lst es) (.List as pos) :=
  (pe_lst h).weak fun σ H Q ⟨B, ρ, S, h⟩ => by
    refine seqF S h fun ds ρ1 xs H1 _ S1 k1 r1 h1 => ?_
    have r1 : Rps X.K H1 (MM B ρ1 σ) ds xs := r1
    split at h1
    · exact ⟨by rw [r1.length]; assumption, fun p hp => GivesF.of_ok S1 h1 p xs ds rfl hp r1⟩
    · exact h1.elim
theorem R.bind_ok {α β : Type} {r : R α} {f : α → Rho → R β} {b : β} {ρ' : Rho} (h : r.bind f = .ok b ρ') : ∃ a ρ1, r = .ok a ρ1 ∧ f a ρ1 = .ok b ρ' := by
  cases r with
  | ok a ρ1 => exact ⟨a, ρ1, rfl, h⟩
  | ex x ρ1 => cases h
  | no => cases h
/-- what is made anew is a value, too -/
theorem SF.se {e : Ev.E} {a : Expr} (h : SF XR X Ek cl e a) (ho : ∀ ρ d ρ', ev cl e ρ = .ok d ρ' → ownable d = true) : SE XR X Ek cl e a := h.weak fun _ _ _ q => rdF_E ho q
theorem own_lst {es : Es} : ∀ ρ d ρ', ev cl (.lst es) ρ = .ok d ρ' → ownable d = true := fun ρ d ρ' h => by
  obtain ⟨ds, ρ1, _, h⟩ := R.bind_ok h
  split at h <;> cases h
  rfl
/-! ### operators -/
theorem s_op {o : Bop} {op : Operator} {a b : Ev.E} {x y : Expr} (ho : OpR X (binaryOp op) (opR X.K (binF o))) (ha : SO XR X Ek cl a x) (hb : SO XR X Ek cl b y) : SE XR X Ek cl (.bin o a b) (.BinOp x op y pos) :=
  (pe_op ho ha hb).weak fun _ _ _ h => op2_ok op2_opR h
theorem binF_nodict {o : Bop} : ∀ a b kvs, binF o a b ≠ some (.dict kvs) := fun a b kvs h => by
  cases o <;> cases a <;> cases b <;> simp only [binF] at h <;> first | (cases h; done) | (split at h <;> cases h; done)
theorem s_opF {o : Bop} {op : Operator} {a b : Ev.E} {x y : Expr} (ho : OpR X (binaryOp op) (opRF X.K (binF o))) (ha : SO XR X Ek cl a x) (hb : SO XR X Ek cl b y) : SF XR X Ek cl (.bin o a b) (.BinOp x op y pos) :=
  (pe_op ho ha hb).weak fun _ _ _ h => op2F_ok op2_opRF binF_nodict h
theorem s_cmp {o : Cop} {op : CmpOp} {a b : Ev.E} {x y : Expr} (ho : OpR X (compareOp op) (opR X.K (cmpD o))) (ha : SO XR X Ek cl a x) (hb : SO XR X Ek cl b y) (hp : plainX y = true) : SE XR X Ek cl (.cmp o a b) (.Compare x [op] [y] pos) :=
  (pe_cmpR ho ha hb (mark_plain hp _)).weak fun _ _ _ h => op2_ok op2_opR h
theorem s_idx {a b : Ev.E} {x y : Expr} (ha : SO XR X Ek cl a x) (hb : SO XR X Ek cl b y) (hp : plainX y = true) : SE XR X Ek cl (.idx a b) (.Subscript x y pos) :=
  (pe_ix ix_all ha hb (ix_plain hp)).weak fun _ _ _ h => op2_ok op2_opR h
/-- a comparison that was done -/
theorem cmp_done {o : Cop} {p q : Pnd} {ρ ρ' : Rho} {d : D} (h : two (fun x y => (cmpF o x y).map .bool) p q ρ = .ok d ρ') : ρ' = ρ ∧ ∃ a b c, p.get ρ = some a ∧ q.get ρ = some b ∧ cmpF o a b = some c ∧ d = .bool c := by
  unfold two at h
  cases e : (p.get ρ).bind fun a => (q.get ρ).bind fun b => (cmpF o a b).map PyData.bool with
  | none => rw [e] at h; cases h
  | some d' =>
    rw [e] at h; cases h
    refine ⟨rfl, ?_⟩
    cases e1 : p.get ρ with
    | none => rw [e1] at e; cases e
    | some a =>
      cases e2 : q.get ρ with
      | none => rw [e1, e2] at e; cases e
      | some b =>
        rw [e1, e2] at e
        simp only [Option.bind_some] at e
        cases e3 : cmpF o a b with
        | none => rw [e3] at e; cases e
        | some c => rw [e3] at e; cases e; exact ⟨a, b, c, rfl, rfl, e3, rfl⟩
theorem two_cases {o : D → D → Option D} {p q : Pnd} {ρ : Rho} : two o p q ρ = .no ∨ ∃ d, two o p q ρ = .ok d ρ := by
  unfold two
  cases (p.get ρ).bind fun a => (q.get ρ).bind fun b => o a b with
  | none => exact .inl rfl
  | some d => exact .inr ⟨d, rfl⟩
abbrev cmpT (o : Cop) (p q : Pnd) (ρ : Rho) : R D := two (fun x y => (cmpF o x y).map .bool) p q ρ
/-- one link of a chain -/
theorem link {o : Cop} {p q : Pnd} {x y : V} {B : Addr → Prop} {ρ : Rho} {σ : St} {H : Hp} {Q : VK} {Qn : VK} {g : Rho → R D} (S : SR X.K H B ρ σ) (r1 : RelP X.K σ H (MM B ρ σ) p x) (r2 : RelP X.K σ H (MM B ρ σ) q y)
    (h : Pst X.K XR Ek (RelE X.K) B ρ σ H ((cmpT o p q ρ).bind fun z ρ => match z with | .bool true => g ρ | .bool false => .ok (.bool false) ρ | _ => .no) Qn)
    (k : ∀ (c : Bool) (H1 : Hp), SR X.K H1 B ρ σ → Kp ρ σ H ρ σ H1 → Pst X.K XR Ek (RelE X.K) B ρ σ H1 (if c = true then g ρ else .ok (.bool false) ρ) Qn → Q (.bl c) H1) : opR X.K (cmpD o) x y H Q := by
  rcases two_cases (o := fun x y => (cmpF o x y).map .bool) (p := p) (q := q) (ρ := ρ) with e | ⟨d, e⟩
  · have h' := h
    rw [show cmpT o p q ρ = .no from e] at h'
    exact h'.elim
  · obtain ⟨_, a, b, c, e1, e2, e3, rfl⟩ := cmp_done e
    rw [show cmpT o p q ρ = .ok (.bool c) ρ from e] at h
    refine ⟨MM B ρ σ, a, b, .bool c, S.mb, RelP.get S r1 e1, RelP.get S r2 e2, by simp [cmpD, e3], fun v H1 s1 rv => ?_⟩
    have rv' : v = .bl c := by simpa [Rp] using rv
    subst rv'
    refine k c H1 (S.same s1) (.same s1) (Pst.shift (.same s1) ?_)
    cases c with
    | true => exact h
    | false => exact h
theorem chn_ok {o o' : Cop} {fa fb fc : Rho → R Pnd} {σ : St} {H : Hp} {Q : VK} (h : rdE X.K XR Ek (fun ρ => (fa ρ).bind fun p ρ => (fb ρ).bind fun q ρ => (cmpT o p q ρ).bind fun z ρ => match z with
    | .bool true => (fc ρ).bind fun r ρ => cmpT o' q r ρ
    | .bool false => .ok (.bool false) ρ
    | _ => .no) σ H Q) : tChain (opR X.K (cmpD o)) (opR X.K (cmpD o')) (rdO X.K XR Ek fa) (rdO X.K XR Ek fb) (rdO X.K XR Ek fc) σ H Q := by
  obtain ⟨B, ρ, S, h⟩ := h
  refine seq S h fun p ρ1 x H1 _ S1 k1 r1 h1 => ?_
  refine seq S1 h1 fun q ρ2 y H2 _ S2 k2 r2 h2 => ?_
  refine link S2 (RelP.kp k2 r1) r2 h2 fun c H3 S3 k3 h3 => ⟨c, rfl, ?_⟩
  cases c with
  | false => exact h3 _ H3 S3 .refl rp_bool
  | true =>
    refine seq S3 h3 fun r ρ4 z H4 _ S4 k4 r4 h4 => ?_
    obtain ⟨a, b, d, e1, e2, e3, h5⟩ := h4.of_two
    exact op2_opR H4 _ a b d y z Q S4.mb (RelP.get S4 (RelP.kp k4 (RelP.kp k3 r2)) e1) (RelP.get S4 r4 e2) e3 (.of_ok S4 h5)
theorem s_chn {o o' : Cop} {op op' : CmpOp} {a b c : Ev.E} {x y z : Expr} (ho : OpR X (compareOp op) (opR X.K (cmpD o))) (ho' : OpR X (compareOp op') (opR X.K (cmpD o'))) (ha : SO XR X Ek cl a x) (hb : SO XR X Ek cl b y) (hc : SO XR X Ek cl c z)
    (hz : plainX z = true) : SE XR X Ek cl (.chn o o' a b c) (.Compare x [op, op'] [y, z] pos) :=
  (pe_chain ho ho' ha hb hc (by show behindInMarks op' z = false; exact mark_plain hz _)).weak fun _ _ _ h => chn_ok h
end
end Ev

set_option Elab.async false
set_option linter.all false
set_option maxRecDepth 100000
set_option autoImplicit false
/-! Ev4b: tests, and, or, not, slices, built-in functions, calls. -/
namespace Ev
open PySem L2
section
variable {XR : Hp → (Addr → Prop) → Exn → Value → Option Addr → Prop} {X : Cx} {Ek : WX} {n : Nat} {sc : Scope} {cl : Nat → List Ent → CRes} {pos : Pos} {σ : St} {H : Hp}
/-- a test by its value -/
theorem rdT_E {f : Rho → R D} {Q : Bool → Hp → Prop} (h : rdT X.K XR Ek (fun ρ => (f ρ).bind fun x ρ => R.lift (asB x) ρ) σ H Q) : rdE X.K XR Ek f σ H (fun x H' => ∃ k, x = .bl k ∧ Q k H') := by
  obtain ⟨B, ρ, S, h⟩ := h
  refine seq S h fun d ρ1 x H1 _ S1 k1 r1 h1 => ?_
  obtain ⟨b, e, h2⟩ := Pst.of_lift h1
  cases d <;> simp only [asB] at e <;> cases e
  have r1 : Rp X.K H1 (MM B ρ1 σ) (.bool b) x := r1
  simp only [Rp] at r1
  exact ⟨b, r1, h2 b H1 S1 .refl rfl⟩
theorem t_val {e : Ev.E} {a : Expr} (h : SE XR X Ek cl e a) (ht : tstX a = true) : STt XR X Ek cl e a := (pt_val h (tst_plain ht _)).weak fun _ _ _ q => rdT_E q
theorem t_cmp {o : Cop} {op : CmpOp} {a b : Ev.E} {x y : Expr} (ho : OpR X (compareOp op) (opR X.K (cmpD o))) (ha : SO XR X Ek cl a x) (hb : SO XR X Ek cl b y) (hp : plainX y = true) : STt XR X Ek cl (.cmp o a b) (.Compare x [op] [y] pos) :=
  (pt_cmpR ho ha hb (mark_plain hp _)).weak fun _ _ _ h => op2_ok op2_opR (rdT_E h)
theorem t_chn {o o' : Cop} {op op' : CmpOp} {a b c : Ev.E} {x y z : Expr} (ho : OpR X (compareOp op) (opR X.K (cmpD o))) (ho' : OpR X (compareOp op') (opR X.K (cmpD o'))) (ha : SO XR X Ek cl a x) (hb : SO XR X Ek cl b y) (hc : SO XR X Ek cl c z)
    (hz : plainX z = true) : STt XR X Ek cl (.chn o o' a b c) (.Compare x [op, op'] [y, z] pos) :=
  (pt_chain ho ho' ha hb hc (by show behindInMarks op' z = false; exact mark_plain hz _)).weak fun _ _ _ h => chn_ok (rdT_E h)
theorem t_not {e : Ev.E} {a : Expr} (h : STt XR X Ek cl e a) : STt XR X Ek cl (.not_ e) (.UnaryOp .Not a pos) := (pt_not h).weak fun σ H Q ⟨B, ρ, S, h⟩ => by
  refine ⟨B, ρ, S, ?_⟩
  have h : Pst X.K XR Ek RelB B ρ σ H (((ev cl e ρ).bind fun x ρ => match x with | .bool b => .ok (.bool (!b)) ρ | _ => .no).bind fun x ρ => R.lift (asB x) ρ) Q := h
  show Pst X.K XR Ek RelB B ρ σ H ((ev cl e ρ).bind fun x ρ => R.lift (asB x) ρ) _
  cases e1 : ev cl e ρ with
  | no => rw [e1] at h; exact h
  | ex x ρ1 => rw [e1] at h; exact h
  | ok d ρ1 =>
    rw [e1] at h
    cases d <;> first | exact h.elim | skip
    intro b H' S' k q
    cases (show _ = b from q)
    exact h _ H' S' k rfl
theorem s_not {e : Ev.E} {a : Expr} (h : SE XR X Ek cl e a) : SE XR X Ek cl (.not_ e) (.UnaryOp .Not a pos) := (pe_not h).weak fun σ H Q ⟨B, ρ, S, h⟩ => by
  refine seq S h fun d ρ1 x H1 _ S1 k1 r1 h1 => ?_
  have r1 : Rp X.K H1 (MM B ρ1 σ) d x := r1
  cases d <;> first | exact h1.elim | skip
  simp only [Rp] at r1
  exact ⟨_, r1, h1 _ H1 S1 .refl rp_bool⟩
theorem s_neg {e : Ev.E} {a : Expr} (h : SE XR X Ek cl e a) : SE XR X Ek cl (.neg e) (.UnaryOp .USub a pos) := (pe_un un_neg h).weak fun σ H Q ⟨B, ρ, S, h⟩ => by
  refine seq S h fun d ρ1 x H1 _ S1 k1 r1 h1 => ?_
  have r1 : Rp X.K H1 (MM B ρ1 σ) d x := r1
  cases d <;> first | exact h1.elim | skip
  simp only [Rp] at r1
  exact ⟨_, r1, h1 _ H1 S1 .refl rp_int⟩
/-! ### and, or -/
/-- the parts of a chain of tests -/
inductive Parts (XR : Hp → (Addr → Prop) → Exn → Value → Option Addr → Prop) (X : Cx) (Ek : WX) (cl : Nat → List Ent → CRes) : Es → List Expr → Prop
  | one {e : Ev.E} {a : Expr} : SE XR X Ek cl e a → STt XR X Ek cl e a → Parts XR X Ek cl (.cons e .nil) [a]
  | cons {e e' : Ev.E} {r : Es} {a a' : Expr} {as : List Expr} : SE XR X Ek cl e a → STt XR X Ek cl e a → Parts XR X Ek cl (.cons e' r) (a' :: as) → Parts XR X Ek cl (.cons e (.cons e' r)) (a :: a' :: as)
theorem s_and {es : Es} {as : List Expr} (h : Parts XR X Ek cl es as) : PE X (.BoolOp .And as pos) (rdE X.K XR Ek (evAnd cl es)) := by
  induction h with
  | one h _ => exact pe_one h
  | cons h _ _ ih =>
    exact (pe_and h ih).weak fun σ H Q ⟨B, ρ, S, h⟩ => by
      refine seq S h fun d ρ1 x H1 _ S1 k1 r1 h1 => ?_
      have r1 : Rp X.K H1 (MM B ρ1 σ) d x := r1
      cases d with
      | bool b =>
        simp only [Rp] at r1
        refine ⟨b, r1, ?_⟩
        cases b with
        | true => exact ⟨B, ρ1, S1, h1⟩
        | false => exact h1 _ H1 S1 .refl rp_bool
      | _ => exact h1.elim
theorem s_or {es : Es} {as : List Expr} (h : Parts XR X Ek cl es as) : PE X (.BoolOp .Or as pos) (rdE X.K XR Ek (evOr cl es)) := by
  induction h with
  | one h _ => exact pe_one h
  | cons h _ _ ih =>
    exact (pe_or h ih).weak fun σ H Q ⟨B, ρ, S, h⟩ => by
      refine seq S h fun d ρ1 x H1 _ S1 k1 r1 h1 => ?_
      have r1 : Rp X.K H1 (MM B ρ1 σ) d x := r1
      cases d with
      | bool b =>
        simp only [Rp] at r1
        refine ⟨b, r1, ?_⟩
        cases b with
        | true => exact h1 _ H1 S1 .refl rp_bool
        | false => exact ⟨B, ρ1, S1, h1⟩
      | _ => exact h1.elim
/-- a part of a test, then the rest -/
theorem seqT {e : Ev.E} {g : D → Rho → R Bool} {B : Addr → Prop} {ρ : Rho} {Q Qt : Bool → Hp → Prop} (S : SR X.K H B ρ σ) (h : Pst X.K XR Ek RelB B ρ σ H ((ev cl e ρ).bind g) Q) (hg : ∀ d ρ, (∀ b, d ≠ .bool b) → g d ρ = .no)
    (k : ∀ b ρ1 H1, SR X.K H1 B ρ1 σ → Kp ρ σ H ρ1 σ H1 → Pst X.K XR Ek RelB B ρ1 σ H1 (g (.bool b) ρ1) Q → Qt b H1) : rdT X.K XR Ek (evT cl e) σ H Qt := by
  refine ⟨B, ρ, S, ?_⟩
  show Pst X.K XR Ek RelB B ρ σ H ((ev cl e ρ).bind fun x ρ => R.lift (asB x) ρ) Qt
  cases e1 : ev cl e ρ with
  | no => rw [e1] at h; exact h
  | ex x ρ1 => rw [e1] at h; exact h
  | ok d ρ1 =>
    rw [e1] at h
    have h' : Pst X.K XR Ek RelB B ρ σ H (g d ρ1) Q := h
    by_cases hb : ∃ b, d = .bool b
    · obtain ⟨b, rfl⟩ := hb
      intro b' H1 S1 k1 q
      cases (show b = b' from q)
      exact k b ρ1 H1 S1 k1 (Pst.shift k1 h')
    · rw [hg d ρ1 fun b z => hb ⟨b, z⟩] at h'
      exact h'.elim
theorem t_and {es : Es} {as : List Expr} (h : Parts XR X Ek cl es as) : PW X (.BoolOp .And as pos) (rdT X.K XR Ek (fun ρ => (evAnd cl es ρ).bind fun x ρ => R.lift (asB x) ρ)) := by
  induction h with
  | one _ h => exact pw_and1 h
  | @cons e e' r a a' as _ h _ ih =>
    exact (pw_and h ih).weak fun σ H Q ⟨B, ρ, S, h⟩ => by
      have h : Pst X.K XR Ek RelB B ρ σ H (((ev cl e ρ).bind fun x ρ => match x with | .bool true => evAnd cl (.cons e' r) ρ | .bool false => .ok (.bool false) ρ | _ => .no).bind fun x ρ => R.lift (asB x) ρ) Q := h
      have h2 : Pst X.K XR Ek RelB B ρ σ H ((ev cl e ρ).bind fun x ρ => (match x with | .bool true => evAnd cl (.cons e' r) ρ | .bool false => .ok (.bool false) ρ | _ => .no : R D).bind fun x ρ => R.lift (asB x) ρ) Q := by
        cases e1 : ev cl e ρ <;> rw [e1] at h <;> exact h
      refine seqT S h2 (fun d ρ hd => ?_) fun b ρ1 H1 S1 k1 h3 => ?_
      · cases d with
        | bool b => exact absurd rfl (hd b)
        | _ => rfl
      · cases b with
        | true => exact ⟨B, ρ1, S1, h3⟩
        | false => exact h3 false H1 S1 .refl rfl
theorem t_or {es : Es} {as : List Expr} (h : Parts XR X Ek cl es as) : PW X (.BoolOp .Or as pos) (rdT X.K XR Ek (fun ρ => (evOr cl es ρ).bind fun x ρ => R.lift (asB x) ρ)) := by
  induction h with
  | one _ h => exact pw_or1 h
  | @cons e e' r a a' as _ h _ ih =>
    exact (pw_or h ih).weak fun σ H Q ⟨B, ρ, S, h⟩ => by
      have h : Pst X.K XR Ek RelB B ρ σ H (((ev cl e ρ).bind fun x ρ => match x with | .bool true => .ok (.bool true) ρ | .bool false => evOr cl (.cons e' r) ρ | _ => .no).bind fun x ρ => R.lift (asB x) ρ) Q := h
      have h2 : Pst X.K XR Ek RelB B ρ σ H ((ev cl e ρ).bind fun x ρ => (match x with | .bool true => .ok (.bool true) ρ | .bool false => evOr cl (.cons e' r) ρ | _ => .no : R D).bind fun x ρ => R.lift (asB x) ρ) Q := by
        cases e1 : ev cl e ρ <;> rw [e1] at h <;> exact h
      refine seqT S h2 (fun d ρ hd => ?_) fun b ρ1 H1 S1 k1 h3 => ?_
      · cases d with
        | bool b => exact absurd rfl (hd b)
        | _ => rfl
      · cases b with
        | true => exact h3 true H1 S1 .refl rfl
        | false => exact ⟨B, ρ1, S1, h3⟩
theorem s_ite {c a b : Ev.E} {x y z : Expr} (hc : STt XR X Ek cl c x) (ha : SE XR X Ek cl a y) (hb : SE XR X Ek cl b z) : SE XR X Ek cl (.ite c a b) (.IfExp x y z pos) := (pe_ifExp hc ha hb).weak fun σ H Q ⟨B, ρ, S, h⟩ => by
  have h : Pst X.K XR Ek (RelE X.K) B ρ σ H ((ev cl c ρ).bind fun x ρ => match x with | .bool true => ev cl a ρ | .bool false => ev cl b ρ | _ => .no) Q := h
  refine ⟨B, ρ, S, ?_⟩
  show Pst X.K XR Ek RelB B ρ σ H ((ev cl c ρ).bind fun x ρ => R.lift (asB x) ρ) _
  cases e1 : ev cl c ρ with
  | no => rw [e1] at h; exact h
  | ex x ρ1 => rw [e1] at h; exact h
  | ok d ρ1 =>
    rw [e1] at h
    cases d with
    | bool k =>
      intro k' H1 S1 k1 q
      cases (show k = k' from q)
      cases k with
      | true => exact ⟨B, ρ1, S1, Pst.shift k1 h⟩
      | false => exact ⟨B, ρ1, S1, Pst.shift k1 h⟩
    | _ => exact h.elim
/-! ### is None -/
theorem isN_rq {M : Addr → Prop} {d : D} {v : V} (h : Rq X.K H M d v) : decide (v = .non) = isNoneD d := by
  cases d with
  | none => cases h.none; rfl
  | bool b => cases h.bool; rfl
  | int b => cases h.int; rfl
  | str b => cases h.str; rfl
  | list ds => obtain ⟨a, xs, rfl, _⟩ := h.list; rfl
  | tuple ds => obtain ⟨a, xs, rfl, _⟩ := h.tup; rfl
  | dict ds => obtain ⟨a, xs, rfl, _⟩ := h.dict; rfl
theorem isN_ok {f : Rho → R Pnd} {Q : VK} (h : rdE X.K XR Ek (fun ρ => (f ρ).bind fun p ρ => one (fun x => some (.bool (isNoneD x))) p ρ) σ H Q) : tIsN (rdO X.K XR Ek f) σ H Q := by
  obtain ⟨B, ρ, S, h⟩ := h
  refine seq S h fun p ρ1 x H1 _ S1 k1 r1 h1 => ?_
  obtain ⟨a, d, e1, e2, h2⟩ := h1.of_one
  cases e2
  rw [isN_rq (RelP.get S1 r1 e1)]
  exact h2 _ H1 S1 .refl rp_bool
theorem notN_ok {f : Rho → R Pnd} {Q : VK} (h : rdE X.K XR Ek (fun ρ => (f ρ).bind fun p ρ => one (fun x => some (.bool (!isNoneD x))) p ρ) σ H Q) : tNotN (rdO X.K XR Ek f) σ H Q := by
  obtain ⟨B, ρ, S, h⟩ := h
  refine seq S h fun p ρ1 x H1 _ S1 k1 r1 h1 => ?_
  obtain ⟨a, d, e1, e2, h2⟩ := h1.of_one
  cases e2
  rw [isN_rq (RelP.get S1 r1 e1)]
  exact h2 _ H1 S1 .refl rp_bool
theorem s_isN {e : Ev.E} {a : Expr} {j : Nat} {p' : Pos} (h : SO XR X Ek cl e a) : SE XR X Ek cl (.isN e) (.Compare a [.Is] [.Constant .none j p'] pos) := (pe_cmp (pc_isN h)).weak fun _ _ _ q => isN_ok q
theorem s_notN {e : Ev.E} {a : Expr} {j : Nat} {p' : Pos} (h : SO XR X Ek cl e a) : SE XR X Ek cl (.notN e) (.Compare a [.IsNot] [.Constant .none j p'] pos) := (pe_cmp (pc_notN h)).weak fun _ _ _ q => notN_ok q
theorem t_isN {e : Ev.E} {a : Expr} {j : Nat} {p' : Pos} (h : SO XR X Ek cl e a) : STt XR X Ek cl (.isN e) (.Compare a [.Is] [.Constant .none j p'] pos) := (pt_cmp (pc_isN h)).weak fun _ _ _ q => isN_ok (rdT_E q)
theorem t_notN {e : Ev.E} {a : Expr} {j : Nat} {p' : Pos} (h : SO XR X Ek cl e a) : STt XR X Ek cl (.notN e) (.Compare a [.IsNot] [.Constant .none j p'] pos) := (pt_cmp (pc_notN h)).weak fun _ _ _ q => notN_ok (rdT_E q)
/-! ### slices -/
abbrev SI (XR : Hp → (Addr → Prop) → Exn → Value → Option Addr → Prop) (X : Cx) (Ek : WX) (cl : Nat → List Ent → CRes) (e : Oe) (a : Option Expr) : Prop := PO X a (rdG X.K XR Ek RelI (evI cl e))
theorem i_no : SI XR X Ek cl .no none := ⟨fun pins s σ H Q I ⟨B, ρ, S, h⟩ => po_none.run pins s σ H Q I (h none H S .refl rfl)⟩
theorem i_yes {e : Ev.E} {a : Expr} (h : SE XR X Ek cl e a) : SI XR X Ek cl (.yes e) (some a) := ⟨fun pins s σ H Q I ⟨B, ρ, S, q⟩ => (po_some h).run pins s σ H Q I (by
  refine seq S q fun d ρ1 x H1 _ S1 k1 r1 h1 => ?_
  obtain ⟨o, e2, h2⟩ := Pst.of_lift h1
  cases d <;> simp only [oInt, Option.map_some, Option.map_none] at e2 <;> cases e2
  have r1 : Rp X.K H1 (MM B ρ1 σ) (.int _) x := r1
  simp only [Rp] at r1
  exact ⟨_, r1, h2 _ H1 S1 .refl rfl⟩)⟩
theorem s_slc {a : Ev.E} {lo hi : Oe} {x : Expr} {l h : Option Expr} {p2 : Pos} (ha : SO XR X Ek cl a x) (hl : SI XR X Ek cl lo l) (hh : SI XR X Ek cl hi h) : SE XR X Ek cl (.slc a lo hi) (.Subscript x (.Slice l h none p2) pos) :=
  (pe_slice sl_all ha hl hh).weak fun σ H Q ⟨B, ρ, S, h⟩ => by
    refine seq S h fun p ρ1 x H1 _ S1 k1 r1 h1 => ?_
    refine seq S1 h1 fun o1 ρ2 o1' H2 _ S2 k2 r2 h2 => ?_
    refine seq S2 h2 fun o2 ρ3 o2' H3 _ S3 k3 r3 h3 => ?_
    cases (show o1 = o1' from r2)
    cases (show o2 = o2' from r3)
    obtain ⟨d1, d, e1, e2, h4⟩ := h3.of_one
    exact ⟨_, d1, d, S3.mb, RelP.get S3 (RelP.kp k3 (RelP.kp k2 r1)) e1, e2, .of_ok S3 h4⟩
theorem s_slcF {a : Ev.E} {lo hi : Oe} {x : Expr} {l h : Option Expr} {p2 : Pos} (ha : SO XR X Ek cl a x) (hl : SI XR X Ek cl lo l) (hh : SI XR X Ek cl hi h) : SF XR X Ek cl (.slc a lo hi) (.Subscript x (.Slice l h none p2) pos) :=
  (pe_slice sl_allF ha hl hh).weak fun σ H Q ⟨B, ρ, S, h⟩ => by
    refine seqF S h fun p ρ1 x H1 _ S1 k1 r1 h1 => ?_
    refine seqF S1 h1 fun o1 ρ2 o1' H2 _ S2 k2 r2 h2 => ?_
    refine seqF S2 h2 fun o2 ρ3 o2' H3 _ S3 k3 r3 h3 => ?_
    cases (show o1 = o1' from r2)
    cases (show o2 = o2' from r3)
    obtain ⟨d1, d, e1, e2, h4⟩ := h3.of_one
    have ho := h4.1
    cases d1 <;> simp only [slcF] at e2 <;> first | (cases e2; done) | skip
    · split at e2 <;> cases e2
      cases ho
    · cases e2
      exact ⟨_, _, _, S3.mb, RelP.get S3 (RelP.kp k3 (RelP.kp k2 r1)) e1, rfl, .of_ok S3 h4⟩
    · cases e2
      cases ho
/-! ### built-in functions -/
theorem c1_ok {o : D → Option D} {f : Rho → R Pnd} {Q : VK} (h : rdE X.K XR Ek (fun ρ => (f ρ).bind fun p ρ => one o p ρ) σ H Q) : tCB (c1R X.K o) (tCons (rdO X.K XR Ek f) tNil) σ H Q := by
  obtain ⟨B, ρ, S, h⟩ := h
  refine seq S h fun p ρ1 x H1 _ S1 k1 r1 h1 => ?_
  obtain ⟨a, d, e1, e2, h2⟩ := h1.of_one
  exact ⟨x, rfl, _, a, d, S1.mb, RelP.get S1 r1 e1, e2, .of_ok S1 h2⟩
theorem c1F_ok {o : D → Option D} {f : Rho → R Pnd} {Q : VK} (hl : ∀ a d, o a = some d → ∃ ds, d = .list ds) (h : rdF X.K XR Ek (fun ρ => (f ρ).bind fun p ρ => one o p ρ) σ H Q) : tCB (c1RF X.K o) (tCons (rdO X.K XR Ek f) tNil) σ H Q := by
  obtain ⟨B, ρ, S, h⟩ := h
  refine seqF S h fun p ρ1 x H1 _ S1 k1 r1 h1 => ?_
  obtain ⟨a, d, e1, e2, h2⟩ := h1.of_one
  obtain ⟨ds, rfl⟩ := hl a d e2
  exact ⟨x, rfl, _, a, ds, S1.mb, RelP.get S1 r1 e1, e2, .of_ok S1 h2⟩
theorem c2_ok {o : D → D → Option D} {f g : Rho → R Pnd} {Q : VK} (h : rdE X.K XR Ek (fun ρ => (f ρ).bind fun p ρ => (g ρ).bind fun q ρ => two o p q ρ) σ H Q) : tCB (c2R X.K o) (tCons (rdO X.K XR Ek f) (tCons (rdO X.K XR Ek g) tNil)) σ H Q := by
  obtain ⟨B, ρ, S, h⟩ := h
  refine seq S h fun p ρ1 x H1 _ S1 k1 r1 h1 => ?_
  refine seq S1 h1 fun q ρ2 y H2 _ S2 k2 r2 h2 => ?_
  obtain ⟨a, b, d, e1, e2, e3, h3⟩ := h2.of_two
  exact ⟨x, y, rfl, _, a, b, d, S2.mb, RelP.get S2 (RelP.kp k2 r1) e1, RelP.get S2 r2 e2, e3, .of_ok S2 h3⟩
variable {x : Str} {id T : String} {p1 : Pos} {a b : Expr} {ea eb : Ev.E}
theorem s_c1B {o : P1} (hc : CallR X (.builtin id) (c1R X.K (p1F o))) (hg : Gl X x) (hm : X.mg x = none) (hv : bootBuiltins x = some (.builtin id)) (ha : SO XR X Ek cl ea a) (hp : plainX a = true) (hn : x ≠ "__name__") (hdb : (x == ("__debug__" : Str)) = false) :
    SE XR X Ek cl (.p1 o ea) (.Call (.Name x p1) [a] [] pos) := (pe_callB hc hg hm hv (pa_cons ha pa_nil (star_plain hp _ _)) hn hdb (star_plain hp _ _) rfl).weak fun _ _ _ h => c1_ok h
theorem s_c1T {o : P1} (hc : CallR X (.type T) (c1R X.K (p1F o))) (hg : Gl X x) (hm : X.mg x = none) (hv : bootBuiltins x = some (.type T)) (ha : SO XR X Ek cl ea a) (hp : plainX a = true) (hn : x ≠ "__name__") (hdb : (x == ("__debug__" : Str)) = false) :
    SE XR X Ek cl (.p1 o ea) (.Call (.Name x p1) [a] [] pos) := (pe_callTy hc hg hm hv (pa_cons ha pa_nil (star_plain hp _ _)) hn hdb (star_plain hp _ _) rfl).weak fun _ _ _ h => c1_ok h
theorem s_listF (hg : Gl X "list") (hm : X.mg "list" = none) (ha : SO XR X Ek cl ea a) (hp : plainX a = true) : SF XR X Ek cl (.p1 .list ea) (.Call (.Name "list" p1) [a] [] pos) :=
  (pe_callTy cr_listF hg hm (by decide +kernel) (pa_cons ha pa_nil (star_plain hp _ _)) (by decide) (by decide) (star_plain hp _ _) rfl).weak fun _ _ _ h => c1F_ok (fun _ _ e => p1_list e) h
theorem s_sortedF (hu : X.A.units + 4 < cLine) (hg : Gl X "sorted") (hm : X.mg "sorted" = none) (ha : SO XR X Ek cl ea a) (hp : plainX a = true) : SF XR X Ek cl (.p1 .sorted ea) (.Call (.Name "sorted" p1) [a] [] pos) :=
  (pe_callB (cr_sortedD hu) hg hm (by decide +kernel) (pa_cons ha pa_nil (star_plain hp _ _)) (by decide) (by decide) (star_plain hp _ _) rfl).weak fun _ _ _ h => c1F_ok (fun _ _ e => p1_sorted e) h
theorem s_c2B {o : P2} (hc : CallR X (.builtin id) (c2R X.K (p2F o))) (hg : Gl X x) (hm : X.mg x = none) (hv : bootBuiltins x = some (.builtin id)) (ha : SO XR X Ek cl ea a) (hb : SO XR X Ek cl eb b) (hp : plainX a = true) (hq : plainX b = true) (hn : x ≠ "__name__")
    (hdb : (x == ("__debug__" : Str)) = false) : SE XR X Ek cl (.p2 o ea eb) (.Call (.Name x p1) [a, b] [] pos) :=
  (pe_callB hc hg hm hv (pa_cons ha (pa_cons hb pa_nil (star_plain hq _ _)) (star_plain hp _ _)) hn hdb (star_plain hp _ _) (star_all (es := [b]) (by simp [hq]))).weak fun _ _ _ h => c2_ok h
theorem s_isi {t : Ty} {y : Str} {p2 : Pos} (hg : Gl X "isinstance") (hm : X.mg "isinstance" = none) (hg2 : Gl X y) (hm2 : X.mg y = none) (hv : bootBuiltins y = some (.type t.name)) (hn : y ≠ "__name__") (hdb : (y == ("__debug__" : Str)) = false) (ha : SO XR X Ek cl ea a) (hp : plainX a = true) :
    SE XR X Ek cl (.isi ea t) (.Call (.Name "isinstance" p1) [a, .Name y p2] [] pos) :=
  (pe_callB cr_isi hg hm (by decide +kernel) (pa_cons ha (pa_cons (pe_bltn (v := .ty t.name) hg2 hm2 hv rfl hn hdb) pa_nil rfl) (star_plain hp _ _)) (by decide) (by decide) (star_plain hp _ _) rfl).weak fun σ H Q ⟨B, ρ, S, h⟩ => by
    refine seq S h fun p ρ1 x H1 _ S1 k1 r1 h1 => ?_
    obtain ⟨d1, d, e1, e2, h2⟩ := h1.of_one
    exact ⟨x, t, rfl, _, d1, d, S1.mb, RelP.get S1 r1 e1, e2, .of_ok S1 h2⟩
end
end Ev

set_option Elab.async false
set_option linter.all false
set_option maxRecDepth 100000
set_option autoImplicit false
/-! Ev4c: calls of defs. -/
namespace Ev
open PySem L2
/-- what a call's answer must be -/
def RetOk (K : PySem.W.Frag) (H H' : Hp) (M : Addr → Prop) (e : Ent) (v : V) : Prop := match e with
  | .val d => Rp K H' M d v
  | .own d => ∃ a, v = .ref a ∧ H a = none ∧ OwnAt K H' (fun b => M b ∨ b = a) a d
  | _ => False
/-- what a caller's list has become -/
def OutOk (K : PySem.W.Frag) (H' : Hp) (M : Addr → Prop) (args : Rho) (vs : List V) (o : Option D) : Prop := ∀ d, args[0]? = some (Ent.io d) → ∃ d' a, o = some d' ∧ vs[0]? = some (V.ref a) ∧ OwnAt K H' M a d'
/-- the promise of a def, by what its call is worth -/
def spF (K : PySem.W.Frag) (XR : Hp → (Addr → Prop) → Exn → Value → Option Addr → Prop) (cl : Nat → List Ent → CRes) (np f : Nat) : Sp := fun vs H Q Ek => vs.length = np ∧ ∃ B args, SR K H B args (vs.map some) ∧ match cl f args with
  | .ok e o => ∀ v H', Kp args (vs.map some) H args (vs.map some) H' → OutOk K H' (MM B args (vs.map some)) args vs o → RetOk K H H' (MM B args (vs.map some)) e v → Q v H'
  | .ex x o => ∀ c d H', Kp args (vs.map some) H args (vs.map some) H' → OutOk K H' (MM B args (vs.map some)) args vs o → XR H' (MM B args (vs.map some)) x c d → Ek c d H'
  | .no => False
theorem spF_len {K : PySem.W.Frag} {XR : Hp → (Addr → Prop) → Exn → Value → Option Addr → Prop} {cl : Nat → List Ent → CRes} {np f : Nat} {ps : List Str} (h : ps.length = np) : ∀ vs H Q E, spF K XR cl np f vs H Q E → vs.length = ps.length := fun vs H Q E q => q.1.trans h.symm
section
variable {K : PySem.W.Frag} {H H' : Hp} {B : Addr → Prop} {ρ : Rho} {σ : St}
theorem no_owner {ds : List D} {σ : St} {i : Nat} {a : Addr} : ¬ Owner (ds.map Ent.val) σ i a := fun ⟨⟨e, h1, h2⟩, _⟩ => by
  rw [List.getElem?_map] at h1
  cases q : ds[i]? with
  | none => rw [q] at h1; cases h1
  | some d => rw [q] at h1; cases h1; cases h2
theorem mm_vals {ds : List D} {σ : St} {a : Addr} : MM B (ds.map Ent.val) σ a ↔ B a := ⟨fun h => h.elim id fun ⟨_, q⟩ => (no_owner q).elim, .inl⟩
theorem stays_iff {M M' : Addr → Prop} (h : ∀ a, M' a → M a) : Stays H M H M' := fun a o e n => ⟨e, fun z => n (h a z)⟩
/-- values handed over -/
theorem SR.args (S : SR K H B ρ σ) {ds : List D} {vs : List V} (r : Rps K H (MM B ρ σ) ds vs) : SR K H (MM B ρ σ) (ds.map Ent.val) (vs.map some) where
  len := by rw [List.length_map, List.length_map, r.length]
  val := fun i d h => by
    rw [List.getElem?_map] at h
    cases q : ds[i]? with
    | none => rw [q] at h; cases h
    | some d' =>
      rw [q] at h; cases h
      obtain ⟨x, e, rp⟩ := r.get q
      exact ⟨x, by rw [List.getElem?_map, e]; rfl, Rp.mono (stays_iff fun a => mm_vals.mp) _ _ rp⟩
  own := fun i e d h o _ => by
    rw [List.getElem?_map] at h
    cases q : ds[i]? with
    | none => rw [q] at h; cases h
    | some d' => rw [q] at h; cases h; cases o
  inj := fun i j a h _ => (no_owner h).elim
  bnd := S.mb
theorem kp_vals {ds : List D} {σ : St} (k : Kp (ds.map Ent.val) σ H (ds.map Ent.val) σ H') : Same H H' := fun a o e => k.keep a o e fun i h => no_owner h
/-- a list of one's own ahead of values -/
theorem SR.argsIo (S : SR K H B ρ σ) {i : Nat} {e : Ent} {d : D} {a : Addr} {ds : List D} {vs : List V} (h : ρ[i]? = some e) (ho : e.isOwn = true) (g : e.got = some d) (ha : σ[i]? = some (some (.ref a))) (r : Rps K H (MM B ρ σ) ds vs) :
    SR K H (fun b => MM B ρ σ b ∧ b ≠ a) (.io d :: ds.map Ent.val) ((.ref a :: vs).map some) ∧ (∀ b, MM (fun b => MM B ρ σ b ∧ b ≠ a) (.io d :: ds.map Ent.val) ((.ref a :: vs).map some) b ↔ MM B ρ σ b) ∧ (∀ j b, Owner (.io d :: ds.map Ent.val) ((.ref a :: vs).map some) j b → j = 0 ∧ b = a) := by
  have ow : ∀ {j b}, Owner (.io d :: ds.map Ent.val) ((.ref a :: vs).map some) j b → j = 0 ∧ b = a := fun {j b} ⟨⟨u, h1, h2⟩, h3⟩ => by
    cases j with
    | zero => simp at h3; exact ⟨rfl, h3.symm⟩
    | succ j =>
      rw [List.getElem?_cons_succ, List.getElem?_map] at h1
      cases q : ds[j]? with
      | none => rw [q] at h1; cases h1
      | some d' => rw [q] at h1; cases h1; cases h2
  have oa : Owner ρ σ i a := ⟨⟨e, h, ho⟩, ha⟩
  have mm : ∀ b, MM (fun b => MM B ρ σ b ∧ b ≠ a) (.io d :: ds.map Ent.val) ((.ref a :: vs).map some) b ↔ MM B ρ σ b := fun b => ⟨fun z => z.elim (fun z => z.1) fun ⟨j, q⟩ => by rw [(ow q).2]; exact .inr ⟨i, oa⟩, fun z => by
    by_cases q : b = a
    · subst q; exact .inr ⟨0, ⟨⟨.io d, rfl, rfl⟩, rfl⟩⟩
    · exact .inl ⟨z, q⟩⟩
  obtain ⟨a', ha', nB, q⟩ := S.own i e d h ho g
  rw [ha] at ha'; cases ha'
  refine ⟨⟨by simp [r.length], fun j d' hj => ?_, fun j u d' hj o g' => ?_, fun j k b x y => (ow x).1.trans (ow y).1.symm, fun b hb => S.mb b hb.1⟩, mm, fun j b => ow⟩
  · cases j with
    | zero => simp at hj
    | succ j =>
      rw [List.getElem?_cons_succ, List.getElem?_map] at hj
      cases q : ds[j]? with
      | none => rw [q] at hj; cases hj
      | some d2 =>
        rw [q] at hj; cases hj
        obtain ⟨x, e2, rp⟩ := r.get q
        exact ⟨x, by rw [List.map_cons, List.getElem?_cons_succ, List.getElem?_map, e2]; rfl, Rp.mono (stays_iff fun b => (mm b).mp) _ _ rp⟩
  · cases j with
    | zero =>
      simp at hj; subst hj
      cases g'
      exact ⟨a, rfl, fun z => z.2 rfl, q.mono (stays_iff fun b => (mm b).mp) rfl⟩
    | succ j =>
      rw [List.getElem?_cons_succ, List.getElem?_map] at hj
      cases q : ds[j]? with
      | none => rw [q] at hj; cases hj
      | some d2 => rw [q] at hj; cases hj; cases o
end
section
variable {XR : Hp → (Addr → Prop) → Exn → Value → Option Addr → Prop} {X : Cx} {Ek : WX} {n : Nat} {sc : Scope} {cl : Nat → List Ent → CRes} {pos : Pos} {σ : St} {H : Hp}
/-- how errors stand in the heap: with fewer addresses shut they stand, too -/
def XMono (XR : Hp → (Addr → Prop) → Exn → Value → Option Addr → Prop) : Prop := ∀ H M M' x c d, (∀ a, M' a → M a) → XR H M x c d → XR H M' x c d
/-- a call with values -/
theorem call_ok {np f : Nat} {es : Es} {Q : VK} (hX : XMono XR) (hn : ∀ ds : List D, ∀ e o, cl f (ds.map .val) = .ok e o → ds.length = np) (hn2 : ∀ ds : List D, ∀ e o, cl f (ds.map .val) = .ex e o → ds.length = np)
    (h : rdE X.K XR Ek (fun ρ => (evs cl es ρ).bind fun ds ρ => (cl f (ds.map .val)).val ρ) σ H Q) : tCallS (spF X.K XR cl np f) (WE Ek) (rdA X.K XR Ek (evs cl es)) σ H Q := by
  obtain ⟨B, ρ, S, h⟩ := h
  refine seq S h fun ds ρ1 vs H1 _ S1 k1 r1 h1 => ?_
  have r1 : Rps X.K H1 (MM B ρ1 σ) ds vs := r1
  show spF X.K XR cl np f vs H1 Q (WE Ek σ)
  have SA := S1.args r1
  cases e : cl f (ds.map .val) with
  | no => rw [e] at h1; exact h1.elim
  | ok en o =>
    refine ⟨by rw [r1.length]; exact hn ds en o e, MM B ρ1 σ, ds.map .val, SA, ?_⟩
    rw [e]
    rw [e] at h1
    intro v H' k _ q
    have sm := kp_vals k
    cases en with
    | val d => exact h1 v H' (S1.same sm) (.same sm) (Rp.mono (stays_iff fun a => mm_vals.mpr) _ _ q)
    | _ => exact h1.elim
  | ex x o =>
    refine ⟨by rw [r1.length]; exact hn2 ds x o e, MM B ρ1 σ, ds.map .val, SA, ?_⟩
    rw [e]
    rw [e] at h1
    intro c d H' k _ q
    have sm := kp_vals k
    exact h1 c d H' (S1.same sm) (.same sm) (hX _ _ _ _ _ _ (fun a => mm_vals.mpr) q)
/-- a list of one's own, as it stands -/
theorem mine_of {ρ : Rho} {i : Nat} {ds : List D} (h : ρ.mine i = some ds) : ∃ e, ρ[i]? = some e ∧ e.isOwn = true ∧ e.got = some (.list ds) ∧ ∀ d, ∃ ρ', ρ.upd i d = some ρ' ∧ ∃ e', ρ' = ρ.set i e' ∧ e'.isOwn = true ∧ e'.got = some d ∧ ((∃ d, e = .io d) → ∃ d, e' = .io d) := by
  unfold Rho.mine at h
  split at h <;> cases h
  · rename_i e
    exact ⟨_, e, rfl, rfl, fun d => ⟨_, by unfold Rho.upd; rw [e], .own d, rfl, rfl, rfl, fun ⟨_, z⟩ => by cases z⟩⟩
  · rename_i e
    exact ⟨_, e, rfl, rfl, fun d => ⟨_, by unfold Rho.upd; rw [e], .io d, rfl, rfl, rfl, fun _ => ⟨d, rfl⟩⟩⟩
/-- a call with a list of one's own ahead -/
theorem callp_ok {np f i : Nat} {es : Es} {Q : VK} (hX : XMono XR) (hn : ∀ args : List Ent, ∀ e o, cl f args = .ok e o → args.length = np) (hn2 : ∀ args : List Ent, ∀ e o, cl f args = .ex e o → args.length = np)
    (h : rdE X.K XR Ek (ev cl (.callp f i es)) σ H Q) : tCallS (spF X.K XR cl np f) (WE Ek) (tCons (tVar i) (rdA X.K XR Ek (evs cl es))) σ H Q := by
  obtain ⟨B, ρ, S, h⟩ := h
  have h : Pst X.K XR Ek (RelE X.K) B ρ σ H (match ρ.at i with
    | none => .no
    | some _ => (evs cl es ρ).bind fun ds ρ => match ρ.mine i with
      | some d => (cl f (.io (.list d) :: ds.map .val)).valp i ρ
      | none => .no) Q := h
  cases e0 : ρ.at i with
  | none => rw [e0] at h; exact h.elim
  | some d0 =>
    rw [e0] at h
    have hv : ∃ v, σ[i]? = some (some v) := by
      unfold Rho.at at e0
      cases e2 : ρ[i]? with
      | none => rw [e2] at e0; cases e0
      | some en => rw [e2] at e0; obtain ⟨v, e1, _⟩ := S.get e2 e0; exact ⟨v, e1⟩
    obtain ⟨v0, hv⟩ := hv
    refine ⟨v0, hv, ?_⟩
    refine seq S h fun ds ρ1 vs H1 _ S1 k1 r1 h1 => ?_
    have r1 : Rps X.K H1 (MM B ρ1 σ) ds vs := r1
    show spF X.K XR cl np f (v0 :: vs) H1 Q (WE Ek σ)
    cases e3 : ρ1.mine i with
    | none => rw [e3] at h1; exact h1.elim
    | some d =>
      rw [e3] at h1
      have h1 : Pst X.K XR Ek (RelE X.K) B ρ1 σ H1 ((cl f (.io (.list d) :: ds.map .val)).valp i ρ1) Q := h1
      obtain ⟨en, m1, m2, m3, m4⟩ := mine_of e3
      obtain ⟨a, ha, nB, q⟩ := S1.own i en _ m1 m2 m3
      rw [hv] at ha; cases ha
      obtain ⟨SA, mm, ow⟩ := S1.argsIo m1 m2 m3 hv r1
      have chg : ∀ {H' : Hp} {o : Option D} , Kp (.io (.list d) :: ds.map Ent.val) ((.ref a :: vs).map some) H1 (.io (.list d) :: ds.map Ent.val) ((.ref a :: vs).map some) H' →
          OutOk X.K H' (MM (fun b => MM B ρ1 σ b ∧ b ≠ a) (.io (.list d) :: ds.map Ent.val) ((.ref a :: vs).map some)) (.io (.list d) :: ds.map Ent.val) (.ref a :: vs) o →
          ∃ d' ρ', o = some d' ∧ ρ1.upd i d' = some ρ' ∧ SR X.K H' B ρ' σ ∧ Kp ρ1 σ H1 ρ' σ H' ∧ (∀ b, MM B ρ' σ b → MM B ρ1 σ b) := fun {H' o} k ou => by
        obtain ⟨d', a', e4, e5, oa⟩ := ou _ rfl
        cases e5
        obtain ⟨ρ', u1, e', u2, u3, u4, u5⟩ := m4 d'
        subst u2
        have hk : ∀ b u, H1 b = some u → b ≠ a → H' b = some u := fun b u hb nb => k.keep b u hb fun j z => nb (ow j b z).2
        obtain ⟨S2, k2⟩ := S1.change (H' := H') m1 m2 hv u3 u5 u4 hk oa.there (fun M hM st => oa.mono (stays_iff fun b z => (mm b).mpr ((hM b).mp z)) rfl)
        refine ⟨d', _, e4, u1, S2, k2, fun b z => z.imp id fun ⟨j, w, hw⟩ => ⟨j, ?_, hw⟩⟩
        obtain ⟨u, hu, hu2⟩ := w
        rcases get_set hu with ⟨rfl, _, _⟩ | ⟨_, hu⟩
        · exact ⟨en, m1, m2⟩
        · exact ⟨u, hu, hu2⟩
      cases e : cl f (.io (.list d) :: ds.map .val) with
      | no => rw [e] at h1; exact h1.elim
      | ok en' o =>
        refine ⟨by rw [← hn _ en' o e]; simp [r1.length], _, _, SA, ?_⟩
        rw [e]
        rw [e] at h1
        intro v H' k ou rq
        obtain ⟨d', ρ', e6, e7, S2, k2, sub⟩ := chg k ou
        subst e6
        cases en' with
        | val d =>
          simp only [CRes.valp, e7, Option.map_some, R.lift, R.bind] at h1
          exact h1 v H' S2 k2 (Rp.mono (stays_iff fun b z => (mm b).mpr (sub b z)) _ _ rq)
        | _ => exact h1.elim
      | ex x o =>
        refine ⟨by rw [← hn2 _ x o e]; simp [r1.length], _, _, SA, ?_⟩
        rw [e]
        rw [e] at h1
        intro c dd H' k ou rq
        obtain ⟨d', ρ', e6, e7, S2, k2, sub⟩ := chg k ou
        subst e6
        simp only [CRes.valp, e7] at h1
        exact h1 c dd H' S2 k2 (hX _ _ _ _ _ _ (fun b z => (mm b).mpr (sub b z)) rq)
end
end Ev

set_option Elab.async false
set_option linter.all false
set_option maxRecDepth 100000
set_option autoImplicit false
/-! Ev5: what is walked; targets; blocks. -/
namespace Ev
open PySem L2
/-- an iterator gives the items xs, while what stood at H0 (but at M) stands -/
structure ItOk (K : PySem.W.Frag) (lo : Bool) (J : L2.It) (H0 : Hp) (M : Addr → Prop) (xs : List D) : Prop where
  go : ∀ (i : Nat) H, (∀ a o, H0 a = some o → ¬ M a → H a = some o) → i < xs.length → J.go i H
  yld : ∀ (i : Nat) (d : D) H x H', (∀ a o, H0 a = some o → ¬ M a → H a = some o) → xs[i]? = some d → J.yld i H x H' → Same H H' ∧ ∀ M', (∀ a, M' a → ∃ o, H a = some o) → Stays H0 M H M' → RpY K H' M' lo d x
  stop : ∀ (i : Nat) H, (∀ a o, H0 a = some o → ¬ M a → H a = some o) → xs.length ≤ i → J.stop i H
def rdI (K : PySem.W.Frag) (lo : Bool) (XR : Hp → (Addr → Prop) → Exn → Value → Option Addr → Prop) (Ek : WX) (f : Rho → R (List D)) : TI := fun σ H Rr => ∃ B ρ, SR K H B ρ σ ∧ match f ρ with
  | .ok xs ρ' => ∀ J H', SR K H' B ρ' σ → Kp ρ σ H ρ' σ H' → ItOk K lo J H' (MM B ρ' σ) xs → Rr J H'
  | .ex x ρ' => ∀ c d H', SR K H' B ρ' σ → Kp ρ σ H ρ' σ H' → XR H' (MM B ρ' σ) x c d → Ek c d σ H'
  | .no => False
section
variable {K : PySem.W.Frag} {H : Hp} {M : Addr → Prop} {xs : List D} {lo : Bool}
theorem itOk_list {a : Addr} {vs : List V} (l : LsA K H M a vs) (r : Rps K H M xs vs) : ItOk K lo (Itl K a) H M xs := by
  have sq : ∀ H', (∀ a o, H a = some o → ¬ M a → H' a = some o) → SqL K H' a vs := fun H' h => by
    rcases l with ⟨l | ⟨o, l⟩, n⟩ | l
    · exact .of (h a _ l n)
    · exact .inl (.inr ⟨o, h a _ l n⟩)
    · exact (LsA.sq (M := M) (.inr l))
  refine ⟨fun i H' h hi => ?_, fun i d H' x H'' h e y => ?_, fun i H' h hi => ⟨vs, sq H' h, by rw [r.length]; exact hi⟩⟩
  · obtain ⟨x, e, _⟩ := r.get (List.getElem?_eq_getElem hi)
    exact ⟨vs, x, sq H' h, e⟩
  · obtain ⟨e1, y⟩ := y
    subst e1
    obtain ⟨x', e2, p⟩ := r.get e
    have e3 := y vs (sq _ h)
    rw [e2] at e3; cases e3
    exact ⟨Same.refl _, fun M' _ st => .inl (Rp.mono st _ _ p)⟩
theorem itOk_tup {a : Addr} {vs : List V} (l : TpA K H M a vs) (r : Rps K H M xs vs) : ItOk K lo (Itt K a) H M xs := by
  have sq : ∀ H', (∀ a o, H a = some o → ¬ M a → H' a = some o) → SqT K H' a vs := fun H' h => l.at h
  refine ⟨fun i H' h hi => ?_, fun i d H' x H'' h e y => ?_, fun i H' h hi => ⟨vs, sq H' h, by rw [r.length]; exact hi⟩⟩
  · obtain ⟨x, e, _⟩ := r.get (List.getElem?_eq_getElem hi)
    exact ⟨vs, x, sq H' h, e⟩
  · obtain ⟨e1, y⟩ := y
    subst e1
    obtain ⟨x', e2, p⟩ := r.get e
    have e3 := y vs (sq _ h)
    rw [e2] at e3; cases e3
    exact ⟨Same.refl _, fun M' _ st => .inl (Rp.mono st _ _ p)⟩
theorem itOk_rng {l : Int} {n : Nat} : ItOk K lo (Itr l n) H M (rngD l n) := by
  have len : (rngD l n).length = n := by simp [rngD]
  refine ⟨fun i H' h hi => by rw [len] at hi; exact hi, fun i d H' x H'' h e y => ?_, fun i H' h hi => by rw [len] at hi; exact hi⟩
  obtain ⟨e1, e2⟩ := y
  subst e1 e2
  have hi : i < n := by have := lt_of_get e; rw [len] at this; exact this
  have e3 : (rngD l n)[i]? = some (.int (l + (i : Nat))) := by simp [rngD, hi]
  rw [e3] at e; cases e
  exact ⟨Same.refl _, fun M' _ _ => .inl rp_int⟩
theorem itOk_down {l : Int} {n : Nat} : ItOk K lo (Itc l (-1) n) H M ((List.range n).map fun k => .int (l - (k : Nat))) := by
  have len : ((List.range n).map fun k => PyData.int (l - (k : Nat))).length = n := by simp
  refine ⟨fun i H' h hi => by rw [len] at hi; exact hi, fun i d H' x H'' h e y => ?_, fun i H' h hi => by rw [len] at hi; exact hi⟩
  obtain ⟨e1, e2⟩ := y
  subst e1 e2
  have hi : i < n := by have := lt_of_get e; rw [len] at this; exact this
  have e3 : ((List.range n).map fun k => PyData.int (l - (k : Nat)))[i]? = some (.int (l - (i : Nat))) := by simp [hi]
  rw [e3] at e; cases e
  have z : l + ((i : Nat) : Int) * -1 = l - (i : Nat) := by omega
  rw [z]
  exact ⟨Same.refl _, fun M' _ _ => .inl rp_int⟩
theorem pair_get {as bs : List D} {i : Nat} {d : D} (e : ((as.zip bs).map fun p => PyData.tuple [p.1, p.2])[i]? = some d) : ∃ a b, as[i]? = some a ∧ bs[i]? = some b ∧ d = .tuple [a, b] := by
  rw [List.getElem?_map] at e
  cases q : (as.zip bs)[i]? with
  | none => rw [q] at e; cases e
  | some p =>
    rw [q] at e; cases e
    obtain ⟨h1, h2⟩ := List.getElem?_zip_eq_some.mp q
    exact ⟨_, _, h1, h2, rfl⟩
theorem zip_len {as bs : List D} : ((as.zip bs).map fun p => PyData.tuple [p.1, p.2]).length = min as.length bs.length := by simp
theorem itOk_zipL {a b : Addr} {as bs : List D} {vs ws : List V} (l : LsA K H M a vs) (r : Rps K H M as vs) (l2 : LsA K H M b ws) (r2 : Rps K H M bs ws) : ItOk K true (Itz K a b) H M ((as.zip bs).map fun p => .tuple [p.1, p.2]) := by
  have sq : ∀ {a : Addr} {vs : List V}, LsA K H M a vs → ∀ H', (∀ a o, H a = some o → ¬ M a → H' a = some o) → SqL K H' a vs := fun {a vs} l H' h => by
    rcases l with ⟨l | ⟨o, l⟩, n⟩ | l
    · exact .of (h a _ l n)
    · exact .inl (.inr ⟨o, h a _ l n⟩)
    · exact (LsA.sq (M := M) (.inr l))
  refine ⟨fun i H' h hi => ?_, fun i d H' x H'' h e y => ?_, fun i H' h hi => ⟨vs, ws, sq l H' h, sq l2 H' h, by rw [r.length, r2.length]; rw [zip_len] at hi; omega⟩⟩
  · rw [zip_len] at hi
    obtain ⟨x, e, _⟩ := r.get (List.getElem?_eq_getElem (show i < as.length by omega))
    obtain ⟨y, e', _⟩ := r2.get (List.getElem?_eq_getElem (show i < bs.length by omega))
    exact ⟨vs, ws, x, y, sq l H' h, sq l2 H' h, e, e'⟩
  · obtain ⟨T, x1, y1, rfl, nT, rfl, hx, hy⟩ := y
    obtain ⟨da, db, e1, e2, rfl⟩ := pair_get e
    obtain ⟨x', f1, p1⟩ := r.get e1
    obtain ⟨y', f2, p2⟩ := r2.get e2
    have g1 := hx vs (sq l _ h)
    have g2 := hy ws (sq l2 _ h)
    rw [f1] at g1; cases g1
    rw [f2] at g2; cases g2
    exact ⟨Ev.same_new nT, fun M' hb st => rp_newY hb nT (.cons (Rp.mono st _ _ p1) (.cons (Rp.mono st _ _ p2) .nil))⟩
theorem itOk_zipT {a b : Addr} {as bs : List D} {vs ws : List V} (l : TpA K H M a vs) (r : Rps K H M as vs) (l2 : TpA K H M b ws) (r2 : Rps K H M bs ws) : ItOk K true (RZ.ItzT K a b) H M ((as.zip bs).map fun p => .tuple [p.1, p.2]) := by
  have sq : ∀ {a : Addr} {vs : List V}, TpA K H M a vs → ∀ H', (∀ a o, H a = some o → ¬ M a → H' a = some o) → SqT K H' a vs := fun {a vs} l H' h => l.at h
  refine ⟨fun i H' h hi => ?_, fun i d H' x H'' h e y => ?_, fun i H' h hi => ⟨vs, ws, sq l H' h, sq l2 H' h, by rw [r.length, r2.length]; rw [zip_len] at hi; omega⟩⟩
  · rw [zip_len] at hi
    obtain ⟨x, e, _⟩ := r.get (List.getElem?_eq_getElem (show i < as.length by omega))
    obtain ⟨y, e', _⟩ := r2.get (List.getElem?_eq_getElem (show i < bs.length by omega))
    exact ⟨vs, ws, x, y, sq l H' h, sq l2 H' h, e, e'⟩
  · obtain ⟨T, x1, y1, rfl, nT, rfl, hx, hy⟩ := y
    obtain ⟨da, db, e1, e2, rfl⟩ := pair_get e
    obtain ⟨x', f1, p1⟩ := r.get e1
    obtain ⟨y', f2, p2⟩ := r2.get e2
    have g1 := hx vs (sq l _ h)
    have g2 := hy ws (sq l2 _ h)
    rw [f1] at g1; cases g1
    rw [f2] at g2; cases g2
    exact ⟨Ev.same_new nT, fun M' hb st => rp_newY hb nT (.cons (Rp.mono st _ _ p1) (.cons (Rp.mono st _ _ p2) .nil))⟩
end
section
variable {XR : Hp → (Addr → Prop) → Exn → Value → Option Addr → Prop} {X : Cx} {Ek : WX} {cl : Nat → List Ent → CRes} {pos : Pos} {σ : St} {H : Hp} {tg : Expr}
theorem seqI {lo : Bool} {f : Rho → R D} {g : D → Rho → R (List D)} {B : Addr → Prop} {ρ : Rho} {Rr : L2.It → Hp → Prop} {Q : VK} (S : SR X.K H B ρ σ)
    (h : match (f ρ).bind g with
      | .ok xs ρ' => ∀ J H', SR X.K H' B ρ' σ → Kp ρ σ H ρ' σ H' → ItOk X.K lo J H' (MM B ρ' σ) xs → Rr J H'
      | .ex x ρ' => ∀ c d H', SR X.K H' B ρ' σ → Kp ρ σ H ρ' σ H' → XR H' (MM B ρ' σ) x c d → Ek c d σ H'
      | .no => False)
    (k : ∀ d ρ1 v H1, SR X.K H1 B ρ1 σ → Kp ρ σ H ρ1 σ H1 → Rp X.K H1 (MM B ρ1 σ) d v → (match g d ρ1 with
      | .ok xs ρ' => ∀ J H', SR X.K H' B ρ' σ → Kp ρ1 σ H1 ρ' σ H' → ItOk X.K lo J H' (MM B ρ' σ) xs → Rr J H'
      | .ex x ρ' => ∀ c d H', SR X.K H' B ρ' σ → Kp ρ1 σ H1 ρ' σ H' → XR H' (MM B ρ' σ) x c d → Ek c d σ H'
      | .no => False) → Q v H1) : rdE X.K XR Ek f σ H Q := by
  refine ⟨B, ρ, S, ?_⟩
  cases e : f ρ with
  | no => rw [e] at h; exact h
  | ex x ρ1 => rw [e] at h; exact h
  | ok d ρ1 =>
    rw [e] at h
    have h : (match g d ρ1 with
      | .ok xs ρ' => ∀ J H', SR X.K H' B ρ' σ → Kp ρ σ H ρ' σ H' → ItOk X.K lo J H' (MM B ρ' σ) xs → Rr J H'
      | .ex x ρ' => ∀ c d H', SR X.K H' B ρ' σ → Kp ρ σ H ρ' σ H' → XR H' (MM B ρ' σ) x c d → Ek c d σ H'
      | .no => False) := h
    intro v H1 S1 k1 r1
    refine k d ρ1 v H1 S1 k1 r1 ?_
    cases e2 : g d ρ1 with
    | no => rw [e2] at h; exact h
    | ex x ρ2 => rw [e2] at h; exact fun c dd H' s kk => h c dd H' s (k1.trans kk)
    | ok xs ρ2 => rw [e2] at h; exact fun J H' s kk => h J H' s (k1.trans kk)
/-- a list or a tuple that is walked -/
theorem pi_seq {l : Expr} {tl : TE} (hl : PE X l tl) : PI X tg l (fun σ H Rr => tl σ H fun x H1 => ∃ a, x = .ref a ∧ ((∃ xs, SqL X.K H1 a xs) ∧ Rr (Itl X.K a) H1 ∨ (∃ xs, SqT X.K H1 a xs) ∧ Rr (Itt X.K a) H1)) := by
  refine ⟨fun pins s σ H Rr I h => thn (hl.run pins s σ H _ I h) fun v s1 ⟨x, H1, I1, r1, a, e, q⟩ => ?_⟩
  subst e
  cases r1
  have new : ∀ b ∈ [s1.heap.objs.size], FpOk X pins H1 b := fun b hb => by
    rw [List.mem_singleton.mp hb]
    exact I1.fpOk (Nat.le_refl _) (I1.hok.fresh (Nat.le_refl _))
  rcases q with ⟨⟨xs, hq⟩, q⟩ | ⟨⟨xs, hq⟩, q⟩
  · obtain ⟨its, rv, p, hz⟩ := I1.list hq
    exact wpAny_pyIter_list p.isList ⟨s1.heap.objs.size, [s1.heap.objs.size], _, _, H1, rfl, I1.kept (t' := s1.toks) fun b o e => Heap.get?_push_of_some _ e, turn_list a _, ⟨_, Heap.get?_push_size _ rfl, rfl, rfl⟩, new, q⟩
  · obtain ⟨its, rv, p, hz⟩ := I1.tuple hq
    exact wpAny_pyIter_tuple (show s1.heap.IsTuple a its.toArray from p) ⟨s1.heap.objs.size, [s1.heap.objs.size], _, _, H1, rfl, I1.kept (t' := s1.toks) fun b o e => Heap.get?_push_of_some _ e, turn_tuple a _, ⟨_, Heap.get?_push_size _ rfl, rfl, rfl⟩, new, q⟩
/-- a target of names -/
def isTupE : Expr → Bool
  | .Tuple .. => true
  | _ => false
abbrev SW (XR : Hp → (Addr → Prop) → Exn → Value → Option Addr → Prop) (X : Cx) (Ek : WX) (cl : Nat → List Ent → CRes) (tg : Expr) (i : Ev.It) (a : Expr) : Prop := PI X tg a (rdI X.K (isTupE tg) XR Ek (evit cl i))
theorem w_ov {e : Ev.E} {a : Expr} (h : SE XR X Ek cl e a) : SW XR X Ek cl tg (.ov e) a := (pi_seq h).weak fun σ H Rr ⟨B, ρ, S, h⟩ => by
  refine seqI S h fun d ρ1 v H1 S1 k1 r1 h1 => ?_
  cases d with
  | list ds =>
    obtain ⟨a, xs, rfl, l, r⟩ := r1.lst
    exact ⟨a, rfl, .inl ⟨⟨xs, l.sq⟩, h1 _ H1 S1 .refl (itOk_list l r)⟩⟩
  | tuple ds =>
    obtain ⟨a, xs, rfl, l, r⟩ := r1.tup
    exact ⟨a, rfl, .inr ⟨⟨xs, l.sq⟩, h1 _ H1 S1 .refl (itOk_tup l r)⟩⟩
  | _ => exact h1.elim
variable {ea eb ec : Ev.E} {a b c : Expr} {p : Pos}
theorem w_rng1 (hg : Gl X "range") (hm : X.mg "range" = none) (ha : SE XR X Ek cl ea a) (hp : plainX a = true) : SW XR X Ek cl tg (.rng1 ea) (.Call (.Name "range" p) [a] [] pos) :=
  (pi_range1 hg hm (pa_cons ha pa_nil (star_plain hp _ _)) (star_plain hp _ _)).weak fun σ H Rr ⟨B, ρ, S, h⟩ => by
    refine seqI S h fun d ρ1 v H1 S1 k1 r1 h1 => ?_
    cases d with
    | int j =>
      simp only [rngF1] at h1
      split at h1
      · rename_i xs ρ' e
        split at e
        · cases e
          rename_i hc
          simp only [rOk1, Bool.and_eq_true, decide_eq_true_eq] at hc
          simp only [Rp] at r1
          exact ⟨j, by rw [r1], hc.1, hc.2, h1 _ H1 S1 .refl itOk_rng⟩
        · cases e
      · rename_i e; split at e <;> cases e
      · exact h1.elim
    | _ => exact h1.elim
theorem w_rng2 (hg : Gl X "range") (hm : X.mg "range" = none) (ha : SE XR X Ek cl ea a) (hb : SE XR X Ek cl eb b) (hp : plainX a = true) (hq : plainX b = true) : SW XR X Ek cl tg (.rng2 ea eb) (.Call (.Name "range" p) [a, b] [] pos) :=
  (pi_range2 hg hm (pa_cons ha (pa_cons hb pa_nil (star_plain hq _ _)) (star_plain hp _ _)) (by rw [star_plain hp, star_plain hq]; rfl) (star_plain hq _ _)).weak fun σ H Rr ⟨B, ρ, S, h⟩ => by
    refine seqI S h fun d ρ1 v H1 S1 k1 r1 h1 => ?_
    refine seqI S1 h1 fun d2 ρ2 v2 H2 S2 k2 r2 h2 => ?_
    have r1 := Rp.kp k2 r1
    cases d with
    | int i =>
      cases d2 with
      | int j =>
        simp only [rngF2] at h2
        split at h2
        · rename_i xs ρ' e
          split at e
          · cases e
            rename_i hc
            simp only [rOk2, Bool.and_eq_true, decide_eq_true_eq] at hc
            simp only [Rp] at r1 r2
            exact ⟨i, j, by rw [r1, r2], ⟨hc.1.1.1, hc.1.1.2, hc.1.2, hc.2⟩, h2 _ H2 S2 .refl itOk_rng⟩
          · cases e
        · rename_i e; split at e <;> cases e
        · exact h2.elim
      | _ => exact h2.elim
    | _ => exact h2.elim
theorem w_rng3 (hg : Gl X "range") (hm : X.mg "range" = none) (ha : SE XR X Ek cl ea a) (hb : SE XR X Ek cl eb b) (hc : SE XR X Ek cl ec c) (hp : plainX a = true) (hq : plainX b = true) (hr : plainX c = true) : SW XR X Ek cl tg (.rng3 ea eb ec) (.Call (.Name "range" p) [a, b, c] [] pos) :=
  (pi_range3 hg hm (pa_cons ha (pa_cons hb (pa_cons hc pa_nil (star_plain hr _ _)) (star_plain hq _ _)) (star_plain hp _ _)) (star_plain hp _ _) (star_all (es := [b, c]) (by simp [hq, hr]))).weak fun σ H Rr ⟨B, ρ, S, h⟩ => by
    refine seqI S h fun d ρ1 v H1 S1 k1 r1 h1 => ?_
    refine seqI S1 h1 fun d2 ρ2 v2 H2 S2 k2 r2 h2 => ?_
    refine seqI S2 h2 fun d3 ρ3 v3 H3 S3 k3 r3 h3 => ?_
    have r1 := Rp.kp k3 (Rp.kp k2 r1)
    have r2 := Rp.kp k3 r2
    cases d with
    | int i =>
      cases d2 with
      | int j =>
        cases d3 with
        | int c =>
          simp only [rngF3] at h3
          split at h3
          · rename_i xs ρ' e
            split at e
            · cases e
              rename_i hc
              simp only [rOk3, Bool.and_eq_true, decide_eq_true_eq] at hc
              simp only [Rp] at r1 r2 r3
              obtain ⟨⟨⟨⟨⟨rfl, h1⟩, h2⟩, h4⟩, h5⟩, h6⟩ := hc
              exact ⟨i, j, -1, (i - j).toNat, by rw [r1, r2, r3], RgC.neg (by omega) (by omega) (by omega) (by omega), h3 _ H3 S3 .refl itOk_down⟩
            · cases e
          · rename_i e; split at e <;> cases e
          · exact h3.elim
        | _ => exact h3.elim
      | _ => exact h3.elim
    | _ => exact h3.elim
theorem w_zip {elts : List Expr} {kk : Nat} {tpos : Pos} (hg : Gl X "zip") (hm : X.mg "zip" = none) (ha : SE XR X Ek cl ea a) (hb : SE XR X Ek cl eb b) (hp : plainX a = true) (hq : plainX b = true) : SW XR X Ek cl (.Tuple elts kk tpos) (.zip ea eb) (.Call (.Name "zip" p) [a, b] [] pos) :=
  (RZ.pi_zipA hg hm (pa_cons ha (pa_cons hb pa_nil (star_plain hq _ _)) (star_plain hp _ _)) (star_plain hp _ _) (star_all (es := [b]) (by simp [hq]))).weak fun σ H Rr ⟨B, ρ, S, h⟩ => by
    refine seqI S h fun d ρ1 v H1 S1 k1 r1 h1 => ?_
    refine seqI S1 h1 fun d2 ρ2 v2 H2 S2 k2 r2 h2 => ?_
    have r1 := Rp.kp k2 r1
    cases d with
    | list ds =>
      cases d2 with
      | list es =>
        obtain ⟨a, xs, rfl, l, r⟩ := r1.lst
        obtain ⟨b, ys, rfl, l2, r2⟩ := r2.lst
        exact ⟨a, b, xs, ys, rfl, .inl ⟨l.sq, l2.sq, h2 _ H2 S2 .refl (itOk_zipL l r l2 r2)⟩⟩
      | _ => exact h2.elim
    | tuple ds =>
      cases d2 with
      | tuple es =>
        obtain ⟨a, xs, rfl, l, r⟩ := r1.tup
        obtain ⟨b, ys, rfl, l2, r2⟩ := r2.tup
        exact ⟨a, b, xs, ys, rfl, .inr ⟨l.sq, l2.sq, h2 _ H2 S2 .refl (itOk_zipT l r l2 r2)⟩⟩
      | _ => exact h2.elim
    | _ => cases d2 <;> exact h2.elim
end
end Ev

set_option Elab.async false
set_option linter.all false
set_option maxRecDepth 100000
set_option autoImplicit false
/-! Ev5b: targets, blocks of comprehensions. -/
namespace Ev
open PySem L2
/-! ### slots of a block -/
theorem wipe_get {σ : St} {i : Nat} : ∀ {vs : List Nat}, (wipe σ vs)[i]? = if i ∈ vs ∧ i < σ.length then some none else σ[i]?
  | [] => by simp [wipe]
  | v :: vs => by
    unfold wipe
    by_cases e : v = i
    · subst e
      by_cases h : v < σ.length
      · rw [List.getElem?_set_self (by rw [wipe_length]; exact h), if_pos ⟨List.mem_cons_self, h⟩]
      · rw [List.getElem?_eq_none (by rw [List.length_set, wipe_length]; omega), if_neg (fun z => h z.2), List.getElem?_eq_none (by omega)]
    · rw [List.getElem?_set_ne e, wipe_get]
      have z : (i ∈ v :: vs) ↔ i ∈ vs := by simp [Ne.symm e]
      simp only [z]
theorem wipeR_len (ρ : Rho) : ∀ vs : List Nat, (wipeR ρ vs).length = ρ.length
  | [] => rfl
  | v :: vs => by unfold wipeR; rw [List.length_set, wipeR_len ρ vs]
theorem wipeR_get {ρ : Rho} {i : Nat} : ∀ {vs : List Nat}, (wipeR ρ vs)[i]? = if i ∈ vs ∧ i < ρ.length then some Ent.un else ρ[i]?
  | [] => by simp [wipeR]
  | v :: vs => by
    unfold wipeR
    by_cases e : v = i
    · subst e
      by_cases h : v < ρ.length
      · rw [List.getElem?_set_self (by rw [wipeR_len]; exact h), if_pos ⟨List.mem_cons_self, h⟩]
      · rw [List.getElem?_eq_none (by rw [List.length_set, wipeR_len]; omega), if_neg (fun z => h z.2), List.getElem?_eq_none (by omega)]
    · rw [List.getElem?_set_ne e, wipeR_get]
      have z : (i ∈ v :: vs) ↔ i ∈ vs := by simp [Ne.symm e]
      simp only [z]
theorem backR_len (ρ0 ρ : Rho) : ∀ vs : List Nat, (backR ρ0 ρ vs).length = ρ.length
  | [] => rfl
  | v :: vs => by unfold backR; rw [List.length_set, backR_len ρ0 ρ vs]
theorem backR_get {ρ0 ρ : Rho} {i : Nat} : ∀ {vs : List Nat}, (backR ρ0 ρ vs)[i]? = if i ∈ vs ∧ i < ρ.length then some ((ρ0[i]?).getD .un) else ρ[i]?
  | [] => by simp [backR]
  | v :: vs => by
    unfold backR
    by_cases e : v = i
    · subst e
      by_cases h : v < ρ.length
      · rw [List.getElem?_set_self (by rw [backR_len]; exact h), if_pos ⟨List.mem_cons_self, h⟩]
      · rw [List.getElem?_eq_none (by rw [List.length_set, backR_len]; omega), if_neg (fun z => h z.2), List.getElem?_eq_none (by omega)]
    · rw [List.getElem?_set_ne e, backR_get]
      have z : (i ∈ v :: vs) ↔ i ∈ vs := by simp [Ne.symm e]
      simp only [z]
theorem wipe_set {σ : St} {i : Nat} {w : Option V} {vs : List Nat} (h : i ∈ vs) : wipe (σ.set i w) vs = wipe σ vs := by
  apply List.ext_getElem?
  intro j
  rw [wipe_get, wipe_get, List.length_set]
  by_cases e : i = j
  · subst e
    by_cases l : i < σ.length
    · rw [if_pos ⟨h, l⟩, if_pos ⟨h, l⟩]
    · rw [if_neg (fun z => l z.2), if_neg (fun z => l z.2), List.getElem?_eq_none (by simpa using l), List.getElem?_eq_none (by omega)]
  · rw [List.getElem?_set_ne e]
theorem wipe_wipe {σ : St} {vs : List Nat} : wipe (wipe σ vs) vs = wipe σ vs := by
  apply List.ext_getElem?
  intro j
  rw [wipe_get, wipe_get, wipe_length]
  split <;> rfl
theorem plain_at {ρ : Rho} {vs : List Nat} (h : plainAt ρ vs = true) {i : Nat} (hi : i ∈ vs) {e : Ent} (he : ρ[i]? = some e) : e.isOwn = false := by
  have := List.all_eq_true.mp h i hi
  rw [he] at this
  cases e <;> first | rfl | cases this
section
variable {K : PySem.W.Frag} {H H' H1 : Hp} {B B' : Addr → Prop} {ρ ρ' ρ1 : Rho} {σ : St} {own : List Nat}
theorem owner_wipe (hl : ρ.length = σ.length) (hp : plainAt ρ own = true) {i : Nat} {a : Addr} : Owner (wipeR ρ own) (wipe σ own) i a ↔ Owner ρ σ i a := by
  constructor
  · rintro ⟨⟨e, h1, h2⟩, h3⟩
    rw [wipeR_get] at h1
    rw [wipe_get] at h3
    split at h1
    · cases h1; cases h2
    · rename_i hn
      rw [if_neg (by rw [← hl]; exact hn)] at h3
      exact ⟨⟨e, h1, h2⟩, h3⟩
  · rintro ⟨⟨e, h1, h2⟩, h3⟩
    have hn : ¬ (i ∈ own ∧ i < ρ.length) := fun z => by have := plain_at hp z.1 h1; rw [h2] at this; cases this
    refine ⟨⟨e, by rw [wipeR_get, if_neg hn]; exact h1, h2⟩, ?_⟩
    rw [wipe_get, if_neg (by rw [← hl]; exact hn)]
    exact h3
theorem mm_wipe (hl : ρ.length = σ.length) (hp : plainAt ρ own = true) {a : Addr} : MM B (wipeR ρ own) (wipe σ own) a ↔ MM B ρ σ a := or_congr Iff.rfl (exists_congr fun i => owner_wipe hl hp)
theorem SR.wipe (S : SR K H B ρ σ) (hp : plainAt ρ own = true) : SR K H B (wipeR ρ own) (L2.wipe σ own) := by
  have st : Stays H (MM B ρ σ) H (MM B (wipeR ρ own) (L2.wipe σ own)) := fun a o e n => ⟨e, fun z => n ((mm_wipe S.len hp).mp z)⟩
  refine ⟨by rw [wipeR_len, wipe_length]; exact S.len, fun i d h => ?_, fun i e d h o g => ?_, fun i j a h h' => S.inj i j a ((owner_wipe S.len hp).mp h) ((owner_wipe S.len hp).mp h'), S.bnd⟩
  · rw [wipeR_get] at h
    split at h
    · cases h
    · rename_i hn
      obtain ⟨v, e1, r⟩ := S.val i d h
      exact ⟨v, by rw [wipe_get, if_neg (by rw [← S.len]; exact hn)]; exact e1, Rp.mono st _ _ r⟩
  · rw [wipeR_get] at h
    split at h
    · cases h; cases o
    · rename_i hn
      obtain ⟨a, e1, n, q⟩ := S.own i e d h o g
      exact ⟨a, by rw [wipe_get, if_neg (by rw [← S.len]; exact hn)]; exact e1, n, q.mono st rfl⟩
theorem kp_wipe (hl : ρ.length = σ.length) (hp : plainAt ρ own = true) (hio : True) : Kp ρ σ H (wipeR ρ own) (L2.wipe σ own) H := by
  refine ⟨fun _ _ h _ => h, fun i a h => .inl ⟨i, (owner_wipe hl hp).mp h⟩, fun _ o h => ⟨o, h⟩, fun i d h => ?_⟩
  have hn : ¬ (i ∈ own ∧ i < ρ.length) := fun z => by have := plain_at hp z.1 h; cases this
  exact ⟨by rw [wipe_get, if_neg (by rw [← hl]; exact hn)], d, by rw [wipeR_get, if_neg hn]; exact h⟩
/-- behind a block: the names that are its own are as they were -/
theorem SR.back (S0 : SR K H1 B ρ1 σ) (hp : plainAt ρ1 own = true) (S : SR K H' B' ρ' (L2.wipe σ own)) (hB : ∀ a, B' a → B a ∨ H1 a = none) (k : Kp (wipeR ρ1 own) (L2.wipe σ own) H1 ρ' (L2.wipe σ own) H') :
    SR K H' B' (backR ρ1 ρ' own) σ ∧ Kp ρ1 σ H1 (backR ρ1 ρ' own) σ H' ∧ (∀ a, MM B' (backR ρ1 ρ' own) σ a ↔ MM B' ρ' (L2.wipe σ own) a) := by
  have hl : ρ'.length = σ.length := by have := S.len; rw [wipe_length] at this; exact this
  have ow : ∀ {i a}, Owner (backR ρ1 ρ' own) σ i a ↔ Owner ρ' (L2.wipe σ own) i a := fun {i a} => by
    constructor
    · rintro ⟨⟨e, h1, h2⟩, h3⟩
      rw [backR_get] at h1
      split at h1
      · rename_i hi
        cases q : ρ1[i]? with
        | none => rw [q] at h1; cases h1; cases h2
        | some e' =>
          rw [q] at h1; cases h1
          have := plain_at hp hi.1 q
          have h2 : e'.isOwn = true := h2
          rw [h2] at this; cases this
      · rename_i hn
        exact ⟨⟨e, h1, h2⟩, by rw [wipe_get, if_neg (by rw [← hl]; exact hn)]; exact h3⟩
    · rintro ⟨⟨e, h1, h2⟩, h3⟩
      rw [wipe_get] at h3
      split at h3
      · cases h3
      · rename_i hn
        exact ⟨⟨e, by rw [backR_get, if_neg (by rw [hl]; exact hn)]; exact h1, h2⟩, h3⟩
  have mm : ∀ a, MM B' (backR ρ1 ρ' own) σ a ↔ MM B' ρ' (L2.wipe σ own) a := fun a => or_congr Iff.rfl (exists_congr fun i => ow)
  have st : Stays H' (MM B' ρ' (L2.wipe σ own)) H' (MM B' (backR ρ1 ρ' own) σ) := fun a o e n => ⟨e, fun z => n ((mm a).mp z)⟩
  have st0 : Stays H1 (MM B ρ1 σ) H' (MM B' (backR ρ1 ρ' own) σ) := fun a o e n => by
    refine ⟨k.keep a o e fun i z => n (.inr ⟨i, (owner_wipe S0.len hp).mp z⟩), fun z => ?_⟩
    rcases (mm a).mp z with z | ⟨i, z⟩
    · rcases hB a z with z | z
      · exact n (.inl z)
      · rw [z] at e; cases e
    · rcases k.new i a z with ⟨j, z⟩ | z
      · exact n (.inr ⟨j, (owner_wipe S0.len hp).mp z⟩)
      · rw [z] at e; cases e
  have hl0 : ρ1.length = σ.length := S0.len
  refine ⟨⟨by rw [backR_len]; exact hl, fun i d h => ?_, fun i e d h o g => ?_, fun i j a h h' => S.inj i j a (ow.mp h) (ow.mp h'), S.bnd⟩, ⟨fun a o e n => k.keep a o e fun i z => n i ((owner_wipe S0.len hp).mp z), fun i a h => ?_, k.there, fun i d h => ⟨rfl, ?_⟩⟩, mm⟩
  · rw [backR_get] at h
    split at h
    · rename_i hi
      have hd : ρ1[i]? = some (.val d) := by
        cases q : ρ1[i]? with
        | none => rw [q] at h; cases h
        | some e' => rw [q] at h; cases h; rfl
      obtain ⟨v, e1, r⟩ := S0.val i d hd
      exact ⟨v, e1, Rp.mono st0 _ _ r⟩
    · rename_i hn
      obtain ⟨v, e1, r⟩ := S.val i d h
      rw [wipe_get, if_neg (by rw [← hl]; exact hn)] at e1
      exact ⟨v, e1, Rp.mono st _ _ r⟩
  · rw [backR_get] at h
    split at h
    · rename_i hi
      cases q : ρ1[i]? with
      | none => rw [q] at h; cases h; cases o
      | some e' =>
        rw [q] at h; cases h
        have := plain_at hp hi.1 q
        have o : e'.isOwn = true := o
        rw [o] at this; cases this
    · rename_i hn
      obtain ⟨a, e1, n, q⟩ := S.own i e d h o g
      rw [wipe_get, if_neg (by rw [← hl]; exact hn)] at e1
      exact ⟨a, e1, n, q.mono st rfl⟩
  · rcases k.new i a (ow.mp h) with ⟨j, z⟩ | z
    · exact .inl ⟨j, (owner_wipe S0.len hp).mp z⟩
    · exact .inr z
  · have hn : ¬ (i ∈ own ∧ i < ρ1.length) := fun z => by have := plain_at hp z.1 h; cases this
    obtain ⟨_, d', e⟩ := k.io i d (by rw [wipeR_get, if_neg hn]; exact h)
    exact ⟨d', by rw [backR_get, if_neg (by rw [hl, ← hl0]; exact hn)]; exact e⟩
/-- what others hold is changed -/
theorem SR.foreign (S : SR K H B ρ σ) {a : Addr} {o : HO} (ha : B a) : SR K (upd H a o) B ρ σ := by
  have st : Stays H (MM B ρ σ) (upd H a o) (MM B ρ σ) := fun b u e n => ⟨by rw [upd_ne (fun z => n (.inl (by rw [z]; exact ha)))]; exact e, n⟩
  refine ⟨S.len, fun i d e => let ⟨v, e1, r⟩ := S.val i d e; ⟨v, e1, Rp.mono st _ _ r⟩, fun i en d e o' g => ?_, S.inj, fun b hb => ?_⟩
  · obtain ⟨b, e1, n, q⟩ := S.own i en d e o' g
    exact ⟨b, e1, n, q.mono st (by rw [upd_ne (fun z => n (by rw [z]; exact ha))])⟩
  · by_cases z : b = a
    · subst z; exact ⟨o, upd_same⟩
    · obtain ⟨u, e⟩ := S.bnd b hb
      exact ⟨u, by rw [upd_ne z]; exact e⟩
end
/-! ### (a, b, ..) = a list -/
section
open PySem.Spec PyProof.Rows
variable {prog : Program} {w : World} {A : Around} {E : Value → Shared → Prop} {s : Shared}
theorem drawL {it t : Addr} {items : Array Value} (hne : t ≠ it) : ∀ (n i : Nat) (s : Shared) (Q : List Value → Shared → Prop), s.heap.IsListIter it t i → s.heap.IsList t items → i + n ≤ items.size →
    (∀ h' : Heap, h'.IsListIter it t (i + n) → Heap.SameBut it s.heap h' → Q ((items.toList.drop i).take n) { s with heap := h' }) → wpAny (model prog w) A (draw (.ref it) n) Q E s
  | 0, i, s, Q, hit, _, _, hQ => wpAny_pure (by simpa using hQ s.heap hit (Heap.SameBut.refl ..))
  | n + 1, i, s, Q, hit, ht, hle, hQ => by
    have hl : i < items.size := by omega
    show wpAny _ _ (pyNext (.ref it) >>= _) Q E s
    refine wpAny_bind (wpAny_pyNext_list_item hit ht (x := items[i]) (by simp [hl]) fun g1 i1 b1 => wpAny_bind (wpAny_holding (drawL hne n (i + 1) _ _ i1 (ht.extBut b1.extBut hne) (by omega) fun g2 i2 b2 => wpAny_pure ?_)))
    have e1 : items.toList.drop i = items[i] :: items.toList.drop (i + 1) := by simp [List.drop_eq_getElem_cons, hl]
    have e2 := hQ g2 (by rw [show i + (n + 1) = i + 1 + n by omega]; exact i2) (b1.trans b2)
    rwa [e1, List.take_succ_cons] at e2
theorem assign_listL {env : PySem.Env} {elts : List Expr} {x1} {pos : Pos} {t : Addr} {items : Array Value} {Q : Unit → Shared → Prop} (hh : A.handled = none) (ht : s.heap.IsList t items)
    (hn : (assignEach elts env).length = items.size) (hstar : (assignEach elts env).findIdx? (·.1) = none)
    (h : ∀ h', Heap.ExtBut s.heap.objs.size s.heap h' → wpAny (model prog w) A (assignInOrder ((assignEach elts env).map (·.2)) items.toList) Q E { s with heap := h' }) :
    wpAny (model prog w) A (assign (.Tuple elts x1 pos) env (.ref t)) Q E s := by
  have hlt : t ≠ s.heap.objs.size := by obtain ⟨o, ho, _⟩ := id ht; exact Nat.ne_of_lt (Heap.lt_size ho)
  rw [assign_Tuple]
  refine wpAny_bind (wpAny_standAt ?_)
  unfold unpack
  rw [hn, hstar]
  refine wpAny_bind (wpAny_holding ?_)
  unfold unpackItems
  refine wpAny_bind ?_
  unfold notIterableAtAll
  refine wpAny_bind (wpAny_specialOf ht.typeIs slot_list_iter.lookup (wpAny_pure ?_))
  simp only [Bool.false_eq_true, if_false]
  refine wpAny_bind (wpAny_holding (wpAny_pyIter_list ht (wpAny_bind (wpAny_holding (drawL hlt items.size 0 _ _ ⟨_, Heap.get?_push_size _ rfl, rfl, rfl⟩ (ht.push _) (by omega) fun g1 i1 b1 => ?_)))))
  rw [List.drop_zero, List.take_of_length_le (by simp), if_neg (by simp)]
  have hl1 : g1.IsList t items := (ht.push _).extBut b1.extBut hlt
  refine wpAny_bind (wpAny_holding (wpAny_pyNext_list_end hh i1 hl1 (by simp) fun g2 b2 => ?_))
  simp only [Option.isSome_none, Bool.false_eq_true, if_false]
  exact wpAny_pure (h g2 fun b o hb e => b2 b o hb (b1.extBut b o hb (Heap.get?_push_of_some _ e)))
end
/-- (a, b, ..) = a tuple or a list of that length -/
def gTupL (K : PySem.W.Frag) (n : Nat) (t : TGs) : TG := fun v σ H Q => ∃ a xs, v = .ref a ∧ (SqT K H a xs ∨ SqL K H a xs) ∧ xs.length = n ∧ t xs σ H Q
theorem pg_tupL {X : Cx} {es : List Expr} {k : Nat} {t : TGs} {n : Nat} {pos : Pos} (hc : X.calm = true) (h : PGs X es t)
    (hn : (assignEach es X.env).length = n) (hst : (assignEach es X.env).findIdx? (·.1) = none) : PG X (.Tuple es k pos) (gTupL X.K n t) := by
  refine ⟨fun pins s σ H v u Q I r hw => ?_⟩
  obtain ⟨a, xs, e1, hq | hq, hl, hw⟩ := hw
  · exact (pg_tup (k := k) (pos := pos) hc h hn hst).run pins s σ H v u Q I r ⟨a, xs, e1, hq, hl, hw⟩
  · subst e1
    cases r
    obtain ⟨its, rv, ht, hz⟩ := I.list hq
    refine assign_listL (I.ok.hd hc) ht.isList (by simp [hn, ← hl, rv.length]) hst fun h' hx => ?_
    have I1 : Inv X pins σ H { s with heap := h' } := I.kept (t' := s.toks) fun b o e => hx b o (Nat.ne_of_lt (Heap.lt_size e)) e
    exact h.run pins _ σ H xs _ Q I1 (by simpa using rv) hw
/-! ### targets -/
def Tgt.slots : Tgt → List Nat
  | .one i => [i]
  | .tup is => is
def Tgt.isTup : Tgt → Bool
  | .one _ => false
  | .tup _ => true
def gNs : List Nat → TGs
  | [] => gNil
  | i :: is => gCons (gName i) (gNs is)
def gT (K : PySem.W.Frag) : Tgt → TG
  | .one i => gName i
  | .tup is => gTupL K is.length (gNs is)
section
variable {K : PySem.W.Frag} {H : Hp} {B : Addr → Prop} {ρ ρ1 : Rho} {σ : St}
theorem put_ok {i : Nat} {e : Ent} (h : ρ.put i e = some ρ1) : ρ1 = ρ.set i e ∧ ∀ d, ρ[i]? ≠ some (.io d) := by
  unfold Rho.put at h
  split at h
  · cases h
  · rename_i e' hn he
    cases h
    exact ⟨rfl, fun d z => by rw [he] at z; cases z; exact hn d rfl⟩
  · cases h
theorem names_ok {Q : St → Hp → Prop} : ∀ {is : List Nat} {ds : List D} {xs : List V} {ρ : Rho} {σ : St}, SR K H B ρ σ → Rps K H (MM B ρ σ) ds xs → putAll is ds ρ = some ρ1 →
    (∀ σ1, SR K H B ρ1 σ1 → Kp ρ σ H ρ1 σ1 H → (∀ vs, (∀ i ∈ is, i ∈ vs) → wipe σ1 vs = wipe σ vs) → Q σ1 H) → gNs is xs σ H Q
  | [], [], xs, ρ, σ, S, r, h, k => by
    cases h
    simp only [Rps] at r
    exact ⟨r, k σ S .refl fun _ _ => rfl⟩
  | i :: is, d :: ds, xs, ρ, σ, S, r, h, k => by
    obtain ⟨x, t, rfl, p, q⟩ := r.uncons
    have h : (ρ.put i (.val d)).bind (putAll is ds) = some ρ1 := h
    cases e : ρ.put i (.val d) with
    | none => rw [e] at h; cases h
    | some ρ2 =>
      rw [e] at h
      obtain ⟨rfl, hio⟩ := put_ok e
      have kk : Kp ρ σ H (ρ.set i (.val d)) (σ.set i (some x)) H := kp_setVal hio
      refine ⟨x, t, rfl, names_ok (S.setVal p) (Rps.kp kk q) h fun σ1 S1 k1 w1 => k σ1 S1 (kk.trans k1) fun vs hv => ?_⟩
      rw [w1 vs fun j hj => hv j (List.mem_cons_of_mem _ hj), wipe_set (hv i List.mem_cons_self)]
  | [], _ :: _, _, _, _, _, _, h, _ => by cases h
  | _ :: _, [], _, _, _, _, _, h, _ => by cases h
theorem putAll_len : ∀ {is : List Nat} {ds : List D} {ρ : Rho}, putAll is ds ρ = some ρ1 → is.length = ds.length
  | [], [], _, _ => rfl
  | i :: is, d :: ds, ρ, h => by
    have h : (ρ.put i (.val d)).bind (putAll is ds) = some ρ1 := h
    cases e : ρ.put i (.val d) with
    | none => rw [e] at h; cases h
    | some ρ2 => rw [e] at h; simp [putAll_len h]
  | [], _ :: _, _, h => by cases h
  | _ :: _, [], _, h => by cases h
theorem tgt_ok {t : Tgt} {d : D} {x : V} {Q : St → Hp → Prop} (S : SR K H B ρ σ) (r : Rp K H (MM B ρ σ) d x) (h : t.set d ρ = some ρ1)
    (k : ∀ σ1, SR K H B ρ1 σ1 → Kp ρ σ H ρ1 σ1 H → (∀ vs, (∀ i ∈ t.slots, i ∈ vs) → wipe σ1 vs = wipe σ vs) → Q σ1 H) : gT K t x σ H Q := by
  cases t with
  | one i =>
    obtain ⟨rfl, hio⟩ := put_ok h
    exact k _ (S.setVal r) (kp_setVal hio) fun vs hv => wipe_set (hv i (by simp [Tgt.slots]))
  | tup is =>
    cases d with
    | tuple ds =>
      obtain ⟨a, xs, rfl, l, rr⟩ := r.tup
      exact ⟨a, xs, rfl, .inl l.sq, by rw [rr.length]; exact (putAll_len h).symm, names_ok S rr h k⟩
    | list ds =>
      obtain ⟨a, xs, rfl, l, rr⟩ := r.lst
      exact ⟨a, xs, rfl, .inr l.sq, by rw [rr.length]; exact (putAll_len h).symm, names_ok S rr h k⟩
    | _ => cases h
theorem tgt_okY {t : Tgt} {lo : Bool} (hz : lo = t.isTup) {d : D} {x : V} {Q : St → Hp → Prop} (S : SR K H B ρ σ) (r : RpY K H (MM B ρ σ) lo d x) (h : t.set d ρ = some ρ1)
    (k : ∀ σ1, SR K H B ρ1 σ1 → Kp ρ σ H ρ1 σ1 H → (∀ vs, (∀ i ∈ t.slots, i ∈ vs) → wipe σ1 vs = wipe σ vs) → Q σ1 H) : gT K t x σ H Q := by
  rcases r with r | ⟨e, ds, a, xs, rfl, rfl, l, rr⟩
  · exact tgt_ok S r h k
  · cases t with
    | one i => rw [e] at hz; cases hz
    | tup is => exact ⟨a, xs, rfl, .inl l, by rw [rr.length]; exact (putAll_len h).symm, names_ok S rr h k⟩
end
end Ev

set_option Elab.async false
set_option linter.all false
set_option maxRecDepth 100000
set_option autoImplicit false
/-! Ev5c: comprehensions. -/
namespace Ev
open PySem L2
theorem wipe_sub {σ : St} {vs ws : List Nat} (h : ∀ i ∈ vs, i ∈ ws) : wipe (wipe σ vs) ws = wipe σ ws := by
  apply List.ext_getElem?
  intro j
  rw [wipe_get, wipe_get, wipe_length, wipe_get]
  split
  · rfl
  · rename_i hn
    rw [if_neg fun z => hn ⟨h _ z.1, z.2⟩]
theorem wipeO_some {ρ ρ1 : Rho} {own : List Nat} (h : wipeO ρ own = some ρ1) : plainAt ρ own = true ∧ ρ1 = wipeR ρ own := by
  unfold wipeO at h
  split at h <;> cases h
  exact ⟨by assumption, rfl⟩
theorem noEx_ne {α β : Type} (r : R α) (f : α → Rho → R β) (hf : ∀ a ρ x ρ', f a ρ ≠ .ex x ρ') (x : Exn) (ρ' : Rho) : r.noEx.bind f ≠ .ex x ρ' := by
  cases r with
  | ok a ρ => exact hf a ρ x ρ'
  | ex x ρ => exact fun h => by cases h
  | no => exact fun h => by cases h
theorem bind_ne {α β : Type} (r : R α) (f : α → Rho → R β) (hr : ∀ x ρ', r ≠ .ex x ρ') (hf : ∀ a ρ x ρ', f a ρ ≠ .ex x ρ') (x : Exn) (ρ' : Rho) : r.bind f ≠ .ex x ρ' := by
  cases r with
  | ok a ρ => exact hf a ρ x ρ'
  | ex x ρ => exact fun _ => hr x ρ rfl
  | no => exact fun h => by cases h
theorem loopC_noEx {own : List Nat} {t : Tgt} {c : Rho → R Bool} {b : Rho → R (List D)} : ∀ (xs : List D) (ρ : Rho) (x : Exn) (ρ' : Rho), loopC own t c b xs ρ ≠ .ex x ρ'
  | [], ρ, x, ρ', h => by
    unfold loopC at h
    cases e : (wipeO ρ own).map (fun _ => ([] : List D)) <;> rw [e] at h <;> cases h
  | y :: ys, ρ, x, ρ', h => by
    unfold loopC at h
    split at h
    · cases h
    · refine noEx_ne _ _ (fun ok ρ2 x ρ' h => ?_) x ρ' h
      cases ok with
      | true => exact noEx_ne _ _ (fun zs ρ3 x ρ' h => bind_ne _ _ (loopC_noEx ys ρ3) (fun _ _ _ _ h => by cases h) x ρ' h) x ρ' h
      | false => exact loopC_noEx ys ρ2 x ρ' h
section
variable {K : PySem.W.Frag} {H H' H0 H1 : Hp} {B : Addr → Prop} {ρ ρ' ρ0 ρ1 : Rho} {σ σ' σ0 : St} {own : List Nat}
theorem SR.notOwner (S : SR K H B ρ σ) {a : Addr} (ha : B a) (i : Nat) : ¬ Owner ρ σ i a := fun ⟨⟨e, h1, h2⟩, h3⟩ => by
  obtain ⟨d, hd⟩ := Ent.got_of_own h2
  obtain ⟨a', h4, n, _⟩ := S.own i e d h1 h2 hd
  rw [h3] at h4; cases h4
  exact n ha
theorem kp_foreign (k : Kp ρ σ H ρ' σ' H') {a : Addr} {o : HO} (n : H a = none) : Kp ρ σ H ρ' σ' (upd H' a o) :=
  ⟨fun b u e z => by rw [upd_ne (ne_of_none e n)]; exact k.keep b u e z, k.new, fun b u e => by rw [upd_ne (ne_of_none e n)]; exact k.there b u e, k.io⟩
/-- within a block that makes the list at A: what has been made so far -/
structure LS (K : PySem.W.Frag) (B : Addr → Prop) (own : List Nat) (ρ0 : Rho) (σ0 : St) (H0 : Hp) (A : Addr) (ρ : Rho) (σ : St) (H : Hp) (acc : List D) : Prop where
  wp : L2.wipe σ own = L2.wipe σ0 own
  sr : SR K H (fun a => B a ∨ a = A) ρ σ
  kp : Kp ρ0 σ0 H0 ρ σ H
  made : ∃ xs, H A = some (.lst xs) ∧ Rps K H (MM (fun a => B a ∨ a = A) ρ σ) acc xs
theorem LS.step {A : Addr} {acc : List D} (L : LS K B own ρ0 σ0 H0 A ρ σ H acc) (S : SR K H' (fun a => B a ∨ a = A) ρ' σ') (k : Kp ρ σ H ρ' σ' H') (w : L2.wipe σ' own = L2.wipe σ own) : LS K B own ρ0 σ0 H0 A ρ' σ' H' acc := by
  obtain ⟨xs, e, r⟩ := L.made
  exact ⟨w.trans L.wp, S, L.kp.trans k, xs, k.keep A _ e (L.sr.notOwner (.inr rfl)), Rps.kp k r⟩
theorem LS.app {A : Addr} {acc : List D} {d : D} {v : V} (L : LS K B own ρ0 σ0 H0 A ρ σ H acc) (n : H0 A = none) (r : Rp K H (MM (fun a => B a ∨ a = A) ρ σ) d v) :
    ∃ xs, H A = some (.lst xs) ∧ xs.length = acc.length ∧ LS K B own ρ0 σ0 H0 A ρ σ (upd H A (.lst (xs ++ [v]))) (acc ++ [d]) := by
  obtain ⟨xs, e, q⟩ := L.made
  have st : Stays H (MM (fun a => B a ∨ a = A) ρ σ) (upd H A (.lst (xs ++ [v]))) (MM (fun a => B a ∨ a = A) ρ σ) := fun b u e n => ⟨by rw [upd_ne (fun z => n (.inl (.inr z)))]; exact e, n⟩
  exact ⟨xs, e, q.length, L.wp, L.sr.foreign (.inr rfl), kp_foreign L.kp n, _, upd_same, (Rps.mono st _ _ q).append (.cons (Rp.mono st _ _ r) .nil)⟩
theorem LS.wiped {A : Addr} {acc : List D} (L : LS K B own ρ0 σ0 H0 A ρ σ H acc) (hp : plainAt ρ own = true) : LS K B own ρ0 σ0 H0 A (wipeR ρ own) (L2.wipe σ0 own) H acc := by
  have S := L.sr.wipe hp
  rw [L.wp] at S
  have k := kp_wipe (H := H) L.sr.len hp trivial
  rw [L.wp] at k
  exact L.step S k (by rw [wipe_wipe, L.wp])
theorem LS.stays {A : Addr} {acc : List D} (L : LS K B own ρ0 σ0 H0 A ρ σ H acc) (n : H0 A = none) : Stays H0 (MM B ρ0 σ0) H (MM (fun a => B a ∨ a = A) ρ σ) := fun a o e nm =>
  ⟨L.kp.keep a o e fun i z => nm (.inr ⟨i, z⟩), fun z => by
    rcases z with (z | z) | ⟨i, z⟩
    · exact nm (.inl z)
    · subst z; rw [n] at e; cases e
    · rcases L.kp.new i a z with ⟨j, z⟩ | z
      · exact nm (.inr ⟨j, z⟩)
      · rw [z] at e; cases e⟩
end
section
variable {XR : Hp → (Addr → Prop) → Exn → Value → Option Addr → Prop} {X : Cx} {Ek : WX} {cl : Nat → List Ent → CRes} {pos : Pos} {σ : St} {H : Hp}
/-- what is to come of the rest -/
def Goes (P : List D → Rho → Prop) (r : R (List D)) (acc : List D) : Prop := ∃ zs ρ, r = .ok zs ρ ∧ P (acc ++ zs) ρ
theorem Goes.bind_one {P : List D → Rho → Prop} {acc : List D} {d : D} {r : R (List D)} (h : Goes P (r.bind fun zs ρ => .ok ([d] ++ zs) ρ) acc) : Goes P r (acc ++ [d]) := by
  obtain ⟨zs, ρ, e, p⟩ := h
  obtain ⟨ys, ρ1, e1, e2⟩ := R.bind_ok e
  cases e2
  exact ⟨ys, _, e1, by rw [List.append_assoc]; exact p⟩
theorem Goes.bind_all {P : List D → Rho → Prop} {acc ys : List D} {r : R (List D)} (h : Goes P (r.bind fun zs ρ => .ok (ys ++ zs) ρ) acc) : Goes P r (acc ++ ys) := by
  obtain ⟨zs, ρ, e, p⟩ := h
  obtain ⟨ws, ρ1, e1, e2⟩ := R.bind_ok e
  cases e2
  exact ⟨ws, _, e1, by rw [List.append_assoc]; exact p⟩
theorem noEx_ok {α β : Type} {r : R α} {f : α → Rho → R β} {b : β} {ρ' : Rho} (h : r.noEx.bind f = .ok b ρ') : ∃ a ρ1, r = .ok a ρ1 ∧ f a ρ1 = .ok b ρ' := by
  cases r with
  | ok a ρ => exact ⟨a, ρ, rfl, h⟩
  | ex x ρ => cases h
  | no => cases h
/-- the start of a turn -/
theorem Goes.turn {P : List D → Rho → Prop} {acc : List D} {own : List Nat} {t : Tgt} {c : Rho → R Bool} {b : Rho → R (List D)} {x : D} {xs : List D} {ρ : Rho} (h : Goes P (loopC own t c b (x :: xs) ρ) acc) :
    plainAt ρ own = true ∧ ∃ ρ1 ok ρ2, t.set x (wipeR ρ own) = some ρ1 ∧ c ρ1 = .ok ok ρ2 ∧ Goes P (if ok = true then (b ρ2).noEx.bind fun ys ρ3 => (loopC own t c b xs ρ3).bind fun zs ρ4 => .ok (ys ++ zs) ρ4 else loopC own t c b xs ρ2) acc := by
  obtain ⟨zs, ρ', e, p⟩ := h
  unfold loopC at e
  split at e
  · cases e
  · rename_i ρ1 e1
    cases e2 : wipeO ρ own with
    | none => rw [e2] at e1; cases e1
    | some ρw =>
      rw [e2] at e1
      obtain ⟨hp, rfl⟩ := wipeO_some e2
      obtain ⟨ok, ρ2, e3, e4⟩ := noEx_ok e
      exact ⟨hp, ρ1, ok, ρ2, e1, e3, zs, ρ', by cases ok <;> exact e4, p⟩
theorem Goes.done {P : List D → Rho → Prop} {acc : List D} {own : List Nat} {t : Tgt} {c : Rho → R Bool} {b : Rho → R (List D)} {ρ : Rho} (h : Goes P (loopC own t c b [] ρ) acc) : plainAt ρ own = true ∧ P acc (wipeR ρ own) := by
  obtain ⟨zs, ρ', e, p⟩ := h
  unfold loopC at e
  cases e2 : wipeO ρ own with
  | none => rw [e2] at e; cases e
  | some ρw =>
    rw [e2] at e
    cases e
    exact ⟨(wipeO_some e2).1, by simpa using p⟩
theorem rdT_ok {K : PySem.W.Frag} {B : Addr → Prop} {ρ ρ2 : Rho} {f : Rho → R Bool} {b : Bool} {Q : Bool → Hp → Prop} (S : SR K H B ρ σ) (e : f ρ = .ok b ρ2) (k : ∀ H', SR K H' B ρ2 σ → Kp ρ σ H ρ2 σ H' → Q b H') : rdT K XR Ek f σ H Q := by
  refine ⟨B, ρ, S, ?_⟩
  rw [e]
  intro b' H' S' k' q
  cases (show b = b' from q)
  exact k H' S' k'
theorem rdE_ok {K : PySem.W.Frag} {B : Addr → Prop} {ρ ρ2 : Rho} {f : Rho → R D} {d : D} {Q : VK} (S : SR K H B ρ σ) (e : f ρ = .ok d ρ2) (k : ∀ v H', SR K H' B ρ2 σ → Kp ρ σ H ρ2 σ H' → Rp K H' (MM B ρ2 σ) d v → Q v H') : rdE K XR Ek f σ H Q := by
  refine ⟨B, ρ, S, ?_⟩
  rw [e]
  exact fun v H' S' k' q => k v H' S' k' q
theorem rdI_ok {K : PySem.W.Frag} {lo : Bool} {B : Addr → Prop} {ρ ρ2 : Rho} {f : Rho → R (List D)} {xs : List D} {Rr : L2.It → Hp → Prop} (S : SR K H B ρ σ) (e : f ρ = .ok xs ρ2) (k : ∀ J H', SR K H' B ρ2 σ → Kp ρ σ H ρ2 σ H' → ItOk K lo J H' (MM B ρ2 σ) xs → Rr J H') : rdI K lo XR Ek f σ H Rr := by
  refine ⟨B, ρ, S, ?_⟩
  rw [e]
  exact fun J H' S' k' q => k J H' S' k' q
/-- the turns of a block's innermost clause, at σ0 -/
theorem turns {lo : Bool} {B : Addr → Prop} {own : List Nat} {t : Tgt} {c : Rho → R Bool} {f : Rho → R D} {xs : List D} {ρ0 : Rho} {σ0 : St} {H0 : Hp} {A : Addr} {J : L2.It} {P : List D → Rho → Prop} {XR' : Hp → (Addr → Prop) → Exn → Value → Option Addr → Prop}
    (hP : ∀ zs ρ, P zs ρ → zs.length ≤ sizeLine) (nA : H0 A = none) (it : ItOk X.K lo J H0 (MM B ρ0 σ0) xs) (hz : lo = t.isTup) (hsl : ∀ i ∈ t.slots, i ∈ own) {ρ : Rho} {σ : St} {H : Hp} {acc : List D} {Fin : Hp → Prop} (L : LS X.K B own ρ0 σ0 H0 A ρ σ H acc)
    (g : Goes P (loopC own t c (fun ρ => (f ρ).bind fun d ρ => .ok [d] ρ) xs ρ) acc) (fin : ∀ ρ σ H acc, LS X.K B own ρ0 σ0 H0 A ρ σ H acc → plainAt ρ own = true → P acc (wipeR ρ own) → Fin H) :
    ∃ W : Nat → Nat → Hp → Prop, (∃ m, W 0 m H) ∧ ∀ i m H, W i m H → (J.stop i H ∧ Fin H) ∨ (J.go i H ∧ ∃ Nx : Hp → Prop, (∀ H', Nx H' → ∃ m', m' < m ∧ W (i + 1) m' H') ∧ ∀ x H', J.yld i H x H' → gT X.K t x (L2.wipe σ0 own) H' fun σ3 H5 => L2.wipe σ3 own = L2.wipe σ0 own ∧
      rdT X.K XR' Ew c σ3 H5 fun b H6 => if b = true then rdE X.K XR' Ew f σ3 H6 fun y H7 => ∃ acc, H7 A = some (.lst acc) ∧ acc.length < sizeLine ∧ Nx (upd H7 A (.lst (acc ++ [y]))) else Nx H6) := by
  let CI : Nat → Hp → Prop := fun i H => i ≤ xs.length ∧ ∃ ρ σ acc, LS X.K B own ρ0 σ0 H0 A ρ σ H acc ∧ Goes P (loopC own t c (fun ρ => (f ρ).bind fun d ρ => .ok [d] ρ) (xs.drop i) ρ) acc
  refine ⟨fun i m H => m = xs.length - i ∧ CI i H, ⟨_, rfl, Nat.zero_le _, ρ, σ, acc, L, g⟩, ?_⟩
  rintro i m H ⟨rfl, hi, ρi, σi, ai, L, g⟩
  have keep : ∀ a o, H0 a = some o → ¬ MM B ρ0 σ0 a → H a = some o := fun a o e n => (L.stays nA a o e n).1
  by_cases hlt : i < xs.length
  · refine .inr ⟨it.go i H keep hlt, CI (i + 1), fun H' p => ⟨_, by omega, rfl, p⟩, fun x H' y => ?_⟩
    have ex : xs[i]? = some xs[i] := by simp [hlt]
    rw [List.drop_eq_getElem_cons hlt] at g
    obtain ⟨hp, ρ1, ok, ρ2, e1, e2, g⟩ := g.turn
    obtain ⟨sm, yl⟩ := it.yld i _ H x H' keep ex y
    have Lw := L.wiped hp
    have Lh : LS X.K B own ρ0 σ0 H0 A (wipeR ρi own) (L2.wipe σ0 own) H' ai := Lw.step (Lw.sr.same sm) (Kp.same sm) rfl
    have rx := yl _ Lw.sr.mb (Lw.stays nA)
    refine tgt_okY hz Lh.sr rx e1 fun σ1 S1 k1 w1 => ?_
    have w1 := w1 own hsl
    have L1 := Lh.step S1 k1 w1
    refine ⟨by rw [w1, wipe_wipe], rdT_ok S1 e2 fun H2 S2 k2 => ?_⟩
    have L2 := L1.step S2 k2 rfl
    cases ok with
    | false => exact ⟨hlt, ρ2, σ1, ai, L2, g⟩
    | true =>
      obtain ⟨zs, ρz, ez, pz⟩ := g
      obtain ⟨ys, ρ3, e3, e4⟩ := noEx_ok (show ((f ρ2).bind fun d ρ => R.ok [d] ρ).noEx.bind _ = .ok zs ρz from ez)
      obtain ⟨d, ρ4, e5, e6⟩ := R.bind_ok e3
      cases e6
      have g3 : Goes P (loopC own t c (fun ρ => (f ρ).bind fun d ρ => .ok [d] ρ) (xs.drop (i + 1)) ρ3) (ai ++ [d]) := Goes.bind_one ⟨zs, ρz, e4, pz⟩
      refine rdE_ok S2 e5 fun v H3 S3 k3 r3 => ?_
      have L3 := L2.step S3 k3 rfl
      obtain ⟨xs', ea, la, La⟩ := L3.app nA r3
      refine ⟨xs', ea, ?_, hlt, ρ3, σ1, _, La, g3⟩
      obtain ⟨_, _, _, p3⟩ := g3
      have := hP _ _ p3
      simp at this
      omega
  · have e : i = xs.length := by omega
    subst e
    rw [List.drop_length] at g
    obtain ⟨hp, p⟩ := g.done
    exact .inl ⟨it.stop _ H keep (Nat.le_refl _), fin _ _ _ _ L hp p⟩
end
end Ev

set_option Elab.async false
set_option linter.all false
set_option maxRecDepth 100000
set_option autoImplicit false
/-! Ev5d: comprehensions as expressions. -/
namespace Ev
open PySem L2
section
variable {XR : Hp → (Addr → Prop) → Exn → Value → Option Addr → Prop} {X : Cx} {Ek : WX} {cl : Nat → List Ent → CRes} {pos : Pos} {σ : St} {H : Hp} {own : List Nat} {e : Ev.E} {t : Tgt} {it : Ev.It} {c : Oe} {Q : VK}
/-- what a block's list is when the last turn is done -/
def BlkEnd (K : PySem.W.Frag) (XR : Hp → (Addr → Prop) → Exn → Value → Option Addr → Prop) (Ek : WX) (B : Addr → Prop) (ρ1 : Rho) (σ : St) (H1 : Hp) (own : List Nat) (Q : VK) : List D → Rho → Prop := fun zs ρ' =>
  zs.length ≤ sizeLine ∧ PstF K XR Ek B ρ1 σ H1 (.ok (.list zs) (backR ρ1 ρ' own)) Q
theorem compC_goes {B : Addr → Prop} {ρ1 : Rho} {H1 : Hp} {tt : Rho → R Bool} {b : Rho → R (List D)} {xs : List D} (h : PstF X.K XR Ek B ρ1 σ H1 ((compC own t tt b xs ρ1).bind fun zs ρ => .ok (.list zs) ρ) Q) :
    plainAt ρ1 own = true ∧ Goes (BlkEnd X.K XR Ek B ρ1 σ H1 own Q) (loopC own t tt b xs (wipeR ρ1 own)) [] := by
  unfold compC at h
  split at h
  · rename_i hp
    refine ⟨hp, ?_⟩
    cases e1 : loopC own t tt b xs (wipeR ρ1 own) with
    | no => rw [e1] at h; exact h.elim
    | ex x ρ' => exact (loopC_noEx _ _ _ _ e1).elim
    | ok zs ρ' =>
      rw [e1] at h
      refine ⟨zs, ρ', rfl, ?_⟩
      have h : PstF X.K XR Ek B ρ1 σ H1 ((if zs.length ≤ sizeLine then R.ok zs (backR ρ1 ρ' own) else .no).bind fun zs ρ => .ok (.list zs) ρ) Q := h
      split at h
      · exact ⟨by assumption, h⟩
      · exact h.elim
  · exact h.elim
theorem LS.start {B : Addr → Prop} {ρ1 : Rho} {H1 : Hp} {A : Addr} (S : SR X.K H1 B ρ1 σ) (hp : plainAt ρ1 own = true) (nA : H1 A = none) : LS X.K B own (wipeR ρ1 own) (L2.wipe σ own) H1 A (wipeR ρ1 own) (L2.wipe σ own) (upd H1 A (.lst [])) [] :=
  ⟨rfl, (S.wipe hp).newB nA, kp_foreign .refl nA, [], upd_same, .nil⟩
theorem blk_fin {B : Addr → Prop} {ρ1 : Rho} {H1 : Hp} {A : Addr} (S : SR X.K H1 B ρ1 σ) (hp : plainAt ρ1 own = true) (nA : H1 A = none) {ρ' : Rho} {σ' : St} {H' : Hp} {acc : List D} (L : LS X.K B own (wipeR ρ1 own) (L2.wipe σ own) H1 A ρ' σ' H' acc) (hp' : plainAt ρ' own = true)
    (p : BlkEnd X.K XR Ek B ρ1 σ H1 own Q acc (wipeR ρ' own)) : Q (.ref A) H' := by
  have Lw := L.wiped hp'
  have w : L2.wipe (L2.wipe σ own) own = L2.wipe σ own := wipe_wipe
  rw [w] at Lw
  have S' := Lw.sr
  have k' := Lw.kp
  obtain ⟨S2, k2, mm⟩ := SR.back (H' := H') (B' := fun a => B a ∨ a = A) S hp S' (fun a z => z.imp id fun z => by rw [z]; exact nA) k'
  obtain ⟨xs, e, r⟩ := Lw.made
  refine p.2.2 A H' S2 k2 nA ⟨xs, e, ?_⟩
  exact Rps.mono (fun a o e n => ⟨e, fun z => n ((mm a).mp z)⟩) _ _ r
theorem comp_ok {lo : Bool} (hz : lo = t.isTup) (hsl : ∀ i ∈ t.slots, i ∈ own) (h : rdF X.K XR Ek (ev cl (.comp own e t it c)) σ H Q) : tLc (rdI X.K lo XR Ek (evit cl it)) (gT X.K t) (rdT X.K XR Ew (evc cl c)) (rdE X.K XR Ew (ev cl e)) own σ H Q := by
  obtain ⟨B, ρ, S, h⟩ := h
  refine ⟨B, ρ, S, ?_⟩
  have h : PstF X.K XR Ek B ρ σ H ((evit cl it ρ).bind fun xs ρ => (compC own t (evc cl c) (fun ρ => (ev cl e ρ).bind fun d ρ => .ok [d] ρ) xs ρ).bind fun zs ρ => .ok (.list zs) ρ) Q := h
  cases e1 : evit cl it ρ with
  | no => rw [e1] at h; exact h.elim
  | ex x ρ1 => rw [e1] at h; exact h
  | ok xs ρ1 =>
    rw [e1] at h
    intro J H1 S1 k1 io A nA
    obtain ⟨hp, g⟩ := compC_goes (PstF.shift k1 h)
    have io' : ItOk X.K lo J H1 (MM B (wipeR ρ1 own) (L2.wipe σ own)) xs :=
      ⟨fun i H h hi => io.go i H (fun a o e n => h a o e fun z => n ((mm_wipe S1.len hp).mp z)) hi, fun i d H x H' h e y => by
        obtain ⟨s, q⟩ := io.yld i d H x H' (fun a o e n => h a o e fun z => n ((mm_wipe S1.len hp).mp z)) e y
        exact ⟨s, fun M' tr st => q M' tr fun a o e n => st a o e fun z => n ((mm_wipe S1.len hp).mp z)⟩,
       fun i H h hi => io.stop i H (fun a o e n => h a o e fun z => n ((mm_wipe S1.len hp).mp z)) hi⟩
    have w : L2.wipe (L2.wipe σ own) own = L2.wipe σ own := wipe_wipe
    have tn := turns (X := X) (XR' := XR) (t := t) (f := ev cl e) (c := evc cl c) (Fin := fun H => Q (.ref A) H) (fun zs ρ p => p.1) nA io' hz hsl (LS.start S1 hp nA) g (fun ρ' σ' H' acc L hp' p => blk_fin S1 hp nA L hp' p)
    rw [w] at tn
    exact tn
/-- [e for t in it if c] -/
theorem s_comp {elt tg iter : Expr} {ifs : List Expr} {scope : Scope} {ow : List (Str × Nat)} (hc : X.calm = true) (hN : X.N.Nodup) (hi : SW XR X Ek cl tg it iter) (ok : BlkOk X.N X.env.scope scope ow) (hz : isTupE tg = t.isTup) (hsl : ∀ i ∈ t.slots, i ∈ ow.map (·.2)) (hp : plainX iter = true)
    (hg : ∀ (s : Shared) (H : Hp) (C : Addr) (cl : List (Str × Addr)) (fp : List Addr), PG (X.blk s H scope (compEnvC scope cl C X.env) fp) tg (gT X.K t))
    (ht : ∀ (s : Shared) (H : Hp) (C : Addr) (cc : List (Str × Addr)) (fp : List Addr), PTs (X.blk s H scope (compEnvC scope cc C X.env) fp) ifs (rdT X.K XR Ew (evc cl c)))
    (he : ∀ (s : Shared) (H : Hp) (C : Addr) (cc : List (Str × Addr)) (fp : List Addr), SE XR (X.blk s H scope (compEnvC scope cc C X.env) fp) Ew cl e elt) : SF XR X Ek cl (.comp (ow.map (·.2)) e t it c) (.ListComp elt [⟨tg, iter, ifs, 0⟩] scope pos) :=
  (pe_lc hc hN hi ok hg ht he (fold_plain hp _)).weak fun _ _ _ h => comp_ok hz hsl h
theorem own_comp {elt : Ev.E} : ∀ ρ d ρ', ev cl (.comp own elt t it c) ρ = .ok d ρ' → ownable d = true := fun ρ d ρ' h => by
  obtain ⟨xs, ρ1, _, h⟩ := R.bind_ok h
  obtain ⟨zs, ρ2, _, h⟩ := R.bind_ok h
  cases h
  rfl
end
end Ev

set_option Elab.async false
set_option linter.all false
set_option maxRecDepth 100000
set_option autoImplicit false
/-! Ev6a: += and its like on what is never changed. -/
namespace L2
open PySem PySem.Spec PyProof.Rows HT
section
variable {prog : Program} {w : World} {A : Around} {E : Value → Shared → Prop} {s : Shared}
theorem ev_noI_tuple : typeLookup (.type "tuple") (dunderI "add") = pure none := by rw [typeLookup_type, builtinLookup_eq_fast]; kernel_rfl
theorem ev_icat0 {t b : Addr} {ws : List Value} {Q : Value → Shared → Prop} (ht : IsTup s.heap t ([] : List Value).toArray) (hb : IsTup s.heap b ws.toArray) (h : Q (.ref b) s) : wpAny (model prog w) A (inplaceOp .Add (.ref t) (.ref b)) Q E s := by
  obtain ⟨⟨cls, dd, data, sl⟩, ho, hc, n, hd⟩ := id ht
  obtain ⟨⟨cls2, dd2, data2, sl2⟩, ho2, hc2, n2, hd2⟩ := id hb
  simp only at hc hd hc2 hd2
  subst hc hd hc2 hd2
  exact wpAny_inplaceOp_concat ⟨_, ho, rfl⟩ ⟨_, ho2, rfl⟩ ev_noI_tuple noFill_tuple_add seq_tuple_add (call_meets PySem.F.slot_tuple_add ⟨_, ho, rfl⟩ PySem.F.entry_tuple_add (PySem.F.args_tuple_add_2 _ _)
    (tuple_addW0 t b ([] : List Value).toArray ws.toArray n n2 dd dd2 sl sl2 (by simp)) ⟨ho, ho2, h⟩)
theorem ev_icat {t b : Addr} {vs ws : List Value} {Q : Value → Shared → Prop} (ht : IsTup s.heap t vs.toArray) (hb : IsTup s.heap b ws.toArray) (hv : vs ≠ [])
    (h1 : ws = [] → Q (.ref t) s) (h2 : ws ≠ [] → Q (.ref s.heap.objs.size) { s with heap := s.heap.push { cls := .type "tuple", data := .seq (vs ++ ws).toArray } })
    (hsz : vs.length + ws.length ≤ sizeLine) : wpAny (model prog w) A (inplaceOp .Add (.ref t) (.ref b)) Q E s := by
  obtain ⟨⟨cls, dd, data, sl⟩, ho, hc, n, hd⟩ := id ht
  obtain ⟨⟨cls2, dd2, data2, sl2⟩, ho2, hc2, n2, hd2⟩ := id hb
  simp only at hc hd hc2 hd2
  subst hc hd hc2 hd2
  have e : vs.toArray ++ ws.toArray = (vs ++ ws).toArray := by simp
  by_cases hw : ws = []
  · exact wpAny_inplaceOp_concat ⟨_, ho, rfl⟩ ⟨_, ho2, rfl⟩ ev_noI_tuple noFill_tuple_add seq_tuple_add (call_meets PySem.F.slot_tuple_add ⟨_, ho, rfl⟩ PySem.F.entry_tuple_add (PySem.F.args_tuple_add_2 _ _)
      (tuple_addW1 t b vs.toArray ws.toArray n n2 dd dd2 sl sl2 (by simpa using hv) (by simp [hw])) ⟨ho, ho2, h1 hw⟩)
  · refine wpAny_inplaceOp_concat ⟨_, ho, rfl⟩ ⟨_, ho2, rfl⟩ ev_noI_tuple noFill_tuple_add seq_tuple_add (call_meets PySem.F.slot_tuple_add ⟨_, ho, rfl⟩ PySem.F.entry_tuple_add (PySem.F.args_tuple_add_2 _ _)
      (tuple_addW2 t b vs.toArray ws.toArray n n2 dd dd2 sl sl2 (by simpa using hv) (by simpa using hw) (by rw [List.size_toArray, List.size_toArray]; exact hsz)) ⟨ho, ho2, ?_⟩)
    rw [e]
    exact h2 hw
end
section
variable {X : Cx}
theorem ev_iop_catA : OpR X (inplaceOp .Add) (rCatF X.K) := by
  intro pins s σ H x y v u Q I rx ry h
  obtain ⟨a, b, xs, ys, rfl, rfl, ha, hb, hz, q0, q1, q2⟩ := h
  cases rx
  cases ry
  obtain ⟨its, r1, p1, _⟩ := I.tuple ha
  obtain ⟨its2, r2, p2, _⟩ := I.tuple hb
  by_cases hx : xs = []
  · subst hx
    cases r1
    exact ev_icat0 p1 p2 ⟨.ref b, H, I, rfl, q0 rfl⟩
  · have hl : xs.length = its.length := r1.length
    have hl2 : ys.length = its2.length := r2.length
    have hi : its ≠ [] := fun e => hx (by rw [e] at hl; exact List.eq_nil_of_length_eq_zero hl)
    refine ev_icat p1 p2 hi (fun z => ?_) (fun z => ?_) (by rw [← hl, ← hl2]; exact hz)
    · exact ⟨.ref a, H, I, rfl, q1 hx (by rw [z] at hl2; exact List.eq_nil_of_length_eq_zero hl2)⟩
    · have hy : ys ≠ [] := fun e => z (by rw [e] at hl2; exact List.eq_nil_of_length_eq_zero hl2.symm)
      exact (q2 hx hy).end_ I (r1.append r2) (by rw [List.length_append]; exact hz) s.toks
theorem ev_iop_mul : OpR X (inplaceOp .Mult) (fun x y H Q => ∃ i j, x = .int i ∧ y = .int j ∧ (-(2 ^ 64) < i ∧ i < 2 ^ 64 ∨ -(2 ^ 64) < j ∧ j < 2 ^ 64) ∧ Q (.int (i * j)) H) := by
  intro pins s σ H x y v u Q I rx ry h
  obtain ⟨i, j, rfl, rfl, hm, q⟩ := h
  obtain ⟨t, rfl⟩ := rx
  obtain ⟨t', rfl⟩ := ry
  exact imul_int ⟨.int (i * j), H, I.tok _, ⟨_, rfl⟩, q⟩ ((show CMul i j from hm).ok)
end
end L2
namespace Ev
open PySem L2
section
variable {X : Cx}
theorem io_add : PIp X .Add (opR X.K (augF .add)) := by
  intro pins s σ H x y v u Q I rx ry ⟨M, d1, d2, d, hb, q1, q2, e, g⟩
  cases d1 with
  | int a =>
    cases d2 <;> simp only [augF] at e <;> cases e
    exact ip_add pins s σ H x y v u Q I rx ry ⟨_, _, q1.int, q2.int, g.refl rp_int⟩
  | str a =>
    cases d2 <;> simp only [augF] at e <;> try (cases e; done)
    split at e <;> cases e
    exact iop_add_str pins s σ H x y v u Q I rx ry ⟨_, _, q1.str, q2.str, by assumption, g.refl rp_str⟩
  | tuple as =>
    cases d2 <;> simp only [augF] at e <;> try (cases e; done)
    split at e <;> cases e
    obtain ⟨l, xs, rfl, h1, r1⟩ := q1.tup
    obtain ⟨b, ys, rfl, h2, r2⟩ := q2.tup
    refine ev_iop_catA pins s σ H _ _ v u Q I rx ry ⟨l, b, xs, ys, rfl, rfl, h1.sq, h2.sq, by rw [r1.length, r2.length]; assumption, fun z => ?_, fun z1 z2 => ?_, fun _ _ p us hp => ?_⟩
    · have ea : as = [] := by have := r1.length; rw [z] at this; exact List.eq_nil_of_length_eq_zero this.symm
      subst ea
      exact g.refl (rp_tup h2 r2)
    · have ea := r2.length
      rw [z2] at ea
      have ea := List.eq_nil_of_length_eq_zero ea.symm
      subst ea
      rw [List.append_nil] at g
      exact g.refl (rp_tup h1 r1)
    · exact g _ _ (Ev.same_new hp) (rp_newT hb hp (r1.append r2))
  | list as => simp [augF] at e
  | none => simp [augF] at e
  | bool _ => simp [augF] at e
  | dict _ => simp [augF] at e
theorem io_sub : PIp X .Sub (opR X.K (augF .sub)) := by
  intro pins s σ H x y v u Q I rx ry ⟨M, d1, d2, d, hb, q1, q2, e, g⟩
  cases d1 <;> cases d2 <;> simp only [augF] at e <;> cases e
  exact ip_sub pins s σ H x y v u Q I rx ry ⟨_, _, q1.int, q2.int, g.refl rp_int⟩
theorem io_mul : PIp X .Mult (opR X.K (augF .mul)) := by
  intro pins s σ H x y v u Q I rx ry ⟨M, d1, d2, d, hb, q1, q2, e, g⟩
  cases d1 <;> cases d2 <;> simp only [augF] at e <;> try (first | (cases e; done) | (split at e <;> cases e; done))
  split at e <;> cases e
  rename_i h
  simp only [mulOk, Bool.or_eq_true, Bool.and_eq_true, decide_eq_true_eq] at h
  exact ev_iop_mul pins s σ H x y v u Q I rx ry ⟨_, _, q1.int, q2.int, h, g.refl rp_int⟩
end
end Ev

set_option Elab.async false
set_option linter.all false
set_option maxRecDepth 100000
set_option autoImplicit false
/-! Ev6: statements. -/
namespace Ev
open PySem L2
section
variable (K : PySem.W.Frag) (XR : Hp → (Addr → Prop) → Exn → Value → Option Addr → Prop) (Ek : WX)
/-- what must hold behind a statement -/
def PstS (B : Addr → Prop) (ρ : Rho) (σ : St) (H : Hp) (r : SRes) (Z : Ends) : Prop := match r with
  | .nx ρ' => ∀ σ' H', SR K H' B ρ' σ' → Kp ρ σ H ρ' σ' H' → Z.nx σ' H'
  | .bk ρ' => ∀ σ' H', SR K H' B ρ' σ' → Kp ρ σ H ρ' σ' H' → Z.bk σ' H'
  | .ct ρ' => ∀ σ' H', SR K H' B ρ' σ' → Kp ρ σ H ρ' σ' H' → Z.ct σ' H'
  | .rt e ρ' => ∀ v σ' H', SR K H' B ρ' σ' → Kp ρ σ H ρ' σ' H' → RetOk K H H' (MM B ρ' σ') e v → Z.rt v H'
  | .ex x ρ' => ∀ c d σ' H', SR K H' B ρ' σ' → Kp ρ σ H ρ' σ' H' → XR H' (MM B ρ' σ') x c d → Ek c d σ' H'
  | .no => False
def rdS (f : Rho → SRes) : TS := fun Z σ H => ∃ B ρ, SR K H B ρ σ ∧ PstS K XR Ek B ρ σ H (f ρ) Z
end
section
variable {K : PySem.W.Frag} {XR : Hp → (Addr → Prop) → Exn → Value → Option Addr → Prop} {Ek : WX} {α β : Type} {Rel : St → Hp → (Addr → Prop) → α → β → Prop}
variable {B : Addr → Prop} {ρ ρ1 ρ2 : Rho} {σ σ1 : St} {H H1 H2 : Hp} {Z Z' : Ends}
theorem none_back (k : Kp ρ σ H ρ1 σ1 H1) {a : Addr} (h : H1 a = none) : H a = none := by
  cases q : H a with
  | none => rfl
  | some o => obtain ⟨o', e⟩ := k.there a o q; rw [h] at e; cases e
theorem RetOk.back (k : Kp ρ σ H ρ1 σ1 H1) {M : Addr → Prop} {e : Ent} {v : V} (h : RetOk K H1 H2 M e v) : RetOk K H H2 M e v := by
  cases e with
  | val d => exact h
  | own d => obtain ⟨a, e, n, q⟩ := h; exact ⟨a, e, none_back k n, q⟩
  | un => exact h
  | io d => exact h
theorem PstS.shift {r : SRes} (k : Kp ρ σ H ρ1 σ1 H1) (h : PstS K XR Ek B ρ σ H r Z) : PstS K XR Ek B ρ1 σ1 H1 r Z := by
  cases r with
  | nx ρ' => exact fun σ' H' s k' => h σ' H' s (k.trans k')
  | bk ρ' => exact fun σ' H' s k' => h σ' H' s (k.trans k')
  | ct ρ' => exact fun σ' H' s k' => h σ' H' s (k.trans k')
  | rt e ρ' => exact fun v σ' H' s k' q => h v σ' H' s (k.trans k') (q.back k)
  | ex x ρ' => exact fun c d σ' H' s k' q => h c d σ' H' s (k.trans k') q
  | no => exact h
/-- one part, then the rest -/
theorem seqS {f : Rho → R α} {g : α → Rho → SRes} {Q : β → Hp → Prop} (S : SR K H B ρ σ) (h : PstS K XR Ek B ρ σ H ((f ρ).sb g) Z)
    (k : ∀ a ρ1 b H1, f ρ = .ok a ρ1 → SR K H1 B ρ1 σ → Kp ρ σ H ρ1 σ H1 → Rel σ H1 (MM B ρ1 σ) a b → PstS K XR Ek B ρ1 σ H1 (g a ρ1) Z → Q b H1) : rdG K XR Ek Rel f σ H Q := by
  refine ⟨B, ρ, S, ?_⟩
  cases e : f ρ with
  | ok a ρ1 => rw [e] at h; exact fun b H1 s1 k1 r1 => k a ρ1 b H1 e s1 k1 r1 (PstS.shift k1 h)
  | ex x ρ1 => rw [e] at h; exact fun c d H' s k' q => h c d σ H' s k' q
  | no => rw [e] at h; exact h
theorem seqSF {f : Rho → R D} {g : D → Rho → SRes} {Q : VK} (S : SR K H B ρ σ) (h : PstS K XR Ek B ρ σ H ((f ρ).sb g) Z)
    (k : ∀ d ρ1, f ρ = .ok d ρ1 → PstS K XR Ek B ρ σ H (g d ρ1) Z → ownable d = true ∧ ∀ a H1, SR K H1 (fun b => B b ∨ b = a) ρ1 σ → Kp ρ σ H ρ1 σ H1 → H a = none → OwnAt K H1 (MM (fun b => B b ∨ b = a) ρ1 σ) a d → Q (.ref a) H1) : rdF K XR Ek f σ H Q := by
  refine ⟨B, ρ, S, ?_⟩
  cases e : f ρ with
  | ok a ρ1 => rw [e] at h; exact k a ρ1 e h
  | ex x ρ1 => rw [e] at h; exact fun c d H' s k' q => h c d σ H' s k' q
  | no => rw [e] at h; exact h
theorem seqSI {lo : Bool} {f : Rho → R (List D)} {g : List D → Rho → SRes} {Rr : L2.It → Hp → Prop} (S : SR K H B ρ σ) (h : PstS K XR Ek B ρ σ H ((f ρ).sb g) Z)
    (k : ∀ xs ρ1 J H1, f ρ = .ok xs ρ1 → SR K H1 B ρ1 σ → Kp ρ σ H ρ1 σ H1 → ItOk K lo J H1 (MM B ρ1 σ) xs → PstS K XR Ek B ρ1 σ H1 (g xs ρ1) Z → Rr J H1) : rdI K lo XR Ek f σ H Rr := by
  refine ⟨B, ρ, S, ?_⟩
  cases e : f ρ with
  | ok a ρ1 => rw [e] at h; exact fun b H1 s1 k1 r1 => k a ρ1 b H1 e s1 k1 r1 (PstS.shift k1 h)
  | ex x ρ1 => rw [e] at h; exact fun c d H' s k' q => h c d σ H' s k' q
  | no => rw [e] at h; exact h
theorem PstS.put {i : Nat} {e : Ent} (h : PstS K XR Ek B ρ σ H (match ρ.put i e with | some ρ' => SRes.nx ρ' | none => .no) Z) : (∀ d, ρ[i]? ≠ some (.io d)) ∧ PstS K XR Ek B ρ σ H (.nx (ρ.set i e)) Z := by
  cases q : ρ.put i e with
  | none => rw [q] at h; exact h.elim
  | some ρ' =>
    rw [q] at h
    obtain ⟨rfl, z⟩ := put_ok q
    exact ⟨z, h⟩
end
section
variable {XR : Hp → (Addr → Prop) → Exn → Value → Option Addr → Prop} {X : Cx} {Ek : WX} {n : Nat} {sc : Scope} {cl : Nat → List Ent → CRes} {pos pos' : Pos}
abbrev SS (XR : Hp → (Addr → Prop) → Exn → Value → Option Addr → Prop) (X : Cx) (Ek : WX) (cl : Nat → List Ent → CRes) (s : Ev.S) (st : Stmt) : Prop := PS X st (rdS X.K XR Ek (evS cl s))
abbrev SSs (XR : Hp → (Addr → Prop) → Exn → Value → Option Addr → Prop) (X : Cx) (Ek : WX) (cl : Nat → List Ent → CRes) (s : Ss) (st : List Stmt) : Prop := PSs X st (rdS X.K XR Ek (evSs cl s))
theorem p_nil : SSs XR X Ek cl .nil [] := pss_nil.weak fun Z σ H ⟨B, ρ, S, h⟩ => h σ H S .refl
theorem p_cons {s : Ev.S} {r : Ss} {st : Stmt} {sts : List Stmt} (h1 : SS XR X Ek cl s st) (h2 : SSs XR X Ek cl r sts) : SSs XR X Ek cl (.cons s r) (st :: sts) :=
  (pss_cons h1 h2).weak fun Z σ H ⟨B, ρ, S, h⟩ => by
    refine ⟨B, ρ, S, ?_⟩
    have h : PstS X.K XR Ek B ρ σ H ((evS cl s ρ).nb fun ρ => evSs cl r ρ) Z := h
    cases e : evS cl s ρ with
    | nx ρ1 => rw [e] at h; exact fun σ' H' S' k' => ⟨B, ρ1, S', PstS.shift k' h⟩
    | bk ρ1 => rw [e] at h; exact h
    | ct ρ1 => rw [e] at h; exact h
    | rt en ρ1 => rw [e] at h; exact h
    | ex x ρ1 => rw [e] at h; exact h
    | no => rw [e] at h; exact h
theorem p_doc {x : Str} {j : Nat} {r : Ss} {sts : List Stmt} (h2 : SSs XR X Ek cl r sts) : SSs XR X Ek cl r (.Expr (.Constant (.str x) j pos) pos' :: sts) := (pss_cons ps_doc h2).weak fun Z σ H h => h
theorem p_pass : SS XR X Ek cl .pass (.Pass pos) := ps_pass.weak fun Z σ H ⟨B, ρ, S, h⟩ => h σ H S .refl
theorem p_brk : SS XR X Ek cl .brk (.Break pos) := ps_break.weak fun Z σ H ⟨B, ρ, S, h⟩ => h σ H S .refl
/-- the name of a slot that may be stored -/
structure Slt (X : Cx) (i : Nat) (x : Str) : Prop where
  nd : X.N.Nodup
  ix : X.N[i]? = some x
  loc : Loc X.env.scope x
  fn : X.fn x = true ∨ X.env.scope.names.lookup x = some .local
theorem set_val {i : Nat} {ev : Rho → R D} {Z : Ends} {σ : St} {H : Hp} (h : rdS X.K XR Ek (fun ρ => (ev ρ).sb fun d ρ => match ρ.put i (.val d) with | some ρ' => .nx ρ' | none => .no) Z σ H) : tAsg (rdE X.K XR Ek ev) (gName i) Z σ H := by
  obtain ⟨B, ρ, S, h⟩ := h
  refine seqS S h fun d ρ1 x H1 _ S1 k1 r1 h1 => ?_
  obtain ⟨hio, h1⟩ := h1.put
  exact h1 _ H1 (S1.setVal r1) (kp_setVal hio)
theorem set_own {i : Nat} {ev : Rho → R D} {Z : Ends} {σ : St} {H : Hp} (h : rdS X.K XR Ek (fun ρ => (ev ρ).sb fun d ρ => if ownable d = true then (match ρ.put i (.own d) with | some ρ' => .nx ρ' | none => .no) else .no) Z σ H) : tAsg (rdF X.K XR Ek ev) (gName i) Z σ H := by
  obtain ⟨B, ρ, S, h⟩ := h
  refine seqSF S h fun d ρ1 e h1 => ?_
  split at h1
  · rename_i ho
    refine ⟨ho, fun a H1 S1 k1 na q => ?_⟩
    have nB : ¬ B a := fun z => by obtain ⟨o, e⟩ := S.bnd a z; rw [na] at e; cases e
    cases e2 : ρ1.put i (.own d) with
    | none => rw [e2] at h1; exact h1.elim
    | some ρ2 =>
      rw [e2] at h1
      obtain ⟨rfl, hio⟩ := put_ok e2
      refine h1 _ H1 (S1.setOwn nB hio q) ⟨k1.keep, fun j b ⟨⟨u, z1, z2⟩, z3⟩ => ?_, k1.there, fun j d' z => ?_⟩
      · rcases get_set z1 with ⟨rfl, rfl, hl⟩ | ⟨ne, z1⟩
        · rw [List.getElem?_set_self (by rw [← S1.len]; exact hl)] at z3; cases z3; exact .inr na
        · rw [List.getElem?_set_ne ne] at z3; exact k1.new j b ⟨⟨u, z1, z2⟩, z3⟩
      · obtain ⟨y1, d2, y2⟩ := k1.io j d' z
        have ne : i ≠ j := fun e => by subst e; exact hio d2 y2
        exact ⟨by rw [List.getElem?_set_ne ne], d2, by rw [List.getElem?_set_ne ne]; exact y2⟩
  · exact h1.elim
variable {i : Nat} {x : Str} {e : Ev.E} {a : Expr}
theorem p_asg (L : Slt X i x) (he : SE XR X Ek cl e a) (hs : swapsWith a (some (.Name x pos')) pos.line X.env = pure false) : SS XR X Ek cl (.asg i e) (.Assign [.Name x pos'] a pos) :=
  (ps_set L.nd L.ix L.loc he hs L.fn).weak fun _ _ _ h => set_val h
theorem p_new (L : Slt X i x) (he : SF XR X Ek cl e a) (hs : swapsWith a (some (.Name x pos')) pos.line X.env = pure false) : SS XR X Ek cl (.new i e) (.Assign [.Name x pos'] a pos) :=
  (ps_set L.nd L.ix L.loc he hs L.fn).weak fun _ _ _ h => set_own h
theorem p_asgT {is : List Nat} {tg : Expr} (he : SE XR X Ek cl e a) (hg : PG X tg (gT X.K (.tup is))) (hs : swapsWithSole [tg] a pos.line X.env = pure false) (hw : swappedStores [tg] a X.env = pure none)
    (h1 : (assignEach [tg] X.env).map (·.2) = [assign tg X.env]) : SS XR X Ek cl (.asgT is e) (.Assign [tg] a pos) :=
  (ps_asg he hg hs hw h1).weak fun Z σ H ⟨B, ρ, S, h⟩ => by
    refine seqS S h fun d ρ1 x H1 _ S1 k1 r1 h1 => ?_
    cases e2 : (Tgt.tup is).set d ρ1 with
    | none => rw [e2] at h1; exact h1.elim
    | some ρ2 =>
      rw [e2] at h1
      exact tgt_ok S1 r1 e2 fun σ1 S2 k2 _ => h1 σ1 H1 S2 k2
theorem p_par {i j : Nat} {x y : Str} {a b : Expr} {es : Es} {px py pt pt2 : Pos} {kt k2 : Nat} (hc : X.calm = true) (L1 : Slt X i x) (L2 : Slt X j y) (hij : i ≠ j) (hx : X.env.scope.names.lookup x = some .local) (hy : X.env.scope.names.lookup y = some .local)
    (ha : SA XR X Ek cl es [a, b]) (hw : swappedStores [.Tuple [.Name x px, .Name y py] kt pt] (.Tuple [a, b] k2 pt2) X.env = pure (some [x, y])) (hs : swapsWithSole [.Tuple [.Name x px, .Name y py] kt pt] (.Tuple [a, b] k2 pt2) pos.line X.env = pure false) :
    SS XR X Ek cl (.par [i, j] es) (.Assign [.Tuple [.Name x px, .Name y py] kt pt] (.Tuple [a, b] k2 pt2) pos) :=
  (ps_par hc L1.nd L1.ix L2.ix hij hx hy ha hw hs).weak fun Z σ H ⟨B, ρ, S, h⟩ => by
    refine seqS S h fun ds ρ1 vs H1 _ S1 k1 r1 h1 => ?_
    have r1 : Rps X.K H1 (MM B ρ1 σ) ds vs := r1
    cases e2 : putAll [i, j] ds ρ1 with
    | none => rw [e2] at h1; exact h1.elim
    | some ρ2 =>
      rw [e2] at h1
      have hl := putAll_len e2
      match ds, hl with
      | [d1, d2], _ =>
        obtain ⟨v, t, rfl, p1, q1⟩ := r1.uncons
        obtain ⟨w, t2, rfl, p2, q2⟩ := q1.uncons
        simp only [Rps] at q2
        subst q2
        have g := names_ok (Q := fun σ' H' => Z.nx σ' H') S1 r1 e2 fun σ1 S2 k2 _ => h1 σ1 H1 S2 k2
        obtain ⟨v', r', e3, v2, r2, e4, e5, g⟩ := g
        cases e3
        cases e4
        exact ⟨v, w, rfl, g⟩
theorem p_aug {o : Bop} {op : Operator} (L : Slt X i x) (he : SE XR X Ek cl e a) (ho : PIp X op (opR X.K (augF o))) : SS XR X Ek cl (.aug i o e) (.AugAssign (.Name x pos') op a pos) :=
  (ps_aug L.nd L.ix L.loc he ho L.fn).weak fun Z σ H ⟨B, ρ, S, h⟩ => by
    have h : PstS X.K XR Ek B ρ σ H (match ρ.at i with
      | none => .no
      | some _ => (ev cl e ρ).sb fun y ρ => match (ρ.at i).bind fun x => augF o x y with
        | some d => (match ρ[i]? with
          | some (.val _) => .nx (ρ.set i (.val d))
          | _ => .no)
        | none => .no) Z := h
    cases e0 : ρ.at i with
    | none => rw [e0] at h; exact h.elim
    | some d0 =>
      rw [e0] at h
      obtain ⟨v0, hv⟩ : ∃ v, σ[i]? = some (some v) := by
        unfold Rho.at at e0
        cases e2 : ρ[i]? with
        | none => rw [e2] at e0; cases e0
        | some en => rw [e2] at e0; obtain ⟨v, e1, _⟩ := S.get e2 e0; exact ⟨v, e1⟩
      refine ⟨v0, hv, ?_⟩
      refine seqS S h fun d ρ1 y H1 _ S1 k1 r1 h1 => ?_
      cases e2 : ρ1[i]? with
      | none =>
        have z : ρ1.at i = none := by unfold Rho.at; rw [e2]; rfl
        rw [z] at h1; exact h1.elim
      | some en =>
        cases e3 : (ρ1.at i).bind fun x => augF o x d with
        | none => rw [e3] at h1; exact h1.elim
        | some dd =>
          rw [e3, e2] at h1
          cases en with
          | val dx =>
            have z : ρ1.at i = some dx := by unfold Rho.at; rw [e2]; rfl
            rw [z] at e3
            obtain ⟨w, hw, rw_⟩ := S1.val i dx e2
            rw [hv] at hw; cases hw
            exact ⟨_, dx, d, dd, S1.mb, .of rw_, .of r1, e3, fun zv H2 sm rz => h1 _ H2 ((S1.same sm).setVal rz) ((Kp.same sm).trans (kp_setVal fun d' q => by rw [e2] at q; cases q))⟩
          | _ => exact h1.elim
theorem p_drop (he : SE XR X Ek cl e a) (hs : swapsWith a none pos.line X.env = pure false) : SS XR X Ek cl (.drop e) (.Expr a pos) :=
  (ps_expr he hs).weak fun Z σ H ⟨B, ρ, S, h⟩ => seqS S h fun d ρ1 y H1 _ S1 k1 r1 h1 => h1 σ H1 S1 .refl
theorem p_ret (he : SE XR X Ek cl e a) : SS XR X Ek cl (.ret e) (.Return (some a) pos) :=
  (ps_ret he).weak fun Z σ H ⟨B, ρ, S, h⟩ => seqS S h fun d ρ1 y H1 _ S1 k1 r1 h1 => h1 y σ H1 S1 .refl r1
theorem p_retN : SS XR X Ek cl .retN (.Return none pos) := ps_retN.weak fun Z σ H ⟨B, ρ, S, h⟩ => h .non σ H S .refl (rp_none (K := X.K) (H := H) (M := MM B ρ σ))
theorem OwnAt.stays {K : PySem.W.Frag} {H : Hp} {M M' : Addr → Prop} {a : Addr} {d : D} (h : ∀ b, M' b → M b) (q : OwnAt K H M a d) : OwnAt K H M' a d := q.mono (fun b o e n => ⟨e, fun z => n (h b z)⟩) rfl
theorem p_retO (he : SF XR X Ek cl e a) : SS XR X Ek cl (.retO e) (.Return (some a) pos) :=
  (ps_ret he).weak fun Z σ H ⟨B, ρ, S, h⟩ => by
    refine seqSF S h fun d ρ1 _ h1 => ?_
    split at h1
    · rename_i ho
      refine ⟨ho, fun a H1 S1 k1 na q => h1 (.ref a) σ H1 (S1.weakB fun b => .inl) k1 ⟨a, rfl, na, q.stays fun b z => ?_⟩⟩
      rcases z with z | z
      · exact z.elim (fun z => .inl (.inl z)) .inr
      · exact .inl (.inr z)
    · exact h1.elim
theorem p_if {c : Ev.E} {ss ss' : Ss} {ce : Expr} {as bs : List Stmt} (hc : STt XR X Ek cl c ce) (ha : SSs XR X Ek cl ss as) (hb : SSs XR X Ek cl ss' bs) : SS XR X Ek cl (.if_ c ss ss') (.If ce as bs pos) :=
  (ps_if hc ha hb).weak fun Z σ H ⟨B, ρ, S, h⟩ => by
    refine seqS S h fun d ρ1 y H1 _ S1 k1 r1 h1 => ?_
    cases (show d = y from r1)
    cases d with
    | true => exact ⟨B, ρ1, S1, h1⟩
    | false => exact ⟨B, ρ1, S1, h1⟩
theorem p_for {t : Tgt} {it : Ev.It} {b : Ss} {tg iter : Expr} {body : List Stmt} (hp : PassesOwn (model X.prog X.w) X.A X.env X.xe) (hc : X.calm = true) (hi : SW XR X Ek cl tg it iter) (hpl : plainX iter = true) (hz : isTupE tg = t.isTup) (hg : PG X tg (gT X.K t)) (hb : SSs XR X Ek cl b body) :
    SS XR X Ek cl (.for_ t it b) (.For tg iter body [] pos) :=
  (ps_for hp hc hi hg hb (fold_plain hpl _)).weak fun Z σ H ⟨B, ρ, S, h⟩ => by
    refine seqSI S h fun xs ρ1 J H1 _ S1 k1 io h1 => ?_
    refine ⟨fun i m σ' H' => m = xs.length - i ∧ i ≤ xs.length ∧ ∃ ρ', SR X.K H' B ρ' σ' ∧ Kp ρ1 σ H1 ρ' σ' H' ∧ PstS X.K XR Ek B ρ' σ' H' (loopF t (evSs cl b) (xs.drop i) ρ') Z, ⟨_, rfl, Nat.zero_le _, ρ1, S1, .refl, h1⟩, ?_⟩
    rintro i m σi Hi ⟨rfl, hi, ρi, Si, ki, hh⟩
    have keep : ∀ a o, H1 a = some o → ¬ MM B ρ1 σ a → Hi a = some o := fun a o e n => ki.keep a o e fun j z => n (.inr ⟨j, z⟩)
    by_cases hlt : i < xs.length
    · refine .inr ⟨io.go i Hi keep hlt, fun σ' H' => i + 1 ≤ xs.length ∧ ∃ ρ', SR X.K H' B ρ' σ' ∧ Kp ρ1 σ H1 ρ' σ' H' ∧ PstS X.K XR Ek B ρ' σ' H' (loopF t (evSs cl b) (xs.drop (i + 1)) ρ') Z, fun σ' H' p => ⟨_, by omega, rfl, p⟩, fun x H' y => ?_⟩
      have ex : xs[i]? = some xs[i] := by simp [hlt]
      rw [List.drop_eq_getElem_cons hlt] at hh
      unfold loopF at hh
      obtain ⟨sm, yl⟩ := io.yld i _ Hi x H' keep ex y
      have rx := yl _ Si.mb ki.stays
      cases e1 : t.set xs[i] ρi with
      | none => rw [e1] at hh; exact hh.elim
      | some ρ2 =>
        rw [e1] at hh
        dsimp only at hh
        refine tgt_okY hz (Si.same sm) rx e1 fun σ2 S2 k2 _ => ⟨B, ρ2, S2, ?_⟩
        have kk := (Kp.same (ρ := ρi) (σ := σi) sm).trans k2
        have nxt : ∀ {ρ3 : Rho}, PstS X.K XR Ek B ρi σi Hi (loopF t (evSs cl b) (xs.drop (i + 1)) ρ3) Z → ∀ σ' Hz, SR X.K Hz B ρ3 σ' → Kp ρ2 σ2 H' ρ3 σ' Hz → i + 1 ≤ xs.length ∧ ∃ ρ', SR X.K Hz B ρ' σ' ∧ Kp ρ1 σ H1 ρ' σ' Hz ∧ PstS X.K XR Ek B ρ' σ' Hz (loopF t (evSs cl b) (xs.drop (i + 1)) ρ') Z :=
          fun hz σ' Hz S3 k3 => ⟨hlt, _, S3, ki.trans (kk.trans k3), PstS.shift (kk.trans k3) hz⟩
        cases e2 : evSs cl b ρ2 with
        | nx ρ3 => rw [e2] at hh; exact nxt hh
        | ct ρ3 => rw [e2] at hh; exact nxt hh
        | bk ρ3 => rw [e2] at hh; exact PstS.shift (r := .nx ρ3) kk hh
        | rt en ρ3 => rw [e2] at hh; exact PstS.shift (r := .rt en ρ3) kk hh
        | ex x ρ3 => rw [e2] at hh; exact PstS.shift (r := .ex x ρ3) kk hh
        | no => rw [e2] at hh; exact hh
    · have e : i = xs.length := by omega
      subst e
      rw [List.drop_length] at hh
      exact .inl ⟨io.stop _ Hi keep (Nat.le_refl _), hh σi Hi Si .refl⟩
theorem p_while {c : Ev.E} {b : Ss} {ce : Expr} {body : List Stmt} (hp : PassesOwn (model X.prog X.w) X.A X.env X.xe) (hc : STt XR X Ek cl c ce) (hb : SSs XR X Ek cl b body) : SS XR X Ek cl (.while_ c b) (.While ce body [] pos) :=
  (ps_while hp hc hb).weak fun Z σ H ⟨B, ρ, S, h⟩ => by
    refine ⟨fun m σ' H' => ∃ ρ', SR X.K H' B ρ' σ' ∧ PstS X.K XR Ek B ρ' σ' H' (loopW (evT cl c) (evSs cl b) m ρ') Z, ⟨wFuel, ρ, S, h⟩, ?_⟩
    rintro m σi Hi ⟨ρi, Si, hh⟩
    cases m with
    | zero => exact hh.elim
    | succ m =>
      refine ⟨B, ρi, Si, ?_⟩
      unfold loopW at hh
      cases e1 : evT cl c ρi with
      | no => rw [e1] at hh; exact hh
      | ex x ρ2 => rw [e1] at hh; exact fun c d H' s k' q => hh c d σi H' s k' q
      | ok k ρ2 =>
        rw [e1] at hh
        intro k' H2 S2 k2 q
        cases (show k = k' from q)
        cases k with
        | false => exact hh σi H2 S2 k2
        | true =>
          refine ⟨fun σ' H' => ∃ ρ', SR X.K H' B ρ' σ' ∧ PstS X.K XR Ek B ρ' σ' H' (loopW (evT cl c) (evSs cl b) m ρ') Z, fun σ' H' p => ⟨m, Nat.lt_succ_self _, p⟩, B, ρ2, S2, ?_⟩
          have hh : PstS X.K XR Ek B ρi σi Hi (match evSs cl b ρ2 with
            | .nx ρ2 => loopW (evT cl c) (evSs cl b) m ρ2
            | .ct ρ2 => loopW (evT cl c) (evSs cl b) m ρ2
            | .bk ρ2 => .nx ρ2
            | .rt e ρ2 => .rt e ρ2
            | .ex x ρ2 => .ex x ρ2
            | .no => .no) Z := hh
          cases e2 : evSs cl b ρ2 with
          | nx ρ3 => rw [e2] at hh; exact fun σ' H' S3 k3 => ⟨ρ3, S3, PstS.shift (k2.trans k3) hh⟩
          | ct ρ3 => rw [e2] at hh; exact fun σ' H' S3 k3 => ⟨ρ3, S3, PstS.shift (k2.trans k3) hh⟩
          | bk ρ3 => rw [e2] at hh; exact PstS.shift (r := .nx ρ3) k2 hh
          | rt en ρ3 => rw [e2] at hh; exact PstS.shift (r := .rt en ρ3) k2 hh
          | ex x ρ3 => rw [e2] at hh; exact PstS.shift (r := .ex x ρ3) k2 hh
          | no => rw [e2] at hh; exact hh
end
end Ev

set_option Elab.async false
set_option linter.all false
set_option maxRecDepth 100000
set_option autoImplicit false
/-! Ev6b: lists that are changed, names that get a comprehension, calls. -/
namespace Ev
open PySem L2
section
variable {XR : Hp → (Addr → Prop) → Exn → Value → Option Addr → Prop} {X : Cx} {Ek : WX} {n : Nat} {sc : Scope} {cl : Nat → List Ent → CRes} {pos pos' : Pos} {i : Nat} {x : Str} {e : Ev.E} {a : Expr}
/-! ### name = [..] -/
section
variable {own : List Nat} {t : Tgt} {it : Ev.It} {c : Oe} {elt tg iter : Expr} {ifs : List Expr} {scope : Scope} {ow : List (Str × Nat)} {py : Pos}
theorem p_newC (L : Slt X i x) (hc : X.calm = true) (hl : X.env.scope.names.lookup x = some .local) (hsw : swapsWith (.ListComp elt [⟨tg, iter, ifs, 0⟩] scope pos) (some (.Name x py)) pos'.line X.env = pure true)
    (hi : SW XR X Ek cl tg it iter) (ok : BlkOk X.N X.env.scope scope ow) (hz : isTupE tg = t.isTup) (hsl : ∀ i ∈ t.slots, i ∈ ow.map (·.2)) (hp : plainX iter = true)
    (hg : ∀ (s : Shared) (H : Hp) (C : Addr) (cl : List (Str × Addr)) (fp : List Addr), PG (X.blk s H scope (compEnvC scope cl C X.env) fp) tg (gT X.K t))
    (ht : ∀ (s : Shared) (H : Hp) (C : Addr) (cc : List (Str × Addr)) (fp : List Addr), PTs (X.blk s H scope (compEnvC scope cc C X.env) fp) ifs (rdT X.K XR Ew (evc cl c)))
    (he : ∀ (s : Shared) (H : Hp) (C : Addr) (cc : List (Str × Addr)) (fp : List Addr), SE XR (X.blk s H scope (compEnvC scope cc C X.env) fp) Ew cl e elt) : SS XR X Ek cl (.new i (.comp (ow.map (·.2)) e t it c)) (.Assign [.Name x py] (.ListComp elt [⟨tg, iter, ifs, 0⟩] scope pos) pos') :=
  (ps_setLc hc L.nd L.ix hl hsw hi ok hg ht he (fold_plain hp _)).weak fun Z σ H h => comp_ok (Q := fun x H1 => gName i x σ H1 Z.nx) hz hsl (set_own h)
theorem p_asgC (L : Slt X i x) (hc : X.calm = true) (hl : X.env.scope.names.lookup x = some .local) (hsw : swapsWith (.ListComp elt [⟨tg, iter, ifs, 0⟩] scope pos) (some (.Name x py)) pos'.line X.env = pure true)
    (hi : SW XR X Ek cl tg it iter) (ok : BlkOk X.N X.env.scope scope ow) (hz : isTupE tg = t.isTup) (hsl : ∀ i ∈ t.slots, i ∈ ow.map (·.2)) (hp : plainX iter = true)
    (hg : ∀ (s : Shared) (H : Hp) (C : Addr) (cl : List (Str × Addr)) (fp : List Addr), PG (X.blk s H scope (compEnvC scope cl C X.env) fp) tg (gT X.K t))
    (ht : ∀ (s : Shared) (H : Hp) (C : Addr) (cc : List (Str × Addr)) (fp : List Addr), PTs (X.blk s H scope (compEnvC scope cc C X.env) fp) ifs (rdT X.K XR Ew (evc cl c)))
    (he : ∀ (s : Shared) (H : Hp) (C : Addr) (cc : List (Str × Addr)) (fp : List Addr), SE XR (X.blk s H scope (compEnvC scope cc C X.env) fp) Ew cl e elt) : SS XR X Ek cl (.asg i (.comp (ow.map (·.2)) e t it c)) (.Assign [.Name x py] (.ListComp elt [⟨tg, iter, ifs, 0⟩] scope pos) pos') :=
  (ps_setLc hc L.nd L.ix hl hsw hi ok hg ht he (fold_plain hp _)).weak fun Z σ H h => comp_ok (Q := fun x H1 => gName i x σ H1 Z.nx) hz hsl (rdF_E own_comp (set_val h))
end
/-! ### lists of one's own -/
theorem mine_at {K : PySem.W.Frag} {H : Hp} {B : Addr → Prop} {ρ : Rho} {σ : St} {ds : List D} (S : SR K H B ρ σ) (h : ρ.mine i = some ds) : ∃ a xs, σ[i]? = some (some (.ref a)) ∧ H a = some (.lst xs) ∧ Rps K H (MM B ρ σ) ds xs := by
  obtain ⟨en, m1, m2, m3, _⟩ := mine_of h
  obtain ⟨a, ha, _, xs, q1, q2⟩ := S.own i en _ m1 m2 m3
  exact ⟨a, xs, ha, q1, q2⟩
/-- such a list is written -/
theorem mine_put {K : PySem.W.Frag} {H : Hp} {B : Addr → Prop} {ρ ρ' : Rho} {σ : St} {ds es : List D} {a : Addr} {ys : List V} (S : SR K H B ρ σ) (h : ρ.mine i = some ds) (ha : σ[i]? = some (some (.ref a))) (hu : ρ.upd i (.list es) = some ρ') (r : Rps K H (MM B ρ σ) es ys) :
    SR K (upd H a (.lst ys)) B ρ' σ ∧ Kp ρ σ H ρ' σ (upd H a (.lst ys)) := by
  obtain ⟨en, m1, m2, m3, m4⟩ := mine_of h
  obtain ⟨ρ2, u1, e', u2, u3, u4, u5⟩ := m4 (.list es)
  rw [hu] at u1; cases u1
  subst u2
  exact S.write m1 m2 ha u3 u5 u4 fun M st => ⟨ys, upd_same, Rps.mono st _ _ r⟩
theorem storeAt_ok {B : Addr → Prop} {ρ : Rho} {σ : St} {H : Hp} {k y : D} {kv yv ov : V} {Z : Ends} (S : SR X.K H B ρ σ) (ho : σ[i]? = some (some ov)) (rk : Rp X.K H (MM B ρ σ) k kv) (ry : Rp X.K H (MM B ρ σ) y yv) (h : PstS X.K XR Ek B ρ σ H (storeAt i k y ρ) Z) : rSetL ov kv yv H fun H' => Z.nx σ H' := by
  cases k with
  | int n =>
    have h : PstS X.K XR Ek B ρ σ H (match (ρ.mine i).bind fun ds => (ixN ds.length n).bind fun j => ρ.upd i (.list (ds.set j y)) with | some ρ' => .nx ρ' | none => .no) Z := h
    cases e1 : ρ.mine i with
    | none => rw [e1] at h; exact h.elim
    | some ds =>
      rw [e1] at h
      dsimp only [Option.bind_some] at h
      obtain ⟨a, xs, ha, hx, r⟩ := mine_at S e1
      rw [ho] at ha; cases ha
      cases e2 : ixN ds.length n with
      | none => rw [e2] at h; exact h.elim
      | some j =>
        rw [e2] at h
        dsimp only [Option.bind_some] at h
        cases e3 : ρ.upd i (.list (ds.set j y)) with
        | none => rw [e3] at h; exact h.elim
        | some ρ' =>
          rw [e3] at h
          simp only [Rp] at rk
          obtain ⟨S', k'⟩ := mine_put S e1 ho e3 (r.set j ry)
          exact ⟨a, xs, n, j, rfl, rk, hx, by rw [r.length]; exact e2, h σ _ S' k'⟩
  | _ => exact h.elim
theorem storeAt_nb {B : Addr → Prop} {ρ : Rho} {σ : St} {H : Hp} {k y : D} {kv yv ov : V} {Z : Ends} {g : Rho → SRes} {P : Hp → Prop} (S : SR X.K H B ρ σ) (ho : σ[i]? = some (some ov)) (rk : Rp X.K H (MM B ρ σ) k kv) (ry : Rp X.K H (MM B ρ σ) y yv) (h : PstS X.K XR Ek B ρ σ H ((storeAt i k y ρ).nb g) Z)
    (hP : ∀ ρ' H', SR X.K H' B ρ' σ → Kp ρ σ H ρ' σ H' → PstS X.K XR Ek B ρ' σ H' (g ρ') Z → P H') : rSetL ov kv yv H P := by
  have hh : PstS X.K XR Ek B ρ σ H (storeAt i k y ρ) { nx := fun σ' H' => σ' = σ → P H', rt := fun _ _ => False } := by
    unfold storeAt at h ⊢
    split at h
    · split at h
      · rename_i ρ' e
        exact fun σ' H' S' k' z => by subst z; exact hP ρ' H' S' k' (PstS.shift k' h)
      · exact h.elim
    · exact h.elim
  have := storeAt_ok (X := X) (XR := XR) (Ek := Ek) S ho rk ry hh
  obtain ⟨p, xs, k, j, e1, e2, e3, e4, q⟩ := this
  exact ⟨p, xs, k, j, e1, e2, e3, e4, q rfl⟩
theorem p_sub {k : Ev.E} {ke oe : Expr} {tpos : Pos} (ho : PE X oe (tVar i)) (hk : SE XR X Ek cl k ke) (he : SE XR X Ek cl e a) (hs : swapsWithSole [.Subscript oe ke tpos] a pos.line X.env = pure false) (hw : swappedStores [.Subscript oe ke tpos] a X.env = pure none)
    (h1 : (assignEach [.Subscript oe ke tpos] X.env).map (·.2) = [assign (.Subscript oe ke tpos) X.env])
    (ha : ∀ v, assign (.Subscript oe ke tpos) X.env v = (do
      let ov ← holding [v] (eval oe X.env)
      let iv ← holding [v, ov] (eval ke X.env)
      standAt tpos
      holding [v, ov, iv] (setItem ov iv v)
      release [v, ov, iv] [])) : SS XR X Ek cl (.sub i k e) (.Assign [.Subscript oe ke tpos] a pos) :=
  (ps_asg he (pg_sub ho hk set_list ha) hs hw h1).weak fun Z σ H ⟨B, ρ, S, h⟩ => by
    have h : PstS X.K XR Ek B ρ σ H (match ρ.mine i with
      | none => .no
      | some _ => (ev cl e ρ).sb fun y ρ => (ev cl k ρ).sb fun x ρ => storeAt i x y ρ) Z := h
    cases e1 : ρ.mine i with
    | none => rw [e1] at h; exact h.elim
    | some ds =>
      rw [e1] at h
      obtain ⟨p, xs, hp, _, _⟩ := mine_at S e1
      refine seqS S h fun y ρ1 yv H1 _ S1 k1 r1 h1 => ?_
      refine ⟨_, hp, ?_⟩
      refine seqS S1 h1 fun kd ρ2 kv H2 _ S2 k2 r2 h2 => ?_
      exact storeAt_ok S2 hp r2 (Rp.kp k2 r1) h2
/-- a place of a list is read -/
theorem get_list : PGet X (fun x y H Q => ∃ (p : Addr) (xs : List V) (k : Int) (z : V), x = .ref p ∧ y = .int k ∧ SqL X.K H p xs ∧ atI xs k = some z ∧ Q z H) := by
  intro pins s σ H x y v u Q I rx ry h
  obtain ⟨p, xs, i, z, rfl, rfl, hq, he, q⟩ := h
  cases rx
  obtain ⟨t, rfl⟩ := ry
  obtain ⟨its, r, pl, hz⟩ := I.list hq
  obtain ⟨j, h1, h2, h3, h4, h5⟩ := atI_get he
  obtain ⟨w, ew, rw'⟩ := r.get h2
  have hl := r.length
  have hn := line63
  have fin : EP X pins σ Q w s := ⟨z, H, I, rw', q⟩
  by_cases h0 : 0 ≤ i
  · have hj : i.toNat = j := by
      rw [seqIndex_of h0 h5] at h1
      exact Option.some.inj h1
    exact wpAny_getItem_list pl.isList h0 (by omega) (by rw [hj]; simpa using ew) fin
  · have hj : (i + (its.toArray.size : Int)).toNat = j := by
      rw [seqIndex_neg (by omega) h4] at h1
      rw [List.size_toArray, ← hl]
      exact Option.some.inj h1
    exact wpAny_getItem_list_neg pl.isList (by omega) (by rw [List.size_toArray] <;> omega) (by omega) (by rw [hj]; simpa using ew) fin
theorem p_asub {o : Bop} {op : Operator} {k : Ev.E} {ke oe : Expr} {tpos : Pos} (ho : PE X oe (tVar i)) (hk : SE XR X Ek cl k ke) (he : SE XR X Ek cl e a) (hp : PIp X op (opR X.K (augF o)))
    (ha : ∀ ov iv new, augStore ke ov iv new = (do holding [new, ov, iv] (setItem ov iv new); release [new, ov, iv] []; pure .next)) : SS XR X Ek cl (.asub i o k e) (.AugAssign (.Subscript oe ke tpos) op a pos) :=
  (ps_augS ho hk get_list he hp set_list ha).weak fun Z σ H ⟨B, ρ, S, h⟩ => by
    have h : PstS X.K XR Ek B ρ σ H (match ρ.mine i with
      | none => .no
      | some _ => (ev cl k ρ).sb fun x ρ => match (ρ.mine i).bind fun ds => idxF (.list ds) x with
        | none => .no
        | some old => (ev cl e ρ).sb fun y ρ => match augF o old y with
          | none => .no
          | some z => storeAt i x z ρ) Z := h
    cases e1 : ρ.mine i with
    | none => rw [e1] at h; exact h.elim
    | some ds0 =>
      rw [e1] at h
      obtain ⟨p, xs, hp0, _, _⟩ := mine_at S e1
      refine ⟨_, hp0, ?_⟩
      refine seqS S h fun x ρ1 xv H1 _ S1 k1 r1 h1 => ?_
      cases e2 : ρ1.mine i with
      | none => rw [e2] at h1; exact h1.elim
      | some ds =>
        rw [e2] at h1
        dsimp only [Option.bind_some] at h1
        obtain ⟨p', ys, hp1, hx1, rr⟩ := mine_at S1 e2
        rw [hp0] at hp1; cases hp1
        cases e3 : idxF (.list ds) x with
        | none => rw [e3] at h1; exact h1.elim
        | some old =>
          rw [e3] at h1
          dsimp only at h1
          have hx : ∃ n, x = .int n := by cases x <;> first | exact ⟨_, rfl⟩ | cases e3
          obtain ⟨n, rfl⟩ := hx
          obtain ⟨zv, e4, rz⟩ := atI_rps rr (show atI ds n = some old from e3)
          have r1' : Rp X.K H1 (MM B ρ1 σ) (.int n) xv := r1
          simp only [Rp] at r1'
          refine ⟨p, ys, n, zv, rfl, r1', SqL.of hx1, e4, ?_⟩
          refine seqS S1 h1 fun y ρ2 yv H2 _ S2 k2 r2 h2 => ?_
          cases e5 : augF o old y with
          | none => rw [e5] at h2; exact h2.elim
          | some z =>
            rw [e5] at h2
            dsimp only at h2
            refine ⟨MM B ρ2 σ, old, y, z, S2.mb, .of (Rp.kp k2 rz), .of r2, e5, fun nv H3 sm rn => ?_⟩
            exact storeAt_ok (S2.same sm) hp0 (by simp only [Rp]; exact r1') rn (PstS.shift (.same sm) h2)
theorem p_app {oe : Expr} {apos cpos : Pos} (ho : PE X oe (tVar i)) (he : SE XR X Ek cl e a) (hpl : plainX a = true) (hb : attributeBase oe "append" X.env (eval oe X.env) = eval oe X.env) (hline : (apos.endLine == cpos.line) = true)
    (hfew : ((backTo cpos (starEach [a] X.env)).all (fun x => !x.1) && (backToKw cpos (keywordEach [] X.env)).all (fun x => x.1.isSome)
      && decide (([a] : List Expr).length + ([] : List Keyword).length + (if ([] : List Keyword).isEmpty then 0 else 1) < 30)) = true) : SS XR X Ek cl (.app i e) (.Expr (.Call (.Attribute oe "append" apos) [a] [] cpos) pos) :=
  (ps_expr (pe_bm PySem.F.plainAttrs_list PySem.F.slot_list_append PySem.F.type_list_append mt_append ho (pa_cons he pa_nil (star_plain hpl _ _)) hb hfew hline (star_plain hpl _ _) rfl) rfl).weak fun Z σ H ⟨B, ρ, S, h⟩ => by
    have h : PstS X.K XR Ek B ρ σ H (match ρ.mine i with
      | none => .no
      | some _ => (ev cl e ρ).sb fun y ρ => match (ρ.mine i).bind fun ds => if ds.length < sizeLine then ρ.upd i (.list (ds ++ [y])) else none with | some ρ' => .nx ρ' | none => .no) Z := h
    cases e1 : ρ.mine i with
    | none => rw [e1] at h; exact h.elim
    | some ds =>
      rw [e1] at h
      obtain ⟨p, xs, hp, hx, _⟩ := mine_at S e1
      refine ⟨_, hp, .inl ⟨rfl, _, SqL.of hx⟩, ?_⟩
      refine seqS S h fun y ρ1 yv H1 _ S1 k1 r1 h1 => ?_
      cases e2 : ρ1.mine i with
      | none => rw [e2] at h1; exact h1.elim
      | some es =>
        rw [e2] at h1
        dsimp only [Option.bind_some] at h1
        obtain ⟨p', ys, hp', hy, rr⟩ := mine_at S1 e2
        rw [hp] at hp'; cases hp'
        by_cases hz : es.length < sizeLine
        · rw [if_pos hz] at h1
          cases e3 : ρ1.upd i (.list (es ++ [y])) with
          | none => rw [e3] at h1; exact h1.elim
          | some ρ' =>
            rw [e3] at h1
            obtain ⟨S', k'⟩ := mine_put S1 e2 hp e3 (rr.append (.cons r1 .nil))
            exact ⟨p, ys, yv, rfl, rfl, hy, by rw [rr.length]; exact hz, h1 σ _ S' k'⟩
        · rw [if_neg hz] at h1; exact h1.elim
theorem last_get {xs : List V} {ds : List D} {K : PySem.W.Frag} {H : Hp} {M : Addr → Prop} (r : Rps K H M ds xs) {d : D} (h : ds.getLast? = some d) : ∃ y, xs[xs.length - 1]? = some y ∧ Rp K H M d y := by
  rw [List.getLast?_eq_getElem?] at h
  obtain ⟨y, e, q⟩ := r.get h
  exact ⟨y, by rw [r.length]; exact e, q⟩
theorem s_popv {oe : Expr} {apos cpos : Pos} (ho : PE X oe (tVar i)) (hb : attributeBase oe "pop" X.env (eval oe X.env) = eval oe X.env) (hline : (apos.endLine == cpos.line) = true) : SE XR X Ek cl (.popv i) (.Call (.Attribute oe "pop" apos) [] [] cpos) :=
  (pe_bm0 PySem.F.plainAttrs_list PySem.F.slot_list_pop PySem.F.type_list_pop mt_pop ho hb hline).weak fun σ H Q ⟨B, ρ, S, h⟩ => by
    have h : Pst X.K XR Ek (RelE X.K) B ρ σ H (match ρ.mine i with
      | some ds => (match ds.getLast? with
        | some d => R.lift ((ρ.upd i (.list ds.dropLast)).map fun ρ' => (d, ρ')) ρ |>.bind fun p _ => .ok p.1 p.2
        | none => .no)
      | none => .no) Q := h
    cases e1 : ρ.mine i with
    | none => rw [e1] at h; exact h.elim
    | some ds =>
      rw [e1] at h
      dsimp only at h
      obtain ⟨p, xs, hp, hx, r⟩ := mine_at S e1
      cases e2 : ds.getLast? with
      | none => rw [e2] at h; exact h.elim
      | some d =>
        rw [e2] at h
        dsimp only at h
        cases e3 : ρ.upd i (.list ds.dropLast) with
        | none => rw [e3] at h; exact h.elim
        | some ρ' =>
          rw [e3] at h
          obtain ⟨y, hy, ry⟩ := last_get r e2
          obtain ⟨S', k'⟩ := mine_put S e1 hp e3 r.dropLast
          exact ⟨_, hp, .inl ⟨rfl, _, SqL.of hx⟩, p, xs, y, rfl, rfl, hx, hy, h y _ S' k' (Rp.kp k' ry)⟩
theorem ix_seq {n : Int} {len j : Nat} (h : ixN len n = some j) : seqIndex? n len = some j := by
  exact (ixN_seq h).1
theorem Rps.eraseIdx {K : PySem.W.Frag} {H : Hp} {M : Addr → Prop} : ∀ {ds : List D} {xs : List V} (i : Nat), Rps K H M ds xs → Rps K H M (ds.eraseIdx i) (xs.eraseIdx i)
  | [], xs, _, p => by simp only [Rps] at p; subst p; exact Rps.nil
  | d0 :: ds, xs, 0, p => by
    obtain ⟨x, r', rfl, p1, p2⟩ := p.uncons
    exact p2
  | d0 :: ds, xs, i + 1, p => by
    obtain ⟨x, r', rfl, p1, p2⟩ := p.uncons
    exact Rps.cons p1 (Rps.eraseIdx i p2)
theorem s_popi {oe : Expr} {apos cpos : Pos} (ho : PE X oe (tVar i)) (he : SE XR X Ek cl e a) (hpl : plainX a = true) (hb : attributeBase oe "pop" X.env (eval oe X.env) = eval oe X.env) (hline : (apos.endLine == cpos.line) = true)
    (hfew : ((backTo cpos (starEach [a] X.env)).all (fun x => !x.1) && (backToKw cpos (keywordEach [] X.env)).all (fun x => x.1.isSome)
      && decide (([a] : List Expr).length + ([] : List Keyword).length + (if ([] : List Keyword).isEmpty then 0 else 1) < 30)) = true) : SE XR X Ek cl (.popi i e) (.Call (.Attribute oe "pop" apos) [a] [] cpos) :=
  (pe_bm PySem.F.plainAttrs_list PySem.F.slot_list_pop PySem.F.type_list_pop mt_popAt ho (pa_cons he pa_nil (star_plain hpl _ _)) hb hfew hline (star_plain hpl _ _) rfl).weak fun σ H Q ⟨B, ρ, S, h⟩ => by
    have h : Pst X.K XR Ek (RelE X.K) B ρ σ H (match ρ.mine i with
      | none => .no
      | some _ => (ev cl e ρ).bind fun x ρ => (R.lift ((ρ.mine i).bind fun ds => (popAt ds x).bind fun p => (ρ.upd i (.list p.2)).map fun ρ' => (p.1, ρ')) ρ).bind fun p _ => .ok p.1 p.2) Q := h
    cases e1 : ρ.mine i with
    | none => rw [e1] at h; exact h.elim
    | some ds0 =>
      rw [e1] at h
      obtain ⟨p0, xs0, hp0, hx0, _⟩ := mine_at S e1
      refine ⟨_, hp0, .inl ⟨rfl, _, SqL.of hx0⟩, ?_⟩
      refine seq S h fun k ρ1 kv H1 _ S1 k1 r1 h1 => ?_
      cases e2 : ρ1.mine i with
      | none => rw [e2] at h1; exact h1.elim
      | some ds =>
        rw [e2] at h1
        dsimp only [Option.bind_some] at h1
        obtain ⟨p, xs, hp, hx, r⟩ := mine_at S1 e2
        have ep : p0 = p := by rw [hp0] at hp; cases hp; rfl
        subst ep
        cases e3 : popAt ds k with
        | none => rw [e3] at h1; exact h1.elim
        | some pr =>
          rw [e3] at h1
          dsimp only [Option.bind_some] at h1
          cases e4 : ρ1.upd i (.list pr.2) with
          | none => rw [e4] at h1; exact h1.elim
          | some ρ' =>
            rw [e4] at h1
            have hx : ∃ n, k = .int n := by cases k <;> first | exact ⟨_, rfl⟩ | cases e3
            obtain ⟨n, rfl⟩ := hx
            simp only [popAt] at e3
            split at e3
            · rename_i hn
              cases e5 : ixN ds.length n with
              | none => rw [e5] at e3; cases e3
              | some j =>
                rw [e5] at e3
                dsimp only [Option.bind_some] at e3
                cases e6 : ds[j]? with
                | none => rw [e6] at e3; cases e3
                | some d =>
                  rw [e6] at e3
                  cases e3
                  obtain ⟨y, hy, ry⟩ := r.get e6
                  have r1 : Rp X.K H1 (MM B ρ1 σ) (.int n) kv := r1
                  simp only [Rp] at r1
                  obtain ⟨S', k'⟩ := mine_put S1 e2 hp e4 (r.eraseIdx j)
                  exact ⟨p0, xs, n, j, y, rfl, by rw [r1], hx, by omega, by omega, by rw [r.length]; exact ix_seq e5, hy, h1 y _ S' k' (Rp.kp k' ry)⟩
            · cases e3
theorem p_popS {oe : Expr} {apos cpos : Pos} (ho : PE X oe (tVar i)) (hb : attributeBase oe "pop" X.env (eval oe X.env) = eval oe X.env) (hline : (apos.endLine == cpos.line) = true) : SS XR X Ek cl (.drop (.popv i)) (.Expr (.Call (.Attribute oe "pop" apos) [] [] cpos) pos) := p_drop (s_popv ho hb hline) rfl
/-! ### calls -/
theorem s_call {np f : Nat} {es : Es} {fx : Str} {p : Pos} {fa : Addr} {fd : FuncData} {ps : List Str} {ae : Expr} {as : List Expr} {e0 : Ev.E} {r : Es} (c : Cok X Ek n sc) (hX : XMono XR) (F : FnG X.prog X.w X.K X.mg X.base (L2.CX X.prog X.w) n fa fd ps (spF X.K XR cl np f)) (hg : Gl X fx) (hm : X.mg fx = some (.ref fa)) (hk : PySem.W.keepIn X.K (.ref fa) = true)
    (hb : Binds X.K fd ps []) (hn : ∀ args : List Ent, ∀ e o, cl f args = .ok e o → args.length = np) (hn2 : ∀ args : List Ent, ∀ e o, cl f args = .ex e o → args.length = np)
    (ha : SA XR X Ek cl es (ae :: as)) (hpl : (ae :: as).all plainX = true) (hd : (fx == ("__debug__" : Str)) = false) : SE XR X Ek cl (.call f es) (.Call (.Name fx p) (ae :: as) [] pos) := by
  simp only [List.all_cons, Bool.and_eq_true] at hpl
  exact (pe_callG F c.room c.gd hg hm hk hb c.pass ha hd (star_plain hpl.1 _ _) (star_all hpl.2)).weak fun _ _ _ h => call_ok hX (fun ds e o z => by have := hn _ e o z; rwa [List.length_map] at this) (fun ds e o z => by have := hn2 _ e o z; rwa [List.length_map] at this) h
theorem s_call0 {f : Nat} {fx : Str} {p : Pos} {fa : Addr} {fd : FuncData} {ps : List Str} (c : Cok X Ek n sc) (hX : XMono XR) (F : FnG X.prog X.w X.K X.mg X.base (L2.CX X.prog X.w) n fa fd ps (spF X.K XR cl 0 f)) (hg : Gl X fx) (hm : X.mg fx = some (.ref fa)) (hk : PySem.W.keepIn X.K (.ref fa) = true)
    (hb : Binds X.K fd ps []) (hn : ∀ args : List Ent, ∀ e o, cl f args = .ok e o → args.length = 0) (hn2 : ∀ args : List Ent, ∀ e o, cl f args = .ex e o → args.length = 0) (hd : (fx == ("__debug__" : Str)) = false) : SE XR X Ek cl (.call f .nil) (.Call (.Name fx p) [] [] pos) :=
  (pe_callG0 F c.room c.gd hg hm hk hb c.pass hd).weak fun σ H Q h => by
    have := call_ok (Ek := Ek) hX (fun ds e o z => by have := hn _ e o z; rwa [List.length_map] at this) (fun ds e o z => by have := hn2 _ e o z; rwa [List.length_map] at this) (X := X) (XR := XR) (cl := cl) (es := .nil) h
    obtain ⟨B, ρ, S, q⟩ := this
    exact q [] H S .refl .nil
theorem s_callp {np f : Nat} {es : Es} {fx : Str} {p : Pos} {fa : Addr} {fd : FuncData} {ps : List Str} {ae : Expr} {as : List Expr} (c : Cok X Ek n sc) (hX : XMono XR) (F : FnG X.prog X.w X.K X.mg X.base (L2.CX X.prog X.w) n fa fd ps (spF X.K XR cl np f)) (hg : Gl X fx) (hm : X.mg fx = some (.ref fa)) (hk : PySem.W.keepIn X.K (.ref fa) = true)
    (hb : Binds X.K fd ps []) (hn : ∀ args : List Ent, ∀ e o, cl f args = .ok e o → args.length = np) (hn2 : ∀ args : List Ent, ∀ e o, cl f args = .ex e o → args.length = np)
    (ho : PE X ae (tVar i)) (ha : SA XR X Ek cl es as) (hpl : (ae :: as).all plainX = true) (hd : (fx == ("__debug__" : Str)) = false) : SE XR X Ek cl (.callp f i es) (.Call (.Name fx p) (ae :: as) [] pos) := by
  simp only [List.all_cons, Bool.and_eq_true] at hpl
  exact (pe_callG F c.room c.gd hg hm hk hb c.pass (pa_cons ho ha (star_plain hpl.1 _ _)) hd (star_plain hpl.1 _ _) (star_all hpl.2)).weak fun _ _ _ h => callp_ok hX hn hn2 h
theorem callo_ok {np f : Nat} {es : Es} {Q : VK} {σ : St} {H : Hp} (hX : XMono XR) (hn : ∀ ds : List D, ∀ e o, cl f (ds.map .val) = .ok e o → ds.length = np) (hn2 : ∀ ds : List D, ∀ e o, cl f (ds.map .val) = .ex e o → ds.length = np)
    (h : rdF X.K XR Ek (fun ρ => (evs cl es ρ).bind fun ds ρ => (cl f (ds.map .val)).valO ρ) σ H Q) : tCallS (spF X.K XR cl np f) (WE Ek) (rdA X.K XR Ek (evs cl es)) σ H Q := by
  obtain ⟨B, ρ, S, h⟩ := h
  refine seqF S h fun ds ρ1 vs H1 _ S1 k1 r1 h1 => ?_
  have r1 : Rps X.K H1 (MM B ρ1 σ) ds vs := r1
  show spF X.K XR cl np f vs H1 Q (WE Ek σ)
  have SA := S1.args r1
  cases e : cl f (ds.map .val) with
  | no => rw [e] at h1; exact h1.elim
  | ok en o =>
    refine ⟨by rw [r1.length]; exact hn ds en o e, MM B ρ1 σ, ds.map .val, SA, ?_⟩
    rw [e]
    rw [e] at h1
    intro v H' k _ q
    have sm := kp_vals k
    cases en with
    | own d =>
      have h1 : PstF X.K XR Ek B ρ1 σ H1 (if ownable d = true then .ok d ρ1 else .no) Q := h1
      split at h1
      · obtain ⟨a, rfl, na, oa⟩ := q
        have na' : ∀ b, b = a → H1 b = none := fun b z => by rw [z]; exact na
        have S2 := S1.same sm
        have nM : ¬ MM B ρ1 σ a := S1.notM na
        have nO : ∀ j, ¬ Owner ρ1 σ j a := fun j z => nM (.inr ⟨j, z⟩)
        obtain ⟨oo, hoo⟩ := oa.there
        have S3 : SR X.K H' (fun b => B b ∨ b = a) ρ1 σ := by
          have st : Stays H1 (MM B ρ1 σ) H' (MM (fun b => B b ∨ b = a) ρ1 σ) := fun b u e nm => ⟨sm b u e, fun z => z.elim (fun z => z.elim (fun z => nm (.inl z)) fun z => by subst z; rw [na] at e; cases e) fun z => nm (.inr z)⟩
          refine ⟨S1.len, fun j d' z => ?_, fun j en d' z o' g' => ?_, S1.inj, fun b z => ?_⟩
          · obtain ⟨v, e1, r⟩ := S1.val j d' z
            exact ⟨v, e1, Rp.mono st _ _ r⟩
          · obtain ⟨b, e1, nb, q⟩ := S1.own j en d' z o' g'
            obtain ⟨u, hu⟩ := q.there
            exact ⟨b, e1, fun w => w.elim nb fun w => (by subst w; rw [na] at hu; cases hu), q.mono st (by rw [hu]; exact sm b u hu)⟩
          · rcases z with z | z
            · obtain ⟨u, hu⟩ := S1.bnd b z
              exact ⟨u, sm b u hu⟩
            · subst z; exact ⟨oo, hoo⟩
        refine h1.2 a H' S3 (.same sm) na (oa.stays fun b z => ?_)
        rcases z with (z | z) | z
        · exact .inl (mm_vals.mpr (.inl z))
        · exact .inr z
        · exact .inl (mm_vals.mpr (.inr z))
      · exact h1.elim
    | _ => exact h1.elim
  | ex x o =>
    refine ⟨by rw [r1.length]; exact hn2 ds x o e, MM B ρ1 σ, ds.map .val, SA, ?_⟩
    rw [e]
    rw [e] at h1
    intro c d H' k _ q
    have sm := kp_vals k
    exact h1 c d H' (S1.same sm) (.same sm) (hX _ _ _ _ _ _ (fun a => mm_vals.mpr) q)
theorem s_callo {np f : Nat} {es : Es} {fx : Str} {p : Pos} {fa : Addr} {fd : FuncData} {ps : List Str} {ae : Expr} {as : List Expr} (c : Cok X Ek n sc) (hX : XMono XR) (F : FnG X.prog X.w X.K X.mg X.base (L2.CX X.prog X.w) n fa fd ps (spF X.K XR cl np f)) (hg : Gl X fx) (hm : X.mg fx = some (.ref fa)) (hk : PySem.W.keepIn X.K (.ref fa) = true)
    (hb : Binds X.K fd ps []) (hn : ∀ args : List Ent, ∀ e o, cl f args = .ok e o → args.length = np) (hn2 : ∀ args : List Ent, ∀ e o, cl f args = .ex e o → args.length = np)
    (ha : SA XR X Ek cl es (ae :: as)) (hpl : (ae :: as).all plainX = true) (hd : (fx == ("__debug__" : Str)) = false) : SF XR X Ek cl (.callo f es) (.Call (.Name fx p) (ae :: as) [] pos) := by
  simp only [List.all_cons, Bool.and_eq_true] at hpl
  exact (pe_callG F c.room c.gd hg hm hk hb c.pass ha hd (star_plain hpl.1 _ _) (star_all hpl.2)).weak fun _ _ _ h => callo_ok hX (fun ds e o z => by have := hn _ e o z; rwa [List.length_map] at this) (fun ds e o z => by have := hn2 _ e o z; rwa [List.length_map] at this) h
end
end Ev

set_option Elab.async false
set_option linter.all false
set_option maxRecDepth 100000
set_option autoImplicit false
/-! Ev6c: two places of a list exchanged, repr, small dicts. -/
namespace Ev
open PySem L2
section
variable {XR : Hp → (Addr → Prop) → Exn → Value → Option Addr → Prop} {X : Cx} {Ek : WX} {n : Nat} {sc : Scope} {cl : Nat → List Ent → CRes} {pos pos' : Pos} {i : Nat} {x : Str} {e : Ev.E} {a : Expr}
theorem cr_repr (hg : X.A.guards = some []) (hu : X.A.units + 64 < cLine) : CallR X (.builtin "repr") (c1R X.K (p1F .repr)) := by
  intro pins s σ H xs us Q I r h
  obtain ⟨x, rfl, M, d1, d, hb, q, e, g⟩ := h
  obtain ⟨u, rfl, ru⟩ := r.one
  have go : ∀ dd : D, shownD dd = some d → d1 = dd → (∃ a, x = .ref a) → wpAny (model X.prog X.w) X.A (call (.builtin "repr") [u]) (EP X pins σ Q) X.xe s := fun dd e1 e2 ⟨a, ea⟩ => by
    subst ea
    subst e2
    cases ru
    unfold shownD at e1
    split at e1
    · rename_i hc
      cases e1
      simp only [Bool.and_eq_true, Bool.not_eq_true', decide_eq_true_eq] at hc
      obtain ⟨⟨⟨⟨h1, h2⟩, h3⟩, h4⟩, h5⟩ := hc
      obtain ⟨as, rd⟩ := Dp.reads I _ _ _ (Rq.dp h1 q) (show RelV (V.ref a) (Value.ref a) from rfl)
      refine PySem.repr_of_reads' rd h2 (PyData.noDict_hsm h3) hg (by omega) (fun _ _ z => z) (fun h' t tk hk => ?_) h5
      exact ⟨.str _, H, I.kept (t' := tk) hk, ⟨t, rfl⟩, g.refl rp_str⟩
    · cases e1
  cases d1 with
  | tuple ds =>
    obtain ⟨b, ys, rfl, _, _⟩ := q.tup
    exact go _ e rfl ⟨b, rfl⟩
  | list ds =>
    obtain ⟨b, ys, rfl, _, _⟩ := q.list
    exact go _ e rfl ⟨b, rfl⟩
  | _ => simp [p1F] at e
theorem s_dct0 : SE XR X Ek cl (.dct []) (.Dict [] [] pos) := pe_dnewK.weak fun σ H Q ⟨B, ρ, S, h⟩ p hp => by
  refine Gives.of_ok S h _ _ (Ev.same_new hp) ?_
  simp only [Rp]
  exact ⟨p, [], rfl, upd_same, S.notM hp, by simp [Rpk]⟩
theorem s_dct1 {k : Str} {v : Int} {j1 j2 : Nat} {p1 p2 : Pos} : SE XR X Ek cl (.dct [(.str k, .int v)]) (.Dict [some (.Constant (.str k) j1 p1)] [.Constant (.int v) j2 p2] pos) :=
  (pe_disp (pps_cons pe_str pe_int pps_nil) rfl rfl (by simp) (by simp)).weak fun σ H Q ⟨B, ρ, S, h⟩ p hp => by
    refine ⟨upd_same, [(.inr k, .int v)], rfl, by simp, ?_⟩
    have z : upd (upd H p (.dK [])) p (.dK (mergeK [] [((.inr k : Key), V.int v)])) = upd H p (.dK [((.inr k : Key), V.int v)]) := by
      funext b
      by_cases hb : b = p
      · subst hb; rw [upd_same, upd_same]; rfl
      · rw [upd_ne hb, upd_ne hb, upd_ne hb]
    rw [z]
    refine Gives.of_ok S h _ _ (Ev.same_new hp) ?_
    simp only [Rp]
    exact ⟨p, _, rfl, upd_same, S.notM hp, by simp only [Rpk, Rp]; exact ⟨.inr k, .int v, [], rfl, rfl, rfl, rfl⟩⟩
/-- x[a], x[b] = c, d -/
theorem p_swap {ia ib : Ev.E} {es : Es} {oe oe2 ka kb c d : Expr} {t1 t2 t3 t4 : Pos} {k1 k2 : Nat} (hc : X.calm = true) (ho : PE X oe (tVar i)) (ho2 : PE X oe2 (tVar i)) (hka : SE XR X Ek cl ia ka) (hkb : SE XR X Ek cl ib kb) (he : SA XR X Ek cl es [c, d])
    (hs : swapsWithSole [.Tuple [.Subscript oe ka t1, .Subscript oe2 kb t2] k1 t3] (.Tuple [c, d] k2 t4) pos.line X.env = pure false) (hw : swappedStores [.Tuple [.Subscript oe ka t1, .Subscript oe2 kb t2] k1 t3] (.Tuple [c, d] k2 t4) X.env = pure none)
    (ha : ∀ v, assign (.Subscript oe ka t1) X.env v = (do
      let ov ← holding [v] (eval oe X.env)
      let iv ← holding [v, ov] (eval ka X.env)
      standAt t1
      holding [v, ov, iv] (setItem ov iv v)
      release [v, ov, iv] []))
    (ha2 : ∀ v, assign (.Subscript oe2 kb t2) X.env v = (do
      let ov ← holding [v] (eval oe2 X.env)
      let iv ← holding [v, ov] (eval kb X.env)
      standAt t2
      holding [v, ov, iv] (setItem ov iv v)
      release [v, ov, iv] [])) : SS XR X Ek cl (.swap i ia ib es) (.Assign [.Tuple [.Subscript oe ka t1, .Subscript oe2 kb t2] k1 t3] (.Tuple [c, d] k2 t4) pos) :=
  (ps_asg (s_tup he) (pg_tup (n := 2) hc (pgs_cons (pg_sub ho hka set_list ha) (pgs_cons (pg_sub ho2 hkb set_list ha2) pgs_nil rfl) rfl) rfl rfl) hs hw rfl).weak fun Z σ H ⟨B, ρ, S, h⟩ => by
    have h : PstS X.K XR Ek B ρ σ H (match ρ.mine i with
      | none => .no
      | some _ => (ev cl (.tup es) ρ).sb fun d ρ => match d with
        | .tuple [x, y] => (ev cl ia ρ).sb fun n ρ => (storeAt i n x ρ).nb fun ρ => match ρ.mine i with
          | none => .no
          | some _ => (ev cl ib ρ).sb fun m ρ => storeAt i m y ρ
        | _ => .no) Z := h
    cases e1 : ρ.mine i with
    | none => rw [e1] at h; exact h.elim
    | some ds =>
      rw [e1] at h
      obtain ⟨p, xs, hp, _, _⟩ := mine_at S e1
      refine seqS S h fun d ρ1 dv H1 _ S1 k1 r1 h1 => ?_
      split at h1
      · rename_i x y
        obtain ⟨b, vs, rfl, l, rr⟩ := Rp.tup r1
        obtain ⟨xv, t, rfl, q1, q2⟩ := rr.uncons
        obtain ⟨yv, t2, rfl, q3, q4⟩ := q2.uncons
        simp only [Rps] at q4
        subst q4
        refine ⟨b, [xv, yv], rfl, l.sq, rfl, xv, [yv], rfl, _, hp, ?_⟩
        refine seqS S1 h1 fun kd ρ2 kv H2 _ S2 k2 r2 h2 => ?_
        refine storeAt_nb S2 hp r2 (Rp.kp k2 q1) h2 fun ρ3 H3 S3 k3 h3 => ?_
        refine ⟨yv, [], rfl, ?_⟩
        cases e2 : ρ3.mine i with
        | none => rw [e2] at h3; exact h3.elim
        | some es3 =>
          rw [e2] at h3
          obtain ⟨p', xs', hp', _, _⟩ := mine_at S3 e2
          refine ⟨_, hp, ?_⟩
          refine seqS S3 h3 fun kd ρ4 kv H4 _ S4 k4 r4 h4 => ?_
          obtain ⟨pp, xs4, kk, jj, z1, z2, z3, z4, z5⟩ := storeAt_ok S4 hp r4 (Rp.kp k4 (Rp.kp k3 (Rp.kp k2 q3))) h4
          exact ⟨pp, xs4, kk, jj, z1, z2, z3, z4, rfl, z5⟩
      · exact h1.elim
end
end Ev

set_option Elab.async false
set_option linter.all false
set_option maxRecDepth 100000
set_option autoImplicit false
/-! Ev7: a def keeps the promise that the evaluator gives. -/
namespace Ev
open PySem L2 PySem.Spec
section
variable {K : PySem.W.Frag} {H H' : Hp} {B : Addr → Prop} {args ρ' : Rho} {σa σ' : St} {m : Nat}
theorem get_un {i : Nat} {e : Ent} (h : (args ++ List.replicate m Ent.un)[i]? = some e) : args[i]? = some e ∨ e = .un := by
  by_cases hi : i < args.length
  · rw [List.getElem?_append_left hi] at h; exact .inl h
  · rw [List.getElem?_append_right (by omega)] at h
    rw [List.getElem?_replicate] at h
    split at h <;> cases h
    exact .inr rfl
theorem owner_un (hl : args.length = σa.length) {i : Nat} {a : Addr} : Owner (args ++ List.replicate m Ent.un) (σa ++ List.replicate m none) i a ↔ Owner args σa i a := by
  constructor
  · rintro ⟨⟨e, h1, h2⟩, h3⟩
    rcases get_un h1 with h1 | rfl
    · have hi := lt_of_get h1
      rw [List.getElem?_append_left (by rw [← hl]; exact hi)] at h3
      exact ⟨⟨e, h1, h2⟩, h3⟩
    · cases h2
  · rintro ⟨⟨e, h1, h2⟩, h3⟩
    exact ⟨⟨e, by rw [List.getElem?_append_left (lt_of_get h1)]; exact h1, h2⟩, by rw [List.getElem?_append_left (lt_of_get h3)]; exact h3⟩
theorem SR.entry (S : SR K H B args σa) : SR K H B (args ++ List.replicate m Ent.un) (σa ++ List.replicate m none) := by
  have mm : ∀ a, MM B (args ++ List.replicate m Ent.un) (σa ++ List.replicate m none) a → MM B args σa a := fun a z => z.imp id fun ⟨i, z⟩ => ⟨i, (owner_un S.len).mp z⟩
  refine ⟨by simp [S.len], fun i d h => ?_, fun i e d h o g => ?_, fun i j a x y => S.inj i j a ((owner_un S.len).mp x) ((owner_un S.len).mp y), S.bnd⟩
  · rcases get_un h with h | h
    · obtain ⟨v, e1, r⟩ := S.val i d h
      exact ⟨v, by rw [List.getElem?_append_left (lt_of_get e1)]; exact e1, Rp.mono (stays_iff mm) _ _ r⟩
    · cases h
  · rcases get_un h with h | rfl
    · obtain ⟨a, e1, n, q⟩ := S.own i e d h o g
      exact ⟨a, by rw [List.getElem?_append_left (lt_of_get e1)]; exact e1, n, q.mono (stays_iff mm) rfl⟩
    · cases o
/-- what the callee has done, as its caller sees it -/
theorem kp_exit (hl : args.length = σa.length) (k : Kp (args ++ List.replicate m Ent.un) (σa ++ List.replicate m none) H ρ' σ' H') : Kp args σa H args σa H' :=
  ⟨fun a o e n => k.keep a o e fun i z => n i ((owner_un hl).mp z), fun i a h => .inl ⟨i, h⟩, k.there, fun i d h => ⟨rfl, d, h⟩⟩
theorem argsOk_io {io : Bool} {args : List Ent} (h : argsOk io args = true) {i : Nat} {e : Ent} (hi : args[i]? = some e) (ho : e.isOwn = true) : i = 0 ∧ io = true ∧ ∃ d, e = .io d := by
  have all : ∀ (r : List Ent), (r.all fun e => match e with | .val _ => true | _ => false) = true → ∀ (j : Nat) (u : Ent), r[j]? = some u → u.isOwn = true → False := fun r hr j u hu ho => by
    have := List.all_eq_true.mp hr u (List.mem_of_getElem? hu)
    cases u <;> first | (cases ho; done) | (exact absurd this (by simp))
  unfold argsOk at h
  split at h
  · cases i with
    | zero => simp at hi; subst hi; exact ⟨rfl, rfl, _, rfl⟩
    | succ j => exact (all _ h j e (by simpa using hi) ho).elim
  · exact (all _ h i e hi ho).elim
  · cases h
theorem mm_exit {io : Bool} (S : SR K H B args σa) (S' : SR K H' B ρ' σ') (hio : argsOk io args = true) (k : Kp (args ++ List.replicate m Ent.un) (σa ++ List.replicate m none) H ρ' σ' H') : ∀ a, MM B args σa a → MM B ρ' σ' a := fun a z => z.imp id fun ⟨i, ⟨e, h1, h2⟩, h3⟩ => by
  obtain ⟨rfl, _, d, rfl⟩ := argsOk_io hio h1 h2
  obtain ⟨e1, d', e2⟩ := k.io 0 d (by rw [List.getElem?_append_left (lt_of_get h1)]; exact h1)
  exact ⟨0, ⟨_, e2, rfl⟩, by rw [e1, List.getElem?_append_left (lt_of_get h3)]; exact h3⟩
theorem out_exit {io : Bool} {vs : List V} (S : SR K H B args (vs.map some)) (S' : SR K H' B ρ' σ') (hio : argsOk io args = true) (k : Kp (args ++ List.replicate m Ent.un) (vs.map some ++ List.replicate m none) H ρ' σ' H') :
    OutOk K H' (MM B args (vs.map some)) args vs (ioOf ρ' io) := fun d h0 => by
  obtain ⟨_, hi, _⟩ := argsOk_io hio h0 rfl
  subst hi
  obtain ⟨e1, d', e2⟩ := k.io 0 d (by rw [List.getElem?_append_left (lt_of_get h0)]; exact h0)
  obtain ⟨a, e3, _, q⟩ := S'.own 0 (.io d') d' e2 rfl rfl
  rw [e1] at e3
  have h1 : 0 < vs.length := by have := lt_of_get h0; rw [S.len, List.length_map] at this; exact this
  rw [List.getElem?_append_left (by rw [List.length_map]; exact h1), List.getElem?_map] at e3
  cases e4 : vs[0]? with
  | none => rw [e4] at e3; cases e3
  | some v =>
    rw [e4] at e3
    cases e3
    refine ⟨d', a, ?_, rfl, q.mono (stays_iff (mm_exit S S' hio k)) rfl⟩
    cases ρ' with
    | nil => cases e2
    | cons x r => cases e2; rfl
theorem RetOk.sub {M M' : Addr → Prop} (h : ∀ a, M' a → M a) {e : Ent} {v : V} (q : RetOk K H H' M e v) : RetOk K H H' M' e v := by
  cases e with
  | val d => exact Rp.mono (stays_iff h) _ _ q
  | own d => obtain ⟨a, e, n, o⟩ := q; exact ⟨a, e, n, o.mono (stays_iff fun b z => z.imp (h b) id) rfl⟩
  | un => exact q
  | io d => exact q
end
section
variable {P : Program} {w : World} {K : PySem.W.Frag} {mg : Str → Option Value} {base : Heap} {tb : Nat → Option Fn} {n f : Nat} {fa : Addr} {fn : Fn}
variable {XR : Hp → (Addr → Prop) → Exn → Value → Option Addr → Prop}
theorem callF_len {args : List Ent} (htb : tb f = some fn) : ∀ n : Nat, (∀ e o, callF tb n f args = .ok e o → args.length = fn.params) ∧ (∀ e o, callF tb n f args = .ex e o → args.length = fn.params)
  | 0 => ⟨fun e o h => (by cases h), fun e o h => (by cases h)⟩
  | n + 1 => by
    constructor <;>
    · intro e o h
      unfold callF at h
      rw [htb] at h
      dsimp only at h
      split at h
      · rename_i hc; exact hc.1
      · cases h
/-- by its body -/
theorem fn_ev {name qual : Str} {params : Arguments} {body : List Stmt} {scope : Scope} {dV kV doc pm cdv ct oc : Value} {an od : Option Addr} {osl : Array (Option Value)} {N ps : List Str}
    (lk : K.lookup fa = some ⟨oc, od, .func (PySem.W.fnOf name qual params body scope dV kV doc pm an cdv ct), osl⟩) (hcd : PySem.W.codeIn K cdv qual = true) (S : FnScope N ps scope) (hN : fn.names = N) (hp : fn.params = ps.length) (htb : tb f = some fn) (hX : XMono XR)
    (hbody : ∀ (X : Cx) (Ek : WX), Cok X Ek n scope → X.N = N → X.prog = P → X.w = w → X.K = K → X.mg = mg → X.base = base → (∀ x, X.fn x = true) → PassesOwn (model X.prog X.w) X.A X.env X.xe → Takes X Ek → X.stack = X.env :: X.outer → X.env.frame = some X.env.locals → SSs XR X Ek (callF tb n) fn.body body) :
    FnG P w K mg base (L2.CX P w) (n + 1) fa (PySem.W.fnOf name qual params body scope dV kV doc pm an cdv ct) ps (spF K XR (callF tb (n + 1)) fn.params f) := by
  refine fnG_of lk hcd S (spF_len hp.symm) fun A outer s H vs Q E hr gd h => ?_
  obtain ⟨hl, B, args, SA, h⟩ := h
  have ck : Cok (cxOf (L2.CX P w) P w K mg base N qual scope fa cdv A outer s H E) (fun c d _ H => E c d H) n scope :=
    ⟨rfl, S.nd, hr, gd, rfl, fun σ => passAt (W := fun c d _ H => E c d H) (takes_of rfl rfl rfl rfl) σ⟩
  refine ⟨_, hbody _ (fun c d _ H => E c d H) ck rfl rfl rfl rfl rfl rfl (fun _ => rfl) (passes_of rfl) (takes_of rfl rfl rfl rfl) rfl rfl, ?_⟩
  have hst : start N vs = vs.map some ++ List.replicate (fn.names.length - fn.params) none := by rw [hN, ← hl]; rfl
  have hla : args.length = (vs.map some).length := SA.len
  unfold callF at h
  rw [htb] at h
  dsimp only at h
  split at h
  · rename_i e o hc
    split at hc
    · rename_i hargs
      have S0 := SA.entry (m := fn.names.length - fn.params)
      refine ⟨B, _, by rw [hst]; exact S0, ?_⟩
      show PstS K XR (fun c d _ H => E c d H) B _ (start N vs) H (evSs (callF tb n) fn.body (args ++ List.replicate (fn.names.length - fn.params) .un)) _
      rw [hst]
      cases e1 : evSs (callF tb n) fn.body (args ++ List.replicate (fn.names.length - fn.params) .un) with
      | nx ρ' =>
        rw [e1] at hc
        cases hc
        exact fun σ' H' S' k => h .non H' (kp_exit hla k) (out_exit SA S' hargs.2 k) (rp_none (K := K) (H := H') (M := MM B args (vs.map some)))
      | rt en ρ' =>
        rw [e1] at hc
        cases hc
        exact fun v σ' H' S' k q => h v H' (kp_exit hla k) (out_exit SA S' hargs.2 k) (q.sub (mm_exit SA S' hargs.2 k))
      | ex x ρ' => rw [e1] at hc; cases hc
      | bk ρ' => rw [e1] at hc; cases hc
      | ct ρ' => rw [e1] at hc; cases hc
      | no => rw [e1] at hc; cases hc
    · cases hc
  · rename_i x o hc
    split at hc
    · rename_i hargs
      have S0 := SA.entry (m := fn.names.length - fn.params)
      refine ⟨B, _, by rw [hst]; exact S0, ?_⟩
      show PstS K XR (fun c d _ H => E c d H) B _ (start N vs) H (evSs (callF tb n) fn.body (args ++ List.replicate (fn.names.length - fn.params) .un)) _
      rw [hst]
      cases e1 : evSs (callF tb n) fn.body (args ++ List.replicate (fn.names.length - fn.params) .un) with
      | ex x ρ' =>
        rw [e1] at hc
        cases hc
        exact fun c d σ' H' S' k q => h c d H' (kp_exit hla k) (out_exit SA S' hargs.2 k) (hX _ _ _ _ _ _ (mm_exit SA S' hargs.2 k) q)
      | nx ρ' => rw [e1] at hc; cases hc
      | rt en ρ' => rw [e1] at hc; cases hc
      | bk ρ' => rw [e1] at hc; cases hc
      | ct ρ' => rw [e1] at hc; cases hc
      | no => rw [e1] at hc; cases hc
    · cases hc
  · exact h.elim
end
end Ev

set_option Elab.async false
set_option linter.all false
set_option maxRecDepth 100000
/-! Ev3e: o[::-1] of lists and tuples; count; tuple(reversed(list)). -/
namespace Ev
open PySem PySem.Spec PyProof.Rows HT L2
section
variable {prog : Program} {w : World} {A : Around} {E : Value → Shared → Prop} {s : Shared}
theorem back_bounds (n : Nat) : Builtin.Slice.sliceAdjust none none (-1) (n : Int) = ((n : Int) - 1, -1) := by
  unfold Builtin.Slice.sliceAdjust
  simp
theorem back_places (n : Nat) : Builtin.Slice.slicePlaces ((n : Int) - 1) (-1) (-1) = n := by
  unfold Builtin.Slice.slicePlaces
  have h1 : ¬ ((-1 : Int) > 0) := by omega
  simp only [h1, if_false]
  rw [show (-(-1 : Int)) = 1 from rfl, Int.ediv_one]
  split <;> omega
theorem back_pick (xs : Array Value) : ((List.range xs.size).filterMap fun (m : Nat) => xs[(((xs.size : Int) - 1) + (m : Int) * (-1)).toNat]?).toArray = xs.toList.reverse.toArray := by
  have e : (fun (m : Nat) => xs[(((xs.size : Int) - 1) + (m : Int) * (-1)).toNat]?) = (fun k => xs[k]?) ∘ fun m => xs.size - 1 - m := by
    funext m
    show xs[(((xs.size : Int) - 1) + (m : Int) * (-1)).toNat]? = xs[xs.size - 1 - m]?
    congr 1
    omega
  rw [e, ← List.filterMap_map, PySem.W.krv_range, List.filterMap_reverse, PySem.W.krv_all]
theorem getItem_tuple_back {t sl : Addr} {items : Array Value} {vl vu vk : Value} {Q : Value → Shared → Prop} (ht : IsTup s.heap t items) (hs : s.heap.IsSliceOf sl vl vu vk) (pl : IsPart vl none) (pu : IsPart vu none) (pk : IsPart vk (some (-1)))
    (h : Q (.ref s.heap.objs.size) { s with heap := s.heap.push { cls := .type "tuple", data := .seq items.toList.reverse.toArray } })
    (hsz : items.size ≤ sizeLine) : wpAny (model prog w) A (getItem (.ref t) (.ref sl)) Q E s := by
  have hfit : sizeOk (.seq items.toList.reverse.toArray) := by
    show items.toList.reverse.toArray.size ≤ sizeLine
    rw [List.size_toArray, List.length_reverse, Array.length_toList]
    exact hsz
  obtain ⟨os, hos, hcs, hds⟩ := id hs
  have hTs : s.TypeIs (.ref sl) "slice" := ⟨os, hos, hcs⟩
  have applied : ∀ {A' : Around} {Q' : Int × Int × Nat → Shared → Prop}, Q' ((items.size : Int) - 1, -1, items.size) s → wpAny (model prog w) A' (Builtin.Slice.sliceApplied (.ref sl) (pure (items.size : Int))) Q' E s := by
    intro A' Q' hq
    unfold Builtin.Slice.sliceApplied Builtin.Slice.sliceFields
    refine wpAny_bind (wpAny_bind (wpAny_field hos hds (x := vl) rfl (wpAny_bind (wpAny_field hos hds (x := vu) rfl (wpAny_bind (wpAny_field hos hds (x := vk) rfl (wpAny_pure ?_)))))))
    refine wpAny_bind (slicePart_ pk ?_)
    show wpAny _ _ (if ((-1 : Int) == 0) = true then _ else _) _ _ s
    rw [if_neg (by decide)]
    refine wpAny_bind (slicePart_ pl (wpAny_bind (slicePart_ pu (wpAny_bind (wpAny_pure ?_)))))
    show wpAny _ _ (match Builtin.Slice.sliceAdjust none none (-1) (items.size : Int) with | (lo, hi) => pure (lo, (-1 : Int), Builtin.Slice.slicePlaces lo hi (-1))) _ _ s
    rw [back_bounds]
    show wpAny _ _ (pure ((items.size : Int) - 1, (-1 : Int), Builtin.Slice.slicePlaces ((items.size : Int) - 1) (-1) (-1))) _ _ s
    rw [back_places]
    exact wpAny_pure hq
  unfold getItem
  try with_reducible refine wpAny_holding ?_
  first | refine wpAny_bind (wpAny_pure ?_) | skip
  refine wpAny_bind (wpAny_sequenceKey ht.typeIs (by decide) ?_)
  refine wpAny_bind (wpAny_callSpecial?_slot (name := Str.ofString "__getitem__") ht.typeIs PyProof.Rows.slot_tuple_getitem
    (wpAny_call_entry PyProof.Rows.slot_tuple_getitem ht.typeIs entry_tuple_getitem ?_ (args_tuple_getitem _ _)))
  show wpAny _ _ (Builtin.Tuple.tupleItemsOf (.ref t) >>= _) _ _ s
  refine wpAny_bind (tupleItemsOf_ ht ?_)
  refine wpAny_bind (wpAny_typeOf hTs ?_)
  rw [if_pos (by decide)]
  refine wpAny_bind (applied ?_)
  have hno : ¬ ((((items.size : Int) - 1) == 0 && (-1 : Int) == 1 && items.size == items.size) = true) := by
    intro q
    rw [Bool.and_eq_true, Bool.and_eq_true] at q
    exact absurd q.1.2 (by decide)
  show wpAny _ _ (if (((items.size : Int) - 1) == 0 && (-1 : Int) == 1 && items.size == items.size) = true then _ else _) _ _ s
  rw [if_neg hno, back_pick]
  first
    | exact wpAny_bind (m := Builtin.Tuple.tupleExact _) (wpAny_newObj_type (wpAny_pure ⟨_, rfl, wpAny_pure h⟩) hfit)
    | exact wpAny_bind (m := Builtin.Tuple.tupleExact _) (wpAny_newObj_type (wpAny_bind (wpAny_pure (wpAny_pure ⟨_, rfl, wpAny_pure h⟩))) hfit)
    | exact wpAny_bind (wpAny_bind (m := Builtin.Tuple.tupleExact _) (wpAny_newObj_type (wpAny_pure (wpAny_pure ⟨_, rfl, wpAny_pure h⟩)) hfit))
    | exact wpAny_bind (wpAny_bind (m := Builtin.Tuple.tupleExact _) (wpAny_newObj_type (wpAny_pure ⟨_, rfl, wpAny_pure h⟩) hfit))
end
section
variable {X : Cx} {pos : Pos}
def tRevA (K : PySem.W.Frag) (te : TE) : TE := fun σ H Q => te σ H fun x H1 => (∃ a xs, x = .ref a ∧ SqL K H1 a xs ∧ ∀ p, H1 p = none → Q (.ref p) (upd H1 p (.lst xs.reverse))) ∨ ∃ a xs, x = .ref a ∧ SqT K H1 a xs ∧ NewT H1 xs.reverse Q
/-- o[::-1], o a list or a tuple -/
theorem pe_back {e : Expr} {te : TE} {k : Nat} {p1 p2 p3 : Pos} (he : PE X e te) : PE X (.Subscript e (.Slice none none (some (.UnaryOp .USub (.Constant (.int 1) k p1) p2)) p3) pos) (tRevA X.K te) := by
  refine ⟨fun pins s σ H Q I h => ?_⟩
  refine Subscript_ (thn (he.run pins s σ H _ I h) fun v s1 ⟨x, H1, I1, r1, q1⟩ => ?_)
  have hst : PO X (some (.UnaryOp .USub (.Constant (.int 1) k p1) p2)) (tPart (tUn (rU fun i => .int (-i)) (tC (.int 1)))) := po_some (pe_un un_neg pe_int)
  refine wpAny_Slice (thn (po_none.run pins s1 σ H1 (fun o H2 => o = none ∧ H2 = H1) I1 ⟨rfl, rfl⟩) fun vl s2 ⟨l, H2, I2, pl, el, e2⟩ => ?_)
  subst el e2
  refine thn (po_none.run pins s2 σ H2 (fun o H3 => o = none ∧ H3 = H2) I2 ⟨rfl, rfl⟩) fun vu s3 ⟨u, H3, I3, pu, eu, e3⟩ => ?_
  subst eu e3
  refine thn (hst.run pins s3 σ H3 (fun o H4 => o = some (-1) ∧ H4 = H3) I3 ⟨1, rfl, -1, rfl, rfl, rfl⟩) fun vs s4 ⟨o, H4, I4, ps, eo, e4⟩ => ?_
  subst eo e4
  have I5 : Inv X pins σ H4 { s4 with heap := s4.heap.push { cls := .type "slice", data := .fields #[vl, vu, vs] } } := I4.kept (t' := s4.toks) fun b ob q => Heap.get?_push_of_some _ q
  rcases q1 with ⟨a, xs, ex, hx, q⟩ | ⟨a, xs, ex, hx, q⟩
  · subst ex
    cases r1
    obtain ⟨its, r, ht, hz⟩ := I5.list hx
    have hlen := r.length
    show wpAny (model X.prog X.w) X.A (subscriptTail e (.Slice none none (some (.UnaryOp .USub (.Constant (.int 1) k p1) p2)) p3) (.ref a) (.ref s4.heap.objs.size)) (EP X pins σ Q) X.xe { s4 with heap := s4.heap.push { cls := .type "slice", data := .fields #[vl, vu, vs] } }
    refine tail_any (ops := [.ref a, .ref s4.heap.objs.size]) ht.isList.typeIs (PySem.slot_list_getitem.lookup) ?_ (by with_unfolding_all rfl)
    refine wpAny_getItem_list_slice ht.isList (Heap.IsSliceOf.new _ vl vu vs) pl pu ps (by decide) ?_ (by rw [List.size_toArray]; omega)
    rw [PySem.W.krv_pick]
    refine ⟨.ref _, _, I5.laid (t' := s4.toks) (o := .lst xs.reverse) (fun b ob q => Heap.get?_push_of_some _ q) (Nat.le_refl _) ?_, rfl, q _ (I5.hok.fresh (Nat.le_refl _))⟩
    exact ⟨by rw [List.length_reverse]; exact hz, _, 0, r.reverse, Heap.get?_push_size _ rfl⟩
  · subst ex
    cases r1
    obtain ⟨its, r, ht, hz⟩ := I5.tuple hx
    have hlen := r.length
    show wpAny (model X.prog X.w) X.A (subscriptTail e (.Slice none none (some (.UnaryOp .USub (.Constant (.int 1) k p1) p2)) p3) (.ref a) (.ref s4.heap.objs.size)) (EP X pins σ Q) X.xe { s4 with heap := s4.heap.push { cls := .type "slice", data := .fields #[vl, vu, vs] } }
    refine tail_any (ops := [.ref a, .ref s4.heap.objs.size]) ht.typeIs (PyProof.Rows.slot_tuple_getitem.lookup) ?_ (by with_unfolding_all rfl)
    refine getItem_tuple_back ht (Heap.IsSliceOf.new _ vl vu vs) pl pu ps ?_ (by rw [List.size_toArray]; omega)
    exact q.end_ I5 r.reverse (by rw [List.length_reverse]; exact hz) s4.toks
variable {XR : Hp → (Addr → Prop) → Exn → Value → Option Addr → Prop} {Ek : WX} {cl : Nat → List Ent → CRes} {x y : Expr} {ea eb : Ev.E}
theorem s_rev {k : Nat} {p1 p2 p3 : Pos} (ha : SO XR X Ek cl ea x) : SE XR X Ek cl (.rev ea) (.Subscript x (.Slice none none (some (.UnaryOp .USub (.Constant (.int 1) k p1) p2)) p3) pos) :=
  (pe_back ha).weak fun σ H Q ⟨B, ρ, S, h⟩ => by
    refine seq S h fun p ρ1 v H1 _ S1 k1 r1 h1 => ?_
    obtain ⟨d1, d, e1, e2, h2⟩ := h1.of_one
    have q1 := RelP.get S1 r1 e1
    have g := Gives.of_ok S1 h2
    have hb := S1.mb
    cases d1 <;> simp only [revF] at e2 <;> try (cases e2; done)
    · cases e2
      obtain ⟨a, xs, rfl, l, rr⟩ := q1.list
      exact .inl ⟨a, xs, rfl, l, fun p hp => g _ _ (Ev.same_new hp) (rp_newL hb hp rr.reverse)⟩
    · cases e2
      obtain ⟨a, xs, rfl, l, rr⟩ := q1.tup
      exact .inr ⟨a, xs, rfl, l.sq, fun p us hp => g _ _ (Ev.same_new hp) (rp_newT hb hp rr.reverse)⟩
theorem s_tupRev {p p2 pos2 : Pos} (hc : X.calm = true) (hg : Gl X "tuple") (hm : X.mg "tuple" = none) (hg2 : Gl X "reversed") (hm2 : X.mg "reversed" = none) (ha : SO XR X Ek cl ea x) (hp : plainX x = true) :
    SE XR X Ek cl (.p1 .tupRev ea) (.Call (.Name "tuple" p) [.Call (.Name "reversed" p2) [x] [] pos2] [] pos) :=
  (pe_tupRevF hc hg hm hg2 hm2 ha (star_plain hp _ _) (star_plain rfl _ _)).weak fun σ H Q ⟨B, ρ, S, h⟩ => by
    refine seq S h fun p ρ1 v H1 _ S1 k1 r1 h1 => ?_
    obtain ⟨d1, d, e1, e2, h2⟩ := h1.of_one
    have q1 := RelP.get S1 r1 e1
    have g := Gives.of_ok S1 h2
    have hb := S1.mb
    cases d1 <;> simp only [p1F] at e2 <;> try (cases e2; done)
    cases e2
    obtain ⟨a, xs, rfl, l, rr⟩ := q1.list
    exact ⟨a, xs, rfl, l, fun p us hp => g _ _ (Ev.same_new hp) (rp_newT hb hp rr.reverse)⟩
theorem s_count {apos cpos : Pos} (ha : SE XR X Ek cl ea x) (hb : SE XR X Ek cl eb y) (hpl : plainX y = true) (hbase : attributeBase x "count" X.env (eval x X.env) = eval x X.env) (hline : (apos.endLine == cpos.line) = true)
    (hfew : ((backTo cpos (starEach [y] X.env)).all (fun x => !x.1) && (backToKw cpos (keywordEach [] X.env)).all (fun x => x.1.isSome)
      && decide (([y] : List Expr).length + ([] : List Keyword).length + (if ([] : List Keyword).isEmpty then 0 else 1) < 30)) = true) : SE XR X Ek cl (.m1 .count ea eb) (.Call (.Attribute x "count" apos) [y] [] cpos) :=
  (pe_bm PySem.F.plainAttrs_list PySem.F.slot_list_count PySem.F.type_list_count mt_lcount ha (pa_cons hb pa_nil (star_plain hpl _ _)) hbase hfew hline (star_plain hpl _ _) rfl).weak fun σ H Q ⟨B, ρ, S, h⟩ => by
    refine seq S h fun d1 ρ1 v H1 e0 S1 k1 r1 h1 => ?_
    cases d1 <;> first | exact h1.elim | skip
    rename_i ds
    have q1 : Rp X.K H1 (MM B ρ1 σ) (.list ds) v := r1
    obtain ⟨a, xs, rfl, l, rr⟩ := q1.lst
    refine ⟨.inl ⟨rfl, xs, l.sq⟩, ?_⟩
    refine seq S1 h1 fun d2 ρ2 v2 H2 e9 S2 k2 r2 h2 => ?_
    obtain ⟨z, e2, h3⟩ := Pst.of_lift h2
    have q1 := Rp.kp k2 q1
    have q2 : Rp X.K H2 (MM B ρ2 σ) d2 v2 := r2
    cases d2 <;> simp only [m1F] at e2 <;> try (cases e2; done)
    rename_i k
    simp only [Rp] at q2
    subst q2
    cases e3 : toInts ds with
    | none => rw [e3] at e2; cases e2
    | some ns =>
      rw [e3] at e2
      cases e2
      obtain ⟨a2, xs2, ea, l2, rr2⟩ := q1.lst
      cases ea
      have ex := toInts_rps e3 rr2
      subst ex
      exact ⟨_, ns, k, rfl, rfl, l2.sq, h3 _ H2 S2 .refl rp_int⟩
theorem idx_facts {ns : List Int} {k : Int} (h : k ∈ ns) : ns[ns.idxOf k]? = some k ∧ ∀ m, m < ns.idxOf k → ∀ z, ns[m]? = some z → z ≠ k := by
  have hl := List.idxOf_lt_length_of_mem h
  refine ⟨by rw [List.getElem?_eq_getElem hl]; simp, fun m hm z hz e => ?_⟩
  subst e
  obtain ⟨h1, h2⟩ := List.getElem?_eq_some_iff.mp hz
  have := List.not_of_lt_findIdx (p := (· == z)) (xs := ns) hm
  rw [h2] at this
  simp at this
theorem flat_ints (ns : List Int) : (ns.map V.int).all flatV = true := by
  rw [List.all_map]
  exact List.all_eq_true.mpr fun _ _ => rfl
theorem s_index (ha : SE XR X Ek cl ea x) (hb : SE XR X Ek cl eb y) (hpl : plainX y = true) (hbase : attributeBase x "index" X.env (eval x X.env) = eval x X.env) {apos cpos : Pos} (hline : (apos.endLine == cpos.line) = true)
    (hfew : ((backTo cpos (starEach [y] X.env)).all (fun x => !x.1) && (backToKw cpos (keywordEach [] X.env)).all (fun x => x.1.isSome)
      && decide (([y] : List Expr).length + ([] : List Keyword).length + (if ([] : List Keyword).isEmpty then 0 else 1) < 30)) = true) : SE XR X Ek cl (.m1 .index ea eb) (.Call (.Attribute x "index" apos) [y] [] cpos) :=
  (pe_bm PySem.F.plainAttrs_list PySem.F.slot_list_index PySem.F.type_list_index mt_index ha (pa_cons hb pa_nil (star_plain hpl _ _)) hbase hfew hline (star_plain hpl _ _) rfl).weak fun σ H Q ⟨B, ρ, S, h⟩ => by
    refine seq S h fun d1 ρ1 v H1 e0 S1 k1 r1 h1 => ?_
    cases d1 <;> first | exact h1.elim | skip
    rename_i ds
    have q1 : Rp X.K H1 (MM B ρ1 σ) (.list ds) v := r1
    obtain ⟨a, xs, rfl, l, rr⟩ := q1.lst
    refine ⟨.inl ⟨rfl, xs, l.sq⟩, ?_⟩
    refine seq S1 h1 fun d2 ρ2 v2 H2 e9 S2 k2 r2 h2 => ?_
    obtain ⟨z, e2, h3⟩ := Pst.of_lift h2
    have q1 := Rp.kp k2 q1
    have q2 : Rp X.K H2 (MM B ρ2 σ) d2 v2 := r2
    cases d2 <;> simp only [m1F] at e2 <;> try (cases e2; done)
    rename_i k
    simp only [Rp] at q2
    subst q2
    cases e3 : toInts ds with
    | none => rw [e3] at e2; cases e2
    | some ns =>
      rw [e3] at e2
      dsimp only [Option.bind_some] at e2
      split at e2
      · rename_i hk
        cases e2
        obtain ⟨a2, xs2, ea, l2, rr2⟩ := q1.lst
        cases ea
        have ex := toInts_rps e3 rr2
        subst ex
        obtain ⟨f1, f2⟩ := idx_facts hk
        refine ⟨_, ns.map V.int, .int k, ns.idxOf k, .int k, rfl, rfl, l2.sq, rfl, flat_ints ns, ?_, ?_, ?_, h3 _ H2 S2 .refl rp_int⟩
        · rw [List.getElem?_map, f1]; rfl
        · show (k == k) = true
          exact beq_self_eq_true k
        · intro m z' hm hz
          rw [List.getElem?_map] at hz
          cases e4 : ns[m]? with
          | none => rw [e4] at hz; cases hz
          | some u =>
            rw [e4] at hz
            cases hz
            show (u == k) = false
            exact beq_eq_false_iff_ne.mpr (f2 m hm u e4)
      · cases e2
theorem mt_tup_indexI : MtR X "tuple.index" (fun x xs H Q => ∃ p, ∃ ns : List Int, ∃ k : Int, x = .ref p ∧ xs = [.int k] ∧ SqT X.K H p (ns.map V.int) ∧ k ∈ ns ∧ Q (.int (ns.idxOf k : Nat)) H) := by
  intro pins s σ H x xs v us Q I rx rs h
  obtain ⟨p, ns, k, rfl, rfl, hq, hk, q⟩ := h
  cases rx
  obtain ⟨u, rfl, t, rfl⟩ := vals1 rs
  obtain ⟨its, r, pl, hz⟩ := I.tuple hq
  obtain ⟨⟨cls, dd, dt, sl⟩, ho, hc, n, hd⟩ := pl
  simp only at hc hd
  subst hc
  subst hd
  obtain ⟨f1, f2⟩ := idx_facts hk
  have hl : its.toArray.size = ns.length := by rw [List.size_toArray, ← r.length, List.length_map]
  have hj : ns.idxOf k < its.toArray.size := by rw [hl]; exact (List.getElem?_eq_some_iff.mp f1).1
  have at' : ∀ (m : Nat) (hm : m < its.toArray.size), ∃ y t', ns[m]? = some y ∧ its.toArray[m] = Value.int y t' := fun m hm => by
    have hm' : m < ns.length := by rw [← hl]; exact hm
    obtain ⟨w, hw, t', hw'⟩ := r.get (i := m) (x := .int ns[m]) (by simp [hm'])
    refine ⟨ns[m], t', List.getElem?_eq_getElem hm', ?_⟩
    have e := (List.getElem?_eq_some_iff.mp hw).2
    rw [← hw', ← e]
    simp
  refine call_meets PySem.F.slot_tuple_index ⟨_, ho, rfl⟩ PySem.F.entry_tuple_index (PySem.F.args_tuple_index_2 _ _) (TI.tuple_indexAt p its.toArray n dd sl (.int k t) (eqU (.int k)) (ns.idxOf k) hj ?_ ?_)
    ⟨ho, fun w hw => mem_eqAt (x := .int k) ⟨t, rfl⟩ rfl r (flat_ints ns) w (by simpa using hw), ⟨.int (ns.idxOf k : Nat), H, I.tok _, ⟨_, rfl⟩, q⟩⟩
  · obtain ⟨y, t', h1, h2⟩ := at' _ hj
    rw [f1] at h1
    cases h1
    rw [h2]
    show (k == k) = true
    exact beq_self_eq_true k
  · intro m hm hmj
    obtain ⟨y, t', h1, h2⟩ := at' m hm
    rw [h2]
    show (y == k) = false
    exact beq_eq_false_iff_ne.mpr (f2 m hmj y h1)
/-! ### methods of tuples: the object is known -/
/-- a tuple as it stands -/
theorem TpA.get {M : Addr → Prop} {pins : List (Addr × Obj)} {σ : L2.St} {H : Hp} {s : Shared} {a : Addr} {xs : List V} (I : Inv X pins σ H s) (l : TpA X.K H M a xs) : ∃ (o : Obj) (its : List Value) (n : Nat), s.heap.get? a = some o ∧ o.cls = .type "tuple" ∧ o.dict = none ∧ o.data = .seq its.toArray n ∧ Vals xs its ∧ its.length ≤ sizeLine := by
  rcases l with ⟨us, l, _⟩ | ⟨o, its, n, h1, h2, h3, h4, h5, h6⟩
  · obtain ⟨e, z, its, rv, ob, e2, c, n, hd⟩ := I.hok a _ l
    rw [e] at e2
    cases e2
    exact ⟨_, its, n, e, rfl, rfl, hd, rv, by rw [← rv.length]; exact z⟩
  · exact ⟨o, its.toList, n, I.kIn _ _ h1, h2, h3, by rw [h4, Array.toArray_toList], h6, by rw [Array.length_toList]; exact h5⟩
def tBT (K : PySem.W.Frag) (r : V → List V → Hp → VK → Prop) (to : TE) (t : TA) : TE := fun σ H Q => to σ H fun x H1 => (∃ M a xs, x = .ref a ∧ TpA K H1 M a xs) ∧ t σ H1 fun xs H2 => r x xs H2 Q
theorem pe_bt {o e : Expr} {to : TE} {t : TA} {name : Str} {apos cpos : Pos} {id : String} {r : V → List V → Hp → VK → Prop} (slot : Slot "tuple" name id) (hty : typeOf (.builtin id) = pure (.type "method_descriptor")) (hm : MtR X id r) (ho : PE X o to) (ha : PA X [e] t)
    (hbase : attributeBase o name X.env (eval o X.env) = eval o X.env)
    (hfew : ((backTo cpos (starEach [e] X.env)).all (fun x => !x.1) && (backToKw cpos (keywordEach [] X.env)).all (fun x => x.1.isSome)
      && decide (([e] : List Expr).length + ([] : List Keyword).length + (if ([] : List Keyword).isEmpty then 0 else 1) < 30)) = true)
    (hline : (apos.endLine == cpos.line) = true) (hs : starEach [e] X.env = (false, eval e X.env) :: starEach [] X.env) : PE X (.Call (.Attribute o name apos) [e] [] cpos) (tBT X.K r to t) := by
  refine ⟨fun pins s σ H Q I h => wpAny_Call_method_late hbase hfew hline rfl (thn (ho.run pins s σ H _ I h) fun v s1 ⟨x, H1, I1, r1, ⟨M, a, xs, ex, l⟩, q1⟩ => ?_)⟩
  subst ex
  cases r1
  obtain ⟨ob, its, n, g1, g2, g3, g4, _, _⟩ := TpA.get I1 l
  refine ⟨"tuple", id, PySem.F.plainAttrs_tuple, slot, hty, ⟨ob, g1, g2⟩, fun b eb => by cases eb; exact ⟨ob, g1, g3⟩, ?_⟩
  have hA := ha.run cpos pins s1 σ H1 _ I1 q1
  rw [hs] at hA ⊢
  refine Calls.callWith_builtin rfl (Calls.evalArgs_plain ?_)
  exact thn hA fun us s2 ⟨vs, H2, I2, r2, q2⟩ => hm pins s2 σ H2 (.ref a) vs (.ref a) us Q I2 rfl r2 q2
theorem mt_tup_countI : MtR X "tuple.count" (fun x xs H Q => ∃ p, ∃ ns : List Int, ∃ k : Int, x = .ref p ∧ xs = [.int k] ∧ SqT X.K H p (ns.map V.int) ∧ Q (.int (ns.count k : Nat)) H) := by
  intro pins s σ H x xs v us Q I rx rs ⟨p, ns, k, ex, ey, hq, q⟩
  subst ex ey
  cases rx
  obtain ⟨u, rfl, t, rfl⟩ := vals1 rs
  obtain ⟨its, r, pl, hz⟩ := I.tuple hq
  obtain ⟨⟨cls, dd, dt, sl⟩, ho, hc, n, hd⟩ := pl
  simp only at hc hd
  subst hc
  subst hd
  have hi := ints_of_vals r
  refine call_meets PySem.F.slot_tuple_count ⟨_, ho, rfl⟩ PySem.F.entry_tuple_count (PySem.F.args_tuple_count_2 _ _) (SeqAt.tuple_countAt p its.toArray n dd sl (.int k t) (eqk k)) ⟨ho, fun y hy => (eqk_gives hi y (by simpa using hy)).at _ _, ?_⟩
  refine ⟨.int (ns.count k : Nat), H, I.tok _, ⟨s.toks, ?_⟩, q⟩
  show Value.int ((its.toArray.toList.countP (eqk k) : Nat) : Int) s.toks = Value.int ((ns.count k : Nat) : Int) s.toks
  rw [show its.toArray.toList.countP (eqk k) = ns.count k from eqk_count hi]
theorem s_indexT {apos cpos : Pos} (ha : SE XR X Ek cl ea x) (hb : SE XR X Ek cl eb y) (hpl : plainX y = true) (hbase : attributeBase x "index" X.env (eval x X.env) = eval x X.env) (hline : (apos.endLine == cpos.line) = true)
    (hfew : ((backTo cpos (starEach [y] X.env)).all (fun x => !x.1) && (backToKw cpos (keywordEach [] X.env)).all (fun x => x.1.isSome)
      && decide (([y] : List Expr).length + ([] : List Keyword).length + (if ([] : List Keyword).isEmpty then 0 else 1) < 30)) = true) : SE XR X Ek cl (.m1t .index ea eb) (.Call (.Attribute x "index" apos) [y] [] cpos) :=
  (pe_bt PySem.F.slot_tuple_index PySem.F.type_tuple_index mt_tup_indexI ha (pa_cons hb pa_nil (star_plain hpl _ _)) hbase hfew hline (star_plain hpl _ _)).weak fun σ H Q ⟨B, ρ, S, h⟩ => by
    refine seq S h fun d1 ρ1 v H1 e0 S1 k1 r1 h1 => ?_
    cases d1 <;> first | exact h1.elim | skip
    rename_i ds
    have q1 : Rp X.K H1 (MM B ρ1 σ) (.tuple ds) v := r1
    obtain ⟨a, xs, rfl, l, rr⟩ := q1.tup
    refine ⟨⟨_, a, xs, rfl, l⟩, ?_⟩
    refine seq S1 h1 fun d2 ρ2 v2 H2 e9 S2 k2 r2 h2 => ?_
    obtain ⟨z, e2, h3⟩ := Pst.of_lift h2
    have q1 := Rp.kp k2 q1
    have q2 : Rp X.K H2 (MM B ρ2 σ) d2 v2 := r2
    cases d2 <;> simp only [m1F] at e2 <;> try (cases e2; done)
    rename_i k
    simp only [Rp] at q2
    subst q2
    cases e3 : toInts ds with
    | none => rw [e3] at e2; cases e2
    | some ns =>
      rw [e3] at e2
      dsimp only [Option.bind_some] at e2
      split at e2
      · rename_i hk
        cases e2
        obtain ⟨a2, xs2, ea, l2, rr2⟩ := q1.tup
        cases ea
        have ex := toInts_rps e3 rr2
        subst ex
        exact ⟨_, ns, k, rfl, rfl, l2.sq, hk, h3 _ H2 S2 .refl rp_int⟩
      · cases e2
theorem s_countT {apos cpos : Pos} (ha : SE XR X Ek cl ea x) (hb : SE XR X Ek cl eb y) (hpl : plainX y = true) (hbase : attributeBase x "count" X.env (eval x X.env) = eval x X.env) (hline : (apos.endLine == cpos.line) = true)
    (hfew : ((backTo cpos (starEach [y] X.env)).all (fun x => !x.1) && (backToKw cpos (keywordEach [] X.env)).all (fun x => x.1.isSome)
      && decide (([y] : List Expr).length + ([] : List Keyword).length + (if ([] : List Keyword).isEmpty then 0 else 1) < 30)) = true) : SE XR X Ek cl (.m1t .count ea eb) (.Call (.Attribute x "count" apos) [y] [] cpos) :=
  (pe_bt PySem.F.slot_tuple_count PySem.F.type_tuple_count mt_tup_countI ha (pa_cons hb pa_nil (star_plain hpl _ _)) hbase hfew hline (star_plain hpl _ _)).weak fun σ H Q ⟨B, ρ, S, h⟩ => by
    refine seq S h fun d1 ρ1 v H1 e0 S1 k1 r1 h1 => ?_
    cases d1 <;> first | exact h1.elim | skip
    rename_i ds
    have q1 : Rp X.K H1 (MM B ρ1 σ) (.tuple ds) v := r1
    obtain ⟨a, xs, rfl, l, rr⟩ := q1.tup
    refine ⟨⟨_, a, xs, rfl, l⟩, ?_⟩
    refine seq S1 h1 fun d2 ρ2 v2 H2 e9 S2 k2 r2 h2 => ?_
    obtain ⟨z, e2, h3⟩ := Pst.of_lift h2
    have q1 := Rp.kp k2 q1
    have q2 : Rp X.K H2 (MM B ρ2 σ) d2 v2 := r2
    cases d2 <;> simp only [m1F] at e2 <;> try (cases e2; done)
    rename_i k
    simp only [Rp] at q2
    subst q2
    cases e3 : toInts ds with
    | none => rw [e3] at e2; cases e2
    | some ns =>
      rw [e3] at e2
      cases e2
      obtain ⟨a2, xs2, ea, l2, rr2⟩ := q1.tup
      cases ea
      have ex := toInts_rps e3 rr2
      subst ex
      exact ⟨_, ns, k, rfl, rfl, l2.sq, h3 _ H2 S2 .refl rp_int⟩
/-! ### list(range(..)) -/
theorem rg_rps {K : PySem.W.Frag} {H : Hp} {M : Addr → Prop} (a b : Int) : Rps K H M ((List.range (b - a).toNat).map fun i => PyData.int (a + ((i : Nat) : Int))) (rgV a b) := by
  unfold rgV
  generalize (List.range (b - a).toNat) = l
  induction l with
  | nil => exact .nil
  | cons i l ih => exact .cons rp_int ih
theorem rg_rps0 {K : PySem.W.Frag} {H : Hp} {M : Addr → Prop} (b : Int) : Rps K H M ((List.range b.toNat).map fun i => PyData.int ((i : Nat) : Int)) (rgV 0 b) := by
  have := rg_rps (K := K) (H := H) (M := M) 0 b
  rw [Int.sub_zero] at this
  simpa only [Int.zero_add] using this
theorem s_lrange {p p2 pos2 : Pos} (hc : X.calm = true) (hg : Gl X "list") (hm : X.mg "list" = none) (hg2 : Gl X "range") (hm2 : X.mg "range" = none) (ha : SO XR X Ek cl ea x) (hp : plainX x = true) :
    SE XR X Ek cl (.p1 .lrange ea) (.Call (.Name "list" p) [.Call (.Name "range" p2) [x] [] pos2] [] pos) :=
  (pe_listRg hc hg hm (prg_1 hg2 hm2 ha (star_plain hp _ _)) (star_plain rfl _ _)).weak fun σ H Q ⟨B, ρ, S, h⟩ => by
    refine seq S h fun p ρ1 v H1 _ S1 k1 r1 h1 => ?_
    obtain ⟨d1, d, e1, e2, h2⟩ := h1.of_one
    have q1 := RelP.get S1 r1 e1
    have g := Gives.of_ok S1 h2
    have hb := S1.mb
    cases d1 <;> simp only [p1F] at e2 <;> try (cases e2; done)
    rename_i n
    split at e2
    · rename_i hl
      simp only [lrOk, Bool.and_eq_true, decide_eq_true_eq] at hl
      cases e2
      exact ⟨n, q1.int, ⟨by omega, by omega, by omega, by omega, by omega⟩, fun q hq => g _ _ (Ev.same_new hq) (rp_newL hb hq (rg_rps0 n))⟩
    · cases e2
theorem s_lrange2 {p p2 pos2 : Pos} (hc : X.calm = true) (hg : Gl X "list") (hm : X.mg "list" = none) (hg2 : Gl X "range") (hm2 : X.mg "range" = none) (ha : SO XR X Ek cl ea x) (hp : plainX x = true) (hb : SO XR X Ek cl eb y) (hpy : plainX y = true) :
    SE XR X Ek cl (.p2 .lrange ea eb) (.Call (.Name "list" p) [.Call (.Name "range" p2) [x, y] [] pos2] [] pos) :=
  (pe_listRg hc hg hm (prg_2 hg2 hm2 ha hb (star_plain hp _ _) (star_plain hpy _ _) (by rw [star_plain hpy]; rfl)) (star_plain rfl _ _)).weak fun σ H Q ⟨B, ρ, S, h⟩ => by
    refine seq S h fun p ρ1 v H1 _ S1 k1 r1 h1 => ?_
    refine seq S1 h1 fun q ρ2 v2 H2 _ S2 k2 r2 h2 => ?_
    obtain ⟨d1, d2, d, e1, e2, e3, h3⟩ := h2.of_two
    have q1 := RelP.get S2 (RelP.kp k2 r1) e1
    have q2 := RelP.get S2 r2 e2
    have g := Gives.of_ok S2 h3
    have hb := S2.mb
    cases d1 <;> cases d2 <;> simp only [p2F] at e3 <;> try (cases e3; done)
    rename_i m n
    split at e3
    · rename_i hl
      simp only [lrOk, Bool.and_eq_true, decide_eq_true_eq] at hl
      cases e3
      exact ⟨m, n, q1.int, q2.int, ⟨by omega, by omega, by omega, by omega, by omega⟩, fun q hq => g _ _ (Ev.same_new hq) (rp_newL hb hq (rg_rps m n))⟩
    · cases e3
end
end Ev

set_option Elab.async false
set_option linter.all false
set_option maxRecDepth 100000
/-! Ev5e: for x in reversed(list or tuple). -/
namespace Ev
open PySem L2
section
variable {K : PySem.W.Frag} {H : Hp} {M : Addr → Prop} {xs : List D} {lo : Bool}
theorem itOk_revL {a : Addr} {vs : List V} (l : LsA K H M a vs) (r : Rps K H M xs vs) : ItOk K lo (Itv K a vs.length) H M xs.reverse := by
  have sq : ∀ H', (∀ a o, H a = some o → ¬ M a → H' a = some o) → SqL K H' a vs := fun H' h => by
    rcases l with ⟨l | ⟨o, l⟩, n⟩ | l
    · exact .of (h a _ l n)
    · exact .inl (.inr ⟨o, h a _ l n⟩)
    · exact (LsA.sq (M := M) (.inr l))
  have hr := r.reverse
  have hl := r.length
  refine ⟨fun i H' h hi => ?_, fun i d H' x H'' h e y => ?_, fun i H' h hi => by rw [List.length_reverse] at hi; show vs.length ≤ i; omega⟩
  · rw [List.length_reverse] at hi
    obtain ⟨x, e, _⟩ := r.get (List.getElem?_eq_getElem (show xs.length - 1 - i < xs.length by omega))
    exact ⟨by omega, vs, x, sq H' h, by rw [hl]; exact e⟩
  · obtain ⟨e1, y⟩ := y
    subst e1
    obtain ⟨x', e2, p⟩ := hr.get e
    have e3 := y vs (sq _ h)
    have hi : i < vs.length := by have := lt_of_get e2; rwa [List.length_reverse] at this
    rw [List.getElem?_reverse hi] at e2
    rw [e2] at e3; cases e3
    exact ⟨Same.refl _, fun M' _ st => .inl (Rp.mono st _ _ p)⟩
theorem itOk_revT {a : Addr} {vs : List V} (l : TpA K H M a vs) (r : Rps K H M xs vs) : ItOk K lo (RT.ItvT K a vs.length) H M xs.reverse := by
  have sq : ∀ H', (∀ a o, H a = some o → ¬ M a → H' a = some o) → SqT K H' a vs := fun H' h => l.at h
  have hr := r.reverse
  have hl := r.length
  refine ⟨fun i H' h hi => ?_, fun i d H' x H'' h e y => ?_, fun i H' h hi => by rw [List.length_reverse] at hi; show vs.length ≤ i; omega⟩
  · rw [List.length_reverse] at hi
    obtain ⟨x, e, _⟩ := r.get (List.getElem?_eq_getElem (show xs.length - 1 - i < xs.length by omega))
    exact ⟨by omega, vs, x, sq H' h, by rw [hl]; exact e⟩
  · obtain ⟨e1, y⟩ := y
    subst e1
    obtain ⟨x', e2, p⟩ := hr.get e
    have e3 := y vs (sq _ h)
    have hi : i < vs.length := by have := lt_of_get e2; rwa [List.length_reverse] at this
    rw [List.getElem?_reverse hi] at e2
    rw [e2] at e3; cases e3
    exact ⟨Same.refl _, fun M' _ st => .inl (Rp.mono st _ _ p)⟩
end
section
variable {XR : Hp → (Addr → Prop) → Exn → Value → Option Addr → Prop} {X : Cx} {Ek : WX} {cl : Nat → List Ent → CRes} {tg : Expr} {pos p : Pos}
theorem w_rvs {e : Ev.E} {a : Expr} (hg : Gl X "reversed") (hm : X.mg "reversed" = none) (h : SE XR X Ek cl e a) (hp : plainX a = true) : SW XR X Ek cl tg (.rvs e) (.Call (.Name "reversed" p) [a] [] pos) := (RT.pi_revA hg hm h (star_plain hp _ _)).weak fun σ H Rr ⟨B, ρ, S, h⟩ => by
  refine seqI S h fun d ρ1 v H1 S1 k1 r1 h1 => ?_
  cases d with
  | list ds =>
    obtain ⟨a, xs, rfl, l, r⟩ := r1.lst
    exact ⟨a, xs, rfl, .inl ⟨l.sq, h1 _ H1 S1 .refl (itOk_revL l r)⟩⟩
  | tuple ds =>
    obtain ⟨a, xs, rfl, l, r⟩ := r1.tup
    exact ⟨a, xs, rfl, .inr ⟨l.sq, h1 _ H1 S1 .refl (itOk_revT l r)⟩⟩
  | _ => exact h1.elim
end
end Ev

set_option Elab.async false
set_option linter.all false
set_option maxRecDepth 100000
/-! Ev3f: len(set(tuple of ints)). -/
namespace Ev
open PySem PySem.Spec PyProof.Rows HT L2
section
variable {X : Cx}
def tLenSetT (K : PySem.W.Frag) (ta : TE) : TE := fun σ H Q => ta σ H fun x H1 => ∃ (l : Addr) (ns : List Int), x = V.ref l ∧ SqT K H1 l (ns.map V.int) ∧ ns.length ≤ 1000 ∧ ∀ out : List Int, out.Nodup → (∀ k, k ∈ out ↔ k ∈ ns) → Q (.int out.length) H1
theorem pe_lenSetT {a : Expr} {ta : TE} {p p2 q pos : Pos} (hc : X.calm = true) (hg : Gl X "len") (hm : X.mg "len" = none) (hg2 : Gl X "set") (hm2 : X.mg "set" = none) (ha : PE X a ta)
    (na : starEach [a] X.env = (false, eval a X.env) :: starEach [] X.env) : PE X (.Call (.Name "len" p) [.Call (.Name "set" p2) [a] [] q] [] pos) (tLenSetT X.K ta) := by
  refine ⟨fun pins s σ H Q I h => ?_⟩
  refine Call_ (ld_blt I hg hm PySem.boot_len ?_)
  refine PyProof.Rows.callWith_builtin1 (PyProof.Rows.args_cons ?_ rfl) rfl rfl
  refine Call_ (ld_blt I hg2 hm2 PyProof.Rows.boot_set ?_)
  refine PyProof.Rows.callWith_type1 (PyProof.Rows.args_cons (thn (ha.run pins s σ H _ I h) fun v s1 ⟨x, H1, I1, r1, q1⟩ => PyProof.Rows.args_nil ?_) na) na rfl
  obtain ⟨l, ns, rfl, hq, h1, q1⟩ := q1
  cases r1
  obtain ⟨its, rv, pt, hz⟩ := I1.tuple hq
  have hi : IntsAre its.toArray.toList ns := ints_of_vals rv
  have hd := I1.ok.hd hc
  refine call_set_tupI ns hd (show s1.heap.IsTuple l its.toArray from pt) hi (by unfold scanBound; omega) fun h' tk c R1 hcn k => ?_
  obtain ⟨o, es, ep, t, ho, hex, hdt, g, nd, hm3, hb, hf, hn, hr, hl2⟩ := R1
  refine PyProof.Rows.args_nil ?_
  have I2 : Inv X pins σ H1 { s1 with heap := h', toks := tk } := I1.kept fun b o e => k b o e
  have key : es.size = (es.toList.map keyOf).length := by rw [List.length_map, Array.length_toList]
  have z := q1 (es.toList.map keyOf) nd fun j => by rw [← hm3 j, decide_eq_true_eq]
  refine call_len_set (s := { s1 with heap := h', toks := tk }) ho hex hdt hf (by omega) ⟨.int es.size, H1, I2.tok _, ⟨_, rfl⟩, ?_⟩
  rw [key]
  exact z
variable {XR : Hp → (Addr → Prop) → Exn → Value → Option Addr → Prop} {Ek : WX} {cl : Nat → List Ent → CRes} {x : Expr} {ea : Ev.E}
theorem eraseDups_ok (ns : List Int) : ns.eraseDups.Nodup ∧ ∀ k, k ∈ ns.eraseDups ↔ k ∈ ns := by
  have : ∀ n : Nat, ∀ ns : List Int, ns.length ≤ n → ns.eraseDups.Nodup ∧ ∀ k, k ∈ ns.eraseDups ↔ k ∈ ns := by
    intro n
    induction n with
    | zero =>
      intro ns h
      cases ns with
      | nil => simp
      | cons => simp at h
    | succ n ih =>
      intro ns h
      cases ns with
      | nil => simp
      | cons a r =>
        rw [List.eraseDups_cons]
        obtain ⟨h1, h2⟩ := ih (r.filter fun b => !b == a) (Nat.le_trans (List.length_filter_le _ _) (by simpa using h))
        refine ⟨List.nodup_cons.mpr ⟨fun z => ?_, h1⟩, fun k => ?_⟩
        · have := (h2 a).mp z
          simp at this
        · rw [List.mem_cons, h2 k, List.mem_cons, List.mem_filter]
          by_cases e : k = a
          · simp [e]
          · simp [e]
  exact this _ ns (Nat.le_refl _)
theorem s_setLen {p p2 q pos : Pos} (hc : X.calm = true) (hg : Gl X "len") (hm : X.mg "len" = none) (hg2 : Gl X "set") (hm2 : X.mg "set" = none) (ha : SO XR X Ek cl ea x) (hp : plainX x = true) :
    SE XR X Ek cl (.p1 .setLen ea) (.Call (.Name "len" p) [.Call (.Name "set" p2) [x] [] q] [] pos) :=
  (pe_lenSetT hc hg hm hg2 hm2 ha (star_plain hp _ _)).weak fun σ H Q ⟨B, ρ, S, h⟩ => by
    refine seq S h fun p ρ1 v H1 _ S1 k1 r1 h1 => ?_
    obtain ⟨d1, d, e1, e2, h2⟩ := h1.of_one
    have q1 := RelP.get S1 r1 e1
    have g := Gives.of_ok S1 h2
    cases d1 <;> simp only [p1F] at e2 <;> try (cases e2; done)
    rename_i ds
    cases e3 : toInts ds with
    | none => rw [e3] at e2; cases e2
    | some ns =>
      rw [e3] at e2
      dsimp only [Option.bind_some] at e2
      split at e2
      · rename_i hl
        cases e2
        obtain ⟨a, xs, rfl, l, rr⟩ := q1.tup
        have ex := toInts_rps e3 rr
        subst ex
        refine ⟨a, ns, rfl, l.sq, hl, fun out nd me => ?_⟩
        obtain ⟨n1, n2⟩ := eraseDups_ok ns
        have pm : out.Perm ns.eraseDups := (List.perm_ext_iff_of_nodup nd n1).mpr fun k => by rw [me k, n2 k]
        rw [pm.length_eq]
        exact g.refl rp_int
      · cases e2
end
end Ev

set_option Elab.async false
set_option linter.all false
set_option maxRecDepth 100000
set_option autoImplicit false
/-! Ev6d: raise, try .. except: return a constant. -/
namespace Ev
open PySem L2
/-- the facts of an own exception class over ValueError, without an __init__ of its own -/
structure ExcF (K : PySem.W.Frag) (mg : Str → Option Value) (x : Str) (C : Addr) : Prop where
  g : mg x = some (.ref C)
  q : PySem.W.excIn K C [.type "ValueError", .type "Exception", .type "BaseException", .type "object"] "ValueError.__new__" = true
  k : PySem.W.keepIn K (.ref C) = true
  b : PySem.W.subIn K (.ref C) (.type "BaseException") = some true
  t : PySem.W.typeIn K (.ref C) = some (.type "type")
  i : PySem.W.isClsIn K C = true
  s : PySem.W.subIn K (.ref C) (.ref C) = some true
theorem ExcF.e {K : PySem.W.Frag} {mg : Str → Option Value} {x : Str} {C : Addr} (F : ExcF K mg x C) : PySem.W.exmOne K (.ref C) (.ref C) = some true := by
  have h1 : (PySem.W.clsIn K C).isSome = true := F.i
  unfold PySem.W.exmOne
  rw [F.b, if_pos (by decide)]
  unfold PySem.W.kitCls
  dsimp only
  rw [h1, F.t, if_pos (by decide)]
  exact F.s
section
variable {XR : Hp → (Addr → Prop) → Exn → Value → Option Addr → Prop} {X : Cx} {Ek : WX} {cl : Nat → List Ent → CRes} {pos p : Pos} {C : Addr} {x : Str}
theorem p_raise {es : Es} {a : Expr} {as : List Expr} {pos' : Pos} (hc : X.calm = true) (tk : Takes X Ek) (F : ExcF X.K X.mg x C) (hxr : ∀ H M c d, c = .ref C → d = none → XR H M ⟨0, []⟩ c d) (hg : Gl X x) (hdb : (x == ("__debug__" : Str)) = false)
    (ha : SA XR X Ek cl es (a :: as)) (hp : (a :: as).all plainX = true) : SS XR X Ek cl (.raise 0 es) (.Raise (some (.Call (.Name x p) (a :: as) [] pos)) none pos') := by
  have hp' : plainX a = true ∧ as.all plainX = true := by simpa using hp
  exact (ps_raise hc tk (pmk_ownA PySem.F.excBase_ValueError F.q F.g F.k (raises_own F.b F.t) hg ha hdb (star_plain hp'.1 _ _) (star_all hp'.2))).weak fun Z σ H ⟨B, ρ, S, h⟩ => by
    refine seqS S h fun ds ρ1 vs H1 _ S1 k1 r1 h1 => ?_
    have r1 : Rps X.K H1 (MM B ρ1 σ) ds vs := r1
    by_cases hl : ds.length ≤ sizeLine
    · rw [if_pos ⟨rfl, hl⟩] at h1
      exact ⟨by rw [r1.length]; exact hl, h1 (.ref C) none σ H1 S1 .refl (hxr _ _ _ _ rfl rfl)⟩
    · rw [if_neg fun z => hl z.2] at h1
      exact h1.elim
theorem p_tryR {b : Ss} {d : D} {v : V} {body : List Stmt} {c : Expr} {rp np hp : Pos} (hs : X.stack = X.env :: X.outer) (hf : X.env.frame = some X.env.locals) (F : ExcF X.K X.mg x C) (hxr : ∀ H M y c d, y.cls = 0 → XR H M y c d → c = .ref C ∧ d = none) (hg : Gl X x) (hdb : (x == ("__debug__" : Str)) = false)
    (hb : ∀ (Ek' : WX) (pn : List (Addr × Obj)) (xe : Value → Shared → Prop), Takes (X.tr pn xe) Ek' → PassesOwn (model X.prog X.w) X.A X.env xe → SSs XR (X.tr pn xe) Ek' cl b body)
    (hc : ∀ Y : Cx, PE Y c (tC v)) (hv : ∀ H M, Rp X.K H M d v) : SS XR X Ek cl (.tryR b d) (.Try body [.ExceptHandler (some (.Name x np)) none [.Return (some c) rp] hp] [] [] pos) := by
  refine (ps_try_only (Wout := fun _ _ _ _ => False) (tb := fun W D σ H => ∃ Ek' : WX, (∀ c d σ' H', Ek' c d σ' H' → W c d σ' H') ∧ rdS X.K XR Ek' (evSs cl b) D σ H) (ts := fun _ _ _ D _ H => D.rt v H) hs hf ⟨hg, hdb, .inl F.g⟩ ?_ ?_ ?_).weak ?_
  · exact fun u s' ⟨_, _, _, _, _, _, _, _, _, _, _, _, _, _, _, _, w⟩ => w.elim
  · exact fun W pn xe tkW po => ⟨fun pins s σ H D I ⟨Ek', hw, q⟩ => (hb Ek' pn xe (tkW.imp fun c d σ H h => hw c d σ H h) po).run pins s σ H D I q⟩
  · exact fun a oe cls d pn _ _ => ⟨fun pins s σ H D I h => (pss_cons (ps_ret (hc _)) pss_nil).run pins s σ H D I h⟩
  · intro Z σ H ⟨B, ρ, S, h⟩
    have h : PstS X.K XR Ek B ρ σ H (match evSs cl b ρ with
      | .ex x ρ' => if x.cls = 0 then .rt (.val d) ρ' else .no
      | r => r) Z := h
    cases e : evSs cl b ρ with
    | ex y ρ' =>
      rw [e] at h
      by_cases hy : y.cls = 0
      · dsimp only at h
        rw [if_pos hy] at h
        refine ⟨fun c _ _ H' => c = .ref C ∧ Z.rt v H', fun c d σ' H' q => ⟨true, by rw [q.1]; exact F.e, fun _ _ _ => q.2, fun z => by cases z⟩, B, ρ, S, ?_⟩
        rw [e]
        exact fun c dd σ' H' S' k' xr => ⟨(hxr _ _ _ _ _ hy xr).1, h v σ' H' S' k' (hv H' _)⟩
      · dsimp only at h
        rw [if_neg hy] at h
        exact h.elim
    | nx ρ' => rw [e] at h; exact ⟨fun _ _ _ _ => False, fun _ _ _ _ z => z.elim, B, ρ, S, by rw [e]; exact h⟩
    | bk ρ' => rw [e] at h; exact ⟨fun _ _ _ _ => False, fun _ _ _ _ z => z.elim, B, ρ, S, by rw [e]; exact h⟩
    | ct ρ' => rw [e] at h; exact ⟨fun _ _ _ _ => False, fun _ _ _ _ z => z.elim, B, ρ, S, by rw [e]; exact h⟩
    | rt en ρ' => rw [e] at h; exact ⟨fun _ _ _ _ => False, fun _ _ _ _ z => z.elim, B, ρ, S, by rw [e]; exact h⟩
    | no => rw [e] at h; exact h.elim
/-- .. except: a name that holds an int is counted up -/
theorem p_tryA {b : Ss} {body : List Stmt} {i j : Nat} {n : Int} {y : Str} {rp np hp p1 p2 p3 p4 : Pos} (hs : X.stack = X.env :: X.outer) (hf : X.env.frame = some X.env.locals) (L : Slt X i y) (hv : Vis X.env.scope y) (hd : (y == ("__debug__" : Str)) = false ∧ (y == ("__classdict__" : Str)) = false) (F : ExcF X.K X.mg x C) (hxr : ∀ H M y c d, y.cls = 0 → XR H M y c d → c = .ref C ∧ d = none) (hg : Gl X x) (hdb : (x == ("__debug__" : Str)) = false)
    (hb : ∀ (Ek' : WX) (pn : List (Addr × Obj)) (xe : Value → Shared → Prop), Takes (X.tr pn xe) Ek' → PassesOwn (model X.prog X.w) X.A X.env xe → SSs XR (X.tr pn xe) Ek' cl b body) :
    SS XR X Ek cl (.tryA b i n) (.Try body [.ExceptHandler (some (.Name x np)) none [.Assign [.Name y p1] (.BinOp (.Name y p2) .Add (.Constant (.int n) j p3) p4) rp] hp] [] [] pos) := by
  refine (ps_try_only (Wout := fun _ _ _ _ => False) (tb := fun W D σ H => ∃ Ek' : WX, (∀ c d σ' H', Ek' c d σ' H' → W c d σ' H') ∧ rdS X.K XR Ek' (evSs cl b) D σ H) (ts := fun _ _ _ => tSeq (tAsg (tAdd (tVar i) (tC (.int n))) (gName i)) tNext) hs hf ⟨hg, hdb, .inl F.g⟩ ?_ ?_ ?_).weak ?_
  · exact fun u s' ⟨_, _, _, _, _, _, _, _, _, _, _, _, _, _, _, _, w⟩ => w.elim
  · exact fun W pn xe tkW po => ⟨fun pins s σ H D I ⟨Ek', hw, q⟩ => (hb Ek' pn xe (tkW.imp fun c d σ H h => hw c d σ H h) po).run pins s σ H D I q⟩
  · exact fun a oe cls d pn _ _ => pss_cons (ps_set L.nd L.ix L.loc (pe_add (pe_var L.ix hv hd.1 hd.2) pe_int) rfl L.fn) pss_nil
  · intro Z σ H ⟨B, ρ, S, h⟩
    have h : PstS X.K XR Ek B ρ σ H (match evSs cl b ρ with
      | .ex x ρ' => if x.cls = 0 then (match ρ'.at i with
        | some (.int m) => (match ρ'.put i (.val (.int (m + n))) with | some ρ2 => .nx ρ2 | none => .no)
        | _ => .no) else .no
      | r => r) Z := h
    cases e : evSs cl b ρ with
    | ex y ρ' =>
      rw [e] at h
      by_cases hy : y.cls = 0
      · dsimp only at h
        rw [if_pos hy] at h
        cases e1 : ρ'.at i with
        | none => rw [e1] at h; exact h.elim
        | some d =>
          rw [e1] at h
          cases d <;> first | exact h.elim | skip
          rename_i m
          dsimp only at h
          cases e2 : ρ'.put i (.val (.int (m + n))) with
          | none => rw [e2] at h; exact h.elim
          | some ρ2 =>
            rw [e2] at h
            obtain ⟨rfl, hio⟩ := put_ok e2
            refine ⟨fun c _ σ' H' => c = .ref C ∧ σ'[i]? = some (some (.int m)) ∧ Z.nx (σ'.set i (some (.int (m + n)))) H', fun c d σ' H' q => ⟨true, by rw [q.1]; exact F.e, fun _ _ _ => ⟨_, q.2.1, m, n, rfl, rfl, q.2.2⟩, fun z => by cases z⟩, B, ρ, S, ?_⟩
            rw [e]
            intro c dd σ' H' S' k' xr
            have ev : ∃ en, ρ'[i]? = some en ∧ en.got = some (.int m) := by
              unfold Rho.at at e1
              cases e3 : ρ'[i]? with
              | none => rw [e3] at e1; cases e1
              | some en => rw [e3] at e1; exact ⟨en, rfl, e1⟩
            obtain ⟨en, e3, e4⟩ := ev
            obtain ⟨v, e5, r5⟩ := S'.get e3 e4
            cases r5.int
            exact ⟨(hxr _ _ _ _ _ hy xr).1, e5, h _ H' (S'.setVal rp_int) (k'.trans (kp_setVal hio))⟩
      · dsimp only at h
        rw [if_neg hy] at h
        exact h.elim
    | nx ρ' => rw [e] at h; exact ⟨fun _ _ _ _ => False, fun _ _ _ _ z => z.elim, B, ρ, S, by rw [e]; exact h⟩
    | bk ρ' => rw [e] at h; exact ⟨fun _ _ _ _ => False, fun _ _ _ _ z => z.elim, B, ρ, S, by rw [e]; exact h⟩
    | ct ρ' => rw [e] at h; exact ⟨fun _ _ _ _ => False, fun _ _ _ _ z => z.elim, B, ρ, S, by rw [e]; exact h⟩
    | rt en ρ' => rw [e] at h; exact ⟨fun _ _ _ _ => False, fun _ _ _ _ z => z.elim, B, ρ, S, by rw [e]; exact h⟩
    | no => rw [e] at h; exact h.elim
/-! ### slots that nobody looks at any more -/
theorem owner_setUn {ρ : Rho} {σ : St} {i j : Nat} {a : Addr} (h : Owner (ρ.set i .un) σ j a) : i ≠ j ∧ Owner ρ σ j a := by
  obtain ⟨⟨e, h1, h2⟩, h3⟩ := h
  rcases get_set h1 with ⟨_, rfl, _⟩ | ⟨ne, h1⟩
  · cases h2
  · exact ⟨ne, ⟨e, h1, h2⟩, h3⟩
theorem SR.forget {K : PySem.W.Frag} {H : Hp} {B : Addr → Prop} {ρ : Rho} {σ : St} (S : SR K H B ρ σ) {i : Nat} (hio : ∀ d : D, ρ[i]? ≠ some (Ent.io d)) : SR K H B (ρ.set i .un) σ ∧ Kp ρ σ H (ρ.set i .un) σ H := by
  have st : Stays H (MM B ρ σ) H (MM B (ρ.set i .un) σ) := fun a o e n => ⟨e, fun h => h.elim (fun z => n (.inl z)) fun ⟨j, q⟩ => n (.inr ⟨j, (owner_setUn q).2⟩)⟩
  refine ⟨⟨by simp [S.len], fun j d' h => ?_, fun j e d' h o g => ?_, fun j k a h h' => S.inj j k a (owner_setUn h).2 (owner_setUn h').2, S.bnd⟩, ⟨fun _ _ h _ => h, fun j a h => .inl ⟨j, (owner_setUn h).2⟩, fun _ o h => ⟨o, h⟩, fun j d' h => ?_⟩⟩
  · rcases get_set h with ⟨_, e, _⟩ | ⟨ne, h⟩
    · cases e
    · obtain ⟨w, h1, h2⟩ := S.val j d' h
      exact ⟨w, h1, Rp.mono st _ _ h2⟩
  · rcases get_set h with ⟨_, e', _⟩ | ⟨ne, h⟩
    · subst e'; cases o
    · obtain ⟨a, h1, h2, h3⟩ := S.own j e d' h o g
      exact ⟨a, h1, h2, h3.mono st rfl⟩
  · have ne : i ≠ j := fun e => by subst e; exact hio d' h
    exact ⟨rfl, d', by rw [List.getElem?_set_ne ne]; exact h⟩
theorem SR.forgets {K : PySem.W.Frag} {H : Hp} {B : Addr → Prop} {σ : St} : ∀ {is : List Nat} {ρ ρ' : Rho}, SR K H B ρ σ → fgtR ρ is = some ρ' → SR K H B ρ' σ ∧ Kp ρ σ H ρ' σ H
  | [], ρ, ρ', S, h => by cases h; exact ⟨S, .refl⟩
  | i :: is, ρ, ρ', S, h => by
    unfold fgtR at h
    split at h
    · cases h
    · rename_i hne
      obtain ⟨S1, k1⟩ := S.forget (i := i) fun d e => hne d e
      obtain ⟨S2, k2⟩ := S1.forgets h
      exact ⟨S2, k1.trans k2⟩
theorem p_fgt {is : List Nat} {r : Ss} {sts : List Stmt} (h2 : SSs XR X Ek cl r sts) : SSs XR X Ek cl (.cons (.fgt is) r) sts :=
  h2.weak fun Z σ H ⟨B, ρ, S, h⟩ => by
    have h : PstS X.K XR Ek B ρ σ H ((match fgtR ρ is with | some ρ' => SRes.nx ρ' | none => .no).nb (evSs cl r)) Z := h
    cases e : fgtR ρ is with
    | none => rw [e] at h; exact h.elim
    | some ρ' =>
      rw [e] at h
      obtain ⟨S', k⟩ := S.forgets e
      exact ⟨B, ρ', S', PstS.shift k h⟩
end
end Ev

set_option Elab.async false
set_option linter.all false
set_option maxRecDepth 100000
set_option autoImplicit false
/-! Ev4d: chains of three comparisons. -/
namespace Ev
open PySem L2
section
variable {X : Cx} {ta tb tc td : TE} {a b c d : Expr} {pos : Pos}
/-- a op1 b op2 c op3 d -/
def tChain3 (r r' r'' : R2) (ta tb tc td : TE) : TE := fun σ H Q => ta σ H fun x H1 => tb σ H1 fun y H2 => r x y H2 fun z H3 => ∃ k, z = .bl k ∧
  (if k = true then tc σ H3 fun w H4 => r' y w H4 fun z' H5 => ∃ k', z' = .bl k' ∧ (if k' = true then td σ H5 fun u H6 => r'' w u H6 Q else Q (.bl false) H5) else Q (.bl false) H3)
theorem pe_chain3 {op op' op'' : CmpOp} {r r' r'' : R2} (ho : OpR X (compareOp op) r) (ho' : OpR X (compareOp op') r') (ho'' : OpR X (compareOp op'') r'') (ha : PE X a ta) (hb : PE X b tb) (hc : PE X c tc) (hd : PE X d td)
    (hm : lastMarks [op, op', op''] [b, c, d] = false) : PE X (.Compare a [op, op', op''] [b, c, d] pos) (tChain3 r r' r'' ta tb tc td) := by
  refine ⟨fun pins s σ H Q I h => ?_⟩
  refine PyProof.Rows.Compare_chain (thn (ha.run pins s σ H _ I h) fun v s1 ⟨x, H1, I1, r1, q1⟩ => PyProof.Rows.chain_link (thn (hb.run pins s1 σ H1 _ I1 q1) fun u s2 ⟨y, H2, I2, r2, q2⟩ =>
    thn (ho pins s2 σ H2 x y v u _ I2 r1 r2 q2) fun d s3 ⟨z, H3, I3, r3, k, e, q3⟩ => ?_)) hm
  subst e
  cases r3
  refine wpAny_truthy_bool ?_
  cases k with
  | false => exact PyProof.Rows.ite_ff ⟨.bl false, H3, I3, rfl, q3⟩
  | true =>
    refine PyProof.Rows.ite_tt (PyProof.Rows.chain_link (thn (hc.run pins s3 σ H3 _ I3 q3) fun w' s4 ⟨z', H4, I4, r4, q4⟩ => thn (ho' pins s4 σ H4 y z' u w' _ I4 r2 r4 q4) fun d' s5 ⟨z2, H5, I5, r5, k2, e2, q5⟩ => ?_))
    subst e2
    cases r5
    refine wpAny_truthy_bool ?_
    cases k2 with
    | false => exact PyProof.Rows.ite_ff ⟨.bl false, H5, I5, rfl, q5⟩
    | true => exact PyProof.Rows.ite_tt (PyProof.Rows.chain_last (thn (hd.run pins s5 σ H5 _ I5 q5) fun w2 s6 ⟨z3, H6, I6, r6, q6⟩ => ho'' pins s6 σ H6 z' z3 w' w2 Q I6 r4 r6 q6))
theorem pt_chain3 {op op' op'' : CmpOp} {r r' r'' : R2} (ho : OpR X (compareOp op) r) (ho' : OpR X (compareOp op') r') (ho'' : OpR X (compareOp op'') r'') (ha : PE X a ta) (hb : PE X b tb) (hc : PE X c tc) (hd : PE X d td)
    (hm : lastMarks [op, op', op''] [b, c, d] = false) : PT X (.Compare a [op, op', op''] [b, c, d] pos) (tTest (tChain3 r r' r'' ta tb tc td)) := by
  refine ⟨fun pins s σ H Q I h => ?_⟩
  refine PyProof.Rows.isTrue_chain (thn (ha.run pins s σ H _ I h) fun v s1 ⟨x, H1, I1, r1, q1⟩ => PyProof.Rows.test_link (thn (hb.run pins s1 σ H1 _ I1 q1) fun u s2 ⟨y, H2, I2, r2, q2⟩ =>
    thn (ho pins s2 σ H2 x y v u _ I2 r1 r2 q2) fun d s3 ⟨z, H3, I3, r3, k, e, q3⟩ => ?_)) hm
  subst e
  cases r3
  refine wpAny_truthy_bool ?_
  cases k with
  | false =>
    obtain ⟨k', e', q'⟩ := q3
    cases e'
    exact PyProof.Rows.ite_ff ⟨H3, I3, q'⟩
  | true =>
    refine PyProof.Rows.ite_tt (PyProof.Rows.test_link (thn (hc.run pins s3 σ H3 _ I3 q3) fun w' s4 ⟨z', H4, I4, r4, q4⟩ => thn (ho' pins s4 σ H4 y z' u w' _ I4 r2 r4 q4) fun d' s5 ⟨z2, H5, I5, r5, k2, e2, q5⟩ => ?_))
    subst e2
    cases r5
    refine wpAny_truthy_bool ?_
    cases k2 with
    | false =>
      obtain ⟨k', e', q'⟩ := q5
      cases e'
      exact PyProof.Rows.ite_ff ⟨H5, I5, q'⟩
    | true =>
      refine PyProof.Rows.ite_tt (PyProof.Rows.test_last (thn (hd.run pins s5 σ H5 _ I5 q5) fun w2 s6 ⟨z3, H6, I6, r6, q6⟩ => thn (ho'' pins s6 σ H6 z' z3 w' w2 _ I6 r4 r6 q6) fun d2 s7 ⟨z4, H7, I7, r7, k3, e3, q7⟩ => ?_))
      subst e3
      cases r7
      exact wpAny_truthy_bool ⟨H7, I7, q7⟩
end
section
variable {XR : Hp → (Addr → Prop) → Exn → Value → Option Addr → Prop} {X : Cx} {Ek : WX} {cl : Nat → List Ent → CRes} {pos : Pos}
theorem chn3_ok {o o' o'' : Cop} {fa fb fc fd : Rho → R Pnd} {σ : St} {H : Hp} {Q : VK} (h : rdE X.K XR Ek (fun ρ => (fa ρ).bind fun p ρ => (fb ρ).bind fun q ρ => (cmpT o p q ρ).bind fun z ρ => match z with
    | .bool true => (fc ρ).bind fun r ρ => (cmpT o' q r ρ).bind fun z ρ => match z with
      | .bool true => (fd ρ).bind fun r' ρ => cmpT o'' r r' ρ
      | .bool false => .ok (.bool false) ρ
      | _ => .no
    | .bool false => .ok (.bool false) ρ
    | _ => .no) σ H Q) : tChain3 (opR X.K (cmpD o)) (opR X.K (cmpD o')) (opR X.K (cmpD o'')) (rdO X.K XR Ek fa) (rdO X.K XR Ek fb) (rdO X.K XR Ek fc) (rdO X.K XR Ek fd) σ H Q := by
  obtain ⟨B, ρ, S, h⟩ := h
  refine seq S h fun p ρ1 x H1 _ S1 k1 r1 h1 => ?_
  refine seq S1 h1 fun q ρ2 y H2 _ S2 k2 r2 h2 => ?_
  refine link S2 (RelP.kp k2 r1) r2 h2 fun c H3 S3 k3 h3 => ⟨c, rfl, ?_⟩
  cases c with
  | false => exact h3 _ H3 S3 .refl rp_bool
  | true =>
    refine seq S3 h3 fun r ρ4 z H4 _ S4 k4 r4 h4 => ?_
    refine link S4 (RelP.kp k4 (RelP.kp k3 r2)) r4 h4 fun c2 H5 S5 k5 h5 => ⟨c2, rfl, ?_⟩
    cases c2 with
    | false => exact h5 _ H5 S5 .refl rp_bool
    | true =>
      refine seq S5 h5 fun r' ρ6 z6 H6 _ S6 k6 r6 h6 => ?_
      obtain ⟨a, b, d, e1, e2, e3, h7⟩ := h6.of_two
      exact op2_opR H6 _ a b d z z6 Q S6.mb (RelP.get S6 (RelP.kp k6 (RelP.kp k5 r4)) e1) (RelP.get S6 r6 e2) e3 (.of_ok S6 h7)
theorem s_chn3 {o o' o'' : Cop} {op op' op'' : CmpOp} {a b c d : Ev.E} {x y z u : Expr} (ho : OpR X (compareOp op) (opR X.K (cmpD o))) (ho' : OpR X (compareOp op') (opR X.K (cmpD o'))) (ho'' : OpR X (compareOp op'') (opR X.K (cmpD o'')))
    (ha : SO XR X Ek cl a x) (hb : SO XR X Ek cl b y) (hc : SO XR X Ek cl c z) (hd : SO XR X Ek cl d u) (hz : plainX u = true) : SE XR X Ek cl (.chn3 o o' o'' a b c d) (.Compare x [op, op', op''] [y, z, u] pos) :=
  (pe_chain3 ho ho' ho'' ha hb hc hd (by show behindInMarks op'' u = false; exact mark_plain hz _)).weak fun _ _ _ h => chn3_ok h
theorem t_chn3 {o o' o'' : Cop} {op op' op'' : CmpOp} {a b c d : Ev.E} {x y z u : Expr} (ho : OpR X (compareOp op) (opR X.K (cmpD o))) (ho' : OpR X (compareOp op') (opR X.K (cmpD o'))) (ho'' : OpR X (compareOp op'') (opR X.K (cmpD o'')))
    (ha : SO XR X Ek cl a x) (hb : SO XR X Ek cl b y) (hc : SO XR X Ek cl c z) (hd : SO XR X Ek cl d u) (hz : plainX u = true) : STt XR X Ek cl (.chn3 o o' o'' a b c d) (.Compare x [op, op', op''] [y, z, u] pos) :=
  (pt_chain3 ho ho' ho'' ha hb hc hd (by show behindInMarks op'' u = false; exact mark_plain hz _)).weak fun _ _ _ h => chn3_ok (rdT_E h)
end
end Ev

set_option Elab.async false
set_option linter.all false
set_option maxRecDepth 100000
set_option autoImplicit false
/-! Ev5f: comprehensions of two clauses. -/
namespace Ev
open PySem L2
section
variable {XR : Hp → (Addr → Prop) → Exn → Value → Option Addr → Prop} {X : Cx} {Ek : WX} {cl : Nat → List Ent → CRes} {pos : Pos} {σ : St} {H : Hp}
/-- the turns of an inner clause, at σ0 with the list at A: what goes on is told by Fin -/
theorem turns1 {lo : Bool} {B : Addr → Prop} {own own1 : List Nat} {t : Tgt} {c : Rho → R Bool} {f : Rho → R D} {xs : List D} {ρb : Rho} {σb : St} {Hb : Hp} {A : Addr} {J : L2.It} {P : List D → Rho → Prop} {XR' : Hp → (Addr → Prop) → Exn → Value → Option Addr → Prop}
    (hP : ∀ zs ρ, P zs ρ → zs.length ≤ sizeLine) (nA : Hb A = none) (sub : ∀ i ∈ own1, i ∈ own) {ρ : Rho} {σ : St} {H : Hp} {acc : List D} {Fin : Hp → Prop} (it : ItOk X.K lo J H (MM (fun a => B a ∨ a = A) ρ σ) xs) (hz : lo = t.isTup) (hsl : ∀ i ∈ t.slots, i ∈ own1)
    (L : LS X.K B own ρb σb Hb A ρ σ H acc)
    (g : Goes P (loopC own1 t c (fun ρ => (f ρ).bind fun d ρ => .ok [d] ρ) xs ρ) acc) (fin : ∀ ρ' σ' H' acc', LS X.K B own ρb σb Hb A ρ' σ' H' acc' → plainAt ρ' own1 = true → P acc' (wipeR ρ' own1) → Fin H') :
    ∃ W : Nat → Nat → Hp → Prop, (∃ m, W 0 m H) ∧ ∀ i m H, W i m H → (J.stop i H ∧ Fin H) ∨ (J.go i H ∧ ∃ Nx : Hp → Prop, (∀ H', Nx H' → ∃ m', m' < m ∧ W (i + 1) m' H') ∧ ∀ x H', J.yld i H x H' → gT X.K t x (L2.wipe σ own1) H' fun σ3 H5 => L2.wipe σ3 own1 = L2.wipe σ own1 ∧
      rdT X.K XR' Ew c σ3 H5 fun b H6 => if b = true then rdE X.K XR' Ew f σ3 H6 fun y H7 => ∃ acc, H7 A = some (.lst acc) ∧ acc.length < sizeLine ∧ Nx (upd H7 A (.lst (acc ++ [y]))) else Nx H6) := by
  let CI : Nat → Hp → Prop := fun i H' => i ≤ xs.length ∧ ∃ ρ' σ' acc', LS X.K B own ρb σb Hb A ρ' σ' H' acc' ∧ L2.wipe σ' own1 = L2.wipe σ own1 ∧ Stays H (MM (fun a => B a ∨ a = A) ρ σ) H' (MM (fun a => B a ∨ a = A) ρ' σ') ∧ Goes P (loopC own1 t c (fun ρ => (f ρ).bind fun d ρ => .ok [d] ρ) (xs.drop i) ρ') acc'
  refine ⟨fun i m H' => m = xs.length - i ∧ CI i H', ⟨_, rfl, Nat.zero_le _, ρ, σ, acc, L, rfl, fun a o e n => ⟨e, n⟩, g⟩, ?_⟩
  rintro i m Hi ⟨rfl, hi, ρi, σi, ai, Li, wi, st, g⟩
  have keep : ∀ a o, H a = some o → ¬ MM (fun a => B a ∨ a = A) ρ σ a → Hi a = some o := fun a o e n => (st a o e n).1
  by_cases hlt : i < xs.length
  · refine .inr ⟨it.go i Hi keep hlt, CI (i + 1), fun H' p => ⟨_, by omega, rfl, p⟩, fun x H' y => ?_⟩
    have ex : xs[i]? = some xs[i] := by simp [hlt]
    rw [List.drop_eq_getElem_cons hlt] at g
    obtain ⟨hp, ρ1, ok, ρ2, e1, e2, g⟩ := g.turn
    obtain ⟨sm, yl⟩ := it.yld i _ Hi x H' keep ex y
    -- the inner names forgotten
    have Sw := Li.sr.wipe hp
    have kw := kp_wipe (H := Hi) Li.sr.len hp trivial
    have ww : L2.wipe (L2.wipe σi own1) own = L2.wipe σi own := wipe_sub sub
    have Lw := Li.step Sw kw ww
    have stw : Stays H (MM (fun a => B a ∨ a = A) ρ σ) Hi (MM (fun a => B a ∨ a = A) (wipeR ρi own1) (L2.wipe σi own1)) := fun a o e n => by
      obtain ⟨q1, q2⟩ := st a o e n
      exact kw.stays a o q1 q2
    rw [wi] at Lw stw
    have Lh := Lw.step (Lw.sr.same sm) (Kp.same sm) rfl
    have rx := yl _ Lw.sr.mb stw
    refine tgt_okY hz Lh.sr rx e1 fun σ1 S1 k1 w1 => ?_
    have w2 := w1 own1 hsl
    have w3 := w1 own fun i hi => sub i (hsl i hi)
    have L1 := Lh.step S1 k1 w3
    have st1 : Stays H (MM (fun a => B a ∨ a = A) ρ σ) H' (MM (fun a => B a ∨ a = A) ρ1 σ1) := fun a o e n => by
      obtain ⟨q1, q2⟩ := stw a o e n
      exact k1.stays a o (sm a o q1) q2
    have wz : L2.wipe σ1 own1 = L2.wipe σ own1 := by rw [w2, wipe_wipe]
    refine ⟨wz, rdT_ok S1 e2 fun H2 S2 k2 => ?_⟩
    have L2' := L1.step S2 k2 rfl
    have st2 : Stays H (MM (fun a => B a ∨ a = A) ρ σ) H2 (MM (fun a => B a ∨ a = A) ρ2 σ1) := fun a o e n => by
      obtain ⟨q1, q2⟩ := st1 a o e n
      exact k2.stays a o q1 q2
    cases ok with
    | false => exact ⟨hlt, ρ2, σ1, ai, L2', wz, st2, g⟩
    | true =>
      obtain ⟨zs, ρz, ez, pz⟩ := g
      obtain ⟨ys, ρ3, e3, e4⟩ := noEx_ok (show ((f ρ2).bind fun d ρ => R.ok [d] ρ).noEx.bind _ = .ok zs ρz from ez)
      obtain ⟨d, ρ4, e5, e6⟩ := R.bind_ok e3
      cases e6
      have g3 : Goes P (loopC own1 t c (fun ρ => (f ρ).bind fun d ρ => .ok [d] ρ) (xs.drop (i + 1)) ρ3) (ai ++ [d]) := Goes.bind_one ⟨zs, ρz, e4, pz⟩
      refine rdE_ok S2 e5 fun v H3 S3 k3 r3 => ?_
      have L3 := L2'.step S3 k3 rfl
      have st3 : Stays H (MM (fun a => B a ∨ a = A) ρ σ) H3 (MM (fun a => B a ∨ a = A) ρ3 σ1) := fun a o e n => by
        obtain ⟨q1, q2⟩ := st2 a o e n
        exact k3.stays a o q1 q2
      obtain ⟨xs', ea, la, La⟩ := L3.app nA r3
      refine ⟨xs', ea, ?_, hlt, ρ3, σ1, _, La, wz, fun a o e n => ?_, g3⟩
      · obtain ⟨_, _, _, p3⟩ := g3
        have := hP _ _ p3
        simp at this
        omega
      · obtain ⟨q1, q2⟩ := st3 a o e n
        exact ⟨by rw [upd_ne fun z => q2 (.inl (.inr z))]; exact q1, q2⟩
  · have e : i = xs.length := by omega
    subst e
    rw [List.drop_length] at g
    obtain ⟨hp, p⟩ := g.done
    exact .inl ⟨it.stop _ Hi keep (Nat.le_refl _), fin _ _ _ _ Li hp p⟩
variable {own own1 : List Nat} {e : Ev.E} {t t1 : Tgt} {it it1 : Ev.It} {c c1 : Oe} {Q : VK}
theorem comp2_ok {lo lo1 : Bool} (hz : lo = t.isTup) (hz1 : lo1 = t1.isTup) (sub : ∀ i ∈ own1, i ∈ own) (hsl : ∀ i ∈ t.slots, i ∈ own) (hsl1 : ∀ i ∈ t1.slots, i ∈ own1) (h : rdF X.K XR Ek (ev cl (.comp2 own e t it c own1 t1 it1 c1)) σ H Q) :
    tLc2 (rdI X.K lo XR Ek (evit cl it)) (gT X.K t) (rdT X.K XR Ew (evc cl c)) (rdI X.K lo1 XR Ew (evit cl it1)) (gT X.K t1) (rdT X.K XR Ew (evc cl c1)) (rdE X.K XR Ew (ev cl e)) own own1 σ H Q := by
  obtain ⟨B, ρ, S, h⟩ := h
  refine ⟨B, ρ, S, ?_⟩
  have h : PstF X.K XR Ek B ρ σ H ((evit cl it ρ).bind fun xs ρ => (compC own t (evc cl c) (fun ρ => (evit cl it1 ρ).bind fun ys ρ => loopC own1 t1 (evc cl c1) (fun ρ => (ev cl e ρ).bind fun d ρ => .ok [d] ρ) ys ρ) xs ρ).bind fun zs ρ => .ok (.list zs) ρ) Q := h
  cases e1 : evit cl it ρ with
  | no => rw [e1] at h; exact h.elim
  | ex x ρ1 => rw [e1] at h; exact h
  | ok xs ρ1 =>
    rw [e1] at h
    intro J H1 S1 k1 io A nA
    obtain ⟨hp, g⟩ := compC_goes (PstF.shift k1 h)
    have io' : ItOk X.K lo J H1 (MM B (wipeR ρ1 own) (L2.wipe σ own)) xs :=
      ⟨fun i H h hi => io.go i H (fun a o e n => h a o e fun z => n ((mm_wipe S1.len hp).mp z)) hi, fun i d H x H' h e y => by
        obtain ⟨s, q⟩ := io.yld i d H x H' (fun a o e n => h a o e fun z => n ((mm_wipe S1.len hp).mp z)) e y
        exact ⟨s, fun M' tr st => q M' tr fun a o e n => st a o e fun z => n ((mm_wipe S1.len hp).mp z)⟩,
       fun i H h hi => io.stop i H (fun a o e n => h a o e fun z => n ((mm_wipe S1.len hp).mp z)) hi⟩
    have w : L2.wipe (L2.wipe σ own) own = L2.wipe σ own := wipe_wipe
    have L0 := LS.start S1 hp nA
    let PP := BlkEnd X.K XR Ek B ρ1 σ H1 own Q
    let body : Rho → R (List D) := fun ρ => (evit cl it1 ρ).bind fun ys ρ => loopC own1 t1 (evc cl c1) (fun ρ => (ev cl e ρ).bind fun d ρ => .ok [d] ρ) ys ρ
    let CI : Nat → Hp → Prop := fun i H => i ≤ xs.length ∧ ∃ ρ' σ' acc, LS X.K B own (wipeR ρ1 own) (L2.wipe σ own) H1 A ρ' σ' H acc ∧ Goes PP (loopC own t (evc cl c) body (xs.drop i) ρ') acc
    refine ⟨fun i m H => m = xs.length - i ∧ CI i H, ⟨_, rfl, Nat.zero_le _, _, _, [], L0, g⟩, ?_⟩
    rintro i m Hi ⟨rfl, hi, ρi, σi, ai, Li, g⟩
    have keep : ∀ a o, H1 a = some o → ¬ MM B (wipeR ρ1 own) (L2.wipe σ own) a → Hi a = some o := fun a o e n => (Li.stays nA a o e n).1
    by_cases hlt : i < xs.length
    · refine .inr ⟨io'.go i Hi keep hlt, CI (i + 1), fun H' p => ⟨_, by omega, rfl, p⟩, fun x H' y => ?_⟩
      have ex : xs[i]? = some xs[i] := by simp [hlt]
      rw [List.drop_eq_getElem_cons hlt] at g
      obtain ⟨hp', ρ2, ok, ρ3, e2, e3, g⟩ := g.turn
      obtain ⟨sm, yl⟩ := io'.yld i _ Hi x H' keep ex y
      have Lw := Li.wiped hp'
      rw [w] at Lw
      have Lh := Lw.step (Lw.sr.same sm) (Kp.same sm) rfl
      have rx := yl _ Lw.sr.mb (Lw.stays nA)
      refine tgt_okY hz Lh.sr rx e2 fun σ2 S2 k2 w2 => ?_
      have w2' := w2 own hsl
      have L2' := Lh.step S2 k2 w2'
      refine ⟨by rw [w2', w], rdT_ok S2 e3 fun H3 S3 k3 => ?_⟩
      have L3 := L2'.step S3 k3 rfl
      cases ok with
      | false => exact ⟨hlt, ρ3, σ2, ai, L3, g⟩
      | true =>
        obtain ⟨zs, ρz, ez, pz⟩ := g
        obtain ⟨ys, ρ4, e4, e5⟩ := noEx_ok (show (body ρ3).noEx.bind _ = .ok zs ρz from ez)
        obtain ⟨ws, ρ5, e6, e7⟩ := R.bind_ok (show (evit cl it1 ρ3).bind _ = .ok ys ρ4 from e4)
        refine rdI_ok S3 e6 fun J1 H4 S4 k4 io1 => ?_
        have L4 := L3.step S4 k4 rfl
        have g1 : Goes (fun zs ρ => zs = ai ++ ys ∧ ρ = ρ4) (loopC own1 t1 (evc cl c1) (fun ρ => (ev cl e ρ).bind fun d ρ => .ok [d] ρ) ws ρ5) ai := ⟨ys, ρ4, e7, rfl, rfl⟩
        have gr : Goes PP (loopC own t (evc cl c) body (xs.drop (i + 1)) ρ4) (ai ++ ys) := Goes.bind_all ⟨zs, ρz, e5, pz⟩
        have len : (ai ++ ys).length ≤ sizeLine := by
          obtain ⟨q, _, _, p3⟩ := gr
          have := p3.1
          rw [List.length_append] at this
          omega
        refine turns1 (X := X) (XR' := XR) (Fin := CI (i + 1)) (P := fun zs ρ => zs = ai ++ ys ∧ ρ = ρ4) (fun zs ρ p => by rw [p.1]; exact len) nA sub io1 hz1 hsl1 L4 g1 fun ρ6 σ6 H6 a6 L6 hp6 p6 => ?_
        obtain ⟨pa, pb⟩ := p6
        subst pa
        have Sw := L6.sr.wipe hp6
        have kw := kp_wipe (H := H6) L6.sr.len hp6 trivial
        have Lw6 := L6.step Sw kw (wipe_sub sub)
        rw [pb] at Lw6
        exact ⟨hlt, ρ4, _, _, Lw6, gr⟩
    · have e : i = xs.length := by omega
      subst e
      rw [List.drop_length] at g
      obtain ⟨hp', p⟩ := g.done
      exact .inl ⟨io'.stop _ Hi keep (Nat.le_refl _), blk_fin S1 hp nA Li hp' p⟩
/-- [e for t in it if c for t1 in it1 if c1] -/
theorem s_comp2 {elt tg iter tg1 iter1 : Expr} {ifs ifs1 : List Expr} {scope : Scope} {ow : List (Str × Nat)} (hc : X.calm = true) (hN : X.N.Nodup) (hi : SW XR X Ek cl tg it iter) (ok : BlkOk X.N X.env.scope scope ow) (hz : isTupE tg = t.isTup) (hz1 : isTupE tg1 = t1.isTup) (sub : ∀ i ∈ own1, i ∈ ow.map (·.2)) (hsl : ∀ i ∈ t.slots, i ∈ ow.map (·.2)) (hsl1 : ∀ i ∈ t1.slots, i ∈ own1) (hp : plainX iter = true) (hp1 : plainX iter1 = true)
    (hg : ∀ (s : Shared) (H : Hp) (C : Addr) (cl : List (Str × Addr)) (fp : List Addr), PG (X.blk s H scope (compEnvC scope cl C X.env) fp) tg (gT X.K t))
    (ht : ∀ (s : Shared) (H : Hp) (C : Addr) (cc : List (Str × Addr)) (fp : List Addr), PTs (X.blk s H scope (compEnvC scope cc C X.env) fp) ifs (rdT X.K XR Ew (evc cl c)))
    (hi1 : ∀ (s : Shared) (H : Hp) (C : Addr) (cc : List (Str × Addr)) (fp : List Addr), SW XR (X.blk s H scope (compEnvC scope cc C X.env) fp) Ew cl tg1 it1 iter1)
    (hg1 : ∀ (s : Shared) (H : Hp) (C : Addr) (cl : List (Str × Addr)) (fp : List Addr), PG (X.blk s H scope (compEnvC scope cl C X.env) fp) tg1 (gT X.K t1))
    (ht1 : ∀ (s : Shared) (H : Hp) (C : Addr) (cc : List (Str × Addr)) (fp : List Addr), PTs (X.blk s H scope (compEnvC scope cc C X.env) fp) ifs1 (rdT X.K XR Ew (evc cl c1)))
    (he : ∀ (s : Shared) (H : Hp) (C : Addr) (cc : List (Str × Addr)) (fp : List Addr), SE XR (X.blk s H scope (compEnvC scope cc C X.env) fp) Ew cl e elt) :
    SF XR X Ek cl (.comp2 (ow.map (·.2)) e t it c own1 t1 it1 c1) (.ListComp elt [⟨tg, iter, ifs, 0⟩, ⟨tg1, iter1, ifs1, 0⟩] scope pos) :=
  (pe_lc2 hc hN hi ok sub hg ht hi1 hg1 ht1 he (fold_plain hp _) (fun env => fold_plain hp1 env)).weak fun _ _ _ h => comp2_ok hz hz1 sub hsl hsl1 h
theorem own_comp2 {elt : Ev.E} : ∀ ρ d ρ', ev cl (.comp2 own elt t it c own1 t1 it1 c1) ρ = .ok d ρ' → ownable d = true := fun ρ d ρ' h => by
  obtain ⟨xs, ρ1, _, h⟩ := R.bind_ok h
  obtain ⟨zs, ρ2, _, h⟩ := R.bind_ok h
  cases h
  rfl
end
end Ev

set_option Elab.async false
set_option linter.all false
set_option maxRecDepth 100000
set_option autoImplicit false
/-! Ev8a: what the check of a text against its terms looks at. -/
namespace Ev
open PySem L2
/-- names of defs (with their numbers), of constants, of built-in things -/
structure Tab where
  fns : List (Str × Nat)
  cons : List (Str × D)
  blts : List Str
  excs : List Str
/-! ### equality of data -/
mutual
def eqD : D → D → Bool
  | .none, .none => true
  | .bool a, .bool b => a == b
  | .int a, .int b => a == b
  | .str a, .str b => a == b
  | .list a, .list b => eqDs a b
  | .tuple a, .tuple b => eqDs a b
  | _, _ => false
def eqDs : List D → List D → Bool
  | [], [] => true
  | a :: as, b :: bs => eqD a b && eqDs as bs
  | _, _ => false
end
mutual
theorem eqD_ok : ∀ a b : D, eqD a b = true → a = b
  | .none, b, h => by cases b <;> first | rfl | (simp [eqD] at h)
  | .bool a, b, h => by cases b <;> first | (simp [eqD] at h; done) | (simp [eqD] at h; rw [h])
  | .int a, b, h => by cases b <;> first | (simp [eqD] at h; done) | (simp [eqD] at h; rw [h])
  | .str a, b, h => by cases b <;> first | (simp [eqD] at h; done) | (simp [eqD] at h; rw [h])
  | .list a, b, h => by
    cases b <;> first | (simp [eqD] at h; done) | skip
    rename_i bs
    rw [eqDs_ok a bs (by simpa [eqD] using h)]
  | .tuple a, b, h => by
    cases b <;> first | (simp [eqD] at h; done) | skip
    rename_i bs
    rw [eqDs_ok a bs (by simpa [eqD] using h)]
  | .dict a, b, h => by simp [eqD] at h
theorem eqDs_ok : ∀ a b : List D, eqDs a b = true → a = b
  | [], [], _ => rfl
  | [], _ :: _, h => by simp [eqDs] at h
  | _ :: _, [], h => by simp [eqDs] at h
  | a :: as, b :: bs, h => by
    simp only [eqDs, Bool.and_eq_true] at h
    rw [eqD_ok a b h.1, eqDs_ok as bs h.2]
end
/-! ### names -/
def visB (sc : Scope) (x : Str) : Bool := match sc.names.lookup x with
  | some .local => true | some .cell => true | some .free => true | _ => false
def glB (sc : Scope) (x : Str) : Bool := match sc.names.lookup x with
  | some .globalImplicit => true | _ => false
def locB (sc : Scope) (x : Str) : Bool := match sc.names.lookup x with
  | some .local => true | some .cell => true | _ => false
def isLoc (sc : Scope) (x : Str) : Bool := match sc.names.lookup x with
  | some .local => true | _ => false
def plainName (x : Str) : Bool := !(x == ("__debug__" : Str)) && !(x == ("__classdict__" : Str))
def slotB (N : List Str) (i : Nat) (x : Str) : Bool := decide (N[i]? = some x)
theorem visB_ok {sc : Scope} {x : Str} (h : visB sc x = true) : Vis sc x := by
  unfold visB at h
  split at h <;> first | (rename_i e; exact .inl e) | (rename_i e; exact .inr (.inl e)) | (rename_i e; exact .inr (.inr e)) | cases h
theorem glB_ok {sc : Scope} {x : Str} (h : glB sc x = true) : sc.names.lookup x = some .globalImplicit := by
  unfold glB at h
  split at h <;> first | assumption | cases h
theorem locB_ok {sc : Scope} {x : Str} (h : locB sc x = true) : sc.names.lookup x = some .local ∨ sc.names.lookup x = some .cell := by
  unfold locB at h
  split at h <;> first | (rename_i e; exact .inl e) | (rename_i e; exact .inr e) | cases h
theorem isLoc_ok {sc : Scope} {x : Str} (h : isLoc sc x = true) : sc.names.lookup x = some .local := by
  unfold isLoc at h
  split at h <;> first | assumption | cases h
theorem plainName_ok {x : Str} (h : plainName x = true) : (x == ("__debug__" : Str)) = false ∧ (x == ("__classdict__" : Str)) = false := by
  unfold plainName at h
  simp only [Bool.and_eq_true, Bool.not_eq_true'] at h
  exact h
/-! ### operators -/
def bopB : Bop → Operator → Bool
  | .add, .Add => true
  | .sub, .Sub => true
  | .mul, .Mult => true
  | .fdiv, .FloorDiv => true
  | .mod, .Mod => true
  | _, _ => false
theorem bop_ok {X : Cx} {o : Bop} {op : Operator} (h : bopB o op = true) : OpR X (binaryOp op) (opR X.K (binF o)) := by
  cases o <;> cases op <;> first | cases h | skip
  · exact or_add
  · exact or_sub
  · exact or_mul
  · exact or_fdiv
  · exact or_mod
def bopFB : Bop → Operator → Bool
  | .add, .Add => true
  | .mul, .Mult => true
  | _, _ => false
theorem bopF_ok {X : Cx} {o : Bop} {op : Operator} (h : bopFB o op = true) : OpR X (binaryOp op) (opRF X.K (binF o)) := by
  cases o <;> cases op <;> first | cases h | skip
  · exact or_addF
  · exact or_mulF
def bopIB : Bop → Operator → Bool
  | .add, .Add => true
  | .sub, .Sub => true
  | .mul, .Mult => true
  | _, _ => false
theorem bopI_ok {X : Cx} {o : Bop} {op : Operator} (h : bopIB o op = true) : PIp X op (opR X.K (augF o)) := by
  cases o <;> cases op <;> first | cases h | skip
  · exact io_add
  · exact io_sub
  · exact io_mul
def copB : Cop → CmpOp → Bool
  | .eq, .Eq => true
  | .ne, .NotEq => true
  | .lt, .Lt => true
  | .le, .LtE => true
  | .gt, .Gt => true
  | .ge, .GtE => true
  | .in_, .In => true
  | .nin, .NotIn => true
  | _, _ => false
theorem cop_ok {X : Cx} {n : Nat} {o : Cop} {op : CmpOp} (r : Room n X.A) (h : copB o op = true) : OpR X (compareOp op) (opR X.K (cmpD o)) := by
  have hu := r.un
  cases o <;> cases op <;> first | cases h | skip
  · exact or_eq (by omega)
  · exact or_ne (by omega)
  · exact or_lt (by omega)
  · exact or_le (by omega)
  · exact or_gt (by omega)
  · exact or_ge (by omega)
  · exact or_in (by omega)
  · exact or_nin (by omega)
/-! ### what the names of the module stand for -/
structure Glb (P : Program) (w : World) (K : PySem.W.Frag) (mg : Str → Option Value) (base : Heap) (XR : Hp → (Addr → Prop) → Exn → Value → Option Addr → Prop) (tb : Nat → Option Fn) (n : Nat) (T : Tab) : Prop where
  hX : XMono XR
  fn : ∀ x f, T.fns.lookup x = some f → ∃ fa fd ps fn, tb f = some fn ∧ fn.params = ps.length ∧ mg x = some (.ref fa) ∧ PySem.W.keepIn K (.ref fa) = true ∧ Binds K fd ps [] ∧ FnG P w K mg base (L2.CX P w) n fa fd ps (spF K XR (callF tb n) fn.params f)
  con : ∀ x d, T.cons.lookup x = some d → ∃ v u, mg x = some u ∧ RelV v u ∧ Rp K NoH (fun _ => False) d v
  blt : ∀ x, x ∈ T.blts → mg x = none
  exc : ∀ x, x ∈ T.excs → ∃ C, ExcF K mg x C ∧ (∀ H M c d, c = .ref C → d = none → XR H M ⟨0, []⟩ c d) ∧ (∀ H M y c d, y.cls = 0 → XR H M y c d → c = .ref C ∧ d = none)
abbrev Gx (X : Cx) (XR : Hp → (Addr → Prop) → Exn → Value → Option Addr → Prop) (tb : Nat → Option Fn) (n : Nat) (T : Tab) : Prop := Glb X.prog X.w X.K X.mg X.base XR tb n T
def bltB (T : Tab) (sc : Scope) (x : Str) : Bool := glB sc x && decide (x ∈ T.blts)
/-- what a method may be asked of, so that the asking needs no look at super() -/
def attrP : Expr → Bool
  | .Name _ _ => true
  | .Subscript _ _ _ => true
  | _ => false
def P1.name : P1 → Str
  | .len => "len" | .tuple => "tuple" | .list => "list" | .int => "int" | .abs => "abs" | .sum => "sum" | .max => "max" | .min => "min" | .any => "any" | .all => "all" | .sorted => "sorted" | .repr => "repr" | .str => "str" | .tupRev => "tuple" | .setLen => "len" | .lrange => "list"
def P2.name : P2 → Str
  | .max => "max" | .min => "min" | .lrange => "list"
def P1.ok : P1 → Bool
  | .str => false
  | .tupRev => false
  | .setLen => false
  | .lrange => false
  | _ => true
def Ty.nm : Ty → Str
  | .int => "int" | .bool => "bool" | .str => "str" | .tuple => "tuple" | .list => "list" | .dict => "dict"
section
variable {XR : Hp → (Addr → Prop) → Exn → Value → Option Addr → Prop} {X : Cx} {Ek : WX} {n : Nat} {sc : Scope} {cl : Nat → List Ent → CRes} {pos p1 : Pos} {e eb : Ev.E} {a b : Expr}
theorem p1_ok {o : P1} (c : Cok X Ek n sc) (hg : Gl X o.name) (hm : X.mg o.name = none) (ho : o.ok = true) (ha : SO XR X Ek cl e a) (hp : plainX a = true) : SE XR X Ek cl (.p1 o e) (.Call (.Name o.name p1) [a] [] pos) := by
  have hu := c.room.un
  cases o <;> first | cases ho | skip
  · exact s_c1B cr_len hg hm (by decide +kernel) ha hp (by decide) (by decide)
  · exact s_c1T cr_tuple hg hm (by decide +kernel) ha hp (by decide) (by decide)
  · exact s_c1T cr_list hg hm (by decide +kernel) ha hp (by decide) (by decide)
  · exact s_c1T cr_int hg hm (by decide +kernel) ha hp (by decide) (by decide)
  · exact s_c1B cr_absI hg hm (by decide +kernel) ha hp (by decide) (by decide)
  · exact s_c1B (cr_sumI c.calm) hg hm (by decide +kernel) ha hp (by decide) (by decide)
  · exact s_c1B (cr_maxI c.calm (by omega)) hg hm (by decide +kernel) ha hp (by decide) (by decide)
  · exact s_c1B (cr_minI c.calm (by omega)) hg hm (by decide +kernel) ha hp (by decide) (by decide)
  · exact s_c1B (cr_anyB c.calm) hg hm (by decide +kernel) ha hp (by decide) (by decide)
  · exact s_c1B (cr_allB c.calm) hg hm (by decide +kernel) ha hp (by decide) (by decide)
  · exact s_c1B (cr_sortedE (by omega)) hg hm (by decide +kernel) ha hp (by decide) (by decide)
  · exact s_c1B (cr_repr c.gd (by omega)) hg hm (by decide +kernel) ha hp (by decide) (by decide)
theorem p2_ok {o : P2} (hol : o ≠ .lrange) (c : Cok X Ek n sc) (hg : Gl X o.name) (hm : X.mg o.name = none) (ha : SO XR X Ek cl e a) (hb : SO XR X Ek cl eb b) (hp : plainX a = true) (hq : plainX b = true) : SE XR X Ek cl (.p2 o e eb) (.Call (.Name o.name p1) [a, b] [] pos) := by
  cases o
  · exact s_c2B (cr_max2I c.calm) hg hm (by decide +kernel) ha hb hp hq (by decide) (by decide)
  · exact s_c2B (cr_min2I c.calm) hg hm (by decide +kernel) ha hb hp hq (by decide) (by decide)
  · exact absurd rfl hol
theorem isi_ok {t : Ty} {p2 : Pos} (hg : Gl X "isinstance") (hm : X.mg "isinstance" = none) (hg2 : Gl X t.nm) (hm2 : X.mg t.nm = none) (ha : SO XR X Ek cl e a) (hp : plainX a = true) : SE XR X Ek cl (.isi e t) (.Call (.Name "isinstance" p1) [a, .Name t.nm p2] [] pos) := by
  cases t <;> exact s_isi hg hm hg2 hm2 (by decide +kernel) (by decide) (by decide) ha hp
end
end Ev

set_option Elab.async false
set_option linter.all false
set_option maxRecDepth 100000
set_option autoImplicit false
/-! Ev8: the check of an expression against its term. -/
namespace Ev
open PySem L2
/-- terms that may stand as a test -/
def tOk : Ev.E → Bool
  | .ite _ _ _ => false
  | _ => true
def tOks : Es → Bool
  | .nil => true
  | .cons e r => tOk e && tOks r
def isNil : Es → Bool
  | .nil => true
  | _ => false
/-- the names of a target -/
def chkNs (N : List Str) (stor : Str → Bool) : List Nat → List Expr → Bool
  | [], [] => true
  | i :: is, .Name x _ :: es => slotB N i x && stor x && chkNs N stor is es
  | _, _ => false
def chkG (N : List Str) (stor : Str → Bool) : Tgt → Expr → Bool
  | .one i, a => (match a with | .Name x _ => slotB N i x && stor x | _ => false)
  | .tup is, a => (match a with | .Tuple es _ _ => chkNs N stor is es | _ => false)
def storB (scope : Scope) (x : Str) : Bool := locB scope x
def ownsOf (N : List Str) (own : List Nat) : List (Str × Nat) := own.map fun i => ((N[i]?).getD "", i)
section
variable (T : Tab) (N : List Str)
mutual
def chkE : Scope → Ev.E → Expr → Bool
  | sc, .v i, a => (match a with | .Name x _ => slotB N i x && visB sc x && plainName x | _ => false)
  | _, .k d, a => (match a with
    | .Constant c _ _ => (match d, c with
      | .int i, .int j => i == j
      | .str i, .str j => i == j
      | .bool i, .bool j => i == j
      | .none, .none => true
      | _, _ => false)
    | _ => false)
  | sc, .g d, a => (match a with
    | .Name x _ => glB sc x && plainName x && (match T.cons.lookup x with | some d' => eqD d d' | none => false)
    | _ => false)
  | sc, .tup es, a => (match a with | .Tuple as _ _ => chkEs sc es as | _ => false)
  | sc, .lst es, a => (match a with | .List as _ => chkEs sc es as | _ => false)
  | sc, .bin o e e', a => (match a with | .BinOp x op y _ => bopB o op && chkE sc e x && chkE sc e' y | _ => false)
  | sc, .cmp o e e', a => (match a with | .Compare x [op] [y] _ => copB o op && chkE sc e x && chkE sc e' y && plainX y | _ => false)
  | sc, .chn o o' e e' e'', a => (match a with | .Compare x [op, op'] [y, z] _ => copB o op && copB o' op' && chkE sc e x && chkE sc e' y && chkE sc e'' z && plainX z | _ => false)
  | sc, .chn3 o o' o'' e e' e'' e3, a => (match a with | .Compare x [op, op', op''] [y, z, u] _ => copB o op && copB o' op' && copB o'' op'' && chkE sc e x && chkE sc e' y && chkE sc e'' z && chkE sc e3 u && plainX u | _ => false)
  | sc, .and_ es, a => (match a with | .BoolOp .And as _ => chkEs sc es as && tOks es && !isNil es | _ => false)
  | sc, .or_ es, a => (match a with | .BoolOp .Or as _ => chkEs sc es as && tOks es && !isNil es | _ => false)
  | sc, .not_ e, a => (match a with | .UnaryOp .Not x _ => chkE sc e x && tOk e | _ => false)
  | sc, .neg e, a => (match a with | .UnaryOp .USub x _ => chkE sc e x | _ => false)
  | sc, .isN e, a => (match a with | .Compare x [.Is] [.Constant .none _ _] _ => chkE sc e x | _ => false)
  | sc, .notN e, a => (match a with | .Compare x [.IsNot] [.Constant .none _ _] _ => chkE sc e x | _ => false)
  | sc, .ite c e e', a => (match a with | .IfExp x y z _ => chkE sc c x && tOk c && chkE sc e y && chkE sc e' z | _ => false)
  | sc, .idx e e', a => (match a with | .Subscript x y _ => chkE sc e x && chkE sc e' y && plainX y | _ => false)
  | sc, .slc e lo hi, a => (match a with | .Subscript x (.Slice l h none _) _ => chkE sc e x && chkO sc lo l && chkO sc hi h | _ => false)
  | sc, .call f es, a => (match a with | .Call (.Name x _) as [] _ => glB sc x && decide (T.fns.lookup x = some f) && plainName x && chkEs sc es as | _ => false)
  | sc, .callp f i es, a => (match a with | .Call (.Name x _) (.Name y _ :: as) [] _ => glB sc x && decide (T.fns.lookup x = some f) && plainName x && slotB N i y && visB sc y && plainName y && chkEs sc es as | _ => false)
  | sc, .rev e, a => (match a with | .Subscript x (.Slice none none (some (.UnaryOp .USub (.Constant (.int 1) _ _) _)) _) _ => chkE sc e x | _ => false)
  | sc, .popi i e, a => (match a with | .Call (.Attribute (.Name x _) m apos) [y] [] cpos => decide (m = "pop") && slotB N i x && visB sc x && plainName x && (apos.endLine == cpos.line) && chkE sc e y && plainX y | _ => false)
  | sc, .m1t o e e', a => (match a with | .Call (.Attribute x m apos) [y] [] cpos => decide (m = (match o with | .count => "count" | .index => "index" : Str)) && attrP x && chkE sc e x && chkE sc e' y && plainX y && (apos.endLine == cpos.line) | _ => false)
  | sc, .m1 o e e', a => (match a with | .Call (.Attribute x m apos) [y] [] cpos => decide (m = (match o with | .count => "count" | .index => "index" : Str)) && attrP x && chkE sc e x && chkE sc e' y && plainX y && (apos.endLine == cpos.line) | _ => false)
  | sc, .p1 o e, a => (match a with
    | .Call (.Name x _) [y] [] _ => if o = .tupRev then (match y with | .Call (.Name u _) [z] [] _ => bltB T sc x && decide (x = "tuple") && bltB T sc u && decide (u = "reversed") && chkE sc e z && plainX z | _ => false)
      else if o = .setLen then (match y with | .Call (.Name u _) [z] [] _ => bltB T sc x && decide (x = "len") && bltB T sc u && decide (u = "set") && chkE sc e z && plainX z | _ => false)
      else if o = .lrange then (match y with | .Call (.Name u _) [z] [] _ => bltB T sc x && decide (x = "list") && bltB T sc u && decide (u = "range") && chkE sc e z && plainX z | _ => false)
      else o.ok && bltB T sc x && decide (x = o.name) && chkE sc e y && plainX y
    | _ => false)
  | sc, .p2 o e e', a => (match a with
    | .Call (.Name x _) [.Call (.Name u _) [y, z] [] _] [] _ => decide (o = .lrange) && bltB T sc x && decide (x = "list") && bltB T sc u && decide (u = "range") && chkE sc e y && plainX y && chkE sc e' z && plainX z
    | .Call (.Name x _) [y, z] [] _ => decide (o ≠ .lrange) && bltB T sc x && decide (x = o.name) && chkE sc e y && plainX y && chkE sc e' z && plainX z | _ => false)
  | sc, .isi e t, a => (match a with | .Call (.Name x _) [y, .Name z _] [] _ => bltB T sc x && decide (x = "isinstance") && bltB T sc z && decide (z = t.nm) && chkE sc e y && plainX y | _ => false)
  | sc, .popv i, a => (match a with | .Call (.Attribute (.Name x _) m apos) [] [] cpos => decide (m = "pop") && slotB N i x && visB sc x && plainName x && (apos.endLine == cpos.line) | _ => false)
  | sc, .comp own e t it c, a => (match a with
    | .ListComp elt [⟨tg, iter, ifs, 0⟩] scope _ => chkI sc it tg iter && plainX iter && blkC N sc scope (ownsOf N own) && t.slots.all (fun i => decide (i ∈ own)) && chkG N (storB scope) t tg && chkC (relS scope sc) c ifs && chkE (relS scope sc) e elt
    | _ => false)
  | sc, .comp2 own e t it c own1 t1 it1 c1, a => (match a with
    | .ListComp elt [⟨tg, iter, ifs, 0⟩, ⟨tg1, iter1, ifs1, 0⟩] scope _ => chkI sc it tg iter && plainX iter && blkC N sc scope (ownsOf N own) && t.slots.all (fun i => decide (i ∈ own)) && own1.all (fun i => decide (i ∈ own)) && t1.slots.all (fun i => decide (i ∈ own1)) && chkG N (storB scope) t tg && chkC (relS scope sc) c ifs
        && chkI (relS scope sc) it1 tg1 iter1 && plainX iter1 && chkG N (storB scope) t1 tg1 && chkC (relS scope sc) c1 ifs1 && chkE (relS scope sc) e elt
    | _ => false)
  | _, .dct kvs, a => (match a with
    | .Dict [] [] _ => (match kvs with | [] => true | _ => false)
    | .Dict [some (.Constant (.str k) _ _)] [.Constant (.int v) _ _] _ => (match kvs with | [(.str k', .int v')] => k == k' && v == v' | _ => false)
    | _ => false)
  | _, _, _ => false
def chkEs : Scope → Es → List Expr → Bool
  | _, .nil, a => (match a with | [] => true | _ => false)
  | sc, .cons e r, a => (match a with | x :: xs => chkE sc e x && plainX x && chkEs sc r xs | _ => false)
def chkO : Scope → Oe → Option Expr → Bool
  | _, .no, a => (match a with | none => true | _ => false)
  | sc, .yes e, a => (match a with | some x => chkE sc e x | _ => false)
def chkC : Scope → Oe → List Expr → Bool
  | _, .no, a => (match a with | [] => true | _ => false)
  | sc, .yes e, a => (match a with | [x] => chkE sc e x && tOk e | _ => false)
def chkI : Scope → Ev.It → Expr → Expr → Bool
  | sc, .ov e, _, a => chkE sc e a
  | sc, .rng1 e, _, a => (match a with | .Call (.Name x _) [y] [] _ => bltB T sc x && decide (x = "range") && chkE sc e y && plainX y | _ => false)
  | sc, .rng2 e e', _, a => (match a with | .Call (.Name x _) [y, z] [] _ => bltB T sc x && decide (x = "range") && chkE sc e y && plainX y && chkE sc e' z && plainX z | _ => false)
  | sc, .rng3 e e' e'', _, a => (match a with | .Call (.Name x _) [y, z, u] [] _ => bltB T sc x && decide (x = "range") && chkE sc e y && plainX y && chkE sc e' z && plainX z && chkE sc e'' u && plainX u | _ => false)
  | sc, .zip e e', tg, a => (match tg with
    | .Tuple _ _ _ => (match a with | .Call (.Name x _) [y, z] [] _ => bltB T sc x && decide (x = "zip") && chkE sc e y && plainX y && chkE sc e' z && plainX z | _ => false)
    | _ => false)
  | sc, .rvs e, _, a => (match a with | .Call (.Name x _) [y] [] _ => bltB T sc x && decide (x = "reversed") && chkE sc e y && plainX y | _ => false)
end
/-- what makes a new list -/
def chkF : Scope → Ev.E → Expr → Bool
  | sc, .lst es, a => (match a with | .List as _ => chkEs T N sc es as | _ => false)
  | sc, .bin o e e', a => (match a with | .BinOp x op y _ => bopFB o op && chkE T N sc e x && chkE T N sc e' y | _ => false)
  | sc, .slc e lo hi, a => (match a with | .Subscript x (.Slice l h none _) _ => chkE T N sc e x && chkO T N sc lo l && chkO T N sc hi h | _ => false)
  | sc, .callo f es, a => (match a with | .Call (.Name x _) (y :: as) [] _ => glB sc x && decide (T.fns.lookup x = some f) && plainName x && chkEs T N sc es (y :: as) | _ => false)
  | sc, .p1 o e, a => (match a with | .Call (.Name x _) [y] [] _ => (o == .list || o == .sorted) && bltB T sc x && decide (x = o.name) && chkE T N sc e y && plainX y | _ => false)
  | sc, .comp own e t it c, a => chkE T N sc (.comp own e t it c) a
  | _, _, _ => false
end
/-! ### it is right -/
section
variable {XR : Hp → (Addr → Prop) → Exn → Value → Option Addr → Prop} {X : Cx} {tb : Nat → Option Fn} {n : Nat} {T : Tab} {N : List Str} {sc : Scope} {Ek : WX}
theorem slotB_ok {i : Nat} {x : Str} (h : slotB N i x = true) : N[i]? = some x := by simpa [slotB] using h
def Stor (X : Cx) (x : Str) : Prop := Loc X.env.scope x ∧ (X.fn x = true ∨ X.env.scope.names.lookup x = some .local)
theorem chkNs_ok {stor : Str → Bool} (nd : X.N.Nodup) (hN : X.N = N) (hst : ∀ x, stor x = true → Stor X x) : ∀ {is : List Nat} {es : List Expr}, chkNs N stor is es = true → PGs X es (gNs is) ∧ (assignEach es X.env).length = is.length ∧ (assignEach es X.env).findIdx? (·.1) = none
  | [], [], _ => ⟨pgs_nil, rfl, rfl⟩
  | [], _ :: _, h => by simp [chkNs] at h
  | i :: is, [], h => by simp [chkNs] at h
  | i :: is, e :: es, h => by
    cases e <;> first | (simp [chkNs] at h; done) | skip
    simp only [chkNs, Bool.and_eq_true] at h
    obtain ⟨h1, h2, h3⟩ := chkNs_ok nd hN hst h.2
    obtain ⟨l, f⟩ := hst _ h.1.2
    have ix := slotB_ok h.1.1
    rw [← hN] at ix
    refine ⟨pgs_cons (pg_name nd ix l f) h1 rfl, by simp [assignEach, h2], ?_⟩
    show ((false, _) :: assignEach es X.env).findIdx? (·.1) = none
    rw [List.findIdx?_cons]
    simp [h3]
theorem chkG_ok {stor : Str → Bool} (hc : X.calm = true) (nd : X.N.Nodup) (hN : X.N = N) (hst : ∀ x, stor x = true → Stor X x) {t : Tgt} {a : Expr} (h : chkG N stor t a = true) : PG X a (gT X.K t) := by
  cases t with
  | one i =>
    dsimp only [chkG] at h
    split at h
    · simp only [Bool.and_eq_true] at h
      obtain ⟨l, f⟩ := hst _ h.2
      have ix := slotB_ok h.1
      rw [← hN] at ix
      exact pg_name nd ix l f
    · cases h
  | tup is =>
    dsimp only [chkG] at h
    split at h
    · obtain ⟨h1, h2, h3⟩ := chkNs_ok nd hN hst h
      exact pg_tupL hc h1 h2 h3
    · cases h
theorem chkG_z {stor : Str → Bool} {t : Tgt} {a : Expr} (h : chkG N stor t a = true) : isTupE a = t.isTup := by
  cases t with
  | one i =>
    dsimp only [chkG] at h
    split at h
    · rfl
    · cases h
  | tup is =>
    dsimp only [chkG] at h
    split at h
    · rfl
    · cases h
theorem owns_snd (own : List Nat) : (ownsOf N own).map (·.2) = own := by
  induction own with
  | nil => rfl
  | cons i r ih => show i :: (ownsOf N r).map (·.2) = _; rw [ih]
theorem passLW {X : Cx} (σ : St) : PassesAt (L2.CX X.prog X.w) X σ (WE Ew σ) := fun _ _ _ _ _ _ h => by
  obtain ⟨_, _, _, _, _, _, _, _, _, _, _, _, z⟩ := h
  exact z.elim
/-- the block of a comprehension -/
theorem Cok.blk (c : Cok X Ek n sc) (scope : Scope) (s : Shared) (H : Hp) (C : Addr) (cc : List (Str × Addr)) (fp : List Addr) : Cok (X.blk s H scope (compEnvC scope cc C X.env) fp) Ew n (relS scope sc) :=
  ⟨c.calm, c.nd, c.room, c.gd, by show relS scope X.env.scope = _; rw [c.scope], fun σ => passLW σ⟩
theorem stor_blk {scope : Scope} (c : Cok X Ek n sc) (s : Shared) (H : Hp) (C : Addr) (cc : List (Str × Addr)) (fp : List Addr) : ∀ x, storB scope x = true → Stor (X.blk s H scope (compEnvC scope cc C X.env) fp) x := fun x h => by
  rcases locB_ok h with h | h
  · have q : (relS scope X.env.scope).names.lookup x = some .local := lookup_relS_keep (by decide) h
    exact ⟨.inl q, .inr q⟩
  · have q : (relS scope X.env.scope).names.lookup x = some .cell := lookup_relS_keep (by decide) h
    refine ⟨.inr q, .inl ?_⟩
    show (scope.names.lookup x == some .cell) = true
    rw [h]; rfl
end
/-- all that is shown of an expression -/
structure EX (XR : Hp → (Addr → Prop) → Exn → Value → Option Addr → Prop) (X : Cx) (Ek : WX) (cl : Nat → List Ent → CRes) (e : Ev.E) (a : Expr) : Prop where
  se : SE XR X Ek cl e a
  so : SO XR X Ek cl e a
  st : tOk e = true → STt XR X Ek cl e a
theorem EX.mk_ {XR : Hp → (Addr → Prop) → Exn → Value → Option Addr → Prop} {X : Cx} {Ek : WX} {cl : Nat → List Ent → CRes} {e : Ev.E} {a : Expr} (h : SE XR X Ek cl e a) (hne : ∀ i, e ≠ .v i) (ht : tstX a = true) : EX XR X Ek cl e a := ⟨h, s_opd h hne, fun _ => t_val h ht⟩
theorem EX.mk_t {XR : Hp → (Addr → Prop) → Exn → Value → Option Addr → Prop} {X : Cx} {Ek : WX} {cl : Nat → List Ent → CRes} {e : Ev.E} {a : Expr} (h : SE XR X Ek cl e a) (hne : ∀ i, e ≠ .v i) (ht : tOk e = true → STt XR X Ek cl e a) : EX XR X Ek cl e a := ⟨h, s_opd h hne, ht⟩
end Ev

set_option Elab.async false
set_option linter.all false
set_option maxRecDepth 100000
set_option autoImplicit false
/-! Ev8b: the check of an expression is right. -/
namespace Ev
open PySem L2
theorem few_one {a : Expr} {env : PySem.Env} {p : Pos} (h : plainX a = true) : ((backTo p (starEach [a] env)).all (fun x => !x.1) && (backToKw p (keywordEach [] env)).all (fun x => x.1.isSome)
      && decide (([a] : List Expr).length + ([] : List Keyword).length + (if ([] : List Keyword).isEmpty then 0 else 1) < 30)) = true := by
  rw [star_plain h]
  rfl
section
variable {XR : Hp → (Addr → Prop) → Exn → Value → Option Addr → Prop} {tb : Nat → Option Fn} {n : Nat} {T : Tab} {N : List Str}
/-- all that is shown of a list of expressions -/
structure EXs (XR : Hp → (Addr → Prop) → Exn → Value → Option Addr → Prop) (X : Cx) (Ek : WX) (cl : Nat → List Ent → CRes) (es : Es) (as : List Expr) : Prop where
  sa : SA XR X Ek cl es as
  pl : as.all plainX = true
  ps : tOks es = true → isNil es = false → Parts XR X Ek cl es as
theorem blt_ok {X : Cx} {sc : Scope} {Ek : WX} (G : Gx X XR tb n T) (c : Cok X Ek n sc) {x : Str} (h : bltB T sc x = true) : Gl X x ∧ X.mg x = none := by
  unfold bltB at h
  simp only [Bool.and_eq_true, decide_eq_true_eq] at h
  exact ⟨c.gl (glB_ok h.1), G.blt x h.2⟩
theorem vis_ok {X : Cx} {sc : Scope} {Ek : WX} (c : Cok X Ek n sc) {x : Str} (h : visB sc x = true) : Vis X.env.scope x := by rw [c.scope]; exact visB_ok h
theorem slot_ok {X : Cx} (hN : X.N = N) {i : Nat} {x : Str} (h : slotB N i x = true) : X.N[i]? = some x := by rw [hN]; exact slotB_ok h
mutual
theorem chkE_ok : ∀ (e : Ev.E) (sc : Scope) (a : Expr) (X : Cx) (Ek : WX), Gx X XR tb n T → Cok X Ek n sc → X.N = N → chkE T N sc e a = true → EX XR X Ek (callF tb n) e a
  | .v i, sc, a, X, Ek, G, c, hN, h => by
    unfold chkE at h
    split at h
    · simp only [Bool.and_eq_true] at h
      rename_i x pos
      obtain ⟨h1, h2⟩ := plainName_ok h.2
      have q := s_var (XR := XR) (Ek := Ek) (cl := callF tb n) (pos := pos) (slot_ok hN h.1.1) (vis_ok c h.1.2) h1 h2
      exact ⟨q.1, q.2, fun _ => t_val q.1 rfl⟩
    · cases h
  | .k d, sc, a, X, Ek, G, c, hN, h => by
    unfold chkE at h
    split at h
    · split at h
      · rw [eq_of_beq h]; exact .mk_ s_int (fun _ z => by cases z) rfl
      · rw [eq_of_beq h]; exact .mk_ s_str (fun _ z => by cases z) rfl
      · rw [eq_of_beq h]; exact .mk_ s_bool (fun _ z => by cases z) rfl
      · exact .mk_ s_none (fun _ z => by cases z) rfl
      · cases h
    · cases h
  | .g d, sc, a, X, Ek, G, c, hN, h => by
    unfold chkE at h
    split at h
    · simp only [Bool.and_eq_true] at h
      split at h
      · rename_i d' e
        obtain ⟨v, u, m, r, rp⟩ := G.con _ _ e
        rw [eqD_ok _ _ h.2]
        exact .mk_ (s_glob (c.gl (glB_ok h.1.1)) m r rp (plainName_ok h.1.2).1) (fun _ z => by cases z) rfl
      · cases h.2
    · cases h
  | .tup es, sc, a, X, Ek, G, c, hN, h => by
    unfold chkE at h
    split at h
    · exact .mk_ (s_tup (chkEs_ok es sc _ X Ek G c hN h).sa) (fun _ z => by cases z) rfl
    · cases h
  | .lst es, sc, a, X, Ek, G, c, hN, h => by
    unfold chkE at h
    split at h
    · exact .mk_ (SF.se (s_lst (chkEs_ok es sc _ X Ek G c hN h).sa) own_lst) (fun _ z => by cases z) rfl
    · cases h
  | .bin o e e', sc, a, X, Ek, G, c, hN, h => by
    unfold chkE at h
    split at h
    · simp only [Bool.and_eq_true] at h
      exact .mk_ (s_op (bop_ok h.1.1) (chkE_ok e sc _ X Ek G c hN h.1.2).so (chkE_ok e' sc _ X Ek G c hN h.2).so) (fun _ z => by cases z) rfl
    · cases h
  | .cmp o e e', sc, a, X, Ek, G, c, hN, h => by
    unfold chkE at h
    split at h
    · simp only [Bool.and_eq_true] at h
      have ho := cop_ok c.room h.1.1.1
      have h1 := (chkE_ok e sc _ X Ek G c hN h.1.1.2).so
      have h2 := (chkE_ok e' sc _ X Ek G c hN h.1.2).so
      exact .mk_t (s_cmp ho h1 h2 h.2) (fun _ z => by cases z) fun _ => t_cmp ho h1 h2 h.2
    · cases h
  | .chn o o' e e' e'', sc, a, X, Ek, G, c, hN, h => by
    unfold chkE at h
    split at h
    · simp only [Bool.and_eq_true] at h
      have ho := cop_ok c.room h.1.1.1.1.1
      have ho' := cop_ok c.room h.1.1.1.1.2
      have h1 := (chkE_ok e sc _ X Ek G c hN h.1.1.1.2).so
      have h2 := (chkE_ok e' sc _ X Ek G c hN h.1.1.2).so
      have h3 := (chkE_ok e'' sc _ X Ek G c hN h.1.2).so
      exact .mk_t (s_chn ho ho' h1 h2 h3 h.2) (fun _ z => by cases z) fun _ => t_chn ho ho' h1 h2 h3 h.2
    · cases h
  | .chn3 o o' o'' e e' e'' e3, sc, a, X, Ek, G, c, hN, h => by
    unfold chkE at h
    split at h
    · simp only [Bool.and_eq_true] at h
      obtain ⟨⟨⟨⟨⟨⟨⟨p1, p2⟩, p3⟩, p4⟩, p5⟩, p6⟩, p7⟩, p8⟩ := h
      have ho := cop_ok c.room p1
      have ho' := cop_ok c.room p2
      have ho'' := cop_ok c.room p3
      have h1 := (chkE_ok e sc _ X Ek G c hN p4).so
      have h2 := (chkE_ok e' sc _ X Ek G c hN p5).so
      have h3 := (chkE_ok e'' sc _ X Ek G c hN p6).so
      have h4 := (chkE_ok e3 sc _ X Ek G c hN p7).so
      exact .mk_t (s_chn3 ho ho' ho'' h1 h2 h3 h4 p8) (fun _ z => by cases z) fun _ => t_chn3 ho ho' ho'' h1 h2 h3 h4 p8
    · cases h
  | .and_ es, sc, a, X, Ek, G, c, hN, h => by
    unfold chkE at h
    split at h
    · simp only [Bool.and_eq_true, Bool.not_eq_true'] at h
      have ps := (chkEs_ok es sc _ X Ek G c hN h.1.1).ps h.1.2 h.2
      exact .mk_t (s_and ps) (fun _ z => by cases z) fun _ => (t_and ps).pt
    · cases h
  | .or_ es, sc, a, X, Ek, G, c, hN, h => by
    unfold chkE at h
    split at h
    · simp only [Bool.and_eq_true, Bool.not_eq_true'] at h
      have ps := (chkEs_ok es sc _ X Ek G c hN h.1.1).ps h.1.2 h.2
      exact .mk_t (s_or ps) (fun _ z => by cases z) fun _ => (t_or ps).pt
    · cases h
  | .not_ e, sc, a, X, Ek, G, c, hN, h => by
    unfold chkE at h
    split at h
    · simp only [Bool.and_eq_true] at h
      have q := chkE_ok e sc _ X Ek G c hN h.1
      exact .mk_t (s_not q.se) (fun _ z => by cases z) fun _ => t_not (q.st h.2)
    · cases h
  | .neg e, sc, a, X, Ek, G, c, hN, h => by
    unfold chkE at h
    split at h
    · exact .mk_ (s_neg (chkE_ok e sc _ X Ek G c hN h).se) (fun _ z => by cases z) rfl
    · cases h
  | .isN e, sc, a, X, Ek, G, c, hN, h => by
    unfold chkE at h
    split at h
    · have q := (chkE_ok e sc _ X Ek G c hN h).so
      exact .mk_t (s_isN q) (fun _ z => by cases z) fun _ => t_isN q
    · cases h
  | .notN e, sc, a, X, Ek, G, c, hN, h => by
    unfold chkE at h
    split at h
    · have q := (chkE_ok e sc _ X Ek G c hN h).so
      exact .mk_t (s_notN q) (fun _ z => by cases z) fun _ => t_notN q
    · cases h
  | .ite k e e', sc, a, X, Ek, G, c, hN, h => by
    unfold chkE at h
    split at h
    · simp only [Bool.and_eq_true] at h
      have q := chkE_ok k sc _ X Ek G c hN h.1.1.1
      exact .mk_t (s_ite (q.st h.1.1.2) (chkE_ok e sc _ X Ek G c hN h.1.2).se (chkE_ok e' sc _ X Ek G c hN h.2).se) (fun _ z => by cases z) fun z => by cases z
    · cases h
  | .idx e e', sc, a, X, Ek, G, c, hN, h => by
    unfold chkE at h
    split at h
    · simp only [Bool.and_eq_true] at h
      exact .mk_ (s_idx (chkE_ok e sc _ X Ek G c hN h.1.1).so (chkE_ok e' sc _ X Ek G c hN h.1.2).so h.2) (fun _ z => by cases z) rfl
    · cases h
  | .slc e lo hi, sc, a, X, Ek, G, c, hN, h => by
    unfold chkE at h
    split at h
    · simp only [Bool.and_eq_true] at h
      exact .mk_ (s_slc (chkE_ok e sc _ X Ek G c hN h.1.1).so (chkO_ok lo sc _ X Ek G c hN h.1.2) (chkO_ok hi sc _ X Ek G c hN h.2)) (fun _ z => by cases z) rfl
    · cases h
  | .call f es, sc, a, X, Ek, G, c, hN, h => by
    unfold chkE at h
    split at h
    · rename_i x p as pos
      simp only [Bool.and_eq_true, decide_eq_true_eq] at h
      obtain ⟨fa, fd, ps, fn, t1, t2, t3, t4, t5, t6⟩ := G.fn _ _ h.1.1.2
      have q := chkEs_ok es sc _ X Ek G c hN h.2
      have gl := c.gl (glB_ok h.1.1.1)
      have hd := (plainName_ok h.1.2).1
      have l1 : ∀ args : List Ent, ∀ e o, callF tb n f args = .ok e o → args.length = fn.params := fun args => (callF_len t1 n).1
      have l2 : ∀ args : List Ent, ∀ e o, callF tb n f args = .ex e o → args.length = fn.params := fun args => (callF_len t1 n).2
      cases as with
      | nil =>
        cases es with
        | nil =>
          refine .mk_ ?_ (fun _ z => by cases z) rfl
          by_cases h0 : fn.params = 0
          · rw [h0] at t6 l1 l2
            exact s_call0 c G.hX t6 gl t3 t4 t5 l1 l2 hd
          · refine ⟨fun pins s σ H Q I z => ?_⟩
            exfalso
            obtain ⟨B, ρ, S, z⟩ := z
            have z : Pst X.K XR Ek (RelE X.K) B ρ σ H ((callF tb n f []).val ρ) Q := z
            cases e : callF tb n f [] with
            | no => rw [e] at z; exact z
            | ok en o => exact h0 (l1 _ _ _ e).symm
            | ex x o => exact h0 (l2 _ _ _ e).symm
        | cons e r => simp [chkEs] at h
      | cons ae as => exact .mk_ (s_call (e0 := .k .none) (r := .nil) c G.hX t6 gl t3 t4 t5 l1 l2 q.sa q.pl hd) (fun _ z => by cases z) rfl
    · cases h
  | .callp f i es, sc, a, X, Ek, G, c, hN, h => by
    unfold chkE at h
    split at h
    · simp only [Bool.and_eq_true, decide_eq_true_eq] at h
      obtain ⟨fa, fd, ps, fn, t1, t2, t3, t4, t5, t6⟩ := G.fn _ _ h.1.1.1.1.1.2
      have q := chkEs_ok es sc _ X Ek G c hN h.2
      have gl := c.gl (glB_ok h.1.1.1.1.1.1)
      have hd := (plainName_ok h.1.1.1.1.2).1
      have hd2 := plainName_ok h.1.2
      refine .mk_ (s_callp c G.hX t6 gl t3 t4 t5 (fun args => (callF_len t1 n).1) (fun args => (callF_len t1 n).2) (pe_var (slot_ok hN h.1.1.1.2) (vis_ok c h.1.1.2) hd2.1 hd2.2) q.sa ?_ hd) (fun _ z => by cases z) rfl
      rw [List.all_cons, q.pl]; rfl
    · cases h
  | .callo .., _, _, _, _, _, _, _, h => by simp [chkE] at h
  | .inK .., _, _, _, _, _, _, _, h => by simp [chkE] at h
  | .disp .., _, _, _, _, _, _, _, h => by simp [chkE] at h
  | .p1 o e, sc, a, X, Ek, G, c, hN, h => by
    unfold chkE at h
    split at h
    · split at h
      · rename_i ho
        subst ho
        split at h
        · simp only [Bool.and_eq_true, decide_eq_true_eq] at h
          obtain ⟨g1, g2⟩ := blt_ok G c h.1.1.1.1.1
          obtain ⟨g3, g4⟩ := blt_ok G c h.1.1.1.2
          have e1 := h.1.1.1.1.2
          subst e1
          have e2 := h.1.1.2
          subst e2
          exact .mk_ (s_tupRev c.calm g1 g2 g3 g4 (chkE_ok e sc _ X Ek G c hN h.1.2).so h.2) (fun _ z => by cases z) rfl
        · cases h
      · split at h
        · rename_i ho
          subst ho
          split at h
          · simp only [Bool.and_eq_true, decide_eq_true_eq] at h
            obtain ⟨g1, g2⟩ := blt_ok G c h.1.1.1.1.1
            obtain ⟨g3, g4⟩ := blt_ok G c h.1.1.1.2
            have e1 := h.1.1.1.1.2
            subst e1
            have e2 := h.1.1.2
            subst e2
            exact .mk_ (s_setLen c.calm g1 g2 g3 g4 (chkE_ok e sc _ X Ek G c hN h.1.2).so h.2) (fun _ z => by cases z) rfl
          · cases h
        · split at h
          · rename_i ho
            subst ho
            split at h
            · simp only [Bool.and_eq_true, decide_eq_true_eq] at h
              obtain ⟨g1, g2⟩ := blt_ok G c h.1.1.1.1.1
              obtain ⟨g3, g4⟩ := blt_ok G c h.1.1.1.2
              have e1 := h.1.1.1.1.2
              subst e1
              have e2 := h.1.1.2
              subst e2
              exact .mk_ (s_lrange c.calm g1 g2 g3 g4 (chkE_ok e sc _ X Ek G c hN h.1.2).so h.2) (fun _ z => by cases z) rfl
            · cases h
          · simp only [Bool.and_eq_true, decide_eq_true_eq] at h
            obtain ⟨g1, g2⟩ := blt_ok G c h.1.1.1.2
            have e1 := h.1.1.2
            subst e1
            exact .mk_ (p1_ok c g1 g2 h.1.1.1.1 (chkE_ok e sc _ X Ek G c hN h.1.2).so h.2) (fun _ z => by cases z) rfl
    · cases h
  | .p2 o e e', sc, a, X, Ek, G, c, hN, h => by
    unfold chkE at h
    split at h
    · simp only [Bool.and_eq_true, decide_eq_true_eq] at h
      obtain ⟨g1, g2⟩ := blt_ok G c h.1.1.1.1.1.1.1.2
      obtain ⟨g3, g4⟩ := blt_ok G c h.1.1.1.1.1.2
      have e1 := h.1.1.1.1.1.1.2
      subst e1
      have e2 := h.1.1.1.1.2
      subst e2
      have e3 := h.1.1.1.1.1.1.1.1
      subst e3
      exact .mk_ (s_lrange2 c.calm g1 g2 g3 g4 (chkE_ok e sc _ X Ek G c hN h.1.1.1.2).so h.1.1.2 (chkE_ok e' sc _ X Ek G c hN h.1.2).so h.2) (fun _ z => by cases z) rfl
    · simp only [Bool.and_eq_true, decide_eq_true_eq] at h
      obtain ⟨g1, g2⟩ := blt_ok G c h.1.1.1.1.1.2
      have e1 := h.1.1.1.1.2
      subst e1
      exact .mk_ (p2_ok h.1.1.1.1.1.1 c g1 g2 (chkE_ok e sc _ X Ek G c hN h.1.1.1.2).so (chkE_ok e' sc _ X Ek G c hN h.1.2).so h.1.1.2 h.2) (fun _ z => by cases z) rfl
    · cases h
  | .isi e t, sc, a, X, Ek, G, c, hN, h => by
    unfold chkE at h
    split at h
    · simp only [Bool.and_eq_true, decide_eq_true_eq] at h
      obtain ⟨g1, g2⟩ := blt_ok G c h.1.1.1.1.1
      obtain ⟨g3, g4⟩ := blt_ok G c h.1.1.1.2
      have e1 := h.1.1.1.1.2
      subst e1
      have e2 := h.1.1.2
      subst e2
      exact .mk_ (isi_ok g1 g2 g3 g4 (chkE_ok e sc _ X Ek G c hN h.1.2).so h.2) (fun _ z => by cases z) rfl
    · cases h
  | .m1 o e e', sc, a, X, Ek, G, c, hN, h => by
    unfold chkE at h
    split at h
    · rename_i x m apos y cpos
      simp only [Bool.and_eq_true, decide_eq_true_eq] at h
      have e1 := h.1.1.1.1.1
      subst e1
      have hb : ∀ m : Str, attributeBase x m X.env (eval x X.env) = eval x X.env := fun m => by
        have h1 := h.1.1.1.1.2
        cases x <;> first | rfl | cases h1
      cases o with
      | count => exact .mk_ (s_count (chkE_ok e sc _ X Ek G c hN h.1.1.1.2).se (chkE_ok e' sc _ X Ek G c hN h.1.1.2).se h.1.2 (hb _) h.2 (few_one h.1.2)) (fun _ z => by cases z) rfl
      | index => exact .mk_ (s_index (chkE_ok e sc _ X Ek G c hN h.1.1.1.2).se (chkE_ok e' sc _ X Ek G c hN h.1.1.2).se h.1.2 (hb _) h.2 (few_one h.1.2)) (fun _ z => by cases z) rfl
    · cases h
  | .m1t o e e', sc, a, X, Ek, G, c, hN, h => by
    unfold chkE at h
    split at h
    · rename_i x m apos y cpos
      simp only [Bool.and_eq_true, decide_eq_true_eq] at h
      have e1 := h.1.1.1.1.1
      subst e1
      have hb : ∀ m : Str, attributeBase x m X.env (eval x X.env) = eval x X.env := fun m => by
        have h1 := h.1.1.1.1.2
        cases x <;> first | rfl | cases h1
      cases o with
      | count => exact .mk_ (s_countT (chkE_ok e sc _ X Ek G c hN h.1.1.1.2).se (chkE_ok e' sc _ X Ek G c hN h.1.1.2).se h.1.2 (hb _) h.2 (few_one h.1.2)) (fun _ z => by cases z) rfl
      | index => exact .mk_ (s_indexT (chkE_ok e sc _ X Ek G c hN h.1.1.1.2).se (chkE_ok e' sc _ X Ek G c hN h.1.1.2).se h.1.2 (hb _) h.2 (few_one h.1.2)) (fun _ z => by cases z) rfl
    · cases h
  | .popi i e, sc, a, X, Ek, G, c, hN, h => by
    unfold chkE at h
    split at h
    · simp only [Bool.and_eq_true, decide_eq_true_eq] at h
      have e1 := h.1.1.1.1.1.1
      subst e1
      have hd2 := plainName_ok h.1.1.1.2
      exact .mk_ (s_popi (pe_var (slot_ok hN h.1.1.1.1.1.2) (vis_ok c h.1.1.1.1.2) hd2.1 hd2.2) (chkE_ok e sc _ X Ek G c hN h.1.2).se h.2 rfl h.1.1.2 (few_one h.2)) (fun _ z => by cases z) rfl
    · cases h
  | .rev e, sc, a, X, Ek, G, c, hN, h => by
    unfold chkE at h
    split at h
    · exact .mk_ (s_rev (chkE_ok e sc _ X Ek G c hN h).so) (fun _ z => by cases z) rfl
    · cases h
  | .popv i, sc, a, X, Ek, G, c, hN, h => by
    unfold chkE at h
    split at h
    · simp only [Bool.and_eq_true, decide_eq_true_eq] at h
      have e1 := h.1.1.1.1
      subst e1
      have hd2 := plainName_ok h.1.2
      exact .mk_ (s_popv (pe_var (slot_ok hN h.1.1.1.2) (vis_ok c h.1.1.2) hd2.1 hd2.2) rfl h.2) (fun _ z => by cases z) rfl
    · cases h
  | .comp own e t it k, sc, a, X, Ek, G, c, hN, h => by
    unfold chkE at h
    split at h
    · rename_i elt tg iter ifs scope pos
      simp only [Bool.and_eq_true, List.all_eq_true, decide_eq_true_eq] at h
      obtain ⟨⟨⟨⟨⟨⟨h1, h2⟩, h3⟩, h4⟩, h5⟩, h6⟩, h7⟩ := h
      have ok := blkOk_by h3
      rw [← hN, ← c.scope] at ok
      have b := s_comp (XR := XR) (X := X) (Ek := Ek) (cl := callF tb n) (e := e) (t := t) (it := it) (c := k) (elt := elt) (tg := tg) (iter := iter) (ifs := ifs) (scope := scope) (pos := pos) c.calm c.nd (chkI_ok it sc tg iter X Ek G c hN h1) ok (chkG_z h5) (by rw [hN, owns_snd]; exact h4) h2
        (fun s H C cc fp => chkG_ok (X := X.blk s H scope (compEnvC scope cc C X.env) fp) c.calm c.nd hN (stor_blk c s H C cc fp) h5)
        (fun s H C cc fp => chkC_ok k (relS scope sc) ifs (X.blk s H scope (compEnvC scope cc C X.env) fp) Ew G (c.blk scope s H C cc fp) hN h6)
        (fun s H C cc fp => (chkE_ok e (relS scope sc) elt (X.blk s H scope (compEnvC scope cc C X.env) fp) Ew G (c.blk scope s H C cc fp) hN h7).se)
      rw [hN, owns_snd] at b
      exact .mk_ (SF.se b own_comp) (fun _ z => by cases z) rfl
    · cases h
  | .comp2 own e t it k own1 t1 it1 k1, sc, a, X, Ek, G, c, hN, h => by
    unfold chkE at h
    split at h
    · rename_i elt tg iter ifs tg1 iter1 ifs1 scope pos
      simp only [Bool.and_eq_true, List.all_eq_true, decide_eq_true_eq] at h
      obtain ⟨⟨⟨⟨⟨⟨⟨⟨⟨⟨⟨⟨h1, h2⟩, h3⟩, h4⟩, h5⟩, h6⟩, h7⟩, h8⟩, h9⟩, h10⟩, h11⟩, h12⟩, h13⟩ := h
      have ok := blkOk_by h3
      rw [← hN, ← c.scope] at ok
      have b := s_comp2 (XR := XR) (X := X) (Ek := Ek) (cl := callF tb n) (own1 := own1) (e := e) (t := t) (t1 := t1) (it := it) (it1 := it1) (c := k) (c1 := k1) (elt := elt) (tg := tg) (iter := iter) (ifs := ifs) (tg1 := tg1) (iter1 := iter1) (ifs1 := ifs1) (scope := scope) (pos := pos) c.calm c.nd (chkI_ok it sc tg iter X Ek G c hN h1) ok (chkG_z h7) (chkG_z h11) (by rw [hN, owns_snd]; exact h5) (by rw [hN, owns_snd]; exact h4) h6 h2 h10
        (fun s H C cc fp => chkG_ok (X := X.blk s H scope (compEnvC scope cc C X.env) fp) c.calm c.nd hN (stor_blk c s H C cc fp) h7)
        (fun s H C cc fp => chkC_ok k (relS scope sc) ifs (X.blk s H scope (compEnvC scope cc C X.env) fp) Ew G (c.blk scope s H C cc fp) hN h8)
        (fun s H C cc fp => chkI_ok it1 (relS scope sc) tg1 iter1 (X.blk s H scope (compEnvC scope cc C X.env) fp) Ew G (c.blk scope s H C cc fp) hN h9)
        (fun s H C cc fp => chkG_ok (X := X.blk s H scope (compEnvC scope cc C X.env) fp) c.calm c.nd hN (stor_blk c s H C cc fp) h11)
        (fun s H C cc fp => chkC_ok k1 (relS scope sc) ifs1 (X.blk s H scope (compEnvC scope cc C X.env) fp) Ew G (c.blk scope s H C cc fp) hN h12)
        (fun s H C cc fp => (chkE_ok e (relS scope sc) elt (X.blk s H scope (compEnvC scope cc C X.env) fp) Ew G (c.blk scope s H C cc fp) hN h13).se)
      rw [hN, owns_snd] at b
      exact .mk_ (SF.se b own_comp2) (fun _ z => by cases z) rfl
    · cases h
  | .dct kvs, sc, a, X, Ek, G, c, hN, h => by
    unfold chkE at h
    split at h
    · split at h
      · exact .mk_ s_dct0 (fun _ z => by cases z) rfl
      · cases h
    · split at h
      · simp only [Bool.and_eq_true] at h
        have e1 := eq_of_beq h.1
        have e2 := eq_of_beq h.2
        subst e1 e2
        exact .mk_ s_dct1 (fun _ z => by cases z) rfl
      · cases h
    · cases h
theorem chkEs_ok : ∀ (es : Es) (sc : Scope) (as : List Expr) (X : Cx) (Ek : WX), Gx X XR tb n T → Cok X Ek n sc → X.N = N → chkEs T N sc es as = true → EXs XR X Ek (callF tb n) es as
  | .nil, sc, as, X, Ek, G, c, hN, h => by
    unfold chkEs at h
    split at h
    · exact ⟨a_nil, rfl, fun _ z => by cases z⟩
    · cases h
  | .cons e r, sc, as, X, Ek, G, c, hN, h => by
    unfold chkEs at h
    split at h
    · simp only [Bool.and_eq_true] at h
      have q := chkE_ok e sc _ X Ek G c hN h.1.1
      have qs := chkEs_ok r sc _ X Ek G c hN h.2
      refine ⟨a_cons q.se qs.sa h.1.2, by rw [List.all_cons, h.1.2, qs.pl]; rfl, fun t _ => ?_⟩
      unfold tOks at t
      simp only [Bool.and_eq_true] at t
      cases r with
      | nil =>
        have h2 := h.2
        unfold chkEs at h2
        split at h2
        · exact .one q.se (q.st t.1)
        · cases h2
      | cons e' r' =>
        have p := qs.ps t.2 rfl
        cases p with
        | one h1 h2 => exact .cons q.se (q.st t.1) (.one h1 h2)
        | cons h1 h2 h3 => exact .cons q.se (q.st t.1) (.cons h1 h2 h3)
    · cases h
theorem chkO_ok : ∀ (o : Oe) (sc : Scope) (a : Option Expr) (X : Cx) (Ek : WX), Gx X XR tb n T → Cok X Ek n sc → X.N = N → chkO T N sc o a = true → SI XR X Ek (callF tb n) o a
  | .no, sc, a, X, Ek, G, c, hN, h => by
    unfold chkO at h
    split at h
    · exact i_no
    · cases h
  | .yes e, sc, a, X, Ek, G, c, hN, h => by
    unfold chkO at h
    split at h
    · exact i_yes (chkE_ok e sc _ X Ek G c hN h).se
    · cases h
theorem chkC_ok : ∀ (o : Oe) (sc : Scope) (a : List Expr) (X : Cx) (Ek : WX), Gx X XR tb n T → Cok X Ek n sc → X.N = N → chkC T N sc o a = true → PTs X a (rdT X.K XR Ek (evc (callF tb n) o))
  | .no, sc, a, X, Ek, G, c, hN, h => by
    unfold chkC at h
    split at h
    · exact ⟨fun pins s σ H Q I ⟨B, ρ, S, z⟩ => pts_nil.run pins s σ H Q I (z true H S .refl rfl)⟩
    · cases h
  | .yes e, sc, a, X, Ek, G, c, hN, h => by
    unfold chkC at h
    split at h
    · simp only [Bool.and_eq_true] at h
      exact pts_one ((chkE_ok e sc _ X Ek G c hN h.1).st h.2)
    · cases h
theorem chkI_ok : ∀ (it : Ev.It) (sc : Scope) (tg a : Expr) (X : Cx) (Ek : WX), Gx X XR tb n T → Cok X Ek n sc → X.N = N → chkI T N sc it tg a = true → SW XR X Ek (callF tb n) tg it a
  | .ov e, sc, tg, a, X, Ek, G, c, hN, h => by
    unfold chkI at h
    exact w_ov (chkE_ok e sc _ X Ek G c hN h).se
  | .rng1 e, sc, tg, a, X, Ek, G, c, hN, h => by
    unfold chkI at h
    split at h
    · simp only [Bool.and_eq_true, decide_eq_true_eq] at h
      obtain ⟨g1, g2⟩ := blt_ok G c h.1.1.1
      have e1 := h.1.1.2
      subst e1
      exact w_rng1 g1 g2 (chkE_ok e sc _ X Ek G c hN h.1.2).se h.2
    · cases h
  | .rng2 e e', sc, tg, a, X, Ek, G, c, hN, h => by
    unfold chkI at h
    split at h
    · simp only [Bool.and_eq_true, decide_eq_true_eq] at h
      obtain ⟨g1, g2⟩ := blt_ok G c h.1.1.1.1.1
      have e1 := h.1.1.1.1.2
      subst e1
      exact w_rng2 g1 g2 (chkE_ok e sc _ X Ek G c hN h.1.1.1.2).se (chkE_ok e' sc _ X Ek G c hN h.1.2).se h.1.1.2 h.2
    · cases h
  | .rng3 e e' e'', sc, tg, a, X, Ek, G, c, hN, h => by
    unfold chkI at h
    split at h
    · simp only [Bool.and_eq_true, decide_eq_true_eq] at h
      obtain ⟨g1, g2⟩ := blt_ok G c h.1.1.1.1.1.1.1
      have e1 := h.1.1.1.1.1.1.2
      subst e1
      exact w_rng3 g1 g2 (chkE_ok e sc _ X Ek G c hN h.1.1.1.1.1.2).se (chkE_ok e' sc _ X Ek G c hN h.1.1.1.2).se (chkE_ok e'' sc _ X Ek G c hN h.1.2).se h.1.1.1.1.2 h.1.1.2 h.2
    · cases h
  | .zip e e', sc, tg, a, X, Ek, G, c, hN, h => by
    unfold chkI at h
    split at h
    · split at h
      · simp only [Bool.and_eq_true, decide_eq_true_eq] at h
        obtain ⟨g1, g2⟩ := blt_ok G c h.1.1.1.1.1
        have e1 := h.1.1.1.1.2
        subst e1
        exact w_zip g1 g2 (chkE_ok e sc _ X Ek G c hN h.1.1.1.2).se (chkE_ok e' sc _ X Ek G c hN h.1.2).se h.1.1.2 h.2
      · cases h
    · cases h
  | .rvs e, sc, tg, a, X, Ek, G, c, hN, h => by
    unfold chkI at h
    split at h
    · simp only [Bool.and_eq_true, decide_eq_true_eq] at h
      obtain ⟨g1, g2⟩ := blt_ok G c h.1.1.1
      have e1 := h.1.1.2
      subst e1
      exact w_rvs g1 g2 (chkE_ok e sc _ X Ek G c hN h.1.2).se h.2
    · cases h
end
/-- what a comprehension's check tells -/
structure CompIn (XR : Hp → (Addr → Prop) → Exn → Value → Option Addr → Prop) (X : Cx) (Ek : WX) (cl : Nat → List Ent → CRes) (N : List Str) (own : List Nat) (e : Ev.E) (t : Tgt) (it : Ev.It) (k : Oe) (elt tg iter : Expr) (ifs : List Expr) (scope : Scope) : Prop where
  it : SW XR X Ek cl tg it iter
  ok : BlkOk X.N X.env.scope scope (ownsOf N own)
  z : isTupE tg = t.isTup
  sl : ∀ i ∈ t.slots, i ∈ (ownsOf N own).map (·.2)
  pl : plainX iter = true
  tg : ∀ (s : Shared) (H : Hp) (C : Addr) (cc : List (Str × Addr)) (fp : List Addr), PG (X.blk s H scope (compEnvC scope cc C X.env) fp) tg (gT X.K t)
  cs : ∀ (s : Shared) (H : Hp) (C : Addr) (cc : List (Str × Addr)) (fp : List Addr), PTs (X.blk s H scope (compEnvC scope cc C X.env) fp) ifs (rdT X.K XR Ew (evc cl k))
  el : ∀ (s : Shared) (H : Hp) (C : Addr) (cc : List (Str × Addr)) (fp : List Addr), SE XR (X.blk s H scope (compEnvC scope cc C X.env) fp) Ew cl e elt
theorem comp_in {own : List Nat} {e : Ev.E} {t : Tgt} {it : Ev.It} {k : Oe} {sc : Scope} {a : Expr} {X : Cx} {Ek : WX} (G : Gx X XR tb n T) (c : Cok X Ek n sc) (hN : X.N = N) (h : chkE T N sc (.comp own e t it k) a = true) :
    ∃ elt tg iter ifs scope pos, a = .ListComp elt [⟨tg, iter, ifs, 0⟩] scope pos ∧ CompIn XR X Ek (callF tb n) N own e t it k elt tg iter ifs scope := by
  unfold chkE at h
  split at h
  · rename_i elt tg iter ifs scope pos
    simp only [Bool.and_eq_true, List.all_eq_true, decide_eq_true_eq] at h
    obtain ⟨⟨⟨⟨⟨⟨h1, h2⟩, h3⟩, h4⟩, h5⟩, h6⟩, h7⟩ := h
    have ok := blkOk_by h3
    rw [← hN, ← c.scope] at ok
    rw [hN] at ok
    exact ⟨elt, tg, iter, ifs, scope, pos, rfl, chkI_ok it sc tg iter X Ek G c hN h1, by rw [hN]; exact ok, chkG_z h5, by rw [owns_snd]; exact h4, h2,
      fun s H C cc fp => chkG_ok (X := X.blk s H scope (compEnvC scope cc C X.env) fp) c.calm c.nd hN (stor_blk c s H C cc fp) h5,
      fun s H C cc fp => chkC_ok k (relS scope sc) ifs (X.blk s H scope (compEnvC scope cc C X.env) fp) Ew G (c.blk scope s H C cc fp) hN h6,
      fun s H C cc fp => (chkE_ok e (relS scope sc) elt (X.blk s H scope (compEnvC scope cc C X.env) fp) Ew G (c.blk scope s H C cc fp) hN h7).se⟩
  · cases h
/-- what makes a new list -/
theorem chkF_ok (e : Ev.E) (sc : Scope) (a : Expr) (X : Cx) (Ek : WX) (G : Gx X XR tb n T) (c : Cok X Ek n sc) (hN : X.N = N) (h : chkF T N sc e a = true) : SF XR X Ek (callF tb n) e a := by
  cases e with
  | lst es =>
    dsimp only [chkF] at h
    split at h
    · exact s_lst (chkEs_ok es sc _ X Ek G c hN h).sa
    · cases h
  | bin o e e' =>
    dsimp only [chkF] at h
    split at h
    · simp only [Bool.and_eq_true] at h
      exact s_opF (bopF_ok h.1.1) (chkE_ok e sc _ X Ek G c hN h.1.2).so (chkE_ok e' sc _ X Ek G c hN h.2).so
    · cases h
  | slc e lo hi =>
    dsimp only [chkF] at h
    split at h
    · simp only [Bool.and_eq_true] at h
      exact s_slcF (chkE_ok e sc _ X Ek G c hN h.1.1).so (chkO_ok lo sc _ X Ek G c hN h.1.2) (chkO_ok hi sc _ X Ek G c hN h.2)
    · cases h
  | callo f es =>
    dsimp only [chkF] at h
    split at h
    · simp only [Bool.and_eq_true, decide_eq_true_eq] at h
      obtain ⟨fa, fd, ps, fn, t1, t2, t3, t4, t5, t6⟩ := G.fn _ _ h.1.1.2
      have q := chkEs_ok es sc _ X Ek G c hN h.2
      exact s_callo c G.hX t6 (c.gl (glB_ok h.1.1.1)) t3 t4 t5 (fun args => (callF_len t1 n).1) (fun args => (callF_len t1 n).2) q.sa q.pl (plainName_ok h.1.2).1
    · cases h
  | p1 o e =>
    dsimp only [chkF] at h
    split at h
    · simp only [Bool.and_eq_true, Bool.or_eq_true, beq_iff_eq, decide_eq_true_eq] at h
      obtain ⟨g1, g2⟩ := blt_ok G c h.1.1.1.2
      have e1 := h.1.1.2
      have hu := c.room.un
      rcases h.1.1.1.1 with z | z
      · subst z
        subst e1
        exact s_listF g1 g2 (chkE_ok e sc _ X Ek G c hN h.1.2).so h.2
      · subst z
        subst e1
        exact s_sortedF (by omega) g1 g2 (chkE_ok e sc _ X Ek G c hN h.1.2).so h.2
    · cases h
  | comp own e t it k =>
    obtain ⟨elt, tg, iter, ifs, scope, pos, rfl, q⟩ := comp_in (T := T) (N := N) G c hN h
    have b := s_comp (XR := XR) (X := X) (Ek := Ek) (cl := callF tb n) (e := e) (t := t) (it := it) (c := k) (elt := elt) (tg := tg) (iter := iter) (ifs := ifs) (scope := scope) (pos := pos) c.calm c.nd q.it q.ok q.z q.sl q.pl q.tg q.cs q.el
    rw [owns_snd] at b
    exact b
  | _ => simp [chkF] at h
end
end Ev

set_option Elab.async false
set_option linter.all false
set_option maxRecDepth 100000
set_option autoImplicit false
/-! Ev9: the check of statements. -/
namespace Ev
open PySem L2
/-- name = [..] at once -/
def swC (sc : Scope) (t : Str) (tl : Nat) (scope : Scope) (vl : Nat) : Bool := sc.names.lookup t == some .local && tl == vl && !(scope.names.any fun (n, k) => n == t && (k == .local || k == .cell))
theorem swC_ok {elt : Expr} {gs : List Comprehension} {scope : Scope} {pos py : Pos} {y : Str} {l : Nat} {env : PySem.Env} (hk : env.scope.kind = .function) : swapsWith (.ListComp elt gs scope pos) (some (.Name y py)) l env = pure (swC env.scope y py.line scope pos.line) := by
  have hb : env.blockKind = .function := by unfold PySem.Env.blockKind; rw [hk]; rfl
  unfold swapsWith
  simp only [hb, Expr.pos]
  rfl
theorem sw_tup {a : Expr} {es : List Expr} {k : Nat} {p : Pos} {l : Nat} {env : PySem.Env} : swapsWithSole [.Tuple es k p] a l env = pure false := by
  cases a <;> rfl
theorem sw_sub {a x y : Expr} {p : Pos} {l : Nat} {env : PySem.Env} : swapsWithSole [.Subscript x y p] a l env = pure false := by
  cases a <;> rfl
theorem st_sub {a x y : Expr} {p : Pos} {env : PySem.Env} : swappedStores [.Subscript x y p] a env = pure none := by
  cases a <;> rfl
def notTup : Expr → Bool
  | .Tuple .. => false
  | _ => true
theorem st_ntup {a : Expr} {es : List Expr} {k : Nat} {p : Pos} {env : PySem.Env} (h : notTup a = true) : swappedStores [.Tuple es k p] a env = pure none := by
  cases a <;> first | rfl | cases h
def noStar (vs : List Expr) : Bool := !(vs.any fun | .Starred .. => true | _ => false)
def locNames (sc : Scope) (ts : List Expr) : List Str := ts.filterMap fun
    | .Name id pos => if sc.names.lookup id == some .local && pos.line == (ts.head?.map (·.pos.line)).getD 0 then some id else none
    | _ => none
/-- a, b = c, d that is not swapped: not all names are plain locals, or all is constant -/
def stNone (sc : Scope) (ts vs : List Expr) : Bool :=
  noStar vs && (((locNames sc ts).length != ts.length || (locNames sc ts).eraseDups.length != (locNames sc ts).length) || vs.all (foldedForSure 8))
theorem st_eq {ts vs : List Expr} {k k2 : Nat} {p p2 : Pos} {env : PySem.Env} : swappedStores [.Tuple ts k p] (.Tuple vs k2 p2) env = (do
    if !(ts.length == 2 || ts.length == 3) || vs.length != ts.length || env.blockKind != .function then return none
    if !noStar vs then return none
    if (locNames env.scope ts).length != ts.length || (locNames env.scope ts).eraseDups.length != (locNames env.scope ts).length then return none
    if vs.all (foldedForSure 8) then return none
    if vs.all (constantsAlone 8) then unsupported "assign.tuple-of-constant-expressions:order-of-the-stores"
    return some (locNames env.scope ts)) := by
  unfold swappedStores noStar
  simp only [Bool.not_not]
  rfl
theorem stNone_ok {ts vs : List Expr} {k k2 : Nat} {p p2 : Pos} {env : PySem.Env} (h : stNone env.scope ts vs = true) : swappedStores [.Tuple ts k p] (.Tuple vs k2 p2) env = pure none := by
  unfold stNone at h
  obtain ⟨h1, h2⟩ := Bool.and_eq_true_iff.mp h
  rw [st_eq]
  split
  · rfl
  · rw [h1]
    rcases Bool.or_eq_true_iff.mp h2 with h2 | h2
    · rw [h2]; rfl
    · split
      · rfl
      · split
        · rfl
        · first | rfl | (rw [h2]; rfl)
/-- .. that is swapped -/
def stTwo (sc : Scope) (x y : Str) (px py : Pos) (a b : Expr) : Bool :=
  decide (sc.kind = .function) && isLoc sc x && isLoc sc y && decide (locNames sc [.Name x px, .Name y py] = [x, y]) && decide ([x, y].eraseDups.length = 2) && noStar [a, b] && !([a, b].all (foldedForSure 8)) && !([a, b].all (constantsAlone 8))
theorem stTwo_ok {x y : Str} {px py : Pos} {a b : Expr} {k k2 : Nat} {p p2 : Pos} {env : PySem.Env} (h : stTwo env.scope x y px py a b = true) : swappedStores [.Tuple [.Name x px, .Name y py] k p] (.Tuple [a, b] k2 p2) env = pure (some [x, y]) := by
  unfold stTwo at h
  obtain ⟨h, h8⟩ := Bool.and_eq_true_iff.mp h
  obtain ⟨h, h7⟩ := Bool.and_eq_true_iff.mp h
  obtain ⟨h, h6⟩ := Bool.and_eq_true_iff.mp h
  obtain ⟨h, h5⟩ := Bool.and_eq_true_iff.mp h
  obtain ⟨h, h4⟩ := Bool.and_eq_true_iff.mp h
  obtain ⟨h, h3⟩ := Bool.and_eq_true_iff.mp h
  obtain ⟨h1, h2⟩ := Bool.and_eq_true_iff.mp h
  have h1 := of_decide_eq_true h1
  have h4 := of_decide_eq_true h4
  have h5 := of_decide_eq_true h5
  have hb : env.blockKind = .function := by unfold PySem.Env.blockKind; rw [h1]; rfl
  rw [Bool.not_eq_true'] at h7 h8
  rw [st_eq, h4, h5, h6, h7, h8, hb]
  rfl
theorem assign_sub {x y : Expr} {p : Pos} {env : PySem.Env} (h : plainX y = true) : ∀ v, assign (.Subscript x y p) env v = (do
      let ov ← holding [v] (eval x env)
      let iv ← holding [v, ov] (eval y env)
      standAt p
      holding [v, ov, iv] (setItem ov iv v)
      release [v, ov, iv] []) := by
  intro v
  cases y <;> first | rfl | cases h
theorem aug_sub {y : Expr} (h : plainX y = true) : ∀ ov iv new, augStore y ov iv new = (do holding [new, ov, iv] (setItem ov iv new); release [new, ov, iv] []; pure .next) := by
  intro ov iv new
  cases y <;> first | rfl | cases h
section
variable (T : Tab) (N : List Str)
/-- name = e -/
def chkA (sc : Scope) (F : Bool) (i : Nat) (e : Ev.E) (x : Str) (p : Pos) (a : Expr) : Bool :=
  slotB N i x && locB sc x && (if F = true then chkF T N sc e a else chkE T N sc e a) && (noComp a || (match e, a with
    | .comp .., .ListComp _ _ scope vp => (swC sc x p.line scope vp.line && isLoc sc x) || !swC sc x p.line scope vp.line
    | _, _ => false))
mutual
def chkS : Scope → Ev.S → Stmt → Bool
  | sc, .asg i e, s => (match s with | .Assign [.Name x p] a _ => chkA T N sc false i e x p a | _ => false)
  | sc, .new i e, s => (match s with | .Assign [.Name x p] a _ => chkA T N sc true i e x p a | _ => false)
  | sc, .asgT is e, s => (match s with
    | .Assign [.Tuple es k p] a _ => chkE T N sc e a && chkNs N (locB sc) is es && (notTup a || (match a with | .Tuple vs _ _ => stNone sc es vs | _ => false))
    | _ => false)
  | sc, .par is es, s => (match is, s with
    | [i, j], .Assign [.Tuple [.Name x px, .Name y py] _ _] (.Tuple [a, b] _ _) _ => chkEs T N sc es [a, b] && slotB N i x && slotB N j y && (i != j) && stTwo sc x y px py a b
    | _, _ => false)
  | sc, .aug i o e, s => (match s with | .AugAssign (.Name x _) op a _ => slotB N i x && locB sc x && bopIB o op && chkE T N sc e a | _ => false)
  | sc, .sub i k e, s => (match s with | .Assign [.Subscript (.Name x _) y _] a _ => slotB N i x && visB sc x && plainName x && chkE T N sc k y && plainX y && chkE T N sc e a | _ => false)
  | sc, .app i e, s => (match s with | .Expr (.Call (.Attribute (.Name x _) m apos) [a] [] cpos) _ => decide (m = "append") && slotB N i x && visB sc x && plainName x && (apos.endLine == cpos.line) && chkE T N sc e a && plainX a | _ => false)
  | sc, .swap i ia ib es, s => (match s with
    | .Assign [.Tuple [.Subscript (.Name x _) ka _, .Subscript (.Name y _) kb _] _ _] (.Tuple [c, d] _ _) _ => slotB N i x && slotB N i y && visB sc x && visB sc y && plainName x && plainName y && chkE T N sc ia ka && plainX ka && chkE T N sc ib kb && plainX kb && chkEs T N sc es [c, d] && noStar [c, d]
    | _ => false)
  | sc, .drop e, s => (match s with | .Expr a _ => chkE T N sc e a && noComp a | _ => false)
  | sc, .ret e, s => (match s with | .Return (some a) _ => chkE T N sc e a | _ => false)
  | sc, .retO e, s => (match s with | .Return (some a) _ => chkF T N sc e a | _ => false)
  | _, .retN, s => (match s with | .Return none _ => true | _ => false)
  | sc, .if_ c a b, s => (match s with | .If ce as bs _ => chkE T N sc c ce && tOk c && chkSs sc a as && chkSs sc b bs | _ => false)
  | sc, .for_ t it b, s => (match s with | .For tg iter body [] _ => chkI T N sc it tg iter && plainX iter && chkG N (locB sc) t tg && chkSs sc b body | _ => false)
  | sc, .while_ c b, s => (match s with | .While ce body [] _ => chkE T N sc c ce && tOk c && chkSs sc b body | _ => false)
  | _, .brk, s => (match s with | .Break _ => true | _ => false)
  | sc, .raise c es, s => (match s with | .Raise (some (.Call (.Name x _) (a :: as) [] _)) none _ => decide (c = 0) && glB sc x && plainName x && decide (x ∈ T.excs) && chkEs T N sc es (a :: as) | _ => false)
  | sc, .asub i o k e, s => (match s with | .AugAssign (.Subscript (.Name x _) y _) op a _ => slotB N i x && visB sc x && plainName x && bopIB o op && chkE T N sc k y && plainX y && chkE T N sc e a | _ => false)
  | sc, .tryA b i n, s => (match s with | .Try body [.ExceptHandler (some (.Name x _)) none [.Assign [.Name y _] (.BinOp (.Name y' _) .Add (.Constant (.int n') _ _) _) _] _] [] [] _ => glB sc x && plainName x && decide (x ∈ T.excs) && chkSs sc b body && slotB N i y && locB sc y && visB sc y && plainName y && decide (y = y') && decide (n = n') | _ => false)
  | sc, .tryR b d, s => (match s with | .Try body [.ExceptHandler (some (.Name x _)) none [.Return (some (.Constant c _ _)) _] _] [] [] _ => glB sc x && plainName x && decide (x ∈ T.excs) && chkSs sc b body && (match d, c with | .none, .none => true | .bool i, .bool j => i == j | _, _ => false) | _ => false)
  | _, .pass, s => (match s with | .Pass _ => true | _ => false)
  | _, _, _ => false
def chkSs : Scope → Ss → List Stmt → Bool
  | _, .nil, ss => (match ss with | [] => true | _ => false)
  | sc, .cons s r, ss => (match s with | .fgt _ => chkSs sc r ss | s => (match ss with | x :: xs => chkS sc s x && chkSs sc r xs | _ => false))
end
end
/-! ### it is right -/
/-- where statements stand -/
structure Sok (X : Cx) (Ek : WX) (n : Nat) (sc : Scope) : Prop extends Cok X Ek n sc where
  kind : sc.kind = .function
  fnT : ∀ x, X.fn x = true
  own : PassesOwn (model X.prog X.w) X.A X.env X.xe
  tk : Takes X Ek
  st : X.stack = X.env :: X.outer
  fr : X.env.frame = some X.env.locals
section
variable {XR : Hp → (Addr → Prop) → Exn → Value → Option Addr → Prop} {tb : Nat → Option Fn} {n : Nat} {T : Tab} {N : List Str}
theorem stor_def {X : Cx} {sc : Scope} {Ek : WX} (c : Sok X Ek n sc) : ∀ x, locB sc x = true → Stor X x := fun x h => ⟨by rw [show X.env.scope = sc from c.scope]; exact locB_ok h, .inl (c.fnT x)⟩
theorem slt_ok {X : Cx} {sc : Scope} {Ek : WX} (c : Sok X Ek n sc) (hN : X.N = N) {i : Nat} {x : Str} (h : slotB N i x = true) (h2 : locB sc x = true) : Slt X i x := ⟨c.nd, slot_ok hN h, (stor_def c x h2).1, .inl (c.fnT x)⟩
theorem chkA_ok {i : Nat} {e : Ev.E} {x : Str} {p pos : Pos} {a : Expr} {F : Bool} {sc : Scope} {X : Cx} {Ek : WX} (G : Gx X XR tb n T) (c : Sok X Ek n sc) (hN : X.N = N) (h : chkA T N sc F i e x p a = true) :
    SS XR X Ek (callF tb n) (if F = true then .new i e else .asg i e) (.Assign [.Name x p] a pos) := by
  unfold chkA at h
  obtain ⟨h, h4⟩ := Bool.and_eq_true_iff.mp h
  obtain ⟨h, h3⟩ := Bool.and_eq_true_iff.mp h
  obtain ⟨h1, h2⟩ := Bool.and_eq_true_iff.mp h
  have L := slt_ok c hN h1 h2
  have hk : X.env.scope.kind = .function := by rw [show X.env.scope = sc from c.scope]; exact c.kind
  have simple : swapsWith a (some (.Name x p)) pos.line X.env = pure false → SS XR X Ek (callF tb n) (if F = true then .new i e else .asg i e) (.Assign [.Name x p] a pos) := fun sw => by
    cases F with
    | true => exact p_new L (chkF_ok e sc a X Ek G c.toCok hN h3) sw
    | false => exact p_asg L (chkE_ok e sc a X Ek G c.toCok hN h3).se sw
  rcases Bool.or_eq_true_iff.mp h4 with h4 | h4
  · exact simple (sw_plain h4 _ _ _)
  · cases e with
    | comp own e t it k =>
      cases a with
      | ListComp elt gs scope vp =>
        dsimp only at h4
        have sw := swC_ok (elt := elt) (gs := gs) (scope := scope) (pos := vp) (py := p) (y := x) (l := pos.line) hk
        rw [show X.env.scope = sc from c.scope] at sw
        have h3' : chkE T N sc (.comp own e t it k) (.ListComp elt gs scope vp) = true := by
          cases F <;> exact h3
        rcases Bool.or_eq_true_iff.mp h4 with h4 | h4
        · obtain ⟨h4, h5⟩ := Bool.and_eq_true_iff.mp h4
          rw [h4] at sw
          have hl : X.env.scope.names.lookup x = some .local := by rw [show X.env.scope = sc from c.scope]; exact isLoc_ok h5
          obtain ⟨elt', tg, iter, ifs, scope', pos', e1, q⟩ := comp_in (XR := XR) (Ek := Ek) (T := T) (N := N) G c.toCok hN h3'
          cases e1
          cases F with
          | true =>
            have b := p_newC (pos' := pos) L c.calm hl sw q.it q.ok q.z q.sl q.pl q.tg q.cs q.el
            rw [owns_snd] at b
            exact b
          | false =>
            have b := p_asgC (pos' := pos) L c.calm hl sw q.it q.ok q.z q.sl q.pl q.tg q.cs q.el
            rw [owns_snd] at b
            exact b
        · rw [Bool.not_eq_true'] at h4
          rw [h4] at sw
          exact simple sw
      | _ => cases h4
    | _ => cases h4
mutual
theorem chkS_ok : ∀ (s : Ev.S) (sc : Scope) (st : Stmt) (X : Cx) (Ek : WX), Gx X XR tb n T → Sok X Ek n sc → X.N = N → chkS T N sc s st = true → SS XR X Ek (callF tb n) s st
  | .asg i e, sc, st, X, Ek, G, c, hN, h => by
    unfold chkS at h
    split at h
    · exact chkA_ok G c hN h
    · cases h
  | .new i e, sc, st, X, Ek, G, c, hN, h => by
    unfold chkS at h
    split at h
    · exact chkA_ok G c hN h
    · cases h
  | .asgT is e, sc, st, X, Ek, G, c, hN, h => by
    unfold chkS at h
    split at h
    · rename_i es k p a pos
      obtain ⟨h, h3⟩ := Bool.and_eq_true_iff.mp h
      obtain ⟨h1, h2⟩ := Bool.and_eq_true_iff.mp h
      have hg : PG X (.Tuple es k p) (gT X.K (.tup is)) := chkG_ok (t := .tup is) c.calm c.nd hN (stor_def c) (by dsimp only [chkG]; exact h2)
      refine p_asgT (chkE_ok e sc a X Ek G c.toCok hN h1).se hg sw_tup ?_ rfl
      rcases Bool.or_eq_true_iff.mp h3 with h3 | h3
      · exact st_ntup h3
      · split at h3
        · rw [← show X.env.scope = sc from c.scope] at h3
          exact stNone_ok h3
        · cases h3
    · cases h
  | .par is es, sc, st, X, Ek, G, c, hN, h => by
    unfold chkS at h
    split at h
    · rename_i i j x px y py k1 p1 a b k2 p2 pos
      obtain ⟨h, h5⟩ := Bool.and_eq_true_iff.mp h
      obtain ⟨h, h4⟩ := Bool.and_eq_true_iff.mp h
      obtain ⟨h, h3⟩ := Bool.and_eq_true_iff.mp h
      obtain ⟨h1, h2⟩ := Bool.and_eq_true_iff.mp h
      have h6 := h5
      unfold stTwo at h6
      obtain ⟨h6, _⟩ := Bool.and_eq_true_iff.mp h6
      obtain ⟨h6, _⟩ := Bool.and_eq_true_iff.mp h6
      obtain ⟨h6, _⟩ := Bool.and_eq_true_iff.mp h6
      obtain ⟨h6, _⟩ := Bool.and_eq_true_iff.mp h6
      obtain ⟨h6, _⟩ := Bool.and_eq_true_iff.mp h6
      obtain ⟨h6, ly⟩ := Bool.and_eq_true_iff.mp h6
      obtain ⟨_, lx⟩ := Bool.and_eq_true_iff.mp h6
      have ex := isLoc_ok lx
      have ey := isLoc_ok ly
      rw [← show X.env.scope = sc from c.scope] at h5 ex ey
      exact p_par c.calm ⟨c.nd, slot_ok hN h2, .inl ex, .inr ex⟩ ⟨c.nd, slot_ok hN h3, .inl ey, .inr ey⟩ (by simpa using h4) ex ey (chkEs_ok es sc _ X Ek G c.toCok hN h1).sa (stTwo_ok h5) sw_tup
    · cases h
  | .aug i o e, sc, st, X, Ek, G, c, hN, h => by
    unfold chkS at h
    split at h
    · obtain ⟨h, h4⟩ := Bool.and_eq_true_iff.mp h
      obtain ⟨h, h3⟩ := Bool.and_eq_true_iff.mp h
      obtain ⟨h1, h2⟩ := Bool.and_eq_true_iff.mp h
      exact p_aug (slt_ok c hN h1 h2) (chkE_ok e sc _ X Ek G c.toCok hN h4).se (bopI_ok h3)
    · cases h
  | .sub i k e, sc, st, X, Ek, G, c, hN, h => by
    unfold chkS at h
    split at h
    · obtain ⟨h, h6⟩ := Bool.and_eq_true_iff.mp h
      obtain ⟨h, h5⟩ := Bool.and_eq_true_iff.mp h
      obtain ⟨h, h4⟩ := Bool.and_eq_true_iff.mp h
      obtain ⟨h, h3⟩ := Bool.and_eq_true_iff.mp h
      obtain ⟨h1, h2⟩ := Bool.and_eq_true_iff.mp h
      have hd := plainName_ok h3
      exact p_sub (pe_var (slot_ok hN h1) (vis_ok c.toCok h2) hd.1 hd.2) (chkE_ok k sc _ X Ek G c.toCok hN h4).se (chkE_ok e sc _ X Ek G c.toCok hN h6).se sw_sub st_sub rfl (assign_sub h5)
    · cases h
  | .app i e, sc, st, X, Ek, G, c, hN, h => by
    unfold chkS at h
    split at h
    · obtain ⟨h, h7⟩ := Bool.and_eq_true_iff.mp h
      obtain ⟨h, h6⟩ := Bool.and_eq_true_iff.mp h
      obtain ⟨h, h5⟩ := Bool.and_eq_true_iff.mp h
      obtain ⟨h, h4⟩ := Bool.and_eq_true_iff.mp h
      obtain ⟨h, h3⟩ := Bool.and_eq_true_iff.mp h
      obtain ⟨h1, h2⟩ := Bool.and_eq_true_iff.mp h
      have hd := plainName_ok h4
      have e1 := of_decide_eq_true h1
      subst e1
      exact p_app (pe_var (slot_ok hN h2) (vis_ok c.toCok h3) hd.1 hd.2) (chkE_ok e sc _ X Ek G c.toCok hN h6).se h7 rfl h5 (few_one h7)
    · cases h
  | .ext .., _, _, _, _, _, _, _, h => by simp [chkS] at h
  | .popS .., _, _, _, _, _, _, _, h => by simp [chkS] at h
  | .fgt .., _, _, _, _, _, _, _, h => by simp [chkS] at h
  | .swap i ia ib es, sc, st, X, Ek, G, c, hN, h => by
    unfold chkS at h
    split at h
    · obtain ⟨h, h12⟩ := Bool.and_eq_true_iff.mp h
      obtain ⟨h, h11⟩ := Bool.and_eq_true_iff.mp h
      obtain ⟨h, h10⟩ := Bool.and_eq_true_iff.mp h
      obtain ⟨h, h9⟩ := Bool.and_eq_true_iff.mp h
      obtain ⟨h, h8⟩ := Bool.and_eq_true_iff.mp h
      obtain ⟨h, h7⟩ := Bool.and_eq_true_iff.mp h
      obtain ⟨h, h6⟩ := Bool.and_eq_true_iff.mp h
      obtain ⟨h, h5⟩ := Bool.and_eq_true_iff.mp h
      obtain ⟨h, h4⟩ := Bool.and_eq_true_iff.mp h
      obtain ⟨h, h3⟩ := Bool.and_eq_true_iff.mp h
      obtain ⟨h1, h2⟩ := Bool.and_eq_true_iff.mp h
      have d1 := plainName_ok h5
      have d2 := plainName_ok h6
      exact p_swap c.calm (pe_var (slot_ok hN h1) (vis_ok c.toCok h3) d1.1 d1.2) (pe_var (slot_ok hN h2) (vis_ok c.toCok h4) d2.1 d2.2) (chkE_ok ia sc _ X Ek G c.toCok hN h7).se (chkE_ok ib sc _ X Ek G c.toCok hN h9).se (chkEs_ok es sc _ X Ek G c.toCok hN h11).sa sw_tup
        (stNone_ok (by unfold stNone; rw [h12]; rfl)) (assign_sub h8) (assign_sub h10)
    · cases h
  | .drop e, sc, st, X, Ek, G, c, hN, h => by
    unfold chkS at h
    split at h
    · obtain ⟨h1, h2⟩ := Bool.and_eq_true_iff.mp h
      exact p_drop (chkE_ok e sc _ X Ek G c.toCok hN h1).se (sw_plain h2 _ _ _)
    · cases h
  | .ret e, sc, st, X, Ek, G, c, hN, h => by
    unfold chkS at h
    split at h
    · exact p_ret (chkE_ok e sc _ X Ek G c.toCok hN h).se
    · cases h
  | .retO e, sc, st, X, Ek, G, c, hN, h => by
    unfold chkS at h
    split at h
    · exact p_retO (chkF_ok e sc _ X Ek G c.toCok hN h)
    · cases h
  | .retN, sc, st, X, Ek, G, c, hN, h => by
    unfold chkS at h
    split at h
    · exact p_retN
    · cases h
  | .if_ k a b, sc, st, X, Ek, G, c, hN, h => by
    unfold chkS at h
    split at h
    · obtain ⟨h, h4⟩ := Bool.and_eq_true_iff.mp h
      obtain ⟨h, h3⟩ := Bool.and_eq_true_iff.mp h
      obtain ⟨h1, h2⟩ := Bool.and_eq_true_iff.mp h
      exact p_if ((chkE_ok k sc _ X Ek G c.toCok hN h1).st h2) (chkSs_ok a sc _ X Ek G c hN h3) (chkSs_ok b sc _ X Ek G c hN h4)
    · cases h
  | .for_ t it b, sc, st, X, Ek, G, c, hN, h => by
    unfold chkS at h
    split at h
    · obtain ⟨h, h4⟩ := Bool.and_eq_true_iff.mp h
      obtain ⟨h, h3⟩ := Bool.and_eq_true_iff.mp h
      obtain ⟨h1, h2⟩ := Bool.and_eq_true_iff.mp h
      exact p_for c.own c.calm (chkI_ok it sc _ _ X Ek G c.toCok hN h1) h2 (chkG_z h3) (chkG_ok c.calm c.nd hN (stor_def c) h3) (chkSs_ok b sc _ X Ek G c hN h4)
    · cases h
  | .while_ k b, sc, st, X, Ek, G, c, hN, h => by
    unfold chkS at h
    split at h
    · obtain ⟨h, h3⟩ := Bool.and_eq_true_iff.mp h
      obtain ⟨h1, h2⟩ := Bool.and_eq_true_iff.mp h
      exact p_while c.own ((chkE_ok k sc _ X Ek G c.toCok hN h1).st h2) (chkSs_ok b sc _ X Ek G c hN h3)
    · cases h
  | .brk, sc, st, X, Ek, G, c, hN, h => by
    unfold chkS at h
    split at h
    · exact p_brk
    · cases h
  | .raise k es, sc, st, X, Ek, G, c, hN, h => by
    unfold chkS at h
    split at h
    · simp only [Bool.and_eq_true, decide_eq_true_eq] at h
      obtain ⟨C, F, x1, _⟩ := G.exc _ h.1.2
      have e0 := h.1.1.1.1
      subst e0
      have q := chkEs_ok es sc _ X Ek G c.toCok hN h.2
      exact p_raise c.calm c.tk F x1 (c.toCok.gl (glB_ok h.1.1.1.2)) (plainName_ok h.1.1.2).1 q.sa q.pl
    · cases h
  | .asub i o k e, sc, st, X, Ek, G, c, hN, h => by
    unfold chkS at h
    split at h
    · obtain ⟨h, h7⟩ := Bool.and_eq_true_iff.mp h
      obtain ⟨h, h6⟩ := Bool.and_eq_true_iff.mp h
      obtain ⟨h, h5⟩ := Bool.and_eq_true_iff.mp h
      obtain ⟨h, h4⟩ := Bool.and_eq_true_iff.mp h
      obtain ⟨h, h3⟩ := Bool.and_eq_true_iff.mp h
      obtain ⟨h1, h2⟩ := Bool.and_eq_true_iff.mp h
      have hd := plainName_ok h3
      exact p_asub (pe_var (slot_ok hN h1) (vis_ok c.toCok h2) hd.1 hd.2) (chkE_ok k sc _ X Ek G c.toCok hN h5).se (chkE_ok e sc _ X Ek G c.toCok hN h7).se (bopI_ok h4) (aug_sub h6)
    · cases h
  | .tryA b i m, sc, st, X, Ek, G, c, hN, h => by
    unfold chkS at h
    split at h
    · obtain ⟨h, h10⟩ := Bool.and_eq_true_iff.mp h
      obtain ⟨h, h9⟩ := Bool.and_eq_true_iff.mp h
      obtain ⟨h, h8⟩ := Bool.and_eq_true_iff.mp h
      obtain ⟨h, h7⟩ := Bool.and_eq_true_iff.mp h
      obtain ⟨h, h6⟩ := Bool.and_eq_true_iff.mp h
      obtain ⟨h, h5⟩ := Bool.and_eq_true_iff.mp h
      obtain ⟨h, h4⟩ := Bool.and_eq_true_iff.mp h
      obtain ⟨h, h3⟩ := Bool.and_eq_true_iff.mp h
      obtain ⟨h1, h2⟩ := Bool.and_eq_true_iff.mp h
      obtain ⟨C, F, _, x2⟩ := G.exc _ (of_decide_eq_true h3)
      have ey := of_decide_eq_true h9
      subst ey
      have en := of_decide_eq_true h10
      subst en
      have hb : ∀ (Ek' : WX) (pn : List (Addr × Obj)) (xe : Value → Shared → Prop), Takes (X.tr pn xe) Ek' → PassesOwn (model X.prog X.w) X.A X.env xe → SSs XR (X.tr pn xe) Ek' (callF tb n) b _ := fun Ek' pn xe tk po =>
        chkSs_ok b sc _ (X.tr pn xe) Ek' G ⟨⟨c.calm, c.nd, c.room, c.gd, c.scope, fun σ => passAt tk σ⟩, c.kind, c.fnT, po, tk, c.st, c.fr⟩ hN h4
      exact p_tryA c.st c.fr (slt_ok c hN h5 h6) (vis_ok c.toCok h7) (plainName_ok h8) F x2 (c.toCok.gl (glB_ok h1)) (plainName_ok h2).1 hb
    · cases h
  | .tryR b d, sc, st, X, Ek, G, c, hN, h => by
    unfold chkS at h
    split at h
    · obtain ⟨h, h5⟩ := Bool.and_eq_true_iff.mp h
      obtain ⟨h, h4⟩ := Bool.and_eq_true_iff.mp h
      obtain ⟨h, h3⟩ := Bool.and_eq_true_iff.mp h
      obtain ⟨h1, h2⟩ := Bool.and_eq_true_iff.mp h
      obtain ⟨C, F, _, x2⟩ := G.exc _ (of_decide_eq_true h3)
      have hb : ∀ (Ek' : WX) (pn : List (Addr × Obj)) (xe : Value → Shared → Prop), Takes (X.tr pn xe) Ek' → PassesOwn (model X.prog X.w) X.A X.env xe → SSs XR (X.tr pn xe) Ek' (callF tb n) b _ := fun Ek' pn xe tk po =>
        chkSs_ok b sc _ (X.tr pn xe) Ek' G ⟨⟨c.calm, c.nd, c.room, c.gd, c.scope, fun σ => passAt tk σ⟩, c.kind, c.fnT, po, tk, c.st, c.fr⟩ hN h4
      split at h5
      · exact p_tryR c.st c.fr F x2 (c.toCok.gl (glB_ok h1)) (plainName_ok h2).1 hb (fun Y => pe_non) (fun _ _ => rp_none)
      · rw [eq_of_beq h5]
        exact p_tryR c.st c.fr F x2 (c.toCok.gl (glB_ok h1)) (plainName_ok h2).1 hb (fun Y => pe_bl) (fun _ _ => rp_bool)
      · cases h5
    · cases h
  | .pass, sc, st, X, Ek, G, c, hN, h => by
    unfold chkS at h
    split at h
    · exact p_pass
    · cases h
theorem chkSs_ok : ∀ (ss : Ss) (sc : Scope) (st : List Stmt) (X : Cx) (Ek : WX), Gx X XR tb n T → Sok X Ek n sc → X.N = N → chkSs T N sc ss st = true → SSs XR X Ek (callF tb n) ss st
  | .nil, sc, st, X, Ek, G, c, hN, h => by
    unfold chkSs at h
    split at h
    · exact p_nil
    · cases h
  | .cons s r, sc, st, X, Ek, G, c, hN, h => by
    unfold chkSs at h
    split at h
    · exact p_fgt (chkSs_ok r sc _ X Ek G c hN h)
    · split at h
      · obtain ⟨h1, h2⟩ := Bool.and_eq_true_iff.mp h
        exact p_cons (chkS_ok s sc _ X Ek G c hN h1) (chkSs_ok r sc _ X Ek G c hN h2)
      · cases h
end
end
end Ev

set_option Elab.async false
set_option linter.all false
set_option maxRecDepth 100000
set_option autoImplicit false
/-! Ev10: all defs of a text, and the law. -/
namespace Ev
open PySem L2 PySem.Spec PyProof.Rows
/-- a def of the text, as it stands behind the top -/
structure DefK (K : PySem.W.Frag) (mg : Str → Option Value) (y : Str) (st : Stmt) (ps : List Str) : Prop where
  ex : ∃ x fa fd, Fun K x x st fa fd ∧ mg y = some (.ref fa) ∧ Binds K fd ps []
theorem defK_mk {K : PySem.W.Frag} {h : Heap} {mg : Str → Option Value} {x y : Str} {st : Stmt} {ps : List Str} {f : Addr} {oc : Value} {od an : Option Addr} {osl : Array (Option Value)} {kV doc pm cdv ct : Value} (X : K.In h) (G : h.Ns mainGlobals mg)
    (a : PySem.W.nsIn K mainGlobals y = some (some (.ref f))) (l : K.lookup f = some ⟨oc, od, .func (PySem.W.fnOf x x (defArgs st) (defBody st) (defScope st) .none kV doc pm an cdv ct), osl⟩) (c : PySem.W.codeIn K cdv x = true) (k : PySem.W.keepIn K (.ref f) = true)
    (b : ∀ (kV doc pm : Value) (an : Option Addr) (cdv ct : Value) (us : List Value), us.length = ps.length → bindArgs (PySem.W.fnOf x x (defArgs st) (defBody st) (defScope st) .none kV doc pm an cdv ct) ⟨us, []⟩ = pure (ps.zip us)) : DefK K mg y st ps :=
  ⟨x, f, _, fun_mk l c k, PySem.W.mg_of X G a, (fun_mk l c k).binds b⟩
/-- the names of a def -/
def scOk (N ps : List Str) (sc : Scope) : Bool :=
  [decide (sc.kind = .function), !sc.isCoroutine, !sc.isGenerator, decide N.Nodup, decide (N.take ps.length = ps), ps.all (locB sc), sc.names.all fun y => !(y.2 == .free)].all id
theorem scOk_ok {N ps : List Str} {sc : Scope} (h : scOk N ps sc = true) : FnScope N ps sc := by
  simp only [scOk, List.all_cons, List.all_nil, id_eq, Bool.and_eq_true, Bool.and_true, decide_eq_true_eq, Bool.not_eq_true'] at h
  obtain ⟨k1, k2, k3, k4, k5, k6, k7⟩ := h
  refine { kind := k1, co := k2, gen := k3, nd := k4, pre := k5, par := fun y hy => locB_ok (List.all_eq_true.mp k6 y hy), nofree := fun y hy e => ?_ }
  have := List.all_eq_true.mp k7 y hy
  rw [e] at this
  cases this
/-- its text agrees with its term -/
def chkDef (T : Tab) (fn : Fn) (st : Stmt) : Bool := scOk fn.names (fn.names.take fn.params) (defScope st) && decide (fn.params ≤ fn.names.length) && chkSs T fn.names (defScope st) fn.body (defBody st)
/-- all that is asked of a def -/
def Good (K : PySem.W.Frag) (mg : Str → Option Value) (T : Tab) (tb : Nat → Option Fn) (p : Str × Nat) : Prop := ∃ st fn, tb p.2 = some fn ∧ DefK K mg p.1 st (fn.names.take fn.params) ∧ chkDef T fn st = true
/-- .. of a constant -/
def GoodC (K : PySem.W.Frag) (mg : Str → Option Value) (p : Str × D) : Prop := ∃ v u, mg p.1 = some u ∧ RelV v u ∧ Rp K NoH (fun _ => False) p.2 v
section
variable {K : PySem.W.Frag} {h : Heap} {mg : Str → Option Value} {y : Str}
theorem gc_int {i : Int} {t : Tok} (X : K.In h) (G : h.Ns mainGlobals mg) (a : PySem.W.nsIn K mainGlobals y = some (some (.int i t))) : GoodC K mg (y, .int i) := ⟨.int i, _, PySem.W.mg_of X G a, ⟨t, rfl⟩, rp_int⟩
theorem gc_str {i : Str} {t : Tok} (X : K.In h) (G : h.Ns mainGlobals mg) (a : PySem.W.nsIn K mainGlobals y = some (some (.str i t))) : GoodC K mg (y, .str i) := ⟨.str i, _, PySem.W.mg_of X G a, ⟨t, rfl⟩, rp_str⟩
/-- what stands for d in the module -/
def KRep (K : PySem.W.Frag) (d : D) (u : Value) : Prop := ∃ v, RelV v u ∧ Rp K NoH (fun _ => False) d v
theorem kr_int {i : Int} {t : Tok} : KRep K (.int i) (.int i t) := ⟨.int i, ⟨t, rfl⟩, rp_int⟩
theorem kr_str {i : Str} {t : Tok} : KRep K (.str i) (.str i t) := ⟨.str i, ⟨t, rfl⟩, rp_str⟩
theorem kr_bool {b : Bool} : KRep K (.bool b) (.bool b) := ⟨.bl b, rfl, rp_bool⟩
theorem kr_none : KRep K .none .none := ⟨.non, rfl, rp_none⟩
inductive KReps (K : PySem.W.Frag) : List D → List Value → Prop
  | nil : KReps K [] []
  | cons {d : D} {ds : List D} {u : Value} {us : List Value} : KRep K d u → KReps K ds us → KReps K (d :: ds) (u :: us)
theorem KReps.vals : ∀ {ds : List D} {us : List Value}, KReps K ds us → ∃ xs, Vals xs us ∧ Rps K NoH (fun _ => False) ds xs
  | _, _, .nil => ⟨[], .nil, .nil⟩
  | _, _, .cons ⟨v, r, p⟩ t => let ⟨xs, q, z⟩ := t.vals; ⟨v :: xs, .cons r q, .cons p z⟩
theorem KReps.len : ∀ {ds : List D} {us : List Value}, KReps K ds us → us.length = ds.length
  | _, _, .nil => rfl
  | _, _, .cons _ t => by rw [List.length_cons, List.length_cons, t.len]
theorem kr_tup {ds : List D} {us : List Value} {n : Nat} {a : Addr} {sl : Array (Option Value)} (l : K.lookup a = some ⟨.type "tuple", none, .seq ⟨us⟩ n, sl⟩) (z : ds.length ≤ sizeLine) (r : KReps K ds us) : KRep K (.tuple ds) (.ref a) := by
  obtain ⟨xs, q, p⟩ := r.vals
  exact ⟨.ref a, rfl, rp_tup (.inr ⟨_, ⟨us⟩, n, l, rfl, rfl, rfl, by show us.length ≤ sizeLine; rw [r.len]; exact z, q⟩) p⟩
theorem kr_lst {ds : List D} {us : List Value} {n : Nat} {a : Addr} {sl : Array (Option Value)} (l : K.lookup a = some ⟨.type "list", none, .seq ⟨us⟩ n, sl⟩) (z : ds.length ≤ sizeLine) (r : KReps K ds us) : KRep K (.list ds) (.ref a) := by
  obtain ⟨xs, q, p⟩ := r.vals
  exact ⟨.ref a, rfl, rp_lst (.inr (.inr ⟨_, ⟨us⟩, n, l, rfl, rfl, rfl, by show us.length ≤ sizeLine; rw [r.len]; exact z, q⟩)) p⟩
theorem gc_of {d : D} {u : Value} (X : K.In h) (G : h.Ns mainGlobals mg) (a : PySem.W.nsIn K mainGlobals y = some (some u)) (r : KRep K d u) : GoodC K mg (y, d) := let ⟨v, q, p⟩ := r; ⟨v, u, PySem.W.mg_of X G a, q, p⟩
end
theorem lookup_mem {α : Type} {x : Str} {a : α} : ∀ {l : List (Str × α)}, l.lookup x = some a → (x, a) ∈ l
  | [], h => by cases h
  | (y, b) :: r, h => by
    rw [List.lookup_cons] at h
    split at h
    · rename_i e
      cases h
      rw [eq_of_beq e]
      exact List.mem_cons_self
    · exact List.mem_cons_of_mem _ (lookup_mem h)
section
variable {P : Program} {w : World} {K : PySem.W.Frag} {mg : Str → Option Value} {base : Heap} {XR : Hp → (Addr → Prop) → Exn → Value → Option Addr → Prop} {tb : Nat → Option Fn} {T : Tab}
def ExcAll (K : PySem.W.Frag) (mg : Str → Option Value) (XR : Hp → (Addr → Prop) → Exn → Value → Option Addr → Prop) (T : Tab) : Prop := ∀ x, x ∈ T.excs → ∃ C, ExcF K mg x C ∧ (∀ H M c d, c = .ref C → d = none → XR H M ⟨0, []⟩ c d) ∧ (∀ H M y c d, y.cls = 0 → XR H M y c d → c = .ref C ∧ d = none)
theorem glb_all (hE : ExcAll K mg XR T) (hX : XMono XR) (hf : ∀ p ∈ T.fns, Good K mg T tb p) (hc : ∀ p ∈ T.cons, GoodC K mg p) (hb : ∀ x ∈ T.blts, mg x = none) : ∀ n : Nat, Glb P w K mg base XR tb n T
  | 0 => ⟨hX, fun x f e => by
      obtain ⟨st, fn, h1, h2, h3⟩ := hf _ (lookup_mem e)
      obtain ⟨x', fa, fd, F, m, b⟩ := h2.ex
      unfold chkDef at h3
      obtain ⟨h3, h4⟩ := Bool.and_eq_true_iff.mp h3
      obtain ⟨h5, h6⟩ := Bool.and_eq_true_iff.mp h3
      have hl : fn.params = (fn.names.take fn.params).length := by rw [List.length_take, Nat.min_eq_left (of_decide_eq_true h6)]
      refine ⟨fa, fd, _, fn, h1, hl, m, F.kp, b, fun vs H Q E h => h.1.trans hl, fun A outer s H args us vs Q E _ _ _ _ _ h => ?_⟩
      obtain ⟨_, B, ar, _, h⟩ := h
      exact h.elim, fun x d e => hc _ (lookup_mem e), hb, hE⟩
  | n + 1 => by
    have G := glb_all hE hX hf hc hb n
    refine ⟨hX, fun x f e => ?_, G.con, hb, hE⟩
    obtain ⟨st, fn, h1, h2, h3⟩ := hf _ (lookup_mem e)
    obtain ⟨x', fa, fd, F, m, b⟩ := h2.ex
    unfold chkDef at h3
    obtain ⟨h3, h4⟩ := Bool.and_eq_true_iff.mp h3
    obtain ⟨h5, h6⟩ := Bool.and_eq_true_iff.mp h3
    have hl : fn.params = (fn.names.take fn.params).length := by rw [List.length_take, Nat.min_eq_left (of_decide_eq_true h6)]
    have S := scOk_ok h5
    obtain ⟨oc, od, kV, doc, pm, an, cdv, ct, osl, e1, lk, hcd⟩ := F.ex
    subst e1
    refine ⟨fa, _, _, fn, h1, hl, m, F.kp, b, ?_⟩
    refine fn_ev lk hcd S rfl hl h1 hX fun X Ek c eN eP ew eK em eb fT ow tk st fr => ?_
    exact chkSs_ok _ _ _ X Ek (by rw [← eP, ← ew, ← eK, ← em, ← eb] at G; exact G) { c with kind := S.kind, fnT := fT, own := ow, tk := tk, st := st, fr := fr } eN h4
end
/-! ### the law at a script -/
/-- the one list that a law is handed, if the module does not hold it -/
def scriptH (K : PySem.W.Frag) (a : Addr) (ob : Obj) (ns : List Int) : Hp := fun b => if b = a ∧ K.lookup a = none then some (.frz ob (.lst (ns.map V.int))) else none
theorem scriptH_some {K : PySem.W.Frag} {a b : Addr} {ob : Obj} {ns : List Int} {u : HO} (h : scriptH K a ob ns b = some u) : b = a ∧ K.lookup a = none ∧ u = .frz ob (.lst (ns.map V.int)) := by
  unfold scriptH at h
  split at h
  · rename_i c
    cases h
    exact ⟨c.1, c.2, rfl⟩
  · cases h
section
variable {P : Program} {w : World} {K : PySem.W.Frag} {mg mb : Str → Option Value} {tb : Nat → Option Fn} {n f0 : Nat} {fa a : Addr} {z : Shared} {us : List Value} {ns : List Int}
abbrev XR0 (C : Addr) : Hp → (Addr → Prop) → Exn → Value → Option Addr → Prop := fun _ _ x c d => x.cls = 0 ∧ c = .ref C ∧ d = none
theorem mono0 {C : Addr} : XMono (XR0 C) := fun _ _ _ _ _ _ _ h => h
variable {C0 : Addr}
/-- what the evaluator says of the law's def holds of its call -/
theorem law_at (inK : K.In z.heap) (gl : z.heap.Ns mainGlobals mg) (bl : z.heap.Ns builtinsNs mb) (bb : ∀ y : Str, y ≠ "__name__" → mb y = bootBuiltins y) (nl : z.heap.NoLimit) (ge : z.gens = #[])
    (ob : z.heap.get? a = some { cls := .type "list", data := .seq us.toArray }) (ii : IntsAre us ns) (small : ns.length ≤ sizeLine) (room : Room n callerA)
    (FF : ∀ base : Heap, ∃ fd ps, FnG P w K mg base (L2.CX P w) n fa fd ps (spF K (XR0 C0) (callF tb n) 1 f0) ∧ BindsTo z fd ⟨[.ref a], []⟩ (ps.zip [.ref a]))
    (val : ∃ o, callF tb n f0 [.val (.list (ns.map PyData.int))] = .ok (.val (.bool true)) o) :
    codeAny (model P w) callerA (.call (.ref fa) ⟨[.ref a], []⟩) (fun r t => r = .ok (.ret (.bool true)) ∧ OldK z.heap t.heap ∧ t.os = z.os ∧ AllBare t.gens) z := by
  generalize hH : scriptH K a { cls := .type "list", data := .seq us.toArray } ns = H
  have only : ∀ {b u}, H b = some u → b = a ∧ K.lookup a = none ∧ u = .frz { cls := .type "list", data := .seq us.toArray } (.lst (ns.map V.int)) := fun {b u} e => by
    rw [← hH] at e; exact scriptH_some e
  have rv := vals_ints ii
  have good : HOk P w H z.heap := fun b u e => by
    obtain ⟨rfl, _, rfl⟩ := only e
    exact ⟨ob, by rw [List.length_map]; exact small, us, _, rv, ob⟩
  -- what a dict holds is not told
  have free : ∀ {b : Addr} {o : Obj} {es : Array DictEntry} {k : Nat}, z.heap.get? b = some o → o.data = .dict es k → H b = none := fun {b o es k} e d => by
    cases q : H b with
    | none => rfl
    | some u =>
      obtain ⟨rfl, _, _⟩ := only q
      rw [ob] at e
      cases e
      cases d
  have spaces : ∀ {b : Addr} {m : Str → Option Value}, z.heap.Ns b m → (hidT z.heap H).Ns b m := fun {b m} ⟨o, es, k, e, d, r⟩ => ⟨o, es, k, hidT_get e (free e d), d, r⟩
  have baseK : K.In (hidT z.heap H) := fun b o e => hidT_get (inK b o e) (by
    cases q : H b with
    | none => rfl
    | some u =>
      obtain ⟨rfl, k0, _⟩ := only q
      rw [k0] at e; cases e)
  have env : Env0 P w K mg (hidT z.heap H) callerA [] z H :=
    { frames := rfl, mod := ⟨baseK, spaces gl, ⟨mb, spaces bl, bb⟩, let ⟨m, h1, h2⟩ := nl; ⟨m, spaces h1, h2⟩⟩, bs := fun b o e => of_hidT e, bsz := Nat.le_of_eq (hidT_size _ _), funs := trivial, frf := fun b hb => (List.not_mem_nil hb).elim, hok := good, bare := .of_eq ge }
  -- the script is a list of the model
  have isL : SqL K H a (ns.map V.int) := by
    cases k0 : K.lookup a with
    | none =>
      refine .inl (.inr ⟨{ cls := .type "list", data := .seq us.toArray }, ?_⟩)
      rw [← hH]
      exact if_pos ⟨rfl, k0⟩
    | some o =>
      have e := inK a o k0
      rw [ob] at e
      cases e
      exact .inr ⟨_, us.toArray, _, k0, rfl, rfl, rfl, by rw [List.size_toArray, ii.length]; exact small, rv⟩
  have sr : SR K H (fun _ => False) [.val (.list (ns.map PyData.int))] ([V.ref a].map some) := by
    have noO : ∀ {i b}, ¬ Owner [Ent.val (.list (ns.map PyData.int))] ([V.ref a].map some) i b := fun {i b} => no_owner (ds := [.list (ns.map PyData.int)])
    refine ⟨rfl, fun i d e => ?_, fun i e d h o _ => ?_, fun i j b h _ => (noO h).elim, fun b h => h.elim⟩
    · cases i with
      | zero =>
        cases e
        refine ⟨.ref a, rfl, rp_lst ?_ Rps.ints⟩
        rcases isL with h | h
        · exact .inl ⟨h, fun q => q.elim id fun ⟨_, q⟩ => noO q⟩
        · exact .inr (.inr h)
      | succ j => simp at e
    · cases i with
      | zero => cases h; cases o
      | succ j => simp at h
  obtain ⟨oo, val⟩ := val
  obtain ⟨fd, ps, FG, bind⟩ := FF (hidT z.heap H)
  refine codeAny_mono (FG.run callerA [] z H ⟨[.ref a], []⟩ [.ref a] [.ref a] (fun v _ => v = .bl true) (fun _ _ _ => False) room rfl env bind (.cons rfl .nil) ⟨rfl, _, _, sr, ?_⟩) fun r t h => ?_
  · rw [val]
    intro v H' _ _ q
    simpa [RetOk, Rp] using q
  · cases r with
    | error e =>
      obtain ⟨_, _, _, _, _, _, _, _, _, _, _, _, h⟩ := h
      exact h.elim
    | ok fl =>
      cases fl with
      | ret u =>
        obtain ⟨v, H', os, bare, un, ok', rr, e⟩ := h
        subst e
        obtain rfl : u = Value.bool true := rr
        refine ⟨rfl, OldK.of_keep fun b o e => ?_, os, bare⟩
        cases q : H b with
        | none => exact un.keep b o e q (fun h => (List.not_mem_nil h).elim) (fun h => (List.not_mem_nil h).elim)
        | some u =>
          obtain ⟨rfl, k0, rfl⟩ := only q
          have e2 := (ok' _ _ (un.frzs b _ _ q)).1
          rw [ob] at e
          cases e
          exact e2
      | _ => exact h.elim
end
/-- what k_fill leaves -/
theorem law_fin {l : PySem.W.OpenLaw} {q : Program} {loose : List Str} {XP : (Str → Option Value) → Heap → Prop} {YP : World → Heap → Prop} {d : DefRec} {K : Params → PySem.W.Frag} {tb : Nat → Option Fn} {T : Tab} {n f0 : Nat}
    (most : l.most = some 63) (dflt : d.params.defaults = []) (hY : ∀ (w : World) (h : Heap), YP w h → (K w.params).In h) (room : Room n callerA) (nm : T.fns.lookup d.name = some f0) (hx : ∀ fn, tb f0 = some fn → fn.params = 1)
    (F : ∀ (w : World) (mg : Str → Option Value) (h : Heap), (K w.params).In h → h.Ns mainGlobals mg → (∀ p ∈ T.fns, Good (K w.params) mg T tb p) ∧ (∀ p ∈ T.cons, GoodC (K w.params) mg p) ∧ (∀ y ∈ T.blts, mg y = none) ∧ ∃ C, ∀ x ∈ T.excs, ExcF (K w.params) mg x C)
    (val : ∀ ns : List Int, ns.length ≤ 63 → ∃ o, callF tb n f0 [.val (.list (ns.map PyData.int))] = .ok (.val (.bool true)) o) : PySem.W.WalkO q loose XP YP l.row.toRowW d [] (fun f vs => PySem.call f vs) := by
  refine Att.attach_call most dflt fun w s0 z mg mb fa o pm cd doc a us ns G Y ho hd hcd hmg ob ii hl ge => ?_
  have inK := hY w _ Y
  obtain ⟨h1, h2, h3, C0, h4⟩ := F w mg _ inK G.T.g
  have hE : ExcAll (K w.params) mg (XR0 C0) T := fun x hx => ⟨C0, h4 x hx, fun _ _ _ _ a b => ⟨rfl, a, b⟩, fun _ _ _ _ _ _ q => q.2⟩
  have all : ∀ base, Glb l.prog w (K w.params) mg base (XR0 C0) tb n T := fun base => glb_all hE mono0 h1 h2 h3 n
  refine law_at (C0 := C0) inK G.T.g G.T.b G.T.builtins G.T.nolimit ge ob ii (Nat.le_trans hl (by decide)) room (fun base => ?_) (val ns hl)
  obtain ⟨fa2, fd2, ps2, fn2, q1, q2, q3, q4, q5, q6⟩ := (all base).fn _ _ nm
  have p1 := hx fn2 q1
  rw [hmg] at q3
  cases q3
  rw [p1] at q2 q6
  have b := q5 z [.ref a] inK (by rw [List.append_nil]; exact q2)
  exact ⟨fd2, ps2, q6, by rw [List.append_nil] at b; exact b⟩
end Ev

set_option Elab.async false
set_option linter.all false
set_option maxRecDepth 100000
set_option autoImplicit false
/-! Kev: a plain reading of the terms: expressions give results, statements go on by what comes behind them. -/
namespace Ev
open PySem L2
/-- how a plain run ends -/
inductive Rs (α : Type) where
  | ok (a : α) | ex (x : Exn) | no
def Rs.bnd {α β : Type} (r : Rs α) (f : α → Rs β) : Rs β := match r with
  | .ok a => f a | .ex x => .ex x | .no => .no
def Rs.lift {α : Type} (o : Option α) : Rs α := match o with
  | some a => .ok a | none => .no
def Rs.fold {α A : Type} (r : Rs α) (no : A) (kx : Exn → A) (k : α → A) : A := match r with
  | .ok a => k a | .ex x => kx x | .no => no
@[simp] theorem bnd_ok {α β : Type} {a : α} {f : α → Rs β} : (Rs.ok a).bnd f = f a := rfl
@[simp] theorem bnd_ex {α β : Type} {x : Exn} {f : α → Rs β} : (Rs.ex x : Rs α).bnd f = .ex x := rfl
@[simp] theorem bnd_no {α β : Type} {f : α → Rs β} : (Rs.no : Rs α).bnd f = .no := rfl
@[simp] theorem lift_some {α : Type} {a : α} : Rs.lift (some a) = .ok a := rfl
@[simp] theorem lift_none {α : Type} : (Rs.lift none : Rs α) = .no := rfl
@[simp] theorem fold_ok {α A : Type} {a : α} {no : A} {kx : Exn → A} {k : α → A} : (Rs.ok a).fold no kx k = k a := rfl
@[simp] theorem fold_ex {α A : Type} {x : Exn} {no : A} {kx : Exn → A} {k : α → A} : (Rs.ex x : Rs α).fold no kx k = kx x := rfl
@[simp] theorem fold_no {α A : Type} {no : A} {kx : Exn → A} {k : α → A} : (Rs.no : Rs α).fold no kx k = no := rfl
def kop {α A : Type} (no : A) (o : Option α) (k : α → A) : A := match o with
  | some a => k a | none => no
@[simp] theorem kop_some {α A : Type} {no : A} {a : α} {k : α → A} : kop no (some a) k = k a := rfl
@[simp] theorem kop_none {α A : Type} {no : A} {k : α → A} : kop no (none : Option α) k = no := rfl
def asBs : D → Rs Bool
  | .bool b => .ok b
  | _ => .no
def asIs : D → Rs Int
  | .int b => .ok b
  | _ => .no
@[simp] theorem asBs_bool {b : Bool} : asBs (.bool b) = .ok b := rfl
@[simp] theorem asIs_int {b : Int} : asIs (.int b) = .ok b := rfl
def Es.len : Es → Nat
  | .nil => 0
  | .cons _ r => r.len + 1
def compM (f : D → Rs (Option D)) : List D → Rs (List D)
  | [] => .ok []
  | x :: xs => match f x with
    | .ok o => (compM f xs).bnd fun ds => .ok (o.toList ++ ds)
    | _ => .no
def compL (f : D → Rs (List D)) : List D → Rs (List D)
  | [] => .ok []
  | x :: xs => match f x with
    | .ok ys => (compL f xs).bnd fun ds => .ok (ys ++ ds)
    | _ => .no
section
variable {A : Type} (no : A)
def kput (ρ : Rho) (i : Nat) (e : Ent) (k : Rho → A) : A := match ρ[i]? with
  | some (.io _) => no | some _ => k (ρ.set i e) | none => no
def ksetL : List Nat → List D → Rho → (Rho → A) → A
  | [], ds, ρ, k => match ds with
    | [] => k ρ
    | _ :: _ => no
  | i :: is, ds, ρ, k => match ds with
    | d :: ds => kput no ρ i (.val d) fun ρ => ksetL is ds ρ k
    | [] => no
def ktup (d : D) (f : List D → A) : A := match d with
  | .tuple ds => f ds
  | .list ds => f ds
  | _ => no
def kset : Tgt → D → Rho → (Rho → A) → A
  | .one i, d, ρ, k => kput no ρ i (.val d) k
  | .tup is, d, ρ, k => ktup no d fun ds => ksetL no is ds ρ k
end
def lstD : D → Option (List D)
  | .list ds => some ds
  | _ => none
@[simp] theorem lstD_list {ds : List D} : lstD (.list ds) = some ds := rfl
def tupD : D → Option (List D)
  | .tuple ds => some ds
  | _ => none
@[simp] theorem tupD_tuple {ds : List D} : tupD (.tuple ds) = some ds := rfl
def szL (zs : List D) : Rs D := if zs.length ≤ sizeLine then .ok (.list zs) else .no
theorem szL_ok {zs : List D} (h : zs.length ≤ 100000) : szL zs = .ok (.list zs) := by
  unfold szL
  rw [if_pos (Nat.le_trans h (by decide))]
def pO (e : E) (r : Rho → Rs D) (ρ : Rho) : Rs D := match e with
  | .v i => .lift (ρ.at i)
  | _ => r ρ
section
variable (cl : Nat → List D → Rs D) (ow : Nat → Bool)
mutual
def pE : E → Rho → Rs D
  | .v i, ρ => match ρ[i]? with
    | some (.val d) => .ok d
    | _ => .no
  | .k d, _ => .ok d
  | .g d, _ => .ok d
  | .tup es, ρ => if es.len ≤ 1000 then pEs es ρ fun ds => .ok (.tuple ds) else .no
  | .lst es, ρ => if es.len ≤ 1000 then pEs es ρ fun ds => .ok (.list ds) else .no
  | .bin o a b, ρ => (pO a (pE a) ρ).bnd fun x => (pO b (pE b) ρ).bnd fun y => .lift (binF o x y)
  | .cmp o a b, ρ => (pO a (pE a) ρ).bnd fun x => (pO b (pE b) ρ).bnd fun y => (Rs.lift (cmpF o x y)).bnd fun z => .ok (.bool z)
  | .chn o o' a b c, ρ => (pO a (pE a) ρ).bnd fun x => (pO b (pE b) ρ).bnd fun y => (Rs.lift (cmpF o x y)).bnd fun z =>
      cond z ((pO c (pE c) ρ).bnd fun u => (Rs.lift (cmpF o' y u)).bnd fun z => .ok (.bool z)) (.ok (.bool false))
  | .chn3 o o' o'' a b c d, ρ => (pO a (pE a) ρ).bnd fun x => (pO b (pE b) ρ).bnd fun y => (Rs.lift (cmpF o x y)).bnd fun z =>
      cond z ((pO c (pE c) ρ).bnd fun u => (Rs.lift (cmpF o' y u)).bnd fun z =>
        cond z ((pO d (pE d) ρ).bnd fun w => (Rs.lift (cmpF o'' u w)).bnd fun z => .ok (.bool z)) (.ok (.bool false))) (.ok (.bool false))
  | .and_ es, ρ => pAnd es ρ
  | .or_ es, ρ => pOr es ρ
  | .not_ a, ρ => (pE a ρ).bnd fun x => (asBs x).bnd fun b => .ok (.bool (!b))
  | .neg a, ρ => (pE a ρ).bnd fun x => (asIs x).bnd fun b => .ok (.int (-b))
  | .isN a, ρ => (pO a (pE a) ρ).bnd fun x => .ok (.bool (isNoneD x))
  | .notN a, ρ => (pO a (pE a) ρ).bnd fun x => .ok (.bool (!isNoneD x))
  | .ite c a b, ρ => (pE c ρ).bnd fun x => (asBs x).bnd fun k => cond k (pE a ρ) (pE b ρ)
  | .idx a b, ρ => (pO a (pE a) ρ).bnd fun x => (pO b (pE b) ρ).bnd fun y => .lift (idxF x y)
  | .slc a lo hi, ρ => (pO a (pE a) ρ).bnd fun x => (pI lo ρ).bnd fun l => (pI hi ρ).bnd fun h => .lift (slcF l h x)
  | .rev a, ρ => (pO a (pE a) ρ).bnd fun x => .lift (revF x)
  | .call f es, ρ => if ow f then .no else pEs es ρ fun ds => cl f ds
  | .p1 o a, ρ => (pO a (pE a) ρ).bnd fun x => .lift (p1F o x)
  | .p2 o a b, ρ => (pO a (pE a) ρ).bnd fun x => (pO b (pE b) ρ).bnd fun y => .lift (p2F o x y)
  | .isi a t, ρ => (pO a (pE a) ρ).bnd fun x => .ok (.bool (isTy x t))
  | .m1 o a b, ρ => (pE a ρ).bnd fun x => (Rs.lift (lstD x)).bnd fun ds => (pE b ρ).bnd fun y => .lift (m1F o (.list ds) y)
  | .comp own e t it c, ρ => if (plainAt ρ own && t.slots.all fun i => own.contains i) = true then (pIt it ρ).bnd fun xs =>
      (compM (fun x => kset .no t x (wipeR ρ own) fun ρ1 => (pC c ρ1).bnd fun k => cond k ((pE e ρ1).bnd fun d => .ok (some d)) (.ok none)) xs).bnd szL else .no
  | .dct kvs, _ => .ok (.dict kvs)
  | .inK neg ks e, ρ => (pE e ρ).bnd fun x => .lift (inKF neg ks x)
  | .disp ks e a, ρ => (pE e ρ).bnd fun x => (Rs.lift (dispF ks x)).bnd fun f => if ow f then .no else (pE a ρ).bnd fun y => cl f [y]
  | .callp _ _ _, _ => .no
  | .callo _ _, _ => .no
  | .popv _, _ => .no
  | .popi _ _, _ => .no
  | .m1t o a b, ρ => (pE a ρ).bnd fun x => (Rs.lift (tupD x)).bnd fun ds => (pE b ρ).bnd fun y => .lift (m1F o (.tuple ds) y)
  | .comp2 own e t it c own1 t1 it1 c1, ρ => if (plainAt ρ own && (t.slots.all fun i => own.contains i) && (own1.all fun i => own.contains i) && (t1.slots.all fun i => own1.contains i)) = true then (pIt it ρ).bnd fun xs =>
      (compL (fun x => kset .no t x (wipeR ρ own) fun ρ1 => (pC c ρ1).bnd fun k => cond k ((pIt it1 ρ1).bnd fun ys =>
        compM (fun y => kset .no t1 y (wipeR ρ1 own1) fun ρ2 => (pC c1 ρ2).bnd fun k => cond k ((pE e ρ2).bnd fun d => .ok (some d)) (.ok none)) ys) (.ok [])) xs).bnd szL else .no
def pEs : Es → Rho → (List D → Rs D) → Rs D
  | .nil, _, k => k []
  | .cons e r, ρ, k => (pE e ρ).bnd fun d => pEs r ρ fun ds => k (d :: ds)
def pAnd : Es → Rho → Rs D
  | .nil, _ => .no
  | .cons e .nil, ρ => pE e ρ
  | .cons e (.cons e' r), ρ => (pE e ρ).bnd fun x => (asBs x).bnd fun k => cond k (pAnd (.cons e' r) ρ) (.ok (.bool false))
def pOr : Es → Rho → Rs D
  | .nil, _ => .no
  | .cons e .nil, ρ => pE e ρ
  | .cons e (.cons e' r), ρ => (pE e ρ).bnd fun x => (asBs x).bnd fun k => cond k (.ok (.bool true)) (pOr (.cons e' r) ρ)
def pC : Oe → Rho → Rs Bool
  | .no, _ => .ok true
  | .yes e, ρ => (pE e ρ).bnd asBs
def pI : Oe → Rho → Rs (Option Int)
  | .no, _ => .ok none
  | .yes e, ρ => (pE e ρ).bnd fun x => (asIs x).bnd fun i => .ok (some i)
def pIt : It → Rho → Rs (List D)
  | .ov e, ρ => (pE e ρ).bnd fun d => .lift (seqOf d)
  | .rng1 a, ρ => (pE a ρ).bnd fun x => .lift (rngF1 x)
  | .rng2 a b, ρ => (pE a ρ).bnd fun x => (pE b ρ).bnd fun y => .lift (rngF2 x y)
  | .rng3 a b c, ρ => (pE a ρ).bnd fun x => (pE b ρ).bnd fun y => (pE c ρ).bnd fun z => .lift (rngF3 x y z)
  | .zip a b, ρ => (pE a ρ).bnd fun x => (pE b ρ).bnd fun y => .lift (zipF x y)
  | .rvs a, ρ => (pE a ρ).bnd fun x => .lift ((seqOf x).map List.reverse)
end
end

/-! ### statements -/
def popF : D → Option (D × D)
  | .list ds => ds.getLast?.map fun d => (d, .list ds.dropLast)
  | _ => none
def appF (x y : D) : Option D := match x with
  | .list ds => if ds.length < sizeLine then some (.list (ds ++ [y])) else none
  | _ => none
def extF (x y : D) : Option D := match x, y with
  | .list ds, .list ys => if ds.length + ys.length ≤ sizeLine then some (.list (ds ++ ys)) else none
  | _, _ => none
def stoF (x k y : D) : Option D := match x, k with
  | .list ds, .int n => (ixN ds.length n).map fun j => .list (ds.set j y)
  | _, _ => none
def Ent.same : Ent → Ent → Bool
  | .un, .un => true
  | .val _, .val _ => true
  | .own _, .own _ => true
  | _, _ => false
def sameK : Rho → Rho → Bool
  | [], [] => true
  | a :: r, b :: s => a.same b && sameK r s
  | _, _ => false
/-- a state without what it holds -/
def Ent.blank : Ent → Ent
  | .un => .un
  | .val _ => .val .none
  | .own _ => .own .none
  | .io d => .io d
def blank : Rho → Rho
  | [] => []
  | a :: r => a.blank :: blank r
def pay : Rho → List D
  | [] => []
  | .un :: r => pay r
  | .val d :: r => d :: pay r
  | .own d :: r => d :: pay r
  | .io d :: r => d :: pay r
section
variable {A : Type} (no : A)
def withP : Rho → List D → (Rho → A) → A
  | [], s, k => match s with
    | [] => k []
    | _ :: _ => no
  | .un :: r, s, k => withP r s fun ρ => k (.un :: ρ)
  | .val _ :: r, s, k => match s with
    | d :: s => withP r s fun ρ => k (.val d :: ρ)
    | [] => no
  | .own _ :: r, s, k => match s with
    | d :: s => withP r s fun ρ => k (.own d :: ρ)
    | [] => no
  | .io _ :: _, _, _ => no
theorem withP_ok : ∀ {t ρ : Rho} {k : Rho → A}, sameK ρ t = true → withP no t (pay ρ) k = k ρ
  | [], [], k, _ => rfl
  | [], _ :: _, k, h => by cases h
  | b :: t, [], k, h => by cases b <;> cases h
  | b :: t, a :: ρ, k, h => by
    unfold sameK at h
    obtain ⟨h1, h2⟩ := Bool.and_eq_true_iff.mp h
    have ih := fun k => withP_ok (t := t) (ρ := ρ) (k := k) h2
    cases a <;> cases b <;> first | exact ih _ | cases h1
theorem sameK_blank : ∀ {ρ : Rho}, (∀ d, Ent.io d ∉ ρ) → sameK ρ (blank ρ) = true
  | [], _ => rfl
  | a :: ρ, h => by
    have ih := sameK_blank (ρ := ρ) fun d z => h d (List.mem_cons_of_mem _ z)
    unfold blank sameK
    rw [ih]
    cases a with
    | io d => exact absurd List.mem_cons_self (h d)
    | _ => rfl
theorem sameK_refl : ∀ {ρ : Rho}, (∀ d, Ent.io d ∉ ρ) → sameK ρ ρ = true
  | [], _ => rfl
  | a :: ρ, h => by
    have ih := sameK_refl (ρ := ρ) fun d z => h d (List.mem_cons_of_mem _ z)
    unfold sameK
    rw [ih]
    cases a with
    | io d => exact absurd List.mem_cons_self (h d)
    | _ => rfl
def forK (f : List D → D → (List D → A) → (List D → A) → A) : List D → List D → (List D → A) → A
  | [], s, kn => kn s
  | x :: xs, s, kn => f s x (fun s' => forK f xs s' kn) kn
def whileK (f : List D → (List D → A) → (List D → A) → A) : Nat → List D → (List D → A) → A
  | 0, _, _ => no
  | n + 1, s, kn => f s (fun s' => whileK f n s' kn) kn
end
/-! ### terms that call a def with a list of one's own, or take from one -/
mutual
def impE : E → Bool
  | .tup es => impEs es
  | .lst es => impEs es
  | .bin _ a b => impE a || impE b
  | .cmp _ a b => impE a || impE b
  | .idx a b => impE a || impE b
  | .slc a _ _ => impE a
  | .call _ es => impEs es
  | .p1 _ a => impE a
  | .callp _ _ _ => true
  | .callo _ _ => true
  | .popv _ => true
  | .popi _ _ => true
  | .comp _ e _ _ _ => impE e
  | _ => false
def impEs : Es → Bool
  | .nil => false
  | .cons e r => impE e || impEs r
end
/-- a comprehension whose turns change slots -/
def compK {A : Type} (f : List D → D → (List D → D → A) → A) : List D → List D → List D → (List D → List D → A) → A
  | [], s, acc, kn => kn s acc
  | x :: xs, s, acc, kn => f s x fun s' d => compK f xs s' (acc ++ [d]) kn
def isIo : Ent → Bool
  | .io _ => true
  | _ => false
/-- an operand: a name is looked up when the operation is done -/
def kOp {A : Type} (no : A) (e : E) (r : Rho → (D → Rho → A) → A) (ρ : Rho) (k : Pnd → Rho → A) : A := match e with
  | .v i => kop no (ρ.at i) fun _ => k (.at i) ρ
  | _ => r ρ fun d ρ => k (.got d) ρ
section
variable {A : Type} (no : A) (cl : Nat → List D → Rs D) (clp : Nat → D → List D → (D → D → A) → A) (ow : Nat → Bool)
mutual
def kV : E → (Exn → Rho → A) → Rho → (D → Rho → A) → A
  | .v i, _, ρ, k => match ρ[i]? with
    | some (.val d) => k d ρ
    | some (.own d) => k d (ρ.set i (.val d))
    | _ => no
  | .popv i, _, ρ, k => match ρ[i]? with
    | some (.own x) => kop no (popF x) fun p => k p.1 (ρ.set i (.own p.2))
    | _ => no
  | .call f es, kx, ρ, k => if ow f then no else kVs es kx ρ fun ds ρ => (cl f ds).fold no (fun x => kx x ρ) fun d => k d ρ
  | .callo f es, kx, ρ, k => if ow f then kVs es kx ρ fun ds ρ => (cl f ds).fold no (fun x => kx x ρ) fun d => if ownable d = true then k d ρ else no else no
  | .tup es, kx, ρ, k => if es.len ≤ 1000 then kVs es kx ρ fun ds ρ => k (.tuple ds) ρ else no
  | .lst es, kx, ρ, k => if es.len ≤ 1000 then kVs es kx ρ fun ds ρ => k (.list ds) ρ else no
  | .callp f i es, kx, ρ, k => match ρ[i]? with
    | some (.own _) => kVs es kx ρ fun ds ρ => (match ρ[i]? with
      | some (.own p) => clp f p ds fun d p' => k d (ρ.set i (.own p'))
      | _ => no)
    | _ => no
  | .bin o a b, kx, ρ, k => if (impE a || impE b) = true then kOp no a (kV a kx) ρ fun p ρ => kOp no b (kV b kx) ρ fun q ρ => kop no (p.get ρ) fun x => kop no (q.get ρ) fun y => kop no (binF o x y) fun z => k z ρ
      else (pE cl ow (.bin o a b) ρ).fold no (fun x => kx x ρ) fun d => k d ρ
  | .cmp o a b, kx, ρ, k => if (impE a || impE b) = true then kOp no a (kV a kx) ρ fun p ρ => kOp no b (kV b kx) ρ fun q ρ => kop no (p.get ρ) fun x => kop no (q.get ρ) fun y => kop no (cmpF o x y) fun z => k (.bool z) ρ
      else (pE cl ow (.cmp o a b) ρ).fold no (fun x => kx x ρ) fun d => k d ρ
  | .idx a b, kx, ρ, k => if (impE a || impE b) = true then kOp no a (kV a kx) ρ fun p ρ => kOp no b (kV b kx) ρ fun q ρ => kop no (p.get ρ) fun x => kop no (q.get ρ) fun y => kop no (idxF x y) fun z => k z ρ
      else (pE cl ow (.idx a b) ρ).fold no (fun x => kx x ρ) fun d => k d ρ
  | .slc a lo hi, kx, ρ, k => if impE a = true then kOp no a (kV a kx) ρ fun p ρ => (pI cl ow lo ρ).fold no (fun x => kx x ρ) fun l => (pI cl ow hi ρ).fold no (fun x => kx x ρ) fun h => kop no (p.get ρ) fun x => kop no (slcF l h x) fun z => k z ρ
      else (pE cl ow (.slc a lo hi) ρ).fold no (fun x => kx x ρ) fun d => k d ρ
  | .p1 o a, kx, ρ, k => if impE a = true then kOp no a (kV a kx) ρ fun p ρ => kop no (p.get ρ) fun x => kop no (p1F o x) fun z => k z ρ
      else (pE cl ow (.p1 o a) ρ).fold no (fun x => kx x ρ) fun d => k d ρ
  | .comp own e t it c, kx, ρ, k => if impE e = true then (match c with
      | .no => (pIt cl ow it ρ).fold no (fun x => kx x ρ) fun xs => if (plainAt ρ own && t.slots.all (fun i => own.contains i) && !ρ.any isIo) = true then
          compK (fun s x next => withP no (wipeR ρ own) s fun ρ1 => kset no t x ρ1 fun ρ2 => kV e (fun _ _ => no) ρ2 fun d ρ3 => if (plainAt ρ3 own && sameK (wipeR ρ3 own) (wipeR ρ own)) = true then next (pay (wipeR ρ3 own)) d else no)
            xs (pay (wipeR ρ own)) [] fun s zs => withP no (wipeR ρ own) s fun ρ' => if zs.length ≤ sizeLine then k (.list zs) (backR ρ ρ' own) else no
        else no
      | .yes _ => no)
      else (pE cl ow (.comp own e t it c) ρ).fold no (fun x => kx x ρ) fun d => k d ρ
  | e, kx, ρ, k => (pE cl ow e ρ).fold no (fun x => kx x ρ) fun d => k d ρ
def kVs : Es → (Exn → Rho → A) → Rho → (List D → Rho → A) → A
  | .nil, _, ρ, k => k [] ρ
  | .cons e r, kx, ρ, k => kV e kx ρ fun d ρ => kVs r kx ρ fun ds ρ => k (d :: ds) ρ
end
def kIt : It → (Exn → Rho → A) → Rho → (List D → Rho → A) → A
  | .ov e, kx, ρ, k => kV no cl clp ow e kx ρ fun d ρ => kop no (seqOf d) fun xs => k xs ρ
  | it, kx, ρ, k => (pIt cl ow it ρ).fold no (fun x => kx x ρ) fun xs => k xs ρ
def kown (d : D) (k : D → A) : A := if ownable d = true then k d else no
def klst (x : D) (k : A) : A := match x with
  | .list _ => k
  | _ => no
@[simp] theorem klst_ok {k : A} {ds : List D} : klst no (.list ds) k = k := rfl
/-- a list of one's own stands there -/
def kmine (ρ : Rho) (i : Nat) (k : A) : A := match ρ[i]? with
  | some (.own x) => klst no x k
  | some (.io x) => klst no x k
  | _ => no
def kval (ρ : Rho) (i : Nat) (k : A) : A := match ρ[i]? with
  | some (.val _) => k
  | _ => no
/-- a list of one's own is read -/
def kget (ρ : Rho) (i : Nat) (k : D → A) : A := match ρ[i]? with
  | some (.own x) => klst no x (k x)
  | some (.io x) => klst no x (k x)
  | _ => no
def kint (d : D) (k : Int → A) : A := match d with
  | .int m => k m
  | _ => no
@[simp] theorem kint_ok {k : Int → A} {m : Int} : kint no (.int m) k = k m := rfl
def kset1 (ρ : Rho) (i : Nat) (f : D → Option D) (k : Rho → A) : A := match ρ[i]? with
  | some (.own x) => kop no (f x) fun d => k (ρ.set i (.own d))
  | some (.io x) => kop no (f x) fun d => k (ρ.set i (.io d))
  | _ => no
def kfgt : Rho → List Nat → (Rho → A) → A
  | ρ, [], k => k ρ
  | ρ, i :: is, k => match ρ[i]? with
    | some (.io _) => no
    | _ => kfgt (ρ.set i .un) is k
/-- a turn of a loop -/
def stepF (t : Tgt) (tm : Rho) (body : (Rho → A) → Rho → (Rho → A) → A) (s : List D) (x : D) (next brk : List D → A) : A :=
  withP no tm s fun ρ1 => kset no t x ρ1 fun ρ1 => body (fun ρ2 => if sameK ρ2 tm = true then brk (pay ρ2) else no) ρ1 fun ρ2 => if sameK ρ2 tm = true then next (pay ρ2) else no
mutual
def kS : S → (kb : Rho → A) → (kr : Ent → A) → (kx : Exn → Rho → A) → Rho → (Rho → A) → A
  | .asg i e, _, _, kx, ρ, kn => kV no cl clp ow e kx ρ fun d ρ => kput no ρ i (.val d) kn
  | .new i e, _, _, kx, ρ, kn => kV no cl clp ow e kx ρ fun d ρ => kown no d fun d => kput no ρ i (.own d) kn
  | .asgT is e, _, _, kx, ρ, kn => kV no cl clp ow e kx ρ fun d ρ => kset no (.tup is) d ρ kn
  | .par is es, _, _, kx, ρ, kn => kVs no cl clp ow es kx ρ fun ds ρ => ksetL no is ds ρ kn
  | .aug i o e, _, _, kx, ρ, kn => kval no ρ i <| kV no cl clp ow e kx ρ fun y ρ => (match ρ[i]? with
    | some (.val x) => kop no (augF o x y) fun d => kn (ρ.set i (.val d))
    | _ => no)
  | .sub i k e, _, _, kx, ρ, kn => kmine no ρ i <| kV no cl clp ow e kx ρ fun y ρ => kV no cl clp ow k kx ρ fun x ρ => kset1 no ρ i (fun d => stoF d x y) kn
  | .app i e, _, _, kx, ρ, kn => kmine no ρ i <| kV no cl clp ow e kx ρ fun y ρ => kset1 no ρ i (fun d => appF d y) kn
  | .ext i e, _, _, kx, ρ, kn => kmine no ρ i <| kV no cl clp ow e kx ρ fun y ρ => kset1 no ρ i (fun d => extF d y) kn
  | .popS i, _, _, _, ρ, kn => kset1 no ρ i (fun d => (popF d).map (·.2)) kn
  | .drop e, _, _, kx, ρ, kn => kV no cl clp ow e kx ρ fun _ ρ => kn ρ
  | .ret e, _, kr, kx, ρ, _ => kV no cl clp ow e kx ρ fun d _ => kr (.val d)
  | .retO e, _, kr, kx, ρ, _ => kV no cl clp ow e kx ρ fun d _ => kown no d fun d => kr (.own d)
  | .retN, _, kr, _, _, _ => kr (.val .none)
  | .if_ c a b, kb, kr, kx, ρ, kn => (pE cl ow c ρ).fold no (fun x => kx x ρ) fun x => (asBs x).fold no (fun x => kx x ρ) fun z => cond z (kSs a kb kr kx ρ kn) (kSs b kb kr kx ρ kn)
  | .for_ t it b, _, kr, kx, ρ, kn => kIt no cl clp ow it kx ρ fun xs ρ => if ρ.any isIo = true then no else
      forK (stepF no t (blank ρ) fun kb ρ1 kn => kSs b kb kr kx ρ1 kn) xs (pay ρ) fun s => withP no (blank ρ) s kn
  | .while_ c b, _, kr, kx, ρ, kn => if ρ.any isIo = true then no else
      whileK no (fun s next brk => withP no ρ s fun ρ1 => (pE cl ow c ρ1).fold no (fun x => kx x ρ1) fun x => (asBs x).fold no (fun x => kx x ρ1) fun z =>
        cond z (kSs b (fun ρ2 => if sameK ρ2 ρ = true then brk (pay ρ2) else no) kr kx ρ1 fun ρ2 => if sameK ρ2 ρ = true then next (pay ρ2) else no) (brk (pay ρ1))) wFuel (pay ρ) fun s => withP no ρ s kn
  | .brk, kb, _, _, ρ, _ => kb ρ
  | .pass, _, _, _, ρ, kn => kn ρ
  | .raise c es, _, _, kx, ρ, _ => if c = 0 ∧ es.len ≤ 1000 then kVs no cl clp ow es kx ρ fun _ ρ => kx ⟨0, []⟩ ρ else no
  | .tryR b d, kb, kr, _, ρ, kn => kSs b kb kr (fun x _ => if x.cls = 0 then kr (.val d) else no) ρ kn
  | .fgt is, _, _, _, ρ, kn => kfgt no ρ is kn
  | .asub i o k e, _, _, kx, ρ, kn => kmine no ρ i <| kV no cl clp ow k kx ρ fun x ρ => kget no ρ i fun d => kop no (idxF d x) fun old => kV no cl clp ow e kx ρ fun y ρ => kop no (augF o old y) fun z => kset1 no ρ i (fun d => stoF d x z) kn
  | .tryA b i n, kb, kr, _, ρ, kn => kSs b kb kr (fun x ρ1 => if x.cls = 0 then (match ρ1[i]? with
    | some (.val d) => kint no d fun m => kput no ρ1 i (.val (.int (m + n))) kn
    | _ => no) else no) ρ kn
  | .swap .., _, _, _, _, _ => no
def kSs : Ss → (kb : Rho → A) → (kr : Ent → A) → (kx : Exn → Rho → A) → Rho → (Rho → A) → A
  | .nil, _, _, _, ρ, kn => kn ρ
  | .cons s r, kb, kr, kx, ρ, kn => kS s kb kr kx ρ fun ρ => kSs r kb kr kx ρ kn
end
end
end Ev

set_option Elab.async false
set_option linter.all false
set_option maxRecDepth 100000
set_option autoImplicit false
/-! Kev2: the plain reading is right. -/
namespace Ev
open PySem L2
/-- what a plain result tells of a run -/
def Rs.le {α : Type} (r : Rs α) (q : R α) (ρ : Rho) : Prop := match r with
  | .ok a => q = .ok a ρ
  | .ex x => q = .ex x ρ
  | .no => True
theorem le_bnd {α β : Type} {r : Rs α} {q : R α} {ρ : Rho} {f : α → Rs β} {g : α → Rho → R β} (h : r.le q ρ) (hf : ∀ a, (f a).le (g a ρ) ρ) : (r.bnd f).le (q.bind g) ρ := by
  cases r with
  | ok a => rw [show q = .ok a ρ from h]; exact hf a
  | ex x => rw [show q = .ex x ρ from h]; exact rfl
  | no => trivial
theorem le_lift {α : Type} {o : Option α} {ρ : Rho} : (Rs.lift o).le (R.lift o ρ) ρ := by cases o <;> first | rfl | trivial
theorem le_no {α : Type} {q : R α} {ρ : Rho} : (Rs.no : Rs α).le q ρ := trivial
theorem le_ok {α : Type} {a : α} {ρ : Rho} : (Rs.ok a).le (.ok a ρ) ρ := rfl
/-- of calls -/
def Hcl (callR : Nat → List Ent → CRes) (cl : Nat → List D → Rs D) (ow : Nat → Bool) : Prop := ∀ f ds, match cl f ds with
  | .ok d => callR f (ds.map .val) = .ok (if ow f = true then .own d else .val d) none
  | .ex x => callR f (ds.map .val) = .ex x none
  | .no => True
section
variable {callR : Nat → List Ent → CRes} {cl : Nat → List D → Rs D} {ow : Nat → Bool}
theorem opd_bnd {β : Type} {a : E} {pr : Rho → Rs D} {er : Rho → R D} {ρ : Rho} {f : D → Rs β} {g : Pnd → Rho → R β} (h : (pr ρ).le (er ρ) ρ) (hg : ∀ p x, Pnd.get p ρ = some x → (f x).le (g p ρ) ρ) : ((pO a pr ρ).bnd f).le ((opd a er ρ).bind g) ρ := by
  have other : ((pr ρ).bnd f).le (((er ρ).bind fun d ρ => .ok (.got d) ρ).bind g) ρ := by
    cases e : pr ρ with
    | ok d => rw [e] at h; rw [show er ρ = .ok d ρ from h]; exact hg (.got d) d rfl
    | ex x => rw [e] at h; rw [show er ρ = .ex x ρ from h]; exact rfl
    | no => trivial
  cases a with
  | v i =>
    show ((Rs.lift (ρ.at i)).bnd f).le ((match ρ.at i with | some _ => R.ok (Pnd.at i) ρ | none => .no).bind g) ρ
    cases e : ρ.at i with
    | none => trivial
    | some x => exact hg (.at i) x e
  | _ => exact other
theorem two_le {o : D → D → Option D} {p q : Pnd} {ρ : Rho} {x y : D} (hp : p.get ρ = some x) (hq : q.get ρ = some y) : (Rs.lift (o x y)).le (two o p q ρ) ρ := by
  unfold two
  rw [hp, hq]
  exact le_lift
theorem two_cmp {o : Cop} {p q : Pnd} {ρ : Rho} {x y : D} (hp : p.get ρ = some x) (hq : q.get ρ = some y) : ((Rs.lift (cmpF o x y)).bnd fun z => .ok (.bool z)).le (two (fun x y => (cmpF o x y).map .bool) p q ρ) ρ := by
  unfold two
  rw [hp, hq]
  cases e : cmpF o x y with
  | none => trivial
  | some z =>
    show R.lift (((cmpF o x y).map PyData.bool)) ρ = _
    rw [e]
    rfl
theorem two_cmpB {o : Cop} {p q : Pnd} {ρ : Rho} {x y : D} {f : Bool → Rs D} {g : Rho → R D} (hp : p.get ρ = some x) (hq : q.get ρ = some y) (ht : (f true).le (g ρ) ρ) (hf : f false = .ok (.bool false)) :
    ((Rs.lift (cmpF o x y)).bnd f).le ((two (fun x y => (cmpF o x y).map .bool) p q ρ).bind fun z ρ' => match z with | .bool true => g ρ' | .bool false => .ok (.bool false) ρ' | _ => .no) ρ := by
  unfold two
  rw [hp, hq]
  show Rs.le _ ((R.lift ((cmpF o x y).map PyData.bool) ρ).bind _) ρ
  cases e : cmpF o x y with
  | none => trivial
  | some z =>
    cases z with
    | true => exact ht
    | false => show (f false).le _ ρ; rw [hf]; rfl
theorem one_le {o : D → Option D} {p : Pnd} {ρ : Rho} {x : D} (hp : p.get ρ = some x) : (Rs.lift (o x)).le (one o p ρ) ρ := by
  unfold one
  rw [hp]
  exact le_lift
theorem bool_le {α : Type} {x : D} {ρ : Rho} {f : Bool → Rs α} {t u : R α} {q : R α} (e : q = match x with | .bool true => t | .bool false => u | _ => .no) (ht : (f true).le t ρ) (hf : (f false).le u ρ) : ((asBs x).bnd f).le q ρ := by
  subst e
  cases x <;> first | trivial | skip
  rename_i b
  cases b
  · exact hf
  · exact ht
/-! ### targets, comprehensions -/
theorem kput_eq {A : Type} {no : A} {ρ : Rho} {i : Nat} {e : Ent} {k : Rho → A} : kput no ρ i e k = match ρ.put i e with | some ρ' => k ρ' | none => no := by
  unfold kput Rho.put
  cases ρ[i]? with
  | none => rfl
  | some en => cases en <;> rfl
theorem ksetL_eq {A : Type} {no : A} : ∀ {is : List Nat} {ds : List D} {ρ : Rho} {k : Rho → A}, ksetL no is ds ρ k = match putAll is ds ρ with | some ρ' => k ρ' | none => no
  | [], [], ρ, k => rfl
  | [], _ :: _, ρ, k => rfl
  | _ :: _, [], ρ, k => rfl
  | i :: is, d :: ds, ρ, k => by
    unfold ksetL putAll
    dsimp only
    rw [kput_eq]
    cases ρ.put i (.val d) with
    | none => rfl
    | some ρ' => exact ksetL_eq
theorem kset_eq {A : Type} {no : A} {t : Tgt} {d : D} {ρ : Rho} {k : Rho → A} : kset no t d ρ k = match t.set d ρ with | some ρ' => k ρ' | none => no := by
  cases t with
  | one i => exact kput_eq
  | tup is => cases d <;> first | rfl | exact ksetL_eq
theorem plain_put {ρ ρ1 : Rho} {own : List Nat} {i : Nat} {d : D} (hp : plainAt ρ own = true) (h : ρ.put i (.val d) = some ρ1) : plainAt ρ1 own = true := by
  obtain ⟨rfl, _⟩ := put_ok h
  unfold plainAt at hp ⊢
  rw [List.all_eq_true] at hp ⊢
  intro j hj
  have q := hp j hj
  by_cases e : i = j
  · subst e
    by_cases l : i < ρ.length
    · rw [List.getElem?_set_self l]
    · rw [List.getElem?_eq_none (by omega)] at q; cases q
  · rw [List.getElem?_set_ne e]; exact q
theorem wipe_put {ρ ρ1 : Rho} {own : List Nat} {i : Nat} {e : Ent} (hi : i ∈ own) (h : ρ.put i e = some ρ1) : wipeR ρ1 own = wipeR ρ own := by
  obtain ⟨rfl, _⟩ := put_ok h
  apply List.ext_getElem?
  intro j
  rw [wipeR_get, wipeR_get, List.length_set]
  split
  · rfl
  · rename_i hn
    by_cases e : i = j
    · subst e
      by_cases l : i < ρ.length
      · exact absurd ⟨hi, l⟩ hn
      · rw [List.getElem?_eq_none (by simpa using l), List.getElem?_eq_none (by omega)]
    · rw [List.getElem?_set_ne e]
theorem tset_plain {own : List Nat} : ∀ {is : List Nat} {ds : List D} {ρ ρ1 : Rho}, (∀ i ∈ is, i ∈ own) → plainAt ρ own = true → putAll is ds ρ = some ρ1 → plainAt ρ1 own = true ∧ wipeR ρ1 own = wipeR ρ own
  | [], [], ρ, ρ1, _, hp, h => by cases h; exact ⟨hp, rfl⟩
  | [], _ :: _, _, _, _, _, h => by cases h
  | _ :: _, [], _, _, _, _, h => by cases h
  | i :: is, d :: ds, ρ, ρ1, hs, hp, h => by
    unfold putAll at h
    cases e : ρ.put i (.val d) with
    | none => rw [e] at h; cases h
    | some ρ2 =>
      rw [e] at h
      obtain ⟨a, b⟩ := tset_plain (fun j hj => hs j (List.mem_cons_of_mem _ hj)) (plain_put hp e) h
      exact ⟨a, b.trans (wipe_put (hs i List.mem_cons_self) e)⟩
theorem set_plain {own : List Nat} {t : Tgt} {d : D} {ρ ρ1 : Rho} (hs : ∀ i ∈ t.slots, i ∈ own) (hp : plainAt ρ own = true) (h : t.set d ρ = some ρ1) : plainAt ρ1 own = true ∧ wipeR ρ1 own = wipeR ρ own := by
  cases t with
  | one i => exact ⟨plain_put hp h, wipe_put (hs i (by simp [Tgt.slots])) h⟩
  | tup is => cases d <;> first | exact tset_plain hs hp h | cases h
theorem plain_wipe {ρ : Rho} {own : List Nat} (hp : plainAt ρ own = true) : plainAt (wipeR ρ own) own = true ∧ wipeR (wipeR ρ own) own = wipeR ρ own ∧ backR ρ (wipeR ρ own) own = ρ := by
  refine ⟨?_, ?_, ?_⟩
  · unfold plainAt at hp ⊢
    rw [List.all_eq_true] at hp ⊢
    intro j hj
    have q := hp j hj
    have l : j < ρ.length := by
      by_cases l : j < ρ.length
      · exact l
      · rw [List.getElem?_eq_none (by omega)] at q; cases q
    rw [wipeR_get, if_pos ⟨hj, l⟩]
  · apply List.ext_getElem?
    intro j
    rw [wipeR_get, wipeR_get, wipeR_len]
    split <;> rfl
  · apply List.ext_getElem?
    intro j
    rw [backR_get, wipeR_get, wipeR_len]
    split
    · rename_i h
      rw [List.getElem?_eq_getElem h.2]
      rfl
    · rfl
theorem compM_ok {own : List Nat} {t : Tgt} {pc : Rho → Rs Bool} {pe : Rho → Rs D} {c : Rho → R Bool} {b : Rho → R D} {ρw : Rho} (hs : ∀ i ∈ t.slots, i ∈ own) (hc : ∀ ρ, (pc ρ).le (c ρ) ρ) (he : ∀ ρ, (pe ρ).le (b ρ) ρ) (hw : plainAt ρw own = true ∧ wipeR ρw own = ρw) :
    ∀ (xs : List D) (ρi : Rho) (zs : List D), plainAt ρi own = true → wipeR ρi own = ρw → compM (fun x => kset .no t x ρw fun ρ1 => (pc ρ1).bnd fun k => cond k ((pe ρ1).bnd fun d => .ok (some d)) (.ok none)) xs = .ok zs →
      loopC own t c (fun ρ => (b ρ).bind fun d ρ => .ok [d] ρ) xs ρi = .ok zs ρw
  | [], ρi, zs, hp, hi, h => by
    cases h
    unfold loopC wipeO
    rw [if_pos hp, hi]
    rfl
  | x :: xs, ρi, zs, hp, hi, h => by
    unfold compM at h
    rw [kset_eq] at h
    unfold loopC wipeO
    rw [if_pos hp, hi]
    show (match t.set x ρw with | none => R.no | some ρ1 => _) = _
    cases e : t.set x ρw with
    | none => rw [e] at h; cases h
    | some ρ1 =>
      rw [e] at h
      obtain ⟨p1, w1⟩ := set_plain hs hw.1 e
      rw [hw.2] at w1
      have ih := fun zs => compM_ok hs hc he hw xs ρ1 zs p1 w1
      show (c ρ1).noEx.bind _ = _
      have qc := hc ρ1
      dsimp only at h
      cases e1 : pc ρ1 with
      | no => rw [e1] at h; cases h
      | ex y => rw [e1] at h; cases h
      | ok k =>
        rw [e1] at h qc
        rw [show c ρ1 = .ok k ρ1 from qc]
        cases k with
        | false =>
          show loopC own t c _ xs ρ1 = _
          refine ih zs ?_
          cases e2 : compM (fun x => kset .no t x ρw fun ρ1 => (pc ρ1).bnd fun k => cond k ((pe ρ1).bnd fun d => .ok (some d)) (.ok none)) xs with
          | ok ds => rw [e2] at h; exact h
          | ex y => rw [e2] at h; cases h
          | no => rw [e2] at h; cases h
        | true =>
          show ((b ρ1).bind _).noEx.bind _ = _
          have qe := he ρ1
          cases e2 : pe ρ1 with
          | no => rw [bnd_ok, cond_true, e2] at h; cases h
          | ex y => rw [bnd_ok, cond_true, e2] at h; cases h
          | ok d =>
            rw [bnd_ok, cond_true, e2] at h
            rw [e2] at qe
            rw [show b ρ1 = .ok d ρ1 from qe]
            show (loopC own t c _ xs ρ1).bind _ = _
            cases e3 : compM (fun x => kset .no t x ρw fun ρ1 => (pc ρ1).bnd fun k => cond k ((pe ρ1).bnd fun d => .ok (some d)) (.ok none)) xs with
            | ok ds =>
              rw [e3] at h
              rw [ih ds e3]
              cases h
              rfl
            | ex y => rw [e3] at h; cases h
            | no => rw [e3] at h; cases h
theorem compM_noEx {f : D → Rs (Option D)} : ∀ {xs : List D} {y : Exn}, compM f xs ≠ .ex y
  | [], y, h => by cases h
  | x :: xs, y, h => by
    unfold compM at h
    cases e : f x with
    | ok o =>
      rw [e] at h
      cases e2 : compM f xs with
      | ok ds => rw [e2] at h; cases h
      | ex z => exact compM_noEx e2
      | no => rw [e2] at h; cases h
    | ex z => rw [e] at h; cases h
    | no => rw [e] at h; cases h
theorem plain_sub {ρ : Rho} {own own1 : List Nat} (h : plainAt ρ own = true) (sub : ∀ i ∈ own1, i ∈ own) : plainAt ρ own1 = true := by
  unfold plainAt at h ⊢
  rw [List.all_eq_true] at h ⊢
  exact fun i hi => h i (sub i hi)
theorem wipeR_sub {ρ : Rho} {own own1 : List Nat} (sub : ∀ i ∈ own1, i ∈ own) : wipeR (wipeR ρ own1) own = wipeR ρ own := by
  apply List.ext_getElem?
  intro j
  rw [wipeR_get, wipeR_get, wipeR_get, wipeR_len]
  split
  · rfl
  · rename_i hn
    rw [if_neg fun z => hn ⟨sub _ z.1, z.2⟩]
theorem plain_wipe1 {ρ : Rho} {own own1 : List Nat} (h : plainAt ρ own = true) : plainAt (wipeR ρ own1) own = true := by
  unfold plainAt at h ⊢
  rw [List.all_eq_true] at h ⊢
  intro i hi
  have q := h i hi
  rw [wipeR_get]
  by_cases z : i ∈ own1 ∧ i < ρ.length
  · rw [if_pos z]
  · rw [if_neg z]; exact q
theorem compL_noEx {f : D → Rs (List D)} : ∀ {xs : List D} {y : Exn}, compL f xs ≠ .ex y
  | [], y, h => by cases h
  | x :: xs, y, h => by
    unfold compL at h
    cases e : f x with
    | ok o =>
      rw [e] at h
      cases e2 : compL f xs with
      | ok ds => rw [e2] at h; cases h
      | ex z => exact compL_noEx e2
      | no => rw [e2] at h; cases h
    | ex z => rw [e] at h; cases h
    | no => rw [e] at h; cases h
theorem compL_ok {own : List Nat} {t : Tgt} {pc : Rho → Rs Bool} {pb : Rho → Rs (List D)} {c : Rho → R Bool} {b : Rho → R (List D)} {ρw : Rho} (hs : ∀ i ∈ t.slots, i ∈ own) (hc : ∀ ρ, (pc ρ).le (c ρ) ρ)
    (hb : ∀ ρ1 ys, plainAt ρ1 own = true → wipeR ρ1 own = ρw → pb ρ1 = .ok ys → ∃ ρ2, b ρ1 = .ok ys ρ2 ∧ plainAt ρ2 own = true ∧ wipeR ρ2 own = ρw) (hw : plainAt ρw own = true ∧ wipeR ρw own = ρw) :
    ∀ (xs : List D) (ρi : Rho) (zs : List D), plainAt ρi own = true → wipeR ρi own = ρw → compL (fun x => kset .no t x ρw fun ρ1 => (pc ρ1).bnd fun k => cond k (pb ρ1) (.ok [])) xs = .ok zs →
      loopC own t c b xs ρi = .ok zs ρw
  | [], ρi, zs, hp, hi, h => by
    cases h
    unfold loopC wipeO
    rw [if_pos hp, hi]
    rfl
  | x :: xs, ρi, zs, hp, hi, h => by
    unfold compL at h
    rw [kset_eq] at h
    unfold loopC wipeO
    rw [if_pos hp, hi]
    show (match t.set x ρw with | none => R.no | some ρ1 => _) = _
    cases e : t.set x ρw with
    | none => rw [e] at h; cases h
    | some ρ1 =>
      rw [e] at h
      obtain ⟨p1, w1⟩ := set_plain hs hw.1 e
      rw [hw.2] at w1
      show (c ρ1).noEx.bind _ = _
      have qc := hc ρ1
      dsimp only at h
      cases e1 : pc ρ1 with
      | no => rw [e1] at h; cases h
      | ex y => rw [e1] at h; cases h
      | ok k =>
        rw [e1] at h qc
        rw [show c ρ1 = .ok k ρ1 from qc]
        cases k with
        | false =>
          show loopC own t c b xs ρ1 = _
          refine compL_ok hs hc hb hw xs ρ1 zs p1 w1 ?_
          cases e2 : compL (fun x => kset .no t x ρw fun ρ1 => (pc ρ1).bnd fun k => cond k (pb ρ1) (.ok [])) xs with
          | ok ds => rw [e2] at h; exact h
          | ex y => rw [e2] at h; cases h
          | no => rw [e2] at h; cases h
        | true =>
          show (b ρ1).noEx.bind _ = _
          rw [bnd_ok, cond_true] at h
          cases e2 : pb ρ1 with
          | no => rw [e2] at h; cases h
          | ex y => rw [e2] at h; cases h
          | ok ys =>
            rw [e2] at h
            obtain ⟨ρ2, e3, p2, w2⟩ := hb ρ1 ys p1 w1 e2
            rw [e3]
            show (loopC own t c b xs ρ2).bind _ = _
            cases e4 : compL (fun x => kset .no t x ρw fun ρ1 => (pc ρ1).bnd fun k => cond k (pb ρ1) (.ok [])) xs with
            | ok ds =>
              rw [e4] at h
              rw [compL_ok hs hc hb hw xs ρ2 ds p2 w2 e4]
              cases h
              rfl
            | ex y => rw [e4] at h; cases h
            | no => rw [e4] at h; cases h
/-! ### expressions -/
theorem big1000 {n : Nat} (h : n ≤ 1000) : n ≤ sizeLine := Nat.le_trans h (by decide)
variable (H : Hcl callR cl ow)
include H
mutual
theorem pE_ok : ∀ (e : E) (ρ : Rho), (pE cl ow e ρ).le (ev callR e ρ) ρ
  | .v i, ρ => by
    show Rs.le _ (ρ.take i) ρ
    unfold pE Rho.take
    split <;> first | trivial | (rename_i e; rw [e]; rfl)
  | .k d, ρ => rfl
  | .g d, ρ => rfl
  | .tup es, ρ => by
    unfold pE
    split
    · rename_i h
      exact pEs_ok es ρ _ _ fun ds hl => by rw [if_pos (by rw [hl]; exact big1000 h)]; rfl
    · trivial
  | .lst es, ρ => by
    unfold pE
    split
    · rename_i h
      exact pEs_ok es ρ _ _ fun ds hl => by rw [if_pos (by rw [hl]; exact big1000 h)]; rfl
    · trivial
  | .bin o a b, ρ => by
    unfold pE
    exact opd_bnd (pE_ok a ρ) fun p x hp => opd_bnd (pE_ok b ρ) fun q y hq => two_le hp hq
  | .cmp o a b, ρ => by
    unfold pE
    exact opd_bnd (pE_ok a ρ) fun p x hp => opd_bnd (pE_ok b ρ) fun q y hq => two_cmp hp hq
  | .chn o o' a b c, ρ => by
    unfold pE
    refine opd_bnd (pE_ok a ρ) fun p x hp => opd_bnd (pE_ok b ρ) fun q y hq => ?_
    exact two_cmpB (g := fun ρ => (opd c (ev callR c) ρ).bind fun r ρ => two (fun x y => (cmpF o' x y).map .bool) q r ρ) hp hq (opd_bnd (pE_ok c ρ) fun r u hr => two_cmp hq hr) rfl
  | .chn3 o o' o'' a b c d, ρ => by
    unfold pE
    refine opd_bnd (pE_ok a ρ) fun p x hp => opd_bnd (pE_ok b ρ) fun q y hq => ?_
    refine two_cmpB (g := fun ρ => (opd c (ev callR c) ρ).bind fun r ρ => (two (fun x y => (cmpF o' x y).map .bool) q r ρ).bind fun z ρ => match z with
        | .bool true => (opd d (ev callR d) ρ).bind fun r' ρ => two (fun x y => (cmpF o'' x y).map .bool) r r' ρ
        | .bool false => .ok (.bool false) ρ
        | _ => .no) hp hq (opd_bnd (pE_ok c ρ) fun r u hr => ?_) rfl
    exact two_cmpB (g := fun ρ => (opd d (ev callR d) ρ).bind fun r' ρ => two (fun x y => (cmpF o'' x y).map .bool) r r' ρ) hq hr (opd_bnd (pE_ok d ρ) fun r' w hr' => two_cmp hr hr') rfl
  | .and_ es, ρ => pAnd_ok es ρ
  | .or_ es, ρ => pOr_ok es ρ
  | .not_ a, ρ => by
    unfold pE
    refine le_bnd (pE_ok a ρ) fun x => ?_
    cases x <;> first | trivial | rfl
  | .neg a, ρ => by
    unfold pE
    refine le_bnd (pE_ok a ρ) fun x => ?_
    cases x <;> first | trivial | rfl
  | .isN a, ρ => by
    unfold pE
    exact opd_bnd (pE_ok a ρ) fun p x hp => one_le (o := fun x => some (.bool (isNoneD x))) hp
  | .notN a, ρ => by
    unfold pE
    exact opd_bnd (pE_ok a ρ) fun p x hp => one_le (o := fun x => some (.bool (!isNoneD x))) hp
  | .ite c a b, ρ => by
    unfold pE
    refine le_bnd (pE_ok c ρ) fun x => ?_
    exact bool_le (t := ev callR a ρ) (u := ev callR b ρ) rfl (pE_ok a ρ) (pE_ok b ρ)
  | .idx a b, ρ => by
    unfold pE
    exact opd_bnd (pE_ok a ρ) fun p x hp => opd_bnd (pE_ok b ρ) fun q y hq => two_le hp hq
  | .slc a lo hi, ρ => by
    unfold pE
    exact opd_bnd (pE_ok a ρ) fun p x hp => le_bnd (pI_ok lo ρ) fun l => le_bnd (pI_ok hi ρ) fun h => one_le hp
  | .rev a, ρ => by
    unfold pE
    exact opd_bnd (pE_ok a ρ) fun p x hp => one_le hp
  | .call f es, ρ => by
    unfold pE
    split
    · trivial
    · rename_i ho
      refine pEs_ok es ρ _ _ fun ds _ => ?_
      have h := H f ds
      show Rs.le _ ((callR f (ds.map .val)).val ρ) ρ
      cases e : cl f ds with
      | ok d =>
        rw [e] at h
        have h : callR f (ds.map .val) = .ok (if ow f = true then .own d else .val d) none := h
        rw [if_neg ho] at h
        rw [h]; rfl
      | ex x => rw [e] at h; rw [h]; rfl
      | no => trivial
  | .p1 o a, ρ => by
    unfold pE
    exact opd_bnd (pE_ok a ρ) fun p x hp => one_le hp
  | .p2 o a b, ρ => by
    unfold pE
    exact opd_bnd (pE_ok a ρ) fun p x hp => opd_bnd (pE_ok b ρ) fun q y hq => two_le hp hq
  | .isi a t, ρ => by
    unfold pE
    exact opd_bnd (pE_ok a ρ) fun p x hp => one_le (o := fun x => some (.bool (isTy x t))) hp
  | .m1 o a b, ρ => by
    unfold pE
    refine le_bnd (pE_ok a ρ) fun x => ?_
    cases x <;> first | trivial | exact le_bnd (pE_ok b ρ) fun y => le_lift
  | .m1t o a b, ρ => by
    unfold pE
    refine le_bnd (pE_ok a ρ) fun x => ?_
    cases x <;> first | trivial | exact le_bnd (pE_ok b ρ) fun y => le_lift
  | .popi .., ρ => trivial
  | .comp own e t it c, ρ => by
    unfold pE
    split
    · rename_i h
      obtain ⟨h1, h2⟩ := Bool.and_eq_true_iff.mp h
      rw [List.all_eq_true] at h2
      have hs : ∀ i ∈ t.slots, i ∈ own := fun i hi => by simpa using h2 i hi
      refine le_bnd (pIt_ok it ρ) fun xs => ?_
      obtain ⟨a1, a2, a3⟩ := plain_wipe h1
      have q := fun zs => compM_ok hs (fun ρ => pC_ok c ρ) (fun ρ => pE_ok e ρ) ⟨a1, a2⟩ xs (wipeR ρ own) zs a1 a2
      show Rs.le _ ((compC own t (evc callR c) (fun ρ => (ev callR e ρ).bind fun d ρ => .ok [d] ρ) xs ρ).bind fun zs ρ => R.ok (PyData.list zs) ρ) ρ
      cases e : compM (fun x => kset .no t x (wipeR ρ own) fun ρ1 => (pC cl ow c ρ1).bnd fun k => cond k ((pE cl ow e ρ1).bnd fun d => .ok (some d)) (.ok none)) xs with
      | ok zs =>
        show (szL zs).le _ ρ
        unfold compC szL
        rw [if_pos h1, q zs e]
        split
        · rename_i hl
          show R.bind (if zs.length ≤ sizeLine then R.ok zs (backR ρ (wipeR ρ own) own) else .no) _ = _
          rw [if_pos hl, a3]
          rfl
        · trivial
      | ex y => exact absurd e compM_noEx
      | no => trivial
    · trivial
  | .dct kvs, ρ => rfl
  | .inK neg ks e, ρ => by
    unfold pE
    refine le_bnd (pE_ok e ρ) fun x => ?_
    cases inKF neg ks x with
    | none => trivial
    | some d => rfl
  | .disp ks e a, ρ => by
    unfold pE
    refine le_bnd (pE_ok e ρ) fun x => ?_
    cases hd : dispF ks x with
    | none => trivial
    | some f =>
      show Rs.le (if ow f = true then .no else (pE cl ow a ρ).bnd fun y => cl f [y]) ((ev callR a ρ).bind fun y ρ => (callR f [.val y]).val ρ) ρ
      split
      · trivial
      · rename_i ho
        refine le_bnd (pE_ok a ρ) fun y => ?_
        have h := H f [y]
        cases e : cl f [y] with
        | ok d =>
          rw [e] at h
          have h : callR f [.val y] = .ok (if ow f = true then .own d else .val d) none := h
          rw [if_neg ho] at h
          rw [h]; rfl
        | ex x =>
          rw [e] at h
          have h : callR f [.val y] = .ex x none := h
          rw [h]; rfl
        | no => trivial
  | .callp .., ρ => trivial
  | .callo .., ρ => trivial
  | .popv .., ρ => trivial
  | .comp2 own e t it c own1 t1 it1 c1, ρ => by
    unfold pE
    split
    · rename_i h
      simp only [Bool.and_eq_true] at h
      obtain ⟨⟨⟨h1, h2⟩, h3⟩, h4⟩ := h
      rw [List.all_eq_true] at h2 h3 h4
      have hs : ∀ i ∈ t.slots, i ∈ own := fun i hi => by simpa using h2 i hi
      have sub : ∀ i ∈ own1, i ∈ own := fun i hi => by simpa using h3 i hi
      have hs1 : ∀ i ∈ t1.slots, i ∈ own1 := fun i hi => by simpa using h4 i hi
      refine le_bnd (pIt_ok it ρ) fun xs => ?_
      obtain ⟨a1, a2, a3⟩ := plain_wipe h1
      have q := fun zs => compL_ok (pb := fun ρ1 => (pIt cl ow it1 ρ1).bnd fun ys => compM (fun y => kset .no t1 y (wipeR ρ1 own1) fun ρ2 => (pC cl ow c1 ρ2).bnd fun k => cond k ((pE cl ow e ρ2).bnd fun d => .ok (some d)) (.ok none)) ys)
        (b := fun ρ => (evit callR it1 ρ).bind fun ys ρ => loopC own1 t1 (evc callR c1) (fun ρ => (ev callR e ρ).bind fun d ρ => .ok [d] ρ) ys ρ) hs (fun ρ => pC_ok c ρ) (fun ρ1 ys p1 w1 hy => by
          have qi := pIt_ok it1 ρ1
          cases ei : pIt cl ow it1 ρ1 with
          | no => rw [ei] at hy; cases hy
          | ex y => rw [ei] at hy; cases hy
          | ok ws =>
            rw [ei] at hy qi
            have p2 := plain_sub p1 sub
            obtain ⟨b1, b2, b3⟩ := plain_wipe p2
            have r := compM_ok hs1 (fun ρ => pC_ok c1 ρ) (fun ρ => pE_ok e ρ) ⟨b1, b2⟩ ws ρ1 ys p2 rfl hy
            refine ⟨wipeR ρ1 own1, ?_, plain_wipe1 p1, by rw [wipeR_sub sub]; exact w1⟩
            rw [show evit callR it1 ρ1 = .ok ws ρ1 from qi]
            exact r) ⟨a1, a2⟩ xs (wipeR ρ own) zs a1 a2
      show Rs.le _ ((compC own t (evc callR c) (fun ρ => (evit callR it1 ρ).bind fun ys ρ => loopC own1 t1 (evc callR c1) (fun ρ => (ev callR e ρ).bind fun d ρ => .ok [d] ρ) ys ρ) xs ρ).bind fun zs ρ => R.ok (PyData.list zs) ρ) ρ
      cases e : compL (fun x => kset .no t x (wipeR ρ own) fun ρ1 => (pC cl ow c ρ1).bnd fun k => cond k ((pIt cl ow it1 ρ1).bnd fun ys =>
        compM (fun y => kset .no t1 y (wipeR ρ1 own1) fun ρ2 => (pC cl ow c1 ρ2).bnd fun k => cond k ((pE cl ow e ρ2).bnd fun d => .ok (some d)) (.ok none)) ys) (.ok [])) xs with
      | ok zs =>
        show (szL zs).le _ ρ
        unfold compC szL
        rw [if_pos h1, q zs e]
        split
        · rename_i hl
          show R.bind (if zs.length ≤ sizeLine then R.ok zs (backR ρ (wipeR ρ own) own) else .no) _ = _
          rw [if_pos hl, a3]
          rfl
        · trivial
      | ex y => exact absurd e compL_noEx
      | no => trivial
    · trivial
theorem pEs_ok : ∀ (es : Es) (ρ : Rho) (k : List D → Rs D) (g : List D → Rho → R D), (∀ ds, ds.length = es.len → (k ds).le (g ds ρ) ρ) → (pEs cl ow es ρ k).le ((evs callR es ρ).bind g) ρ
  | .nil, ρ, k, g, h => h [] rfl
  | .cons e r, ρ, k, g, h => by
    unfold pEs
    show Rs.le _ (((ev callR e ρ).bind fun d ρ => (evs callR r ρ).bind fun ds ρ => .ok (d :: ds) ρ).bind g) ρ
    have q := le_bnd (f := fun d => pEs cl ow r ρ fun ds => k (d :: ds)) (g := fun d ρ => (evs callR r ρ).bind fun ds ρ => g (d :: ds) ρ) (pE_ok e ρ) fun d => pEs_ok r ρ (fun ds => k (d :: ds)) (fun ds ρ => g (d :: ds) ρ) fun ds hl => h (d :: ds) (by simp [Es.len, hl])
    cases e1 : ev callR e ρ with
    | no => rw [e1] at q; exact q
    | ex x ρ' => rw [e1] at q; exact q
    | ok d ρ' =>
      rw [e1] at q
      show Rs.le _ (((evs callR r ρ').bind fun ds ρ => .ok (d :: ds) ρ).bind g) ρ
      cases e2 : evs callR r ρ' with
      | no => simp [e2] at q; exact q
      | ex x ρ'' => simp [e2] at q; exact q
      | ok ds ρ'' => simp [e2] at q; exact q
theorem pAnd_ok : ∀ (es : Es) (ρ : Rho), (pAnd cl ow es ρ).le (evAnd callR es ρ) ρ
  | .nil, ρ => trivial
  | .cons e .nil, ρ => pE_ok e ρ
  | .cons e (.cons e' r), ρ => by
    unfold pAnd
    refine le_bnd (pE_ok e ρ) fun x => ?_
    exact bool_le (f := fun k => cond k (pAnd cl ow (.cons e' r) ρ) (.ok (.bool false))) (t := evAnd callR (.cons e' r) ρ) (u := .ok (.bool false) ρ) rfl (pAnd_ok (.cons e' r) ρ) rfl
theorem pOr_ok : ∀ (es : Es) (ρ : Rho), (pOr cl ow es ρ).le (evOr callR es ρ) ρ
  | .nil, ρ => trivial
  | .cons e .nil, ρ => pE_ok e ρ
  | .cons e (.cons e' r), ρ => by
    unfold pOr
    refine le_bnd (pE_ok e ρ) fun x => ?_
    refine bool_le (f := fun k => cond k (Rs.ok (PyData.bool true)) (pOr cl ow (.cons e' r) ρ)) (t := R.ok (PyData.bool true) ρ) (u := evOr callR (.cons e' r) ρ) rfl ?_ (pOr_ok (.cons e' r) ρ)
    exact (rfl : R.ok (PyData.bool true) ρ = R.ok (PyData.bool true) ρ)
theorem pC_ok : ∀ (c : Oe) (ρ : Rho), (pC cl ow c ρ).le (evc callR c ρ) ρ
  | .no, ρ => rfl
  | .yes e, ρ => by
    unfold pC
    refine le_bnd (pE_ok e ρ) fun x => ?_
    cases x <;> first | trivial | rfl
theorem pI_ok : ∀ (c : Oe) (ρ : Rho), (pI cl ow c ρ).le (evI callR c ρ) ρ
  | .no, ρ => rfl
  | .yes e, ρ => by
    unfold pI
    refine le_bnd (pE_ok e ρ) fun x => ?_
    cases x <;> first | trivial | rfl
theorem pIt_ok : ∀ (it : It) (ρ : Rho), (pIt cl ow it ρ).le (evit callR it ρ) ρ
  | .ov e, ρ => by unfold pIt; exact le_bnd (pE_ok e ρ) fun d => le_lift
  | .rng1 a, ρ => by unfold pIt; exact le_bnd (pE_ok a ρ) fun d => le_lift
  | .rng2 a b, ρ => by unfold pIt; exact le_bnd (pE_ok a ρ) fun x => le_bnd (pE_ok b ρ) fun y => le_lift
  | .rng3 a b c, ρ => by unfold pIt; exact le_bnd (pE_ok a ρ) fun x => le_bnd (pE_ok b ρ) fun y => le_bnd (pE_ok c ρ) fun z => le_lift
  | .zip a b, ρ => by unfold pIt; exact le_bnd (pE_ok a ρ) fun x => le_bnd (pE_ok b ρ) fun y => le_lift
  | .rvs a, ρ => by unfold pIt; exact le_bnd (pE_ok a ρ) fun d => le_lift
end
end
end Ev

set_option Elab.async false
set_option linter.all false
set_option maxRecDepth 100000
set_option autoImplicit false
/-! Kev3: the plain reading of statements is right; of defs. -/
namespace Ev
open PySem L2
def R.W2 {α : Type} (r : R α) (Q : α → Rho → Prop) (X : Exn → Rho → Prop) : Prop := match r with
  | .ok a ρ => Q a ρ
  | .ex x ρ => X x ρ
  | .no => False
def SRes.W4 (r : SRes) (N B : Rho → Prop) (T : Ent → Prop) (X : Exn → Rho → Prop) : Prop := match r with
  | .nx ρ => N ρ
  | .bk ρ => B ρ
  | .rt e _ => T e
  | .ex x ρ => X x ρ
  | _ => False
section
variable {α β : Type} {Q Q' : α → Rho → Prop} {X : Exn → Rho → Prop}
theorem W2.imp {r : R α} (h : r.W2 Q X) (i : ∀ a ρ, Q a ρ → Q' a ρ) : r.W2 Q' X := by cases r <;> first | exact i _ _ h | exact h
theorem W2.bind {r : R α} {f : α → Rho → R β} {Qb : β → Rho → Prop} (h : r.W2 (fun a ρ => (f a ρ).W2 Qb X) X) : (r.bind f).W2 Qb X := by cases r <;> exact h
theorem W2.sb {r : R α} {f : α → Rho → SRes} {N B : Rho → Prop} {T : Ent → Prop} (h : r.W2 (fun a ρ => (f a ρ).W4 N B T X) X) : (r.sb f).W4 N B T X := by cases r <;> exact h
theorem W4.imp {r : SRes} {N B N' B' : Rho → Prop} {T T' : Ent → Prop} {X X' : Exn → Rho → Prop} (h : r.W4 N B T X) (i : ∀ ρ, N ρ → N' ρ) (j : ∀ ρ, B ρ → B' ρ) (k : ∀ e, T e → T' e) (l : ∀ x ρ, X x ρ → X' x ρ) : r.W4 N' B' T' X' := by
  cases r <;> first | exact i _ h | exact j _ h | exact k _ h | exact l _ _ h | exact h
theorem W4.nb {r : SRes} {f : Rho → SRes} {N B : Rho → Prop} {T : Ent → Prop} (h : r.W4 (fun ρ => (f ρ).W4 N B T X) B T X) : (r.nb f).W4 N B T X := by cases r <;> exact h
end
section
variable {callR : Nat → List Ent → CRes} {cl : Nat → List D → Rs D} {ow : Nat → Bool} {A : Type} {clp : Nat → D → List D → (D → D → A) → A} {no : A} {good : A → Prop}
theorem fold_w2 (hno : ¬ good no) {α : Type} {r : Rs α} {q : R α} {ρ : Rho} {kx : Exn → Rho → A} {k : α → Rho → A} (h : r.le q ρ) (g : good (r.fold no (fun x => kx x ρ) fun d => k d ρ)) : q.W2 (fun d ρ' => good (k d ρ')) fun x ρ' => good (kx x ρ') := by
  cases r with
  | ok a => rw [show q = .ok a ρ from h]; exact g
  | ex x => rw [show q = .ex x ρ from h]; exact g
  | no => exact absurd g hno
/-- of calls with a list of one's own -/
def Hclp (callR : Nat → List Ent → CRes) (clp : Nat → D → List D → (D → D → A) → A) (good : A → Prop) : Prop := ∀ f p ds k, good (clp f p ds k) → ∃ P, p = .list P ∧ ∃ d p', callR f (.io p :: ds.map .val) = .ok (.val d) (some p') ∧ good (k d p')
theorem kOp_w (hno : ¬ good no) {a : E} {rk : Rho → (D → Rho → A) → A} {r : Rho → R D} {X : Exn → Rho → Prop} {ρ : Rho} {k : Pnd → Rho → A} (h : ∀ k, good (rk ρ k) → (r ρ).W2 (fun d ρ' => good (k d ρ')) X) (g : good (kOp no a rk ρ k)) : (opd a r ρ).W2 (fun p ρ' => good (k p ρ')) X := by
  have other : good (rk ρ fun d ρ => k (.got d) ρ) → ((r ρ).bind fun d ρ => R.ok (Pnd.got d) ρ).W2 (fun p ρ' => good (k p ρ')) X := fun g => W2.bind (h _ g)
  cases a with
  | v i =>
    show R.W2 (match ρ.at i with | some _ => .ok (Pnd.at i) ρ | none => .no) _ _
    have g : good (kop no (ρ.at i) fun _ => k (.at i) ρ) := g
    cases e : ρ.at i with
    | none => rw [e] at g; exact absurd g hno
    | some x => rw [e] at g; exact g
  | _ => exact other g
theorem kop2_w (hno : ¬ good no) {o : D → D → Option D} {p q : Pnd} {ρ : Rho} {k : D → A} {X : Exn → Rho → Prop} {Q : D → Rho → Prop} (g : good (kop no (p.get ρ) fun x => kop no (q.get ρ) fun y => kop no (o x y) k)) (hq : ∀ z, good (k z) → Q z ρ) : (two o p q ρ).W2 Q X := by
  unfold two
  cases e1 : p.get ρ with
  | none => rw [e1] at g; exact absurd g hno
  | some x =>
    cases e2 : q.get ρ with
    | none => rw [e1, e2] at g; exact absurd g hno
    | some y =>
      rw [e1, e2] at g
      have g : good (kop no (o x y) k) := g
      show (R.lift (o x y) ρ).W2 Q X
      cases e3 : o x y with
      | none => rw [e3] at g; exact absurd g hno
      | some z => rw [e3] at g; exact hq z g
theorem kop1_w (hno : ¬ good no) {o : D → Option D} {p : Pnd} {ρ : Rho} {k : D → A} {X : Exn → Rho → Prop} {Q : D → Rho → Prop} (g : good (kop no (p.get ρ) fun x => kop no (o x) k)) (hq : ∀ z, good (k z) → Q z ρ) : (one o p ρ).W2 Q X := by
  unfold one
  cases e1 : p.get ρ with
  | none => rw [e1] at g; exact absurd g hno
  | some x =>
    rw [e1] at g
    have g : good (kop no (o x) k) := g
    show (R.lift (o x) ρ).W2 Q X
    cases e3 : o x with
    | none => rw [e3] at g; exact absurd g hno
    | some z => rw [e3] at g; exact hq z g
theorem kopC (no : A) {o : Cop} {x y : D} {k : D → A} : kop no (cmpF o x y) (fun z => k (.bool z)) = kop no ((cmpF o x y).map PyData.bool) k := by cases cmpF o x y <;> rfl
/-- the turns of a comprehension that changes slots -/
theorem compK_w (hno : ¬ good no) {own : List Nat} {t : Tgt} {tm : Rho} {b : Rho → R D} {kb : Rho → (D → Rho → A) → A} {kn : List D → List D → A} (hb : ∀ ρ k, good (kb ρ k) → (b ρ).W2 (fun d ρ' => good (k d ρ')) fun _ _ => good no) :
    ∀ (xs : List D) (ρ : Rho) (acc : List D), plainAt ρ own = true → sameK (wipeR ρ own) tm = true →
      good (compK (fun s x next => withP no tm s fun ρ1 => kset no t x ρ1 fun ρ2 => kb ρ2 fun d ρ3 => if (plainAt ρ3 own && sameK (wipeR ρ3 own) tm) = true then next (pay (wipeR ρ3 own)) d else no) xs (pay (wipeR ρ own)) acc kn) →
      ∃ zs ρ', loopC own t (fun ρ => .ok true ρ) (fun ρ => (b ρ).bind fun d ρ => .ok [d] ρ) xs ρ = .ok zs ρ' ∧ sameK ρ' tm = true ∧ good (kn (pay ρ') (acc ++ zs))
  | [], ρ, acc, hp, hs, g => by
    refine ⟨[], wipeR ρ own, ?_, hs, by rw [List.append_nil]; exact g⟩
    unfold loopC wipeO
    rw [if_pos hp]
    rfl
  | x :: xs, ρ, acc, hp, hs, g => by
    unfold compK at g
    rw [withP_ok no hs, kset_eq] at g
    cases e : t.set x (wipeR ρ own) with
    | none => rw [e] at g; exact absurd g hno
    | some ρ1 =>
      rw [e] at g
      have q := hb ρ1 _ g
      cases e1 : b ρ1 with
      | no => rw [e1] at q; exact q.elim
      | ex y ρ2 => rw [e1] at q; exact absurd q hno
      | ok d ρ2 =>
        rw [e1] at q
        have q : good (if (plainAt ρ2 own && sameK (wipeR ρ2 own) tm) = true then _ else no) := q
        split at q
        · rename_i h
          obtain ⟨h1, h2⟩ := Bool.and_eq_true_iff.mp h
          obtain ⟨zs, ρ', e2, e3, e4⟩ := compK_w hno hb xs ρ2 (acc ++ [d]) h1 h2 q
          refine ⟨d :: zs, ρ', ?_, e3, by simpa using e4⟩
          unfold loopC wipeO
          rw [if_pos hp]
          show (match t.set x (wipeR ρ own) with | none => R.no | some ρ1 => _) = _
          rw [e]
          show ((b ρ1).bind _).noEx.bind _ = _
          rw [e1]
          show (loopC own t _ _ xs ρ2).bind _ = _
          rw [e2]
          rfl
        · exact absurd q hno
variable (H : Hcl callR cl ow) (HP : Hclp callR clp good) (hno : ¬ good no)
include H HP hno
mutual
theorem kV_ok : ∀ (e : E) (kx : Exn → Rho → A) (ρ : Rho) (k : D → Rho → A), good (kV no cl clp ow e kx ρ k) → (ev callR e ρ).W2 (fun d ρ' => good (k d ρ')) fun x ρ' => good (kx x ρ')
  | .v i, kx, ρ, k, g => by
    unfold kV at g
    show (ρ.take i).W2 _ _
    unfold Rho.take
    split at g
    · rename_i e; try rw [e]
      exact g
    · rename_i e; try rw [e]
      exact g
    · exact absurd g hno
  | .popv i, kx, ρ, k, g => by
    unfold kV at g
    split at g
    · rename_i x e
      cases x with
      | list ds =>
        have em : ρ.mine i = some ds := by unfold Rho.mine; rw [e]
        have eu : ∀ d, ρ.upd i d = some (ρ.set i (.own d)) := fun d => by unfold Rho.upd; rw [e]
        show R.W2 (match ρ.mine i with
          | some ds => (match ds.getLast? with
            | some d => R.lift ((ρ.upd i (.list ds.dropLast)).map fun ρ' => (d, ρ')) ρ |>.bind fun p _ => .ok p.1 p.2
            | none => .no)
          | none => .no) _ _
        rw [em]
        dsimp only
        cases e2 : ds.getLast? with
        | none =>
          have g : good (kop no (ds.getLast?.map fun d => (d, PyData.list ds.dropLast)) fun p => k p.1 (ρ.set i (.own p.2))) := g
          rw [e2] at g; exact absurd g hno
        | some d =>
          have g : good (kop no (ds.getLast?.map fun d => (d, PyData.list ds.dropLast)) fun p => k p.1 (ρ.set i (.own p.2))) := g
          rw [e2] at g; dsimp only; rw [eu]; exact g
      | _ => exact absurd g hno
    · exact absurd g hno
  | .call f es, kx, ρ, k, g => by
    unfold kV at g
    split at g
    · exact absurd g hno
    · rename_i ho
      refine W2.bind (W2.imp (kVs_ok es kx ρ _ g) fun ds ρ' q => ?_)
      have h := H f ds
      show ((callR f (ds.map .val)).val ρ').W2 _ _
      cases e : cl f ds with
      | ok d =>
        rw [e] at h
        have h : callR f (ds.map .val) = .ok (if ow f = true then .own d else .val d) none := h
        rw [if_neg ho] at h
        rw [h]
        have q2 := q.2
        rw [e] at q2
        exact q2
      | ex x =>
        rw [e] at h
        rw [show callR f (ds.map .val) = .ex x none from h]
        have q2 := q.2
        rw [e] at q2
        exact q2
      | no => have q2 := q.2; rw [e] at q2; exact absurd q2 hno
  | .callo f es, kx, ρ, k, g => by
    unfold kV at g
    split at g
    · rename_i ho
      refine W2.bind (W2.imp (kVs_ok es kx ρ _ g) fun ds ρ' q => ?_)
      have h := H f ds
      show ((callR f (ds.map .val)).valO ρ').W2 _ _
      have q2 := q.2
      cases e : cl f ds with
      | ok d =>
        rw [e] at h
        have h : callR f (ds.map .val) = .ok (if ow f = true then .own d else .val d) none := h
        rw [if_pos ho] at h
        rw [h]
        rw [e] at q2
        have q2 : good (if ownable d = true then k d ρ' else no) := q2
        show R.W2 (if ownable d = true then .ok d ρ' else .no) _ _
        split at q2
        · rename_i hw; rw [if_pos hw]; exact q2
        · exact absurd q2 hno
      | ex x =>
        rw [e] at h
        rw [show callR f (ds.map .val) = .ex x none from h]
        rw [e] at q2
        exact q2
      | no => rw [e] at q2; exact absurd q2 hno
    · exact absurd g hno
  | .tup es, kx, ρ, k, g => by
    unfold kV at g
    split at g
    · rename_i hl
      refine W2.bind (W2.imp (kVs_ok es kx ρ _ g) fun ds ρ' q => ?_)
      show R.W2 (if ds.length ≤ sizeLine then R.ok (PyData.tuple ds) ρ' else .no) _ _
      rw [if_pos (by rw [q.1]; exact big1000 hl)]
      exact q.2
    · exact absurd g hno
  | .lst es, kx, ρ, k, g => by
    unfold kV at g
    split at g
    · rename_i hl
      refine W2.bind (W2.imp (kVs_ok es kx ρ _ g) fun ds ρ' q => ?_)
      show R.W2 (if ds.length ≤ sizeLine then R.ok (PyData.list ds) ρ' else .no) _ _
      rw [if_pos (by rw [q.1]; exact big1000 hl)]
      exact q.2
    · exact absurd g hno
  | .k d, kx, ρ, k, g => by unfold kV at g; exact fold_w2 hno (pE_ok H _ ρ) g
  | .g d, kx, ρ, k, g => by unfold kV at g; exact fold_w2 hno (pE_ok H _ ρ) g
  | .chn .., kx, ρ, k, g => by unfold kV at g; exact fold_w2 hno (pE_ok H _ ρ) g
  | .chn3 .., kx, ρ, k, g => by unfold kV at g; exact fold_w2 hno (pE_ok H _ ρ) g
  | .and_ .., kx, ρ, k, g => by unfold kV at g; exact fold_w2 hno (pE_ok H _ ρ) g
  | .or_ .., kx, ρ, k, g => by unfold kV at g; exact fold_w2 hno (pE_ok H _ ρ) g
  | .not_ .., kx, ρ, k, g => by unfold kV at g; exact fold_w2 hno (pE_ok H _ ρ) g
  | .neg .., kx, ρ, k, g => by unfold kV at g; exact fold_w2 hno (pE_ok H _ ρ) g
  | .isN .., kx, ρ, k, g => by unfold kV at g; exact fold_w2 hno (pE_ok H _ ρ) g
  | .notN .., kx, ρ, k, g => by unfold kV at g; exact fold_w2 hno (pE_ok H _ ρ) g
  | .ite .., kx, ρ, k, g => by unfold kV at g; exact fold_w2 hno (pE_ok H _ ρ) g
  | .rev .., kx, ρ, k, g => by unfold kV at g; exact fold_w2 hno (pE_ok H _ ρ) g
  | .p2 .., kx, ρ, k, g => by unfold kV at g; exact fold_w2 hno (pE_ok H _ ρ) g
  | .isi .., kx, ρ, k, g => by unfold kV at g; exact fold_w2 hno (pE_ok H _ ρ) g
  | .m1 .., kx, ρ, k, g => by unfold kV at g; exact fold_w2 hno (pE_ok H _ ρ) g
  | .m1t .., kx, ρ, k, g => by unfold kV at g; exact fold_w2 hno (pE_ok H _ ρ) g
  | .popi .., kx, ρ, k, g => by unfold kV at g; exact fold_w2 hno (pE_ok H _ ρ) g
  | .comp2 .., kx, ρ, k, g => by unfold kV at g; exact fold_w2 hno (pE_ok H _ ρ) g
  | .dct .., kx, ρ, k, g => by unfold kV at g; exact fold_w2 hno (pE_ok H _ ρ) g
  | .inK .., kx, ρ, k, g => by unfold kV at g; exact fold_w2 hno (pE_ok H _ ρ) g
  | .disp .., kx, ρ, k, g => by unfold kV at g; exact fold_w2 hno (pE_ok H _ ρ) g
  | .bin o a b, kx, ρ, k, g => by
    unfold kV at g
    split at g
    · exact W2.bind (W2.imp (kOp_w hno (fun k g => kV_ok a kx ρ k g) g) fun p ρ1 g1 => W2.bind (W2.imp (kOp_w hno (fun k g => kV_ok b kx ρ1 k g) g1) fun q ρ2 g2 => kop2_w hno g2 fun z gz => gz))
    · exact fold_w2 hno (pE_ok H _ ρ) g
  | .cmp o a b, kx, ρ, k, g => by
    unfold kV at g
    split at g
    · exact W2.bind (W2.imp (kOp_w hno (fun k g => kV_ok a kx ρ k g) g) fun p ρ1 g1 => W2.bind (W2.imp (kOp_w hno (fun k g => kV_ok b kx ρ1 k g) g1) fun q ρ2 g2 => by
        refine kop2_w (k := fun z => k z ρ2) hno ?_ fun z gz => gz
        simp only [← kopC]
        exact g2))
    · exact fold_w2 hno (pE_ok H _ ρ) g
  | .idx a b, kx, ρ, k, g => by
    unfold kV at g
    split at g
    · exact W2.bind (W2.imp (kOp_w hno (fun k g => kV_ok a kx ρ k g) g) fun p ρ1 g1 => W2.bind (W2.imp (kOp_w hno (fun k g => kV_ok b kx ρ1 k g) g1) fun q ρ2 g2 => kop2_w hno g2 fun z gz => gz))
    · exact fold_w2 hno (pE_ok H _ ρ) g
  | .slc a lo hi, kx, ρ, k, g => by
    unfold kV at g
    split at g
    · refine W2.bind (W2.imp (kOp_w hno (fun k g => kV_ok a kx ρ k g) g) fun p ρ1 g1 => ?_)
      refine W2.bind (W2.imp (fold_w2 (k := fun l ρ1 => (pI cl ow hi ρ1).fold no (fun x => kx x ρ1) fun h => kop no (p.get ρ1) fun x => kop no (slcF l h x) fun z => k z ρ1) hno (pI_ok H lo ρ1) g1) fun l ρ2 g2 => ?_)
      refine W2.bind (W2.imp (fold_w2 (k := fun h ρ2 => kop no (p.get ρ2) fun x => kop no (slcF l h x) fun z => k z ρ2) hno (pI_ok H hi ρ2) g2) fun h ρ3 g3 => ?_)
      exact kop1_w hno g3 fun z gz => gz
    · exact fold_w2 hno (pE_ok H _ ρ) g
  | .p1 o a, kx, ρ, k, g => by
    unfold kV at g
    split at g
    · exact W2.bind (W2.imp (kOp_w hno (fun k g => kV_ok a kx ρ k g) g) fun p ρ1 g1 => kop1_w hno g1 fun z gz => gz)
    · exact fold_w2 hno (pE_ok H _ ρ) g
  | .comp own e t it c, kx, ρ, k, g => by
    unfold kV at g
    split at g
    · cases c with
      | yes c => exact absurd g hno
      | no =>
        refine W2.bind (W2.imp (fold_w2 (k := fun xs ρ => if (plainAt ρ own && t.slots.all (fun i => own.contains i) && !ρ.any isIo) = true then
          compK (fun s x next => withP no (wipeR ρ own) s fun ρ1 => kset no t x ρ1 fun ρ2 => kV no cl clp ow e (fun _ _ => no) ρ2 fun d ρ3 => if (plainAt ρ3 own && sameK (wipeR ρ3 own) (wipeR ρ own)) = true then next (pay (wipeR ρ3 own)) d else no)
            xs (pay (wipeR ρ own)) [] fun s zs => withP no (wipeR ρ own) s fun ρ' => if zs.length ≤ sizeLine then k (.list zs) (backR ρ ρ' own) else no
        else no) hno (pIt_ok H it ρ) g) fun xs ρ1 g1 => ?_)
        split at g1
        · rename_i h
          simp only [Bool.and_eq_true, Bool.not_eq_true'] at h
          obtain ⟨⟨hp, hs⟩, hio⟩ := h
          obtain ⟨a1, a2, a3⟩ := plain_wipe hp
          have sk : sameK (wipeR (wipeR ρ1 own) own) (wipeR ρ1 own) = true := by
            rw [a2]
            refine sameK_refl fun d z => ?_
            obtain ⟨i, hi⟩ := List.getElem?_of_mem z
            rw [wipeR_get] at hi
            split at hi
            · cases hi
            · have hm := List.mem_of_getElem? hi
              have := List.any_eq_false.mp hio _ hm
              exact this rfl
          have g1' := g1
          rw [show pay (wipeR ρ1 own) = pay (wipeR (wipeR ρ1 own) own) by rw [a2]] at g1'
          obtain ⟨zs, ρ', e1, e2, e3⟩ := compK_w (b := ev callR e) (kb := fun ρ k => kV no cl clp ow e (fun _ _ => no) ρ k) hno (fun ρ k g => kV_ok e (fun _ _ => no) ρ k g) xs (wipeR ρ1 own) [] a1 sk g1'
          rw [withP_ok no e2] at e3
          show ((compC own t (evc callR .no) (fun ρ => (ev callR e ρ).bind fun d ρ => .ok [d] ρ) xs ρ1).bind fun zs ρ => R.ok (PyData.list zs) ρ).W2 _ _
          unfold compC
          rw [if_pos hp, show (evc callR .no) = (fun ρ => R.ok true ρ) from rfl, e1]
          show R.W2 ((if zs.length ≤ sizeLine then R.ok zs (backR ρ1 ρ' own) else .no).bind _) _ _
          simp only [List.nil_append] at e3
          split at e3
          · rename_i hl; rw [if_pos hl]; exact e3
          · exact absurd e3 hno
        · exact absurd g1 hno
    · exact fold_w2 hno (pE_ok H _ ρ) g
  | .callp f i es, kx, ρ, k, g => by
    unfold kV at g
    split at g
    · rename_i p0 e0
      show R.W2 (match ρ.at i with
        | none => .no
        | some _ => (evs callR es ρ).bind fun ds ρ => match ρ.mine i with
          | some d => (callR f (.io (.list d) :: ds.map .val)).valp i ρ
          | none => .no) _ _
      have ea : ρ.at i = some p0 := by unfold Rho.at; rw [e0]; rfl
      rw [ea]
      refine W2.bind (W2.imp (kVs_ok es kx ρ _ g) fun ds ρ1 q => ?_)
      have q := q.2
      split at q
      · rename_i p e1
        obtain ⟨P, rfl, d, p', e2, e3⟩ := HP _ _ _ _ q
        have em : ρ1.mine i = some P := by unfold Rho.mine; rw [e1]
        rw [em]
        dsimp only
        rw [e2]
        unfold CRes.valp
        have eu : ρ1.upd i p' = some (ρ1.set i (.own p')) := by unfold Rho.upd; rw [e1]
        dsimp only
        rw [eu]
        exact e3
      · exact absurd q hno
    · exact absurd g hno
theorem kVs_ok : ∀ (es : Es) (kx : Exn → Rho → A) (ρ : Rho) (k : List D → Rho → A), good (kVs no cl clp ow es kx ρ k) → (evs callR es ρ).W2 (fun ds ρ' => ds.length = es.len ∧ good (k ds ρ')) fun x ρ' => good (kx x ρ')
  | .nil, kx, ρ, k, g => ⟨rfl, g⟩
  | .cons e r, kx, ρ, k, g => by
    unfold kVs at g
    refine W2.bind (W2.imp (kV_ok e kx ρ _ g) fun d ρ1 g1 => ?_)
    refine W2.bind (W2.imp (kVs_ok r kx ρ1 _ g1) fun ds ρ2 g2 => ?_)
    exact ⟨by simp [Es.len, g2.1], g2.2⟩
end
theorem kIt_ok : ∀ (it : It) (kx : Exn → Rho → A) (ρ : Rho) (k : List D → Rho → A), good (kIt no cl clp ow it kx ρ k) → (evit callR it ρ).W2 (fun ds ρ' => good (k ds ρ')) fun x ρ' => good (kx x ρ')
  | .ov e, kx, ρ, k, g => by
    unfold kIt at g
    refine W2.bind (W2.imp (kV_ok H HP hno e kx ρ _ g) fun d ρ1 g1 => ?_)
    cases e : seqOf d with
    | none => rw [e] at g1; exact absurd g1 hno
    | some xs => rw [e] at g1; exact g1
  | .rng1 .., kx, ρ, k, g => by unfold kIt at g; exact fold_w2 hno (pIt_ok H _ ρ) g
  | .rng2 .., kx, ρ, k, g => by unfold kIt at g; exact fold_w2 hno (pIt_ok H _ ρ) g
  | .rng3 .., kx, ρ, k, g => by unfold kIt at g; exact fold_w2 hno (pIt_ok H _ ρ) g
  | .zip .., kx, ρ, k, g => by unfold kIt at g; exact fold_w2 hno (pIt_ok H _ ρ) g
  | .rvs .., kx, ρ, k, g => by unfold kIt at g; exact fold_w2 hno (pIt_ok H _ ρ) g
omit H HP in
theorem kput_w {ρ : Rho} {i : Nat} {e : Ent} {k : Rho → A} (g : good (kput no ρ i e k)) : ∃ ρ', ρ.put i e = some ρ' ∧ good (k ρ') := by
  rw [kput_eq] at g
  split at g
  · rename_i ρ' e; exact ⟨ρ', e, g⟩
  · exact absurd g hno
omit H HP in
theorem kset_w {t : Tgt} {d : D} {ρ : Rho} {k : Rho → A} (g : good (kset no t d ρ k)) : ∃ ρ', t.set d ρ = some ρ' ∧ good (k ρ') := by
  rw [kset_eq] at g
  split at g
  · rename_i ρ' e; exact ⟨ρ', e, g⟩
  · exact absurd g hno
omit H HP in
theorem ksetL_w {is : List Nat} {ds : List D} {ρ : Rho} {k : Rho → A} (g : good (ksetL no is ds ρ k)) : ∃ ρ', putAll is ds ρ = some ρ' ∧ good (k ρ') := by
  rw [ksetL_eq] at g
  split at g
  · rename_i ρ' e; exact ⟨ρ', e, g⟩
  · exact absurd g hno
omit H HP in
theorem kop_w {α : Type} {o : Option α} {k : α → A} (g : good (kop no o k)) : ∃ a, o = some a ∧ good (k a) := by
  cases o with
  | none => exact absurd g hno
  | some a => exact ⟨a, rfl, g⟩
omit H HP in
theorem kown_w {d : D} {k : D → A} (g : good (kown no d k)) : ownable d = true ∧ good (k d) := by
  unfold kown at g
  split at g
  · rename_i h; exact ⟨h, g⟩
  · exact absurd g hno
omit H HP in
theorem kmine_w {ρ : Rho} {i : Nat} {k : A} (g : good (kmine no ρ i k)) : ∃ ds, ρ.mine i = some ds ∧ good k := by
  unfold kmine at g
  split at g
  · rename_i x e
    unfold klst at g
    split at g
    · exact ⟨_, by unfold Rho.mine; rw [e], g⟩
    · exact absurd g hno
  · rename_i x e
    unfold klst at g
    split at g
    · exact ⟨_, by unfold Rho.mine; rw [e], g⟩
    · exact absurd g hno
  · exact absurd g hno
omit H HP in
theorem kget_w {ρ : Rho} {i : Nat} {k : D → A} (g : good (kget no ρ i k)) : ∃ ds, ρ.mine i = some ds ∧ good (k (.list ds)) := by
  unfold kget at g
  split at g
  · rename_i x e
    unfold klst at g
    split at g
    · exact ⟨_, by unfold Rho.mine; rw [e], g⟩
    · exact absurd g hno
  · rename_i x e
    unfold klst at g
    split at g
    · exact ⟨_, by unfold Rho.mine; rw [e], g⟩
    · exact absurd g hno
  · exact absurd g hno
omit H HP in
theorem kval_w {ρ : Rho} {i : Nat} {k : A} (g : good (kval no ρ i k)) : ∃ x, ρ[i]? = some (.val x) ∧ good k := by
  unfold kval at g
  split at g
  · rename_i x e; exact ⟨x, e, g⟩
  · exact absurd g hno
omit H HP in
/-- a list of one's own is changed -/
theorem kset1_w {ρ : Rho} {i : Nat} {f : D → Option D} {k : Rho → A} (g : good (kset1 no ρ i f k)) (hf : ∀ x d, f x = some d → ∃ ds, x = .list ds) : ∃ ds d ρ', ρ.mine i = some ds ∧ f (.list ds) = some d ∧ ρ.upd i d = some ρ' ∧ good (k ρ') := by
  unfold kset1 at g
  split at g
  · rename_i x e
    obtain ⟨d, e2, g2⟩ := kop_w hno g
    obtain ⟨ds, rfl⟩ := hf _ _ e2
    exact ⟨ds, d, _, by unfold Rho.mine; rw [e], e2, by unfold Rho.upd; rw [e], g2⟩
  · rename_i x e
    obtain ⟨d, e2, g2⟩ := kop_w hno g
    obtain ⟨ds, rfl⟩ := hf _ _ e2
    exact ⟨ds, d, _, by unfold Rho.mine; rw [e], e2, by unfold Rho.upd; rw [e], g2⟩
  · exact absurd g hno
omit H HP in
theorem kfgt_w : ∀ {is : List Nat} {ρ : Rho} {k : Rho → A}, good (kfgt no ρ is k) → ∃ ρ', fgtR ρ is = some ρ' ∧ good (k ρ')
  | [], ρ, k, g => ⟨ρ, rfl, g⟩
  | i :: is, ρ, k, g => by
    unfold kfgt at g
    unfold fgtR
    split at g
    · exact absurd g hno
    · rename_i hne
      obtain ⟨ρ', e, g⟩ := kfgt_w g
      refine ⟨ρ', ?_, g⟩
      first
        | exact e
        | (split
           · rename_i d e2; exact absurd e2 (hne d)
           · exact e)
omit H HP in
theorem forK_w {t : Tgt} {tm : Rho} {body : Rho → (Rho → A) → (Rho → A) → A} {b : Rho → SRes} {T : Ent → Prop} {X : Exn → Rho → Prop} {kn : List D → A}
    (hb : ∀ ρ1 next brk, good (body ρ1 brk next) → (b ρ1).W4 (fun ρ => good (next ρ)) (fun ρ => good (brk ρ)) T X) :
    ∀ (xs : List D) (ρ : Rho), sameK ρ tm = true → good (forK (fun s x next brk => withP no tm s fun ρ1 => kset no t x ρ1 fun ρ1 => body ρ1 (fun ρ2 => if sameK ρ2 tm = true then brk (pay ρ2) else no) fun ρ2 => if sameK ρ2 tm = true then next (pay ρ2) else no) xs (pay ρ) kn) →
      (loopF t b xs ρ).W4 (fun ρ' => sameK ρ' tm = true ∧ good (kn (pay ρ'))) (fun _ => False) T X
  | [], ρ, hs, g => ⟨hs, g⟩
  | x :: xs, ρ, hs, g => by
    unfold forK at g
    rw [withP_ok no hs] at g
    obtain ⟨ρ1, e, g⟩ := kset_w hno g
    have q := hb _ _ _ g
    unfold loopF
    rw [e]
    dsimp only
    cases e2 : b ρ1 with
    | nx ρ2 =>
      rw [e2] at q
      have q : good (if sameK ρ2 tm = true then _ else no) := q
      split at q
      · rename_i hs2; exact forK_w hb xs ρ2 hs2 q
      · exact absurd q hno
    | bk ρ2 =>
      rw [e2] at q
      have q : good (if sameK ρ2 tm = true then _ else no) := q
      split at q
      · rename_i hs2; exact ⟨hs2, q⟩
      · exact absurd q hno
    | ct ρ2 => rw [e2] at q; exact q.elim
    | rt e ρ2 => rw [e2] at q; exact q
    | ex y ρ2 => rw [e2] at q; exact q
    | no => rw [e2] at q; exact q.elim
omit H HP in
theorem whileK_w {tm : Rho} {test : Rho → R Bool} {ts : Rho → (Bool → A) → A} {body : Rho → (Rho → A) → (Rho → A) → A} {b : Rho → SRes} {T : Ent → Prop} {X : Exn → Rho → Prop} {kn : List D → A}
    (ht : ∀ ρ1 k, good (ts ρ1 k) → (test ρ1).W2 (fun z ρ' => ρ' = ρ1 ∧ good (k z)) X)
    (hb : ∀ ρ1 next brk, good (body ρ1 brk next) → (b ρ1).W4 (fun ρ => good (next ρ)) (fun ρ => good (brk ρ)) T X) :
    ∀ (n : Nat) (ρ : Rho), sameK ρ tm = true → good (whileK no (fun s next brk => withP no tm s fun ρ1 => ts ρ1 fun z => cond z (body ρ1 (fun ρ2 => if sameK ρ2 tm = true then brk (pay ρ2) else no) fun ρ2 => if sameK ρ2 tm = true then next (pay ρ2) else no) (brk (pay ρ1))) n (pay ρ) kn) →
      (loopW test b n ρ).W4 (fun ρ' => sameK ρ' tm = true ∧ good (kn (pay ρ'))) (fun _ => False) T X
  | 0, ρ, hs, g => absurd g hno
  | n + 1, ρ, hs, g => by
    unfold whileK at g
    rw [withP_ok no hs] at g
    have q1 := ht _ _ g
    unfold loopW
    cases e1 : test ρ with
    | no => rw [e1] at q1; exact q1.elim
    | ex y ρ1 => rw [e1] at q1; exact q1
    | ok z ρ1 =>
      rw [e1] at q1
      obtain ⟨rfl, q1⟩ := q1
      cases z with
      | false => exact ⟨hs, q1⟩
      | true =>
        have q := hb _ _ _ q1
        dsimp only
        cases e2 : b ρ1 with
        | nx ρ2 =>
          rw [e2] at q
          have q : good (if sameK ρ2 tm = true then _ else no) := q
          split at q
          · rename_i hs2; exact whileK_w ht hb n ρ2 hs2 q
          · exact absurd q hno
        | bk ρ2 =>
          rw [e2] at q
          have q : good (if sameK ρ2 tm = true then _ else no) := q
          split at q
          · rename_i hs2; exact ⟨hs2, q⟩
          · exact absurd q hno
        | ct ρ2 => rw [e2] at q; exact q.elim
        | rt e ρ2 => rw [e2] at q; exact q
        | ex y ρ2 => rw [e2] at q; exact q
        | no => rw [e2] at q; exact q.elim
omit H HP hno in
theorem noIo {ρ : Rho} (h : ¬ ρ.any isIo = true) : ∀ d, Ent.io d ∉ ρ := fun d z => h (List.any_eq_true.mpr ⟨_, z, rfl⟩)
omit H HP hno in
theorem appF_l : ∀ x d y, appF x y = some d → ∃ ds, x = .list ds := fun x d y h => by cases x <;> first | exact ⟨_, rfl⟩ | cases h
omit H HP hno in
theorem extF_l : ∀ x d y, extF x y = some d → ∃ ds, x = .list ds := fun x d y h => by cases x <;> first | exact ⟨_, rfl⟩ | cases h
omit H HP hno in
theorem stoF_l : ∀ x d k y, stoF x k y = some d → ∃ ds, x = .list ds := fun x d k y h => by cases x <;> first | exact ⟨_, rfl⟩ | cases h
omit H HP hno in
theorem popF_l : ∀ x d, (popF x).map (·.2) = some d → ∃ ds, x = .list ds := fun x d h => by cases x <;> first | exact ⟨_, rfl⟩ | cases h
omit HP in
theorem kT_ok (c : E) (kx : Exn → Rho → A) (ρ : Rho) (k : Bool → A) (g : good ((pE cl ow c ρ).fold no (fun x => kx x ρ) fun x => (asBs x).fold no (fun x => kx x ρ) k)) : (evT callR c ρ).W2 (fun z ρ' => ρ' = ρ ∧ good (k z)) fun x ρ' => good (kx x ρ') := by
  have h := pE_ok H c ρ
  unfold evT
  refine W2.bind ?_
  cases e : pE cl ow c ρ with
  | ok d =>
    rw [e] at h g
    rw [show ev callR c ρ = .ok d ρ from h]
    show (R.lift (asB d) ρ).W2 _ _
    cases d with
    | bool b => exact ⟨rfl, g⟩
    | _ => exact absurd g hno
  | ex x =>
    rw [e] at h g
    rw [show ev callR c ρ = .ex x ρ from h]
    exact g
  | no => rw [e] at g; exact absurd g hno
mutual
theorem kS_ok : ∀ (s : S) (kb : Rho → A) (kr : Ent → A) (kx : Exn → Rho → A) (ρ : Rho) (kn : Rho → A), good (kS no cl clp ow s kb kr kx ρ kn) → (evS callR s ρ).W4 (fun ρ => good (kn ρ)) (fun ρ => good (kb ρ)) (fun e => good (kr e)) (fun x ρ => good (kx x ρ))
  | .asg i e, kb, kr, kx, ρ, kn, g => by
    unfold kS at g
    refine W2.sb (W2.imp (kV_ok H HP hno e kx ρ _ g) fun d ρ1 g1 => ?_)
    obtain ⟨ρ2, e2, g2⟩ := kput_w hno g1
    rw [e2]
    exact g2
  | .new i e, kb, kr, kx, ρ, kn, g => by
    unfold kS at g
    refine W2.sb (W2.imp (kV_ok H HP hno e kx ρ _ g) fun d ρ1 g1 => ?_)
    obtain ⟨o, g1⟩ := kown_w hno g1
    obtain ⟨ρ2, e2, g2⟩ := kput_w hno g1
    rw [if_pos o, e2]
    exact g2
  | .asgT is e, kb, kr, kx, ρ, kn, g => by
    unfold kS at g
    refine W2.sb (W2.imp (kV_ok H HP hno e kx ρ _ g) fun d ρ1 g1 => ?_)
    obtain ⟨ρ2, e2, g2⟩ := kset_w hno g1
    rw [e2]
    exact g2
  | .par is es, kb, kr, kx, ρ, kn, g => by
    unfold kS at g
    refine W2.sb (W2.imp (kVs_ok H HP hno es kx ρ _ g) fun d ρ1 g1 => ?_)
    obtain ⟨ρ2, e2, g2⟩ := ksetL_w hno g1.2
    rw [e2]
    exact g2
  | .aug i o e, kb, kr, kx, ρ, kn, g => by
    unfold kS at g
    obtain ⟨x0, e0, g⟩ := kval_w hno g
    show SRes.W4 (match ρ.at i with
      | none => .no
      | some _ => (ev callR e ρ).sb fun y ρ => match (ρ.at i).bind fun x => augF o x y with
        | some d => (match ρ[i]? with
          | some (.val _) => .nx (ρ.set i (.val d))
          | _ => .no)
        | none => .no) _ _ _ _
    have ea : ρ.at i = some x0 := by unfold Rho.at; rw [e0]; rfl
    rw [ea]
    refine W2.sb (W2.imp (kV_ok H HP hno e kx ρ _ g) fun y ρ1 g1 => ?_)
    split at g1
    · rename_i x e1
      obtain ⟨d, e2, g2⟩ := kop_w hno g1
      have eb : ρ1.at i = some x := by unfold Rho.at; rw [e1]; rfl
      rw [eb]
      try rw [e1]
      show SRes.W4 (match augF o x y with | some d => _ | none => _) _ _ _ _
      rw [e2]
      exact g2
    · exact absurd g1 hno
  | .sub i k e, kb, kr, kx, ρ, kn, g => by
    unfold kS at g
    obtain ⟨ds0, e0, g⟩ := kmine_w hno g
    show SRes.W4 (match ρ.mine i with
      | none => .no
      | some _ => (ev callR e ρ).sb fun y ρ => (ev callR k ρ).sb fun x ρ => storeAt i x y ρ) _ _ _ _
    rw [e0]
    refine W2.sb (W2.imp (kV_ok H HP hno e kx ρ _ g) fun y ρ1 g1 => ?_)
    refine W2.sb (W2.imp (kV_ok H HP hno k kx ρ1 _ g1) fun x ρ2 g2 => ?_)
    obtain ⟨ds, d, ρ3, e1, e2, e3, g3⟩ := kset1_w hno g2 (fun x' d h => stoF_l x' d x y h)
    cases x with
    | int n =>
      have e2 : (ixN ds.length n).map (fun j => PyData.list (ds.set j y)) = some d := e2
      unfold storeAt
      dsimp only
      rw [e1]
      cases ej : ixN ds.length n with
      | none => rw [ej] at e2; cases e2
      | some j =>
        rw [ej] at e2
        cases e2
        show SRes.W4 (match (ixN ds.length n).bind fun j => ρ2.upd i (.list (ds.set j y)) with | some ρ' => .nx ρ' | none => .no) _ _ _ _
        rw [ej]
        show SRes.W4 (match ρ2.upd i (.list (ds.set j y)) with | some ρ' => .nx ρ' | none => .no) _ _ _ _
        rw [e3]
        exact g3
    | _ => cases e2
  | .app i e, kb, kr, kx, ρ, kn, g => by
    unfold kS at g
    obtain ⟨ds0, e0, g⟩ := kmine_w hno g
    show SRes.W4 (match ρ.mine i with
      | none => .no
      | some _ => (ev callR e ρ).sb fun y ρ => match (ρ.mine i).bind fun ds => if ds.length < sizeLine then ρ.upd i (.list (ds ++ [y])) else none with | some ρ' => .nx ρ' | none => .no) _ _ _ _
    rw [e0]
    refine W2.sb (W2.imp (kV_ok H HP hno e kx ρ _ g) fun y ρ1 g1 => ?_)
    obtain ⟨ds, d, ρ3, e1, e2, e3, g3⟩ := kset1_w hno g1 (fun x' d h => appF_l x' d y h)
    rw [e1]
    have e2 : (if ds.length < sizeLine then some (PyData.list (ds ++ [y])) else none) = some d := e2
    split at e2
    · rename_i hl
      cases e2
      show SRes.W4 (match (if ds.length < sizeLine then ρ1.upd i (.list (ds ++ [y])) else none) with | some ρ' => .nx ρ' | none => .no) _ _ _ _
      rw [if_pos hl, e3]
      exact g3
    · cases e2
  | .ext i e, kb, kr, kx, ρ, kn, g => by
    unfold kS at g
    obtain ⟨ds0, e0, g⟩ := kmine_w hno g
    show SRes.W4 (match ρ.mine i with
      | none => .no
      | some _ => (ev callR e ρ).sb fun y ρ => match y with
        | .list ys => (match (ρ.mine i).bind fun ds => if ds.length + ys.length ≤ sizeLine then ρ.upd i (.list (ds ++ ys)) else none with | some ρ' => .nx ρ' | none => .no)
        | _ => .no) _ _ _ _
    rw [e0]
    refine W2.sb (W2.imp (kV_ok H HP hno e kx ρ _ g) fun y ρ1 g1 => ?_)
    obtain ⟨ds, d, ρ3, e1, e2, e3, g3⟩ := kset1_w hno g1 (fun x' d h => extF_l x' d y h)
    cases y with
    | list ys =>
      dsimp only
      rw [e1]
      have e2 : (if ds.length + ys.length ≤ sizeLine then some (PyData.list (ds ++ ys)) else none) = some d := e2
      split at e2
      · rename_i hl
        cases e2
        show SRes.W4 (match (if ds.length + ys.length ≤ sizeLine then ρ1.upd i (.list (ds ++ ys)) else none) with | some ρ' => .nx ρ' | none => .no) _ _ _ _
        rw [if_pos hl, e3]
        exact g3
      · cases e2
    | _ => cases e2
  | .popS i, kb, kr, kx, ρ, kn, g => by
    unfold kS at g
    obtain ⟨ds, d, ρ3, e1, e2, e3, g3⟩ := kset1_w hno g (fun x' d h => popF_l x' d h)
    show SRes.W4 (match (ρ.mine i).bind fun ds => if ds = [] then none else ρ.upd i (.list ds.dropLast) with | some ρ' => .nx ρ' | none => .no) _ _ _ _
    rw [e1]
    have e2 : (ds.getLast?.map fun d => (d, PyData.list ds.dropLast)).map (·.2) = some d := e2
    cases h : ds.getLast? with
    | none => rw [h] at e2; cases e2
    | some y =>
      rw [h] at e2
      cases e2
      have hn : ds ≠ [] := fun z => by rw [z] at h; cases h
      show SRes.W4 (match (if ds = [] then none else ρ.upd i (.list ds.dropLast)) with | some ρ' => .nx ρ' | none => .no) _ _ _ _
      rw [if_neg hn, e3]
      exact g3
  | .drop e, kb, kr, kx, ρ, kn, g => by
    unfold kS at g
    exact W2.sb (W2.imp (kV_ok H HP hno e kx ρ _ g) fun d ρ1 g1 => g1)
  | .ret e, kb, kr, kx, ρ, kn, g => by
    unfold kS at g
    exact W2.sb (W2.imp (kV_ok H HP hno e kx ρ _ g) fun d ρ1 g1 => g1)
  | .retO e, kb, kr, kx, ρ, kn, g => by
    unfold kS at g
    refine W2.sb (W2.imp (kV_ok H HP hno e kx ρ _ g) fun d ρ1 g1 => ?_)
    obtain ⟨o, g1⟩ := kown_w hno g1
    rw [if_pos o]
    exact g1
  | .retN, kb, kr, kx, ρ, kn, g => g
  | .if_ c a b, kb, kr, kx, ρ, kn, g => by
    unfold kS at g
    refine W2.sb (W2.imp (kT_ok H hno c kx ρ _ g) fun z ρ1 q => ?_)
    obtain ⟨rfl, q⟩ := q
    cases z with
    | true => exact kSs_ok a kb kr kx _ kn q
    | false => exact kSs_ok b kb kr kx _ kn q
  | .for_ t it b, kb, kr, kx, ρ, kn, g => by
    unfold kS at g
    refine W2.sb (W2.imp (kIt_ok H HP hno it kx ρ _ g) fun xs ρ1 g1 => ?_)
    split at g1
    · exact absurd g1 hno
    · rename_i hi
      have w := forK_w (X := fun x ρ => good (kx x ρ)) (T := fun e => good (kr e)) (body := fun ρ1 brk next => kSs no cl clp ow b brk kr kx ρ1 next) (b := evSs callR b) hno (fun ρ1 next brk q => kSs_ok b brk kr kx ρ1 next q) xs ρ1 (sameK_blank (noIo hi)) g1
      refine W4.imp w (fun ρ' q => ?_) (fun _ z => z.elim) (fun _ z => z) (fun _ _ z => z)
      rw [withP_ok no q.1] at q
      exact q.2
  | .while_ c b, kb, kr, kx, ρ, kn, g => by
    unfold kS at g
    split at g
    · exact absurd g hno
    · rename_i hi
      have w := whileK_w (X := fun x ρ => good (kx x ρ)) (T := fun e => good (kr e)) (test := evT callR c) (ts := fun ρ1 k => (pE cl ow c ρ1).fold no (fun x => kx x ρ1) fun x => (asBs x).fold no (fun x => kx x ρ1) k) (body := fun ρ1 brk next => kSs no cl clp ow b brk kr kx ρ1 next) (b := evSs callR b) hno (fun ρ1 k q => kT_ok H hno c kx ρ1 k q) (fun ρ1 next brk q => kSs_ok b brk kr kx ρ1 next q) wFuel ρ (sameK_refl (noIo hi)) g
      refine W4.imp w (fun ρ' q => ?_) (fun _ z => z.elim) (fun _ z => z) (fun _ _ z => z)
      rw [withP_ok no q.1] at q
      exact q.2
  | .brk, kb, kr, kx, ρ, kn, g => g
  | .pass, kb, kr, kx, ρ, kn, g => g
  | .raise c es, kb, kr, kx, ρ, kn, g => by
    unfold kS at g
    split at g
    · rename_i h
      refine W2.sb (W2.imp (kVs_ok H HP hno es kx ρ _ g) fun d ρ1 g1 => ?_)
      rw [if_pos ⟨h.1, by rw [g1.1]; exact big1000 h.2⟩]
      exact g1.2
    · exact absurd g hno
  | .tryR b d, kb, kr, kx, ρ, kn, g => by
    unfold kS at g
    have w := kSs_ok b kb kr _ ρ kn g
    show SRes.W4 (match evSs callR b ρ with
      | .ex x ρ' => if x.cls = 0 then .rt (.val d) ρ' else .no
      | r => r) _ _ _ _
    cases e : evSs callR b ρ with
    | ex x ρ' =>
      rw [e] at w
      have w : good (if x.cls = 0 then kr (.val d) else no) := w
      dsimp only
      split at w
      · rename_i h; rw [if_pos h]; exact w
      · exact absurd w hno
    | _ => rw [e] at w; exact w
  | .asub i o k e, kb, kr, kx, ρ, kn, g => by
    unfold kS at g
    obtain ⟨ds0, e0, g⟩ := kmine_w hno g
    show SRes.W4 (match ρ.mine i with
      | none => .no
      | some _ => (ev callR k ρ).sb fun x ρ => match (ρ.mine i).bind fun ds => idxF (.list ds) x with
        | none => .no
        | some old => (ev callR e ρ).sb fun y ρ => match augF o old y with
          | none => .no
          | some z => storeAt i x z ρ) _ _ _ _
    rw [e0]
    refine W2.sb (W2.imp (kV_ok H HP hno k kx ρ _ g) fun x ρ1 g1 => ?_)
    obtain ⟨ds1, e1, g1⟩ := kget_w hno g1
    obtain ⟨old, e2, g1⟩ := kop_w hno g1
    rw [e1]
    show SRes.W4 (match idxF (.list ds1) x with
      | none => .no
      | some old => _) _ _ _ _
    rw [e2]
    refine W2.sb (W2.imp (kV_ok H HP hno e kx ρ1 _ g1) fun y ρ2 g2 => ?_)
    obtain ⟨z, e3, g2⟩ := kop_w hno g2
    rw [e3]
    obtain ⟨ds, d, ρ3, e4, e5, e6, g3⟩ := kset1_w hno g2 (fun x' d h => stoF_l x' d x z h)
    cases x with
    | int n =>
      have e5 : (ixN ds.length n).map (fun j => PyData.list (ds.set j z)) = some d := e5
      show SRes.W4 (match (ρ2.mine i).bind fun ds => (ixN ds.length n).bind fun j => ρ2.upd i (.list (ds.set j z)) with | some ρ' => .nx ρ' | none => .no) _ _ _ _
      rw [e4]
      cases ej : ixN ds.length n with
      | none => rw [ej] at e5; cases e5
      | some j =>
        rw [ej] at e5
        cases e5
        show SRes.W4 (match (ixN ds.length n).bind fun j => ρ2.upd i (.list (ds.set j z)) with | some ρ' => .nx ρ' | none => .no) _ _ _ _
        rw [ej]
        show SRes.W4 (match ρ2.upd i (.list (ds.set j z)) with | some ρ' => .nx ρ' | none => .no) _ _ _ _
        rw [e6]
        exact g3
    | _ => cases e5
  | .tryA b i n, kb, kr, kx, ρ, kn, g => by
    unfold kS at g
    have w := kSs_ok b kb kr _ ρ kn g
    show SRes.W4 (match evSs callR b ρ with
      | .ex x ρ' => if x.cls = 0 then (match ρ'.at i with
        | some (.int m) => (match ρ'.put i (.val (.int (m + n))) with | some ρ2 => .nx ρ2 | none => .no)
        | _ => .no) else .no
      | r => r) _ _ _ _
    cases e : evSs callR b ρ with
    | ex x ρ' =>
      rw [e] at w
      have w : good (if x.cls = 0 then (match ρ'[i]? with
        | some (.val d) => kint no d fun m => kput no ρ' i (.val (.int (m + n))) kn
        | _ => no) else no) := w
      dsimp only
      split at w
      · rename_i h
        rw [if_pos h]
        split at w
        · rename_i d e1
          have ea : ρ'.at i = some d := by unfold Rho.at; rw [e1]; rfl
          rw [ea]
          cases d with
          | int m =>
            obtain ⟨ρ2, e2, g2⟩ := kput_w hno (show good (kput no ρ' i (.val (.int (m + n))) kn) from w)
            dsimp only
            rw [e2]
            exact g2
          | _ => exact absurd w hno
        · exact absurd w hno
      · exact absurd w hno
    | _ => rw [e] at w; exact w
  | .fgt is, kb, kr, kx, ρ, kn, g => by
    unfold kS at g
    obtain ⟨ρ', e, g⟩ := kfgt_w hno g
    show SRes.W4 (match fgtR ρ is with | some ρ' => .nx ρ' | none => .no) _ _ _ _
    rw [e]
    exact g
  | .swap .., kb, kr, kx, ρ, kn, g => by unfold kS at g; exact absurd g hno
theorem kSs_ok : ∀ (s : Ss) (kb : Rho → A) (kr : Ent → A) (kx : Exn → Rho → A) (ρ : Rho) (kn : Rho → A), good (kSs no cl clp ow s kb kr kx ρ kn) → (evSs callR s ρ).W4 (fun ρ => good (kn ρ)) (fun ρ => good (kb ρ)) (fun e => good (kr e)) (fun x ρ => good (kx x ρ))
  | .nil, kb, kr, kx, ρ, kn, g => g
  | .cons s r, kb, kr, kx, ρ, kn, g => by
    unfold kSs at g
    exact W4.nb (W4.imp (kS_ok s kb kr kx ρ _ g) (fun ρ1 g1 => kSs_ok r kb kr kx ρ1 kn g1) (fun _ z => z) (fun _ z => z) (fun _ _ z => z))
end
end
/-! ### defs -/
/-- nothing is called with a list of one's own -/
def noP {A : Type} (no : A) : Nat → D → List D → (D → D → A) → A := fun _ _ _ _ => no
theorem noP_ok {A : Type} {no : A} {good : A → Prop} {callR : Nat → List Ent → CRes} (hno : ¬ good no) : Hclp callR (noP no) good := fun _ _ _ _ g => absurd g hno
def retK (w : Bool) : Ent → Rs D
  | .val d => if w = true then .no else .ok d
  | .own d => if w = true then .ok d else .no
  | _ => .no
/-- what a plain result tells of a call -/
def Cl (callR : Nat → List Ent → CRes) (ow : Nat → Bool) (f : Nat) (ds : List D) (r : Rs D) : Prop := match r with
  | .ok d => callR f (ds.map .val) = .ok (if ow f = true then .own d else .val d) none
  | .ex x => callR f (ds.map .val) = .ex x none
  | .no => True
/-- callees by their numbers -/
def clOf : List (Nat × (List D → Rs D)) → Nat → List D → Rs D
  | [], _, _ => .no
  | p :: l, f, ds => if f = p.1 then p.2 ds else clOf l f ds
def u0 (f : Rs D) : List D → Rs D
  | [] => f
  | _ => .no
def u1 (f : D → Rs D) : List D → Rs D
  | [a] => f a
  | _ => .no
def u2 (f : D → D → Rs D) : List D → Rs D
  | [a, b] => f a b
  | _ => .no
def u3 (f : D → D → D → Rs D) : List D → Rs D
  | [a, b, c] => f a b c
  | _ => .no
def u4 (f : D → D → D → D → Rs D) : List D → Rs D
  | [a, b, c, d] => f a b c d
  | _ => .no
def AllCl (callR : Nat → List Ent → CRes) (ow : Nat → Bool) : List (Nat × (List D → Rs D)) → Prop
  | [] => True
  | p :: l => (∀ ds, Cl callR ow p.1 ds (p.2 ds)) ∧ AllCl callR ow l
theorem Hcl_of {callR : Nat → List Ent → CRes} {ow : Nat → Bool} : ∀ {l : List (Nat × (List D → Rs D))}, AllCl callR ow l → Hcl callR (clOf l) ow
  | [], _, f, ds => trivial
  | p :: l, h, f, ds => by
    unfold clOf
    by_cases e : f = p.1
    · rw [if_pos e, e]; exact h.1 ds
    · rw [if_neg e]; exact Hcl_of h.2 f ds
/-- the body of a def, read plainly -/
def body (cl : Nat → List D → Rs D) (ow : Nat → Bool) (fn : Fn) (w : Bool) (ds : List D) : Rs D :=
  kSs .no cl (noP .no) ow fn.body (fun _ => .no) (retK w) (fun x _ => .ex x) (ds.map .val ++ List.replicate (fn.names.length - fn.params) .un) (fun _ => if w = true then .no else .ok .none)
theorem body_ok {tb : Nat → Option Fn} {ow : Nat → Bool} {n f : Nat} {fn : Fn} {cl : Nat → List D → Rs D} {ds : List D} (e : tb f = some fn) (ih : Hcl (callF tb n) cl ow) (h : fn.io = false ∧ ds.length = fn.params) : Cl (callF tb (n + 1)) ow f ds (body cl ow fn (ow f) ds) := by
  have ha : (ds.map Ent.val).length = fn.params ∧ argsOk fn.io (ds.map Ent.val) = true := ⟨by rw [List.length_map]; exact h.2, by rw [h.1]; simp [argsOk]⟩
  cases hx : body cl ow fn (ow f) ds with
  | ok d =>
    have w := kSs_ok (good := fun r : Rs D => r = .ok d) ih (noP_ok (fun z => by cases z)) (fun z => by cases z) fn.body _ _ _ _ _ hx
    show callF tb (n + 1) f _ = _
    unfold callF
    rw [e]
    dsimp only
    rw [if_pos ha, h.1]
    cases e2 : evSs (callF tb n) fn.body (ds.map Ent.val ++ List.replicate (fn.names.length - fn.params) .un) with
    | nx ρ =>
      rw [e2] at w
      have w : (if ow f = true then Rs.no else Rs.ok PyData.none) = .ok d := w
      split at w
      · cases w
      · rename_i ho; cases w; rw [if_neg ho]; rfl
    | rt en ρ =>
      rw [e2] at w
      have w : retK (ow f) en = .ok d := w
      unfold retK at w
      cases en with
      | val d' =>
        dsimp only at w
        split at w
        · cases w
        · rename_i ho; cases w; rw [if_neg ho]; rfl
      | own d' =>
        dsimp only at w
        split at w
        · rename_i ho; cases w; rw [if_pos ho]; rfl
        · cases w
      | _ => cases w
    | bk ρ => rw [e2] at w; cases w
    | ct ρ => rw [e2] at w; exact w.elim
    | ex x ρ => rw [e2] at w; cases w
    | no => rw [e2] at w; exact w.elim
  | ex y =>
    have w := kSs_ok (good := fun r : Rs D => r = .ex y) ih (noP_ok (fun z => by cases z)) (fun z => by cases z) fn.body _ _ _ _ _ hx
    show callF tb (n + 1) f _ = _
    unfold callF
    rw [e]
    dsimp only
    rw [if_pos ha, h.1]
    cases e2 : evSs (callF tb n) fn.body (ds.map Ent.val ++ List.replicate (fn.names.length - fn.params) .un) with
    | nx ρ =>
      rw [e2] at w
      have w : (if ow f = true then Rs.no else Rs.ok PyData.none) = .ex y := w
      split at w <;> cases w
    | rt en ρ =>
      rw [e2] at w
      have w : retK (ow f) en = .ex y := w
      unfold retK at w
      cases en <;> dsimp only at w <;> first | cases w | (split at w <;> cases w)
    | bk ρ => rw [e2] at w; cases w
    | ct ρ => rw [e2] at w; exact w.elim
    | ex x ρ =>
      rw [e2] at w
      have w : Rs.ex x = (.ex y : Rs D) := w
      cases w
      rfl
    | no => rw [e2] at w; exact w.elim
  | no => trivial
/-- the law's own call -/
theorem main_ok {tb : Nat → Option Fn} {ow : Nat → Bool} {n f : Nat} {fn : Fn} {cl : Nat → List D → Rs D} {clp : Nat → D → List D → (D → D → Prop) → Prop} {ds : List D} (e : tb f = some fn) (ih : Hcl (callF tb n) cl ow) (ip : Hclp (callF tb n) clp id) (h : fn.io = false ∧ ds.length = fn.params)
    (g : kSs False cl clp ow fn.body (fun _ => False) (fun e => e = .val (.bool true)) (fun _ _ => False) (ds.map .val ++ List.replicate (fn.names.length - fn.params) .un) (fun _ => False)) : ∃ o, callF tb (n + 1) f (ds.map .val) = .ok (.val (.bool true)) o := by
  have ha : (ds.map Ent.val).length = fn.params ∧ argsOk fn.io (ds.map Ent.val) = true := ⟨by rw [List.length_map]; exact h.2, by rw [h.1]; simp [argsOk]⟩
  have w := kSs_ok (good := id) ih ip (fun z => z) fn.body _ _ _ _ _ g
  unfold callF
  rw [e]
  dsimp only
  rw [if_pos ha]
  cases e2 : evSs (callF tb n) fn.body (ds.map Ent.val ++ List.replicate (fn.names.length - fn.params) .un) with
  | rt en ρ =>
    rw [e2] at w
    have w : en = .val (.bool true) := w
    subst w
    exact ⟨_, rfl⟩
  | nx ρ => rw [e2] at w; exact w.elim
  | bk ρ => rw [e2] at w; exact w.elim
  | ct ρ => rw [e2] at w; exact w.elim
  | ex x ρ => rw [e2] at w; exact w.elim
  | no => rw [e2] at w; exact w.elim
end Ev

set_option Elab.async false
set_option linter.all false
set_option maxRecDepth 100000
set_option autoImplicit false
/-! Kev4: what the printed plain texts are made of; links from a def to its plain text. -/
namespace Ev
open PySem L2
section
variable {A : Type}
def klist0 (no : A) (s : List D) (k : A) : A := match s with
  | [] => k
  | _ :: _ => no
@[simp] theorem klist0_ok {no : A} {k : A} : klist0 no [] k = k := rfl
def klist1 (no : A) (s : List D) (k : D → A) : A := match s with
  | d :: s => klist0 no s (k d)
  | [] => no
@[simp] theorem klist1_ok {no : A} {k : D → A} {a0 : D} : klist1 no [a0] k = k a0 := rfl
def klist2 (no : A) (s : List D) (k : D → D → A) : A := match s with
  | d :: s => klist1 no s (k d)
  | [] => no
@[simp] theorem klist2_ok {no : A} {k : D → D → A} {a0 a1 : D} : klist2 no [a0, a1] k = k a0 a1 := rfl
def klist3 (no : A) (s : List D) (k : D → D → D → A) : A := match s with
  | d :: s => klist2 no s (k d)
  | [] => no
@[simp] theorem klist3_ok {no : A} {k : D → D → D → A} {a0 a1 a2 : D} : klist3 no [a0, a1, a2] k = k a0 a1 a2 := rfl
def klist4 (no : A) (s : List D) (k : D → D → D → D → A) : A := match s with
  | d :: s => klist3 no s (k d)
  | [] => no
@[simp] theorem klist4_ok {no : A} {k : D → D → D → D → A} {a0 a1 a2 a3 : D} : klist4 no [a0, a1, a2, a3] k = k a0 a1 a2 a3 := rfl
def klist5 (no : A) (s : List D) (k : D → D → D → D → D → A) : A := match s with
  | d :: s => klist4 no s (k d)
  | [] => no
@[simp] theorem klist5_ok {no : A} {k : D → D → D → D → D → A} {a0 a1 a2 a3 a4 : D} : klist5 no [a0, a1, a2, a3, a4] k = k a0 a1 a2 a3 a4 := rfl
def klist6 (no : A) (s : List D) (k : D → D → D → D → D → D → A) : A := match s with
  | d :: s => klist5 no s (k d)
  | [] => no
@[simp] theorem klist6_ok {no : A} {k : D → D → D → D → D → D → A} {a0 a1 a2 a3 a4 a5 : D} : klist6 no [a0, a1, a2, a3, a4, a5] k = k a0 a1 a2 a3 a4 a5 := rfl
def klist7 (no : A) (s : List D) (k : D → D → D → D → D → D → D → A) : A := match s with
  | d :: s => klist6 no s (k d)
  | [] => no
@[simp] theorem klist7_ok {no : A} {k : D → D → D → D → D → D → D → A} {a0 a1 a2 a3 a4 a5 a6 : D} : klist7 no [a0, a1, a2, a3, a4, a5, a6] k = k a0 a1 a2 a3 a4 a5 a6 := rfl
def klist8 (no : A) (s : List D) (k : D → D → D → D → D → D → D → D → A) : A := match s with
  | d :: s => klist7 no s (k d)
  | [] => no
@[simp] theorem klist8_ok {no : A} {k : D → D → D → D → D → D → D → D → A} {a0 a1 a2 a3 a4 a5 a6 a7 : D} : klist8 no [a0, a1, a2, a3, a4, a5, a6, a7] k = k a0 a1 a2 a3 a4 a5 a6 a7 := rfl
def klist9 (no : A) (s : List D) (k : D → D → D → D → D → D → D → D → D → A) : A := match s with
  | d :: s => klist8 no s (k d)
  | [] => no
@[simp] theorem klist9_ok {no : A} {k : D → D → D → D → D → D → D → D → D → A} {a0 a1 a2 a3 a4 a5 a6 a7 a8 : D} : klist9 no [a0, a1, a2, a3, a4, a5, a6, a7, a8] k = k a0 a1 a2 a3 a4 a5 a6 a7 a8 := rfl
def klist10 (no : A) (s : List D) (k : D → D → D → D → D → D → D → D → D → D → A) : A := match s with
  | d :: s => klist9 no s (k d)
  | [] => no
@[simp] theorem klist10_ok {no : A} {k : D → D → D → D → D → D → D → D → D → D → A} {a0 a1 a2 a3 a4 a5 a6 a7 a8 a9 : D} : klist10 no [a0, a1, a2, a3, a4, a5, a6, a7, a8, a9] k = k a0 a1 a2 a3 a4 a5 a6 a7 a8 a9 := rfl
def klist11 (no : A) (s : List D) (k : D → D → D → D → D → D → D → D → D → D → D → A) : A := match s with
  | d :: s => klist10 no s (k d)
  | [] => no
@[simp] theorem klist11_ok {no : A} {k : D → D → D → D → D → D → D → D → D → D → D → A} {a0 a1 a2 a3 a4 a5 a6 a7 a8 a9 a10 : D} : klist11 no [a0, a1, a2, a3, a4, a5, a6, a7, a8, a9, a10] k = k a0 a1 a2 a3 a4 a5 a6 a7 a8 a9 a10 := rfl
def klist12 (no : A) (s : List D) (k : D → D → D → D → D → D → D → D → D → D → D → D → A) : A := match s with
  | d :: s => klist11 no s (k d)
  | [] => no
@[simp] theorem klist12_ok {no : A} {k : D → D → D → D → D → D → D → D → D → D → D → D → A} {a0 a1 a2 a3 a4 a5 a6 a7 a8 a9 a10 a11 : D} : klist12 no [a0, a1, a2, a3, a4, a5, a6, a7, a8, a9, a10, a11] k = k a0 a1 a2 a3 a4 a5 a6 a7 a8 a9 a10 a11 := rfl
def ktup1 (no : A) (s : D) (k : D → A) : A := ktup no s fun s => klist1 no s k
@[simp] theorem ktup1_ok {no : A} {k : D → A} {a0 : D} : ktup1 no (.tuple [a0]) k = k a0 := rfl
def ktup2 (no : A) (s : D) (k : D → D → A) : A := ktup no s fun s => klist2 no s k
@[simp] theorem ktup2_ok {no : A} {k : D → D → A} {a0 a1 : D} : ktup2 no (.tuple [a0, a1]) k = k a0 a1 := rfl
def ktup3 (no : A) (s : D) (k : D → D → D → A) : A := ktup no s fun s => klist3 no s k
@[simp] theorem ktup3_ok {no : A} {k : D → D → D → A} {a0 a1 a2 : D} : ktup3 no (.tuple [a0, a1, a2]) k = k a0 a1 a2 := rfl
def ktup4 (no : A) (s : D) (k : D → D → D → D → A) : A := ktup no s fun s => klist4 no s k
@[simp] theorem ktup4_ok {no : A} {k : D → D → D → D → A} {a0 a1 a2 a3 : D} : ktup4 no (.tuple [a0, a1, a2, a3]) k = k a0 a1 a2 a3 := rfl
def ktup5 (no : A) (s : D) (k : D → D → D → D → D → A) : A := ktup no s fun s => klist5 no s k
@[simp] theorem ktup5_ok {no : A} {k : D → D → D → D → D → A} {a0 a1 a2 a3 a4 : D} : ktup5 no (.tuple [a0, a1, a2, a3, a4]) k = k a0 a1 a2 a3 a4 := rfl
def ktup6 (no : A) (s : D) (k : D → D → D → D → D → D → A) : A := ktup no s fun s => klist6 no s k
@[simp] theorem ktup6_ok {no : A} {k : D → D → D → D → D → D → A} {a0 a1 a2 a3 a4 a5 : D} : ktup6 no (.tuple [a0, a1, a2, a3, a4, a5]) k = k a0 a1 a2 a3 a4 a5 := rfl
@[simp] theorem kown_list {no : A} {ds : List D} {k : D → A} : kown no (.list ds) k = k (.list ds) := rfl
end
section
variable {tb : Nat → Option Fn} {ow : Nat → Bool} {m f : Nat} {fn : Fn} {cl : Nat → List D → Rs D}
theorem link0 {s : Rs D} (hb : tb f = some fn) (hh : fn.io = false ∧ fn.params = 0) (ih : Hcl (callF tb m) cl ow) (eq : body cl ow fn (ow f) [] = s ) : ∀ ds, Cl (callF tb (m + 1)) ow f ds (u0 s ds) := fun ds => by
  match ds with
  | [] =>
    show Cl (callF tb (m + 1)) ow f [] (s )
    rw [← eq ]
    exact body_ok hb ih ⟨hh.1, by rw [hh.2]; rfl⟩
  | _ :: _ => exact trivial

theorem link1 {s : D → Rs D} (hb : tb f = some fn) (hh : fn.io = false ∧ fn.params = 1) (ih : Hcl (callF tb m) cl ow) (eq : ∀ a0 : D, body cl ow fn (ow f) [a0] = s a0) : ∀ ds, Cl (callF tb (m + 1)) ow f ds (u1 s ds) := fun ds => by
  match ds with
  | [a0] =>
    show Cl (callF tb (m + 1)) ow f [a0] (s a0)
    rw [← eq a0]
    exact body_ok hb ih ⟨hh.1, by rw [hh.2]; rfl⟩
  | [] => exact trivial
  | _ :: _ :: _ => exact trivial
theorem cl0_1 {callR : Nat → List Ent → CRes} : ∀ ds, Cl callR ow f ds (u1 (fun _ => Rs.no) ds) := fun ds => by
  match ds with
  | [] => exact trivial
  | [_] => exact trivial
  | _ :: _ :: _ => exact trivial
theorem link2 {s : D → D → Rs D} (hb : tb f = some fn) (hh : fn.io = false ∧ fn.params = 2) (ih : Hcl (callF tb m) cl ow) (eq : ∀ a0 a1 : D, body cl ow fn (ow f) [a0, a1] = s a0 a1) : ∀ ds, Cl (callF tb (m + 1)) ow f ds (u2 s ds) := fun ds => by
  match ds with
  | [a0, a1] =>
    show Cl (callF tb (m + 1)) ow f [a0, a1] (s a0 a1)
    rw [← eq a0 a1]
    exact body_ok hb ih ⟨hh.1, by rw [hh.2]; rfl⟩
  | [] => exact trivial
  | [_] => exact trivial
  | _ :: _ :: _ :: _ => exact trivial
theorem cl0_2 {callR : Nat → List Ent → CRes} : ∀ ds, Cl callR ow f ds (u2 (fun _ _ => Rs.no) ds) := fun ds => by
  match ds with
  | [] => exact trivial
  | [_] => exact trivial
  | [_, _] => exact trivial
  | _ :: _ :: _ :: _ => exact trivial
theorem link3 {s : D → D → D → Rs D} (hb : tb f = some fn) (hh : fn.io = false ∧ fn.params = 3) (ih : Hcl (callF tb m) cl ow) (eq : ∀ a0 a1 a2 : D, body cl ow fn (ow f) [a0, a1, a2] = s a0 a1 a2) : ∀ ds, Cl (callF tb (m + 1)) ow f ds (u3 s ds) := fun ds => by
  match ds with
  | [a0, a1, a2] =>
    show Cl (callF tb (m + 1)) ow f [a0, a1, a2] (s a0 a1 a2)
    rw [← eq a0 a1 a2]
    exact body_ok hb ih ⟨hh.1, by rw [hh.2]; rfl⟩
  | [] => exact trivial
  | [_] => exact trivial
  | [_, _] => exact trivial
  | _ :: _ :: _ :: _ :: _ => exact trivial
theorem cl0_3 {callR : Nat → List Ent → CRes} : ∀ ds, Cl callR ow f ds (u3 (fun _ _ _ => Rs.no) ds) := fun ds => by
  match ds with
  | [] => exact trivial
  | [_] => exact trivial
  | [_, _] => exact trivial
  | [_, _, _] => exact trivial
  | _ :: _ :: _ :: _ :: _ => exact trivial
theorem link4 {s : D → D → D → D → Rs D} (hb : tb f = some fn) (hh : fn.io = false ∧ fn.params = 4) (ih : Hcl (callF tb m) cl ow) (eq : ∀ a0 a1 a2 a3 : D, body cl ow fn (ow f) [a0, a1, a2, a3] = s a0 a1 a2 a3) : ∀ ds, Cl (callF tb (m + 1)) ow f ds (u4 s ds) := fun ds => by
  match ds with
  | [a0, a1, a2, a3] =>
    show Cl (callF tb (m + 1)) ow f [a0, a1, a2, a3] (s a0 a1 a2 a3)
    rw [← eq a0 a1 a2 a3]
    exact body_ok hb ih ⟨hh.1, by rw [hh.2]; rfl⟩
  | [] => exact trivial
  | [_] => exact trivial
  | [_, _] => exact trivial
  | [_, _, _] => exact trivial
  | _ :: _ :: _ :: _ :: _ :: _ => exact trivial
theorem cl0_4 {callR : Nat → List Ent → CRes} : ∀ ds, Cl callR ow f ds (u4 (fun _ _ _ _ => Rs.no) ds) := fun ds => by
  match ds with
  | [] => exact trivial
  | [_] => exact trivial
  | [_, _] => exact trivial
  | [_, _, _] => exact trivial
  | [_, _, _, _] => exact trivial
  | _ :: _ :: _ :: _ :: _ :: _ => exact trivial
end
end Ev

set_option Elab.async false
set_option linter.all false
set_option maxRecDepth 100000
set_option autoImplicit false
/-! Pw0: what must hold behind a term's run, by rules for simp. -/
namespace Ev
open PySem L2
def optW {α : Type} (o : Option α) (Q : α → Prop) : Prop := match o with
  | some a => Q a
  | none => False
def boolW (d : D) (Q : Bool → Prop) : Prop := match d with
  | .bool b => Q b
  | _ => False
def intW (d : D) (Q : Int → Prop) : Prop := match d with
  | .int b => Q b
  | _ => False
def R.W {α : Type} (r : R α) (Q : α → Rho → Prop) : Prop := match r with
  | .ok a ρ => Q a ρ
  | _ => False
def SRes.W (r : SRes) (N : Rho → Prop) (T : Ent → Rho → Prop) : Prop := match r with
  | .nx ρ => N ρ
  | .rt e ρ => T e ρ
  | _ => False
def CRes.W (r : CRes) (Q : Ent → Option D → Prop) : Prop := match r with
  | .ok e o => Q e o
  | _ => False
section
variable {α β : Type} {Q : α → Rho → Prop} {Qb : β → Rho → Prop} {N : Rho → Prop} {T : Ent → Rho → Prop} {ρ : Rho}
@[simp] theorem optW_some {a : α} {P : α → Prop} : optW (some a) P = P a := rfl
@[simp] theorem optW_none {P : α → Prop} : optW none P = False := rfl
@[simp] theorem optW_ite {c : Prop} [Decidable c] {a b : Option α} {P : α → Prop} : optW (if c then a else b) P = if c then optW a P else optW b P := by split <;> rfl
@[simp] theorem boolW_bool {b : Bool} {P : Bool → Prop} : boolW (.bool b) P = P b := rfl
@[simp] theorem intW_int {b : Int} {P : Int → Prop} : intW (.int b) P = P b := rfl
@[simp] theorem W_ok {a : α} : (R.ok a ρ).W Q = Q a ρ := rfl
@[simp] theorem W_no : (R.no : R α).W Q = False := rfl
@[simp] theorem W_lift {o : Option α} : (R.lift o ρ).W Q = optW o fun a => Q a ρ := by cases o <;> rfl
@[simp] theorem W_bind {r : R α} {f : α → Rho → R β} : (r.bind f).W Qb = r.W fun a ρ => (f a ρ).W Qb := by cases r <;> rfl
@[simp] theorem W_sb {r : R α} {f : α → Rho → SRes} : (r.sb f).W N T = r.W fun a ρ => (f a ρ).W N T := by cases r <;> rfl
@[simp] theorem W_nb {r : SRes} {f : Rho → SRes} : (r.nb f).W N T = r.W (fun ρ => (f ρ).W N T) T := by cases r <;> rfl
@[simp] theorem W_noEx {r : R α} : r.noEx.W Q = r.W Q := by cases r <;> rfl
@[simp] theorem SW_nx : (SRes.nx ρ).W N T = N ρ := rfl
@[simp] theorem SW_rt {e : Ent} : (SRes.rt e ρ).W N T = T e ρ := rfl
@[simp] theorem SW_no : SRes.no.W N T = False := rfl
theorem R.W.imp {r : R α} {Q' : α → Rho → Prop} (h : r.W Q) (i : ∀ a ρ, Q a ρ → Q' a ρ) : r.W Q' := by cases r <;> first | exact i _ _ h | exact h
theorem SRes.W.imp {r : SRes} {N' : Rho → Prop} {T' : Ent → Rho → Prop} (h : r.W N T) (i : ∀ ρ, N ρ → N' ρ) (j : ∀ e ρ, T e ρ → T' e ρ) : r.W N' T' := by cases r <;> first | exact i _ h | exact j _ _ h | exact h
theorem CRes.W.imp {r : CRes} {Q Q' : Ent → Option D → Prop} (h : r.W Q) (i : ∀ e o, Q e o → Q' e o) : r.W Q' := by cases r <;> first | exact i _ _ h | exact h
theorem R.W.ex {r : R α} (h : r.W Q) : ∃ a ρ, r = .ok a ρ ∧ Q a ρ := by cases r <;> first | exact ⟨_, _, rfl, h⟩ | exact h.elim
theorem CRes.W.ex {r : CRes} {Q : Ent → Option D → Prop} (h : r.W Q) : ∃ e o, r = .ok e o ∧ Q e o := by cases r <;> first | exact ⟨_, _, rfl, h⟩ | exact h.elim
theorem SRes.W.ex {r : SRes} (h : r.W N T) : (∃ ρ, r = .nx ρ ∧ N ρ) ∨ ∃ e ρ, r = .rt e ρ ∧ T e ρ := by cases r <;> first | exact .inl ⟨_, rfl, h⟩ | exact .inr ⟨_, _, rfl, h⟩ | exact h.elim
end
/-! ### slots -/
theorem take_val {ρ : Rho} {i : Nat} {d : D} {Q : D → Rho → Prop} (h : ρ[i]? = some (.val d)) : (ρ.take i).W Q = Q d ρ := by unfold Rho.take; rw [h]; rfl
section
variable {cl : Nat → List Ent → CRes} {ρ : Rho} {Q : D → Rho → Prop} {Qs : List D → Rho → Prop} {Qp : Pnd → Rho → Prop} {Qb : Bool → Rho → Prop} {N : Rho → Prop} {T : Ent → Rho → Prop} {e a b c d : E} {es : Es} {i : Nat}
@[simp] theorem W_v : (ev cl (.v i) ρ).W Q = optW ρ[i]? fun en => match en with | .val x => Q x ρ | .own x => Q x (ρ.set i (.val x)) | _ => False := by
  show (ρ.take i).W Q = _
  unfold Rho.take
  cases ρ[i]? with
  | none => rfl
  | some en => cases en <;> rfl
@[simp] theorem W_k {x : D} : (ev cl (.k x) ρ).W Q = Q x ρ := rfl
@[simp] theorem W_g {x : D} : (ev cl (.g x) ρ).W Q = Q x ρ := rfl
@[simp] theorem W_tup : (ev cl (.tup es) ρ).W Q = (evs cl es ρ).W fun ds ρ => ds.length ≤ sizeLine ∧ Q (.tuple ds) ρ := by
  show (R.bind _ _).W Q = _
  rw [W_bind]
  congr; funext ds ρ
  split
  · rename_i h; simp [h]
  · rename_i h; simp only [W_no, h, false_and]
@[simp] theorem W_lst : (ev cl (.lst es) ρ).W Q = (evs cl es ρ).W fun ds ρ => ds.length ≤ sizeLine ∧ Q (.list ds) ρ := by
  show (R.bind _ _).W Q = _
  rw [W_bind]
  congr; funext ds ρ
  split
  · rename_i h; simp [h]
  · rename_i h; simp only [W_no, h, false_and]
@[simp] theorem W_bin {o : Bop} : (ev cl (.bin o a b) ρ).W Q = (opd a (ev cl a) ρ).W fun p ρ => (opd b (ev cl b) ρ).W fun q ρ => optW (p.get ρ) fun x => optW (q.get ρ) fun y => optW (binF o x y) fun z => Q z ρ := by
  show (R.bind _ _).W Q = _
  rw [W_bind]
  congr; funext p ρ
  rw [W_bind]
  congr; funext q ρ
  unfold two
  rw [W_lift]
  cases p.get ρ with
  | none => rfl
  | some x => cases q.get ρ <;> rfl
@[simp] theorem W_cmp {o : Cop} : (ev cl (.cmp o a b) ρ).W Q = (opd a (ev cl a) ρ).W fun p ρ => (opd b (ev cl b) ρ).W fun q ρ => optW (p.get ρ) fun x => optW (q.get ρ) fun y => optW (cmpF o x y) fun z => Q (.bool z) ρ := by
  show (R.bind _ _).W Q = _
  rw [W_bind]
  congr; funext p ρ
  rw [W_bind]
  congr; funext q ρ
  unfold two
  rw [W_lift]
  cases p.get ρ with
  | none => rfl
  | some x => cases q.get ρ with
    | none => rfl
    | some y => show optW ((cmpF o x y).map _) _ = optW (cmpF o x y) _; cases cmpF o x y <;> rfl
@[simp] theorem W_chn {o o' : Cop} : (ev cl (.chn o o' a b c) ρ).W Q = (opd a (ev cl a) ρ).W fun p ρ => (opd b (ev cl b) ρ).W fun q ρ => optW (p.get ρ) fun x => optW (q.get ρ) fun y => optW (cmpF o x y) fun z =>
    if z = true then (opd c (ev cl c) ρ).W fun r ρ => optW (q.get ρ) fun y => optW (r.get ρ) fun u => optW (cmpF o' y u) fun z => Q (.bool z) ρ else Q (.bool false) ρ := by
  show (R.bind _ _).W Q = _
  rw [W_bind]
  congr; funext p ρ
  rw [W_bind]
  congr; funext q ρ
  rw [W_bind]
  unfold two
  rw [W_lift]
  cases p.get ρ with
  | none => rfl
  | some x => cases q.get ρ with
    | none => rfl
    | some y =>
      show optW ((cmpF o x y).map _) _ = optW (cmpF o x y) _
      cases cmpF o x y with
      | none => rfl
      | some z =>
        cases z with
        | false => rfl
        | true =>
          show ((opd c (ev cl c) ρ).bind _).W Q = (opd c (ev cl c) ρ).W _
          rw [W_bind]
          congr; funext r ρ
          rw [W_lift]
          cases q.get ρ with
          | none => rfl
          | some y => cases r.get ρ with
            | none => rfl
            | some u => show optW ((cmpF o' y u).map _) _ = optW (cmpF o' y u) _; cases cmpF o' y u <;> rfl
@[simp] theorem W_and1 : (evAnd cl (.cons e .nil) ρ).W Q = (ev cl e ρ).W Q := rfl
@[simp] theorem W_and2 {r : Es} : (evAnd cl (.cons e (.cons a r)) ρ).W Q = (ev cl e ρ).W fun x ρ => boolW x fun k => if k = true then (evAnd cl (.cons a r) ρ).W Q else Q (.bool false) ρ := by
  show (R.bind _ _).W Q = _
  rw [W_bind]
  congr; funext x ρ
  cases x <;> try rfl
  rename_i k; cases k <;> rfl
@[simp] theorem W_or1 : (evOr cl (.cons e .nil) ρ).W Q = (ev cl e ρ).W Q := rfl
@[simp] theorem W_or2 {r : Es} : (evOr cl (.cons e (.cons a r)) ρ).W Q = (ev cl e ρ).W fun x ρ => boolW x fun k => if k = true then Q (.bool true) ρ else (evOr cl (.cons a r) ρ).W Q := by
  show (R.bind _ _).W Q = _
  rw [W_bind]
  congr; funext x ρ
  cases x <;> try rfl
  rename_i k; cases k <;> rfl
@[simp] theorem W_and : (ev cl (.and_ es) ρ).W Q = (evAnd cl es ρ).W Q := rfl
@[simp] theorem W_or : (ev cl (.or_ es) ρ).W Q = (evOr cl es ρ).W Q := rfl
@[simp] theorem W_not : (ev cl (.not_ e) ρ).W Q = (ev cl e ρ).W fun x ρ => boolW x fun k => Q (.bool (!k)) ρ := by
  show (R.bind _ _).W Q = _
  rw [W_bind]
  congr; funext x ρ
  cases x <;> rfl
@[simp] theorem W_neg : (ev cl (.neg e) ρ).W Q = (ev cl e ρ).W fun x ρ => intW x fun k => Q (.int (-k)) ρ := by
  show (R.bind _ _).W Q = _
  rw [W_bind]
  congr; funext x ρ
  cases x <;> rfl
@[simp] theorem W_isN : (ev cl (.isN e) ρ).W Q = (opd e (ev cl e) ρ).W fun p ρ => optW (p.get ρ) fun x => Q (.bool (isNoneD x)) ρ := by
  show (R.bind _ _).W Q = _
  rw [W_bind]
  congr; funext p ρ
  unfold one
  rw [W_lift]
  cases p.get ρ <;> rfl
@[simp] theorem W_notN : (ev cl (.notN e) ρ).W Q = (opd e (ev cl e) ρ).W fun p ρ => optW (p.get ρ) fun x => Q (.bool (!isNoneD x)) ρ := by
  show (R.bind _ _).W Q = _
  rw [W_bind]
  congr; funext p ρ
  unfold one
  rw [W_lift]
  cases p.get ρ <;> rfl
@[simp] theorem W_ite : (ev cl (.ite c a b) ρ).W Q = (ev cl c ρ).W fun x ρ => boolW x fun k => if k = true then (ev cl a ρ).W Q else (ev cl b ρ).W Q := by
  show (R.bind _ _).W Q = _
  rw [W_bind]
  congr; funext x ρ
  cases x <;> try rfl
  rename_i k; cases k <;> rfl
@[simp] theorem W_idx : (ev cl (.idx a b) ρ).W Q = (opd a (ev cl a) ρ).W fun p ρ => (opd b (ev cl b) ρ).W fun q ρ => optW (p.get ρ) fun x => optW (q.get ρ) fun y => optW (idxF x y) fun z => Q z ρ := by
  show (R.bind _ _).W Q = _
  rw [W_bind]
  congr; funext p ρ
  rw [W_bind]
  congr; funext q ρ
  unfold two
  rw [W_lift]
  cases p.get ρ with
  | none => rfl
  | some x => cases q.get ρ <;> rfl
@[simp] theorem W_p1 {o : P1} : (ev cl (.p1 o e) ρ).W Q = (opd e (ev cl e) ρ).W fun p ρ => optW (p.get ρ) fun x => optW (p1F o x) fun z => Q z ρ := by
  show (R.bind _ _).W Q = _
  rw [W_bind]
  congr; funext p ρ
  unfold one
  rw [W_lift]
  cases p.get ρ <;> rfl
@[simp] theorem W_p2 {o : P2} : (ev cl (.p2 o a b) ρ).W Q = (opd a (ev cl a) ρ).W fun p ρ => (opd b (ev cl b) ρ).W fun q ρ => optW (p.get ρ) fun x => optW (q.get ρ) fun y => optW (p2F o x y) fun z => Q z ρ := by
  show (R.bind _ _).W Q = _
  rw [W_bind]
  congr; funext p ρ
  rw [W_bind]
  congr; funext q ρ
  unfold two
  rw [W_lift]
  cases p.get ρ with
  | none => rfl
  | some x => cases q.get ρ <;> rfl
@[simp] theorem W_isi {t : Ty} : (ev cl (.isi e t) ρ).W Q = (opd e (ev cl e) ρ).W fun p ρ => optW (p.get ρ) fun x => Q (.bool (isTy x t)) ρ := by
  show (R.bind _ _).W Q = _
  rw [W_bind]
  congr; funext p ρ
  unfold one
  rw [W_lift]
  cases p.get ρ <;> rfl
@[simp] theorem W_slc {lo hi : Oe} : (ev cl (.slc e lo hi) ρ).W Q = (opd e (ev cl e) ρ).W fun p ρ => (evI cl lo ρ).W fun l ρ => (evI cl hi ρ).W fun h ρ => optW (p.get ρ) fun x => optW (slcF l h x) fun z => Q z ρ := by
  show (R.bind _ _).W Q = _
  rw [W_bind]
  congr; funext p ρ
  rw [W_bind]
  congr; funext l ρ
  rw [W_bind]
  congr; funext h ρ
  unfold one
  rw [W_lift]
  cases p.get ρ <;> rfl
@[simp] theorem W_rev : (ev cl (.rev e) ρ).W Q = (opd e (ev cl e) ρ).W fun p ρ => optW (p.get ρ) fun x => optW (revF x) fun z => Q z ρ := by
  show (R.bind _ _).W Q = _
  rw [W_bind]
  congr; funext p ρ
  unfold one
  rw [W_lift]
  cases p.get ρ <;> rfl
@[simp] theorem W_m1 {o : M1} : (ev cl (.m1 o a b) ρ).W Q = (ev cl a ρ).W fun x ρ => match x with | .list ds => (ev cl b ρ).W fun y ρ => optW (m1F o (.list ds) y) fun z => Q z ρ | _ => False := by
  show (R.bind _ _).W Q = _
  rw [W_bind]
  congr; funext x ρ
  cases x <;> try rfl
  show (R.bind _ _).W Q = _
  rw [W_bind]
  congr; funext y ρ
  exact W_lift
@[simp] theorem W_I0 {Qi : Option Int → Rho → Prop} : (evI cl .no ρ).W Qi = Qi none ρ := rfl
@[simp] theorem W_I1 {Qi : Option Int → Rho → Prop} : (evI cl (.yes e) ρ).W Qi = (ev cl e ρ).W fun x ρ => intW x fun k => Qi (some k) ρ := by
  show (R.bind _ _).W Qi = _
  rw [W_bind]
  congr; funext x ρ
  cases x <;> rfl
@[simp] theorem W_c0 : (evc cl .no ρ).W Qb = Qb true ρ := rfl
@[simp] theorem W_c1 : (evc cl (.yes e) ρ).W Qb = (ev cl e ρ).W fun x ρ => boolW x fun k => Qb k ρ := by
  show (R.bind _ _).W Qb = _
  rw [W_bind]
  congr; funext x ρ
  cases x <;> rfl
@[simp] theorem W_T : (evT cl e ρ).W Qb = (ev cl e ρ).W fun x ρ => boolW x fun k => Qb k ρ := by
  show (R.bind _ _).W Qb = _
  rw [W_bind]
  congr; funext x ρ
  cases x <;> rfl
@[simp] theorem W_s0 : (evs cl .nil ρ).W Qs = Qs [] ρ := rfl
@[simp] theorem W_s1 {r : Es} : (evs cl (.cons e r) ρ).W Qs = (ev cl e ρ).W fun x ρ => (evs cl r ρ).W fun xs ρ => Qs (x :: xs) ρ := by
  show (R.bind _ _).W Qs = _
  rw [W_bind]
  congr; funext x ρ
  rw [W_bind]
  rfl
theorem W_val {r : CRes} : (r.val ρ).W Q = r.W fun en _ => match en with | .val x => Q x ρ | _ => False := by
  cases r with
  | ok en o => cases en <;> rfl
  | _ => rfl
theorem W_valO {r : CRes} : (r.valO ρ).W Q = r.W fun en _ => match en with | .own x => ownable x = true ∧ Q x ρ | _ => False := by
  cases r with
  | ok en o => cases en <;> first | rfl | (show (if _ then _ else _ : R D).W Q = _; split <;> simp_all [CRes.W])
  | _ => rfl
theorem W_valp {r : CRes} : (r.valp i ρ).W Q = r.W fun en o => match en with | .val x => optW o (fun y => optW (ρ.upd i y) fun ρ' => Q x ρ') | _ => False := by
  cases r with
  | ok en o =>
    cases en with
    | val x =>
      cases o with
      | none => rfl
      | some y =>
        unfold CRes.valp
        dsimp only
        rw [W_bind, W_lift]
        show optW ((ρ.upd i y).map _) _ = optW (ρ.upd i y) _
        cases ρ.upd i y <;> rfl
    | _ => cases o <;> rfl
  | ex x o =>
    cases o with
    | none => rfl
    | some y =>
      unfold CRes.valp
      dsimp only
      cases ρ.upd i y <;> rfl
  | no => rfl
@[simp] theorem W_call {f : Nat} : (ev cl (.call f es) ρ).W Q = (evs cl es ρ).W fun ds ρ => (cl f (ds.map .val)).W fun en _ => match en with | .val x => Q x ρ | _ => False := by
  show (R.bind _ _).W Q = _
  rw [W_bind]
  congr; funext ds ρ
  rw [W_val]
@[simp] theorem W_callo {f : Nat} : (ev cl (.callo f es) ρ).W Q = (evs cl es ρ).W fun ds ρ => (cl f (ds.map .val)).W fun en _ => match en with | .own x => ownable x = true ∧ Q x ρ | _ => False := by
  show (R.bind _ _).W Q = _
  rw [W_bind]
  congr; funext ds ρ
  rw [W_valO]
@[simp] theorem W_callp {f : Nat} : (ev cl (.callp f i es) ρ).W Q = optW (ρ.at i) fun _ => (evs cl es ρ).W fun ds ρ => optW (ρ.mine i) fun xs => (cl f (.io (.list xs) :: ds.map .val)).W fun en o => match en with | .val x => optW o (fun y => optW (ρ.upd i y) fun ρ' => Q x ρ') | _ => False := by
  show (match ρ.at i with
    | none => R.no
    | some _ => (evs cl es ρ).bind fun ds ρ => match ρ.mine i with
      | some d => (cl f (.io (.list d) :: ds.map .val)).valp i ρ
      | none => .no).W Q = _
  cases ρ.at i with
  | none => rfl
  | some _ =>
    show (R.bind _ _).W Q = (evs cl es ρ).W _
    rw [W_bind]
    congr; funext ds ρ
    cases ρ.mine i with
    | none => rfl
    | some xs => exact W_valp
@[simp] theorem W_dct {kvs : List (D × D)} : (ev cl (.dct kvs) ρ).W Q = Q (.dict kvs) ρ := rfl
@[simp] theorem W_popv : (ev cl (.popv i) ρ).W Q = optW (ρ.mine i) fun ds => optW ds.getLast? fun x => optW (ρ.upd i (.list ds.dropLast)) fun ρ' => Q x ρ' := by
  show (match ρ.mine i with
    | some ds => (match ds.getLast? with
      | some d => (R.lift ((ρ.upd i (.list ds.dropLast)).map fun ρ' => (d, ρ')) ρ |>.bind fun p _ => .ok p.1 p.2 : R D)
      | none => .no)
    | none => .no).W Q = _
  cases ρ.mine i with
  | none => rfl
  | some ds =>
    cases h : ds.getLast? with
    | none => simp [h]
    | some x =>
      simp only [h, optW_some, W_bind, W_lift]
      cases ρ.upd i (.list ds.dropLast) <;> rfl
@[simp] theorem W_comp {own : List Nat} {t : Tgt} {it : It} {k : Oe} : (ev cl (.comp own e t it k) ρ).W Q = (evit cl it ρ).W fun xs ρ => (compC own t (evc cl k) (fun ρ => (ev cl e ρ).bind fun d ρ => .ok [d] ρ) xs ρ).W fun zs ρ => Q (.list zs) ρ := by
  show (R.bind _ _).W Q = _
  rw [W_bind]
  congr; funext xs ρ
  rw [W_bind]
  rfl
@[simp] theorem W_ov : (evit cl (.ov e) ρ).W Qs = (ev cl e ρ).W fun x ρ => optW (seqOf x) fun xs => Qs xs ρ := by
  show (R.bind _ _).W Qs = _
  rw [W_bind]
  congr; funext x ρ
  exact W_lift
/-- a range's bound -/
def inR (k : Nat) (j : Int) : Prop := -(2 ^ k) ≤ j ∧ j < 2 ^ k
theorem inR_nat {k j : Nat} (h : j ≤ 100000) (hk : k = 62 ∨ k = 61) : inR k (j : Int) := by
  unfold inR
  rcases hk with rfl | rfl <;> omega
@[simp] theorem W_rng1 : (evit cl (.rng1 e) ρ).W Qs = (ev cl e ρ).W fun x ρ => intW x fun j => inR 62 j ∧ Qs (rngD 0 j.toNat) ρ := by
  show (R.bind _ _).W Qs = _
  rw [W_bind]
  congr; funext x ρ
  rw [W_lift]
  cases x <;> try rfl
  rename_i j
  unfold rngF1 intW inR rOk1
  dsimp only
  by_cases h : (decide (-(2 ^ 62) ≤ j) && decide (j < 2 ^ 62)) = true
  · rw [if_pos h]
    simp only [Bool.and_eq_true, decide_eq_true_eq] at h
    simp only [h, and_self, true_and, optW_some]
  · rw [if_neg h]
    simp only [Bool.and_eq_true, decide_eq_true_eq] at h
    simp only [h, false_and, optW_none]
@[simp] theorem W_rng2 : (evit cl (.rng2 a b) ρ).W Qs = (ev cl a ρ).W fun x ρ => (ev cl b ρ).W fun y ρ => intW x fun i => intW y fun j => (inR 62 i ∧ inR 62 j) ∧ Qs (rngD i (j - i).toNat) ρ := by
  show (R.bind _ _).W Qs = _
  rw [W_bind]
  congr; funext x ρ
  rw [W_bind]
  congr; funext y ρ
  rw [W_lift]
  cases x <;> cases y <;> try rfl
  rename_i i j
  unfold rngF2 intW inR rOk2
  dsimp only
  by_cases h : (decide (-(2 ^ 62) ≤ i) && decide (i < 2 ^ 62) && decide (-(2 ^ 62) ≤ j) && decide (j < 2 ^ 62)) = true
  · rw [if_pos h]
    simp only [Bool.and_eq_true, decide_eq_true_eq] at h
    simp only [h.1.1.1, h.1.1.2, h.1.2, h.2, and_self, true_and, optW_some]
  · rw [if_neg h]
    simp only [Bool.and_eq_true, decide_eq_true_eq] at h
    have h' : ¬ ((-(2 ^ 62) ≤ i ∧ i < 2 ^ 62) ∧ (-(2 ^ 62) ≤ j ∧ j < 2 ^ 62)) := fun z => h ⟨⟨⟨z.1.1, z.1.2⟩, z.2.1⟩, z.2.2⟩
    simp only [h', false_and, optW_none]
@[simp] theorem W_rng3 : (evit cl (.rng3 a b c) ρ).W Qs = (ev cl a ρ).W fun x ρ => (ev cl b ρ).W fun y ρ => (ev cl c ρ).W fun z ρ => intW x fun i => intW y fun j => intW z fun k => (k = -1 ∧ inR 61 i ∧ inR 61 j ∧ (i - j).toNat < 1073741824) ∧ Qs ((List.range (i - j).toNat).map fun n => .int (i - (n : Nat))) ρ := by
  show (R.bind _ _).W Qs = _
  rw [W_bind]
  congr; funext x ρ
  rw [W_bind]
  congr; funext y ρ
  rw [W_bind]
  congr; funext z ρ
  rw [W_lift]
  cases x <;> cases y <;> cases z <;> try rfl
  rename_i i j k
  unfold rngF3 intW inR rOk3
  dsimp only
  by_cases h : (decide (k = -1) && decide (-(2 ^ 61) ≤ i) && decide (i < 2 ^ 61) && decide (-(2 ^ 61) ≤ j) && decide (j < 2 ^ 61) && decide ((i - j).toNat < 2 ^ 30)) = true
  · rw [if_pos h]
    simp only [Bool.and_eq_true, decide_eq_true_eq] at h
    obtain ⟨⟨⟨⟨⟨h1, h2⟩, h3⟩, h4⟩, h5⟩, h6⟩ := h
    have h6 : (i - j).toNat < 1073741824 := h6
    simp only [h1, h2, h3, h4, h5, h6, and_self, true_and, optW_some]
  · rw [if_neg h]
    simp only [Bool.and_eq_true, decide_eq_true_eq] at h
    have h' : ¬ (k = -1 ∧ (-(2 ^ 61) ≤ i ∧ i < 2 ^ 61) ∧ (-(2 ^ 61) ≤ j ∧ j < 2 ^ 61) ∧ (i - j).toNat < 1073741824) := fun z => h ⟨⟨⟨⟨⟨z.1, z.2.1.1⟩, z.2.1.2⟩, z.2.2.1.1⟩, z.2.2.1.2⟩, z.2.2.2⟩
    simp only [h', false_and, optW_none]
@[simp] theorem W_zip : (evit cl (.zip a b) ρ).W Qs = (ev cl a ρ).W fun x ρ => (ev cl b ρ).W fun y ρ => optW (zipF x y) fun xs => Qs xs ρ := by
  show (R.bind _ _).W Qs = _
  rw [W_bind]
  congr; funext x ρ
  rw [W_bind]
  congr; funext y ρ
  exact W_lift
@[simp] theorem W_rvs : (evit cl (.rvs e) ρ).W Qs = (ev cl e ρ).W fun x ρ => optW (seqOf x) fun xs => Qs xs.reverse ρ := by
  show (R.bind _ _).W Qs = _
  rw [W_bind]
  congr; funext x ρ
  rw [W_lift]
  cases seqOf x <;> rfl
/-! ### operands -/
@[simp] theorem W_opdv {f : Rho → R D} : (opd (.v i) f ρ).W Qp = optW (ρ.at i) fun _ => Qp (.at i) ρ := by
  show (match ρ.at i with | some _ => R.ok (Pnd.at i) ρ | none => R.no).W Qp = _
  cases ρ.at i <;> rfl
@[simp] def notV : E → Bool
  | .v _ => false
  | _ => true
theorem W_opd {f : Rho → R D} (h : notV e = true) : (opd e f ρ).W Qp = (f ρ).W fun d ρ => Qp (.got d) ρ := by
  have : opd e f ρ = (f ρ).bind fun d ρ => .ok (.got d) ρ := by cases e <;> first | rfl | cases h
  rw [this, W_bind]
  rfl
@[simp] theorem W_opd_k {x : D} {f : Rho → R D} : (opd (.k x) f ρ).W Qp = (f ρ).W fun d ρ => Qp (.got d) ρ := W_opd rfl
@[simp] theorem W_opd_g {x : D} {f : Rho → R D} : (opd (.g x) f ρ).W Qp = (f ρ).W fun d ρ => Qp (.got d) ρ := W_opd rfl
@[simp] theorem W_opd_tup  {f : Rho → R D} : (opd (.tup es) f ρ).W Qp = (f ρ).W fun d ρ => Qp (.got d) ρ := W_opd rfl
@[simp] theorem W_opd_lst  {f : Rho → R D} : (opd (.lst es) f ρ).W Qp = (f ρ).W fun d ρ => Qp (.got d) ρ := W_opd rfl
@[simp] theorem W_opd_bin {o : Bop} {f : Rho → R D} : (opd (.bin o a b) f ρ).W Qp = (f ρ).W fun d ρ => Qp (.got d) ρ := W_opd rfl
@[simp] theorem W_opd_cmp {o : Cop} {f : Rho → R D} : (opd (.cmp o a b) f ρ).W Qp = (f ρ).W fun d ρ => Qp (.got d) ρ := W_opd rfl
@[simp] theorem W_opd_chn {o o' : Cop} {f : Rho → R D} : (opd (.chn o o' a b c) f ρ).W Qp = (f ρ).W fun d ρ => Qp (.got d) ρ := W_opd rfl
@[simp] theorem W_opd_and_  {f : Rho → R D} : (opd (.and_ es) f ρ).W Qp = (f ρ).W fun d ρ => Qp (.got d) ρ := W_opd rfl
@[simp] theorem W_opd_or_  {f : Rho → R D} : (opd (.or_ es) f ρ).W Qp = (f ρ).W fun d ρ => Qp (.got d) ρ := W_opd rfl
@[simp] theorem W_opd_not_  {f : Rho → R D} : (opd (.not_ a) f ρ).W Qp = (f ρ).W fun d ρ => Qp (.got d) ρ := W_opd rfl
@[simp] theorem W_opd_neg  {f : Rho → R D} : (opd (.neg a) f ρ).W Qp = (f ρ).W fun d ρ => Qp (.got d) ρ := W_opd rfl
@[simp] theorem W_opd_isN  {f : Rho → R D} : (opd (.isN a) f ρ).W Qp = (f ρ).W fun d ρ => Qp (.got d) ρ := W_opd rfl
@[simp] theorem W_opd_notN  {f : Rho → R D} : (opd (.notN a) f ρ).W Qp = (f ρ).W fun d ρ => Qp (.got d) ρ := W_opd rfl
@[simp] theorem W_opd_ite  {f : Rho → R D} : (opd (.ite a b c) f ρ).W Qp = (f ρ).W fun d ρ => Qp (.got d) ρ := W_opd rfl
@[simp] theorem W_opd_idx  {f : Rho → R D} : (opd (.idx a b) f ρ).W Qp = (f ρ).W fun d ρ => Qp (.got d) ρ := W_opd rfl
@[simp] theorem W_opd_slc {lo hi : Oe} {f : Rho → R D} : (opd (.slc a lo hi) f ρ).W Qp = (f ρ).W fun d ρ => Qp (.got d) ρ := W_opd rfl
@[simp] theorem W_opd_rev  {f : Rho → R D} : (opd (.rev a) f ρ).W Qp = (f ρ).W fun d ρ => Qp (.got d) ρ := W_opd rfl
@[simp] theorem W_opd_call {n : Nat} {f : Rho → R D} : (opd (.call n es) f ρ).W Qp = (f ρ).W fun d ρ => Qp (.got d) ρ := W_opd rfl
@[simp] theorem W_opd_callp {n : Nat} {f : Rho → R D} : (opd (.callp n i es) f ρ).W Qp = (f ρ).W fun d ρ => Qp (.got d) ρ := W_opd rfl
@[simp] theorem W_opd_callo {n : Nat} {f : Rho → R D} : (opd (.callo n es) f ρ).W Qp = (f ρ).W fun d ρ => Qp (.got d) ρ := W_opd rfl
@[simp] theorem W_opd_p1 {o : P1} {f : Rho → R D} : (opd (.p1 o a) f ρ).W Qp = (f ρ).W fun d ρ => Qp (.got d) ρ := W_opd rfl
@[simp] theorem W_opd_p2 {o : P2} {f : Rho → R D} : (opd (.p2 o a b) f ρ).W Qp = (f ρ).W fun d ρ => Qp (.got d) ρ := W_opd rfl
@[simp] theorem W_opd_isi {t : Ty} {f : Rho → R D} : (opd (.isi a t) f ρ).W Qp = (f ρ).W fun d ρ => Qp (.got d) ρ := W_opd rfl
@[simp] theorem W_opd_m1 {o : M1} {f : Rho → R D} : (opd (.m1 o a b) f ρ).W Qp = (f ρ).W fun d ρ => Qp (.got d) ρ := W_opd rfl
@[simp] theorem W_opd_popv  {f : Rho → R D} : (opd (.popv i) f ρ).W Qp = (f ρ).W fun d ρ => Qp (.got d) ρ := W_opd rfl
@[simp] theorem W_opd_comp {own : List Nat} {t : Tgt} {it : It} {k : Oe} {f : Rho → R D} : (opd (.comp own a t it k) f ρ).W Qp = (f ρ).W fun d ρ => Qp (.got d) ρ := W_opd rfl
@[simp] theorem W_opd_dct {kvs : List (D × D)} {f : Rho → R D} : (opd (.dct kvs) f ρ).W Qp = (f ρ).W fun d ρ => Qp (.got d) ρ := W_opd rfl
@[simp] theorem get_got {d : D} : (Pnd.got d).get ρ = some d := rfl
@[simp] theorem get_at : (Pnd.at i).get ρ = ρ.at i := rfl
/-! ### statements -/
variable {s : S} {ss : Ss} {x : D}
@[simp] theorem W_nil : (evSs cl .nil ρ).W N T = N ρ := rfl
@[simp] theorem W_cons {r : Ss} : (evSs cl (.cons s r) ρ).W N T = (evS cl s ρ).W (fun ρ => (evSs cl r ρ).W N T) T := by
  show (SRes.nb _ _).W N T = _
  rw [W_nb]
theorem SW_put {o : Option Rho} : (match o with | some ρ' => SRes.nx ρ' | none => .no).W N T = optW o N := by cases o <;> rfl
@[simp] theorem W_asg : (evS cl (.asg i e) ρ).W N T = (ev cl e ρ).W fun d ρ => optW (ρ.put i (.val d)) N := by
  show (R.sb _ _).W N T = _
  rw [W_sb]
  congr; funext d ρ
  exact SW_put
@[simp] theorem W_new : (evS cl (.new i e) ρ).W N T = (ev cl e ρ).W fun d ρ => ownable d = true ∧ optW (ρ.put i (.own d)) N := by
  show (R.sb _ _).W N T = _
  rw [W_sb]
  congr; funext d ρ
  split
  · rename_i h; cases ρ.put i (.own d) <;> simp [h]
  · rename_i h; simp [h]
@[simp] theorem W_asgT {is : List Nat} : (evS cl (.asgT is e) ρ).W N T = (ev cl e ρ).W fun d ρ => optW ((Tgt.tup is).set d ρ) N := by
  show (R.sb _ _).W N T = _
  rw [W_sb]
  congr; funext d ρ
  exact SW_put
@[simp] theorem W_par {is : List Nat} : (evS cl (.par is es) ρ).W N T = (evs cl es ρ).W fun ds ρ => optW (putAll is ds ρ) N := by
  show (R.sb _ _).W N T = _
  rw [W_sb]
  congr; funext d ρ
  exact SW_put
@[simp] theorem W_aug {o : Bop} : (evS cl (.aug i o e) ρ).W N T = optW (ρ.at i) fun _ => (ev cl e ρ).W fun y ρ => optW ρ[i]? fun en => match en with | .val x => optW (augF o x y) (fun d => N (ρ.set i (.val d))) | _ => False := by
  show (match ρ.at i with
    | none => SRes.no
    | some _ => (ev cl e ρ).sb fun y ρ => match (ρ.at i).bind fun x => augF o x y with
      | some d => (match ρ[i]? with
        | some (.val _) => .nx (ρ.set i (.val d))
        | _ => .no)
      | none => .no).W N T = _
  cases ρ.at i with
  | none => rfl
  | some _ =>
    show (R.sb _ _).W N T = (ev cl e ρ).W _
    rw [W_sb]
    congr; funext y ρ
    unfold Rho.at
    cases ρ[i]? with
    | none => rfl
    | some en =>
      cases en with
      | val x => show (match augF o x y with | some d => _ | none => _ : SRes).W N T = optW (augF o x y) _; cases augF o x y <;> rfl
      | un => rfl
      | own x => show (match augF o x y with | some d => _ | none => _ : SRes).W N T = False; cases augF o x y <;> rfl
      | io x => show (match augF o x y with | some d => _ | none => _ : SRes).W N T = False; cases augF o x y <;> rfl
@[simp] theorem W_storeAt {n y : D} : (storeAt i n y ρ).W N T = intW n fun n => optW (ρ.mine i) fun ds => optW (ixN ds.length n) fun j => optW (ρ.upd i (.list (ds.set j y))) N := by
  cases n <;> try rfl
  rename_i n
  show (match (ρ.mine i).bind fun ds => (ixN ds.length n).bind fun j => ρ.upd i (.list (ds.set j y)) with | some ρ' => SRes.nx ρ' | none => .no).W N T = _
  rw [SW_put]
  cases ρ.mine i with
  | none => rfl
  | some ds => show optW ((ixN ds.length n).bind _) _ = optW (ixN ds.length n) _; cases ixN ds.length n <;> rfl
@[simp] theorem W_sub {k : E} : (evS cl (.sub i k e) ρ).W N T = optW (ρ.mine i) fun _ => (ev cl e ρ).W fun y ρ => (ev cl k ρ).W fun x ρ => (storeAt i x y ρ).W N T := by
  show (match ρ.mine i with
    | none => SRes.no
    | some _ => (ev cl e ρ).sb fun y ρ => (ev cl k ρ).sb fun x ρ => storeAt i x y ρ).W N T = _
  cases ρ.mine i with
  | none => rfl
  | some _ =>
    show (R.sb _ _).W N T = (ev cl e ρ).W _
    rw [W_sb]
    congr; funext y ρ
    rw [W_sb]
@[simp] theorem W_app : (evS cl (.app i e) ρ).W N T = optW (ρ.mine i) fun _ => (ev cl e ρ).W fun y ρ => optW (ρ.mine i) fun ds => ds.length < sizeLine ∧ optW (ρ.upd i (.list (ds ++ [y]))) N := by
  show (match ρ.mine i with
    | none => SRes.no
    | some _ => (ev cl e ρ).sb fun y ρ => match (ρ.mine i).bind fun ds => if ds.length < sizeLine then ρ.upd i (.list (ds ++ [y])) else none with | some ρ' => .nx ρ' | none => .no).W N T = _
  cases ρ.mine i with
  | none => rfl
  | some _ =>
    show (R.sb _ _).W N T = (ev cl e ρ).W _
    rw [W_sb]
    congr; funext y ρ
    rw [SW_put]
    cases ρ.mine i with
    | none => rfl
    | some ds =>
      show optW (if ds.length < sizeLine then _ else _) N = (ds.length < sizeLine ∧ _)
      by_cases h : ds.length < sizeLine
      · rw [if_pos h]; simp only [h, true_and]
      · rw [if_neg h]; simp only [h, false_and, optW_none]
@[simp] theorem W_drop : (evS cl (.drop e) ρ).W N T = (ev cl e ρ).W fun _ ρ => N ρ := by
  show (R.sb _ _).W N T = _
  rw [W_sb]
  rfl
@[simp] theorem W_ret : (evS cl (.ret e) ρ).W N T = (ev cl e ρ).W fun d ρ => T (.val d) ρ := by
  show (R.sb _ _).W N T = _
  rw [W_sb]
  rfl
@[simp] theorem W_retO : (evS cl (.retO e) ρ).W N T = (ev cl e ρ).W fun d ρ => ownable d = true ∧ T (.own d) ρ := by
  show (R.sb _ _).W N T = _
  rw [W_sb]
  congr; funext d ρ
  split <;> simp_all
@[simp] theorem W_if {u v : Ss} : (evS cl (.if_ c u v) ρ).W N T = (ev cl c ρ).W fun x ρ => boolW x fun k => if k = true then (evSs cl u ρ).W N T else (evSs cl v ρ).W N T := by
  show (R.sb _ _).W N T = _
  rw [W_sb, W_T]
  congr; funext x ρ
  cases x <;> try rfl
  rename_i k; cases k <;> rfl
@[simp] theorem W_for {t : Tgt} {it : It} : (evS cl (.for_ t it ss) ρ).W N T = (evit cl it ρ).W fun xs ρ => (loopF t (evSs cl ss) xs ρ).W N T := by
  show (R.sb _ _).W N T = _
  rw [W_sb]
@[simp] theorem W_swap : (evS cl (.swap i a b es) ρ).W N T = optW (ρ.mine i) fun _ => (ev cl (.tup es) ρ).W fun d ρ => match d with
    | .tuple [x, y] => (ev cl a ρ).W fun n ρ => (storeAt i n x ρ).W (fun ρ => optW (ρ.mine i) fun _ => (ev cl b ρ).W fun m ρ => (storeAt i m y ρ).W N T) T
    | _ => False := by
  show (match ρ.mine i with
    | none => SRes.no
    | some _ => (ev cl (.tup es) ρ).sb fun d ρ => match d with
      | .tuple [x, y] => (ev cl a ρ).sb fun n ρ => (storeAt i n x ρ).nb fun ρ => match ρ.mine i with
        | none => .no
        | some _ => (ev cl b ρ).sb fun m ρ => storeAt i m y ρ
      | _ => .no).W N T = _
  cases ρ.mine i with
  | none => rfl
  | some _ =>
    show (R.sb _ _).W N T = (ev cl (.tup es) ρ).W _
    rw [W_sb]
    congr; funext d ρ
    split
    · rw [W_sb]
      congr; funext n ρ
      rw [W_nb]
      congr; funext ρ
      cases ρ.mine i with
      | none => rfl
      | some _ => show (R.sb _ _).W N T = (ev cl b ρ).W _; rw [W_sb]
    · rfl
end
/-! ### what simp may compute -/
section
variable {e : Ent} {r : Rho} {i : Nat} {d : D} {ds : List D}
@[simp] theorem at0 : Rho.at (e :: r) 0 = e.got := rfl
@[simp] theorem atS : Rho.at (e :: r) (i + 1) = Rho.at r i := rfl
@[simp] theorem got_val : (Ent.val d).got = some d := rfl
@[simp] theorem got_own : (Ent.own d).got = some d := rfl
@[simp] theorem got_io : (Ent.io d).got = some d := rfl
@[simp] theorem got_un : Ent.un.got = none := rfl
@[simp] theorem put0_val {x : D} {e' : Ent} : Rho.put (.val x :: r) 0 e' = some (e' :: r) := rfl
@[simp] theorem put0_own {x : D} {e' : Ent} : Rho.put (.own x :: r) 0 e' = some (e' :: r) := rfl
@[simp] theorem put0_un {e' : Ent} : Rho.put (.un :: r) 0 e' = some (e' :: r) := rfl
@[simp] theorem putS {e' : Ent} : Rho.put (e :: r) (i + 1) e' = (Rho.put r i e').map (e :: ·) := by
  unfold Rho.put
  rw [List.getElem?_cons_succ]
  cases r[i]? with
  | none => rfl
  | some en => cases en <;> rfl
@[simp] theorem upd0_own {x y : D} : Rho.upd (.own x :: r) 0 y = some (.own y :: r) := rfl
@[simp] theorem upd0_io {x y : D} : Rho.upd (.io x :: r) 0 y = some (.io y :: r) := rfl
@[simp] theorem updS {y : D} : Rho.upd (e :: r) (i + 1) y = (Rho.upd r i y).map (e :: ·) := by
  unfold Rho.upd
  rw [List.getElem?_cons_succ]
  cases r[i]? with
  | none => rfl
  | some en => cases en <;> rfl
@[simp] theorem mine0_own : Rho.mine (.own (.list ds) :: r) 0 = some ds := rfl
@[simp] theorem mine0_io : Rho.mine (.io (.list ds) :: r) 0 = some ds := rfl
@[simp] theorem mineS : Rho.mine (e :: r) (i + 1) = Rho.mine r i := by
  unfold Rho.mine
  rw [List.getElem?_cons_succ]
@[simp] theorem ioOf_io : ioOf (.io d :: r) true = some d := rfl
@[simp] theorem ioOf_no : ioOf r false = none := rfl
@[simp] theorem tset1 {x : D} : Tgt.set (.one i) x r = Rho.put r i (.val x) := rfl
@[simp] theorem tsetT {is : List Nat} : Tgt.set (.tup is) (.tuple ds) r = putAll is ds r := rfl
@[simp] theorem putAll0 : putAll [] [] r = some r := rfl
@[simp] theorem putAll1 {is : List Nat} : putAll (i :: is) (d :: ds) r = (r.put i (.val d)).bind (putAll is ds) := rfl
@[simp] theorem optW_map {α β : Type} {o : Option α} {f : α → β} {P : β → Prop} : optW (o.map f) P = optW o fun a => P (f a) := by cases o <;> rfl
@[simp] theorem optW_bind {α β : Type} {o : Option α} {f : α → Option β} {P : β → Prop} : optW (o.bind f) P = optW o fun a => optW (f a) P := by cases o <;> rfl
variable {a b : Int}
@[simp] theorem b_add : binF .add (.int a) (.int b) = some (.int (a + b)) := rfl
@[simp] theorem b_sub : binF .sub (.int a) (.int b) = some (.int (a - b)) := rfl
@[simp] theorem b_mul : binF .mul (.int a) (.int b) = if mulOk a b = true then some (.int (a * b)) else none := rfl
@[simp] theorem b_fdiv : binF .fdiv (.int a) (.int b) = if decide (0 < b) && (decide (b < 1073741824) || divOk b) then some (.int (a / b)) else none := rfl
theorem divOk_lt {b : Int} (h : b < 2 ^ 200) : divOk b = true := by
  unfold divOk
  simpa using h
@[simp] theorem b_mod : binF .mod (.int a) (.int b) = if 0 < b then some (.int (a % b)) else none := rfl
@[simp] theorem b_addT {x y : List D} : binF .add (.tuple x) (.tuple y) = if x.length + y.length ≤ sizeLine then some (.tuple (x ++ y)) else none := rfl
@[simp] theorem b_addL {x y : List D} : binF .add (.list x) (.list y) = if x.length + y.length ≤ sizeLine then some (.list (x ++ y)) else none := rfl
@[simp] theorem b_addS {x y : Str} : binF .add (.str x) (.str y) = if x.length + y.length ≤ sizeLine then some (.str (x ++ y)) else none := rfl
@[simp] theorem b_mulT {x : List D} {k : Int} : binF .mul (.tuple x) (.int k) = if mulT k x.length = true then some (.tuple (List.replicate k.toNat x).flatten) else none := rfl
theorem mulT_ok {k : Int} {n : Nat} (h0 : -100000 ≤ k) (h1 : k ≤ 1000) (h2 : n ≤ 1000) : mulT k n = true := by
  unfold mulT
  simp only [Bool.and_eq_true, decide_eq_true_eq]
  omega
@[simp] theorem b_mulL {x : List D} {k : Int} : binF .mul (.list x) (.int k) = if mulL k x.length = true then some (.list (List.replicate k.toNat x).flatten) else none := rfl
theorem mulL_ok {k : Int} {n : Nat} (h0 : -100000 ≤ k) (h1 : k ≤ 100000) (h2 : n * k.toNat ≤ 100000) : mulL k n = true := by
  unfold mulL
  simp only [Bool.and_eq_true, decide_eq_true_eq]
  have : (100000 : Nat) ≤ sizeLine := by decide
  omega
@[simp] theorem a_add : augF .add (.int a) (.int b) = some (.int (a + b)) := rfl
@[simp] theorem a_sub : augF .sub (.int a) (.int b) = some (.int (a - b)) := rfl
@[simp] theorem a_addT {x y : List D} : augF .add (.tuple x) (.tuple y) = if x.length + y.length ≤ sizeLine then some (.tuple (x ++ y)) else none := rfl
@[simp] theorem c_lt : cmpF .lt (.int a) (.int b) = some (decide (a < b)) := rfl
@[simp] theorem c_le : cmpF .le (.int a) (.int b) = some (decide (a ≤ b)) := rfl
@[simp] theorem c_gt : cmpF .gt (.int a) (.int b) = some (decide (b < a)) := rfl
@[simp] theorem c_ge : cmpF .ge (.int a) (.int b) = some (decide (b ≤ a)) := rfl
@[simp] theorem c_eq : cmpF .eq (.int a) (.int b) = some (decide (a = b)) := rfl
@[simp] theorem c_ne : cmpF .ne (.int a) (.int b) = some (!decide (a = b)) := rfl
@[simp] theorem ix_l {k : Int} : idxF (.list ds) (.int k) = atI ds k := rfl
@[simp] theorem ix_t {k : Int} : idxF (.tuple ds) (.int k) = atI ds k := rfl
@[simp] theorem len_l : p1F .len (.list ds) = some (.int ds.length) := rfl
@[simp] theorem len_t : p1F .len (.tuple ds) = some (.int ds.length) := rfl
@[simp] theorem int_i : p1F .int (.int a) = some (.int a) := rfl
@[simp] theorem tuple_l : p1F .tuple (.list ds) = some (.tuple ds) := rfl
@[simp] theorem tuple_t : p1F .tuple (.tuple ds) = some (.tuple ds) := rfl
@[simp] theorem list_l : p1F .list (.list ds) = some (.list ds) := rfl
@[simp] theorem list_t : p1F .list (.tuple ds) = some (.list ds) := rfl
@[simp] theorem slc_l {lo hi : Option Int} : slcF lo hi (.list ds) = some (.list (cutD ds lo hi)) := rfl
@[simp] theorem slc_t {lo hi : Option Int} : slcF lo hi (.tuple ds) = some (.tuple (cutD ds lo hi)) := rfl
@[simp] theorem rev_l : revF (.list ds) = some (.list ds.reverse) := rfl
@[simp] theorem rev_t : revF (.tuple ds) = some (.tuple ds.reverse) := rfl
theorem setLen_i {ns : List Int} (h : ns.length ≤ 1000) : p1F .setLen (.tuple (ns.map .int)) = some (.int ns.eraseDups.length) := by
  have : toInts (ns.map PyData.int) = some ns := by
    induction ns with
    | nil => rfl
    | cons n ns ih => show (toInts (ns.map PyData.int)).map (n :: ·) = _; rw [ih (by simp at h; omega)]; rfl
  simp only [p1F, this, Option.bind_some, if_pos h]
@[simp] theorem tupRev_l : p1F .tupRev (.list ds) = some (.tuple ds.reverse) := rfl
@[simp] theorem seq_l : seqOf (.list ds) = some ds := rfl
@[simp] theorem seq_t : seqOf (.tuple ds) = some ds := rfl
@[simp] theorem own_l : ownable (.list ds) = true := rfl
theorem ixN_nat {n j : Nat} (h : j < n) : ixN n (j : Int) = some j := by
  unfold ixN
  rw [if_pos (by omega), if_pos (by omega)]
  simp
theorem atI_lt {α : Type} {xs : List α} {j : Nat} (h : j < xs.length) : atI xs (j : Int) = some xs[j] := atI_nat (List.getElem?_eq_getElem h)
theorem atI_pos {α : Type} {xs : List α} {k : Int} (h0 : 0 ≤ k) (h : k < xs.length) : ∃ x, atI xs k = some x ∧ xs[k.toNat]? = some x := by
  have e : k = (k.toNat : Int) := by omega
  have l : k.toNat < xs.length := by omega
  refine ⟨xs[k.toNat], ?_, List.getElem?_eq_getElem l⟩
  have q := atI_lt l
  rwa [← e] at q
end
section
variable {b : Bool} {i : Int} {z : Str} {ds : List D} {kvs : List (D × D)}
@[simp] theorem ty_none_int : isTy .none .int = false := rfl
@[simp] theorem ty_none_bool : isTy .none .bool = false := rfl
@[simp] theorem ty_none_str : isTy .none .str = false := rfl
@[simp] theorem ty_none_tuple : isTy .none .tuple = false := rfl
@[simp] theorem ty_none_list : isTy .none .list = false := rfl
@[simp] theorem ty_none_dict : isTy .none .dict = false := rfl
@[simp] theorem ty_bool_int : isTy (.bool b) .int = true := rfl
@[simp] theorem ty_bool_bool : isTy (.bool b) .bool = true := rfl
@[simp] theorem ty_bool_str : isTy (.bool b) .str = false := rfl
@[simp] theorem ty_bool_tuple : isTy (.bool b) .tuple = false := rfl
@[simp] theorem ty_bool_list : isTy (.bool b) .list = false := rfl
@[simp] theorem ty_bool_dict : isTy (.bool b) .dict = false := rfl
@[simp] theorem ty_int_int : isTy (.int i) .int = true := rfl
@[simp] theorem ty_int_bool : isTy (.int i) .bool = false := rfl
@[simp] theorem ty_int_str : isTy (.int i) .str = false := rfl
@[simp] theorem ty_int_tuple : isTy (.int i) .tuple = false := rfl
@[simp] theorem ty_int_list : isTy (.int i) .list = false := rfl
@[simp] theorem ty_int_dict : isTy (.int i) .dict = false := rfl
@[simp] theorem ty_str_int : isTy (.str z) .int = false := rfl
@[simp] theorem ty_str_bool : isTy (.str z) .bool = false := rfl
@[simp] theorem ty_str_str : isTy (.str z) .str = true := rfl
@[simp] theorem ty_str_tuple : isTy (.str z) .tuple = false := rfl
@[simp] theorem ty_str_list : isTy (.str z) .list = false := rfl
@[simp] theorem ty_str_dict : isTy (.str z) .dict = false := rfl
@[simp] theorem ty_list_int : isTy (.list ds) .int = false := rfl
@[simp] theorem ty_list_bool : isTy (.list ds) .bool = false := rfl
@[simp] theorem ty_list_str : isTy (.list ds) .str = false := rfl
@[simp] theorem ty_list_tuple : isTy (.list ds) .tuple = false := rfl
@[simp] theorem ty_list_list : isTy (.list ds) .list = true := rfl
@[simp] theorem ty_list_dict : isTy (.list ds) .dict = false := rfl
@[simp] theorem ty_tuple_int : isTy (.tuple ds) .int = false := rfl
@[simp] theorem ty_tuple_bool : isTy (.tuple ds) .bool = false := rfl
@[simp] theorem ty_tuple_str : isTy (.tuple ds) .str = false := rfl
@[simp] theorem ty_tuple_tuple : isTy (.tuple ds) .tuple = true := rfl
@[simp] theorem ty_tuple_list : isTy (.tuple ds) .list = false := rfl
@[simp] theorem ty_tuple_dict : isTy (.tuple ds) .dict = false := rfl
@[simp] theorem ty_dict_int : isTy (.dict kvs) .int = false := rfl
@[simp] theorem ty_dict_bool : isTy (.dict kvs) .bool = false := rfl
@[simp] theorem ty_dict_str : isTy (.dict kvs) .str = false := rfl
@[simp] theorem ty_dict_tuple : isTy (.dict kvs) .tuple = false := rfl
@[simp] theorem ty_dict_list : isTy (.dict kvs) .list = false := rfl
@[simp] theorem ty_dict_dict : isTy (.dict kvs) .dict = true := rfl
end
/-! ### loops, calls -/
section
variable {cl : Nat → List Ent → CRes} {N : Rho → Prop} {T : Ent → Rho → Prop}
theorem loopF_W {t : Tgt} {b : Rho → SRes} (Inv : List D → Rho → Prop) : ∀ {xs : List D} {ρ : Rho}, Inv xs ρ → (∀ x xs ρ, Inv (x :: xs) ρ → optW (t.set x ρ) fun ρ1 => (b ρ1).W (Inv xs) T) → (∀ ρ, Inv [] ρ → N ρ) → (loopF t b xs ρ).W N T
  | [], ρ, h, _, f => f ρ h
  | x :: xs, ρ, h, s, f => by
    have q := s x xs ρ h
    unfold loopF
    cases e : t.set x ρ with
    | none => rw [e] at q; exact q.elim
    | some ρ1 =>
      rw [e] at q
      have q : (b ρ1).W (Inv xs) T := q
      show (match b ρ1 with
        | .nx ρ2 => loopF t b xs ρ2
        | .ct ρ2 => loopF t b xs ρ2
        | .bk ρ2 => .nx ρ2
        | .rt e ρ2 => .rt e ρ2
        | .ex x ρ2 => .ex x ρ2
        | .no => .no).W N T
      cases e2 : b ρ1 with
      | nx ρ2 => rw [e2] at q; exact loopF_W Inv q s f
      | rt en ρ2 => rw [e2] at q; exact q
      | _ => rw [e2] at q; exact q.elim
theorem callF_W {tb : Nat → Option Fn} {n f : Nat} {fn : Fn} {args : List Ent} {Q : Ent → Option D → Prop} (h : tb f = some fn) (hl : args.length = fn.params ∧ argsOk fn.io args = true)
    (hb : (evSs (callF tb n) fn.body (args ++ List.replicate (fn.names.length - fn.params) .un)).W (fun ρ => Q (.val .none) (ioOf ρ fn.io)) (fun e ρ => Q e (ioOf ρ fn.io))) : (callF tb (n + 1) f args).W Q := by
  unfold callF
  rw [h]
  dsimp only
  rw [if_pos hl]
  rcases hb.ex with ⟨ρ, e, q⟩ | ⟨en, ρ, e, q⟩
  · rw [e]; exact q
  · rw [e]; exact q
/-- a comprehension whose parts change nothing -/
theorem compC_W {own : List Nat} {t : Tgt} {c : Rho → R Bool} {b : Rho → R D} {ρ : Rho} {Q : List D → Rho → Prop} (g : D → D) (p : D → Bool) (st : D → Rho) {xs : List D} (hp : plainAt ρ own = true)
    (h1 : ∀ x ∈ xs, t.set x (wipeR ρ own) = some (st x)) (h4 : ∀ x ∈ xs, plainAt (st x) own = true ∧ wipeR (st x) own = wipeR ρ own) (h2 : ∀ x ∈ xs, c (st x) = .ok (p x) (st x)) (h3 : ∀ x ∈ xs, p x = true → b (st x) = .ok (g x) (st x))
    (hb : plainAt (wipeR ρ own) own = true ∧ wipeR (wipeR ρ own) own = wipeR ρ own ∧ backR ρ (wipeR ρ own) own = ρ) (hl : xs.length ≤ sizeLine) (q : Q ((xs.filter p).map g) ρ) : (compC own t c (fun ρ => (b ρ).bind fun d ρ => .ok [d] ρ) xs ρ).W Q := by
  have go : ∀ (xs : List D) (ρi : Rho), (plainAt ρi own = true ∧ wipeR ρi own = wipeR ρ own) → (∀ x ∈ xs, t.set x (wipeR ρ own) = some (st x)) → (∀ x ∈ xs, plainAt (st x) own = true ∧ wipeR (st x) own = wipeR ρ own) → (∀ x ∈ xs, c (st x) = .ok (p x) (st x)) → (∀ x ∈ xs, p x = true → b (st x) = .ok (g x) (st x)) →
      loopC own t c (fun ρ => (b ρ).bind fun d ρ => .ok [d] ρ) xs ρi = .ok ((xs.filter p).map g) (wipeR ρ own) := by
    intro xs
    induction xs with
    | nil =>
      intro ρi hi _ _ _ _
      unfold loopC wipeO
      rw [if_pos hi.1, hi.2]
      rfl
    | cons x xs ih =>
      intro ρi hi h1 h4 h2 h3
      have i1 := ih (st x) (h4 x List.mem_cons_self) (fun y hy => h1 y (List.mem_cons_of_mem _ hy)) (fun y hy => h4 y (List.mem_cons_of_mem _ hy)) (fun y hy => h2 y (List.mem_cons_of_mem _ hy)) (fun y hy => h3 y (List.mem_cons_of_mem _ hy))
      unfold loopC wipeO
      rw [if_pos hi.1, hi.2]
      show (match t.set x (wipeR ρ own) with | none => R.no | some ρ1 => _) = _
      rw [h1 x List.mem_cons_self]
      show (c (st x)).noEx.bind _ = _
      rw [h2 x List.mem_cons_self]
      cases e : p x with
      | false => rw [List.filter_cons_of_neg (by simp [e])]; exact i1
      | true =>
        rw [List.filter_cons_of_pos e]
        show ((b (st x)).bind _).noEx.bind _ = _
        rw [h3 x List.mem_cons_self e]
        show (loopC own t c _ xs (st x)).bind _ = _
        rw [i1]
        rfl
  unfold compC
  rw [if_pos hp, go xs (wipeR ρ own) ⟨hb.1, hb.2.1⟩ h1 h4 h2 h3]
  show (if _ then _ else _ : R (List D)).W Q
  have : ((xs.filter p).map g).length ≤ sizeLine := by rw [List.length_map]; exact Nat.le_trans (List.length_filter_le _ _) hl
  rw [if_pos this, hb.2.2]
  exact q
/-- a comprehension by what stays true -/
theorem compC_I {own : List Nat} {t : Tgt} {c : Rho → R Bool} {b : Rho → R D} {ρ : Rho} {Q : List D → Rho → Prop} (Inv : Rho → Prop) (Pd : D → Prop) {xs : List D} (hp : plainAt ρ own = true) (h0 : Inv (wipeR ρ own))
    (hs : ∀ x ∈ xs, ∀ ρ', Inv ρ' → optW (t.set x ρ') fun ρ1 => (c ρ1).W fun k ρ2 => if k = true then (b ρ2).W (fun d ρ3 => Pd d ∧ plainAt ρ3 own = true ∧ Inv (wipeR ρ3 own)) else plainAt ρ2 own = true ∧ Inv (wipeR ρ2 own))
    (hw : plainAt (wipeR ρ own) own = true ∧ wipeR (wipeR ρ own) own = wipeR ρ own) (hl : xs.length ≤ sizeLine) (q : ∀ zs ρ', Inv ρ' → zs.length ≤ xs.length → (∀ z ∈ zs, Pd z) → Q zs (backR ρ ρ' own)) : (compC own t c (fun ρ => (b ρ).bind fun d ρ => .ok [d] ρ) xs ρ).W Q := by
  have go : ∀ (xs : List D) (ρi : Rho), plainAt ρi own = true → Inv (wipeR ρi own) → (∀ x ∈ xs, ∀ ρ', Inv ρ' → optW (t.set x ρ') fun ρ1 => (c ρ1).W fun k ρ2 => if k = true then (b ρ2).W (fun d ρ3 => Pd d ∧ plainAt ρ3 own = true ∧ Inv (wipeR ρ3 own)) else plainAt ρ2 own = true ∧ Inv (wipeR ρ2 own)) →
      ∃ zs ρ', loopC own t c (fun ρ => (b ρ).bind fun d ρ => .ok [d] ρ) xs ρi = .ok zs ρ' ∧ Inv ρ' ∧ zs.length ≤ xs.length ∧ ∀ z ∈ zs, Pd z := by
    intro xs
    induction xs with
    | nil =>
      intro ρi h1 h2 _
      refine ⟨[], wipeR ρi own, ?_, h2, Nat.le_refl _, fun z hz => nomatch hz⟩
      unfold loopC wipeO
      rw [if_pos h1]
      rfl
    | cons x xs ih =>
      intro ρi h1 h2 h3
      have s := h3 x List.mem_cons_self (wipeR ρi own) h2
      have h3' := fun y (hy : y ∈ xs) => h3 y (List.mem_cons_of_mem _ hy)
      cases e1 : t.set x (wipeR ρi own) with
      | none => rw [e1] at s; exact s.elim
      | some ρ1 =>
        rw [e1] at s
        obtain ⟨k, ρ2, e2, s⟩ := R.W.ex (show (c ρ1).W _ from s)
        have unf : loopC own t c (fun ρ => (b ρ).bind fun d ρ => .ok [d] ρ) (x :: xs) ρi = (c ρ1).noEx.bind fun ok ρ2 => match ok with
            | true => ((b ρ2).bind fun d ρ => .ok [d] ρ).noEx.bind fun ys ρ3 => (loopC own t c (fun ρ => (b ρ).bind fun d ρ => .ok [d] ρ) xs ρ3).bind fun zs ρ4 => .ok (ys ++ zs) ρ4
            | false => loopC own t c (fun ρ => (b ρ).bind fun d ρ => .ok [d] ρ) xs ρ2 := by
          conv => lhs; unfold loopC wipeO
          rw [if_pos h1]
          show (match t.set x (wipeR ρi own) with | none => R.no | some ρ1 => _) = _
          (rw [e1]) <;> rfl
        rw [unf, e2]
        cases k with
        | false =>
          rw [if_neg (by decide)] at s
          obtain ⟨zs, ρ', e3, i3, l3, p3⟩ := ih ρ2 s.1 s.2 h3'
          exact ⟨zs, ρ', e3, i3, Nat.le_succ_of_le l3, p3⟩
        | true =>
          rw [if_pos rfl] at s
          obtain ⟨d, ρ3, e3, pd, s1, s2⟩ := s.ex
          obtain ⟨zs, ρ', e4, i4, l4, p4⟩ := ih ρ3 s1 s2 h3'
          refine ⟨d :: zs, ρ', ?_, i4, Nat.succ_le_succ l4, fun z hz => ?_⟩
          · show ((b ρ2).bind _).noEx.bind _ = _
            rw [e3]
            show (loopC own t c _ xs ρ3).bind _ = _
            rw [e4]
            rfl
          · rcases List.mem_cons.mp hz with rfl | hz
            · exact pd
            · exact p4 z hz
  obtain ⟨zs, ρ', e, i, l, p⟩ := go xs (wipeR ρ own) hw.1 (by rw [hw.2]; exact h0) hs
  unfold compC
  rw [if_pos hp, e]
  show (if _ then _ else _ : R (List D)).W Q
  rw [if_pos (Nat.le_trans l hl)]
  exact q zs ρ' i l p
end
end Ev

set_option linter.all false
set_option maxRecDepth 100000
namespace Ev
def I_is_whole : Fn := ⟨1, ["value"], false, .cons (.ret (.and_ (.cons (.isi (.v 0) .int) (.cons (.not_ (.isi (.v 0) .bool)) .nil)))) .nil⟩
def I_is_from : Fn := ⟨3, ["value", "low", "high"], false, .cons (.ret (.and_ (.cons (.call 0 (.cons (.v 0) .nil)) (.cons (.chn .le .le (.v 1) (.v 0) (.v 2)) .nil)))) .nil⟩
def I_is_row : Fn := ⟨1, ["value", "item"], false, .cons (.ret (.and_ (.cons (.isi (.v 0) .tuple) (.cons (.cmp .le (.p1 .len (.v 0)) (.g (.int 1000))) (.cons (.p1 .all (.comp [1] (.call 1 (.cons (.v 1) (.cons (.k (.int 0)) (.cons (.g (.int 1000)) .nil)))) (.one 1) (.ov (.v 0)) .no)) .nil))))) .nil⟩
def I_first_true : Fn := ⟨1, ["flags", "k"], false, .cons (.for_ (.one 1) (.rng1 (.p1 .len (.v 0))) (.cons (.if_ (.idx (.v 0) (.v 1)) (.cons (.ret (.v 1)) .nil) (.nil)) .nil)) (.cons (.ret (.k (.none))) .nil)⟩
def I_law_is_integer : Fn := ⟨1, ["actual"], false, .cons (.ret (.and_ (.cons (.isi (.v 0) .int) (.cons (.not_ (.isi (.v 0) .bool)) .nil)))) .nil⟩
def I_law_same : Fn := ⟨2, ["actual", "due", "k"], false, .cons (.if_ (.or_ (.cons (.isi (.v 1) .tuple) (.cons (.isi (.v 1) .list) .nil))) (.cons (.if_ (.or_ (.cons (.cmp .ne (.isi (.v 1) .tuple) (.isi (.v 0) .tuple)) (.cons (.cmp .ne (.isi (.v 1) .list) (.isi (.v 0) .list)) (.cons (.cmp .ne (.p1 .len (.v 0)) (.p1 .len (.v 1))) .nil)))) (.cons (.ret (.k (.bool false))) .nil) (.nil)) (.cons (.ret (.cmp .eq (.p1 .len (.comp [2] (.v 2) (.one 2) (.rng1 (.p1 .len (.v 1))) (.yes (.not_ (.call 18 (.cons (.idx (.v 0) (.v 2)) (.cons (.idx (.v 1) (.v 2)) .nil))))))) (.k (.int 0)))) .nil)) (.nil)) (.cons (.if_ (.isN (.v 1)) (.cons (.ret (.isN (.v 0))) .nil) (.nil)) (.cons (.if_ (.or_ (.cons (.isi (.v 1) .bool) (.cons (.isi (.v 0) .bool) .nil))) (.cons (.ret (.and_ (.cons (.isi (.v 1) .bool) (.cons (.isi (.v 0) .bool) (.cons (.cmp .eq (.v 0) (.v 1)) .nil))))) .nil) (.nil)) (.cons (.if_ (.isi (.v 1) .int) (.cons (.ret (.and_ (.cons (.isi (.v 0) .int) (.cons (.cmp .eq (.v 0) (.v 1)) .nil)))) .nil) (.nil)) (.cons (.ret (.and_ (.cons (.isi (.v 0) .str) (.cons (.isi (.v 1) .str) (.cons (.cmp .eq (.v 0) (.v 1)) .nil))))) .nil))))⟩
def I_law_spread : Fn := ⟨1, ["cell", "mixed", "total", "k"], false, .cons (.asg 1 (.bin .mod (.p1 .int (.v 0)) (.k (.int 2147483647)))) (.cons (.asg 2 (.k (.int 1))) (.cons (.for_ (.one 3) (.rng1 (.k (.int 4))) (.cons (.asg 1 (.bin .mod (.p1 .int (.bin .add (.bin .add (.bin .mul (.v 1) (.k (.int 48271))) (.k (.int 12345))) (.v 3))) (.k (.int 2147483647)))) (.cons (.asg 2 (.bin .add (.bin .mul (.v 2) (.k (.int 2147483647))) (.v 1))) .nil))) (.cons (.ret (.v 2)) .nil)))⟩
def I_law_draw : Fn := ⟨2, ["pool", "many", "value", "cell", "mixed"], true, .cons (.if_ (.and_ (.cons (.cmp .le (.idx (.v 0) (.k (.int 2))) (.k (.int 0))) (.cons (.cmp .lt (.idx (.v 0) (.k (.int 1))) (.p1 .len (.idx (.v 0) (.k (.int 0))))) .nil))) (.cons (.asg 3 (.idx (.idx (.v 0) (.k (.int 0))) (.idx (.v 0) (.k (.int 1))))) (.cons (.sub 0 (.k (.int 1)) (.bin .add (.idx (.v 0) (.k (.int 1))) (.k (.int 1)))) (.cons (.sub 0 (.k (.int 2)) (.v 3)) (.cons (.if_ (.cmp .lt (.v 3) (.k (.int 1000000000000000000))) (.cons (.sub 0 (.k (.int 2)) (.call 20 (.cons (.v 3) .nil))) .nil) (.nil)) .nil)))) (.nil)) (.cons (.sub 0 (.k (.int 3)) (.bin .add (.idx (.v 0) (.k (.int 3))) (.k (.int 1)))) (.cons (.if_ (.cmp .le (.idx (.v 0) (.k (.int 2))) (.k (.int 0))) (.cons (.asg 4 (.bin .mod (.p1 .int (.bin .add (.bin .add (.bin .mul (.idx (.v 0) (.k (.int 4))) (.k (.int 48271))) (.bin .mul (.idx (.v 0) (.k (.int 3))) (.k (.int 69621)))) (.k (.int 1)))) (.k (.int 2147483647)))) (.cons (.asg 4 (.bin .mod (.p1 .int (.bin .add (.bin .mul (.v 4) (.k (.int 16807))) (.idx (.v 0) (.k (.int 3))))) (.k (.int 2147483629)))) (.cons (.ret (.bin .mod (.bin .fdiv (.v 4) (.k (.int 5))) (.v 1))) .nil))) (.nil)) (.cons (.asg 2 (.bin .mod (.p1 .int (.idx (.v 0) (.k (.int 2)))) (.v 1))) (.cons (.sub 0 (.k (.int 2)) (.bin .fdiv (.idx (.v 0) (.k (.int 2))) (.v 1))) (.cons (.ret (.v 2)) .nil)))))⟩
def I_law_pick : Fn := ⟨2, ["pool", "items"], true, .cons (.ret (.idx (.v 1) (.callp 21 0 (.cons (.p1 .len (.v 1)) .nil)))) .nil⟩
def I_law_bent : Fn := ⟨2, ["pool", "value", "turn", "at", "other", "items"], true, .cons (.if_ (.and_ (.cons (.isi (.v 1) .tuple) (.cons (.cmp .gt (.p1 .len (.v 1)) (.k (.int 0))) (.cons (.cmp .gt (.callp 21 0 (.cons (.k (.int 4)) .nil)) (.k (.int 0))) .nil)))) (.cons (.asg 3 (.callp 21 0 (.cons (.p1 .len (.v 1)) .nil))) (.cons (.ret (.bin .add (.bin .add (.slc (.v 1) .no (.yes (.v 3))) (.tup (.cons (.callp 23 0 (.cons (.idx (.v 1) (.v 3)) .nil)) .nil))) (.slc (.v 1) (.yes (.bin .add (.v 3) (.k (.int 1)))) .no))) .nil)) (.nil)) (.cons (.asg 2 (.callp 21 0 (.cons (.k (.int 9)) .nil))) (.cons (.if_ (.cmp .eq (.v 2) (.k (.int 0))) (.cons (.ret (.idx (.tup (.cons (.k (.str "x")) (.cons (.k (.bool true)) (.cons (.tup (.nil)) (.cons (.k (.int 0)) (.cons (.neg (.k (.int 1))) (.cons (.k (.none)) (.cons (.k (.bool false)) (.cons (.lst (.nil)) (.cons (.k (.str "in")) (.cons (.k (.int 1)) .nil))))))))))) (.callp 21 0 (.cons (.k (.int 10)) .nil)))) .nil) (.nil)) (.cons (.if_ (.call 17 (.cons (.v 1) .nil)) (.cons (.ret (.bin .add (.v 1) (.idx (.tup (.cons (.k (.int 1)) (.cons (.neg (.k (.int 1))) (.cons (.k (.int 2)) (.cons (.k (.int 0)) .nil))))) (.callp 21 0 (.cons (.k (.int 4)) .nil))))) .nil) (.nil)) (.cons (.if_ (.isi (.v 1) .str) (.cons (.ret (.idx (.tup (.cons (.bin .add (.v 1) (.k (.str "a"))) (.cons (.slc (.v 1) (.yes (.k (.int 1))) .no) (.cons (.bin .add (.v 1) (.k (.str "A"))) (.cons (.bin .add (.v 1) (.k (.str " "))) (.cons (.slc (.v 1) .no (.yes (.k (.int 1)))) .nil)))))) (.callp 21 0 (.cons (.k (.int 5)) .nil)))) .nil) (.nil)) (.cons (.if_ (.or_ (.cons (.not_ (.isi (.v 1) .tuple)) (.cons (.cmp .eq (.p1 .len (.v 1)) (.k (.int 0))) .nil))) (.cons (.ret (.ite (.cmp .lt (.v 2) (.k (.int 5))) (.tup (.cons (.v 1) (.cons (.k (.int 0)) .nil))) (.tup (.nil)))) .nil) (.nil)) (.cons (.asg 3 (.callp 21 0 (.cons (.p1 .len (.v 1)) .nil))) (.cons (.if_ (.cmp .lt (.v 2) (.k (.int 3))) (.cons (.ret (.bin .add (.slc (.v 1) .no (.yes (.v 3))) (.slc (.v 1) (.yes (.bin .add (.v 3) (.k (.int 1)))) .no))) .nil) (.nil)) (.cons (.if_ (.cmp .lt (.v 2) (.k (.int 5))) (.cons (.ret (.bin .add (.bin .add (.slc (.v 1) .no (.yes (.v 3))) (.tup (.cons (.idx (.v 1) (.v 3)) .nil))) (.slc (.v 1) (.yes (.v 3)) .no))) .nil) (.nil)) (.cons (.if_ (.cmp .eq (.v 2) (.k (.int 5))) (.cons (.ret (.p1 .list (.v 1))) .nil) (.nil)) (.cons (.asg 4 (.callp 21 0 (.cons (.p1 .len (.v 1)) .nil))) (.cons (.new 5 (.p1 .list (.v 1))) (.cons (.sub 5 (.v 3) (.idx (.v 1) (.v 4))) (.cons (.sub 5 (.v 4) (.idx (.v 1) (.v 3))) (.cons (.ret (.p1 .tuple (.v 5))) .nil))))))))))))))⟩
def I_law_booled : Fn := ⟨1, ["value", "one"], false, .cons (.if_ (.isi (.v 0) .tuple) (.cons (.ret (.p1 .tuple (.comp [1] (.call 24 (.cons (.v 1) .nil)) (.one 1) (.ov (.v 0)) .no))) .nil) (.nil)) (.cons (.ret (.ite (.and_ (.cons (.call 17 (.cons (.v 0) .nil)) (.cons (.cmp .in_ (.v 0) (.tup (.cons (.k (.int 0)) (.cons (.k (.int 1)) .nil)))) .nil))) (.cmp .eq (.v 0) (.k (.int 1))) (.v 0))) .nil)⟩
def I_law_listed : Fn := ⟨2, ["value", "deep", "one"], false, .cons (.if_ (.not_ (.isi (.v 0) .tuple)) (.cons (.ret (.v 0)) .nil) (.nil)) (.cons (.if_ (.cmp .eq (.v 1) (.k (.int 0))) (.cons (.ret (.p1 .list (.v 0))) .nil) (.nil)) (.cons (.ret (.p1 .tuple (.comp [2] (.call 25 (.cons (.v 2) (.cons (.bin .sub (.v 1) (.k (.int 1))) .nil))) (.one 2) (.ov (.v 0)) .no))) .nil))⟩
def I_law_odd_values : Fn := ⟨0, ["deep", "k"], false, .cons (.asg 0 (.tup (.nil))) (.cons (.for_ (.one 1) (.rng1 (.k (.int 90))) (.cons (.asg 0 (.tup (.cons (.v 0) .nil))) .nil)) (.cons (.ret (.lst (.cons (.v 0) (.cons (.tup (.cons (.k (.str "plan")) (.cons (.v 0) (.cons (.v 0) .nil)))) (.cons (.k (.none)) (.cons (.k (.int 0)) (.cons (.k (.int 1)) (.cons (.k (.bool true)) (.cons (.k (.bool false)) (.cons (.k (.str "")) (.cons (.k (.str "x")) (.cons (.tup (.nil)) (.cons (.lst (.nil)) (.cons (.dct []) (.cons (.tup (.cons (.tup (.nil)) .nil)) (.cons (.tup (.cons (.tup (.nil)) (.cons (.tup (.nil)) .nil))) (.cons (.tup (.cons (.k (.int 0)) .nil)) (.cons (.tup (.cons (.k (.int 1)) (.cons (.k (.int 2)) .nil))) (.cons (.tup (.cons (.k (.str "x")) .nil)) (.cons (.tup (.cons (.lst (.nil)) .nil)) (.cons (.dct [(.str "a", .int 1)]) (.cons (.tup (.cons (.k (.none)) .nil)) (.cons (.tup (.cons (.tup (.cons (.tup (.nil)) .nil)) .nil)) (.cons (.neg (.k (.int 1))) .nil)))))))))))))))))))))))) .nil))⟩
def I_law_is_row : Fn := ⟨4, ["value", "many", "low", "high", "one"], false, .cons (.if_ (.or_ (.cons (.not_ (.isi (.v 0) .tuple)) (.cons (.and_ (.cons (.notN (.v 1)) (.cons (.cmp .ne (.p1 .len (.v 0)) (.v 1)) .nil))) .nil))) (.cons (.ret (.k (.bool false))) .nil) (.nil)) (.cons (.ret (.cmp .eq (.p1 .len (.comp [4] (.v 4) (.one 4) (.ov (.v 0)) (.yes (.or_ (.cons (.not_ (.call 17 (.cons (.v 4) .nil))) (.cons (.cmp .lt (.v 4) (.v 2)) (.cons (.cmp .gt (.v 4) (.v 3)) .nil))))))) (.k (.int 0)))) .nil)⟩
def I_law_least : Fn := ⟨1, ["items"], false, .cons (.ret (.ite (.cmp .ne (.v 0) (.lst (.nil))) (.p1 .min (.v 0)) (.k (.none)))) .nil⟩
def I_law_first : Fn := ⟨1, ["faults", "one"], false, .cons (.for_ (.one 1) (.ov (.v 0)) (.cons (.if_ (.notN (.idx (.v 1) (.k (.int 1)))) (.cons (.ret (.v 1)) .nil) (.nil)) .nil)) (.cons (.ret (.k (.none))) .nil)⟩
def I_law_swapped : Fn := ⟨2, ["pool", "value", "at", "other", "row"], true, .cons (.if_ (.or_ (.cons (.not_ (.isi (.v 1) .tuple)) (.cons (.cmp .eq (.p1 .len (.v 1)) (.k (.int 0))) .nil))) (.cons (.ret (.v 1)) .nil) (.nil)) (.cons (.asg 2 (.callp 21 0 (.cons (.p1 .len (.v 1)) .nil))) (.cons (.if_ (.and_ (.cons (.isi (.idx (.v 1) (.v 2)) .tuple) (.cons (.cmp .gt (.callp 21 0 (.cons (.k (.int 4)) .nil)) (.k (.int 0))) .nil))) (.cons (.ret (.bin .add (.bin .add (.slc (.v 1) .no (.yes (.v 2))) (.tup (.cons (.callp 30 0 (.cons (.idx (.v 1) (.v 2)) .nil)) .nil))) (.slc (.v 1) (.yes (.bin .add (.v 2) (.k (.int 1)))) .no))) .nil) (.nil)) (.cons (.asg 3 (.callp 21 0 (.cons (.p1 .len (.v 1)) .nil))) (.cons (.new 4 (.p1 .list (.v 1))) (.cons (.swap 4 (.v 2) (.v 3) (.cons (.idx (.v 4) (.v 3)) (.cons (.idx (.v 4) (.v 2)) .nil))) (.cons (.ret (.p1 .tuple (.v 4))) .nil))))))⟩
def I_law_changed : Fn := ⟨3, ["pool", "value", "things", "at"], true, .cons (.if_ (.or_ (.cons (.not_ (.isi (.v 1) .tuple)) (.cons (.cmp .eq (.p1 .len (.v 1)) (.k (.int 0))) (.cons (.cmp .eq (.callp 21 0 (.cons (.k (.int 7)) .nil)) (.k (.int 0))) .nil)))) (.cons (.ret (.callp 22 0 (.cons (.v 2) .nil))) .nil) (.nil)) (.cons (.asg 3 (.callp 21 0 (.cons (.p1 .len (.v 1)) .nil))) (.cons (.ret (.bin .add (.bin .add (.slc (.v 1) .no (.yes (.v 3))) (.tup (.cons (.callp 31 0 (.cons (.idx (.v 1) (.v 3)) (.cons (.v 2) .nil))) .nil))) (.slc (.v 1) (.yes (.bin .add (.v 3) (.k (.int 1)))) .no))) .nil))⟩
def I_law_heights : Fn := ⟨1, ["value", "found", "sign"], false, .cons (.new 1 (.lst (.cons (.k (.int 0)) .nil))) (.cons (.for_ (.one 2) (.ov (.v 0)) (.cons (.app 1 (.bin .sub (.bin .add (.idx (.v 1) (.neg (.k (.int 1)))) (.k (.int 1))) (.bin .mul (.k (.int 2)) (.v 2)))) .nil)) (.cons (.ret (.v 1)) .nil))⟩
def I_law_all : Fn := ⟨1, ["many", "level", "k", "longer", "word", "height", "sign"], false, .cons (.asg 1 (.lst (.cons (.tup (.nil)) .nil))) (.cons (.for_ (.one 2) (.rng1 (.bin .mul (.k (.int 2)) (.v 0))) (.cons (.new 3 (.lst (.nil))) (.cons (.for_ (.one 4) (.ov (.v 1)) (.cons (.asg 5 (.bin .sub (.bin .mul (.p1 .len (.comp [6] (.v 6) (.one 6) (.ov (.v 4)) (.yes (.cmp .eq (.v 6) (.k (.int 0)))))) (.k (.int 2))) (.p1 .len (.v 4)))) (.cons (.if_ (.cmp .le (.bin .add (.v 5) (.k (.int 1))) (.bin .sub (.bin .sub (.bin .mul (.k (.int 2)) (.v 0)) (.v 2)) (.k (.int 1)))) (.cons (.app 3 (.bin .add (.v 4) (.tup (.cons (.k (.int 0)) .nil)))) .nil) (.nil)) (.cons (.if_ (.cmp .gt (.v 5) (.k (.int 0))) (.cons (.app 3 (.bin .add (.v 4) (.tup (.cons (.k (.int 1)) .nil)))) .nil) (.nil)) .nil)))) (.cons (.asg 1 (.v 3)) .nil)))) (.cons (.ret (.p1 .sorted (.v 1))) .nil))⟩
def I_law_brackets : Fn := ⟨2, ["pool", "most", "many", "found", "height", "left", "sign"], true, .cons (.asg 2 (.callp 21 0 (.cons (.bin .add (.v 1) (.k (.int 1))) .nil))) (.cons (.asg 3 (.tup (.nil))) (.cons (.asg 4 (.k (.int 0))) (.cons (.for_ (.one 5) (.rng3 (.bin .mul (.k (.int 2)) (.v 2)) (.k (.int 0)) (.neg (.k (.int 1)))) (.cons (.asg 6 (.ite (.or_ (.cons (.cmp .eq (.v 4) (.k (.int 0))) (.cons (.and_ (.cons (.cmp .lt (.v 4) (.v 5)) (.cons (.cmp .lt (.callp 21 0 (.cons (.k (.int 5)) .nil)) (.k (.int 3))) .nil))) .nil))) (.k (.int 0)) (.k (.int 1)))) (.cons (.asg 3 (.bin .add (.v 3) (.tup (.cons (.v 6) .nil)))) (.cons (.asg 4 (.bin .sub (.bin .add (.v 4) (.k (.int 1))) (.bin .mul (.k (.int 2)) (.v 6)))) .nil)))) (.cons (.ret (.v 3)) .nil))))⟩
def I_law_opens : Fn := ⟨1, ["value", "k"], false, .cons (.ret (.comp [1] (.v 1) (.one 1) (.rng1 (.p1 .len (.v 0))) (.yes (.cmp .eq (.idx (.v 0) (.v 1)) (.k (.int 0)))))) .nil⟩
def I_law_bends : Fn := ⟨2, ["pool", "sample", "things", "found", "k"], true, .cons (.asg 2 (.lst (.cons (.k (.int 0)) (.cons (.k (.int 1)) (.cons (.k (.int 2)) (.cons (.k (.int 3)) (.cons (.k (.int 4)) (.cons (.k (.int 5)) (.cons (.neg (.k (.int 1))) (.cons (.k (.int 1001)) (.cons (.tup (.nil)) (.cons (.tup (.cons (.k (.int 0)) .nil)) (.cons (.tup (.cons (.k (.int 1)) .nil)) (.cons (.tup (.cons (.k (.int 0)) (.cons (.k (.int 1)) .nil))) (.cons (.tup (.cons (.k (.int 1)) (.cons (.k (.int 0)) .nil))) (.cons (.tup (.cons (.k (.int 0)) (.cons (.k (.int 3)) .nil))) (.cons (.tup (.cons (.k (.int 2)) (.cons (.k (.int 0)) (.cons (.k (.int 1)) .nil)))) (.cons (.tup (.cons (.tup (.nil)) (.cons (.tup (.nil)) .nil))) (.cons (.k (.str "a")) (.cons (.k (.none)) (.cons (.k (.bool true)) .nil))))))))))))))))))))) (.cons (.asg 3 (.lst (.cons (.p1 .list (.v 1)) (.cons (.slc (.v 1) (.yes (.k (.int 1))) .no) (.cons (.slc (.v 1) .no (.yes (.neg (.k (.int 1))))) (.cons (.bin .add (.v 1) (.slc (.v 1) (.yes (.neg (.k (.int 1)))) .no)) (.cons (.tup (.cons (.v 1) .nil)) (.cons (.call 25 (.cons (.v 1) (.cons (.k (.int 1)) .nil))) (.cons (.call 25 (.cons (.v 1) (.cons (.k (.int 2)) .nil))) (.cons (.call 24 (.cons (.v 1) .nil)) (.cons (.tup (.nil)) .nil))))))))))) (.cons (.asg 3 (.bin .add (.bin .add (.v 3) (.comp [4] (.callp 31 0 (.cons (.v 1) (.cons (.v 2) .nil))) (.one 4) (.rng1 (.k (.int 14))) .no)) (.comp [4] (.callp 30 0 (.cons (.v 1) .nil)) (.one 4) (.rng1 (.k (.int 9))) .no))) (.cons (.ret (.bin .add (.v 3) (.comp [4] (.callp 23 0 (.cons (.v 1) .nil)) (.one 4) (.rng1 (.k (.int 7))) .no))) .nil)))⟩
def I_law_pool_2 : Fn := ⟨1, ["script", "salt", "cell"], false, .cons (.asg 1 (.k (.int 7))) (.cons (.for_ (.one 2) (.ov (.slc (.v 0) .no (.yes (.k (.int 63))))) (.cons (.asg 1 (.bin .mod (.p1 .int (.bin .add (.bin .mul (.v 1) (.k (.int 31))) (.v 2))) (.k (.int 1000003)))) .nil)) (.cons (.retO (.lst (.cons (.p1 .list (.v 0)) (.cons (.k (.int 0)) (.cons (.k (.int 0)) (.cons (.k (.int 0)) (.cons (.v 1) .nil))))))) .nil))⟩
def I_fault_at : Fn := ⟨2, ["word", "place"], false, .cons (.ret (.ite (.isN (.v 1)) (.k (.none)) (.tup (.cons (.v 0) (.cons (.v 1) .nil))))) .nil⟩
def I_law_small_row : Fn := ⟨1, ["value"], false, .cons (.ret (.and_ (.cons (.call 27 (.cons (.v 0) (.cons (.k (.none)) (.cons (.k (.int 0)) (.cons (.k (.int 1000)) .nil))))) (.cons (.cmp .le (.p1 .len (.v 0)) (.k (.int 1000))) .nil)))) .nil⟩
def I_first_of_13 : Fn := ⟨1, ["faults", "fault"], false, .cons (.for_ (.one 1) (.ov (.v 0)) (.cons (.if_ (.notN (.v 1)) (.cons (.ret (.v 1)) .nil) (.nil)) .nil)) (.cons (.ret (.k (.none))) .nil)⟩
end Ev

set_option Elab.async false
set_option linter.all false
set_option maxRecDepth 100000
set_option autoImplicit false
/-! Pw1: what the laws' helpers do: draws. -/
namespace Ev
open PySem L2
/-- the table holds these defs -/
def Has (tb : Nat → Option Fn) (l : List (Nat × Fn)) : Prop := ∀ p ∈ l, tb p.1 = some p.2
def shared : List (Nat × Fn) := [(17, I_law_is_integer), (18, I_law_same), (20, I_law_spread), (21, I_law_draw), (22, I_law_pick), (23, I_law_bent), (24, I_law_booled), (25, I_law_listed), (26, I_law_odd_values), (30, I_law_swapped), (31, I_law_changed), (40, I_law_pool_2)]
/-- a pool as it stands between draws -/
def Pool (P : List D) : Prop := ∃ (cells : List Int) (p q r s : Int), 0 ≤ p ∧ P = [.list (cells.map .int), .int p, .int q, .int r, .int s]
section
variable {tb : Nat → Option Fn} {n : Nat} {Q : Ent → Option D → Prop}
theorem succ_of {n k : Nat} (h : k + 1 ≤ n) : ∃ m, n = m + 1 ∧ k ≤ m := ⟨n - 1, by omega, by omega⟩
theorem mulOk_r {a b : Int} (h : -(2 ^ 64) < b ∧ b < 2 ^ 64) : mulOk a b = true := by
  unfold mulOk
  simp only [Bool.or_eq_true, Bool.and_eq_true, decide_eq_true_eq]
  exact .inr h
theorem spread_W (H : Has tb shared) (hn : 1 ≤ n) {c : Int} (q : ∀ d : Int, Q (.val (.int d)) none) : (callF tb n 20 [.val (.int c)]).W Q := by
  obtain ⟨m, rfl, hm⟩ := succ_of hn
  refine callF_W (H (20, I_law_spread) (by simp [shared])) ⟨rfl, rfl⟩ ?_
  simp [I_law_spread]
  refine ⟨inR_nat (j := 4) (by decide) (.inl rfl), ?_⟩
  refine loopF_W (fun xs ρ => (∀ y ∈ xs, ∃ i : Int, y = .int i) ∧ ∃ a b k, ρ = [.val (.int c), .val (.int a), .val (.int b), k] ∧ (∀ d, k ≠ .io d)) ⟨fun y hy => ?_, _, _, _, rfl, by simp⟩ ?_ ?_
  · simp only [rngD, List.mem_map] at hy
    obtain ⟨i, _, rfl⟩ := hy
    exact ⟨_, rfl⟩
  · rintro x xs ρ ⟨hx, a, b, k, rfl, hk⟩
    obtain ⟨i, rfl⟩ := hx x List.mem_cons_self
    have hx' := fun y (hy : y ∈ xs) => hx y (List.mem_cons_of_mem _ hy)
    have m1 : mulOk a 48271 = true := mulOk_r (by decide)
    have m2 : mulOk b 2147483647 = true := mulOk_r (by decide)
    cases k <;> first | exact (hk _ rfl).elim | (simp [m1, m2]; exact ⟨hx', _, _, _, ⟨rfl, rfl, rfl⟩, by simp⟩)
  · rintro ρ ⟨_, a, b, k, rfl, hk⟩
    simp [q]
theorem draw_W (H : Has tb shared) (hn : 2 ≤ n) {P : List D} {many : Int} (hP : Pool P) (h0 : 0 < many) (h1 : many < 1073741824) (q : ∀ (d : Int) P', Pool P' → 0 ≤ d → d < many → Q (.val (.int d)) (some (.list P'))) : (callF tb n 21 [.io (.list P), .val (.int many)]).W Q := by
  obtain ⟨m, rfl, hm⟩ := succ_of hn
  obtain ⟨cells, p, qq, r, s, hp, rfl⟩ := hP
  refine callF_W (H (21, I_law_draw) (by simp [shared])) ⟨rfl, rfl⟩ ?_
  have m1 : ∀ x, mulOk x 48271 = true := fun x => mulOk_r (by decide)
  have m2 : ∀ x, mulOk x 69621 = true := fun x => mulOk_r (by decide)
  have m3 : ∀ x, mulOk x 16807 = true := fun x => mulOk_r (by decide)
  have fin : ∀ (x p z r : Int), 0 ≤ p → Q (.val (.int (x % many))) (some (.list [.list (cells.map .int), .int p, .int z, .int r, .int s])) := fun x p z r hp => q _ _ ⟨cells, p, z, r, s, hp, rfl⟩ (Int.emod_nonneg _ (by omega)) (Int.emod_lt_of_pos _ h0)
  simp [I_law_draw, atI, ixN, m1, m2, m3, hp, h0, h1]
  split
  · split
    · rename_i hlt
      have hl : p.toNat < cells.length := by omega
      rw [List.getElem?_eq_getElem hl]
      refine ⟨hlt, ?_⟩
      simp
      split
      · refine spread_W H (by omega) fun d => ?_
        simp [m1, m2, m3, h0, h1]
        split
        · exact fin _ _ _ _ (by omega)
        · exact fin _ _ _ _ (by omega)
      · split
        · exact fin _ _ _ _ (by omega)
        · exact fin _ _ _ _ (by omega)
    · exact fin _ _ _ _ hp
  · exact fin _ _ _ _ hp
theorem pick_W (H : Has tb shared) (hn : 3 ≤ n) {P ds : List D} {d : D} (hd : d = .list ds ∨ d = .tuple ds) (hP : Pool P) (h0 : 0 < ds.length) (h1 : ds.length < 1073741824) (q : ∀ x P', Pool P' → x ∈ ds → Q (.val x) (some (.list P'))) : (callF tb n 22 [.io (.list P), .val d]).W Q := by
  obtain ⟨m, rfl, hm⟩ := succ_of hn
  refine callF_W (H (22, I_law_pick) (by simp [shared])) ⟨rfl, rfl⟩ ?_
  have go : ∀ (Q' : Ent → Option D → Prop), (∀ (d : Int) P', Pool P' → 0 ≤ d → d < ds.length → Q' (.val (.int d)) (some (.list P'))) → (callF tb m 21 [.io (.list P), .val (.int ds.length)]).W Q' := fun Q' q' => draw_W H (by omega) hP (by omega) (by omega) q'
  rcases hd with rfl | rfl <;>
  · simp [I_law_pick]
    refine go _ fun k P' hP' h2 h3 => ?_
    obtain ⟨x, e1, e2⟩ := atI_pos h2 h3
    simp [e1]
    exact q x P' hP' (List.mem_of_getElem? e2)
end
end Ev

set_option Elab.async false
set_option linter.all false
set_option maxRecDepth 100000
set_option autoImplicit false
set_option maxHeartbeats 4000000
/-! Pw2: bent values. -/
namespace Ev
open PySem L2
/-! ### small data -/
def Fit (k : Nat) : Nat → D → Prop
  | 0, .tuple _ => False
  | 0, .list _ => False
  | m + 1, .tuple ds => ds.length ≤ k ∧ ∀ x ∈ ds, Fit k m x
  | m + 1, .list ds => ds.length ≤ k ∧ ∀ x ∈ ds, Fit k m x
  | _, .str s => s.length ≤ k ∧ PyData.strOk s = true
  | _, .dict _ => False
  | _, _ => True
theorem Fit.mono {k k' : Nat} (hk : k ≤ k') : ∀ {m m' : Nat} {d : D}, m ≤ m' → Fit k m d → Fit k' m' d
  | 0, _, .tuple _, _, h => h.elim
  | 0, _, .list _, _, h => h.elim
  | m + 1, m' + 1, .tuple ds, hm, h => ⟨Nat.le_trans h.1 hk, fun x hx => Fit.mono hk (Nat.le_of_succ_le_succ hm) (h.2 x hx)⟩
  | m + 1, m' + 1, .list ds, hm, h => ⟨Nat.le_trans h.1 hk, fun x hx => Fit.mono hk (Nat.le_of_succ_le_succ hm) (h.2 x hx)⟩
  | m + 1, 0, _, hm, _ => absurd hm (by omega)
  | m, m', .str s, _, h => by
    have h : s.length ≤ k ∧ PyData.strOk s = true := by cases m <;> exact h
    have h : s.length ≤ k' ∧ PyData.strOk s = true := ⟨Nat.le_trans h.1 hk, h.2⟩
    cases m' <;> exact h
  | _, m', .none, _, _ => by cases m' <;> trivial
  | _, m', .bool _, _, _ => by cases m' <;> trivial
  | _, m', .int _, _, _ => by cases m' <;> trivial
  | m, m', .dict _, _, h => by cases m <;> exact h.elim
section
variable {k m : Nat}
theorem fit_int {i : Int} : Fit k m (.int i) := by cases m <;> trivial
theorem fit_none : Fit k m .none := by cases m <;> trivial
theorem fit_bool {b : Bool} : Fit k m (.bool b) := by cases m <;> trivial
theorem fit_str {s : Str} (h : s.length ≤ k) (o : PyData.strOk s = true) : Fit k m (.str s) := by cases m <;> exact ⟨h, o⟩
theorem fit_strE {s : Str} (h : Fit k m (.str s)) : s.length ≤ k := by cases m <;> exact h.1
theorem fit_strO {s : Str} (h : Fit k m (.str s)) : PyData.strOk s = true := by cases m <;> exact h.2
theorem fit_tup {ds : List D} (h : ds.length ≤ k) (h2 : ∀ x ∈ ds, Fit k m x) : Fit k (m + 1) (.tuple ds) := ⟨h, h2⟩
theorem fit_lst {ds : List D} (h : ds.length ≤ k) (h2 : ∀ x ∈ ds, Fit k m x) : Fit k (m + 1) (.list ds) := ⟨h, h2⟩
theorem fit_tupE {ds : List D} (h : Fit k m (.tuple ds)) : ∃ j, m = j + 1 ∧ ds.length ≤ k ∧ ∀ x ∈ ds, Fit k j x := by
  cases m with
  | zero => exact h.elim
  | succ j => exact ⟨j, rfl, h.1, h.2⟩
end
/-! ### cuts -/
theorem cut_to {ds : List D} {j : Nat} (h : j ≤ ds.length) : cutD ds none (some (j : Int)) = ds.take j := by
  unfold cutD
  rw [HT.sIx_none, HT.sIx_nat, Nat.min_eq_left h]
  simp
theorem cut_from {ds : List D} {j : Nat} (h : j ≤ ds.length) : cutD ds (some (j : Int)) none = ds.drop j := by
  unfold cutD
  rw [HT.sIx_none, HT.sIx_nat, Nat.min_eq_left h]
  exact List.take_of_length_le (by simp)
theorem cut_len {ds : List D} {lo hi : Option Int} : (cutD ds lo hi).length ≤ ds.length := by
  unfold cutD
  rw [List.length_take, List.length_drop]
  omega
theorem cut_mem {ds : List D} {lo hi : Option Int} {x : D} (h : x ∈ cutD ds lo hi) : x ∈ ds := List.mem_of_mem_drop (List.mem_of_mem_take h)
section
variable {tb : Nat → Option Fn} {n : Nat} {Q : Ent → Option D → Prop}
def isInt : D → Bool
  | .int _ => true
  | _ => false
theorem isint_W (H : Has tb shared) (hn : 1 ≤ n) {v : D} (q : Q (.val (.bool (isInt v))) none) : (callF tb n 17 [.val v]).W Q := by
  obtain ⟨m, rfl, hm⟩ := succ_of hn
  refine callF_W (H (17, I_law_is_integer) (by simp [shared])) ⟨rfl, rfl⟩ ?_
  cases v <;> simpa [I_law_is_integer, isTy, isInt] using q
def isStr : D → Bool
  | .str _ => true
  | _ => false
theorem size_big {k : Nat} (h : k ≤ 100000) : k ≤ sizeLine := Nat.le_trans h (by decide)
theorem cutS_len {z : Str} {lo hi : Option Int} : (cutS z lo hi).length ≤ z.length := by
  have e : ∀ l : List Nat, (⟨l.toArray⟩ : Str).length = l.length := fun l => by simp [Str.length]
  unfold cutS
  rw [e, List.length_take, List.length_drop]
  have : z.cps.toList.length = z.length := by simp [Str.length]
  omega
theorem strOk_cut {z : Str} {lo hi : Option Int} (h : PyData.strOk z = true) : PyData.strOk (cutS z lo hi) = true := by
  unfold PyData.strOk at h ⊢
  rw [Array.all_eq_true'] at h ⊢
  unfold cutS
  intro x hx
  refine h x ?_
  have hx := List.mem_toArray.mp hx
  exact Array.mem_toList_iff.mp (List.mem_of_mem_drop (List.mem_of_mem_take hx))
theorem strOk_app {a b : Str} (h : PyData.strOk a = true) (h2 : PyData.strOk b = true) : PyData.strOk (a ++ b) = true := by
  unfold PyData.strOk at h h2 ⊢
  show (a.cps ++ b.cps).all _ = true
  rw [Array.all_append, h, h2]
  rfl
theorem ok_str (s : String) : PyData.strOk (Str.ofString s) = true := by
  simp only [PyData.strOk]
  rw [Str.ofString_eq_toList]
  simp only [List.all_toArray, List.all_map, List.all_eq_true]
  intro c _
  have := c.valid
  simp only [Function.comp, decide_eq_true_eq]
  have h2 : c.toNat < 1114112 := by
    rcases this with h | ⟨_, h⟩
    · show c.val.toNat < _
      omega
    · exact h
  exact h2
/-- one of several -/
theorem atI_W {ds : List D} {k : Int} {R : D → Prop} (h0 : 0 ≤ k) (h1 : k < ds.length) (q : ∀ x ∈ ds, R x) : optW (atI ds k) R := by
  obtain ⟨x, e1, e2⟩ := atI_pos h0 h1
  rw [e1]
  exact q x (List.mem_of_getElem? e2)
theorem fit_tupI {k m : Nat} {ds : List D} : Fit k (m + 1) (.tuple ds) ↔ ds.length ≤ k ∧ ∀ x ∈ ds, Fit k m x := Iff.rfl
theorem fit_lstI {k m : Nat} {ds : List D} : Fit k (m + 1) (.list ds) ↔ ds.length ≤ k ∧ ∀ x ∈ ds, Fit k m x := Iff.rfl
/-- one place of a tuple is put anew -/
theorem fit_put {k m : Nat} {ds : List D} {j : Nat} {y : D} (hj : j < ds.length) (hl : ds.length ≤ k) (h : ∀ x ∈ ds, Fit k m x) (hy : Fit k m y) : Fit k (m + 1) (.tuple (ds.take j ++ y :: ds.drop (j + 1))) := by
  refine fit_tup (by simp; omega) fun x hx => ?_
  rcases List.mem_append.mp hx with hx | hx
  · exact h x (List.mem_of_mem_take hx)
  · rcases List.mem_cons.mp hx with rfl | hx
    · exact hy
    · exact h x (List.mem_of_mem_drop hx)
/-- a draw's place, as a natural number -/
theorem draw_at (H : Has tb shared) (hn : 2 ≤ n) {P ds : List D} (hP : Pool P) (h0 : 0 < ds.length) (h1 : ds.length ≤ 1000) (q : ∀ (j : Nat) P', Pool P' → j < ds.length → Q (.val (.int j)) (some (.list P'))) : (callF tb n 21 [.io (.list P), .val (.int ds.length)]).W Q := by
  refine draw_W H hn hP (by omega) (by omega) fun d P' hP' a b => ?_
  obtain ⟨j, rfl⟩ : ∃ j : Nat, d = j := ⟨d.toNat, by omega⟩
  exact q j P' hP' (by omega)
theorem draw_n (H : Has tb shared) (hn : 2 ≤ n) {P : List D} {k : Nat} (hP : Pool P) (h0 : 0 < k) (h1 : k ≤ 1000) (q : ∀ (j : Nat) P', Pool P' → j < k → Q (.val (.int j)) (some (.list P'))) : (callF tb n 21 [.io (.list P), .val (.int k)]).W Q := by
  refine draw_W H hn hP (by omega) (by omega) fun d P' hP' a b => ?_
  obtain ⟨j, rfl⟩ : ∃ j : Nat, d = j := ⟨d.toNat, by omega⟩
  exact q j P' hP' (by omega)
end
@[simp] def hdS : Ss → S
  | .cons s _ => s
  | .nil => .pass
@[simp] def tlS : Ss → Ss
  | .cons _ r => r
  | .nil => .nil
def isTup : D → Bool
  | .tuple _ => true
  | _ => false
section
variable {tb : Nat → Option Fn}
theorem bent_W (H : Has tb shared) {k : Nat} (hk : k ≤ 900) : ∀ {m n : Nat} {P : List D} {v : D} {Q : Ent → Option D → Prop}, m + 3 ≤ n → Pool P → Fit k m v → (∀ d P', Pool P' → Fit (k + 3) (m + 2) d → Q (.val d) (some (.list P'))) → (callF tb n 23 [.io (.list P), .val v]).W Q := by
  intro m
  induction m using Nat.strongRecOn with
  | _ m ih =>
    intro n P v Q hn hP hv q
    obtain ⟨n, rfl, hm⟩ := succ_of (show 2 + 1 ≤ n by omega)
    have s10 : 10 ≤ sizeLine := by decide
    have s5 : 5 ≤ sizeLine := by decide
    have s4 : 4 ≤ sizeLine := by decide
    have s2 : 2 ≤ sizeLine := by decide
    have s1 : 1 ≤ sizeLine := by decide
    have s0 : 0 ≤ sizeLine := by decide
    have la : Str.length (Str.ofString "a") = 1 := by decide
    have lb : Str.length (Str.ofString "A") = 1 := by decide
    have lc : Str.length (Str.ofString " ") = 1 := by decide
    have lx : Str.length (Str.ofString "x") = 1 := by decide
    have li : Str.length (Str.ofString "in") = 2 := by decide
    have oa : PyData.strOk (Str.ofString "a") = true := ok_str _
    have ob : PyData.strOk (Str.ofString "A") = true := ok_str _
    have oc : PyData.strOk (Str.ofString " ") = true := ok_str _
    have ox : PyData.strOk (Str.ofString "x") = true := ok_str _
    have oi : PyData.strOk (Str.ofString "in") = true := ok_str _
    have up := hv.mono (show k ≤ k + 3 by omega) (show m ≤ m + 1 by omega)
    have consts : ∀ x ∈ [PyData.str (Str.ofString "x"), PyData.bool true, PyData.tuple [], PyData.int 0, PyData.int (-1), PyData.none, PyData.bool false, PyData.list [], PyData.str (Str.ofString "in"), PyData.int 1], Fit (k + 3) (m + 2) x := by
      simp [fit_tupI, fit_lstI, fit_int, fit_none, fit_bool, fit_str, lx, li, ox, oi]
    have tailc : ∀ (P' : List D), Pool P' → ∀ (j : Nat), j < 10 → optW (atI [PyData.str (Str.ofString "x"), PyData.bool true, PyData.tuple [], PyData.int 0, PyData.int (-1), PyData.none, PyData.bool false, PyData.list [], PyData.str (Str.ofString "in"), PyData.int 1] (j : Int)) fun z => Q (.val z) (some (.list P')) := fun P' hP' j hj =>
      atI_W (by omega) (by simp; omega) fun x hx => q x P' hP' (consts x hx)
    have odd : ∀ (P' : List D), Pool P' → Q (.val (.tuple [v, .int 0])) (some (.list P')) ∧ Q (.val (.tuple [])) (some (.list P')) := fun P' hP' =>
      ⟨q _ _ hP' (fit_tup (by simp) (by simp [up, fit_int])), q _ _ hP' (fit_tup (by simp) (by simp))⟩
    refine callF_W (H (23, I_law_bent) (by simp [shared])) ⟨rfl, rfl⟩ ?_
    cases v with
    | int i =>
      simp [I_law_bent, isTy]
      refine draw_n (k := 9) H (by omega) hP (by omega) (by omega) fun j P1 hP1 hj => ?_
      simp [s10]
      split
      · refine draw_n (k := 10) H (by omega) hP1 (by omega) (by omega) fun j P2 hP2 hj => ?_
        simp
        exact tailc _ hP2 j hj
      · refine isint_W H (by omega) ?_
        simp [isInt, s4]
        refine draw_n (k := 4) H (by omega) hP1 (by omega) (by omega) fun j P2 hP2 hj => ?_
        simp
        refine atI_W (by omega) (by simp; omega) fun x hx => ?_
        have hx : ∃ z : Int, x = .int z := by simp at hx; rcases hx with rfl | rfl | rfl | rfl <;> exact ⟨_, rfl⟩
        obtain ⟨z, rfl⟩ := hx
        simp
        exact q _ _ hP2 fit_int
    | str s =>
      have hs := fit_strE hv
      have hz : s.length ≤ sizeLine := size_big (by omega)
      have hz1 : s.length + 1 ≤ sizeLine := size_big (by omega)
      have app : ∀ t : Str, t.length = 1 → PyData.strOk t = true → Fit (k + 3) (m + 2) (.str (s ++ t)) := fun t ht to => fit_str (by
        have : (s ++ t).length = s.length + t.length := by show (s.cps ++ t.cps).size = _; rw [Array.size_append]; rfl
        omega) (strOk_app (fit_strO hv) to)
      have cut : ∀ lo hi, Fit (k + 3) (m + 2) (.str (cutS s lo hi)) := fun lo hi => fit_str (Nat.le_trans cutS_len (by omega)) (strOk_cut (fit_strO hv))
      simp [I_law_bent, isTy, slcF, hz, hz1, la, lb, lc]
      refine draw_n (k := 9) H (by omega) hP (by omega) (by omega) fun j P1 hP1 hj => ?_
      simp [s10]
      split
      · refine draw_n (k := 10) H (by omega) hP1 (by omega) (by omega) fun j P2 hP2 hj => ?_
        simp
        exact tailc _ hP2 j hj
      · refine isint_W H (by omega) ?_
        simp [isInt, s5]
        refine draw_n (k := 5) H (by omega) hP1 (by omega) (by omega) fun j P2 hP2 hj => ?_
        simp
        refine atI_W (by omega) (by simp; omega) fun x hx => q _ _ hP2 ?_
        simp at hx
        rcases hx with rfl | rfl | rfl | rfl | rfl
        · exact app _ la oa
        · exact cut _ _
        · exact app _ lb ob
        · exact app _ lc oc
        · exact cut _ _
    | tuple ds =>
      obtain ⟨mm, rfl, hl, hx⟩ := fit_tupE hv
      have hz : ∀ j, j ≤ k + 1 → j ≤ sizeLine := fun j hj => size_big (by omega)
      have cl1 : ∀ lo hi, (cutD ds lo hi).length + 1 ≤ sizeLine := fun lo hi => hz _ (by have := @cut_len ds lo hi; omega)
      have hx' : ∀ x ∈ ds, Fit (k + 3) (mm + 1 + 1) x := fun x h => (hx x h).mono (by omega) (by omega)
      have tail : ∀ P1, Pool P1 → (evSs (callF tb n) (tlS I_law_bent.body) [.io (.list P1), .val (.tuple ds), .un, .un, .un, .un]).W (fun ρ => Q (.val .none) (ioOf ρ true)) (fun e ρ => Q e (ioOf ρ true)) := by
        intro P1 hP1
        simp [I_law_bent, isTy]
        refine draw_n (k := 9) H (by omega) hP1 (by omega) (by omega) fun j P2 hP2 hj => ?_
        simp [s10]
        split
        · refine draw_n (k := 10) H (by omega) hP2 (by omega) (by omega) fun j P3 hP3 hj => ?_
          simp
          exact tailc _ hP3 j hj
        · refine isint_W H (by omega) ?_
          simp [isInt, s2, s0]
          split
          · split
            · exact (odd _ hP2).1
            · exact (odd _ hP2).2
          · rename_i hne
            have h0 : 0 < ds.length := by
              cases ds with
              | nil => simp at hne
              | cons _ _ => simp
            refine draw_at H (by omega) hP2 h0 (by omega) fun at_ P3 hP3 ha => ?_
            have e1 : cutD ds none (some (at_ : Int)) = ds.take at_ := cut_to (by omega)
            have e2 : cutD ds (some ((at_ : Int) + 1)) none = ds.drop (at_ + 1) := cut_from (j := at_ + 1) (by omega)
            have e3 : cutD ds (some (at_ : Int)) none = ds.drop at_ := cut_from (by omega)
            have e4 : atI ds (at_ : Int) = some ds[at_] := atI_lt ha
            have hm1 : ds[at_] ∈ ds := List.getElem_mem ha
            simp [e1, e2, e3, e4, s1]
            split
            · refine ⟨hz _ (by omega), q _ _ hP3 (fit_tup (by simp; omega) fun x h => ?_)⟩
              rcases List.mem_append.mp h with h | h
              · exact hx' x (List.mem_of_mem_take h)
              · exact hx' x (List.mem_of_mem_drop h)
            · split
              · refine ⟨hz _ (by omega), hz _ (by omega), q _ _ hP3 (fit_tup (by simp; omega) fun x h => ?_)⟩
                simp at h
                rcases h with h | h | h
                · exact hx' x (List.mem_of_mem_take h)
                · rw [h]; exact hx' _ hm1
                · exact hx' x (List.mem_of_mem_drop h)
              · split
                · exact q _ _ hP3 (fit_lst (by omega) hx')
                · refine draw_at H (by omega) hP3 h0 (by omega) fun o P4 hP4 ho => ?_
                  have e5 : atI ds (o : Int) = some ds[o] := atI_lt ho
                  have hm2 : ds[o] ∈ ds := List.getElem_mem ho
                  have i1 : ixN ds.length (at_ : Int) = some at_ := ixN_nat ha
                  have i2 : ixN ds.length (o : Int) = some o := ixN_nat ho
                  simp [e4, e5, i1, i2]
                  refine q _ _ hP4 (fit_tup (by rw [List.length_set, List.length_set]; omega) fun x h => ?_)
                  rcases List.mem_or_eq_of_mem_set h with h | h
                  · rcases List.mem_or_eq_of_mem_set h with h | h
                    · exact hx' x h
                    · rw [h]; exact hx' _ hm2
                  · rw [h]; exact hx' _ hm1
      rw [show I_law_bent.body = .cons (hdS I_law_bent.body) (tlS I_law_bent.body) from rfl, W_cons]
      have tail : ∀ P1, Pool P1 → (evSs (callF tb n) (tlS I_law_bent.body) [.io (.list P1), .val (.tuple ds), .un, .un, .un, .un]).W (fun ρ => Q (.val .none) (ioOf ρ I_law_bent.io)) (fun e ρ => Q e (ioOf ρ I_law_bent.io)) := tail
      generalize tlS I_law_bent.body = rest at tail ⊢
      simp [I_law_bent, isTy]
      split
      · rename_i h0
        have h0 : 0 < ds.length := by omega
        refine draw_n (k := 4) H (by omega) hP (by omega) (by omega) fun j P1 hP1 hj => ?_
        simp
        split
        · refine draw_at H (by omega) hP1 h0 (by omega) fun at_ P2 hP2 ha => ?_
          have e1 : cutD ds none (some (at_ : Int)) = ds.take at_ := cut_to (by omega)
          have e2 : cutD ds (some ((at_ : Int) + 1)) none = ds.drop (at_ + 1) := cut_from (j := at_ + 1) (by omega)
          have e4 : atI ds (at_ : Int) = some ds[at_] := atI_lt ha
          simp [e1, e2, e4, s1]
          refine ih mm (by omega) (by omega) hP2 (hx _ (List.getElem_mem ha)) fun d P3 hP3 hd => ?_
          simp [s1]
          refine ⟨hz _ (by omega), hz _ (by omega), q _ _ hP3 ?_⟩
          exact fit_put ha (by omega) hx' hd
        · exact tail _ hP1
      · exact tail _ hP
    | _ =>
      simp [I_law_bent, isTy]
      refine draw_n (k := 9) H (by omega) hP (by omega) (by omega) fun j P1 hP1 hj => ?_
      simp [s10]
      split
      · refine draw_n (k := 10) H (by omega) hP1 (by omega) (by omega) fun j P2 hP2 hj => ?_
        simp
        exact tailc _ hP2 j hj
      · refine isint_W H (by omega) ?_
        simp [isInt, s2, s0]
        split
        · exact (odd _ hP1).1
        · exact (odd _ hP1).2
end
end Ev

set_option Elab.async false
set_option linter.all false
set_option maxRecDepth 100000
set_option autoImplicit false
set_option maxHeartbeats 4000000
/-! Pw3: changed, exchanged, listed values. -/
namespace Ev
open PySem L2
section
variable {tb : Nat → Option Fn}
theorem changed_W (H : Has tb shared) {k : Nat} (hk : k ≤ 900) {ts : List D} (ht : ∀ x ∈ ts, Fit 3 2 x) (ht0 : 0 < ts.length) (ht1 : ts.length ≤ 1000) : ∀ {m n : Nat} {P : List D} {v : D} {Q : Ent → Option D → Prop}, m + 4 ≤ n → Pool P → Fit k m v → (∀ d P', Pool P' → Fit (k + 3) (m + 2) d → Q (.val d) (some (.list P'))) →
    (callF tb n 31 [.io (.list P), .val v, .val (.list ts)]).W Q := by
  intro m
  induction m using Nat.strongRecOn with
  | _ m ih =>
    intro n P v Q hn hP hv q
    obtain ⟨n, rfl, hm⟩ := succ_of (show 3 + 1 ≤ n by omega)
    have s1 : 1 ≤ sizeLine := by decide
    have pk : ∀ P1, Pool P1 → ∀ (Q' : Ent → Option D → Prop), (∀ x P', Pool P' → Fit (k + 3) (m + 2) x → Q' (.val x) (some (.list P'))) → (callF tb n 22 [.io (.list P1), .val (.list ts)]).W Q' := fun P1 hP1 Q' q' =>
      pick_W H (by omega) (.inl rfl) hP1 ht0 (by omega) fun x P' hP' hx => q' x P' hP' ((ht x hx).mono (by omega) (by omega))
    refine callF_W (H (31, I_law_changed) (by simp [shared])) ⟨rfl, rfl⟩ ?_
    cases v with
    | tuple ds =>
      obtain ⟨mm, rfl, hl, hx⟩ := fit_tupE hv
      have hz : ∀ j, j ≤ k + 1 → j ≤ sizeLine := fun j hj => size_big (by omega)
      have hx' : ∀ x ∈ ds, Fit (k + 3) (mm + 1 + 1) x := fun x h => (hx x h).mono (by omega) (by omega)
      simp [I_law_changed]
      split
      · refine pk _ hP _ fun x P1 hP1 hx1 => ?_
        simp
        exact q _ _ hP1 hx1
      · rename_i hne
        have h0 : 0 < ds.length := by
          cases ds with
          | nil => simp at hne
          | cons _ _ => simp
        refine draw_n (k := 7) H (by omega) hP (by omega) (by omega) fun j P1 hP1 hj => ?_
        simp
        split
        · refine pk _ hP1 _ fun x P2 hP2 hx1 => ?_
          simp
          exact q _ _ hP2 hx1
        · refine draw_at H (by omega) hP1 h0 (by omega) fun at_ P2 hP2 ha => ?_
          have e1 : cutD ds none (some (at_ : Int)) = ds.take at_ := cut_to (by omega)
          have e2 : cutD ds (some ((at_ : Int) + 1)) none = ds.drop (at_ + 1) := cut_from (j := at_ + 1) (by omega)
          have e4 : atI ds (at_ : Int) = some ds[at_] := atI_lt ha
          simp [e1, e2, e4, s1]
          refine ih mm (by omega) (by omega) hP2 (hx _ (List.getElem_mem ha)) fun d P3 hP3 hd => ?_
          simp [s1]
          refine ⟨hz _ (by omega), hz _ (by omega), q _ _ hP3 ?_⟩
          exact fit_put ha (by omega) hx' hd
    | _ =>
      simp [I_law_changed]
      refine pk _ hP _ fun x P1 hP1 hx1 => ?_
      simp
      exact q _ _ hP1 hx1
theorem swapped_W (H : Has tb shared) {k : Nat} (hk : k ≤ 900) : ∀ {m n : Nat} {P : List D} {v : D} {Q : Ent → Option D → Prop}, m + 3 ≤ n → Pool P → Fit k m v → (∀ d P', Pool P' → Fit k m d → Q (.val d) (some (.list P'))) → (callF tb n 30 [.io (.list P), .val v]).W Q := by
  intro m
  induction m using Nat.strongRecOn with
  | _ m ih =>
    intro n P v Q hn hP hv q
    obtain ⟨n, rfl, hm⟩ := succ_of (show 2 + 1 ≤ n by omega)
    have s1 : 1 ≤ sizeLine := by decide
    have s2 : 2 ≤ sizeLine := by decide
    refine callF_W (H (30, I_law_swapped) (by simp [shared])) ⟨rfl, rfl⟩ ?_
    cases v with
    | tuple ds =>
      have hv' := hv
      obtain ⟨mm, rfl, hl, hx⟩ := fit_tupE hv
      have hz : ∀ j, j ≤ k + 1 → j ≤ sizeLine := fun j hj => size_big (by omega)
      simp [I_law_swapped]
      split
      · exact q _ _ hP hv'
      · rename_i hne
        have h0 : 0 < ds.length := by
          cases ds with
          | nil => simp at hne
          | cons _ _ => simp
        refine draw_at H (by omega) hP h0 (by omega) fun at_ P1 hP1 ha => ?_
        have e1 : cutD ds none (some (at_ : Int)) = ds.take at_ := cut_to (by omega)
        have e2 : cutD ds (some ((at_ : Int) + 1)) none = ds.drop (at_ + 1) := cut_from (j := at_ + 1) (by omega)
        have e4 : atI ds (at_ : Int) = some ds[at_] := atI_lt ha
        have hm1 : ds[at_] ∈ ds := List.getElem_mem ha
        have rest : ∀ P2, Pool P2 → (callF tb n 21 [.io (.list P2), .val (.int ds.length)]).W fun en o => ∃ (o' : Nat) (P3 : List D), en = .val (.int o') ∧ o = some (.list P3) ∧ Pool P3 ∧ o' < ds.length := fun P2 hP2 =>
          draw_at H (by omega) hP2 h0 (by omega) fun o P3 hP3 ho => ⟨o, P3, rfl, rfl, hP3, ho⟩
        have fin : ∀ (o : Nat) P3, Pool P3 → (ho : o < ds.length) → Q (.val (.tuple ((ds.set at_ ds[o]).set o ds[at_]))) (some (.list P3)) := fun o P3 hP3 ho => by
          refine q _ _ hP3 (fit_tup (by rw [List.length_set, List.length_set]; omega) fun x h => ?_)
          rcases List.mem_or_eq_of_mem_set h with h | h
          · rcases List.mem_or_eq_of_mem_set h with h | h
            · exact hx x h
            · rw [h]; exact hx _ (List.getElem_mem ho)
          · rw [h]; exact hx _ hm1
        simp [e4]
        by_cases hty : isTy ds[at_] .tuple = true
        · rw [if_pos hty]
          refine draw_n (k := 4) H (by omega) hP1 (by omega) (by omega) fun j P2 hP2 hj => ?_
          simp
          split
          · simp [e1, e2, e4, s1]
            refine ih mm (by omega) (by omega) hP2 (hx _ hm1) fun d P3 hP3 hd => ?_
            simp [s1]
            exact ⟨hz _ (by omega), hz _ (by omega), q _ _ hP3 (fit_put ha hl hx hd)⟩
          · refine (rest P2 hP2).imp fun en o h => ?_
            obtain ⟨o', P3, rfl, rfl, hP3, ho⟩ := h
            have e5 : atI ds (o' : Int) = some ds[o'] := atI_lt ho
            have i1 : ixN ds.length (at_ : Int) = some at_ := ixN_nat ha
            have i2 : ixN ds.length (o' : Int) = some o' := ixN_nat ho
            simp [e4, e5, i1, i2, s2]
            exact fin o' P3 hP3 ho
        · rw [if_neg hty]
          refine (rest P1 hP1).imp fun en o h => ?_
          obtain ⟨o', P3, rfl, rfl, hP3, ho⟩ := h
          have e5 : atI ds (o' : Int) = some ds[o'] := atI_lt ho
          have i1 : ixN ds.length (at_ : Int) = some at_ := ixN_nat ha
          have i2 : ixN ds.length (o' : Int) = some o' := ixN_nat ho
          simp [e4, e5, i1, i2, s2]
          exact fin o' P3 hP3 ho
    | _ =>
      simp [I_law_swapped]
      exact q _ _ hP hv
theorem fit_len {k m : Nat} {ds : List D} (h : Fit k m (.tuple ds)) : ds.length ≤ k := let ⟨_, _, h, _⟩ := fit_tupE h; h
theorem booled_W (H : Has tb shared) {k : Nat} (hk : k ≤ 900) : ∀ {m n : Nat} {v : D} {Q : Ent → Option D → Prop}, m + 2 ≤ n → Fit k m v → (∀ d, Fit k m d → Q (.val d) none) → (callF tb n 24 [.val v]).W Q := by
  intro m
  induction m using Nat.strongRecOn with
  | _ m ih =>
    intro n v Q hn hv q
    obtain ⟨n, rfl, hm⟩ := succ_of (show 1 + 1 ≤ n by omega)
    have s2 : 2 ≤ sizeLine := by decide
    refine callF_W (H (24, I_law_booled) (by simp [shared])) ⟨rfl, rfl⟩ ?_
    cases v with
    | tuple ds =>
      obtain ⟨mm, rfl, hl, hx⟩ := fit_tupE hv
      simp [I_law_booled]
      refine compC_I (fun ρ => ρ = [.val (.tuple ds), .un]) (Fit k mm) rfl rfl (fun x hx1 ρ' h => ?_) ⟨rfl, rfl⟩ (size_big (by omega)) fun zs ρ' h hl2 hz => ?_
      · subst h
        simp
        refine ih mm (by omega) (by omega) (hx x hx1) fun d hd => ?_
        exact ⟨hd, rfl, rfl⟩
      · subst h
        exact q _ (fit_tup (by omega) hz)
    | int i =>
      simp [I_law_booled]
      refine isint_W H (by omega) ?_
      have h1 : shp (.int i) = true := rfl
      have h2 : shp (.list [.int 0, .int 1]) = true := rfl
      simp [isInt, s2, cmpF, inD, h1, h2]
      split
      · exact q _ fit_bool
      · exact q _ fit_int
    | _ =>
      simp [I_law_booled]
      refine isint_W H (by omega) ?_
      simp [isInt, s2]
      exact q _ hv
theorem listed_W (H : Has tb shared) {k : Nat} (hk : k ≤ 900) : ∀ {j m n : Nat} {v : D} {Q : Ent → Option D → Prop}, j + 2 ≤ n → Fit k m v → (∀ d, Fit k m d → Q (.val d) none) → (callF tb n 25 [.val v, .val (.int (j : Nat))]).W Q := by
  intro j
  induction j with
  | zero =>
    intro m n v Q hn hv q
    obtain ⟨n, rfl, hm⟩ := succ_of (show 1 + 1 ≤ n by omega)
    refine callF_W (H (25, I_law_listed) (by simp [shared])) ⟨rfl, rfl⟩ ?_
    cases v with
    | tuple ds =>
      obtain ⟨mm, rfl, hl, hx⟩ := fit_tupE hv
      simp [I_law_listed]
      exact q _ (fit_lst hl hx)
    | _ => simp [I_law_listed]; exact q _ hv
  | succ j ih =>
    intro m n v Q hn hv q
    obtain ⟨n, rfl, hm⟩ := succ_of (show 1 + 1 ≤ n by omega)
    refine callF_W (H (25, I_law_listed) (by simp [shared])) ⟨rfl, rfl⟩ ?_
    cases v with
    | tuple ds =>
      obtain ⟨mm, rfl, hl, hx⟩ := fit_tupE hv
      have e0 : ¬ ((j : Int) + 1 = 0) := by omega
      simp [I_law_listed, e0]
      refine compC_I (fun ρ => ρ = [.val (.tuple ds), .val (.int ((j : Int) + 1)), .un]) (Fit k mm) rfl rfl (fun x hx1 ρ' h => ?_) ⟨rfl, rfl⟩ (size_big (by omega)) fun zs ρ' h hl2 hz => ?_
      · subst h
        have e1 : (j : Int) + 1 - 1 = (j : Int) := by omega
        simp [e1]
        refine ih (by omega) (hx x hx1) fun d hd => ?_
        exact ⟨hd, rfl, rfl⟩
      · subst h
        exact q _ (fit_tup (by omega) hz)
    | _ => simp [I_law_listed]; exact q _ hv
theorem pool_W (H : Has tb shared) {n : Nat} (hn : 1 ≤ n) {ns : List Int} (hl : ns.length ≤ 63) {Q : Ent → Option D → Prop} (q : ∀ P, Pool P → Q (.own (.list P)) none) : (callF tb n 40 [.val (.list (ns.map .int))]).W Q := by
  obtain ⟨m, rfl, hm⟩ := succ_of hn
  refine callF_W (H (40, I_law_pool_2) (by simp [shared])) ⟨rfl, rfl⟩ ?_
  have s5 : 5 ≤ sizeLine := by decide
  simp [I_law_pool_2]
  refine loopF_W (fun xs ρ => (∀ y ∈ xs, ∃ i : Int, y = .int i) ∧ ∃ a k, ρ = [.val (.list (ns.map .int)), .val (.int a), k] ∧ (∀ d, k ≠ .io d)) ⟨fun y hy => ?_, _, _, rfl, by simp⟩ ?_ ?_
  · have := cut_mem hy
    simp at this
    obtain ⟨i, _, rfl⟩ := this
    exact ⟨_, rfl⟩
  · rintro x xs ρ ⟨hx, a, k, rfl, hk⟩
    obtain ⟨i, rfl⟩ := hx x List.mem_cons_self
    have hx' := fun y (hy : y ∈ xs) => hx y (List.mem_cons_of_mem _ hy)
    have m1 : mulOk a 31 = true := mulOk_r (by decide)
    cases k <;> first | exact (hk _ rfl).elim | (simp [m1]; exact ⟨hx', _, _, ⟨rfl, rfl⟩, by simp⟩)
  · rintro ρ ⟨_, a, k, rfl, hk⟩
    simp [s5]
    exact q _ ⟨ns, 0, 0, 0, a, by omega, rfl⟩
end
end Ev

set_option Elab.async false
set_option linter.all false
set_option maxRecDepth 100000
set_option autoImplicit false
set_option maxHeartbeats 4000000
/-! Pw4: alike values; bends; odd values. -/
namespace Ev
open PySem L2
@[simp] theorem c_neB {a b : Bool} : cmpF .ne (.bool a) (.bool b) = some (a != b) := by cases a <;> cases b <;> rfl
@[simp] theorem c_eqB {a b : Bool} : cmpF .eq (.bool a) (.bool b) = some (a == b) := by cases a <;> cases b <;> rfl
theorem eqv_str {s : Str} : PyData.eqv (.str s) (.str s) = true := by simp [PyData.eqv]
theorem shp_str {s : Str} (h : PyData.canLay0 (.str s) = true) : shp (.str s) = true := by
  show (PyData.canLay0 (.str s) && decide ((PyData.str s).depth ≤ 64)) = true
  rw [h]; rfl
section
variable {tb : Nat → Option Fn}
theorem same_W (H : Has tb shared) {k : Nat} (hk : k ≤ 2000) : ∀ {m n : Nat} {v : D} {Q : Ent → Option D → Prop}, m + 1 ≤ n → Fit k m v → v.canLay0 = true → Q (.val (.bool true)) none → (callF tb n 18 [.val v, .val v]).W Q := by
  intro m
  induction m using Nat.strongRecOn with
  | _ m ih =>
    intro n v Q hn hv hd q
    obtain ⟨n, rfl, hm⟩ := succ_of hn
    refine callF_W (H (18, I_law_same) (by simp [shared])) ⟨rfl, rfl⟩ ?_
    have seqs : ∀ (ds : List D) (mm : Nat), m = mm + 1 → ds.length ≤ k → (∀ x ∈ ds, Fit k mm x) → PyData.canLayAll0 ds = true → ∀ (con : List D → D), (con ds = .tuple ds ∨ con ds = .list ds) → ∀ (R : List D → Rho → Prop), R [] [.val (con ds), .val (con ds), .un] →
        (compC [2] (.one 2) (evc (callF tb n) (.yes (.not_ (.call 18 (.cons (.idx (.v 0) (.v 2)) (.cons (.idx (.v 1) (.v 2)) .nil)))))) (fun ρ => (ev (callF tb n) (.v 2) ρ).bind fun d ρ => .ok [d] ρ) (rngD 0 ds.length) [.val (con ds), .val (con ds), .un]).W R := by
      intro ds mm e hl hx hnd con hcon R hR
      subst e
      have nd : ∀ x ∈ ds, x.canLay0 = true := by
        clear hR hcon hx hl
        induction ds with
        | nil => intro x hx; cases hx
        | cons y ys iy =>
          simp only [PyData.canLayAll0, Bool.and_eq_true] at hnd
          intro x hx
          rcases List.mem_cons.mp hx with rfl | hx
          · exact hnd.1
          · exact iy hnd.2 x hx
      refine compC_I (fun ρ => ρ = [.val (con ds), .val (con ds), .un]) (fun _ => False) rfl rfl (fun x hx1 ρ' h => ?_) ⟨rfl, rfl⟩ (size_big (by rw [rngD, List.length_map, List.length_range]; omega)) fun zs ρ' h hl2 hz => ?_
      · subst h
        simp only [rngD, List.mem_map, List.mem_range] at hx1
        obtain ⟨i, hi, rfl⟩ := hx1
        have e1 : atI ds (i : Int) = some ds[i] := atI_lt hi
        rcases hcon with hc | hc <;> rw [hc] <;>
        · simp [e1]
          refine ih mm (by omega) (by omega) (hx _ (List.getElem_mem hi)) (nd _ (List.getElem_mem hi)) ?_
          simp
          exact ⟨rfl, rfl⟩
      · subst h
        have : zs = [] := by
          cases zs with
          | nil => rfl
          | cons z _ => exact (hz z List.mem_cons_self).elim
        subst this
        exact hR
    cases v with
    | tuple ds =>
      obtain ⟨mm, rfl, hl, hx⟩ := fit_tupE hv
      simp [I_law_same]
      refine ⟨inR_nat (by omega) (.inl rfl), ?_⟩
      refine seqs ds mm rfl hl hx (by simpa [PyData.canLay0] using hd) .tuple (.inl rfl) _ ?_
      simpa using q
    | list ds =>
      have hv2 : ∃ mm, m = mm + 1 ∧ ds.length ≤ k ∧ ∀ x ∈ ds, Fit k mm x := by
        cases m with
        | zero => exact hv.elim
        | succ mm => exact ⟨mm, rfl, hv.1, hv.2⟩
      obtain ⟨mm, rfl, hl, hx⟩ := hv2
      simp [I_law_same]
      refine ⟨inR_nat (by omega) (.inl rfl), ?_⟩
      refine seqs ds mm rfl hl hx (by simpa [PyData.canLay0] using hd) .list (.inr rfl) _ ?_
      simpa using q
    | dict _ => simp [PyData.canLay0] at hd
    | str s =>
      have h1 := shp_str hd
      simp [I_law_same, isNoneD, cmpF, cmpEq, h1, eqv_str]; exact q
    | none => simp [I_law_same, isNoneD]; exact q
    | bool b => simp [I_law_same, isNoneD]; exact q
    | int b => simp [I_law_same, isNoneD]; exact q
end
end Ev

set_option Elab.async false
set_option linter.all false
set_option maxRecDepth 100000
set_option autoImplicit false
set_option maxHeartbeats 4000000
/-! Pw5: bends; odd values; balanced words. -/
namespace Ev
open PySem L2
def shared2 : List (Nat × Fn) := [(32, I_law_heights), (33, I_law_all), (34, I_law_brackets), (37, I_law_opens), (38, I_law_bends)]
section
variable {tb : Nat → Option Fn}
def thingsD : List D := [.int 0, .int 1, .int 2, .int 3, .int 4, .int 5, .int (-1), .int 1001, .tuple [], .tuple [.int 0], .tuple [.int 1], .tuple [.int 0, .int 1], .tuple [.int 1, .int 0], .tuple [.int 0, .int 3], .tuple [.int 2, .int 0, .int 1], .tuple [.tuple [], .tuple []], .str "a", .none, .bool true]
theorem cut_m1 {ds : List D} : (cutD ds (some (-1)) none).length ≤ 1 := by
  unfold cutD HT.sIx
  simp only [List.length_take, List.length_drop]
  split <;> omega
theorem bends_Wb (H : Has tb shared) (hb : tb 38 = some I_law_bends) {k m n : Nat} (hk : k ≤ 900) (hn : m + 8 ≤ n) {P ds : List D} (hP : Pool P) (hv : Fit k m (.tuple ds)) {Q : Ent → Option D → Prop} (q : ∀ zs P', Pool P' → zs.length ≤ 39 → (∀ z ∈ zs, Fit (k + 3) (m + 2) z) → Q (.val (.list zs)) (some (.list P'))) : (callF tb n 38 [.io (.list P), .val (.tuple ds)]).W Q := by
  obtain ⟨n, rfl, hm⟩ := succ_of (show 7 + 1 ≤ n by omega)
  obtain ⟨mm, em, hl, hx⟩ := fit_tupE hv
  subst em
  have up : Fit (k + 3) (mm + 1 + 1) (.tuple ds) := hv.mono (by omega) (by omega)
  have hx' : ∀ x ∈ ds, Fit (k + 3) (mm + 1 + 1) x := fun x h => (hx x h).mono (by omega) (by omega)
  have hc : ∀ lo hi, Fit (k + 3) (mm + 1 + 2) (.tuple (cutD ds lo hi)) := fun lo hi => fit_tup (Nat.le_trans cut_len (by omega)) fun x h => hx' x (cut_mem h)
  have s19 : 19 ≤ sizeLine := by decide
  have s9 : 9 ≤ sizeLine := by decide
  have s3 : 3 ≤ sizeLine := by decide
  have s2 : 2 ≤ sizeLine := by decide
  have s1 : 1 ≤ sizeLine := by decide
  have s0 : 0 ≤ sizeLine := by decide
  have z1 : ds.length + (cutD ds (some (-1)) none).length ≤ sizeLine := size_big (by have := @cut_m1 ds; omega)
  refine callF_W hb ⟨rfl, rfl⟩ ?_
  rw [show I_law_bends.body = .cons (hdS I_law_bends.body) (tlS I_law_bends.body) from rfl, W_cons]
  rw [show tlS I_law_bends.body = .cons (hdS (tlS I_law_bends.body)) (tlS (tlS I_law_bends.body)) from rfl]
  have last : ∀ (ts fs : List D) P1, Pool P1 → (∀ x ∈ ts, Fit 3 2 x) → 0 < ts.length → ts.length ≤ 1000 → fs.length ≤ 9 → (∀ x ∈ fs, Fit (k + 3) (mm + 1 + 2) x) → (evSs (callF tb n) (tlS (tlS I_law_bends.body)) [.io (.list P1), .val (.tuple ds), .val (.list ts), .val (.list fs), .un]).W (fun ρ => Q (.val .none) (ioOf ρ I_law_bends.io)) (fun e ρ => Q e (ioOf ρ I_law_bends.io)) := by
    intro ts fs P1 hP1 ht h0 h1 hf hfx
    have r14 : inR 62 (14 : Int) := inR_nat (j := 14) (by decide) (.inl rfl)
    have r9 : inR 62 (9 : Int) := inR_nat (j := 9) (by decide) (.inl rfl)
    have r7 : inR 62 (7 : Int) := inR_nat (j := 7) (by decide) (.inl rfl)
    let St : List D → List D → Rho := fun P fs => [.io (.list P), .val (.tuple ds), .val (.list ts), .val (.list fs), .un]
    have cmp : ∀ (e : E) (j : Nat) (P0 fs : List D), j ≤ 100 → Pool P0 → (∀ P x, Pool P → (ev (callF tb n) e [.io (.list P), .val (.tuple ds), .val (.list ts), .val (.list fs), .val x]).W fun d ρ => Fit (k + 3) (mm + 1 + 2) d ∧ ∃ P', Pool P' ∧ ρ = [.io (.list P'), .val (.tuple ds), .val (.list ts), .val (.list fs), .val x]) →
        (compC [4] (.one 4) (evc (callF tb n) .no) (fun ρ => (ev (callF tb n) e ρ).bind fun d ρ => .ok [d] ρ) (rngD 0 j) (St P0 fs)).W fun zs ρ => zs.length ≤ j ∧ (∀ z ∈ zs, Fit (k + 3) (mm + 1 + 2) z) ∧ ∃ P', Pool P' ∧ ρ = St P' fs := by
      intro e j P0 fs hj hP0 he
      refine compC_I (fun ρ => ∃ P', Pool P' ∧ ρ = St P' fs) (Fit (k + 3) (mm + 1 + 2)) rfl ⟨P0, hP0, rfl⟩ (fun x hx1 ρ' h => ?_) ⟨rfl, rfl⟩ (size_big (by rw [rngD, List.length_map, List.length_range]; omega)) fun zs ρ' h hl2 hz => ?_
      · obtain ⟨P', hP', rfl⟩ := h
        show (ev (callF tb n) e [.io (.list P'), .val (.tuple ds), .val (.list ts), .val (.list fs), .val x]).W _
        refine (he P' x hP').imp fun d ρ hd => ?_
        obtain ⟨h1, P2, hP2, rfl⟩ := hd
        exact ⟨h1, rfl, P2, hP2, rfl⟩
      · obtain ⟨P', hP', rfl⟩ := h
        rw [rngD, List.length_map, List.length_range] at hl2
        exact ⟨hl2, hz, P', hP', rfl⟩
    have c1 := fun P0 fs hP0 => cmp (.callp 31 0 (.cons (.v 1) (.cons (.v 2) .nil))) 14 P0 fs (by decide) hP0 (fun P x hP' => by
      simp
      refine changed_W H hk ht h0 h1 (by omega) hP' hv fun d P2 hP2 hd => ?_
      simp
      exact ⟨hd.mono (by omega) (by omega), hP2⟩)
    have c2 := fun P0 fs hP0 => cmp (.callp 30 0 (.cons (.v 1) .nil)) 9 P0 fs (by decide) hP0 (fun P x hP' => by
      simp
      refine swapped_W H hk (by omega) hP' hv fun d P2 hP2 hd => ?_
      simp
      exact ⟨hd.mono (by omega) (by omega), hP2⟩)
    have c3 := fun P0 fs hP0 => cmp (.callp 23 0 (.cons (.v 1) .nil)) 7 P0 fs (by decide) hP0 (fun P x hP' => by
      simp
      refine bent_W H hk (by omega) hP' hv fun d P2 hP2 hd => ?_
      simp
      exact ⟨hd.mono (by omega) (by omega), hP2⟩)
    simp [I_law_bends]
    refine ⟨r14, (c1 P1 fs hP1).imp fun z1 ρ h => ?_⟩
    obtain ⟨l1, f1, P2, hP2, rfl⟩ := h
    have b1 : fs.length + z1.length ≤ sizeLine := size_big (by omega)
    simp [St, b1]
    refine ⟨r9, (c2 P2 fs hP2).imp fun z2 ρ h => ?_⟩
    obtain ⟨l2, f2, P3, hP3, rfl⟩ := h
    have b2 : fs.length + z1.length + z2.length ≤ sizeLine := size_big (by omega)
    have b2' : fs.length + (z1.length + z2.length) ≤ sizeLine := size_big (by omega)
    simp [St, b2, b2']
    refine ⟨r7, (c3 P3 (fs ++ (z1 ++ z2)) hP3).imp fun z3 ρ h => ?_⟩
    obtain ⟨l3, f3, P4, hP4, rfl⟩ := h
    have b3 : fs.length + (z1.length + z2.length) + z3.length ≤ sizeLine := size_big (by omega)
    have b3' : fs.length + (z1.length + (z2.length + z3.length)) ≤ sizeLine := size_big (by omega)
    simp [St, b3, b3']
    refine q _ _ hP4 (by simp; omega) fun x hx => ?_
    simp at hx
    rcases hx with h | h | h | h
    · exact hfx x h
    · exact f1 x h
    · exact f2 x h
    · exact f3 x h
  have ht : ∀ x ∈ thingsD, Fit 3 2 x := by
    have la : Str.length (Str.ofString "a") = 1 := by decide
    have oa : PyData.strOk (Str.ofString "a") = true := ok_str _
    simp [thingsD, fit_tupI, fit_int, fit_none, fit_bool, fit_str, la, oa]
  have st1 : evS (callF tb n) (hdS I_law_bends.body) [.io (.list P), .val (.tuple ds), .un, .un, .un] = .nx [.io (.list P), .val (.tuple ds), .val (.list thingsD), .un, .un] := rfl
  show (evS (callF tb n) (hdS I_law_bends.body) [.io (.list P), .val (.tuple ds), .un, .un, .un]).W _ _
  rw [st1, SW_nx, W_cons]
  have st2 : (evS (callF tb n) (hdS (tlS I_law_bends.body)) [.io (.list P), .val (.tuple ds), .val (.list thingsD), .un, .un]).W (fun ρ => ∃ fs, fs.length ≤ 9 ∧ (∀ x ∈ fs, Fit (k + 3) (mm + 1 + 2) x) ∧ ρ = [.io (.list P), .val (.tuple ds), .val (.list thingsD), .val (.list fs), .un]) (fun _ _ => False) := by
    simp [I_law_bends, s1, s0, s9, z1]
    refine listed_W H hk (j := 1) (by omega) hv fun d1 f1 => ?_
    simp
    refine listed_W H hk (j := 2) (by omega) hv fun d2 f2 => ?_
    simp
    refine booled_W H hk (by omega) hv fun d3 f3 => ?_
    simp [s9, s0]
    refine ⟨fit_lst (by omega) hx', hc _ _, hc _ _, ?_, fit_tup (by simp) (by simp [up]), f1.mono (by omega) (by omega), f2.mono (by omega) (by omega), f3.mono (by omega) (by omega), fit_tup (by simp) (by simp)⟩
    refine fit_tup (by have := @cut_m1 ds; simp; omega) fun x h => ?_
    rcases List.mem_append.mp h with h | h
    · exact hx' x h
    · exact hx' x (cut_mem h)
  refine st2.imp (fun ρ h => ?_) fun _ _ h => h.elim
  obtain ⟨fs, f1, f2, rfl⟩ := h
  exact last thingsD fs P hP ht (by decide) (by decide) f1 f2
theorem bends_W (H : Has tb shared) (H2 : Has tb shared2) {k m n : Nat} (hk : k ≤ 900) (hn : m + 8 ≤ n) {P ds : List D} (hP : Pool P) (hv : Fit k m (.tuple ds)) {Q : Ent → Option D → Prop} (q : ∀ zs P', Pool P' → zs.length ≤ 39 → (∀ z ∈ zs, Fit (k + 3) (m + 2) z) → Q (.val (.list zs)) (some (.list P'))) : (callF tb n 38 [.io (.list P), .val (.tuple ds)]).W Q := bends_Wb H (H2 (38, I_law_bends) (by simp [shared2])) hk hn hP hv q
end
end Ev

set_option Elab.async false
set_option linter.all false
set_option maxRecDepth 100000
set_option autoImplicit false
set_option maxHeartbeats 4000000
/-! Pw6: odd values; balanced words. -/
namespace Ev
open PySem L2
def deepD : Nat → D
  | 0 => .tuple []
  | n + 1 => .tuple [deepD n]
theorem deep_fit {k : Nat} (hk : 1 ≤ k) : ∀ n : Nat, Fit k (n + 1) (deepD n)
  | 0 => fit_tup (Nat.zero_le _) fun x h => nomatch h
  | n + 1 => fit_tup hk fun x h => by rw [List.mem_singleton.mp h]; exact deep_fit hk n
/-- .. and what the laws ask besides -/
def oddOf (d : D) : List D := [d, .tuple [.str "plan", d, d], .none, .int 0, .int 1, .bool true, .bool false, .str "", .str "x", .tuple [], .list [], .dict [], .tuple [.tuple []], .tuple [.tuple [], .tuple []], .tuple [.int 0], .tuple [.int 1, .int 2], .tuple [.str "x"], .tuple [.list []], .dict [(.str "a", .int 1)], .tuple [.none], .tuple [.tuple [.tuple []]], .int (-1)]
def oddD : List D := oddOf (deepD 90)
theorem odd_fit : ∀ x ∈ oddD, Fit 4 95 x ∨ ∃ kvs, x = .dict kvs := by
  have la : Str.length (Str.ofString "plan") = 4 := by decide
  have lb : Str.length (Str.ofString "x") = 1 := by decide
  have lc : Str.length (Str.ofString "") = 0 := by decide
  have oa : PyData.strOk (Str.ofString "plan") = true := ok_str _
  have ob : PyData.strOk (Str.ofString "x") = true := ok_str _
  have oc : PyData.strOk (Str.ofString "") = true := ok_str _
  have d1 : Fit 4 95 (deepD 90) := (deep_fit (by decide) 90).mono (Nat.le_refl _) (by decide)
  have d2 : Fit 4 94 (deepD 90) := (deep_fit (by decide) 90).mono (Nat.le_refl _) (by decide)
  unfold oddD oddOf
  intro x hx
  simp only [List.mem_cons, List.not_mem_nil, or_false] at hx
  rcases hx with rfl | rfl | rfl | rfl | rfl | rfl | rfl | rfl | rfl | rfl | rfl | rfl | rfl | rfl | rfl | rfl | rfl | rfl | rfl | rfl | rfl | rfl
  · exact .inl d1
  · exact .inl (fit_tup (by decide) (by simp [d2, fit_str, la, oa]))
  · exact .inl fit_none
  · exact .inl fit_int
  · exact .inl fit_int
  · exact .inl fit_bool
  · exact .inl fit_bool
  · exact .inl (fit_str (by decide) (ok_str _))
  · exact .inl (fit_str (by decide) (ok_str _))
  · exact .inl (fit_tup (by decide) (by simp))
  · exact .inl (fit_lst (by decide) (by simp))
  · exact .inr ⟨_, rfl⟩
  · exact .inl (fit_tup (by decide) (by simp [fit_tupI]))
  · exact .inl (fit_tup (by decide) (by simp [fit_tupI]))
  · exact .inl (fit_tup (by decide) (by simp [fit_int]))
  · exact .inl (fit_tup (by decide) (by simp [fit_int]))
  · exact .inl (fit_tup (by decide) (by simp [fit_str, lb, ob]))
  · exact .inl (fit_tup (by decide) (by simp [fit_lstI]))
  · exact .inr ⟨_, rfl⟩
  · exact .inl (fit_tup (by decide) (by simp [fit_none]))
  · exact .inl (fit_tup (by decide) (by simp [fit_tupI]))
  · exact .inl fit_int
section
variable {tb : Nat → Option Fn}
theorem odd_run {cl : Nat → List Ent → CRes} : evSs cl I_law_odd_values.body [.un, .un] = .rt (.val (.list oddD)) [.val (deepD 90), .val (.int 89)] := by kernel_rfl
theorem odd_W (H : Has tb shared) {n : Nat} (hn : 1 ≤ n) {Q : Ent → Option D → Prop} (q : Q (.val (.list oddD)) none) : (callF tb n 26 []).W Q := by
  obtain ⟨m, rfl, hm⟩ := succ_of hn
  refine callF_W (H (26, I_law_odd_values) (by simp [shared])) ⟨rfl, rfl⟩ ?_
  have e : evSs (callF tb m) I_law_odd_values.body ([] ++ List.replicate (I_law_odd_values.names.length - I_law_odd_values.params) .un) = .rt (.val (.list oddD)) [.val (deepD 90), .val (.int 89)] := odd_run
  rw [e]
  exact q
end
/-! ### balanced words -/
/-- from height h down to the ground -/
def DW : Nat → List Int → Prop
  | h, [] => h = 0
  | h, x :: w => (x = 0 ∧ DW (h + 1) w) ∨ (x = 1 ∧ ∃ g, h = g + 1 ∧ DW g w)
/-- a word that leads from the ground to h -/
inductive Up : List Int → Nat → Prop
  | nil : Up [] 0
  | up {p : List Int} {h : Nat} : Up p h → Up (p ++ [0]) (h + 1)
  | down {p : List Int} {h : Nat} : Up p (h + 1) → Up (p ++ [1]) h
theorem Up.dw {p : List Int} {h : Nat} (u : Up p h) : ∀ {w : List Int}, DW h w → DW 0 (p ++ w) := by
  induction u with
  | nil => exact fun h => h
  | up _ ih => intro w hw; rw [List.append_assoc]; exact ih (.inl ⟨rfl, hw⟩)
  | down _ ih => intro w hw; rw [List.append_assoc]; exact ih (.inr ⟨rfl, _, rfl, hw⟩)
def nio : Ent → Bool
  | .io _ => false
  | _ => true
theorem put0_nio {e e' : Ent} {r : Rho} (h : nio e = true) : Rho.put (e :: r) 0 e' = some (e' :: r) := by cases e <;> first | rfl | cases h
@[simp] theorem nio_val {d : D} : nio (.val d) = true := rfl
@[simp] theorem nio_un : nio .un = true := rfl
@[simp] theorem nio_own {d : D} : nio (.own d) = true := rfl
theorem rng3_step {L : Nat} : (List.range (L + 1)).map (fun i : Nat => PyData.int (((L + 1 : Nat) : Int) - (i : Nat))) = .int ((L : Int) + 1) :: (List.range L).map (fun i : Nat => PyData.int ((L : Int) - (i : Nat))) := by
  rw [List.range_succ_eq_map, List.map_cons, List.map_map]
  congr 1
  apply List.map_congr_left
  intro i _
  show PyData.int _ = PyData.int _
  congr 1
  omega
/-- the state within brackets' loop -/
def BrSt (most many : Nat) (P : List D) (p : List Int) (h : Nat) (k sg : Ent) : Rho := [.io (.list P), .val (.int most), .val (.int many), .val (.tuple (p.map .int)), .val (.int h), k, sg]
def BrInv (most many : Nat) (xs : List D) (ρ : Rho) : Prop := ∃ (L : Nat) (P' : List D) (p : List Int) (h : Nat) (k sg : Ent), L ≤ 2 * many ∧ xs = (List.range L).map (fun i : Nat => .int ((L : Int) - (i : Nat))) ∧ Pool P' ∧ Up p h ∧ h ≤ L ∧ (L - h) % 2 = 0 ∧ p.length + L = 2 * many ∧ nio k = true ∧ nio sg = true ∧ ρ = BrSt most many P' p h k sg
section
variable {tb : Nat → Option Fn}
theorem brackets_Wb (H : Has tb shared) (hb : tb 34 = some I_law_brackets) {n : Nat} (hn : 3 ≤ n) {P : List D} {most : Nat} (hm : most ≤ 100) (hP : Pool P) {Q : Ent → Option D → Prop} (q : ∀ (w : List Int) P', Pool P' → DW 0 w → w.length ≤ 2 * most → Q (.val (.tuple (w.map .int))) (some (.list P'))) : (callF tb n 34 [.io (.list P), .val (.int most)]).W Q := by
  obtain ⟨n, rfl, hn'⟩ := succ_of hn
  refine callF_W hb ⟨rfl, rfl⟩ ?_
  have s0 : 0 ≤ sizeLine := by decide
  have s1 : 1 ≤ sizeLine := by decide
  simp [I_law_brackets, s0, s1]
  refine draw_n (k := most + 1) H (by omega) hP (by omega) (by omega) fun many P1 hP1 hmany => ?_
  have m1 : mulOk 2 (many : Int) = true := mulOk_r (by omega)
  simp [m1]
  refine ⟨⟨inR_nat (j := 2 * many) (by omega) (.inr rfl), inR_nat (j := 0) (by decide) (.inr rfl), by omega⟩, ?_⟩
  have e0 : (2 * (many : Int)).toNat = 2 * many := by omega
  rw [e0, show (2 * (many : Int)) = ((2 * many : Nat) : Int) by omega]
  refine loopF_W (BrInv most many) ⟨2 * many, P1, [], 0, .un, .un, Nat.le_refl _, rfl, hP1, .nil, by omega, by omega, by simp, rfl, rfl, rfl⟩ ?_ ?_
  · rintro x xs ρ ⟨L, P', p, h, k, sg, hL, ex, hP', up, hh, par, len, hk, hsg, rfl⟩
    cases L with
    | zero => simp at ex
    | succ L =>
      rw [rng3_step] at ex
      obtain ⟨rfl, rfl⟩ := List.cons.inj ex
      have sz : p.length + 1 ≤ sizeLine := size_big (by omega)
      have m2 : mulOk 2 (0 : Int) = true := mulOk_r (by omega)
      have m3 : mulOk 2 (1 : Int) = true := mulOk_r (by omega)
      have t0 : ∀ P2, Pool P2 → h + 1 ≤ L → BrInv most many ((List.range L).map (fun i : Nat => PyData.int ((L : Int) - (i : Nat)))) [.io (.list P2), .val (.int most), .val (.int many), .val (.tuple (p.map .int ++ [.int 0])), .val (.int ((h : Int) + 1)), .val (.int ((L : Int) + 1)), .val (.int 0)] := fun P2 hP2 hl =>
        ⟨L, P2, p ++ [0], h + 1, _, _, by omega, rfl, hP2, up.up, hl, by omega, by simp; omega, rfl, rfl, by simp [BrSt]; exact ⟨rfl, rfl⟩⟩
      have t1 : ∀ P2, Pool P2 → 0 < h → BrInv most many ((List.range L).map (fun i : Nat => PyData.int ((L : Int) - (i : Nat)))) [.io (.list P2), .val (.int most), .val (.int many), .val (.tuple (p.map .int ++ [.int 1])), .val (.int ((h : Int) + 1 - 2)), .val (.int ((L : Int) + 1)), .val (.int 1)] := fun P2 hP2 hl => by
        obtain ⟨g, rfl⟩ : ∃ g, h = g + 1 := ⟨h - 1, by omega⟩
        exact ⟨L, P2, p ++ [1], g, _, _, by omega, rfl, hP2, up.down, by omega, by omega, by simp; omega, rfl, rfl, by simp [BrSt]; exact ⟨by omega, rfl, rfl⟩⟩
      simp [BrSt, put0_nio, hk, hsg, s1, sz, m2, m3]
      split
      · exact t0 _ hP' (by omega)
      · split
        · refine draw_n (k := 5) H (by omega) hP' (by omega) (by omega) fun j P2 hP2 hj => ?_
          simp
          split
          · exact t0 _ hP2 (by omega)
          · exact t1 _ hP2 (by omega)
        · exact t1 _ hP' (by omega)
  · rintro ρ ⟨L, P', p, h, k, sg, hL, ex, hP', up, hh, par, len, hk, hsg, rfl⟩
    have : L = 0 := by cases L with
      | zero => rfl
      | succ L => rw [List.range_succ_eq_map] at ex; cases ex
    subst this
    have : h = 0 := by omega
    subst this
    have := up.dw (w := []) rfl
    rw [List.append_nil] at this
    simp [BrSt]
    exact q p P' hP' this (by omega)
theorem brackets_W (H : Has tb shared) (H2 : Has tb shared2) {n : Nat} (hn : 3 ≤ n) {P : List D} {most : Nat} (hm : most ≤ 100) (hP : Pool P) {Q : Ent → Option D → Prop} (q : ∀ (w : List Int) P', Pool P' → DW 0 w → w.length ≤ 2 * most → Q (.val (.tuple (w.map .int))) (some (.list P'))) : (callF tb n 34 [.io (.list P), .val (.int most)]).W Q := brackets_Wb H (H2 (34, I_law_brackets) (by simp [shared2])) hn hm hP q
end
end Ev

set_option Elab.async false
set_option linter.all false
set_option maxRecDepth 100000
set_option autoImplicit false
/-! Kev5: a law's own def: what is drawn. -/
namespace Ev
open PySem L2
abbrev ClP := Nat → D → List D → (D → D → Prop) → Prop
def PoolD (p : D) : Prop := ∃ P, p = .list P ∧ Pool P
def wDraw (p : D) (ds : List D) (k : D → D → Prop) : Prop := PoolD p ∧ ∃ m : Int, ds = [.int m] ∧ 0 < m ∧ m ≤ 1000 ∧ ∀ (j : Nat) p', PoolD p' → (j : Int) < m → k (.int j) p'
def wPick (p : D) (ds : List D) (k : D → D → Prop) : Prop := PoolD p ∧ ∃ xs, (ds = [.list xs] ∨ ds = [.tuple xs]) ∧ 0 < xs.length ∧ xs.length ≤ 100000 ∧ ∀ x p', PoolD p' → x ∈ xs → k x p'
def wBrk (p : D) (ds : List D) (k : D → D → Prop) : Prop := PoolD p ∧ ∃ m : Int, ds = [.int m] ∧ 0 ≤ m ∧ m ≤ 100 ∧ ∀ (w : List Int) p', PoolD p' → DW 0 w → (w.length : Int) ≤ 2 * m → k (.tuple (w.map .int)) p'
def wBends (p : D) (ds : List D) (k : D → D → Prop) : Prop := PoolD p ∧ ∃ (xs : List D) (K m : Nat), ds = [.tuple xs] ∧ Fit K m (.tuple xs) ∧ K ≤ 900 ∧ m ≤ 100 ∧ ∀ zs p', PoolD p' → zs.length ≤ 39 → (∀ z ∈ zs, Fit (K + 3) (m + 2) z) → k (.list zs) p'
def clpP (f : Nat) (p : D) (ds : List D) (k : D → D → Prop) : Prop := if f = 21 then wDraw p ds k else if f = 22 then wPick p ds k else if f = 34 then wBrk p ds k else if f = 38 then wBends p ds k else False
section
variable {p : D} {k : D → D → Prop}
theorem clp_draw {m : Int} (hp : PoolD p) (h0 : 0 < m) (h1 : m ≤ 1000) (q : ∀ (j : Nat) p', PoolD p' → (j : Int) < m → k (.int j) p') : clpP 21 p [.int m] k := ⟨hp, m, rfl, h0, h1, q⟩
theorem clp_pickL {xs : List D} (hp : PoolD p) (h0 : 0 < xs.length) (h1 : xs.length ≤ 100000) (q : ∀ x p', PoolD p' → x ∈ xs → k x p') : clpP 22 p [.list xs] k := ⟨hp, xs, .inl rfl, h0, h1, q⟩
theorem clp_pickT {xs : List D} (hp : PoolD p) (h0 : 0 < xs.length) (h1 : xs.length ≤ 100000) (q : ∀ x p', PoolD p' → x ∈ xs → k x p') : clpP 22 p [.tuple xs] k := ⟨hp, xs, .inr rfl, h0, h1, q⟩
theorem clp_brk {m : Int} (hp : PoolD p) (h0 : 0 ≤ m) (h1 : m ≤ 100) (q : ∀ (w : List Int) p', PoolD p' → DW 0 w → (w.length : Int) ≤ 2 * m → k (.tuple (w.map .int)) p') : clpP 34 p [.int m] k := ⟨hp, m, rfl, h0, h1, q⟩
theorem clp_bends {xs : List D} {K m : Nat} (hp : PoolD p) (hf : Fit K m (.tuple xs)) (h0 : K ≤ 900) (h1 : m ≤ 100) (q : ∀ zs p', PoolD p' → zs.length ≤ 39 → (∀ z ∈ zs, Fit (K + 3) (m + 2) z) → k (.list zs) p') : clpP 38 p [.tuple xs] k := ⟨hp, xs, K, m, rfl, hf, h0, h1, q⟩
end
def drawFns : List (Nat × Fn) := shared ++ [(34, I_law_brackets), (38, I_law_bends)]
theorem hclp {tb : Nat → Option Fn} {n : Nat} (H : Has tb shared) (h34 : tb 34 = some I_law_brackets) (h38 : tb 38 = some I_law_bends) (hn : 120 ≤ n) : Hclp (callF tb n) clpP id := fun f p ds k g => by
  have g : clpP f p ds k := g
  unfold clpP at g
  split at g
  · rename_i e; subst e
    obtain ⟨⟨P, rfl, hP⟩, m, rfl, h0, h1, q⟩ := g
    obtain ⟨e, o, e1, d, p', e2, e3, e4⟩ := (draw_W (n := n) (Q := fun e o => ∃ d p', e = .val d ∧ o = some p' ∧ k d p') H (by omega) hP h0 (by omega) fun d P' hP' a b => by
      obtain ⟨j, rfl⟩ : ∃ j : Nat, d = j := ⟨d.toNat, by omega⟩
      exact ⟨_, _, rfl, rfl, q j _ ⟨P', rfl, hP'⟩ b⟩).ex
    subst e2 e3
    exact ⟨P, rfl, d, p', e1, e4⟩
  · split at g
    · rename_i e; subst e
      obtain ⟨⟨P, rfl, hP⟩, xs, hx, h0, h1, q⟩ := g
      have : ∃ v, ds = [v] ∧ (v = .list xs ∨ v = .tuple xs) := by
        rcases hx with h | h <;> exact ⟨_, h, by simp⟩
      obtain ⟨v, rfl, hv⟩ := this
      obtain ⟨e, o, e1, d, p', e2, e3, e4⟩ := (pick_W (n := n) (Q := fun e o => ∃ d p', e = .val d ∧ o = some p' ∧ k d p') H (by omega) hv hP h0 (by omega) fun x P' hP' a => ⟨_, _, rfl, rfl, q x _ ⟨P', rfl, hP'⟩ a⟩).ex
      subst e2 e3
      exact ⟨P, rfl, d, p', e1, e4⟩
    · split at g
      · rename_i e; subst e
        obtain ⟨⟨P, rfl, hP⟩, m, rfl, h0, h1, q⟩ := g
        obtain ⟨j, rfl⟩ : ∃ j : Nat, m = j := ⟨m.toNat, by omega⟩
        obtain ⟨e, o, e1, d, p', e2, e3, e4⟩ := (brackets_Wb (n := n) (most := j) (Q := fun e o => ∃ d p', e = .val d ∧ o = some p' ∧ k d p') H h34 (by omega) (by omega) hP fun w P' hP' a b => ⟨_, _, rfl, rfl, q w _ ⟨P', rfl, hP'⟩ a (by omega)⟩).ex
        subst e2 e3
        exact ⟨P, rfl, d, p', e1, e4⟩
      · split at g
        · rename_i e; subst e
          obtain ⟨⟨P, rfl, hP⟩, xs, K, m, rfl, hf, h0, h1, q⟩ := g
          obtain ⟨e, o, e1, d, p', e2, e3, e4⟩ := (bends_Wb (n := n) (Q := fun e o => ∃ d p', e = .val d ∧ o = some p' ∧ k d p') H h38 h0 (by omega) hP hf fun zs P' hP' a b => ⟨_, _, rfl, rfl, q zs _ ⟨P', rfl, hP'⟩ a b⟩).ex
          subst e2 e3
          exact ⟨P, rfl, d, p', e1, e4⟩
        · exact g.elim
/-- the law's own call: the pool first, the rest as read plainly -/
theorem main_pool {tb : Nat → Option Fn} {ow : Nat → Bool} {n f j : Nat} {fn : Fn} {rest : Ss} {cl : Nat → List D → Rs D} (e : tb f = some fn) (hio : fn.io = false ∧ fn.params = 1 ∧ fn.names.length = j + 2) (hb : fn.body = .cons (.new 1 (.callo 40 (.cons (.v 0) .nil))) rest)
    (H : Has tb shared) (h34 : tb 34 = some I_law_brackets) (h38 : tb 38 = some I_law_bends) (hn : 120 ≤ n) (ih : Hcl (callF tb n) cl ow) {ns : List Int} (hl : ns.length ≤ 63)
    (g : ∀ P, PoolD P → kSs False cl clpP ow rest (fun _ => False) (fun e => e = .val (.bool true)) (fun _ _ => False) ([.val (.list (ns.map .int)), .own P] ++ List.replicate j .un) (fun _ => False)) : ∃ o, callF tb (n + 1) f [.val (.list (ns.map PyData.int))] = .ok (.val (.bool true)) o := by
  obtain ⟨en, o, e1, P, hP, rfl⟩ := (pool_W (n := n) (Q := fun e o => ∃ P, Pool P ∧ e = .own (.list P)) H (by omega) hl fun P hP => ⟨P, hP, rfl⟩).ex
  have w := kSs_ok (good := id) ih (hclp H h34 h38 hn) (fun z => z) rest _ _ _ _ _ (g (.list P) ⟨P, rfl, hP⟩)
  have hlen : fn.names.length - fn.params = j + 1 := by omega
  unfold callF
  rw [e]
  dsimp only
  rw [if_pos ⟨by rw [hio.2.1]; rfl, by rw [hio.1]; rfl⟩, hb, hlen]
  have first : evS (callF tb n) (.new 1 (.callo 40 (.cons (.v 0) .nil))) ([.val (.list (ns.map PyData.int))] ++ List.replicate (j + 1) .un) = .nx ([.val (.list (ns.map .int)), .own (.list P)] ++ List.replicate j .un) := by
    show R.sb (CRes.valO (callF tb n 40 [.val (.list (ns.map .int))]) _) _ = _
    rw [e1]
    rfl
  have sec : evSs (callF tb n) (.cons (.new 1 (.callo 40 (.cons (.v 0) .nil))) rest) ([.val (.list (ns.map PyData.int))] ++ List.replicate (j + 1) .un) = evSs (callF tb n) rest ([.val (.list (ns.map .int)), .own (.list P)] ++ List.replicate j .un) := by
    show (evS (callF tb n) _ _).nb _ = _
    rw [first]
    rfl
  rw [sec]
  cases e2 : evSs (callF tb n) rest ([.val (.list (ns.map .int)), .own (.list P)] ++ List.replicate j .un) with
  | rt en ρ =>
    rw [e2] at w
    have w : en = .val (.bool true) := w
    subst w
    exact ⟨_, rfl⟩
  | nx ρ => rw [e2] at w; exact w.elim
  | bk ρ => rw [e2] at w; exact w.elim
  | ct ρ => rw [e2] at w; exact w.elim
  | ex x ρ => rw [e2] at w; exact w.elim
  | no => rw [e2] at w; exact w.elim
def s_law_odd_values : Rs D := .ok (.list oddD)
theorem e_odd {tb : Nat → Option Fn} {ow : Nat → Bool} (hb : tb 26 = some I_law_odd_values) (ho : ow 26 = false) {n : Nat} (hn : 1 ≤ n) : ∀ ds, Cl (callF tb n) ow 26 ds (u0 s_law_odd_values ds) := fun ds => by
  obtain ⟨m, rfl⟩ : ∃ m, n = m + 1 := ⟨n - 1, by omega⟩
  cases ds with
  | cons d ds => trivial
  | nil =>
    show callF tb (m + 1) 26 [] = .ok (if ow 26 = true then _ else _) none
    rw [ho]
    unfold callF
    rw [hb]
    dsimp only
    rw [if_pos ⟨rfl, rfl⟩]
    have e : evSs (callF tb m) I_law_odd_values.body ([] ++ List.replicate (I_law_odd_values.names.length - I_law_odd_values.params) .un) = .rt (.val (.list oddD)) [.val (deepD 90), .val (.int 89)] := odd_run
    rw [e]
    rfl
end Ev

set_option Elab.async false
set_option linter.all false
set_option maxRecDepth 100000
set_option autoImplicit false
set_option maxHeartbeats 4000000
/-! Pw7: comprehensions by values; the small helpers of the program and the laws. -/
namespace Ev
open PySem L2
theorem CRes.W.eq {r : CRes} {e : Ent} {o : Option D} (h : r.W fun e' o' => e' = e ∧ o' = o) : r = .ok e o := by
  obtain ⟨e', o', q, rfl, rfl⟩ := h.ex
  exact q
theorem R.W.eq {α : Type} {r : R α} {a : α} {ρ : Rho} (h : r.W fun a' ρ' => a' = a ∧ ρ' = ρ) : r = .ok a ρ := by
  obtain ⟨a', ρ', q, rfl, rfl⟩ := h.ex
  exact q
section
variable {own : List Nat} {t : Tgt} {c : Rho → R Bool} {b : Rho → R D} {ρ : Rho} {Q : List D → Rho → Prop}
/-- a comprehension whose parts change nothing -/
theorem compC_P (g : D → D) (p : D → Bool) (st : D → Rho) {xs : List D} (hp : plainAt ρ own = true)
    (h1 : ∀ x ∈ xs, t.set x (wipeR ρ own) = some (st x)) (h4 : ∀ x ∈ xs, plainAt (st x) own = true ∧ wipeR (st x) own = wipeR ρ own)
    (h2 : ∀ x ∈ xs, (c (st x)).W fun k ρ' => k = p x ∧ ρ' = st x) (h3 : ∀ x ∈ xs, p x = true → (b (st x)).W fun d ρ' => d = g x ∧ ρ' = st x)
    (hb : plainAt (wipeR ρ own) own = true ∧ wipeR (wipeR ρ own) own = wipeR ρ own ∧ backR ρ (wipeR ρ own) own = ρ) (hl : xs.length ≤ sizeLine) (q : Q ((xs.filter p).map g) ρ) : (compC own t c (fun ρ => (b ρ).bind fun d ρ => .ok [d] ρ) xs ρ).W Q :=
  compC_W g p st hp h1 h4 (fun x hx => (h2 x hx).eq) (fun x hx hp => (h3 x hx hp).eq) hb hl q
/-- .. without a test -/
theorem compC_M (g : D → D) (st : D → Rho) {cl : Nat → List Ent → CRes} {xs : List D} (hp : plainAt ρ own = true)
    (h1 : ∀ x ∈ xs, t.set x (wipeR ρ own) = some (st x)) (h4 : ∀ x ∈ xs, plainAt (st x) own = true ∧ wipeR (st x) own = wipeR ρ own)
    (h3 : ∀ x ∈ xs, (b (st x)).W fun d ρ' => d = g x ∧ ρ' = st x)
    (hb : plainAt (wipeR ρ own) own = true ∧ wipeR (wipeR ρ own) own = wipeR ρ own ∧ backR ρ (wipeR ρ own) own = ρ) (hl : xs.length ≤ sizeLine) (q : Q (xs.map g) ρ) : (compC own t (evc cl .no) (fun ρ => (b ρ).bind fun d ρ => .ok [d] ρ) xs ρ).W Q :=
  compC_P g (fun _ => true) st hp h1 h4 (fun x hx => ⟨rfl, rfl⟩) (fun x hx _ => h3 x hx) hb hl (by rwa [List.filter_eq_self.mpr (by simp)])
theorem rngD0 {n : Nat} : rngD 0 n = (List.range n).map fun i : Nat => PyData.int (i : Nat) := by
  unfold rngD
  apply List.map_congr_left
  intro i _
  show PyData.int (0 + (i : Int)) = _
  rw [Int.zero_add]
def natOf : D → Nat
  | .int i => i.toNat
  | _ => 0
/-- .. over a range -/
theorem compR_P (g : Nat → D) (p : Nat → Bool) (st : Nat → Rho) {n : Nat} (hp : plainAt ρ own = true)
    (h1 : ∀ i, i < n → t.set (.int (i : Nat)) (wipeR ρ own) = some (st i)) (h4 : ∀ i, i < n → plainAt (st i) own = true ∧ wipeR (st i) own = wipeR ρ own)
    (h2 : ∀ i, i < n → (c (st i)).W fun k ρ' => k = p i ∧ ρ' = st i) (h3 : ∀ i, i < n → p i = true → (b (st i)).W fun d ρ' => d = g i ∧ ρ' = st i)
    (hb : plainAt (wipeR ρ own) own = true ∧ wipeR (wipeR ρ own) own = wipeR ρ own ∧ backR ρ (wipeR ρ own) own = ρ) (hl : n ≤ sizeLine) (q : Q (((List.range n).filter p).map g) ρ) : (compC own t c (fun ρ => (b ρ).bind fun d ρ => .ok [d] ρ) (rngD 0 n) ρ).W Q := by
  rw [rngD0]
  have nat : ∀ i : Nat, natOf (.int (i : Nat)) = i := fun i => by simp [natOf]
  refine compC_P (fun x => g (natOf x)) (fun x => p (natOf x)) (fun x => st (natOf x)) hp ?_ ?_ ?_ ?_ hb (by simpa using hl) ?_
  · intro x hx
    obtain ⟨i, hi, rfl⟩ := List.mem_map.mp hx
    rw [nat]; exact h1 i (List.mem_range.mp hi)
  · intro x hx
    obtain ⟨i, hi, rfl⟩ := List.mem_map.mp hx
    rw [nat]; exact h4 i (List.mem_range.mp hi)
  · intro x hx
    obtain ⟨i, hi, rfl⟩ := List.mem_map.mp hx
    rw [nat]; exact h2 i (List.mem_range.mp hi)
  · intro x hx hp
    obtain ⟨i, hi, rfl⟩ := List.mem_map.mp hx
    rw [nat] at hp ⊢; exact h3 i (List.mem_range.mp hi) hp
  · rw [List.filter_map, List.map_map]
    have e1 : ((fun x => p (natOf x)) ∘ fun i : Nat => PyData.int (i : Nat)) = p := funext fun i => by show p _ = _; rw [nat]
    have e2 : ((fun x => g (natOf x)) ∘ fun i : Nat => PyData.int (i : Nat)) = g := funext fun i => by show g _ = _; rw [nat]
    rw [e1, e2]
    exact q
theorem compR_M (g : Nat → D) (st : Nat → Rho) {cl : Nat → List Ent → CRes} {n : Nat} (hp : plainAt ρ own = true)
    (h1 : ∀ i, i < n → t.set (.int (i : Nat)) (wipeR ρ own) = some (st i)) (h4 : ∀ i, i < n → plainAt (st i) own = true ∧ wipeR (st i) own = wipeR ρ own)
    (h3 : ∀ i, i < n → (b (st i)).W fun d ρ' => d = g i ∧ ρ' = st i)
    (hb : plainAt (wipeR ρ own) own = true ∧ wipeR (wipeR ρ own) own = wipeR ρ own ∧ backR ρ (wipeR ρ own) own = ρ) (hl : n ≤ sizeLine) (q : Q ((List.range n).map g) ρ) : (compC own t (evc cl .no) (fun ρ => (b ρ).bind fun d ρ => .ok [d] ρ) (rngD 0 n) ρ).W Q :=
  compR_P g (fun _ => true) st hp h1 h4 (fun x hx => ⟨rfl, rfl⟩) (fun x hx _ => h3 x hx) hb hl (by rwa [List.filter_eq_self.mpr (by simp)])
end
theorem toBools_map {α : Type} (f : α → Bool) : ∀ l : List α, toBools (l.map fun x => .bool (f x)) = some (l.map f)
  | [] => rfl
  | x :: l => by show (toBools (l.map _)).map _ = _; rw [toBools_map f l]; rfl
theorem toInts_map {α : Type} (f : α → Int) : ∀ l : List α, toInts (l.map fun x => .int (f x)) = some (l.map f)
  | [] => rfl
  | x :: l => by show (toInts (l.map _)).map _ = _; rw [toInts_map f l]; rfl
theorem inR_int {k : Nat} {j : Int} (h0 : -100000 ≤ j) (h : j ≤ 100000) (hk : k = 62 ∨ k = 61) : inR k j := by
  unfold inR
  rcases hk with rfl | rfl <;> omega
theorem all_map {α : Type} (f : α → Bool) (l : List α) : (l.map f).all id = l.all f := by rw [List.all_map]; rfl
/-! ### the program's forms -/
def inRow (lo hi : Int) : D → Bool
  | .int i => decide (lo ≤ i) && decide (i ≤ hi)
  | _ => false
def isRow : D → Bool
  | .tuple ds => decide (ds.length ≤ 1000) && ds.all (inRow 0 1000)
  | _ => false
/-- the first number of a range at which something holds -/
def fstD (n : Nat) (p : Nat → Bool) : D := match (List.range n).find? p with
  | some k => .int (k : Nat)
  | none => .none
def firstOf : List D → D
  | [] => .none
  | x :: xs => if isNoneD x = true then firstOf xs else x
def faultAt (w : String) (x : D) : D := if isNoneD x = true then .none else .tuple [.str w, x]
def shared3 : List (Nat × Fn) := [(0, I_is_whole), (1, I_is_from), (2, I_is_row), (3, I_first_true), (41, I_fault_at), (526, I_first_of_13)]
def shared4 : List (Nat × Fn) := [(27, I_law_is_row), (28, I_law_least), (29, I_law_first), (120, I_law_small_row)]
section
variable {tb : Nat → Option Fn} {n : Nat} {Q : Ent → Option D → Prop}
theorem whole_W (hb : tb 0 = some I_is_whole) (hn : 1 ≤ n) {v : D} (q : Q (.val (.bool (isInt v))) none) : (callF tb n 0 [.val v]).W Q := by
  obtain ⟨m, rfl, hm⟩ := succ_of hn
  refine callF_W hb ⟨rfl, rfl⟩ ?_
  cases v <;> simpa [I_is_whole, isTy, isInt] using q
theorem from_W (H : Has tb shared3) (hn : 2 ≤ n) {v : D} {lo hi : Int} (q : Q (.val (.bool (inRow lo hi v))) none) : (callF tb n 1 [.val v, .val (.int lo), .val (.int hi)]).W Q := by
  obtain ⟨m, rfl, hm⟩ := succ_of hn
  refine callF_W (H (1, I_is_from) (by simp [shared3])) ⟨rfl, rfl⟩ ?_
  simp [I_is_from]
  refine whole_W (H (0, I_is_whole) (by simp [shared3])) (by omega) ?_
  cases v with
  | int i =>
    simp [isInt]
    by_cases h : lo ≤ i
    · simp [h]; simpa [inRow, h] using q
    · simp [h]; simpa [inRow, h] using q
  | _ => simpa [isInt, inRow] using q
theorem row_W (H : Has tb shared3) (hn : 3 ≤ n) {v : D} (q : Q (.val (.bool (isRow v))) none) : (callF tb n 2 [.val v]).W Q := by
  obtain ⟨m, rfl, hm⟩ := succ_of hn
  refine callF_W (H (2, I_is_row) (by simp [shared3])) ⟨rfl, rfl⟩ ?_
  cases v with
  | tuple ds =>
    simp [I_is_row]
    by_cases h : ds.length ≤ 1000
    · have h' : (ds.length : Int) ≤ 1000 := by omega
      simp [h']
      refine compC_M (fun x => .bool (inRow 0 1000 x)) (fun x => [.val (.tuple ds), .val x]) rfl (fun x hx => rfl) (fun x hx => ⟨rfl, rfl⟩) (fun x hx => ?_) ⟨rfl, rfl, rfl⟩ (size_big (by omega)) ?_
      · simp
        refine from_W H (by omega) ?_
        simp
      · simp [p1F, toBools_map]
        simpa [isRow, h, all_map] using q
    · have h' : ¬ (ds.length : Int) ≤ 1000 := by omega
      simp [h']
      simpa [isRow, h] using q
  | _ => simpa [I_is_row, isRow] using q
theorem find_none {n : Nat} {p : Nat → Bool} (h : ∀ i, i < n → p i = false) : (List.range n).find? p = none := by
  rw [List.find?_eq_none]
  intro i hi
  rw [h i (List.mem_range.mp hi)]
  decide
theorem find_some {n k : Nat} {p : Nat → Bool} (hk : k < n) (hp : p k = true) (h : ∀ i, i < k → p i = false) : (List.range n).find? p = some k := by
  rw [List.find?_range_eq_some]
  exact ⟨hp, List.mem_range.mpr hk, fun j hj => by rw [h j hj]; rfl⟩
theorem fst_none {n : Nat} {p : Nat → Bool} (h : ∀ i, i < n → p i = false) : fstD n p = .none := by unfold fstD; rw [find_none h]
theorem fst_some {n k : Nat} {p : Nat → Bool} (hk : k < n) (hp : p k = true) (h : ∀ i, i < k → p i = false) : fstD n p = .int (k : Nat) := by unfold fstD; rw [find_some hk hp h]
theorem fst_cases (n : Nat) (p : Nat → Bool) : (fstD n p = .none ∧ ∀ i, i < n → p i = false) ∨ ∃ k, k < n ∧ p k = true ∧ (∀ i, i < k → p i = false) ∧ fstD n p = .int (k : Nat) := by
  unfold fstD
  cases e : (List.range n).find? p with
  | none =>
    refine .inl ⟨rfl, fun i hi => ?_⟩
    have := List.find?_eq_none.mp e i (List.mem_range.mpr hi)
    simpa using this
  | some k =>
    obtain ⟨h1, h2, h3⟩ := List.find?_range_eq_some.mp e
    exact .inr ⟨k, List.mem_range.mp h2, h1, fun i hi => by simpa using h3 i hi, rfl⟩
def FtInv (v : D) (len : Nat) (p : Nat → Bool) (xs : List D) (ρ : Rho) : Prop := ∃ (j : Nat) (k : Ent), j ≤ len ∧ xs = (List.range' j (len - j)).map (fun i : Nat => .int (i : Nat)) ∧ (∀ i, i < j → p i = false) ∧ nio k = true ∧ ρ = [.val v, k]
theorem range'_step {j n : Nat} (h : j < n) : List.range' j (n - j) = j :: List.range' (j + 1) (n - (j + 1)) := by
  rw [show n - j = (n - (j + 1)) + 1 by omega, List.range'_succ]
theorem first_true_W (H : Has tb shared3) (hn : 1 ≤ n) {k : Nat} {p : Nat → Bool} (hk : k ≤ 1001) (q : Q (.val (fstD k p)) none) : (callF tb n 3 [.val (.list ((List.range k).map fun i => .bool (p i)))]).W Q := by
  obtain ⟨m, rfl, hm⟩ := succ_of hn
  refine callF_W (H (3, I_first_true) (by simp [shared3])) ⟨rfl, rfl⟩ ?_
  generalize hv : PyData.list ((List.range k).map fun i => .bool (p i)) = v
  have ev : p1F .len v = some (.int (k : Nat)) := by rw [← hv]; simp [p1F]
  have ei : ∀ j, j < k → idxF v (.int (j : Nat)) = some (.bool (p j)) := fun j hj => by
    rw [← hv]
    show atI _ _ = _
    rw [atI_lt (by simpa using hj)]
    simp
  simp [I_first_true, ev]
  refine ⟨inR_nat (by omega) (.inl rfl), ?_⟩
  rw [rngD0]
  refine loopF_W (FtInv v k p) ⟨0, .un, by omega, by rw [List.range_eq_range']; simp, by omega, rfl, rfl⟩ ?_ ?_
  · rintro x xs ρ ⟨j, e, hj, ex, hp, he, rfl⟩
    by_cases hjk : j < k
    · rw [range'_step hjk] at ex
      obtain ⟨rfl, rfl⟩ := List.cons.inj ex
      simp [put0_nio, he, ei j hjk]
      split
      · rename_i h
        rw [fst_some hjk h hp] at q
        exact q
      · rename_i h
        exact ⟨j + 1, _, hjk, rfl, fun i hi => by
          by_cases e : i = j
          · subst e; simpa using h
          · exact hp i (by omega), rfl, rfl⟩
    · rw [show k - j = 0 by omega] at ex; cases ex
  · rintro ρ ⟨j, e, hj, ex, hp, he, rfl⟩
    have : j = k := by
      by_cases hjk : j < k
      · rw [range'_step hjk] at ex; cases ex
      · omega
    subst this
    rw [fst_none hp] at q
    exact q
theorem fault_at_W (hb : tb 41 = some I_fault_at) (hn : 1 ≤ n) {w : String} {x : D} (q : Q (.val (faultAt w x)) none) : (callF tb n 41 [.val (.str w), .val x]).W Q := by
  obtain ⟨m, rfl, hm⟩ := succ_of hn
  refine callF_W hb ⟨rfl, rfl⟩ ?_
  have s2 : 2 ≤ sizeLine := by decide
  simp [I_fault_at, s2]
  cases e : isNoneD x <;> simpa [faultAt, e] using q
def FoInv (v d : D) (xs : List D) (ρ : Rho) : Prop := ∃ (k : Ent), d = firstOf xs ∧ nio k = true ∧ ρ = [.val v, k]
theorem first_of_W (hb : tb 526 = some I_first_of_13) (hn : 1 ≤ n) {ds : List D} (q : Q (.val (firstOf ds)) none) : (callF tb n 526 [.val (.list ds)]).W Q := by
  obtain ⟨m, rfl, hm⟩ := succ_of hn
  refine callF_W hb ⟨rfl, rfl⟩ ?_
  simp [I_first_of_13]
  refine loopF_W (FoInv (.list ds) (firstOf ds)) ⟨.un, rfl, rfl, rfl⟩ ?_ ?_
  · rintro x xs ρ ⟨e, hd, he, rfl⟩
    simp [put0_nio, he]
    rw [firstOf] at hd
    split
    · rename_i h
      rw [if_pos h] at hd
      exact ⟨_, hd, rfl, rfl⟩
    · rename_i h
      rw [if_neg (by simpa using h)] at hd
      rw [hd] at q
      exact q
  · rintro ρ ⟨e, hd, he, rfl⟩
    rw [hd] at q
    exact q
/-! ### the laws' forms -/
def rowIs (many : Option Nat) (lo hi : Int) : D → Bool
  | .tuple ds => (match many with | some k => decide (ds.length = k) | none => true) && ds.all (inRow lo hi)
  | _ => false
def manyD : Option Nat → D
  | some k => .int (k : Nat)
  | none => .none
theorem filter_empty {α : Type} {p : α → Bool} {l : List α} : (l.filter fun x => !p x).length = 0 ↔ l.all p = true := by
  rw [List.length_eq_zero_iff, List.filter_eq_nil_iff, List.all_eq_true]
  simp
theorem law_row_W (H : Has tb shared) (hb : tb 27 = some I_law_is_row) (hn : 2 ≤ n) {v : D} (hv : ∀ ds, v = .tuple ds → ds.length ≤ 100000) {many : Option Nat} {lo hi : Int} (q : Q (.val (.bool (rowIs many lo hi v))) none) : (callF tb n 27 [.val v, .val (manyD many), .val (.int lo), .val (.int hi)]).W Q := by
  obtain ⟨m, rfl, hm⟩ := succ_of hn
  refine callF_W hb ⟨rfl, rfl⟩ ?_
  cases v with
  | tuple ds =>
    have hl := hv ds rfl
    have main : ∀ md : D, ∀ R : List D → Rho → Prop, R ((ds.filter fun x => !inRow lo hi x).map id) [.val (.tuple ds), .val md, .val (.int lo), .val (.int hi), .un] →
        (compC [4] (.one 4) (evc (callF tb m) (.yes (.or_ (.cons (.not_ (.call 17 (.cons (.v 4) .nil))) (.cons (.cmp .lt (.v 4) (.v 2)) (.cons (.cmp .gt (.v 4) (.v 3)) .nil)))))) (fun ρ => (ev (callF tb m) (.v 4) ρ).bind fun d ρ => .ok [d] ρ) ds [.val (.tuple ds), .val md, .val (.int lo), .val (.int hi), .un]).W R := by
      intro md R hR
      refine compC_P id (fun x => !inRow lo hi x) (fun x => [.val (.tuple ds), .val md, .val (.int lo), .val (.int hi), .val x]) rfl (fun x hx => rfl) (fun x hx => ⟨rfl, rfl⟩) (fun x hx => ?_) (fun x hx hp => ?_) ⟨rfl, rfl, rfl⟩ (size_big hl) hR
      · simp
        refine isint_W H (by omega) ?_
        cases x with
        | int i =>
          simp [isInt, inRow]
          by_cases h : i < lo
          · have : ¬ lo ≤ i := by omega
            simp [h, this]
          · have : lo ≤ i := by omega
            simp [h, this]
            by_cases h2 : hi < i
            · have : ¬ i ≤ hi := by omega
              simp [h2, this]
            · have : i ≤ hi := by omega
              simp [h2, this]
        | _ => simp [isInt, inRow]
      · simp
    have fin : ∀ b : Bool, (decide (((ds.filter fun x => !inRow lo hi x).map id).length = 0)) = b → b = ds.all (inRow lo hi) := by
      intro b hb
      subst hb
      rw [List.length_map]
      cases h : ds.all (inRow lo hi) with
      | true => simpa using filter_empty.mpr h
      | false =>
        rw [decide_eq_false_iff_not, filter_empty, h]
        decide
    cases many with
    | none =>
      simp [I_law_is_row, manyD, isNoneD]
      refine main _ _ ?_
      simp
      have f := fin _ rfl
      simp at f
      simp [rowIs] at q
      rw [f]
      exact q
    | some k =>
      simp [I_law_is_row, manyD, isNoneD]
      split
      · rename_i h
        refine main _ _ ?_
        simp
        have : ds.length = k := by omega
        have f := fin _ rfl
        simp at f
        simp [rowIs, this] at q
        rw [f]
        exact q
      · rename_i h
        have : ¬ (ds.length = k) := by omega
        simpa [rowIs, this] using q
  | _ => simpa [I_law_is_row, rowIs] using q
theorem small_row_W (H : Has tb shared) (H4 : Has tb shared4) (hn : 3 ≤ n) {v : D} (hv : ∀ ds, v = .tuple ds → ds.length ≤ 100000) (q : Q (.val (.bool (isRow v))) none) : (callF tb n 120 [.val v]).W Q := by
  obtain ⟨m, rfl, hm⟩ := succ_of hn
  refine callF_W (H4 (120, I_law_small_row) (by simp [shared4])) ⟨rfl, rfl⟩ ?_
  simp [I_law_small_row]
  refine law_row_W H (H4 (27, I_law_is_row) (by simp [shared4])) (by omega) hv (many := none) ?_
  cases v with
  | tuple ds =>
    simp [rowIs]
    by_cases h : ds.all (inRow 0 1000) = true
    · have h2 := h
      simp at h2
      rw [if_pos h2]
      by_cases hl : ds.length ≤ 1000
      · have : (ds.length : Int) ≤ 1000 := by omega
        simpa [isRow, hl, h, this] using q
      · have : ¬ (ds.length : Int) ≤ 1000 := by omega
        simpa [isRow, hl, h, this] using q
    · have h2 := h
      simp at h2
      rw [if_neg (by simpa using h2)]
      simpa [isRow, h] using q
  | _ => simpa [rowIs, isRow] using q
end
end Ev

set_option Elab.async false
set_option linter.all false
set_option maxRecDepth 100000
set_option autoImplicit false
set_option maxHeartbeats 4000000
/-! Pw8: least, first, heights, opens; all words of a size. -/
namespace Ev
open PySem L2
theorem lay_int_list (ns : List Int) : PyData.canLayAll0 (ns.map PyData.int) = true := by
  induction ns with
  | nil => rfl
  | cons n ns ih => simpa [PyData.canLayAll0, PyData.canLay0] using ih
theorem depths_ints (ns : List Int) : PyData.depthAll (ns.map PyData.int) = 0 := by
  induction ns with
  | nil => simp [PyData.depthAll]
  | cons n ns ih => simpa [PyData.depthAll, PyData.depth] using ih
theorem shp_listI (ns : List Int) : shp (.list (ns.map .int)) = true := by
  show (PyData.canLay0 _ && decide (PyData.depth _ ≤ 64)) = true
  simp [PyData.canLay0, PyData.depth, lay_int_list, depths_ints]
theorem shp_tupI (ns : List Int) : shp (.tuple (ns.map .int)) = true := by
  show (PyData.canLay0 _ && decide (PyData.depth _ ≤ 64)) = true
  simp [PyData.canLay0, PyData.depth, lay_int_list, depths_ints]
theorem neL_nil (ns : List Int) : cmpF .ne (.list (ns.map .int)) (.list []) = some (!ns.isEmpty) := by
  have h : shp (.list []) = true := shp_listI []
  show (cmpEq _ _).map _ = _
  unfold cmpEq
  simp only [shp_listI, h, Bool.and_self, if_true]
  cases ns <;> simp [PyData.eqv, PyData.eqvAll]
theorem neT_nil (ns : List Int) : cmpF .ne (.tuple (ns.map .int)) (.tuple []) = some (!ns.isEmpty) := by
  have h : shp (.tuple []) = true := shp_tupI []
  show (cmpEq _ _).map _ = _
  unfold cmpEq
  simp only [shp_tupI, h, Bool.and_self, if_true]
  cases ns <;> simp [PyData.eqv, PyData.eqvAll]
theorem minI_head {x : Int} {xs : List Int} (h : ∀ y ∈ xs, x ≤ y) : minI (x :: xs) = x := by
  show xs.foldl min x = x
  induction xs with
  | nil => rfl
  | cons y ys ih =>
    rw [List.foldl_cons, Int.min_eq_left (h y List.mem_cons_self)]
    exact ih fun z hz => h z (List.mem_cons_of_mem _ hz)
theorem fst_filter (n : Nat) (p : Nat → Bool) : fstD n p = match (List.range n).filter p with | [] => .none | k :: _ => .int (k : Nat) := by
  unfold fstD
  rw [← List.head?_filter]
  cases (List.range n).filter p <;> rfl
section
variable {tb : Nat → Option Fn} {n : Nat} {Q : Ent → Option D → Prop}
theorem least_W (hb : tb 28 = some I_law_least) (hn : 1 ≤ n) {k : Nat} {p : Nat → Bool} (q : Q (.val (fstD k p)) none) : (callF tb n 28 [.val (.list (((List.range k).filter p).map fun i => .int (i : Nat)))]).W Q := by
  obtain ⟨m, rfl, hm⟩ := succ_of hn
  refine callF_W hb ⟨rfl, rfl⟩ ?_
  rw [fst_filter] at q
  have asc : ((List.range k).filter p).Pairwise (· < ·) := List.Pairwise.filter _ List.pairwise_lt_range
  generalize (List.range k).filter p = l at q asc
  have e : l.map (fun i => PyData.int (i : Nat)) = (l.map fun i : Nat => (i : Int)).map .int := by rw [List.map_map]; rfl
  rw [e]
  simp only [I_law_least]
  have s0 : 0 ≤ sizeLine := by decide
  cases l with
  | nil => simp [s0]; have := neL_nil []; simp at this; simp [this]; exact q
  | cons a l =>
    have h1 := neL_nil ((a :: l).map fun i : Nat => (i : Int))
    simp at h1
    simp [s0, h1]
    have h2 : toInts (.int (a : Int) :: l.map (PyData.int ∘ fun i : Nat => (i : Int))) = some ((a :: l).map fun i : Nat => (i : Int)) := toInts_map (fun i : Nat => (i : Int)) (a :: l)
    have h3 : minI ((a :: l).map fun i : Nat => (i : Int)) = (a : Int) := by
      rw [List.map_cons]
      apply minI_head
      intro y hy
      obtain ⟨z, hz, rfl⟩ := List.mem_map.mp hy
      have := List.rel_of_pairwise_cons asc hz
      omega
    simp [p1F, h2]
    simp at h3
    rw [h3]
    exact q
def LfInv (v d : D) (xs : List D) (ρ : Rho) : Prop := ∃ (ps : List (String × D)) (k : Ent), d = firstOf (ps.map fun p => faultAt p.1 p.2) ∧ xs = (ps.map fun p => .tuple [.str p.1, p.2]) ∧ nio k = true ∧ ρ = [.val v, k]
theorem law_first_W (hb : tb 29 = some I_law_first) (hn : 1 ≤ n) {ps : List (String × D)} (q : Q (.val (firstOf (ps.map fun p => faultAt p.1 p.2))) none) : (callF tb n 29 [.val (.list (ps.map fun p => .tuple [.str p.1, p.2]))]).W Q := by
  obtain ⟨m, rfl, hm⟩ := succ_of hn
  refine callF_W hb ⟨rfl, rfl⟩ ?_
  generalize hv : PyData.list (ps.map fun p => .tuple [.str p.1, p.2]) = v
  have hs : seqOf v = some (ps.map fun p => .tuple [.str p.1, p.2]) := by rw [← hv]; rfl
  simp [I_law_first, hs]
  refine loopF_W (LfInv v (firstOf (ps.map fun p => faultAt p.1 p.2))) ⟨ps, .un, rfl, rfl, rfl, rfl⟩ ?_ ?_
  · rintro x xs ρ ⟨ps', e, hd, ex, he, rfl⟩
    cases ps' with
    | nil => cases ex
    | cons p ps' =>
      obtain ⟨rfl, rfl⟩ := List.cons.inj ex
      have a1 : ∀ a b : D, atI [a, b] 1 = some b := fun a b => by simp [atI, ixN]
      simp [put0_nio, he, a1]
      rw [List.map_cons, firstOf] at hd
      split
      · rename_i h
        rw [if_pos (by rw [faultAt, if_pos h]; rfl)] at hd
        exact ⟨ps', _, hd, rfl, rfl, rfl⟩
      · rename_i h
        have f : faultAt p.1 p.2 = .tuple [.str p.1, p.2] := by rw [faultAt, if_neg (by simpa using h)]
        rw [f, if_neg (by simp [isNoneD])] at hd
        rw [hd] at q
        exact q
  · rintro ρ ⟨ps', e, hd, ex, he, rfl⟩
    cases ps' with
    | nil => rw [hd] at q; exact q
    | cons => cases ex
/-! ### heights, opens -/
def hts (h : Int) : List Int → List Int
  | [] => [h]
  | x :: w => h :: hts (h + 1 - 2 * x) w
theorem hts_len : ∀ (w : List Int) (h : Int), (hts h w).length = w.length + 1
  | [], _ => rfl
  | _ :: w, _ => by rw [hts, List.length_cons, hts_len w, List.length_cons]
theorem atI_last {α : Type} {l : List α} {x : α} : atI (l ++ [x]) (-1) = some x := by
  have e : ixN (l ++ [x]).length (-1) = some l.length := by
    unfold ixN
    rw [List.length_append, List.length_singleton]
    rw [if_neg (by omega), if_pos (by omega)]
    congr 1
    omega
  unfold atI
  rw [e]
  show (l ++ [x])[l.length]? = _
  simp
theorem mulOk_l {a b : Int} (h : -(2 ^ 64) < a ∧ a < 2 ^ 64) : mulOk a b = true := by
  unfold mulOk
  simp only [Bool.or_eq_true, Bool.and_eq_true, decide_eq_true_eq]
  exact .inl h
def HtInv (v : D) (all : List Int) (m : Nat) (xs : List D) (ρ : Rho) : Prop := ∃ (pre : List Int) (h : Int) (w : List Int) (k : Ent), xs = w.map .int ∧ all = pre ++ hts h w ∧ pre.length + w.length = m ∧ nio k = true ∧ ρ = [.val v, .own (.list ((pre ++ [h]).map .int)), k]
theorem heights_W {f : Nat} (hb : tb f = some I_law_heights) (hn : 1 ≤ n) {w : List Int} (hw : w.length ≤ 10000) {v : D} (hv : v = .tuple (w.map .int) ∨ v = .list (w.map .int)) (q : Q (.val (.list ((hts 0 w).map .int))) none) : (callF tb n f [.val v]).W Q := by
  obtain ⟨m, rfl, hm⟩ := succ_of hn
  refine callF_W hb ⟨rfl, rfl⟩ ?_
  have hs : seqOf v = some (w.map .int) := by rcases hv with rfl | rfl <;> rfl
  have s1 : 1 ≤ sizeLine := by decide
  simp [I_law_heights, hs, s1]
  refine loopF_W (HtInv v (hts 0 w) w.length) ⟨[], 0, w, .un, rfl, rfl, by simp, rfl, rfl⟩ ?_ ?_
  · rintro x xs ρ ⟨pre, h, w', k, ex, ea, el, hk, rfl⟩
    cases w' with
    | nil => cases ex
    | cons y w' =>
      obtain ⟨rfl, rfl⟩ := List.cons.inj ex
      have m1 : mulOk 2 y = true := mulOk_l (by omega)
      have e1 : atI (pre.map PyData.int ++ [PyData.int h]) (-1) = some (.int h) := atI_last
      have l1 : pre.length + 1 < sizeLine := Nat.lt_of_lt_of_le (Nat.lt_succ_self _) (size_big (by rw [List.length_cons] at el; omega))
      simp [put0_nio, hk, e1, m1, l1]
      refine ⟨pre ++ [h], h + 1 - 2 * y, w', .val (.int y), rfl, by rw [ea, hts, List.append_assoc]; rfl, by rw [List.length_cons] at el; simp; omega, rfl, by simp⟩
  · rintro ρ ⟨pre, h, w', k, ex, ea, el, hk, rfl⟩
    cases w' with
    | nil =>
      rw [ea] at q
      simp
      simpa [hts] using q
    | cons => cases ex
def nth (ns : List Int) (k : Nat) : Int := ns.getD k 0
theorem atI_ints {ns : List Int} {k : Nat} (h : k < ns.length) : atI (ns.map PyData.int) (k : Int) = some (.int (nth ns k)) := by
  rw [atI_lt (by simpa using h)]
  simp [nth, h]
theorem atI_ints1 {ns : List Int} {k : Nat} (h : k + 1 < ns.length) : atI (ns.map PyData.int) ((k : Int) + 1) = some (.int (nth ns (k + 1))) := by
  have := atI_ints h
  rwa [show ((k + 1 : Nat) : Int) = (k : Int) + 1 by omega] at this
/-- the places at which a number stands -/
def ixs (y : Int) (w : List Int) : List Nat := (List.range w.length).filter fun k => decide (nth w k = y)
theorem opens_W (hb : tb 37 = some I_law_opens) (hn : 1 ≤ n) {w : List Int} (hw : w.length ≤ 10000) (q : Q (.val (.list ((ixs 0 w).map fun i => .int (i : Nat)))) none) : (callF tb n 37 [.val (.tuple (w.map .int))]).W Q := by
  obtain ⟨m, rfl, hm⟩ := succ_of hn
  refine callF_W hb ⟨rfl, rfl⟩ ?_
  simp [I_law_opens]
  refine ⟨inR_nat (by omega) (.inl rfl), ?_⟩
  refine compR_P (fun i => .int (i : Nat)) (fun k => decide (nth w k = 0)) (fun i => [.val (.tuple (w.map .int)), .val (.int (i : Nat))]) rfl (fun x hx => rfl) (fun x hx => ⟨rfl, rfl⟩) (fun x hx => ?_) (fun x hx hp => ?_) ⟨rfl, rfl, rfl⟩ (size_big (by omega)) q
  · simp [atI_ints hx]
  · simp
/-! ### words of a size -/
def dyck : Nat → Nat → List (List Int)
  | h, 0 => if h = 0 then [[]] else []
  | h, n + 1 => (if h + 1 ≤ n then (dyck (h + 1) n).map (0 :: ·) else []) ++ (match h with | 0 => [] | g + 1 => (dyck g n).map (1 :: ·))
theorem DW.low : ∀ {w : List Int} {h : Nat}, DW h w → h ≤ w.length
  | [], h, e => by rw [show h = 0 from e]; exact Nat.zero_le _
  | x :: w, h, e => by
    rcases e with ⟨_, e⟩ | ⟨_, g, rfl, e⟩
    · have := e.low; rw [List.length_cons]; omega
    · have := e.low; rw [List.length_cons]; omega
theorem mem_dyck {w : List Int} : ∀ {h n : Nat}, DW h w ∧ w.length = n ↔ w ∈ dyck h n := by
  induction w with
  | nil =>
    intro h n
    constructor
    · rintro ⟨e, rfl⟩
      rw [show h = 0 from e]
      decide
    · intro e
      cases n with
      | zero =>
        unfold dyck at e
        split at e
        · rename_i h0; exact ⟨h0, rfl⟩
        · cases e
      | succ n =>
        unfold dyck at e
        rcases List.mem_append.mp e with e | e
        · split at e
          · obtain ⟨_, _, q⟩ := List.mem_map.mp e; cases q
          · cases e
        · cases h with
          | zero => cases e
          | succ g => obtain ⟨_, _, q⟩ := List.mem_map.mp e; cases q
  | cons x w ih =>
    intro h n
    constructor
    · rintro ⟨e, rfl⟩
      rw [List.length_cons]
      unfold dyck
      rcases e with ⟨rfl, e⟩ | ⟨rfl, g, rfl, e⟩
      · rw [if_pos e.low]
        exact List.mem_append_left _ (List.mem_map.mpr ⟨w, ih.mp ⟨e, rfl⟩, rfl⟩)
      · exact List.mem_append_right _ (List.mem_map.mpr ⟨w, ih.mp ⟨e, rfl⟩, rfl⟩)
    · intro e
      cases n with
      | zero =>
        unfold dyck at e
        split at e
        · cases e with | tail _ e => cases e
        · cases e
      | succ n =>
        unfold dyck at e
        rcases List.mem_append.mp e with e | e
        · split at e
          · obtain ⟨w', q1, q2⟩ := List.mem_map.mp e
            obtain ⟨rfl, rfl⟩ := List.cons.inj q2
            obtain ⟨q3, q4⟩ := ih.mpr q1
            exact ⟨.inl ⟨rfl, q3⟩, by rw [List.length_cons, q4]⟩
          · cases e
        · cases h with
          | zero => cases e
          | succ g =>
            obtain ⟨w', q1, q2⟩ := List.mem_map.mp e
            obtain ⟨rfl, rfl⟩ := List.cons.inj q2
            obtain ⟨q3, q4⟩ := ih.mpr q1
            exact ⟨.inr ⟨rfl, g, rfl, q3⟩, by rw [List.length_cons, q4]⟩
def allW (j : Nat) : List D := (dyck 0 (2 * j)).map fun w => .tuple (w.map .int)
end
/-- what holds of a row of the program -/
theorem isRow_ex {v : D} (h : isRow v = true) : ∃ ns : List Int, v = .tuple (ns.map .int) ∧ ns.length ≤ 1000 ∧ ∀ x ∈ ns, 0 ≤ x ∧ x ≤ 1000 := by
  cases v with
  | tuple ds =>
    simp only [isRow, Bool.and_eq_true, decide_eq_true_eq] at h
    obtain ⟨hl, ha⟩ := h
    have : ∀ ds : List D, ds.all (inRow 0 1000) = true → ∃ ns : List Int, ds = ns.map .int ∧ ∀ x ∈ ns, 0 ≤ x ∧ x ≤ 1000 := by
      intro ds
      induction ds with
      | nil => exact fun _ => ⟨[], rfl, fun x hx => nomatch hx⟩
      | cons d ds ih =>
        intro h
        rw [List.all_cons, Bool.and_eq_true] at h
        obtain ⟨ns, rfl, hns⟩ := ih h.2
        cases d with
        | int i =>
          have h1 := h.1
          simp only [inRow, Bool.and_eq_true, decide_eq_true_eq] at h1
          exact ⟨i :: ns, rfl, fun x hx => by
            rcases List.mem_cons.mp hx with rfl | hx
            · exact h1
            · exact hns x hx⟩
        | _ => cases h.1
    obtain ⟨ns, rfl, hns⟩ := this ds ha
    exact ⟨ns, rfl, by simpa using hl, hns⟩
  | _ => cases h
def formD : D := .tuple [.str "form", .int 0]
theorem atI_ints0 {ns : List Int} (h : 0 < ns.length) : atI (ns.map PyData.int) 0 = some (.int (nth ns 0)) := atI_ints h
theorem SRes.W.eqN {r : SRes} {ρ : Rho} (h : r.W (fun ρ' => ρ' = ρ) (fun _ _ => False)) : r = .nx ρ := by
  rcases h.ex with ⟨ρ', e, rfl⟩ | ⟨_, _, _, q⟩
  · exact e
  · exact q.elim
theorem peel {cl : Nat → List Ent → CRes} {s : S} {r : Ss} {ρ : Rho} {N : Rho → Prop} {T : Ent → Rho → Prop} (ρ1 : Rho) (h1 : (evS cl s ρ).W (fun ρ' => ρ' = ρ1) (fun _ _ => False)) (h2 : (evSs cl r ρ1).W N T) : (evSs cl (.cons s r) ρ).W N T := by
  rw [W_cons, h1.eqN, SW_nx]
  exact h2
theorem peelQ {cl : Nat → List Ent → CRes} {s : S} {r : Ss} {ρ : Rho} {N : Rho → Prop} {T : Ent → Rho → Prop} (N1 : Rho → Prop) (h1 : (evS cl s ρ).W N1 (fun _ _ => False)) (h2 : ∀ ρ1, N1 ρ1 → (evSs cl r ρ1).W N T) : (evSs cl (.cons s r) ρ).W N T := by
  rw [W_cons]
  exact h1.imp h2 fun _ _ h => h.elim
theorem nth_pos {ns : List Int} (h : ¬ ns = []) : 0 < ns.length := List.length_pos_iff.mpr h
end Ev

set_option Elab.async false
set_option linter.all false
set_option maxRecDepth 100000
set_option autoImplicit false
/-! Kev6: a law's own def that shuffles, too. -/
namespace Ev
open PySem L2
section
variable {cl : Nat → List Ent → CRes} {ρ : Rho} {i : Nat} {e c : E} {b : Ss}
theorem W_popi {Q : D → Rho → Prop} : (ev cl (.popi i e) ρ).W Q = optW (ρ.mine i) fun _ => (ev cl e ρ).W fun x ρ => optW (ρ.mine i) fun ds => optW (popAt ds x) fun p => optW (ρ.upd i (.list p.2)) fun ρ' => Q p.1 ρ' := by
  show (match ρ.mine i with
    | none => R.no
    | some _ => (ev cl e ρ).bind fun x ρ => (R.lift ((ρ.mine i).bind fun ds => (popAt ds x).bind fun p => (ρ.upd i (.list p.2)).map fun ρ' => (p.1, ρ')) ρ).bind fun p _ => .ok p.1 p.2).W Q = _
  cases ρ.mine i with
  | none => rfl
  | some _ =>
    show (R.bind _ _).W Q = _
    rw [W_bind]
    show R.W _ _ = R.W _ _
    congr; funext x ρ1
    rw [W_bind, W_lift]
    cases ρ1.mine i with
    | none => rfl
    | some ds =>
      show optW ((popAt ds x).bind _) _ = optW (popAt ds x) _
      cases popAt ds x with
      | none => rfl
      | some p =>
        show optW ((ρ1.upd i (.list p.2)).map _) _ = optW (ρ1.upd i (.list p.2)) _
        cases ρ1.upd i (.list p.2) <;> rfl
theorem loopW_W {cr : Rho → R Bool} {br : Rho → SRes} {N : Rho → Prop} {T : Ent → Rho → Prop} (I : Nat → Rho → Prop) (st : ∀ m ρ, I m ρ → (cr ρ).W fun k ρ1 => if k = true then (br ρ1).W (fun ρ2 => ∃ m', m' < m ∧ I m' ρ2) T else N ρ1) : ∀ (f m : Nat) (ρ : Rho), m < f → I m ρ → (loopW cr br f ρ).W N T
  | 0, m, ρ, h, _ => by omega
  | f + 1, m, ρ, h, hI => by
    have q := st m ρ hI
    unfold loopW
    cases e1 : cr ρ with
    | no => rw [e1] at q; exact q.elim
    | ex x ρ1 => rw [e1] at q; exact q.elim
    | ok k ρ1 =>
      rw [e1] at q
      cases k with
      | false => exact q
      | true =>
        have q : (br ρ1).W (fun ρ2 => ∃ m', m' < m ∧ I m' ρ2) T := q
        cases e2 : br ρ1 with
        | nx ρ2 =>
          rw [e2] at q
          obtain ⟨m', h1, h2⟩ := q
          dsimp only
          rw [e2]
          exact loopW_W I st f m' ρ2 (by omega) h2
        | rt en ρ2 =>
          rw [e2] at q
          dsimp only
          rw [e2]
          exact q
        | bk ρ2 => rw [e2] at q; exact q.elim
        | ct ρ2 => rw [e2] at q; exact q.elim
        | ex x ρ2 => rw [e2] at q; exact q.elim
        | no => rw [e2] at q; exact q.elim
end
def I_law_shuffled : Fn := ⟨2, ["pool", "items", "left", "found"], true, .cons (.new 2 (.p1 .list (.v 1))) (.cons (.new 3 (.lst (.nil))) (.cons (.while_ (.cmp .ne (.v 2) (.lst (.nil))) (.cons (.app 3 (.popi 2 (.callp 21 0 (.cons (.p1 .len (.v 2)) .nil)))) .nil)) (.cons (.ret (.v 3)) .nil)))⟩
theorem popAt_i {xs : List Int} {j : Nat} (h : j < xs.length) (hl : xs.length ≤ 100000) : popAt (xs.map .int) (.int (j : Nat)) = some (.int xs[j], (xs.eraseIdx j).map .int) := by
  have e : ixN (xs.map PyData.int).length (j : Int) = some j := by
    unfold ixN
    rw [if_pos (by omega), if_pos (by simp; omega)]
    rfl
  unfold popAt
  dsimp only
  rw [if_pos (by omega), e]
  show ((xs.map PyData.int)[j]?).map _ = _
  rw [List.getElem?_map, List.getElem?_eq_getElem h]
  show some (PyData.int xs[j], (xs.map PyData.int).eraseIdx j) = _
  congr 2
  clear e hl
  induction xs generalizing j with
  | nil => rfl
  | cons x xs ih =>
    cases j with
    | zero => rfl
    | succ j => simp at h ⊢; simpa using ih h
theorem perm_erase {α : Type} : ∀ {l : List α} {j : Nat} (h : j < l.length), (l[j] :: l.eraseIdx j).Perm l
  | [], _, h => by simp at h
  | x :: xs, 0, _ => List.Perm.refl _
  | x :: xs, j + 1, h => by
    have h' : j < xs.length := by simpa using h
    have ih := perm_erase h'
    show (xs[j] :: x :: xs.eraseIdx j).Perm (x :: xs)
    exact (List.Perm.swap x xs[j] _).trans (ih.cons x)
theorem shuf_W {tb : Nat → Option Fn} {n : Nat} {Q : Ent → Option D → Prop} (H : Has tb shared) (hb : tb 188 = some I_law_shuffled) (hn : 4 ≤ n) {P : List D} {ns : List Int} (hP : Pool P) (hl : ns.length ≤ 1000) (q : ∀ (ys : List Int) P', Pool P' → ys.Perm ns → Q (.val (.list (ys.map .int))) (some (.list P'))) : (callF tb n 188 [.io (.list P), .val (.list (ns.map .int))]).W Q := by
  obtain ⟨m, rfl, hm⟩ := succ_of (show 4 ≤ n from hn)
  refine callF_W hb ⟨rfl, rfl⟩ ?_
  have wh : ∀ (N : Rho → Prop) (T : Ent → Rho → Prop), (∀ P' (ys : List Int), Pool P' → ys.Perm ns → N [.io (.list P'), .val (.list (ns.map .int)), .own (.list []), .own (.list (ys.map .int))]) →
      (evS (callF tb m) (.while_ (.cmp .ne (.v 2) (.lst (.nil))) (.cons (.app 3 (.popi 2 (.callp 21 0 (.cons (.p1 .len (.v 2)) .nil)))) .nil)) [.io (.list P), .val (.list (ns.map .int)), .own (.list (ns.map .int)), .own (.list [])]).W N T := fun N T hN => by
    refine loopW_W (fun m ρ => ∃ (P' : List D) (xs ys : List Int), Pool P' ∧ ρ = [.io (.list P'), .val (.list (ns.map .int)), .own (.list (xs.map .int)), .own (.list (ys.map .int))] ∧ (ys ++ xs).Perm ns ∧ m = xs.length) ?_ wFuel ns.length _ (by unfold wFuel; omega) ⟨P, ns, [], hP, rfl, by simp, rfl⟩
    rintro k ρ ⟨P', xs, ys, hP', rfl, pm, rfl⟩
    have pl := pm.length_eq
    rw [List.length_append] at pl
    cases xs with
    | nil =>
      have e := neL_nil []
      simp only [List.map_nil] at e
      rw [List.append_nil] at pm
      simp [evT, e]
      exact hN P' ys hP' pm
    | cons x xs =>
      have e : cmpF .ne (.list (PyData.int x :: xs.map .int)) (.list []) = some true := neL_nil (x :: xs)
      show ((ev (callF tb m) (.cmp .ne (.v 2) (.lst (.nil))) _).bind _).W _
      rw [W_bind]
      simp [e, W_popi, asB]
      refine draw_W (n := m) (many := (xs.length : Int) + 1) H (by omega) hP' (by omega) (by simp at pl; omega) fun d P2 hP2 h0 h1 => ?_
      obtain ⟨j, rfl⟩ : ∃ j : Nat, d = j := ⟨d.toNat, by omega⟩
      have hj : j < (x :: xs).length := by simp; omega
      have pa := popAt_i hj (by simp at pl ⊢; omega)
      simp only [List.map_cons] at pa
      dsimp only
      rw [optW_some, pa, optW_some]
      have pe : ((x :: xs)[j] :: (x :: xs).eraseIdx j).Perm (x :: xs) := perm_erase hj
      have el : ((x :: xs).eraseIdx j).length < xs.length + 1 := by
        have := List.length_eraseIdx_of_lt hj
        simp at this ⊢
        omega
      have l1 : ys.length < sizeLine := by have := sizeLine_eq; omega
      refine ⟨l1, _, el, P2, hP2, (x :: xs).eraseIdx j, ys ++ [(x :: xs)[j]], ⟨rfl, rfl, by simp⟩, ?_, rfl⟩
      refine List.Perm.trans ?_ pm
      rw [List.append_assoc]
      exact List.Perm.append_left ys pe
  simp [I_law_shuffled]
  exact wh _ _ fun P' ys hP' pm => q ys P' hP' pm
/-! ### the pool with shuffling -/
def wShuf (p : D) (ds : List D) (k : D → D → Prop) : Prop := PoolD p ∧ ∃ ns : List Int, ds = [.list (ns.map .int)] ∧ ns.length ≤ 1000 ∧ ∀ (ys : List Int) p', PoolD p' → ys.Perm ns → k (.list (ys.map .int)) p'
def clpS (f : Nat) (p : D) (ds : List D) (k : D → D → Prop) : Prop := if f = 188 then wShuf p ds k else if f = 21 then wDraw p ds k else if f = 22 then wPick p ds k else False
section
variable {p : D} {k : D → D → Prop}
theorem clpS_draw {m : Int} (hp : PoolD p) (h0 : 0 < m) (h1 : m ≤ 1000) (q : ∀ (j : Nat) p', PoolD p' → (j : Int) < m → k (.int j) p') : clpS 21 p [.int m] k := ⟨hp, m, rfl, h0, h1, q⟩
theorem clpS_pickL {xs : List D} (hp : PoolD p) (h0 : 0 < xs.length) (h1 : xs.length ≤ 100000) (q : ∀ x p', PoolD p' → x ∈ xs → k x p') : clpS 22 p [.list xs] k := ⟨hp, xs, .inl rfl, h0, h1, q⟩
theorem clpS_shuf {ns : List Int} (hp : PoolD p) (h1 : ns.length ≤ 1000) (q : ∀ (ys : List Int) p', PoolD p' → ys.Perm ns → k (.list (ys.map .int)) p') : clpS 188 p [.list (ns.map .int)] k := ⟨hp, ns, rfl, h1, q⟩
end
theorem hclpS {tb : Nat → Option Fn} {n : Nat} (H : Has tb shared) (h188 : tb 188 = some I_law_shuffled) (hn : 120 ≤ n) : Hclp (callF tb n) clpS id := fun f p ds k g => by
  have g : clpS f p ds k := g
  unfold clpS at g
  split at g
  · rename_i e; subst e
    obtain ⟨⟨P, rfl, hP⟩, ns, rfl, h1, q⟩ := g
    obtain ⟨e, o, e1, d, p', e2, e3, e4⟩ := (shuf_W (n := n) (Q := fun e o => ∃ d p', e = .val d ∧ o = some p' ∧ k d p') H h188 (by omega) hP h1 fun ys P' hP' a => ⟨_, _, rfl, rfl, q ys _ ⟨P', rfl, hP'⟩ a⟩).ex
    subst e2 e3
    exact ⟨P, rfl, d, p', e1, e4⟩
  · split at g
    · rename_i e; subst e
      obtain ⟨⟨P, rfl, hP⟩, m, rfl, h0, h1, q⟩ := g
      obtain ⟨e, o, e1, d, p', e2, e3, e4⟩ := (draw_W (n := n) (Q := fun e o => ∃ d p', e = .val d ∧ o = some p' ∧ k d p') H (by omega) hP h0 (by omega) fun d P' hP' a b => by
        obtain ⟨j, rfl⟩ : ∃ j : Nat, d = j := ⟨d.toNat, by omega⟩
        exact ⟨_, _, rfl, rfl, q j _ ⟨P', rfl, hP'⟩ b⟩).ex
      subst e2 e3
      exact ⟨P, rfl, d, p', e1, e4⟩
    · split at g
      · rename_i e; subst e
        obtain ⟨⟨P, rfl, hP⟩, xs, hx, h0, h1, q⟩ := g
        have : ∃ v, ds = [v] ∧ (v = .list xs ∨ v = .tuple xs) := by
          rcases hx with h | h <;> exact ⟨_, h, by simp⟩
        obtain ⟨v, rfl, hv⟩ := this
        obtain ⟨e, o, e1, d, p', e2, e3, e4⟩ := (pick_W (n := n) (Q := fun e o => ∃ d p', e = .val d ∧ o = some p' ∧ k d p') H (by omega) hv hP h0 (by omega) fun x P' hP' a => ⟨_, _, rfl, rfl, q x _ ⟨P', rfl, hP'⟩ a⟩).ex
        subst e2 e3
        exact ⟨P, rfl, d, p', e1, e4⟩
      · exact g.elim
/-- the law's own call, with any way to draw -/
theorem main_poolG {clpX : ClP} {tb : Nat → Option Fn} {ow : Nat → Bool} {n f j : Nat} {fn : Fn} {rest : Ss} {cl : Nat → List D → Rs D} (e : tb f = some fn) (hio : fn.io = false ∧ fn.params = 1 ∧ fn.names.length = j + 2) (hb : fn.body = .cons (.new 1 (.callo 40 (.cons (.v 0) .nil))) rest)
    (H : Has tb shared) (hX : Hclp (callF tb n) clpX id) (hn : 120 ≤ n) (ih : Hcl (callF tb n) cl ow) {ns : List Int} (hl : ns.length ≤ 63)
    (g : ∀ P, PoolD P → kSs False cl clpX ow rest (fun _ => False) (fun e => e = .val (.bool true)) (fun _ _ => False) ([.val (.list (ns.map .int)), .own P] ++ List.replicate j .un) (fun _ => False)) : ∃ o, callF tb (n + 1) f [.val (.list (ns.map PyData.int))] = .ok (.val (.bool true)) o := by
  obtain ⟨en, o, e1, P, hP, rfl⟩ := (pool_W (n := n) (Q := fun e o => ∃ P, Pool P ∧ e = .own (.list P)) H (by omega) hl fun P hP => ⟨P, hP, rfl⟩).ex
  have w := kSs_ok (good := id) ih hX (fun z => z) rest _ _ _ _ _ (g (.list P) ⟨P, rfl, hP⟩)
  have hlen : fn.names.length - fn.params = j + 1 := by omega
  unfold callF
  rw [e]
  dsimp only
  rw [if_pos ⟨by rw [hio.2.1]; rfl, by rw [hio.1]; rfl⟩, hb, hlen]
  have first : evS (callF tb n) (.new 1 (.callo 40 (.cons (.v 0) .nil))) ([.val (.list (ns.map PyData.int))] ++ List.replicate (j + 1) .un) = .nx ([.val (.list (ns.map .int)), .own (.list P)] ++ List.replicate j .un) := by
    show R.sb (CRes.valO (callF tb n 40 [.val (.list (ns.map .int))]) _) _ = _
    rw [e1]
    rfl
  have sec : evSs (callF tb n) (.cons (.new 1 (.callo 40 (.cons (.v 0) .nil))) rest) ([.val (.list (ns.map PyData.int))] ++ List.replicate (j + 1) .un) = evSs (callF tb n) rest ([.val (.list (ns.map .int)), .own (.list P)] ++ List.replicate j .un) := by
    show (evS (callF tb n) _ _).nb _ = _
    rw [first]
    rfl
  rw [sec]
  cases e2 : evSs (callF tb n) rest ([.val (.list (ns.map .int)), .own (.list P)] ++ List.replicate j .un) with
  | rt en ρ =>
    rw [e2] at w
    have w : en = .val (.bool true) := w
    subst w
    exact ⟨_, rfl⟩
  | nx ρ => rw [e2] at w; exact w.elim
  | bk ρ => rw [e2] at w; exact w.elim
  | ct ρ => rw [e2] at w; exact w.elim
  | ex x ρ => rw [e2] at w; exact w.elim
  | no => rw [e2] at w; exact w.elim
end Ev

set_option Elab.async false
set_option linter.all false
set_option maxRecDepth 100000
set_option autoImplicit false
set_option maxHeartbeats 4000000
/-! S0: plain texts that many laws share. -/
namespace Ev
open PySem L2
def K_law_all : Fn := ⟨1, ["many", "level", "k", "longer", "word", "height", "sign"], false, .cons (.asg 1 (.lst (.cons (.tup (.nil)) .nil))) (.cons (.for_ (.one 2) (.rng1 (.bin .mul (.k (.int 2)) (.v 0))) (.cons (.new 3 (.lst (.nil))) (.cons (.for_ (.one 4) (.ov (.v 1)) (.cons (.asg 5 (.bin .sub (.bin .mul (.p1 .len (.comp [6] (.v 6) (.one 6) (.ov (.v 4)) (.yes (.cmp .eq (.v 6) (.k (.int 0)))))) (.k (.int 2))) (.p1 .len (.v 4)))) (.cons (.if_ (.cmp .le (.bin .add (.v 5) (.k (.int 1))) (.bin .sub (.bin .sub (.bin .mul (.k (.int 2)) (.v 0)) (.v 2)) (.k (.int 1)))) (.cons (.app 3 (.bin .add (.v 4) (.tup (.cons (.k (.int 0)) .nil)))) .nil) (.nil)) (.cons (.if_ (.cmp .gt (.v 5) (.k (.int 0))) (.cons (.app 3 (.bin .add (.v 4) (.tup (.cons (.k (.int 1)) .nil)))) .nil) (.nil)) (.cons (.fgt [4, 5]) .nil))))) (.cons (.asg 1 (.v 3)) (.cons (.fgt [2, 3, 4, 5]) .nil))))) (.cons (.ret (.p1 .sorted (.v 1))) .nil))⟩
def s_law_all_l2 : List D → D → (List D → Rs D) → (List D → Rs D) → Rs D := fun s x3 next2 brk2 => klist4 Rs.no s fun many3 level2 k1 longer1 => (((((Rs.lift (seqOf x3)).bnd fun xs3 => (compM (fun x4 => (((Rs.lift (cmpF .eq x4 (PyData.int 0))).bnd fun b1 => Rs.ok (PyData.bool b1)).bnd fun x5 => asBs x5).bnd fun b2 => cond b2 (Rs.ok (some x4)) (Rs.ok none)) xs3).bnd szL).bnd fun x6 => Rs.lift (p1F .len x6)).bnd fun x7 => Rs.lift (binF .mul x7 (PyData.int 2))).bnd fun x8 => (Rs.lift (p1F .len x3)).bnd fun x9 => Rs.lift (binF .sub x8 x9)).bnd fun d1 => ((Rs.lift (binF .add d1 (PyData.int 1))).bnd fun x10 => (((Rs.lift (binF .mul (PyData.int 2) many3)).bnd fun x11 => Rs.lift (binF .sub x11 k1)).bnd fun x12 => Rs.lift (binF .sub x12 (PyData.int 1))).bnd fun x13 => (Rs.lift (cmpF .le x10 x13)).bnd fun b3 => Rs.ok (PyData.bool b3)).bnd fun x14 => (asBs x14).bnd fun b4 => cond b4 (klst Rs.no longer1 ((Rs.lift (binF .add x3 (PyData.tuple [(PyData.int 0)]))).bnd fun d2 => kop Rs.no (appF longer1 d2) fun longer2 => ((Rs.lift (cmpF .gt d1 (PyData.int 0))).bnd fun b5 => Rs.ok (PyData.bool b5)).bnd fun x15 => (asBs x15).bnd fun b6 => cond b6 (klst Rs.no longer2 ((Rs.lift (binF .add x3 (PyData.tuple [(PyData.int 1)]))).bnd fun d3 => kop Rs.no (appF longer2 d3) fun longer3 => next2 [many3, level2, k1, longer3])) (next2 [many3, level2, k1, longer2]))) (((Rs.lift (cmpF .gt d1 (PyData.int 0))).bnd fun b7 => Rs.ok (PyData.bool b7)).bnd fun x16 => (asBs x16).bnd fun b8 => cond b8 (klst Rs.no longer1 ((Rs.lift (binF .add x3 (PyData.tuple [(PyData.int 1)]))).bnd fun d4 => kop Rs.no (appF longer1 d4) fun longer4 => next2 [many3, level2, k1, longer4])) (next2 [many3, level2, k1, longer1]))
def s_law_all_l1 : List D → D → (List D → Rs D) → (List D → Rs D) → Rs D := fun s x2 next1 brk1 => klist2 Rs.no s fun many2 level1 => kop Rs.no (seqOf level1) fun xs2 => forK s_law_all_l2 xs2 [many2, level1, x2, (PyData.list [])] fun s1 => klist4 Rs.no s1 fun many4 level3 k2 longer5 => next1 [many4, longer5]
def s_law_all : D → Rs D := fun many1 => ((Rs.lift (binF .mul (PyData.int 2) many1)).bnd fun x1 => Rs.lift (rngF1 x1)).bnd fun xs1 => forK s_law_all_l1 xs1 [many1, (PyData.list [(PyData.tuple [])])] fun s2 => klist2 Rs.no s2 fun many5 level4 => (Rs.lift (p1F .sorted level4)).bnd fun d5 => Rs.ok d5
def K_law_heights : Fn := ⟨1, ["value", "found", "sign"], false, .cons (.new 1 (.lst (.cons (.k (.int 0)) .nil))) (.cons (.for_ (.one 2) (.ov (.v 0)) (.cons (.app 1 (.bin .sub (.bin .add (.idx (.v 1) (.neg (.k (.int 1)))) (.k (.int 1))) (.bin .mul (.k (.int 2)) (.v 2)))) (.cons (.fgt [2]) .nil))) (.cons (.ret (.v 1)) .nil))⟩
def s_law_heights_l1 : List D → D → (List D → Rs D) → (List D → Rs D) → Rs D := fun s x1 next1 brk1 => klist2 Rs.no s fun value2 found1 => klst Rs.no found1 ((((((asIs (PyData.int 1)).bnd fun i1 => Rs.ok (PyData.int (-i1))).bnd fun x2 => Rs.lift (idxF found1 x2)).bnd fun x3 => Rs.lift (binF .add x3 (PyData.int 1))).bnd fun x4 => (Rs.lift (binF .mul (PyData.int 2) x1)).bnd fun x5 => Rs.lift (binF .sub x4 x5)).bnd fun d1 => kop Rs.no (appF found1 d1) fun found2 => next1 [value2, found2])
def s_law_heights : D → Rs D := fun value1 => kop Rs.no (seqOf value1) fun xs1 => forK s_law_heights_l1 xs1 [value1, (PyData.list [(PyData.int 0)])] fun s1 => klist2 Rs.no s1 fun value3 found3 => Rs.ok found3
def s_law_same : Nat → D → D → Rs D
  | 0, _, _ => Rs.no
  | n + 1, actual1, due1 => (cond ((isTy due1 .tuple)) (Rs.ok (PyData.bool true)) (Rs.ok (PyData.bool (isTy due1 .list)))).bnd fun x1 => (asBs x1).bnd fun b1 => cond b1 ((((Rs.lift (cmpF .ne (PyData.bool (isTy due1 .tuple)) (PyData.bool (isTy actual1 .tuple)))).bnd fun b2 => Rs.ok (PyData.bool b2)).bnd fun x2 => (asBs x2).bnd fun b6 => cond b6 (Rs.ok (PyData.bool true)) (((Rs.lift (cmpF .ne (PyData.bool (isTy due1 .list)) (PyData.bool (isTy actual1 .list)))).bnd fun b3 => Rs.ok (PyData.bool b3)).bnd fun x3 => (asBs x3).bnd fun b5 => cond b5 (Rs.ok (PyData.bool true)) ((Rs.lift (p1F .len actual1)).bnd fun x4 => (Rs.lift (p1F .len due1)).bnd fun x5 => (Rs.lift (cmpF .ne x4 x5)).bnd fun b4 => Rs.ok (PyData.bool b4)))).bnd fun x6 => (asBs x6).bnd fun b7 => cond b7 (Rs.ok (PyData.bool false)) ((((((Rs.lift (p1F .len due1)).bnd fun x7 => Rs.lift (rngF1 x7)).bnd fun xs1 => (compM (fun x8 => ((((Rs.lift (idxF actual1 x8)).bnd fun d1 => (Rs.lift (idxF due1 x8)).bnd fun d2 => (s_law_same n) d1 d2).bnd fun x9 => (asBs x9).bnd fun b8 => Rs.ok (PyData.bool !b8)).bnd fun x10 => asBs x10).bnd fun b9 => cond b9 (Rs.ok (some x8)) (Rs.ok none)) xs1).bnd szL).bnd fun x11 => Rs.lift (p1F .len x11)).bnd fun x12 => (Rs.lift (cmpF .eq x12 (PyData.int 0))).bnd fun b10 => Rs.ok (PyData.bool b10)).bnd fun d3 => Rs.ok d3)) (cond ((isNoneD due1)) (Rs.ok (PyData.bool (isNoneD actual1))) ((cond ((isTy due1 .bool)) (Rs.ok (PyData.bool true)) (Rs.ok (PyData.bool (isTy actual1 .bool)))).bnd fun x13 => (asBs x13).bnd fun b11 => cond b11 ((cond ((isTy due1 .bool)) (cond ((isTy actual1 .bool)) ((Rs.lift (cmpF .eq actual1 due1)).bnd fun b12 => Rs.ok (PyData.bool b12)) (Rs.ok (PyData.bool false))) (Rs.ok (PyData.bool false))).bnd fun d4 => Rs.ok d4) (cond ((isTy due1 .int)) ((cond ((isTy actual1 .int)) ((Rs.lift (cmpF .eq actual1 due1)).bnd fun b13 => Rs.ok (PyData.bool b13)) (Rs.ok (PyData.bool false))).bnd fun d5 => Rs.ok d5) ((cond ((isTy actual1 .str)) (cond ((isTy due1 .str)) ((Rs.lift (cmpF .eq actual1 due1)).bnd fun b14 => Rs.ok (PyData.bool b14)) (Rs.ok (PyData.bool false))) (Rs.ok (PyData.bool false))).bnd fun d6 => Rs.ok d6))))
def K_law_end : Fn := ⟨2, ["value", "at", "depth", "k"], false, .cons (.asg 2 (.k (.int 0))) (.cons (.for_ (.one 3) (.rng2 (.v 1) (.p1 .len (.v 0))) (.cons (.asg 2 (.bin .sub (.bin .add (.v 2) (.k (.int 1))) (.bin .mul (.k (.int 2)) (.idx (.v 0) (.v 3))))) (.cons (.if_ (.cmp .eq (.v 2) (.k (.int 0))) (.cons (.ret (.v 3)) .nil) (.nil)) (.cons (.fgt [3]) .nil)))) (.cons (.ret (.k (.none))) .nil))⟩
def s_law_end_l1 : List D → D → (List D → Rs D) → (List D → Rs D) → Rs D := fun s x2 next1 brk1 => klist3 Rs.no s fun value2 at2 depth1 => ((Rs.lift (binF .add depth1 (PyData.int 1))).bnd fun x3 => ((Rs.lift (idxF value2 x2)).bnd fun x4 => Rs.lift (binF .mul (PyData.int 2) x4)).bnd fun x5 => Rs.lift (binF .sub x3 x5)).bnd fun d1 => ((Rs.lift (cmpF .eq d1 (PyData.int 0))).bnd fun b1 => Rs.ok (PyData.bool b1)).bnd fun x6 => (asBs x6).bnd fun b2 => cond b2 (Rs.ok x2) (next1 [value2, at2, d1])
def s_law_end : D → D → Rs D := fun value1 at1 => ((Rs.lift (p1F .len value1)).bnd fun x1 => Rs.lift (rngF2 at1 x1)).bnd fun xs1 => forK s_law_end_l1 xs1 [value1, at1, (PyData.int 0)] fun s1 => klist3 Rs.no s1 fun value3 at3 depth2 => Rs.ok (.none : D)
def s_law_is_integer : D → Rs D := fun actual1 => (cond ((isTy actual1 .int)) (Rs.ok (PyData.bool !((isTy actual1 .bool)))) (Rs.ok (PyData.bool false))).bnd fun d1 => Rs.ok d1
def K_law_is_row : Fn := ⟨4, ["value", "many", "low", "high", "one"], false, .cons (.if_ (.or_ (.cons (.not_ (.isi (.v 0) .tuple)) (.cons (.and_ (.cons (.notN (.v 1)) (.cons (.cmp .ne (.p1 .len (.v 0)) (.v 1)) .nil))) .nil))) (.cons (.ret (.k (.bool false))) .nil) (.nil)) (.cons (.ret (.cmp .eq (.p1 .len (.comp [4] (.v 4) (.one 4) (.ov (.v 0)) (.yes (.or_ (.cons (.not_ (.call 17 (.cons (.v 4) .nil))) (.cons (.cmp .lt (.v 4) (.v 2)) (.cons (.cmp .gt (.v 4) (.v 3)) .nil))))))) (.k (.int 0)))) .nil)⟩
def s_law_is_row : D → D → D → D → Rs D := fun value1 many1 low1 high1 => (cond (!((isTy value1 .tuple))) (Rs.ok (PyData.bool true)) (cond (!(isNoneD many1)) ((Rs.lift (p1F .len value1)).bnd fun x1 => (Rs.lift (cmpF .ne x1 many1)).bnd fun b1 => Rs.ok (PyData.bool b1)) (Rs.ok (PyData.bool false)))).bnd fun x2 => (asBs x2).bnd fun b2 => cond b2 (Rs.ok (PyData.bool false)) (((((Rs.lift (seqOf value1)).bnd fun xs1 => (compM (fun x3 => ((((s_law_is_integer x3).bnd fun x4 => (asBs x4).bnd fun b3 => Rs.ok (PyData.bool !b3)).bnd fun x5 => (asBs x5).bnd fun b7 => cond b7 (Rs.ok (PyData.bool true)) (((Rs.lift (cmpF .lt x3 low1)).bnd fun b4 => Rs.ok (PyData.bool b4)).bnd fun x6 => (asBs x6).bnd fun b6 => cond b6 (Rs.ok (PyData.bool true)) ((Rs.lift (cmpF .gt x3 high1)).bnd fun b5 => Rs.ok (PyData.bool b5)))).bnd fun x7 => asBs x7).bnd fun b8 => cond b8 (Rs.ok (some x3)) (Rs.ok none)) xs1).bnd szL).bnd fun x8 => Rs.lift (p1F .len x8)).bnd fun x9 => (Rs.lift (cmpF .eq x9 (PyData.int 0))).bnd fun b9 => Rs.ok (PyData.bool b9)).bnd fun d1 => Rs.ok d1)
def K_law_least : Fn := ⟨1, ["items"], false, .cons (.ret (.ite (.cmp .ne (.v 0) (.lst (.nil))) (.p1 .min (.v 0)) (.k (.none)))) .nil⟩
def s_law_least : D → Rs D := fun items1 => (((Rs.lift (cmpF .ne items1 (PyData.list []))).bnd fun b1 => Rs.ok (PyData.bool b1)).bnd fun x1 => (asBs x1).bnd fun b2 => cond b2 (Rs.lift (p1F .min items1)) (Rs.ok (.none : D))).bnd fun d1 => Rs.ok d1
def K_law_first : Fn := ⟨1, ["faults", "one"], false, .cons (.for_ (.one 1) (.ov (.v 0)) (.cons (.if_ (.notN (.idx (.v 1) (.k (.int 1)))) (.cons (.ret (.v 1)) .nil) (.nil)) (.cons (.fgt [1]) .nil))) (.cons (.ret (.k (.none))) .nil)⟩
def s_law_first_l1 : List D → D → (List D → Rs D) → (List D → Rs D) → Rs D := fun s x1 next1 brk1 => klist1 Rs.no s fun faults2 => ((Rs.lift (idxF x1 (PyData.int 1))).bnd fun x2 => Rs.ok (PyData.bool !(isNoneD x2))).bnd fun x3 => (asBs x3).bnd fun b1 => cond b1 (Rs.ok x1) (next1 [faults2])
def s_law_first : D → Rs D := fun faults1 => kop Rs.no (seqOf faults1) fun xs1 => forK s_law_first_l1 xs1 [faults1] fun s1 => klist1 Rs.no s1 fun faults3 => Rs.ok (.none : D)
def K_law_f_brackets : Fn := ⟨1, ["value", "row", "low", "k"], false, .cons (.if_ (.or_ (.cons (.not_ (.call 27 (.cons (.v 0) (.cons (.k (.none)) (.cons (.k (.int 0)) (.cons (.k (.int 1)) .nil)))))) (.cons (.cmp .gt (.p1 .len (.v 0)) (.k (.int 1000))) .nil))) (.cons (.ret (.tup (.cons (.k (.str "form")) (.cons (.k (.int 0)) .nil)))) .nil) (.nil)) (.cons (.asg 1 (.call 32 (.cons (.v 0) .nil))) (.cons (.asg 2 (.comp [3] (.v 3) (.one 3) (.rng1 (.p1 .len (.v 0))) (.yes (.cmp .lt (.idx (.v 1) (.bin .add (.v 3) (.k (.int 1)))) (.k (.int 0)))))) (.cons (.ret (.call 29 (.cons (.lst (.cons (.tup (.cons (.k (.str "shut")) (.cons (.call 28 (.cons (.v 2) .nil)) .nil))) (.cons (.tup (.cons (.k (.str "open")) (.cons (.ite (.cmp .gt (.idx (.v 1) (.neg (.k (.int 1)))) (.k (.int 0))) (.idx (.v 1) (.neg (.k (.int 1)))) (.k (.none))) .nil))) .nil))) .nil))) .nil)))⟩
def s_law_f_brackets : D → Rs D := fun value1 => (((s_law_is_row value1 (.none : D) (PyData.int 0) (PyData.int 1)).bnd fun x1 => (asBs x1).bnd fun b1 => Rs.ok (PyData.bool !b1)).bnd fun x2 => (asBs x2).bnd fun b3 => cond b3 (Rs.ok (PyData.bool true)) ((Rs.lift (p1F .len value1)).bnd fun x3 => (Rs.lift (cmpF .gt x3 (PyData.int 1000))).bnd fun b2 => Rs.ok (PyData.bool b2))).bnd fun x4 => (asBs x4).bnd fun b4 => cond b4 (Rs.ok (PyData.tuple [(PyData.str "form"), (PyData.int 0)])) ((s_law_heights value1).bnd fun d1 => (((Rs.lift (p1F .len value1)).bnd fun x5 => Rs.lift (rngF1 x5)).bnd fun xs1 => (compM (fun x6 => ((((Rs.lift (binF .add x6 (PyData.int 1))).bnd fun x7 => Rs.lift (idxF d1 x7)).bnd fun x8 => (Rs.lift (cmpF .lt x8 (PyData.int 0))).bnd fun b5 => Rs.ok (PyData.bool b5)).bnd fun x9 => asBs x9).bnd fun b6 => cond b6 (Rs.ok (some x6)) (Rs.ok none)) xs1).bnd szL).bnd fun d2 => (s_law_least d2).bnd fun d3 => (((((asIs (PyData.int 1)).bnd fun i1 => Rs.ok (PyData.int (-i1))).bnd fun x10 => Rs.lift (idxF d1 x10)).bnd fun x11 => (Rs.lift (cmpF .gt x11 (PyData.int 0))).bnd fun b7 => Rs.ok (PyData.bool b7)).bnd fun x12 => (asBs x12).bnd fun b8 => cond b8 (((asIs (PyData.int 1)).bnd fun i2 => Rs.ok (PyData.int (-i2))).bnd fun x13 => Rs.lift (idxF d1 x13)) (Rs.ok (.none : D))).bnd fun d4 => (s_law_first (PyData.list [(PyData.tuple [(PyData.str "shut"), d3]), (PyData.tuple [(PyData.str "open"), d4])])).bnd fun d5 => Rs.ok d5)
def K_law_opens : Fn := ⟨1, ["value", "k"], false, .cons (.ret (.comp [1] (.v 1) (.one 1) (.rng1 (.p1 .len (.v 0))) (.yes (.cmp .eq (.idx (.v 0) (.v 1)) (.k (.int 0)))))) .nil⟩
def s_law_opens : D → Rs D := fun value1 => (((Rs.lift (p1F .len value1)).bnd fun x1 => Rs.lift (rngF1 x1)).bnd fun xs1 => (compM (fun x2 => (((Rs.lift (idxF value1 x2)).bnd fun x3 => (Rs.lift (cmpF .eq x3 (PyData.int 0))).bnd fun b1 => Rs.ok (PyData.bool b1)).bnd fun x4 => asBs x4).bnd fun b2 => cond b2 (Rs.ok (some x2)) (Rs.ok none)) xs1).bnd szL).bnd fun d1 => Rs.ok d1
def s_law_listed : Nat → D → D → Rs D
  | 0, _, _ => Rs.no
  | n + 1, value1, deep1 => cond (!((isTy value1 .tuple))) (Rs.ok value1) (((Rs.lift (cmpF .eq deep1 (PyData.int 0))).bnd fun b1 => Rs.ok (PyData.bool b1)).bnd fun x1 => (asBs x1).bnd fun b2 => cond b2 ((Rs.lift (p1F .list value1)).bnd fun d1 => Rs.ok d1) ((((Rs.lift (seqOf value1)).bnd fun xs1 => (compM (fun x2 => ((Rs.lift (binF .sub deep1 (PyData.int 1))).bnd fun d2 => (s_law_listed n) x2 d2).bnd fun d3 => Rs.ok (some d3)) xs1).bnd szL).bnd fun x3 => Rs.lift (p1F .tuple x3)).bnd fun d4 => Rs.ok d4))
def s_law_booled : Nat → D → Rs D
  | 0, _ => Rs.no
  | n + 1, value1 => cond ((isTy value1 .tuple)) ((((Rs.lift (seqOf value1)).bnd fun xs1 => (compM (fun x1 => ((s_law_booled n) x1).bnd fun d1 => Rs.ok (some d1)) xs1).bnd szL).bnd fun x2 => Rs.lift (p1F .tuple x2)).bnd fun d2 => Rs.ok d2) ((((s_law_is_integer value1).bnd fun x3 => (asBs x3).bnd fun b2 => cond b2 ((Rs.lift (cmpF .in_ value1 (PyData.tuple [(PyData.int 0), (PyData.int 1)]))).bnd fun b1 => Rs.ok (PyData.bool b1)) (Rs.ok (PyData.bool false))).bnd fun x4 => (asBs x4).bnd fun b3 => cond b3 ((Rs.lift (cmpF .eq value1 (PyData.int 1))).bnd fun b4 => Rs.ok (PyData.bool b4)) (Rs.ok value1)).bnd fun d3 => Rs.ok d3)
def K_heights : Fn := ⟨1, ["value", "found", "sign"], false, .cons (.new 1 (.lst (.cons (.k (.int 0)) .nil))) (.cons (.for_ (.one 2) (.ov (.v 0)) (.cons (.app 1 (.bin .sub (.bin .add (.idx (.v 1) (.neg (.k (.int 1)))) (.k (.int 1))) (.bin .mul (.k (.int 2)) (.v 2)))) (.cons (.fgt [2]) .nil))) (.cons (.ret (.v 1)) .nil))⟩
def s_heights_l1 : List D → D → (List D → Rs D) → (List D → Rs D) → Rs D := fun s x1 next1 brk1 => klist2 Rs.no s fun value2 found1 => klst Rs.no found1 ((((((asIs (PyData.int 1)).bnd fun i1 => Rs.ok (PyData.int (-i1))).bnd fun x2 => Rs.lift (idxF found1 x2)).bnd fun x3 => Rs.lift (binF .add x3 (PyData.int 1))).bnd fun x4 => (Rs.lift (binF .mul (PyData.int 2) x1)).bnd fun x5 => Rs.lift (binF .sub x4 x5)).bnd fun d1 => kop Rs.no (appF found1 d1) fun found2 => next1 [value2, found2])
def s_heights : D → Rs D := fun value1 => kop Rs.no (seqOf value1) fun xs1 => forK s_heights_l1 xs1 [value1, (PyData.list [(PyData.int 0)])] fun s1 => klist2 Rs.no s1 fun value3 found3 => Rs.ok found3
def K_first_true : Fn := ⟨1, ["flags", "k"], false, .cons (.for_ (.one 1) (.rng1 (.p1 .len (.v 0))) (.cons (.if_ (.idx (.v 0) (.v 1)) (.cons (.ret (.v 1)) .nil) (.nil)) (.cons (.fgt [1]) .nil))) (.cons (.ret (.k (.none))) .nil)⟩
def s_first_true_l1 : List D → D → (List D → Rs D) → (List D → Rs D) → Rs D := fun s x2 next1 brk1 => klist1 Rs.no s fun flags2 => (Rs.lift (idxF flags2 x2)).bnd fun x3 => (asBs x3).bnd fun b1 => cond b1 (Rs.ok x2) (next1 [flags2])
def s_first_true : D → Rs D := fun flags1 => ((Rs.lift (p1F .len flags1)).bnd fun x1 => Rs.lift (rngF1 x1)).bnd fun xs1 => forK s_first_true_l1 xs1 [flags1] fun s1 => klist1 Rs.no s1 fun flags3 => Rs.ok (.none : D)
def K_is_whole : Fn := ⟨1, ["value"], false, .cons (.ret (.and_ (.cons (.isi (.v 0) .int) (.cons (.not_ (.isi (.v 0) .bool)) .nil)))) .nil⟩
def s_is_whole : D → Rs D := fun value1 => (cond ((isTy value1 .int)) (Rs.ok (PyData.bool !((isTy value1 .bool)))) (Rs.ok (PyData.bool false))).bnd fun d1 => Rs.ok d1
def K_is_from : Fn := ⟨3, ["value", "low", "high"], false, .cons (.ret (.and_ (.cons (.call 0 (.cons (.v 0) .nil)) (.cons (.chn .le .le (.v 1) (.v 0) (.v 2)) .nil)))) .nil⟩
def s_is_from : D → D → D → Rs D := fun value1 low1 high1 => ((s_is_whole value1).bnd fun x1 => (asBs x1).bnd fun b3 => cond b3 ((Rs.lift (cmpF .le low1 value1)).bnd fun b1 => cond b1 ((Rs.lift (cmpF .le value1 high1)).bnd fun b2 => Rs.ok (PyData.bool b2)) (Rs.ok (PyData.bool false))) (Rs.ok (PyData.bool false))).bnd fun d1 => Rs.ok d1
def K_is_row : Fn := ⟨1, ["value", "item"], false, .cons (.ret (.and_ (.cons (.isi (.v 0) .tuple) (.cons (.cmp .le (.p1 .len (.v 0)) (.g (.int 1000))) (.cons (.p1 .all (.comp [1] (.call 1 (.cons (.v 1) (.cons (.k (.int 0)) (.cons (.g (.int 1000)) .nil)))) (.one 1) (.ov (.v 0)) .no)) .nil))))) .nil⟩
def s_is_row : D → Rs D := fun value1 => (cond ((isTy value1 .tuple)) (((Rs.lift (p1F .len value1)).bnd fun x1 => (Rs.lift (cmpF .le x1 (PyData.int 1000))).bnd fun b1 => Rs.ok (PyData.bool b1)).bnd fun x2 => (asBs x2).bnd fun b2 => cond b2 (((Rs.lift (seqOf value1)).bnd fun xs1 => (compM (fun x3 => (s_is_from x3 (PyData.int 0) (PyData.int 1000)).bnd fun d1 => Rs.ok (some d1)) xs1).bnd szL).bnd fun x4 => Rs.lift (p1F .all x4)) (Rs.ok (PyData.bool false))) (Rs.ok (PyData.bool false))).bnd fun d2 => Rs.ok d2
def K_partner : Fn := ⟨2, ["value", "at", "row", "height"], false, .cons (.asg 2 (.call 4 (.cons (.v 0) .nil))) (.cons (.ret (.bin .add (.bin .add (.v 1) (.k (.int 1))) (.call 3 (.cons (.comp [3] (.cmp .eq (.v 3) (.idx (.v 2) (.v 1))) (.one 3) (.ov (.slc (.v 2) (.yes (.bin .add (.v 1) (.k (.int 2)))) .no)) .no) .nil)))) .nil)⟩
def s_partner : D → D → Rs D := fun value1 at1 => (s_heights value1).bnd fun d1 => ((Rs.lift (binF .add at1 (PyData.int 1))).bnd fun x1 => ((((((Rs.lift (binF .add at1 (PyData.int 2))).bnd fun x2 => (asIs x2).bnd fun i1 => Rs.ok (some i1)).bnd fun x3 => Rs.lift (slcF x3 none d1)).bnd fun x4 => Rs.lift (seqOf x4)).bnd fun xs1 => (compM (fun x5 => ((Rs.lift (idxF d1 at1)).bnd fun x6 => (Rs.lift (cmpF .eq x5 x6)).bnd fun b1 => Rs.ok (PyData.bool b1)).bnd fun d2 => Rs.ok (some d2)) xs1).bnd szL).bnd fun d3 => s_first_true d3).bnd fun x7 => Rs.lift (binF .add x1 x7)).bnd fun d4 => Rs.ok d4
def K_parted : Fn := ⟨1, ["value", "end"], false, .cons (.asg 1 (.call 10 (.cons (.v 0) (.cons (.k (.int 0)) .nil)))) (.cons (.ret (.tup (.cons (.slc (.v 0) (.yes (.k (.int 1))) (.yes (.v 1))) (.cons (.slc (.v 0) (.yes (.bin .add (.v 1) (.k (.int 1)))) .no) .nil)))) .nil)⟩
def s_parted : D → Rs D := fun value1 => (s_partner value1 (PyData.int 0)).bnd fun d1 => (((asIs (PyData.int 1)).bnd fun i1 => Rs.ok (some i1)).bnd fun x1 => ((asIs d1).bnd fun i2 => Rs.ok (some i2)).bnd fun x2 => Rs.lift (slcF x1 x2 value1)).bnd fun d2 => (((Rs.lift (binF .add d1 (PyData.int 1))).bnd fun x3 => (asIs x3).bnd fun i3 => Rs.ok (some i3)).bnd fun x4 => Rs.lift (slcF x4 none value1)).bnd fun d3 => Rs.ok (PyData.tuple [d2, d3])
def K_first_of_13 : Fn := ⟨1, ["faults", "fault"], false, .cons (.for_ (.one 1) (.ov (.v 0)) (.cons (.if_ (.notN (.v 1)) (.cons (.ret (.v 1)) .nil) (.nil)) (.cons (.fgt [1]) .nil))) (.cons (.ret (.k (.none))) .nil)⟩
def s_first_of_13_l1 : List D → D → (List D → Rs D) → (List D → Rs D) → Rs D := fun s x1 next1 brk1 => klist1 Rs.no s fun faults2 => cond (!(isNoneD x1)) (Rs.ok x1) (next1 [faults2])
def s_first_of_13 : D → Rs D := fun faults1 => kop Rs.no (seqOf faults1) fun xs1 => forK s_first_of_13_l1 xs1 [faults1] fun s1 => klist1 Rs.no s1 fun faults3 => Rs.ok (.none : D)
def K_fault_at : Fn := ⟨2, ["word", "place"], false, .cons (.ret (.ite (.isN (.v 1)) (.k (.none)) (.tup (.cons (.v 0) (.cons (.v 1) .nil))))) .nil⟩
def s_fault_at : D → D → Rs D := fun word1 place1 => (cond ((isNoneD place1)) (Rs.ok (.none : D)) (Rs.ok (PyData.tuple [word1, place1]))).bnd fun d1 => Rs.ok d1
def K_law_fork : Fn := ⟨1, ["value", "end"], false, .cons (.if_ (.cmp .eq (.v 0) (.tup (.nil))) (.cons (.ret (.tup (.nil))) .nil) (.nil)) (.cons (.asg 1 (.call 36 (.cons (.v 0) (.cons (.k (.int 0)) .nil)))) (.cons (.ret (.tup (.cons (.call 58 (.cons (.slc (.v 0) (.yes (.k (.int 1))) (.yes (.v 1))) .nil)) (.cons (.call 58 (.cons (.slc (.v 0) (.yes (.bin .add (.v 1) (.k (.int 1)))) .no) .nil)) .nil)))) .nil))⟩
def s_law_fork : Nat → D → Rs D
  | 0, _ => Rs.no
  | n + 1, value1 => ((Rs.lift (cmpF .eq value1 (PyData.tuple []))).bnd fun b1 => Rs.ok (PyData.bool b1)).bnd fun x1 => (asBs x1).bnd fun b2 => cond b2 (Rs.ok (PyData.tuple [])) ((s_law_end value1 (PyData.int 0)).bnd fun d1 => (((asIs (PyData.int 1)).bnd fun i1 => Rs.ok (some i1)).bnd fun x2 => ((asIs d1).bnd fun i2 => Rs.ok (some i2)).bnd fun x3 => Rs.lift (slcF x2 x3 value1)).bnd fun d2 => ((s_law_fork n) d2).bnd fun d3 => (((Rs.lift (binF .add d1 (PyData.int 1))).bnd fun x4 => (asIs x4).bnd fun i3 => Rs.ok (some i3)).bnd fun x5 => Rs.lift (slcF x5 none value1)).bnd fun d4 => ((s_law_fork n) d4).bnd fun d5 => Rs.ok (PyData.tuple [d3, d5]))
def K_law_fork_size : Fn := ⟨1, ["fork"], false, .cons (.ret (.ite (.cmp .eq (.p1 .len (.v 0)) (.k (.int 2))) (.bin .add (.bin .add (.k (.int 1)) (.call 59 (.cons (.idx (.v 0) (.k (.int 0))) .nil))) (.call 59 (.cons (.idx (.v 0) (.k (.int 1))) .nil))) (.k (.int 0)))) .nil⟩
def s_law_fork_size : Nat → D → Rs D
  | 0, _ => Rs.no
  | n + 1, fork1 => (((Rs.lift (p1F .len fork1)).bnd fun x1 => (Rs.lift (cmpF .eq x1 (PyData.int 2))).bnd fun b1 => Rs.ok (PyData.bool b1)).bnd fun x2 => (asBs x2).bnd fun b2 => cond b2 ((((Rs.lift (idxF fork1 (PyData.int 0))).bnd fun d1 => (s_law_fork_size n) d1).bnd fun x3 => Rs.lift (binF .add (PyData.int 1) x3)).bnd fun x4 => ((Rs.lift (idxF fork1 (PyData.int 1))).bnd fun d2 => (s_law_fork_size n) d2).bnd fun x5 => Rs.lift (binF .add x4 x5)) (Rs.ok (PyData.int 0))).bnd fun d3 => Rs.ok d3
def K_size_4 : Fn := ⟨1, ["value"], false, .cons (.ret (.ite (.cmp .eq (.p1 .len (.v 0)) (.k (.int 2))) (.bin .add (.bin .add (.k (.int 1)) (.call 84 (.cons (.idx (.v 0) (.k (.int 0))) .nil))) (.call 84 (.cons (.idx (.v 0) (.k (.int 1))) .nil))) (.k (.int 0)))) .nil⟩
def s_size_4 : Nat → D → Rs D
  | 0, _ => Rs.no
  | n + 1, value1 => (((Rs.lift (p1F .len value1)).bnd fun x1 => (Rs.lift (cmpF .eq x1 (PyData.int 2))).bnd fun b1 => Rs.ok (PyData.bool b1)).bnd fun x2 => (asBs x2).bnd fun b2 => cond b2 ((((Rs.lift (idxF value1 (PyData.int 0))).bnd fun d1 => (s_size_4 n) d1).bnd fun x3 => Rs.lift (binF .add (PyData.int 1) x3)).bnd fun x4 => ((Rs.lift (idxF value1 (PyData.int 1))).bnd fun d2 => (s_size_4 n) d2).bnd fun x5 => Rs.lift (binF .add x4 x5)) (Rs.ok (PyData.int 0))).bnd fun d3 => Rs.ok d3
def K_from_brackets_5 : Fn := ⟨1, ["value", "inner", "outer"], false, .cons (.if_ (.cmp .eq (.p1 .len (.v 0)) (.k (.int 0))) (.cons (.ret (.tup (.nil))) .nil) (.nil)) (.cons (.asgT [1, 2] (.call 11 (.cons (.v 0) .nil))) (.cons (.ret (.tup (.cons (.call 85 (.cons (.v 1) .nil)) (.cons (.call 85 (.cons (.v 2) .nil)) .nil)))) .nil))⟩
def s_from_brackets_5 : Nat → D → Rs D
  | 0, _ => Rs.no
  | n + 1, value1 => ((Rs.lift (p1F .len value1)).bnd fun x1 => (Rs.lift (cmpF .eq x1 (PyData.int 0))).bnd fun b1 => Rs.ok (PyData.bool b1)).bnd fun x2 => (asBs x2).bnd fun b2 => cond b2 (Rs.ok (PyData.tuple [])) ((s_parted value1).bnd fun d1 => ktup2 Rs.no d1 fun inner1 outer1 => ((s_from_brackets_5 n) inner1).bnd fun d2 => ((s_from_brackets_5 n) outer1).bnd fun d3 => Rs.ok (PyData.tuple [d2, d3]))
def K_law_pairs_form : Fn := ⟨1, ["value", "one"], false, .cons (.ret (.and_ (.cons (.isi (.v 0) .tuple) (.cons (.cmp .le (.p1 .len (.v 0)) (.k (.int 1000))) (.cons (.cmp .eq (.p1 .len (.comp [1] (.v 1) (.one 1) (.ov (.v 0)) (.yes (.not_ (.call 27 (.cons (.v 1) (.cons (.k (.int 2)) (.cons (.k (.int 0)) (.cons (.k (.int 1000)) .nil))))))))) (.k (.int 0))) .nil))))) .nil⟩
def s_law_pairs_form : D → Rs D := fun value1 => (cond ((isTy value1 .tuple)) (((Rs.lift (p1F .len value1)).bnd fun x1 => (Rs.lift (cmpF .le x1 (PyData.int 1000))).bnd fun b1 => Rs.ok (PyData.bool b1)).bnd fun x2 => (asBs x2).bnd fun b5 => cond b5 ((((Rs.lift (seqOf value1)).bnd fun xs1 => (compM (fun x3 => (((s_law_is_row x3 (PyData.int 2) (PyData.int 0) (PyData.int 1000)).bnd fun x4 => (asBs x4).bnd fun b2 => Rs.ok (PyData.bool !b2)).bnd fun x5 => asBs x5).bnd fun b3 => cond b3 (Rs.ok (some x3)) (Rs.ok none)) xs1).bnd szL).bnd fun x6 => Rs.lift (p1F .len x6)).bnd fun x7 => (Rs.lift (cmpF .eq x7 (PyData.int 0))).bnd fun b4 => Rs.ok (PyData.bool b4)) (Rs.ok (PyData.bool false))) (Rs.ok (PyData.bool false))).bnd fun d1 => Rs.ok d1
def K_are_pairs : Fn := ⟨1, ["value", "item"], false, .cons (.if_ (.or_ (.cons (.not_ (.isi (.v 0) .tuple)) (.cons (.cmp .gt (.p1 .len (.v 0)) (.g (.int 1000))) .nil))) (.cons (.ret (.k (.bool false))) .nil) (.nil)) (.cons (.ret (.p1 .all (.comp [1] (.and_ (.cons (.call 2 (.cons (.v 1) .nil)) (.cons (.cmp .eq (.p1 .len (.v 1)) (.k (.int 2))) .nil))) (.one 1) (.ov (.v 0)) .no))) .nil)⟩
def s_are_pairs : D → Rs D := fun value1 => (cond (!((isTy value1 .tuple))) (Rs.ok (PyData.bool true)) ((Rs.lift (p1F .len value1)).bnd fun x1 => (Rs.lift (cmpF .gt x1 (PyData.int 1000))).bnd fun b1 => Rs.ok (PyData.bool b1))).bnd fun x2 => (asBs x2).bnd fun b2 => cond b2 (Rs.ok (PyData.bool false)) ((((Rs.lift (seqOf value1)).bnd fun xs1 => (compM (fun x3 => ((s_is_row x3).bnd fun x4 => (asBs x4).bnd fun b4 => cond b4 ((Rs.lift (p1F .len x3)).bnd fun x5 => (Rs.lift (cmpF .eq x5 (PyData.int 2))).bnd fun b3 => Rs.ok (PyData.bool b3)) (Rs.ok (PyData.bool false))).bnd fun d1 => Rs.ok (some d1)) xs1).bnd szL).bnd fun x6 => Rs.lift (p1F .all x6)).bnd fun d2 => Rs.ok d2)
def K_to_brackets_5 : Fn := ⟨1, ["value"], false, .cons (.if_ (.cmp .eq (.p1 .len (.v 0)) (.k (.int 0))) (.cons (.ret (.tup (.nil))) .nil) (.nil)) (.cons (.ret (.bin .add (.bin .add (.bin .add (.tup (.cons (.k (.int 0)) .nil)) (.call 86 (.cons (.idx (.v 0) (.k (.int 0))) .nil))) (.tup (.cons (.k (.int 1)) .nil))) (.call 86 (.cons (.idx (.v 0) (.k (.int 1))) .nil)))) .nil)⟩
def s_to_brackets_5 : Nat → D → Rs D
  | 0, _ => Rs.no
  | n + 1, value1 => ((Rs.lift (p1F .len value1)).bnd fun x1 => (Rs.lift (cmpF .eq x1 (PyData.int 0))).bnd fun b1 => Rs.ok (PyData.bool b1)).bnd fun x2 => (asBs x2).bnd fun b2 => cond b2 (Rs.ok (PyData.tuple [])) ((((((Rs.lift (idxF value1 (PyData.int 0))).bnd fun d1 => (s_to_brackets_5 n) d1).bnd fun x3 => Rs.lift (binF .add (PyData.tuple [(PyData.int 0)]) x3)).bnd fun x4 => Rs.lift (binF .add x4 (PyData.tuple [(PyData.int 1)]))).bnd fun x5 => ((Rs.lift (idxF value1 (PyData.int 1))).bnd fun d2 => (s_to_brackets_5 n) d2).bnd fun x6 => Rs.lift (binF .add x5 x6)).bnd fun d3 => Rs.ok d3)
def K_law_small_row : Fn := ⟨1, ["value"], false, .cons (.ret (.and_ (.cons (.call 27 (.cons (.v 0) (.cons (.k (.none)) (.cons (.k (.int 0)) (.cons (.k (.int 1000)) .nil))))) (.cons (.cmp .le (.p1 .len (.v 0)) (.k (.int 1000))) .nil)))) .nil⟩
def s_law_small_row : D → Rs D := fun value1 => ((s_law_is_row value1 (.none : D) (PyData.int 0) (PyData.int 1000)).bnd fun x1 => (asBs x1).bnd fun b2 => cond b2 ((Rs.lift (p1F .len value1)).bnd fun x2 => (Rs.lift (cmpF .le x2 (PyData.int 1000))).bnd fun b1 => Rs.ok (PyData.bool b1)) (Rs.ok (PyData.bool false))).bnd fun d1 => Rs.ok d1
def K_law_wrong_number : Fn := ⟨2, ["numbers", "many", "k", "one"], false, .cons (.ret (.call 28 (.cons (.comp [2] (.v 2) (.one 2) (.rng1 (.v 1)) (.yes (.cmp .ne (.p1 .len (.comp [3] (.v 3) (.one 3) (.ov (.v 0)) (.yes (.cmp .eq (.v 3) (.v 2))))) (.k (.int 1))))) .nil))) .nil⟩
def s_law_wrong_number : D → D → Rs D := fun numbers1 many1 => ((Rs.lift (rngF1 many1)).bnd fun xs1 => (compM (fun x1 => (((((Rs.lift (seqOf numbers1)).bnd fun xs2 => (compM (fun x2 => (((Rs.lift (cmpF .eq x2 x1)).bnd fun b1 => Rs.ok (PyData.bool b1)).bnd fun x3 => asBs x3).bnd fun b2 => cond b2 (Rs.ok (some x2)) (Rs.ok none)) xs2).bnd szL).bnd fun x4 => Rs.lift (p1F .len x4)).bnd fun x5 => (Rs.lift (cmpF .ne x5 (PyData.int 1))).bnd fun b3 => Rs.ok (PyData.bool b3)).bnd fun x6 => asBs x6).bnd fun b4 => cond b4 (Rs.ok (some x1)) (Rs.ok none)) xs1).bnd szL).bnd fun d1 => (s_law_least d1).bnd fun d2 => Rs.ok d2
def K_first_wrong : Fn := ⟨2, ["numbers", "many", "number"], false, .cons (.ret (.call 3 (.cons (.comp [2] (.cmp .ne (.m1 .count (.v 0) (.v 2)) (.k (.int 1))) (.one 2) (.rng1 (.v 1)) .no) .nil))) .nil⟩
def s_first_wrong : D → D → Rs D := fun numbers1 many1 => ((Rs.lift (rngF1 many1)).bnd fun xs1 => (compM (fun x1 => (((Rs.lift (lstD numbers1)).bnd fun x2 => Rs.lift (m1F .count (.list x2) x1)).bnd fun x3 => (Rs.lift (cmpF .ne x3 (PyData.int 1))).bnd fun b1 => Rs.ok (PyData.bool b1)).bnd fun d1 => Rs.ok (some d1)) xs1).bnd szL).bnd fun d2 => (s_first_true d2).bnd fun d3 => Rs.ok d3
def K_size_7 : Fn := ⟨1, ["value"], false, .cons (.ret (.p1 .len (.v 0))) .nil⟩
def s_size_7 : D → Rs D := fun value1 => (Rs.lift (p1F .len value1)).bnd fun d1 => Rs.ok d1
def K_law_shuts : Fn := ⟨1, ["value", "k"], false, .cons (.ret (.comp [1] (.v 1) (.one 1) (.rng1 (.p1 .len (.v 0))) (.yes (.cmp .eq (.idx (.v 0) (.v 1)) (.k (.int 1)))))) .nil⟩
def s_law_shuts : D → Rs D := fun value1 => (((Rs.lift (p1F .len value1)).bnd fun x1 => Rs.lift (rngF1 x1)).bnd fun xs1 => (compM (fun x2 => (((Rs.lift (idxF value1 x2)).bnd fun x3 => (Rs.lift (cmpF .eq x3 (PyData.int 1))).bnd fun b1 => Rs.ok (PyData.bool b1)).bnd fun x4 => asBs x4).bnd fun b2 => cond b2 (Rs.ok (some x2)) (Rs.ok none)) xs1).bnd szL).bnd fun d1 => Rs.ok d1
def K_law_pool : Fn := ⟨1, ["script", "salt", "cell"], false, .cons (.asg 1 (.k (.int 7))) (.cons (.for_ (.one 2) (.ov (.slc (.v 0) .no (.yes (.k (.int 63))))) (.cons (.asg 1 (.bin .mod (.p1 .int (.bin .add (.bin .mul (.v 1) (.k (.int 31))) (.v 2))) (.k (.int 1000003)))) (.cons (.fgt [2]) .nil))) (.cons (.ret (.lst (.cons (.p1 .list (.v 0)) (.cons (.k (.int 0)) (.cons (.k (.int 0)) (.cons (.k (.int 0)) (.cons (.v 1) .nil))))))) .nil))⟩
def s_law_pool_l1 : List D → D → (List D → Rs D) → (List D → Rs D) → Rs D := fun s x2 next1 brk1 => klist2 Rs.no s fun script2 salt1 => ((((Rs.lift (binF .mul salt1 (PyData.int 31))).bnd fun x3 => Rs.lift (binF .add x3 x2)).bnd fun x4 => Rs.lift (p1F .int x4)).bnd fun x5 => Rs.lift (binF .mod x5 (PyData.int 1000003))).bnd fun d2 => next1 [script2, d2]
def s_law_pool : D → Rs D := fun script1 => (((asIs (PyData.int 63)).bnd fun i1 => Rs.ok (some i1)).bnd fun x1 => Rs.lift (slcF none x1 script1)).bnd fun d1 => kop Rs.no (seqOf d1) fun xs1 => forK s_law_pool_l1 xs1 [script1, (PyData.int 7)] fun s1 => klist2 Rs.no s1 fun script3 salt2 => (Rs.lift (p1F .list script3)).bnd fun d3 => Rs.ok (PyData.list [d3, (PyData.int 0), (PyData.int 0), (PyData.int 0), salt2])
def K_must_be : Fn := ⟨1, ["good"], false, .cons (.if_ (.not_ (.v 0)) (.cons (.raise 0 (.cons (.k (.str "a wrong row")) .nil)) .nil) (.nil)) .nil⟩
def s_must_be : D → Rs D := fun good1 => ((asBs good1).bnd fun b1 => Rs.ok (PyData.bool !b1)).bnd fun x1 => (asBs x1).bnd fun b2 => cond b2 (Rs.ex ⟨0, []⟩) (Rs.ok PyData.none)
def K_is_signs : Fn := ⟨1, ["value", "sign"], false, .cons (.if_ (.not_ (.isi (.v 0) .tuple)) (.cons (.ret (.k (.bool false))) .nil) (.nil)) (.cons (.ret (.p1 .all (.comp [1] (.and_ (.cons (.isi (.v 1) .int) (.cons (.not_ (.isi (.v 1) .bool)) (.cons (.chn .le .le (.k (.int 0)) (.v 1) (.k (.int 1))) .nil)))) (.one 1) (.ov (.v 0)) .no))) .nil)⟩
def s_is_signs : D → Rs D := fun value1 => cond (!((isTy value1 .tuple))) (Rs.ok (PyData.bool false)) ((((Rs.lift (seqOf value1)).bnd fun xs1 => (compM (fun x1 => (cond ((isTy x1 .int)) (cond (!((isTy x1 .bool))) ((Rs.lift (cmpF .le (PyData.int 0) x1)).bnd fun b1 => cond b1 ((Rs.lift (cmpF .le x1 (PyData.int 1))).bnd fun b2 => Rs.ok (PyData.bool b2)) (Rs.ok (PyData.bool false))) (Rs.ok (PyData.bool false))) (Rs.ok (PyData.bool false))).bnd fun d1 => Rs.ok (some d1)) xs1).bnd szL).bnd fun x2 => Rs.lift (p1F .all x2)).bnd fun d2 => Rs.ok d2)
end Ev

set_option Elab.async false
set_option linter.all false
set_option maxRecDepth 100000
set_option autoImplicit false
set_option maxHeartbeats 4000000
/-! S25: plain texts. -/
namespace Ev
open PySem L2
def K_choose : Fn := ⟨2, ["many", "some", "found", "k"], false, .cons (.if_ (.not_ (.chn .le .le (.k (.int 0)) (.v 1) (.v 0))) (.cons (.ret (.k (.int 0))) .nil) (.nil)) (.cons (.asg 2 (.k (.int 1))) (.cons (.for_ (.one 3) (.rng1 (.v 1)) (.cons (.asg 2 (.bin .fdiv (.bin .mul (.v 2) (.bin .sub (.v 0) (.v 3))) (.bin .add (.v 3) (.k (.int 1))))) (.cons (.fgt [3]) .nil))) (.cons (.ret (.v 2)) .nil)))⟩
def s_choose_l1 : List D → D → (List D → Rs D) → (List D → Rs D) → Rs D := fun s x3 next1 brk1 => klist3 Rs.no s fun many2 some2 found1 => (((Rs.lift (binF .sub many2 x3)).bnd fun x4 => Rs.lift (binF .mul found1 x4)).bnd fun x5 => (Rs.lift (binF .add x3 (PyData.int 1))).bnd fun x6 => Rs.lift (binF .fdiv x5 x6)).bnd fun d1 => next1 [many2, some2, d1]
def s_choose : D → D → Rs D := fun many1 some1 => (((Rs.lift (cmpF .le (PyData.int 0) some1)).bnd fun b1 => cond b1 ((Rs.lift (cmpF .le some1 many1)).bnd fun b2 => Rs.ok (PyData.bool b2)) (Rs.ok (PyData.bool false))).bnd fun x1 => (asBs x1).bnd fun b3 => Rs.ok (PyData.bool !b3)).bnd fun x2 => (asBs x2).bnd fun b4 => cond b4 (Rs.ok (PyData.int 0)) ((Rs.lift (rngF1 some1)).bnd fun xs1 => forK s_choose_l1 xs1 [many1, some1, (PyData.int 1)] fun s1 => klist3 Rs.no s1 fun many3 some3 found2 => Rs.ok found2)
def K_catalan : Fn := ⟨1, ["many"], false, .cons (.ret (.bin .fdiv (.call 224 (.cons (.bin .mul (.k (.int 2)) (.v 0)) (.cons (.v 0) .nil))) (.bin .add (.v 0) (.k (.int 1))))) .nil⟩
def s_catalan : D → Rs D := fun many1 => (((Rs.lift (binF .mul (PyData.int 2) many1)).bnd fun d1 => s_choose d1 many1).bnd fun x1 => (Rs.lift (binF .add many1 (PyData.int 1))).bnd fun x2 => Rs.lift (binF .fdiv x1 x2)).bnd fun d2 => Rs.ok d2
def K_reflected : Fn := ⟨1, ["value", "low", "height", "sign"], false, .cons (.drop (.call 331 (.cons (.and_ (.cons (.call 332 (.cons (.v 0) .nil)) (.cons (.cmp .eq (.m1t .count (.v 0) (.k (.int 0))) (.m1t .count (.v 0) (.k (.int 1)))) .nil))) .nil))) (.cons (.asg 1 (.call 3 (.cons (.comp [2] (.cmp .eq (.v 2) (.neg (.k (.int 1)))) (.one 2) (.ov (.call 4 (.cons (.v 0) .nil))) .no) .nil))) (.cons (.drop (.call 331 (.cons (.notN (.v 1)) .nil))) (.cons (.ret (.bin .add (.slc (.v 0) .no (.yes (.v 1))) (.p1 .tuple (.comp [3] (.bin .sub (.k (.int 1)) (.v 3)) (.one 3) (.ov (.slc (.v 0) (.yes (.v 1)) .no)) .no)))) .nil)))⟩
def s_reflected : D → Rs D := fun value1 => ((s_is_signs value1).bnd fun x1 => (asBs x1).bnd fun b2 => cond b2 (((Rs.lift (tupD value1)).bnd fun x2 => Rs.lift (m1F .count (.tuple x2) (PyData.int 0))).bnd fun x3 => ((Rs.lift (tupD value1)).bnd fun x4 => Rs.lift (m1F .count (.tuple x4) (PyData.int 1))).bnd fun x5 => (Rs.lift (cmpF .eq x3 x5)).bnd fun b1 => Rs.ok (PyData.bool b1)) (Rs.ok (PyData.bool false))).bnd fun d1 => (s_must_be d1).bnd fun d2 => (((s_heights value1).bnd fun x6 => Rs.lift (seqOf x6)).bnd fun xs1 => (compM (fun x7 => (((asIs (PyData.int 1)).bnd fun i1 => Rs.ok (PyData.int (-i1))).bnd fun x8 => (Rs.lift (cmpF .eq x7 x8)).bnd fun b3 => Rs.ok (PyData.bool b3)).bnd fun d3 => Rs.ok (some d3)) xs1).bnd szL).bnd fun d4 => (s_first_true d4).bnd fun d5 => (s_must_be (PyData.bool !(isNoneD d5))).bnd fun d6 => ((((asIs d5).bnd fun i2 => Rs.ok (some i2)).bnd fun x9 => Rs.lift (slcF none x9 value1)).bnd fun x10 => ((((((asIs d5).bnd fun i3 => Rs.ok (some i3)).bnd fun x11 => Rs.lift (slcF x11 none value1)).bnd fun x12 => Rs.lift (seqOf x12)).bnd fun xs2 => (compM (fun x13 => (Rs.lift (binF .sub (PyData.int 1) x13)).bnd fun d7 => Rs.ok (some d7)) xs2).bnd szL).bnd fun x14 => Rs.lift (p1F .tuple x14)).bnd fun x15 => Rs.lift (binF .add x10 x15)).bnd fun d8 => Rs.ok d8
def K_reflected_back : Fn := ⟨1, ["value", "low", "height", "sign"], false, .cons (.drop (.call 331 (.cons (.and_ (.cons (.call 332 (.cons (.v 0) .nil)) (.cons (.cmp .eq (.bin .add (.m1t .count (.v 0) (.k (.int 0))) (.k (.int 2))) (.m1t .count (.v 0) (.k (.int 1)))) .nil))) .nil))) (.cons (.asg 1 (.call 3 (.cons (.comp [2] (.cmp .eq (.v 2) (.neg (.k (.int 1)))) (.one 2) (.ov (.call 4 (.cons (.v 0) .nil))) .no) .nil))) (.cons (.ret (.bin .add (.slc (.v 0) .no (.yes (.v 1))) (.p1 .tuple (.comp [3] (.bin .sub (.k (.int 1)) (.v 3)) (.one 3) (.ov (.slc (.v 0) (.yes (.v 1)) .no)) .no)))) .nil))⟩
def s_reflected_back : D → Rs D := fun value1 => ((s_is_signs value1).bnd fun x1 => (asBs x1).bnd fun b2 => cond b2 ((((Rs.lift (tupD value1)).bnd fun x2 => Rs.lift (m1F .count (.tuple x2) (PyData.int 0))).bnd fun x3 => Rs.lift (binF .add x3 (PyData.int 2))).bnd fun x4 => ((Rs.lift (tupD value1)).bnd fun x5 => Rs.lift (m1F .count (.tuple x5) (PyData.int 1))).bnd fun x6 => (Rs.lift (cmpF .eq x4 x6)).bnd fun b1 => Rs.ok (PyData.bool b1)) (Rs.ok (PyData.bool false))).bnd fun d1 => (s_must_be d1).bnd fun d2 => (((s_heights value1).bnd fun x7 => Rs.lift (seqOf x7)).bnd fun xs1 => (compM (fun x8 => (((asIs (PyData.int 1)).bnd fun i1 => Rs.ok (PyData.int (-i1))).bnd fun x9 => (Rs.lift (cmpF .eq x8 x9)).bnd fun b3 => Rs.ok (PyData.bool b3)).bnd fun d3 => Rs.ok (some d3)) xs1).bnd szL).bnd fun d4 => (s_first_true d4).bnd fun d5 => ((((asIs d5).bnd fun i2 => Rs.ok (some i2)).bnd fun x10 => Rs.lift (slcF none x10 value1)).bnd fun x11 => ((((((asIs d5).bnd fun i3 => Rs.ok (some i3)).bnd fun x12 => Rs.lift (slcF x12 none value1)).bnd fun x13 => Rs.lift (seqOf x13)).bnd fun xs2 => (compM (fun x14 => (Rs.lift (binF .sub (PyData.int 1) x14)).bnd fun d6 => Rs.ok (some d6)) xs2).bnd szL).bnd fun x15 => Rs.lift (p1F .tuple x15)).bnd fun x16 => Rs.lift (binF .add x11 x16)).bnd fun d7 => Rs.ok d7
def K_law_told_4 : Fn := ⟨2, ["word", "value"], false, .cons (.tryR (.cons (.ret (.ite (.cmp .eq (.v 0) (.k (.str "there"))) (.call 339 (.cons (.v 1) .nil)) (.call 340 (.cons (.v 1) .nil)))) .nil) (.none)) .nil⟩
def s_law_told_4 : D → D → Rs D := fun word1 value1 => (((Rs.lift (cmpF .eq word1 (PyData.str "there"))).bnd fun b1 => Rs.ok (PyData.bool b1)).bnd fun x1 => (asBs x1).bnd fun b2 => cond b2 (s_reflected value1) (s_reflected_back value1)).fold Rs.no ((fun x => if x.cls = 0 then Rs.ok (.none : D) else Rs.no)) fun d1 => Rs.ok d1
def K_law_reflected : Fn := ⟨1, ["row", "low", "k", "sign"], false, .cons (.asg 1 (.call 28 (.cons (.comp [2] (.v 2) (.one 2) (.rng1 (.bin .add (.p1 .len (.v 0)) (.k (.int 1)))) (.yes (.cmp .eq (.idx (.call 32 (.cons (.v 0) .nil)) (.v 2)) (.neg (.k (.int 1)))))) .nil))) (.cons (.ret (.bin .add (.slc (.v 0) .no (.yes (.v 1))) (.p1 .tuple (.comp [3] (.bin .sub (.k (.int 1)) (.v 3)) (.one 3) (.ov (.slc (.v 0) (.yes (.v 1)) .no)) .no)))) .nil)⟩
def s_law_reflected : D → Rs D := fun row1 => ((((Rs.lift (p1F .len row1)).bnd fun x1 => Rs.lift (binF .add x1 (PyData.int 1))).bnd fun x2 => Rs.lift (rngF1 x2)).bnd fun xs1 => (compM (fun x3 => ((((s_law_heights row1).bnd fun x4 => Rs.lift (idxF x4 x3)).bnd fun x5 => ((asIs (PyData.int 1)).bnd fun i1 => Rs.ok (PyData.int (-i1))).bnd fun x6 => (Rs.lift (cmpF .eq x5 x6)).bnd fun b1 => Rs.ok (PyData.bool b1)).bnd fun x7 => asBs x7).bnd fun b2 => cond b2 (Rs.ok (some x3)) (Rs.ok none)) xs1).bnd szL).bnd fun d1 => (s_law_least d1).bnd fun d2 => ((((asIs d2).bnd fun i2 => Rs.ok (some i2)).bnd fun x8 => Rs.lift (slcF none x8 row1)).bnd fun x9 => ((((((asIs d2).bnd fun i3 => Rs.ok (some i3)).bnd fun x10 => Rs.lift (slcF x10 none row1)).bnd fun x11 => Rs.lift (seqOf x11)).bnd fun xs2 => (compM (fun x12 => (Rs.lift (binF .sub (PyData.int 1) x12)).bnd fun d3 => Rs.ok (some d3)) xs2).bnd szL).bnd fun x13 => Rs.lift (p1F .tuple x13)).bnd fun x14 => Rs.lift (binF .add x9 x14)).bnd fun d4 => Rs.ok d4
def K_law_25 : Fn := ⟨1, ["script", "pool", "turn", "small", "many", "row", "bad", "other", "wrong"], false, .cons (.new 1 (.callo 40 (.cons (.v 0) .nil))) (.cons (.fgt [0]) (.cons (.for_ (.one 2) (.rng1 (.k (.int 4))) (.cons (.asg 4 (.bin .add (.k (.int 1)) (.callp 21 1 (.cons (.k (.int 7)) .nil)))) (.cons (.asg 5 (.p1 .tuple (.callp 188 1 (.cons (.bin .add (.bin .mul (.lst (.cons (.k (.int 0)) .nil)) (.v 4)) (.bin .mul (.lst (.cons (.k (.int 1)) .nil)) (.v 4))) .nil)))) (.cons (.asg 6 (.cmp .lt (.p1 .min (.call 32 (.cons (.v 5) .nil))) (.k (.int 0)))) (.cons (.if_ (.not_ (.call 18 (.cons (.call 342 (.cons (.k (.str "there")) (.cons (.v 5) .nil))) (.cons (.ite (.v 6) (.call 341 (.cons (.v 5) .nil)) (.k (.none))) .nil)))) (.cons (.ret (.k (.bool false))) .nil) (.nil)) (.cons (.if_ (.and_ (.cons (.v 6) (.cons (.not_ (.call 18 (.cons (.call 340 (.cons (.call 339 (.cons (.v 5) .nil)) .nil)) (.cons (.v 5) .nil)))) .nil))) (.cons (.ret (.k (.bool false))) .nil) (.nil)) (.cons (.asg 7 (.p1 .tuple (.callp 188 1 (.cons (.bin .add (.bin .mul (.lst (.cons (.k (.int 0)) .nil)) (.bin .sub (.v 4) (.k (.int 1)))) (.bin .mul (.lst (.cons (.k (.int 1)) .nil)) (.bin .add (.v 4) (.k (.int 1))))) .nil)))) (.cons (.if_ (.not_ (.call 18 (.cons (.lst (.cons (.call 340 (.cons (.v 7) .nil)) (.cons (.call 339 (.cons (.call 340 (.cons (.v 7) .nil)) .nil)) .nil))) (.cons (.lst (.cons (.call 341 (.cons (.v 7) .nil)) (.cons (.v 7) .nil))) .nil)))) (.cons (.ret (.k (.bool false))) .nil) (.nil)) (.cons (.fgt [2, 4, 6, 7]) (.cons (.for_ (.one 8) (.ov (.tup (.cons (.bin .add (.v 5) (.tup (.cons (.k (.int 0)) .nil))) (.cons (.p1 .list (.v 5)) (.cons (.k (.none)) (.cons (.tup (.cons (.k (.int 2)) (.cons (.k (.int 0)) .nil))) (.cons (.tup (.cons (.k (.int 0)) (.cons (.k (.int 1)) .nil))) .nil))))))) (.cons (.if_ (.or_ (.cons (.notN (.call 342 (.cons (.k (.str "there")) (.cons (.v 8) .nil)))) (.cons (.notN (.call 342 (.cons (.k (.str "back")) (.cons (.v 8) .nil)))) .nil))) (.cons (.ret (.k (.bool false))) .nil) (.nil)) (.cons (.fgt [8]) .nil))) (.cons (.fgt [2, 4, 5, 6, 7, 8]) .nil))))))))))) (.cons (.asg 3 (.bin .add (.k (.int 1)) (.callp 21 1 (.cons (.k (.int 9)) .nil)))) (.cons (.ret (.cmp .eq (.bin .sub (.call 224 (.cons (.bin .mul (.k (.int 2)) (.v 3)) (.cons (.v 3) .nil))) (.call 224 (.cons (.bin .mul (.k (.int 2)) (.v 3)) (.cons (.bin .add (.v 3) (.k (.int 1))) .nil)))) (.call 225 (.cons (.v 3) .nil)))) .nil))))⟩
def m_law_25_l1b : Ss := (.cons (.asg 4 (.bin .add (.k (.int 1)) (.callp 21 1 (.cons (.k (.int 7)) .nil)))) (.cons (.asg 5 (.p1 .tuple (.callp 188 1 (.cons (.bin .add (.bin .mul (.lst (.cons (.k (.int 0)) .nil)) (.v 4)) (.bin .mul (.lst (.cons (.k (.int 1)) .nil)) (.v 4))) .nil)))) (.cons (.asg 6 (.cmp .lt (.p1 .min (.call 32 (.cons (.v 5) .nil))) (.k (.int 0)))) (.cons (.if_ (.not_ (.call 18 (.cons (.call 342 (.cons (.k (.str "there")) (.cons (.v 5) .nil))) (.cons (.ite (.v 6) (.call 341 (.cons (.v 5) .nil)) (.k .none)) .nil)))) (.cons (.ret (.k (.bool false))) .nil) .nil) (.cons (.if_ (.and_ (.cons (.v 6) (.cons (.not_ (.call 18 (.cons (.call 340 (.cons (.call 339 (.cons (.v 5) .nil)) .nil)) (.cons (.v 5) .nil)))) .nil))) (.cons (.ret (.k (.bool false))) .nil) .nil) (.cons (.asg 7 (.p1 .tuple (.callp 188 1 (.cons (.bin .add (.bin .mul (.lst (.cons (.k (.int 0)) .nil)) (.bin .sub (.v 4) (.k (.int 1)))) (.bin .mul (.lst (.cons (.k (.int 1)) .nil)) (.bin .add (.v 4) (.k (.int 1))))) .nil)))) (.cons (.if_ (.not_ (.call 18 (.cons (.lst (.cons (.call 340 (.cons (.v 7) .nil)) (.cons (.call 339 (.cons (.call 340 (.cons (.v 7) .nil)) .nil)) .nil))) (.cons (.lst (.cons (.call 341 (.cons (.v 7) .nil)) (.cons (.v 7) .nil))) .nil)))) (.cons (.ret (.k (.bool false))) .nil) .nil) (.cons (.fgt [2, 4, 6, 7]) (.cons (.for_ (.one 8) (.ov (.tup (.cons (.bin .add (.v 5) (.tup (.cons (.k (.int 0)) .nil))) (.cons (.p1 .list (.v 5)) (.cons (.k .none) (.cons (.tup (.cons (.k (.int 2)) (.cons (.k (.int 0)) .nil))) (.cons (.tup (.cons (.k (.int 0)) (.cons (.k (.int 1)) .nil))) .nil))))))) (.cons (.if_ (.or_ (.cons (.notN (.call 342 (.cons (.k (.str "there")) (.cons (.v 8) .nil)))) (.cons (.notN (.call 342 (.cons (.k (.str "back")) (.cons (.v 8) .nil)))) .nil))) (.cons (.ret (.k (.bool false))) .nil) .nil) (.cons (.fgt [8]) .nil))) (.cons (.fgt [2, 4, 5, 6, 7, 8]) .nil))))))))))
def m_law_25_l1_l8b : Ss := (.cons (.if_ (.or_ (.cons (.notN (.call 342 (.cons (.k (.str "there")) (.cons (.v 8) .nil)))) (.cons (.notN (.call 342 (.cons (.k (.str "back")) (.cons (.v 8) .nil)))) .nil))) (.cons (.ret (.k (.bool false))) .nil) .nil) (.cons (.fgt [8]) .nil))
def m_law_25_l1_l8_s0 (clp : ClP) (next brk : List D → Prop) (pool19 row11 wrong1 : D) (kn : D → D → D → Prop) : Prop := (((s_law_told_4 (PyData.str "there") wrong1).bnd fun x25 => Rs.ok (PyData.bool !(isNoneD x25))).bnd fun x26 => (asBs x26).bnd fun b11 => cond b11 (Rs.ok (PyData.bool true)) ((s_law_told_4 (PyData.str "back") wrong1).bnd fun x27 => Rs.ok (PyData.bool !(isNoneD x27)))).fold False (fun _ => False) fun x28 => (asBs x28).fold False (fun _ => False) fun b12 => cond b12 (Ent.val (PyData.bool false) = Ent.val (PyData.bool true)) (kn pool19 row11 wrong1)
def m_law_25_l1_l8_s1 (clp : ClP) (next brk : List D → Prop) (pool20 row12 wrong2 : D) (kn : D → D → Prop) : Prop := kn pool20 row12
def m_law_25_l1_l8_g2 (clp : ClP) (next brk : List D → Prop) (pool21 row13 : D) : Prop := next [pool21, row13]
def m_law_25_l1_l8_g1 (clp : ClP) (next brk : List D → Prop) (pool20 row12 wrong2 : D) : Prop := m_law_25_l1_l8_s1 clp next brk pool20 row12 wrong2 (m_law_25_l1_l8_g2 clp next brk)
def m_law_25_l1_l8_g0 (clp : ClP) (next brk : List D → Prop) (pool19 row11 wrong1 : D) : Prop := m_law_25_l1_l8_s0 clp next brk pool19 row11 wrong1 (m_law_25_l1_l8_g1 clp next brk)
def m_law_25_l1_l8 (clp : ClP) : List D → D → (List D → Prop) → (List D → Prop) → Prop := fun s x24 next brk => klist2 False s fun pool18 row10 => (m_law_25_l1_l8_g0 clp next brk pool18 row10 x24)
def m_law_25_l1_s0 (clp : ClP) (next brk : List D → Prop) (pool7 turn1 : D) (kn : D → D → D → Prop) : Prop := clp 21 pool7 [(PyData.int 7)] fun d6 P2 => kop False (binF .add (PyData.int 1) d6) fun x7 => kn P2 turn1 x7
def m_law_25_l1_s1 (clp : ClP) (next brk : List D → Prop) (pool8 turn2 many1 : D) (kn : D → D → D → D → Prop) : Prop := ((Rs.lift (binF .mul (PyData.list [(PyData.int 0)]) many1)).bnd fun x8 => (Rs.lift (binF .mul (PyData.list [(PyData.int 1)]) many1)).bnd fun x9 => Rs.lift (binF .add x8 x9)).fold False (fun _ => False) fun d7 => clp 188 pool8 [d7] fun d8 P3 => kop False (p1F .tuple d8) fun x10 => kn P3 turn2 many1 x10
def m_law_25_l1_s2 (clp : ClP) (next brk : List D → Prop) (pool9 turn3 many2 row1 : D) (kn : D → D → D → D → D → Prop) : Prop := (((s_law_heights row1).bnd fun x11 => Rs.lift (p1F .min x11)).bnd fun x12 => (Rs.lift (cmpF .lt x12 (PyData.int 0))).bnd fun b2 => Rs.ok (PyData.bool b2)).fold False (fun _ => False) fun d9 => kn pool9 turn3 many2 row1 d9
def m_law_25_l1_s3 (clp : ClP) (next brk : List D → Prop) (pool10 turn4 many3 row2 bad1 : D) (kn : D → D → D → D → D → Prop) : Prop := (((s_law_told_4 (PyData.str "there") row2).bnd fun d10 => ((asBs bad1).bnd fun b3 => cond b3 (s_law_reflected row2) (Rs.ok (.none : D))).bnd fun d11 => (s_law_same 30) d10 d11).bnd fun x13 => (asBs x13).bnd fun b4 => Rs.ok (PyData.bool !b4)).fold False (fun _ => False) fun x14 => (asBs x14).fold False (fun _ => False) fun b5 => cond b5 (Ent.val (PyData.bool false) = Ent.val (PyData.bool true)) (kn pool10 turn4 many3 row2 bad1)
def m_law_25_l1_s4 (clp : ClP) (next brk : List D → Prop) (pool11 turn5 many4 row3 bad2 : D) (kn : D → D → D → D → D → Prop) : Prop := ((asBs bad2).bnd fun b7 => cond b7 ((((s_reflected row3).bnd fun d12 => s_reflected_back d12).bnd fun d13 => (s_law_same 30) d13 row3).bnd fun x15 => (asBs x15).bnd fun b6 => Rs.ok (PyData.bool !b6)) (Rs.ok (PyData.bool false))).fold False (fun _ => False) fun x16 => (asBs x16).fold False (fun _ => False) fun b8 => cond b8 (Ent.val (PyData.bool false) = Ent.val (PyData.bool true)) (kn pool11 turn5 many4 row3 bad2)
def m_law_25_l1_s5 (clp : ClP) (next brk : List D → Prop) (pool12 turn6 many5 row4 bad3 : D) (kn : D → D → D → D → D → D → Prop) : Prop := (((Rs.lift (binF .sub many5 (PyData.int 1))).bnd fun x17 => Rs.lift (binF .mul (PyData.list [(PyData.int 0)]) x17)).bnd fun x18 => ((Rs.lift (binF .add many5 (PyData.int 1))).bnd fun x19 => Rs.lift (binF .mul (PyData.list [(PyData.int 1)]) x19)).bnd fun x20 => Rs.lift (binF .add x18 x20)).fold False (fun _ => False) fun d14 => clp 188 pool12 [d14] fun d15 P4 => kop False (p1F .tuple d15) fun x21 => kn P4 turn6 many5 row4 bad3 x21
def m_law_25_l1_s6 (clp : ClP) (next brk : List D → Prop) (pool13 turn7 many6 row5 bad4 other1 : D) (kn : D → D → D → D → D → D → Prop) : Prop := ((((s_reflected_back other1).bnd fun d16 => ((s_reflected_back other1).bnd fun d17 => s_reflected d17).bnd fun d18 => Rs.ok (PyData.list [d16, d18])).bnd fun d19 => ((s_law_reflected other1).bnd fun d20 => Rs.ok (PyData.list [d20, other1])).bnd fun d21 => (s_law_same 30) d19 d21).bnd fun x22 => (asBs x22).bnd fun b9 => Rs.ok (PyData.bool !b9)).fold False (fun _ => False) fun x23 => (asBs x23).fold False (fun _ => False) fun b10 => cond b10 (Ent.val (PyData.bool false) = Ent.val (PyData.bool true)) (kn pool13 turn7 many6 row5 bad4 other1)
def m_law_25_l1_s7 (clp : ClP) (next brk : List D → Prop) (pool14 turn8 many7 row6 bad5 other2 : D) (kn : D → D → Prop) : Prop := kn pool14 row6
def m_law_25_l1_s8 (clp : ClP) (next brk : List D → Prop) (pool15 row7 : D) (kn : D → D → Prop) : Prop := (Rs.lift (binF .add row7 (PyData.tuple [(PyData.int 0)]))).fold False (fun _ => False) fun d22 => (Rs.lift (p1F .list row7)).fold False (fun _ => False) fun d23 => kop False (seqOf (PyData.tuple [d22, d23, (.none : D), (PyData.tuple [(PyData.int 2), (PyData.int 0)]), (PyData.tuple [(PyData.int 0), (PyData.int 1)])])) fun xs2 => forK (m_law_25_l1_l8 clp) xs2 [pool15, row7] fun s2 => klist2 False s2 fun pool16 row8 => kn pool16 row8
def m_law_25_l1_s9 (clp : ClP) (next brk : List D → Prop) (pool17 row9 : D) (kn : D → Prop) : Prop := kn pool17
def m_law_25_l1_g10 (clp : ClP) (next brk : List D → Prop) (pool25 : D) : Prop := next [pool25]
def m_law_25_l1_g9 (clp : ClP) (next brk : List D → Prop) (pool17 row9 : D) : Prop := m_law_25_l1_s9 clp next brk pool17 row9 (m_law_25_l1_g10 clp next brk)
def m_law_25_l1_g8 (clp : ClP) (next brk : List D → Prop) (pool15 row7 : D) : Prop := m_law_25_l1_s8 clp next brk pool15 row7 (m_law_25_l1_g9 clp next brk)
def m_law_25_l1_g7 (clp : ClP) (next brk : List D → Prop) (pool14 turn8 many7 row6 bad5 other2 : D) : Prop := m_law_25_l1_s7 clp next brk pool14 turn8 many7 row6 bad5 other2 (m_law_25_l1_g8 clp next brk)
def m_law_25_l1_g6 (clp : ClP) (next brk : List D → Prop) (pool13 turn7 many6 row5 bad4 other1 : D) : Prop := m_law_25_l1_s6 clp next brk pool13 turn7 many6 row5 bad4 other1 (m_law_25_l1_g7 clp next brk)
def m_law_25_l1_g5 (clp : ClP) (next brk : List D → Prop) (pool12 turn6 many5 row4 bad3 : D) : Prop := m_law_25_l1_s5 clp next brk pool12 turn6 many5 row4 bad3 (m_law_25_l1_g6 clp next brk)
def m_law_25_l1_g4 (clp : ClP) (next brk : List D → Prop) (pool11 turn5 many4 row3 bad2 : D) : Prop := m_law_25_l1_s4 clp next brk pool11 turn5 many4 row3 bad2 (m_law_25_l1_g5 clp next brk)
def m_law_25_l1_g3 (clp : ClP) (next brk : List D → Prop) (pool10 turn4 many3 row2 bad1 : D) : Prop := m_law_25_l1_s3 clp next brk pool10 turn4 many3 row2 bad1 (m_law_25_l1_g4 clp next brk)
def m_law_25_l1_g2 (clp : ClP) (next brk : List D → Prop) (pool9 turn3 many2 row1 : D) : Prop := m_law_25_l1_s2 clp next brk pool9 turn3 many2 row1 (m_law_25_l1_g3 clp next brk)
def m_law_25_l1_g1 (clp : ClP) (next brk : List D → Prop) (pool8 turn2 many1 : D) : Prop := m_law_25_l1_s1 clp next brk pool8 turn2 many1 (m_law_25_l1_g2 clp next brk)
def m_law_25_l1_g0 (clp : ClP) (next brk : List D → Prop) (pool7 turn1 : D) : Prop := m_law_25_l1_s0 clp next brk pool7 turn1 (m_law_25_l1_g1 clp next brk)
def m_law_25_l1 (clp : ClP) : List D → D → (List D → Prop) → (List D → Prop) → Prop := fun s x6 next brk => klist1 False s fun pool6 => (m_law_25_l1_g0 clp next brk pool6 x6)
def m_law_25_s0 (clp : ClP) (script1 pool1 : D) (kn : D → Prop) : Prop := kn pool1
def m_law_25_s1 (clp : ClP) (pool2 : D) (kn : D → Prop) : Prop := (Rs.lift (rngF1 (PyData.int 4))).fold False (fun _ => False) fun xs1 => forK (m_law_25_l1 clp) xs1 [pool2] fun s1 => klist1 False s1 fun pool3 => kn pool3
def m_law_25_s2 (clp : ClP) (pool4 : D) (kn : D → D → Prop) : Prop := clp 21 pool4 [(PyData.int 9)] fun d1 P1 => kop False (binF .add (PyData.int 1) d1) fun x1 => kn P1 x1
def m_law_25_s3 (clp : ClP) (pool5 small1 : D) (kn : Prop) : Prop := ((((Rs.lift (binF .mul (PyData.int 2) small1)).bnd fun d2 => s_choose d2 small1).bnd fun x2 => ((Rs.lift (binF .mul (PyData.int 2) small1)).bnd fun d3 => (Rs.lift (binF .add small1 (PyData.int 1))).bnd fun d4 => s_choose d3 d4).bnd fun x3 => Rs.lift (binF .sub x2 x3)).bnd fun x4 => (s_catalan small1).bnd fun x5 => (Rs.lift (cmpF .eq x4 x5)).bnd fun b1 => Rs.ok (PyData.bool b1)).fold False (fun _ => False) fun d5 => Ent.val d5 = Ent.val (PyData.bool true)
def m_law_25_g3 (clp : ClP) (pool5 small1 : D) : Prop := m_law_25_s3 clp pool5 small1 True
def m_law_25_g2 (clp : ClP) (pool4 : D) : Prop := m_law_25_s2 clp pool4 (m_law_25_g3 clp)
def m_law_25_g1 (clp : ClP) (pool2 : D) : Prop := m_law_25_s1 clp pool2 (m_law_25_g2 clp)
def m_law_25_g0 (clp : ClP) (script1 pool1 : D) : Prop := m_law_25_s0 clp script1 pool1 (m_law_25_g1 clp)
def m_law_25 (script P0 : D) : Prop := m_law_25_g0 clpS script P0
end Ev

set_option Elab.async false
set_option linter.all false
set_option maxRecDepth 100000
set_option autoImplicit false
set_option maxHeartbeats 4000000
/-! S20: plain texts. -/
namespace Ev
open PySem L2
def K_must_match : Fn := ⟨2, ["one", "two"], false, .cons (.if_ (.cmp .ne (.v 0) (.v 1)) (.cons (.raise 0 (.cons (.k (.str "sizes")) .nil)) .nil) (.nil)) .nil⟩
def s_must_match : D → D → Rs D := fun one1 two1 => ((Rs.lift (cmpF .ne one1 two1)).bnd fun b1 => Rs.ok (PyData.bool b1)).bnd fun x1 => (asBs x1).bnd fun b2 => cond b2 (Rs.ex ⟨0, []⟩) (Rs.ok PyData.none)
def K_lower : Fn := ⟨2, ["one", "two", "a", "b"], false, .cons (.drop (.call 305 (.cons (.p1 .len (.v 0)) (.cons (.p1 .len (.v 1)) .nil)))) (.cons (.ret (.p1 .tuple (.comp [2, 3] (.p2 .min (.v 2) (.v 3)) (.tup [2, 3]) (.zip (.v 0) (.v 1)) .no))) .nil)⟩
def s_lower : D → D → Rs D := fun one1 two1 => (Rs.lift (p1F .len one1)).bnd fun d1 => (Rs.lift (p1F .len two1)).bnd fun d2 => (s_must_match d1 d2).bnd fun d3 => (((Rs.lift (zipF one1 two1)).bnd fun xs1 => (compM (fun x1 => ktup2 Rs.no x1 fun a1 b1 => (Rs.lift (p2F .min a1 b1)).bnd fun d4 => Rs.ok (some d4)) xs1).bnd szL).bnd fun x2 => Rs.lift (p1F .tuple x2)).bnd fun d5 => Rs.ok d5
def K_upper : Fn := ⟨2, ["one", "two", "a", "b"], false, .cons (.drop (.call 305 (.cons (.p1 .len (.v 0)) (.cons (.p1 .len (.v 1)) .nil)))) (.cons (.ret (.p1 .tuple (.comp [2, 3] (.p2 .max (.v 2) (.v 3)) (.tup [2, 3]) (.zip (.v 0) (.v 1)) .no))) .nil)⟩
def s_upper : D → D → Rs D := fun one1 two1 => (Rs.lift (p1F .len one1)).bnd fun d1 => (Rs.lift (p1F .len two1)).bnd fun d2 => (s_must_match d1 d2).bnd fun d3 => (((Rs.lift (zipF one1 two1)).bnd fun xs1 => (compM (fun x1 => ktup2 Rs.no x1 fun a1 b1 => (Rs.lift (p2F .max a1 b1)).bnd fun d4 => Rs.ok (some d4)) xs1).bnd szL).bnd fun x2 => Rs.lift (p1F .tuple x2)).bnd fun d5 => Rs.ok d5
def K_law_f_paths : Fn := ⟨1, ["value", "step", "low", "k", "one"], false, .cons (.if_ (.or_ (.cons (.not_ (.isi (.v 0) .tuple)) (.cons (.cmp .lt (.p1 .len (.v 0)) (.k (.int 1))) (.cons (.cmp .gt (.p1 .len (.v 0)) (.k (.int 1001))) (.cons (.cmp .gt (.p1 .len (.comp [4] (.v 4) (.one 4) (.ov (.v 0)) (.yes (.not_ (.call 17 (.cons (.v 4) .nil)))))) (.k (.int 0))) .nil))))) (.cons (.ret (.tup (.cons (.k (.str "form")) (.cons (.k (.int 0)) .nil)))) .nil) (.nil)) (.cons (.asg 1 (.comp [3] (.v 3) (.one 3) (.rng1 (.bin .sub (.p1 .len (.v 0)) (.k (.int 1)))) (.yes (.cmp .ne (.p1 .abs (.bin .sub (.idx (.v 0) (.bin .add (.v 3) (.k (.int 1)))) (.idx (.v 0) (.v 3)))) (.k (.int 1)))))) (.cons (.asg 2 (.comp [3] (.v 3) (.one 3) (.rng1 (.p1 .len (.v 0))) (.yes (.cmp .lt (.idx (.v 0) (.v 3)) (.k (.int 0)))))) (.cons (.ret (.call 29 (.cons (.lst (.cons (.tup (.cons (.k (.str "start")) (.cons (.ite (.cmp .ne (.idx (.v 0) (.k (.int 0))) (.k (.int 0))) (.k (.int 0)) (.k (.none))) .nil))) (.cons (.tup (.cons (.k (.str "step")) (.cons (.call 28 (.cons (.v 1) .nil)) .nil))) (.cons (.tup (.cons (.k (.str "low")) (.cons (.call 28 (.cons (.v 2) .nil)) .nil))) (.cons (.tup (.cons (.k (.str "end")) (.cons (.ite (.cmp .ne (.idx (.v 0) (.neg (.k (.int 1)))) (.k (.int 0))) (.idx (.v 0) (.neg (.k (.int 1)))) (.k (.none))) .nil))) .nil))))) .nil))) .nil)))⟩
def s_law_f_paths : D → Rs D := fun value1 => (cond (!((isTy value1 .tuple))) (Rs.ok (PyData.bool true)) (((Rs.lift (p1F .len value1)).bnd fun x1 => (Rs.lift (cmpF .lt x1 (PyData.int 1))).bnd fun b1 => Rs.ok (PyData.bool b1)).bnd fun x2 => (asBs x2).bnd fun b7 => cond b7 (Rs.ok (PyData.bool true)) (((Rs.lift (p1F .len value1)).bnd fun x3 => (Rs.lift (cmpF .gt x3 (PyData.int 1001))).bnd fun b2 => Rs.ok (PyData.bool b2)).bnd fun x4 => (asBs x4).bnd fun b6 => cond b6 (Rs.ok (PyData.bool true)) ((((Rs.lift (seqOf value1)).bnd fun xs1 => (compM (fun x5 => (((s_law_is_integer x5).bnd fun x6 => (asBs x6).bnd fun b3 => Rs.ok (PyData.bool !b3)).bnd fun x7 => asBs x7).bnd fun b4 => cond b4 (Rs.ok (some x5)) (Rs.ok none)) xs1).bnd szL).bnd fun x8 => Rs.lift (p1F .len x8)).bnd fun x9 => (Rs.lift (cmpF .gt x9 (PyData.int 0))).bnd fun b5 => Rs.ok (PyData.bool b5))))).bnd fun x10 => (asBs x10).bnd fun b8 => cond b8 (Rs.ok (PyData.tuple [(PyData.str "form"), (PyData.int 0)])) (((((Rs.lift (p1F .len value1)).bnd fun x11 => Rs.lift (binF .sub x11 (PyData.int 1))).bnd fun x12 => Rs.lift (rngF1 x12)).bnd fun xs2 => (compM (fun x13 => ((((((Rs.lift (binF .add x13 (PyData.int 1))).bnd fun x14 => Rs.lift (idxF value1 x14)).bnd fun x15 => (Rs.lift (idxF value1 x13)).bnd fun x16 => Rs.lift (binF .sub x15 x16)).bnd fun x17 => Rs.lift (p1F .abs x17)).bnd fun x18 => (Rs.lift (cmpF .ne x18 (PyData.int 1))).bnd fun b9 => Rs.ok (PyData.bool b9)).bnd fun x19 => asBs x19).bnd fun b10 => cond b10 (Rs.ok (some x13)) (Rs.ok none)) xs2).bnd szL).bnd fun d1 => (((Rs.lift (p1F .len value1)).bnd fun x20 => Rs.lift (rngF1 x20)).bnd fun xs3 => (compM (fun x21 => (((Rs.lift (idxF value1 x21)).bnd fun x22 => (Rs.lift (cmpF .lt x22 (PyData.int 0))).bnd fun b11 => Rs.ok (PyData.bool b11)).bnd fun x23 => asBs x23).bnd fun b12 => cond b12 (Rs.ok (some x21)) (Rs.ok none)) xs3).bnd szL).bnd fun d2 => (((Rs.lift (idxF value1 (PyData.int 0))).bnd fun x24 => (Rs.lift (cmpF .ne x24 (PyData.int 0))).bnd fun b13 => Rs.ok (PyData.bool b13)).bnd fun x25 => (asBs x25).bnd fun b14 => cond b14 (Rs.ok (PyData.int 0)) (Rs.ok (.none : D))).bnd fun d3 => (s_law_least d1).bnd fun d4 => (s_law_least d2).bnd fun d5 => (((((asIs (PyData.int 1)).bnd fun i1 => Rs.ok (PyData.int (-i1))).bnd fun x26 => Rs.lift (idxF value1 x26)).bnd fun x27 => (Rs.lift (cmpF .ne x27 (PyData.int 0))).bnd fun b15 => Rs.ok (PyData.bool b15)).bnd fun x28 => (asBs x28).bnd fun b16 => cond b16 (((asIs (PyData.int 1)).bnd fun i2 => Rs.ok (PyData.int (-i2))).bnd fun x29 => Rs.lift (idxF value1 x29)) (Rs.ok (.none : D))).bnd fun d6 => (s_law_first (PyData.list [(PyData.tuple [(PyData.str "start"), d3]), (PyData.tuple [(PyData.str "step"), d4]), (PyData.tuple [(PyData.str "low"), d5]), (PyData.tuple [(PyData.str "end"), d6])])).bnd fun d7 => Rs.ok d7)
def K_is_below : Fn := ⟨2, ["one", "two", "a", "b"], false, .cons (.drop (.call 305 (.cons (.p1 .len (.v 0)) (.cons (.p1 .len (.v 1)) .nil)))) (.cons (.ret (.p1 .all (.comp [2, 3] (.cmp .le (.v 2) (.v 3)) (.tup [2, 3]) (.zip (.v 0) (.v 1)) .no))) .nil)⟩
def s_is_below : D → D → Rs D := fun one1 two1 => (Rs.lift (p1F .len one1)).bnd fun d1 => (Rs.lift (p1F .len two1)).bnd fun d2 => (s_must_match d1 d2).bnd fun d3 => (((Rs.lift (zipF one1 two1)).bnd fun xs1 => (compM (fun x1 => ktup2 Rs.no x1 fun a1 b1 => ((Rs.lift (cmpF .le a1 b1)).bnd fun b2 => Rs.ok (PyData.bool b2)).bnd fun d4 => Rs.ok (some d4)) xs1).bnd szL).bnd fun x2 => Rs.lift (p1F .all x2)).bnd fun d5 => Rs.ok d5
def K_law_refused_2 : Fn := ⟨2, ["one", "two", "found", "k"], false, .cons (.asg 2 (.k (.int 0))) (.cons (.for_ (.one 3) (.rng1 (.k (.int 3))) (.cons (.tryA (.cons (.if_ (.cmp .eq (.v 3) (.k (.int 0))) (.cons (.drop (.call 306 (.cons (.v 0) (.cons (.v 1) .nil)))) .nil) (.cons (.if_ (.cmp .eq (.v 3) (.k (.int 1))) (.cons (.drop (.call 307 (.cons (.v 0) (.cons (.v 1) .nil)))) .nil) (.cons (.drop (.call 308 (.cons (.v 0) (.cons (.v 1) .nil)))) .nil)) .nil)) .nil) 2 (1)) (.cons (.fgt [3]) .nil))) (.cons (.ret (.cmp .eq (.v 2) (.k (.int 3)))) .nil))⟩
def s_law_refused_2_l1 : List D → D → (List D → Rs D) → (List D → Rs D) → Rs D := fun s x1 next1 brk1 => klist3 Rs.no s fun one2 two2 found1 => ((Rs.lift (cmpF .eq x1 (PyData.int 0))).bnd fun b1 => Rs.ok (PyData.bool b1)).fold Rs.no ((fun x => if x.cls = 0 then kint Rs.no found1 fun m1 => next1 [one2, two2, (PyData.int (m1 + 1))] else Rs.no)) fun x2 => (asBs x2).fold Rs.no ((fun x => if x.cls = 0 then kint Rs.no found1 fun m1 => next1 [one2, two2, (PyData.int (m1 + 1))] else Rs.no)) fun b2 => cond b2 ((s_is_below one2 two2).fold Rs.no ((fun x => if x.cls = 0 then kint Rs.no found1 fun m1 => next1 [one2, two2, (PyData.int (m1 + 1))] else Rs.no)) fun d1 => next1 [one2, two2, found1]) (((Rs.lift (cmpF .eq x1 (PyData.int 1))).bnd fun b3 => Rs.ok (PyData.bool b3)).fold Rs.no ((fun x => if x.cls = 0 then kint Rs.no found1 fun m1 => next1 [one2, two2, (PyData.int (m1 + 1))] else Rs.no)) fun x3 => (asBs x3).fold Rs.no ((fun x => if x.cls = 0 then kint Rs.no found1 fun m1 => next1 [one2, two2, (PyData.int (m1 + 1))] else Rs.no)) fun b4 => cond b4 ((s_lower one2 two2).fold Rs.no ((fun x => if x.cls = 0 then kint Rs.no found1 fun m1 => next1 [one2, two2, (PyData.int (m1 + 1))] else Rs.no)) fun d2 => next1 [one2, two2, found1]) ((s_upper one2 two2).fold Rs.no ((fun x => if x.cls = 0 then kint Rs.no found1 fun m1 => next1 [one2, two2, (PyData.int (m1 + 1))] else Rs.no)) fun d3 => next1 [one2, two2, found1]))
def s_law_refused_2 : D → D → Rs D := fun one1 two1 => (Rs.lift (rngF1 (PyData.int 3))).bnd fun xs1 => forK s_law_refused_2_l1 xs1 [one1, two1, (PyData.int 0)] fun s1 => klist3 Rs.no s1 fun one3 two3 found2 => ((Rs.lift (cmpF .eq found2 (PyData.int 3))).bnd fun b5 => Rs.ok (PyData.bool b5)).bnd fun d4 => Rs.ok d4
def K_law_20 : Fn := ⟨1, ["script", "pool", "many", "every", "turn", "one", "other", "value", "a", "b", "c", "low", "high", "k"], false, .cons (.new 1 (.callo 40 (.cons (.v 0) .nil))) (.cons (.asg 2 (.callp 21 1 (.cons (.k (.int 6)) .nil))) (.cons (.asg 3 (.comp [7] (.p1 .tuple (.call 32 (.cons (.v 7) .nil))) (.one 7) (.ov (.call 33 (.cons (.v 2) .nil))) .no)) (.cons (.fgt [0]) (.cons (.for_ (.one 4) (.rng1 (.k (.int 4))) (.cons (.asgT [8, 9, 10] (.comp [13] (.callp 22 1 (.cons (.v 3) .nil)) (.one 13) (.rng1 (.k (.int 3))) .no)) (.cons (.par [11, 12] (.cons (.call 307 (.cons (.v 8) (.cons (.v 9) .nil))) (.cons (.call 308 (.cons (.v 8) (.cons (.v 9) .nil))) .nil))) (.cons (.if_ (.or_ (.cons (.notN (.call 46 (.cons (.v 11) .nil))) (.cons (.notN (.call 46 (.cons (.v 12) .nil))) .nil))) (.cons (.ret (.k (.bool false))) .nil) (.nil)) (.cons (.if_ (.not_ (.call 18 (.cons (.lst (.cons (.v 11) (.cons (.v 12) .nil))) (.cons (.lst (.cons (.p1 .tuple (.comp [13] (.p2 .min (.idx (.v 8) (.v 13)) (.idx (.v 9) (.v 13))) (.one 13) (.rng1 (.p1 .len (.v 8))) .no)) (.cons (.p1 .tuple (.comp [13] (.p2 .max (.idx (.v 8) (.v 13)) (.idx (.v 9) (.v 13))) (.one 13) (.rng1 (.p1 .len (.v 8))) .no)) .nil))) .nil)))) (.cons (.ret (.k (.bool false))) .nil) (.nil)) (.cons (.if_ (.or_ (.cons (.cmp .ne (.call 306 (.cons (.v 8) (.cons (.v 9) .nil))) (.cmp .eq (.p1 .len (.comp [13] (.v 13) (.one 13) (.rng1 (.p1 .len (.v 8))) (.yes (.cmp .gt (.idx (.v 8) (.v 13)) (.idx (.v 9) (.v 13)))))) (.k (.int 0)))) (.cons (.cmp .ne (.bin .add (.p1 .sum (.v 11)) (.p1 .sum (.v 12))) (.bin .add (.p1 .sum (.v 8)) (.p1 .sum (.v 9)))) .nil))) (.cons (.ret (.k (.bool false))) .nil) (.nil)) (.cons (.fgt [4]) (.cons (.for_ (.one 5) (.ov (.comp [13] (.callp 22 1 (.cons (.v 3) .nil)) (.one 13) (.rng1 (.k (.int 4))) .no)) (.cons (.if_ (.or_ (.cons (.cmp .ne (.and_ (.cons (.call 306 (.cons (.v 5) (.cons (.v 8) .nil))) (.cons (.call 306 (.cons (.v 5) (.cons (.v 9) .nil))) .nil))) (.call 306 (.cons (.v 5) (.cons (.v 11) .nil)))) (.cons (.cmp .ne (.and_ (.cons (.call 306 (.cons (.v 8) (.cons (.v 5) .nil))) (.cons (.call 306 (.cons (.v 9) (.cons (.v 5) .nil))) .nil))) (.call 306 (.cons (.v 12) (.cons (.v 5) .nil)))) .nil))) (.cons (.ret (.k (.bool false))) .nil) (.nil)) (.cons (.fgt [5]) .nil))) (.cons (.if_ (.cmp .ne (.call 307 (.cons (.v 8) (.cons (.call 308 (.cons (.v 9) (.cons (.v 10) .nil))) .nil))) (.call 308 (.cons (.call 307 (.cons (.v 8) (.cons (.v 9) .nil))) (.cons (.call 307 (.cons (.v 8) (.cons (.v 10) .nil))) .nil)))) (.cons (.ret (.k (.bool false))) .nil) (.nil)) (.cons (.asg 6 (.p1 .tuple (.call 32 (.cons (.bin .mul (.tup (.cons (.k (.int 0)) (.cons (.k (.int 1)) .nil))) (.bin .add (.v 2) (.k (.int 1)))) .nil)))) (.cons (.if_ (.or_ (.cons (.not_ (.call 309 (.cons (.v 8) (.cons (.v 6) .nil)))) (.cons (.not_ (.call 309 (.cons (.v 6) (.cons (.v 9) .nil)))) .nil))) (.cons (.ret (.k (.bool false))) .nil) (.nil)) (.cons (.fgt [4, 5, 6, 8, 9, 10, 11, 12]) .nil)))))))))))) (.cons (.ret (.k (.bool true))) .nil)))))⟩
def m_law_20_l3b : Ss := (.cons (.asgT [8, 9, 10] (.comp [13] (.callp 22 1 (.cons (.v 3) .nil)) (.one 13) (.rng1 (.k (.int 3))) .no)) (.cons (.par [11, 12] (.cons (.call 307 (.cons (.v 8) (.cons (.v 9) .nil))) (.cons (.call 308 (.cons (.v 8) (.cons (.v 9) .nil))) .nil))) (.cons (.if_ (.or_ (.cons (.notN (.call 46 (.cons (.v 11) .nil))) (.cons (.notN (.call 46 (.cons (.v 12) .nil))) .nil))) (.cons (.ret (.k (.bool false))) .nil) .nil) (.cons (.if_ (.not_ (.call 18 (.cons (.lst (.cons (.v 11) (.cons (.v 12) .nil))) (.cons (.lst (.cons (.p1 .tuple (.comp [13] (.p2 .min (.idx (.v 8) (.v 13)) (.idx (.v 9) (.v 13))) (.one 13) (.rng1 (.p1 .len (.v 8))) .no)) (.cons (.p1 .tuple (.comp [13] (.p2 .max (.idx (.v 8) (.v 13)) (.idx (.v 9) (.v 13))) (.one 13) (.rng1 (.p1 .len (.v 8))) .no)) .nil))) .nil)))) (.cons (.ret (.k (.bool false))) .nil) .nil) (.cons (.if_ (.or_ (.cons (.cmp .ne (.call 306 (.cons (.v 8) (.cons (.v 9) .nil))) (.cmp .eq (.p1 .len (.comp [13] (.v 13) (.one 13) (.rng1 (.p1 .len (.v 8))) (.yes (.cmp .gt (.idx (.v 8) (.v 13)) (.idx (.v 9) (.v 13)))))) (.k (.int 0)))) (.cons (.cmp .ne (.bin .add (.p1 .sum (.v 11)) (.p1 .sum (.v 12))) (.bin .add (.p1 .sum (.v 8)) (.p1 .sum (.v 9)))) .nil))) (.cons (.ret (.k (.bool false))) .nil) .nil) (.cons (.fgt [4]) (.cons (.for_ (.one 5) (.ov (.comp [13] (.callp 22 1 (.cons (.v 3) .nil)) (.one 13) (.rng1 (.k (.int 4))) .no)) (.cons (.if_ (.or_ (.cons (.cmp .ne (.and_ (.cons (.call 306 (.cons (.v 5) (.cons (.v 8) .nil))) (.cons (.call 306 (.cons (.v 5) (.cons (.v 9) .nil))) .nil))) (.call 306 (.cons (.v 5) (.cons (.v 11) .nil)))) (.cons (.cmp .ne (.and_ (.cons (.call 306 (.cons (.v 8) (.cons (.v 5) .nil))) (.cons (.call 306 (.cons (.v 9) (.cons (.v 5) .nil))) .nil))) (.call 306 (.cons (.v 12) (.cons (.v 5) .nil)))) .nil))) (.cons (.ret (.k (.bool false))) .nil) .nil) (.cons (.fgt [5]) .nil))) (.cons (.if_ (.cmp .ne (.call 307 (.cons (.v 8) (.cons (.call 308 (.cons (.v 9) (.cons (.v 10) .nil))) .nil))) (.call 308 (.cons (.call 307 (.cons (.v 8) (.cons (.v 9) .nil))) (.cons (.call 307 (.cons (.v 8) (.cons (.v 10) .nil))) .nil)))) (.cons (.ret (.k (.bool false))) .nil) .nil) (.cons (.asg 6 (.p1 .tuple (.call 32 (.cons (.bin .mul (.tup (.cons (.k (.int 0)) (.cons (.k (.int 1)) .nil))) (.bin .add (.v 2) (.k (.int 1)))) .nil)))) (.cons (.if_ (.or_ (.cons (.not_ (.call 309 (.cons (.v 8) (.cons (.v 6) .nil)))) (.cons (.not_ (.call 309 (.cons (.v 6) (.cons (.v 9) .nil)))) .nil))) (.cons (.ret (.k (.bool false))) .nil) .nil) (.cons (.fgt [4, 5, 6, 8, 9, 10, 11, 12]) .nil)))))))))))
def m_law_20_l3_l6b : Ss := (.cons (.if_ (.or_ (.cons (.cmp .ne (.and_ (.cons (.call 306 (.cons (.v 5) (.cons (.v 8) .nil))) (.cons (.call 306 (.cons (.v 5) (.cons (.v 9) .nil))) .nil))) (.call 306 (.cons (.v 5) (.cons (.v 11) .nil)))) (.cons (.cmp .ne (.and_ (.cons (.call 306 (.cons (.v 8) (.cons (.v 5) .nil))) (.cons (.call 306 (.cons (.v 9) (.cons (.v 5) .nil))) .nil))) (.call 306 (.cons (.v 12) (.cons (.v 5) .nil)))) .nil))) (.cons (.ret (.k (.bool false))) .nil) .nil) (.cons (.fgt [5]) .nil))
def m_law_20_l3_l6_s0 (clp : ClP) (next brk : List D → Prop) (pool25 many24 every23 one1 a16 b33 c16 low14 high14 : D) (kn : D → D → D → D → D → D → D → D → D → Prop) : Prop := ((((s_is_below one1 a16).bnd fun x50 => (asBs x50).bnd fun b34 => cond b34 (s_is_below one1 b33) (Rs.ok (PyData.bool false))).bnd fun x51 => (s_is_below one1 low14).bnd fun x52 => (Rs.lift (cmpF .ne x51 x52)).bnd fun b35 => Rs.ok (PyData.bool b35)).bnd fun x53 => (asBs x53).bnd fun b38 => cond b38 (Rs.ok (PyData.bool true)) (((s_is_below a16 one1).bnd fun x54 => (asBs x54).bnd fun b36 => cond b36 (s_is_below b33 one1) (Rs.ok (PyData.bool false))).bnd fun x55 => (s_is_below high14 one1).bnd fun x56 => (Rs.lift (cmpF .ne x55 x56)).bnd fun b37 => Rs.ok (PyData.bool b37))).fold False (fun _ => False) fun x57 => (asBs x57).fold False (fun _ => False) fun b39 => cond b39 (Ent.val (PyData.bool false) = Ent.val (PyData.bool true)) (kn pool25 many24 every23 one1 a16 b33 c16 low14 high14)
def m_law_20_l3_l6_s1 (clp : ClP) (next brk : List D → Prop) (pool26 many25 every24 one2 a17 b40 c17 low15 high15 : D) (kn : D → D → D → D → D → D → D → D → Prop) : Prop := kn pool26 many25 every24 a17 b40 c17 low15 high15
def m_law_20_l3_l6_g2 (clp : ClP) (next brk : List D → Prop) (pool27 many26 every25 a18 b41 c18 low16 high16 : D) : Prop := next [pool27, many26, every25, a18, b41, c18, low16, high16]
def m_law_20_l3_l6_g1 (clp : ClP) (next brk : List D → Prop) (pool26 many25 every24 one2 a17 b40 c17 low15 high15 : D) : Prop := m_law_20_l3_l6_s1 clp next brk pool26 many25 every24 one2 a17 b40 c17 low15 high15 (m_law_20_l3_l6_g2 clp next brk)
def m_law_20_l3_l6_g0 (clp : ClP) (next brk : List D → Prop) (pool25 many24 every23 one1 a16 b33 c16 low14 high14 : D) : Prop := m_law_20_l3_l6_s0 clp next brk pool25 many24 every23 one1 a16 b33 c16 low14 high14 (m_law_20_l3_l6_g1 clp next brk)
def m_law_20_l3_l6 (clp : ClP) : List D → D → (List D → Prop) → (List D → Prop) → Prop := fun s x49 next brk => klist8 False s fun pool24 many23 every22 a15 b32 c15 low13 high13 => (m_law_20_l3_l6_g0 clp next brk pool24 many23 every22 x49 a15 b32 c15 low13 high13)
def m_law_20_l3_s0 (clp : ClP) (next brk : List D → Prop) (pool8 many7 every6 turn1 : D) (kn : D → D → D → D → D → D → D → Prop) : Prop := (Rs.lift (rngF1 (PyData.int 3))).fold False (fun _ => False) fun xs3 => compK (fun s x5 nx1 => klist4 False s fun pool9 many8 every7 turn2 => clp 22 pool9 [every7] fun d4 P2 => nx1 [P2, many8, every7, turn2] d4) xs3 [pool8, many7, every6, turn1] [] fun s2 zs1 => klist4 False s2 fun pool10 many9 every8 turn3 => if zs1.length ≤ sizeLine then ktup3 False (PyData.list zs1) fun a1 b1 c1 => kn pool10 many9 every8 turn3 a1 b1 c1 else False
def m_law_20_l3_s1 (clp : ClP) (next brk : List D → Prop) (pool11 many10 every9 turn4 a2 b2 c2 : D) (kn : D → D → D → D → D → D → D → D → D → Prop) : Prop := (s_lower a2 b2).fold False (fun _ => False) fun d5 => (s_upper a2 b2).fold False (fun _ => False) fun d6 => kn pool11 many10 every9 turn4 a2 b2 c2 d5 d6
def m_law_20_l3_s2 (clp : ClP) (next brk : List D → Prop) (pool12 many11 every10 turn5 a3 b3 c3 low1 high1 : D) (kn : D → D → D → D → D → D → D → D → D → Prop) : Prop := (((s_law_f_paths low1).bnd fun x6 => Rs.ok (PyData.bool !(isNoneD x6))).bnd fun x7 => (asBs x7).bnd fun b4 => cond b4 (Rs.ok (PyData.bool true)) ((s_law_f_paths high1).bnd fun x8 => Rs.ok (PyData.bool !(isNoneD x8)))).fold False (fun _ => False) fun x9 => (asBs x9).fold False (fun _ => False) fun b5 => cond b5 (Ent.val (PyData.bool false) = Ent.val (PyData.bool true)) (kn pool12 many11 every10 turn5 a3 b3 c3 low1 high1)
def m_law_20_l3_s3 (clp : ClP) (next brk : List D → Prop) (pool13 many12 every11 turn6 a4 b6 c4 low2 high2 : D) (kn : D → D → D → D → D → D → D → D → D → Prop) : Prop := (((((((Rs.lift (p1F .len a4)).bnd fun x10 => Rs.lift (rngF1 x10)).bnd fun xs4 => (compM (fun x11 => ((Rs.lift (idxF a4 x11)).bnd fun x12 => (Rs.lift (idxF b6 x11)).bnd fun x13 => Rs.lift (p2F .min x12 x13)).bnd fun d7 => Rs.ok (some d7)) xs4).bnd szL).bnd fun x14 => Rs.lift (p1F .tuple x14)).bnd fun d8 => ((((Rs.lift (p1F .len a4)).bnd fun x15 => Rs.lift (rngF1 x15)).bnd fun xs5 => (compM (fun x16 => ((Rs.lift (idxF a4 x16)).bnd fun x17 => (Rs.lift (idxF b6 x16)).bnd fun x18 => Rs.lift (p2F .max x17 x18)).bnd fun d9 => Rs.ok (some d9)) xs5).bnd szL).bnd fun x19 => Rs.lift (p1F .tuple x19)).bnd fun d10 => Rs.ok (PyData.list [d8, d10])).bnd fun d11 => (s_law_same 30) (PyData.list [low2, high2]) d11).bnd fun x20 => (asBs x20).bnd fun b7 => Rs.ok (PyData.bool !b7)).fold False (fun _ => False) fun x21 => (asBs x21).fold False (fun _ => False) fun b8 => cond b8 (Ent.val (PyData.bool false) = Ent.val (PyData.bool true)) (kn pool13 many12 every11 turn6 a4 b6 c4 low2 high2)
def m_law_20_l3_s4 (clp : ClP) (next brk : List D → Prop) (pool14 many13 every12 turn7 a5 b9 c5 low3 high3 : D) (kn : D → D → D → D → D → D → D → D → D → Prop) : Prop := (((s_is_below a5 b9).bnd fun x22 => (((((Rs.lift (p1F .len a5)).bnd fun x23 => Rs.lift (rngF1 x23)).bnd fun xs6 => (compM (fun x24 => (((Rs.lift (idxF a5 x24)).bnd fun x25 => (Rs.lift (idxF b9 x24)).bnd fun x26 => (Rs.lift (cmpF .gt x25 x26)).bnd fun b10 => Rs.ok (PyData.bool b10)).bnd fun x27 => asBs x27).bnd fun b11 => cond b11 (Rs.ok (some x24)) (Rs.ok none)) xs6).bnd szL).bnd fun x28 => Rs.lift (p1F .len x28)).bnd fun x29 => (Rs.lift (cmpF .eq x29 (PyData.int 0))).bnd fun b12 => Rs.ok (PyData.bool b12)).bnd fun x30 => (Rs.lift (cmpF .ne x22 x30)).bnd fun b13 => Rs.ok (PyData.bool b13)).bnd fun x31 => (asBs x31).bnd fun b15 => cond b15 (Rs.ok (PyData.bool true)) (((Rs.lift (p1F .sum low3)).bnd fun x32 => (Rs.lift (p1F .sum high3)).bnd fun x33 => Rs.lift (binF .add x32 x33)).bnd fun x34 => ((Rs.lift (p1F .sum a5)).bnd fun x35 => (Rs.lift (p1F .sum b9)).bnd fun x36 => Rs.lift (binF .add x35 x36)).bnd fun x37 => (Rs.lift (cmpF .ne x34 x37)).bnd fun b14 => Rs.ok (PyData.bool b14))).fold False (fun _ => False) fun x38 => (asBs x38).fold False (fun _ => False) fun b16 => cond b16 (Ent.val (PyData.bool false) = Ent.val (PyData.bool true)) (kn pool14 many13 every12 turn7 a5 b9 c5 low3 high3)
def m_law_20_l3_s5 (clp : ClP) (next brk : List D → Prop) (pool15 many14 every13 turn8 a6 b17 c6 low4 high4 : D) (kn : D → D → D → D → D → D → D → D → Prop) : Prop := kn pool15 many14 every13 a6 b17 c6 low4 high4
def m_law_20_l3_s6 (clp : ClP) (next brk : List D → Prop) (pool16 many15 every14 a7 b18 c7 low5 high5 : D) (kn : D → D → D → D → D → D → D → D → Prop) : Prop := (Rs.lift (rngF1 (PyData.int 4))).fold False (fun _ => False) fun xs7 => compK (fun s x39 nx2 => klist8 False s fun pool17 many16 every15 a8 b19 c8 low6 high6 => clp 22 pool17 [every15] fun d12 P3 => nx2 [P3, many16, every15, a8, b19, c8, low6, high6] d12) xs7 [pool16, many15, every14, a7, b18, c7, low5, high5] [] fun s3 zs2 => klist8 False s3 fun pool18 many17 every16 a9 b20 c9 low7 high7 => if zs2.length ≤ sizeLine then kop False (seqOf (PyData.list zs2)) fun xs8 => forK (m_law_20_l3_l6 clp) xs8 [pool18, many17, every16, a9, b20, c9, low7, high7] fun s4 => klist8 False s4 fun pool19 many18 every17 a10 b21 c10 low8 high8 => kn pool19 many18 every17 a10 b21 c10 low8 high8 else False
def m_law_20_l3_s7 (clp : ClP) (next brk : List D → Prop) (pool20 many19 every18 a11 b22 c11 low9 high9 : D) (kn : D → D → D → D → D → D → D → D → Prop) : Prop := (((s_upper b22 c11).bnd fun d13 => s_lower a11 d13).bnd fun x40 => ((s_lower a11 b22).bnd fun d14 => (s_lower a11 c11).bnd fun d15 => s_upper d14 d15).bnd fun x41 => (Rs.lift (cmpF .ne x40 x41)).bnd fun b23 => Rs.ok (PyData.bool b23)).fold False (fun _ => False) fun x42 => (asBs x42).fold False (fun _ => False) fun b24 => cond b24 (Ent.val (PyData.bool false) = Ent.val (PyData.bool true)) (kn pool20 many19 every18 a11 b22 c11 low9 high9)
def m_law_20_l3_s8 (clp : ClP) (next brk : List D → Prop) (pool21 many20 every19 a12 b25 c12 low10 high10 : D) (kn : D → D → D → D → D → D → D → D → D → Prop) : Prop := ((((Rs.lift (binF .add many20 (PyData.int 1))).bnd fun x43 => Rs.lift (binF .mul (PyData.tuple [(PyData.int 0), (PyData.int 1)]) x43)).bnd fun d16 => s_law_heights d16).bnd fun x44 => Rs.lift (p1F .tuple x44)).fold False (fun _ => False) fun d17 => kn pool21 many20 every19 d17 a12 b25 c12 low10 high10
def m_law_20_l3_s9 (clp : ClP) (next brk : List D → Prop) (pool22 many21 every20 other1 a13 b26 c13 low11 high11 : D) (kn : D → D → D → D → D → D → D → D → D → Prop) : Prop := (((s_law_refused_2 a13 other1).bnd fun x45 => (asBs x45).bnd fun b27 => Rs.ok (PyData.bool !b27)).bnd fun x46 => (asBs x46).bnd fun b29 => cond b29 (Rs.ok (PyData.bool true)) ((s_law_refused_2 other1 b26).bnd fun x47 => (asBs x47).bnd fun b28 => Rs.ok (PyData.bool !b28))).fold False (fun _ => False) fun x48 => (asBs x48).fold False (fun _ => False) fun b30 => cond b30 (Ent.val (PyData.bool false) = Ent.val (PyData.bool true)) (kn pool22 many21 every20 other1 a13 b26 c13 low11 high11)
def m_law_20_l3_s10 (clp : ClP) (next brk : List D → Prop) (pool23 many22 every21 other2 a14 b31 c14 low12 high12 : D) (kn : D → D → D → Prop) : Prop := kn pool23 many22 every21
def m_law_20_l3_g11 (clp : ClP) (next brk : List D → Prop) (pool31 many30 every29 : D) : Prop := next [pool31, many30, every29]
def m_law_20_l3_g10 (clp : ClP) (next brk : List D → Prop) (pool23 many22 every21 other2 a14 b31 c14 low12 high12 : D) : Prop := m_law_20_l3_s10 clp next brk pool23 many22 every21 other2 a14 b31 c14 low12 high12 (m_law_20_l3_g11 clp next brk)
def m_law_20_l3_g9 (clp : ClP) (next brk : List D → Prop) (pool22 many21 every20 other1 a13 b26 c13 low11 high11 : D) : Prop := m_law_20_l3_s9 clp next brk pool22 many21 every20 other1 a13 b26 c13 low11 high11 (m_law_20_l3_g10 clp next brk)
def m_law_20_l3_g8 (clp : ClP) (next brk : List D → Prop) (pool21 many20 every19 a12 b25 c12 low10 high10 : D) : Prop := m_law_20_l3_s8 clp next brk pool21 many20 every19 a12 b25 c12 low10 high10 (m_law_20_l3_g9 clp next brk)
def m_law_20_l3_g7 (clp : ClP) (next brk : List D → Prop) (pool20 many19 every18 a11 b22 c11 low9 high9 : D) : Prop := m_law_20_l3_s7 clp next brk pool20 many19 every18 a11 b22 c11 low9 high9 (m_law_20_l3_g8 clp next brk)
def m_law_20_l3_g6 (clp : ClP) (next brk : List D → Prop) (pool16 many15 every14 a7 b18 c7 low5 high5 : D) : Prop := m_law_20_l3_s6 clp next brk pool16 many15 every14 a7 b18 c7 low5 high5 (m_law_20_l3_g7 clp next brk)
def m_law_20_l3_g5 (clp : ClP) (next brk : List D → Prop) (pool15 many14 every13 turn8 a6 b17 c6 low4 high4 : D) : Prop := m_law_20_l3_s5 clp next brk pool15 many14 every13 turn8 a6 b17 c6 low4 high4 (m_law_20_l3_g6 clp next brk)
def m_law_20_l3_g4 (clp : ClP) (next brk : List D → Prop) (pool14 many13 every12 turn7 a5 b9 c5 low3 high3 : D) : Prop := m_law_20_l3_s4 clp next brk pool14 many13 every12 turn7 a5 b9 c5 low3 high3 (m_law_20_l3_g5 clp next brk)
def m_law_20_l3_g3 (clp : ClP) (next brk : List D → Prop) (pool13 many12 every11 turn6 a4 b6 c4 low2 high2 : D) : Prop := m_law_20_l3_s3 clp next brk pool13 many12 every11 turn6 a4 b6 c4 low2 high2 (m_law_20_l3_g4 clp next brk)
def m_law_20_l3_g2 (clp : ClP) (next brk : List D → Prop) (pool12 many11 every10 turn5 a3 b3 c3 low1 high1 : D) : Prop := m_law_20_l3_s2 clp next brk pool12 many11 every10 turn5 a3 b3 c3 low1 high1 (m_law_20_l3_g3 clp next brk)
def m_law_20_l3_g1 (clp : ClP) (next brk : List D → Prop) (pool11 many10 every9 turn4 a2 b2 c2 : D) : Prop := m_law_20_l3_s1 clp next brk pool11 many10 every9 turn4 a2 b2 c2 (m_law_20_l3_g2 clp next brk)
def m_law_20_l3_g0 (clp : ClP) (next brk : List D → Prop) (pool8 many7 every6 turn1 : D) : Prop := m_law_20_l3_s0 clp next brk pool8 many7 every6 turn1 (m_law_20_l3_g1 clp next brk)
def m_law_20_l3 (clp : ClP) : List D → D → (List D → Prop) → (List D → Prop) → Prop := fun s x4 next brk => klist3 False s fun pool7 many6 every5 => (m_law_20_l3_g0 clp next brk pool7 many6 every5 x4)
def m_law_20_s0 (clp : ClP) (script1 pool1 : D) (kn : D → D → D → Prop) : Prop := clp 21 pool1 [(PyData.int 6)] fun d1 P1 => kn script1 P1 d1
def m_law_20_s1 (clp : ClP) (script2 pool2 many1 : D) (kn : D → D → D → D → Prop) : Prop := (((s_law_all many1).bnd fun x1 => Rs.lift (seqOf x1)).bnd fun xs1 => (compM (fun x2 => ((s_law_heights x2).bnd fun x3 => Rs.lift (p1F .tuple x3)).bnd fun d2 => Rs.ok (some d2)) xs1).bnd szL).fold False (fun _ => False) fun d3 => kn script2 pool2 many1 d3
def m_law_20_s2 (clp : ClP) (script3 pool3 many2 every1 : D) (kn : D → D → D → Prop) : Prop := kn pool3 many2 every1
def m_law_20_s3 (clp : ClP) (pool4 many3 every2 : D) (kn : D → D → D → Prop) : Prop := (Rs.lift (rngF1 (PyData.int 4))).fold False (fun _ => False) fun xs2 => forK (m_law_20_l3 clp) xs2 [pool4, many3, every2] fun s1 => klist3 False s1 fun pool5 many4 every3 => kn pool5 many4 every3
def m_law_20_s4 (clp : ClP) (pool6 many5 every4 : D) (kn : Prop) : Prop := Ent.val (PyData.bool true) = Ent.val (PyData.bool true)
def m_law_20_g4 (clp : ClP) (pool6 many5 every4 : D) : Prop := m_law_20_s4 clp pool6 many5 every4 True
def m_law_20_g3 (clp : ClP) (pool4 many3 every2 : D) : Prop := m_law_20_s3 clp pool4 many3 every2 (m_law_20_g4 clp)
def m_law_20_g2 (clp : ClP) (script3 pool3 many2 every1 : D) : Prop := m_law_20_s2 clp script3 pool3 many2 every1 (m_law_20_g3 clp)
def m_law_20_g1 (clp : ClP) (script2 pool2 many1 : D) : Prop := m_law_20_s1 clp script2 pool2 many1 (m_law_20_g2 clp)
def m_law_20_g0 (clp : ClP) (script1 pool1 : D) : Prop := m_law_20_s0 clp script1 pool1 (m_law_20_g1 clp)
def m_law_20 (script P0 : D) : Prop := m_law_20_g0 clpP script P0
end Ev

set_option Elab.async false
set_option linter.all false
set_option maxRecDepth 100000
set_option autoImplicit false
set_option maxHeartbeats 4000000
/-! Pl0: reckoning with plain results. -/
namespace Ev
open PySem L2
/-- every step with its proof: else the kernel would reckon both sides out -/
def dc : Lean.Meta.Simp.Config := {implicitDefEqProofs := false, maxSteps := 1000000}
section
variable {α β γ A : Type}
@[simp] theorem bnd_bnd {r : Rs α} {f : α → Rs β} {g : β → Rs γ} : (r.bnd f).bnd g = r.bnd fun a => (f a).bnd g := by cases r <;> rfl
@[simp] theorem bnd_id {r : Rs α} : (r.bnd fun a => Rs.ok a) = r := by cases r <;> rfl
@[simp] theorem bnd_fold {r : Rs α} {f : α → Rs β} {no : A} {kx : Exn → A} {k : β → A} : (r.bnd f).fold no kx k = r.fold no kx fun a => (f a).fold no kx k := by cases r <;> rfl
@[simp] theorem lift_ite {c : Prop} [Decidable c] {o : Option α} : Rs.lift (if c then o else none) = if c then Rs.lift o else .no := by split <;> rfl
@[simp] theorem lift_map {o : Option α} {f : α → β} : Rs.lift (o.map f) = (Rs.lift o).bnd fun a => .ok (f a) := by cases o <;> rfl
@[simp] theorem kop_lift {no : A} {o : Option α} {k : α → A} : (Rs.lift o).fold no (fun _ => no) k = kop no o k := by cases o <;> rfl
@[simp] theorem ite_bnd {c : Prop} [Decidable c] {a b : Rs α} {f : α → Rs β} : (if c then a else b).bnd f = if c then a.bnd f else b.bnd f := by split <;> rfl
@[simp] theorem cond_bnd {c : Bool} {a b : Rs α} {f : α → Rs β} : (cond c a b).bnd f = cond c (a.bnd f) (b.bnd f) := by cases c <;> rfl
@[simp] theorem cond_fold {c : Bool} {a b : Rs α} {no : A} {kx : Exn → A} {k : α → A} : (cond c a b).fold no kx k = cond c (a.fold no kx k) (b.fold no kx k) := by cases c <;> rfl
@[simp] theorem bnd_kop {o : Option α} {k : α → Rs β} : kop Rs.no o k = (Rs.lift o).bnd k := by cases o <;> rfl
end
/-! ### results of operators -/
section
variable {a b : Int} {ds es : List D}
theorem add_tup (h : ds.length + es.length ≤ 100000) : binF .add (.tuple ds) (.tuple es) = some (.tuple (ds ++ es)) := if_pos (Nat.le_trans h (by decide))
theorem add_lst (h : ds.length + es.length ≤ 100000) : binF .add (.list ds) (.list es) = some (.list (ds ++ es)) := if_pos (Nat.le_trans h (by decide))
theorem aug_tup (h : ds.length + es.length ≤ 100000) : augF .add (.tuple ds) (.tuple es) = some (.tuple (ds ++ es)) := if_pos (Nat.le_trans h (by decide))
theorem app_lst {y : D} (h : ds.length < 100000) : appF (.list ds) y = some (.list (ds ++ [y])) := if_pos (Nat.lt_of_lt_of_le h (by decide))
theorem mul_i (h : -1000000 ≤ a) (h2 : a ≤ 1000000) : binF .mul (.int a) (.int b) = some (.int (a * b)) := if_pos (by unfold mulOk; simp only [Bool.or_eq_true, Bool.and_eq_true, decide_eq_true_eq]; omega)
theorem mul_l (h : -1000000 ≤ b) (h2 : b ≤ 1000000) : binF .mul (.int a) (.int b) = some (.int (a * b)) := if_pos (by unfold mulOk; simp only [Bool.or_eq_true, Bool.and_eq_true, decide_eq_true_eq]; omega)
theorem fdiv_i (h : 0 < b) (h2 : b ≤ 1000000) : binF .fdiv (.int a) (.int b) = some (.int (a / b)) := if_pos (by simp only [Bool.or_eq_true, Bool.and_eq_true, decide_eq_true_eq]; omega)
theorem mod_i (h : 0 < b) : binF .mod (.int a) (.int b) = some (.int (a % b)) := if_pos h
theorem rng1_i (h : -1000000 ≤ a) (h2 : a ≤ 1000000) : rngF1 (.int a) = some (rngD 0 a.toNat) := if_pos (by unfold rOk1; simp only [Bool.and_eq_true, decide_eq_true_eq]; omega)
theorem rng2_i (h : -1000000 ≤ a) (h2 : a ≤ 1000000) (h3 : -1000000 ≤ b) (h4 : b ≤ 1000000) : rngF2 (.int a) (.int b) = some (rngD a (b - a).toNat) := if_pos (by unfold rOk2; simp only [Bool.and_eq_true, decide_eq_true_eq]; omega)
theorem rng_n {n : Nat} (h : n ≤ 1000000) : rngF1 (.int (n : Nat)) = some ((List.range n).map fun i => .int (i : Nat)) := by
  rw [rng1_i (by omega) (by omega)]
  unfold rngD
  rw [Int.toNat_natCast]
  congr 1
  exact List.map_congr_left fun i _ => by rw [Int.zero_add]
theorem rng_from {i n : Nat} (h : i ≤ 1000000) (h2 : n ≤ 1000000) : rngF2 (.int (i : Nat)) (.int (n : Nat)) = some ((List.range (n - i)).map fun j => .int ((i + j : Nat))) := by
  rw [rng2_i (by omega) (by omega) (by omega) (by omega)]
  unfold rngD
  rw [show ((n : Int) - (i : Int)).toNat = n - i by omega]
  rfl
theorem rngD_n {n : Nat} : rngD 0 n = (List.range n).map fun i => .int (i : Nat) := by
  unfold rngD
  exact List.map_congr_left fun i _ => by rw [Int.zero_add]
theorem at_map {α : Type} {f : α → D} {xs : List α} {i : Nat} (h : i < xs.length) : atI (xs.map f) (i : Int) = some (f xs[i]) := by
  rw [atI_lt (by simpa using h)]
  simp
theorem at_get {α : Type} {f : α → D} {xs : List α} {i : Nat} {y : α} (h : xs[i]? = some y) : atI (xs.map f) (i : Int) = some (f y) := by
  obtain ⟨hl, e⟩ := List.getElem?_eq_some_iff.mp h
  rw [at_map hl, e]
end
/-! ### comprehensions -/
theorem compM_map {f : D → Rs (Option D)} {g : D → D} : ∀ {xs : List D}, (∀ x ∈ xs, f x = .ok (some (g x))) → compM f xs = .ok (xs.map g)
  | [], _ => rfl
  | x :: xs, h => by
    unfold compM
    rw [h x List.mem_cons_self, compM_map fun y hy => h y (List.mem_cons_of_mem _ hy)]
    rfl
theorem compM_fm {f : D → Rs (Option D)} {g : D → Option D} : ∀ {xs : List D}, (∀ x ∈ xs, f x = .ok (g x)) → compM f xs = .ok (xs.filterMap g)
  | [], _ => rfl
  | x :: xs, h => by
    unfold compM
    rw [h x List.mem_cons_self, compM_fm fun y hy => h y (List.mem_cons_of_mem _ hy)]
    rw [List.filterMap_cons]
    cases g x <;> rfl
theorem compM_filter {f : D → Rs (Option D)} {p : D → Bool} {g : D → D} {xs : List D} (h : ∀ x ∈ xs, f x = .ok (if p x = true then some (g x) else none)) : compM f xs = .ok ((xs.filter p).map g) := by
  rw [compM_fm h]
  congr 1
  clear h
  induction xs with
  | nil => rfl
  | cons x xs ih =>
    rw [List.filterMap_cons, List.filter_cons]
    cases e : p x <;> simp [ih]
/-- over what stands for a list of something else -/
theorem compM_mapR {α : Type} {f : D → Rs (Option D)} {e : α → D} {g : α → D} {xs : List α} (h : ∀ x ∈ xs, f (e x) = .ok (some (g x))) : compM f (xs.map e) = .ok (xs.map g) := by
  induction xs with
  | nil => rfl
  | cons x xs ih =>
    rw [List.map_cons]
    unfold compM
    rw [h x List.mem_cons_self, ih fun y hy => h y (List.mem_cons_of_mem _ hy)]
    rfl
theorem compM_filterR {α : Type} {f : D → Rs (Option D)} {e : α → D} {p : α → Bool} {g : α → D} {xs : List α} (h : ∀ x ∈ xs, f (e x) = .ok (if p x = true then some (g x) else none)) : compM f (xs.map e) = .ok ((xs.filter p).map g) := by
  induction xs with
  | nil => rfl
  | cons x xs ih =>
    rw [List.map_cons]
    unfold compM
    rw [h x List.mem_cons_self, ih fun y hy => h y (List.mem_cons_of_mem _ hy), List.filter_cons]
    cases p x <;> rfl
/-! ### loops -/
section
variable {A : Type} {f : List D → D → (List D → A) → (List D → A) → A}
@[simp] theorem forK_nil {s : List D} {kn : List D → A} : forK f [] s kn = kn s := rfl
theorem forK_cons {x : D} {xs s : List D} {kn : List D → A} : forK f (x :: xs) s kn = f s x (fun s' => forK f xs s' kn) kn := rfl
/-- turns that neither return nor break -/
theorem forK_fold {α : Type} {g : List D → α → List D} {e : α → D} : ∀ {xs : List α} {s : List D} {kn : List D → A}, (∀ s x next, f s (e x) next kn = next (g s x)) → forK f (xs.map e) s kn = kn (xs.foldl g s)
  | [], _, _, _ => rfl
  | x :: xs, s, kn, h => by
    rw [List.map_cons, forK_cons, h]
    exact forK_fold h
/-- a loop of a law's own def, by what stays true -/
theorem forK_inv {f : List D → D → (List D → Prop) → (List D → Prop) → Prop} {kn : List D → Prop} (I : List D → Prop) : ∀ {xs : List D} {s : List D}, I s → (∀ x ∈ xs, ∀ s next brk, I s → (∀ s', I s' → next s') → (∀ s', I s' → brk s') → f s x next brk) → (∀ s, I s → kn s) → forK f xs s kn
  | [], s, h, _, q => q s h
  | x :: xs, s, h, st, q => by
    rw [forK_cons]
    exact st x List.mem_cons_self s _ _ h (fun s' h' => forK_inv I h' (fun y hy => st y (List.mem_cons_of_mem _ hy)) q) q
end
/-! ### alike values -/
end Ev

set_option Elab.async false
set_option linter.all false
set_option maxRecDepth 100000
set_option autoImplicit false
set_option maxHeartbeats 4000000
/-! Pl1: what the shared defs do. -/
namespace Ev
open PySem L2
@[simp] theorem isN_none : isNoneD .none = true := rfl
@[simp] theorem isN_int {i : Int} : isNoneD (.int i) = false := rfl
@[simp] theorem isN_bool {i : Bool} : isNoneD (.bool i) = false := rfl
@[simp] theorem isN_str {i : Str} : isNoneD (.str i) = false := rfl
@[simp] theorem isN_tup {i : List D} : isNoneD (.tuple i) = false := rfl
@[simp] theorem isN_lst {i : List D} : isNoneD (.list i) = false := rfl
theorem compM_none {f : D → Rs (Option D)} {xs : List D} (h : ∀ x ∈ xs, f x = .ok none) : compM f xs = .ok [] := by
  rw [compM_fm (g := fun _ => none) h]
  congr 1
  exact List.filterMap_eq_nil_iff.mpr fun _ _ => rfl
theorem same_ok {k : Nat} (hk : k ≤ 2000) : ∀ {n m : Nat} {v : D}, m < n → Fit k m v → s_law_same n v v = .ok (.bool true) := by
  intro n
  induction n with
  | zero => intro m v h; omega
  | succ n ih =>
    intro m v hm hv
    have seqs : ∀ (ds : List D) (j : Nat), j < n → ds.length ≤ k → (∀ x ∈ ds, Fit k j x) → ∀ x ∈ (List.range ds.length).map (fun i => PyData.int (i : Nat)), ∃ i : Nat, ∃ y, x = .int i ∧ atI ds i = some y ∧ s_law_same n y y = .ok (.bool true) := fun ds j hj hl hx x hxm => by
      obtain ⟨i, hi, rfl⟩ := List.mem_map.mp hxm
      have hi := List.mem_range.mp hi
      exact ⟨i, ds[i], rfl, atI_lt hi, ih hj (hx _ (List.getElem_mem hi))⟩
    cases v with
    | tuple ds =>
      obtain ⟨mm, rfl, hl, hx⟩ := fit_tupE hv
      have q := seqs ds mm (by omega) hl hx
      simp (config := dc) [s_law_same, rng_n (show ds.length ≤ 1000000 by omega)]
      rw [compM_none fun x hx => by
        obtain ⟨i, y, rfl, e1, e2⟩ := q x hx
        simp (config := dc) [e1, e2]]
      simp (config := dc) [szL_ok]
    | list ds =>
      cases m with
      | zero => exact hv.elim
      | succ mm =>
        have q := seqs ds mm (by omega) hv.1 hv.2
        simp (config := dc) [s_law_same, rng_n (show ds.length ≤ 1000000 by have := hv.1; omega)]
        rw [compM_none fun x hx => by
          obtain ⟨i, y, rfl, e1, e2⟩ := q x hx
          simp (config := dc) [e1, e2]]
        simp (config := dc) [szL_ok]
    | str s =>
      have o := fit_strO hv
      have e : cmpF .eq (.str s) (.str s) = some true := by
        show (if (shp (.str s) && shp (.str s)) = true then some (PyData.eqv (.str s) (.str s)) else none) = _
        rw [shp_str (by simpa [PyData.canLay0] using o), eqv_str]
        rfl
      simp (config := dc) [s_law_same, e]
    | bool b => simp (config := dc) [s_law_same]
    | int i => simp (config := dc) [s_law_same]
    | none => simp (config := dc) [s_law_same]
    | dict _ => cases m <;> exact hv.elim
end Ev

set_option Elab.async false
set_option linter.all false
set_option maxRecDepth 100000
set_option autoImplicit false
set_option maxHeartbeats 4000000
/-! Pl2: heights, first places, brackets and what belongs together. -/
namespace Ev
open PySem L2
theorem ints_app (a b : List Int) : (a ++ b).map PyData.int = a.map .int ++ b.map .int := List.map_append
theorem heights_loop {v : D} {kn : List D → Rs D} : ∀ (w pre : List Int) (h : Int), pre.length + w.length ≤ 10000 → (∀ x ∈ w, 0 ≤ x ∧ x ≤ 1) →
    forK s_heights_l1 (w.map .int) [v, .list (pre.map .int ++ [.int h])] kn = kn [v, .list (pre.map .int ++ (hts h w).map .int)]
  | [], pre, h, _, _ => rfl
  | x :: w, pre, h, hl, hb => by
    have hx := hb x List.mem_cons_self
    have ih := heights_loop (v := v) (kn := kn) w (pre ++ [h]) (h + 1 - 2 * x) (by simp at hl ⊢; omega) fun y hy => hb y (List.mem_cons_of_mem _ hy)
    rw [List.map_cons, forK_cons]
    have l : (pre.map PyData.int ++ [PyData.int h]).length < 100000 := by simp at hl ⊢; omega
    have e := mul_l (a := 2) (b := x) (by omega) (by omega)
    simp (config := dc) only [s_heights_l1, klist2_ok, klst_ok, asIs_int, bnd_ok, ix_l, atI_last, lift_some, b_add, e, b_sub, app_lst l, kop_some]
    simp only [List.map_append, List.map_cons, List.map_nil] at ih
    rw [ih, hts]
    simp
theorem heights_ok {w : List Int} (hl : w.length ≤ 10000) (hb : ∀ x ∈ w, 0 ≤ x ∧ x ≤ 1) : s_heights (.tuple (w.map .int)) = .ok (.list ((hts 0 w).map .int)) := by
  simp (config := dc) only [s_heights, seq_t, kop_some]
  have := heights_loop (v := .tuple (w.map .int)) (kn := fun s1 => klist2 Rs.no s1 fun value3 found3 => Rs.ok found3) w [] 0 (by simpa using hl) hb
  simp only [List.map_nil, List.nil_append] at this
  rw [this]
  rfl
theorem first_true_loop {k : Nat} {p : Nat → Bool} {v : D} (hv : v = .list ((List.range k).map fun i => .bool (p i))) {kn : List D → Rs D} (hk : kn [v] = .ok .none) : ∀ (n i : Nat), i + n = k →
    forK s_first_true_l1 ((List.range' i n).map fun i => .int (i : Nat)) [v] kn = .ok (match (List.range' i n).find? p with | some j => .int (j : Nat) | none => .none)
  | 0, i, _ => by simp [hk]
  | n + 1, i, h => by
    have ih := first_true_loop hv hk n (i + 1) (by omega)
    rw [List.range'_succ, List.map_cons, forK_cons]
    have e : idxF v (.int (i : Nat)) = some (.bool (p i)) := by
      rw [hv, ix_l, atI_lt (by simp; omega)]
      simp
    simp (config := dc) only [s_first_true_l1, klist1_ok, e, lift_some, bnd_ok, asBs_bool]
    rw [List.find?_cons]
    cases hp : p i with
    | true => rfl
    | false => exact ih
/-- the first place of a row of tests -/
theorem first_true_ok {k : Nat} (hk : k ≤ 100000) (p : Nat → Bool) : s_first_true (.list ((List.range k).map fun i => .bool (p i))) = .ok (fstD k p) := by
  have hr : (List.range k) = List.range' 0 k := List.range_eq_range'
  have e := rng_n (n := k) (by omega)
  simp (config := dc) only [s_first_true, len_l, lift_some, bnd_ok, List.length_map, List.length_range, e]
  rw [show (List.range k).map (fun i => PyData.int (i : Nat)) = (List.range' 0 k).map fun i => PyData.int (i : Nat) by rw [hr]]
  rw [first_true_loop (k := k) (p := p) rfl rfl k 0 (by omega), ← hr]
  unfold fstD
  cases (List.range k).find? p <;> rfl
/-! ### words of forks -/
inductive Fk where
  | nil | node (l r : Fk)
  deriving DecidableEq
def Fk.enc : Fk → D
  | .nil => .tuple []
  | .node l r => .tuple [l.enc, r.enc]
def Fk.size : Fk → Nat
  | .nil => 0
  | .node l r => 1 + l.size + r.size
def Fk.depth : Fk → Nat
  | .nil => 0
  | .node l r => 1 + max l.depth r.depth
def Fk.word : Fk → List Int
  | .nil => []
  | .node l r => 0 :: (l.word ++ 1 :: r.word)
/-- the heights ahead of each sign -/
def Fk.pre (h : Int) : Fk → List Int
  | .nil => []
  | .node l r => h :: (l.pre (h + 1) ++ (h + 1) :: r.pre h)
theorem Fk.depth_le : ∀ f : Fk, f.depth ≤ f.size
  | .nil => Nat.le_refl _
  | .node l r => by
    have := l.depth_le
    have := r.depth_le
    simp only [depth, size]
    omega
theorem Fk.word_len : ∀ f : Fk, f.word.length = 2 * f.size
  | .nil => rfl
  | .node l r => by
    simp only [word, size, List.length_cons, List.length_append, l.word_len, r.word_len]
    omega
theorem Fk.pre_len : ∀ (f : Fk) (h : Int), (f.pre h).length = f.word.length
  | .nil, _ => rfl
  | .node l r, h => by
    simp only [word, pre, List.length_cons, List.length_append, l.pre_len, r.pre_len]
theorem Fk.word_bits : ∀ (f : Fk), ∀ x ∈ f.word, x = 0 ∨ x = 1
  | .nil, x, h => nomatch h
  | .node l r, x, h => by
    simp only [word, List.mem_cons, List.mem_append] at h
    rcases h with h | h | h | h
    · exact .inl h
    · exact l.word_bits x h
    · exact .inr h
    · exact r.word_bits x h
theorem Fk.word_01 (f : Fk) : ∀ x ∈ f.word, 0 ≤ x ∧ x ≤ 1 := fun x h => by rcases f.word_bits x h with rfl | rfl <;> decide
theorem Fk.hts_word : ∀ (f : Fk) (h : Int) (s : List Int), hts h (f.word ++ s) = f.pre h ++ hts h s
  | .nil, h, s => rfl
  | .node l r, h, s => by
    simp only [word, pre, List.cons_append, List.append_assoc, hts]
    rw [l.hts_word]
    simp only [hts]
    rw [show h + 1 - 2 * 0 = h + 1 by omega, show h + 1 + 1 - 2 * 1 = h by omega, r.hts_word]
theorem Fk.pre_ge : ∀ (f : Fk) (h : Int), ∀ x ∈ f.pre h, h ≤ x
  | .nil, h, x, hx => nomatch hx
  | .node l r, h, x, hx => by
    simp only [pre, List.mem_cons, List.mem_append] at hx
    rcases hx with hx | hx | hx | hx
    · omega
    · have := l.pre_ge _ x hx; omega
    · omega
    · exact r.pre_ge _ x hx
/-- each balanced word is that of a fork -/
theorem dw_split : ∀ (n : Nat) (w : List Int) (h : Nat), w.length ≤ n → DW (h + 1) w → ∃ (f : Fk) (r : List Int), w = f.word ++ 1 :: r ∧ DW h r
  | 0, [], h, _, e => by simp [DW] at e
  | 0, _ :: _, h, hl, _ => by simp at hl
  | n + 1, [], h, _, e => by simp [DW] at e
  | n + 1, x :: w, h, hl, e => by
    simp only [List.length_cons] at hl
    rcases e with ⟨rfl, e⟩ | ⟨rfl, g, hg, e⟩
    · obtain ⟨l, r1, rfl, e1⟩ := dw_split n w (h + 1) (by omega) e
      simp only [List.length_append, List.length_cons] at hl
      obtain ⟨r, s, rfl, e2⟩ := dw_split n r1 h (by omega) e1
      exact ⟨.node l r, s, by simp [Fk.word], e2⟩
    · cases hg
      exact ⟨.nil, w, rfl, e⟩
theorem dw_fork : ∀ (n : Nat) (w : List Int), w.length ≤ n → DW 0 w → ∃ f : Fk, w = f.word
  | _, [], _, _ => ⟨.nil, rfl⟩
  | 0, _ :: _, hl, _ => by simp at hl
  | n + 1, x :: w, hl, e => by
    simp only [List.length_cons] at hl
    rcases e with ⟨rfl, e⟩ | ⟨rfl, g, hg, e⟩
    · obtain ⟨l, r1, rfl, e1⟩ := dw_split n w 0 (by omega) e
      simp only [List.length_append, List.length_cons] at hl
      obtain ⟨r, rfl⟩ := dw_fork n r1 (by omega) e1
      exact ⟨.node l r, rfl⟩
    · omega
theorem DW.fork {w : List Int} (h : DW 0 w) : ∃ f : Fk, w = f.word := dw_fork _ w (Nat.le_refl _) h
theorem dw_app : ∀ (f : Fk) (h : Nat) (s : List Int), DW h s → DW h (f.word ++ s)
  | .nil, h, s, e => e
  | .node l r, h, s, e => by
    simp only [Fk.word, List.cons_append, List.append_assoc]
    exact .inl ⟨rfl, dw_app l (h + 1) _ (.inr ⟨rfl, h, rfl, dw_app r h s e⟩)⟩
theorem Fk.dw (f : Fk) : DW 0 f.word := by
  have := dw_app f 0 [] rfl
  rwa [List.append_nil] at this
/-! ### what belongs together -/
theorem enc_int {w : List Int} : (w.map PyData.int).length = w.length := List.length_map _
theorem slc_to {ds : List D} {j : Nat} (h : j ≤ ds.length) : slcF none (some (j : Int)) (.tuple ds) = some (.tuple (ds.take j)) := by rw [slc_t, cut_to h]
theorem slc_from {ds : List D} {j : Nat} (h : j ≤ ds.length) : slcF (some (j : Int)) none (.tuple ds) = some (.tuple (ds.drop j)) := by rw [slc_t, cut_from h]
theorem slc_fromL {ds : List D} {j : Nat} (h : j ≤ ds.length) : slcF (some (j : Int)) none (.list ds) = some (.list (ds.drop j)) := by rw [slc_l, cut_from h]
theorem slc_toL {ds : List D} {j : Nat} (h : j ≤ ds.length) : slcF none (some (j : Int)) (.list ds) = some (.list (ds.take j)) := by rw [slc_l, cut_to h]
theorem cut_mid' {ds : List D} {i j : Nat} (h : j ≤ ds.length) (h2 : i ≤ j) : cutD ds (some (i : Int)) (some (j : Int)) = (ds.take j).drop i := by
  unfold cutD
  rw [HT.sIx_nat, HT.sIx_nat, Nat.min_eq_left h, Nat.min_eq_left (by omega), List.drop_take]
theorem slc_mid {ds : List D} {i j : Nat} (h : j ≤ ds.length) (h2 : i ≤ j) : slcF (some (i : Int)) (some (j : Int)) (.tuple ds) = some (.tuple ((ds.take j).drop i)) := by rw [slc_t, cut_mid' h h2]
theorem slc_midL {ds : List D} {i j : Nat} (h : j ≤ ds.length) (h2 : i ≤ j) : slcF (some (i : Int)) (some (j : Int)) (.list ds) = some (.list ((ds.take j).drop i)) := by rw [slc_l, cut_mid' h h2]
end Ev

set_option Elab.async false
set_option linter.all false
set_option maxRecDepth 100000
set_option autoImplicit false
set_option maxHeartbeats 4000000
/-! Pl3: partners, parts, ends. -/
namespace Ev
open PySem L2
def hend (h : Int) : List Int → Int
  | [] => h
  | x :: w => hend (h + 1 - 2 * x) w
/-- the heights ahead of each sign -/
def pres (h : Int) : List Int → List Int
  | [] => []
  | x :: w => h :: pres (h + 1 - 2 * x) w
theorem pres_len : ∀ (w : List Int) (h : Int), (pres h w).length = w.length
  | [], _ => rfl
  | x :: w, h => by simp [pres, pres_len w]
theorem hts_app : ∀ (u t : List Int) (h : Int), hts h (u ++ t) = pres h u ++ hts (hend h u) t
  | [], t, h => rfl
  | x :: u, t, h => by simp [hts, pres, hend, hts_app u t]
theorem hts_cons' (h : Int) (w : List Int) : ∃ r, hts h w = h :: r := by cases w <;> exact ⟨_, rfl⟩
theorem first_true_list {bs : List Bool} {j : Nat} (hl : bs.length ≤ 100000) (hj : bs[j]? = some true) (hlt : ∀ i, i < j → bs[i]? = some false) : s_first_true (.list (bs.map .bool)) = .ok (.int (j : Nat)) := by
  have e : bs.map PyData.bool = (List.range bs.length).map fun i => .bool (bs.getD i false) := by
    apply List.ext_getElem
    · simp
    · intro i h1 h2
      simp at h1
      simp [h1]
  rw [e, first_true_ok hl]
  have hlj : j < bs.length := (List.getElem?_eq_some_iff.mp hj).1
  rw [fst_some hlj (by simp [hj]) fun i hi => by simp [hlt i hi]]
theorem partner_ok {u s : List Int} {a : Fk} {w : List Int} (hw : w = u ++ 0 :: (a.word ++ 1 :: s)) (hl : w.length ≤ 5000) (hb : ∀ x ∈ w, 0 ≤ x ∧ x ≤ 1) :
    s_partner (.tuple (w.map .int)) (.int (u.length : Nat)) = .ok (.int ((u.length + 1 + a.word.length : Nat) : Int)) := by
  have e1 : hts 0 w = pres 0 u ++ (hend 0 u :: (a.pre (hend 0 u + 1) ++ (hend 0 u + 1) :: hts (hend 0 u) s)) := by
    rw [hw, hts_app, hts, a.hts_word, hts]
    rw [show hend 0 u + 1 - 2 * 0 = hend 0 u + 1 by omega, show hend 0 u + 1 + 1 - 2 * 1 = hend 0 u by omega]
  have hlen : (hts 0 w).length = w.length + 1 := hts_len w 0
  have ul : (pres 0 u).length = u.length := pres_len u 0
  have al := a.pre_len (hend 0 u + 1)
  have wl : w.length = u.length + (a.word.length + 1 + s.length + 1) := by rw [hw]; simp; omega
  generalize hH : hend 0 u = H at e1 al
  have at1 : idxF (.list ((hts 0 w).map .int)) (.int (u.length : Nat)) = some (.int H) := by
    rw [ix_l]
    refine at_get ?_
    rw [e1, List.getElem?_append_right (by omega)]
    simp [ul]
  have tl : ∃ q, (hts 0 w).drop (u.length + 2) = q ++ hts H s ∧ q.length = a.word.length ∧ ∀ x ∈ q, H < x := by
    refine ⟨(a.pre (H + 1) ++ [H + 1]).drop 1, ?_, ?_, fun x hx => ?_⟩
    · rw [e1, List.drop_append, ul, show u.length + 2 - u.length = 2 by omega, List.drop_eq_nil_of_le (by omega)]
      simp only [List.nil_append, List.drop_succ_cons]
      rw [show a.pre (H + 1) ++ (H + 1) :: hts H s = (a.pre (H + 1) ++ [H + 1]) ++ hts H s by simp, List.drop_append_of_le_length (by simp)]
    · simp [al]
    · have hx := List.mem_of_mem_drop hx
      rcases List.mem_append.mp hx with hx | hx
      · have := a.pre_ge _ x hx; omega
      · have := List.mem_singleton.mp hx; omega
  obtain ⟨q, e2, ql, qg⟩ := tl
  have cm : compM (fun x5 => (Rs.lift (cmpF .eq x5 (.int H))).bnd fun a => Rs.ok (some (PyData.bool a))) ((q ++ hts H s).map .int) = .ok (((q ++ hts H s).map fun x => decide (x = H)).map .bool) := by
    rw [compM_mapR (g := fun x => .bool (decide (x = H))) fun x _ => by simp (config := dc) [c_eq]]
    simp [Function.comp_def]
  obtain ⟨r, er⟩ := hts_cons' H s
  have ft := first_true_list (bs := (q ++ hts H s).map fun x => decide (x = H)) (j := a.word.length) (by rw [← e2]; simp; omega) (by rw [er]; simp [← ql]) (fun i hi => by
    rw [List.getElem?_map, List.getElem?_append_left (by omega), List.getElem?_eq_getElem (by omega)]
    have := qg q[i] (List.getElem_mem _)
    simp
    omega)
  have sl : slcF (some ((u.length : Int) + 2)) none (.list ((hts 0 w).map .int)) = some (.list (((q ++ hts H s).map .int))) := by
    rw [← e2, show ((u.length : Int) + 2) = ((u.length + 2 : Nat) : Int) by omega, slc_fromL (by simp; omega), List.map_drop]
  have zl : (((q ++ hts H s).map fun x => decide (x = H)).map PyData.bool).length ≤ 100000 := by rw [← e2]; simp; omega
  simp (config := dc) only [s_partner, heights_ok (show w.length ≤ 10000 by omega) hb, bnd_ok, b_add, lift_some, asIs_int, sl, seq_l, at1, bnd_bnd, cm, szL_ok zl, ft, bnd_id]
  rw [show ((u.length : Int) + 1 + (a.word.length : Int)) = ((u.length + 1 + a.word.length : Nat) : Int) by omega]
theorem parted_ok {l r : Fk} (hl : (Fk.node l r).word.length ≤ 5000) : s_parted (.tuple ((Fk.node l r).word.map .int)) = .ok (.tuple [.tuple (l.word.map .int), .tuple (r.word.map .int)]) := by
  have pa := partner_ok (u := []) (s := r.word) (a := l) (w := (Fk.node l r).word) rfl hl (Fk.word_01 _)
  have wl : (Fk.node l r).word.length = l.word.length + 1 + r.word.length + 1 := by simp [Fk.word]; omega
  rw [show ((([] : List Int).length : Nat) : Int) = 0 from rfl] at pa
  have s1 : slcF (some 1) (some (((([] : List Int).length + 1 + l.word.length : Nat)) : Int)) (.tuple ((Fk.node l r).word.map .int)) = some (.tuple (l.word.map .int)) := by
    have := slc_mid (ds := (Fk.node l r).word.map .int) (i := 1) (j := 1 + l.word.length) (by simp; omega) (by omega)
    rw [show (([] : List Int).length + 1 + l.word.length) = 1 + l.word.length by simp]
    rw [show ((1 : Nat) : Int) = 1 from rfl] at this
    rw [this]
    congr 2
    simp [Fk.word]
    rw [Nat.add_comm, List.take_succ_cons]
    simp
  have s2 : slcF (some ((((([] : List Int).length + 1 + l.word.length : Nat)) : Int) + 1)) none (.tuple ((Fk.node l r).word.map .int)) = some (.tuple (r.word.map .int)) := by
    have := slc_from (ds := (Fk.node l r).word.map .int) (j := l.word.length + 2) (by simp; omega)
    rw [show ((((([] : List Int).length + 1 + l.word.length : Nat)) : Int) + 1) = ((l.word.length + 2 : Nat) : Int) by simp; omega]
    rw [this]
    congr 2
    simp [Fk.word, List.drop_append]
  simp (config := dc) only [s_parted, pa, bnd_ok, asIs_int, s1, lift_some, b_add, s2]
/-! ### the law's own ends -/
theorem end_loop {w : List Int} {at_ : D} {kn : List D → Rs D} : ∀ (f : Fk) (d : Int) (i n : Nat) (p q : List Int), 1 ≤ d → w = p ++ (f.word ++ q) → p.length = i → n = q.length →
    forK s_law_end_l1 ((List.range' i (f.word.length + n)).map fun i => .int (i : Nat)) [.tuple (w.map .int), at_, .int d] kn = forK s_law_end_l1 ((List.range' (i + f.word.length) n).map fun i => .int (i : Nat)) [.tuple (w.map .int), at_, .int d] kn
  | .nil, d, i, n, p, q, _, _, _, _ => by simp [Fk.word]
  | .node l r, d, i, n, p, q, hd, hw, hp, hn => by
    have e0 : w[i]? = some 0 := by rw [hw, List.getElem?_append_right (by omega)]; simp [← hp, Fk.word]
    have wl : (Fk.node l r).word.length = l.word.length + 1 + r.word.length + 1 := by simp [Fk.word]; omega
    have e1 : w[i + 1 + l.word.length]? = some 1 := by
      rw [hw, List.getElem?_append_right (by omega)]
      simp only [Fk.word, List.cons_append, List.append_assoc]
      rw [show i + 1 + l.word.length - p.length = l.word.length + 1 by omega, List.getElem?_cons_succ, List.getElem?_append_right (by omega)]
      simp
    have i1 := end_loop (w := w) (at_ := at_) (kn := kn) l (d + 1) (i + 1) (1 + r.word.length + n) (p ++ [0]) (1 :: (r.word ++ q)) (by omega) (by rw [hw]; simp [Fk.word]) (by simp [hp]) (by simp; omega)
    have i2 := end_loop (w := w) (at_ := at_) (kn := kn) r d (i + 1 + l.word.length + 1) n (p ++ (0 :: (l.word ++ [1]))) q hd (by rw [hw]; simp [Fk.word]) (by simp [hp]; omega) hn
    have m0 := mul_l (a := 2) (b := 0) (by omega) (by omega)
    have m1 := mul_l (a := 2) (b := 1) (by omega) (by omega)
    rw [wl, show l.word.length + 1 + r.word.length + 1 + n = (l.word.length + (1 + r.word.length + n)) + 1 by omega, List.range'_succ, List.map_cons, forK_cons]
    have c0 : decide (d + 1 - 2 * 0 = 0) = false := by simp; omega
    simp (config := dc) only [s_law_end_l1, klist3_ok, b_add, lift_some, bnd_ok, ix_t, at_get e0, m0, b_sub, c_eq, c0, asBs_bool, cond_false]
    rw [show d + 1 - 2 * 0 = d + 1 by omega]
    refine Eq.trans i1 ?_
    rw [show 1 + r.word.length + n = (r.word.length + n) + 1 by omega, List.range'_succ, List.map_cons, forK_cons]
    have c1 : decide (d + 1 + 1 - 2 * 1 = 0) = false := by simp; omega
    simp (config := dc) only [s_law_end_l1, klist3_ok, b_add, lift_some, bnd_ok, ix_t, at_get e1, m1, b_sub, c_eq, c1, asBs_bool, cond_false]
    rw [show d + 1 + 1 - 2 * 1 = d by omega]
    refine Eq.trans i2 ?_
    rw [show i + (l.word.length + 1 + r.word.length + 1) = i + 1 + l.word.length + 1 + r.word.length by omega]
theorem law_end_ok {u s : List Int} {a : Fk} {w : List Int} (hw : w = u ++ 0 :: (a.word ++ 1 :: s)) (hl : w.length ≤ 5000) :
    s_law_end (.tuple (w.map .int)) (.int (u.length : Nat)) = .ok (.int ((u.length + 1 + a.word.length : Nat) : Int)) := by
  have wl : w.length = u.length + (a.word.length + 1 + s.length + 1) := by rw [hw]; simp; omega
  have e0 : w[u.length]? = some 0 := by rw [hw, List.getElem?_append_right (by omega)]; simp
  have e1 : w[u.length + 1 + a.word.length]? = some 1 := by
    rw [hw, List.getElem?_append_right (by omega), show u.length + 1 + a.word.length - u.length = a.word.length + 1 by omega, List.getElem?_cons_succ, List.getElem?_append_right (by omega)]
    simp
  have rg := rng_from (i := u.length) (n := w.length) (by omega) (by omega)
  have m0 := mul_l (a := 2) (b := 0) (by omega) (by omega)
  have m1 := mul_l (a := 2) (b := 1) (by omega) (by omega)
  have el : ((w.map PyData.int).length : Int) = (w.length : Nat) := by simp
  have rr : (List.range (w.length - u.length)).map (fun j => PyData.int ((u.length + j : Nat) : Int)) = (List.range' u.length (1 + (a.word.length + (1 + s.length)))).map fun i => .int (i : Nat) := by
    rw [show w.length - u.length = 1 + (a.word.length + (1 + s.length)) by omega, List.range'_eq_map_range, List.map_map]
    rfl
  simp (config := dc) only [s_law_end, len_t, lift_some, bnd_ok, el, rg, rr]
  rw [show 1 + (a.word.length + (1 + s.length)) = (a.word.length + (1 + s.length)) + 1 by omega, List.range'_succ, List.map_cons, forK_cons]
  have c0 : decide ((0 : Int) + 1 - 2 * 0 = 0) = false := by decide
  have c1 : decide ((1 : Int) + 1 - 2 * 1 = 0) = true := by decide
  simp (config := dc) only [s_law_end_l1, klist3_ok, b_add, lift_some, bnd_ok, ix_t, at_get e0, m0, b_sub, c_eq, c0, asBs_bool, cond_false]
  rw [show (0 : Int) + 1 - 2 * 0 = 1 by omega]
  rw [end_loop a 1 (u.length + 1) (1 + s.length) (u ++ [0]) (1 :: s) (by omega) (by rw [hw]; simp) (by simp) (by simp; omega)]
  rw [show 1 + s.length = s.length + 1 by omega, List.range'_succ, List.map_cons, forK_cons]
  simp (config := dc) only [s_law_end_l1, klist3_ok, b_add, lift_some, bnd_ok, ix_t, at_get e1, m1, b_sub, c_eq, c1, asBs_bool, cond_true]
end Ev

set_option Elab.async false
set_option linter.all false
set_option maxRecDepth 100000
set_option autoImplicit false
set_option maxHeartbeats 4000000
/-! Pw9: all words of a size, as the laws list them. -/
namespace Ev
open PySem L2
section
variable {tb : Nat → Option Fn} {n : Nat} {Q : Ent → Option D → Prop}
def tail2 (r : SRes) : Rho := match r with
  | .nx ρ => ρ.drop 2
  | _ => []
theorem all_loop {cl : Nat → List Ent → CRes} : ∀ j, j ≤ 5 → evS cl (hdS (tlS I_law_all.body)) [.val (.int (j : Nat)), .val (.list [.tuple []]), .un, .un, .un, .un, .un] = .nx (.val (.int (j : Nat)) :: .val (.list (allW j)) :: tail2 (evS cl (hdS (tlS I_law_all.body)) [.val (.int (j : Nat)), .val (.list [.tuple []]), .un, .un, .un, .un, .un]))
  | 0, _ => by kernel_rfl
  | 1, _ => by kernel_rfl
  | 2, _ => by kernel_rfl
  | 3, _ => by kernel_rfl
  | 4, _ => by kernel_rfl
  | 5, _ => by kernel_rfl
  | n + 6, h => by omega
theorem all_asc : ∀ j, j ≤ 5 → (allW j).Pairwise (fun a b => dLe a b = true)
  | 0, _ => by decide +kernel
  | 1, _ => by decide +kernel
  | 2, _ => by decide +kernel
  | 3, _ => by decide +kernel
  | 4, _ => by decide +kernel
  | 5, _ => by decide +kernel
  | n + 6, h => by omega
theorem all_ok : ∀ j, j ≤ 5 → ((allW j).all rowOk || decide ((allW j).length ≤ 1)) = true ∧ (allW j).length ≤ 100
  | 0, _ => by decide +kernel
  | 1, _ => by decide +kernel
  | 2, _ => by decide +kernel
  | 3, _ => by decide +kernel
  | 4, _ => by decide +kernel
  | 5, _ => by decide +kernel
  | n + 6, h => by omega
theorem all_W (hb : tb 33 = some I_law_all) (hn : 1 ≤ n) {j : Nat} (hj : j ≤ 5) (q : Q (.val (.list (allW j))) none) : (callF tb n 33 [.val (.int (j : Nat))]).W Q := by
  obtain ⟨m, rfl, hm⟩ := succ_of hn
  refine callF_W hb ⟨rfl, rfl⟩ ?_
  rw [show I_law_all.body = .cons (hdS I_law_all.body) (.cons (hdS (tlS I_law_all.body)) (tlS (tlS I_law_all.body))) from rfl, W_cons]
  have s0 : 0 ≤ sizeLine := by decide
  have e1 : evS (callF tb m) (hdS I_law_all.body) ([.val (.int (j : Nat))] ++ List.replicate (I_law_all.names.length - I_law_all.params) .un) = .nx [.val (.int (j : Nat)), .val (.list [.tuple []]), .un, .un, .un, .un, .un] := by
    refine (SRes.W.eqN ?_)
    have s1 : 1 ≤ sizeLine := by decide
    simp [I_law_all, s0, s1]
  rw [e1, SW_nx, W_cons, all_loop j hj, SW_nx]
  generalize tail2 _ = r
  obtain ⟨o1, o2⟩ := all_ok j hj
  have so : sortOk (allW j) = true := by
    unfold sortOk
    split
    · rfl
    · rfl
    · rename_i h1 h2 
      rw [Bool.or_eq_true] at o1
      rcases o1 with o1 | o1
      · rw [o1, Bool.or_true]
      · exfalso
        simp at o1
        cases e : allW j with
        | nil => exact h1 e
        | cons a l => cases l with
          | nil => exact h2 a e
          | cons b l => rw [e] at o1; simp at o1
  have ol : (allW j).length ≤ sizeLine := size_big (by omega)
  have ms : (allW j).mergeSort dLe = allW j := List.mergeSort_of_pairwise (all_asc j hj)
  simp [I_law_all, p1F, so, ol, ms]
  exact q
end
end Ev

set_option Elab.async false
set_option linter.all false
set_option maxRecDepth 100000
set_option autoImplicit false
set_option maxHeartbeats 4000000
/-! Pl4: all words of a size; shapes of small data. -/
namespace Ev
open PySem L2
theorem all_s : ∀ j, j ≤ 5 → s_law_all (.int (j : Nat)) = .ok (.list ((allW j).mergeSort dLe))
  | 0, _ => by kernel_rfl
  | 1, _ => by kernel_rfl
  | 2, _ => by kernel_rfl
  | 3, _ => by kernel_rfl
  | 4, _ => by kernel_rfl
  | 5, _ => by kernel_rfl
  | n + 6, h => by omega
theorem s_all_ok {j : Nat} (h : j ≤ 5) : s_law_all (.int (j : Nat)) = .ok (.list (allW j)) := by
  rw [all_s j h, List.mergeSort_of_pairwise (all_asc j h)]
/-! ### small data may be compared -/
theorem layAll {ds : List D} (h : ∀ x ∈ ds, x.canLay0 = true) : PyData.canLayAll0 ds = true := by
  induction ds with
  | nil => rfl
  | cons x xs ih =>
    rw [PyData.canLayAll0, h x List.mem_cons_self, ih fun y hy => h y (List.mem_cons_of_mem _ hy)]
    rfl
theorem depAll {ds : List D} {n : Nat} (h : ∀ x ∈ ds, x.depth ≤ n) : PyData.depthAll ds ≤ n := by
  induction ds with
  | nil => exact Nat.zero_le _
  | cons x xs ih =>
    rw [PyData.depthAll]
    have := h x List.mem_cons_self
    have := ih fun y hy => h y (List.mem_cons_of_mem _ hy)
    omega
theorem fit_ld {k : Nat} : ∀ {m : Nat} {v : D}, Fit k m v → v.canLay0 = true ∧ v.depth ≤ m := by
  intro m
  induction m with
  | zero =>
    intro v h
    cases v with
    | tuple _ => exact h.elim
    | list _ => exact h.elim
    | str s => exact ⟨by simpa [PyData.canLay0] using fit_strO h, Nat.le_refl _⟩
    | dict _ => exact h.elim
    | _ => exact ⟨rfl, Nat.le_refl _⟩
  | succ m ih =>
    intro v h
    cases v with
    | tuple ds => exact ⟨by simp only [PyData.canLay0]; exact layAll fun x hx => (ih (h.2 x hx)).1, by simp only [PyData.depth]; exact Nat.succ_le_succ (depAll fun x hx => (ih (h.2 x hx)).2)⟩
    | list ds => exact ⟨by simp only [PyData.canLay0]; exact layAll fun x hx => (ih (h.2 x hx)).1, by simp only [PyData.depth]; exact Nat.succ_le_succ (depAll fun x hx => (ih (h.2 x hx)).2)⟩
    | str s => exact ⟨by simpa [PyData.canLay0] using fit_strO h, Nat.zero_le _⟩
    | dict _ => exact h.elim
    | none => exact ⟨rfl, Nat.zero_le _⟩
    | bool _ => exact ⟨rfl, Nat.zero_le _⟩
    | int _ => exact ⟨rfl, Nat.zero_le _⟩
theorem fit_shp {k m : Nat} {v : D} (h : Fit k m v) (hm : m ≤ 64) : shp v = true := by
  obtain ⟨h1, h2⟩ := fit_ld h
  show (v.canLay0 && decide (v.depth ≤ 64)) = true
  rw [h1, decide_eq_true (by omega)]
  rfl
theorem shp_nil : shp (.tuple []) = true := by decide
theorem eq_nil {ds : List D} (h : shp (.tuple ds) = true) : cmpF .eq (.tuple ds) (.tuple []) = some ds.isEmpty := by
  show (if (shp (.tuple ds) && shp (.tuple [])) = true then some (PyData.eqv (.tuple ds) (.tuple [])) else none) = _
  rw [h, if_pos (by rw [shp_nil]; rfl)]
  cases ds <;> rfl
theorem ne_nil' {ds : List D} (h : shp (.tuple ds) = true) : cmpF .ne (.tuple ds) (.tuple []) = some (!ds.isEmpty) := by
  show (cmpF .eq (.tuple ds) (.tuple [])).map _ = _
  rw [eq_nil h]
  rfl
theorem fault_form_fit {k m : Nat} (h : 10 ≤ k) (h2 : 1 ≤ m) : Fit k m (.tuple [.str "form", .int 0]) := by
  obtain ⟨j, rfl⟩ : ∃ j, m = j + 1 := ⟨m - 1, by omega⟩
  refine fit_tup (by simp; omega) fun x hx => ?_
  simp only [List.mem_cons, List.not_mem_nil, or_false] at hx
  rcases hx with rfl | rfl
  · refine fit_str ?_ (ok_str _)
    have : Str.length (Str.ofString "form") = 4 := by decide
    show Str.length (Str.ofString "form") ≤ k
    omega
  · exact fit_int
end Ev

set_option Elab.async false
set_option linter.all false
set_option maxRecDepth 100000
set_option autoImplicit false
set_option maxHeartbeats 4000000
/-! Pl5: rows of numbers, first faults. -/
namespace Ev
open PySem L2
theorem is_whole_ok {v : D} : s_is_whole v = .ok (.bool (isInt v)) := by cases v <;> simp (config := dc) [s_is_whole, isInt]
theorem law_integer_ok {v : D} : s_law_is_integer v = .ok (.bool (isInt v)) := by cases v <;> simp (config := dc) [s_law_is_integer, isInt]
theorem is_from_ok {v : D} {lo hi : Int} : s_is_from v (.int lo) (.int hi) = .ok (.bool (inRow lo hi v)) := by
  cases v <;> simp (config := dc) [s_is_from, is_whole_ok, isInt, inRow]
  rename_i i
  cases decide (lo ≤ i) <;> rfl
@[simp] theorem all_bs {bs : List Bool} : p1F .all (.list (bs.map .bool)) = some (.bool (bs.all id)) := by
  have : toBools (bs.map PyData.bool) = some bs := by
    induction bs with
    | nil => rfl
    | cons b bs ih => show (toBools (bs.map PyData.bool)).map (b :: ·) = _; rw [ih]; rfl
  simp only [p1F, this, Option.map_some]
@[simp] theorem any_bs {bs : List Bool} : p1F .any (.list (bs.map .bool)) = some (.bool (bs.any id)) := by
  have : toBools (bs.map PyData.bool) = some bs := by
    induction bs with
    | nil => rfl
    | cons b bs ih => show (toBools (bs.map PyData.bool)).map (b :: ·) = _; rw [ih]; rfl
  simp only [p1F, this, Option.map_some]
theorem compM_bools {f : D → Rs (Option D)} {p : D → Bool} {xs : List D} (h : ∀ x ∈ xs, f x = .ok (some (.bool (p x)))) : compM f xs = .ok ((xs.map p).map .bool) := by
  rw [compM_map (g := fun x => .bool (p x)) h, List.map_map]
  rfl
theorem is_row_ok {v : D} (hv : ∀ ds, v = .tuple ds → ds.length ≤ 100000) : s_is_row v = .ok (.bool (isRow v)) := by
  cases v with
  | tuple ds =>
    have hl := hv ds rfl
    have cm := compM_bools (f := fun x3 => (s_is_from x3 (.int 0) (.int 1000)).bnd fun d1 => Rs.ok (some d1)) (p := inRow 0 1000) (xs := ds) fun x _ => by rw [is_from_ok]; rfl
    by_cases h : ds.length ≤ 1000
    · have hi : decide ((ds.length : Int) ≤ 1000) = true := decide_eq_true (by omega)
      simp (config := dc) only [s_is_row, ty_tuple_tuple, cond_true, len_t, lift_some, bnd_ok, c_le, hi, asBs_bool, seq_t, cm, szL_ok (zs := (ds.map (inRow 0 1000)).map PyData.bool) (by simp; omega), all_bs, isRow, decide_eq_true h, Bool.true_and]
      simp
    · have hi : decide ((ds.length : Int) ≤ 1000) = false := decide_eq_false (by omega)
      simp (config := dc) only [s_is_row, ty_tuple_tuple, cond_true, len_t, lift_some, bnd_ok, c_le, hi, asBs_bool, cond_false, isRow, decide_eq_false h, Bool.false_and]
  | _ => simp (config := dc) [s_is_row, isRow]
theorem fault_at_ok {w : String} {x : D} : s_fault_at (.str w) x = .ok (faultAt w x) := by
  unfold faultAt
  cases h : isNoneD x <;> simp (config := dc) [s_fault_at, h]
theorem first_of_loop {kn : List D → Rs D} {v : D} (hk : kn [v] = .ok .none) : ∀ xs : List D, forK s_first_of_13_l1 xs [v] kn = .ok (firstOf xs)
  | [] => hk
  | x :: xs => by
    have ih := first_of_loop hk xs
    rw [forK_cons]
    unfold firstOf
    cases h : isNoneD x <;> simp (config := dc) [s_first_of_13_l1, h, ih]
theorem first_of_ok {ds : List D} : s_first_of_13 (.list ds) = .ok (firstOf ds) := by
  simp (config := dc) only [s_first_of_13, seq_l, kop_some]
  exact first_of_loop rfl ds
theorem law_first_loop {kn : List D → Rs D} {v : D} (hk : kn [v] = .ok .none) : ∀ ps : List (String × D), forK s_law_first_l1 (ps.map fun p => .tuple [.str p.1, p.2]) [v] kn = .ok (firstOf (ps.map fun p => faultAt p.1 p.2))
  | [] => hk
  | p :: ps => by
    have ih := law_first_loop hk ps
    have i1 : atI [PyData.str p.1, p.2] 1 = some p.2 := rfl
    rw [List.map_cons, forK_cons, List.map_cons]
    unfold firstOf
    unfold faultAt at ih ⊢
    cases h : isNoneD p.2 <;> simp (config := dc) [s_law_first_l1, h, ih, i1]
theorem law_first_ok {ps : List (String × D)} : s_law_first (.list (ps.map fun p => .tuple [.str p.1, p.2])) = .ok (firstOf (ps.map fun p => faultAt p.1 p.2)) := by
  simp (config := dc) only [s_law_first, seq_l, kop_some]
  exact law_first_loop rfl ps
@[simp] theorem minN {k : Nat} {ks : List Nat} (h : (k :: ks).Pairwise (· < ·)) : p1F .min (.list (((k :: ks).map fun i => PyData.int (i : Nat)))) = some (.int (k : Nat)) := by
  have t : ∀ l : List Nat, toInts (l.map fun i => PyData.int (i : Nat)) = some (l.map fun i : Nat => (i : Int)) := fun l => by
    induction l with
    | nil => rfl
    | cons n ns ih => show (toInts (ns.map fun i => PyData.int (i : Nat))).map ((n : Int) :: ·) = _; rw [ih]; rfl
  have e : p1F .min (.list (((k :: ks).map fun i => PyData.int (i : Nat)))) = (toInts ((k :: ks).map fun i => PyData.int (i : Nat))).bind fun ns => if ns = [] then none else some (.int (minI ns)) := rfl
  rw [e, t, Option.bind_some, if_neg (by simp), List.map_cons, minI_head fun y hy => ?_]
  obtain ⟨j, hj, rfl⟩ := List.mem_map.mp hy
  have := List.rel_of_pairwise_cons h hj
  omega
/-- the least of the places at which something holds -/
theorem law_least_ok {n : Nat} {p : Nat → Bool} : s_law_least (.list (((List.range n).filter p).map fun i => .int (i : Nat))) = .ok (fstD n p) := by
  have pw : ((List.range n).filter p).Pairwise (· < ·) := List.pairwise_lt_range.filter _
  rw [fst_filter]
  have ne := neL_nil (((List.range n).filter p).map fun i : Nat => (i : Int))
  rw [List.map_map] at ne
  cases h : (List.range n).filter p with
  | nil =>
    rw [h] at ne
    simp (config := dc) [s_law_least] at ne ⊢
    rw [ne]
    rfl
  | cons k ks =>
    rw [h] at ne pw
    have ne : cmpF .ne (.list ((k :: ks).map fun i => .int (i : Nat))) (.list []) = some true := ne
    simp (config := dc) only [s_law_least, ne, lift_some, bnd_ok, asBs_bool, cond_true, minN pw]
theorem law_is_row_ok {v : D} (hv : ∀ ds, v = .tuple ds → ds.length ≤ 100000) {many : Option Nat} {lo hi : Int} : s_law_is_row v (manyD many) (.int lo) (.int hi) = .ok (.bool (rowIs many lo hi v)) := by
  cases v with
  | tuple ds =>
    have hl := hv ds rfl
    have el : ∀ x : D, ((s_law_is_integer x).bnd fun x4 => (asBs x4).bnd fun b3 => cond (!b3) (Rs.ok (some x)) ((Rs.lift (cmpF .lt x (.int lo))).bnd fun b4 => cond b4 (Rs.ok (some x)) ((Rs.lift (cmpF .gt x (.int hi))).bnd fun b5 => cond b5 (Rs.ok (some x)) (Rs.ok none)))) = .ok (if (!inRow lo hi x) = true then some x else none) := fun x => by
      rw [law_integer_ok]
      cases x with
      | int i => by_cases h1 : i < lo <;> by_cases h2 : hi < i <;> simp (config := dc) [isInt, inRow, h1, h2] <;> omega
      | _ => simp (config := dc) [isInt, inRow]
    have fin : ∀ r : Rs D, (∀ b : Bool, b = (decide (((ds.filter fun x => !inRow lo hi x).map id).length = 0)) → r = .ok (.bool b)) → r = .ok (.bool (ds.all (inRow lo hi))) := fun r h => by
      rw [h _ rfl]
      congr 2
      have := filter_empty (p := inRow lo hi) (l := ds)
      rw [List.length_map]
      cases e : ds.all (inRow lo hi)
      · rw [e] at this
        exact decide_eq_false fun z => by cases this.mp z
      · rw [e] at this
        exact decide_eq_true (this.mpr rfl)
    have body : ((Rs.lift (seqOf (.tuple ds))).bnd fun xs1 => (compM (fun x3 => (s_law_is_integer x3).bnd fun x4 => (asBs x4).bnd fun b3 => cond (!b3) (Rs.ok (some x3)) ((Rs.lift (cmpF .lt x3 (.int lo))).bnd fun b4 => cond b4 (Rs.ok (some x3)) ((Rs.lift (cmpF .gt x3 (.int hi))).bnd fun b5 => cond b5 (Rs.ok (some x3)) (Rs.ok none)))) xs1).bnd fun zs => (szL zs).bnd fun x8 => (Rs.lift (p1F .len x8)).bnd fun x9 => (Rs.lift (cmpF .eq x9 (.int 0))).bnd fun b9 => Rs.ok (PyData.bool b9)) = Rs.ok (PyData.bool (ds.all (inRow lo hi))) := by
      refine fin _ fun b hb => ?_
      rw [show Rs.lift (seqOf (.tuple ds)) = .ok ds from rfl, bnd_ok, compM_filter (p := fun x => !inRow lo hi x) (g := id) fun x _ => by rw [el x]; rfl]
      have lz : ((ds.filter fun x => !inRow lo hi x).map id).length ≤ 100000 := by
        have := List.length_filter_le (fun x => !inRow lo hi x) ds
        rw [List.length_map]
        omega
      simp (config := dc) only [bnd_ok, szL_ok lz, len_l, lift_some, c_eq, hb]
      congr 2
      exact decide_eq_decide.mpr ⟨fun h => by omega, fun h => by omega⟩
    cases many with
    | none =>
      simp (config := dc) [s_law_is_row, manyD, rowIs] at body ⊢
      exact body
    | some k =>
      by_cases h : ds.length = k
      · simp (config := dc) [s_law_is_row, manyD, rowIs, h] at body ⊢
        exact body
      · have h' : ¬ ((ds.length : Int) = (k : Int)) := by omega
        simp (config := dc) [s_law_is_row, manyD, rowIs, h, h']
  | _ => cases many <;> simp (config := dc) [s_law_is_row, rowIs]
end Ev

set_option Elab.async false
set_option linter.all false
set_option maxRecDepth 100000
set_option autoImplicit false
set_option maxHeartbeats 4000000
/-! Pl6: pairs of numbers. -/
namespace Ev
open PySem L2
theorem small_row_ok {v : D} (hv : ∀ ds, v = .tuple ds → ds.length ≤ 100000) : s_law_small_row v = .ok (.bool (isRow v)) := by
  have h := law_is_row_ok hv (many := none) (lo := 0) (hi := 1000)
  simp only [manyD] at h
  cases v with
  | tuple ds =>
    by_cases hl : ds.length ≤ 1000
    · have hi : decide ((ds.length : Int) ≤ 1000) = true := decide_eq_true (by omega)
      cases e : ds.all (inRow 0 1000) <;> simp (config := dc) [s_law_small_row, h, rowIs, e, hi, isRow, hl]
    · have hi : decide ((ds.length : Int) ≤ 1000) = false := decide_eq_false (by omega)
      cases e : ds.all (inRow 0 1000) <;> simp (config := dc) [s_law_small_row, h, rowIs, e, hi, isRow, hl]
  | _ => simp (config := dc) [s_law_small_row, h, rowIs, isRow]
def isPair (x : D) : Bool := rowIs (some 2) 0 1000 x
def arePairs : D → Bool
  | .tuple ds => decide (ds.length ≤ 1000) && ds.all isPair
  | _ => false
/-- tuples of a size that may be walked over -/
def Tame (v : D) : Prop := ∀ ds, v = .tuple ds → ds.length ≤ 100000 ∧ ∀ x ∈ ds, ∀ es, x = .tuple es → es.length ≤ 100000
theorem fit_tame {k m : Nat} {v : D} (h : Fit k m v) (hk : k ≤ 100000) : Tame v := by
  rintro ds rfl
  obtain ⟨j, rfl, hl, hx⟩ := fit_tupE h
  refine ⟨by omega, fun x hxm es e => ?_⟩
  subst e
  obtain ⟨i, _, hl2, _⟩ := fit_tupE (hx _ hxm)
  omega
theorem pair_test {x : D} (hx : ∀ ds, x = .tuple ds → ds.length ≤ 100000) : ((s_is_row x).bnd fun x4 => (asBs x4).bnd fun b4 => cond b4 ((Rs.lift (p1F .len x)).bnd fun x5 => (Rs.lift (cmpF .eq x5 (.int 2))).bnd fun b3 => Rs.ok (PyData.bool b3)) (Rs.ok (PyData.bool false))) = .ok (.bool (isPair x)) := by
  rw [is_row_ok hx]
  cases x with
  | tuple ds =>
    by_cases h2 : ds.length = 2
    · have l : ds.length ≤ 1000 := by omega
      cases e : ds.all (inRow 0 1000) <;> simp (config := dc) [isRow, isPair, rowIs, h2, l, e]
    · have h2' : ¬ ((ds.length : Int) = 2) := by omega
      cases e : isRow (.tuple ds) <;> simp (config := dc) [isPair, rowIs, h2, h2']
  | _ => simp (config := dc) [isRow, isPair, rowIs]
theorem are_pairs_ok {v : D} (hv : Tame v) : s_are_pairs v = .ok (.bool (arePairs v)) := by
  cases v with
  | tuple ds =>
    obtain ⟨hl, hx⟩ := hv ds rfl
    by_cases h : ds.length ≤ 1000
    · have hi : decide ((1000 : Int) < ds.length) = false := decide_eq_false (by omega)
      have cm := compM_bools (f := fun x3 => (s_is_row x3).bnd fun x4 => (asBs x4).bnd fun b4 => cond b4 ((Rs.lift (p1F .len x3)).bnd fun x5 => (Rs.lift (cmpF .eq x5 (.int 2))).bnd fun b3 => Rs.ok (some (PyData.bool b3))) (Rs.ok (some (PyData.bool false)))) (p := isPair) (xs := ds) fun x hxm => by
        have := pair_test (x := x) (hx x hxm)
        have e : ∀ r : Rs D, r = .ok (.bool (isPair x)) → (r.bnd fun d => Rs.ok (some d)) = .ok (some (.bool (isPair x))) := fun r hr => by rw [hr]; rfl
        have := e _ this
        simpa (config := dc) using this
      simp (config := dc) only [s_are_pairs, ty_tuple_tuple, Bool.not_true, cond_false, len_t, lift_some, bnd_ok, c_gt, hi, asBs_bool, seq_t, bnd_bnd, cond_bnd, cm, szL_ok (zs := (ds.map isPair).map PyData.bool) (by simp; omega), all_bs, arePairs, decide_eq_true h, Bool.true_and]
      simp
    · have hi : decide ((1000 : Int) < ds.length) = true := decide_eq_true (by omega)
      simp (config := dc) only [s_are_pairs, ty_tuple_tuple, Bool.not_true, cond_false, len_t, lift_some, bnd_ok, c_gt, hi, asBs_bool, cond_true, arePairs, decide_eq_false h, Bool.false_and]
  | _ => simp (config := dc) [s_are_pairs, arePairs]
theorem law_pairs_ok {v : D} (hv : Tame v) : s_law_pairs_form v = .ok (.bool (arePairs v)) := by
  cases v with
  | tuple ds =>
    obtain ⟨hl, hx⟩ := hv ds rfl
    by_cases h : ds.length ≤ 1000
    · have hi : decide ((ds.length : Int) ≤ 1000) = true := decide_eq_true (by omega)
      have el : ∀ x ∈ ds, ((s_law_is_row x (.int 2) (.int 0) (.int 1000)).bnd fun x4 => (asBs x4).bnd fun a => cond (!a) (Rs.ok (some x)) (Rs.ok none)) = .ok (if (!isPair x) = true then some x else none) := fun x hxm => by
        have := law_is_row_ok (hx x hxm) (many := some 2) (lo := 0) (hi := 1000)
        simp only [manyD] at this
        rw [show ((2 : Nat) : Int) = 2 from rfl] at this
        rw [this]
        show cond (!isPair x) _ _ = _
        cases isPair x <;> rfl
      have lz : ((ds.filter fun x => !isPair x).map id).length ≤ 100000 := by
        have := List.length_filter_le (fun x => !isPair x) ds
        rw [List.length_map]
        omega
      have fe : decide (((((ds.filter fun x => !isPair x).map id).length : Nat) : Int) = 0) = ds.all isPair := by
        have := filter_empty (p := isPair) (l := ds)
        rw [List.length_map]
        cases e : ds.all isPair
        · rw [e] at this
          exact decide_eq_false fun z => by cases this.mp (by omega)
        · rw [e] at this
          exact decide_eq_true (by have := this.mpr rfl; omega)
      simp (config := dc) only [s_law_pairs_form, ty_tuple_tuple, cond_true, len_t, lift_some, bnd_ok, c_le, hi, asBs_bool, seq_t, bnd_bnd]
      rw [compM_filter (p := fun x => !isPair x) (g := id) fun x hxm => by
        have := el x hxm
        simpa (config := dc) using this]
      simp (config := dc) only [bnd_ok, szL_ok lz, len_l, lift_some, c_eq, fe, arePairs, decide_eq_true h, Bool.true_and]
    · have hi : decide ((ds.length : Int) ≤ 1000) = false := decide_eq_false (by omega)
      simp (config := dc) only [s_law_pairs_form, ty_tuple_tuple, cond_true, len_t, lift_some, bnd_ok, c_le, hi, asBs_bool, cond_false, arePairs, decide_eq_false h, Bool.false_and]
  | _ => simp (config := dc) [s_law_pairs_form, arePairs]
/-! ### decoded -/
def encP (p : Int × Int) : D := .tuple [.int p.1, .int p.2]
def pOk (p : Int × Int) : Prop := 0 ≤ p.1 ∧ p.1 ≤ 1000 ∧ 0 ≤ p.2 ∧ p.2 ≤ 1000
theorem isPair_ex {x : D} (h : isPair x = true) : ∃ p : Int × Int, x = encP p ∧ pOk p := by
  unfold isPair rowIs at h
  split at h
  · rename_i ds
    simp only [Bool.and_eq_true, decide_eq_true_eq] at h
    match ds, h with
    | [a, b], ⟨hlen2, h⟩ =>
      simp only [List.all_cons, List.all_nil, Bool.and_true, Bool.and_eq_true] at h
      cases a <;> first | (simp [inRow] at h; done) | skip
      cases b <;> first | (simp [inRow] at h; done) | skip
      rename_i i j
      simp [inRow] at h
      exact ⟨(i, j), rfl, by unfold pOk; omega⟩
  · cases h
theorem arePairs_ex {v : D} (h : arePairs v = true) : ∃ ps : List (Int × Int), v = .tuple (ps.map encP) ∧ ps.length ≤ 1000 ∧ ∀ p ∈ ps, pOk p := by
  unfold arePairs at h
  split at h
  · rename_i ds
    simp only [Bool.and_eq_true, decide_eq_true_eq] at h
    obtain ⟨hl, ha⟩ := h
    have : ∃ ps : List (Int × Int), ds = ps.map encP ∧ ∀ p ∈ ps, pOk p := by
      clear hl
      induction ds with
      | nil => exact ⟨[], rfl, fun _ h => nomatch h⟩
      | cons x xs ih =>
        simp only [List.all_cons, Bool.and_eq_true] at ha
        obtain ⟨p, rfl, hp⟩ := isPair_ex ha.1
        obtain ⟨ps, rfl, hps⟩ := ih ha.2
        exact ⟨p :: ps, rfl, fun q hq => by
          rcases List.mem_cons.mp hq with rfl | hq
          · exact hp
          · exact hps q hq⟩
    obtain ⟨ps, rfl, hp⟩ := this
    exact ⟨ps, rfl, by simpa using hl, hp⟩
  · cases h
end Ev

set_option Elab.async false
set_option linter.all false
set_option maxRecDepth 100000
set_option autoImplicit false
set_option maxHeartbeats 4000000
/-! Pl7: small things for laws of families. -/
namespace Ev
open PySem L2
def okD (r : Rs D) : D := match r with
  | .ok d => d
  | _ => .none
theorem okD_ok {d : D} : okD (.ok d) = d := rfl
theorem allW_mem {j : Nat} (hj : j ≤ 100) {d : D} (h : d ∈ allW j) : ∃ f : Fk, d = .tuple (f.word.map .int) ∧ f.size = j := by
  unfold allW at h
  obtain ⟨w, hw, rfl⟩ := List.mem_map.mp h
  obtain ⟨h1, h2⟩ := mem_dyck.mpr hw
  obtain ⟨f, rfl⟩ := h1.fork
  rw [f.word_len] at h2
  exact ⟨f, rfl, by omega⟩
theorem fit_i {k m : Nat} {ns : List Int} (h : ns.length ≤ k) : Fit k (m + 1) (.tuple (ns.map .int)) := fit_tup (by simpa using h) fun x hx => by
  obtain ⟨i, _, rfl⟩ := List.mem_map.mp hx
  exact fit_int
theorem fit_il {k m : Nat} {ns : List Int} (h : ns.length ≤ k) : Fit k (m + 1) (.list (ns.map .int)) := fit_lst (by simpa using h) fun x hx => by
  obtain ⟨i, _, rfl⟩ := List.mem_map.mp hx
  exact fit_int
theorem compM_app {F : D → Rs (Option D)} : ∀ {xs ys a b : List D}, compM F xs = .ok a → compM F ys = .ok b → compM F (xs ++ ys) = .ok (a ++ b)
  | [], ys, a, b, h1, h2 => by cases h1; exact h2
  | x :: xs, ys, a, b, h1, h2 => by
    rw [List.cons_append]
    unfold compM at h1 ⊢
    cases hx : F x with
    | ok o =>
      rw [hx] at h1
      cases hr : compM F xs with
      | ok r =>
        simp only [hr, bnd_ok] at h1
        cases h1
        simp only [compM_app hr h2, bnd_ok, List.append_assoc]
      | ex e => simp only [hr] at h1; cases h1
      | no => simp only [hr] at h1; cases h1
    | ex e => rw [hx] at h1; cases h1
    | no => rw [hx] at h1; cases h1
theorem compM_one {F : D → Rs (Option D)} {x : D} {o : Option D} (h : F x = .ok o) : compM F [x] = .ok o.toList := by
  unfold compM
  rw [h]
  simp [compM]
/-- is a number in a list of numbers -/
theorem inI {x : Int} {ns : List Int} : inD (.int x) (ns.map .int) = some (decide (x ∈ ns)) := by
  unfold inD
  have s : shp (.int x) = true := rfl
  rw [s, shp_listI, if_pos (by decide)]
  congr 1
  induction ns with
  | nil => rfl
  | cons n ns ih =>
    rw [List.map_cons, List.any_cons, ih]
    have e : PyData.eqv (.int n) (.int x) = decide (n = x) := by simp only [PyData.eqv]; exact Bool.beq_eq_decide_eq ..
    rw [e]
    by_cases h : n = x
    · subst h; simp
    · have h' : x ≠ n := fun z => h z.symm
      simp [h, h']
end Ev

set_option Elab.async false
set_option linter.all false
set_option maxRecDepth 100000
set_option autoImplicit false
set_option maxHeartbeats 4000000
/-! F20: what the defs about paths in order do. -/
namespace Ev
open PySem L2
/-- draws one after the other -/
theorem compK_inv {f : List D → D → (List D → D → Prop) → Prop} {kn : List D → List D → Prop} (I : List D → Prop) (Z : D → Prop) : ∀ {xs : List D} {s acc : List D}, I s → (∀ x ∈ xs, ∀ s nx, I s → (∀ s' d, I s' → Z d → nx s' d) → f s x nx) →
    (∀ s zs, I s → zs.length = acc.length + xs.length → (∀ z ∈ zs, z ∈ acc ∨ Z z) → kn s zs) → compK f xs s acc kn
  | [], s, acc, h, _, q => q s acc h (by simp) fun z hz => .inl hz
  | x :: xs, s, acc, h, st, q => by
    unfold compK
    refine st x List.mem_cons_self s _ h fun s' d h' hd => compK_inv I Z h' (fun y hy => st y (List.mem_cons_of_mem _ hy)) fun s zs hs hl hz => q s zs hs ?_ fun z hzm => ?_
    · simp at hl ⊢; omega
    · rcases hz z hzm with h1 | h1
      · rcases List.mem_append.mp h1 with h2 | h2
        · exact .inl h2
        · rw [List.mem_singleton.mp h2]; exact .inr hd
      · exact .inr h1
def mn (a b : Int) : Int := if b < a then b else a
def mx (a b : Int) : Int := if a < b then b else a
def leA (a b : List Int) : Bool := (a.zip b).all fun p => decide (p.1 ≤ p.2)
theorem zw (f : Int → Int → Int) : ∀ {a b : List Int}, List.zipWith f a b = (a.zip b).map fun p => f p.1 p.2
  | [], _ => by simp
  | _ :: _, [] => by simp
  | a :: as, b :: bs => by simp [zw f (a := as) (b := bs)]
abbrev tI (a : List Int) : D := .tuple (a.map .int)
theorem zip_tI {a b : List Int} : zipF (tI a) (tI b) = some ((a.zip b).map encP) := by
  show some ((List.zip (a.map PyData.int) (b.map PyData.int)).map _) = _
  rw [List.zip_map, List.map_map]
  rfl
theorem match_ok {n : Int} : s_must_match (.int n) (.int n) = .ok .none := by simp (config := dc) [s_must_match]
theorem match_ex {n m : Int} (h : n ≠ m) : s_must_match (.int n) (.int m) = .ex ⟨0, []⟩ := by simp (config := dc) [s_must_match, h]
theorem lower_ok {a b : List Int} (h : a.length = b.length) (hl : a.length ≤ 1000) : s_lower (tI a) (tI b) = .ok (tI (List.zipWith mn a b)) := by
  have e : ((b.map PyData.int).length : Int) = ((a.map PyData.int).length : Int) := by simp [h]
  have cm : compM (fun x1 => ktup2 Rs.no x1 fun a1 b1 => (Rs.lift (p2F .min a1 b1)).bnd fun d4 => Rs.ok (some d4)) ((a.zip b).map encP) = .ok ((a.zip b).map fun p => .int (mn p.1 p.2)) := compM_mapR fun p _ => rfl
  have zl : ((a.zip b).map fun p => PyData.int (mn p.1 p.2)).length ≤ 100000 := by simp; omega
  simp (config := dc) only [s_lower, len_t, lift_some, bnd_ok, e, match_ok, zip_tI, cm, szL_ok zl]
  show Rs.ok (PyData.tuple _) = _
  rw [zw, tI, List.map_map]
  rfl
theorem upper_ok {a b : List Int} (h : a.length = b.length) (hl : a.length ≤ 1000) : s_upper (tI a) (tI b) = .ok (tI (List.zipWith mx a b)) := by
  have e : ((b.map PyData.int).length : Int) = ((a.map PyData.int).length : Int) := by simp [h]
  have cm : compM (fun x1 => ktup2 Rs.no x1 fun a1 b1 => (Rs.lift (p2F .max a1 b1)).bnd fun d4 => Rs.ok (some d4)) ((a.zip b).map encP) = .ok ((a.zip b).map fun p => .int (mx p.1 p.2)) := compM_mapR fun p _ => rfl
  have zl : ((a.zip b).map fun p => PyData.int (mx p.1 p.2)).length ≤ 100000 := by simp; omega
  simp (config := dc) only [s_upper, len_t, lift_some, bnd_ok, e, match_ok, zip_tI, cm, szL_ok zl]
  show Rs.ok (PyData.tuple _) = _
  rw [zw, tI, List.map_map]
  rfl
theorem below_ok {a b : List Int} (h : a.length = b.length) (hl : a.length ≤ 1000) : s_is_below (tI a) (tI b) = .ok (.bool (leA a b)) := by
  have e : ((b.map PyData.int).length : Int) = ((a.map PyData.int).length : Int) := by simp [h]
  have cm : compM (fun x1 => ktup2 Rs.no x1 fun a1 b1 => (Rs.lift (cmpF .le a1 b1)).bnd fun b2 => Rs.ok (some (PyData.bool b2))) ((a.zip b).map encP) = .ok (((a.zip b).map fun p => decide (p.1 ≤ p.2)).map .bool) := by
    rw [compM_mapR (g := fun p => .bool (decide (p.1 ≤ p.2))) fun p _ => rfl, List.map_map]
    rfl
  have zl : (((a.zip b).map fun p => decide (p.1 ≤ p.2)).map PyData.bool).length ≤ 100000 := by simp; omega
  simp (config := dc) only [s_is_below, len_t, lift_some, bnd_ok, bnd_bnd, e, match_ok, zip_tI, cm, szL_ok zl, all_bs]
  unfold leA
  rw [List.all_map]
  rfl
theorem lower_ex {a b : List Int} (h : a.length ≠ b.length) : s_lower (tI a) (tI b) = .ex ⟨0, []⟩ := by
  have h' : ((a.map PyData.int).length : Int) ≠ ((b.map PyData.int).length : Int) := by simp; omega
  simp (config := dc) only [s_lower, len_t, lift_some, bnd_ok, match_ex h', bnd_ex]
theorem upper_ex {a b : List Int} (h : a.length ≠ b.length) : s_upper (tI a) (tI b) = .ex ⟨0, []⟩ := by
  have h' : ((a.map PyData.int).length : Int) ≠ ((b.map PyData.int).length : Int) := by simp; omega
  simp (config := dc) only [s_upper, len_t, lift_some, bnd_ok, match_ex h', bnd_ex]
theorem below_ex {a b : List Int} (h : a.length ≠ b.length) : s_is_below (tI a) (tI b) = .ex ⟨0, []⟩ := by
  have h' : ((a.map PyData.int).length : Int) ≠ ((b.map PyData.int).length : Int) := by simp; omega
  simp (config := dc) only [s_is_below, len_t, lift_some, bnd_ok, match_ex h', bnd_ex]
theorem refused_ok {a b : List Int} (h : a.length ≠ b.length) : s_law_refused_2 (tI a) (tI b) = .ok (.bool true) := by
  have r : rngF1 (.int 3) = some [.int 0, .int 1, .int 2] := by rw [rng1_i (by decide) (by decide)]; rfl
  simp (config := dc) [s_law_refused_2, r, forK_cons, s_law_refused_2_l1, lower_ex h, upper_ex h, below_ex h]
/-! ### plain facts -/
theorem leA_mn : ∀ {o a b : List Int}, o.length = a.length → a.length = b.length → leA o (List.zipWith mn a b) = (leA o a && leA o b)
  | [], [], [], _, _ => rfl
  | o :: os, a :: as, b :: bs, h1, h2 => by
    have ih := leA_mn (o := os) (a := as) (b := bs) (by simpa using h1) (by simpa using h2)
    simp only [leA, List.zipWith_cons_cons, List.zip_cons_cons, List.all_cons] at ih ⊢
    rw [ih]
    have h0 : (o ≤ mn a b) ↔ (o ≤ a ∧ o ≤ b) := by unfold mn; split <;> omega
    have : decide (o ≤ mn a b) = (decide (o ≤ a) && decide (o ≤ b)) := by rw [decide_eq_decide.mpr h0, Bool.decide_and]
    rw [this]
    cases decide (o ≤ a) <;> cases decide (o ≤ b) <;> simp
theorem leA_mx : ∀ {o a b : List Int}, o.length = a.length → a.length = b.length → leA (List.zipWith mx a b) o = (leA a o && leA b o)
  | [], [], [], _, _ => rfl
  | o :: os, a :: as, b :: bs, h1, h2 => by
    have ih := leA_mx (o := os) (a := as) (b := bs) (by simpa using h1) (by simpa using h2)
    simp only [leA, List.zipWith_cons_cons, List.zip_cons_cons, List.all_cons] at ih ⊢
    rw [ih]
    have h0 : (mx a b ≤ o) ↔ (a ≤ o ∧ b ≤ o) := by unfold mx; split <;> omega
    have : decide (mx a b ≤ o) = (decide (a ≤ o) && decide (b ≤ o)) := by rw [decide_eq_decide.mpr h0, Bool.decide_and]
    rw [this]
    cases decide (a ≤ o) <;> cases decide (b ≤ o) <;> simp
theorem mn_mx : ∀ {a b c : List Int}, a.length = b.length → a.length = c.length → List.zipWith mn a (List.zipWith mx b c) = List.zipWith mx (List.zipWith mn a b) (List.zipWith mn a c)
  | [], _, _, _, _ => by simp
  | a :: as, [], _, h, _ => by simp at h
  | a :: as, b :: bs, [], _, h => by simp at h
  | a :: as, b :: bs, c :: cs, h1, h2 => by
    simp only [List.zipWith_cons_cons]
    rw [mn_mx (by simpa using h1) (by simpa using h2)]
    congr 1
    simp only [mn, mx]
    (repeat' split) <;> omega
theorem sum_mnmx : ∀ {a b : List Int}, a.length = b.length → (List.zipWith mn a b).sum + (List.zipWith mx a b).sum = a.sum + b.sum
  | [], [], _ => rfl
  | a :: as, b :: bs, h => by
    have ih := sum_mnmx (a := as) (b := bs) (by simpa using h)
    simp only [List.zipWith_cons_cons, List.sum_cons]
    have : mn a b + mx a b = a + b := by
      simp only [mn, mx]
      (repeat' split) <;> omega
    omega
end Ev

set_option Elab.async false
set_option linter.all false
set_option maxRecDepth 100000
set_option autoImplicit false
set_option maxHeartbeats 4000000
/-! V20: the law of paths in order. -/
namespace Ev
open PySem L2
def pths (j : Nat) : List (List Int) := (dyck 0 (2 * j)).map (hts 0)
theorem pths_len {j : Nat} {a : List Int} (h : a ∈ pths j) : a.length = 2 * j + 1 := by
  obtain ⟨w, hw, rfl⟩ := List.mem_map.mp h
  rw [hts_len, (mem_dyck.mpr hw).2]
theorem tup_l {ds : List D} : p1F .tuple (.list ds) = some (.tuple ds) := rfl
theorem abs_i {i : Int} : p1F .abs (.int i) = some (.int i.natAbs) := rfl
theorem least_nil : s_law_least (.list []) = .ok .none := by kernel_rfl
theorem first_none : s_law_first (.list [.tuple [.str "start", .none], .tuple [.str "step", .none], .tuple [.str "low", .none], .tuple [.str "end", .none]]) = .ok .none := by kernel_rfl
theorem f_paths_ok {z : List Int} (h1 : 1 ≤ z.length) (h2 : z.length ≤ 1000) (h0 : nth z 0 = 0) (he : nth z (z.length - 1) = 0) (hs : ∀ k, k + 1 < z.length → (nth z (k + 1) - nth z k).natAbs = 1) (hl : ∀ k, k < z.length → 0 ≤ nth z k) : s_law_f_paths (tI z) = .ok .none := by
  have c1 : decide (((z.map PyData.int).length : Int) < 1) = false := decide_eq_false (by simp; omega)
  have c2 : decide ((1001 : Int) < ((z.map PyData.int).length : Int)) = false := decide_eq_false (by simp; omega)
  have m1 : compM (fun x5 => (s_law_is_integer x5).bnd fun a => (asBs a).bnd fun b3 => cond (!b3) (Rs.ok (some x5)) (Rs.ok none)) (z.map PyData.int) = .ok [] := compM_none fun x hx => by
    obtain ⟨i, _, rfl⟩ := List.mem_map.mp hx
    rw [law_integer_ok]
    rfl
  have r1 : rngF1 (.int (((z.map PyData.int).length : Int) - 1)) = some ((List.range (z.length - 1)).map fun i => .int (i : Nat)) := by
    rw [List.length_map, show ((z.length : Int) - 1) = ((z.length - 1 : Nat) : Int) by omega, rng_n (by omega)]
  have r2 : rngF1 (.int ((z.map PyData.int).length : Int)) = some ((List.range z.length).map fun i => .int (i : Nat)) := by rw [rng_n (by simp; omega), List.length_map]
  have m2 : compM (fun x13 => (Rs.lift (binF .add x13 (.int 1))).bnd fun a => (Rs.lift (idxF (tI z) a)).bnd fun a => (Rs.lift (idxF (tI z) x13)).bnd fun a_1 => (Rs.lift (binF .sub a a_1)).bnd fun a => (Rs.lift (p1F .abs a)).bnd fun a => (Rs.lift (cmpF .ne a (.int 1))).bnd fun a => cond a (Rs.ok (some x13)) (Rs.ok none)) ((List.range (z.length - 1)).map fun i => .int (i : Nat)) = .ok [] := compM_none fun x hx => by
    obtain ⟨k, hk, rfl⟩ := List.mem_map.mp hx
    have hk := List.mem_range.mp hk
    have e := hs k (by omega)
    simp (config := dc) only [b_add, lift_some, bnd_ok, ix_t, atI_ints (show k < z.length by omega), atI_ints1 (show k + 1 < z.length by omega), b_sub, abs_i, c_ne, e]
    rfl
  have m3 : compM (fun x21 => (Rs.lift (idxF (tI z) x21)).bnd fun a => (Rs.lift (cmpF .lt a (.int 0))).bnd fun a => cond a (Rs.ok (some x21)) (Rs.ok none)) ((List.range z.length).map fun i => .int (i : Nat)) = .ok [] := compM_none fun x hx => by
    obtain ⟨k, hk, rfl⟩ := List.mem_map.mp hx
    have hk := List.mem_range.mp hk
    have e := hl k hk
    have e2 : decide (nth z k < 0) = false := decide_eq_false (by omega)
    simp (config := dc) only [lift_some, bnd_ok, ix_t, atI_ints hk, c_lt, e2, cond_false]
  have a0 : atI (z.map PyData.int) 0 = some (.int 0) := by rw [atI_ints0 (by omega), h0]
  have a1 : atI (z.map PyData.int) (-1) = some (.int 0) := by
    have e : z = z.dropLast ++ [z.getLast (by intro h; rw [h] at h1; simp at h1)] := (List.dropLast_concat_getLast _).symm
    have e2 : nth z (z.length - 1) = z.getLast (by intro h; rw [h] at h1; simp at h1) := by
      rw [List.getLast_eq_getElem]
      simp [nth]
      rw [List.getElem?_eq_getElem (by omega)]
      rfl
    rw [e, List.map_append, List.map_singleton, atI_last, ← e2, he]
  have z0 : szL [] = .ok (.list []) := szL_ok (by simp)
  simp (config := dc) only [s_law_f_paths, ty_tuple_tuple, Bool.not_true, cond_false, len_t, lift_some, bnd_ok, bnd_bnd, cond_bnd, c_lt, c1, asBs_bool, c_gt, c2, seq_t, m1, z0, len_l, List.length_nil, b_sub, r1, m2, r2, m3, ix_t, a0, c_ne, decide_true, least_nil, asIs_int, a1]
  exact first_none
def goodB (a : List Int) : Bool := decide (nth a 0 = 0) && decide (nth a (a.length - 1) = 0) && ((List.range a.length).all fun k => decide (0 ≤ nth a k) && decide ((nth a k + k) % 2 = 0)) && (List.range (a.length - 1)).all fun k => decide ((nth a (k + 1) - nth a k).natAbs = 1)
theorem good_all : ∀ j, j ≤ 5 → (pths j).all goodB = true
  | 0, _ => by decide +kernel
  | 1, _ => by decide +kernel
  | 2, _ => by decide +kernel
  | 3, _ => by decide +kernel
  | 4, _ => by decide +kernel
  | 5, _ => by decide +kernel
  | n + 6, h => by omega
theorem nth_zip (f : Int → Int → Int) {a b : List Int} (h : a.length = b.length) {k : Nat} (hk : k < a.length) : nth (List.zipWith f a b) k = f (nth a k) (nth b k) := by
  have hb : k < b.length := by omega
  simp [nth, hk, hb, List.getElem?_zipWith]
theorem paths_f {j : Nat} (hj : j ≤ 5) {a b : List Int} (ha : a ∈ pths j) (hb : b ∈ pths j) : s_law_f_paths (tI (List.zipWith mn a b)) = .ok .none ∧ s_law_f_paths (tI (List.zipWith mx a b)) = .ok .none := by
  have ga := List.all_eq_true.mp (good_all j hj) a ha
  have gb := List.all_eq_true.mp (good_all j hj) b hb
  unfold goodB at ga gb
  simp only [Bool.and_eq_true, decide_eq_true_eq, List.all_eq_true, List.mem_range] at ga gb
  obtain ⟨⟨⟨ga1, ga2⟩, ga3⟩, ga4⟩ := ga
  obtain ⟨⟨⟨gb1, gb2⟩, gb3⟩, gb4⟩ := gb
  have la := pths_len ha
  have lb := pths_len hb
  have ab : a.length = b.length := by omega
  have lz : ∀ f : Int → Int → Int, (List.zipWith f a b).length = a.length := fun f => by simp [ab]
  have one : ∀ f : Int → Int → Int, (f = mn ∨ f = mx) → s_law_f_paths (tI (List.zipWith f a b)) = .ok .none := fun f hf => by
    refine f_paths_ok (by rw [lz]; omega) (by rw [lz]; omega) ?_ ?_ (fun k hk => ?_) fun k hk => ?_
    · rw [nth_zip f ab (by omega), ga1, gb1]; rcases hf with rfl | rfl <;> rfl
    · rw [lz, nth_zip f ab (by omega), ga2]
      rw [show a.length - 1 = b.length - 1 by omega, gb2]
      rcases hf with rfl | rfl <;> rfl
    · rw [lz] at hk
      have p1 := (ga3 k (by omega)).2
      have p2 := (gb3 k (by omega)).2
      have q1 := ga4 k (by omega)
      have q2 := gb4 k (by omega)
      rw [nth_zip f ab hk, nth_zip f ab (by omega)]
      rcases hf with rfl | rfl <;> simp only [mn, mx] <;> split <;> split <;> omega
    · rw [lz] at hk
      have p1 := (ga3 k hk).1
      have p2 := (gb3 k (by omega)).1
      rw [nth_zip f ab hk]
      rcases hf with rfl | rfl <;> simp only [mn, mx] <;> split <;> omega
  exact ⟨one mn (.inl rfl), one mx (.inr rfl)⟩
theorem all_paths : ∀ j, j ≤ 5 → compM (fun x2 => ((s_law_heights x2).bnd fun x3 => Rs.lift (p1F .tuple x3)).bnd fun d2 => Rs.ok (some d2)) (allW j) = .ok ((pths j).map fun a => tI a)
  | 0, _ => by kernel_rfl
  | 1, _ => by kernel_rfl
  | 2, _ => by kernel_rfl
  | 3, _ => by kernel_rfl
  | 4, _ => by kernel_rfl
  | 5, _ => by kernel_rfl
  | n + 6, h => by omega
theorem pths_small : ∀ j, j ≤ 5 → 0 < (pths j).length ∧ (pths j).length ≤ 42
  | 0, _ => by decide +kernel
  | 1, _ => by decide +kernel
  | 2, _ => by decide +kernel
  | 3, _ => by decide +kernel
  | 4, _ => by decide +kernel
  | 5, _ => by decide +kernel
  | n + 6, h => by omega
theorem other_ok : ∀ j : Nat, j ≤ 5 → ∃ o : List Int, (((Rs.lift (binF .add (.int (j : Nat)) (PyData.int 1))).bnd fun x43 => Rs.lift (binF .mul (PyData.tuple [(PyData.int 0), (PyData.int 1)]) x43)).bnd fun d16 => s_law_heights d16).bnd (fun x44 => Rs.lift (p1F .tuple x44)) = .ok (tI o) ∧ o.length = 2 * (j + 1) + 1
  | 0, _ => ⟨hts 0 [0, 1], by kernel_rfl, rfl⟩
  | 1, _ => ⟨hts 0 [0, 1, 0, 1], by kernel_rfl, rfl⟩
  | 2, _ => ⟨hts 0 [0, 1, 0, 1, 0, 1], by kernel_rfl, rfl⟩
  | 3, _ => ⟨hts 0 [0, 1, 0, 1, 0, 1, 0, 1], by kernel_rfl, rfl⟩
  | 4, _ => ⟨hts 0 [0, 1, 0, 1, 0, 1, 0, 1, 0, 1], by kernel_rfl, rfl⟩
  | 5, _ => ⟨hts 0 [0, 1, 0, 1, 0, 1, 0, 1, 0, 1, 0, 1], by kernel_rfl, rfl⟩
  | n + 6, h => by omega
@[simp] theorem sum_tI {a : List Int} : p1F .sum (tI a) = some (.int a.sum) := by
  have : toInts (a.map PyData.int) = some a := by
    induction a with
    | nil => rfl
    | cons b bs ih => show (toInts (bs.map PyData.int)).map (b :: ·) = _; rw [ih]; rfl
  show (toInts (a.map PyData.int)).map _ = _
  rw [this]
  rfl
theorem ne_self {a : List Int} : cmpF .ne (tI a) (tI a) = some false := by
  show (if (shp (tI a) && shp (tI a)) = true then some (PyData.eqv (tI a) (tI a)) else none).map (!·) = _
  rw [shp_tupI, if_pos (by decide)]
  have : ∀ l : List Int, PyData.eqvAll (l.map .int) (l.map .int) = true := fun l => by
    induction l with
    | nil => rfl
    | cons n ns ih => simp [PyData.eqvAll, PyData.eqv, ih]
  have e : PyData.eqv (tI a) (tI a) = true := by rw [PyData.eqv]; exact this a
  rw [e]
  rfl
theorem zip_nth (f : Int → Int → Int) {a b : List Int} (h : a.length = b.length) : List.zipWith f a b = (List.range a.length).map fun i => f (nth a i) (nth b i) := by
  apply List.ext_getElem
  · simp [h]
  · intro i h1 h2
    have ha : i < a.length := by simp at h2; exact h2
    have hb : i < b.length := by omega
    simp [nth, ha, hb]
theorem made_mn {a b : List Int} (h : a.length = b.length) (hl : a.length ≤ 1000) : compM (fun x11 => (Rs.lift (idxF (tI a) x11)).bnd fun x12 => (Rs.lift (idxF (tI b) x11)).bnd fun x13 => (Rs.lift (p2F .min x12 x13)).bnd fun d7 => Rs.ok (some d7)) ((List.range a.length).map fun i => .int (i : Nat)) = .ok ((List.zipWith mn a b).map .int) := by
  rw [compM_mapR (g := fun i : Nat => .int (mn (nth a i) (nth b i))) fun i hi => ?_]
  · rw [zip_nth mn h, List.map_map]
    rfl
  · have hi := List.mem_range.mp hi
    rw [ix_t, ix_t, atI_ints hi, atI_ints (by omega)]
    rfl
theorem made_mx {a b : List Int} (h : a.length = b.length) (hl : a.length ≤ 1000) : compM (fun x11 => (Rs.lift (idxF (tI a) x11)).bnd fun x12 => (Rs.lift (idxF (tI b) x11)).bnd fun x13 => (Rs.lift (p2F .max x12 x13)).bnd fun d7 => Rs.ok (some d7)) ((List.range a.length).map fun i => .int (i : Nat)) = .ok ((List.zipWith mx a b).map .int) := by
  rw [compM_mapR (g := fun i : Nat => .int (mx (nth a i) (nth b i))) fun i hi => ?_]
  · rw [zip_nth mx h, List.map_map]
    rfl
  · have hi := List.mem_range.mp hi
    rw [ix_t, ix_t, atI_ints hi, atI_ints (by omega)]
    rfl
theorem made_le {a b : List Int} (h : a.length = b.length) (hl : a.length ≤ 1000) : ∃ ds : List D, compM (fun x24 => (Rs.lift (idxF (tI a) x24)).bnd fun x25 => (Rs.lift (idxF (tI b) x24)).bnd fun x26 => (Rs.lift (cmpF .gt x25 x26)).bnd fun b11 => cond b11 (Rs.ok (some x24)) (Rs.ok none)) ((List.range a.length).map fun i => .int (i : Nat)) = .ok ds ∧ ds.length ≤ 100000 ∧ decide ((ds.length : Int) = 0) = leA a b := by
  refine ⟨((List.range a.length).filter fun i => decide (nth b i < nth a i)).map fun i => .int (i : Nat), ?_, ?_, ?_⟩
  · rw [compM_filterR (p := fun i : Nat => decide (nth b i < nth a i)) (g := fun i : Nat => .int (i : Nat)) fun i hi => ?_]
    · have hi := List.mem_range.mp hi
      rw [ix_t, ix_t, atI_ints hi, atI_ints (by omega)]
      show cond (decide (nth b i < nth a i)) _ _ = _
      cases decide (nth b i < nth a i) <;> rfl
  · have := List.length_filter_le (fun i => decide (nth b i < nth a i)) (List.range a.length)
    simp at this ⊢
    omega
  · have e : leA a b = ((List.range a.length).all fun i => decide (nth a i ≤ nth b i)) := by
      unfold leA
      have : a.zip b = (List.range a.length).map fun i => (nth a i, nth b i) := by
        apply List.ext_getElem
        · simp [h]
        · intro i h1 h2
          have ha : i < a.length := by simp at h2; exact h2
          have hb : i < b.length := by omega
          simp [nth, ha, hb]
      rw [this, List.all_map]
      rfl
    rw [e, List.length_map, Bool.eq_iff_iff]
    simp only [decide_eq_true_eq, List.all_eq_true, List.mem_range]
    constructor
    · intro hz i hi
      have hn := List.eq_nil_of_length_eq_zero (by omega : ((List.range a.length).filter fun i => decide (nth b i < nth a i)).length = 0)
      have := List.filter_eq_nil_iff.mp hn i (List.mem_range.mpr hi)
      simp at this
      exact this
    · intro hz
      have : (List.range a.length).filter (fun i => decide (nth b i < nth a i)) = [] := List.filter_eq_nil_iff.mpr fun i hi => by
        have := hz i (List.mem_range.mp hi)
        simp
        omega
      rw [this]
      rfl
theorem zlen (f : Int → Int → Int) {a b : List Int} (h : a.length = b.length) : (List.zipWith f a b).length = a.length := by simp [h]
theorem fit_tI {k m : Nat} {ns : List Int} (h : ns.length ≤ k) : Fit k (m + 1) (tI ns) := fit_i h
theorem turn20 (next brk : List D → Prop) {j : Nat} (hj : j ≤ 5) {p x : D} (hp : PoolD p) (nx : ∀ p', PoolD p' → next [p', .int (j : Nat), .list ((pths j).map fun a => tI a)]) : m_law_20_l3_g0 clpP next brk p (.int (j : Nat)) (.list ((pths j).map fun a => tI a)) x := by
  obtain ⟨pl, pl2⟩ := pths_small j hj
  unfold m_law_20_l3_g0 m_law_20_l3_s0
  have r3 : rngF1 (.int 3) = some [.int 0, .int 1, .int 2] := by rw [rng1_i (by decide) (by decide)]; rfl
  have r4 : rngF1 (.int 4) = some [.int 0, .int 1, .int 2, .int 3] := by rw [rng1_i (by decide) (by decide)]; rfl
  simp (config := dc) only [r3, lift_some, fold_ok]
  refine compK_inv (fun s => ∃ p, s = [p, .int (j : Nat), .list ((pths j).map fun a => tI a), x] ∧ PoolD p) (fun d => ∃ a ∈ pths j, d = tI a) ⟨p, rfl, hp⟩ ?_ ?_
  · rintro y hy s nx' ⟨p1, rfl, hp1⟩ hn
    show clpP 22 p1 [.list ((pths j).map fun a => tI a)] _
    refine clp_pickL hp1 (by simpa using pl) (by simp; omega) fun d p2 hp2 hd => ?_
    obtain ⟨a, ha, rfl⟩ := List.mem_map.mp hd
    exact hn _ _ ⟨p2, rfl, hp2⟩ ⟨a, ha, rfl⟩
  rintro s zs ⟨p1, rfl, hp1⟩ hl hz
  match zs, hl with
  | [d1, d2, d3], _ =>
  have h1 := hz d1 (by simp)
  have h2 := hz d2 (by simp)
  have h3 := hz d3 (by simp)
  simp only [List.not_mem_nil, false_or] at h1 h2 h3
  obtain ⟨a, ha, rfl⟩ := h1
  obtain ⟨b, hb, rfl⟩ := h2
  obtain ⟨c, hc, rfl⟩ := h3
  have la := pths_len ha
  have lb := pths_len hb
  have lc := pths_len hc
  simp (config := dc) only [klist4_ok]
  rw [if_pos (by simp; decide)]
  show m_law_20_l3_g1 clpP next brk p1 (.int (j : Nat)) (.list ((pths j).map fun a => tI a)) x (tI a) (tI b) (tI c)
  have ab : a.length = b.length := by omega
  have ac : a.length = c.length := by omega
  have bc : b.length = c.length := by omega
  have a1 : a.length ≤ 1000 := by omega
  obtain ⟨f1, f2⟩ := paths_f hj ha hb
  have sm : ∀ {u v : List Int}, u.length ≤ 1000 → v.length ≤ 1000 → s_law_same 30 (.list [tI u, tI v]) (.list [tI u, tI v]) = .ok (.bool true) := fun {u v} hu hv => by
    refine same_ok (k := 1000) (m := 3) (by decide) (by decide) (fit_lst (by simp) fun y hy => ?_)
    simp only [List.mem_cons, List.not_mem_nil, or_false] at hy
    rcases hy with rfl | rfl
    · exact fit_i hu
    · exact fit_i hv
  unfold m_law_20_l3_g1 m_law_20_l3_s1
  simp (config := dc) only [lower_ok ab a1, upper_ok ab a1, fold_ok]
  unfold m_law_20_l3_g2 m_law_20_l3_s2
  simp (config := dc) only [f1, f2, bnd_ok, asBs_bool, fold_ok, isN_none, Bool.not_true, cond_false]
  unfold m_law_20_l3_g3 m_law_20_l3_s3
  have rn : rngF1 (.int ((a.map PyData.int).length : Nat)) = some ((List.range a.length).map fun i => .int (i : Nat)) := by rw [rng_n (by simp; omega), List.length_map]
  have m1 := made_mn ab a1
  have m2 := made_mx ab a1
  obtain ⟨ds, m3, m3l, m4⟩ := made_le ab a1
  have zmn : szL ((List.zipWith mn a b).map PyData.int) = .ok (.list ((List.zipWith mn a b).map .int)) := szL_ok (by simp; omega)
  have zmx : szL ((List.zipWith mx a b).map PyData.int) = .ok (.list ((List.zipWith mx a b).map .int)) := szL_ok (by simp; omega)
  simp (config := dc) only [len_t, lift_some, bnd_ok, bnd_bnd, rn] at m1 m2 ⊢
  simp (config := dc) only [m1, m2, zmn, zmx, tup_l, lift_some, bnd_ok, sm (show (List.zipWith mn a b).length ≤ 1000 by rw [zlen mn ab]; exact a1) (show (List.zipWith mx a b).length ≤ 1000 by rw [zlen mx ab]; exact a1), asBs_bool, fold_ok, Bool.not_true, cond_false]
  unfold m_law_20_l3_g4 m_law_20_l3_s4
  simp (config := dc) only [below_ok ab a1, len_t, lift_some, bnd_ok, bnd_bnd, rn] at m3 ⊢
  simp (config := dc) only [m3, szL_ok m3l, len_l, lift_some, bnd_ok, c_eq, m4, c_neB, asBs_bool, bne_self_eq_false, cond_false, sum_tI, b_add, c_ne, sum_mnmx ab, decide_true, Bool.not_true, fold_ok]
  unfold m_law_20_l3_g5 m_law_20_l3_s5 m_law_20_l3_g6 m_law_20_l3_s6
  simp (config := dc) only [r4, lift_some, fold_ok]
  refine compK_inv (fun s => ∃ p, s = [p, .int (j : Nat), .list ((pths j).map fun a => tI a), tI a, tI b, tI c, tI (List.zipWith mn a b), tI (List.zipWith mx a b)] ∧ PoolD p) (fun d => ∃ a ∈ pths j, d = tI a) ⟨p1, rfl, hp1⟩ ?_ ?_
  · rintro y hy s nx' ⟨p1, rfl, hp1⟩ hn
    show clpP 22 p1 [.list ((pths j).map fun a => tI a)] _
    refine clp_pickL hp1 (by simpa using pl) (by simp; omega) fun d p2 hp2 hd => ?_
    obtain ⟨a, ha, rfl⟩ := List.mem_map.mp hd
    exact hn _ _ ⟨p2, rfl, hp2⟩ ⟨a, ha, rfl⟩
  rintro s zs ⟨p2, rfl, hp2⟩ hl2 hz2
  have hl2 : zs.length = 4 := hl2
  simp (config := dc) only [klist8_ok]
  rw [if_pos (by rw [hl2]; decide)]
  simp (config := dc) only [seq_l, kop_some]
  refine forK_inv (fun s => ∃ p, s = [p, .int (j : Nat), .list ((pths j).map fun a => tI a), tI a, tI b, tI c, tI (List.zipWith mn a b), tI (List.zipWith mx a b)] ∧ PoolD p) ⟨p2, rfl, hp2⟩ ?_ ?_
  · rintro y hy s nx' bk' ⟨p3, rfl, hp3⟩ hn _
    have := hz2 y hy
    simp only [List.not_mem_nil, false_or] at this
    obtain ⟨o, ho, rfl⟩ := this
    have lo := pths_len ho
    have oa : o.length = a.length := by omega
    have ob : o.length = b.length := by omega
    have o1 : o.length ≤ 1000 := by omega
    have zn := zlen mn ab
    have zx := zlen mx ab
    have q := hn _ ⟨p3, rfl, hp3⟩
    show m_law_20_l3_l6_g0 clpP nx' bk' p3 (.int (j : Nat)) (.list ((pths j).map fun a => tI a)) (tI o) (tI a) (tI b) (tI c) (tI (List.zipWith mn a b)) (tI (List.zipWith mx a b))
    unfold m_law_20_l3_l6_g0 m_law_20_l3_l6_s0
    simp (config := dc) only [below_ok oa o1, below_ok ob o1, below_ok oa.symm a1, below_ok ob.symm (show b.length ≤ 1000 by omega), below_ok (oa.trans zn.symm) o1, below_ok (zx.trans oa.symm) (show (List.zipWith mx a b).length ≤ 1000 by omega), leA_mn oa ab, leA_mx oa ab, bnd_ok, asBs_bool]
    have e1 : ∀ u v : Bool, (cond u (Rs.ok (PyData.bool v)) (Rs.ok (PyData.bool false))) = Rs.ok (.bool (u && v)) := fun u v => by cases u <;> rfl
    simp (config := dc) only [e1, bnd_ok, c_neB, bne_self_eq_false, lift_some, asBs_bool, cond_false, fold_ok]
    exact q
  rintro s ⟨p3, rfl, hp3⟩
  show m_law_20_l3_g7 clpP next brk p3 (.int (j : Nat)) (.list ((pths j).map fun a => tI a)) (tI a) (tI b) (tI c) (tI (List.zipWith mn a b)) (tI (List.zipWith mx a b))
  unfold m_law_20_l3_g7 m_law_20_l3_s7
  have zbc := zlen mx bc
  have zab := zlen mn ab
  have zac := zlen mn ac
  simp (config := dc) only [upper_ok bc (show b.length ≤ 1000 by omega), bnd_ok, lower_ok (show a.length = (List.zipWith mx b c).length by omega) a1, lower_ok ab a1, lower_ok ac a1, upper_ok (zab.trans zac.symm) (show (List.zipWith mn a b).length ≤ 1000 by omega), mn_mx ab ac, ne_self, lift_some, asBs_bool, fold_ok, cond_false]
  obtain ⟨o, e1, e2⟩ := other_ok j hj
  unfold m_law_20_l3_g8 m_law_20_l3_s8
  rw [e1]
  simp (config := dc) only [fold_ok]
  unfold m_law_20_l3_g9 m_law_20_l3_s9
  simp (config := dc) only [refused_ok (show a.length ≠ o.length by omega), refused_ok (show o.length ≠ b.length by omega), bnd_ok, asBs_bool, Bool.not_true, cond_false, fold_ok]
  unfold m_law_20_l3_g10 m_law_20_l3_s10 m_law_20_l3_g11
  exact nx p3 hp3
theorem main_law_20 {ns : List Int} (hl : ns.length ≤ 63) {P : D} (hP : PoolD P) : m_law_20 (.list (ns.map PyData.int)) P := by
  unfold m_law_20 m_law_20_g0 m_law_20_s0
  refine clp_draw hP (by decide) (by decide) fun j P1 hP1 hj => ?_
  have hj5 : j ≤ 5 := by omega
  obtain ⟨_, pl⟩ := pths_small j hj5
  show m_law_20_g1 clpP _ P1 (.int (j : Nat))
  unfold m_law_20_g1 m_law_20_s1
  simp (config := dc) only [s_all_ok hj5, seq_l, lift_some, bnd_ok, all_paths j hj5, szL_ok (show ((pths j).map fun a => tI a).length ≤ 100000 by simp; omega), fold_ok]
  unfold m_law_20_g2 m_law_20_s2 m_law_20_g3 m_law_20_s3 m_law_20_g4 m_law_20_s4
  rw [rng1_i (by decide) (by decide)]
  simp (config := dc) only [lift_some, fold_ok]
  refine forK_inv (fun s => ∃ p, s = [p, .int (j : Nat), .list ((pths j).map fun a => tI a)] ∧ PoolD p) ⟨P1, rfl, hP1⟩ ?_ ?_
  · rintro x hx s next brk ⟨p, rfl, hp⟩ nx _
    show m_law_20_l3_g0 clpP next brk p (.int (j : Nat)) (.list ((pths j).map fun a => tI a)) x
    exact turn20 next brk hj5 hp fun p' hp' => nx _ ⟨p', rfl, hp'⟩
  · rintro s ⟨p, rfl, hp⟩
    trivial
end Ev

set_option Elab.async false
set_option linter.all false
set_option maxRecDepth 100000
set_option autoImplicit false
set_option maxHeartbeats 4000000
/-! F25: what the defs about rows turned over do. -/
namespace Ev
open PySem L2
def Bits (w : List Int) : Prop := ∀ x ∈ w, 0 ≤ x ∧ x ≤ 1
/-- the first place below -/
def Low (w : List Int) (j : Nat) : Prop := j ≤ w.length ∧ hend 0 (w.take j) = -1 ∧ ∀ i, i < j → hend 0 (w.take i) ≠ -1
def NoLow (w : List Int) : Prop := ∀ i, i ≤ w.length → hend 0 (w.take i) ≠ -1
def flp (w : List Int) (j : Nat) : List Int := w.take j ++ (w.drop j).map fun x => 1 - x
theorem hts_nth : ∀ (w : List Int) (h : Int) (k : Nat), k ≤ w.length → (hts h w)[k]? = some (hend h (w.take k))
  | [], h, 0, _ => rfl
  | [], h, k + 1, hk => by simp at hk
  | x :: w, h, 0, _ => rfl
  | x :: w, h, k + 1, hk => by
    have := hts_nth w (h + 1 - 2 * x) k (by simpa using hk)
    simpa [hts, hend] using this
theorem hend_cnt : ∀ (w : List Int) (h : Int), Bits w → hend h w = h + (w.count 0 : Nat) - (w.count 1 : Nat)
  | [], h, _ => by simp [hend]
  | x :: w, h, hb => by
    have ih := hend_cnt w (h + 1 - 2 * x) fun y hy => hb y (List.mem_cons_of_mem _ hy)
    have hx := hb x List.mem_cons_self
    have : x = 0 ∨ x = 1 := by omega
    show hend (h + 1 - 2 * x) w = _
    rw [ih]
    rcases this with rfl | rfl <;> simp <;> omega
theorem cnt_len : ∀ {w : List Int}, Bits w → w.count 0 + w.count 1 = w.length
  | [], _ => rfl
  | x :: w, hb => by
    have ih := cnt_len (w := w) fun y hy => hb y (List.mem_cons_of_mem _ hy)
    have hx := hb x List.mem_cons_self
    have : x = 0 ∨ x = 1 := by omega
    rcases this with rfl | rfl <;> simp <;> omega
/-- without a place below all heights are above -/
theorem above : ∀ (w : List Int) (h : Int), Bits w → 0 ≤ h → (∀ i, i ≤ w.length → hend h (w.take i) ≠ -1) → (∀ x ∈ hts h w, 0 ≤ x) ∧ 0 ≤ hend h w
  | [], h, _, h0, _ => ⟨fun x hx => by simp [hts] at hx; omega, h0⟩
  | x :: w, h, hb, h0, hn => by
    have hx := hb x List.mem_cons_self
    have e1 : h + 1 - 2 * x ≠ -1 := by
      have := hn 1 (by simp)
      simpa [hend] using this
    have ih := above w (h + 1 - 2 * x) (fun y hy => hb y (List.mem_cons_of_mem _ hy)) (by omega) fun i hi => by
      have := hn (i + 1) (by simpa using hi)
      simpa [hend] using this
    refine ⟨fun y hy => ?_, ih.2⟩
    rcases List.mem_cons.mp hy with rfl | hy
    · exact h0
    · exact ih.1 y hy
theorem low_or (w : List Int) : (∃ j, Low w j) ∨ NoLow w := by
  cases h : (List.range (w.length + 1)).find? fun i => decide (hend 0 (w.take i) = -1) with
  | none =>
    right
    intro i hi e
    have := List.find?_eq_none.mp h i (List.mem_range.mpr (by omega))
    simp [e] at this
  | some j =>
    left
    have hj := List.mem_of_find?_eq_some h
    have hp := List.find?_some h
    refine ⟨j, by have := List.mem_range.mp hj; omega, by simpa using hp, fun i hi e => ?_⟩
    obtain ⟨_, as, bs, e1, e2⟩ := List.find?_eq_some_iff_append.mp h
    have hlen : as.length = j := by
      have := congrArg (fun l => l[as.length]?) e1
      simp at this
      have h2 : as.length < w.length + 1 := by
        have := congrArg List.length e1
        simp at this
        omega
      rw [List.getElem?_range h2] at this
      exact Option.some.inj this
    have hi2 : i ∈ as := by
      have := congrArg (fun l => l[i]?) e1
      rw [List.getElem?_append_left (by omega), List.getElem?_range (by have := List.mem_range.mp hj; omega)] at this
      exact List.mem_of_getElem? this.symm
    have := e2 i hi2
    simp [e] at this
theorem find_low {w : List Int} {j : Nat} (h : Low w j) : (List.range (w.length + 1)).find? (fun i => decide (hend 0 (w.take i) = -1)) = some j := by
  have e : List.range (w.length + 1) = List.range j ++ j :: (List.range' (j + 1) (w.length - j)) := by
    rw [List.range_eq_range', List.range_eq_range', show w.length + 1 = j + (w.length - j + 1) by have := h.1; omega, ← List.range'_append_1, List.range'_succ]
    simp
  rw [e]
  refine List.find?_eq_some_iff_append.mpr ⟨by simp [h.2.1], _, _, rfl, fun i hi => ?_⟩
  have := h.2.2 i (List.mem_range.mp hi)
  simp [this]
theorem fst_low {w : List Int} {j : Nat} (h : Low w j) : fstD (w.length + 1) (fun i => decide (hend 0 (w.take i) = -1)) = .int (j : Nat) := by
  unfold fstD
  rw [find_low h]
theorem fst_nolow {w : List Int} (h : NoLow w) : fstD (w.length + 1) (fun i => decide (hend 0 (w.take i) = -1)) = .none := by
  have : (List.range (w.length + 1)).find? (fun i => decide (hend 0 (w.take i) = -1)) = none := List.find?_eq_none.mpr fun i hi => by
    have := h i (by have := List.mem_range.mp hi; omega)
    simp [this]
  unfold fstD
  rw [this]
theorem tests_hts {w : List Int} : (hts 0 w).map (fun h => PyData.bool (decide (h = -1))) = (List.range (w.length + 1)).map fun i => .bool (decide (hend 0 (w.take i) = -1)) := by
  apply List.ext_getElem?
  intro i
  by_cases hi : i ≤ w.length
  · rw [List.getElem?_map, hts_nth w 0 i hi, List.getElem?_map, List.getElem?_range (by omega)]
    rfl
  · rw [List.getElem?_eq_none (by simp [hts_len]; omega), List.getElem?_eq_none (by simp; omega)]
@[simp] theorem toI {w : List Int} : toInts (w.map PyData.int) = some w := by
  induction w with
  | nil => rfl
  | cons b bs ih => show (toInts (bs.map PyData.int)).map (b :: ·) = _; rw [ih]; rfl
theorem count_t {w : List Int} {x : Int} : m1F .count (.tuple (w.map .int)) (.int x) = some (.int (w.count x : Nat)) := by
  show (toInts (w.map PyData.int)).map _ = _
  rw [toI]
  rfl
theorem signs_ok {w : List Int} (hb : Bits w) (hl : w.length ≤ 1000) : s_is_signs (tI w) = .ok (.bool true) := by
  have cm : compM (fun x1 => (cond ((isTy x1 .int)) (cond (!((isTy x1 .bool))) ((Rs.lift (cmpF .le (PyData.int 0) x1)).bnd fun b1 => cond b1 ((Rs.lift (cmpF .le x1 (PyData.int 1))).bnd fun b2 => Rs.ok (PyData.bool b2)) (Rs.ok (PyData.bool false))) (Rs.ok (PyData.bool false))) (Rs.ok (PyData.bool false))).bnd fun d1 => Rs.ok (some d1)) (w.map .int) = .ok ((w.map fun _ => true).map .bool) := by
    rw [compM_mapR (g := fun _ => .bool true) fun x hx => ?_, List.map_map]
    · rfl
    · have h1 : decide ((0 : Int) ≤ x) = true := decide_eq_true (hb x hx).1
      have h2 : decide (x ≤ 1) = true := decide_eq_true (hb x hx).2
      show (cond true (cond (!false) ((Rs.lift (cmpF .le (PyData.int 0) (.int x))).bnd _) _) _).bnd _ = _
      simp (config := dc) only [cond_true, Bool.not_false, c_le, h1, h2, lift_some, bnd_ok]
  have ty : isTy (tI w) .tuple = true := rfl
  simp (config := dc) only [s_is_signs, ty, Bool.not_true, cond_false, seq_t, lift_some, bnd_ok, bnd_bnd] at cm ⊢
  simp (config := dc) only [cm, szL_ok (show ((w.map fun _ => true).map PyData.bool).length ≤ 100000 by simp; omega), bnd_ok, all_bs, lift_some]
  congr 2
  simp
/-- what both ways share: the first place below -/
theorem first_ok {w : List Int} (hb : Bits w) (hl : w.length ≤ 1000) {kn : D → Rs D} : (((s_heights (tI w)).bnd fun x6 => Rs.lift (seqOf x6)).bnd fun xs1 => (compM (fun x7 => (((asIs (PyData.int 1)).bnd fun i1 => Rs.ok (PyData.int (-i1))).bnd fun x8 => (Rs.lift (cmpF .eq x7 x8)).bnd fun b3 => Rs.ok (PyData.bool b3)).bnd fun d3 => Rs.ok (some d3)) xs1).bnd szL).bnd (fun d4 => (s_first_true d4).bnd kn) = kn (fstD (w.length + 1) fun i => decide (hend 0 (w.take i) = -1)) := by
  have cm : compM (fun x7 => (((asIs (PyData.int 1)).bnd fun i1 => Rs.ok (PyData.int (-i1))).bnd fun x8 => (Rs.lift (cmpF .eq x7 x8)).bnd fun b3 => Rs.ok (PyData.bool b3)).bnd fun d3 => Rs.ok (some d3)) ((hts 0 w).map .int) = .ok ((hts 0 w).map fun h => .bool (decide (h = -1))) := by
    refine compM_mapR (g := fun h => .bool (decide (h = -1))) fun x hx => ?_
    simp (config := dc) only [asIs_int, bnd_ok, c_eq, lift_some]
  have z : szL ((List.range (w.length + 1)).map fun i => PyData.bool (decide (hend 0 (w.take i) = -1))) = .ok (.list _) := szL_ok (by simp; omega)
  rw [heights_ok (by omega) hb]
  simp (config := dc) only [bnd_ok, seq_l, lift_some] at cm ⊢
  rw [cm, tests_hts]
  simp (config := dc) only [bnd_ok, z]
  rw [first_true_ok (by omega)]
  rfl
theorem turn_over {w : List Int} (hl : w.length ≤ 1000) {j : Nat} (hj : j ≤ w.length) {kn : D → Rs D} : (((((asIs (.int (j : Nat))).bnd fun i2 => Rs.ok (some i2)).bnd fun x9 => Rs.lift (slcF none x9 (tI w))).bnd fun x10 => ((((((asIs (.int (j : Nat))).bnd fun i3 => Rs.ok (some i3)).bnd fun x11 => Rs.lift (slcF x11 none (tI w))).bnd fun x12 => Rs.lift (seqOf x12)).bnd fun xs2 => (compM (fun x13 => (Rs.lift (binF .sub (PyData.int 1) x13)).bnd fun d7 => Rs.ok (some d7)) xs2).bnd szL).bnd fun x14 => Rs.lift (p1F .tuple x14)).bnd fun x15 => Rs.lift (binF .add x10 x15)).bnd kn) = kn (tI (flp w j)) := by
  have cm : compM (fun x13 => (Rs.lift (binF .sub (PyData.int 1) x13)).bnd fun d7 => Rs.ok (some d7)) ((w.drop j).map .int) = .ok ((w.drop j).map fun x => .int (1 - x)) := compM_mapR fun x hx => by simp (config := dc) only [b_sub, lift_some, bnd_ok]
  have z : szL ((w.drop j).map fun x => PyData.int (1 - x)) = .ok (.list _) := szL_ok (by simp; omega)
  have hj' : j ≤ (w.map PyData.int).length := by simpa using hj
  simp (config := dc) only [asIs_int, bnd_ok, slc_to hj', slc_from hj', lift_some, seq_t, ← List.map_drop, ← List.map_take] at cm ⊢
  rw [cm]
  have lw : ((w.take j).map PyData.int).length + ((w.drop j).map fun x => PyData.int (1 - x)).length ≤ 100000 := by simp; omega
  simp (config := dc) only [bnd_ok, z, tup_l, lift_some, add_tup lw]
  rw [flp, tI, List.map_append, List.map_map]
  rfl
theorem reflected_shape {w : List Int} (hb : Bits w) (hl : w.length ≤ 1000) (hc : w.count 0 = w.count 1) : s_reflected (tI w) = match (List.range (w.length + 1)).find? (fun i => decide (hend 0 (w.take i) = -1)) with | some j => .ok (tI (flp w j)) | none => .ex ⟨0, []⟩ := by
  have e : decide (((w.count 0 : Nat) : Int) = ((w.count 1 : Nat) : Int)) = true := decide_eq_true (by omega)
  unfold s_reflected
  simp (config := dc) only [signs_ok hb hl, bnd_ok, asBs_bool, cond_true, tupD_tuple, lift_some, count_t, c_eq, e]
  have mt : s_must_be (.bool true) = .ok .none := rfl
  simp (config := dc) only [mt, bnd_ok]
  have f := first_ok (w := w) hb hl (kn := fun d5 => (s_must_be (PyData.bool !(isNoneD d5))).bnd fun d6 => ((((asIs d5).bnd fun i2 => Rs.ok (some i2)).bnd fun x9 => Rs.lift (slcF none x9 (tI w))).bnd fun x10 => ((((((asIs d5).bnd fun i3 => Rs.ok (some i3)).bnd fun x11 => Rs.lift (slcF x11 none (tI w))).bnd fun x12 => Rs.lift (seqOf x12)).bnd fun xs2 => (compM (fun x13 => (Rs.lift (binF .sub (PyData.int 1) x13)).bnd fun d7 => Rs.ok (some d7)) xs2).bnd szL).bnd fun x14 => Rs.lift (p1F .tuple x14)).bnd fun x15 => Rs.lift (binF .add x10 x15)).bnd fun d8 => Rs.ok d8)
  refine Eq.trans f ?_
  unfold fstD
  cases hf : (List.range (w.length + 1)).find? (fun i => decide (hend 0 (w.take i) = -1)) with
  | none => rfl
  | some j =>
    have hj : j ≤ w.length := by have := List.mem_range.mp (List.mem_of_find?_eq_some hf); omega
    dsimp only
    simp (config := dc) only [isN_int, Bool.not_false, mt, bnd_ok]
    exact turn_over hl hj (kn := fun d => Rs.ok d)
theorem reflected_ok {w : List Int} {j : Nat} (hb : Bits w) (hl : w.length ≤ 1000) (hc : w.count 0 = w.count 1) (h : Low w j) : s_reflected (tI w) = .ok (tI (flp w j)) := by
  rw [reflected_shape hb hl hc, find_low h]
theorem reflected_no {w : List Int} (hb : Bits w) (hl : w.length ≤ 1000) (hc : w.count 0 = w.count 1) (h : NoLow w) : s_reflected (tI w) = .ex ⟨0, []⟩ := by
  rw [reflected_shape hb hl hc]
  have : (List.range (w.length + 1)).find? (fun i => decide (hend 0 (w.take i) = -1)) = none := List.find?_eq_none.mpr fun i hi => by
    have := h i (by have := List.mem_range.mp hi; omega)
    simp [this]
  rw [this]
theorem reflected_odd {w : List Int} (hb : Bits w) (hl : w.length ≤ 1000) (hc : w.count 0 ≠ w.count 1) : s_reflected (tI w) = .ex ⟨0, []⟩ := by
  have e : decide (((w.count 0 : Nat) : Int) = ((w.count 1 : Nat) : Int)) = false := decide_eq_false (by omega)
  unfold s_reflected
  simp (config := dc) only [signs_ok hb hl, bnd_ok, asBs_bool, cond_true, tupD_tuple, lift_some, count_t, c_eq, e]
  rfl
theorem back_ok {w : List Int} {j : Nat} (hb : Bits w) (hl : w.length ≤ 1000) (hc : w.count 0 + 2 = w.count 1) (h : Low w j) : s_reflected_back (tI w) = .ok (tI (flp w j)) := by
  have e : decide (((w.count 0 : Nat) : Int) + 2 = ((w.count 1 : Nat) : Int)) = true := decide_eq_true (by omega)
  unfold s_reflected_back
  simp (config := dc) only [signs_ok hb hl, bnd_ok, asBs_bool, cond_true, tupD_tuple, lift_some, count_t, c_eq, b_add, e]
  have mt : s_must_be (.bool true) = .ok .none := rfl
  simp (config := dc) only [mt, bnd_ok]
  have f := first_ok (w := w) hb hl (kn := fun d5 => ((((asIs d5).bnd fun i2 => Rs.ok (some i2)).bnd fun x9 => Rs.lift (slcF none x9 (tI w))).bnd fun x10 => ((((((asIs d5).bnd fun i3 => Rs.ok (some i3)).bnd fun x11 => Rs.lift (slcF x11 none (tI w))).bnd fun x12 => Rs.lift (seqOf x12)).bnd fun xs2 => (compM (fun x13 => (Rs.lift (binF .sub (PyData.int 1) x13)).bnd fun d7 => Rs.ok (some d7)) xs2).bnd szL).bnd fun x14 => Rs.lift (p1F .tuple x14)).bnd fun x15 => Rs.lift (binF .add x10 x15)).bnd fun d8 => Rs.ok d8)
  refine Eq.trans f ?_
  rw [fst_low h]
  exact turn_over hl h.1 (kn := fun d => Rs.ok d)
theorem back_odd {w : List Int} (hb : Bits w) (hl : w.length ≤ 1000) (hc : w.count 0 + 2 ≠ w.count 1) : s_reflected_back (tI w) = .ex ⟨0, []⟩ := by
  have e : decide (((w.count 0 : Nat) : Int) + 2 = ((w.count 1 : Nat) : Int)) = false := decide_eq_false (by omega)
  unfold s_reflected_back
  simp (config := dc) only [signs_ok hb hl, bnd_ok, asBs_bool, cond_true, tupD_tuple, lift_some, count_t, c_eq, b_add, e]
  rfl
theorem law_heights_ok {w : List Int} (hl : w.length ≤ 10000) (hb : Bits w) : s_law_heights (tI w) = .ok (.list ((hts 0 w).map .int)) := by
  have lp : ∀ (w pre : List Int) (h : Int) (v : D) (kn : List D → Rs D), pre.length + w.length ≤ 10000 → Bits w → forK s_law_heights_l1 (w.map .int) [v, .list (pre.map .int ++ [.int h])] kn = kn [v, .list (pre.map .int ++ (hts h w).map .int)] := fun w => by
    induction w with
    | nil => intros; rfl
    | cons x w ih =>
      intro pre h v kn hl hb
      have hx := hb x List.mem_cons_self
      have ih := ih (pre ++ [h]) (h + 1 - 2 * x) v kn (by simp at hl ⊢; omega) fun y hy => hb y (List.mem_cons_of_mem _ hy)
      rw [List.map_cons, forK_cons]
      have l : (pre.map PyData.int ++ [PyData.int h]).length < 100000 := by simp at hl ⊢; omega
      have e := mul_l (a := 2) (b := x) (by omega) (by omega)
      simp (config := dc) only [s_law_heights_l1, klist2_ok, klst_ok, asIs_int, bnd_ok, ix_l, atI_last, lift_some, b_add, e, b_sub, app_lst l, kop_some]
      simp only [List.map_append, List.map_cons, List.map_nil] at ih
      rw [ih, hts]
      simp
  simp (config := dc) only [s_law_heights, seq_t, kop_some]
  have := lp w [] 0 (tI w) (fun s1 => klist2 Rs.no s1 fun value3 found3 => Rs.ok found3) (by simpa using hl) hb
  simp only [List.map_nil, List.nil_append] at this
  rw [this]
  rfl
theorem law_reflected_ok {w : List Int} {j : Nat} (hb : Bits w) (hl : w.length ≤ 1000) (h : Low w j) : s_law_reflected (tI w) = .ok (tI (flp w j)) := by
  unfold s_law_reflected
  have r : rngF1 (.int (((w.map PyData.int).length : Int) + 1)) = some ((List.range (w.length + 1)).map fun i => .int (i : Nat)) := by
    rw [List.length_map, show ((w.length : Int) + 1) = ((w.length + 1 : Nat) : Int) by omega, rng_n (by omega)]
  have cm : compM (fun x3 => ((((s_law_heights (tI w)).bnd fun x4 => Rs.lift (idxF x4 x3)).bnd fun x5 => ((asIs (PyData.int 1)).bnd fun i1 => Rs.ok (PyData.int (-i1))).bnd fun x6 => (Rs.lift (cmpF .eq x5 x6)).bnd fun b1 => Rs.ok (PyData.bool b1)).bnd fun x7 => asBs x7).bnd fun b2 => cond b2 (Rs.ok (some x3)) (Rs.ok none)) ((List.range (w.length + 1)).map fun i => .int (i : Nat)) = .ok (((List.range (w.length + 1)).filter fun i => decide (hend 0 (w.take i) = -1)).map fun i => .int (i : Nat)) := by
    refine compM_filterR (p := fun i : Nat => decide (hend 0 (w.take i) = -1)) (g := fun i : Nat => .int (i : Nat)) fun i hi => ?_
    have hi := List.mem_range.mp hi
    have a : atI ((hts 0 w).map PyData.int) (i : Int) = some (.int (hend 0 (w.take i))) := by
      refine atI_nat ?_
      rw [List.getElem?_map, hts_nth w 0 i (by omega)]
      rfl
    rw [law_heights_ok (by omega) hb]
    simp (config := dc) only [bnd_ok, ix_l, a, lift_some, asIs_int, c_eq, asBs_bool]
    cases decide (hend 0 (w.take i) = -1) <;> rfl
  have z : szL (((List.range (w.length + 1)).filter fun i => decide (hend 0 (w.take i) = -1)).map fun i => PyData.int (i : Nat)) = .ok (.list _) := szL_ok (by
    have := List.length_filter_le (fun i => decide (hend 0 (w.take i) = -1)) (List.range (w.length + 1))
    simp at this ⊢
    omega)
  simp (config := dc) only [len_t, lift_some, bnd_ok, b_add, r] at cm ⊢
  rw [cm]
  simp (config := dc) only [bnd_ok, z, law_least_ok]
  rw [fst_low h]
  exact turn_over hl h.1 (kn := fun d => Rs.ok d)
/-! ### plain facts -/
theorem flp_bits {w : List Int} {j : Nat} (hb : Bits w) : Bits (flp w j) := fun x hx => by
  rcases List.mem_append.mp hx with h | h
  · exact hb x (List.mem_of_mem_take h)
  · obtain ⟨y, hy, rfl⟩ := List.mem_map.mp h
    have := hb y (List.mem_of_mem_drop hy)
    omega
theorem flp_len {w : List Int} {j : Nat} (hj : j ≤ w.length) : (flp w j).length = w.length := by
  unfold flp
  simp
  omega
theorem flp_take {w : List Int} {j i : Nat} (hj : j ≤ w.length) (hi : i ≤ j) : (flp w j).take i = w.take i := by
  unfold flp
  rw [List.take_append_of_le_length (by simp; omega), List.take_take, Nat.min_eq_left hi]
theorem flp_low {w : List Int} {j : Nat} (h : Low w j) : Low (flp w j) j := ⟨by rw [flp_len h.1]; exact h.1, by rw [flp_take h.1 (Nat.le_refl _)]; exact h.2.1, fun i hi => by rw [flp_take h.1 (by omega)]; exact h.2.2 i hi⟩
theorem flp_flp {w : List Int} {j : Nat} (hj : j ≤ w.length) : flp (flp w j) j = w := by
  unfold flp
  have l : (w.take j).length = j := by simp; omega
  have e1 : (w.take j ++ (w.drop j).map fun x => 1 - x).take j = w.take j := by
    rw [List.take_append_of_le_length (by omega), List.take_take, Nat.min_self]
  have e2 : (w.take j ++ (w.drop j).map fun x => 1 - x).drop j = (w.drop j).map fun x => 1 - x := by
    rw [List.drop_append_of_le_length (by omega), List.drop_of_length_le (by omega), List.nil_append]
  rw [e1, e2, List.map_map]
  have : ((fun x : Int => 1 - x) ∘ fun x => 1 - x) = id := by
    funext x
    simp
    omega
  rw [this, List.map_id, List.take_append_drop]
theorem cnt_flip : ∀ {w : List Int}, Bits w → (w.map fun x => 1 - x).count 0 = w.count 1 ∧ (w.map fun x => 1 - x).count 1 = w.count 0
  | [], _ => ⟨rfl, rfl⟩
  | x :: w, hb => by
    have ih := cnt_flip (w := w) fun y hy => hb y (List.mem_cons_of_mem _ hy)
    have hx := hb x List.mem_cons_self
    have : x = 0 ∨ x = 1 := by omega
    rcases this with rfl | rfl <;> simp [ih]
theorem flp_cnt {w : List Int} {j : Nat} (hb : Bits w) (h : Low w j) : (flp w j).count 0 + w.count 0 + 1 = (flp w j).count 1 + w.count 1 - 1 ∧ (flp w j).count 0 + (flp w j).count 1 = w.count 0 + w.count 1 ∧ 1 ≤ w.count 1 := by
  have bt : Bits (w.take j) := fun x hx => hb x (List.mem_of_mem_take hx)
  have bd : Bits (w.drop j) := fun x hx => hb x (List.mem_of_mem_drop hx)
  have e := h.2.1
  rw [hend_cnt _ 0 bt] at e
  have f := cnt_flip bd
  have w0 : w.count 0 = (w.take j).count 0 + (w.drop j).count 0 := by rw [← List.count_append, List.take_append_drop]
  have w1 : w.count 1 = (w.take j).count 1 + (w.drop j).count 1 := by rw [← List.count_append, List.take_append_drop]
  have g0 : (flp w j).count 0 = (w.take j).count 0 + (w.drop j).count 1 := by rw [flp, List.count_append, f.1]
  have g1 : (flp w j).count 1 = (w.take j).count 1 + (w.drop j).count 0 := by rw [flp, List.count_append, f.2]
  omega
theorem low_ex {w : List Int} (hb : Bits w) (h : w.count 0 < w.count 1) : ∃ j, Low w j := by
  rcases low_or w with h1 | h1
  · exact h1
  · have := (above w 0 hb (by omega) h1).2
    rw [hend_cnt w 0 hb] at this
    omega
end Ev

set_option Elab.async false
set_option linter.all false
set_option maxRecDepth 100000
set_option autoImplicit false
set_option maxHeartbeats 4000000
/-! V25: the law of rows turned over. -/
namespace Ev
open PySem L2
theorem min_I {w : List Int} (h : w ≠ []) : p1F .min (.list (w.map .int)) = some (.int (minI w)) := by
  show (toInts (w.map PyData.int)).bind _ = _
  rw [toI]
  show (if w = [] then none else some (PyData.int (minI w))) = _
  rw [if_neg h]
theorem told_there {v : D} : s_law_told_4 (.str "there") v = (s_reflected v).fold Rs.no ((fun x => if x.cls = 0 then Rs.ok (.none : D) else Rs.no)) fun d1 => Rs.ok d1 := by
  have e : cmpF .eq (PyData.str "there") (PyData.str "there") = some true := by kernel_rfl
  unfold s_law_told_4
  rw [e]
  rfl
theorem told_back {v : D} : s_law_told_4 (.str "back") v = (s_reflected_back v).fold Rs.no ((fun x => if x.cls = 0 then Rs.ok (.none : D) else Rs.no)) fun d1 => Rs.ok d1 := by
  have e : cmpF .eq (PyData.str "back") (PyData.str "there") = some false := by kernel_rfl
  unfold s_law_told_4
  rw [e]
  rfl
def zo (a b : Nat) : List Int := List.replicate a 0 ++ List.replicate b 1
theorem zo_1 : ∀ j, j < 7 → ((Rs.lift (binF .mul (PyData.list [(PyData.int 0)]) (.int (1 + (j : Nat))))).bnd fun x8 => (Rs.lift (binF .mul (PyData.list [(PyData.int 1)]) (.int (1 + (j : Nat))))).bnd fun x9 => Rs.lift (binF .add x8 x9)) = .ok (.list ((zo (j + 1) (j + 1)).map .int))
  | 0, _ => by kernel_rfl
  | 1, _ => by kernel_rfl
  | 2, _ => by kernel_rfl
  | 3, _ => by kernel_rfl
  | 4, _ => by kernel_rfl
  | 5, _ => by kernel_rfl
  | 6, _ => by kernel_rfl
  | n + 7, h => by omega
theorem zo_2 : ∀ j, j < 7 → (((Rs.lift (binF .sub (.int (1 + (j : Nat))) (PyData.int 1))).bnd fun x17 => Rs.lift (binF .mul (PyData.list [(PyData.int 0)]) x17)).bnd fun x18 => ((Rs.lift (binF .add (.int (1 + (j : Nat))) (PyData.int 1))).bnd fun x19 => Rs.lift (binF .mul (PyData.list [(PyData.int 1)]) x19)).bnd fun x20 => Rs.lift (binF .add x18 x20)) = .ok (.list ((zo j (j + 2)).map .int))
  | 0, _ => by kernel_rfl
  | 1, _ => by kernel_rfl
  | 2, _ => by kernel_rfl
  | 3, _ => by kernel_rfl
  | 4, _ => by kernel_rfl
  | 5, _ => by kernel_rfl
  | 6, _ => by kernel_rfl
  | n + 7, h => by omega
theorem zo_bits {a b : Nat} {w : List Int} (h : w.Perm (zo a b)) : Bits w ∧ w.count 0 = a ∧ w.count 1 = b ∧ w.length = a + b := by
  refine ⟨fun x hx => ?_, ?_, ?_, ?_⟩
  · have := h.mem_iff.mp hx
    simp only [zo, List.mem_append, List.mem_replicate] at this
    omega
  · rw [h.count_eq]; simp [zo, List.count_replicate]
  · rw [h.count_eq]; simp [zo, List.count_replicate]
  · rw [h.length_eq]; simp [zo]
theorem small_ok : ∀ j, j < 9 → ((((Rs.lift (binF .mul (PyData.int 2) (.int (1 + (j : Nat))))).bnd fun d2 => s_choose d2 (.int (1 + (j : Nat)))).bnd fun x2 => ((Rs.lift (binF .mul (PyData.int 2) (.int (1 + (j : Nat))))).bnd fun d3 => (Rs.lift (binF .add (.int (1 + (j : Nat))) (PyData.int 1))).bnd fun d4 => s_choose d3 d4).bnd fun x3 => Rs.lift (binF .sub x2 x3)).bnd fun x4 => (s_catalan (.int (1 + (j : Nat)))).bnd fun x5 => (Rs.lift (cmpF .eq x4 x5)).bnd fun b1 => Rs.ok (PyData.bool b1)) = .ok (.bool true)
  | 0, _ => by kernel_rfl
  | 1, _ => by kernel_rfl
  | 2, _ => by kernel_rfl
  | 3, _ => by kernel_rfl
  | 4, _ => by kernel_rfl
  | 5, _ => by kernel_rfl
  | 6, _ => by kernel_rfl
  | 7, _ => by kernel_rfl
  | 8, _ => by kernel_rfl
  | n + 9, h => by omega
def Bad (v : D) : Prop := s_law_told_4 (.str "there") v = .ok .none ∧ s_law_told_4 (.str "back") v = .ok .none
theorem bad_more {w : List Int} (hb : Bits w) (hl : w.length ≤ 900) (hc : w.count 0 = w.count 1) : Bad (tI (w ++ [0])) := by
  have b2 : Bits (w ++ [0]) := fun x hx => by
    rcases List.mem_append.mp hx with h | h
    · exact hb x h
    · rw [List.mem_singleton.mp h]; omega
  refine ⟨?_, ?_⟩
  · rw [told_there, reflected_odd b2 (by simp; omega) (by simp [List.count_cons]; omega)]
    rfl
  · rw [told_back, back_odd b2 (by simp; omega) (by simp [List.count_cons]; omega)]
    rfl
theorem bad_list {ds : List D} : Bad (.list ds) := ⟨by rw [told_there]; rfl, by rw [told_back]; rfl⟩
theorem bad_none : Bad .none := ⟨by kernel_rfl, by kernel_rfl⟩
theorem bad_20 : Bad (.tuple [.int 2, .int 0]) := ⟨by kernel_rfl, by kernel_rfl⟩
theorem bad_01 : Bad (.tuple [.int 0, .int 1]) := ⟨by kernel_rfl, by kernel_rfl⟩
theorem turn25 (next brk : List D → Prop) {p x : D} (hp : PoolD p) (nx : ∀ p', PoolD p' → next [p']) : m_law_25_l1_g0 clpS next brk p x := by
  unfold m_law_25_l1_g0 m_law_25_l1_s0
  refine clpS_draw hp (by decide) (by decide) fun j p1 hp1 hj => ?_
  have hj : j < 7 := by omega
  simp (config := dc) only [b_add, kop_some]
  unfold m_law_25_l1_g1 m_law_25_l1_s1
  rw [zo_1 j hj]
  simp (config := dc) only [fold_ok]
  refine clpS_shuf hp1 (by simp [zo]; omega) fun w p2 hp2 hw => ?_
  obtain ⟨hb, c0, c1, wl⟩ := zo_bits hw
  simp (config := dc) only [tup_l, kop_some]
  show m_law_25_l1_g2 clpS next brk p2 x (.int (1 + (j : Nat))) (tI w)
  have hc : w.count 0 = w.count 1 := by omega
  have hl : w.length ≤ 900 := by omega
  have hl1 : w.length ≤ 1000 := by omega
  unfold m_law_25_l1_g2 m_law_25_l1_s2
  have hne : hts 0 w ≠ [] := by intro h; have := hts_len w 0; rw [h] at this; simp at this
  simp (config := dc) only [law_heights_ok (show w.length ≤ 10000 by omega) hb, bnd_ok, min_I hne, lift_some, c_lt, fold_ok]
  -- is a height below?
  have bad : (∃ j, Low w j ∧ decide (minI (hts 0 w) < 0) = true) ∨ (NoLow w ∧ decide (minI (hts 0 w) < 0) = false) := by
    rcases low_or w with ⟨j, h⟩ | h
    · refine .inl ⟨j, h, decide_eq_true ?_⟩
      have : (-1 : Int) ∈ hts 0 w := by
        have := hts_nth w 0 j h.1
        rw [h.2.1] at this
        exact List.mem_of_getElem? this
      have := (minI_spec hne).2 _ this
      omega
    · refine .inr ⟨h, decide_eq_false ?_⟩
      have := (above w 0 hb (by omega) h).1 _ (minI_spec hne).1
      omega
  have sm : ∀ {u : List Int}, u.length ≤ 1000 → s_law_same 30 (tI u) (tI u) = .ok (.bool true) := fun {u} hu => same_ok (k := 1000) (m := 3) (by decide) (by decide) (fit_i hu)
  have sm0 : s_law_same 30 .none .none = .ok (.bool true) := by kernel_rfl
  have step : ∀ b : Bool, decide (minI (hts 0 w) < 0) = b → m_law_25_l1_g5 clpS next brk p2 x (.int (1 + (j : Nat))) (tI w) (.bool b) → m_law_25_l1_g3 clpS next brk p2 x (.int (1 + (j : Nat))) (tI w) (.bool b) := fun b hbd g => by
    unfold m_law_25_l1_g3 m_law_25_l1_s3
    rcases bad with ⟨i, h, e⟩ | ⟨h, e⟩
    · rw [hbd] at e
      subst e
      have fl := flp_cnt hb h
      have li : (flp w i).length ≤ 1000 := by rw [flp_len h.1]; exact hl1
      rw [told_there, reflected_ok hb hl1 hc h]
      simp (config := dc) only [fold_ok, bnd_ok, asBs_bool, cond_true, law_reflected_ok hb hl1 h, sm li, Bool.not_true, cond_false]
      unfold m_law_25_l1_g4 m_law_25_l1_s4
      simp (config := dc) only [asBs_bool, bnd_ok, cond_true, reflected_ok hb hl1 hc h, back_ok (flp_bits (j := i) hb) li (by omega) (flp_low h), flp_flp h.1, sm hl1, Bool.not_true, fold_ok, cond_false]
      exact g
    · rw [hbd] at e
      subst e
      rw [told_there, reflected_no hb hl1 hc h]
      have ft : (Rs.ex (α := D) ⟨0, []⟩).fold Rs.no ((fun x => if x.cls = 0 then Rs.ok (.none : D) else Rs.no)) (fun d1 => Rs.ok d1) = Rs.ok .none := rfl
      rw [ft]
      simp (config := dc) only [fold_ok, bnd_ok, asBs_bool, cond_false, sm0, Bool.not_true]
      unfold m_law_25_l1_g4 m_law_25_l1_s4
      simp (config := dc) only [asBs_bool, bnd_ok, cond_false, fold_ok]
      exact g
  refine step _ rfl ?_
  clear step bad
  generalize decide (minI (hts 0 w) < 0) = b
  unfold m_law_25_l1_g5 m_law_25_l1_s5
  rw [zo_2 j hj]
  simp (config := dc) only [fold_ok]
  refine clpS_shuf hp2 (by simp [zo]; omega) fun o p3 hp3 ho => ?_
  obtain ⟨ob, o0, o1, ol⟩ := zo_bits ho
  simp (config := dc) only [tup_l, kop_some]
  show m_law_25_l1_g6 clpS next brk p3 x (.int (1 + (j : Nat))) (tI w) (.bool b) (tI o)
  obtain ⟨i, h⟩ := low_ex ob (by omega)
  have fl := flp_cnt ob h
  have lo : o.length ≤ 1000 := by omega
  have li : (flp o i).length ≤ 1000 := by rw [flp_len h.1]; exact lo
  have sm2 : s_law_same 30 (.list [tI (flp o i), tI o]) (.list [tI (flp o i), tI o]) = .ok (.bool true) := by
    refine same_ok (k := 1000) (m := 3) (by decide) (by decide) (fit_lst (by simp) fun y hy => ?_)
    simp only [List.mem_cons, List.not_mem_nil, or_false] at hy
    rcases hy with rfl | rfl
    · exact fit_i li
    · exact fit_i lo
  unfold m_law_25_l1_g6 m_law_25_l1_s6
  simp (config := dc) only [back_ok ob lo (by omega) h, bnd_ok, reflected_ok (flp_bits (j := i) ob) li (by omega) (flp_low h), flp_flp h.1, law_reflected_ok ob lo h, sm2, asBs_bool, Bool.not_true, fold_ok, cond_false]
  unfold m_law_25_l1_g7 m_law_25_l1_s7 m_law_25_l1_g8 m_law_25_l1_s8
  have ad : binF .add (tI w) (.tuple [.int 0]) = some (tI (w ++ [0])) := by
    rw [add_tup (by simp; omega), tI, List.map_append]
    rfl
  have li2 : p1F .list (tI w) = some (.list (w.map .int)) := rfl
  simp (config := dc) only [ad, li2, lift_some, fold_ok, seq_t, kop_some]
  refine forK_inv (fun s => s = [p3, tI w]) rfl ?_ ?_
  · rintro y hy s nx' bk' rfl hn _
    have hbad : Bad y := by
      simp only [List.mem_cons, List.not_mem_nil, or_false] at hy
      rcases hy with rfl | rfl | rfl | rfl | rfl
      · exact bad_more hb hl hc
      · exact bad_list
      · exact bad_none
      · exact bad_20
      · exact bad_01
    have q := hn _ rfl
    show m_law_25_l1_l8_g0 clpS nx' bk' p3 (tI w) y
    unfold m_law_25_l1_l8_g0 m_law_25_l1_l8_s0
    rw [hbad.1, hbad.2]
    simp (config := dc) only [bnd_ok, isN_none, Bool.not_true, asBs_bool, cond_false, fold_ok]
    exact q
  · rintro s rfl
    exact nx p3 hp3
theorem main_law_25 {ns : List Int} (hl : ns.length ≤ 63) {P : D} (hP : PoolD P) : m_law_25 (.list (ns.map PyData.int)) P := by
  unfold m_law_25 m_law_25_g0 m_law_25_s0 m_law_25_g1 m_law_25_s1
  rw [rng1_i (by decide) (by decide)]
  simp (config := dc) only [lift_some, fold_ok]
  refine forK_inv (fun s => ∃ p, s = [p] ∧ PoolD p) ⟨P, rfl, hP⟩ ?_ ?_
  · rintro x hx s next brk ⟨p, rfl, hp⟩ nx _
    show m_law_25_l1_g0 clpS next brk p x
    exact turn25 next brk hp fun p' hp' => nx _ ⟨p', rfl, hp'⟩
  · rintro s ⟨p, rfl, hp⟩
    show m_law_25_g2 clpS p
    unfold m_law_25_g2 m_law_25_s2
    refine clpS_draw hp (by decide) (by decide) fun j p1 hp1 hj => ?_
    simp (config := dc) only [b_add, kop_some]
    unfold m_law_25_g3 m_law_25_s3
    rw [small_ok j (by omega)]
    rfl
end Ev

set_option maxHeartbeats 0
namespace Ev.Law
open PySem L2 PySem.Spec PyProof.Rows Ev
def top (i : Nat) : Stmt := PySem.Challenge.pw_everycatalan_k25_whole_rows_reflected.main.body.getD i (.Pass ⟨0, 0, 0, 0⟩)
def tbl : List (Nat × Fn) := [(3, K_first_true), (4, K_heights), (17, I_law_is_integer), (18, I_law_same), (20, I_law_spread), (21, I_law_draw), (22, I_law_pick), (23, I_law_bent), (24, I_law_booled), (25, I_law_listed), (26, I_law_odd_values), (28, K_law_least), (30, I_law_swapped), (31, I_law_changed), (32, K_law_heights), (34, I_law_brackets), (38, I_law_bends), (40, I_law_pool_2), (188, I_law_shuffled), (224, K_choose), (225, K_catalan), (331, K_must_be), (332, K_is_signs), (339, K_reflected), (340, K_reflected_back), (341, K_law_reflected), (342, K_law_told_4), (343, K_law_25)]
def tb (n : Nat) : Option Fn := tbl.lookup n
def fuel : Nat := 125
def ow (n : Nat) : Bool := [40].contains n
def T : Tab := ⟨[(("_law_draw" : Str), 21), (("_law_heights" : Str), 32), (("_law_least" : Str), 28), (("_law_pool" : Str), 40), (("_law_reflected" : Str), 341), (("_law_same" : Str), 18), (("_law_shuffled" : Str), 188), (("_law_spread" : Str), 20), (("_law_told" : Str), 342), (("catalan" : Str), 225), (("choose" : Str), 224), (("first_true" : Str), 3), (("heights" : Str), 4), (("is_signs" : Str), 332), (("law" : Str), 343), (("must_be" : Str), 331), (("reflected" : Str), 339), (("reflected_back" : Str), 340)], [], ["all", "bool", "int", "isinstance", "len", "list", "min", "range", "str", "tuple"], ["NotAllowed"]⟩
theorem chk_law_25 : chkDef T K_law_25 (top 25) = true := by decide +kernel
theorem chk_law_pool_2 : chkDef T I_law_pool_2 (top 17) = true := by decide +kernel
theorem chk_law_draw : chkDef T I_law_draw (top 19) = true := by decide +kernel
theorem chk_law_spread : chkDef T I_law_spread (top 18) = true := by decide +kernel
theorem chk_catalan : chkDef T K_catalan (top 14) = true := by decide +kernel
theorem chk_choose : chkDef T K_choose (top 13) = true := by decide +kernel
theorem chk_law_shuffled : chkDef T I_law_shuffled (top 20) = true := by decide +kernel
theorem chk_law_same : chkDef T I_law_same (top 16) = true := by decide +kernel
theorem chk_law_heights : chkDef T K_law_heights (top 22) = true := by decide +kernel
theorem chk_law_told_4 : chkDef T K_law_told_4 (top 24) = true := by decide +kernel
theorem chk_reflected : chkDef T K_reflected (top 10) = true := by decide +kernel
theorem chk_must_be : chkDef T K_must_be (top 8) = true := by decide +kernel
theorem chk_first_true : chkDef T K_first_true (top 1) = true := by decide +kernel
theorem chk_is_signs : chkDef T K_is_signs (top 9) = true := by decide +kernel
theorem chk_heights : chkDef T K_heights (top 3) = true := by decide +kernel
theorem chk_reflected_back : chkDef T K_reflected_back (top 11) = true := by decide +kernel
theorem chk_law_reflected : chkDef T K_law_reflected (top 23) = true := by decide +kernel
theorem chk_law_least : chkDef T K_law_least (top 21) = true := by decide +kernel
section
variable {K : PySem.W.Frag} {h : Heap} {mg : Str → Option Value}
theorem d__law_draw {f : Addr} {oc : Value} {od an : Option Addr} {osl : Array (Option Value)} {kV doc pm cdv ct : Value} (X : K.In h) (G : h.Ns mainGlobals mg) (a : PySem.W.nsIn K mainGlobals "_law_draw" = some (some (.ref f))) (l : K.lookup f = some ⟨oc, od, .func (PySem.W.fnOf "_law_draw" "_law_draw" (defArgs (top 19)) (defBody (top 19)) (defScope (top 19)) .none kV doc pm an cdv ct), osl⟩) (c : PySem.W.codeIn K cdv "_law_draw" = true) (k : PySem.W.keepIn K (.ref f) = true) : Good K mg T tb ("_law_draw", 21) :=
  ⟨top 19, I_law_draw, rfl, defK_mk X G a l c k (fun _ _ _ _ _ _ us hl => match us, hl with | [_, _], _ => rfl), chk_law_draw⟩
theorem d__law_heights {f : Addr} {oc : Value} {od an : Option Addr} {osl : Array (Option Value)} {kV doc pm cdv ct : Value} (X : K.In h) (G : h.Ns mainGlobals mg) (a : PySem.W.nsIn K mainGlobals "_law_heights" = some (some (.ref f))) (l : K.lookup f = some ⟨oc, od, .func (PySem.W.fnOf "_law_heights" "_law_heights" (defArgs (top 22)) (defBody (top 22)) (defScope (top 22)) .none kV doc pm an cdv ct), osl⟩) (c : PySem.W.codeIn K cdv "_law_heights" = true) (k : PySem.W.keepIn K (.ref f) = true) : Good K mg T tb ("_law_heights", 32) :=
  ⟨top 22, K_law_heights, rfl, defK_mk X G a l c k (fun _ _ _ _ _ _ us hl => match us, hl with | [_], _ => rfl), chk_law_heights⟩
theorem d__law_least {f : Addr} {oc : Value} {od an : Option Addr} {osl : Array (Option Value)} {kV doc pm cdv ct : Value} (X : K.In h) (G : h.Ns mainGlobals mg) (a : PySem.W.nsIn K mainGlobals "_law_least" = some (some (.ref f))) (l : K.lookup f = some ⟨oc, od, .func (PySem.W.fnOf "_law_least" "_law_least" (defArgs (top 21)) (defBody (top 21)) (defScope (top 21)) .none kV doc pm an cdv ct), osl⟩) (c : PySem.W.codeIn K cdv "_law_least" = true) (k : PySem.W.keepIn K (.ref f) = true) : Good K mg T tb ("_law_least", 28) :=
  ⟨top 21, K_law_least, rfl, defK_mk X G a l c k (fun _ _ _ _ _ _ us hl => match us, hl with | [_], _ => rfl), chk_law_least⟩
theorem d__law_pool {f : Addr} {oc : Value} {od an : Option Addr} {osl : Array (Option Value)} {kV doc pm cdv ct : Value} (X : K.In h) (G : h.Ns mainGlobals mg) (a : PySem.W.nsIn K mainGlobals "_law_pool" = some (some (.ref f))) (l : K.lookup f = some ⟨oc, od, .func (PySem.W.fnOf "_law_pool" "_law_pool" (defArgs (top 17)) (defBody (top 17)) (defScope (top 17)) .none kV doc pm an cdv ct), osl⟩) (c : PySem.W.codeIn K cdv "_law_pool" = true) (k : PySem.W.keepIn K (.ref f) = true) : Good K mg T tb ("_law_pool", 40) :=
  ⟨top 17, I_law_pool_2, rfl, defK_mk X G a l c k (fun _ _ _ _ _ _ us hl => match us, hl with | [_], _ => rfl), chk_law_pool_2⟩
theorem d__law_reflected {f : Addr} {oc : Value} {od an : Option Addr} {osl : Array (Option Value)} {kV doc pm cdv ct : Value} (X : K.In h) (G : h.Ns mainGlobals mg) (a : PySem.W.nsIn K mainGlobals "_law_reflected" = some (some (.ref f))) (l : K.lookup f = some ⟨oc, od, .func (PySem.W.fnOf "_law_reflected" "_law_reflected" (defArgs (top 23)) (defBody (top 23)) (defScope (top 23)) .none kV doc pm an cdv ct), osl⟩) (c : PySem.W.codeIn K cdv "_law_reflected" = true) (k : PySem.W.keepIn K (.ref f) = true) : Good K mg T tb ("_law_reflected", 341) :=
  ⟨top 23, K_law_reflected, rfl, defK_mk X G a l c k (fun _ _ _ _ _ _ us hl => match us, hl with | [_], _ => rfl), chk_law_reflected⟩
theorem d__law_same {f : Addr} {oc : Value} {od an : Option Addr} {osl : Array (Option Value)} {kV doc pm cdv ct : Value} (X : K.In h) (G : h.Ns mainGlobals mg) (a : PySem.W.nsIn K mainGlobals "_law_same" = some (some (.ref f))) (l : K.lookup f = some ⟨oc, od, .func (PySem.W.fnOf "_law_same" "_law_same" (defArgs (top 16)) (defBody (top 16)) (defScope (top 16)) .none kV doc pm an cdv ct), osl⟩) (c : PySem.W.codeIn K cdv "_law_same" = true) (k : PySem.W.keepIn K (.ref f) = true) : Good K mg T tb ("_law_same", 18) :=
  ⟨top 16, I_law_same, rfl, defK_mk X G a l c k (fun _ _ _ _ _ _ us hl => match us, hl with | [_, _], _ => rfl), chk_law_same⟩
theorem d__law_shuffled {f : Addr} {oc : Value} {od an : Option Addr} {osl : Array (Option Value)} {kV doc pm cdv ct : Value} (X : K.In h) (G : h.Ns mainGlobals mg) (a : PySem.W.nsIn K mainGlobals "_law_shuffled" = some (some (.ref f))) (l : K.lookup f = some ⟨oc, od, .func (PySem.W.fnOf "_law_shuffled" "_law_shuffled" (defArgs (top 20)) (defBody (top 20)) (defScope (top 20)) .none kV doc pm an cdv ct), osl⟩) (c : PySem.W.codeIn K cdv "_law_shuffled" = true) (k : PySem.W.keepIn K (.ref f) = true) : Good K mg T tb ("_law_shuffled", 188) :=
  ⟨top 20, I_law_shuffled, rfl, defK_mk X G a l c k (fun _ _ _ _ _ _ us hl => match us, hl with | [_, _], _ => rfl), chk_law_shuffled⟩
theorem d__law_spread {f : Addr} {oc : Value} {od an : Option Addr} {osl : Array (Option Value)} {kV doc pm cdv ct : Value} (X : K.In h) (G : h.Ns mainGlobals mg) (a : PySem.W.nsIn K mainGlobals "_law_spread" = some (some (.ref f))) (l : K.lookup f = some ⟨oc, od, .func (PySem.W.fnOf "_law_spread" "_law_spread" (defArgs (top 18)) (defBody (top 18)) (defScope (top 18)) .none kV doc pm an cdv ct), osl⟩) (c : PySem.W.codeIn K cdv "_law_spread" = true) (k : PySem.W.keepIn K (.ref f) = true) : Good K mg T tb ("_law_spread", 20) :=
  ⟨top 18, I_law_spread, rfl, defK_mk X G a l c k (fun _ _ _ _ _ _ us hl => match us, hl with | [_], _ => rfl), chk_law_spread⟩
theorem d__law_told {f : Addr} {oc : Value} {od an : Option Addr} {osl : Array (Option Value)} {kV doc pm cdv ct : Value} (X : K.In h) (G : h.Ns mainGlobals mg) (a : PySem.W.nsIn K mainGlobals "_law_told" = some (some (.ref f))) (l : K.lookup f = some ⟨oc, od, .func (PySem.W.fnOf "_law_told" "_law_told" (defArgs (top 24)) (defBody (top 24)) (defScope (top 24)) .none kV doc pm an cdv ct), osl⟩) (c : PySem.W.codeIn K cdv "_law_told" = true) (k : PySem.W.keepIn K (.ref f) = true) : Good K mg T tb ("_law_told", 342) :=
  ⟨top 24, K_law_told_4, rfl, defK_mk X G a l c k (fun _ _ _ _ _ _ us hl => match us, hl with | [_, _], _ => rfl), chk_law_told_4⟩
theorem d_catalan {f : Addr} {oc : Value} {od an : Option Addr} {osl : Array (Option Value)} {kV doc pm cdv ct : Value} (X : K.In h) (G : h.Ns mainGlobals mg) (a : PySem.W.nsIn K mainGlobals "catalan" = some (some (.ref f))) (l : K.lookup f = some ⟨oc, od, .func (PySem.W.fnOf "catalan" "catalan" (defArgs (top 14)) (defBody (top 14)) (defScope (top 14)) .none kV doc pm an cdv ct), osl⟩) (c : PySem.W.codeIn K cdv "catalan" = true) (k : PySem.W.keepIn K (.ref f) = true) : Good K mg T tb ("catalan", 225) :=
  ⟨top 14, K_catalan, rfl, defK_mk X G a l c k (fun _ _ _ _ _ _ us hl => match us, hl with | [_], _ => rfl), chk_catalan⟩
theorem d_choose {f : Addr} {oc : Value} {od an : Option Addr} {osl : Array (Option Value)} {kV doc pm cdv ct : Value} (X : K.In h) (G : h.Ns mainGlobals mg) (a : PySem.W.nsIn K mainGlobals "choose" = some (some (.ref f))) (l : K.lookup f = some ⟨oc, od, .func (PySem.W.fnOf "choose" "choose" (defArgs (top 13)) (defBody (top 13)) (defScope (top 13)) .none kV doc pm an cdv ct), osl⟩) (c : PySem.W.codeIn K cdv "choose" = true) (k : PySem.W.keepIn K (.ref f) = true) : Good K mg T tb ("choose", 224) :=
  ⟨top 13, K_choose, rfl, defK_mk X G a l c k (fun _ _ _ _ _ _ us hl => match us, hl with | [_, _], _ => rfl), chk_choose⟩
theorem d_first_true {f : Addr} {oc : Value} {od an : Option Addr} {osl : Array (Option Value)} {kV doc pm cdv ct : Value} (X : K.In h) (G : h.Ns mainGlobals mg) (a : PySem.W.nsIn K mainGlobals "first_true" = some (some (.ref f))) (l : K.lookup f = some ⟨oc, od, .func (PySem.W.fnOf "first_true" "first_true" (defArgs (top 1)) (defBody (top 1)) (defScope (top 1)) .none kV doc pm an cdv ct), osl⟩) (c : PySem.W.codeIn K cdv "first_true" = true) (k : PySem.W.keepIn K (.ref f) = true) : Good K mg T tb ("first_true", 3) :=
  ⟨top 1, K_first_true, rfl, defK_mk X G a l c k (fun _ _ _ _ _ _ us hl => match us, hl with | [_], _ => rfl), chk_first_true⟩
theorem d_heights {f : Addr} {oc : Value} {od an : Option Addr} {osl : Array (Option Value)} {kV doc pm cdv ct : Value} (X : K.In h) (G : h.Ns mainGlobals mg) (a : PySem.W.nsIn K mainGlobals "heights" = some (some (.ref f))) (l : K.lookup f = some ⟨oc, od, .func (PySem.W.fnOf "heights" "heights" (defArgs (top 3)) (defBody (top 3)) (defScope (top 3)) .none kV doc pm an cdv ct), osl⟩) (c : PySem.W.codeIn K cdv "heights" = true) (k : PySem.W.keepIn K (.ref f) = true) : Good K mg T tb ("heights", 4) :=
  ⟨top 3, K_heights, rfl, defK_mk X G a l c k (fun _ _ _ _ _ _ us hl => match us, hl with | [_], _ => rfl), chk_heights⟩
theorem d_is_signs {f : Addr} {oc : Value} {od an : Option Addr} {osl : Array (Option Value)} {kV doc pm cdv ct : Value} (X : K.In h) (G : h.Ns mainGlobals mg) (a : PySem.W.nsIn K mainGlobals "is_signs" = some (some (.ref f))) (l : K.lookup f = some ⟨oc, od, .func (PySem.W.fnOf "is_signs" "is_signs" (defArgs (top 9)) (defBody (top 9)) (defScope (top 9)) .none kV doc pm an cdv ct), osl⟩) (c : PySem.W.codeIn K cdv "is_signs" = true) (k : PySem.W.keepIn K (.ref f) = true) : Good K mg T tb ("is_signs", 332) :=
  ⟨top 9, K_is_signs, rfl, defK_mk X G a l c k (fun _ _ _ _ _ _ us hl => match us, hl with | [_], _ => rfl), chk_is_signs⟩
theorem d_law {f : Addr} {oc : Value} {od an : Option Addr} {osl : Array (Option Value)} {kV doc pm cdv ct : Value} (X : K.In h) (G : h.Ns mainGlobals mg) (a : PySem.W.nsIn K mainGlobals "law" = some (some (.ref f))) (l : K.lookup f = some ⟨oc, od, .func (PySem.W.fnOf "law" "law" (defArgs (top 25)) (defBody (top 25)) (defScope (top 25)) .none kV doc pm an cdv ct), osl⟩) (c : PySem.W.codeIn K cdv "law" = true) (k : PySem.W.keepIn K (.ref f) = true) : Good K mg T tb ("law", 343) :=
  ⟨top 25, K_law_25, rfl, defK_mk X G a l c k (fun _ _ _ _ _ _ us hl => match us, hl with | [_], _ => rfl), chk_law_25⟩
theorem d_must_be {f : Addr} {oc : Value} {od an : Option Addr} {osl : Array (Option Value)} {kV doc pm cdv ct : Value} (X : K.In h) (G : h.Ns mainGlobals mg) (a : PySem.W.nsIn K mainGlobals "must_be" = some (some (.ref f))) (l : K.lookup f = some ⟨oc, od, .func (PySem.W.fnOf "must_be" "must_be" (defArgs (top 8)) (defBody (top 8)) (defScope (top 8)) .none kV doc pm an cdv ct), osl⟩) (c : PySem.W.codeIn K cdv "must_be" = true) (k : PySem.W.keepIn K (.ref f) = true) : Good K mg T tb ("must_be", 331) :=
  ⟨top 8, K_must_be, rfl, defK_mk X G a l c k (fun _ _ _ _ _ _ us hl => match us, hl with | [_], _ => rfl), chk_must_be⟩
theorem d_reflected {f : Addr} {oc : Value} {od an : Option Addr} {osl : Array (Option Value)} {kV doc pm cdv ct : Value} (X : K.In h) (G : h.Ns mainGlobals mg) (a : PySem.W.nsIn K mainGlobals "reflected" = some (some (.ref f))) (l : K.lookup f = some ⟨oc, od, .func (PySem.W.fnOf "reflected" "reflected" (defArgs (top 10)) (defBody (top 10)) (defScope (top 10)) .none kV doc pm an cdv ct), osl⟩) (c : PySem.W.codeIn K cdv "reflected" = true) (k : PySem.W.keepIn K (.ref f) = true) : Good K mg T tb ("reflected", 339) :=
  ⟨top 10, K_reflected, rfl, defK_mk X G a l c k (fun _ _ _ _ _ _ us hl => match us, hl with | [_], _ => rfl), chk_reflected⟩
theorem d_reflected_back {f : Addr} {oc : Value} {od an : Option Addr} {osl : Array (Option Value)} {kV doc pm cdv ct : Value} (X : K.In h) (G : h.Ns mainGlobals mg) (a : PySem.W.nsIn K mainGlobals "reflected_back" = some (some (.ref f))) (l : K.lookup f = some ⟨oc, od, .func (PySem.W.fnOf "reflected_back" "reflected_back" (defArgs (top 11)) (defBody (top 11)) (defScope (top 11)) .none kV doc pm an cdv ct), osl⟩) (c : PySem.W.codeIn K cdv "reflected_back" = true) (k : PySem.W.keepIn K (.ref f) = true) : Good K mg T tb ("reflected_back", 340) :=
  ⟨top 11, K_reflected_back, rfl, defK_mk X G a l c k (fun _ _ _ _ _ _ us hl => match us, hl with | [_], _ => rfl), chk_reflected_back⟩
end
theorem e_law_odd_values : ∀ (n : Nat), 1 ≤ n → ∀ ds, Cl (callF tb n) ow 26 ds (u0 s_law_odd_values ds) := fun n h => e_odd rfl (by decide) h
theorem q_choose (a0 a1 : D) : body (clOf []) ow K_choose (ow 224) [a0, a1] = s_choose a0 a1 := by kernel_rfl
theorem e_choose : ∀ (n : Nat), 1 ≤ n → ∀ ds, Cl (callF tb n) ow 224 ds (u2 s_choose ds) := fun n h => by
  obtain ⟨m, rfl⟩ : ∃ m, n = m + 1 := ⟨n - 1, by omega⟩
  exact link2 (fn := K_choose) (cl := clOf []) rfl ⟨rfl, rfl⟩ (Hcl_of (l := []) trivial) q_choose
theorem q_catalan (a0 : D) : body (clOf [(224, u2 s_choose)]) ow K_catalan (ow 225) [a0] = s_catalan a0 := by kernel_rfl
theorem e_catalan : ∀ (n : Nat), 2 ≤ n → ∀ ds, Cl (callF tb n) ow 225 ds (u1 s_catalan ds) := fun n h => by
  obtain ⟨m, rfl⟩ : ∃ m, n = m + 1 := ⟨n - 1, by omega⟩
  exact link1 (fn := K_catalan) (cl := clOf [(224, u2 s_choose)]) rfl ⟨rfl, rfl⟩ (Hcl_of ⟨e_choose m (by omega), trivial⟩) q_catalan
theorem q_law_heights (a0 : D) : body (clOf []) ow K_law_heights (ow 32) [a0] = s_law_heights a0 := by kernel_rfl
theorem e_law_heights : ∀ (n : Nat), 1 ≤ n → ∀ ds, Cl (callF tb n) ow 32 ds (u1 s_law_heights ds) := fun n h => by
  obtain ⟨m, rfl⟩ : ∃ m, n = m + 1 := ⟨n - 1, by omega⟩
  exact link1 (fn := K_law_heights) (cl := clOf []) rfl ⟨rfl, rfl⟩ (Hcl_of (l := []) trivial) q_law_heights
theorem q_is_signs (a0 : D) : body (clOf []) ow K_is_signs (ow 332) [a0] = s_is_signs a0 := by kernel_rfl
theorem e_is_signs : ∀ (n : Nat), 1 ≤ n → ∀ ds, Cl (callF tb n) ow 332 ds (u1 s_is_signs ds) := fun n h => by
  obtain ⟨m, rfl⟩ : ∃ m, n = m + 1 := ⟨n - 1, by omega⟩
  exact link1 (fn := K_is_signs) (cl := clOf []) rfl ⟨rfl, rfl⟩ (Hcl_of (l := []) trivial) q_is_signs
theorem q_must_be (a0 : D) : body (clOf []) ow K_must_be (ow 331) [a0] = s_must_be a0 := by kernel_rfl
theorem e_must_be : ∀ (n : Nat), 1 ≤ n → ∀ ds, Cl (callF tb n) ow 331 ds (u1 s_must_be ds) := fun n h => by
  obtain ⟨m, rfl⟩ : ∃ m, n = m + 1 := ⟨n - 1, by omega⟩
  exact link1 (fn := K_must_be) (cl := clOf []) rfl ⟨rfl, rfl⟩ (Hcl_of (l := []) trivial) q_must_be
theorem q_heights (a0 : D) : body (clOf []) ow K_heights (ow 4) [a0] = s_heights a0 := by kernel_rfl
theorem e_heights : ∀ (n : Nat), 1 ≤ n → ∀ ds, Cl (callF tb n) ow 4 ds (u1 s_heights ds) := fun n h => by
  obtain ⟨m, rfl⟩ : ∃ m, n = m + 1 := ⟨n - 1, by omega⟩
  exact link1 (fn := K_heights) (cl := clOf []) rfl ⟨rfl, rfl⟩ (Hcl_of (l := []) trivial) q_heights
theorem q_first_true (a0 : D) : body (clOf []) ow K_first_true (ow 3) [a0] = s_first_true a0 := by kernel_rfl
theorem e_first_true : ∀ (n : Nat), 1 ≤ n → ∀ ds, Cl (callF tb n) ow 3 ds (u1 s_first_true ds) := fun n h => by
  obtain ⟨m, rfl⟩ : ∃ m, n = m + 1 := ⟨n - 1, by omega⟩
  exact link1 (fn := K_first_true) (cl := clOf []) rfl ⟨rfl, rfl⟩ (Hcl_of (l := []) trivial) q_first_true
theorem q_reflected (a0 : D) : body (clOf [(332, u1 s_is_signs), (331, u1 s_must_be), (4, u1 s_heights), (3, u1 s_first_true)]) ow K_reflected (ow 339) [a0] = s_reflected a0 := by kernel_rfl
theorem e_reflected : ∀ (n : Nat), 2 ≤ n → ∀ ds, Cl (callF tb n) ow 339 ds (u1 s_reflected ds) := fun n h => by
  obtain ⟨m, rfl⟩ : ∃ m, n = m + 1 := ⟨n - 1, by omega⟩
  exact link1 (fn := K_reflected) (cl := clOf [(332, u1 s_is_signs), (331, u1 s_must_be), (4, u1 s_heights), (3, u1 s_first_true)]) rfl ⟨rfl, rfl⟩ (Hcl_of ⟨e_is_signs m (by omega), e_must_be m (by omega), e_heights m (by omega), e_first_true m (by omega), trivial⟩) q_reflected
theorem q_reflected_back (a0 : D) : body (clOf [(332, u1 s_is_signs), (331, u1 s_must_be), (4, u1 s_heights), (3, u1 s_first_true)]) ow K_reflected_back (ow 340) [a0] = s_reflected_back a0 := by kernel_rfl
theorem e_reflected_back : ∀ (n : Nat), 2 ≤ n → ∀ ds, Cl (callF tb n) ow 340 ds (u1 s_reflected_back ds) := fun n h => by
  obtain ⟨m, rfl⟩ : ∃ m, n = m + 1 := ⟨n - 1, by omega⟩
  exact link1 (fn := K_reflected_back) (cl := clOf [(332, u1 s_is_signs), (331, u1 s_must_be), (4, u1 s_heights), (3, u1 s_first_true)]) rfl ⟨rfl, rfl⟩ (Hcl_of ⟨e_is_signs m (by omega), e_must_be m (by omega), e_heights m (by omega), e_first_true m (by omega), trivial⟩) q_reflected_back
theorem q_law_told_4 (a0 a1 : D) : body (clOf [(339, u1 s_reflected), (340, u1 s_reflected_back)]) ow K_law_told_4 (ow 342) [a0, a1] = s_law_told_4 a0 a1 := by kernel_rfl
theorem e_law_told_4 : ∀ (n : Nat), 3 ≤ n → ∀ ds, Cl (callF tb n) ow 342 ds (u2 s_law_told_4 ds) := fun n h => by
  obtain ⟨m, rfl⟩ : ∃ m, n = m + 1 := ⟨n - 1, by omega⟩
  exact link2 (fn := K_law_told_4) (cl := clOf [(339, u1 s_reflected), (340, u1 s_reflected_back)]) rfl ⟨rfl, rfl⟩ (Hcl_of ⟨e_reflected m (by omega), e_reflected_back m (by omega), trivial⟩) q_law_told_4
theorem q_law_least (a0 : D) : body (clOf []) ow K_law_least (ow 28) [a0] = s_law_least a0 := by kernel_rfl
theorem e_law_least : ∀ (n : Nat), 1 ≤ n → ∀ ds, Cl (callF tb n) ow 28 ds (u1 s_law_least ds) := fun n h => by
  obtain ⟨m, rfl⟩ : ∃ m, n = m + 1 := ⟨n - 1, by omega⟩
  exact link1 (fn := K_law_least) (cl := clOf []) rfl ⟨rfl, rfl⟩ (Hcl_of (l := []) trivial) q_law_least
theorem q_law_reflected (a0 : D) : body (clOf [(32, u1 s_law_heights), (28, u1 s_law_least)]) ow K_law_reflected (ow 341) [a0] = s_law_reflected a0 := by kernel_rfl
theorem e_law_reflected : ∀ (n : Nat), 2 ≤ n → ∀ ds, Cl (callF tb n) ow 341 ds (u1 s_law_reflected ds) := fun n h => by
  obtain ⟨m, rfl⟩ : ∃ m, n = m + 1 := ⟨n - 1, by omega⟩
  exact link1 (fn := K_law_reflected) (cl := clOf [(32, u1 s_law_heights), (28, u1 s_law_least)]) rfl ⟨rfl, rfl⟩ (Hcl_of ⟨e_law_heights m (by omega), e_law_least m (by omega), trivial⟩) q_law_reflected
theorem q_law_same (k : Nat) (a0 a1 : D) : body (clOf [(18, u2 (s_law_same k))]) ow I_law_same (ow 18) [a0, a1] = s_law_same (k + 1) a0 a1 := by kernel_rfl
theorem e_law_same : ∀ (k n : Nat), k + 1 ≤ n → ∀ ds, Cl (callF tb n) ow 18 ds (u2 (s_law_same k) ds)
  | 0, n, _ => cl0_2
  | k + 1, n, h => by
    obtain ⟨m, rfl⟩ : ∃ m, n = m + 1 := ⟨n - 1, by omega⟩
    exact link2 (fn := I_law_same) (cl := clOf [(18, u2 (s_law_same k))]) rfl ⟨rfl, rfl⟩ (Hcl_of ⟨e_law_same k m (by omega), trivial⟩) (q_law_same k)
def clM : Nat → List D → Rs D := clOf [(224, u2 s_choose), (225, u1 s_catalan), (32, u1 s_law_heights), (342, u2 s_law_told_4), (341, u1 s_law_reflected), (18, u2 (s_law_same 30)), (339, u1 s_reflected), (340, u1 s_reflected_back)]
theorem m_law_25_l1_l8_e2 (clp : ClP) (next brk : List D → Prop) (pool22 row14 : D) : kSs False clM clp ow (tlS (tlS (m_law_25_l1_l8b))) (fun ρ2 => if sameK ρ2 [.un, .own .none, .un, .un, .un, .val .none, .un, .un, .un] = true then brk (pay ρ2) else False) (fun e => e = .val (.bool true)) (fun _ _ => False) [.un, .own pool22, .un, .un, .un, .val row14, .un, .un, .un] (fun ρ2 => if sameK ρ2 [.un, .own .none, .un, .un, .un, .val .none, .un, .un, .un] = true then next (pay ρ2) else False) = m_law_25_l1_l8_g2 clp next brk pool22 row14 := by kernel_rfl
theorem m_law_25_l1_l8_q1 (clp : ClP) (next brk : List D → Prop) (pool20 row12 wrong2 : D) : kSs False clM clp ow (tlS (m_law_25_l1_l8b)) (fun ρ2 => if sameK ρ2 [.un, .own .none, .un, .un, .un, .val .none, .un, .un, .un] = true then brk (pay ρ2) else False) (fun e => e = .val (.bool true)) (fun _ _ => False) [.un, .own pool20, .un, .un, .un, .val row12, .un, .un, .val wrong2] (fun ρ2 => if sameK ρ2 [.un, .own .none, .un, .un, .un, .val .none, .un, .un, .un] = true then next (pay ρ2) else False) = m_law_25_l1_l8_s1 clp next brk pool20 row12 wrong2 (fun pool23 row15 => kSs False clM clp ow (tlS (tlS (m_law_25_l1_l8b))) (fun ρ2 => if sameK ρ2 [.un, .own .none, .un, .un, .un, .val .none, .un, .un, .un] = true then brk (pay ρ2) else False) (fun e => e = .val (.bool true)) (fun _ _ => False) [.un, .own pool23, .un, .un, .un, .val row15, .un, .un, .un] (fun ρ2 => if sameK ρ2 [.un, .own .none, .un, .un, .un, .val .none, .un, .un, .un] = true then next (pay ρ2) else False)) := by kernel_rfl
theorem m_law_25_l1_l8_e1 (clp : ClP) (next brk : List D → Prop) (pool20 row12 wrong2 : D) : kSs False clM clp ow (tlS (m_law_25_l1_l8b)) (fun ρ2 => if sameK ρ2 [.un, .own .none, .un, .un, .un, .val .none, .un, .un, .un] = true then brk (pay ρ2) else False) (fun e => e = .val (.bool true)) (fun _ _ => False) [.un, .own pool20, .un, .un, .un, .val row12, .un, .un, .val wrong2] (fun ρ2 => if sameK ρ2 [.un, .own .none, .un, .un, .un, .val .none, .un, .un, .un] = true then next (pay ρ2) else False) = m_law_25_l1_l8_g1 clp next brk pool20 row12 wrong2 := (m_law_25_l1_l8_q1 clp next brk pool20 row12 wrong2).trans (congrArg (m_law_25_l1_l8_s1 clp next brk pool20 row12 wrong2) (funext fun pool23 => funext fun row15 => m_law_25_l1_l8_e2 clp next brk pool23 row15))
theorem m_law_25_l1_l8_q0 (clp : ClP) (next brk : List D → Prop) (pool19 row11 wrong1 : D) : kSs False clM clp ow (m_law_25_l1_l8b) (fun ρ2 => if sameK ρ2 [.un, .own .none, .un, .un, .un, .val .none, .un, .un, .un] = true then brk (pay ρ2) else False) (fun e => e = .val (.bool true)) (fun _ _ => False) [.un, .own pool19, .un, .un, .un, .val row11, .un, .un, .val wrong1] (fun ρ2 => if sameK ρ2 [.un, .own .none, .un, .un, .un, .val .none, .un, .un, .un] = true then next (pay ρ2) else False) = m_law_25_l1_l8_s0 clp next brk pool19 row11 wrong1 (fun pool24 row16 wrong3 => kSs False clM clp ow (tlS (m_law_25_l1_l8b)) (fun ρ2 => if sameK ρ2 [.un, .own .none, .un, .un, .un, .val .none, .un, .un, .un] = true then brk (pay ρ2) else False) (fun e => e = .val (.bool true)) (fun _ _ => False) [.un, .own pool24, .un, .un, .un, .val row16, .un, .un, .val wrong3] (fun ρ2 => if sameK ρ2 [.un, .own .none, .un, .un, .un, .val .none, .un, .un, .un] = true then next (pay ρ2) else False)) := by kernel_rfl
theorem m_law_25_l1_l8_e0 (clp : ClP) (next brk : List D → Prop) (pool19 row11 wrong1 : D) : kSs False clM clp ow (m_law_25_l1_l8b) (fun ρ2 => if sameK ρ2 [.un, .own .none, .un, .un, .un, .val .none, .un, .un, .un] = true then brk (pay ρ2) else False) (fun e => e = .val (.bool true)) (fun _ _ => False) [.un, .own pool19, .un, .un, .un, .val row11, .un, .un, .val wrong1] (fun ρ2 => if sameK ρ2 [.un, .own .none, .un, .un, .un, .val .none, .un, .un, .un] = true then next (pay ρ2) else False) = m_law_25_l1_l8_g0 clp next brk pool19 row11 wrong1 := (m_law_25_l1_l8_q0 clp next brk pool19 row11 wrong1).trans (congrArg (m_law_25_l1_l8_s0 clp next brk pool19 row11 wrong1) (funext fun pool24 => funext fun row16 => funext fun wrong3 => m_law_25_l1_l8_e1 clp next brk pool24 row16 wrong3))
theorem m_law_25_l1_l8ql (clp : ClP) : stepF False (.one 8) [.un, .own .none, .un, .un, .un, .val .none, .un, .un, .un] (fun kb ρ1 kn => kSs False clM clp ow m_law_25_l1_l8b kb (fun e => e = .val (.bool true)) (fun _ _ => False) ρ1 kn) = m_law_25_l1_l8 clp := funext fun s => funext fun x24 => funext fun next => funext fun brk =>
  (show stepF False (.one 8) [.un, .own .none, .un, .un, .un, .val .none, .un, .un, .un] (fun kb ρ1 kn => kSs False clM clp ow m_law_25_l1_l8b kb (fun e => e = .val (.bool true)) (fun _ _ => False) ρ1 kn) s x24 next brk = klist2 False s (fun pool18 row10 => kSs False clM clp ow m_law_25_l1_l8b (fun ρ2 => if sameK ρ2 [.un, .own .none, .un, .un, .un, .val .none, .un, .un, .un] = true then brk (pay ρ2) else False) (fun e => e = .val (.bool true)) (fun _ _ => False) [.un, .own pool18, .un, .un, .un, .val row10, .un, .un, .val x24] (fun ρ2 => if sameK ρ2 [.un, .own .none, .un, .un, .un, .val .none, .un, .un, .un] = true then next (pay ρ2) else False)) from by kernel_rfl).trans (congrArg (klist2 False s) (funext fun pool18 => funext fun row10 => m_law_25_l1_l8_e0 clp next brk pool18 row10 x24))
theorem m_law_25_l1_e10 (clp : ClP) (next brk : List D → Prop) (pool26 : D) : kSs False clM clp ow (tlS (tlS (tlS (tlS (tlS (tlS (tlS (tlS (tlS (tlS (m_law_25_l1b))))))))))) (fun ρ2 => if sameK ρ2 [.un, .own .none, .un, .un, .un, .un, .un, .un, .un] = true then brk (pay ρ2) else False) (fun e => e = .val (.bool true)) (fun _ _ => False) [.un, .own pool26, .un, .un, .un, .un, .un, .un, .un] (fun ρ2 => if sameK ρ2 [.un, .own .none, .un, .un, .un, .un, .un, .un, .un] = true then next (pay ρ2) else False) = m_law_25_l1_g10 clp next brk pool26 := by kernel_rfl
theorem m_law_25_l1_q9 (clp : ClP) (next brk : List D → Prop) (pool17 row9 : D) : kSs False clM clp ow (tlS (tlS (tlS (tlS (tlS (tlS (tlS (tlS (tlS (m_law_25_l1b)))))))))) (fun ρ2 => if sameK ρ2 [.un, .own .none, .un, .un, .un, .un, .un, .un, .un] = true then brk (pay ρ2) else False) (fun e => e = .val (.bool true)) (fun _ _ => False) [.un, .own pool17, .un, .un, .un, .val row9, .un, .un, .un] (fun ρ2 => if sameK ρ2 [.un, .own .none, .un, .un, .un, .un, .un, .un, .un] = true then next (pay ρ2) else False) = m_law_25_l1_s9 clp next brk pool17 row9 (fun pool27 => kSs False clM clp ow (tlS (tlS (tlS (tlS (tlS (tlS (tlS (tlS (tlS (tlS (m_law_25_l1b))))))))))) (fun ρ2 => if sameK ρ2 [.un, .own .none, .un, .un, .un, .un, .un, .un, .un] = true then brk (pay ρ2) else False) (fun e => e = .val (.bool true)) (fun _ _ => False) [.un, .own pool27, .un, .un, .un, .un, .un, .un, .un] (fun ρ2 => if sameK ρ2 [.un, .own .none, .un, .un, .un, .un, .un, .un, .un] = true then next (pay ρ2) else False)) := by kernel_rfl
theorem m_law_25_l1_e9 (clp : ClP) (next brk : List D → Prop) (pool17 row9 : D) : kSs False clM clp ow (tlS (tlS (tlS (tlS (tlS (tlS (tlS (tlS (tlS (m_law_25_l1b)))))))))) (fun ρ2 => if sameK ρ2 [.un, .own .none, .un, .un, .un, .un, .un, .un, .un] = true then brk (pay ρ2) else False) (fun e => e = .val (.bool true)) (fun _ _ => False) [.un, .own pool17, .un, .un, .un, .val row9, .un, .un, .un] (fun ρ2 => if sameK ρ2 [.un, .own .none, .un, .un, .un, .un, .un, .un, .un] = true then next (pay ρ2) else False) = m_law_25_l1_g9 clp next brk pool17 row9 := (m_law_25_l1_q9 clp next brk pool17 row9).trans (congrArg (m_law_25_l1_s9 clp next brk pool17 row9) (funext fun pool27 => m_law_25_l1_e10 clp next brk pool27))
theorem m_law_25_l1_q8 (clp : ClP) (next brk : List D → Prop) (pool15 row7 : D) : kSs False clM clp ow (tlS (tlS (tlS (tlS (tlS (tlS (tlS (tlS (m_law_25_l1b))))))))) (fun ρ2 => if sameK ρ2 [.un, .own .none, .un, .un, .un, .un, .un, .un, .un] = true then brk (pay ρ2) else False) (fun e => e = .val (.bool true)) (fun _ _ => False) [.un, .own pool15, .un, .un, .un, .val row7, .un, .un, .un] (fun ρ2 => if sameK ρ2 [.un, .own .none, .un, .un, .un, .un, .un, .un, .un] = true then next (pay ρ2) else False) = m_law_25_l1_s8 clp next brk pool15 row7 (fun pool28 row17 => kSs False clM clp ow (tlS (tlS (tlS (tlS (tlS (tlS (tlS (tlS (tlS (m_law_25_l1b)))))))))) (fun ρ2 => if sameK ρ2 [.un, .own .none, .un, .un, .un, .un, .un, .un, .un] = true then brk (pay ρ2) else False) (fun e => e = .val (.bool true)) (fun _ _ => False) [.un, .own pool28, .un, .un, .un, .val row17, .un, .un, .un] (fun ρ2 => if sameK ρ2 [.un, .own .none, .un, .un, .un, .un, .un, .un, .un] = true then next (pay ρ2) else False)) :=
  let KN : D → D → Prop := (fun pool28 row17 => kSs False clM clp ow (tlS (tlS (tlS (tlS (tlS (tlS (tlS (tlS (tlS (m_law_25_l1b)))))))))) (fun ρ2 => if sameK ρ2 [.un, .own .none, .un, .un, .un, .un, .un, .un, .un] = true then brk (pay ρ2) else False) (fun e => e = .val (.bool true)) (fun _ _ => False) [.un, .own pool28, .un, .un, .un, .val row17, .un, .un, .un] (fun ρ2 => if sameK ρ2 [.un, .own .none, .un, .un, .un, .un, .un, .un, .un] = true then next (pay ρ2) else False))
  (show kSs False clM clp ow (tlS (tlS (tlS (tlS (tlS (tlS (tlS (tlS (m_law_25_l1b))))))))) (fun ρ2 => if sameK ρ2 [.un, .own .none, .un, .un, .un, .un, .un, .un, .un] = true then brk (pay ρ2) else False) (fun e => e = .val (.bool true)) (fun _ _ => False) [.un, .own pool15, .un, .un, .un, .val row7, .un, .un, .un] (fun ρ2 => if sameK ρ2 [.un, .own .none, .un, .un, .un, .un, .un, .un, .un] = true then next (pay ρ2) else False) = (fun F => (Rs.lift (binF .add row7 (PyData.tuple [(PyData.int 0)]))).fold False (fun _ => False) fun d22 => (Rs.lift (p1F .list row7)).fold False (fun _ => False) fun d23 => kop False (seqOf (PyData.tuple [d22, d23, (.none : D), (PyData.tuple [(PyData.int 2), (PyData.int 0)]), (PyData.tuple [(PyData.int 0), (PyData.int 1)])])) fun xs2 => forK F xs2 [pool15, row7] fun s2 => klist2 False s2 fun pool16 row8 => KN pool16 row8) (stepF False (.one 8) [.un, .own .none, .un, .un, .un, .val .none, .un, .un, .un] (fun kb ρ1 kn => kSs False clM clp ow m_law_25_l1_l8b kb (fun e => e = .val (.bool true)) (fun _ _ => False) ρ1 kn)) from by kernel_rfl).trans (congrArg (fun F => (Rs.lift (binF .add row7 (PyData.tuple [(PyData.int 0)]))).fold False (fun _ => False) fun d22 => (Rs.lift (p1F .list row7)).fold False (fun _ => False) fun d23 => kop False (seqOf (PyData.tuple [d22, d23, (.none : D), (PyData.tuple [(PyData.int 2), (PyData.int 0)]), (PyData.tuple [(PyData.int 0), (PyData.int 1)])])) fun xs2 => forK F xs2 [pool15, row7] fun s2 => klist2 False s2 fun pool16 row8 => KN pool16 row8) (m_law_25_l1_l8ql clp))
theorem m_law_25_l1_e8 (clp : ClP) (next brk : List D → Prop) (pool15 row7 : D) : kSs False clM clp ow (tlS (tlS (tlS (tlS (tlS (tlS (tlS (tlS (m_law_25_l1b))))))))) (fun ρ2 => if sameK ρ2 [.un, .own .none, .un, .un, .un, .un, .un, .un, .un] = true then brk (pay ρ2) else False) (fun e => e = .val (.bool true)) (fun _ _ => False) [.un, .own pool15, .un, .un, .un, .val row7, .un, .un, .un] (fun ρ2 => if sameK ρ2 [.un, .own .none, .un, .un, .un, .un, .un, .un, .un] = true then next (pay ρ2) else False) = m_law_25_l1_g8 clp next brk pool15 row7 := (m_law_25_l1_q8 clp next brk pool15 row7).trans (congrArg (m_law_25_l1_s8 clp next brk pool15 row7) (funext fun pool28 => funext fun row17 => m_law_25_l1_e9 clp next brk pool28 row17))
theorem m_law_25_l1_q7 (clp : ClP) (next brk : List D → Prop) (pool14 turn8 many7 row6 bad5 other2 : D) : kSs False clM clp ow (tlS (tlS (tlS (tlS (tlS (tlS (tlS (m_law_25_l1b)))))))) (fun ρ2 => if sameK ρ2 [.un, .own .none, .un, .un, .un, .un, .un, .un, .un] = true then brk (pay ρ2) else False) (fun e => e = .val (.bool true)) (fun _ _ => False) [.un, .own pool14, .val turn8, .un, .val many7, .val row6, .val bad5, .val other2, .un] (fun ρ2 => if sameK ρ2 [.un, .own .none, .un, .un, .un, .un, .un, .un, .un] = true then next (pay ρ2) else False) = m_law_25_l1_s7 clp next brk pool14 turn8 many7 row6 bad5 other2 (fun pool29 row18 => kSs False clM clp ow (tlS (tlS (tlS (tlS (tlS (tlS (tlS (tlS (m_law_25_l1b))))))))) (fun ρ2 => if sameK ρ2 [.un, .own .none, .un, .un, .un, .un, .un, .un, .un] = true then brk (pay ρ2) else False) (fun e => e = .val (.bool true)) (fun _ _ => False) [.un, .own pool29, .un, .un, .un, .val row18, .un, .un, .un] (fun ρ2 => if sameK ρ2 [.un, .own .none, .un, .un, .un, .un, .un, .un, .un] = true then next (pay ρ2) else False)) := by kernel_rfl
theorem m_law_25_l1_e7 (clp : ClP) (next brk : List D → Prop) (pool14 turn8 many7 row6 bad5 other2 : D) : kSs False clM clp ow (tlS (tlS (tlS (tlS (tlS (tlS (tlS (m_law_25_l1b)))))))) (fun ρ2 => if sameK ρ2 [.un, .own .none, .un, .un, .un, .un, .un, .un, .un] = true then brk (pay ρ2) else False) (fun e => e = .val (.bool true)) (fun _ _ => False) [.un, .own pool14, .val turn8, .un, .val many7, .val row6, .val bad5, .val other2, .un] (fun ρ2 => if sameK ρ2 [.un, .own .none, .un, .un, .un, .un, .un, .un, .un] = true then next (pay ρ2) else False) = m_law_25_l1_g7 clp next brk pool14 turn8 many7 row6 bad5 other2 := (m_law_25_l1_q7 clp next brk pool14 turn8 many7 row6 bad5 other2).trans (congrArg (m_law_25_l1_s7 clp next brk pool14 turn8 many7 row6 bad5 other2) (funext fun pool29 => funext fun row18 => m_law_25_l1_e8 clp next brk pool29 row18))
theorem m_law_25_l1_q6 (clp : ClP) (next brk : List D → Prop) (pool13 turn7 many6 row5 bad4 other1 : D) : kSs False clM clp ow (tlS (tlS (tlS (tlS (tlS (tlS (m_law_25_l1b))))))) (fun ρ2 => if sameK ρ2 [.un, .own .none, .un, .un, .un, .un, .un, .un, .un] = true then brk (pay ρ2) else False) (fun e => e = .val (.bool true)) (fun _ _ => False) [.un, .own pool13, .val turn7, .un, .val many6, .val row5, .val bad4, .val other1, .un] (fun ρ2 => if sameK ρ2 [.un, .own .none, .un, .un, .un, .un, .un, .un, .un] = true then next (pay ρ2) else False) = m_law_25_l1_s6 clp next brk pool13 turn7 many6 row5 bad4 other1 (fun pool30 turn9 many8 row19 bad6 other3 => kSs False clM clp ow (tlS (tlS (tlS (tlS (tlS (tlS (tlS (m_law_25_l1b)))))))) (fun ρ2 => if sameK ρ2 [.un, .own .none, .un, .un, .un, .un, .un, .un, .un] = true then brk (pay ρ2) else False) (fun e => e = .val (.bool true)) (fun _ _ => False) [.un, .own pool30, .val turn9, .un, .val many8, .val row19, .val bad6, .val other3, .un] (fun ρ2 => if sameK ρ2 [.un, .own .none, .un, .un, .un, .un, .un, .un, .un] = true then next (pay ρ2) else False)) := by kernel_rfl
theorem m_law_25_l1_e6 (clp : ClP) (next brk : List D → Prop) (pool13 turn7 many6 row5 bad4 other1 : D) : kSs False clM clp ow (tlS (tlS (tlS (tlS (tlS (tlS (m_law_25_l1b))))))) (fun ρ2 => if sameK ρ2 [.un, .own .none, .un, .un, .un, .un, .un, .un, .un] = true then brk (pay ρ2) else False) (fun e => e = .val (.bool true)) (fun _ _ => False) [.un, .own pool13, .val turn7, .un, .val many6, .val row5, .val bad4, .val other1, .un] (fun ρ2 => if sameK ρ2 [.un, .own .none, .un, .un, .un, .un, .un, .un, .un] = true then next (pay ρ2) else False) = m_law_25_l1_g6 clp next brk pool13 turn7 many6 row5 bad4 other1 := (m_law_25_l1_q6 clp next brk pool13 turn7 many6 row5 bad4 other1).trans (congrArg (m_law_25_l1_s6 clp next brk pool13 turn7 many6 row5 bad4 other1) (funext fun pool30 => funext fun turn9 => funext fun many8 => funext fun row19 => funext fun bad6 => funext fun other3 => m_law_25_l1_e7 clp next brk pool30 turn9 many8 row19 bad6 other3))
theorem m_law_25_l1_q5 (clp : ClP) (next brk : List D → Prop) (pool12 turn6 many5 row4 bad3 : D) : kSs False clM clp ow (tlS (tlS (tlS (tlS (tlS (m_law_25_l1b)))))) (fun ρ2 => if sameK ρ2 [.un, .own .none, .un, .un, .un, .un, .un, .un, .un] = true then brk (pay ρ2) else False) (fun e => e = .val (.bool true)) (fun _ _ => False) [.un, .own pool12, .val turn6, .un, .val many5, .val row4, .val bad3, .un, .un] (fun ρ2 => if sameK ρ2 [.un, .own .none, .un, .un, .un, .un, .un, .un, .un] = true then next (pay ρ2) else False) = m_law_25_l1_s5 clp next brk pool12 turn6 many5 row4 bad3 (fun pool31 turn10 many9 row20 bad7 other4 => kSs False clM clp ow (tlS (tlS (tlS (tlS (tlS (tlS (m_law_25_l1b))))))) (fun ρ2 => if sameK ρ2 [.un, .own .none, .un, .un, .un, .un, .un, .un, .un] = true then brk (pay ρ2) else False) (fun e => e = .val (.bool true)) (fun _ _ => False) [.un, .own pool31, .val turn10, .un, .val many9, .val row20, .val bad7, .val other4, .un] (fun ρ2 => if sameK ρ2 [.un, .own .none, .un, .un, .un, .un, .un, .un, .un] = true then next (pay ρ2) else False)) := by kernel_rfl
theorem m_law_25_l1_e5 (clp : ClP) (next brk : List D → Prop) (pool12 turn6 many5 row4 bad3 : D) : kSs False clM clp ow (tlS (tlS (tlS (tlS (tlS (m_law_25_l1b)))))) (fun ρ2 => if sameK ρ2 [.un, .own .none, .un, .un, .un, .un, .un, .un, .un] = true then brk (pay ρ2) else False) (fun e => e = .val (.bool true)) (fun _ _ => False) [.un, .own pool12, .val turn6, .un, .val many5, .val row4, .val bad3, .un, .un] (fun ρ2 => if sameK ρ2 [.un, .own .none, .un, .un, .un, .un, .un, .un, .un] = true then next (pay ρ2) else False) = m_law_25_l1_g5 clp next brk pool12 turn6 many5 row4 bad3 := (m_law_25_l1_q5 clp next brk pool12 turn6 many5 row4 bad3).trans (congrArg (m_law_25_l1_s5 clp next brk pool12 turn6 many5 row4 bad3) (funext fun pool31 => funext fun turn10 => funext fun many9 => funext fun row20 => funext fun bad7 => funext fun other4 => m_law_25_l1_e6 clp next brk pool31 turn10 many9 row20 bad7 other4))
theorem m_law_25_l1_q4 (clp : ClP) (next brk : List D → Prop) (pool11 turn5 many4 row3 bad2 : D) : kSs False clM clp ow (tlS (tlS (tlS (tlS (m_law_25_l1b))))) (fun ρ2 => if sameK ρ2 [.un, .own .none, .un, .un, .un, .un, .un, .un, .un] = true then brk (pay ρ2) else False) (fun e => e = .val (.bool true)) (fun _ _ => False) [.un, .own pool11, .val turn5, .un, .val many4, .val row3, .val bad2, .un, .un] (fun ρ2 => if sameK ρ2 [.un, .own .none, .un, .un, .un, .un, .un, .un, .un] = true then next (pay ρ2) else False) = m_law_25_l1_s4 clp next brk pool11 turn5 many4 row3 bad2 (fun pool32 turn11 many10 row21 bad8 => kSs False clM clp ow (tlS (tlS (tlS (tlS (tlS (m_law_25_l1b)))))) (fun ρ2 => if sameK ρ2 [.un, .own .none, .un, .un, .un, .un, .un, .un, .un] = true then brk (pay ρ2) else False) (fun e => e = .val (.bool true)) (fun _ _ => False) [.un, .own pool32, .val turn11, .un, .val many10, .val row21, .val bad8, .un, .un] (fun ρ2 => if sameK ρ2 [.un, .own .none, .un, .un, .un, .un, .un, .un, .un] = true then next (pay ρ2) else False)) := by kernel_rfl
theorem m_law_25_l1_e4 (clp : ClP) (next brk : List D → Prop) (pool11 turn5 many4 row3 bad2 : D) : kSs False clM clp ow (tlS (tlS (tlS (tlS (m_law_25_l1b))))) (fun ρ2 => if sameK ρ2 [.un, .own .none, .un, .un, .un, .un, .un, .un, .un] = true then brk (pay ρ2) else False) (fun e => e = .val (.bool true)) (fun _ _ => False) [.un, .own pool11, .val turn5, .un, .val many4, .val row3, .val bad2, .un, .un] (fun ρ2 => if sameK ρ2 [.un, .own .none, .un, .un, .un, .un, .un, .un, .un] = true then next (pay ρ2) else False) = m_law_25_l1_g4 clp next brk pool11 turn5 many4 row3 bad2 := (m_law_25_l1_q4 clp next brk pool11 turn5 many4 row3 bad2).trans (congrArg (m_law_25_l1_s4 clp next brk pool11 turn5 many4 row3 bad2) (funext fun pool32 => funext fun turn11 => funext fun many10 => funext fun row21 => funext fun bad8 => m_law_25_l1_e5 clp next brk pool32 turn11 many10 row21 bad8))
theorem m_law_25_l1_q3 (clp : ClP) (next brk : List D → Prop) (pool10 turn4 many3 row2 bad1 : D) : kSs False clM clp ow (tlS (tlS (tlS (m_law_25_l1b)))) (fun ρ2 => if sameK ρ2 [.un, .own .none, .un, .un, .un, .un, .un, .un, .un] = true then brk (pay ρ2) else False) (fun e => e = .val (.bool true)) (fun _ _ => False) [.un, .own pool10, .val turn4, .un, .val many3, .val row2, .val bad1, .un, .un] (fun ρ2 => if sameK ρ2 [.un, .own .none, .un, .un, .un, .un, .un, .un, .un] = true then next (pay ρ2) else False) = m_law_25_l1_s3 clp next brk pool10 turn4 many3 row2 bad1 (fun pool33 turn12 many11 row22 bad9 => kSs False clM clp ow (tlS (tlS (tlS (tlS (m_law_25_l1b))))) (fun ρ2 => if sameK ρ2 [.un, .own .none, .un, .un, .un, .un, .un, .un, .un] = true then brk (pay ρ2) else False) (fun e => e = .val (.bool true)) (fun _ _ => False) [.un, .own pool33, .val turn12, .un, .val many11, .val row22, .val bad9, .un, .un] (fun ρ2 => if sameK ρ2 [.un, .own .none, .un, .un, .un, .un, .un, .un, .un] = true then next (pay ρ2) else False)) := by kernel_rfl
theorem m_law_25_l1_e3 (clp : ClP) (next brk : List D → Prop) (pool10 turn4 many3 row2 bad1 : D) : kSs False clM clp ow (tlS (tlS (tlS (m_law_25_l1b)))) (fun ρ2 => if sameK ρ2 [.un, .own .none, .un, .un, .un, .un, .un, .un, .un] = true then brk (pay ρ2) else False) (fun e => e = .val (.bool true)) (fun _ _ => False) [.un, .own pool10, .val turn4, .un, .val many3, .val row2, .val bad1, .un, .un] (fun ρ2 => if sameK ρ2 [.un, .own .none, .un, .un, .un, .un, .un, .un, .un] = true then next (pay ρ2) else False) = m_law_25_l1_g3 clp next brk pool10 turn4 many3 row2 bad1 := (m_law_25_l1_q3 clp next brk pool10 turn4 many3 row2 bad1).trans (congrArg (m_law_25_l1_s3 clp next brk pool10 turn4 many3 row2 bad1) (funext fun pool33 => funext fun turn12 => funext fun many11 => funext fun row22 => funext fun bad9 => m_law_25_l1_e4 clp next brk pool33 turn12 many11 row22 bad9))
theorem m_law_25_l1_q2 (clp : ClP) (next brk : List D → Prop) (pool9 turn3 many2 row1 : D) : kSs False clM clp ow (tlS (tlS (m_law_25_l1b))) (fun ρ2 => if sameK ρ2 [.un, .own .none, .un, .un, .un, .un, .un, .un, .un] = true then brk (pay ρ2) else False) (fun e => e = .val (.bool true)) (fun _ _ => False) [.un, .own pool9, .val turn3, .un, .val many2, .val row1, .un, .un, .un] (fun ρ2 => if sameK ρ2 [.un, .own .none, .un, .un, .un, .un, .un, .un, .un] = true then next (pay ρ2) else False) = m_law_25_l1_s2 clp next brk pool9 turn3 many2 row1 (fun pool34 turn13 many12 row23 bad10 => kSs False clM clp ow (tlS (tlS (tlS (m_law_25_l1b)))) (fun ρ2 => if sameK ρ2 [.un, .own .none, .un, .un, .un, .un, .un, .un, .un] = true then brk (pay ρ2) else False) (fun e => e = .val (.bool true)) (fun _ _ => False) [.un, .own pool34, .val turn13, .un, .val many12, .val row23, .val bad10, .un, .un] (fun ρ2 => if sameK ρ2 [.un, .own .none, .un, .un, .un, .un, .un, .un, .un] = true then next (pay ρ2) else False)) := by kernel_rfl
theorem m_law_25_l1_e2 (clp : ClP) (next brk : List D → Prop) (pool9 turn3 many2 row1 : D) : kSs False clM clp ow (tlS (tlS (m_law_25_l1b))) (fun ρ2 => if sameK ρ2 [.un, .own .none, .un, .un, .un, .un, .un, .un, .un] = true then brk (pay ρ2) else False) (fun e => e = .val (.bool true)) (fun _ _ => False) [.un, .own pool9, .val turn3, .un, .val many2, .val row1, .un, .un, .un] (fun ρ2 => if sameK ρ2 [.un, .own .none, .un, .un, .un, .un, .un, .un, .un] = true then next (pay ρ2) else False) = m_law_25_l1_g2 clp next brk pool9 turn3 many2 row1 := (m_law_25_l1_q2 clp next brk pool9 turn3 many2 row1).trans (congrArg (m_law_25_l1_s2 clp next brk pool9 turn3 many2 row1) (funext fun pool34 => funext fun turn13 => funext fun many12 => funext fun row23 => funext fun bad10 => m_law_25_l1_e3 clp next brk pool34 turn13 many12 row23 bad10))
theorem m_law_25_l1_q1 (clp : ClP) (next brk : List D → Prop) (pool8 turn2 many1 : D) : kSs False clM clp ow (tlS (m_law_25_l1b)) (fun ρ2 => if sameK ρ2 [.un, .own .none, .un, .un, .un, .un, .un, .un, .un] = true then brk (pay ρ2) else False) (fun e => e = .val (.bool true)) (fun _ _ => False) [.un, .own pool8, .val turn2, .un, .val many1, .un, .un, .un, .un] (fun ρ2 => if sameK ρ2 [.un, .own .none, .un, .un, .un, .un, .un, .un, .un] = true then next (pay ρ2) else False) = m_law_25_l1_s1 clp next brk pool8 turn2 many1 (fun pool35 turn14 many13 row24 => kSs False clM clp ow (tlS (tlS (m_law_25_l1b))) (fun ρ2 => if sameK ρ2 [.un, .own .none, .un, .un, .un, .un, .un, .un, .un] = true then brk (pay ρ2) else False) (fun e => e = .val (.bool true)) (fun _ _ => False) [.un, .own pool35, .val turn14, .un, .val many13, .val row24, .un, .un, .un] (fun ρ2 => if sameK ρ2 [.un, .own .none, .un, .un, .un, .un, .un, .un, .un] = true then next (pay ρ2) else False)) := by kernel_rfl
theorem m_law_25_l1_e1 (clp : ClP) (next brk : List D → Prop) (pool8 turn2 many1 : D) : kSs False clM clp ow (tlS (m_law_25_l1b)) (fun ρ2 => if sameK ρ2 [.un, .own .none, .un, .un, .un, .un, .un, .un, .un] = true then brk (pay ρ2) else False) (fun e => e = .val (.bool true)) (fun _ _ => False) [.un, .own pool8, .val turn2, .un, .val many1, .un, .un, .un, .un] (fun ρ2 => if sameK ρ2 [.un, .own .none, .un, .un, .un, .un, .un, .un, .un] = true then next (pay ρ2) else False) = m_law_25_l1_g1 clp next brk pool8 turn2 many1 := (m_law_25_l1_q1 clp next brk pool8 turn2 many1).trans (congrArg (m_law_25_l1_s1 clp next brk pool8 turn2 many1) (funext fun pool35 => funext fun turn14 => funext fun many13 => funext fun row24 => m_law_25_l1_e2 clp next brk pool35 turn14 many13 row24))
theorem m_law_25_l1_q0 (clp : ClP) (next brk : List D → Prop) (pool7 turn1 : D) : kSs False clM clp ow (m_law_25_l1b) (fun ρ2 => if sameK ρ2 [.un, .own .none, .un, .un, .un, .un, .un, .un, .un] = true then brk (pay ρ2) else False) (fun e => e = .val (.bool true)) (fun _ _ => False) [.un, .own pool7, .val turn1, .un, .un, .un, .un, .un, .un] (fun ρ2 => if sameK ρ2 [.un, .own .none, .un, .un, .un, .un, .un, .un, .un] = true then next (pay ρ2) else False) = m_law_25_l1_s0 clp next brk pool7 turn1 (fun pool36 turn15 many14 => kSs False clM clp ow (tlS (m_law_25_l1b)) (fun ρ2 => if sameK ρ2 [.un, .own .none, .un, .un, .un, .un, .un, .un, .un] = true then brk (pay ρ2) else False) (fun e => e = .val (.bool true)) (fun _ _ => False) [.un, .own pool36, .val turn15, .un, .val many14, .un, .un, .un, .un] (fun ρ2 => if sameK ρ2 [.un, .own .none, .un, .un, .un, .un, .un, .un, .un] = true then next (pay ρ2) else False)) := by kernel_rfl
theorem m_law_25_l1_e0 (clp : ClP) (next brk : List D → Prop) (pool7 turn1 : D) : kSs False clM clp ow (m_law_25_l1b) (fun ρ2 => if sameK ρ2 [.un, .own .none, .un, .un, .un, .un, .un, .un, .un] = true then brk (pay ρ2) else False) (fun e => e = .val (.bool true)) (fun _ _ => False) [.un, .own pool7, .val turn1, .un, .un, .un, .un, .un, .un] (fun ρ2 => if sameK ρ2 [.un, .own .none, .un, .un, .un, .un, .un, .un, .un] = true then next (pay ρ2) else False) = m_law_25_l1_g0 clp next brk pool7 turn1 := (m_law_25_l1_q0 clp next brk pool7 turn1).trans (congrArg (m_law_25_l1_s0 clp next brk pool7 turn1) (funext fun pool36 => funext fun turn15 => funext fun many14 => m_law_25_l1_e1 clp next brk pool36 turn15 many14))
theorem m_law_25_l1ql (clp : ClP) : stepF False (.one 2) [.un, .own .none, .un, .un, .un, .un, .un, .un, .un] (fun kb ρ1 kn => kSs False clM clp ow m_law_25_l1b kb (fun e => e = .val (.bool true)) (fun _ _ => False) ρ1 kn) = m_law_25_l1 clp := funext fun s => funext fun x6 => funext fun next => funext fun brk =>
  (show stepF False (.one 2) [.un, .own .none, .un, .un, .un, .un, .un, .un, .un] (fun kb ρ1 kn => kSs False clM clp ow m_law_25_l1b kb (fun e => e = .val (.bool true)) (fun _ _ => False) ρ1 kn) s x6 next brk = klist1 False s (fun pool6 => kSs False clM clp ow m_law_25_l1b (fun ρ2 => if sameK ρ2 [.un, .own .none, .un, .un, .un, .un, .un, .un, .un] = true then brk (pay ρ2) else False) (fun e => e = .val (.bool true)) (fun _ _ => False) [.un, .own pool6, .val x6, .un, .un, .un, .un, .un, .un] (fun ρ2 => if sameK ρ2 [.un, .own .none, .un, .un, .un, .un, .un, .un, .un] = true then next (pay ρ2) else False)) from by kernel_rfl).trans (congrArg (klist1 False s) (funext fun pool6 => m_law_25_l1_e0 clp next brk pool6 x6))
theorem m_law_25_q3 (clp : ClP) (pool5 small1 : D) : kSs False clM clp ow (tlS (tlS (tlS (tlS K_law_25.body)))) (fun _ => False) (fun e => e = .val (.bool true)) (fun _ _ => False) [.un, .own pool5, .un, .val small1, .un, .un, .un, .un, .un] (fun _ => False) = m_law_25_s3 clp pool5 small1 True := by kernel_rfl
theorem m_law_25_e3 (clp : ClP) (pool5 small1 : D) : kSs False clM clp ow (tlS (tlS (tlS (tlS K_law_25.body)))) (fun _ => False) (fun e => e = .val (.bool true)) (fun _ _ => False) [.un, .own pool5, .un, .val small1, .un, .un, .un, .un, .un] (fun _ => False) = m_law_25_g3 clp pool5 small1 := (m_law_25_q3 clp pool5 small1).trans (congrArg (m_law_25_s3 clp pool5 small1) (rfl))
theorem m_law_25_q2 (clp : ClP) (pool4 : D) : kSs False clM clp ow (tlS (tlS (tlS K_law_25.body))) (fun _ => False) (fun e => e = .val (.bool true)) (fun _ _ => False) [.un, .own pool4, .un, .un, .un, .un, .un, .un, .un] (fun _ => False) = m_law_25_s2 clp pool4 (fun pool37 small2 => kSs False clM clp ow (tlS (tlS (tlS (tlS K_law_25.body)))) (fun _ => False) (fun e => e = .val (.bool true)) (fun _ _ => False) [.un, .own pool37, .un, .val small2, .un, .un, .un, .un, .un] (fun _ => False)) := by kernel_rfl
theorem m_law_25_e2 (clp : ClP) (pool4 : D) : kSs False clM clp ow (tlS (tlS (tlS K_law_25.body))) (fun _ => False) (fun e => e = .val (.bool true)) (fun _ _ => False) [.un, .own pool4, .un, .un, .un, .un, .un, .un, .un] (fun _ => False) = m_law_25_g2 clp pool4 := (m_law_25_q2 clp pool4).trans (congrArg (m_law_25_s2 clp pool4) (funext fun pool37 => funext fun small2 => m_law_25_e3 clp pool37 small2))
theorem m_law_25_q1 (clp : ClP) (pool2 : D) : kSs False clM clp ow (tlS (tlS K_law_25.body)) (fun _ => False) (fun e => e = .val (.bool true)) (fun _ _ => False) [.un, .own pool2, .un, .un, .un, .un, .un, .un, .un] (fun _ => False) = m_law_25_s1 clp pool2 (fun pool38 => kSs False clM clp ow (tlS (tlS (tlS K_law_25.body))) (fun _ => False) (fun e => e = .val (.bool true)) (fun _ _ => False) [.un, .own pool38, .un, .un, .un, .un, .un, .un, .un] (fun _ => False)) :=
  let KN : D → Prop := (fun pool38 => kSs False clM clp ow (tlS (tlS (tlS K_law_25.body))) (fun _ => False) (fun e => e = .val (.bool true)) (fun _ _ => False) [.un, .own pool38, .un, .un, .un, .un, .un, .un, .un] (fun _ => False))
  (show kSs False clM clp ow (tlS (tlS K_law_25.body)) (fun _ => False) (fun e => e = .val (.bool true)) (fun _ _ => False) [.un, .own pool2, .un, .un, .un, .un, .un, .un, .un] (fun _ => False) = (fun F => (Rs.lift (rngF1 (PyData.int 4))).fold False (fun _ => False) fun xs1 => forK F xs1 [pool2] fun s1 => klist1 False s1 fun pool3 => KN pool3) (stepF False (.one 2) [.un, .own .none, .un, .un, .un, .un, .un, .un, .un] (fun kb ρ1 kn => kSs False clM clp ow m_law_25_l1b kb (fun e => e = .val (.bool true)) (fun _ _ => False) ρ1 kn)) from by kernel_rfl).trans (congrArg (fun F => (Rs.lift (rngF1 (PyData.int 4))).fold False (fun _ => False) fun xs1 => forK F xs1 [pool2] fun s1 => klist1 False s1 fun pool3 => KN pool3) (m_law_25_l1ql clp))
theorem m_law_25_e1 (clp : ClP) (pool2 : D) : kSs False clM clp ow (tlS (tlS K_law_25.body)) (fun _ => False) (fun e => e = .val (.bool true)) (fun _ _ => False) [.un, .own pool2, .un, .un, .un, .un, .un, .un, .un] (fun _ => False) = m_law_25_g1 clp pool2 := (m_law_25_q1 clp pool2).trans (congrArg (m_law_25_s1 clp pool2) (funext fun pool38 => m_law_25_e2 clp pool38))
theorem m_law_25_q0 (clp : ClP) (script1 pool1 : D) : kSs False clM clp ow (tlS K_law_25.body) (fun _ => False) (fun e => e = .val (.bool true)) (fun _ _ => False) [.val script1, .own pool1, .un, .un, .un, .un, .un, .un, .un] (fun _ => False) = m_law_25_s0 clp script1 pool1 (fun pool39 => kSs False clM clp ow (tlS (tlS K_law_25.body)) (fun _ => False) (fun e => e = .val (.bool true)) (fun _ _ => False) [.un, .own pool39, .un, .un, .un, .un, .un, .un, .un] (fun _ => False)) := by kernel_rfl
theorem m_law_25_e0 (clp : ClP) (script1 pool1 : D) : kSs False clM clp ow (tlS K_law_25.body) (fun _ => False) (fun e => e = .val (.bool true)) (fun _ _ => False) [.val script1, .own pool1, .un, .un, .un, .un, .un, .un, .un] (fun _ => False) = m_law_25_g0 clp script1 pool1 := (m_law_25_q0 clp script1 pool1).trans (congrArg (m_law_25_s0 clp script1 pool1) (funext fun pool39 => m_law_25_e1 clp pool39))
theorem hasS : Has tb shared := fun p h => by
  simp only [shared, List.mem_cons, List.not_mem_nil, or_false] at h
  rcases h with rfl | rfl | rfl | rfl | rfl | rfl | rfl | rfl | rfl | rfl | rfl | rfl <;> rfl
theorem val : ∀ ns : List Int, ns.length ≤ 63 → ∃ o, callF tb (fuel + 1) 343 [.val (.list (ns.map PyData.int))] = .ok (.val (.bool true)) o := fun ns hl =>
  main_poolG (fn := K_law_25) (j := 7) rfl ⟨rfl, rfl, rfl⟩ rfl hasS (hclpS hasS rfl (by decide)) (by decide) (Hcl_of (l := [(224, u2 s_choose), (225, u1 s_catalan), (32, u1 s_law_heights), (342, u2 s_law_told_4), (341, u1 s_law_reflected), (18, u2 (s_law_same 30)), (339, u1 s_reflected), (340, u1 s_reflected_back)]) ⟨e_choose fuel (by decide), e_catalan fuel (by decide), e_law_heights fuel (by decide), e_law_told_4 fuel (by decide), e_law_reflected fuel (by decide), e_law_same 30 fuel (by decide), e_reflected fuel (by decide), e_reflected_back fuel (by decide), trivial⟩) hl fun P hP => by
    have q := m_law_25_e0 clpS (.list (ns.map PyData.int)) P
    exact q.symm ▸ main_law_25 hl hP
end Ev.Law
open PySem PySem.W PyProof.Rows Ev
set_option maxRecDepth 100000 in
set_option maxHeartbeats 0 in
theorem PySem.Challenge.cw_everycatalan_k25_whole_rows_reflected_holds : PySem.Challenge.rw_everycatalan_k25_whole_rows_reflected.Holds := by
  w_on; o_law; k_head; (case hw => w_witness2)
  k_fill
  refine Ev.law_fin (l := PySem.Challenge.rw_everycatalan_k25_whole_rows_reflected) (tb := Ev.Law.tb) (T := Ev.Law.T) (n := Ev.Law.fuel + 1) (f0 := 343) rfl rfl (fun w h Y => PySem.W.kIn_of Y) ⟨rfl, by decide, by decide⟩ (by decide +kernel) (fun fn e => by cases e; rfl) ?F Ev.Law.val
  case F =>
    intro w mg h KX G
    refine ⟨?gf, ?gc, ?gb, ?ge⟩
    case gf =>
      show ∀ p ∈ [(("_law_draw" : Str), 21), (("_law_heights" : Str), 32), (("_law_least" : Str), 28), (("_law_pool" : Str), 40), (("_law_reflected" : Str), 341), (("_law_same" : Str), 18), (("_law_shuffled" : Str), 188), (("_law_spread" : Str), 20), (("_law_told" : Str), 342), (("catalan" : Str), 225), (("choose" : Str), 224), (("first_true" : Str), 3), (("heights" : Str), 4), (("is_signs" : Str), 332), (("law" : Str), 343), (("must_be" : Str), 331), (("reflected" : Str), 339), (("reflected_back" : Str), 340)], Good _ mg Ev.Law.T Ev.Law.tb p
      refine List.forall_mem_cons.mpr ⟨?f0, List.forall_mem_cons.mpr ⟨?f1, List.forall_mem_cons.mpr ⟨?f2, List.forall_mem_cons.mpr ⟨?f3, List.forall_mem_cons.mpr ⟨?f4, List.forall_mem_cons.mpr ⟨?f5, List.forall_mem_cons.mpr ⟨?f6, List.forall_mem_cons.mpr ⟨?f7, List.forall_mem_cons.mpr ⟨?f8, List.forall_mem_cons.mpr ⟨?f9, List.forall_mem_cons.mpr ⟨?f10, List.forall_mem_cons.mpr ⟨?f11, List.forall_mem_cons.mpr ⟨?f12, List.forall_mem_cons.mpr ⟨?f13, List.forall_mem_cons.mpr ⟨?f14, List.forall_mem_cons.mpr ⟨?f15, List.forall_mem_cons.mpr ⟨?f16, List.forall_mem_cons.mpr ⟨?f17, fun _ z => nomatch z⟩⟩⟩⟩⟩⟩⟩⟩⟩⟩⟩⟩⟩⟩⟩⟩⟩⟩
      (case f0 => refine' Ev.Law.d__law_draw KX G ?fa0 ?fl0 ?fc0 ?fk0; (case fa0 => k_is); (case fl0 => k_is); (case fc0 => k_is); (case fk0 => k_is))
      (case f1 => refine' Ev.Law.d__law_heights KX G ?fa1 ?fl1 ?fc1 ?fk1; (case fa1 => k_is); (case fl1 => k_is); (case fc1 => k_is); (case fk1 => k_is))
      (case f2 => refine' Ev.Law.d__law_least KX G ?fa2 ?fl2 ?fc2 ?fk2; (case fa2 => k_is); (case fl2 => k_is); (case fc2 => k_is); (case fk2 => k_is))
      (case f3 => refine' Ev.Law.d__law_pool KX G ?fa3 ?fl3 ?fc3 ?fk3; (case fa3 => k_is); (case fl3 => k_is); (case fc3 => k_is); (case fk3 => k_is))
      (case f4 => refine' Ev.Law.d__law_reflected KX G ?fa4 ?fl4 ?fc4 ?fk4; (case fa4 => k_is); (case fl4 => k_is); (case fc4 => k_is); (case fk4 => k_is))
      (case f5 => refine' Ev.Law.d__law_same KX G ?fa5 ?fl5 ?fc5 ?fk5; (case fa5 => k_is); (case fl5 => k_is); (case fc5 => k_is); (case fk5 => k_is))
      (case f6 => refine' Ev.Law.d__law_shuffled KX G ?fa6 ?fl6 ?fc6 ?fk6; (case fa6 => k_is); (case fl6 => k_is); (case fc6 => k_is); (case fk6 => k_is))
      (case f7 => refine' Ev.Law.d__law_spread KX G ?fa7 ?fl7 ?fc7 ?fk7; (case fa7 => k_is); (case fl7 => k_is); (case fc7 => k_is); (case fk7 => k_is))
      (case f8 => refine' Ev.Law.d__law_told KX G ?fa8 ?fl8 ?fc8 ?fk8; (case fa8 => k_is); (case fl8 => k_is); (case fc8 => k_is); (case fk8 => k_is))
      (case f9 => refine' Ev.Law.d_catalan KX G ?fa9 ?fl9 ?fc9 ?fk9; (case fa9 => k_is); (case fl9 => k_is); (case fc9 => k_is); (case fk9 => k_is))
      (case f10 => refine' Ev.Law.d_choose KX G ?fa10 ?fl10 ?fc10 ?fk10; (case fa10 => k_is); (case fl10 => k_is); (case fc10 => k_is); (case fk10 => k_is))
      (case f11 => refine' Ev.Law.d_first_true KX G ?fa11 ?fl11 ?fc11 ?fk11; (case fa11 => k_is); (case fl11 => k_is); (case fc11 => k_is); (case fk11 => k_is))
      (case f12 => refine' Ev.Law.d_heights KX G ?fa12 ?fl12 ?fc12 ?fk12; (case fa12 => k_is); (case fl12 => k_is); (case fc12 => k_is); (case fk12 => k_is))
      (case f13 => refine' Ev.Law.d_is_signs KX G ?fa13 ?fl13 ?fc13 ?fk13; (case fa13 => k_is); (case fl13 => k_is); (case fc13 => k_is); (case fk13 => k_is))
      (case f14 => refine' Ev.Law.d_law KX G ?fa14 ?fl14 ?fc14 ?fk14; (case fa14 => k_is); (case fl14 => k_is); (case fc14 => k_is); (case fk14 => k_is))
      (case f15 => refine' Ev.Law.d_must_be KX G ?fa15 ?fl15 ?fc15 ?fk15; (case fa15 => k_is); (case fl15 => k_is); (case fc15 => k_is); (case fk15 => k_is))
      (case f16 => refine' Ev.Law.d_reflected KX G ?fa16 ?fl16 ?fc16 ?fk16; (case fa16 => k_is); (case fl16 => k_is); (case fc16 => k_is); (case fk16 => k_is))
      (case f17 => refine' Ev.Law.d_reflected_back KX G ?fa17 ?fl17 ?fc17 ?fk17; (case fa17 => k_is); (case fl17 => k_is); (case fc17 => k_is); (case fk17 => k_is))
    case gc =>
      exact fun _ z => nomatch z
    case gb =>
      show ∀ y ∈ [("all" : Str), ("bool" : Str), ("int" : Str), ("isinstance" : Str), ("len" : Str), ("list" : Str), ("min" : Str), ("range" : Str), ("str" : Str), ("tuple" : Str)], mg y = none
      refine List.forall_mem_cons.mpr ⟨?b0, List.forall_mem_cons.mpr ⟨?b1, List.forall_mem_cons.mpr ⟨?b2, List.forall_mem_cons.mpr ⟨?b3, List.forall_mem_cons.mpr ⟨?b4, List.forall_mem_cons.mpr ⟨?b5, List.forall_mem_cons.mpr ⟨?b6, List.forall_mem_cons.mpr ⟨?b7, List.forall_mem_cons.mpr ⟨?b8, List.forall_mem_cons.mpr ⟨?b9, fun _ z => nomatch z⟩⟩⟩⟩⟩⟩⟩⟩⟩⟩
      (case b0 => refine' PySem.W.mg_none_of KX G ?bz0; (case bz0 => k_is))
      (case b1 => refine' PySem.W.mg_none_of KX G ?bz1; (case bz1 => k_is))
      (case b2 => refine' PySem.W.mg_none_of KX G ?bz2; (case bz2 => k_is))
      (case b3 => refine' PySem.W.mg_none_of KX G ?bz3; (case bz3 => k_is))
      (case b4 => refine' PySem.W.mg_none_of KX G ?bz4; (case bz4 => k_is))
      (case b5 => refine' PySem.W.mg_none_of KX G ?bz5; (case bz5 => k_is))
      (case b6 => refine' PySem.W.mg_none_of KX G ?bz6; (case bz6 => k_is))
      (case b7 => refine' PySem.W.mg_none_of KX G ?bz7; (case bz7 => k_is))
      (case b8 => refine' PySem.W.mg_none_of KX G ?bz8; (case bz8 => k_is))
      (case b9 => refine' PySem.W.mg_none_of KX G ?bz9; (case bz9 => k_is))
    case ge =>
      refine ⟨?ce, ?ges⟩
      case ges =>
        show ∀ x ∈ [("NotAllowed" : Str)], Ev.ExcF _ mg x ?ce
        refine List.forall_mem_cons.mpr ⟨?e0, fun _ z => nomatch z⟩
        (case e0 => refine' ⟨PySem.W.mg_of KX G ?eg0, ?eq0, ?ek0, ?eb0, ?et0, ?ei0, ?es0⟩; (case eg0 => k_is); (case eq0 => k_exc); (case ek0 => k_is); (case eb0 => k_is); (case et0 => k_is); (case ei0 => k_is); (case es0 => k_is))
