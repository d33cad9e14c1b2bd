import PyProof.Rows.All
import Wide.All
import OpenK.AllK
import Wide.FinOn
import HandS.ForMost
import HandS.Zip
import HandS.TupAny
import HandS.Deep
import HandS.Wide
import HandS.SortOrd
import HandS.Flow
import HandS.TupLe
import KE.LtSeq
import HandS.IsInst
import HandS.Style
import HandS.Set
import HandS.TupMul
import KE.DataMinMax
import KE.KSortTupAny
import HandS.Rev
import HandS.NoneIn
import HandS.Small
import HandS.Defaults
import HandS.Codes
import HandS.EndBits
import HandS.ForDict
import PySem.Challenge.RW_strangerbench_k08_whole_heard_together
set_option Elab.async false
set_option linter.all false
set_option maxRecDepth 100000
set_option maxHeartbeats 40000000
/-! Dn, part A: data by value, how the heap bears it. -/
namespace Dn
open PySem PySem.Spec PyProof.Rows L2

/-- a value by what it holds; ref n: the n-th thing of the store; fn n: the n-th def -/
inductive D where
  | non | bl (b : Bool) | int (i : Int) | str (x : PySem.Str) | tup (l : List D) | lst (l : List D) | ref (n : Nat) | fn (n : Nat) | ty (s : String) | kl (l : List Int)
/-- a thing of the store -/
inductive SO where
  | dct (kvs : List (Key × D)) | lst (l : List D)
/-- a slot: nothing, a value, or a list that nobody else knows -/
inductive Sl where
  | no | sh (d : D) | ow (l : List D)
structure S where
  env : List Sl
  sto : List SO
/-- an error: its class by number, its fields -/
structure Xn where
  cls : Nat
  fs : List D
inductive R (α : Type) where
  | ok (a : α) (s : S) | exc (x : Xn) (s : S) | stk
@[inline] def R.bind {α β : Type} : R α → (α → S → R β) → R β
  | .ok a s, f => f a s
  | .exc x s, _ => .exc x s
  | .stk, _ => .stk
theorem R.bind_ok {α β : Type} {a : α} {s : S} {f : α → S → R β} : (R.ok a s).bind f = f a s := rfl

section
variable (K : PySem.W.Frag) (fa : Nat → Addr) (Wr : Addr → Prop) (ρ : List Addr) (H : Hp)
/-- a list that stands and is never written -/
def SqW (a : Addr) (xs : List V) : Prop := ¬ Wr a ∧ Rd H a (.lst xs)
theorem SqW.sq {a : Addr} {xs : List V} (h : SqW Wr H a xs) : SqL K H a xs := .inl h.2
/-- a list of the module's own -/
def SqK (a : Addr) (xs : List V) : Prop := ∃ (o : Obj) (its : Array Value) (n : Nat), K.lookup a = some o ∧ o.cls = .type "list" ∧ o.dict = none ∧ o.data = .seq its n ∧ its.size ≤ sizeLine ∧ Vals xs its.toList
mutual
def Rp : D → V → Prop
  | .non, v => v = .non
  | .bl b, v => v = .bl b
  | .int i, v => v = .int i
  | .str x, v => v = .str x
  | .tup l, v => ∃ a xs, v = .ref a ∧ SqT K H a xs ∧ RpL l xs
  | .lst l, v => ∃ a xs, v = .ref a ∧ SqW Wr H a xs ∧ RpL l xs
  | .ref n, v => ∃ a, v = .ref a ∧ ρ[n]? = some a
  | .fn n, v => v = .ref (fa n)
  | .ty s, v => v = .ty s
  | .kl l, v => ∃ a, v = .ref a ∧ (SqW Wr H a (l.map V.int) ∨ SqK K a (l.map V.int))
def RpL : List D → List V → Prop
  | [], vs => vs = []
  | d :: ds, vs => ∃ v r, vs = v :: r ∧ Rp d v ∧ RpL ds r
end
end

section
variable {K : PySem.W.Frag} {fa : Nat → Addr} {Wr Wr' Wr2 : Addr → Prop} {ρ ρ' ρ2 : List Addr} {H H' H2 : Hp}
theorem RpL.len : ∀ {ds : List D} {vs : List V}, RpL K fa Wr ρ H ds vs → vs.length = ds.length
  | [], vs, h => by rw [RpL] at h; subst h; rfl
  | d :: ds, vs, h => by
    rw [RpL] at h
    obtain ⟨v, r, rfl, _, h⟩ := h
    rw [List.length_cons, List.length_cons, RpL.len h]
theorem RpL.nil : RpL K fa Wr ρ H [] [] := by rw [RpL]
theorem RpL.cons {d : D} {ds : List D} {v : V} {vs : List V} (h : Rp K fa Wr ρ H d v) (t : RpL K fa Wr ρ H ds vs) : RpL K fa Wr ρ H (d :: ds) (v :: vs) := by
  rw [RpL]; exact ⟨v, vs, rfl, h, t⟩
theorem RpL.inv {d : D} {ds : List D} {vs : List V} (h : RpL K fa Wr ρ H (d :: ds) vs) : ∃ v r, vs = v :: r ∧ Rp K fa Wr ρ H d v ∧ RpL K fa Wr ρ H ds r := by
  rw [RpL] at h; exact h
theorem RpL.get : ∀ {ds : List D} {vs : List V} {i : Nat} {d : D}, RpL K fa Wr ρ H ds vs → ds[i]? = some d → ∃ v, vs[i]? = some v ∧ Rp K fa Wr ρ H d v
  | [], vs, i, d, h, e => by simp at e
  | d0 :: ds, vs, 0, d, h, e => by
    obtain ⟨v, r, rfl, h1, _⟩ := h.inv
    simp at e; subst e; exact ⟨v, rfl, h1⟩
  | d0 :: ds, vs, i + 1, d, h, e => by
    obtain ⟨v, r, rfl, _, h2⟩ := h.inv
    obtain ⟨v', e', h'⟩ := RpL.get (i := i) h2 (by simpa using e)
    exact ⟨v', by simpa using e', h'⟩
theorem RpL.append : ∀ {ds es : List D} {vs us : List V}, RpL K fa Wr ρ H ds vs → RpL K fa Wr ρ H es us → RpL K fa Wr ρ H (ds ++ es) (vs ++ us)
  | [], es, vs, us, h, g => by rw [RpL] at h; subst h; exact g
  | d :: ds, es, vs, us, h, g => by
    obtain ⟨v, r, rfl, h1, h2⟩ := h.inv
    exact .cons h1 (RpL.append h2 g)
theorem RpL.drop : ∀ {ds : List D} {vs : List V} (n : Nat), RpL K fa Wr ρ H ds vs → RpL K fa Wr ρ H (ds.drop n) (vs.drop n)
  | ds, vs, 0, h => h
  | [], vs, n + 1, h => by rw [RpL] at h; subst h; exact .nil
  | d :: ds, vs, n + 1, h => by
    obtain ⟨v, r, rfl, h1, h2⟩ := h.inv
    exact RpL.drop n h2
theorem RpL.take : ∀ {ds : List D} {vs : List V} (n : Nat), RpL K fa Wr ρ H ds vs → RpL K fa Wr ρ H (ds.take n) (vs.take n)
  | ds, vs, 0, h => .nil
  | [], vs, n + 1, h => by rw [RpL] at h; subst h; exact .nil
  | d :: ds, vs, n + 1, h => by
    obtain ⟨v, r, rfl, h1, h2⟩ := h.inv
    exact .cons h1 (RpL.take n h2)
theorem RpL.set : ∀ {ds : List D} {vs : List V} {d : D} {v : V} (n : Nat), RpL K fa Wr ρ H ds vs → Rp K fa Wr ρ H d v → RpL K fa Wr ρ H (ds.set n d) (vs.set n v)
  | [], vs, d, v, n, h, g => by rw [RpL] at h; subst h; exact .nil
  | d0 :: ds, vs, d, v, 0, h, g => by
    obtain ⟨v0, r, rfl, h1, h2⟩ := h.inv
    exact .cons g h2
  | d0 :: ds, vs, d, v, n + 1, h, g => by
    obtain ⟨v0, r, rfl, h1, h2⟩ := h.inv
    exact .cons h1 (RpL.set n h2 g)
theorem RpL.erase : ∀ {ds : List D} {vs : List V} (n : Nat), RpL K fa Wr ρ H ds vs → RpL K fa Wr ρ H (ds.eraseIdx n) (vs.eraseIdx n)
  | [], vs, n, h => by rw [RpL] at h; subst h; exact .nil
  | d :: ds, vs, 0, h => by
    obtain ⟨v, r, rfl, h1, h2⟩ := h.inv
    exact h2
  | d :: ds, vs, n + 1, h => by
    obtain ⟨v, r, rfl, h1, h2⟩ := h.inv
    exact .cons h1 (RpL.erase n h2)
theorem RpL.reverse : ∀ {ds : List D} {vs : List V}, RpL K fa Wr ρ H ds vs → RpL K fa Wr ρ H ds.reverse vs.reverse
  | [], vs, h => by rw [RpL] at h; subst h; exact .nil
  | d :: ds, vs, h => by
    obtain ⟨v, r, rfl, h1, h2⟩ := h.inv
    rw [List.reverse_cons, List.reverse_cons]
    exact (RpL.reverse h2).append (.cons h1 .nil)
theorem RpL.of_get : ∀ {ds : List D} {vs : List V}, vs.length = ds.length → (∀ (i : Nat) d v, ds[i]? = some d → vs[i]? = some v → Rp K fa Wr ρ H d v) → RpL K fa Wr ρ H ds vs
  | [], [], _, _ => .nil
  | [], v :: vs, e, _ => by simp at e
  | d :: ds, [], e, _ => by simp at e
  | d :: ds, v :: vs, e, h => .cons (h 0 d v rfl rfl) (RpL.of_get (by simpa using e) fun i d' v' a b => h (i + 1) d' v' (by simpa using a) (by simpa using b))

/-- what may turn between two moments -/
structure Ex (Wr : Addr → Prop) (ρ : List Addr) (H : Hp) (Wr' : Addr → Prop) (ρ' : List Addr) (H' : Hp) : Prop where
  mu : ∀ a, Wr a → Mut (H a)
  rho : ∀ (n : Nat) a, ρ[n]? = some a → ρ'[n]? = some a
  wr : ∀ a, Wr' a → Wr a ∨ H a = none
  keep : ∀ a o, H a = some o → ¬ Wr a → H' a = some o
theorem Ex.refl (mu : ∀ a, Wr a → Mut (H a)) : Ex Wr ρ H Wr ρ H := ⟨mu, fun _ _ h => h, fun _ h => .inl h, fun _ _ h _ => h⟩
theorem Ex.trans (a : Ex Wr ρ H Wr' ρ' H') (b : Ex Wr' ρ' H' Wr2 ρ2 H2) : Ex Wr ρ H Wr2 ρ2 H2 where
  mu := a.mu
  rho := fun n x h => b.rho n x (a.rho n x h)
  wr := fun x h => by
    rcases b.wr x h with h | h
    · exact a.wr x h
    · cases e : H x with
      | none => exact .inr rfl
      | some o =>
        by_cases w : Wr x
        · exact .inl w
        · rw [a.keep x o e w] at h; cases h
  keep := fun x o h w => b.keep x o (a.keep x o h w) fun w' => by
    rcases a.wr x w' with z | z
    · exact w z
    · rw [h] at z; cases z
theorem Ex.rd {a : Addr} {u : HO} (x : Ex Wr ρ H Wr' ρ' H') (h : Rd H a u) (w : ¬ Wr a) : Rd H' a u := by
  rcases h with h | ⟨o, h⟩
  · exact .inl (x.keep a _ h w)
  · exact .inr ⟨o, x.keep a _ h w⟩
theorem Ex.sqT {a : Addr} {xs : List V} (x : Ex Wr ρ H Wr' ρ' H') (h : SqT K H a xs) : SqT K H' a xs := by
  rcases h with h | h
  · refine .inl (x.rd h fun w => ?_)
    have m := x.mu a w
    rcases h with h | ⟨o, h⟩ <;> (rw [h] at m; exact m)
  · exact .inr h
theorem Ex.sqW {a : Addr} {xs : List V} (x : Ex Wr ρ H Wr' ρ' H') (h : SqW Wr H a xs) : SqW Wr' H' a xs := by
  obtain ⟨w, h⟩ := h
  refine ⟨fun w' => ?_, x.rd h w⟩
  rcases x.wr a w' with z | z
  · exact w z
  · rcases h with h | ⟨o, h⟩ <;> (rw [h] at z; cases z)
/-- what is read stays as it is -/
structure Exw (Wr : Addr → Prop) (ρ : List Addr) (H : Hp) (Wr' : Addr → Prop) (ρ' : List Addr) (H' : Hp) : Prop where
  rho : ∀ (n : Nat) a, ρ[n]? = some a → ρ'[n]? = some a
  tup : ∀ a xs, Rd H a (.tup xs) → Rd H' a (.tup xs)
  lst : ∀ a xs, ¬ Wr a → Rd H a (.lst xs) → ¬ Wr' a ∧ Rd H' a (.lst xs)
theorem Ex.w (x : Ex Wr ρ H Wr' ρ' H') : Exw Wr ρ H Wr' ρ' H' where
  rho := x.rho
  tup := fun a xs h => by
    refine x.rd h fun w => ?_
    have m := x.mu a w
    rcases h with h | ⟨o, h⟩ <;> (rw [h] at m; exact m)
  lst := fun a xs w h => x.sqW ⟨w, h⟩
mutual
theorem Rp.extw (x : Exw Wr ρ H Wr' ρ' H') : ∀ {d : D} {v : V}, Rp K fa Wr ρ H d v → Rp K fa Wr' ρ' H' d v
  | .non, v, h => by rw [Rp] at h ⊢; exact h
  | .bl b, v, h => by rw [Rp] at h ⊢; exact h
  | .int i, v, h => by rw [Rp] at h ⊢; exact h
  | .str z, v, h => by rw [Rp] at h ⊢; exact h
  | .tup l, v, h => by
    rw [Rp] at h ⊢
    obtain ⟨a, xs, e, h1, h2⟩ := h
    exact ⟨a, xs, e, h1.imp (x.tup a xs) id, RpL.extw x h2⟩
  | .lst l, v, h => by
    rw [Rp] at h ⊢
    obtain ⟨a, xs, e, h1, h2⟩ := h
    exact ⟨a, xs, e, x.lst a xs h1.1 h1.2, RpL.extw x h2⟩
  | .ref n, v, h => by
    rw [Rp] at h ⊢
    obtain ⟨a, e, h⟩ := h
    exact ⟨a, e, x.rho n a h⟩
  | .fn n, v, h => by rw [Rp] at h ⊢; exact h
  | .ty s, v, h => by rw [Rp] at h ⊢; exact h
  | .kl l, v, h => by
    rw [Rp] at h ⊢
    obtain ⟨a, e, h⟩ := h
    exact ⟨a, e, h.imp (fun h => x.lst a _ h.1 h.2) id⟩
theorem RpL.extw (x : Exw Wr ρ H Wr' ρ' H') : ∀ {ds : List D} {vs : List V}, RpL K fa Wr ρ H ds vs → RpL K fa Wr' ρ' H' ds vs
  | [], vs, h => by rw [RpL] at h ⊢; exact h
  | d :: ds, vs, h => by
    obtain ⟨v, r, rfl, h1, h2⟩ := h.inv
    exact .cons (Rp.extw x h1) (RpL.extw x h2)
end
theorem Rp.ext (x : Ex Wr ρ H Wr' ρ' H') {d : D} {v : V} (h : Rp K fa Wr ρ H d v) : Rp K fa Wr' ρ' H' d v := h.extw x.w
theorem RpL.ext (x : Ex Wr ρ H Wr' ρ' H') {ds : List D} {vs : List V} (h : RpL K fa Wr ρ H ds vs) : RpL K fa Wr' ρ' H' ds vs := h.extw x.w
/-- a fresh thing laid that is not written -/
theorem Ex.laid {p : Addr} {o : HO} (mu : ∀ a, Wr a → Mut (H a)) (hp : H p = none) : Ex Wr ρ H Wr ρ (upd H p o) :=
  ⟨mu, fun _ _ h => h, fun _ h => .inl h, fun a u h _ => by rw [upd_ne (ne_of_none h hp)]; exact h⟩
end

/-- a thing of the store stands -/
def RSO (K : PySem.W.Frag) (fa : Nat → Addr) (Wr : Addr → Prop) (ρ : List Addr) (H : Hp) : SO → Option HO → Prop
  | .dct kvs, h => ∃ vs : List (Key × V), h = some (.dK vs) ∧ vs.map (·.1) = kvs.map (·.1) ∧ RpL K fa Wr ρ H (kvs.map (·.2)) (vs.map (·.2))
  | .lst l, h => ∃ vs : List V, h = some (.lst vs) ∧ RpL K fa Wr ρ H l vs
/-- the entry of a def -/
structure Zn where
  Wr : Addr → Prop
  ρ : List Addr
  H : Hp
  /-- lists under way, of comprehensions -/
  ac : List (Addr × List V)
/-- the frame's slots and the store stand so -/
structure Fr (K : PySem.W.Frag) (fa : Nat → Addr) (Z : Zn) (Wr : Addr → Prop) (ρ : List Addr) (H : Hp) (σ : L2.St) (s : S) : Prop where
  mu : ∀ a, Wr a → Mut (H a)
  rw : ∀ a ∈ ρ, Wr a
  nd : ρ.Nodup
  len : s.sto.length = ρ.length
  so : ∀ (n : Nat) o a, s.sto[n]? = some o → ρ[n]? = some a → RSO K fa Wr ρ H o (H a)
  sl : s.env.length = σ.length
  sh : ∀ (i : Nat) d, s.env[i]? = some (.sh d) → ∃ v, σ[i]? = some (some v) ∧ Rp K fa Wr ρ H d v
  ow : ∀ (i : Nat) l, s.env[i]? = some (.ow l) → ∃ a xs, σ[i]? = some (some (.ref a)) ∧ H a = some (.lst xs) ∧ RpL K fa Wr ρ H l xs ∧ Wr a ∧ a ∉ ρ ∧ ¬ Z.Wr a
  od : ∀ (i j : Nat) l m a, s.env[i]? = some (.ow l) → s.env[j]? = some (.ow m) → σ[i]? = some (some (.ref a)) → σ[j]? = some (some (.ref a)) → i = j
  z1 : ∀ (n : Nat) a, Z.ρ[n]? = some a → ρ[n]? = some a
  z2 : ∀ a, Z.Wr a → Wr a
  z3 : ∀ a o, Z.H a = some o → a ∈ Z.ρ ∨ H a = some o
  z4 : ∀ a ∈ ρ, a ∈ Z.ρ ∨ Z.H a = none
  z5 : ∀ a, Wr a → Z.Wr a ∨ Z.H a = none
  ac : ∀ a xs, (a, xs) ∈ Z.ac → H a = some (.lst xs) ∧ Wr a ∧ a ∉ ρ ∧ ¬ Z.Wr a ∧ ∀ (i : Nat) l, s.env[i]? = some (.ow l) → σ[i]? ≠ some (some (.ref a))
section
variable {K : PySem.W.Frag} {fa : Nat → Addr} {Z : Zn} {Wr Wr' : Addr → Prop} {ρ ρ' : List Addr} {H H' : Hp} {σ : L2.St} {s s' : S}
theorem RSO.extw {o : SO} {h : Option HO} (x : Exw Wr ρ H Wr' ρ' H') (r : RSO K fa Wr ρ H o h) : RSO K fa Wr' ρ' H' o h := by
  cases o with
  | dct kvs =>
    obtain ⟨vs, e1, e2, r⟩ := r
    exact ⟨vs, e1, e2, r.extw x⟩
  | lst l =>
    obtain ⟨vs, e1, r⟩ := r
    exact ⟨vs, e1, r.extw x⟩
theorem RSO.ext {o : SO} {h : Option HO} (x : Ex Wr ρ H Wr' ρ' H') (r : RSO K fa Wr ρ H o h) : RSO K fa Wr' ρ' H' o h := r.extw x.w
/-- a fresh thing laid that is not written: the frame stands -/
theorem Fr.laid {p : Addr} {o : HO} (F : Fr K fa Z Wr ρ H σ s) (hp : H p = none) : Fr K fa Z Wr ρ (upd H p o) σ s := by
  have x : Ex Wr ρ H Wr ρ (upd H p o) := Ex.laid F.mu hp
  have ne : ∀ a, Wr a → a ≠ p := fun a w e => by
    have m := F.mu a w
    rw [e, hp] at m; exact m
  refine ⟨fun a w => by rw [upd_ne (ne a w)]; exact F.mu a w, F.rw, F.nd, F.len, fun n o' a h1 h2 => ?_, F.sl, fun i d h => ?_, fun i l h => ?_, F.od, F.z1, F.z2, fun a o' h => ?_, F.z4, F.z5, fun a xs h => ?_⟩
  · rw [upd_ne (ne a (F.rw a (List.mem_of_getElem? h2)))]
    exact (F.so n o' a h1 h2).ext x
  · obtain ⟨v, h1, h2⟩ := F.sh i d h
    exact ⟨v, h1, h2.ext x⟩
  · obtain ⟨a, xs, h1, h2, h3, h4, h5, h6⟩ := F.ow i l h
    exact ⟨a, xs, h1, by rw [upd_ne (ne a h4)]; exact h2, h3.ext x, h4, h5, h6⟩
  · rcases F.z3 a o' h with z | z
    · exact .inl z
    · exact .inr (by rw [upd_ne (ne_of_none z hp)]; exact z)
  · obtain ⟨h1, h2, h3⟩ := F.ac a xs h
    exact ⟨by rw [upd_ne (ne a h2)]; exact h1, h2, h3⟩
theorem Fr.ex (F : Fr K fa Z Wr ρ H σ s) : Ex Wr ρ H Wr ρ H := Ex.refl F.mu
end
end Dn

/-! Dn, part B: the inner language, what it reckons. -/
namespace Dn
open PySem PySem.Spec PyProof.Rows L2

/-! ### data: as the library's, equality, order, text -/
mutual
def toPy : D → Option PyData
  | .non => some .none
  | .bl b => some (.bool b)
  | .int i => some (.int i)
  | .str x => some (.str x)
  | .tup l => (toPyL l).map .tuple
  | .lst l => (toPyL l).map .list
  | .ref _ => none
  | .fn _ => none
  | .ty _ => none
  | .kl _ => none
def toPyL : List D → Option (List PyData)
  | [] => some []
  | d :: ds => match toPy d, toPyL ds with
    | some e, some es => some (e :: es)
    | _, _ => none
end
mutual
/-- how deep it goes -/
def dep : D → Nat
  | .tup l => depL l + 1
  | .lst l => depL l + 1
  | _ => 0
def depL : List D → Nat
  | [] => 0
  | d :: ds => max (dep d) (depL ds)
end
mutual
/-- data alone, texts of true signs -/
def dok : D → Bool
  | .str x => PyData.strOk x
  | .tup l => dokL l
  | .lst l => dokL l
  | .ref _ => false
  | .fn _ => false
  | .ty _ => false
  | .kl _ => false
  | _ => true
def dokL : List D → Bool
  | [] => true
  | d :: ds => dok d && dokL ds
end
mutual
/-- == -/
def deq : D → D → Bool
  | .non, .non => true
  | .bl a, .bl b => a == b
  | .bl a, .int j => (if a then 1 else 0) == j
  | .int i, .bl b => i == (if b then 1 else 0)
  | .int i, .int j => i == j
  | .str x, .str y => x == y
  | .tup l, .tup m => deqL l m
  | .lst l, .lst m => deqL l m
  | _, _ => false
def deqL : List D → List D → Bool
  | [], [] => true
  | d :: ds, e :: es => deq d e && deqL ds es
  | _, _ => false
end
/-- what may be compared by == -/
def eok (d : D) : Bool := dok d && decide (dep d ≤ 64)
def numOf : D → Option Int
  | .int i => some i
  | .bl b => some (if b then 1 else 0)
  | _ => none
def ordI (o : CmpOp) (i j : Int) : Bool := match o with
  | .Lt => decide (i < j) | .LtE => decide (i ≤ j) | .Gt => decide (j < i) | _ => decide (j ≤ i)
def ordS (o : CmpOp) (x y : PySem.Str) : Bool := match o with
  | .Lt => decide (x.cps.toList < y.cps.toList) | .LtE => !decide (y.cps.toList < x.cps.toList) | .Gt => decide (y.cps.toList < x.cps.toList) | _ => !decide (x.cps.toList < y.cps.toList)
mutual
/-- <, <=, >, >=, where they are defined -/
def dcmp (o : CmpOp) : D → D → Option Bool
  | .tup l, .tup m => dcmpL o l m
  | .str x, .str y => some (ordS o x y)
  | .int i, .int j => some (ordI o i j)
  | _, _ => none
def dcmpL (o : CmpOp) : List D → List D → Option Bool
  | [], [] => some (ordI o 0 0)
  | [], _ :: _ => some (ordI o 0 1)
  | _ :: _, [] => some (ordI o 1 0)
  | d :: ds, e :: es => if deq d e then dcmpL o ds es else dcmp o d e
end
/-- repr, where it is told -/
def shw (d : D) : Option PySem.Str := match toPy d with
  | some p => if dok d && decide (dep d ≤ 64) && p.showable && decide (p.shown.length ≤ sizeLine) then some p.shown else none
  | none => none
mutual
/-- a row of numbers that rises as the thing does -/
def key : D → List Int
  | .non => [0]
  | .bl b => [1, if b then 1 else 0]
  | .int i => [1, i]
  | .str x => 2 :: (x.cps.toList.map (fun (c : Nat) => (c : Int) + 1) ++ [0])
  | .tup l => 3 :: keyL l
  | .lst l => 4 :: keyL l
  | .ref n => [5, n]
  | .fn n => [6, n]
  | .ty n => 7 :: (n.toList.map (fun c => (c.toNat : Int) + 1) ++ [0])
  | .kl _ => [8]
def keyL : List D → List Int
  | [] => [-1]
  | d :: ds => key d ++ keyL ds
end
/-- below, by these rows -/
def tlt (x y : D) : Bool := decide (key x < key y)
def insB {α : Type} (lt : α → α → Bool) (x : α) : List α → List α
  | [] => [x]
  | y :: ys => if lt y x then y :: insB lt x ys else x :: y :: ys
def isortB {α : Type} (lt : α → α → Bool) : List α → List α
  | [] => []
  | x :: xs => insB lt x (isortB lt xs)
def tsort (l : List D) : List D := isortB tlt l
/-- any two compare -/
def allCmp (l : List D) : Bool := l.all fun x => l.all fun y => (dcmp .Lt x y).isSome
def isStr : D → Bool
  | .str _ => true
  | _ => false
def isInt : D → Bool
  | .int _ => true
  | _ => false
def clsOf : D → Option String
  | .non => some "NoneType"
  | .bl _ => some "bool"
  | .int _ => some "int"
  | .str _ => some "str"
  | .tup _ => some "tuple"
  | .lst _ => some "list"
  | _ => none
/-- a tuple whose first thing is of that kind -/
def headIs (c : String) : D → Bool
  | .tup (d :: _) => decide (clsOf d = some c)
  | _ => false
/-- texts, numbers, or tuples whose first things are of one kind -/
def kindOk (l : List D) : Bool := l.all isStr || l.all isInt || l.all (headIs "str") || l.all (headIs "int") || l.all (headIs "tuple")
def srt (l : List D) : Option (List D) := if l.length < 2 then some l else if allCmp l && kindOk l then some (tsort l) else none

/-! ### the inner language -/
inductive Cst where
  | non | bl (b : Bool) | int (i : Int) | str (x : PySem.Str)
def Cst.d : Cst → D
  | .non => .non
  | .bl b => .bl b
  | .int i => .int i
  | .str x => .str x
/-- operations by values -/
inductive P where
  | bin (o : Operator) | neg | cmp (o : CmpOp)
  | bf (n : String) | bt (n : String)
  | idx | slc (lo hi : Bool) | rev | mt (n : String)
/-- what turns an own list -/
inductive Mu where
  | append | pop | popAt | extend | setAt
mutual
inductive Tg where
  | nm (i : Nat) | tp (t : Tgs)
inductive Tgs where
  | nil | cons (t : Tg) (r : Tgs)
end
mutual
inductive E where
  | var (i : Nat) | cst (k : Cst) | fn (n : Nat) | ty (s : String) | glo (g : Nat)
  | tup (es : Es) | lst (es : Es)
  | prim (p : P) (os : Os)
  | chain (o1 o2 : CmpOp) (a b c : O)
  | ite (t : T) (a b : E)
  | andE (es : Es) | orE (es : Es) | notE (e : E)
  | call (n : Nat) (fill : Option (List (Sum Nat D))) (es ks : Es)
  | callV (i : Nat) (es : Es)
  | comp (vs : List Nat) (el : E) (g : G)
  | comp2 (vs vs1 : List Nat) (el : E) (g g1 : G)
  | mut (m : Mu) (i : Nat) (es : Es)
  | dict (ks : List Key) (es : Es) | lstR (es : Es)
inductive Es where
  | nil | cons (e : E) (r : Es)
inductive O where
  | b (i : Nat) | e (x : E)
inductive Os where
  | nil | cons (o : O) (r : Os)
inductive T where
  | val (e : E) | cmp (o : CmpOp) (a b : O) | chain (o1 o2 : CmpOp) (a b c : O)
  | not (t : T) | and (ts : Ts) | or (ts : Ts)
inductive Ts where
  | nil | cons (t : T) (r : Ts)
inductive G where
  | mk (tg : Tg) (it : Iw) (ifs : Ts)
inductive Iw where
  | seq (e : E) | range1 (a : E) | range2 (a b : E) | zip (a b : E) | enum (a : E) | rev (a : E)
end

/-! ### what operations reckon -/
def keyOf : D → Option Key
  | .int i => some (.inl i)
  | .str x => some (.inr x)
  | _ => none
def keyD : Key → D
  | .inl i => .int i
  | .inr x => .str x
def kget : List (Key × D) → Key → Option D
  | [], _ => none
  | (k, d) :: r, i => if k = i then some d else kget r i
def kput (l : List (Key × D)) (i : Key) (d : D) : List (Key × D) := if (l.any fun p => decide (p.1 = i)) = true then l.map (fun p => if p.1 = i then (p.1, d) else p) else l ++ [(i, d)]
/-- lists and texts no longer than the line -/
def szOk {α : Type} (l : List α) : Bool := decide (l.length ≤ sizeLine)
def D.cut {α : Type} (l : List α) (lo hi : Option Int) : List α := (l.drop (HT.sIx l.length 0 lo)).take (HT.sIx l.length l.length hi - HT.sIx l.length 0 lo)
def cutS' (x : PySem.Str) (lo hi : Option Int) : PySem.Str := ⟨(D.cut x.cps.toList lo hi).toArray⟩
/-- parts of a slice -/
def prts : Bool → Bool → List D → Option (Option Int × Option Int)
  | false, false, [] => some (none, none)
  | true, false, [.int i] => some (some i, none)
  | false, true, [.int i] => some (none, some i)
  | true, true, [.int i, .int j] => some (some i, some j)
  | _, _, _ => none
/-- isinstance(thing, a built-in class) -/
def isi (d : D) (t : String) : Option Bool :=
  match clsOf d with
  | some c => if ["int", "bool", "str", "tuple", "list"].contains t then some (c == t || (c == "bool" && t == "int")) else none
  | none => none
def isNon : D → Bool
  | .non => true
  | _ => false
def binD (o : Operator) (x y : D) : Option D :=
  match o, x, y with
  | .Add, .int i, .int j => some (.int (i + j))
  | .Sub, .int i, .int j => some (.int (i - j))
  | .Mult, .int i, .int j => if i.natAbs.log2 + j.natAbs.log2 < 1000000 then some (.int (i * j)) else none
  | .Mult, .lst l, .int k => if decide (-(2 ^ 63) ≤ k) && decide (k < 2 ^ 63) && decide (l.length * k.toNat ≤ sizeLine) then some (.lst (List.replicate k.toNat l).flatten) else none
  | .Mult, .tup l, .int k => if !l.isEmpty && decide (2 ≤ k) && decide (k ≤ 1000) && decide (l.length ≤ 1000) then some (.tup (List.replicate k.toNat l).flatten) else none
  | .FloorDiv, .int i, .int j => if decide (0 < j) && decide (j.natAbs.log2 < 9000) then some (.int (i / j)) else none
  | .Mod, .int i, .int j => if decide (0 < j) then some (.int (i % j)) else none
  | .Pow, .int i, .int j => if decide (0 ≤ j) && decide (j ≤ 1000) && decide (i.natAbs < 2 ^ 64) then some (.int (i ^ j.toNat)) else none
  | .Add, .str a, .str b => if a.length + b.length ≤ sizeLine then some (.str (a ++ b)) else none
  | .Add, .lst a, .lst b => if a.length ≤ sizeLine && b.length ≤ sizeLine && a.length + b.length ≤ sizeLine then some (.lst (a ++ b)) else none
  | .Add, .tup a, .tup b => if a.length + b.length ≤ sizeLine then some (.tup (a ++ b)) else none
  | _, _, _ => none
def cmpD (o : CmpOp) (x y : D) : Option Bool :=
  match o with
  | .Eq => match x, y with
    | .str a, .str b => some (decide (a = b))
    | x, y => if eok x && eok y then some (deq x y) else none
  | .NotEq => match x, y with
    | .str a, .str b => some (!decide (a = b))
    | x, y => if eok x && eok y then some (!deq x y) else none
  | .Lt => if eok x && eok y then dcmp .Lt x y else none
  | .Gt => if eok x && eok y then dcmp .Gt x y else none
  | .LtE => if eok x && eok y then dcmp .LtE x y else none
  | .GtE => if eok x && eok y then dcmp .GtE x y else none
  | .Is => match x, y with
    | x, .non => if (clsOf x).isSome then some (isNon x) else none
    | .bl a, .bl b => some (decide (a = b))
    | _, _ => none
  | .IsNot => match x, y with
    | x, .non => if (clsOf x).isSome then some (!isNon x) else none
    | .bl a, .bl b => some (!decide (a = b))
    | _, _ => none
  | .In => match x, y with
    | .str a, .str b => some (!(Builtin.Str.occurrences b a 0 b.length 1).isEmpty)
    | x, .tup l => if eok x && dokL l && decide (depL l ≤ 63) then some (l.any fun z => deq z x) else none
    | x, .lst l => if eok x && dokL l && decide (depL l ≤ 63) then some (l.any fun z => deq z x) else none
    | _, _ => none
  | .NotIn => match x, y with
    | .str a, .str b => some (Builtin.Str.occurrences b a 0 b.length 1).isEmpty
    | x, .tup l => if eok x && dokL l && decide (depL l ≤ 63) then some (!(l.any fun z => deq z x)) else none
    | x, .lst l => if eok x && dokL l && decide (depL l ≤ 63) then some (!(l.any fun z => deq z x)) else none
    | _, _ => none
/-- the greater (the lesser) of two, the first of like ones -/
def max2 (x y : D) : Option D := if eok x && eok y then (dcmp .Gt y x).map fun b => if b then y else x else none
def min2 (x y : D) : Option D := if eok x && eok y then (dcmp .Lt y x).map fun b => if b then y else x else none
def bols : List D → Option (List Bool)
  | [] => some []
  | .bl b :: ds => (bols ds).map (b :: ·)
  | _ :: _ => none
def intsD : List D → Option (List Int)
  | [] => some []
  | .int b :: ds => (intsD ds).map (b :: ·)
  | _ :: _ => none
def bfD (n : String) (ds : List D) : Option D :=
  match n, ds with
  | "len", [.str x] => if x.length ≤ sizeLine then some (.int x.length) else none
  | "len", [.tup l] => some (.int l.length)
  | "len", [.lst l] => some (.int l.length)
  | "repr", [.tup l] => (shw (.tup l)).map .str
  | "repr", [.lst l] => (shw (.lst l)).map .str
  | "repr", [.non] => some (.str "None")
  | "repr", [.bl b] => some (.str (if b then "True" else "False"))
  | "repr", [.int i] => (shw (.int i)).map .str
  | "repr", [.str x] => (shw (.str x)).map .str
  | "sorted", [.tup l] => if dokL l && decide (depL l ≤ 60) then (srt l).map .lst else none
  | "sorted", [.lst l] => if dokL l && decide (depL l ≤ 60) then (srt l).map .lst else none
  | "max", [x, y] => max2 x y
  | "min", [x, y] => min2 x y
  | "all", [.lst l] => (bols l).map fun bs => .bl (bs.all id)
  | "any", [.lst l] => (bols l).map fun bs => .bl (bs.any id)
  | "abs", [.int i] => some (.int (if i < 0 then -i else i))
  | "sum", [.lst l] => (intsD l).map fun is => .int is.sum
  | "isinstance", [x, .ty t] => (isi x t).map .bl
  | _, _ => none
def btD (n : String) (ds : List D) : Option D :=
  match n, ds with
  | "tuple", [.tup l] => some (.tup l)
  | "tuple", [.lst l] => some (.tup l)
  | "list", [.tup l] => some (.lst l)
  | "list", [.lst l] => some (.lst l)
  | "int", [.int i] => some (.int i)
  | "int", [.bl b] => some (.int (if b then 1 else 0))
  | "str", [.int i] => if i.natAbs.log2 < 1920 then some (.str (toString i)) else none
  | _, _ => none
def mtD (n : String) (ds : List D) : Option D :=
  match n, ds with
  | "upper", [.str x] => if x.length ≤ 5592405 then some (.str (Txt.upper x)) else none
  | _, _ => none
def idxD (sto : List SO) (ds : List D) : Option D :=
  match ds with
  | [.lst l, .int i] => atI l i
  | [.tup l, .int i] => atI l i
  | [.str x, .int i] => if x.length ≤ sizeLine then (atI x.cps.toList i).map fun c => .str ⟨#[c]⟩ else none
  | [.ref n, k] => match sto[n]?, keyOf k with
    | some (.dct kvs), some k => kget kvs k
    | some (.lst l), some (.inl i) => atI l i
    | _, _ => none
  | _ => none
def P.run (p : P) (sto : List SO) (ds : List D) : Option D :=
  match p with
  | .bin o => match ds with | [x, y] => binD o x y | _ => none
  | .neg => match ds with | [.int i] => some (.int (-i)) | _ => none
  | .cmp o => match ds with | [x, y] => (cmpD o x y).map .bl | _ => none
  | .bf n => bfD n ds
  | .bt n => btD n ds
  | .idx => idxD sto ds
  | .slc lo hi => match ds with
    | .lst l :: ps => (prts lo hi ps).map fun p => .lst (D.cut l p.1 p.2)
    | .tup l :: ps => (prts lo hi ps).map fun p => .tup (D.cut l p.1 p.2)
    | .kl l :: ps => (prts lo hi ps).map fun p => .lst (D.cut (l.map .int) p.1 p.2)
    | .str x :: ps => if x.length ≤ sizeLine then (prts lo hi ps).map fun p => .str (cutS' x p.1 p.2) else none
    | _ => none
  | .rev => match ds with
    | [.lst l] => some (.lst l.reverse)
    | _ => none
  | .mt n => mtD n ds
/-- truth -/
def tru (sto : List SO) : D → Option Bool
  | .non => some false
  | .bl b => some b
  | .int i => some (i != 0)
  | .str x => if x.length ≤ sizeLine then some (x.length != 0) else none
  | .tup l => some (!l.isEmpty)
  | .lst l => some (!l.isEmpty)
  | _ => none

/-! ### slots -/
def S.setSl (s : S) (i : Nat) (x : Sl) : S := { s with env := s.env.set i x }
def S.wipe (s : S) (vs : List Nat) : S := { s with env := vs.foldr (fun v e => e.set v .no) s.env }
/-- the slots vs as they were in e -/
def Sl.held : Option Sl → Sl
  | some (.sh d) => .sh d
  | _ => .no
def S.back (s : S) (vs : List Nat) (e : List Sl) : S := { s with env := vs.foldr (fun v r => r.set v (Sl.held e[v]?)) s.env }
mutual
def asg : Tg → D → S → Option S
  | .nm i, d, s => if i < s.env.length then some (s.setSl i (.sh d)) else none
  | .tp ts, .tup l, s => asgs ts l s
  | .tp ts, .lst l, s => asgs ts l s
  | .tp _, _, _ => none
def asgs : Tgs → List D → S → Option S
  | .nil, [], s => some s
  | .cons t r, d :: ds, s => match asg t d s with
    | some s => asgs r ds s
    | none => none
  | _, _, _ => none
end

/-! ### expressions -/
/-- a call of the n-th def: the arguments, the store ahead -/
inductive RC where
  | ok (d : D) (sto : List SO) | exc (x : Xn) (sto : List SO) | stk
abbrev Cl := Nat → List D → List SO → RC
def RC.to (r : RC) (s : S) : R D := match r with
  | .ok d sto => .ok d { s with sto := sto }
  | .exc x sto => .exc x { s with sto := sto }
  | .stk => .stk
/-- an operand, not yet read -/
inductive Pd where
  | p (i : Nat) | d (x : D)
def rdSl : Sl → Option D
  | .no => none
  | .sh d => some d
  | .ow l => some (.lst l)
def Pd.get (s : S) : Pd → Option D
  | .p i => (s.env[i]?).bind rdSl
  | .d x => some x
def pdAll (s : S) : List Pd → Option (List D)
  | [] => some []
  | p :: ps => match p.get s, pdAll s ps with
    | some d, some ds => some (d :: ds)
    | _, _ => none
def ofO {α : Type} (o : Option α) (s : S) : R α := match o with
  | some a => .ok a s
  | none => .stk
/-- items one by one -/
def fold (f : D → List D → S → R (List D)) : List D → List D → S → R (List D)
  | [], acc, s => .ok acc s
  | d :: ds, acc, s => match f d acc s with
    | .ok acc s => fold f ds acc s
    | .exc x s => .exc x s
    | .stk => .stk
def rng (a : Int) (n : Nat) : List D := (List.range n).map fun (k : Nat) => .int (a + (k : Int))
def enumD : Nat → List D → List D
  | _, [] => []
  | n, d :: ds => .tup [.int (n : Int), d] :: enumD (n + 1) ds
def itemsOf : D → Option (List D)
  | .tup l => some l
  | .lst l => some l
  | .str x => some (x.cps.toList.map fun c => .str ⟨#[c]⟩)
  | _ => none
def seqOf : D → Option (List D)
  | .tup l => some l
  | .lst l => some l
  | _ => none
def small (i : Int) : Bool := decide (-(2 ^ 62) ≤ i) && decide (i < 2 ^ 62)
def muD (m : Mu) (l : List D) (ds : List D) : Option (List D × D) :=
  match m, ds with
  | .append, [d] => if l.length < sizeLine then some (l ++ [d], .non) else none
  | .pop, [] => match l.getLast? with
    | some d => some (l.dropLast, d)
    | none => none
  | .popAt, [.int i] => match ixN l.length i with
    | some j => match l[j]? with
      | some d => some (l.eraseIdx j, d)
      | none => none
    | none => none
  | .extend, [.lst m] => if l.length + m.length ≤ sizeLine then some (l ++ m, .non) else none
  | .setAt, [.int i, d] => match ixN l.length i with
    | some j => some (l.set j d, .non)
    | none => none
  | _, _ => none
def fillD (ds : List D) : List (Sum Nat D) → Option (List D)
  | [] => some []
  | .inl k :: r => match ds[k]?, fillD ds r with
    | some d, some es => some (d :: es)
    | _, _ => none
  | .inr d :: r => (fillD ds r).map (d :: ·)
section
variable (gl : List D) (c : Cl)
mutual
def evE : E → S → R D
  | .var i, s => match s.env[i]? with
    | some (.sh d) => .ok d s
    | some (.ow l) => .ok (.lst l) (s.setSl i (.sh (.lst l)))
    | _ => .stk
  | .cst k, s => .ok k.d s
  | .fn n, s => .ok (.fn n) s
  | .ty t, s => .ok (.ty t) s
  | .glo g, s => ofO gl[g]? s
  | .tup es, s => (evEs es s).bind fun ds s => if ds.length ≤ sizeLine then .ok (.tup ds) s else .stk
  | .lst es, s => (evEs es s).bind fun ds s => if ds.length ≤ sizeLine then .ok (.lst ds) s else .stk
  | .prim p os, s => (evOs os s).bind fun ps s => match pdAll s ps with
    | some ds => ofO (p.run s.sto ds) s
    | none => .stk
  | .chain o1 o2 a b z, s => (evO a s).bind fun x s => (evO b s).bind fun y s => match x.get s, y.get s with
    | some dx, some dy => match cmpD o1 dx dy with
      | some true => (evO z s).bind fun w s => match y.get s, w.get s with
        | some dy, some dw => ofO ((cmpD o2 dy dw).map .bl) s
        | _, _ => .stk
      | some false => .ok (.bl false) s
      | none => .stk
    | _, _ => .stk
  | .ite t a b, s => (evT t s).bind fun k s => if k then evE a s else evE b s
  | .andE es, s => evAnd es s
  | .orE es, s => evOr es s
  | .notE e, s => (evE e s).bind fun d s => ofO ((tru s.sto d).map fun k => .bl (!k)) s
  | .call n fill es ks, s => (evEs es s).bind fun ds s => (evEs ks s).bind fun kd s => match fill with
    | none => (c n (ds ++ kd) s.sto).to s
    | some fl => match fillD (ds ++ kd) fl with
      | some xs => (c n xs s.sto).to s
      | none => .stk
  | .callV i es, s => match s.env[i]? with
    | some (.sh (.fn n)) => (evEs es s).bind fun ds s => (c n ds s.sto).to s
    | _ => .stk
  | .comp vs el g, s => match g with
    | .mk tg it ifs => (evIt it s).bind fun items s =>
      let e0 := s.env
      (fold (fun d acc s => match asg tg d s with
        | some s => (evTs ifs s).bind fun k s => if k then (evE el s).bind fun x s => if acc.length < sizeLine then .ok (acc ++ [x]) (s.wipe vs) else .stk else .ok acc (s.wipe vs)
        | none => .stk) items [] (s.wipe vs)).bind fun l s => .ok (.lst l) (s.back vs e0)
  | .comp2 vs vs1 el g g1, s => match g, g1 with
    | .mk tg it ifs, .mk tg1 it1 ifs1 => (evIt it s).bind fun items s =>
      let e0 := s.env
      (fold (fun d acc s => match asg tg d s with
        | some s => (evTs ifs s).bind fun k s => if k then
            (evIt it1 s).bind fun items1 s => (fold (fun d acc s => match asg tg1 d s with
              | some s => (evTs ifs1 s).bind fun k s => if k then (evE el s).bind fun x s => if acc.length < sizeLine then .ok (acc ++ [x]) (s.wipe vs1) else .stk else .ok acc (s.wipe vs1)
              | none => .stk) items1 acc (s.wipe vs1)).bind fun l s => .ok l (s.wipe vs)
          else .ok acc (s.wipe vs)
        | none => .stk) items [] (s.wipe vs)).bind fun l s => .ok (.lst l) (s.back vs e0)
  | .mut m i es, s => match s.env[i]? with
    | some (.ow _) => (evEs es s).bind fun ds s => match s.env[i]? with
      | some (.ow l) => match muD m l ds with
        | some (l', d) => .ok d (s.setSl i (.ow l'))
        | none => .stk
      | _ => .stk
    | _ => .stk
  | .dict ks es, s => (evEs es s).bind fun ds s => if ks.length = ds.length ∧ ks.length ≤ 15 ∧ ks ≠ [] ∧ ks.Nodup then .ok (.ref s.sto.length) { s with sto := s.sto ++ [.dct (ks.zip ds)] } else .stk
  | .lstR es, s => (evEs es s).bind fun ds s => if ds.length ≤ sizeLine then .ok (.ref s.sto.length) { s with sto := s.sto ++ [.lst ds] } else .stk
def evEs : Es → S → R (List D)
  | .nil, s => .ok [] s
  | .cons e r, s => (evE e s).bind fun d s => (evEs r s).bind fun ds s => .ok (d :: ds) s
def evO : O → S → R Pd
  | .b i, s => match s.env[i]? with
    | some (.sh _) => .ok (.p i) s
    | some (.ow _) => .ok (.p i) s
    | _ => .stk
  | .e x, s => (evE x s).bind fun d s => .ok (.d d) s
def evOs : Os → S → R (List Pd)
  | .nil, s => .ok [] s
  | .cons o r, s => (evO o s).bind fun p s => (evOs r s).bind fun ps s => .ok (p :: ps) s
def evAnd : Es → S → R D
  | .nil, s => .stk
  | .cons e r, s => match r with
    | .nil => evE e s
    | _ => (evE e s).bind fun d s => match tru s.sto d with
      | some true => evAnd r s
      | some false => .ok d s
      | none => .stk
def evOr : Es → S → R D
  | .nil, s => .stk
  | .cons e r, s => match r with
    | .nil => evE e s
    | _ => (evE e s).bind fun d s => match tru s.sto d with
      | some false => evOr r s
      | some true => .ok d s
      | none => .stk
def evT : T → S → R Bool
  | .val e, s => (evE e s).bind fun d s => ofO (tru s.sto d) s
  | .cmp o a b, s => (evO a s).bind fun x s => (evO b s).bind fun y s => match x.get s, y.get s with
    | some dx, some dy => ofO (cmpD o dx dy) s
    | _, _ => .stk
  | .chain o1 o2 a b z, s => (evO a s).bind fun x s => (evO b s).bind fun y s => match x.get s, y.get s with
    | some dx, some dy => match cmpD o1 dx dy with
      | some true => (evO z s).bind fun w s => match y.get s, w.get s with
        | some dy, some dw => ofO (cmpD o2 dy dw) s
        | _, _ => .stk
      | some false => .ok false s
      | none => .stk
    | _, _ => .stk
  | .not t, s => (evT t s).bind fun k s => .ok (!k) s
  | .and ts, s => evTs ts s
  | .or ts, s => evTo ts s
def evTs : Ts → S → R Bool
  | .nil, s => .ok true s
  | .cons t r, s => (evT t s).bind fun k s => if k then evTs r s else .ok false s
def evTo : Ts → S → R Bool
  | .nil, s => .ok false s
  | .cons t r, s => (evT t s).bind fun k s => if k then .ok true s else evTo r s
def evIt : Iw → S → R (List D)
  | .seq e, s => (evE e s).bind fun d s => ofO (itemsOf d) s
  | .range1 a, s => (evE a s).bind fun d s => match d with
    | .int j => if small j then .ok (rng 0 j.toNat) s else .stk
    | _ => .stk
  | .range2 a b, s => (evE a s).bind fun d s => (evE b s).bind fun e s => match d, e with
    | .int i, .int j => if small i && small j then .ok (rng i (j - i).toNat) s else .stk
    | _, _ => .stk
  | .zip a b, s => (evE a s).bind fun d s => (evE b s).bind fun e s => match d, e with
    | .lst l, .lst m => .ok ((l.zip m).map fun p => .tup [p.1, p.2]) s
    | .tup l, .tup m => .ok ((l.zip m).map fun p => .tup [p.1, p.2]) s
    | _, _ => .stk
  | .enum a, s => (evE a s).bind fun d s => match d with
    | .lst l => .ok (enumD 0 l) s
    | _ => .stk
  | .rev a, s => (evE a s).bind fun d s => match d with
    | .lst l => .ok l.reverse s
    | .tup l => .ok l.reverse s
    | _ => .stk
end
end

/-! ### statements -/
inductive Sm where
  | asg (t : Tg) (e : E)
  | own (i : Nat) (e : E)
  | par (i j : Nat) (oi oj : Bool) (a b : E)
  | put (o k e : E)
  | ex (e : E)
  | ret (e : E) | retN
  | ite (t : T) (a b : List Sm)
  | fr (t : Tg) (it : Iw) (b : List Sm)
  | whl (t : T) (b : List Sm)
  | pass | cont | brk
/-- how a block ends -/
inductive Fl where
  | nx | rt (d : D) | bk | ct
def stoPut (sto : List SO) (o k d : D) : Option (List SO) := match o, keyOf k with
  | .ref n, some k => match sto[n]? with
    | some (.dct kvs) => if kvs.length < sizeLine then some (sto.set n (.dct (kput kvs k d))) else none
    | some (.lst l) => match k with
      | .inl i => match ixN l.length i with
        | some j => some (sto.set n (.lst (l.set j d)))
        | none => none
      | .inr _ => none
    | none => none
  | _, _ => none
def loopF (f : D → S → R Fl) : List D → S → R Fl
  | [], s => .ok .nx s
  | d :: ds, s => match f d s with
    | .ok .nx s => loopF f ds s
    | .ok .ct s => loopF f ds s
    | .ok .bk s => .ok .nx s
    | .ok (.rt x) s => .ok (.rt x) s
    | .exc x s => .exc x s
    | .stk => .stk
def loopW (t : S → R Bool) (f : S → R Fl) : Nat → S → R Fl
  | 0, _ => .stk
  | n + 1, s => (t s).bind fun k s => if k then match f s with
    | .ok .nx s => loopW t f n s
    | .ok .ct s => loopW t f n s
    | .ok .bk s => .ok .nx s
    | .ok (.rt x) s => .ok (.rt x) s
    | .exc x s => .exc x s
    | .stk => .stk
    else .ok .nx s
/-- turns of a while -/
def wLim : Nat := 1000000
section
variable (gl : List D) (c : Cl)
def ownOf (d : D) : Option Sl := match d with
  | .lst l => some (.ow l)
  | _ => none
mutual
def evS : Sm → S → R Fl
  | .asg t e, s => (evE gl c e s).bind fun d s => match asg t d s with
    | some s => .ok .nx s
    | none => .stk
  | .own i e, s => (evE gl c e s).bind fun d s => match d with
    | .lst l => if i < s.env.length then .ok .nx (s.setSl i (.ow l)) else .stk
    | _ => .stk
  | .par i j oi oj a b, s => (evE gl c a s).bind fun x s => (evE gl c b s).bind fun y s =>
      match (if oi then ownOf x else some (.sh x)), (if oj then ownOf y else some (.sh y)) with
      | some x, some y => if i < s.env.length ∧ j < s.env.length then .ok .nx ((s.setSl i x).setSl j y) else .stk
      | _, _ => .stk
  | .put o k e, s => (evE gl c e s).bind fun d s => (evE gl c o s).bind fun o s => (evE gl c k s).bind fun k s => match stoPut s.sto o k d with
    | some sto => .ok .nx { s with sto := sto }
    | none => .stk
  | .ex e, s => (evE gl c e s).bind fun _ s => .ok .nx s
  | .ret e, s => (evE gl c e s).bind fun d s => .ok (.rt d) s
  | .retN, s => .ok (.rt .non) s
  | .ite t a b, s => (evT gl c t s).bind fun k s => if k then evSs a s else evSs b s
  | .fr t it b, s => (evIt gl c it s).bind fun items s => loopF (fun d s => match asg t d s with
    | some s => evSs b s
    | none => .stk) items s
  | .whl t b, s => loopW (evT gl c t) (evSs b) wLim s
  | .pass, s => .ok .nx s
  | .cont, s => .ok .ct s
  | .brk, s => .ok .bk s
def evSs : List Sm → S → R Fl
  | [], s => .ok .nx s
  | st :: r, s => (evS st s).bind fun f s => match f with
    | .nx => evSs r s
    | f => .ok f s
end
end
/-- a def: how many parameters, how many names, its body -/
structure Df where
  ps : Nat
  ns : Nat
  body : List Sm
def slots (n : Nat) (ds : List D) : List Sl := ds.map .sh ++ List.replicate (n - ds.length) .no
def Df.run (f : Df) (gl : List D) (c : Cl) (ds : List D) (sto : List SO) : RC :=
  if ds.length = f.ps then match evSs gl c f.body ⟨slots f.ns ds, sto⟩ with
    | .ok (.rt d) s => .ok d s.sto
    | .ok .nx s => .ok .non s.sto
    | .ok _ _ => .stk
    | .exc x s => .exc x s.sto
    | .stk => .stk
  else .stk
/-- calls to a depth -/
def calls (tb : List Df) (gl : List D) : Nat → Cl
  | 0 => fun _ _ _ => .stk
  | k + 1 => fun n ds sto => match tb[n]? with
    | some f => f.run gl (calls tb gl k) ds sto
    | none => .stk
end Dn

/-! Dn, part C: comparisons of data of any depth. -/
namespace Dn
open PySem PySem.Spec PyProof.Rows L2 SeqAt MeetsSeq MeetsSeq2 MeetsSeq3 SeqRoads2
open AutoSeq1 (wpAny_loadPart')

/-- o applied to two values gives k, the state stays -/
def Rc (o : CmpOp) (A : Around) (s : Shared) (y x : Value) (k : Bool) : Prop :=
  ∀ (prog : Program) (w : World) (E : Value → Shared → Prop) (Q : Value → Shared → Prop), Q (.bool k) s → wpAny (model prog w) A (richCompare o y x) Q E s
def szB (o : CmpOp) (m n : Nat) : Bool := match o with
  | .Lt => decide (m < n) | .LtE => decide (m ≤ n) | .Gt => decide (m > n) | _ => decide (m ≥ n)
/-- item by item: the first two that differ decide; fin where none does -/
inductive Fd (o : CmpOp) (A : Around) (s : Shared) (fin : Bool) : List (Value × Value) → Bool → Prop
  | nil : Fd o A s fin [] fin
  | eq {y x : Value} {l : List (Value × Value)} {k : Bool} : EqAt A s y x true → Fd o A s fin l k → Fd o A s fin ((y, x) :: l) k
  | ne {y x : Value} {l : List (Value × Value)} {k : Bool} : EqAt A s y x false → Rc o A s y x k → Fd o A s fin ((y, x) :: l) k


abbrev tupO (items : Array Value) (n : Nat) (dd : Option Addr) (sl : Array (Option Value)) : Obj := { cls := .type "tuple", dict := dd, data := .seq items n, slots := sl }
theorem tup_lt (l b : Addr) (as bs : Array Value) (n n2 : Nat) (dd dd2 : Option Addr) (sl sl2 : Array (Option Value)) (k : Bool) :
    Meets (Builtin.«tuple.__lt__» ⟨[.ref l, .ref b], []⟩)
      (fun A R s => s.heap.get? l = some (tupO as n dd sl) ∧ s.heap.get? b = some (tupO bs n2 dd2 sl2) ∧ Fd .Lt A.in1 s (szB .Lt as.size bs.size) (as.toList.zip bs.toList) k ∧ R (.ok (.ret (.bool k))) s) :=
  .of_wp fun prog w A R s h => by
    obtain ⟨hp, g, d, tk, os⟩ := s
    obtain ⟨h1, h2, hf, hR⟩ := h
    have f2 := AutoSeq1.sub_tuple_tuple
    wp_walk using wpAny_loadPart' h1, wpAny_loadPart' h2, wpAny_forIn_list _ (fun z acc st => acc.1 = none ∧ st = ⟨hp, g, d, tk, os⟩ ∧ Fd .Lt A.in1 ⟨hp, g, d, tk, os⟩ (szB .Lt as.size bs.size) z k) _
    case turn =>
      rintro ⟨y, x⟩ z acc st ⟨e0, rfl, q⟩
      cases q with
      | eq a1 a2 =>
        refine wpAny_bind (a1 prog w _ _ ?_)
        wp_walk
        exact ⟨rfl, rfl, a2⟩
      | ne a1 a2 =>
        refine wpAny_bind (a1 prog w _ _ ?_)
        repeat (first | (refine wpAny_bind (a2 prog w _ _ ?_)) | (refine a2 prog w _ _ ?_) | wp_step)
        exact ⟨_, rfl, hR⟩
    case fin =>
      rintro ⟨c1, c2⟩ st ⟨e0, rfl, q⟩
      simp only at e0
      subst e0
      cases q
      wp_walk
      exact ⟨_, rfl, by simpa [Builtin.Tuple.tupleCompareSizes, szB] using hR⟩
    case h => exact ⟨rfl, rfl, hf⟩
theorem tup_le (l b : Addr) (as bs : Array Value) (n n2 : Nat) (dd dd2 : Option Addr) (sl sl2 : Array (Option Value)) (k : Bool) :
    Meets (Builtin.«tuple.__le__» ⟨[.ref l, .ref b], []⟩)
      (fun A R s => s.heap.get? l = some (tupO as n dd sl) ∧ s.heap.get? b = some (tupO bs n2 dd2 sl2) ∧ Fd .LtE A.in1 s (szB .LtE as.size bs.size) (as.toList.zip bs.toList) k ∧ R (.ok (.ret (.bool k))) s) :=
  .of_wp fun prog w A R s h => by
    obtain ⟨hp, g, d, tk, os⟩ := s
    obtain ⟨h1, h2, hf, hR⟩ := h
    have f2 := AutoSeq1.sub_tuple_tuple
    wp_walk using wpAny_loadPart' h1, wpAny_loadPart' h2, wpAny_forIn_list _ (fun z acc st => acc.1 = none ∧ st = ⟨hp, g, d, tk, os⟩ ∧ Fd .LtE A.in1 ⟨hp, g, d, tk, os⟩ (szB .LtE as.size bs.size) z k) _
    case turn =>
      rintro ⟨y, x⟩ z acc st ⟨e0, rfl, q⟩
      cases q with
      | eq a1 a2 =>
        refine wpAny_bind (a1 prog w _ _ ?_)
        wp_walk
        exact ⟨rfl, rfl, a2⟩
      | ne a1 a2 =>
        refine wpAny_bind (a1 prog w _ _ ?_)
        repeat (first | (refine wpAny_bind (a2 prog w _ _ ?_)) | (refine a2 prog w _ _ ?_) | wp_step)
        exact ⟨_, rfl, hR⟩
    case fin =>
      rintro ⟨c1, c2⟩ st ⟨e0, rfl, q⟩
      simp only at e0
      subst e0
      cases q
      wp_walk
      exact ⟨_, rfl, by simpa [Builtin.Tuple.tupleCompareSizes, szB] using hR⟩
    case h => exact ⟨rfl, rfl, hf⟩
theorem tup_gt (l b : Addr) (as bs : Array Value) (n n2 : Nat) (dd dd2 : Option Addr) (sl sl2 : Array (Option Value)) (k : Bool) :
    Meets (Builtin.«tuple.__gt__» ⟨[.ref l, .ref b], []⟩)
      (fun A R s => s.heap.get? l = some (tupO as n dd sl) ∧ s.heap.get? b = some (tupO bs n2 dd2 sl2) ∧ Fd .Gt A.in1 s (szB .Gt as.size bs.size) (as.toList.zip bs.toList) k ∧ R (.ok (.ret (.bool k))) s) :=
  .of_wp fun prog w A R s h => by
    obtain ⟨hp, g, d, tk, os⟩ := s
    obtain ⟨h1, h2, hf, hR⟩ := h
    have f2 := AutoSeq1.sub_tuple_tuple
    wp_walk using wpAny_loadPart' h1, wpAny_loadPart' h2, wpAny_forIn_list _ (fun z acc st => acc.1 = none ∧ st = ⟨hp, g, d, tk, os⟩ ∧ Fd .Gt A.in1 ⟨hp, g, d, tk, os⟩ (szB .Gt as.size bs.size) z k) _
    case turn =>
      rintro ⟨y, x⟩ z acc st ⟨e0, rfl, q⟩
      cases q with
      | eq a1 a2 =>
        refine wpAny_bind (a1 prog w _ _ ?_)
        wp_walk
        exact ⟨rfl, rfl, a2⟩
      | ne a1 a2 =>
        refine wpAny_bind (a1 prog w _ _ ?_)
        repeat (first | (refine wpAny_bind (a2 prog w _ _ ?_)) | (refine a2 prog w _ _ ?_) | wp_step)
        exact ⟨_, rfl, hR⟩
    case fin =>
      rintro ⟨c1, c2⟩ st ⟨e0, rfl, q⟩
      simp only at e0
      subst e0
      cases q
      wp_walk
      exact ⟨_, rfl, by simpa [Builtin.Tuple.tupleCompareSizes, szB] using hR⟩
    case h => exact ⟨rfl, rfl, hf⟩
theorem tup_ge (l b : Addr) (as bs : Array Value) (n n2 : Nat) (dd dd2 : Option Addr) (sl sl2 : Array (Option Value)) (k : Bool) :
    Meets (Builtin.«tuple.__ge__» ⟨[.ref l, .ref b], []⟩)
      (fun A R s => s.heap.get? l = some (tupO as n dd sl) ∧ s.heap.get? b = some (tupO bs n2 dd2 sl2) ∧ Fd .GtE A.in1 s (szB .GtE as.size bs.size) (as.toList.zip bs.toList) k ∧ R (.ok (.ret (.bool k))) s) :=
  .of_wp fun prog w A R s h => by
    obtain ⟨hp, g, d, tk, os⟩ := s
    obtain ⟨h1, h2, hf, hR⟩ := h
    have f2 := AutoSeq1.sub_tuple_tuple
    wp_walk using wpAny_loadPart' h1, wpAny_loadPart' h2, wpAny_forIn_list _ (fun z acc st => acc.1 = none ∧ st = ⟨hp, g, d, tk, os⟩ ∧ Fd .GtE A.in1 ⟨hp, g, d, tk, os⟩ (szB .GtE as.size bs.size) z k) _
    case turn =>
      rintro ⟨y, x⟩ z acc st ⟨e0, rfl, q⟩
      cases q with
      | eq a1 a2 =>
        refine wpAny_bind (a1 prog w _ _ ?_)
        wp_walk
        exact ⟨rfl, rfl, a2⟩
      | ne a1 a2 =>
        refine wpAny_bind (a1 prog w _ _ ?_)
        repeat (first | (refine wpAny_bind (a2 prog w _ _ ?_)) | (refine a2 prog w _ _ ?_) | wp_step)
        exact ⟨_, rfl, hR⟩
    case fin =>
      rintro ⟨c1, c2⟩ st ⟨e0, rfl, q⟩
      simp only at e0
      subst e0
      cases q
      wp_walk
      exact ⟨_, rfl, by simpa [Builtin.Tuple.tupleCompareSizes, szB] using hR⟩
    case h => exact ⟨rfl, rfl, hf⟩

section
variable {A : Around} {s : Shared} {l b : Addr} {as bs : Array Value} {k : Bool}
theorem rc_tup {o : CmpOp} (ho : o = .Lt ∨ o = .LtE ∨ o = .Gt ∨ o = .GtE) (hl : s.heap.IsTuple l as) (hb : s.heap.IsTuple b bs) (hu : A.units < cLine) (hf : Fd o A.in1 s (szB o as.size bs.size) (as.toList.zip bs.toList) k) : Rc o A s (.ref l) (.ref b) k := fun prog w E Q h => by
  obtain ⟨⟨c1, d1, t1, q1⟩, e1, rfl, n1, rfl⟩ := hl
  obtain ⟨⟨c2, d2, t2, q2⟩, e2, rfl, n2, rfl⟩ := hb
  rcases ho with rfl | rfl | rfl | rfl
  · exact richCompare_meets_room (op := .Lt) ⟨_, e1, rfl⟩ ⟨_, e2, rfl⟩ F.slot_tuple_lt F.entry_tuple_lt (F.args_tuple_lt_2 _ _) (tup_lt l b as bs n1 n2 d1 d2 q1 q2 k) ⟨e1, e2, hf, show Value.bool k ≠ Value.notImplemented ∧ Q (.bool k) s from ⟨(fun x => nomatch x), h⟩⟩ hu
  · exact richCompare_meets_room (op := .LtE) ⟨_, e1, rfl⟩ ⟨_, e2, rfl⟩ F.slot_tuple_le F.entry_tuple_le (F.args_tuple_le_2 _ _) (tup_le l b as bs n1 n2 d1 d2 q1 q2 k) ⟨e1, e2, hf, show Value.bool k ≠ Value.notImplemented ∧ Q (.bool k) s from ⟨(fun x => nomatch x), h⟩⟩ hu
  · exact richCompare_meets_room (op := .Gt) ⟨_, e1, rfl⟩ ⟨_, e2, rfl⟩ F.slot_tuple_gt F.entry_tuple_gt (F.args_tuple_gt_2 _ _) (tup_gt l b as bs n1 n2 d1 d2 q1 q2 k) ⟨e1, e2, hf, show Value.bool k ≠ Value.notImplemented ∧ Q (.bool k) s from ⟨(fun x => nomatch x), h⟩⟩ hu
  · exact richCompare_meets_room (op := .GtE) ⟨_, e1, rfl⟩ ⟨_, e2, rfl⟩ F.slot_tuple_ge F.entry_tuple_ge (F.args_tuple_ge_2 _ _) (tup_ge l b as bs n1 n2 d1 d2 q1 q2 k) ⟨e1, e2, hf, show Value.bool k ≠ Value.notImplemented ∧ Q (.bool k) s from ⟨(fun x => nomatch x), h⟩⟩ hu
end

/-! ### data, as the library reads it -/
theorem toPyL_cons {d : D} {ds : List D} {p : List PyData} (h : toPyL (d :: ds) = some p) : ∃ a b, toPy d = some a ∧ toPyL ds = some b ∧ p = a :: b := by
  rw [toPyL] at h
  cases e1 : toPy d with
  | none => rw [e1] at h; cases h
  | some a =>
    cases e2 : toPyL ds with
    | none => rw [e1, e2] at h; cases h
    | some b => rw [e1, e2] at h; cases h; exact ⟨a, b, rfl, rfl, rfl⟩
mutual
theorem dep_py : ∀ {d : D} {p : PyData}, toPy d = some p → p.depth = dep d
  | .non, p, h => by rw [toPy] at h; cases h; rfl
  | .bl _, p, h => by rw [toPy] at h; cases h; rfl
  | .int _, p, h => by rw [toPy] at h; cases h; rfl
  | .str _, p, h => by rw [toPy] at h; cases h; rfl
  | .tup l, p, h => by
    rw [toPy] at h
    obtain ⟨ps, h1, rfl⟩ := Option.map_eq_some_iff.mp h
    rw [PyData.depth, dep, depL_py h1]
  | .lst l, p, h => by
    rw [toPy] at h
    obtain ⟨ps, h1, rfl⟩ := Option.map_eq_some_iff.mp h
    rw [PyData.depth, dep, depL_py h1]
  | .ref _, p, h => by rw [toPy] at h; cases h
  | .fn _, p, h => by rw [toPy] at h; cases h
  | .ty _, p, h => by rw [toPy] at h; cases h
  | .kl _, p, h => by rw [toPy] at h; cases h
theorem depL_py : ∀ {d : List D} {p : List PyData}, toPyL d = some p → PyData.depthAll p = depL d
  | [], p, h => by rw [toPyL] at h; cases h; rfl
  | d :: ds, p, h => by
    obtain ⟨a, b, h1, h2, rfl⟩ := toPyL_cons h
    rw [PyData.depthAll, depL, dep_py h1, depL_py h2]
end
mutual
theorem dok_py : ∀ {d : D}, dok d = true → ∃ p, toPy d = some p ∧ p.canLay0 = true
  | .non, h => ⟨_, by rw [toPy], rfl⟩
  | .bl _, h => ⟨_, by rw [toPy], rfl⟩
  | .int _, h => ⟨_, by rw [toPy], rfl⟩
  | .str x, h => ⟨_, by rw [toPy], by rw [dok] at h; rw [PyData.canLay0]; exact h⟩
  | .tup l, h => by
    rw [dok] at h
    obtain ⟨ps, h1, h2⟩ := dokL_py h
    exact ⟨.tuple ps, by rw [toPy, h1]; rfl, by rw [PyData.canLay0]; exact h2⟩
  | .lst l, h => by
    rw [dok] at h
    obtain ⟨ps, h1, h2⟩ := dokL_py h
    exact ⟨.list ps, by rw [toPy, h1]; rfl, by rw [PyData.canLay0]; exact h2⟩
  | .ref _, h => by rw [dok] at h; cases h
  | .fn _, h => by rw [dok] at h; cases h
  | .ty _, h => by rw [dok] at h; cases h
  | .kl _, h => by rw [dok] at h; cases h
theorem dokL_py : ∀ {d : List D}, dokL d = true → ∃ p, toPyL d = some p ∧ PyData.canLayAll0 p = true
  | [], h => ⟨_, by rw [toPyL], rfl⟩
  | d :: ds, h => by
    rw [dokL, Bool.and_eq_true] at h
    obtain ⟨a, h1, h2⟩ := dok_py h.1
    obtain ⟨b, h3, h4⟩ := dokL_py h.2
    exact ⟨a :: b, by rw [toPyL, h1, h3], by rw [PyData.canLayAll0, h2, h4]; rfl⟩
end
mutual
theorem deq_eqv : ∀ {d e : D} {p q : PyData}, toPy d = some p → toPy e = some q → deq d e = PyData.eqv p q
  | .non, e, p, q, h, g => by
    rw [toPy] at h; cases h
    cases e <;> simp only [toPy, Option.some.injEq, Option.map_eq_some_iff, reduceCtorEq] at g <;> first | (subst g; rfl) | (obtain ⟨_, _, rfl⟩ := g; rfl)
  | .bl a, e, p, q, h, g => by
    rw [toPy] at h; cases h
    cases e <;> simp only [toPy, Option.some.injEq, Option.map_eq_some_iff, reduceCtorEq] at g <;> first | (subst g; rfl) | (obtain ⟨_, _, rfl⟩ := g; rfl)
  | .int a, e, p, q, h, g => by
    rw [toPy] at h; cases h
    cases e <;> simp only [toPy, Option.some.injEq, Option.map_eq_some_iff, reduceCtorEq] at g <;> first | (subst g; rfl) | (obtain ⟨_, _, rfl⟩ := g; rfl)
  | .str a, e, p, q, h, g => by
    rw [toPy] at h; cases h
    cases e <;> simp only [toPy, Option.some.injEq, Option.map_eq_some_iff, reduceCtorEq] at g <;> first | (subst g; rfl) | (obtain ⟨_, _, rfl⟩ := g; rfl)
  | .tup l, e, p, q, h, g => by
    rw [toPy] at h
    obtain ⟨ps, h1, rfl⟩ := Option.map_eq_some_iff.mp h
    cases e with
    | tup m =>
      rw [toPy] at g
      obtain ⟨qs, g1, rfl⟩ := Option.map_eq_some_iff.mp g
      rw [deq, PyData.eqv]
      exact deqL_eqv h1 g1
    | _ => simp only [toPy, Option.some.injEq, Option.map_eq_some_iff, reduceCtorEq] at g <;> first | (subst g; rfl) | (obtain ⟨_, _, rfl⟩ := g; rfl)
  | .lst l, e, p, q, h, g => by
    rw [toPy] at h
    obtain ⟨ps, h1, rfl⟩ := Option.map_eq_some_iff.mp h
    cases e with
    | lst m =>
      rw [toPy] at g
      obtain ⟨qs, g1, rfl⟩ := Option.map_eq_some_iff.mp g
      rw [deq, PyData.eqv]
      exact deqL_eqv h1 g1
    | _ => simp only [toPy, Option.some.injEq, Option.map_eq_some_iff, reduceCtorEq] at g <;> first | (subst g; rfl) | (obtain ⟨_, _, rfl⟩ := g; rfl)
  | .ref n, e, p, q, h, g => by rw [toPy] at h; cases h
  | .fn n, e, p, q, h, g => by rw [toPy] at h; cases h
  | .ty n, e, p, q, h, g => by rw [toPy] at h; cases h
  | .kl n, e, p, q, h, g => by rw [toPy] at h; cases h
theorem deqL_eqv : ∀ {d e : List D} {p q : List PyData}, toPyL d = some p → toPyL e = some q → deqL d e = PyData.eqvAll p q
  | [], [], p, q, h, g => by rw [toPyL] at h g; cases h; cases g; rfl
  | [], e :: es, p, q, h, g => by
    obtain ⟨a, b, _, _, rfl⟩ := toPyL_cons g
    rw [toPyL] at h; cases h; rfl
  | d :: ds, [], p, q, h, g => by
    obtain ⟨a, b, _, _, rfl⟩ := toPyL_cons h
    rw [toPyL] at g; cases g; rfl
  | d :: ds, e :: es, p, q, h, g => by
    obtain ⟨a, b, h1, h2, rfl⟩ := toPyL_cons h
    obtain ⟨a', b', g1, g2, rfl⟩ := toPyL_cons g
    rw [deqL, PyData.eqvAll, deq_eqv h1 g1, deqL_eqv h2 g2]
end
end Dn

/-! Dn, part D: operations by values. -/
namespace Dn
open PySem PySem.Spec PyProof.Rows L2 SeqAt

theorem readsAll_len {h : Heap} : ∀ {vs : List Value} {ps : List PyData} {as : List Addr}, ReadsAll h vs ps as → vs.length = ps.length
  | _, _, _, .nil => rfl
  | _, _, _, .cons _ t => by rw [List.length_cons, List.length_cons, readsAll_len t]
theorem toPyL_len : ∀ {ds : List D} {ps : List PyData}, toPyL ds = some ps → ps.length = ds.length
  | [], ps, h => by rw [toPyL] at h; cases h; rfl
  | d :: ds, ps, h => by
    obtain ⟨a, b, _, h2, rfl⟩ := toPyL_cons h
    rw [List.length_cons, List.length_cons, toPyL_len h2]
theorem rc_int {o : CmpOp} (ho : o = .Lt ∨ o = .LtE ∨ o = .Gt ∨ o = .GtE) {A : Around} {s : Shared} {i j : Int} {t u : Tok} : Rc o A s (.int i t) (.int j u) (ordI o i j) := fun prog w E Q h => by
  rcases ho with rfl | rfl | rfl | rfl
  · exact (PyProof.Rows.lt_int h : wpAny (model prog w) A (compareOp .Lt (.int i t) (.int j u)) Q E s)
  · exact (PyProof.Rows.le_int h : wpAny (model prog w) A (compareOp .LtE (.int i t) (.int j u)) Q E s)
  · exact (PyProof.Rows.gt_int h : wpAny (model prog w) A (compareOp .Gt (.int i t) (.int j u)) Q E s)
  · exact (PyProof.Rows.ge_int h : wpAny (model prog w) A (compareOp .GtE (.int i t) (.int j u)) Q E s)
theorem rc_str {o : CmpOp} (ho : o = .Lt ∨ o = .LtE ∨ o = .Gt ∨ o = .GtE) {A : Around} {s : Shared} {i j : PySem.Str} {t u : Tok} : Rc o A s (.str i t) (.str j u) (ordS o i j) := fun prog w E Q h => by
  rcases ho with rfl | rfl | rfl | rfl
  · exact (PyProof.Rows.lt_str h : wpAny (model prog w) A (compareOp .Lt (.str i t) (.str j u)) Q E s)
  · exact (PySem.P.le_str h : wpAny (model prog w) A (compareOp .LtE (.str i t) (.str j u)) Q E s)
  · exact (PySem.P.gt_str h : wpAny (model prog w) A (compareOp .Gt (.str i t) (.str j u)) Q E s)
  · exact (PySem.P.ge_str h : wpAny (model prog w) A (compareOp .GtE (.str i t) (.str j u)) Q E s)
theorem szB_succ {o : CmpOp} (ho : o = .Lt ∨ o = .LtE ∨ o = .Gt ∨ o = .GtE) (m n : Nat) : szB o (m + 1) (n + 1) = szB o m n := by
  rcases ho with rfl | rfl | rfl | rfl <;> simp only [szB] <;> exact decide_eq_decide.mpr (by omega)
mutual
theorem rc_d {o : CmpOp} (ho : o = .Lt ∨ o = .LtE ∨ o = .Gt ∨ o = .GtE) {A : Around} {s : Shared} : ∀ {d e : D} {p q : PyData} {v u : Value} {as bs : List Addr} {k : Bool}, toPy d = some p → toPy e = some q → p.canLay0 = true → q.canLay0 = true → Reads s.heap v p as → Reads s.heap u q bs →
    dcmp o d e = some k → A.units + dep d < cLine → Rc o A s v u k
  | .tup l, .tup m, p, q, v, u, as, bs, k, h, g, ch, cg, rh, rg, hk, hu => by
    rw [toPy] at h g
    obtain ⟨ps, h1, rfl⟩ := Option.map_eq_some_iff.mp h
    obtain ⟨qs, g1, rfl⟩ := Option.map_eq_some_iff.mp g
    cases rh with
    | tuple e1 e2 e3 r1 =>
      cases rg with
      | tuple e1' e2' e3' r2 =>
        rw [dcmp] at hk
        rw [dep] at hu
        rw [PyData.canLay0] at ch cg
        have q := rc_l ho (A := A.in1) h1 g1 ch cg r1 r2 hk (by show A.units + 1 + _ < _; omega)
        exact rc_tup ho ⟨_, e1, e2, _, e3⟩ ⟨_, e1', e2', _, e3'⟩ (by omega) (by simpa using q)
  | .str x, .str y, p, q, v, u, as, bs, k, h, g, ch, cg, rh, rg, hk, hu => by
    rw [toPy] at h g; cases h; cases g
    cases rh; cases rg
    rw [dcmp] at hk; cases hk
    exact rc_str ho
  | .int x, .int y, p, q, v, u, as, bs, k, h, g, ch, cg, rh, rg, hk, hu => by
    rw [toPy] at h g; cases h; cases g
    cases rh; cases rg
    rw [dcmp] at hk; cases hk
    exact rc_int ho
  | .non, e, p, q, v, u, as, bs, k, h, g, ch, cg, rh, rg, hk, hu => by cases e <;> simp [dcmp] at hk
  | .bl _, e, p, q, v, u, as, bs, k, h, g, ch, cg, rh, rg, hk, hu => by cases e <;> simp [dcmp] at hk
  | .lst _, e, p, q, v, u, as, bs, k, h, g, ch, cg, rh, rg, hk, hu => by cases e <;> simp [dcmp] at hk
  | .ref _, e, p, q, v, u, as, bs, k, h, g, ch, cg, rh, rg, hk, hu => by cases e <;> simp [dcmp] at hk
  | .fn _, e, p, q, v, u, as, bs, k, h, g, ch, cg, rh, rg, hk, hu => by cases e <;> simp [dcmp] at hk
  | .ty _, e, p, q, v, u, as, bs, k, h, g, ch, cg, rh, rg, hk, hu => by cases e <;> simp [dcmp] at hk
  | .kl _, e, p, q, v, u, as, bs, k, h, g, ch, cg, rh, rg, hk, hu => by cases e <;> simp [dcmp] at hk
  | .tup _, .non, p, q, v, u, as, bs, k, h, g, ch, cg, rh, rg, hk, hu => by simp [dcmp] at hk
  | .tup _, .bl _, p, q, v, u, as, bs, k, h, g, ch, cg, rh, rg, hk, hu => by simp [dcmp] at hk
  | .tup _, .int _, p, q, v, u, as, bs, k, h, g, ch, cg, rh, rg, hk, hu => by simp [dcmp] at hk
  | .tup _, .str _, p, q, v, u, as, bs, k, h, g, ch, cg, rh, rg, hk, hu => by simp [dcmp] at hk
  | .tup _, .lst _, p, q, v, u, as, bs, k, h, g, ch, cg, rh, rg, hk, hu => by simp [dcmp] at hk
  | .tup _, .ref _, p, q, v, u, as, bs, k, h, g, ch, cg, rh, rg, hk, hu => by simp [dcmp] at hk
  | .tup _, .fn _, p, q, v, u, as, bs, k, h, g, ch, cg, rh, rg, hk, hu => by simp [dcmp] at hk
  | .tup _, .ty _, p, q, v, u, as, bs, k, h, g, ch, cg, rh, rg, hk, hu => by simp [dcmp] at hk
  | .str _, .non, p, q, v, u, as, bs, k, h, g, ch, cg, rh, rg, hk, hu => by simp [dcmp] at hk
  | .str _, .bl _, p, q, v, u, as, bs, k, h, g, ch, cg, rh, rg, hk, hu => by simp [dcmp] at hk
  | .str _, .int _, p, q, v, u, as, bs, k, h, g, ch, cg, rh, rg, hk, hu => by simp [dcmp] at hk
  | .str _, .tup _, p, q, v, u, as, bs, k, h, g, ch, cg, rh, rg, hk, hu => by simp [dcmp] at hk
  | .str _, .lst _, p, q, v, u, as, bs, k, h, g, ch, cg, rh, rg, hk, hu => by simp [dcmp] at hk
  | .str _, .ref _, p, q, v, u, as, bs, k, h, g, ch, cg, rh, rg, hk, hu => by simp [dcmp] at hk
  | .str _, .fn _, p, q, v, u, as, bs, k, h, g, ch, cg, rh, rg, hk, hu => by simp [dcmp] at hk
  | .str _, .ty _, p, q, v, u, as, bs, k, h, g, ch, cg, rh, rg, hk, hu => by simp [dcmp] at hk
  | .int _, .non, p, q, v, u, as, bs, k, h, g, ch, cg, rh, rg, hk, hu => by simp [dcmp] at hk
  | .int _, .bl _, p, q, v, u, as, bs, k, h, g, ch, cg, rh, rg, hk, hu => by simp [dcmp] at hk
  | .int _, .str _, p, q, v, u, as, bs, k, h, g, ch, cg, rh, rg, hk, hu => by simp [dcmp] at hk
  | .int _, .tup _, p, q, v, u, as, bs, k, h, g, ch, cg, rh, rg, hk, hu => by simp [dcmp] at hk
  | .int _, .lst _, p, q, v, u, as, bs, k, h, g, ch, cg, rh, rg, hk, hu => by simp [dcmp] at hk
  | .int _, .ref _, p, q, v, u, as, bs, k, h, g, ch, cg, rh, rg, hk, hu => by simp [dcmp] at hk
  | .int _, .fn _, p, q, v, u, as, bs, k, h, g, ch, cg, rh, rg, hk, hu => by simp [dcmp] at hk
  | .int _, .ty _, p, q, v, u, as, bs, k, h, g, ch, cg, rh, rg, hk, hu => by simp [dcmp] at hk
theorem rc_l {o : CmpOp} (ho : o = .Lt ∨ o = .LtE ∨ o = .Gt ∨ o = .GtE) {A : Around} {s : Shared} : ∀ {d e : List D} {p q : List PyData} {vs us : List Value} {as bs : List Addr} {k : Bool}, toPyL d = some p → toPyL e = some q → PyData.canLayAll0 p = true → PyData.canLayAll0 q = true → ReadsAll s.heap vs p as → ReadsAll s.heap us q bs →
    dcmpL o d e = some k → A.units + depL d < cLine → Fd o A s (szB o vs.length us.length) (vs.zip us) k
  | [], [], p, q, vs, us, as, bs, k, h, g, ch, cg, rh, rg, hk, hu => by
    rw [toPyL] at h g; cases h; cases g; cases rh; cases rg
    rw [dcmpL] at hk; cases hk
    have e : szB o 0 0 = ordI o 0 0 := by rcases ho with rfl | rfl | rfl | rfl <;> rfl
    rw [← e]; exact .nil
  | [], y :: ys, p, q, vs, us, as, bs, k, h, g, ch, cg, rh, rg, hk, hu => by
    rw [toPyL] at h; cases h; cases rh
    obtain ⟨a', b', g1, g2, rfl⟩ := toPyL_cons g
    cases rg with
    | cons r1 r2 =>
      rw [dcmpL] at hk; cases hk
      rename_i vs' _ _
      have e : szB o 0 (vs'.length + 1) = ordI o 0 1 := by rcases ho with rfl | rfl | rfl | rfl <;> simp [szB, ordI]
      rw [← e]; exact .nil
  | x :: xs, [], p, q, vs, us, as, bs, k, h, g, ch, cg, rh, rg, hk, hu => by
    rw [toPyL] at g; cases g; cases rg
    obtain ⟨a', b', g1, g2, rfl⟩ := toPyL_cons h
    cases rh with
    | cons r1 r2 =>
      rw [dcmpL] at hk; cases hk
      rename_i vs' _ _
      have e : szB o (vs'.length + 1) 0 = ordI o 1 0 := by rcases ho with rfl | rfl | rfl | rfl <;> simp [szB, ordI]
      rw [← e]; exact .nil
  | x :: xs, y :: ys, p, q, vs, us, as, bs, k, h, g, ch, cg, rh, rg, hk, hu => by
    obtain ⟨a, b, h1, h2, rfl⟩ := toPyL_cons h
    obtain ⟨a', b', g1, g2, rfl⟩ := toPyL_cons g
    rw [PyData.canLayAll0, Bool.and_eq_true] at ch cg
    cases rh with
    | cons r1 r2 =>
      cases rg with
      | cons r1' r2' =>
        rw [dcmpL] at hk
        rw [depL] at hu
        have hd := deq_eqv h1 g1
        have hea : ∀ b0, deq x y = b0 → EqAt A s _ _ b0 := fun b0 hb prog w E Q hq => eqBoolOverData prog w A E s _ _ _ _ _ _ Q r1 r1' ch.1 cg.1 (by rw [dep_py h1]; have := Nat.min_le_left (dep x) a'.depth; omega) (by rw [← hd, hb]; exact hq)
        cases e : deq x y with
        | true =>
          rw [e, if_pos rfl] at hk
          have q := rc_l ho (A := A) h2 g2 ch.2 cg.2 r2 r2' hk (by omega)
          rw [List.length_cons, List.length_cons, szB_succ ho]
          exact .eq (hea _ e) q
        | false =>
          rw [e, if_neg Bool.false_ne_true] at hk
          exact .ne (hea _ e) (rc_d ho h1 g1 ch.1 cg.1 r1 r1' hk (by omega))
end

/-! ### what may be read at a value -/
section
variable (K : PySem.W.Frag) (fa : Nat → Addr) (Wr : Addr → Prop) (ρ : List Addr) (H : Hp)
/-- as Rp; an own list, too -/
def Rr (d : D) (v : V) : Prop := Rp K fa Wr ρ H d v ∨ ∃ l a xs, d = .lst l ∧ v = .ref a ∧ H a = some (.lst xs) ∧ RpL K fa Wr ρ H l xs
def RrL : List D → List V → Prop := Paired (Rr K fa Wr ρ H)
end
section
variable {K : PySem.W.Frag} {fa : Nat → Addr} {Wr : Addr → Prop} {ρ : List Addr} {H : Hp}
theorem Rr.of {d : D} {v : V} (h : Rp K fa Wr ρ H d v) : Rr K fa Wr ρ H d v := .inl h
/-- a list that is read -/
theorem Rr.lst {l : List D} {v : V} (h : Rr K fa Wr ρ H (.lst l) v) : ∃ a xs, v = .ref a ∧ Rd H a (.lst xs) ∧ RpL K fa Wr ρ H l xs := by
  rcases h with h | ⟨l', a, xs, e, rfl, h, r⟩
  · rw [Rp] at h
    obtain ⟨a, xs, rfl, h, r⟩ := h
    exact ⟨a, xs, rfl, h.2, r⟩
  · cases e; exact ⟨a, xs, rfl, .inl h, r⟩
theorem Rr.tup {l : List D} {v : V} (h : Rr K fa Wr ρ H (.tup l) v) : ∃ a xs, v = .ref a ∧ SqT K H a xs ∧ RpL K fa Wr ρ H l xs := by
  rcases h with h | ⟨l', a, xs, e, rfl, h, r⟩
  · rw [Rp] at h; exact h
  · cases e
/-- what is no list is as ever -/
theorem Rr.rp {d : D} {v : V} (h : Rr K fa Wr ρ H d v) (n : ∀ l, d ≠ .lst l) : Rp K fa Wr ρ H d v := by
  rcases h with h | ⟨l, a, xs, rfl, _⟩
  · exact h
  · exact absurd rfl (n l)
mutual
theorem Rp.dp : ∀ {d : D} {v : V} {p : PyData}, Rp K fa Wr ρ H d v → toPy d = some p → Dp K H v p
  | .non, v, p, h, e => by rw [Rp] at h; rw [toPy] at e; cases e; subst h; exact .non
  | .bl b, v, p, h, e => by rw [Rp] at h; rw [toPy] at e; cases e; subst h; exact .bl b
  | .int b, v, p, h, e => by rw [Rp] at h; rw [toPy] at e; cases e; subst h; exact .int b
  | .str b, v, p, h, e => by rw [Rp] at h; rw [toPy] at e; cases e; subst h; exact .str b
  | .tup l, v, p, h, e => by
    rw [Rp] at h; rw [toPy] at e
    obtain ⟨ps, h1, rfl⟩ := Option.map_eq_some_iff.mp e
    obtain ⟨a, xs, rfl, h, r⟩ := h
    exact .tup h (RpL.dp r h1)
  | .lst l, v, p, h, e => by
    rw [Rp] at h; rw [toPy] at e
    obtain ⟨ps, h1, rfl⟩ := Option.map_eq_some_iff.mp e
    obtain ⟨a, xs, rfl, h, r⟩ := h
    exact .lst (.inl h.2) (RpL.dp r h1)
  | .ref _, v, p, h, e => by rw [toPy] at e; cases e
  | .fn _, v, p, h, e => by rw [toPy] at e; cases e
  | .ty _, v, p, h, e => by rw [toPy] at e; cases e
  | .kl _, v, p, h, e => by rw [toPy] at e; cases e
theorem RpL.dp : ∀ {ds : List D} {vs : List V} {p : List PyData}, RpL K fa Wr ρ H ds vs → toPyL ds = some p → DpAll K H vs p
  | [], vs, p, h, e => by rw [RpL] at h; rw [toPyL] at e; cases e; subst h; exact .nil
  | d :: ds, vs, p, h, e => by
    obtain ⟨v, r, rfl, h1, h2⟩ := h.inv
    obtain ⟨a, b, e1, e2, rfl⟩ := toPyL_cons e
    exact .cons (Rp.dp h1 e1) (RpL.dp h2 e2)
end
theorem Rr.dp {d : D} {v : V} {p : PyData} (h : Rr K fa Wr ρ H d v) (e : toPy d = some p) : Dp K H v p := by
  rcases h with h | ⟨l, a, xs, rfl, rfl, h, r⟩
  · exact h.dp e
  · rw [toPy] at e
    obtain ⟨ps, h1, rfl⟩ := Option.map_eq_some_iff.mp e
    exact .lst (SqL.of h) (r.dp h1)
theorem eok_py {d : D} (h : eok d = true) : ∃ p, toPy d = some p ∧ SeqAt.shaped p = true ∧ p.canLay0 = true := by
  unfold eok at h
  rw [Bool.and_eq_true, decide_eq_true_eq] at h
  obtain ⟨p, h1, h2⟩ := dok_py h.1
  exact ⟨p, h1, by unfold SeqAt.shaped; rw [h2, dep_py h1, decide_eq_true h.2]; rfl, h2⟩
end

/-! ### comparisons -/
section
variable {X : Cx}
/-- o at two values that bear data -/
def rCmp (K : PySem.W.Frag) (o : CmpOp) : R2 := fun x y H Q => ∃ fa Wr ρ dx dy b, Rr K fa Wr ρ H dx x ∧ Rr K fa Wr ρ H dy y ∧ cmpD o dx dy = some b ∧ Q (.bl b) H
theorem ord_ok {o : CmpOp} (ho : o = .Lt ∨ o = .LtE ∨ o = .Gt ∨ o = .GtE) (hu : X.A.units + 70 < cLine) {fa : Nat → Addr} {Wr : Addr → Prop} {ρ : List Addr} {pins : List (Addr × Obj)} {s : Shared} {σ : L2.St} {H : Hp} {x y : V} {v u : Value} {Q : VK} {dx dy : D} {b : Bool} (I : Inv X pins σ H s) (rx : RelV x v) (ry : RelV y u)
    (hx : Rr X.K fa Wr ρ H dx x) (hy : Rr X.K fa Wr ρ H dy y) (e1 : eok dx = true) (e2 : eok dy = true) (h : dcmp o dx dy = some b) (q : Q (.bl b) H) : wpAny (model X.prog X.w) X.A (richCompare o v u) (EP X pins σ Q) X.xe s := by
  obtain ⟨p, p1, p2, p3⟩ := eok_py e1
  obtain ⟨p', p1', p2', p3'⟩ := eok_py e2
  obtain ⟨as, r1⟩ := Dp.reads I p x v (hx.dp p1) rx
  obtain ⟨bs, r2⟩ := Dp.reads I p' y u (hy.dp p1') ry
  have hd : dep dx ≤ 64 := by
    unfold eok at e1
    rw [Bool.and_eq_true, decide_eq_true_eq] at e1
    exact e1.2
  exact rc_d ho p1 p1' p3 p3' r1 r2 h (by omega) X.prog X.w X.xe _ ⟨.bl b, H, I, rfl, q⟩
theorem cls_isN {K : PySem.W.Frag} {fa : Nat → Addr} {Wr : Addr → Prop} {ρ : List Addr} {H : Hp} {d : D} {v : V} (h : Rr K fa Wr ρ H d v) (c : (clsOf d).isSome = true) : decide (v = .non) = isNon d := by
  cases d with
  | lst l => obtain ⟨a, xs, rfl, _⟩ := h.lst; rfl
  | tup l => obtain ⟨a, xs, rfl, _⟩ := h.tup; rfl
  | ref n => cases c
  | fn n => cases c
  | ty n => cases c
  | kl n => cases c
  | _ => have h := h.rp (fun l e => nomatch e); rw [Rp] at h; subst h; rfl
theorem tup_eok {x : D} {l : List D} (h : (eok x && dokL l && decide (depL l ≤ 63)) = true) : ∃ p ps, toPy x = some p ∧ toPyL l = some ps ∧ SeqAt.shaped p = true ∧ p.canLay0 = true ∧ PyData.canLayAll0 ps = true ∧ SeqAt.shaped (.list ps) = true := by
  rw [Bool.and_eq_true, Bool.and_eq_true, decide_eq_true_eq] at h
  obtain ⟨⟨h1, h2⟩, h3⟩ := h
  obtain ⟨p, a1, a2, a3⟩ := eok_py h1
  obtain ⟨ps, b1, b2⟩ := dokL_py h2
  refine ⟨p, ps, a1, b1, a2, a3, b2, ?_⟩
  unfold SeqAt.shaped
  rw [PyData.canLay0, b2, PyData.depth, depL_py b1, decide_eq_true (by omega)]
  rfl
theorem any_eqv : ∀ {l : List D} {ps : List PyData} {x : D} {p : PyData}, toPyL l = some ps → toPy x = some p → (l.any fun z => deq z x) = ps.any fun z => PyData.eqv z p
  | [], ps, x, p, h, g => by rw [toPyL] at h; cases h; rfl
  | d :: ds, ps, x, p, h, g => by
    obtain ⟨a, b, h1, h2, rfl⟩ := toPyL_cons h
    rw [List.any_cons, List.any_cons, deq_eqv h1 g, any_eqv h2 g]
theorem dec_vstr {a b : PySem.Str} : decide (V.str a = V.str b) = decide (a = b) := by
  rw [Bool.eq_iff_iff]; simp
theorem op_cmp (o : CmpOp) (hu : X.A.units + 200 < cLine) : OpR X (compareOp o) (rCmp X.K o) := by
  intro pins s σ H x y v u Q I rx ry h
  obtain ⟨fa, Wr, ρ, dx, dy, b, hx, hy, hc, q⟩ := h
  cases o with
  | Eq =>
    simp only [cmpD] at hc
    split at hc
    · cases hc
      have hx := hx.rp (fun l e => nomatch e)
      have hy := hy.rp (fun l e => nomatch e)
      rw [Rp] at hx hy
      subst hx hy
      refine op_eq pins s σ H _ _ v u Q I rx ry ⟨rfl, ?_⟩
      rw [dec_vstr]
      exact q
    split at hc
    · rename_i he
      rw [Bool.and_eq_true] at he
      cases hc
      obtain ⟨p, p1, p2, _⟩ := eok_py he.1
      obtain ⟨p', p1', p2', _⟩ := eok_py he.2
      exact op_eqD (by omega) pins s σ H x y v u Q I rx ry ⟨p, p', hx.dp p1, hy.dp p1', p2, p2', by rw [← deq_eqv p1 p1']; exact q⟩
    · cases hc
  | NotEq =>
    simp only [cmpD] at hc
    split at hc
    · cases hc
      have hx := hx.rp (fun l e => nomatch e)
      have hy := hy.rp (fun l e => nomatch e)
      rw [Rp] at hx hy
      subst hx hy
      refine op_ne pins s σ H _ _ v u Q I rx ry ⟨rfl, ?_⟩
      rw [dec_vstr]
      exact q
    split at hc
    · rename_i he
      rw [Bool.and_eq_true] at he
      cases hc
      obtain ⟨p, p1, p2, _⟩ := eok_py he.1
      obtain ⟨p', p1', p2', _⟩ := eok_py he.2
      exact op_neD (by omega) pins s σ H x y v u Q I rx ry ⟨p, p', hx.dp p1, hy.dp p1', p2, p2', by rw [← deq_eqv p1 p1']; exact q⟩
    · cases hc
  | Lt =>
    simp only [cmpD] at hc
    split at hc
    · rename_i he
      rw [Bool.and_eq_true] at he
      exact ord_ok (.inl rfl) (by omega) I rx ry hx hy he.1 he.2 hc q
    · cases hc
  | LtE =>
    simp only [cmpD] at hc
    split at hc
    · rename_i he
      rw [Bool.and_eq_true] at he
      exact ord_ok (.inr (.inl rfl)) (by omega) I rx ry hx hy he.1 he.2 hc q
    · cases hc
  | Gt =>
    simp only [cmpD] at hc
    split at hc
    · rename_i he
      rw [Bool.and_eq_true] at he
      exact ord_ok (.inr (.inr (.inl rfl))) (by omega) I rx ry hx hy he.1 he.2 hc q
    · cases hc
  | GtE =>
    simp only [cmpD] at hc
    split at hc
    · rename_i he
      rw [Bool.and_eq_true] at he
      exact ord_ok (.inr (.inr (.inr rfl))) (by omega) I rx ry hx hy he.1 he.2 hc q
    · cases hc
  | Is =>
    simp only [cmpD] at hc
    split at hc
    · split at hc
      · rename_i e c
        cases hc
        have hy := hy.rp (fun l e => nomatch e)
        rw [Rp] at hy
        exact op_isN pins s σ H x y v u Q I rx ry ⟨hy, by rw [cls_isN hx c]; exact q⟩
      · cases hc
    · cases hc
      have hx := hx.rp (fun l e => nomatch e)
      have hy := hy.rp (fun l e => nomatch e)
      rw [Rp] at hx hy
      exact op_is_bl pins s σ H x y v u Q I rx ry ⟨_, _, hx, hy, q⟩
    · cases hc
  | IsNot =>
    simp only [cmpD] at hc
    split at hc
    · split at hc
      · rename_i e c
        cases hc
        have hy := hy.rp (fun l e => nomatch e)
        rw [Rp] at hy
        refine op_notN pins s σ H x y v u Q I rx ry ⟨hy, ?_⟩
        rw [cls_isN hx c]
        exact q
      · cases hc
    · cases hc
      have hx := hx.rp (fun l e => nomatch e)
      have hy := hy.rp (fun l e => nomatch e)
      rw [Rp] at hx hy
      exact op_isnot_bl pins s σ H x y v u Q I rx ry ⟨_, _, hx, hy, q⟩
    · cases hc
  | In =>
    simp only [cmpD] at hc
    split at hc
    · cases hc
      have hx := hx.rp (fun l e => nomatch e)
      have hy := hy.rp (fun l e => nomatch e)
      rw [Rp] at hx hy
      exact op_in_str pins s σ H x y v u Q I rx ry ⟨_, _, hx, hy, q⟩
    · split at hc
      · rename_i he
        cases hc
        obtain ⟨p, ps, a1, a2, a3, a4, a5, a6⟩ := tup_eok he
        obtain ⟨as, r1⟩ := Dp.reads I p x v (hx.dp a1) rx
        obtain ⟨bs, r2⟩ := Dp.reads I (.tuple ps) y u (hy.dp (by rw [toPy, a2]; rfl)) ry
        have hd := SeqAt.depth_of_shaped a3
        exact SeqAt.in_tuple_reads r2 r1 a5 a4 (by have := Nat.min_le_right (PyData.depthAll ps) p.depth; omega) ⟨.bl _, H, I, rfl, by rw [← any_eqv a2 a1]; exact q⟩
      · cases hc
    · split at hc
      · rename_i he
        cases hc
        obtain ⟨p, ps, a1, a2, a3, a4, a5, a6⟩ := tup_eok he
        exact op_inD (by omega) pins s σ H x y v u Q I rx ry ⟨p, ps, hx.dp a1, hy.dp (by rw [toPy, a2]; rfl), a3, a6, by rw [← any_eqv a2 a1]; exact q⟩
      · cases hc
    · cases hc
  | NotIn =>
    simp only [cmpD] at hc
    split at hc
    · cases hc
      have hx := hx.rp (fun l e => nomatch e)
      have hy := hy.rp (fun l e => nomatch e)
      rw [Rp] at hx hy
      exact op_notIn_str pins s σ H x y v u Q I rx ry ⟨_, _, hx, hy, by rw [Bool.not_not]; exact q⟩
    · split at hc
      · rename_i he
        cases hc
        obtain ⟨p, ps, a1, a2, a3, a4, a5, a6⟩ := tup_eok he
        obtain ⟨as, r1⟩ := Dp.reads I p x v (hx.dp a1) rx
        obtain ⟨bs, r2⟩ := Dp.reads I (.tuple ps) y u (hy.dp (by rw [toPy, a2]; rfl)) ry
        have hd := SeqAt.depth_of_shaped a3
        exact SeqAt.notIn_tuple_reads r2 r1 a5 a4 (by have := Nat.min_le_right (PyData.depthAll ps) p.depth; omega) ⟨.bl _, H, I, rfl, by rw [← any_eqv a2 a1]; exact q⟩
      · cases hc
    · split at hc
      · rename_i he
        cases hc
        obtain ⟨p, ps, a1, a2, a3, a4, a5, a6⟩ := tup_eok he
        exact op_notInD (by omega) pins s σ H x y v u Q I rx ry ⟨p, ps, hx.dp a1, hy.dp (by rw [toPy, a2]; rfl), a3, a6, by rw [← any_eqv a2 a1]; exact q⟩
      · cases hc
    · cases hc
end
end Dn

/-! Dn, part E: the other operations by values. -/
namespace Dn
open PySem PySem.Spec PyProof.Rows L2

section
variable (K : PySem.W.Frag) (fa : Nat → Addr) (Wr : Addr → Prop) (ρ : List Addr) (H : Hp)
/-- a result: it stands as d, all that was tracked stays; fr: a list that comes is a new one -/
def Post (fr : Bool) (d : D) (Q : VK) : Prop :=
  ∀ v H', Same H H' → Rp K fa Wr ρ H' d v → (fr = true → ∀ l, d = .lst l → ∃ a xs, v = .ref a ∧ H a = none ∧ H' a = some (.lst xs) ∧ RpL K fa Wr ρ H l xs) → Q v H'
end
section
variable {K : PySem.W.Frag} {fa : Nat → Addr} {Wr : Addr → Prop} {ρ : List Addr} {H H' : Hp} {Q : VK} {fr : Bool}
theorem Ex.same (mu : ∀ a, Wr a → Mut (H a)) (h : Same H H') : Ex Wr ρ H Wr ρ H' := ⟨mu, fun _ _ h => h, fun _ h => .inl h, fun a o e _ => h a o e⟩
theorem Same.upd {p : Addr} {o : HO} (hp : H p = none) : Same H (upd H p o) := fun b u e => by rw [upd_ne (ne_of_none e hp)]; exact e
theorem Post.int {i : Int} (h : Post K fa Wr ρ H fr (.int i) Q) : Q (.int i) H := h _ _ (Same.refl H) (by rw [Rp]) fun _ l e => nomatch e
theorem Post.str {i : PySem.Str} (h : Post K fa Wr ρ H fr (.str i) Q) : Q (.str i) H := h _ _ (Same.refl H) (by rw [Rp]) fun _ l e => nomatch e
theorem Post.bl {i : Bool} (h : Post K fa Wr ρ H fr (.bl i) Q) : Q (.bl i) H := h _ _ (Same.refl H) (by rw [Rp]) fun _ l e => nomatch e
theorem Post.lst {l : List D} {xs : List V} (mu : ∀ a, Wr a → Mut (H a)) (h : Post K fa Wr ρ H fr (.lst l) Q) (r : RpL K fa Wr ρ H l xs) (p : Addr) (hp : H p = none) : Q (.ref p) (upd H p (.lst xs)) := by
  refine h _ _ (Same.upd hp) ?_ fun _ l' e => ⟨p, xs, rfl, hp, upd_same, by cases e; exact r⟩
  rw [Rp]
  refine ⟨p, xs, rfl, ⟨fun w => ?_, .inl upd_same⟩, r.ext (Ex.same mu (Same.upd hp))⟩
  have m := mu p w
  rw [hp] at m; exact m
theorem Post.tup {l : List D} {xs : List V} (mu : ∀ a, Wr a → Mut (H a)) (h : Post K fa Wr ρ H fr (.tup l) Q) (r : RpL K fa Wr ρ H l xs) (p : Addr) (hp : H p = none) : Q (.ref p) (upd H p (.tup xs)) := by
  refine h _ _ (Same.upd hp) ?_ fun _ l' e => nomatch e
  rw [Rp]
  exact ⟨p, xs, rfl, SqT.of upd_same, r.ext (Ex.same mu (Same.upd hp))⟩
/-- a thing that stands already -/
theorem Post.old {d : D} {v : V} (h : Post K fa Wr ρ H false d Q) (r : Rp K fa Wr ρ H d v) : Q v H := h v H (Same.refl H) r fun e => nomatch e
theorem Post.oldN {d : D} {v : V} (h : Post K fa Wr ρ H fr d Q) (r : Rp K fa Wr ρ H d v) (n : ∀ l, d ≠ .lst l) : Q v H := h v H (Same.refl H) r fun _ l e => absurd e (n l)
end

/-! ### + - * // % ** -/
section
variable {X : Cx}
def rBin (K : PySem.W.Frag) (o : Operator) : R2 := fun x y H Q => ∃ fa Wr ρ dx dy d, (∀ a, Wr a → Mut (H a)) ∧ Rr K fa Wr ρ H dx x ∧ Rr K fa Wr ρ H dy y ∧ binD o dx dy = some d ∧ Post K fa Wr ρ H true d Q
theorem Rr.int {K : PySem.W.Frag} {fa : Nat → Addr} {Wr : Addr → Prop} {ρ : List Addr} {H : Hp} {i : Int} {v : V} (h : Rr K fa Wr ρ H (.int i) v) : v = .int i := by
  have h := h.rp (fun l e => nomatch e); rw [Rp] at h; exact h
theorem Rr.str {K : PySem.W.Frag} {fa : Nat → Addr} {Wr : Addr → Prop} {ρ : List Addr} {H : Hp} {i : PySem.Str} {v : V} (h : Rr K fa Wr ρ H (.str i) v) : v = .str i := by
  have h := h.rp (fun l e => nomatch e); rw [Rp] at h; exact h
theorem Rr.bl {K : PySem.W.Frag} {fa : Nat → Addr} {Wr : Addr → Prop} {ρ : List Addr} {H : Hp} {i : Bool} {v : V} (h : Rr K fa Wr ρ H (.bl i) v) : v = .bl i := by
  have h := h.rp (fun l e => nomatch e); rw [Rp] at h; exact h
theorem Inv.lstR {pins : List (Addr × Obj)} {s : Shared} {σ : L2.St} {H : Hp} {l : Addr} {xs : List V} (I : Inv X pins σ H s) (h : Rd H l (.lst xs)) : xs.length ≤ sizeLine ∧ ∃ (its : List Value) (n : Nat), Vals xs its ∧ xs.length = its.length ∧ s.heap.get? l = some { cls := .type "list", data := .seq its.toArray n } := by
  obtain ⟨z, its, n, r, e⟩ := h.ok I.hok
  exact ⟨z, its, n, r, r.length, e⟩
theorem op_catR : OpR X (binaryOp .Add) (fun x y H Q => ∃ l b xs zs, x = .ref l ∧ y = .ref b ∧ Rd H l (.lst xs) ∧ Rd H b (.lst zs) ∧ xs.length + zs.length ≤ sizeLine ∧ ∀ p, H p = none → Q (.ref p) (upd H p (.lst (xs ++ zs)))) := by
  intro pins s σ H x y v u Q I rx ry ⟨l, b, xs, zs, e1, e2, g1, g2, hz, q⟩
  subst e1 e2
  obtain rfl : v = Value.ref l := rx
  obtain rfl : u = Value.ref b := ry
  obtain ⟨_, i1, n1, r1, k1, h1⟩ := Dn.Inv.lstR I g1
  obtain ⟨_, i2, n2, r2, k2, h2⟩ := Dn.Inv.lstR I g2
  refine PySem.P.add_list h1 h2 ?_ (by simp only [List.size_toArray]; omega)
  have e : i1.toArray ++ i2.toArray = (i1 ++ i2).toArray := by simp
  rw [e]
  refine ⟨.ref _, _, I.lnew (t' := s.toks) (r1.append r2) ?_, rfl, q _ I.fresh⟩
  rw [List.length_append]; exact hz
theorem nil_of {K : PySem.W.Frag} {fa : Nat → Addr} {Wr : Addr → Prop} {ρ : List Addr} {H : Hp} {l : List D} (r : RpL K fa Wr ρ H l []) : l = [] := List.eq_nil_of_length_eq_zero (by rw [← r.len]; rfl)
theorem RpL.rep {K : PySem.W.Frag} {fa : Nat → Addr} {Wr : Addr → Prop} {ρ : List Addr} {H : Hp} {l : List D} {xs : List V} (r : RpL K fa Wr ρ H l xs) : ∀ n : Nat, RpL K fa Wr ρ H (List.replicate n l).flatten (List.replicate n xs).flatten
  | 0 => .nil
  | n + 1 => by
    rw [List.replicate_succ, List.replicate_succ, List.flatten_cons, List.flatten_cons]
    exact r.append (RpL.rep r n)
theorem op_repR : OpR X (binaryOp .Mult) (fun x y H Q => ∃ l k xs, x = .ref l ∧ y = .int k ∧ Rd H l (.lst xs) ∧ -(2 ^ 63) ≤ k ∧ k < 2 ^ 63 ∧ xs.length * k.toNat ≤ sizeLine ∧ ∀ p, H p = none → Q (.ref p) (upd H p (.lst (List.replicate k.toNat xs).flatten))) := by
  intro pins s σ H x y v u Q I rx ry ⟨l, k, xs, e1, e2, g1, k1, k2, hz, q⟩
  subst e1 e2
  obtain rfl : v = Value.ref l := rx
  obtain ⟨t, rfl⟩ := ry
  obtain ⟨_, its, n, r, hl, e⟩ := Dn.Inv.lstR I g1
  have c0 : ∀ m : Nat, List.foldl (fun x y => x ++ y) #[] (List.replicate m its.toArray) = (List.replicate m its).flatten.toArray := fun m => by
    have z := foldl_rep its m []
    rwa [List.nil_append] at z
  have c1 : List.foldl (fun x y => x ++ y) #[] (List.replicate (if its.toArray.isEmpty = true then 0 else k.toNat) its.toArray) = (List.replicate k.toNat its).flatten.toArray := by
    rw [c0]
    by_cases w : its = []
    · subst w; simp
    · rw [if_neg (by simpa using w)]
  have sz : its.toArray.size * k.toNat ≤ sizeLine := by rwa [List.size_toArray, ← hl]
  have c2 := notLongL sz
  have c3 := fitsIndex_both k1 k2
  have c4 : ¬ its.toArray.size * k.toNat > (2 ^ 63 - 1) / 8 := fun z => absurd (Nat.lt_of_lt_of_le z sz) (by decide)
  have step := AutoListH.list___mul___list_int_3 l its.toArray n k t (by rw [c3]; exact Bool.false_ne_true) c4 (by rw [c2]; exact Bool.false_ne_true)
  have ty : ∀ s' : Shared, s'.TypeIs (.int k t) "int" := fun s' => typeIs_int s' k t
  have lt : s.TypeIs (.ref l) "list" := ⟨_, e, rfl⟩
  have fin : EP X pins σ Q (.ref s.heap.objs.size) { s with heap := s.heap.push { cls := .type "list", data := .seq (List.replicate k.toNat its).flatten.toArray }, toks := s.toks } :=
    ⟨.ref _, _, I.lnew (t' := s.toks) (r.rep k.toNat) (by rw [PyProof.Rows.lm_len_rep_flat, Nat.mul_comm]; exact hz), rfl, q _ I.fresh⟩
  have inner := fun (A' : Around) (E' : Value → Shared → Prop) (R : Value → Shared → Prop) h => call_meets (prog := X.prog) (w := X.w) (A := A') (E := E') (Q := R) F.slot_list_mul lt F.entry_list_mul (F.args_list_mul_2 _ _) step h
  refine wpAny_binaryOp_repeat_ref (T := "list") (U := "int") (by decide) lt ty noFill_list_mul F.fills_int_mul F.slot_int_rmul repeat_list F.slot_int_index.lookup ?_
  refine call_meets F.slot_int_rmul (ty s) F.entry_int_rmul (F.args_int_rmul_2 _ _) (int___rmul___int_list k t l its.toArray n) ⟨e, rfl, lt, inner _ _ _ ⟨e, ?_⟩⟩
  rw [c1]
  exact fin
theorem op_bin (o : Operator) : OpR X (binaryOp o) (rBin X.K o) := by
  intro pins s σ H x y v u Q I rx ry ⟨fa, Wr, ρ, dx, dy, d, mu, hx, hy, hd, q⟩
  revert hd
  unfold binD
  split <;> intro hd
  · cases hd
    exact op_add pins s σ H x y v u Q I rx ry ⟨_, _, hx.int, hy.int, q.int⟩
  · cases hd
    exact op_sub pins s σ H x y v u Q I rx ry ⟨_, _, hx.int, hy.int, q.int⟩
  · split at hd
    · rename_i c
      cases hd
      exact op_mulW pins s σ H x y v u Q I rx ry ⟨_, _, hx.int, hy.int, c, q.int⟩
    · cases hd
  · split at hd
    · rename_i c
      rw [Bool.and_eq_true, Bool.and_eq_true, decide_eq_true_eq, decide_eq_true_eq, decide_eq_true_eq] at c
      cases hd
      obtain ⟨a, xs, e1, h1, r1⟩ := hx.lst
      exact op_repR pins s σ H x y v u Q I rx ry ⟨a, _, xs, e1, hy.int, h1, c.1.1, c.1.2, by rw [r1.len]; exact c.2, q.lst mu (r1.rep _)⟩
    · cases hd
  · split at hd
    · rename_i c
      rw [Bool.and_eq_true, Bool.and_eq_true, Bool.and_eq_true, decide_eq_true_eq, decide_eq_true_eq, decide_eq_true_eq] at c
      cases hd
      obtain ⟨a, xs, e1, h1, r1⟩ := hx.tup
      refine op_repT pins s σ H x y v u Q I rx ry ⟨a, _, xs, e1, hy.int, h1, fun e => ?_, c.1.1.2, c.1.2, by rw [r1.len]; exact c.2, q.tup mu (r1.rep _)⟩
      subst e
      have hl := r1.len
      have c1 := c.1.1.1
      rw [Bool.not_eq_true', List.isEmpty_eq_false_iff] at c1
      exact c1 (List.eq_nil_of_length_eq_zero (by rw [← hl]; rfl))
    · cases hd
  · split at hd
    · rename_i c
      rw [Bool.and_eq_true, decide_eq_true_eq, decide_eq_true_eq] at c
      cases hd
      exact op_fdivW pins s σ H x y v u Q I rx ry ⟨_, _, hx.int, hy.int, c, q.int⟩
    · cases hd
  · split at hd
    · rename_i c
      rw [decide_eq_true_eq] at c
      cases hd
      exact op_mod pins s σ H x y v u Q I rx ry ⟨_, _, hx.int, hy.int, c, q.int⟩
    · cases hd
  · split at hd
    · rename_i c
      rw [Bool.and_eq_true, Bool.and_eq_true, decide_eq_true_eq, decide_eq_true_eq, decide_eq_true_eq] at c
      cases hd
      exact op_pow pins s σ H x y v u Q I rx ry ⟨_, _, hx.int, hy.int, ⟨c.1.1, by have := c.1.2; omega, c.2⟩, q.int⟩
    · cases hd
  · split at hd
    · rename_i c
      cases hd
      exact op_add_str pins s σ H x y v u Q I rx ry ⟨_, _, hx.str, hy.str, c, q.str⟩
    · cases hd
  · split at hd
    · rename_i c
      rw [Bool.and_eq_true, Bool.and_eq_true, decide_eq_true_eq, decide_eq_true_eq, decide_eq_true_eq] at c
      cases hd
      obtain ⟨a, xs, e1, h1, r1⟩ := hx.lst
      obtain ⟨b, ys, e2, h2, r2⟩ := hy.lst
      exact op_catR pins s σ H x y v u Q I rx ry ⟨a, b, xs, ys, e1, e2, h1, h2, by rw [r1.len, r2.len]; exact c.2, q.lst mu (r1.append r2)⟩
    · cases hd
  · split at hd
    · rename_i c
      cases hd
      obtain ⟨a, xs, e1, h1, r1⟩ := hx.tup
      obtain ⟨b, ys, e2, h2, r2⟩ := hy.tup
      refine op_catA pins s σ H x y v u Q I rx ry ⟨a, b, xs, ys, e1, e2, h1, h2, by rw [r1.len, r2.len]; exact c, fun e => ?_, fun _ e => ?_, fun _ _ => q.tup mu (r1.append r2)⟩
      · subst e
        rw [nil_of r1] at q
        refine q.oldN ?_ (fun l e => nomatch e)
        rw [Rp]; exact ⟨b, ys, e2 ▸ rfl, h2, r2⟩
      · subst e
        rw [nil_of r2, List.append_nil] at q
        refine q.oldN ?_ (fun l e => nomatch e)
        rw [Rp]; exact ⟨a, xs, rfl, h1, r1⟩
    · cases hd
  · cases hd
end
end Dn

/-! Dn, part F: places, cuts, built-in functions. -/
namespace Dn
open PySem PySem.Spec PyProof.Rows L2

theorem atI_map {α β : Type} {l : List α} {m : List β} {i : Int} {a : α} (e : l.length = m.length) (h : atI l i = some a) : ∃ j : Nat, l[j]? = some a ∧ ∃ b, m[j]? = some b ∧ atI m i = some b := by
  unfold atI at h ⊢
  cases q : ixN l.length i with
  | none => rw [q] at h; cases h
  | some j =>
    rw [q] at h
    have h : l[j]? = some a := h
    have hj : j < l.length := (List.getElem?_eq_some_iff.mp h).1
    refine ⟨j, h, m[j]'(by omega), by simp, ?_⟩
    have q2 : ixN m.length i = some j := e ▸ q
    rw [q2]
    show m[j]? = _
    simp
section
variable {K : PySem.W.Frag} {fa : Nat → Addr} {Wr : Addr → Prop} {ρ : List Addr} {H : Hp}
theorem RpL.atI {l : List D} {xs : List V} {i : Int} {d : D} (r : RpL K fa Wr ρ H l xs) (h : L2.atI l i = some d) : ∃ v, L2.atI xs i = some v ∧ Rp K fa Wr ρ H d v := by
  obtain ⟨j, h1, b, h2, h3⟩ := atI_map (m := xs) r.len.symm h
  obtain ⟨v, e, q⟩ := r.get h1
  rw [h2] at e; cases e
  exact ⟨b, h3, q⟩
theorem RpL.cut {l : List D} {xs : List V} (r : RpL K fa Wr ρ H l xs) (lo hi : Option Int) : RpL K fa Wr ρ H (D.cut l lo hi) (cutV xs lo hi) := by
  unfold D.cut cutV
  rw [r.len]
  exact (r.drop _).take _
theorem kget_val : ∀ {kvs : List (Key × D)} {vs : List (Key × V)} {k : Key} {d : D}, vs.map (·.1) = kvs.map (·.1) → RpL K fa Wr ρ H (kvs.map (·.2)) (vs.map (·.2)) → kget kvs k = some d → ∃ v, valV vs k = some v ∧ Rp K fa Wr ρ H d v
  | [], vs, k, d, h1, h2, h => by rw [kget] at h; cases h
  | (k', d') :: r, [], k, d, h1, h2, h => by simp at h1
  | (k', d') :: r, (k2, v2) :: vs, k, d, h1, h2, h => by
    simp only [List.map_cons, List.cons.injEq] at h1
    obtain ⟨rfl, h1⟩ := h1
    obtain ⟨v, t, e, h3, h4⟩ := RpL.inv h2
    simp only [List.map_cons, List.cons.injEq] at e
    obtain ⟨rfl, rfl⟩ := e
    rw [kget] at h
    by_cases q : k2 = k
    · rw [if_pos q] at h; cases h
      refine ⟨v2, ?_, h3⟩
      unfold valV
      rw [List.find?_cons_of_pos (by simpa using q)]
      rfl
    · rw [if_neg q] at h
      obtain ⟨v, e, z⟩ := kget_val h1 h4 h
      refine ⟨v, ?_, z⟩
      unfold valV at e ⊢
      rw [List.find?_cons_of_neg (by simpa using q)]
      exact e
theorem keyOf_v {d : D} {k : Key} {v : V} (h : Rr K fa Wr ρ H d v) (e : keyOf d = some k) : v = kV k := by
  cases d with
  | int i => rw [keyOf] at e; cases e; exact h.int
  | str i => rw [keyOf] at e; cases e; exact h.str
  | _ => simp [keyOf] at e
end

/-- the store as it stands -/
def StoOk (K : PySem.W.Frag) (fa : Nat → Addr) (Wr : Addr → Prop) (ρ : List Addr) (H : Hp) (sto : List SO) : Prop := ∀ (n : Nat) o a, sto[n]? = some o → ρ[n]? = some a → RSO K fa Wr ρ H o (H a)
section
variable {X : Cx}
def rIdx (K : PySem.W.Frag) : R2 := fun x y H Q => ∃ fa Wr ρ sto dx dy d, StoOk K fa Wr ρ H sto ∧ sto.length = ρ.length ∧ Rr K fa Wr ρ H dx x ∧ Rr K fa Wr ρ H dy y ∧ idxD sto [dx, dy] = some d ∧ ∀ v, Rp K fa Wr ρ H d v → Q v H
theorem ix_D (hu : X.A.units + 200 < cLine) : IxR X (rIdx X.K) := by
  intro value slice pins s σ H x y v u Q I rx ry ⟨fa, Wr, ρ, sto, dx, dy, d, so, sl, hx, hy, hd, q⟩ hs
  revert hd
  unfold idxD
  split <;> intro hd
  · rename_i e
    simp only [List.cons.injEq, and_true] at e
    obtain ⟨rfl, rfl⟩ := e
    obtain ⟨a, xs, e1, h1, r1⟩ := hx.lst
    obtain ⟨w, e2, h2⟩ := r1.atI hd
    exact ix_list value slice pins s σ H x y v u Q I rx ry ⟨a, xs, _, w, e1, hy.int, .inl h1, e2, q w h2⟩ hs
  · rename_i e
    simp only [List.cons.injEq, and_true] at e
    obtain ⟨rfl, rfl⟩ := e
    obtain ⟨a, xs, e1, h1, r1⟩ := hx.tup
    obtain ⟨w, e2, h2⟩ := r1.atI hd
    exact ix_tup value slice pins s σ H x y v u Q I rx ry ⟨a, xs, _, w, e1, hy.int, h1, e2, q w h2⟩ hs
  · rename_i e
    simp only [List.cons.injEq, and_true] at e
    obtain ⟨rfl, rfl⟩ := e
    split at hd
    · rename_i c
      obtain ⟨z, e2, rfl⟩ := Option.map_eq_some_iff.mp hd
      exact ix_str value slice pins s σ H x y v u Q I rx ry ⟨_, _, z, hx.str, hy.int, c, e2, q _ (by rw [Rp])⟩ hs
    · cases hd
  · rename_i e
    simp only [List.cons.injEq, and_true] at e
    obtain ⟨rfl, rfl⟩ := e
    have hx := hx.rp (fun l e => nomatch e)
    rw [Rp] at hx
    obtain ⟨a, e1, e2⟩ := hx
    split at hd
    · rename_i kvs k e3 e4
      obtain ⟨vs, h1, h2, h3⟩ := so _ _ _ e3 e2
      obtain ⟨w, e5, h5⟩ := kget_val h2 h3 hd
      have e6 := keyOf_v hy e4
      subst e1
      obtain rfl : v = Value.ref a := rx
      have g : DGet H a y (some w) := .inl ⟨vs, k, .inl h1, e6, e5.symm⟩
      exact tail_any (ops := [.ref a, u]) (dict_typeIs I g) PySem.F.slot_dict_getitem.lookup (d_getItem (by omega) I g ry fun w' s3 I3 rw' => ⟨w, H, I3, rw', q w h5⟩) hs
    · rename_i l i e3 e4
      obtain ⟨vs, h1, h3⟩ := so _ _ _ e3 e2
      have e6 := keyOf_v hy e4
      obtain ⟨w, e7, h7⟩ := h3.atI hd
      exact ix_list value slice pins s σ H x y v u Q I rx ry ⟨a, vs, _, w, e1, e6, SqL.of h1, e7, q w h7⟩ hs
    · cases hd
  · cases hd

/-! ### cuts -/
def rSlc (K : PySem.W.Frag) : V → Option Int → Option Int → Hp → VK → Prop := fun x lo hi H Q => ∃ fa Wr ρ dx, (∀ a, Wr a → Mut (H a)) ∧ Rr K fa Wr ρ H dx x ∧
  ((∃ l, dx = .lst l ∧ Post K fa Wr ρ H true (.lst (D.cut l lo hi)) Q) ∨ (∃ l, dx = .tup l ∧ Post K fa Wr ρ H true (.tup (D.cut l lo hi)) Q) ∨ (∃ l, dx = .kl l ∧ Post K fa Wr ρ H true (.lst (D.cut (l.map .int) lo hi)) Q) ∨ ∃ z, dx = .str z ∧ z.length ≤ sizeLine ∧ Post K fa Wr ρ H true (.str (cutS' z lo hi)) Q)
theorem ints_rp {K : PySem.W.Frag} {fa : Nat → Addr} {Wr : Addr → Prop} {ρ : List Addr} {H : Hp} : ∀ l : List Int, RpL K fa Wr ρ H (l.map .int) (l.map V.int)
  | [] => .nil
  | i :: l => .cons (by rw [Rp]) (ints_rp l)
theorem sl_D : SlR X (rSlc X.K) := by
  intro pins s σ H x v vl vu lo hi sl Q I rx hs pl pu ⟨fa, Wr, ρ, dx, mu, hx, h⟩
  rcases h with ⟨l, rfl, q⟩ | ⟨l, rfl, q⟩ | ⟨l, rfl, q⟩ | ⟨z, rfl, c, q⟩
  · obtain ⟨a, xs, e1, h1, r1⟩ := hx.lst
    exact sl_list pins s σ H x v vl vu lo hi sl Q I rx hs pl pu ⟨a, xs, e1, .inl h1, q.lst mu (r1.cut lo hi)⟩
  · obtain ⟨a, xs, e1, h1, r1⟩ := hx.tup
    refine sl_tupA pins s σ H x v vl vu lo hi sl Q I rx hs pl pu ⟨a, xs, e1, h1, fun c => ?_, fun _ => q.tup mu (r1.cut lo hi)⟩
    refine q.oldN ?_ (fun l e => nomatch e)
    rw [Rp]
    refine ⟨a, xs, rfl, h1, ?_⟩
    rw [r1.len] at c
    have e : D.cut l lo hi = l := by
      unfold D.cut
      rw [c.1, c.2, List.drop_zero, Nat.sub_zero, List.take_length]
    rw [e]; exact r1
  · have h := hx.rp (fun l e => nomatch e)
    rw [Rp] at h
    obtain ⟨a, e1, h1⟩ := h
    have r1 : RpL X.K fa Wr ρ H (l.map .int) (l.map V.int) := ints_rp l
    exact sl_list pins s σ H x v vl vu lo hi sl Q I rx hs pl pu ⟨a, l.map V.int, e1, h1.elim (fun h => .inl h.2) .inr, q.lst mu (r1.cut lo hi)⟩
  · exact sl_str pins s σ H x v vl vu lo hi sl Q I rx hs pl pu ⟨z, hx.str, c, q.str⟩
end
end Dn

/-! Dn, part G: the greater, the lesser; sorting; texts of data. -/
namespace Dn
open PySem PySem.Spec PyProof.Rows L2 SeqAt

mutual
theorem deq_refl : ∀ {d : D}, dok d = true → deq d d = true
  | .non, _ => by rw [deq]
  | .bl b, _ => by simp [deq]
  | .int i, _ => by simp [deq]
  | .str x, _ => by simp [deq]
  | .tup l, h => by rw [dok] at h; rw [deq]; exact deqL_refl h
  | .lst l, h => by rw [dok] at h; rw [deq]; exact deqL_refl h
  | .ref _, h => by rw [dok] at h; cases h
  | .fn _, h => by rw [dok] at h; cases h
  | .ty _, h => by rw [dok] at h; cases h
  | .kl _, h => by rw [dok] at h; cases h
theorem deqL_refl : ∀ {d : List D}, dokL d = true → deqL d d = true
  | [], _ => by rw [deqL]
  | d :: ds, h => by
    rw [dokL, Bool.and_eq_true] at h
    rw [deqL, deq_refl h.1, deqL_refl h.2]; rfl
end
mutual
theorem deq_comm : ∀ (d e : D), deq d e = deq e d
  | .non, e => by cases e <;> simp [deq]
  | .bl a, e => by cases e <;> simp only [deq] <;> exact BEq.comm
  | .int a, e => by
    cases e <;> simp only [deq] <;> exact BEq.comm
  | .str a, e => by
    cases e <;> simp only [deq] <;> exact BEq.comm
  | .tup l, e => by
    cases e with
    | tup m => rw [deq, deq]; exact deqL_comm l m
    | _ => simp [deq]
  | .lst l, e => by
    cases e with
    | lst m => rw [deq, deq]; exact deqL_comm l m
    | _ => simp [deq]
  | .ref _, e => by cases e <;> simp [deq]
  | .fn _, e => by cases e <;> simp [deq]
  | .ty _, e => by cases e <;> simp [deq]
  | .kl _, e => by cases e <;> simp [deq]
theorem deqL_comm : ∀ (d e : List D), deqL d e = deqL e d
  | [], [] => rfl
  | [], e :: es => by simp [deqL]
  | d :: ds, [] => by simp [deqL]
  | d :: ds, e :: es => by rw [deqL, deqL, deq_comm d e, deqL_comm ds es]
end

/-! ### the order -/
mutual
theorem key_eq : ∀ {d e : D}, deq d e = true → key d = key e
  | .non, e, h => by cases e <;> simp [deq] at h ⊢
  | .bl a, e, h => by
    cases e with
    | bl b => simp [deq] at h; rw [h]
    | int j => simp [deq] at h; subst h; simp [key]
    | _ => simp [deq] at h
  | .int a, e, h => by
    cases e with
    | bl b => simp [deq] at h; subst h; simp [key]
    | int j => simp [deq] at h; rw [h]
    | _ => simp [deq] at h
  | .str a, e, h => by
    cases e with
    | str j => simp [deq] at h; rw [h]
    | _ => simp [deq] at h
  | .tup l, e, h => by
    cases e with
    | tup m => rw [deq] at h; rw [key, key, keyL_eq h]
    | _ => simp [deq] at h
  | .lst l, e, h => by
    cases e with
    | lst m => rw [deq] at h; rw [key, key, keyL_eq h]
    | _ => simp [deq] at h
  | .ref _, e, h => by cases e <;> simp [deq] at h
  | .fn _, e, h => by cases e <;> simp [deq] at h
  | .ty _, e, h => by cases e <;> simp [deq] at h
  | .kl _, e, h => by cases e <;> simp [deq] at h
theorem keyL_eq : ∀ {d e : List D}, deqL d e = true → keyL d = keyL e
  | [], [], _ => rfl
  | [], e :: es, h => by simp [deqL] at h
  | d :: ds, [], h => by simp [deqL] at h
  | d :: ds, e :: es, h => by
    rw [deqL, Bool.and_eq_true] at h
    rw [keyL, keyL, key_eq h.1, keyL_eq h.2]
end
theorem str_key : ∀ {x y : List Nat} (r r' : List Int), x ≠ y → decide ((x.map (fun (c : Nat) => (c : Int) + 1) ++ [0]) ++ r < (y.map (fun (c : Nat) => (c : Int) + 1) ++ [0]) ++ r') = decide (x < y)
  | [], [], r, r', h => absurd rfl h
  | [], y :: ys, r, r', h => by
    simp only [List.map_nil, List.nil_append, List.map_cons, List.cons_append, List.cons_lt_cons_iff]
    simp
    try omega
  | x :: xs, [], r, r', h => by
    simp only [List.map_nil, List.nil_append, List.map_cons, List.cons_append, List.cons_lt_cons_iff]
    simp
    try omega
  | x :: xs, y :: ys, r, r', h => by
    simp only [List.map_cons, List.cons_append, List.cons_lt_cons_iff]
    by_cases e : x = y
    · subst e
      have h2 : xs ≠ ys := fun z => h (by rw [z])
      have q := str_key r r' h2
      simp only [decide_eq_decide] at q ⊢
      simp only [Int.lt_irrefl, true_and, false_or, Nat.lt_irrefl]
      exact q
    · simp only [decide_eq_decide]
      constructor
      · rintro (z | ⟨z, _⟩)
        · exact .inl (by omega)
        · omega
      · rintro (z | ⟨z, _⟩)
        · exact .inl (by omega)
        · exact absurd z e
theorem app_lt : ∀ (k a b : List Int), k ++ a < k ++ b ↔ a < b
  | [], a, b => Iff.rfl
  | x :: k, a, b => by
    rw [List.cons_append, List.cons_append, List.cons_lt_cons_iff, app_lt k a b]
    constructor
    · rintro (z | ⟨_, z⟩)
      · omega
      · exact z
    · exact fun z => .inr ⟨rfl, z⟩
theorem key_pos (d : D) : ∃ (k : Int) (t : List Int), key d = k :: t ∧ 0 ≤ k := by
  cases d <;> exact ⟨_, _, by rw [key], by decide⟩
theorem dcmpL_same : ∀ {l m : List D} {b : Bool}, dcmpL .Lt l m = some b → deqL l m = true → b = false
  | [], [], b, h, g => by rw [dcmpL] at h; cases h; rfl
  | [], e :: es, b, h, g => by simp [deqL] at g
  | d :: ds, [], b, h, g => by simp [deqL] at g
  | d :: ds, e :: es, b, h, g => by
    rw [deqL, Bool.and_eq_true] at g
    rw [dcmpL, g.1, if_pos rfl] at h
    exact dcmpL_same h g.2
mutual
theorem key_lt : ∀ {d e : D} {b : Bool}, dcmp .Lt d e = some b → deq d e = false → ∀ r r' : List Int, decide (key d ++ r < key e ++ r') = b
  | .tup l, .tup m, b, h, g, r, r' => by
    rw [dcmp] at h
    rw [deq] at g
    have q := keyL_lt h g r r'
    rw [← q, key, key]
    simp only [List.cons_append, List.cons_lt_cons_iff, decide_eq_decide]
    simp
  | .str x, .str y, b, h, g, r, r' => by
    rw [dcmp] at h; cases h
    have n : x.cps.toList ≠ y.cps.toList := fun z => by
      have : x = y := by
        obtain ⟨⟨x⟩⟩ := x; obtain ⟨⟨y⟩⟩ := y
        simp at z; rw [z]
      subst this; simp [deq] at g
    have q := str_key r r' n
    rw [key, key]
    simp only [ordS]
    rw [← q]
    simp only [List.cons_append, List.cons_lt_cons_iff, decide_eq_decide]
    simp
  | .int x, .int y, b, h, g, r, r' => by
    rw [dcmp] at h; cases h
    have n : x ≠ y := fun z => by subst z; simp [deq] at g
    rw [key, key]
    simp only [ordI, List.cons_append, List.cons_lt_cons_iff, decide_eq_decide]
    simp [n]
  | .non, e, b, h, g, r, r' => by cases e <;> simp [dcmp] at h
  | .bl _, e, b, h, g, r, r' => by cases e <;> simp [dcmp] at h
  | .lst _, e, b, h, g, r, r' => by cases e <;> simp [dcmp] at h
  | .ref _, e, b, h, g, r, r' => by cases e <;> simp [dcmp] at h
  | .fn _, e, b, h, g, r, r' => by cases e <;> simp [dcmp] at h
  | .ty _, e, b, h, g, r, r' => by cases e <;> simp [dcmp] at h
  | .kl _, e, b, h, g, r, r' => by cases e <;> simp [dcmp] at h
  | .tup _, .non, b, h, g, r, r' => by simp [dcmp] at h
  | .tup _, .bl _, b, h, g, r, r' => by simp [dcmp] at h
  | .tup _, .int _, b, h, g, r, r' => by simp [dcmp] at h
  | .tup _, .str _, b, h, g, r, r' => by simp [dcmp] at h
  | .tup _, .lst _, b, h, g, r, r' => by simp [dcmp] at h
  | .tup _, .ref _, b, h, g, r, r' => by simp [dcmp] at h
  | .tup _, .fn _, b, h, g, r, r' => by simp [dcmp] at h
  | .tup _, .ty _, b, h, g, r, r' => by simp [dcmp] at h
  | .str _, .non, b, h, g, r, r' => by simp [dcmp] at h
  | .str _, .bl _, b, h, g, r, r' => by simp [dcmp] at h
  | .str _, .int _, b, h, g, r, r' => by simp [dcmp] at h
  | .str _, .tup _, b, h, g, r, r' => by simp [dcmp] at h
  | .str _, .lst _, b, h, g, r, r' => by simp [dcmp] at h
  | .str _, .ref _, b, h, g, r, r' => by simp [dcmp] at h
  | .str _, .fn _, b, h, g, r, r' => by simp [dcmp] at h
  | .str _, .ty _, b, h, g, r, r' => by simp [dcmp] at h
  | .int _, .non, b, h, g, r, r' => by simp [dcmp] at h
  | .int _, .bl _, b, h, g, r, r' => by simp [dcmp] at h
  | .int _, .str _, b, h, g, r, r' => by simp [dcmp] at h
  | .int _, .tup _, b, h, g, r, r' => by simp [dcmp] at h
  | .int _, .lst _, b, h, g, r, r' => by simp [dcmp] at h
  | .int _, .ref _, b, h, g, r, r' => by simp [dcmp] at h
  | .int _, .fn _, b, h, g, r, r' => by simp [dcmp] at h
  | .int _, .ty _, b, h, g, r, r' => by simp [dcmp] at h
theorem keyL_lt : ∀ {d e : List D} {b : Bool}, dcmpL .Lt d e = some b → deqL d e = false → ∀ r r' : List Int, decide (keyL d ++ r < keyL e ++ r') = b
  | [], [], b, h, g, r, r' => by simp [deqL] at g
  | [], e :: es, b, h, g, r, r' => by
    rw [dcmpL] at h; cases h
    rw [keyL, keyL]
    obtain ⟨k, t, e1, hk⟩ := key_pos e
    rw [e1]
    simp only [List.cons_append, List.nil_append, List.cons_lt_cons_iff, ordI, decide_eq_decide]
    simp; omega
  | d :: ds, [], b, h, g, r, r' => by
    rw [dcmpL] at h; cases h
    rw [keyL, keyL]
    obtain ⟨k, t, e1, hk⟩ := key_pos d
    rw [e1]
    simp only [List.cons_append, List.nil_append, List.cons_lt_cons_iff, ordI, decide_eq_decide]
    simp; omega
  | d :: ds, e :: es, b, h, g, r, r' => by
    rw [dcmpL] at h
    rw [deqL] at g
    rw [keyL, keyL, List.append_assoc, List.append_assoc]
    cases q : deq d e with
    | true =>
      rw [q, if_pos rfl] at h
      rw [q, Bool.true_and] at g
      rw [key_eq q]
      have z := keyL_lt h g r r'
      rw [← z]
      simp only [decide_eq_decide]
      exact app_lt _ _ _
    | false =>
      rw [q, if_neg Bool.false_ne_true] at h
      exact key_lt h q _ _
end
/-- < is below by the rows -/
theorem dcmp_tlt {d e : D} {b : Bool} (h : dcmp .Lt d e = some b) : tlt d e = b := by
  cases q : deq d e with
  | false =>
    have z := key_lt h q [] []
    rw [List.append_nil, List.append_nil] at z
    exact z
  | true =>
    have h1 : b = false := by
      cases d <;> cases e <;> simp only [dcmp, deq, reduceCtorEq, Option.some.injEq] at h q
      · subst h; simp at q; subst q; simp [ordI]
      · subst h; simp at q; subst q; simp [ordS]
      · exact dcmpL_same h q
    subst h1
    unfold tlt
    rw [key_eq q]
    exact decide_eq_false (List.lt_irrefl _)

/-! ### sorting -/
open SrtO in
theorem swo_tlt : Swo tlt := by
  refine ⟨fun x y h => ?_, fun x y z h1 h2 => ?_⟩
  · unfold tlt at h ⊢
    rw [decide_eq_true_eq] at h
    exact decide_eq_false (List.lt_asymm h)
  · unfold tlt at h1 h2 ⊢
    rw [decide_eq_false_iff_not] at h1 h2 ⊢
    intro q
    have a1 := List.not_lt.mp h1
    have a2 := List.not_lt.mp h2
    exact List.not_lt.mpr (List.le_trans a1 a2) q
section
variable {α β : Type} {lt : α → α → Bool}
theorem insB_mem {x z : α} : ∀ {l : List α}, z ∈ insB lt x l ↔ z = x ∨ z ∈ l
  | [] => by simp [insB]
  | y :: ys => by
    unfold insB
    split
    · rw [List.mem_cons, insB_mem, List.mem_cons]
      constructor <;> (rintro (h | h | h) <;> simp [h])
    · rw [List.mem_cons]
theorem insB_perm (x : α) : ∀ l : List α, (insB lt x l).Perm (x :: l)
  | [] => .refl _
  | y :: ys => by
    unfold insB
    split
    · exact ((insB_perm x ys).cons y).trans (.swap x y ys)
    · exact .refl _
theorem isortB_perm : ∀ l : List α, (isortB lt l).Perm l
  | [] => .refl _
  | x :: xs => (insB_perm x _).trans ((isortB_perm xs).cons x)
open SrtO in
theorem insB_srtd (O : Swo lt) (x : α) : ∀ l : List α, Srtd lt l → Srtd lt (insB lt x l)
  | [], _ => List.pairwise_singleton _ _
  | y :: ys, h => by
    have h' := List.pairwise_cons.mp h
    unfold insB
    split
    · rename_i c
      refine List.pairwise_cons.mpr ⟨fun z hz => ?_, insB_srtd O x ys h'.2⟩
      rcases insB_mem.mp hz with rfl | hz
      · exact O.asym _ _ c
      · exact h'.1 z hz
    · rename_i c
      have c : lt y x = false := by simpa using c
      refine List.pairwise_cons.mpr ⟨fun z hz => ?_, h⟩
      rcases List.mem_cons.mp hz with rfl | hz
      · exact c
      · exact O.tr _ _ _ c (h'.1 z hz)
open SrtO in
theorem isortB_srtd (O : Swo lt) : ∀ l : List α, Srtd lt (isortB lt l)
  | [] => .nil
  | x :: xs => insB_srtd O x _ (isortB_srtd O xs)
open SrtO in
theorem insB_cls (O : Swo lt) (x z : α) : ∀ l : List α, Srtd lt l → (insB lt x l).filter (eqv lt z) = (x :: l).filter (eqv lt z)
  | [], _ => rfl
  | y :: ys, h => by
    have h' := List.pairwise_cons.mp h
    unfold insB
    split
    · rename_i c
      rw [List.filter_cons, insB_cls O x z ys h'.2, List.filter_cons, List.filter_cons, List.filter_cons]
      by_cases e1 : eqv lt z x = true
      · by_cases e2 : eqv lt z y = true
        · exfalso
          unfold eqv at e1 e2
          rw [Bool.and_eq_true, Bool.not_eq_true', Bool.not_eq_true'] at e1 e2
          have q := O.tr x z y (by first | exact e1.1 | exact e1.2) (by first | exact e2.1 | exact e2.2)
          rw [q] at c; cases c
        · simp [e1, e2]
      · simp [e1]
    · rfl
open SrtO in
theorem isortB_cls (O : Swo lt) (z : α) : ∀ l : List α, (isortB lt l).filter (eqv lt z) = l.filter (eqv lt z)
  | [] => rfl
  | x :: xs => by
    rw [isortB, insB_cls O x z _ (isortB_srtd O xs), List.filter_cons, List.filter_cons, isortB_cls O z xs]
open SrtO in
theorem srtd_unique (O : Swo lt) : ∀ {l m : List α}, Srtd lt l → Srtd lt m → Stb lt l m → l = m
  | [], m, _, _, h => (List.nil_eq.mpr (List.Perm.eq_nil h.perm.symm))
  | a :: l, [], _, _, h => absurd h.perm.length_eq (by simp)
  | a :: l, b :: m, h1, h2, h => by
    have p1 := List.pairwise_cons.mp h1
    have p2 := List.pairwise_cons.mp h2
    have ra : lt a a = false := O.refl a
    have rb : lt b b = false := O.refl b
    have hb : b ∈ a :: l := h.perm.mem_iff.mpr List.mem_cons_self
    have ha : a ∈ b :: m := h.perm.mem_iff.mp List.mem_cons_self
    have c1 : lt b a = false := by
      rcases List.mem_cons.mp hb with e | e
      · rw [e]; exact ra
      · exact p1.1 b e
    have c2 : lt a b = false := by
      rcases List.mem_cons.mp ha with e | e
      · rw [e]; exact rb
      · exact p2.1 a e
    have eaa : eqv lt a a = true := by unfold eqv; rw [ra]; rfl
    have eab : eqv lt a b = true := by unfold eqv; rw [c1, c2]; rfl
    have q := h.cls a
    rw [List.filter_cons_of_pos eaa, List.filter_cons_of_pos eab] at q
    injection q with q1 q2
    subst q1
    refine congrArg (a :: ·) (srtd_unique O p1.2 p2.2 ⟨List.Perm.cons_inv h.perm, fun x => ?_⟩)
    have q := h.cls x
    rw [List.filter_cons, List.filter_cons] at q
    split at q
    · injection q
    · exact q
theorem insB_map {lt' : β → β → Bool} (f : α → β) (x : α) : ∀ l : List α, (∀ y ∈ l, lt' (f y) (f x) = lt y x) → (insB lt x l).map f = insB lt' (f x) (l.map f)
  | [], _ => rfl
  | y :: ys, h => by
    unfold insB
    rw [List.map_cons]
    show _ = if lt' (f y) (f x) = true then _ else _
    rw [h y List.mem_cons_self]
    split
    · rw [List.map_cons, insB_map f x ys fun z hz => h z (List.mem_cons_of_mem _ hz)]
    · rfl
theorem isortB_map {lt' : β → β → Bool} (f : α → β) : ∀ l : List α, (∀ x ∈ l, ∀ y ∈ l, lt' (f y) (f x) = lt y x) → (isortB lt l).map f = isortB lt' (l.map f)
  | [], _ => rfl
  | x :: xs, h => by
    rw [isortB, insB_map f x _ fun y hy => h x List.mem_cons_self y (List.mem_cons_of_mem _ ((isortB_perm xs).mem_iff.mp hy)), List.map_cons, isortB,
      isortB_map f xs fun a ha b hb => h a (List.mem_cons_of_mem _ ha) b (List.mem_cons_of_mem _ hb)]
end
end Dn

/-! Dn, part H: sorted, max, min of data. -/
namespace Dn
open PySem PySem.Spec PyProof.Rows L2 SeqAt SrtO

mutual
theorem toPy_inj : ∀ {d e : D} {p : PyData}, toPy d = some p → toPy e = some p → d = e
  | .non, e, p, h, g => by rw [toPy] at h; cases h; cases e <;> simp [toPy] at g ⊢
  | .bl _, e, p, h, g => by rw [toPy] at h; cases h; cases e <;> simp [toPy] at g ⊢; exact g.symm
  | .int _, e, p, h, g => by rw [toPy] at h; cases h; cases e <;> simp [toPy] at g ⊢; exact g.symm
  | .str _, e, p, h, g => by rw [toPy] at h; cases h; cases e <;> simp [toPy] at g ⊢; exact g.symm
  | .tup l, e, p, h, g => by
    rw [toPy] at h
    obtain ⟨ps, h1, rfl⟩ := Option.map_eq_some_iff.mp h
    cases e with
    | tup m =>
      rw [toPy] at g
      obtain ⟨qs, g1, g2⟩ := Option.map_eq_some_iff.mp g
      cases g2
      rw [toPyL_inj h1 g1]
    | _ => simp [toPy] at g
  | .lst l, e, p, h, g => by
    rw [toPy] at h
    obtain ⟨ps, h1, rfl⟩ := Option.map_eq_some_iff.mp h
    cases e with
    | lst m =>
      rw [toPy] at g
      obtain ⟨qs, g1, g2⟩ := Option.map_eq_some_iff.mp g
      cases g2
      rw [toPyL_inj h1 g1]
    | _ => simp [toPy] at g
  | .ref _, e, p, h, g => by rw [toPy] at h; cases h
  | .fn _, e, p, h, g => by rw [toPy] at h; cases h
  | .ty _, e, p, h, g => by rw [toPy] at h; cases h
  | .kl _, e, p, h, g => by rw [toPy] at h; cases h
theorem toPyL_inj : ∀ {d e : List D} {p : List PyData}, toPyL d = some p → toPyL e = some p → d = e
  | [], [], p, h, g => rfl
  | [], e :: es, p, h, g => by
    obtain ⟨a, b, _, _, rfl⟩ := toPyL_cons g
    rw [toPyL] at h; cases h
  | d :: ds, [], p, h, g => by
    obtain ⟨a, b, _, _, rfl⟩ := toPyL_cons h
    rw [toPyL] at g; cases g
  | d :: ds, e :: es, p, h, g => by
    obtain ⟨a, b, h1, h2, rfl⟩ := toPyL_cons h
    obtain ⟨a', b', g1, g2, e1⟩ := toPyL_cons g
    cases e1
    rw [toPy_inj h1 g1, toPyL_inj h2 g2]
end
/-- what stands at a value, as data -/
noncomputable def kd (h : Heap) (v : Value) : D := by
  classical exact if e : ∃ d p as, toPy d = some p ∧ Reads h v p as then Classical.choose e else .non
theorem kd_of {h : Heap} {v : Value} {d : D} {p : PyData} {as : List Addr} (e : toPy d = some p) (r : Reads h v p as) : kd h v = d := by
  have ex : ∃ d p as, toPy d = some p ∧ Reads h v p as := ⟨d, p, as, e, r⟩
  unfold kd
  rw [dif_pos ex]
  obtain ⟨p', as', e', r'⟩ := Classical.choose_spec ex
  have q := (PySem.Reads.unique r p' as' r').1
  subst q
  exact toPy_inj e' e
/-- values with their data -/
inductive Rd3 (h : Heap) : List Value → List D → Prop
  | nil : Rd3 h [] []
  | cons {v : Value} {d : D} {p : PyData} {as : List Addr} {vs : List Value} {ds : List D} : toPy d = some p → p.canLay0 = true → Reads h v p as → Rd3 h vs ds → Rd3 h (v :: vs) (d :: ds)
theorem Rd3.of {h : Heap} : ∀ {vs : List Value} {ds : List D} {ps : List PyData} {as : List Addr}, toPyL ds = some ps → PyData.canLayAll0 ps = true → ReadsAll h vs ps as → Rd3 h vs ds
  | vs, [], ps, as, e, c, r => by
    rw [toPyL] at e; cases e; cases r; exact .nil
  | vs, d :: ds, ps, as, e, c, r => by
    obtain ⟨a, b, h1, h2, rfl⟩ := toPyL_cons e
    rw [PyData.canLayAll0, Bool.and_eq_true] at c
    cases r with
    | cons r1 r2 => exact .cons h1 c.1 r1 (Rd3.of h2 c.2 r2)
theorem Rd3.kd {h : Heap} : ∀ {vs : List Value} {ds : List D}, Rd3 h vs ds → vs.map (kd h) = ds
  | _, _, .nil => rfl
  | _, _, .cons e _ r t => by rw [List.map_cons, kd_of e r, Rd3.kd t]
theorem Rd3.get {h : Heap} : ∀ {vs : List Value} {ds : List D}, Rd3 h vs ds → ∀ v ∈ vs, ∃ d p as, d ∈ ds ∧ Dn.kd h v = d ∧ toPy d = some p ∧ p.canLay0 = true ∧ Reads h v p as
  | _, _, .nil, v, hv => nomatch hv
  | _, _, .cons e c r t, v, hv => by
    rcases List.mem_cons.mp hv with rfl | hv
    · exact ⟨_, _, _, List.mem_cons_self, kd_of e r, e, c, r⟩
    · obtain ⟨d, p, as, h1, h2⟩ := Rd3.get t v hv
      exact ⟨d, p, as, List.mem_cons_of_mem _ h1, h2⟩
theorem Rd3.keeps {h h' : Heap} (k : ∀ b o, h.get? b = some o → h'.get? b = some o) : ∀ {vs : List Value} {ds : List D}, Rd3 h vs ds → Rd3 h' vs ds
  | _, _, .nil => .nil
  | _, _, .cons e c r t => .cons e c (Reads.keeps k r) (Rd3.keeps k t)

section
variable {prog : Program} {w : World} {A : Around} {s : Shared}
theorem one_d {f : Bool} {d e : D} {p q : PyData} {v u : Value} {as bs : List Addr} {k : Bool} {Q : Bool → Shared → Prop} {E : Value → Shared → Prop} (h : toPy d = some p) (g : toPy e = some q) (ch : p.canLay0 = true) (cg : q.canLay0 = true) (rh : Reads s.heap v p as) (rg : Reads s.heap u q bs)
    (hk : dcmp .Lt d e = some k) (hu : A.units + dep d < cLine) (hf : f = true → (isStr d = true ∧ isStr e = true) ∨ (isInt d = true ∧ isInt e = true)) (hq : Q k s) : wpAny (model prog w) A (PyProof.Rows.oneLt' f v u) Q E s := by
  cases f with
  | false =>
    refine PySem.W.kat_one _ _ ?_
    exact rc_d (.inl rfl) h g ch cg rh rg hk hu prog w E _ (show PySem.W.BoolBack Q (.bool k) s from hq)
  | true =>
    rcases hf rfl with ⟨h1, h2⟩ | ⟨h1, h2⟩
    · cases d <;> simp [isStr] at h1
      cases e <;> simp [isStr] at h2
      rw [toPy] at h g; cases h; cases g
      cases rh; cases rg
      rw [dcmp] at hk; cases hk
      exact PyProof.Rows.oneLt_str hq
    · cases d <;> simp [isInt] at h1
      cases e <;> simp [isInt] at h2
      rw [toPy] at h g; cases h; cases g
      cases rh; cases rg
      rw [dcmp] at hk; cases hk
      exact PyProof.Rows.oneLt_int hq
theorem kat_d {b fin : Bool} {Q : Bool → Shared → Prop} : ∀ {d e : List D} {p q : List PyData} {vs us : List Value} {as bs : List Addr} {k : Bool} (i : Nat), toPyL d = some p → toPyL e = some q → PyData.canLayAll0 p = true → PyData.canLayAll0 q = true → ReadsAll s.heap vs p as → ReadsAll s.heap us q bs →
    dcmpL .Lt d e = some k → A.units + depL d < cLine → fin = szB .Lt vs.length us.length → ((b && i == 0) = true → ∀ x y, d[0]? = some x → e[0]? = some y → (isStr x = true ∧ isStr y = true) ∨ (isInt x = true ∧ isInt y = true)) → Q k s →
    PySem.W.KatLex prog w A b fin Q (vs.zip us) i s
  | [], [], p, q, vs, us, as, bs, k, i, h, g, ch, cg, rh, rg, hk, hu, hf, hb, hq => by
    rw [toPyL] at h g; cases h; cases g; cases rh; cases rg
    rw [dcmpL] at hk; cases hk
    exact PySem.W.kat_nil (by rw [hf]; exact hq)
  | [], y :: ys, p, q, vs, us, as, bs, k, i, h, g, ch, cg, rh, rg, hk, hu, hf, hb, hq => by
    rw [toPyL] at h; cases h; cases rh
    obtain ⟨a', b', g1, g2, rfl⟩ := toPyL_cons g
    cases rg with
    | cons r1 r2 =>
      rw [dcmpL] at hk; cases hk
      refine PySem.W.kat_nil ?_
      rw [hf]
      simpa [szB, ordI] using hq
  | x :: xs, [], p, q, vs, us, as, bs, k, i, h, g, ch, cg, rh, rg, hk, hu, hf, hb, hq => by
    rw [toPyL] at g; cases g; cases rg
    obtain ⟨a', b', g1, g2, rfl⟩ := toPyL_cons h
    cases rh with
    | cons r1 r2 =>
      rw [dcmpL] at hk; cases hk
      refine PySem.W.kat_nil ?_
      rw [hf]
      simpa [szB, ordI] using hq
  | x :: xs, y :: ys, p, q, vs, us, as, bs, k, i, h, g, ch, cg, rh, rg, hk, hu, hf, hb, hq => by
    obtain ⟨a, b, h1, h2, rfl⟩ := toPyL_cons h
    obtain ⟨a', b', g1, g2, rfl⟩ := toPyL_cons g
    rw [PyData.canLayAll0, Bool.and_eq_true] at ch cg
    cases rh with
    | cons r1 r2 =>
      cases rg with
      | cons r1' r2' =>
        rw [dcmpL] at hk
        rw [depL] at hu
        have hd := deq_eqv h1 g1
        rw [List.zip_cons_cons]
        refine PySem.W.kat_cons (eqBoolOverData prog w A _ s _ _ _ _ _ _ _ r1 r1' ch.1 cg.1 (by rw [dep_py h1]; have := Nat.min_le_left (dep x) a'.depth; omega) ?_)
        rw [← hd]
        refine PySem.W.kat_go (fun e1 => ?_) (fun e1 => ?_)
        · rw [e1, if_pos rfl] at hk
          refine PySem.W.kat_yes (kat_d (i + 1) h2 g2 ch.2 cg.2 r2 r2' hk (by omega) ?_ (fun z => ?_) hq)
          · rw [hf, List.length_cons, List.length_cons, szB_succ (.inl rfl)]
          · rw [Bool.and_eq_true] at z
            have := z.2
            simp at this
        · rw [e1, if_neg Bool.false_ne_true] at hk
          exact PySem.W.kat_no (one_d h1 g1 ch.1 cg.1 r1 r1' hk (by omega) (fun z => hb z x y rfl rfl) hq)
theorem allCmp_get {ds : List D} (h : allCmp ds = true) {d e : D} (hd : d ∈ ds) (he : e ∈ ds) : ∃ k, dcmp .Lt d e = some k := by
  unfold allCmp at h
  rw [List.all_eq_true] at h
  have q := h d hd
  rw [List.all_eq_true] at q
  exact Option.isSome_iff_exists.mp (q e he)
theorem depL_mem : ∀ {ds : List D} {d : D}, d ∈ ds → dep d ≤ depL ds
  | e :: ds, d, h => by
    rw [depL]
    rcases List.mem_cons.mp h with rfl | h
    · exact Nat.le_max_left _ _
    · exact Nat.le_trans (depL_mem h) (Nat.le_max_right _ _)
theorem headIs_inv {c : String} {d : D} (h : headIs c d = true) : ∃ x xs, d = .tup (x :: xs) ∧ clsOf x = some c := by
  cases d with
  | tup l =>
    cases l with
    | nil => cases h
    | cons x xs =>
      refine ⟨x, xs, rfl, ?_⟩
      simpa [headIs] using h
  | _ => cases h
theorem cls_str {x : D} (h : clsOf x = some "str") : isStr x = true := by cases x <;> simp_all [clsOf, isStr]
theorem cls_int {x : D} (h : clsOf x = some "int") : isInt x = true := by cases x <;> simp_all [clsOf, isInt]
/-- what the sort asks of two items -/
theorem cmpO_tup {c : String} {vs : List Value} {ds : List D} {h0 : Heap} (R : Rd3 s.heap vs ds) (R0 : ∀ v ∈ vs, kd h0 v = kd s.heap v) (ac : allCmp ds = true) (hh : ds.all (headIs c) = true) (hc : c = "str" ∨ c = "int" ∨ c = "tuple") (hu : A.units + 70 < cLine) (hd : depL ds ≤ 64) :
    Cmp prog w A s (tuples' (Value.type c != Value.type "tuple")) (fun p => p.1 ∈ vs) (lt2 fun v u => tlt (kd h0 v) (kd h0 u)) := by
  intro p q hm hm'
  obtain ⟨d, pd, as, m1, k1, t1, l1, r1⟩ := R.get _ hm
  obtain ⟨e, pe, bs, m2, k2, t2, l2, r2⟩ := R.get _ hm'
  obtain ⟨k, hk⟩ := allCmp_get ac m1 m2
  show wpAny (model prog w) A (keyLt' _ p.1 q.1) (fun r s' => s' = s ∧ r = tlt (kd h0 p.1) (kd h0 q.1)) (fun _ _ => False) s
  rw [R0 _ hm, R0 _ hm', k1, k2, dcmp_tlt hk]
  rw [List.all_eq_true] at hh
  obtain ⟨x, xs, rfl, c1⟩ := headIs_inv (hh d m1)
  obtain ⟨y, ys, rfl, c2⟩ := headIs_inv (hh e m2)
  have h1 := depL_mem m1
  generalize p.1 = v at *
  generalize q.1 = u at *
  rw [toPy] at t1 t2
  obtain ⟨ps, t1', rfl⟩ := Option.map_eq_some_iff.mp t1
  obtain ⟨qs, t2', rfl⟩ := Option.map_eq_some_iff.mp t2
  cases r1 with
  | tuple e1 e2 e3 r1 =>
    cases r2 with
    | tuple e1' e2' e3' r2 =>
      rw [dcmp] at hk
      rw [PyData.canLay0] at l1 l2
      rw [dep] at h1
      refine PySem.W.kat_lt e1 e3 e1' e3' (kat_d 0 t1' t2' l1 l2 r1 r2 hk (by omega) ?_ (fun z x' y' q1 q2 => ?_) ⟨rfl, rfl⟩)
      · rw [Array.length_toList, Array.length_toList]; rfl
      · simp only [List.getElem?_cons_zero, Option.some.injEq] at q1 q2
        subst q1 q2
        rcases hc with rfl | rfl | rfl
        · exact .inl ⟨cls_str c1, cls_str c2⟩
        · exact .inr ⟨cls_int c1, cls_int c2⟩
        · rw [Bool.and_eq_true] at z
          exact absurd z.1 (by decide)
theorem cmpO_one {vs : List Value} {ds : List D} {h0 : Heap} (R : Rd3 s.heap vs ds) (R0 : ∀ v ∈ vs, kd h0 v = kd s.heap v) (ac : allCmp ds = true) (hh : ds.all isStr = true ∨ ds.all isInt = true) (hu : A.units + 70 < cLine) (hd : depL ds ≤ 64) :
    Cmp prog w A s oneType' (fun p => p.1 ∈ vs) (lt2 fun v u => tlt (kd h0 v) (kd h0 u)) := by
  intro p q hm hm'
  obtain ⟨d, pd, as, m1, k1, t1, l1, r1⟩ := R.get _ hm
  obtain ⟨e, pe, bs, m2, k2, t2, l2, r2⟩ := R.get _ hm'
  obtain ⟨k, hk⟩ := allCmp_get ac m1 m2
  show wpAny (model prog w) A (oneLt' true p.1 q.1) (fun r s' => s' = s ∧ r = tlt (kd h0 p.1) (kd h0 q.1)) (fun _ _ => False) s
  rw [R0 _ hm, R0 _ hm', k1, k2, dcmp_tlt hk]
  have h1 := depL_mem m1
  refine one_d t1 t2 l1 l2 r1 r2 hk (by omega) (fun _ => ?_) ⟨rfl, rfl⟩
  rcases hh with hh | hh
  · rw [List.all_eq_true] at hh
    exact .inl ⟨hh d m1, hh e m2⟩
  · rw [List.all_eq_true] at hh
    exact .inr ⟨hh d m1, hh e m2⟩
theorem Rd3.len {h : Heap} {vs : List Value} {ds : List D} (R : Rd3 h vs ds) : vs.length = ds.length := by rw [← R.kd, List.length_map]
theorem Rd3.strs {h : Heap} : ∀ {vs : List Value} {ds : List D}, Rd3 h vs ds → ds.all isStr = true → ∃ ss, StrsAre vs ss
  | _, _, .nil, _ => ⟨_, .nil⟩
  | _, _, .cons e c r t, hh => by
    rw [List.all_cons, Bool.and_eq_true] at hh
    obtain ⟨ss, q⟩ := Rd3.strs t hh.2
    rename_i d p as vs ds
    cases d <;> simp [isStr] at hh
    rw [toPy] at e; cases e; cases r
    exact ⟨_, .cons _ _ q⟩
theorem Rd3.ints {h : Heap} : ∀ {vs : List Value} {ds : List D}, Rd3 h vs ds → ds.all isInt = true → ∃ ns, IntsAre vs ns
  | _, _, .nil, _ => ⟨_, .nil⟩
  | _, _, .cons e c r t, hh => by
    rw [List.all_cons, Bool.and_eq_true] at hh
    obtain ⟨ss, q⟩ := Rd3.ints t hh.2
    rename_i d p as vs ds
    cases d <;> simp [isInt] at hh
    rw [toPy] at e; cases e; cases r
    exact ⟨_, .cons _ _ q⟩
theorem looks_of {h : Heap} {d : D} {p : PyData} {v : Value} {as : List Addr} {c : String} (e : toPy d = some p) (r : Reads h v p as) (hc : clsOf d = some c) : PySem.W.Looks (model prog w) h (typeOf v) (.type c) := by
  intro A Q E s k q
  cases d with
  | tup l =>
    rw [toPy] at e
    obtain ⟨ps, e, rfl⟩ := Option.map_eq_some_iff.mp e
    cases hc
    cases r with
    | tuple e1 e2 e3 _ => exact wpAny_typeOf ⟨_, k _ _ e1, e2⟩ q
  | lst l =>
    rw [toPy] at e
    obtain ⟨ps, e, rfl⟩ := Option.map_eq_some_iff.mp e
    cases hc
    cases r with
    | list e1 e2 e3 _ => exact wpAny_typeOf ⟨_, k _ _ e1, e2⟩ q
  | ref _ => cases hc
  | fn _ => cases hc
  | ty _ => cases hc
  | kl _ => cases hc
  | non => rw [toPy] at e; cases e; cases hc; cases r; exact wpAny_typeOf (T := "NoneType") (by first | rfl | exact typeIs_none _) q
  | bl b => rw [toPy] at e; cases e; cases hc; cases r; exact wpAny_typeOf (PySem.typeIs_bool _ _) q
  | int b => rw [toPy] at e; cases e; cases hc; cases r; exact wpAny_typeOf (typeIs_int _ _ _) q
  | str b => rw [toPy] at e; cases e; cases hc; cases r; exact wpAny_typeOf (typeIs_str _ _ _) q
theorem Rd3.tups {h : Heap} {c : String} : ∀ {vs : List Value} {ds : List D}, Rd3 h vs ds → ds.all (headIs c) = true → ∃ fs, PySem.W.KatTups h vs fs ∧ fs.length = vs.length ∧ ∀ f ∈ fs, PySem.W.Looks (model prog w) h (typeOf f) (.type c)
  | _, _, .nil, _ => ⟨[], trivial, rfl, fun f hf => nomatch hf⟩
  | _, _, .cons e c' r t, hh => by
    rw [List.all_cons, Bool.and_eq_true] at hh
    obtain ⟨fs, q1, q2, q3⟩ := Rd3.tups t hh.2
    obtain ⟨x, xs, rfl, c1⟩ := headIs_inv hh.1
    rw [toPy] at e
    obtain ⟨ps, e', rfl⟩ := Option.map_eq_some_iff.mp e
    obtain ⟨a, b, e1, e2, rfl⟩ := toPyL_cons e'
    cases r with
    | tuple o1 o2 o3 ra =>
      rename_i vs ds adr o its n
      cases its with
      | mk l =>
        cases l with
        | nil => cases ra
        | cons f l =>
          cases ra with
          | cons r1 r2 =>
            refine ⟨f :: fs, ⟨⟨_, _, _, _, rfl, o1, o2, o3, rfl⟩, q1⟩, by rw [List.length_cons, List.length_cons, q2], fun g hg => ?_⟩
            rcases List.mem_cons.mp hg with rfl | hg
            · exact looks_of e1 r1 c1
            · exact q3 g hg
end

/-! ### sorted, of a list or a tuple -/
section
variable {prog : Program} {w : World} {A : Around} {s : Shared}
theorem kind_one {vs : List Value} {ds : List D} (R : Rd3 s.heap vs ds) (h2 : 2 ≤ vs.length) (hh : ds.all isStr = true ∨ ds.all isInt = true) : keyKind' vs.toArray = pure oneType' := by
  match vs, h2, R with
  | v :: u :: vs, _, R =>
    rcases hh with hh | hh
    · obtain ⟨ss, q⟩ := R.strs hh
      exact keyKind_strs q
    · obtain ⟨ss, q⟩ := R.ints hh
      exact keyKind_ints q
theorem sortable_d {a : Addr} {vs : List Value} {ds : List D} {h0 : Heap} (h2 : 2 ≤ vs.length) (R : Rd3 h0 vs ds) (k0 : ∀ b o, h0.get? b = some o → b ≠ a ∧ s.heap.get? b = some o) (ac : allCmp ds = true) (ko : kindOk ds = true) (hu : A.units + 70 < cLine) (hd : depL ds ≤ 64) :
    SortableO prog w A s a vs fun v u => tlt (kd h0 v) (kd h0 u) := by
  intro h' keep
  have kk : ∀ b o, h0.get? b = some o → h'.get? b = some o := fun b o e => keep b o (k0 b o e).1 (k0 b o e).2
  have R' : Rd3 h' vs ds := R.keeps kk
  have R0 : ∀ v ∈ vs, kd h0 v = kd h' v := fun v hv => by
    obtain ⟨d, p, as, m, e, t, c, r⟩ := R.get v hv
    rw [e]; exact (kd_of t (Reads.keeps kk r)).symm
  unfold kindOk at ko
  simp only [Bool.or_eq_true] at ko
  have one : (ds.all isStr = true ∨ ds.all isInt = true) → _ := fun hh => (⟨oneType', fun Q E hq => by rw [kind_one (s := { s with heap := h' }) R' h2 hh]; exact wpAny_pure hq, cmpO_one (s := { s with heap := h' }) R' R0 ac hh hu hd⟩ :
    ∃ κ, (∀ (Q : SortKind → Shared → Prop) (E : Value → Shared → Prop), Q κ { s with heap := h' } → wpAny (model prog w) A (keyKind' vs.toArray) Q E { s with heap := h' }) ∧ Cmp prog w A { s with heap := h' } κ (fun p => p.1 ∈ vs) (lt2 fun v u => tlt (kd h0 v) (kd h0 u)))
  have tup : ∀ c : String, ds.all (headIs c) = true → (c = "str" ∨ c = "int" ∨ c = "tuple") → ∃ κ, (∀ (Q : SortKind → Shared → Prop) (E : Value → Shared → Prop), Q κ { s with heap := h' } → wpAny (model prog w) A (keyKind' vs.toArray) Q E { s with heap := h' }) ∧ Cmp prog w A { s with heap := h' } κ (fun p => p.1 ∈ vs) (lt2 fun v u => tlt (kd h0 v) (kd h0 u)) := fun c hh hc => by
    obtain ⟨fs, q1, q2, q3⟩ := Rd3.tups (prog := prog) (w := w) R' hh
    refine ⟨_, fun Q E hq => PySem.W.kat_kind (s := { s with heap := h' }) q1 (by omega) q3 ?_ hq, cmpO_tup (s := { s with heap := h' }) R' R0 ac hh hc hu hd⟩
    simp
  rcases ko with (((h | h) | h) | h) | h
  · exact one (.inl h)
  · exact one (.inr h)
  · exact tup _ h (.inl rfl)
  · exact tup _ h (.inr (.inl rfl))
  · exact tup _ h (.inr (.inr rfl))
/-- three rows that go together -/
structure Tri where
  v : Value
  x : V
  d : D
theorem tri_of {K : PySem.W.Frag} {fa : Nat → Addr} {Wr : Addr → Prop} {ρ : List Addr} {H : Hp} : ∀ {ds : List D} {xs : List V} {vs : List Value}, RpL K fa Wr ρ H ds xs → Vals xs vs → ∃ T : List Tri, T.map (·.v) = vs ∧ T.map (·.x) = xs ∧ T.map (·.d) = ds ∧ ∀ t ∈ T, L2.RelV t.x t.v ∧ Rp K fa Wr ρ H t.d t.x
  | [], xs, vs, r, q => by
    rw [RpL] at r; subst r; cases q
    exact ⟨[], rfl, rfl, rfl, fun t ht => nomatch ht⟩
  | d :: ds, xs, vs, r, q => by
    obtain ⟨x, t, rfl, h1, h2⟩ := r.inv
    cases q with
    | cons q1 q2 =>
      obtain ⟨T, e1, e2, e3, h⟩ := tri_of h2 q2
      rename_i v vs
      refine ⟨⟨v, x, d⟩ :: T, by simp [e1], by simp [e2], by simp [e3], fun t ht => ?_⟩
      rcases List.mem_cons.mp ht with rfl | ht
      · exact ⟨q1, h1⟩
      · exact h t ht
theorem tri_back {K : PySem.W.Frag} {fa : Nat → Addr} {Wr : Addr → Prop} {ρ : List Addr} {H : Hp} : ∀ {T : List Tri}, (∀ t ∈ T, L2.RelV t.x t.v ∧ Rp K fa Wr ρ H t.d t.x) → Vals (T.map (·.x)) (T.map (·.v)) ∧ RpL K fa Wr ρ H (T.map (·.d)) (T.map (·.x))
  | [], _ => ⟨.nil, .nil⟩
  | t :: T, h => by
    obtain ⟨h1, h2⟩ := h t List.mem_cons_self
    obtain ⟨g1, g2⟩ := tri_back (T := T) fun u hu => h u (List.mem_cons_of_mem _ hu)
    exact ⟨.cons h1 g1, .cons h2 g2⟩
/-- the sorted values -/
theorem sorted_vals {K : PySem.W.Frag} {fa : Nat → Addr} {Wr : Addr → Prop} {ρ : List Addr} {H : Hp} {h0 : Heap} {ds : List D} {xs : List V} {vs out : List Value} (R : Rd3 h0 vs ds) (r : RpL K fa Wr ρ H ds xs) (q : Vals xs vs)
    (h1 : Srtd (fun v u => tlt (kd h0 v) (kd h0 u)) out) (h2 : Stb (fun v u => tlt (kd h0 v) (kd h0 u)) out vs) : ∃ ys, Vals ys out ∧ RpL K fa Wr ρ H (tsort ds) ys ∧ ys.length = xs.length := by
  obtain ⟨T, e1, e2, e3, h⟩ := tri_of r q
  have O : Swo (fun v u => tlt (kd h0 v) (kd h0 u)) := ⟨fun x y => swo_tlt.asym _ _, fun x y z => swo_tlt.tr _ _ _⟩
  have kt : ∀ t ∈ T, kd h0 t.v = t.d := by
    have e : (T.map (·.v)).map (kd h0) = T.map (·.d) := by rw [e1, e3, R.kd]
    rw [List.map_map] at e
    intro t ht
    exact List.map_inj_left.mp e t ht
  have S : out = (isortB (fun a b : Tri => tlt a.d b.d) T).map (·.v) := by
    rw [isortB_map (lt' := fun v u => tlt (kd h0 v) (kd h0 u)) (·.v) T fun a ha b hb => by rw [kt a ha, kt b hb], e1]
    exact srtd_unique O h1 (isortB_srtd O vs) ⟨h2.perm.trans (isortB_perm vs).symm, fun x => by rw [h2.cls, isortB_cls O]⟩
  have hm : ∀ t ∈ isortB (fun a b : Tri => tlt a.d b.d) T, L2.RelV t.x t.v ∧ Rp K fa Wr ρ H t.d t.x := fun t ht => h t ((isortB_perm T).mem_iff.mp ht)
  obtain ⟨g1, g2⟩ := tri_back hm
  refine ⟨(isortB (fun a b : Tri => tlt a.d b.d) T).map (·.x), by rw [S]; exact g1, ?_, ?_⟩
  · have e : tsort ds = (isortB (fun a b : Tri => tlt a.d b.d) T).map (·.d) := by
      rw [isortB_map (lt' := tlt) (·.d) T fun a _ b _ => rfl, e3]
      rfl
    rw [e]; exact g2
  · rw [List.length_map, (isortB_perm T).length_eq, ← e2, List.length_map]
end
end Dn

/-! Dn, part I: sorted of a tuple; built-ins over data. -/
namespace Dn
open PySem PySem.Spec PyProof.Rows L2 SeqAt SrtO
section
variable {prog : Program} {w : World} {A : Around} {E : Value → Shared → Prop} {s : Shared}
/-- the items of a tuple or a list, in a new list beneath -/
theorem collect_seq {l : Addr} {o : Obj} {T : String} {its : Array Value} {n : Nat} {Q : List Value → Shared → Prop} (hT : T = "list" ∨ T = "tuple") (ho : s.heap.get? l = some o) (hc : o.cls = .type T) (hd : o.data = .seq its n) (hz : its.size ≤ sizeLine)
    (h : ∀ h1 : Heap, (∀ b u, s.heap.get? b = some u → h1.get? b = some u) → h1.objs.size = s.heap.objs.size + 1 → Q its.toList { s with heap := h1 }) : wpAny (model prog w) A (collect (.ref l)) Q E s := by
  have o1 : (s.heap.push (seqObj "list" #[] 0)).get? l = some o := Heap.get?_push_of_some _ ho
  have o2 : (s.heap.push (seqObj "list" #[] 0)).get? s.heap.objs.size = some (seqObj "list" #[] 0) := Heap.get?_push_size _ rfl
  have kk : ∀ b u, s.heap.get? b = some u → ((s.heap.push (seqObj "list" #[] 0)).update s.heap.objs.size (Obj.mapSeq (· ++ its))).get? b = some u := fun b u e => by
    rw [Heap.get?_update_ne _ _ _ _ (Nat.ne_of_lt (Heap.lt_size e))]
    exact Heap.get?_push_of_some _ e
  have q := h _ kk (by rw [Heap.size_update, size_push'])
  have z : (#[] ++ its).size ≤ sizeLine + 1 := by
    simp only [Array.empty_append]
    omega
  have tc : (Value.type T == Value.type "list" || Value.type T == Value.type "tuple") = true := by rcases hT with rfl | rfl <;> rfl
  have ty : ({ s with heap := s.heap.push (seqObj "list" #[] 0) } : Shared).TypeIs (.ref l) T := ⟨o, o1, hc⟩
  unfold collect
  apply wpAny_bind
  apply wpAny_runValue
  refine codeAny_builtin entry_proto_collect' ?_
  show wpAny _ _ (newList [] >>= fun x => again (.builtin "list.__iadd__" ⟨[x, .ref l], []⟩)) _ _ s
  apply wpAny_bind
  apply wpAny_newList _ (Nat.zero_le _)
  apply wpAny_pure
  refine ⟨Code.quiet_builtin _ (by decide +kernel), codeAny_builtin entry_list_iadd' ?_⟩
  change wpAny (model prog w) _ (Builtin.List.listExtendWith (Value.ref s.heap.objs.size) (Value.ref l) (Value.ref s.heap.objs.size)) _ _ _
  unfold Builtin.List.listExtendWith
  apply wpAny_bind
  apply wpAny_typeOf ty
  rw [if_pos (by rw [Bool.or_assoc, tc, Bool.or_true])]
  refine wpAny_bind (listItems_at o1 hd ?_)
  refine wpAny_bind (listItems_at o2 rfl ?_)
  rw [if_neg (by simp)]
  refine wpAny_bind (listUpdate_at o2 rfl ?_ (Nat.zero_le _) z)
  have e := get?_update_seq o2 (fun x => x ++ its)
  apply wpAny_pure
  apply wpAny_bind (m := load s.heap.objs.size) (wpAny_load e _)
  have e2 : ((#[] : Array Value) ++ its).toList = its.toList := by simp
  show wpAny _ _ (pure ((#[] : Array Value) ++ its).toList) Q E _
  rw [e2]
  exact wpAny_pure q

/-- sorted of a list or a tuple whose items are sortable -/
theorem sorted_seq {l : Addr} {o : Obj} {T : String} {vs : List Value} {n : Nat} {ltv : Value → Value → Bool} {Q : Value → Shared → Prop} (O : Swo ltv) (hT : T = "list" ∨ T = "tuple") (ho : s.heap.get? l = some o) (hc : o.cls = .type T) (hd : o.data = .seq vs.toArray n) (hz : vs.length ≤ sizeLine)
    (hS : 2 ≤ vs.length → ∀ (h1 : Heap) (a : Addr), (∀ b u, s.heap.get? b = some u → b ≠ a ∧ h1.get? b = some u) → SortableO prog w A.in1.in1 { s with heap := h1 } a vs ltv)
    (h : ∀ (out : List Value) (a : Addr) (h2 : Heap) (m : Nat), Srtd ltv out → Stb ltv out vs → (∀ b u, s.heap.get? b = some u → h2.get? b = some u) → s.heap.objs.size ≤ a → h2.get? a = some (seqObj "list" out.toArray m) → Q (.ref a) { s with heap := h2 }) :
    wpAny (model prog w) A (call (.builtin "sorted") [.ref l]) Q E s := by
  apply Calls.call_function_entry kind_sorted plain_sorted entry_sorted (args_sorted1 _)
  unfold Builtin.«sorted»
  apply wpAny_bind (m := checkCount "sorted" 1 1 _)
  apply wpAny_pure
  refine wpAny_bind (collect_seq hT ho hc hd (by simpa using hz) fun h1 k1 z1 => ?_)
  refine wpAny_bind (wpAny_newList ?_ hz)
  have hoL : (h1.push (seqObj "list" vs.toArray 0)).get? h1.objs.size = some (seqObj "list" vs.toArray 0) := Heap.get?_push_size _ rfl
  have k2 : ∀ b u, s.heap.get? b = some u → b ≠ h1.objs.size ∧ (h1.push (seqObj "list" vs.toArray 0)).get? b = some u := fun b u e =>
    ⟨Nat.ne_of_lt (by rw [z1]; exact Nat.lt_succ_of_lt (Heap.lt_size e)), Heap.get?_push_of_some _ (k1 b u e)⟩
  change wpAny (model prog w) _ _ _ _ { s with heap := h1.push (seqObj "list" vs.toArray 0) }
  refine wpAny_bind (wpAny_holding (wpAny_call_entry slot_list_sort ⟨_, hoL, rfl⟩ entry_list_sort (list_sort_ord O hoL hz (fun h2 => hS h2 _ _ k2) fun out hs hb => ⟨_, rfl, ?_⟩) (args_list_sort _)))
  obtain ⟨m, hm⟩ := sortedHeap_at (vs := vs) (out := out.toArray) hoL
  refine wpAny_pure ⟨_, rfl, h out _ _ m hs hb (fun b u e => ?_) (by show s.heap.objs.size ≤ h1.objs.size; rw [z1]; exact Nat.le_succ _) hm⟩
  obtain ⟨q1, q2⟩ := k2 b u e
  rw [sortedHeap_old q1 (Heap.lt_size q2)]
  exact q2
end

theorem tsort_short {l : List D} (h : l.length < 2) : tsort l = l := by
  match l, h with
  | [], _ => rfl
  | [x], _ => rfl
  | _ :: _ :: _, h => exact absurd h (by rw [List.length_cons, List.length_cons]; omega)
/-! ### built-in functions, built-in classes, as calls -/
section
variable {X : Cx}
/-- what a call of a built-in gives: f at ds is d -/
def rFn (K : PySem.W.Frag) (f : List D → Option D) (fr : Bool) : List V → Hp → VK → Prop := fun xs H Q => ∃ fa Wr ρ ds d, (∀ a, Wr a → Mut (H a)) ∧ RrL K fa Wr ρ H ds xs ∧ f ds = some d ∧ Post K fa Wr ρ H fr d Q
theorem RrL.one {K : PySem.W.Frag} {fa : Nat → Addr} {Wr : Addr → Prop} {ρ : List Addr} {H : Hp} {d : D} {xs : List V} (h : RrL K fa Wr ρ H [d] xs) : ∃ x, xs = [x] ∧ Rr K fa Wr ρ H d x := by
  cases h with
  | cons h1 h2 => cases h2; exact ⟨_, rfl, h1⟩
theorem RrL.two {K : PySem.W.Frag} {fa : Nat → Addr} {Wr : Addr → Prop} {ρ : List Addr} {H : Hp} {d e : D} {xs : List V} (h : RrL K fa Wr ρ H [d, e] xs) : ∃ x y, xs = [x, y] ∧ Rr K fa Wr ρ H d x ∧ Rr K fa Wr ρ H e y := by
  cases h with
  | cons h1 h2 =>
    cases h2 with
    | cons h2 h3 => cases h3; exact ⟨_, _, rfl, h1, h2⟩
/-- the values that are read at a list or a tuple -/
theorem rd3_list {pins : List (Addr × Obj)} {σ : L2.St} {H : Hp} {s : Shared} {fa : Nat → Addr} {Wr : Addr → Prop} {ρ : List Addr} {l : List D} {xs : List V} {its : List Value} (I : Inv X pins σ H s) (r : RpL X.K fa Wr ρ H l xs) (q : Vals xs its) (h : dokL l = true) : Rd3 s.heap its l := by
  obtain ⟨ps, e, c⟩ := dokL_py h
  obtain ⟨as, z⟩ := Dp.readsAll I ps xs its (r.dp e) q
  exact Rd3.of e c z
theorem call_sortedD (hu : X.A.units + 200 < cLine) : CallR X (.builtin "sorted") (fun xs H Q => ∃ fa Wr ρ d l m, (∀ a, Wr a → Mut (H a)) ∧ (d = .lst l ∨ d = .tup l) ∧ RrL X.K fa Wr ρ H [d] xs ∧ dokL l = true ∧ depL l ≤ 60 ∧ srt l = some m ∧ Post X.K fa Wr ρ H true (.lst m) Q) := by
  intro pins s σ H xs us Q I r ⟨fa, Wr, ρ, d, l, m, mu, hd, hr, h1, h2, h3, q⟩
  obtain ⟨x, rfl, hx⟩ := hr.one
  obtain ⟨u, rfl, rx⟩ := vals1 r
  obtain ⟨T, a, ys, its, o, n, hT, rfl, ry, rv, hz, ho, hc, ho2⟩ : ∃ (T : String) (a : Addr) (ys : List V) (its : List Value) (o : Obj) (n : Nat), (T = "list" ∨ T = "tuple") ∧ x = .ref a ∧ RpL X.K fa Wr ρ H l ys ∧ Vals ys its ∧ ys.length ≤ sizeLine ∧ s.heap.get? a = some o ∧ o.cls = .type T ∧ o.data = .seq its.toArray n := by
    rcases hd with rfl | rfl
    · obtain ⟨a, ys, e, g, ry⟩ := hx.lst
      obtain ⟨z, its, n, rv, _, ho⟩ := Dn.Inv.lstR I g
      exact ⟨_, a, ys, its, _, n, .inl rfl, e, ry, rv, z, ho, rfl, rfl⟩
    · obtain ⟨a, ys, e, g, ry⟩ := hx.tup
      obtain ⟨its, rv, ⟨o, ho, hc, n, hd⟩, z⟩ := I.tuple g
      exact ⟨_, a, ys, its, o, n, .inr rfl, e, ry, rv, z, ho, hc, hd⟩
  cases rx
  have R := rd3_list I ry rv h1
  have hl : its.length ≤ sizeLine := by rw [← rv.length]; exact hz
  have O : Swo (fun v u => tlt (kd s.heap v) (kd s.heap u)) := ⟨fun x y => swo_tlt.asym _ _, fun x y z => swo_tlt.tr _ _ _⟩
  unfold srt at h3
  have fin : ∀ (out : List Value) (b : Addr) (h2 : Heap) (k : Nat), Srtd (fun v u => tlt (kd s.heap v) (kd s.heap u)) out → Stb (fun v u => tlt (kd s.heap v) (kd s.heap u)) out its → (∀ c u, s.heap.get? c = some u → h2.get? c = some u) → s.heap.objs.size ≤ b → h2.get? b = some (seqObj "list" out.toArray k) → tsort l = m → EP X pins σ Q (.ref b) { s with heap := h2 } := fun out b h2 k s1 s2 kk kb e em => by
    obtain ⟨zs, v1, r1, z1⟩ := sorted_vals R ry rv s1 s2
    subst em
    have hb : H b = none := I.hok.fresh kb
    exact ⟨.ref b, _, I.laid (t' := s.toks) (o := .lst zs) kk kb ⟨by rw [z1]; exact hz, out, k, v1, e⟩, rfl, q.lst mu r1 b hb⟩
  refine sorted_seq O hT ho hc ho2 hl (fun w2 h1' b kk => ?_) (fun out b h2 k s1 s2 kk kb e => fin out b h2 k s1 s2 kk kb e ?_)
  · rw [if_neg (by rw [← R.len]; omega)] at h3
    split at h3
    · rename_i c
      rw [Bool.and_eq_true] at c
      exact sortable_d (s := { s with heap := h1' }) w2 R kk c.1 c.2 (by show X.A.units + 1 + 1 + 70 < cLine; omega) (by omega)
    · cases h3
  · split at h3
    · cases h3
      exact tsort_short (by assumption)
    · split at h3
      · cases h3; rfl
      · cases h3
end
end Dn

/-! Dn, part J: the greater and the lesser of two, texts of data. -/
namespace Dn
open PySem PySem.Spec PyProof.Rows L2 SeqAt
section
variable {prog : Program} {w : World} {A : Around} {E : Value → Shared → Prop} {s : Shared}
/-- how the items of the pair compare -/
def bt2 (o : CmpOp) (a b : D) (i j : Nat) : Bool := (dcmp o (if i = 0 then a else b) (if j = 0 then a else b)).getD false
theorem pair_cmp2 {o : CmpOp} (ho : o = .Lt ∨ o = .LtE ∨ o = .Gt ∨ o = .GtE) {h0 : Heap} {a b : D} {p q : PyData} {va vb : Value} {as bs : List Addr} (ha : toPy a = some p) (hb : toPy b = some q) (ca : p.canLay0 = true) (cb : q.canLay0 = true) (ra : Reads h0 va p as) (rb : Reads h0 vb q bs)
    (all : ∀ d ∈ [a, b], ∀ e ∈ [a, b], ∃ k, dcmp o d e = some k) (hu : A.units + 70 < cLine) (hd : dep a ≤ 64 ∧ dep b ≤ 64) : CmpIn prog w A o h0 (fun i v => #[va, vb][i]? = some v) (bt2 o a b) := by
  intro i j vi vj s' Q E' keep hi hj hQ
  have cases2 : ∀ (i : Nat) (v : Value), #[va, vb][i]? = some v → (i = 0 ∧ v = va) ∨ (i = 1 ∧ v = vb) := fun i v e => by
    match i with
    | 0 => simp at e; exact .inl ⟨rfl, e.symm⟩
    | 1 => simp at e; exact .inr ⟨rfl, e.symm⟩
    | i + 2 => simp at e
  have ra' := Reads.keeps keep ra
  have rb' := Reads.keeps keep rb
  rcases cases2 i vi hi with ⟨rfl, rfl⟩ | ⟨rfl, rfl⟩ <;> rcases cases2 j vj hj with ⟨rfl, rfl⟩ | ⟨rfl, rfl⟩
  · obtain ⟨k, e⟩ := all a (by simp) a (by simp)
    have hQ : Q (.bool k) s' := by simpa [bt2, e] using hQ
    exact rc_d ho ha ha ca ca ra' ra' e (by omega) prog w E' Q hQ
  · obtain ⟨k, e⟩ := all a (by simp) b (by simp)
    have hQ : Q (.bool k) s' := by simpa [bt2, e] using hQ
    exact rc_d ho ha hb ca cb ra' rb' e (by omega) prog w E' Q hQ
  · obtain ⟨k, e⟩ := all b (by simp) a (by simp)
    have hQ : Q (.bool k) s' := by simpa [bt2, e] using hQ
    exact rc_d ho hb ha cb ca rb' ra' e (by omega) prog w E' Q hQ
  · obtain ⟨k, e⟩ := all b (by simp) b (by simp)
    have hQ : Q (.bool k) s' := by simpa [bt2, e] using hQ
    exact rc_d ho hb hb cb cb rb' rb' e (by omega) prog w E' Q hQ
theorem max_pair {a b : Value} {Q : Value → Shared → Prop} {bt : Nat → Nat → Bool} (hh : A.handled = none) (hc : CmpIn prog w A.in1 .Gt s.heap (fun i v => #[a, b][i]? = some v) bt)
    (h : ∀ h' tk, (∀ c o, s.heap.get? c = some o → h'.get? c = some o) → Q (if bt 1 0 then b else a) { s with heap := h', toks := tk }) : wpAny (model prog w) A (call (.builtin "max") [a, b]) Q E s := by
  have nm : (toString "max" ++ toString ".loop" : String) = "max.loop" := by decide
  apply call_function_tree F.kind_max F.plain_max F.entry_max (F.args_max2 _ _)
  apply wpAny_bind (m := Builtin.Builtins.bindParams "max" ["key", "default"] 0 ⟨[], []⟩)
  apply wpAny_of_eq (show Builtin.Builtins.bindParams "max" ["key", "default"] 0 ⟨[], []⟩ = pure [none, none] from rfl)
  apply wpAny_bind (m := newTuple [a, b])
  refine wpAny_newObj_type ?_
  have hT : (s.heap.push { cls := .type "tuple", data := .seq #[a, b] }).IsTuple s.heap.objs.size #[a, b] := ⟨_, Heap.get?_push_size _ rfl, rfl, 0, rfl⟩
  apply wpAny_bind (m := pyIter (.ref s.heap.objs.size))
  refine PySem.W.iter_tupleW (s := { s with heap := s.heap.push { cls := .type "tuple", data := .seq #[a, b] } }) (A := A.in1) hh hT fun s2 e W st hfp hw hk => ?_
  have kk : ∀ b o, s.heap.get? b = some o → s2.heap.get? b = some o := fun b o z => hk b o (Heap.get?_push_of_some _ z)
  apply wpAny_bind (m := newList [])
  refine wpAny_newObj_type ?_
  rw [nm]
  have hS : s2.heap.objs.size ∉ [(s.heap.push { cls := .type "tuple", data := .seq #[a, b] }).objs.size, s.heap.objs.size] := fun hm => Nat.lt_irrefl _ (hfp _ hm)
  refine wpAny_pure ⟨plainId_quiet F.plain_max_loop _, codeAny_max_loop_firstH W s.heap (fun b o z hm => ?_) bt hc s2.heap.objs.size hS (fresh_in kk) _ (by simp) (fun b o z => Heap.get?_push_of_some _ (kk b o z))
    (W.frame 0 s2 _ s2.toks st (Nat.le_refl _) fun b _ o z => Heap.get?_push_of_some _ z) (Heap.get?_push_size _ rfl) fun v s' hP hm => ?_⟩
  · rename_i c
    have z2 := List.mem_singleton.mp hm
    have z3 := Heap.lt_size z
    rw [z2, Heap.size_push] at z3
    exact absurd z3 (by intro q; exact Nat.lt_irrefl _ (Nat.lt_of_succ_lt q))
  · obtain ⟨hp, g, d, tk, os⟩ := s'
    obtain ⟨m1, m2, m3, m4, m5⟩ := hm
    subst e
    have e1 : g = s.gens := m2
    have e2 : d = s.drawn := m3
    have e3 : os = s.os := m4
    subst e1 e2 e3
    have hv : v = if bt 1 0 then b else a := by
      have z : #[a, b][if bt 1 0 = true then 1 else 0]? = some v := hP
      split at z <;> simp_all
    rw [hv]
    refine h hp tk fun c o z => m1 c o ?_ (Heap.get?_push_of_some _ (kk c o z))
    have z1 := Heap.lt_size z
    intro q
    rcases List.mem_cons.mp q with rfl | q
    · exact absurd (Heap.lt_size (kk _ _ z)) (Nat.lt_irrefl _)
    · have z2 := List.mem_singleton.mp q
      rw [z2, Heap.size_push] at z1
      exact Nat.lt_irrefl _ (Nat.lt_of_succ_lt z1)
theorem min_pair {a b : Value} {Q : Value → Shared → Prop} {bt : Nat → Nat → Bool} (hh : A.handled = none) (hc : CmpIn prog w A.in1 .Lt s.heap (fun i v => #[a, b][i]? = some v) bt)
    (h : ∀ h' tk, (∀ c o, s.heap.get? c = some o → h'.get? c = some o) → Q (if bt 1 0 then b else a) { s with heap := h', toks := tk }) : wpAny (model prog w) A (call (.builtin "min") [a, b]) Q E s := by
  have nm : (toString "min" ++ toString ".loop" : String) = "min.loop" := by decide
  apply call_function_tree F.kind_min F.plain_min F.entry_min (F.args_min2 _ _)
  apply wpAny_bind (m := Builtin.Builtins.bindParams "min" ["key", "default"] 0 ⟨[], []⟩)
  apply wpAny_of_eq (show Builtin.Builtins.bindParams "min" ["key", "default"] 0 ⟨[], []⟩ = pure [none, none] from rfl)
  apply wpAny_bind (m := newTuple [a, b])
  refine wpAny_newObj_type ?_
  have hT : (s.heap.push { cls := .type "tuple", data := .seq #[a, b] }).IsTuple s.heap.objs.size #[a, b] := ⟨_, Heap.get?_push_size _ rfl, rfl, 0, rfl⟩
  apply wpAny_bind (m := pyIter (.ref s.heap.objs.size))
  refine PySem.W.iter_tupleW (s := { s with heap := s.heap.push { cls := .type "tuple", data := .seq #[a, b] } }) (A := A.in1) hh hT fun s2 e W st hfp hw hk => ?_
  have kk : ∀ b o, s.heap.get? b = some o → s2.heap.get? b = some o := fun b o z => hk b o (Heap.get?_push_of_some _ z)
  apply wpAny_bind (m := newList [])
  refine wpAny_newObj_type ?_
  rw [nm]
  have hS : s2.heap.objs.size ∉ [(s.heap.push { cls := .type "tuple", data := .seq #[a, b] }).objs.size, s.heap.objs.size] := fun hm => Nat.lt_irrefl _ (hfp _ hm)
  refine wpAny_pure ⟨plainId_quiet F.plain_min_loop _, codeAny_min_loop_firstH W s.heap (fun b o z hm => ?_) bt hc s2.heap.objs.size hS (fresh_in kk) _ (by simp) (fun b o z => Heap.get?_push_of_some _ (kk b o z))
    (W.frame 0 s2 _ s2.toks st (Nat.le_refl _) fun b _ o z => Heap.get?_push_of_some _ z) (Heap.get?_push_size _ rfl) fun v s' hP hm => ?_⟩
  · rename_i c
    have z2 := List.mem_singleton.mp hm
    have z3 := Heap.lt_size z
    rw [z2, Heap.size_push] at z3
    exact absurd z3 (by intro q; exact Nat.lt_irrefl _ (Nat.lt_of_succ_lt q))
  · obtain ⟨hp, g, d, tk, os⟩ := s'
    obtain ⟨m1, m2, m3, m4, m5⟩ := hm
    subst e
    have e1 : g = s.gens := m2
    have e2 : d = s.drawn := m3
    have e3 : os = s.os := m4
    subst e1 e2 e3
    have hv : v = if bt 1 0 then b else a := by
      have z : #[a, b][if bt 1 0 = true then 1 else 0]? = some v := hP
      split at z <;> simp_all
    rw [hv]
    refine h hp tk fun c o z => m1 c o ?_ (Heap.get?_push_of_some _ (kk c o z))
    have z1 := Heap.lt_size z
    intro q
    rcases List.mem_cons.mp q with rfl | q
    · exact absurd (Heap.lt_size (kk _ _ z)) (Nat.lt_irrefl _)
    · have z2 := List.mem_singleton.mp q
      rw [z2, Heap.size_push] at z1
      exact Nat.lt_irrefl _ (Nat.lt_of_succ_lt z1)
end

/-! ### where things compare -/
mutual
theorem dcmp_all {o o' : CmpOp} : ∀ {d e : D} {k : Bool}, dcmp o d e = some k → (∃ k', dcmp o' d e = some k') ∧ ∃ k', dcmp o' e d = some k'
  | .tup l, e, k, h => by
    cases e <;> simp only [dcmp, reduceCtorEq] at h
    obtain ⟨h1, h2⟩ := dcmpL_all (o' := o') h
    simp only [dcmp]
    exact ⟨h1, h2⟩
  | .str l, e, k, h => by cases e <;> simp [dcmp] at h ⊢
  | .int l, e, k, h => by cases e <;> simp [dcmp] at h ⊢
  | .non, e, k, h => by cases e <;> simp [dcmp] at h
  | .bl _, e, k, h => by cases e <;> simp [dcmp] at h
  | .lst _, e, k, h => by cases e <;> simp [dcmp] at h
  | .ref _, e, k, h => by cases e <;> simp [dcmp] at h
  | .fn _, e, k, h => by cases e <;> simp [dcmp] at h
  | .ty _, e, k, h => by cases e <;> simp [dcmp] at h
  | .kl _, e, k, h => by cases e <;> simp [dcmp] at h
theorem dcmpL_all {o o' : CmpOp} : ∀ {d e : List D} {k : Bool}, dcmpL o d e = some k → (∃ k', dcmpL o' d e = some k') ∧ ∃ k', dcmpL o' e d = some k'
  | [], [], k, h => by simp [dcmpL]
  | [], e :: es, k, h => by simp [dcmpL]
  | d :: ds, [], k, h => by simp [dcmpL]
  | d :: ds, e :: es, k, h => by
    rw [dcmpL] at h
    rw [dcmpL, dcmpL, deq_comm e d]
    cases q : deq d e with
    | true =>
      rw [q, if_pos rfl] at h
      rw [if_pos rfl, if_pos rfl]
      exact dcmpL_all h
    | false =>
      rw [q, if_neg Bool.false_ne_true] at h
      rw [if_neg Bool.false_ne_true, if_neg Bool.false_ne_true]
      exact dcmp_all h
end
theorem dcmpL_self {o : CmpOp} : ∀ {d : List D}, dokL d = true → ∃ k, dcmpL o d d = some k
  | [], _ => ⟨_, by rw [dcmpL]⟩
  | d :: ds, h => by
    rw [dokL, Bool.and_eq_true] at h
    rw [dcmpL, deq_refl h.1, if_pos rfl]
    exact dcmpL_self h.2
theorem dcmp_self {o o' : CmpOp} {d e : D} {k : Bool} (h : dcmp o d e = some k) (c : dok d = true) : ∃ k, dcmp o' d d = some k := by
  cases d <;> cases e <;> simp only [dcmp, reduceCtorEq] at h
  · exact ⟨_, by rw [dcmp]⟩
  · exact ⟨_, by rw [dcmp]⟩
  · rw [dok] at c
    simp only [dcmp]
    exact dcmpL_self c
theorem pair_all {o o' : CmpOp} {d e : D} {k : Bool} (h : dcmp o d e = some k) (c1 : dok d = true) (c2 : dok e = true) : ∀ x ∈ [d, e], ∀ y ∈ [d, e], ∃ k, dcmp o' x y = some k := by
  obtain ⟨h1, h2⟩ := dcmp_all (o' := o') h
  obtain ⟨_, h3⟩ := dcmp_all (o' := o) h
  obtain ⟨k3, h3⟩ := h3
  intro x hx y hy
  simp only [List.mem_cons, List.not_mem_nil, or_false] at hx hy
  rcases hx with rfl | rfl <;> rcases hy with rfl | rfl
  · exact dcmp_self h c1
  · exact h1
  · exact h2
  · exact dcmp_self h3 c2
section
variable {X : Cx}
theorem eok_dok {d : D} (h : eok d = true) : dok d = true ∧ dep d ≤ 64 := by
  unfold eok at h
  rwa [Bool.and_eq_true, decide_eq_true_eq] at h
/-- two data at values -/
def rTwo (K : PySem.W.Frag) (f : D → D → Option D) : List V → Hp → VK → Prop := fun xs H Q => ∃ fa Wr ρ d e z, (∀ a, Wr a → Mut (H a)) ∧ (∃ x y, xs = [x, y] ∧ Rp K fa Wr ρ H d x ∧ Rp K fa Wr ρ H e y) ∧ f d e = some z ∧ Post K fa Wr ρ H false z Q
theorem call_max2D (hc : X.calm = true) (hu : X.A.units + 200 < cLine) : CallR X (.builtin "max") (rTwo X.K max2) := by
  intro pins s σ H xs us Q I r ⟨fa, Wr, ρ, d, e, z, mu, ⟨x, y, e1, hx, hy⟩, hz, q⟩
  subst e1
  obtain ⟨u, v, rfl, rx, ry⟩ := vals2 r
  unfold max2 at hz
  split at hz
  · rename_i c
    rw [Bool.and_eq_true] at c
    obtain ⟨b, hb, rfl⟩ := Option.map_eq_some_iff.mp hz
    obtain ⟨c1, d1⟩ := eok_dok c.1
    obtain ⟨c2, d2⟩ := eok_dok c.2
    obtain ⟨p, p1, p2⟩ := dok_py c1
    obtain ⟨p', q1, q2⟩ := dok_py c2
    obtain ⟨as, r1⟩ := Dp.reads I p x u (hx.dp p1) rx
    obtain ⟨bs, r2⟩ := Dp.reads I p' y v (hy.dp q1) ry
    have all := pair_all (o' := .Gt) hb c2 c1
    refine max_pair (I.ok.hd hc) (bt := bt2 .Gt d e) (pair_cmp2 (.inr (.inr (.inl rfl))) p1 q1 p2 q2 r1 r2 (fun a ha c hc => all a (by simp at ha ⊢; exact ha.symm) c (by simp at hc ⊢; exact hc.symm)) (by show X.A.units + 1 + 70 < cLine; omega) ⟨d1, d2⟩) fun h' tk k => ?_
    have e1 : bt2 .Gt d e 1 0 = b := by simp [bt2, hb]
    rw [e1]
    cases b with
    | true => exact ⟨y, H, I.kept k, ry, q.old hy⟩
    | false => exact ⟨x, H, I.kept k, rx, q.old hx⟩
  · cases hz
theorem call_min2D (hc : X.calm = true) (hu : X.A.units + 200 < cLine) : CallR X (.builtin "min") (rTwo X.K min2) := by
  intro pins s σ H xs us Q I r ⟨fa, Wr, ρ, d, e, z, mu, ⟨x, y, e1, hx, hy⟩, hz, q⟩
  subst e1
  obtain ⟨u, v, rfl, rx, ry⟩ := vals2 r
  unfold min2 at hz
  split at hz
  · rename_i c
    rw [Bool.and_eq_true] at c
    obtain ⟨b, hb, rfl⟩ := Option.map_eq_some_iff.mp hz
    obtain ⟨c1, d1⟩ := eok_dok c.1
    obtain ⟨c2, d2⟩ := eok_dok c.2
    obtain ⟨p, p1, p2⟩ := dok_py c1
    obtain ⟨p', q1, q2⟩ := dok_py c2
    obtain ⟨as, r1⟩ := Dp.reads I p x u (hx.dp p1) rx
    obtain ⟨bs, r2⟩ := Dp.reads I p' y v (hy.dp q1) ry
    have all := pair_all (o' := .Lt) hb c2 c1
    refine min_pair (I.ok.hd hc) (bt := bt2 .Lt d e) (pair_cmp2 (.inl rfl) p1 q1 p2 q2 r1 r2 (fun a ha c hc => all a (by simp at ha ⊢; exact ha.symm) c (by simp at hc ⊢; exact hc.symm)) (by show X.A.units + 1 + 70 < cLine; omega) ⟨d1, d2⟩) fun h' tk k => ?_
    have e1 : bt2 .Lt d e 1 0 = b := by simp [bt2, hb]
    rw [e1]
    cases b with
    | true => exact ⟨y, H, I.kept k, ry, q.old hy⟩
    | false => exact ⟨x, H, I.kept k, rx, q.old hx⟩
  · cases hz
end
end Dn

/-! Dn, part K: the calls of built-ins, all of them; truth. -/
namespace Dn
open PySem PySem.Spec PyProof.Rows L2 SeqAt
section
variable {X : Cx}
theorem RpL.bols {K : PySem.W.Frag} {fa : Nat → Addr} {Wr : Addr → Prop} {ρ : List Addr} {H : Hp} : ∀ {l : List D} {xs : List V} {bs : List Bool}, RpL K fa Wr ρ H l xs → bols l = some bs → xs = bs.map V.bl
  | [], xs, bs, r, h => by rw [RpL] at r; rw [Dn.bols] at h; cases h; subst r; rfl
  | d :: ds, xs, bs, r, h => by
    obtain ⟨v, t, rfl, h1, h2⟩ := r.inv
    cases d <;> simp only [Dn.bols, reduceCtorEq] at h
    obtain ⟨cs, e, rfl⟩ := Option.map_eq_some_iff.mp h
    rw [Rp] at h1
    rw [List.map_cons, ← RpL.bols h2 e, h1]
theorem RpL.intsD {K : PySem.W.Frag} {fa : Nat → Addr} {Wr : Addr → Prop} {ρ : List Addr} {H : Hp} : ∀ {l : List D} {xs : List V} {bs : List Int}, RpL K fa Wr ρ H l xs → intsD l = some bs → xs = bs.map V.int
  | [], xs, bs, r, h => by rw [RpL] at r; rw [Dn.intsD] at h; cases h; subst r; rfl
  | d :: ds, xs, bs, r, h => by
    obtain ⟨v, t, rfl, h1, h2⟩ := r.inv
    cases d <;> simp only [Dn.intsD, reduceCtorEq] at h
    obtain ⟨cs, e, rfl⟩ := Option.map_eq_some_iff.mp h
    rw [Rp] at h1
    rw [List.map_cons, ← RpL.intsD h2 e, h1]
theorem shw_py {d : D} {x : PySem.Str} (h : shw d = some x) : ∃ p, toPy d = some p ∧ dok d = true ∧ dep d ≤ 64 ∧ p.showable = true ∧ p.shown.length ≤ sizeLine ∧ p.canLay0 = true ∧ x = p.shown := by
  unfold shw at h
  split at h
  · rename_i p e
    split at h
    · rename_i c
      rw [Bool.and_eq_true, Bool.and_eq_true, Bool.and_eq_true, decide_eq_true_eq, decide_eq_true_eq] at c
      obtain ⟨q, q1, q2⟩ := dok_py c.1.1.1
      rw [e] at q1; cases q1
      exact ⟨p, e, c.1.1.1, c.1.1.2, c.1.2, c.2, q2, (Option.some.inj h).symm⟩
    · cases h
  · cases h
theorem call_reprD (hu : X.A.units + 200 < cLine) (hg : X.A.guards = some []) : CallR X (.builtin "repr") (fun xs H Q => ∃ fa Wr ρ d x, RrL X.K fa Wr ρ H [d] xs ∧ shw d = some x ∧ Q (.str x) H) := by
  intro pins s σ H xs us Q I r ⟨fa, Wr, ρ, d, x, hr, hs, q⟩
  obtain ⟨y, rfl, hx⟩ := hr.one
  obtain ⟨u, rfl, rx⟩ := vals1 r
  obtain ⟨p, e1, e2, e3, e4, e5, e6, rfl⟩ := shw_py hs
  obtain ⟨as, r1⟩ := Dp.reads I p y u (hx.dp e1) rx
  have fin : ∀ h' t tk, (∀ b o, s.heap.get? b = some o → h'.get? b = some o) → EP X pins σ Q (.str p.shown t) { s with heap := h', toks := tk } := fun h' t tk k => ⟨.str p.shown, H, I.kept k, ⟨_, rfl⟩, q⟩
  have nd := PyData.hasDict_of_canLay p e6
  have ref : ∀ a, u = .ref a → wpAny (model X.prog X.w) X.A (call (.builtin "repr") [u]) (EP X pins σ Q) X.xe s := fun a ea => by
    subst ea
    exact PySem.repr_of_reads' r1 e4 (PyData.noDict_hsm nd) hg (by rw [dep_py e1]; omega) (fun b o e => e) (fun h' t tk k => fin h' t tk k) e5
  cases r1 with
  | none => exact PySem.P.repr_of_none (fin s.heap s.toks _ fun _ _ z => z)
  | bool b => exact PySem.P.repr_of_bool (fin s.heap s.toks _ fun _ _ z => z)
  | int i t => exact PySem.P.repr_of_int (by simpa [PyData.showable] using e4) (fin s.heap s.toks _ fun _ _ z => z)
  | str z t => exact PySem.P.repr_of_str (fin s.heap s.toks _ fun _ _ z => z) e5
  | list => exact ref _ rfl
  | tuple => exact ref _ rfl
  | dict => exact ref _ rfl
/-- isinstance with a built-in class -/
theorem tyx_of {K : PySem.W.Frag} {fa : Nat → Addr} {Wr : Addr → Prop} {ρ : List Addr} {H : Hp} {d : D} {x : V} {c : String} (h : Rr K fa Wr ρ H d x) (e : clsOf d = some c) : TyX K H x (.type c) := by
  cases d with
  | non => cases e; have h := h.rp (fun l e => nomatch e); rw [Rp] at h; subst h; exact .base .non
  | bl b => cases e; have h := h.bl; subst h; exact .base (.bl b)
  | int b => cases e; have h := h.int; subst h; exact .base (.int b)
  | str b => cases e; have h := h.str; subst h; exact .base (.str b)
  | tup l =>
    cases e
    obtain ⟨a, xs, rfl, h, _⟩ := h.tup
    rcases h with (h | ⟨o, h⟩) | ⟨o, its, n, h1, h2, h3, _⟩
    · exact .base (.tup h)
    · exact .fTuple h
    · exact .kTuple h1 h2
  | lst l =>
    cases e
    obtain ⟨a, xs, rfl, h, _⟩ := h.lst
    rcases h with h | ⟨o, h⟩
    · exact .base (.lst h)
    · exact .base (.frz h)
  | ref _ => cases e
  | fn _ => cases e
  | ty _ => cases e
  | kl _ => cases e
theorem isi_kit {d : D} {t : String} {b : Bool} (h : isi d t = some b) : ∃ c, clsOf d = some c ∧ kitB c t = some b := by
  unfold isi at h
  split at h
  · rename_i c e
    split at h
    · rename_i k
      refine ⟨c, e, ?_⟩
      cases h
      have hc : c = "NoneType" ∨ c = "bool" ∨ c = "int" ∨ c = "str" ∨ c = "tuple" ∨ c = "list" := by cases d <;> simp [clsOf] at e <;> simp [← e]
      have ht : t = "int" ∨ t = "bool" ∨ t = "str" ∨ t = "tuple" ∨ t = "list" := by simpa using k
      rcases hc with rfl | rfl | rfl | rfl | rfl | rfl <;> rcases ht with rfl | rfl | rfl | rfl | rfl <;> decide +kernel
    · cases h
  · cases h
theorem call_isiD : CallR X (.builtin "isinstance") (fun xs H Q => ∃ fa Wr ρ d t b, RrL X.K fa Wr ρ H [d, .ty t] xs ∧ isi d t = some b ∧ Q (.bl b) H) := by
  intro pins s σ H xs us Q I r ⟨fa, Wr, ρ, d, t, b, hr, hs, q⟩
  obtain ⟨x, y, rfl, hx, hy⟩ := hr.two
  have hy := hy.rp (fun l e => nomatch e)
  rw [Rp] at hy; subst hy
  obtain ⟨c, e1, e2⟩ := isi_kit hs
  exact call_isi pins s σ H _ us Q I r ⟨x, .ty t, .type c, .type t, b, rfl, .ty t, tyx_of hx e1, kit_ty e2, q⟩
/-- f(..), f a built-in function -/
theorem call_bf (n : String) (hc : X.calm = true) (hu : X.A.units + 200 < cLine) (hg : X.A.guards = some []) : CallR X (.builtin n) (rFn X.K (bfD n) (n == "sorted")) := by
  intro pins s σ H xs us Q I r ⟨fa, Wr, ρ, ds, d, mu, hr, hd, q⟩
  revert hd
  unfold bfD
  split <;> intro hd
  · split at hd
    · cases hd
      obtain ⟨x, rfl, hx⟩ := hr.one
      exact call_len pins s σ H _ us Q I r ⟨x, _, rfl, by rw [hx.str]; exact ⟨by assumption, rfl⟩, q.int⟩
    · cases hd
  · cases hd
    obtain ⟨x, rfl, hx⟩ := hr.one
    obtain ⟨a, xs, rfl, h, t⟩ := hx.tup
    exact call_len pins s σ H _ us Q I r ⟨_, _, rfl, .inr ⟨xs, h, t.len.symm⟩, q.int⟩
  · cases hd
    obtain ⟨x, rfl, hx⟩ := hr.one
    obtain ⟨a, xs, rfl, h, t⟩ := hx.lst
    exact call_len pins s σ H _ us Q I r ⟨_, _, rfl, .inl ⟨xs, .inl h, t.len.symm⟩, q.int⟩
  · obtain ⟨x, e, rfl⟩ := Option.map_eq_some_iff.mp hd
    exact call_reprD hu hg pins s σ H _ us Q I r ⟨_, _, _, _, _, hr, e, q.str⟩
  · obtain ⟨x, e, rfl⟩ := Option.map_eq_some_iff.mp hd
    exact call_reprD hu hg pins s σ H _ us Q I r ⟨_, _, _, _, _, hr, e, q.str⟩
  · cases hd
    exact call_reprD hu hg pins s σ H _ us Q I r ⟨_, _, _, .non, _, hr, rfl, q.str⟩
  · rename_i b
    cases hd
    refine call_reprD hu hg pins s σ H _ us Q I r ⟨_, _, _, .bl b, (if b = true then "True" else "False"), hr, ?_, q.str⟩
    cases b <;> rfl
  · obtain ⟨x, e, rfl⟩ := Option.map_eq_some_iff.mp hd
    exact call_reprD hu hg pins s σ H _ us Q I r ⟨_, _, _, _, _, hr, e, q.str⟩
  · obtain ⟨x, e, rfl⟩ := Option.map_eq_some_iff.mp hd
    exact call_reprD hu hg pins s σ H _ us Q I r ⟨_, _, _, _, _, hr, e, q.str⟩
  · split at hd
    · rename_i c
      rw [Bool.and_eq_true, decide_eq_true_eq] at c
      obtain ⟨m, e, rfl⟩ := Option.map_eq_some_iff.mp hd
      exact call_sortedD hu pins s σ H _ us Q I r ⟨_, _, _, _, _, m, mu, .inr rfl, hr, c.1, c.2, e, q⟩
    · cases hd
  · split at hd
    · rename_i c
      rw [Bool.and_eq_true, decide_eq_true_eq] at c
      obtain ⟨m, e, rfl⟩ := Option.map_eq_some_iff.mp hd
      exact call_sortedD hu pins s σ H _ us Q I r ⟨_, _, _, _, _, m, mu, .inl rfl, hr, c.1, c.2, e, q⟩
    · cases hd
  · obtain ⟨x, y, rfl, hx, hy⟩ := hr.two
    rename_i a b
    have n1 : (∀ l, a ≠ .lst l) ∧ ∀ l, b ≠ .lst l := by
      unfold max2 at hd
      split at hd
      · obtain ⟨k, e, _⟩ := Option.map_eq_some_iff.mp hd
        exact ⟨fun l z => (by subst z; cases b <;> simp [dcmp] at e), fun l z => by subst z; simp [dcmp] at e⟩
      · cases hd
    exact call_max2D hc hu pins s σ H _ us Q I r ⟨_, _, _, a, b, d, mu, ⟨x, y, rfl, hx.rp n1.1, hy.rp n1.2⟩, hd, q⟩
  · obtain ⟨x, y, rfl, hx, hy⟩ := hr.two
    rename_i a b
    have n1 : (∀ l, a ≠ .lst l) ∧ ∀ l, b ≠ .lst l := by
      unfold min2 at hd
      split at hd
      · obtain ⟨k, e, _⟩ := Option.map_eq_some_iff.mp hd
        exact ⟨fun l z => (by subst z; cases b <;> simp [dcmp] at e), fun l z => by subst z; simp [dcmp] at e⟩
      · cases hd
    exact call_min2D hc hu pins s σ H _ us Q I r ⟨_, _, _, a, b, d, mu, ⟨x, y, rfl, hx.rp n1.1, hy.rp n1.2⟩, hd, q⟩
  · obtain ⟨bs, e, rfl⟩ := Option.map_eq_some_iff.mp hd
    obtain ⟨x, rfl, hx⟩ := hr.one
    obtain ⟨a, xs, rfl, h, t⟩ := hx.lst
    exact cr_all hc pins s σ H _ us Q I r ⟨a, bs, rfl, .inl (by rw [← t.bols e]; exact h), q.bl⟩
  · obtain ⟨bs, e, rfl⟩ := Option.map_eq_some_iff.mp hd
    obtain ⟨x, rfl, hx⟩ := hr.one
    obtain ⟨a, xs, rfl, h, t⟩ := hx.lst
    exact cr_any hc pins s σ H _ us Q I r ⟨a, bs, rfl, .inl (by rw [← t.bols e]; exact h), q.bl⟩
  · cases hd
    obtain ⟨x, rfl, hx⟩ := hr.one
    exact call_abs pins s σ H _ us Q I r ⟨_, by rw [hx.int], q.int⟩
  · obtain ⟨bs, e, rfl⟩ := Option.map_eq_some_iff.mp hd
    obtain ⟨x, rfl, hx⟩ := hr.one
    obtain ⟨a, xs, rfl, h, t⟩ := hx.lst
    exact cr_sum hc pins s σ H _ us Q I r ⟨a, bs, rfl, .inl (by rw [← t.intsD e]; exact h), q.int⟩
  · obtain ⟨b, e, rfl⟩ := Option.map_eq_some_iff.mp hd
    exact call_isiD pins s σ H _ us Q I r ⟨_, _, _, _, _, _, hr, e, q.bl⟩
  · cases hd
/-- T(..), T a built-in class -/
theorem call_bt (n : String) (hc : X.calm = true) (hu : X.A.units + 200 < cLine) : CallR X (.type n) (rFn X.K (btD n) (n == "list")) := by
  intro pins s σ H xs us Q I r ⟨fa, Wr, ρ, ds, d, mu, hr, hd, q⟩
  revert hd
  unfold btD
  split <;> intro hd
  · cases hd
    obtain ⟨x, rfl, hx⟩ := hr.one
    obtain ⟨a, xs, rfl, h, t⟩ := hx.tup
    refine call_tuple_of pins s σ H _ us Q I r ⟨a, xs, rfl, .inr ⟨h, q.oldN ?_ (fun l e => nomatch e)⟩⟩
    rw [Rp]; exact ⟨a, xs, rfl, h, t⟩
  · cases hd
    obtain ⟨x, rfl, hx⟩ := hr.one
    obtain ⟨a, xs, rfl, h, t⟩ := hx.lst
    exact call_tuple_of pins s σ H _ us Q I r ⟨a, xs, rfl, .inl ⟨.inl h, q.tup mu t⟩⟩
  · cases hd
    obtain ⟨x, rfl, hx⟩ := hr.one
    obtain ⟨a, xs, rfl, h, t⟩ := hx.tup
    exact call_list_of pins s σ H _ us Q I r ⟨a, xs, rfl, .inr h, q.lst mu t⟩
  · cases hd
    obtain ⟨x, rfl, hx⟩ := hr.one
    obtain ⟨a, xs, rfl, h, t⟩ := hx.lst
    exact call_list_of pins s σ H _ us Q I r ⟨a, xs, rfl, .inl (.inl h), q.lst mu t⟩
  · cases hd
    obtain ⟨x, rfl, hx⟩ := hr.one
    exact call_int1 pins s σ H _ us Q I r (.inl ⟨_, by rw [hx.int], q.int⟩)
  · cases hd
    obtain ⟨x, rfl, hx⟩ := hr.one
    exact call_int1 pins s σ H _ us Q I r (.inr ⟨_, by rw [hx.bl], q.int⟩)
  · split at hd
    · cases hd
      obtain ⟨x, rfl, hx⟩ := hr.one
      exact call_str_int pins s σ H _ us Q I r ⟨_, by rw [hx.int], by assumption, q.str⟩
    · cases hd
  · cases hd
/-- a value's truth -/
theorem tru_D : TruR X (fun x H Q => ∃ fa Wr ρ sto d k, StoOk X.K fa Wr ρ H sto ∧ Rr X.K fa Wr ρ H d x ∧ tru sto d = some k ∧ Q k H) := by
  intro pins s σ H x v Q I r ⟨fa, Wr, ρ, sto, d, k, so, hx, hk, q⟩
  refine tru_ok pins s σ H x v Q I r ⟨k, ?_, q⟩
  cases d with
  | non => have h := hx.rp (fun l e => nomatch e); rw [Rp] at h; subst h; cases hk; rfl
  | bl b => have h := hx.bl; subst h; cases hk; rfl
  | int b => have h := hx.int; subst h; cases hk; rfl
  | str b =>
    have h := hx.str; subst h
    rw [tru] at hk
    split at hk
    · cases hk
      refine ⟨by assumption, ?_⟩
      rw [Bool.eq_iff_iff]; simp
    · cases hk
  | tup l =>
    cases hk
    obtain ⟨a, xs, rfl, h, t⟩ := hx.tup
    refine .inr (.inl ⟨xs, h, ?_⟩)
    have := t.len
    cases l <;> cases xs <;> simp_all
  | lst l =>
    cases hk
    obtain ⟨a, xs, rfl, h, t⟩ := hx.lst
    refine .inl ⟨xs, .inl h, ?_⟩
    have := t.len
    cases l <;> cases xs <;> simp_all
  | ref _ => cases hk
  | fn _ => cases hk
  | ty _ => cases hk
  | kl _ => cases hk
end
end Dn

/-! Dn, part L: what an expression means, construct by construct. -/
namespace Dn
open PySem PySem.Spec PyProof.Rows L2

section
variable (K : PySem.W.Frag) (fa : Nat → Addr)
/-- the frame's slots that hold an own list at a -/
def OwnAt (σ : L2.St) (s : S) (a : Addr) : Prop := ∃ (i : Nat) (l : List D), s.env[i]? = some (.ow l) ∧ σ[i]? = some (some (.ref a))
/-- behind an expression that gives a value -/
def OkD (Z : Zn) (σ : L2.St) (Wr : Addr → Prop) (ρ : List Addr) (H : Hp) (Q : VK) : R D → Prop
  | .ok d s' => ∀ Wr' ρ' v H', Ex Wr ρ H Wr' ρ' H' → Fr K fa Z Wr' ρ' H' σ s' → Rp K fa Wr' ρ' H' d v → Q v H'
  | _ => False
def rdE (ev : S → R D) : TE := fun σ H Q => ∃ Z Wr ρ s, Fr K fa Z Wr ρ H σ s ∧ OkD K fa Z σ Wr ρ H Q (ev s)
/-- behind an expression that gives a new list, nobody's else -/
def OkF (Z : Zn) (σ : L2.St) (Wr : Addr → Prop) (ρ : List Addr) (H : Hp) (Q : VK) : R D → Prop
  | .ok (.lst l) s' => ∀ Wr' ρ' a xs H', Ex Wr ρ H Wr' ρ' H' → Fr K fa Z Wr' ρ' H' σ s' → Wr' a → a ∉ ρ' → ¬ Z.Wr a → ¬ OwnAt σ s' a → (∀ ys, (a, ys) ∉ Z.ac) → H' a = some (.lst xs) → RpL K fa Wr' ρ' H' l xs → Q (.ref a) H'
  | _ => False
def rdF (ev : S → R D) : TE := fun σ H Q => ∃ Z Wr ρ s, Fr K fa Z Wr ρ H σ s ∧ OkF K fa Z σ Wr ρ H Q (ev s)
def OkB (Z : Zn) (σ : L2.St) (Wr : Addr → Prop) (ρ : List Addr) (H : Hp) (Q : Bool → Hp → Prop) : R Bool → Prop
  | .ok b s' => ∀ Wr' ρ' H', Ex Wr ρ H Wr' ρ' H' → Fr K fa Z Wr' ρ' H' σ s' → Q b H'
  | _ => False
def rdT (ev : S → R Bool) : TT := fun σ H Q => ∃ Z Wr ρ s, Fr K fa Z Wr ρ H σ s ∧ OkB K fa Z σ Wr ρ H Q (ev s)
def OkL (Z : Zn) (σ : L2.St) (Wr : Addr → Prop) (ρ : List Addr) (H : Hp) (Q : List V → Hp → Prop) : R (List D) → Prop
  | .ok ds s' => ∀ Wr' ρ' vs H', Ex Wr ρ H Wr' ρ' H' → Fr K fa Z Wr' ρ' H' σ s' → RpL K fa Wr' ρ' H' ds vs → Q vs H'
  | _ => False
def rdEs (ev : S → R (List D)) : TA := fun σ H Q => ∃ Z Wr ρ s, Fr K fa Z Wr ρ H σ s ∧ OkL K fa Z σ Wr ρ H Q (ev s)
/-- an operand's value -/
def PdOk (σ : L2.St) (Wr : Addr → Prop) (ρ : List Addr) (H : Hp) : Pd → V → Prop
  | .p i, v => σ[i]? = some (some v)
  | .d d, v => Rp K fa Wr ρ H d v
def OkO (Z : Zn) (σ : L2.St) (Wr : Addr → Prop) (ρ : List Addr) (H : Hp) (Q : VK) : R Pd → Prop
  | .ok p s' => ∀ Wr' ρ' v H', Ex Wr ρ H Wr' ρ' H' → Fr K fa Z Wr' ρ' H' σ s' → PdOk K fa σ Wr' ρ' H' p v → Q v H'
  | _ => False
def rdO (ev : S → R Pd) : TE := fun σ H Q => ∃ Z Wr ρ s, Fr K fa Z Wr ρ H σ s ∧ OkO K fa Z σ Wr ρ H Q (ev s)
def OkOs (Z : Zn) (σ : L2.St) (Wr : Addr → Prop) (ρ : List Addr) (H : Hp) (Q : List V → Hp → Prop) : R (List Pd) → Prop
  | .ok ps s' => ∀ Wr' ρ' vs H', Ex Wr ρ H Wr' ρ' H' → Fr K fa Z Wr' ρ' H' σ s' → Paired (PdOk K fa σ Wr' ρ' H') ps vs → Q vs H'
  | _ => False
def rdOs (ev : S → R (List Pd)) : TA := fun σ H Q => ∃ Z Wr ρ s, Fr K fa Z Wr ρ H σ s ∧ OkOs K fa Z σ Wr ρ H Q (ev s)
end
section
variable (X : Cx) (fa : Nat → Addr)
def SE (e : Expr) (ev : S → R D) : Prop := PE X e (rdE X.K fa ev)
def SF (e : Expr) (ev : S → R D) : Prop := PE X e (rdF X.K fa ev)
def STt (e : Expr) (ev : S → R Bool) : Prop := PT X e (rdT X.K fa ev)
def SEs (es : List Expr) (ev : S → R (List D)) : Prop := PA X es (rdEs X.K fa ev)
def SOp (e : Expr) (ev : S → R Pd) : Prop := PE X e (rdO X.K fa ev)
def SOs (es : List Expr) (ev : S → R (List Pd)) : Prop := PA X es (rdOs X.K fa ev)
end
section
variable {K : PySem.W.Frag} {fa : Nat → Addr} {Z : Zn} {σ : L2.St} {Wr Wr' : Addr → Prop} {ρ ρ' : List Addr} {H H' : Hp} {s s' : S}
theorem PdOk.ext {p : Pd} {v : V} (x : Ex Wr ρ H Wr' ρ' H') (h : PdOk K fa σ Wr ρ H p v) : PdOk K fa σ Wr' ρ' H' p v := by
  cases p with
  | p i => exact h
  | d d => exact Rp.ext x h
/-- an operand is read at last -/
theorem PdOk.rr {p : Pd} {v : V} {d : D} (F : Fr K fa Z Wr ρ H σ s) (h : PdOk K fa σ Wr ρ H p v) (e : p.get s = some d) : Rr K fa Wr ρ H d v := by
  cases p with
  | d x => cases e; exact .inl h
  | p i =>
    have e : (s.env[i]?).bind rdSl = some d := e
    cases q : s.env[i]? with
    | none => rw [q] at e; cases e
    | some x =>
      rw [q] at e
      cases x with
      | no => cases e
      | sh d' =>
        cases e
        obtain ⟨w, h1, h2⟩ := F.sh i _ q
        rw [show σ[i]? = some (some v) from h] at h1
        cases h1
        exact .inl h2
      | ow l =>
        cases e
        obtain ⟨a, xs, h1, h2, h3, _⟩ := F.ow i l q
        rw [show σ[i]? = some (some v) from h] at h1
        cases h1
        exact .inr ⟨l, a, xs, rfl, rfl, h2, h3⟩
theorem pdAll_rr : ∀ {ps : List Pd} {vs : List V} {ds : List D}, Fr K fa Z Wr ρ H σ s → Paired (PdOk K fa σ Wr ρ H) ps vs → pdAll s ps = some ds → RrL K fa Wr ρ H ds vs
  | [], vs, ds, F, h, e => by cases h; rw [pdAll] at e; cases e; exact .nil
  | p :: ps, vs, ds, F, h, e => by
    rw [pdAll] at e
    cases h with
    | cons h1 h2 =>
      split at e
      · rename_i d ds' e1 e2
        cases e
        exact .cons (h1.rr F e1) (pdAll_rr F h2 e2)
      · cases e
theorem Fr.sto (F : Fr K fa Z Wr ρ H σ s) : StoOk K fa Wr ρ H s.sto := F.so
/-- all stays, the heap grows -/
theorem Fr.same (F : Fr K fa Z Wr ρ H σ s) (h : Same H H') : Fr K fa Z Wr ρ H' σ s := by
  have x : Ex Wr ρ H Wr ρ H' := Ex.same F.mu h
  have mu : ∀ a, Wr a → ∃ o, H a = some o ∧ H' a = some o := fun a w => by
    have m := F.mu a w
    cases e : H a with
    | none => rw [e] at m; exact m.elim
    | some o => exact ⟨o, rfl, h a o e⟩
  refine ⟨fun a w => ?_, F.rw, F.nd, F.len, fun n o' a h1 h2 => ?_, F.sl, fun i d h => ?_, fun i l h' => ?_, F.od, F.z1, F.z2, fun a o' h' => ?_, F.z4, F.z5, fun a xs h' => ⟨h a _ (F.ac a xs h').1, (F.ac a xs h').2⟩⟩
  · obtain ⟨o, e1, e2⟩ := mu a w
    have m := F.mu a w
    rw [e1] at m; rw [e2]; exact m
  · obtain ⟨o, e1, e2⟩ := mu a (F.rw a (List.mem_of_getElem? h2))
    have q := (F.so n o' a h1 h2).ext x
    rw [e1] at q; rw [e2]; exact q
  · obtain ⟨v, h1, h2⟩ := F.sh i d h
    exact ⟨v, h1, h2.ext x⟩
  · obtain ⟨a, xs, h1, h2, h3, h4, h5, h6⟩ := F.ow i l h'
    exact ⟨a, xs, h1, h a _ h2, h3.ext x, h4, h5, h6⟩
  · rcases F.z3 a o' h' with z | z
    · exact .inl z
    · exact .inr (h a o' z)
/-- a result of an operation, at the frame -/
theorem OkD.of_post {d : D} {Q : VK} {fr : Bool} (F : Fr K fa Z Wr ρ H σ s) (h : OkD K fa Z σ Wr ρ H Q (.ok d s)) : Post K fa Wr ρ H fr d Q := fun v H' same r _ => h Wr ρ v H' (Ex.same F.mu same) (F.same same) r
/-- .. of one that gives new lists -/
theorem OkF.of_post {l : List D} {Q : VK} (F : Fr K fa Z Wr ρ H σ s) (h : OkF K fa Z σ Wr ρ H Q (.ok (.lst l) s)) : Post K fa Wr ρ H true (.lst l) Q := fun v H' same r new => by
  obtain ⟨a, ys, rfl, hn, ha, r0⟩ := new rfl l rfl
  have F' := F.same same
  -- the list joins what may be written
  let W2 : Addr → Prop := fun b => Wr b ∨ b = a
  have x : Ex Wr ρ H W2 ρ H' := ⟨F.mu, fun _ _ z => z, fun b z => z.elim .inl fun z => .inr (z ▸ hn), fun b o e _ => same b o e⟩
  have x2 : ∀ {d : D} {v : V}, Rp K fa Wr ρ H d v → Rp K fa W2 ρ H' d v := fun z => z.ext x
  have rs : RpL K fa W2 ρ H' l ys := r0.ext x
  have na : ∀ b, Wr b → b ≠ a := fun b z e => by
    have m := F.mu b z
    rw [e, hn] at m; exact m
  have nz : ¬ Z.Wr a := fun z => na a (F.z2 a z) rfl
  refine h W2 ρ a ys H' x ⟨fun b z => ?_, fun b z => .inl (F.rw b z), F.nd, F.len, fun n o b h1 h2 => ?_, F.sl, fun i d e => ?_, fun i m e => ?_, F.od, F.z1, fun b z => .inl (F.z2 b z), F'.z3, F.z4, fun b z => ?_, fun b xs z => ⟨same b _ (F.ac b xs z).1, .inl (F.ac b xs z).2.1, (F.ac b xs z).2.2⟩⟩ (.inr rfl) (fun z => na a (F.rw a z) rfl) nz ?_ (fun ys z => by have := (F.ac a ys z).1; rw [hn] at this; cases this) ha rs
  · rcases z with z | rfl
    · exact F'.mu b z
    · rw [ha]; trivial
  · have q := (F.so n o b h1 h2).ext x
    have m := F.mu b (F.rw b (List.mem_of_getElem? h2))
    cases eb : H b with
    | none => rw [eb] at m; exact m.elim
    | some ob => rw [eb] at q; rw [same b ob eb]; exact q
  · obtain ⟨v, h1, h2⟩ := F.sh i d e
    exact ⟨v, h1, x2 h2⟩
  · obtain ⟨b, xs, h1, h2, h3, h4, h5, h6⟩ := F.ow i m e
    exact ⟨b, xs, h1, same b _ h2, h3.ext x, .inl h4, h5, h6⟩
  · rcases z with z | rfl
    · exact F.z5 b z
    · cases e : Z.H b with
      | none => exact .inr rfl
      | some o =>
        rcases F.z3 b o e with z | z
        · obtain ⟨n, hn'⟩ := List.getElem?_of_mem z
          exact absurd (F.rw b (List.mem_of_getElem? (F.z1 n b hn'))) fun w => na b w rfl
        · rw [hn] at z; cases z
  · rintro ⟨i, m, e1, e2⟩
    obtain ⟨b, xs, h1, h2, h3, h4, h5, h6⟩ := F.ow i m e1
    rw [e2] at h1; cases h1
    exact na a h4 rfl
/-- either of both -/
def OkG (K : PySem.W.Frag) (fa : Nat → Addr) (fr : Bool) (Z : Zn) (σ : L2.St) (Wr : Addr → Prop) (ρ : List Addr) (H : Hp) (Q : VK) (r : R D) : Prop := if fr then OkF K fa Z σ Wr ρ H Q r else OkD K fa Z σ Wr ρ H Q r
def rdG (K : PySem.W.Frag) (fa : Nat → Addr) (fr : Bool) (ev : S → R D) : TE := fun σ H Q => ∃ Z Wr ρ s, Fr K fa Z Wr ρ H σ s ∧ OkG K fa fr Z σ Wr ρ H Q (ev s)
theorem OkG.post {d : D} {Q : VK} {fr : Bool} (F : Fr K fa Z Wr ρ H σ s) (h : OkG K fa fr Z σ Wr ρ H Q (.ok d s)) : Post K fa Wr ρ H true d Q := by
  cases fr with
  | false => exact OkD.of_post F h
  | true =>
    cases d with
    | lst l => exact OkF.of_post F h
    | _ => exact False.elim h
theorem OkG.stk {Q : VK} {fr : Bool} (h : OkG K fa fr Z σ Wr ρ H Q .stk) : False := by cases fr <;> exact h
theorem OkG.exc {Q : VK} {fr : Bool} {x : Xn} (h : OkG K fa fr Z σ Wr ρ H Q (.exc x s)) : False := by cases fr <;> exact h
end
section
variable (X : Cx) (fa : Nat → Addr)
def SG (fr : Bool) (e : Expr) (ev : S → R D) : Prop := PE X e (rdG X.K fa fr ev)
end
section
variable {X : Cx} {fa : Nat → Addr}
theorem PE.imp {e : Expr} {t t' : TE} (h : PE X e t) (i : ∀ σ H Q, t' σ H Q → t σ H Q) : PE X e t' := ⟨fun pins s σ H Q I q => h.run pins s σ H Q I (i σ H Q q)⟩
theorem PT.imp {e : Expr} {t t' : TT} (h : PT X e t) (i : ∀ σ H Q, t' σ H Q → t σ H Q) : PT X e t' := ⟨fun pins s σ H Q I q => h.run pins s σ H Q I (i σ H Q q)⟩
theorem PA.imp {e : List Expr} {t t' : TA} (h : PA X e t) (i : ∀ σ H Q, t' σ H Q → t σ H Q) : PA X e t' := ⟨fun pos pins s σ H Q I q => h.run pos pins s σ H Q I (i σ H Q q)⟩
theorem SG.e {e : Expr} {ev : S → R D} (h : SG X fa false e ev) : SE X fa e ev := PE.imp h fun _ _ _ q => q
theorem SG.f {e : Expr} {ev : S → R D} (h : SG X fa true e ev) : SF X fa e ev := PE.imp h fun _ _ _ q => q
/-! ### names, constants -/
section
variable {K : PySem.W.Frag} {Z : Zn} {σ : L2.St} {Wr : Addr → Prop} {ρ : List Addr} {H : Hp} {s : S}
theorem setSl_get {i j : Nat} {x : Sl} (h : i < s.env.length) : (s.setSl i x).env[j]? = if j = i then some x else s.env[j]? := by
  unfold S.setSl
  by_cases e : j = i
  · subst e; rw [if_pos rfl, List.getElem?_set_self h]
  · rw [if_neg e, List.getElem?_set_ne (fun z => e z.symm)]
/-- an own list is shared from now on -/
theorem Fr.share {i : Nat} {l : List D} (F : Fr K fa Z Wr ρ H σ s) (h : s.env[i]? = some (.ow l)) : ∃ (a : Addr) (Wr' : Addr → Prop), σ[i]? = some (some (.ref a)) ∧ Ex Wr ρ H Wr' ρ H ∧ Fr K fa Z Wr' ρ H σ (s.setSl i (.sh (.lst l))) ∧ Rp K fa Wr' ρ H (.lst l) (.ref a) := by
  obtain ⟨a, xs, h1, h2, h3, h4, h5, h6⟩ := F.ow i l h
  have hi : i < s.env.length := (List.getElem?_eq_some_iff.mp h).1
  have x : Ex Wr ρ H (fun b => Wr b ∧ b ≠ a) ρ H := ⟨F.mu, fun _ _ z => z, fun b z => .inl z.1, fun b o e _ => e⟩
  have r : Rp K fa (fun b => Wr b ∧ b ≠ a) ρ H (.lst l) (.ref a) := by
    rw [Rp]; exact ⟨a, xs, rfl, ⟨fun z => z.2 rfl, .inl h2⟩, h3.ext x⟩
  refine ⟨a, _, h1, x, ⟨fun b z => F.mu b z.1, fun b z => ⟨F.rw b z, fun e => h5 (e ▸ z)⟩, F.nd, F.len, fun n o b e1 e2 => (F.so n o b e1 e2).ext x, ?_, fun j d e => ?_, fun j m e => ?_, fun j k m n b e1 e2 e3 e4 => ?_, F.z1, fun b z => ⟨F.z2 b z, fun e => h6 (e ▸ z)⟩, F.z3, F.z4, fun b z => F.z5 b z.1, fun b xs z => ?_⟩, r⟩
  · unfold S.setSl; simp only [List.length_set]; exact F.sl
  · rw [setSl_get hi] at e
    split at e
    · rename_i ej
      cases e; subst ej
      exact ⟨_, h1, r⟩
    · obtain ⟨v, e1, e2⟩ := F.sh j d e
      exact ⟨v, e1, e2.ext x⟩
  · rw [setSl_get hi] at e
    split at e
    · cases e
    · rename_i ej
      obtain ⟨b, ys, g1, g2, g3, g4, g5, g6⟩ := F.ow j m e
      exact ⟨b, ys, g1, g2, g3.ext x, ⟨g4, fun z => ej (F.od j i m l a e h (z ▸ g1) h1)⟩, g5, g6⟩
  · rw [setSl_get hi] at e1 e2
    split at e1
    · cases e1
    · split at e2
      · cases e2
      · exact F.od j k m n b e1 e2 e3 e4
  · obtain ⟨g1, g2, g3, g4, g5⟩ := F.ac b xs z
    refine ⟨g1, ⟨g2, fun e => g5 i l h (e ▸ h1)⟩, g3, g4, fun j m e => ?_⟩
    rw [setSl_get hi] at e
    split at e
    · cases e
    · exact g5 j m e
end
variable (gl : List D) (c : Cl)
theorem s_var {i : Nat} {x : PySem.Str} {pos : Pos} (hN : X.N[i]? = some x) (hv : Vis X.env.scope x) (hd : (x == ("__debug__" : PySem.Str)) = false) (hcd : (x == ("__classdict__" : PySem.Str)) = false) : SE X fa (.Name x pos) (evE gl c (.var i)) := by
  refine PE.imp (pe_var hN hv hd hcd) ?_
  rintro σ H Q ⟨Z, Wr, ρ, s, F, h⟩
  rw [evE] at h
  split at h
  · rename_i d e
    obtain ⟨v, h1, h2⟩ := F.sh i d e
    exact ⟨v, h1, h Wr ρ v H (Ex.refl F.mu) F h2⟩
  · rename_i l e
    obtain ⟨a, Wr', h1, x1, F', r⟩ := F.share e
    exact ⟨_, h1, h Wr' ρ _ H x1 F' r⟩
  · exact False.elim h
theorem s_ob {i : Nat} {x : PySem.Str} {pos : Pos} (hN : X.N[i]? = some x) (hv : Vis X.env.scope x) (hd : (x == ("__debug__" : PySem.Str)) = false) (hcd : (x == ("__classdict__" : PySem.Str)) = false) : SOp X fa (.Name x pos) (evO gl c (.b i)) := by
  refine PE.imp (pe_var hN hv hd hcd) ?_
  rintro σ H Q ⟨Z, Wr, ρ, s, F, h⟩
  rw [evO] at h
  split at h
  · rename_i d e
    obtain ⟨v, h1, h2⟩ := F.sh i d e
    exact ⟨v, h1, h Wr ρ v H (Ex.refl F.mu) F h1⟩
  · rename_i l e
    obtain ⟨a, xs, h1, _⟩ := F.ow i l e
    exact ⟨_, h1, h Wr ρ _ H (Ex.refl F.mu) F h1⟩
  · exact False.elim h
theorem s_oe {e : Expr} {x : E} (h : SE X fa e (evE gl c x)) : SOp X fa e (evO gl c (.e x)) := by
  refine PE.imp h ?_
  rintro σ H Q ⟨Z, Wr, ρ, s, F, h⟩
  refine ⟨Z, Wr, ρ, s, F, ?_⟩
  rw [evO] at h
  revert h
  cases evE gl c x s with
  | ok d s' => exact fun h Wr' ρ' v H' x1 F' r => h Wr' ρ' v H' x1 F' r
  | exc _ _ => exact fun h => h
  | stk => exact fun h => h
/-! ### constants -/
theorem s_cst {k : Cst} {z : Const} {n : Nat} {pos : Pos} (e : z = (match k with | .non => .none | .bl b => .bool b | .int i => .int i | .str x => .str x)) : SE X fa (.Constant z n pos) (evE gl c (.cst k)) := by
  subst e
  cases k with
  | non =>
    refine PE.imp pe_non ?_
    rintro σ H Q ⟨Z, Wr, ρ, s, F, h⟩
    rw [evE] at h
    exact h Wr ρ _ H (Ex.refl F.mu) F (by rw [Cst.d, Rp])
  | bl b =>
    refine PE.imp pe_bl ?_
    rintro σ H Q ⟨Z, Wr, ρ, s, F, h⟩
    rw [evE] at h
    exact h Wr ρ _ H (Ex.refl F.mu) F (by rw [Cst.d, Rp])
  | int b =>
    refine PE.imp pe_int ?_
    rintro σ H Q ⟨Z, Wr, ρ, s, F, h⟩
    rw [evE] at h
    exact h Wr ρ _ H (Ex.refl F.mu) F (by rw [Cst.d, Rp])
  | str b =>
    refine PE.imp pe_str ?_
    rintro σ H Q ⟨Z, Wr, ρ, s, F, h⟩
    rw [evE] at h
    exact h Wr ρ _ H (Ex.refl F.mu) F (by rw [Cst.d, Rp])
theorem s_fn {n : Nat} {x : PySem.Str} {pos : Pos} (hg : Gl X x) (hm : X.mg x = some (.ref (fa n))) (hd : (x == ("__debug__" : PySem.Str)) = false) : SE X fa (.Name x pos) (evE gl c (.fn n)) := by
  refine PE.imp (pe_glob (v := .ref (fa n)) hg hm rfl hd) ?_
  rintro σ H Q ⟨Z, Wr, ρ, s, F, h⟩
  rw [evE] at h
  exact h Wr ρ _ H (Ex.refl F.mu) F (by rw [Rp])
theorem s_ty {t : String} {x : PySem.Str} {pos : Pos} (hg : Gl X x) (hm : X.mg x = none) (hv : bootBuiltins x = some (.type t)) (hn : x ≠ "__name__") (hd : (x == ("__debug__" : PySem.Str)) = false) : SE X fa (.Name x pos) (evE gl c (.ty t)) := by
  refine PE.imp (pe_bltn (v := .ty t) hg hm hv rfl hn hd) ?_
  rintro σ H Q ⟨Z, Wr, ρ, s, F, h⟩
  rw [evE] at h
  exact h Wr ρ _ H (Ex.refl F.mu) F (by rw [Rp])
/-- a module's constant: it stands so wherever -/
theorem s_glo {g : Nat} {x : PySem.Str} {pos : Pos} {v : V} {u : Value} (hg : Gl X x) (hm : X.mg x = some u) (r : L2.RelV v u) (hr : ∀ d, gl[g]? = some d → ∀ Wr ρ H, Rp X.K fa Wr ρ H d v) (hd : (x == ("__debug__" : PySem.Str)) = false) : SE X fa (.Name x pos) (evE gl c (.glo g)) := by
  refine PE.imp (pe_glob hg hm r hd) ?_
  rintro σ H Q ⟨Z, Wr, ρ, s, F, h⟩
  rw [evE] at h
  cases e : gl[g]? with
  | none => rw [e] at h; exact False.elim h
  | some d => rw [e] at h; exact h Wr ρ _ H (Ex.refl F.mu) F (hr d e Wr ρ H)
/-! ### rows of expressions -/
theorem s_nil : SEs X fa [] (evEs gl c .nil) := by
  refine PA.imp pa_nil ?_
  rintro σ H Q ⟨Z, Wr, ρ, s, F, h⟩
  rw [evEs] at h
  exact h Wr ρ [] H (Ex.refl F.mu) F .nil
/-- a first, then the rest -/
theorem OkD.bind {K : PySem.W.Frag} {Z : Zn} {σ : L2.St} {Wr : Addr → Prop} {ρ : List Addr} {H : Hp} {α : Type} {m : R D} {f : D → S → R α} {Q : VK} {P : R α → Prop} (hs : ¬ P .stk) (hx : ∀ x s, ¬ P (.exc x s)) (h : P (m.bind f))
    (k : ∀ d s', m = .ok d s' → P (f d s') → ∀ Wr' ρ' v H', Ex Wr ρ H Wr' ρ' H' → Fr K fa Z Wr' ρ' H' σ s' → Rp K fa Wr' ρ' H' d v → Q v H') : OkD K fa Z σ Wr ρ H Q m := by
  cases m with
  | ok d s' => exact fun Wr' ρ' v H' x1 F r => k d s' rfl h Wr' ρ' v H' x1 F r
  | exc x s' => exact absurd h (hx x s')
  | stk => exact absurd h hs
theorem s_cons {e : Expr} {es : List Expr} {x : E} {r : Es} (h1 : SE X fa e (evE gl c x)) (h2 : SEs X fa es (evEs gl c r)) (hs : starEach (e :: es) X.env = (false, eval e X.env) :: starEach es X.env) : SEs X fa (e :: es) (evEs gl c (.cons x r)) := by
  refine PA.imp (pa_cons h1 h2 hs) ?_
  rintro σ H Q ⟨Z, Wr, ρ, s, F, h⟩
  rw [evEs] at h
  refine ⟨Z, Wr, ρ, s, F, OkD.bind (P := OkL X.K fa Z σ Wr ρ H Q) (fun z => z) (fun _ _ z => z) h fun d s1 _ h Wr1 ρ1 v H1 x1 F1 r1 => ⟨Z, Wr1, ρ1, s1, F1, ?_⟩⟩
  revert h
  cases evEs gl c r s1 with
  | ok ds s2 => exact fun h Wr2 ρ2 vs H2 x2 F2 r2 => h Wr2 ρ2 (v :: vs) H2 (x1.trans x2) F2 (.cons (r1.ext x2) r2)
  | exc x s2 => exact fun h => h
  | stk => exact fun h => h
theorem s_onil : SOs X fa [] (evOs gl c .nil) := by
  refine PA.imp pa_nil ?_
  rintro σ H Q ⟨Z, Wr, ρ, s, F, h⟩
  rw [evOs] at h
  exact h Wr ρ [] H (Ex.refl F.mu) F .nil
theorem OkO.bind {K : PySem.W.Frag} {Z : Zn} {σ : L2.St} {Wr : Addr → Prop} {ρ : List Addr} {H : Hp} {α : Type} {m : R Pd} {f : Pd → S → R α} {Q : VK} {P : R α → Prop} (hs : ¬ P .stk) (hx : ∀ x s, ¬ P (.exc x s)) (h : P (m.bind f))
    (k : ∀ d s', m = .ok d s' → P (f d s') → ∀ Wr' ρ' v H', Ex Wr ρ H Wr' ρ' H' → Fr K fa Z Wr' ρ' H' σ s' → PdOk K fa σ Wr' ρ' H' d v → Q v H') : OkO K fa Z σ Wr ρ H Q m := by
  cases m with
  | ok d s' => exact fun Wr' ρ' v H' x1 F r => k d s' rfl h Wr' ρ' v H' x1 F r
  | exc x s' => exact absurd h (hx x s')
  | stk => exact absurd h hs
theorem pds_ext {K : PySem.W.Frag} {σ : L2.St} {Wr Wr' : Addr → Prop} {ρ ρ' : List Addr} {H H' : Hp} (x : Ex Wr ρ H Wr' ρ' H') : ∀ {ps : List Pd} {vs : List V}, Paired (PdOk K fa σ Wr ρ H) ps vs → Paired (PdOk K fa σ Wr' ρ' H') ps vs
  | _, _, .nil => .nil
  | _, _, .cons h t => .cons (h.ext x) (pds_ext x t)
theorem s_ocons {e : Expr} {es : List Expr} {x : O} {r : Os} (h1 : SOp X fa e (evO gl c x)) (h2 : SOs X fa es (evOs gl c r)) (hs : starEach (e :: es) X.env = (false, eval e X.env) :: starEach es X.env) : SOs X fa (e :: es) (evOs gl c (.cons x r)) := by
  refine PA.imp (pa_cons h1 h2 hs) ?_
  rintro σ H Q ⟨Z, Wr, ρ, s, F, h⟩
  rw [evOs] at h
  refine ⟨Z, Wr, ρ, s, F, OkO.bind (P := OkOs X.K fa Z σ Wr ρ H Q) (fun z => z) (fun _ _ z => z) h fun d s1 _ h Wr1 ρ1 v H1 x1 F1 r1 => ⟨Z, Wr1, ρ1, s1, F1, ?_⟩⟩
  revert h
  cases evOs gl c r s1 with
  | ok ds s2 => exact fun h Wr2 ρ2 vs H2 x2 F2 r2 => h Wr2 ρ2 (v :: vs) H2 (x1.trans x2) F2 (.cons (r1.ext x2) r2)
  | exc x s2 => exact fun h => h
  | stk => exact fun h => h
end
end Dn

/-! Dn, part M: displays, operations, calls of built-ins. -/
namespace Dn
open PySem PySem.Spec PyProof.Rows L2
section
variable {X : Cx} {fa : Nat → Addr} (gl : List D) (c : Cl)
section
variable {K : PySem.W.Frag} {Z : Zn} {σ : L2.St} {Wr : Addr → Prop} {ρ : List Addr} {H : Hp} {s : S}
theorem OkL.bind {α : Type} {m : R (List D)} {f : List D → S → R α} {Q : List V → Hp → Prop} {P : R α → Prop} (hs : ¬ P .stk) (hx : ∀ x s, ¬ P (.exc x s)) (h : P (m.bind f))
    (k : ∀ d s', m = .ok d s' → P (f d s') → ∀ Wr' ρ' v H', Ex Wr ρ H Wr' ρ' H' → Fr K fa Z Wr' ρ' H' σ s' → RpL K fa Wr' ρ' H' d v → Q v H') : OkL K fa Z σ Wr ρ H Q m := by
  cases m with
  | ok d s' => exact fun Wr' ρ' v H' x1 F r => k d s' rfl h Wr' ρ' v H' x1 F r
  | exc x s' => exact absurd h (hx x s')
  | stk => exact absurd h hs
theorem OkOs.bind {α : Type} {m : R (List Pd)} {f : List Pd → S → R α} {Q : List V → Hp → Prop} {P : R α → Prop} (hs : ¬ P .stk) (hx : ∀ x s, ¬ P (.exc x s)) (h : P (m.bind f))
    (k : ∀ d s', m = .ok d s' → P (f d s') → ∀ Wr' ρ' v H', Ex Wr ρ H Wr' ρ' H' → Fr K fa Z Wr' ρ' H' σ s' → Paired (PdOk K fa σ Wr' ρ' H') d v → Q v H') : OkOs K fa Z σ Wr ρ H Q m := by
  cases m with
  | ok d s' => exact fun Wr' ρ' v H' x1 F r => k d s' rfl h Wr' ρ' v H' x1 F r
  | exc x s' => exact absurd h (hx x s')
  | stk => exact absurd h hs
/-- from one moment to a later one -/
theorem OkG.later {fr : Bool} {Q : VK} {Wr' : Addr → Prop} {ρ' : List Addr} {H' : Hp} (x : Ex Wr ρ H Wr' ρ' H') : ∀ {r : R D}, OkG K fa fr Z σ Wr ρ H Q r → OkG K fa fr Z σ Wr' ρ' H' Q r := by
  intro r h
  cases fr with
  | false =>
    cases r with
    | ok d s' => exact fun W2 ρ2 v H2 x2 F r => h W2 ρ2 v H2 (x.trans x2) F r
    | exc _ _ => exact h
    | stk => exact h
  | true =>
    cases r with
    | ok d s' =>
      cases d with
      | lst l => exact fun W2 ρ2 a xs H2 x2 F => h W2 ρ2 a xs H2 (x.trans x2) F
      | _ => exact h
    | exc _ _ => exact h
    | stk => exact h
theorem OkD.later {Q : VK} {Wr' : Addr → Prop} {ρ' : List Addr} {H' : Hp} (x : Ex Wr ρ H Wr' ρ' H') {r : R D} (h : OkD K fa Z σ Wr ρ H Q r) : OkD K fa Z σ Wr' ρ' H' Q r := OkG.later (fr := false) x h
theorem notG_stk {fr : Bool} {Q : VK} : ¬ OkG K fa fr Z σ Wr ρ H Q .stk := fun h => h.stk
theorem notG_exc {fr : Bool} {Q : VK} (x : Xn) (s : S) : ¬ OkG K fa fr Z σ Wr ρ H Q (.exc x s) := fun h => h.exc
end
theorem s_lst {fr : Bool} {es : List Expr} {r : Es} {pos : Pos} (h : SEs X fa es (evEs gl c r)) : SG X fa fr (.List es pos) (evE gl c (.lst r)) := by
  refine PE.imp (pe_lst h) ?_
  rintro σ H Q ⟨Z, Wr, ρ, s, F, h⟩
  rw [evE] at h
  refine ⟨Z, Wr, ρ, s, F, OkL.bind notG_stk notG_exc h fun ds s1 _ h Wr1 ρ1 v H1 x1 F1 r1 => ?_⟩
  split at h
  · exact ⟨by rw [r1.len]; assumption, OkG.post F1 (h.later x1) |>.lst F1.mu r1⟩
  · exact (notG_stk h).elim
theorem s_tup {es : List Expr} {r : Es} {k : Nat} {pos : Pos} (h : SEs X fa es (evEs gl c r)) : SE X fa (.Tuple es k pos) (evE gl c (.tup r)) := by
  refine PE.imp (pe_tup h) ?_
  rintro σ H Q ⟨Z, Wr, ρ, s, F, h⟩
  rw [evE] at h
  have h : OkG X.K fa false Z σ Wr ρ H Q _ := h
  refine ⟨Z, Wr, ρ, s, F, OkL.bind notG_stk notG_exc h fun ds s1 _ h Wr1 ρ1 v H1 x1 F1 r1 => ?_⟩
  split at h
  · exact ⟨by rw [r1.len]; assumption, OkG.post F1 (h.later x1) |>.tup F1.mu r1⟩
  · exact (notG_stk h).elim
/-- two operands and an operation -/
theorem two_ops {a b : Expr} {x y : O} {o : Expr} {r : R2} {fr : Bool} {p : P} (ha : SOp X fa a (evO gl c x)) (hb : SOp X fa b (evO gl c y)) (ho : PE X o (tOp r (rdO X.K fa (evO gl c x)) (rdO X.K fa (evO gl c y))))
    (hr : ∀ Z Wr ρ H σ s dx dy v u Q, Fr X.K fa Z Wr ρ H σ s → Rr X.K fa Wr ρ H dx v → Rr X.K fa Wr ρ H dy u → OkG X.K fa fr Z σ Wr ρ H Q (ofO (p.run s.sto [dx, dy]) s) → r v u H Q) : SG X fa fr o (evE gl c (.prim p (.cons x (.cons y .nil)))) := by
  refine PE.imp ho ?_
  rintro σ H Q ⟨Z, Wr, ρ, s, F, h⟩
  rw [evE, evOs] at h
  cases e1 : evO gl c x s with
  | exc _ _ => rw [e1] at h; exact (notG_exc _ _ h).elim
  | stk => rw [e1] at h; exact (notG_stk h).elim
  | ok p1 s1 =>
    rw [e1, R.bind_ok, evOs] at h
    refine ⟨Z, Wr, ρ, s, F, ?_⟩
    rw [e1]
    intro Wr1 ρ1 v H1 x1 F1 r1
    refine ⟨Z, Wr1, ρ1, s1, F1, ?_⟩
    cases e2 : evO gl c y s1 with
    | exc _ _ => rw [e2] at h; exact (notG_exc _ _ h).elim
    | stk => rw [e2] at h; exact (notG_stk h).elim
    | ok p2 s2 =>
      rw [e2, R.bind_ok, evOs] at h
      intro Wr2 ρ2 u H2 x2 F2 r2
      simp only [R.bind_ok] at h
      split at h
      · rename_i ds e3
        have q := pdAll_rr F2 (Paired.cons (r1.ext x2) (Paired.cons r2 Paired.nil)) e3
        cases q with
        | cons q1 q =>
          cases q with
          | cons q2 q =>
            cases q
            exact hr Z Wr2 ρ2 H2 σ s2 _ _ v u Q F2 q1 q2 (h.later (x1.trans x2))
      · exact (notG_stk h).elim
theorem okG_of {K : PySem.W.Frag} {Z : Zn} {σ : L2.St} {Wr : Addr → Prop} {ρ : List Addr} {H : Hp} {s : S} {fr : Bool} {Q : VK} {o : Option D} (h : OkG K fa fr Z σ Wr ρ H Q (ofO o s)) : ∃ d, o = some d ∧ OkG K fa fr Z σ Wr ρ H Q (.ok d s) := by
  cases o with
  | none => exact (notG_stk h).elim
  | some d => exact ⟨d, rfl, h⟩
theorem s_bin {fr : Bool} {a b : Expr} {x y : O} {o : Operator} {pos : Pos} (ha : SOp X fa a (evO gl c x)) (hb : SOp X fa b (evO gl c y)) : SG X fa fr (.BinOp a o b pos) (evE gl c (.prim (.bin o) (.cons x (.cons y .nil)))) :=
  two_ops gl c ha hb (pe_op (op_bin o) ha hb) fun Z Wr ρ H σ s dx dy v u Q F q1 q2 h => by
    obtain ⟨d, e, h⟩ := okG_of h
    exact ⟨fa, Wr, ρ, dx, dy, d, F.mu, q1, q2, e, OkG.post F h⟩
theorem s_cmp {a b : Expr} {x y : O} {o : CmpOp} {pos : Pos} (hu : X.A.units + 200 < cLine) (hm : behindInMarks o b = false) (ha : SOp X fa a (evO gl c x)) (hb : SOp X fa b (evO gl c y)) : SE X fa (.Compare a [o] [b] pos) (evE gl c (.prim (.cmp o) (.cons x (.cons y .nil)))) :=
  SG.e (two_ops gl c ha hb (pe_cmpR (op_cmp o hu) ha hb hm) fun Z Wr ρ H σ s dx dy v u Q F q1 q2 h => by
    obtain ⟨d, e, h⟩ := okG_of h
    have e : (cmpD o dx dy).map D.bl = some d := e
    obtain ⟨k, e', rfl⟩ := Option.map_eq_some_iff.mp e
    exact ⟨fa, Wr, ρ, dx, dy, k, q1, q2, e', (OkG.post F h).bl⟩)
theorem s_idx {a b : Expr} {x y : O} {pos : Pos} (hu : X.A.units + 200 < cLine) (hs : PlainIx b) (ha : SOp X fa a (evO gl c x)) (hb : SOp X fa b (evO gl c y)) : SE X fa (.Subscript a b pos) (evE gl c (.prim .idx (.cons x (.cons y .nil)))) :=
  SG.e (two_ops gl c ha hb (pe_ix (ix_D hu) ha hb hs) fun Z Wr ρ H σ s dx dy v u Q F q1 q2 h => by
    obtain ⟨d, e, h⟩ := okG_of h
    have h : OkD X.K fa Z σ Wr ρ H Q (.ok d s) := h
    exact ⟨fa, Wr, ρ, s.sto, dx, dy, d, F.sto, F.len, q1, q2, e, fun v r => h Wr ρ v H F.ex F r⟩)
/-- one operand -/
theorem one_op {a : Expr} {x : O} {fr : Bool} {o : Expr} {p : P} {t : TE} {T : V → Hp → VK → Prop} (ha : SOp X fa a (evO gl c x)) (ho : PE X o t) (ht : ∀ σ H Q, rdO X.K fa (evO gl c x) σ H (fun v H1 => T v H1 Q) → t σ H Q)
    (hr : ∀ Z Wr ρ H σ s dx v Q, Fr X.K fa Z Wr ρ H σ s → Rr X.K fa Wr ρ H dx v → OkG X.K fa fr Z σ Wr ρ H Q (ofO (p.run s.sto [dx]) s) → T v H Q) : SG X fa fr o (evE gl c (.prim p (.cons x .nil))) := by
  refine PE.imp ho ?_
  rintro σ H Q ⟨Z, Wr, ρ, s, F, h⟩
  refine ht σ H Q ?_
  rw [evE, evOs] at h
  cases e1 : evO gl c x s with
  | exc _ _ => rw [e1] at h; exact (notG_exc _ _ h).elim
  | stk => rw [e1] at h; exact (notG_stk h).elim
  | ok p1 s1 =>
    rw [e1, Dn.R.bind_ok, evOs] at h
    refine ⟨Z, Wr, ρ, s, F, ?_⟩
    rw [e1]
    intro Wr1 ρ1 v H1 x1 F1 r1
    simp only [Dn.R.bind_ok] at h
    split at h
    · rename_i ds e3
      have q := pdAll_rr F1 (Paired.cons r1 Paired.nil) e3
      cases q with
      | cons q1 q =>
        cases q
        exact hr Z Wr1 ρ1 H1 σ s1 _ v Q F1 q1 (h.later x1)
    · exact (notG_stk h).elim
theorem s_neg {a : Expr} {x : O} {pos : Pos} (ha : SOp X fa a (evO gl c x)) : SE X fa (.UnaryOp .USub a pos) (evE gl c (.prim .neg (.cons x .nil))) :=
  SG.e (one_op gl c ha (pe_un un_neg ha) (fun _ _ _ h => h) fun Z Wr ρ H σ s dx v Q F q1 h => by
    obtain ⟨d, e, h⟩ := okG_of h
    simp only [P.run] at e
    split at e
    · rename_i i ei
      simp only [List.cons.injEq, and_true] at ei
      subst ei
      cases e
      exact ⟨_, q1.int, (OkG.post F h).int⟩
    · cases e)
/-! ### cuts -/
theorem prts_len {lo hi : Bool} {ds : List D} {p : Option Int × Option Int} (h : prts lo hi ds = some p) : (lo = false ∧ hi = false ∧ ds = [] ∧ p = (none, none)) ∨ (∃ i, lo = true ∧ hi = false ∧ ds = [.int i] ∧ p = (some i, none)) ∨ (∃ i, lo = false ∧ hi = true ∧ ds = [.int i] ∧ p = (none, some i)) ∨ ∃ i j, lo = true ∧ hi = true ∧ ds = [.int i, .int j] ∧ p = (some i, some j) := by
  unfold prts at h
  split at h
  · cases h; exact .inl ⟨rfl, rfl, rfl, rfl⟩
  · cases h; exact .inr (.inl ⟨_, rfl, rfl, rfl, rfl⟩)
  · cases h; exact .inr (.inr (.inl ⟨_, rfl, rfl, rfl, rfl⟩))
  · cases h; exact .inr (.inr (.inr ⟨_, _, rfl, rfl, rfl, rfl⟩))
  · cases h
/-- what a cut of a value is -/
theorem slc_fin {fr : Bool} {Z : Zn} {σ : L2.St} {Wr : Addr → Prop} {ρ : List Addr} {H : Hp} {s : S} {Q : VK} {lo hi : Bool} {dx : D} {ps : List D} {v : V} (F : Fr X.K fa Z Wr ρ H σ s) (q1 : Rr X.K fa Wr ρ H dx v) (h : OkG X.K fa fr Z σ Wr ρ H Q (ofO ((P.slc lo hi).run s.sto (dx :: ps)) s)) :
    ∃ p, prts lo hi ps = some p ∧ rSlc X.K v p.1 p.2 H Q := by
  obtain ⟨d, e, h⟩ := okG_of h
  simp only [P.run] at e
  split at e
  · rename_i l ps' ei
    simp only [List.cons.injEq] at ei
    obtain ⟨rfl, rfl⟩ := ei
    obtain ⟨p, e', rfl⟩ := Option.map_eq_some_iff.mp e
    exact ⟨p, e', fa, Wr, ρ, _, F.mu, q1, .inl ⟨l, rfl, OkG.post F h⟩⟩
  · rename_i l ps' ei
    simp only [List.cons.injEq] at ei
    obtain ⟨rfl, rfl⟩ := ei
    obtain ⟨p, e', rfl⟩ := Option.map_eq_some_iff.mp e
    exact ⟨p, e', fa, Wr, ρ, _, F.mu, q1, .inr (.inl ⟨l, rfl, OkG.post F h⟩)⟩
  · rename_i l ps' ei
    simp only [List.cons.injEq] at ei
    obtain ⟨rfl, rfl⟩ := ei
    obtain ⟨p, e', rfl⟩ := Option.map_eq_some_iff.mp e
    exact ⟨p, e', fa, Wr, ρ, _, F.mu, q1, .inr (.inr (.inl ⟨l, rfl, OkG.post F h⟩))⟩
  · rename_i z ps' ei
    simp only [List.cons.injEq] at ei
    obtain ⟨rfl, rfl⟩ := ei
    split at e
    · obtain ⟨p, e', rfl⟩ := Option.map_eq_some_iff.mp e
      exact ⟨p, e', fa, Wr, ρ, _, F.mu, q1, .inr (.inr (.inr ⟨z, rfl, by assumption, OkG.post F h⟩))⟩
    · cases e
  · cases e
theorem s_slc0 {fr : Bool} {a : Expr} {x : O} {p2 pos : Pos} (ha : SOp X fa a (evO gl c x)) : SG X fa fr (.Subscript a (.Slice none none none p2) pos) (evE gl c (.prim (.slc false false) (.cons x .nil))) :=
  one_op gl c (T := fun v H Q => rSlc X.K v none none H Q) ha (pe_slice sl_D ha po_none po_none) (fun _ _ _ h => h) fun Z Wr ρ H σ s dx v Q F q1 h => by
    obtain ⟨p, e, q⟩ := slc_fin F q1 h
    rcases prts_len e with ⟨_, _, _, rfl⟩ | ⟨i, z, _⟩ | ⟨i, _, z, _⟩ | ⟨i, j, z, _⟩
    · exact q
    · cases z
    · cases z
    · cases z
theorem s_slc1 {fr : Bool} {a b : Expr} {x y : O} {p2 pos : Pos} (ha : SOp X fa a (evO gl c x)) (hb : SOp X fa b (evO gl c y)) : SG X fa fr (.Subscript a (.Slice (some b) none none p2) pos) (evE gl c (.prim (.slc true false) (.cons x (.cons y .nil)))) :=
  two_ops gl c (r := fun v u H Q => ∃ i, u = .int i ∧ rSlc X.K v (some i) none H Q) ha hb (PE.imp (pe_slice sl_D ha (po_some hb) po_none) fun _ _ _ h => h) fun Z Wr ρ H σ s dx dy v u Q F q1 q2 h => by
    obtain ⟨p, e, q⟩ := slc_fin F q1 h
    rcases prts_len e with ⟨z, _⟩ | ⟨i, _, _, ei, rfl⟩ | ⟨i, z, _⟩ | ⟨i, j, _, z, _⟩
    · cases z
    · cases ei; exact ⟨i, q2.int, q⟩
    · cases z
    · cases z
theorem s_slc2 {fr : Bool} {a b : Expr} {x y : O} {p2 pos : Pos} (ha : SOp X fa a (evO gl c x)) (hb : SOp X fa b (evO gl c y)) : SG X fa fr (.Subscript a (.Slice none (some b) none p2) pos) (evE gl c (.prim (.slc false true) (.cons x (.cons y .nil)))) :=
  two_ops gl c (r := fun v u H Q => ∃ i, u = .int i ∧ rSlc X.K v none (some i) H Q) ha hb (PE.imp (pe_slice sl_D ha po_none (po_some hb)) fun _ _ _ h => h) fun Z Wr ρ H σ s dx dy v u Q F q1 q2 h => by
    obtain ⟨p, e, q⟩ := slc_fin F q1 h
    rcases prts_len e with ⟨_, z, _⟩ | ⟨i, z, _⟩ | ⟨i, _, _, ei, rfl⟩ | ⟨i, j, z, _⟩
    · cases z
    · cases z
    · cases ei; exact ⟨i, q2.int, q⟩
    · cases z
theorem s_slc3 {fr : Bool} {a b d : Expr} {x z : O} {y : E} {p2 pos : Pos} (ha : SOp X fa a (evO gl c x)) (hb : SOp X fa b (evO gl c (.e y))) (hd : SOp X fa d (evO gl c z)) : SG X fa fr (.Subscript a (.Slice (some b) (some d) none p2) pos) (evE gl c (.prim (.slc true true) (.cons x (.cons (.e y) (.cons z .nil))))) := by
  refine PE.imp (pe_slice sl_D ha (po_some hb) (po_some hd)) ?_
  rintro σ H Q ⟨Z, Wr, ρ, s, F, h⟩
  rw [evE, evOs] at h
  cases e1 : evO gl c x s with
  | exc _ _ => rw [e1] at h; exact (notG_exc _ _ h).elim
  | stk => rw [e1] at h; exact (notG_stk h).elim
  | ok p1 s1 =>
    rw [e1, R.bind_ok, evOs] at h
    refine ⟨Z, Wr, ρ, s, F, ?_⟩
    rw [e1]
    intro Wr1 ρ1 v H1 x1 F1 r1
    refine ⟨Z, Wr1, ρ1, s1, F1, ?_⟩
    cases e2 : evO gl c (.e y) s1 with
    | exc _ _ => rw [e2] at h; exact (notG_exc _ _ h).elim
    | stk => rw [e2] at h; exact (notG_stk h).elim
    | ok p2 s2 =>
      rw [e2, R.bind_ok, evOs] at h
      intro Wr2 ρ2 u H2 x2 F2 r2
      cases e4 : evO gl c z s2 with
      | exc _ _ => rw [e4] at h; exact (notG_exc _ _ h).elim
      | stk => rw [e4] at h; exact (notG_stk h).elim
      | ok p3 s3 =>
        rw [e4, R.bind_ok, evOs] at h
        simp only [R.bind_ok] at h
        split at h
        · rename_i ds e3
          -- the first part is a number already
          have first : ∃ i, u = .int i := by
            rw [evO] at e2
            cases e6 : evE gl c y s1 with
            | exc _ _ => rw [e6] at e2; cases e2
            | stk => rw [e6] at e2; cases e2
            | ok w s2' =>
              rw [e6] at e2
              cases e2
              obtain ⟨d, eq, _⟩ := okG_of h
              simp only [pdAll] at e3
              split at e3
              · rename_i d1 ds1 g1 g2
                cases e3
                split at g2
                · rename_i d2 ds2 g3 g4
                  cases g2
                  cases g3
                  split at g4
                  · cases g4
                    have lem : ∀ {o : Option (Option Int × Option Int)} {f : Option Int × Option Int → D}, o.map f = some d → ∃ p, o = some p := fun z => (Option.map_eq_some_iff.mp z).imp fun _ q => q.1
                    have fin : ∀ (z3 : List D) p, prts true true (w :: z3) = some p → ∃ i, u = .int i := fun z3 p z => by
                      rcases prts_len z with ⟨z, _⟩ | ⟨_, _, z, _⟩ | ⟨_, z, _⟩ | ⟨j, k, _, _, ei, _⟩
                      · cases z
                      · cases z
                      · cases z
                      · cases ei
                        have r2 : Rp X.K fa Wr2 ρ2 H2 (.int j) u := r2
                        rw [Rp] at r2
                        exact ⟨j, r2⟩
                    simp only [P.run] at eq
                    split at eq
                    · rename_i ei; cases ei; obtain ⟨p, z⟩ := lem eq; exact fin _ p z
                    · rename_i ei; cases ei; obtain ⟨p, z⟩ := lem eq; exact fin _ p z
                    · rename_i ei; cases ei; obtain ⟨p, z⟩ := lem eq; exact fin _ p z
                    · rename_i ei; cases ei
                      split at eq
                      · obtain ⟨p, z⟩ := lem eq; exact fin _ p z
                      · cases eq
                    · cases eq
                  · cases g4
                · cases g2
              · cases e3
          obtain ⟨i, rfl⟩ := first
          refine ⟨i, rfl, Z, Wr2, ρ2, s2, F2, ?_⟩
          rw [e4]
          intro Wr3 ρ3 t H3 x3 F3 r3
          have q := pdAll_rr F3 (Paired.cons ((r1.ext x2).ext x3) (Paired.cons (r2.ext x3) (Paired.cons r3 Paired.nil))) e3
          cases q with
          | cons q1 q =>
            cases q with
            | cons q2 q =>
              cases q with
              | cons q3 q =>
                cases q
                obtain ⟨p, e, q⟩ := slc_fin F3 q1 (h.later ((x1.trans x2).trans x3))
                rcases prts_len e with ⟨_, _, w, _⟩ | ⟨i, _, w, _⟩ | ⟨i, w, _⟩ | ⟨j, k, _, _, ei, rfl⟩
                · cases w
                · cases w
                · cases w
                · cases ei
                  have e5 := q2.int
                  cases e5
                  exact ⟨k, q3.int, q⟩
        · exact (notG_stk h).elim
/-! ### xs[::-1] -/
theorem s_rev {fr : Bool} {a : Expr} {x : O} {k : Nat} {p1 p2 p3 pos : Pos} (ha : SOp X fa a (evO gl c x)) : SG X fa fr (.Subscript a (.Slice none none (some (.UnaryOp .USub (.Constant (.int 1) k p1) p2)) p3) pos) (evE gl c (.prim .rev (.cons x .nil))) :=
  one_op gl c (T := fun v H Q => ∃ a xs, v = .ref a ∧ SqL X.K H a xs ∧ ∀ p, H p = none → Q (.ref p) (upd H p (.lst xs.reverse))) ha (pe_revL ha) (fun _ _ _ h => h) fun Z Wr ρ H σ s dx v Q F q1 h => by
    obtain ⟨d, e, h⟩ := okG_of h
    simp only [P.run] at e
    split at e
    · rename_i l ei
      simp only [List.cons.injEq, and_true] at ei
      subst ei
      cases e
      obtain ⟨b, xs, e1, g, r⟩ := q1.lst
      exact ⟨b, xs, e1, .inl g, (OkG.post F h).lst F.mu r.reverse⟩
    · cases e

/-! ### calls of built-ins -/
theorem bk_plain : ∀ {es : List Expr} {env : Env} {pos : Pos}, (∀ e ∈ es, starEach [e] env = [(false, eval e env)]) → (starEach es env = es.map fun e => (false, eval e env)) ∧ (backTo pos (starEach es env)).any (·.1) = false
  | [], env, pos, h => ⟨rfl, rfl⟩
  | e :: es, env, pos, h => by
    obtain ⟨h1, h2⟩ := bk_plain (pos := pos) fun e' he => h e' (List.mem_cons_of_mem _ he)
    have h3 := h e List.mem_cons_self
    have h4 : starEach (e :: es) env = (false, eval e env) :: starEach es env := by
      cases e <;> first | rfl | (rw [starEach] at h3; simp at h3)
    rw [h4, h1]
    refine ⟨rfl, ?_⟩
    rw [h1] at h2
    show (false || (backTo pos (es.map fun e => (false, eval e env))).any (·.1)) = false
    rw [h2]; rfl
/-- no star among them -/
def unst : Expr → Bool
  | .Starred .. => false
  | _ => true
theorem unst_star {e : Expr} {env : Env} (h : unst e = true) : starEach [e] env = [(false, eval e env)] := by
  cases e <;> first | rfl | cases h
theorem unst_cons {e : Expr} {es : List Expr} {env : Env} (h : unst e = true) : starEach (e :: es) env = (false, eval e env) :: starEach es env := by
  cases e <;> first | rfl | cases h
theorem all_ops {fr : Bool} {o : Expr} {os : Os} {es : List Expr} {p : P} {f : List D → Option D} {fp : Bool} (ho : SOs X fa es (evOs gl c os)) (hp : ∀ sto ds, p.run sto ds = f ds) (he : PE X o (tCB (rFn X.K f fp) (rdOs X.K fa (evOs gl c os)))) (hf : fr = true → fp = true) : SG X fa fr o (evE gl c (.prim p os)) := by
  refine PE.imp he ?_
  rintro σ H Q ⟨Z, Wr, ρ, s, F, h⟩
  rw [evE] at h
  refine ⟨Z, Wr, ρ, s, F, OkOs.bind notG_stk notG_exc h fun ps s1 _ h Wr1 ρ1 v H1 x1 F1 r1 => ?_⟩
  split at h
  · rename_i ds e3
    obtain ⟨d, e, h⟩ := okG_of h
    have q := pdAll_rr F1 r1 e3
    rw [hp] at e
    refine ⟨fa, Wr1, ρ1, ds, d, F1.mu, q, e, ?_⟩
    cases fr with
    | true => rw [hf rfl]; exact OkG.post F1 (h.later x1)
    | false => exact OkD.of_post F1 (OkD.later x1 h)
  · exact (notG_stk h).elim
theorem s_bf {fr : Bool} {n : String} {f : PySem.Str} {e : Expr} {es : List Expr} {os : Os} {p pos : Pos} (hc : X.calm = true) (hu : X.A.units + 200 < cLine) (hgd : X.A.guards = some []) (ho : SOs X fa (e :: es) (evOs gl c os)) (hg : Gl X f) (hm : X.mg f = none) (hv : bootBuiltins f = some (.builtin n))
    (hn : f ≠ "__name__") (hd : (f == ("__debug__" : PySem.Str)) = false) (hs : ∀ a ∈ e :: es, unst a = true) (hf : fr = true → (n == "sorted") = true) : SG X fa fr (.Call (.Name f p) (e :: es) [] pos) (evE gl c (.prim (.bf n) os)) :=
  all_ops gl c ho (fun _ _ => rfl) (pe_callB (call_bf n hc hu hgd) hg hm hv ho hn hd (unst_cons (hs e List.mem_cons_self)) (bk_plain fun a ha => unst_star (hs a (List.mem_cons_of_mem _ ha))).2) hf
theorem s_bt {fr : Bool} {n : String} {f : PySem.Str} {e : Expr} {es : List Expr} {os : Os} {p pos : Pos} (hc : X.calm = true) (hu : X.A.units + 200 < cLine) (ho : SOs X fa (e :: es) (evOs gl c os)) (hg : Gl X f) (hm : X.mg f = none) (hv : bootBuiltins f = some (.type n))
    (hn : f ≠ "__name__") (hd : (f == ("__debug__" : PySem.Str)) = false) (hs : ∀ a ∈ e :: es, unst a = true) (hf : fr = true → (n == "list") = true) : SG X fa fr (.Call (.Name f p) (e :: es) [] pos) (evE gl c (.prim (.bt n) os)) :=
  all_ops gl c ho (fun _ _ => rfl) (pe_callTy (call_bt n hc hu) hg hm hv ho hn hd (unst_cons (hs e List.mem_cons_self)) (bk_plain fun a ha => unst_star (hs a (List.mem_cons_of_mem _ ha))).2) hf
/-! ### calls of own defs -/
/-- what a def's call gives -/
def rCall (K : PySem.W.Frag) (fa : Nat → Addr) (f : List D → List SO → RC) : List V → Hp → VK → Prop := fun xs H Q => ∃ Z Wr ρ σ s ds, Fr K fa Z Wr ρ H σ s ∧ RpL K fa Wr ρ H ds xs ∧ OkD K fa Z σ Wr ρ H Q ((f ds s.sto).to s)
theorem s_call {n : Nat} {f : PySem.Str} {e : Expr} {es : List Expr} {r : Es} {p pos : Pos} (hf : CallR X (.ref (fa n)) (rCall X.K fa (c n))) (hk : PySem.W.keepIn X.K (.ref (fa n)) = true) (hg : Gl X f) (hm : X.mg f = some (.ref (fa n))) (h : SEs X fa (e :: es) (evEs gl c r))
    (hd : (f == ("__debug__" : PySem.Str)) = false) (hs : ∀ a ∈ e :: es, unst a = true) : SE X fa (.Call (.Name f p) (e :: es) [] pos) (evE gl c (.call n none r .nil)) := by
  refine ⟨fun pins s σ H Q I h0 => ?_⟩
  obtain ⟨Z, Wr, ρ, t, F, q⟩ := h0
  rw [evE] at q
  apply wpAny_Call_Name_kw
  apply ld_glob I hg hm _ hd
  refine PySem.W.callWith_K (h₀ := X.base) I.ok.mod.kin hk (first := []) ?_ (unst_cons (hs e List.mem_cons_self)) (bk_plain fun a ha => unst_star (hs a (List.mem_cons_of_mem _ ha))).2
  refine thn (h.run pos pins s σ H _ I ⟨Z, Wr, ρ, t, F, OkL.bind (P := OkD X.K fa Z σ Wr ρ H Q) (fun z => z) (fun _ _ z => z) q fun ds s1 _ q Wr1 ρ1 v H1 x1 F1 r1 => ?_⟩) fun us s1 ⟨vs, H1, I1, rv, q1⟩ => ⟨I1.kIn, hf pins s1 σ H1 vs us Q I1 rv q1⟩
  rw [evEs] at q
  simp only [R.bind_ok, List.append_nil] at q
  exact ⟨Z, Wr1, ρ1, σ, s1, ds, F1, r1, OkD.later x1 q⟩
end
end Dn

/-! Dn, part N: tests, and, or, chains. -/
namespace Dn
open PySem PySem.Spec PyProof.Rows L2
section
variable {X : Cx} {fa : Nat → Addr} (gl : List D) (c : Cl)
section
variable {K : PySem.W.Frag} {Z : Zn} {σ : L2.St} {Wr Wr' : Addr → Prop} {ρ ρ' : List Addr} {H H' : Hp} {s : S}
theorem OkB.later {Q : Bool → Hp → Prop} (x : Ex Wr ρ H Wr' ρ' H') {r : R Bool} (h : OkB K fa Z σ Wr ρ H Q r) : OkB K fa Z σ Wr' ρ' H' Q r := by
  cases r with
  | ok d s' => exact fun W2 ρ2 H2 x2 F => h W2 ρ2 H2 (x.trans x2) F
  | exc _ _ => exact h
  | stk => exact h
theorem OkB.bind {α : Type} {m : R Bool} {f : Bool → S → R α} {Q : Bool → Hp → Prop} {P : R α → Prop} (hs : ¬ P .stk) (hx : ∀ x s, ¬ P (.exc x s)) (h : P (m.bind f))
    (k : ∀ d s', m = .ok d s' → P (f d s') → ∀ Wr' ρ' H', Ex Wr ρ H Wr' ρ' H' → Fr K fa Z Wr' ρ' H' σ s' → Q d H') : OkB K fa Z σ Wr ρ H Q m := by
  cases m with
  | ok d s' => exact fun Wr' ρ' H' x1 F => k d s' rfl h Wr' ρ' H' x1 F
  | exc x s' => exact absurd h (hx x s')
  | stk => exact absurd h hs
end
/-! ### a if t else b -/
theorem s_ite {fr : Bool} {t a b : Expr} {x : T} {y z : E} {pos : Pos} (ht : STt X fa t (evT gl c x)) (ha : SG X fa fr a (evE gl c y)) (hb : SG X fa fr b (evE gl c z)) : SG X fa fr (.IfExp t a b pos) (evE gl c (.ite x y z)) := by
  refine PE.imp (pe_ifExp ht ha hb) ?_
  rintro σ H Q ⟨Z, Wr, ρ, s, F, h⟩
  rw [evE] at h
  refine ⟨Z, Wr, ρ, s, F, OkB.bind notG_stk notG_exc h fun k s1 _ h Wr1 ρ1 H1 x1 F1 => ?_⟩
  cases k with
  | true => exact ⟨Z, Wr1, ρ1, s1, F1, OkG.later x1 h⟩
  | false => exact ⟨Z, Wr1, ρ1, s1, F1, OkG.later x1 h⟩
/-! ### truth of a value -/
theorem truth_at {pins : List (Addr × Obj)} {s1 : Shared} {σ : L2.St} {H1 : Hp} {v : V} {u : Value} {Q : Bool → Shared → Prop} {d : D} {k : Bool} {Z : Zn} {Wr : Addr → Prop} {ρ : List Addr} {t : S} (I : Inv X pins σ H1 s1) (r : L2.RelV v u) (F : Fr X.K fa Z Wr ρ H1 σ t) (rp : Rp X.K fa Wr ρ H1 d v) (hk : tru t.sto d = some k)
    (h : ∀ s2, Inv X pins σ H1 s2 → Q k s2) : wpAny (model X.prog X.w) X.A (truthy u) Q X.xe s1 :=
  wpAny_mono (tru_D pins s1 σ H1 v u (fun b H2 => b = k ∧ H2 = H1) I r ⟨fa, Wr, ρ, t.sto, d, k, F.sto, .inl rp, hk, rfl, rfl⟩) (fun b s2 ⟨H2, I2, e1, e2⟩ => by subst e1 e2; exact h s2 I2) fun _ _ z => z
def plainT : Expr → Bool
  | .UnaryOp .Not _ _ => false
  | .BoolOp .. => false
  | .IfExp .. => false
  | .Compare .. => false
  | _ => true
theorem plainT_is {e : Expr} {env : Env} (h : plainT e = true) (whole : Sem Value) : isTrue e env whole = (do let v ← whole; standAt e.pos; holding [v] (truthy v)) := by
  cases e with
  | UnaryOp op x p => cases op <;> first | rfl | cases h
  | BoolOp _ _ _ => cases h
  | IfExp _ _ _ _ => cases h
  | Compare _ _ _ _ => cases h
  | _ => rfl
theorem t_val {e : Expr} {x : E} (h : SE X fa e (evE gl c x)) (he : plainT e = true) : STt X fa e (evT gl c (.val x)) := by
  refine ⟨fun pins s σ H Q I h0 => ?_⟩
  obtain ⟨Z, Wr, ρ, t, F, q⟩ := h0
  rw [evT] at q
  refine isTrue_plain (thn (h.run pins s σ H (fun v H1 => ∃ Wr1 ρ1 t1 d k, Fr X.K fa Z Wr1 ρ1 H1 σ t1 ∧ Rp X.K fa Wr1 ρ1 H1 d v ∧ tru t1.sto d = some k ∧ Q k H1) I ⟨Z, Wr, ρ, t, F, ?_⟩) fun u s1 ⟨v, H1, I1, r1, Wr1, ρ1, t1, d, k, F1, rp, hk, q1⟩ => ?_) (plainT_is he _)
  · refine OkD.bind (P := OkB X.K fa Z σ Wr ρ H Q) (fun z => z) (fun _ _ z => z) q fun d s1 _ q Wr1 ρ1 v H1 x1 F1 r1 => ?_
    cases e1 : tru s1.sto d with
    | none => rw [e1] at q; exact q.elim
    | some k =>
      rw [e1] at q
      exact ⟨Wr1, ρ1, s1, d, k, F1, r1, e1, q Wr1 ρ1 H1 x1 F1⟩
  · exact truth_at I1 r1 F1 rp hk fun s2 I2 => ⟨H1, I2, q1⟩
theorem t_not {e : Expr} {x : T} {pos : Pos} (h : STt X fa e (evT gl c x)) : STt X fa (.UnaryOp .Not e pos) (evT gl c (.not x)) := by
  refine PT.imp (pt_not h) ?_
  rintro σ H Q ⟨Z, Wr, ρ, s, F, h⟩
  rw [evT] at h
  exact ⟨Z, Wr, ρ, s, F, OkB.bind (P := OkB X.K fa Z σ Wr ρ H Q) (fun z => z) (fun _ _ z => z) h fun k s1 _ h Wr1 ρ1 H1 x1 F1 => h Wr1 ρ1 H1 x1 F1⟩
/-! ### and, or, as tests -/
def SW (X : Cx) (fa : Nat → Addr) (e : Expr) (ev : S → R Bool) : Prop := PW X e (rdT X.K fa ev)
theorem PW.imp {e : Expr} {t t' : TT} (h : PW X e t) (i : ∀ σ H Q, t' σ H Q → t σ H Q) : PW X e t' := ⟨fun wh pins s σ H Q I q => h.run wh pins s σ H Q I (i σ H Q q)⟩
theorem t_and1 {e : Expr} {x : T} {pos : Pos} (h : STt X fa e (evT gl c x)) : SW X fa (.BoolOp .And [e] pos) (evTs gl c (.cons x .nil)) := by
  refine PW.imp (pw_and1 h) ?_
  rintro σ H Q ⟨Z, Wr, ρ, s, F, h⟩
  rw [evTs] at h
  refine ⟨Z, Wr, ρ, s, F, OkB.bind (P := OkB X.K fa Z σ Wr ρ H Q) (fun z => z) (fun _ _ z => z) h fun k s1 _ h Wr1 ρ1 H1 x1 F1 => ?_⟩
  cases k with
  | true => rw [if_pos rfl, evTs] at h; exact h Wr1 ρ1 H1 x1 F1
  | false => exact h Wr1 ρ1 H1 x1 F1
theorem t_and {a b : Expr} {rest : List Expr} {x : T} {r : Ts} {pos : Pos} (h : STt X fa a (evT gl c x)) (h2 : SW X fa (.BoolOp .And (b :: rest) pos) (evTs gl c r)) : SW X fa (.BoolOp .And (a :: b :: rest) pos) (evTs gl c (.cons x r)) := by
  refine PW.imp (pw_and h h2) ?_
  rintro σ H Q ⟨Z, Wr, ρ, s, F, h⟩
  rw [evTs] at h
  refine ⟨Z, Wr, ρ, s, F, OkB.bind (P := OkB X.K fa Z σ Wr ρ H Q) (fun z => z) (fun _ _ z => z) h fun k s1 _ h Wr1 ρ1 H1 x1 F1 => ?_⟩
  cases k with
  | true => exact ⟨Z, Wr1, ρ1, s1, F1, OkB.later x1 h⟩
  | false => exact h Wr1 ρ1 H1 x1 F1
theorem t_or1 {e : Expr} {x : T} {pos : Pos} (h : STt X fa e (evT gl c x)) : SW X fa (.BoolOp .Or [e] pos) (evTo gl c (.cons x .nil)) := by
  refine PW.imp (pw_or1 h) ?_
  rintro σ H Q ⟨Z, Wr, ρ, s, F, h⟩
  rw [evTo] at h
  refine ⟨Z, Wr, ρ, s, F, OkB.bind (P := OkB X.K fa Z σ Wr ρ H Q) (fun z => z) (fun _ _ z => z) h fun k s1 _ h Wr1 ρ1 H1 x1 F1 => ?_⟩
  cases k with
  | false => rw [if_neg Bool.false_ne_true, evTo] at h; exact h Wr1 ρ1 H1 x1 F1
  | true => exact h Wr1 ρ1 H1 x1 F1
theorem t_or {a b : Expr} {rest : List Expr} {x : T} {r : Ts} {pos : Pos} (h : STt X fa a (evT gl c x)) (h2 : SW X fa (.BoolOp .Or (b :: rest) pos) (evTo gl c r)) : SW X fa (.BoolOp .Or (a :: b :: rest) pos) (evTo gl c (.cons x r)) := by
  refine PW.imp (pw_or h h2) ?_
  rintro σ H Q ⟨Z, Wr, ρ, s, F, h⟩
  rw [evTo] at h
  refine ⟨Z, Wr, ρ, s, F, OkB.bind (P := OkB X.K fa Z σ Wr ρ H Q) (fun z => z) (fun _ _ z => z) h fun k s1 _ h Wr1 ρ1 H1 x1 F1 => ?_⟩
  cases k with
  | false => exact ⟨Z, Wr1, ρ1, s1, F1, OkB.later x1 h⟩
  | true => exact h Wr1 ρ1 H1 x1 F1
/-! ### comparisons as tests -/
theorem t_cmp {a b : Expr} {x y : O} {o : CmpOp} {pos : Pos} (hu : X.A.units + 200 < cLine) (hm : behindInMarks o b = false) (ha : SOp X fa a (evO gl c x)) (hb : SOp X fa b (evO gl c y)) : STt X fa (.Compare a [o] [b] pos) (evT gl c (.cmp o x y)) := by
  refine PT.imp (pt_cmpR (op_cmp o hu) ha hb hm) ?_
  rintro σ H Q ⟨Z, Wr, ρ, s, F, h⟩
  rw [evT] at h
  refine ⟨Z, Wr, ρ, s, F, OkO.bind (P := OkB X.K fa Z σ Wr ρ H Q) (fun z => z) (fun _ _ z => z) h fun p1 s1 _ h Wr1 ρ1 v H1 x1 F1 r1 => ⟨Z, Wr1, ρ1, s1, F1, ?_⟩⟩
  refine OkO.bind (P := OkB X.K fa Z σ Wr ρ H Q) (fun z => z) (fun _ _ z => z) h fun p2 s2 _ h Wr2 ρ2 u H2 x2 F2 r2 => ?_
  split at h
  · rename_i dx dy e1 e2
    cases e3 : cmpD o dx dy with
    | none => rw [e3] at h; exact h.elim
    | some k =>
      rw [e3] at h
      exact ⟨fa, Wr2, ρ2, dx, dy, k, (r1.ext x2).rr F2 e1, r2.rr F2 e2, e3, k, rfl, h Wr2 ρ2 H2 (x1.trans x2) F2⟩
  · exact h.elim
end
end Dn

/-! Dn, part O: chains, and, or as values; calls of values, by keywords; what turns lists; displays that go to the store. -/
namespace Dn
open PySem PySem.Spec PyProof.Rows L2
section
variable {X : Cx} {fa : Nat → Addr} (gl : List D) (c : Cl)
/-! ### not, and, or as values -/
theorem s_not {e : Expr} {x : E} {pos : Pos} (h : SE X fa e (evE gl c x)) : SE X fa (.UnaryOp .Not e pos) (evE gl c (.notE x)) := by
  refine ⟨fun pins s σ H Q I h0 => ?_⟩
  obtain ⟨Z, Wr, ρ, t, F, q⟩ := h0
  rw [evE] at q
  refine UnaryOp_ (thn (h.run pins s σ H (fun v H1 => ∃ Wr1 ρ1 t1 d k, Fr X.K fa Z Wr1 ρ1 H1 σ t1 ∧ Rp X.K fa Wr1 ρ1 H1 d v ∧ tru t1.sto d = some k ∧ Q (.bl (!k)) H1) I ⟨Z, Wr, ρ, t, F, ?_⟩) fun u s1 ⟨v, H1, I1, r1, Wr1, ρ1, t1, d, k, F1, rp, hk, q1⟩ => ?_)
  · refine OkD.bind (P := OkD X.K fa Z σ Wr ρ H Q) (fun z => z) (fun _ _ z => z) q fun d s1 _ q Wr1 ρ1 v H1 x1 F1 r1 => ?_
    cases e1 : tru s1.sto d with
    | none => rw [e1] at q; exact q.elim
    | some k =>
      rw [e1] at q
      exact ⟨Wr1, ρ1, s1, d, k, F1, r1, e1, q Wr1 ρ1 _ H1 x1 F1 (by rw [Rp])⟩
  · exact not_of (truth_at I1 r1 F1 rp hk fun s2 I2 => ⟨.bl (!k), H1, I2, rfl, q1⟩)
/-- a first value, its truth, then one of two -/
theorem first_truth {a : Expr} {x : E} {pins : List (Addr × Obj)} {s : Shared} {σ : L2.St} {H : Hp} {Z : Zn} {Wr : Addr → Prop} {ρ : List Addr} {t : S} {m : D → Bool → S → R D} {Q : VK} {P : Value → Bool → Shared → Prop} (h : SE X fa a (evE gl c x)) (I : Inv X pins σ H s) (F : Fr X.K fa Z Wr ρ H σ t)
    (q : OkD X.K fa Z σ Wr ρ H Q ((evE gl c x t).bind fun d s => match tru s.sto d with | some k => m d k s | none => .stk))
    (hT : ∀ Wr1 ρ1 H1 t1 v u d k s2, Ex Wr ρ H Wr1 ρ1 H1 → Inv X pins σ H1 s2 → L2.RelV v u → Fr X.K fa Z Wr1 ρ1 H1 σ t1 → Rp X.K fa Wr1 ρ1 H1 d v → OkD X.K fa Z σ Wr1 ρ1 H1 Q (m d k t1) → P u k s2) :
    wpAny (model X.prog X.w) X.A (eval a X.env) (fun u s1 => wpAny (model X.prog X.w) X.A (truthy u) (fun k s2 => P u k s2) X.xe s1) X.xe s := by
  refine thn (h.run pins s σ H (fun v H1 => ∃ Wr1 ρ1 t1 d k, Ex Wr ρ H Wr1 ρ1 H1 ∧ Fr X.K fa Z Wr1 ρ1 H1 σ t1 ∧ Rp X.K fa Wr1 ρ1 H1 d v ∧ tru t1.sto d = some k ∧ OkD X.K fa Z σ Wr1 ρ1 H1 Q (m d k t1)) I ⟨Z, Wr, ρ, t, F, ?_⟩) fun u s1 ⟨v, H1, I1, r1, Wr1, ρ1, t1, d, k, x1, F1, rp, hk, q1⟩ => ?_
  · refine OkD.bind (P := OkD X.K fa Z σ Wr ρ H Q) (fun z => z) (fun _ _ z => z) q fun d s1 _ q Wr1 ρ1 v H1 x1 F1 r1 => ?_
    cases e1 : tru s1.sto d with
    | none => rw [e1] at q; exact q.elim
    | some k =>
      rw [e1] at q
      exact ⟨Wr1, ρ1, s1, d, k, x1, F1, r1, e1, OkD.later x1 q⟩
  · exact truth_at I1 r1 F1 rp hk fun s2 I2 => hT Wr1 ρ1 H1 t1 v u d k s2 x1 I2 r1 F1 rp q1
theorem s_and1 {e : Expr} {x : E} {pos : Pos} (h : SE X fa e (evE gl c x)) : SE X fa (.BoolOp .And [e] pos) (evAnd gl c (.cons x .nil)) := by
  refine PE.imp (pe_one h) ?_
  rintro σ H Q ⟨Z, Wr, ρ, s, F, h⟩
  rw [evAnd] at h
  exact ⟨Z, Wr, ρ, s, F, h⟩
theorem s_or1 {e : Expr} {x : E} {pos : Pos} (h : SE X fa e (evE gl c x)) : SE X fa (.BoolOp .Or [e] pos) (evOr gl c (.cons x .nil)) := by
  refine PE.imp (pe_one h) ?_
  rintro σ H Q ⟨Z, Wr, ρ, s, F, h⟩
  rw [evOr] at h
  exact ⟨Z, Wr, ρ, s, F, h⟩
theorem s_and {a b : Expr} {rest : List Expr} {x y : E} {r : Es} {pos : Pos} (h : SE X fa a (evE gl c x)) (h2 : SE X fa (.BoolOp .And (b :: rest) pos) (evAnd gl c (.cons y r))) : SE X fa (.BoolOp .And (a :: b :: rest) pos) (evAnd gl c (.cons x (.cons y r))) := by
  refine ⟨fun pins s σ H Q I h0 => ?_⟩
  obtain ⟨Z, Wr, ρ, t, F, q⟩ := h0
  rw [evAnd] at q
  case x_3 => exact fun z => nomatch z
  refine BoolOp_and (first_truth gl c (m := fun d k s => if k then evAnd gl c (.cons y r) s else .ok d s) (Q := Q) h I F ?_ fun Wr1 ρ1 H1 t1 v u d k s2 x1 I2 r1 F1 rp q1 => ?_)
  · have e : (fun (d : D) (s : S) => match tru s.sto d with | some true => evAnd gl c (.cons y r) s | some false => .ok d s | none => .stk) = fun (d : D) (s : S) => match tru s.sto d with | some k => (if k then evAnd gl c (.cons y r) s else .ok d s) | none => .stk := by
      funext d s
      cases tru s.sto d with
      | none => rfl
      | some k => cases k <;> rfl
    rw [← e]; exact q
  · cases k with
    | true => exact h2.run pins s2 σ H1 Q I2 ⟨Z, Wr1, ρ1, t1, F1, q1⟩
    | false => exact ⟨v, H1, I2, r1, q1 Wr1 ρ1 v H1 F1.ex F1 rp⟩
theorem s_or {a b : Expr} {rest : List Expr} {x y : E} {r : Es} {pos : Pos} (h : SE X fa a (evE gl c x)) (h2 : SE X fa (.BoolOp .Or (b :: rest) pos) (evOr gl c (.cons y r))) : SE X fa (.BoolOp .Or (a :: b :: rest) pos) (evOr gl c (.cons x (.cons y r))) := by
  refine ⟨fun pins s σ H Q I h0 => ?_⟩
  obtain ⟨Z, Wr, ρ, t, F, q⟩ := h0
  rw [evOr] at q
  case x_3 => exact fun z => nomatch z
  refine BoolOp_or (first_truth gl c (m := fun d k s => if k then .ok d s else evOr gl c (.cons y r) s) (Q := Q) h I F ?_ fun Wr1 ρ1 H1 t1 v u d k s2 x1 I2 r1 F1 rp q1 => ?_)
  · have e : (fun (d : D) (s : S) => match tru s.sto d with | some false => evOr gl c (.cons y r) s | some true => .ok d s | none => .stk) = fun (d : D) (s : S) => match tru s.sto d with | some k => (if k then .ok d s else evOr gl c (.cons y r) s) | none => .stk := by
      funext d s
      cases tru s.sto d with
      | none => rfl
      | some k => cases k <;> rfl
    rw [← e]; exact q
  · cases k with
    | false => exact h2.run pins s2 σ H1 Q I2 ⟨Z, Wr1, ρ1, t1, F1, q1⟩
    | true => exact ⟨v, H1, I2, r1, q1 Wr1 ρ1 v H1 F1.ex F1 rp⟩
/-! ### chains -/
theorem chain_ok {a b d : Expr} {o1 o2 : CmpOp} {x y z : O} {σ : L2.St} {H : Hp} {Q : VK} {Z : Zn} {Wr : Addr → Prop} {ρ : List Addr} {t : S} (F : Fr X.K fa Z Wr ρ H σ t) (q : OkD X.K fa Z σ Wr ρ H Q (evE gl c (.chain o1 o2 x y z) t)) :
    tChain (rCmp X.K o1) (rCmp X.K o2) (rdO X.K fa (evO gl c x)) (rdO X.K fa (evO gl c y)) (rdO X.K fa (evO gl c z)) σ H Q := by
  have q : OkG X.K fa false Z σ Wr ρ H Q _ := q
  rw [evE] at q
  refine ⟨Z, Wr, ρ, t, F, OkO.bind notG_stk notG_exc q fun p1 s1 _ q Wr1 ρ1 v H1 x1 F1 r1 => ⟨Z, Wr1, ρ1, s1, F1, OkO.bind notG_stk notG_exc q fun p2 s2 _ q Wr2 ρ2 u H2 x2 F2 r2 => ?_⟩⟩
  split at q
  · rename_i dx dy e1 e2
    have q1 := (r1.ext x2).rr F2 e1
    have q2 := r2.rr F2 e2
    split at q
    · rename_i e3
      refine ⟨fa, Wr2, ρ2, dx, dy, true, q1, q2, e3, true, rfl, ?_⟩
      rw [if_pos rfl]
      refine ⟨Z, Wr2, ρ2, s2, F2, OkO.bind notG_stk notG_exc q fun p3 s3 _ q Wr3 ρ3 w H3 x3 F3 r3 => ?_⟩
      split at q
      · rename_i dy' dw e4 e5
        obtain ⟨d, e6, q⟩ := okG_of q
        obtain ⟨k, e7, rfl⟩ := Option.map_eq_some_iff.mp e6
        exact ⟨fa, Wr3, ρ3, dy', dw, k, (r2.ext x3).rr F3 e4, r3.rr F3 e5, e7, (OkG.post F3 (q.later ((x1.trans x2).trans x3))).bl⟩
      · exact (notG_stk q).elim
    · rename_i e3
      refine ⟨fa, Wr2, ρ2, dx, dy, false, q1, q2, e3, false, rfl, ?_⟩
      rw [if_neg Bool.false_ne_true]
      exact (OkG.post F2 (q.later (x1.trans x2))).bl
    · exact (notG_stk q).elim
  · exact (notG_stk q).elim
theorem s_chain {a b d : Expr} {o1 o2 : CmpOp} {x y z : O} {pos : Pos} (hu : X.A.units + 200 < cLine) (hm : lastMarks [o1, o2] [b, d] = false) (ha : SOp X fa a (evO gl c x)) (hb : SOp X fa b (evO gl c y)) (hd : SOp X fa d (evO gl c z)) : SE X fa (.Compare a [o1, o2] [b, d] pos) (evE gl c (.chain o1 o2 x y z)) := by
  refine PE.imp (pe_chain (op_cmp o1 hu) (op_cmp o2 hu) ha hb hd hm) ?_
  rintro σ H Q ⟨Z, Wr, ρ, s, F, h⟩
  exact chain_ok (a := a) (b := b) (d := d) gl c F h
/-- a chain as a test is the chain's value -/
theorem chain_bool {o1 o2 : CmpOp} {x y z : O} (s : S) : evT gl c (.chain o1 o2 x y z) s = (evE gl c (.chain o1 o2 x y z) s).bind fun d s => match d with | .bl k => .ok k s | _ => .stk := by
  rw [evT, evE]
  cases evO gl c x s with
  | exc _ _ => rfl
  | stk => rfl
  | ok p1 s1 =>
    simp only [R.bind_ok]
    cases evO gl c y s1 with
    | exc _ _ => rfl
    | stk => rfl
    | ok p2 s2 =>
      simp only [R.bind_ok]
      cases p1.get s2 <;> cases p2.get s2 <;> try rfl
      rename_i dx dy
      dsimp only
      cases cmpD o1 dx dy with
      | none => rfl
      | some k =>
        cases k with
        | false => rfl
        | true =>
          dsimp only
          cases evO gl c z s2 with
          | exc _ _ => rfl
          | stk => rfl
          | ok p3 s3 =>
            simp only [R.bind_ok]
            cases p2.get s3 <;> cases p3.get s3 <;> try rfl
            rename_i dy dw
            dsimp only
            cases cmpD o2 dy dw <;> rfl
theorem t_chain {a b d : Expr} {o1 o2 : CmpOp} {x y z : O} {pos : Pos} (hu : X.A.units + 200 < cLine) (hm : lastMarks [o1, o2] [b, d] = false) (ha : SOp X fa a (evO gl c x)) (hb : SOp X fa b (evO gl c y)) (hd : SOp X fa d (evO gl c z)) : STt X fa (.Compare a [o1, o2] [b, d] pos) (evT gl c (.chain o1 o2 x y z)) := by
  refine PT.imp (pt_chain (op_cmp o1 hu) (op_cmp o2 hu) ha hb hd hm) ?_
  rintro σ H Q ⟨Z, Wr, ρ, s, F, h⟩
  rw [chain_bool] at h
  refine chain_ok (a := a) (b := b) (d := d) gl c F (OkD.bind (P := OkB X.K fa Z σ Wr ρ H Q) (fun z => z) (fun _ _ z => z) h fun d s1 _ h Wr1 ρ1 v H1 x1 F1 r1 => ?_)
  cases d with
  | bl k => rw [Rp] at r1; exact ⟨k, r1, h Wr1 ρ1 H1 x1 F1⟩
  | _ => exact h.elim
/-! ### a call of a value, a call with keywords -/
/-- what a call of a def asks and gives, wherever the def is named -/
structure FnAt (X : Cx) (fa : Nat → Addr) (c : Cl) (n : Nat) : Prop where
  call : CallR X (.ref (fa n)) (rCall X.K fa (c n))
  keep : PySem.W.keepIn X.K (.ref (fa n)) = true
theorem s_callV {i : Nat} {f : PySem.Str} {e : Expr} {es : List Expr} {r : Es} {p pos : Pos} (hf : ∀ n ds sto, c n ds sto ≠ .stk → FnAt X fa c n) (hN : X.N[i]? = some f) (hv : Vis X.env.scope f) (h : SEs X fa (e :: es) (evEs gl c r))
    (hd : (f == ("__debug__" : PySem.Str)) = false) (hcd : (f == ("__classdict__" : PySem.Str)) = false) (hs : ∀ a ∈ e :: es, unst a = true) : SE X fa (.Call (.Name f p) (e :: es) [] pos) (evE gl c (.callV i r)) := by
  refine ⟨fun pins s σ H Q I h0 => ?_⟩
  obtain ⟨Z, Wr, ρ, t, F, q⟩ := h0
  rw [evE] at q
  split at q
  case h_2 => exact q.elim
  rename_i n en
  -- the def is known: the call does not stick
  have FA : FnAt X fa c n := by
    cases e1 : evEs gl c r t with
    | stk => rw [e1] at q; exact q.elim
    | exc _ _ => rw [e1] at q; exact q.elim
    | ok ds s1 =>
      rw [e1] at q
      refine hf n ds s1.sto fun z => ?_
      simp only [R.bind_ok, z] at q
      exact q.elim
  obtain ⟨v, hs0, rv⟩ := F.sh i _ en
  rw [Rp] at rv; subst rv
  refine wpAny_Call_Name_kw (thn ((pe_var (pos := p) hN hv hd hcd).run pins s σ H (fun v H1 => v = .ref (fa n) ∧ H1 = H) I ⟨.ref (fa n), hs0, rfl, rfl⟩) fun u s1 ⟨v, H1, I1, r1, q1⟩ => ?_)
  obtain ⟨rfl, rfl⟩ := q1
  cases r1
  refine PySem.W.callWith_K (h₀ := X.base) I.ok.mod.kin FA.keep (first := []) ?_ (unst_cons (hs e List.mem_cons_self)) (bk_plain fun a ha => unst_star (hs a (List.mem_cons_of_mem _ ha))).2
  refine thn (h.run pos pins s1 σ _ _ I1 ⟨Z, Wr, ρ, t, F, OkL.bind (P := OkD X.K fa Z σ Wr ρ H1 Q) (fun z => z) (fun _ _ z => z) q fun ds s1 _ q Wr1 ρ1 v H1 x1 F1 r1 => ?_⟩) fun us s1 ⟨vs, H1, I1, rv, q1⟩ => ⟨I1.kIn, FA.call pins s1 σ H1 vs us Q I1 rv q1⟩
  exact ⟨Z, Wr1, ρ1, σ, s1, ds, F1, r1, OkD.later x1 q⟩
/-- the 0-ary call of a def -/
theorem s_call0 {n : Nat} {f : PySem.Str} {p pos : Pos} (hf : FnAt X fa c n) (hg : Gl X f) (hm : X.mg f = some (.ref (fa n)))
    (hd : (f == ("__debug__" : PySem.Str)) = false) : SE X fa (.Call (.Name f p) [] [] pos) (evE gl c (.call n none .nil .nil)) := by
  refine ⟨fun pins s σ H Q I h0 => ?_⟩
  obtain ⟨Z, Wr, ρ, t, F, q⟩ := h0
  rw [evE, evEs] at q
  simp only [R.bind_ok, List.append_nil] at q
  apply wpAny_Call_Name_kw
  apply ld_glob I hg hm _ hd
  exact PySem.W.callWith_K0 I.kIn hf.keep (hf.call pins s σ H [] [] Q I .nil ⟨Z, Wr, ρ, σ, t, [], F, .nil, q⟩)
/-- a call with keywords, defaults: the values in the order they are reckoned, fl puts them in the parameters' order -/
def rFill (K : PySem.W.Frag) (fa : Nat → Addr) (fl : List (Sum Nat D)) (f : List D → List SO → RC) : List V → Hp → VK → Prop := fun xs H Q => ∃ Z Wr ρ σ s ds ys, Fr K fa Z Wr ρ H σ s ∧ RpL K fa Wr ρ H ds xs ∧ fillD ds fl = some ys ∧ OkD K fa Z σ Wr ρ H Q ((f ys s.sto).to s)
structure KwAt (X : Cx) (fa : Nat → Addr) (c : Cl) (n m : Nat) (ks : List PySem.Str) (fl : List (Sum Nat D)) : Prop where
  call : ∀ (pins : List (Addr × Obj)) (s : Shared) (σ : L2.St) (H : Hp) (vs zs : List V) (us ws : List Value) (Q : VK), Inv X pins σ H s → Vals vs us → Vals zs ws → vs.length = m → zs.length = ks.length → rFill X.K fa fl (c n) (vs ++ zs) H Q →
    wpAny (model X.prog X.w) X.A (call (.ref (fa n)) us (ks.zip ws)) (EP X pins σ Q) X.xe s
  keep : PySem.W.keepIn X.K (.ref (fa n)) = true
/-- the keywords' values -/
def SKs (X : Cx) (fa : Nat → Addr) (kws : List Keyword) (ev : S → R (List D)) : Prop := PK X kws (rdEs X.K fa ev)
theorem s_knil : SKs X fa [] (evEs gl c .nil) := by
  refine ⟨fun pos pins s σ H Q I h => pk_nil.run pos pins s σ H Q I ?_⟩
  obtain ⟨Z, Wr, ρ, t, F, h⟩ := h
  rw [evEs] at h
  exact h Wr ρ [] H (Ex.refl F.mu) F .nil
theorem s_kcons {e : Expr} {kws : List Keyword} {x : E} {r : Es} {nm : Option PySem.Str} {kp : Pos} (h1 : SE X fa e (evE gl c x)) (h2 : SKs X fa kws (evEs gl c r)) : SKs X fa (⟨nm, e, kp⟩ :: kws) (evEs gl c (.cons x r)) := by
  refine ⟨fun pos pins s σ H Q I h => (pk_cons h1 h2).run pos pins s σ H Q I ?_⟩
  obtain ⟨Z, Wr, ρ, s, F, h⟩ := h
  rw [evEs] at h
  refine ⟨Z, Wr, ρ, s, F, OkD.bind (P := OkL X.K fa Z σ Wr ρ H Q) (fun z => z) (fun _ _ z => z) h fun d s1 _ h Wr1 ρ1 v H1 x1 F1 r1 => ⟨Z, Wr1, ρ1, s1, F1, ?_⟩⟩
  revert h
  cases evEs gl c r s1 with
  | ok ds s2 => exact fun h Wr2 ρ2 vs H2 x2 F2 r2 => h Wr2 ρ2 (v :: vs) H2 (x1.trans x2) F2 (.cons (r1.ext x2) r2)
  | exc x s2 => exact fun h => h
  | stk => exact fun h => h
theorem kw_ok {env : Env} {pos : Pos} : ∀ {kws : List Keyword} {ks : List PySem.Str}, kws.map (·.arg) = ks.map some → (backToKw pos (keywordEach kws env)).all (·.1.isSome) = true ∧ (backToKw pos (keywordEach kws env)).filterMap (·.1) = ks ∧ (backToKw pos (keywordEach kws env)).any (·.1.isNone) = false
  | [], [], _ => ⟨rfl, rfl, rfl⟩
  | [], _ :: _, e => by cases e
  | _ :: _, [], e => by cases e
  | ⟨nm, e, kp⟩ :: kws, k :: ks, h => by
    have h0 : nm = some k := by injection h
    subst h0
    have h1 : kws.map (·.arg) = ks.map some := by injection h
    obtain ⟨a, b, d⟩ := kw_ok (env := env) (pos := pos) h1
    refine ⟨?_, ?_, ?_⟩
    · show (true && _) = true
      exact a
    · show k :: _ = _
      exact congrArg (k :: ·) b
    · show (false || _) = false
      exact d
/-- f(e, .., k = v, ..) -/
theorem s_callK {n : Nat} {f : PySem.Str} {e : Expr} {es : List Expr} {kws : List Keyword} {r k : Es} {ks : List PySem.Str} {fl : List (Sum Nat D)} {p pos : Pos} (hf : KwAt X fa c n (es.length + 1) ks fl) (hg : Gl X f) (hm : X.mg f = some (.ref (fa n))) (h : SEs X fa (e :: es) (evEs gl c r)) (hk : SKs X fa kws (evEs gl c k))
    (hlen : ∀ s ds s1, evEs gl c r s = .ok ds s1 → ds.length = es.length + 1) (hlen2 : ∀ s ds s1, evEs gl c k s = .ok ds s1 → ds.length = ks.length) (hks : kws.map (·.arg) = ks.map some)
    (hd : (f == ("__debug__" : PySem.Str)) = false) (hs : ∀ a ∈ e :: es, unst a = true) : SE X fa (.Call (.Name f p) (e :: es) kws pos) (evE gl c (.call n (some fl) r k)) := by
  refine ⟨fun pins s σ H Q I h0 => ?_⟩
  obtain ⟨Z, Wr, ρ, t, F, q⟩ := h0
  rw [evE] at q
  obtain ⟨k1, k2, k3⟩ := kw_ok (env := X.env) (pos := pos) hks
  have hst := (bk_plain (env := X.env) (pos := pos) fun a ha => unst_star (hs a ha)).2
  apply wpAny_Call_Name_kw
  apply ld_glob I hg hm _ hd
  refine PySem.W.callWith_KW (h₀ := X.base) I.ok.mod.kin hf.keep (first := []) k1 ?_ (by rw [hst, k3]; rfl) (unst_cons (hs e List.mem_cons_self))
  refine thn (h.run pos pins s σ H (fun vs H1 => rdEs X.K fa (evEs gl c k) σ H1 fun zs H2 => vs.length = es.length + 1 ∧ zs.length = ks.length ∧ rFill X.K fa fl (c n) (vs ++ zs) H2 Q) I ⟨Z, Wr, ρ, t, F, OkL.bind (P := OkD X.K fa Z σ Wr ρ H Q) (fun z => z) (fun _ _ z => z) q fun ds s1 e1 q Wr1 ρ1 v H1 x1 F1 r1 => ?_⟩) fun us s1 ⟨vs, H1, I1, rv, q1⟩ => ?_
  · refine ⟨Z, Wr1, ρ1, s1, F1, OkL.bind (P := OkD X.K fa Z σ Wr ρ H Q) (fun z => z) (fun _ _ z => z) q fun ds2 s2 e2 q Wr2 ρ2 v2 H2 x2 F2 r2 => ⟨?_, ?_, ?_⟩⟩
    · rw [r1.len]; exact hlen _ _ _ e1
    · rw [r2.len]; exact hlen2 _ _ _ e2
    · dsimp only at q
      split at q
      · rename_i xs e3
        exact ⟨Z, Wr2, ρ2, σ, s2, _, xs, F2, (r1.ext x2).append r2, e3, OkD.later (x1.trans x2) q⟩
      · exact q.elim
  · refine thn (hk.run pos pins s1 σ H1 _ I1 q1) fun ws s2 ⟨zs, H2, I2, rz, l1, l2, q2⟩ => ⟨I2.kIn, ?_⟩
    rw [k2]
    exact hf.call pins s2 σ H2 vs zs us ws Q I2 rv rz l1 l2 q2
/-! ### what turns an own list -/
section
variable {K : PySem.W.Frag} {Z : Zn} {σ : L2.St} {Wr : Addr → Prop} {ρ : List Addr} {H : Hp} {s : S}
theorem Fr.ownSet {i : Nat} {l l' : List D} {a : Addr} {xs xs' : List V} (F : Fr K fa Z Wr ρ H σ s) (h : s.env[i]? = some (.ow l)) (ha : σ[i]? = some (some (.ref a))) (h2 : H a = some (.lst xs)) (r : RpL K fa Wr ρ H l' xs') :
    Fr K fa Z Wr ρ (upd H a (.lst xs')) σ (s.setSl i (.ow l')) ∧ Ex Wr ρ H Wr ρ (upd H a (.lst xs')) := by
  obtain ⟨b, ys, e1, e2, e3, w, e5, e6⟩ := F.ow i l h
  rw [ha] at e1; cases e1
  have hi : i < s.env.length := (List.getElem?_eq_some_iff.mp h).1
  have x : Ex Wr ρ H Wr ρ (upd H a (.lst xs')) := ⟨F.mu, fun _ _ z => z, fun b z => .inl z, fun b o e n => by rw [upd_ne (fun z => n (by rw [z]; exact w))]; exact e⟩
  refine ⟨⟨fun b z => ?_, F.rw, F.nd, F.len, fun n o b e1 e2 => ?_, ?_, fun j d e => ?_, fun j m e => ?_, fun j k m n b e1 e2 e3 e4 => ?_, F.z1, F.z2, fun b o z => ?_, F.z4, F.z5, fun b ys z => ?_⟩, x⟩
  · by_cases eb : b = a
    · subst eb; rw [upd_same]; trivial
    · rw [upd_ne eb]; exact F.mu b z
  · have nb : b ≠ a := fun z => e5 (z ▸ List.mem_of_getElem? e2)
    rw [upd_ne nb]
    exact (F.so n o b e1 e2).ext x
  · unfold S.setSl; simp only [List.length_set]; exact F.sl
  · rw [setSl_get hi] at e
    split at e
    · cases e
    · obtain ⟨v, e1, e2⟩ := F.sh j d e
      exact ⟨v, e1, e2.ext x⟩
  · rw [setSl_get hi] at e
    split at e
    · rename_i ej
      cases e; subst ej
      exact ⟨a, xs', ha, upd_same, r.ext x, w, e5, e6⟩
    · rename_i ej
      obtain ⟨b, zs, g1, g2, g3, g4, g5, g6⟩ := F.ow j m e
      have nb : b ≠ a := fun z => ej (F.od j i m l a e h (z ▸ g1) ha)
      exact ⟨b, zs, g1, by rw [upd_ne nb]; exact g2, g3.ext x, g4, g5, g6⟩
  · have z : ∀ {j : Nat} {m : List D}, (s.setSl i (.ow l')).env[j]? = some (.ow m) → ∃ m', s.env[j]? = some (.ow m') := fun {j m} e => by
      rw [setSl_get hi] at e
      split at e
      · rename_i ej; subst ej; exact ⟨l, h⟩
      · exact ⟨m, e⟩
    obtain ⟨m', z1⟩ := z e1
    obtain ⟨n', z2⟩ := z e2
    exact F.od j k m' n' b z1 z2 e3 e4
  · rcases F.z3 b o z with z1 | z1
    · exact .inl z1
    · refine .inr ?_
      have nb : b ≠ a := fun e => by
        subst e
        rcases F.z5 b w with q | q
        · exact e6 q
        · rw [z] at q; cases q
      rw [upd_ne nb]; exact z1
  · obtain ⟨g1, g2, g3, g4, g5⟩ := F.ac b ys z
    have nb : b ≠ a := fun e => g5 i l h (e ▸ ha)
    refine ⟨by rw [upd_ne nb]; exact g1, g2, g3, g4, fun j m e => ?_⟩
    rw [setSl_get hi] at e
    split at e
    · rename_i ej
      subst ej; exact g5 _ l h
    · exact g5 j m e
end
theorem mt_extR : MtM X "list.extend" (fun x vs H Q => ∃ l b xs zs, x = .ref l ∧ vs = [.ref b] ∧ H l = some (.lst xs) ∧ Rd H b (.lst zs) ∧ xs.length + zs.length ≤ sizeLine ∧ Q .non (upd H l (.lst (xs ++ zs)))) := by
  intro pins s σ H x vs v us Q I rx rv ⟨l, b, xs, zs, e1, e2, g1, g2, hz, q⟩
  subst e1 e2
  obtain rfl : v = Value.ref l := rx
  obtain ⟨u, rfl, ru⟩ := vals1 rv
  obtain rfl : u = Value.ref b := ru
  obtain ⟨_, i1, n1, r1, k1, h1⟩ := Dn.Inv.lstR I (.inl g1)
  obtain ⟨_, i2, n2, r2, k2, h2⟩ := Dn.Inv.lstR I g2
  have z0 : i1.toArray.size + i2.toArray.size ≤ sizeLine := by simp only [List.size_toArray]; omega
  have z1 : (!i1.toArray.isEmpty && Builtin.List.listTooLong (i1.toArray.size + i2.toArray.size)) = false := by rw [notLongL z0, Bool.and_false]
  have m := AutoSeq1.list_extend_list_list_0 l i1.toArray n1 b i2.toArray n2 (by rw [z1]; exact Bool.false_ne_true) (by rw [List.size_toArray]; omega) (by omega)
  refine call_meets F.slot_list_extend ⟨_, h1, rfl⟩ F.entry_list_extend (F.args_list_extend_2 _ _) m ⟨h1, h2, .non, _, I.lset (its' := i1 ++ i2) g1 h1 (by simp) (r1.append r2) ?_, rfl, q⟩
  rw [List.length_append]; exact hz

/-! ### what is done to an own list -/
theorem mut_ok {K : PySem.W.Frag} {m : Mu} {i : Nat} {r : Es} {Z : Zn} {Wr : Addr → Prop} {ρ : List Addr} {H : Hp} {σ : L2.St} {t : S} {Q : VK} {R : V → List V → Hp → VK → Prop} (F : Fr K fa Z Wr ρ H σ t) (q : OkD K fa Z σ Wr ρ H Q (evE gl c (.mut m i r) t))
    (hR : ∀ Wr ρ H t' l l' d a xs ds vs, Fr K fa Z Wr ρ H σ t' → t'.env[i]? = some (.ow l) → σ[i]? = some (some (.ref a)) → H a = some (.lst xs) → RpL K fa Wr ρ H l xs → RpL K fa Wr ρ H ds vs → muD m l ds = some (l', d) → OkD K fa Z σ Wr ρ H Q (.ok d (t'.setSl i (.ow l'))) → R (.ref a) vs H Q) :
    tVar i σ H fun x H1 => tyV K "list" x H1 ∧ rdEs K fa (evEs gl c r) σ H1 fun xs H2 => R x xs H2 Q := by
  rw [evE] at q
  split at q
  case h_2 => exact q.elim
  rename_i l0 e0
  obtain ⟨a, ys, g1, g2, g3, _⟩ := F.ow i l0 e0
  refine ⟨.ref a, g1, .inl ⟨rfl, ys, .inl (.inl g2)⟩, Z, Wr, ρ, t, F, OkL.bind (P := OkD K fa Z σ Wr ρ H Q) (fun z => z) (fun _ _ z => z) q fun ds s1 e1 q Wr1 ρ1 v H1 x1 F1 r1 => ?_⟩
  split at q
  case h_2 => exact q.elim
  rename_i l el
  split at q
  case h_2 => exact q.elim
  rename_i l' d em
  obtain ⟨b, xs, h1, h2, h3, _⟩ := F1.ow i l el
  rw [g1] at h1; cases h1
  exact hR Wr1 ρ1 H1 s1 l l' d a xs ds v F1 el g1 h2 h3 r1 em (OkD.later x1 q)
theorem mutL_ok {K : PySem.W.Frag} {Z : Zn} {Wr : Addr → Prop} {ρ : List Addr} {H : Hp} {σ : L2.St} {t : S} {Q : VK} {i : Nat} {l l' : List D} {d : D} {a : Addr} {xs xs' : List V} {v : V} (F : Fr K fa Z Wr ρ H σ t) (h : t.env[i]? = some (.ow l)) (ha : σ[i]? = some (some (.ref a))) (h2 : H a = some (.lst xs)) (r : RpL K fa Wr ρ H l' xs') (rv : Rp K fa Wr ρ H d v)
    (q : OkD K fa Z σ Wr ρ H Q (.ok d (t.setSl i (.ow l')))) : Q v (upd H a (.lst xs')) := by
  obtain ⟨F1, x1⟩ := F.ownSet h ha h2 r
  exact q Wr ρ v _ x1 F1 (rv.ext x1)
theorem muD_append {l ds l' : List D} {d : D} (h : muD .append l ds = some (l', d)) : ∃ x, ds = [x] ∧ l.length < sizeLine ∧ l' = l ++ [x] ∧ d = .non := by
  match ds, h with
  | [], h => cases h
  | [x], h =>
    simp only [muD] at h
    split at h
    · cases h; exact ⟨x, rfl, by assumption, rfl, rfl⟩
    · cases h
  | _ :: _ :: _, h => cases h
theorem muD_extend {l ds l' : List D} {d : D} (h : muD .extend l ds = some (l', d)) : ∃ m, ds = [.lst m] ∧ l.length + m.length ≤ sizeLine ∧ l' = l ++ m ∧ d = .non := by
  match ds, h with
  | [], h => cases h
  | [x], h =>
    cases x with
    | lst m =>
      simp only [muD] at h
      split at h
      · cases h; exact ⟨m, rfl, by assumption, rfl, rfl⟩
      · cases h
    | _ => cases h
  | x :: _ :: _, h => cases x <;> cases h
theorem muD_popAt {l ds l' : List D} {d : D} (h : muD .popAt l ds = some (l', d)) : ∃ i j, ds = [.int i] ∧ ixN l.length i = some j ∧ l[j]? = some d ∧ l' = l.eraseIdx j := by
  match ds, h with
  | [], h => cases h
  | [x], h =>
    cases x with
    | int i =>
      simp only [muD] at h
      split at h
      · rename_i j hj
        split at h
        · rename_i d1 hd1
          cases h; exact ⟨i, j, rfl, hj, hd1, rfl⟩
        · cases h
      · cases h
    | _ => cases h
  | x :: _ :: _, h => cases x <;> cases h
theorem muD_pop {l ds l' : List D} {d : D} (h : muD .pop l ds = some (l', d)) : ds = [] ∧ l[l.length - 1]? = some d ∧ l' = l.take (l.length - 1) := by
  match ds, h with
  | [], h =>
    simp only [muD] at h
    split at h
    · rename_i d1 hd1
      cases h
      rw [List.getLast?_eq_getElem?] at hd1
      exact ⟨rfl, hd1, List.dropLast_eq_take⟩
    · cases h
  | _ :: _, h => cases h
theorem mt_popAtL : MtM X "list.pop" (fun x vs H Q => ∃ l xs i j y, x = .ref l ∧ vs = [.int i] ∧ H l = some (.lst xs) ∧ ixN xs.length i = some j ∧ xs[j]? = some y ∧ Q y (upd H l (.lst (xs.eraseIdx j)))) := by
  intro pins s σ H x vs v us Q I rx rv ⟨l, xs, i, j, y, e1, e2, hH, hj, hy, q⟩
  obtain ⟨h1, h2, h3, h4⟩ := ixN_seq hj
  have hz := (I.lstM hH).1
  have := line63
  exact mt_popAt pins s σ H x vs v us Q I rx rv ⟨l, xs, i, j, y, e1, e2, hH, by omega, by omega, h1, hy, q⟩
theorem few1 {e : Expr} {env : Env} {cpos : Pos} (hs : unst e = true) : ((backTo cpos (starEach [e] env)).all (fun x => !x.1) && (backToKw cpos (keywordEach [] env)).all (fun x => x.1.isSome)
      && decide (([e] : List Expr).length + ([] : List Keyword).length + (if ([] : List Keyword).isEmpty then 0 else 1) < 30)) = true := by
  rw [unst_star hs]; rfl
section
variable {i : Nat} {f : PySem.Str} {p apos cpos : Pos} (hN : X.N[i]? = some f) (hv : Vis X.env.scope f) (hd : (f == ("__debug__" : PySem.Str)) = false) (hcd : (f == ("__classdict__" : PySem.Str)) = false) (hline : (apos.endLine == cpos.line) = true)
include hN hv hd hcd hline
theorem s_append {e : Expr} {r : Es} (h : SEs X fa [e] (evEs gl c r)) (hs : unst e = true) : SE X fa (.Call (.Attribute (.Name f p) "append" apos) [e] [] cpos) (evE gl c (.mut .append i r)) := by
  refine PE.imp (pe_bm F.plainAttrs_list F.slot_list_append F.type_list_append mt_append (pe_var (pos := p) hN hv hd hcd) h rfl (few1 hs) hline (unst_cons hs) rfl) ?_
  rintro σ H Q ⟨Z, Wr, ρ, t, F, q⟩
  refine mut_ok gl c F q fun Wr ρ H t' l l' d a xs ds vs F e1 e2 e3 rl rd em q => ?_
  obtain ⟨d0, rfl, hz, rfl, rfl⟩ := muD_append em
  obtain ⟨v, r0, rfl, rv, rn⟩ := rd.inv
  rw [RpL] at rn; subst rn
  exact ⟨a, xs, v, rfl, rfl, e3, by rw [rl.len]; exact hz, mutL_ok F e1 e2 e3 (rl.append (.cons rv .nil)) (by rw [Rp]) q⟩
theorem s_extend {e : Expr} {r : Es} (h : SEs X fa [e] (evEs gl c r)) (hs : unst e = true) : SE X fa (.Call (.Attribute (.Name f p) "extend" apos) [e] [] cpos) (evE gl c (.mut .extend i r)) := by
  refine PE.imp (pe_bm F.plainAttrs_list F.slot_list_extend F.type_list_extend mt_extR (pe_var (pos := p) hN hv hd hcd) h rfl (few1 hs) hline (unst_cons hs) rfl) ?_
  rintro σ H Q ⟨Z, Wr, ρ, t, F, q⟩
  refine mut_ok (R := fun x vs H Q => ∃ l b xs zs, x = .ref l ∧ vs = [.ref b] ∧ H l = some (.lst xs) ∧ Rd H b (.lst zs) ∧ xs.length + zs.length ≤ sizeLine ∧ Q .non (upd H l (.lst (xs ++ zs)))) gl c F q fun Wr ρ H t' l l' d a xs ds vs F e1 e2 e3 rl rd em q => ?_
  obtain ⟨m, rfl, hz, rfl, rfl⟩ := muD_extend em
  obtain ⟨v, r0, rfl, rv, rn⟩ := rd.inv
  rw [RpL] at rn; subst rn
  rw [Rp] at rv
  obtain ⟨b, zs, rfl, g1, g2⟩ := rv
  exact ⟨a, b, xs, zs, rfl, rfl, e3, g1.2, by rw [rl.len, g2.len]; exact hz, mutL_ok F e1 e2 e3 (rl.append g2) (by rw [Rp]) q⟩
theorem s_popAt {e : Expr} {r : Es} (h : SEs X fa [e] (evEs gl c r)) (hs : unst e = true) : SE X fa (.Call (.Attribute (.Name f p) "pop" apos) [e] [] cpos) (evE gl c (.mut .popAt i r)) := by
  refine PE.imp (pe_bm F.plainAttrs_list F.slot_list_pop F.type_list_pop mt_popAtL (pe_var (pos := p) hN hv hd hcd) h rfl (few1 hs) hline (unst_cons hs) rfl) ?_
  rintro σ H Q ⟨Z, Wr, ρ, t, F, q⟩
  refine mut_ok (R := fun x vs H Q => ∃ l xs i j y, x = .ref l ∧ vs = [.int i] ∧ H l = some (.lst xs) ∧ ixN xs.length i = some j ∧ xs[j]? = some y ∧ Q y (upd H l (.lst (xs.eraseIdx j)))) gl c F q fun Wr ρ H t' l l' d a xs ds vs F e1 e2 e3 rl rd em q => ?_
  obtain ⟨k, j, rfl, hj, hd1, rfl⟩ := muD_popAt em
  obtain ⟨v, r0, rfl, rv, rn⟩ := rd.inv
  rw [RpL] at rn; subst rn
  rw [Rp] at rv; subst rv
  obtain ⟨y, hy, ry⟩ := rl.get hd1
  exact ⟨a, xs, k, j, y, rfl, rfl, e3, by rw [rl.len]; exact hj, hy, mutL_ok F e1 e2 e3 (rl.erase j) ry q⟩
theorem s_pop : SE X fa (.Call (.Attribute (.Name f p) "pop" apos) [] [] cpos) (evE gl c (.mut .pop i .nil)) := by
  refine PE.imp (pe_bm0 F.plainAttrs_list F.slot_list_pop F.type_list_pop mt_pop (pe_var (pos := p) hN hv hd hcd) rfl hline) ?_
  rintro σ H Q ⟨Z, Wr, ρ, t, F, q⟩
  obtain ⟨v, g1, g2, g3⟩ := mut_ok (R := fun x vs H Q => vs = [] → rPop x [] H Q) gl c F q fun Wr ρ H t' l l' d a xs ds vs F e1 e2 e3 rl rd em q e0 => by
    subst e0
    obtain ⟨rfl, hd1, rfl⟩ := muD_pop em
    obtain ⟨y, hy, ry⟩ := rl.get hd1
    refine ⟨a, xs, y, rfl, rfl, e3, by rw [rl.len]; exact hy, mutL_ok F e1 e2 e3 ?_ ry q⟩
    rw [List.dropLast_eq_take, rl.len]
    exact rl.take _
  refine ⟨v, g1, g2, ?_⟩
  obtain ⟨Z, Wr, ρ, t, F, q⟩ := g3
  rw [evEs] at q
  exact q Wr ρ [] H F.ex F .nil rfl
end

/-! ### displays that go to the store -/
section
variable {K : PySem.W.Frag} {Z : Zn} {σ : L2.St} {Wr : Addr → Prop} {ρ : List Addr} {H : Hp} {s : S}
theorem Fr.newSto {p : Addr} {o : SO} {ho : HO} (F : Fr K fa Z Wr ρ H σ s) (np : ¬ Wr p) (nr : ∀ xs, ¬ Rd H p (.tup xs)) (nl : ∀ xs, ¬ Rd H p (.lst xs)) (zp : Z.H p = none) (m : Mut (some ho)) (r : RSO K fa Wr ρ H o (some ho)) :
    Exw Wr ρ H (fun a => Wr a ∨ a = p) (ρ ++ [p]) (upd H p ho) ∧ Fr K fa Z (fun a => Wr a ∨ a = p) (ρ ++ [p]) (upd H p ho) σ { s with sto := s.sto ++ [o] } := by
  have pr : p ∉ ρ := fun z => np (F.rw p z)
  have rh : ∀ (n : Nat) a, ρ[n]? = some a → (ρ ++ [p])[n]? = some a := fun n a h => by
    have hn := (List.getElem?_eq_some_iff.mp h).1
    rw [List.getElem?_append_left hn]; exact h
  have rd : ∀ {a : Addr} {u : HO}, a ≠ p → Rd H a u → Rd (upd H p ho) a u := fun {a u} n h => by
    rcases h with h | ⟨o, h⟩
    · exact .inl (by rw [upd_ne n]; exact h)
    · exact .inr ⟨o, by rw [upd_ne n]; exact h⟩
  have x : Exw Wr ρ H (fun a => Wr a ∨ a = p) (ρ ++ [p]) (upd H p ho) :=
    ⟨rh, fun a xs h => rd (fun e => nr xs (e ▸ h)) h, fun a xs w h => by
      have n : a ≠ p := fun e => nl xs (e ▸ h)
      exact ⟨fun z => z.elim w n, rd n h⟩⟩
  refine ⟨x, ⟨fun a w => ?_, fun a z => ?_, ?_, ?_, fun n o' a h1 h2 => ?_, F.sl, fun i d e => ?_, fun i l e => ?_, F.od, fun n a e => rh n a (F.z1 n a e), fun a w => .inl (F.z2 a w), fun a o' e => ?_, fun a z => ?_, fun a w => ?_, fun a ys e => ?_⟩⟩
  · by_cases ea : a = p
    · subst ea; rw [upd_same]; exact m
    · rw [upd_ne ea]; exact F.mu a (w.resolve_right ea)
  · rcases List.mem_append.mp z with z | z
    · exact .inl (F.rw a z)
    · exact .inr (List.mem_singleton.mp z)
  · exact List.nodup_append.mpr ⟨F.nd, (List.nodup_cons.mpr ⟨fun z => (nomatch z), List.nodup_nil⟩ : [p].Nodup), fun a ha b hb => fun e => pr (by rw [← List.mem_singleton.mp hb, ← e]; exact ha)⟩
  · simp only [List.length_append, List.length_singleton, F.len]
  · by_cases hn : n < s.sto.length
    · rw [List.getElem?_append_left hn] at h1
      rw [List.getElem?_append_left (by rw [← F.len]; exact hn)] at h2
      have na : a ≠ p := fun e => pr (e ▸ List.mem_of_getElem? h2)
      rw [upd_ne na]
      exact (F.so n o' a h1 h2).extw x
    · have hn' : n = s.sto.length := by
        have := (List.getElem?_eq_some_iff.mp h1).1
        simp only [List.length_append, List.length_singleton] at this
        omega
      subst hn'
      rw [List.getElem?_append_right (Nat.le_refl _), Nat.sub_self] at h1
      cases h1
      rw [F.len, List.getElem?_append_right (Nat.le_refl _), Nat.sub_self] at h2
      cases h2
      rw [upd_same]
      exact r.extw x
  · obtain ⟨v, e1, e2⟩ := F.sh i d e
    exact ⟨v, e1, e2.extw x⟩
  · obtain ⟨a, xs, h1, h2, h3, h4, h5, h6⟩ := F.ow i l e
    have na : a ≠ p := fun e => np (e ▸ h4)
    refine ⟨a, xs, h1, by rw [upd_ne na]; exact h2, h3.extw x, .inl h4, fun z => ?_, h6⟩
    rcases List.mem_append.mp z with z | z
    · exact h5 z
    · exact na (List.mem_singleton.mp z)
  · have na : a ≠ p := fun e' => by rw [e', zp] at e; cases e
    rcases F.z3 a o' e with z | z
    · exact .inl z
    · exact .inr (by rw [upd_ne na]; exact z)
  · rcases List.mem_append.mp z with z | z
    · exact F.z4 a z
    · rw [List.mem_singleton.mp z]; exact .inr zp
  · rcases w with w | rfl
    · exact F.z5 a w
    · exact .inr zp
  · obtain ⟨g1, g2, g3, g4⟩ := F.ac a ys e
    have na : a ≠ p := fun e => np (e ▸ g2)
    refine ⟨by rw [upd_ne na]; exact g1, .inl g2, fun z => ?_, g4⟩
    rcases List.mem_append.mp z with z | z
    · exact g3 z
    · exact na (List.mem_singleton.mp z)
/-- what is fresh was not at the entry -/
theorem Fr.zfresh {p : Addr} (F : Fr K fa Z Wr ρ H σ s) (h : H p = none) : Z.H p = none := by
  cases e : Z.H p with
  | none => rfl
  | some o =>
    rcases F.z3 p o e with z | z
    · obtain ⟨n, hn⟩ := List.getElem?_of_mem z
      have m := F.mu p (F.rw p (List.mem_of_getElem? (F.z1 n p hn)))
      rw [h] at m; exact m.elim
    · rw [h] at z; cases z
theorem Fr.wfresh {p : Addr} (F : Fr K fa Z Wr ρ H σ s) (h : H p = none) : ¬ Wr p := fun w => by
  have m := F.mu p w
  rw [h] at m; exact m
end
theorem s_lstR {es : List Expr} {r : Es} {pos : Pos} (h : SEs X fa es (evEs gl c r)) : SE X fa (.List es pos) (evE gl c (.lstR r)) := by
  refine PE.imp (pe_lst h) ?_
  rintro σ H Q ⟨Z, Wr, ρ, s, F, h⟩
  rw [evE] at h
  refine ⟨Z, Wr, ρ, s, F, OkL.bind (P := OkD X.K fa Z σ Wr ρ H Q) (fun z => z) (fun _ _ z => z) h fun ds s1 _ h Wr1 ρ1 v H1 x1 F1 r1 => ?_⟩
  split at h
  · refine ⟨by rw [r1.len]; assumption, fun p hp => ?_⟩
    obtain ⟨x2, F2⟩ := F1.newSto (o := .lst ds) (ho := .lst v) (F1.wfresh hp) (fun xs z => by rcases z with z | ⟨o, z⟩ <;> (rw [hp] at z; cases z)) (fun xs z => by rcases z with z | ⟨o, z⟩ <;> (rw [hp] at z; cases z)) (F1.zfresh hp) trivial ⟨v, rfl, r1⟩
    refine h _ _ _ _ (x1.trans ⟨F1.mu, x2.rho, fun a z => z.elim .inl fun e => .inr (e ▸ hp), fun a o e _ => by rw [upd_ne (ne_of_none e hp)]; exact e⟩) F2 ?_
    rw [Rp]
    exact ⟨p, rfl, by rw [F1.len, List.getElem?_append_right (Nat.le_refl _), Nat.sub_self]; rfl⟩
  · exact h.elim
/-! a dict display -/
def SPs (X : Cx) (fa : Nat → Addr) (pos : Pos) (keys : List (Option Expr)) (values : List Expr) (ks : List Key) (ev : S → R (List D)) : Prop := ∃ trs, PPs X pos keys values trs ∧ ∀ σ H Q, rdEs X.K fa ev σ H (fun vs H1 => Q (List.zipWith (fun k v => (kV k, v)) ks vs) H1) → tPairs trs σ H Q
theorem s_pnil {pos : Pos} : SPs X fa pos [] [] [] (evEs gl c .nil) := by
  refine ⟨[], pps_nil, ?_⟩
  rintro σ H Q ⟨Z, Wr, ρ, s, F, h⟩
  rw [evEs] at h
  exact h Wr ρ [] H F.ex F .nil
def keyC : Key → Const
  | .inl i => .int i
  | .inr x => .str x
theorem s_pcons {pos kp : Pos} {n : Nat} {k : Key} {v : Expr} {keys : List (Option Expr)} {values : List Expr} {ks : List Key} {x : E} {r : Es} (h1 : SE X fa v (evE gl c x)) (h2 : SPs X fa pos keys values ks (evEs gl c r)) : SPs X fa pos (some (.Constant (keyC k) n kp) :: keys) (v :: values) (k :: ks) (evEs gl c (.cons x r)) := by
  obtain ⟨trs, g1, g2⟩ := h2
  have hk : PE X (.Constant (keyC k) n kp) (tC (kV k)) := by
    cases k with
    | inl i => exact pe_int
    | inr x => exact pe_str
  refine ⟨_, pps_cons hk h1 g1, ?_⟩
  rintro σ H Q ⟨Z, Wr, ρ, s, F, h⟩
  rw [evEs] at h
  refine ⟨Z, Wr, ρ, s, F, OkD.bind (P := OkL X.K fa Z σ Wr ρ H _) (fun z => z) (fun _ _ z => z) h fun d s1 _ h Wr1 ρ1 u H1 x1 F1 r1 => g2 _ _ _ ⟨Z, Wr1, ρ1, s1, F1, ?_⟩⟩
  revert h
  cases evEs gl c r s1 with
  | ok ds s2 => exact fun h Wr2 ρ2 vs H2 x2 F2 r2 => h Wr2 ρ2 (u :: vs) H2 (x1.trans x2) F2 (.cons (r1.ext x2) r2)
  | exc x s2 => exact fun h => h
  | stk => exact fun h => h
theorem mergeK_nodup : ∀ (kvs acc : List (Key × V)), ((acc ++ kvs).map (·.1)).Nodup → mergeK acc kvs = acc ++ kvs
  | [], acc, _ => (List.append_nil acc).symm
  | p :: r, acc, h => by
    have e : putK acc p.1 p.2 = acc ++ [p] := by
      unfold putK
      rw [if_neg]
      intro z
      obtain ⟨q, hq, e⟩ := List.any_eq_true.mp z
      have e := of_decide_eq_true e
      rw [List.map_append, List.nodup_append] at h
      exact h.2.2 q.1 (List.mem_map.mpr ⟨q, hq, rfl⟩) p.1 (by rw [List.map_cons]; exact List.mem_cons_self) e
    show mergeK (putK acc p.1 p.2) r = _
    rw [e, mergeK_nodup r (acc ++ [p]) (by rw [List.append_assoc]; exact h), List.append_assoc]
    rfl
theorem zipW_map : ∀ (ks : List Key) (vs : List V), List.zipWith (fun k v => (kV k, v)) ks vs = (ks.zip vs).map fun kv => (kV kv.1, kv.2)
  | [], _ => rfl
  | _ :: _, [] => rfl
  | k :: ks, v :: vs => by
    rw [List.zipWith_cons_cons, List.zip_cons_cons, List.map_cons, zipW_map ks vs]
theorem zip_fst {α β : Type} : ∀ (ks : List α) (vs : List β), ks.length = vs.length → (ks.zip vs).map (·.1) = ks ∧ (ks.zip vs).map (·.2) = vs
  | [], [], _ => ⟨rfl, rfl⟩
  | [], _ :: _, h => by cases h
  | _ :: _, [], h => by cases h
  | k :: ks, v :: vs, h => by
    obtain ⟨a, b⟩ := zip_fst ks vs (by simpa using h)
    exact ⟨by rw [List.zip_cons_cons, List.map_cons, a], by rw [List.zip_cons_cons, List.map_cons, b]⟩
theorem s_dict {pos : Pos} {keys : List (Option Expr)} {values : List Expr} {ks : List Key} {r : Es} (h : SPs X fa pos keys values ks (evEs gl c r)) (hall : keys.all (·.isSome) = true) (hl : keys.length = values.length) (h0 : keys ≠ []) (h15 : keys.length ≤ 15) : SE X fa (.Dict keys values pos) (evE gl c (.dict ks r)) := by
  obtain ⟨trs, g1, g2⟩ := h
  refine PE.imp (pe_disp g1 hall hl h0 h15) ?_
  rintro σ H Q ⟨Z, Wr, ρ, s, F, h⟩
  rw [evE] at h
  intro p hp
  have F0 : Fr X.K fa Z Wr ρ (upd H p (.dK [])) σ s := F.laid hp
  have x0 : Ex Wr ρ H Wr ρ (upd H p (.dK [])) := Ex.laid F.mu hp
  refine g2 _ _ _ ⟨Z, Wr, ρ, s, F0, OkL.bind (P := OkD X.K fa Z σ Wr ρ H Q) (fun z => z) (fun _ _ z => z) h fun ds s1 _ h Wr1 ρ1 v H1 x1 F1 r1 => ?_⟩
  split at h
  case isFalse => exact h.elim
  rename_i hc
  obtain ⟨c1, c2, c3, c4⟩ := hc
  have wp : ¬ Wr p := F.wfresh hp
  have hp0 : upd H p (.dK []) p = some (.dK []) := upd_same
  have hp1 : H1 p = some (.dK []) := x1.keep p _ hp0 wp
  have wp1 : ¬ Wr1 p := fun z => by
    rcases x1.wr p z with z | z
    · exact wp z
    · rw [hp0] at z; cases z
  have lv : ks.length = v.length := by rw [c1, ← r1.len]
  obtain ⟨z1, z2⟩ := zip_fst ks v lv
  have em : mergeK [] (ks.zip v) = ks.zip v := mergeK_nodup (ks.zip v) [] (by rw [List.nil_append, z1]; exact c4)
  obtain ⟨z3, z4⟩ := zip_fst ks ds c1
  refine ⟨hp1, ks.zip v, zipW_map ks v, by rw [List.length_zip]; omega, ?_⟩
  rw [em]
  obtain ⟨x2, F2⟩ := F1.newSto (o := .dct (ks.zip ds)) (ho := .dK (ks.zip v)) wp1 (fun xs z => by rcases z with z | ⟨o, z⟩ <;> (rw [hp1] at z; cases z)) (fun xs z => by rcases z with z | ⟨o, z⟩ <;> (rw [hp1] at z; cases z)) (F.zfresh hp) trivial ⟨ks.zip v, rfl, by rw [z1, z3], by rw [z2, z4]; exact r1⟩
  have xt := x0.trans x1
  refine h _ _ _ _ ⟨F.mu, fun n a e => x2.rho n a (xt.rho n a e), fun a z => z.elim (xt.wr a) fun e => .inr (e ▸ hp), fun a o e w => ?_⟩ F2 ?_
  · rw [upd_ne (ne_of_none e hp)]; exact xt.keep a o e w
  · rw [Rp]
    exact ⟨p, rfl, by rw [F1.len, List.getElem?_append_right (Nat.le_refl _), Nat.sub_self]; rfl⟩
end
end Dn

/-! Dn, part P: what is walked. -/
namespace Dn
open PySem PySem.Spec PyProof.Rows L2
section
variable (K : PySem.W.Frag) (fa : Nat → Addr)
/-- J gives ds one by one, wherever the rest goes -/
def Yl (J : It) (ds : List D) (Wr : Addr → Prop) (ρ : List Addr) (H : Hp) : Prop := ∀ Wr2 ρ2 H2, Ex Wr ρ H Wr2 ρ2 H2 → (∀ a, Wr2 a → Mut (H2 a)) → ∀ i, (∀ d, ds[i]? = some d → J.go i H2 ∧ ∀ x H3, J.yld i H2 x H3 → Same H2 H3 ∧ Rp K fa Wr2 ρ2 H3 d x) ∧ (ds.length ≤ i → J.stop i H2)
def OkI (Z : Zn) (σ : L2.St) (Wr : Addr → Prop) (ρ : List Addr) (H : Hp) (Rr : It → Hp → Prop) : R (List D) → Prop
  | .ok ds s' => ∀ J Wr' ρ' H', Ex Wr ρ H Wr' ρ' H' → Fr K fa Z Wr' ρ' H' σ s' → Yl K fa J ds Wr' ρ' H' → Rr J H'
  | _ => False
def rdI (ev : S → R (List D)) : TI := fun σ H Rr => ∃ Z Wr ρ s, Fr K fa Z Wr ρ H σ s ∧ OkI K fa Z σ Wr ρ H Rr (ev s)
end
def SIt (X : Cx) (fa : Nat → Addr) (tg e : Expr) (ev : S → R (List D)) : Prop := PI X tg e (rdI X.K fa ev)
section
variable {K : PySem.W.Frag} {fa : Nat → Addr} {Z : Zn} {σ : L2.St} {Wr : Addr → Prop} {ρ : List Addr} {H : Hp}
theorem yl_lst {a : Addr} {xs : List V} {l : List D} (q : SqW Wr H a xs) (r : RpL K fa Wr ρ H l xs) : Yl K fa (Itl K a) l Wr ρ H := fun Wr2 ρ2 H2 x mu i => by
  have q2 : SqL K H2 a xs := SqW.sq K Wr2 H2 (x.sqW q)
  refine ⟨fun d hd => ?_, fun hi => ⟨xs, q2, by rw [r.len]; exact hi⟩⟩
  obtain ⟨v, hv, rv⟩ := r.get hd
  refine ⟨⟨xs, v, q2, hv⟩, fun y H3 h => ?_⟩
  obtain ⟨e, h⟩ := h
  subst e
  have h := h xs q2
  rw [hv] at h; cases h
  exact ⟨fun _ _ z => z, rv.ext x⟩
theorem yl_tup {a : Addr} {xs : List V} {l : List D} (q : SqT K H a xs) (r : RpL K fa Wr ρ H l xs) : Yl K fa (Itt K a) l Wr ρ H := fun Wr2 ρ2 H2 x mu i => by
  have q2 : SqT K H2 a xs := x.sqT q
  refine ⟨fun d hd => ?_, fun hi => ⟨xs, q2, by rw [r.len]; exact hi⟩⟩
  obtain ⟨v, hv, rv⟩ := r.get hd
  refine ⟨⟨xs, v, q2, hv⟩, fun y H3 h => ?_⟩
  obtain ⟨e, h⟩ := h
  subst e
  have h := h xs q2
  rw [hv] at h; cases h
  exact ⟨fun _ _ z => z, rv.ext x⟩
theorem yl_str {x : PySem.Str} : Yl K fa (Its x) (x.cps.toList.map fun c => .str ⟨#[c]⟩) Wr ρ H := fun Wr2 ρ2 H2 x0 mu i => by
  refine ⟨fun d hd => ?_, fun hi => ?_⟩
  · rw [List.getElem?_map] at hd
    obtain ⟨c, hc, e⟩ := Option.map_eq_some_iff.mp hd
    rw [Array.getElem?_toList] at hc
    refine ⟨(Array.getElem?_eq_some_iff.mp hc).1, fun y H3 h => ?_⟩
    obtain ⟨e1, c', hc', e2⟩ := h
    rw [hc] at hc'; cases hc'
    subst e1 e2 e
    exact ⟨fun _ _ z => z, by rw [Rp]⟩
  · simp only [List.length_map, Array.length_toList] at hi
    exact hi
theorem yl_rng {lo : Int} {n : Nat} : Yl K fa (Itr lo n) (rng lo n) Wr ρ H := fun Wr2 ρ2 H2 x0 mu i => by
  refine ⟨fun d hd => ?_, fun hi => ?_⟩
  · unfold rng at hd
    rw [List.getElem?_map] at hd
    obtain ⟨k, hk, e⟩ := Option.map_eq_some_iff.mp hd
    obtain ⟨hk1, hk2⟩ := List.getElem?_eq_some_iff.mp hk
    rw [List.getElem_range] at hk2
    subst hk2
    rw [List.length_range] at hk1
    refine ⟨hk1, fun y H3 h => ?_⟩
    obtain ⟨e1, e2⟩ := h
    subst e1 e2 e
    exact ⟨fun _ _ z => z, by rw [Rp]⟩
  · unfold rng at hi
    rw [List.length_map, List.length_range] at hi
    exact hi
theorem enumD_get : ∀ (l : List D) (n i : Nat), (enumD n l)[i]? = (l[i]?).map fun d => .tup [.int ((n + i : Nat) : Int), d]
  | [], n, i => by unfold enumD; simp
  | d :: l, n, 0 => by unfold enumD; simp
  | d :: l, n, i + 1 => by
    unfold enumD
    rw [List.getElem?_cons_succ, List.getElem?_cons_succ, enumD_get l (n + 1) i]
    have e : n + 1 + i = n + (i + 1) := by omega
    rw [e]
theorem enumD_len : ∀ (l : List D) (n : Nat), (enumD n l).length = l.length
  | [], n => by unfold enumD; rfl
  | d :: l, n => by unfold enumD; rw [List.length_cons, List.length_cons, enumD_len l]
/-- a pair just laid -/
theorem rp_pair {Wr2 : Addr → Prop} {ρ2 : List Addr} {H2 : Hp} {T : Addr} {x y : V} {d e : D} (hT : H2 T = none) (mu : ∀ a, Wr2 a → Mut (H2 a)) (rx : Rp K fa Wr2 ρ2 H2 d x) (ry : Rp K fa Wr2 ρ2 H2 e y) : Same H2 (upd H2 T (.tup [x, y])) ∧ Rp K fa Wr2 ρ2 (upd H2 T (.tup [x, y])) (.tup [d, e]) (.ref T) := by
  have x1 : Ex Wr2 ρ2 H2 Wr2 ρ2 (upd H2 T (.tup [x, y])) := Ex.laid mu hT
  refine ⟨fun a o h => by rw [upd_ne (ne_of_none h hT)]; exact h, ?_⟩
  rw [Rp]
  exact ⟨T, [x, y], rfl, .inl (.inl upd_same), .cons (rx.ext x1) (.cons (ry.ext x1) .nil)⟩
theorem yl_enum {a : Addr} {xs : List V} {l : List D} (q : SqW Wr H a xs) (r : RpL K fa Wr ρ H l xs) : Yl K fa (Ite K a) (enumD 0 l) Wr ρ H := fun Wr2 ρ2 H2 x mu i => by
  have q2 : SqL K H2 a xs := SqW.sq K Wr2 H2 (x.sqW q)
  refine ⟨fun d hd => ?_, fun hi => ⟨xs, q2, by rw [r.len, ← enumD_len l 0]; exact hi⟩⟩
  rw [enumD_get] at hd
  obtain ⟨d0, hd0, e⟩ := Option.map_eq_some_iff.mp hd
  obtain ⟨v, hv, rv⟩ := r.get hd0
  refine ⟨⟨xs, v, q2, hv⟩, fun y H3 h => ?_⟩
  obtain ⟨T, y0, e1, hT, e2, h⟩ := h
  have h := h xs q2
  rw [hv] at h; cases h
  subst e1 e2 e
  rw [Nat.zero_add]
  exact rp_pair hT mu (by rw [Rp]) (rv.ext x)
theorem zip_get {l m : List D} {i : Nat} {d : D} (h : ((l.zip m).map fun p => D.tup [p.1, p.2])[i]? = some d) : ∃ x y, l[i]? = some x ∧ m[i]? = some y ∧ d = .tup [x, y] := by
  rw [List.getElem?_map] at h
  obtain ⟨p, hp, e⟩ := Option.map_eq_some_iff.mp h
  obtain ⟨h1, h2⟩ := List.getElem?_zip_eq_some.mp hp
  exact ⟨p.1, p.2, h1, h2, e.symm⟩
theorem yl_zip {a b : Addr} {xs ys : List V} {l m : List D} (q : SqW Wr H a xs) (q' : SqW Wr H b ys) (r : RpL K fa Wr ρ H l xs) (r' : RpL K fa Wr ρ H m ys) : Yl K fa (Itz K a b) ((l.zip m).map fun p => .tup [p.1, p.2]) Wr ρ H := fun Wr2 ρ2 H2 x mu i => by
  have q2 : SqL K H2 a xs := SqW.sq K Wr2 H2 (x.sqW q)
  have q3 : SqL K H2 b ys := SqW.sq K Wr2 H2 (x.sqW q')
  refine ⟨fun d hd => ?_, fun hi => ⟨xs, ys, q2, q3, ?_⟩⟩
  · obtain ⟨d1, d2, h1, h2, e⟩ := zip_get hd
    obtain ⟨v, hv, rv⟩ := r.get h1
    obtain ⟨u, hu, ru⟩ := r'.get h2
    refine ⟨⟨xs, ys, v, u, q2, q3, hv, hu⟩, fun y H3 h => ?_⟩
    obtain ⟨T, y1, y2, e1, hT, e2, g1, g2⟩ := h
    have g1 := g1 xs q2
    have g2 := g2 ys q3
    rw [hv] at g1; cases g1
    rw [hu] at g2; cases g2
    subst e1 e2 e
    exact rp_pair hT mu (rv.ext x) (ru.ext x)
  · rw [List.length_map, List.length_zip] at hi
    rw [r.len, r'.len]
    omega
theorem yl_zipT {a b : Addr} {xs ys : List V} {l m : List D} (q : SqT K H a xs) (q' : SqT K H b ys) (r : RpL K fa Wr ρ H l xs) (r' : RpL K fa Wr ρ H m ys) : Yl K fa (RZ.ItzT K a b) ((l.zip m).map fun p => .tup [p.1, p.2]) Wr ρ H := fun Wr2 ρ2 H2 x mu i => by
  have q2 := x.sqT q
  have q3 := x.sqT q'
  refine ⟨fun d hd => ?_, fun hi => ⟨xs, ys, q2, q3, ?_⟩⟩
  · obtain ⟨d1, d2, h1, h2, e⟩ := zip_get hd
    obtain ⟨v, hv, rv⟩ := r.get h1
    obtain ⟨u, hu, ru⟩ := r'.get h2
    refine ⟨⟨xs, ys, v, u, q2, q3, hv, hu⟩, fun y H3 h => ?_⟩
    obtain ⟨T, y1, y2, e1, hT, e2, g1, g2⟩ := h
    have g1 := g1 xs q2
    have g2 := g2 ys q3
    rw [hv] at g1; cases g1
    rw [hu] at g2; cases g2
    subst e1 e2 e
    exact rp_pair hT mu (rv.ext x) (ru.ext x)
  · rw [List.length_map, List.length_zip] at hi
    rw [r.len, r'.len]
    omega
theorem rev_get {l : List D} {i : Nat} {d : D} (h : l.reverse[i]? = some d) : i < l.length ∧ l[l.length - 1 - i]? = some d := by
  have hi : i < l.length := by
    have := (List.getElem?_eq_some_iff.mp h).1
    rwa [List.length_reverse] at this
  rw [List.getElem?_reverse hi] at h
  exact ⟨hi, h⟩
theorem yl_rev {a : Addr} {xs : List V} {l : List D} (q : SqW Wr H a xs) (r : RpL K fa Wr ρ H l xs) : Yl K fa (Itv K a xs.length) l.reverse Wr ρ H := fun Wr2 ρ2 H2 x mu i => by
  have q2 : SqL K H2 a xs := SqW.sq K Wr2 H2 (x.sqW q)
  refine ⟨fun d hd => ?_, fun hi => ?_⟩
  · obtain ⟨hi, hd⟩ := rev_get hd
    obtain ⟨v, hv, rv⟩ := r.get hd
    rw [← r.len] at hv hi
    refine ⟨⟨hi, xs, v, q2, hv⟩, fun y H3 h => ?_⟩
    obtain ⟨e, h⟩ := h
    subst e
    have h := h xs q2
    rw [hv] at h; cases h
    exact ⟨fun _ _ z => z, rv.ext x⟩
  · rw [List.length_reverse, ← r.len] at hi
    exact hi
theorem yl_revT {a : Addr} {xs : List V} {l : List D} (q : SqT K H a xs) (r : RpL K fa Wr ρ H l xs) : Yl K fa (RT.ItvT K a xs.length) l.reverse Wr ρ H := fun Wr2 ρ2 H2 x mu i => by
  have q2 := x.sqT q
  refine ⟨fun d hd => ?_, fun hi => ?_⟩
  · obtain ⟨hi, hd⟩ := rev_get hd
    obtain ⟨v, hv, rv⟩ := r.get hd
    rw [← r.len] at hv hi
    refine ⟨⟨hi, xs, v, q2, hv⟩, fun y H3 h => ?_⟩
    obtain ⟨e, h⟩ := h
    subst e
    have h := h xs q2
    rw [hv] at h; cases h
    exact ⟨fun _ _ z => z, rv.ext x⟩
  · rw [List.length_reverse, ← r.len] at hi
    exact hi
end
section
variable {X : Cx} {fa : Nat → Addr} (gl : List D) (c : Cl)
theorem i_seq {tg e : Expr} {x : E} (h : SE X fa e (evE gl c x)) : SIt X fa tg e (evIt gl c (.seq x)) := by
  refine ⟨fun pins s σ H Rr I h0 => ?_⟩
  obtain ⟨Z, Wr, ρ, t, F, q⟩ := h0
  rw [evIt] at q
  cases e1 : evE gl c x t with
  | exc _ _ => rw [e1] at q; exact q.elim
  | stk => rw [e1] at q; exact q.elim
  | ok d t1 =>
    rw [e1, R.bind_ok] at q
    cases d with
    | lst l =>
      refine (pi_list h).run pins s σ H Rr I ⟨Z, Wr, ρ, t, F, ?_⟩
      rw [e1]
      intro Wr1 ρ1 v H1 x1 F1 r1
      rw [Rp] at r1
      obtain ⟨a, xs, e, g1, g2⟩ := r1
      exact ⟨a, e, ⟨xs, SqW.sq X.K Wr1 H1 g1⟩, q _ _ _ _ x1 F1 (yl_lst g1 g2)⟩
    | tup l =>
      refine (pi_tup h).run pins s σ H Rr I ⟨Z, Wr, ρ, t, F, ?_⟩
      rw [e1]
      intro Wr1 ρ1 v H1 x1 F1 r1
      rw [Rp] at r1
      obtain ⟨a, xs, e, g1, g2⟩ := r1
      exact ⟨a, e, ⟨xs, g1⟩, q _ _ _ _ x1 F1 (yl_tup g1 g2)⟩
    | str y =>
      refine (pi_str h).run pins s σ H Rr I ⟨Z, Wr, ρ, t, F, ?_⟩
      rw [e1]
      intro Wr1 ρ1 v H1 x1 F1 r1
      rw [Rp] at r1
      exact ⟨y, r1, q _ _ _ _ x1 F1 yl_str⟩
    | _ => exact q.elim
theorem i_range1 {tg e : Expr} {x : E} {p pos : Pos} (hg : Gl X "range") (hm : X.mg "range" = none) (h : SE X fa e (evE gl c x)) (hs : unst e = true) : SIt X fa tg (.Call (.Name "range" p) [e] [] pos) (evIt gl c (.range1 x)) := by
  refine ⟨fun pins s σ H Rr I h0 => (pi_range1 hg hm (s_cons gl c h (s_nil gl c) (unst_cons hs)) (unst_star hs)).run pins s σ H Rr I ?_⟩
  obtain ⟨Z, Wr, ρ, t, F, q⟩ := h0
  rw [evIt] at q
  refine ⟨Z, Wr, ρ, t, F, ?_⟩
  rw [evEs]
  cases e1 : evE gl c x t with
  | exc _ _ => rw [e1] at q; exact q.elim
  | stk => rw [e1] at q; exact q.elim
  | ok d t1 =>
    rw [e1, R.bind_ok] at q
    rw [R.bind_ok, evEs, R.bind_ok]
    intro Wr1 ρ1 vs H1 x1 F1 r1
    cases d with
    | int j =>
      dsimp only at q
      split at q
      · rename_i hj
        unfold small at hj
        simp only [Bool.and_eq_true, decide_eq_true_eq] at hj
        obtain ⟨v, r, rfl, rv, rn⟩ := r1.inv
        rw [RpL] at rn; subst rn
        rw [Rp] at rv; subst rv
        exact ⟨j, rfl, hj.1, hj.2, q _ _ _ _ x1 F1 yl_rng⟩
      · exact q.elim
    | _ => exact q.elim
theorem two_vs {K : PySem.W.Frag} {Wr : Addr → Prop} {ρ : List Addr} {H : Hp} {d e : D} {vs : List V} (r : RpL K fa Wr ρ H [d, e] vs) : ∃ v u, vs = [v, u] ∧ Rp K fa Wr ρ H d v ∧ Rp K fa Wr ρ H e u := by
  obtain ⟨v, r0, rfl, rv, r1⟩ := r.inv
  obtain ⟨u, r0, rfl, ru, rn⟩ := r1.inv
  rw [RpL] at rn; subst rn
  exact ⟨v, u, rfl, rv, ru⟩
theorem i_range2 {tg e e' : Expr} {x x' : E} {p pos : Pos} (hg : Gl X "range") (hm : X.mg "range" = none) (h : SE X fa e (evE gl c x)) (h' : SE X fa e' (evE gl c x')) (hs : unst e = true) (hs' : unst e' = true) : SIt X fa tg (.Call (.Name "range" p) [e, e'] [] pos) (evIt gl c (.range2 x x')) := by
  refine ⟨fun pins s σ H Rr I h0 => (pi_range2 hg hm (s_cons gl c h (s_cons gl c h' (s_nil gl c) (unst_cons hs')) (unst_cons hs)) (by rw [unst_cons hs, unst_star hs']) (unst_star hs')).run pins s σ H Rr I ?_⟩
  obtain ⟨Z, Wr, ρ, t, F, q⟩ := h0
  rw [evIt] at q
  refine ⟨Z, Wr, ρ, t, F, ?_⟩
  rw [evEs]
  cases e1 : evE gl c x t with
  | exc _ _ => rw [e1] at q; exact q.elim
  | stk => rw [e1] at q; exact q.elim
  | ok d t1 =>
    rw [e1, R.bind_ok] at q
    rw [R.bind_ok, evEs]
    cases e2 : evE gl c x' t1 with
    | exc _ _ => rw [e2] at q; exact q.elim
    | stk => rw [e2] at q; exact q.elim
    | ok d2 t2 =>
      rw [e2, R.bind_ok] at q
      rw [R.bind_ok, evEs, R.bind_ok, R.bind_ok]
      intro Wr1 ρ1 vs H1 x1 F1 r1
      cases d with
      | int i =>
        cases d2 with
        | int j =>
          dsimp only at q
          split at q
          · rename_i hj
            unfold small at hj
            simp only [Bool.and_eq_true, decide_eq_true_eq] at hj
            obtain ⟨v, u, rfl, rv, ru⟩ := two_vs r1
            rw [Rp] at rv ru; subst rv ru
            exact ⟨i, j, rfl, ⟨hj.1.1, hj.1.2, hj.2.1, hj.2.2⟩, q _ _ _ _ x1 F1 yl_rng⟩
          · exact q.elim
        | _ => exact q.elim
      | _ => exact q.elim
theorem i_zip {e e' : Expr} {x x' : E} {p pos tpos : Pos} {elts : List Expr} {kk : Nat} (hg : Gl X "zip") (hm : X.mg "zip" = none) (h : SE X fa e (evE gl c x)) (h' : SE X fa e' (evE gl c x')) (hs : unst e = true) (hs' : unst e' = true) : SIt X fa (.Tuple elts kk tpos) (.Call (.Name "zip" p) [e, e'] [] pos) (evIt gl c (.zip x x')) := by
  refine ⟨fun pins s σ H Rr I h0 => (RZ.pi_zipA hg hm (s_cons gl c h (s_cons gl c h' (s_nil gl c) (unst_cons hs')) (unst_cons hs)) (unst_cons hs) (by rw [unst_star hs']; rfl)).run pins s σ H Rr I ?_⟩
  obtain ⟨Z, Wr, ρ, t, F, q⟩ := h0
  rw [evIt] at q
  refine ⟨Z, Wr, ρ, t, F, ?_⟩
  rw [evEs]
  cases e1 : evE gl c x t with
  | exc _ _ => rw [e1] at q; exact q.elim
  | stk => rw [e1] at q; exact q.elim
  | ok d t1 =>
    rw [e1, R.bind_ok] at q
    rw [R.bind_ok, evEs]
    cases e2 : evE gl c x' t1 with
    | exc _ _ => rw [e2] at q; exact q.elim
    | stk => rw [e2] at q; exact q.elim
    | ok d2 t2 =>
      rw [e2, R.bind_ok] at q
      rw [R.bind_ok, evEs, R.bind_ok, R.bind_ok]
      intro Wr1 ρ1 vs H1 x1 F1 r1
      obtain ⟨v, u, rfl, rv, ru⟩ := two_vs r1
      cases d with
      | lst l =>
        cases d2 with
        | lst m =>
          rw [Rp] at rv ru
          obtain ⟨a, xs, rfl, g1, g2⟩ := rv
          obtain ⟨b, ys, rfl, g3, g4⟩ := ru
          exact ⟨a, b, xs, ys, rfl, .inl ⟨SqW.sq X.K Wr1 H1 g1, SqW.sq X.K Wr1 H1 g3, q _ _ _ _ x1 F1 (yl_zip g1 g3 g2 g4)⟩⟩
        | _ => exact q.elim
      | tup l =>
        cases d2 with
        | tup m =>
          rw [Rp] at rv ru
          obtain ⟨a, xs, rfl, g1, g2⟩ := rv
          obtain ⟨b, ys, rfl, g3, g4⟩ := ru
          exact ⟨a, b, xs, ys, rfl, .inr ⟨g1, g3, q _ _ _ _ x1 F1 (yl_zipT g1 g3 g2 g4)⟩⟩
        | _ => exact q.elim
      | _ => exact q.elim
theorem i_enum {e : Expr} {x : E} {p pos tpos : Pos} {elts : List Expr} {kk : Nat} (hg : Gl X "enumerate") (hm : X.mg "enumerate" = none) (h : SE X fa e (evE gl c x)) (hs : unst e = true) : SIt X fa (.Tuple elts kk tpos) (.Call (.Name "enumerate" p) [e] [] pos) (evIt gl c (.enum x)) := by
  refine ⟨fun pins s σ H Rr I h0 => (pi_enum hg hm (s_cons gl c h (s_nil gl c) (unst_cons hs)) (unst_star hs)).run pins s σ H Rr I ?_⟩
  obtain ⟨Z, Wr, ρ, t, F, q⟩ := h0
  rw [evIt] at q
  refine ⟨Z, Wr, ρ, t, F, ?_⟩
  rw [evEs]
  cases e1 : evE gl c x t with
  | exc _ _ => rw [e1] at q; exact q.elim
  | stk => rw [e1] at q; exact q.elim
  | ok d t1 =>
    rw [e1, R.bind_ok] at q
    rw [R.bind_ok, evEs, R.bind_ok]
    intro Wr1 ρ1 vs H1 x1 F1 r1
    cases d with
    | lst l =>
      obtain ⟨v, r, rfl, rv, rn⟩ := r1.inv
      rw [RpL] at rn; subst rn
      rw [Rp] at rv
      obtain ⟨a, xs, rfl, g1, g2⟩ := rv
      exact ⟨a, xs, rfl, SqW.sq X.K Wr1 H1 g1, q _ _ _ _ x1 F1 (yl_enum g1 g2)⟩
    | _ => exact q.elim
theorem i_rev {tg e : Expr} {x : E} {p pos : Pos} (hg : Gl X "reversed") (hm : X.mg "reversed" = none) (h : SE X fa e (evE gl c x)) (hs : unst e = true) : SIt X fa tg (.Call (.Name "reversed" p) [e] [] pos) (evIt gl c (.rev x)) := by
  refine ⟨fun pins s σ H Rr I h0 => (RT.pi_revA hg hm h (unst_cons hs)).run pins s σ H Rr I ?_⟩
  obtain ⟨Z, Wr, ρ, t, F, q⟩ := h0
  rw [evIt] at q
  refine ⟨Z, Wr, ρ, t, F, ?_⟩
  cases e1 : evE gl c x t with
  | exc _ _ => rw [e1] at q; exact q.elim
  | stk => rw [e1] at q; exact q.elim
  | ok d t1 =>
    rw [e1, R.bind_ok] at q
    intro Wr1 ρ1 v H1 x1 F1 r1
    cases d with
    | lst l =>
      rw [Rp] at r1
      obtain ⟨a, xs, rfl, g1, g2⟩ := r1
      exact ⟨a, xs, rfl, .inl ⟨SqW.sq X.K Wr1 H1 g1, q _ _ _ _ x1 F1 (yl_rev g1 g2)⟩⟩
    | tup l =>
      rw [Rp] at r1
      obtain ⟨a, xs, rfl, g1, g2⟩ := r1
      exact ⟨a, xs, rfl, .inr ⟨g1, q _ _ _ _ x1 F1 (yl_revT g1 g2)⟩⟩
    | _ => exact q.elim
end
end Dn

/-! Dn, part Q: targets, statements. -/
namespace Dn
open PySem PySem.Spec PyProof.Rows L2
section
variable {K : PySem.W.Frag} {fa : Nat → Addr} {Z : Zn} {σ : L2.St} {Wr : Addr → Prop} {ρ : List Addr} {H : Hp} {s : S}
/-- a slot takes a value -/
theorem Fr.setSh {i : Nat} {d : D} {v : V} (F : Fr K fa Z Wr ρ H σ s) (hi : i < s.env.length) (r : Rp K fa Wr ρ H d v) : Fr K fa Z Wr ρ H (σ.set i (some v)) (s.setSl i (.sh d)) := by
  have hi' : i < σ.length := by rw [← F.sl]; exact hi
  have gs : ∀ {j : Nat}, j ≠ i → (σ.set i (some v))[j]? = σ[j]? := fun {j} n => List.getElem?_set_ne (fun e => n e.symm)
  have ow : ∀ {j : Nat} {l : List D}, (s.setSl i (.sh d)).env[j]? = some (.ow l) → j ≠ i ∧ s.env[j]? = some (.ow l) := fun {j l} e => by
    rw [setSl_get hi] at e
    split at e
    · cases e
    · exact ⟨by assumption, e⟩
  refine ⟨F.mu, F.rw, F.nd, F.len, F.so, ?_, fun j d' e => ?_, fun j l e => ?_, fun j k m n a e1 e2 e3 e4 => ?_, F.z1, F.z2, F.z3, F.z4, F.z5, fun a xs z => ?_⟩
  · unfold S.setSl; simp only [List.length_set]; exact F.sl
  · rw [setSl_get hi] at e
    split at e
    · rename_i ej
      cases e; subst ej
      exact ⟨v, by rw [List.getElem?_set_self hi'], r⟩
    · rename_i ej
      rw [gs ej]
      exact F.sh j d' e
  · obtain ⟨n, e⟩ := ow e
    rw [gs n]
    exact F.ow j l e
  · obtain ⟨n1, e1⟩ := ow e1
    obtain ⟨n2, e2⟩ := ow e2
    rw [gs n1] at e3; rw [gs n2] at e4
    exact F.od j k m n a e1 e2 e3 e4
  · obtain ⟨g1, g2, g3, g4, g5⟩ := F.ac a xs z
    refine ⟨g1, g2, g3, g4, fun j l e => ?_⟩
    obtain ⟨n, e⟩ := ow e
    rw [gs n]; exact g5 j l e
/-- a slot takes a list that nobody else knows -/
theorem Fr.setOw {i : Nat} {l : List D} {a : Addr} {xs : List V} (F : Fr K fa Z Wr ρ H σ s) (hi : i < s.env.length) (w : Wr a) (hr : a ∉ ρ) (hz : ¬ Z.Wr a) (ho : ¬ OwnAt σ s a) (hc : ∀ ys, (a, ys) ∉ Z.ac) (ha : H a = some (.lst xs)) (r : RpL K fa Wr ρ H l xs) :
    Fr K fa Z Wr ρ H (σ.set i (some (.ref a))) (s.setSl i (.ow l)) := by
  have hi' : i < σ.length := by rw [← F.sl]; exact hi
  have gi : (σ.set i (some (V.ref a)))[i]? = some (some (.ref a)) := List.getElem?_set_self hi'
  have gs : ∀ {j : Nat}, j ≠ i → (σ.set i (some (.ref a)))[j]? = σ[j]? := fun {j} n => List.getElem?_set_ne (fun e => n e.symm)
  refine ⟨F.mu, F.rw, F.nd, F.len, F.so, ?_, fun j d' e => ?_, fun j m e => ?_, fun j k m n b e1 e2 e3 e4 => ?_, F.z1, F.z2, F.z3, F.z4, F.z5, fun b ys z => ?_⟩
  · unfold S.setSl; simp only [List.length_set]; exact F.sl
  · rw [setSl_get hi] at e
    split at e
    · cases e
    · rename_i ej
      rw [gs ej]
      exact F.sh j d' e
  · rw [setSl_get hi] at e
    split at e
    · rename_i ej
      cases e; subst ej
      exact ⟨a, xs, gi, ha, r, w, hr, hz⟩
    · rename_i ej
      rw [gs ej]; exact F.ow j m e
  · rw [setSl_get hi] at e1 e2
    split at e1 <;> split at e2
    · rename_i h1 h2; rw [h1, h2]
    · rename_i h1 h2
      subst h1
      rw [gi] at e3; cases e3
      rw [gs h2] at e4
      exact absurd ⟨k, n, e2, e4⟩ ho
    · rename_i h1 h2
      subst h2
      rw [gi] at e4; cases e4
      rw [gs h1] at e3
      exact absurd ⟨j, m, e1, e3⟩ ho
    · rename_i h1 h2
      rw [gs h1] at e3; rw [gs h2] at e4
      exact F.od j k m n b e1 e2 e3 e4
  · obtain ⟨g1, g2, g3, g4, g5⟩ := F.ac b ys z
    refine ⟨g1, g2, g3, g4, fun j m e => ?_⟩
    rw [setSl_get hi] at e
    split at e
    · rename_i ej
      subst ej
      rw [gi]
      intro z'
      injection z' with z'; injection z' with z'; injection z' with z'
      exact hc ys (z' ▸ z)
    · rename_i ej
      rw [gs ej]; exact g5 j m e
/-- a list under way is put by -/
theorem Fr.acPush {a : Addr} {xs : List V} (F : Fr K fa Z Wr ρ H σ s) (w : Wr a) (hr : a ∉ ρ) (hz : ¬ Z.Wr a) (ho : ¬ OwnAt σ s a) (ha : H a = some (.lst xs)) : Fr K fa { Z with ac := (a, xs) :: Z.ac } Wr ρ H σ s :=
  ⟨F.mu, F.rw, F.nd, F.len, F.so, F.sl, F.sh, F.ow, F.od, F.z1, F.z2, F.z3, F.z4, F.z5, fun b ys z => by
    rcases List.mem_cons.mp z with z | z
    · cases z; exact ⟨ha, w, hr, hz, fun i l e e' => ho ⟨i, l, e, e'⟩⟩
    · exact F.ac b ys z⟩
theorem Fr.acPop {a : Addr} {xs : List V} {r : List (Addr × List V)} {Z1 : Zn} (F : Fr K fa { Z1 with ac := (a, xs) :: r } Wr ρ H σ s) : Fr K fa { Z1 with ac := r } Wr ρ H σ s ∧ Wr a ∧ a ∉ ρ ∧ ¬ Z1.Wr a ∧ ¬ OwnAt σ s a ∧ H a = some (.lst xs) := by
  obtain ⟨g1, g2, g3, g4, g5⟩ := F.ac a xs List.mem_cons_self
  exact ⟨⟨F.mu, F.rw, F.nd, F.len, F.so, F.sl, F.sh, F.ow, F.od, F.z1, F.z2, F.z3, F.z4, F.z5, fun b ys z => F.ac b ys (List.mem_cons_of_mem _ z)⟩, g2, g3, g4, fun ⟨i, l, e, e'⟩ => g5 i l e e', g1⟩
end
/-! ### targets -/
mutual
def tgv : Tg → List Nat
  | .nm i => [i]
  | .tp t => tgvs t
def tgvs : Tgs → List Nat
  | .nil => []
  | .cons t r => tgv t ++ tgvs r
end
section
variable (K : PySem.W.Frag) (fa : Nat → Addr)
def rdTg (t : Tg) : TG := fun v σ H Q => ∃ Z Wr ρ s d s', Fr K fa Z Wr ρ H σ s ∧ Rp K fa Wr ρ H d v ∧ asg t d s = some s' ∧ ∀ σ', Fr K fa Z Wr ρ H σ' s' → (σ'.length = σ.length ∧ ∀ i, i ∉ tgv t → σ'[i]? = σ[i]?) → Q σ' H
def rdTgs (t : Tgs) : TGs := fun vs σ H Q => ∃ Z Wr ρ s ds s', Fr K fa Z Wr ρ H σ s ∧ RpL K fa Wr ρ H ds vs ∧ asgs t ds s = some s' ∧ ∀ σ', Fr K fa Z Wr ρ H σ' s' → (σ'.length = σ.length ∧ ∀ i, i ∉ tgvs t → σ'[i]? = σ[i]?) → Q σ' H
end
def STg (X : Cx) (fa : Nat → Addr) (e : Expr) (t : Tg) : Prop := PG X e (rdTg X.K fa t)
def STgs (X : Cx) (fa : Nat → Addr) (es : List Expr) (t : Tgs) : Prop := PGs X es (rdTgs X.K fa t)
section
variable {X : Cx} {fa : Nat → Addr}
theorem PG.imp {e : Expr} {t t' : TG} (h : PG X e t) (i : ∀ v σ H Q, t' v σ H Q → t v σ H Q) : PG X e t' := ⟨fun pins s σ H v u Q I r q => h.run pins s σ H v u Q I r (i v σ H Q q)⟩
theorem PGs.imp {e : List Expr} {t t' : TGs} (h : PGs X e t) (i : ∀ v σ H Q, t' v σ H Q → t v σ H Q) : PGs X e t' := ⟨fun pins s σ H v u Q I r q => h.run pins s σ H v u Q I r (i v σ H Q q)⟩
theorem PS.imp {e : Stmt} {t t' : TS} (h : PS X e t) (i : ∀ D σ H, t' D σ H → t D σ H) : PS X e t' := ⟨fun pins s σ H D I q => h.run pins s σ H D I (i D σ H q)⟩
theorem PSs.imp {e : List Stmt} {t t' : TS} (h : PSs X e t) (i : ∀ D σ H, t' D σ H → t D σ H) : PSs X e t' := ⟨fun pins s σ H D I q => h.run pins s σ H D I (i D σ H q)⟩
theorem g_nm {i : Nat} {x : PySem.Str} {pos : Pos} (hN : X.N.Nodup) (hi : X.N[i]? = some x) (hx : Loc X.env.scope x) (hf : X.fn x = true ∨ X.env.scope.names.lookup x = some .local) : STg X fa (.Name x pos) (.nm i) := by
  refine PG.imp (pg_name hN hi hx hf) ?_
  rintro v σ H Q ⟨Z, Wr, ρ, s, d, s', F, r, e, q⟩
  rw [asg] at e
  split at e
  · rename_i h
    cases e
    exact q _ (F.setSh h r) ⟨List.length_set, fun j n => List.getElem?_set_ne (fun e => n (by rw [tgv]; exact List.mem_singleton.mpr e.symm))⟩
  · cases e
theorem g_nil : STgs X fa [] .nil := by
  refine PGs.imp pgs_nil ?_
  rintro vs σ H Q ⟨Z, Wr, ρ, s, ds, s', F, r, e, q⟩
  cases ds with
  | nil =>
    rw [asgs] at e; cases e
    rw [RpL] at r
    exact ⟨r, q σ F ⟨rfl, fun _ _ => rfl⟩⟩
  | cons d ds => simp only [asgs] at e; cases e
theorem g_cons {e : Expr} {es : List Expr} {t : Tg} {r : Tgs} (h1 : STg X fa e t) (h2 : STgs X fa es r) (hs : unst e = true) : STgs X fa (e :: es) (.cons t r) := by
  refine PGs.imp (pgs_cons h1 h2 (by cases e <;> first | rfl | cases hs)) ?_
  rintro vs σ H Q ⟨Z, Wr, ρ, s, ds, s', F, rl, e, q⟩
  cases ds with
  | nil => simp only [asgs] at e; cases e
  | cons d ds =>
    rw [asgs] at e
    obtain ⟨v, vr, rfl, rv, rr⟩ := rl.inv
    cases e1 : asg t d s with
    | none => rw [e1] at e; cases e
    | some s1 =>
      rw [e1] at e
      refine ⟨v, vr, rfl, Z, Wr, ρ, s, d, s1, F, rv, e1, fun σ1 F1 n1 => ⟨Z, Wr, ρ, s1, ds, s', F1, rr, e, fun σ2 F2 n2 => q σ2 F2 ⟨n2.1.trans n1.1, fun i n => ?_⟩⟩⟩
      rw [tgvs] at n
      rw [n2.2 i (fun z => n (List.mem_append_right _ z)), n1.2 i (fun z => n (List.mem_append_left _ z))]
theorem asgs_len : ∀ {t : Tgs} {ds : List D} {s s' : S}, asgs t ds s = some s' → ∀ {es : List Expr}, STgs X fa es t → True := fun _ _ _ => trivial
theorem asg_each : ∀ {es : List Expr} {env : Env}, (∀ e ∈ es, unst e = true) → (assignEach es env).length = es.length ∧ (assignEach es env).findIdx? (·.1) = none
  | [], _, _ => ⟨rfl, rfl⟩
  | e :: es, env, h => by
    obtain ⟨h1, h2⟩ := asg_each (es := es) (env := env) fun a ha => h a (List.mem_cons_of_mem _ ha)
    have he := h e List.mem_cons_self
    have e0 : assignEach (e :: es) env = (false, assign e env) :: assignEach es env := by cases e <;> first | rfl | cases he
    rw [e0]
    refine ⟨by rw [List.length_cons, List.length_cons, h1], ?_⟩
    rw [List.findIdx?_cons, h2]; rfl
def Tgs.len : Tgs → Nat
  | .nil => 0
  | .cons _ r => r.len + 1
theorem asgs_n : ∀ {t : Tgs} {ds : List D} {s s' : S}, asgs t ds s = some s' → ds.length = t.len
  | .nil, [], s, s', h => rfl
  | .nil, _ :: _, s, s', h => by simp only [asgs] at h; cases h
  | .cons _ _, [], s, s', h => by simp only [asgs] at h; cases h
  | .cons t r, d :: ds, s, s', h => by
    rw [asgs] at h
    cases e1 : asg t d s with
    | none => rw [e1] at h; cases h
    | some s1 => rw [e1] at h; rw [List.length_cons, asgs_n h, Tgs.len]
theorem g_tp {es : List Expr} {k : Nat} {pos : Pos} {t : Tgs} (hc : X.calm = true) (h : STgs X fa es t) (hl : es.length = t.len) (hs : ∀ e ∈ es, unst e = true) : STg X fa (.Tuple es k pos) (.tp t) := by
  obtain ⟨h1, h2⟩ := asg_each (env := X.env) hs
  refine ⟨fun pins s0 σ H v u Q I ru q0 => ?_⟩
  obtain ⟨Z, Wr, ρ, s, d, s', F, r, e, q⟩ := q0
  have keep : ∀ (σ' : L2.St), (σ'.length = σ.length ∧ ∀ (i : Nat), i ∉ tgvs t → σ'[i]? = σ[i]?) → (σ'.length = σ.length ∧ ∀ (i : Nat), i ∉ tgv (.tp t) → σ'[i]? = σ[i]?) := fun σ' n => ⟨n.1, fun i z => n.2 i (by rw [tgv] at z; exact z)⟩
  cases d with
  | tup l =>
    rw [asg] at e
    rw [Rp] at r
    obtain ⟨a, xs, rfl, g1, g2⟩ := r
    exact (pg_tup hc h (n := es.length) h1 h2).run pins s0 σ H _ u Q I ru ⟨a, xs, rfl, g1, by rw [g2.len, asgs_n e, hl], Z, Wr, ρ, s, l, s', F, g2, e, fun σ' F' n => q σ' F' (keep σ' n)⟩
  | lst l =>
    rw [asg] at e
    rw [Rp] at r
    obtain ⟨a, xs, rfl, g1, g2⟩ := r
    exact (pg_unl hc h (n := es.length) h1 h2).run pins s0 σ H _ u Q I ru ⟨a, xs, rfl, SqW.sq X.K Wr H g1, by rw [g2.len, asgs_n e, hl], Z, Wr, ρ, s, l, s', F, g2, e, fun σ' F' n => q σ' F' (keep σ' n)⟩
  | _ => simp only [asg] at e; cases e
end
/-! ### statements -/
section
variable (K : PySem.W.Frag) (fa : Nat → Addr)
def OkS (Z : Zn) (Wr : Addr → Prop) (ρ : List Addr) (H : Hp) (En : Ends) : R Fl → Prop
  | .ok .nx s' => ∀ Wr' ρ' σ' H', Ex Wr ρ H Wr' ρ' H' → Fr K fa Z Wr' ρ' H' σ' s' → En.nx σ' H'
  | .ok .bk s' => ∀ Wr' ρ' σ' H', Ex Wr ρ H Wr' ρ' H' → Fr K fa Z Wr' ρ' H' σ' s' → En.bk σ' H'
  | .ok .ct s' => ∀ Wr' ρ' σ' H', Ex Wr ρ H Wr' ρ' H' → Fr K fa Z Wr' ρ' H' σ' s' → En.ct σ' H'
  | .ok (.rt d) s' => ∀ Wr' ρ' σ' v H', Ex Wr ρ H Wr' ρ' H' → Fr K fa Z Wr' ρ' H' σ' s' → Rp K fa Wr' ρ' H' d v → En.rt v H'
  | _ => False
def rdS (ev : S → R Fl) : TS := fun En σ H => ∃ Z Wr ρ s, Fr K fa Z Wr ρ H σ s ∧ OkS K fa Z Wr ρ H En (ev s)
end
def SS (X : Cx) (fa : Nat → Addr) (st : Stmt) (ev : S → R Fl) : Prop := PS X st (rdS X.K fa ev)
def SSs (X : Cx) (fa : Nat → Addr) (st : List Stmt) (ev : S → R Fl) : Prop := PSs X st (rdS X.K fa ev)
section
variable {K : PySem.W.Frag} {fa : Nat → Addr} {Z : Zn} {Wr Wr' : Addr → Prop} {ρ ρ' : List Addr} {H H' : Hp} {En : Ends}
theorem OkS.later {r : R Fl} (x : Ex Wr ρ H Wr' ρ' H') (h : OkS K fa Z Wr ρ H En r) : OkS K fa Z Wr' ρ' H' En r := by
  match r, h with
  | .ok .nx s', h => exact fun _ _ _ _ x' F => h _ _ _ _ (x.trans x') F
  | .ok .bk s', h => exact fun _ _ _ _ x' F => h _ _ _ _ (x.trans x') F
  | .ok .ct s', h => exact fun _ _ _ _ x' F => h _ _ _ _ (x.trans x') F
  | .ok (.rt d) s', h => exact fun _ _ _ _ _ x' F r => h _ _ _ _ _ (x.trans x') F r
end
section
variable {X : Cx} {fa : Nat → Addr} (gl : List D) (c : Cl)
theorem q_nil : SSs X fa [] (evSs gl c []) := by
  refine PSs.imp pss_nil ?_
  rintro En σ H ⟨Z, Wr, ρ, s, F, h⟩
  rw [evSs] at h
  exact h _ _ _ _ F.ex F
theorem q_cons {st : Stmt} {sts : List Stmt} {m : Sm} {ms : List Sm} (h1 : SS X fa st (evS gl c m)) (h2 : SSs X fa sts (evSs gl c ms)) : SSs X fa (st :: sts) (evSs gl c (m :: ms)) := by
  refine PSs.imp (pss_cons h1 h2) ?_
  rintro En σ H ⟨Z, Wr, ρ, s, F, h⟩
  rw [evSs] at h
  refine ⟨Z, Wr, ρ, s, F, ?_⟩
  cases e : evS gl c m s with
  | stk => rw [e] at h; exact h
  | exc _ _ => rw [e] at h; exact h
  | ok f s1 =>
    rw [e, R.bind_ok] at h
    cases f with
    | nx => exact fun Wr1 ρ1 σ1 H1 x1 F1 => ⟨Z, Wr1, ρ1, s1, F1, h.later x1⟩
    | bk => exact h
    | ct => exact h
    | rt d => exact h
theorem q_pass {pos : Pos} : SS X fa (.Pass pos) (evS gl c .pass) := by
  refine PS.imp ps_pass ?_
  rintro En σ H ⟨Z, Wr, ρ, s, F, h⟩
  rw [evS] at h
  exact h _ _ _ _ F.ex F
theorem q_doc {x : PySem.Str} {j : Nat} {pos pos' : Pos} : SS X fa (.Expr (.Constant (.str x) j pos) pos') (evS gl c .pass) := by
  refine PS.imp ps_doc ?_
  rintro En σ H ⟨Z, Wr, ρ, s, F, h⟩
  rw [evS] at h
  exact h _ _ _ _ F.ex F
theorem q_brk {pos : Pos} : SS X fa (.Break pos) (evS gl c .brk) := by
  refine PS.imp ps_break ?_
  rintro En σ H ⟨Z, Wr, ρ, s, F, h⟩
  rw [evS] at h
  exact h _ _ _ _ F.ex F
theorem q_cont {pos : Pos} : SS X fa (.Continue pos) (evS gl c .cont) := by
  refine PS.imp ps_continue ?_
  rintro En σ H ⟨Z, Wr, ρ, s, F, h⟩
  rw [evS] at h
  exact h _ _ _ _ F.ex F
theorem OkD.bindS {K : PySem.W.Frag} {Z : Zn} {σ : L2.St} {Wr : Addr → Prop} {ρ : List Addr} {H : Hp} {m : R D} {f : D → S → R Fl} {Q : VK} {En : Ends} (h : OkS K fa Z Wr ρ H En (m.bind f))
    (k : ∀ d s', m = .ok d s' → OkS K fa Z Wr ρ H En (f d s') → ∀ Wr' ρ' v H', Ex Wr ρ H Wr' ρ' H' → Fr K fa Z Wr' ρ' H' σ s' → Rp K fa Wr' ρ' H' d v → Q v H') : OkD K fa Z σ Wr ρ H Q m := OkD.bind (P := OkS K fa Z Wr ρ H En) (fun z => z) (fun _ _ z => z) h k
theorem q_ret {e : Expr} {x : E} {pos : Pos} (h : SE X fa e (evE gl c x)) : SS X fa (.Return (some e) pos) (evS gl c (.ret x)) := by
  refine PS.imp (ps_ret h) ?_
  rintro En σ H ⟨Z, Wr, ρ, s, F, q⟩
  rw [evS] at q
  exact ⟨Z, Wr, ρ, s, F, OkD.bindS q fun d s1 _ q Wr1 ρ1 v H1 x1 F1 r1 => q _ _ _ _ _ x1 F1 r1⟩
theorem q_retN {pos : Pos} : SS X fa (.Return none pos) (evS gl c .retN) := by
  refine PS.imp ps_retN ?_
  rintro En σ H ⟨Z, Wr, ρ, s, F, h⟩
  rw [evS] at h
  exact h _ _ _ _ _ F.ex F (by rw [Rp])
def noComp : Expr → Bool
  | .ListComp .. => false
  | .SetComp .. => false
  | .DictComp .. => false
  | _ => true
theorem nosw {e : Expr} {t : Option Expr} {l : Nat} {env : Env} (h : noComp e = true) : swapsWith e t l env = pure false := by
  cases e <;> first | rfl | cases h
theorem q_ex {e : Expr} {x : E} {pos : Pos} (h : SE X fa e (evE gl c x)) (hn : noComp e = true) : SS X fa (.Expr e pos) (evS gl c (.ex x)) := by
  refine PS.imp (ps_expr h (nosw hn)) ?_
  rintro En σ H ⟨Z, Wr, ρ, s, F, q⟩
  rw [evS] at q
  exact ⟨Z, Wr, ρ, s, F, OkD.bindS q fun d s1 _ q Wr1 ρ1 v H1 x1 F1 r1 => q _ _ _ _ x1 F1⟩
theorem q_ite {e : Expr} {t : T} {p q : List Stmt} {a b : List Sm} {pos : Pos} (ht : STt X fa e (evT gl c t)) (ha : SSs X fa p (evSs gl c a)) (hb : SSs X fa q (evSs gl c b)) : SS X fa (.If e p q pos) (evS gl c (.ite t a b)) := by
  refine PS.imp (ps_if ht ha hb) ?_
  rintro En σ H ⟨Z, Wr, ρ, s, F, q⟩
  rw [evS] at q
  refine ⟨Z, Wr, ρ, s, F, OkB.bind (P := OkS X.K fa Z Wr ρ H En) (fun z => z) (fun _ _ z => z) q fun d s1 _ q Wr1 ρ1 H1 x1 F1 => ?_⟩
  cases d with
  | true => exact ⟨Z, Wr1, ρ1, s1, F1, q.later x1⟩
  | false => exact ⟨Z, Wr1, ρ1, s1, F1, q.later x1⟩
/-- target = value -/
theorem asg_ok {e : Expr} {x : E} {t : Tg} {σ : L2.St} {H : Hp} {En : Ends} (h : rdS X.K fa (evS gl c (.asg t x)) En σ H) : tAsg (rdE X.K fa (evE gl c x)) (rdTg X.K fa t) En σ H := by
  obtain ⟨Z, Wr, ρ, s, F, q⟩ := h
  rw [evS] at q
  refine ⟨Z, Wr, ρ, s, F, OkD.bindS q fun d s1 _ q Wr1 ρ1 v H1 x1 F1 r1 => ?_⟩
  cases e1 : asg t d s1 with
  | none => rw [e1] at q; exact q.elim
  | some s2 =>
    rw [e1] at q
    exact ⟨Z, Wr1, ρ1, s1, d, s2, F1, r1, e1, fun σ' F' _ => q _ _ _ _ x1 F'⟩
theorem q_set {i : Nat} {x : PySem.Str} {e : Expr} {y : E} {pos pos' : Pos} (hN : X.N.Nodup) (hi : X.N[i]? = some x) (hx : X.env.scope.names.lookup x = some .local ∨ (X.env.scope.names.lookup x = some .cell ∧ X.fn x = true)) (h : SE X fa e (evE gl c y)) (hs : swapsWith e (some (.Name x pos')) pos.line X.env = pure false) :
    SS X fa (.Assign [.Name x pos'] e pos) (evS gl c (.asg (.nm i) y)) := by
  have hl : Loc X.env.scope x := hx.imp id (·.1)
  have hf : X.fn x = true ∨ X.env.scope.names.lookup x = some .local := hx.elim .inr fun z => .inl z.2
  refine PS.imp (ps_set hN hi hl h hs hf) ?_
  intro En σ H q
  obtain ⟨Z, Wr, ρ, s, F, q⟩ := q
  rw [evS] at q
  refine ⟨Z, Wr, ρ, s, F, OkD.bindS q fun d s1 _ q Wr1 ρ1 v H1 x1 F1 r1 => ?_⟩
  rw [asg] at q
  split at q
  · rename_i s2 e2
    split at e2
    · rename_i hlt
      cases e2
      exact q _ _ _ _ x1 (F1.setSh hlt r1)
    · cases e2
  · exact q.elim
/-- name = a new list, the name's own from now on -/
theorem own_ok {i : Nat} {y : E} {σ : L2.St} {H : Hp} {En : Ends} (h : rdS X.K fa (evS gl c (.own i y)) En σ H) : tAsg (rdF X.K fa (evE gl c y)) (gName i) En σ H := by
  obtain ⟨Z, Wr, ρ, s, F, q⟩ := h
  rw [evS] at q
  refine ⟨Z, Wr, ρ, s, F, ?_⟩
  cases e1 : evE gl c y s with
  | exc _ _ => rw [e1] at q; exact q.elim
  | stk => rw [e1] at q; exact q.elim
  | ok d s1 =>
    rw [e1, R.bind_ok] at q
    cases d with
    | lst l =>
      dsimp only at q
      split at q
      · rename_i hlt
        exact fun Wr1 ρ1 a xs H1 x1 F1 w hr hz ho hc ha r => q _ _ _ _ x1 (F1.setOw hlt w hr hz ho hc ha r)
      · exact q.elim
    | _ => exact q.elim
theorem q_own {i : Nat} {x : PySem.Str} {e : Expr} {y : E} {pos pos' : Pos} (hN : X.N.Nodup) (hi : X.N[i]? = some x) (hx : X.env.scope.names.lookup x = some .local ∨ (X.env.scope.names.lookup x = some .cell ∧ X.fn x = true)) (h : SG X fa true e (evE gl c y)) (hs : swapsWith e (some (.Name x pos')) pos.line X.env = pure false) :
    SS X fa (.Assign [.Name x pos'] e pos) (evS gl c (.own i y)) := by
  have hl : Loc X.env.scope x := hx.imp id (·.1)
  have hf : X.fn x = true ∨ X.env.scope.names.lookup x = some .local := hx.elim .inr fun z => .inl z.2
  refine PS.imp (ps_set hN hi hl h.f hs hf) ?_
  intro En σ H q
  exact own_ok gl c q
theorem q_asg {tg e : Expr} {t : Tg} {x : E} {pos : Pos} (hg : STg X fa tg t) (h : SE X fa e (evE gl c x)) (hs : swapsWithSole [tg] e pos.line X.env = pure false) (hw : swappedStores [tg] e X.env = pure none) (h1 : (assignEach [tg] X.env).map (·.2) = [assign tg X.env]) : SS X fa (.Assign [tg] e pos) (evS gl c (.asg t x)) :=
  PS.imp (ps_asg h hg hs hw h1) fun En σ H q => asg_ok (e := e) gl c q
end
end Dn

/-! Dn, part R: pairs of names, o[k] = v, loops. -/
namespace Dn
open PySem PySem.Spec PyProof.Rows L2
section
variable {X : Cx} {fa : Nat → Addr} (gl : List D) (c : Cl)
/-! ### i, j = a, b -/
section
variable {K : PySem.W.Frag} {Z : Zn} {σ : L2.St} {Wr Wr' : Addr → Prop} {ρ ρ' : List Addr} {H H' : Hp} {s : S}
/-- v, which is d, goes into a slot as x -/
def GV (K : PySem.W.Frag) (fa : Nat → Addr) (Z : Zn) (Wr : Addr → Prop) (ρ : List Addr) (H : Hp) (σ : L2.St) (s : S) (v : V) : Sl → Prop
  | .no => False
  | .sh d => Rp K fa Wr ρ H d v
  | .ow l => ∃ a xs, v = .ref a ∧ Wr a ∧ a ∉ ρ ∧ ¬ Z.Wr a ∧ ¬ OwnAt σ s a ∧ (∀ ys, (a, ys) ∉ Z.ac) ∧ H a = some (.lst xs) ∧ RpL K fa Wr ρ H l xs
theorem Fr.setG {i : Nat} {v : V} {x : Sl} (F : Fr K fa Z Wr ρ H σ s) (hi : i < s.env.length) (g : GV K fa Z Wr ρ H σ s v x) : Fr K fa Z Wr ρ H (σ.set i (some v)) (s.setSl i x) := by
  cases x with
  | no => exact g.elim
  | sh d => exact F.setSh hi g
  | ow l =>
    obtain ⟨a, xs, rfl, g1, g2, g3, g4, g5, g6, g7⟩ := g
    exact F.setOw hi g1 g2 g3 g4 g5 g6 g7
/-- another slot was set -/
theorem GV.past {i : Nat} {v u : V} {x y : Sl} (F : Fr K fa Z Wr ρ H σ s) (hi : i < s.env.length) (g : GV K fa Z Wr ρ H σ s v x) (n : ∀ l, x = .ow l → ∀ m, y = .ow m → v ≠ u) : GV K fa Z Wr ρ H (σ.set i (some u)) (s.setSl i y) v x := by
  cases x with
  | no => exact g.elim
  | sh d => exact g
  | ow l =>
    obtain ⟨a, xs, rfl, g1, g2, g3, g4, g5, g6, g7⟩ := g
    refine ⟨a, xs, rfl, g1, g2, g3, ?_, g5, g6, g7⟩
    rintro ⟨j, m, e1, e2⟩
    rw [setSl_get hi] at e1
    split at e1
    · rename_i ej
      cases e1; subst ej
      rw [List.getElem?_set_self (by rw [← F.sl]; exact hi)] at e2
      injection e2 with e2; injection e2 with e2
      exact n l rfl m rfl e2.symm
    · rename_i ej
      rw [List.getElem?_set_ne (fun e => ej e.symm)] at e2
      exact g4 ⟨j, m, e1, e2⟩
end
def slOf (o : Bool) (d : D) : Option Sl := if o then ownOf d else some (.sh d)
/-- a first value, held while the second is reckoned -/
theorem par_ok {i j : Nat} {oi oj : Bool} {a b : E} {σ : L2.St} {H : Hp} {En : Ends} (h : rdS X.K fa (evS gl c (.par i j oi oj a b)) En σ H) : tPar i j (tCons (rdG X.K fa oi (evE gl c a)) (tCons (rdG X.K fa oj (evE gl c b)) tNil)) En σ H := by
  obtain ⟨Z, Wr, ρ, s, F, q⟩ := h
  rw [evS] at q
  cases e1 : evE gl c a s with
  | exc _ _ => rw [e1] at q; exact q.elim
  | stk => rw [e1] at q; exact q.elim
  | ok dx s1 =>
  rw [e1, R.bind_ok] at q
  cases e2 : evE gl c b s1 with
  | exc _ _ => rw [e2] at q; exact q.elim
  | stk => rw [e2] at q; exact q.elim
  | ok dy s2 =>
  rw [e2, R.bind_ok] at q
  have q : OkS X.K fa Z Wr ρ H En (match slOf oi dx, slOf oj dy with
      | some x, some y => if i < s2.env.length ∧ j < s2.env.length then .ok .nx ((s2.setSl i x).setSl j y) else .stk
      | _, _ => .stk) := q
  cases ex : slOf oi dx with
  | none => rw [ex] at q; exact q.elim
  | some x =>
  cases ey : slOf oj dy with
  | none => rw [ex, ey] at q; exact q.elim
  | some y =>
  rw [ex, ey] at q
  dsimp only at q
  split at q
  case isFalse => exact q.elim
  rename_i hij
  -- the end: both are stored
  have fin : ∀ Wr2 ρ2 H2 (v u : V), Ex Wr ρ H Wr2 ρ2 H2 → Fr X.K fa Z Wr2 ρ2 H2 σ s2 → GV X.K fa Z Wr2 ρ2 H2 σ s2 v x → GV X.K fa Z Wr2 ρ2 H2 σ s2 u y → (∀ l, y = .ow l → ∀ m, x = .ow m → u ≠ v) → En.nx ((σ.set i (some v)).set j (some u)) H2 := fun Wr2 ρ2 H2 v u x2 F2 g1 g2 n => by
    have F3 := F2.setG hij.1 g1
    have hj : j < (s2.setSl i x).env.length := by unfold S.setSl; simp only [List.length_set]; exact hij.2
    exact q _ _ _ _ x2 (F3.setG hj (g2.past F2 hij.1 n))
  -- the second value, under either zone
  have snd : ∀ (Z1 : Zn) Wr1 ρ1 H1 (P : V → Hp → Prop), Fr X.K fa Z1 Wr1 ρ1 H1 σ s1 → (∀ Wr2 ρ2 H2 u, Ex Wr1 ρ1 H1 Wr2 ρ2 H2 → Fr X.K fa Z1 Wr2 ρ2 H2 σ s2 → GV X.K fa Z1 Wr2 ρ2 H2 σ s2 u y → P u H2) → rdG X.K fa oj (evE gl c b) σ H1 P := fun Z1 Wr1 ρ1 H1 P F1 k => by
    refine ⟨Z1, Wr1, ρ1, s1, F1, ?_⟩
    rw [e2]
    cases oj with
    | false =>
      have ey : some (Sl.sh dy) = some y := ey
      cases ey
      exact fun Wr2 ρ2 u H2 x2 F2 r2 => k Wr2 ρ2 H2 u x2 F2 r2
    | true =>
      have ey : ownOf dy = some y := ey
      cases dy <;> cases ey
      exact fun Wr2 ρ2 b ys H2 x2 F2 w hr hz ho hc ha r => k Wr2 ρ2 H2 (.ref b) x2 F2 ⟨b, ys, rfl, w, hr, hz, ho, hc, ha, r⟩
  refine ⟨Z, Wr, ρ, s, F, ?_⟩
  rw [e1]
  cases oi with
  | false =>
    have ex : some (Sl.sh dx) = some x := ex
    cases ex
    exact fun Wr1 ρ1 v H1 x1 F1 r1 => snd Z Wr1 ρ1 H1 _ F1 fun Wr2 ρ2 H2 u x2 F2 g2 => ⟨v, u, rfl, fin _ _ _ v u (x1.trans x2) F2 (r1.ext x2) g2 (fun _ _ m e => nomatch e)⟩
  | true =>
    have ex : ownOf dx = some x := ex
    cases dx <;> cases ex
    rename_i l
    intro Wr1 ρ1 a xs H1 x1 F1 w hr hz ho hc ha r
    refine snd _ Wr1 ρ1 H1 _ (F1.acPush w hr hz ho ha) fun Wr2 ρ2 H2 u x2 F2 g2 => ?_
    obtain ⟨F3, p1, p2, p3, p4, p5⟩ := Fr.acPop (Z1 := Z) F2
    refine ⟨.ref a, u, rfl, fin _ _ _ (.ref a) u (x1.trans x2) F3 ⟨a, xs, rfl, p1, p2, p3, p4, hc, p5, r.ext x2⟩ ?_ ?_⟩
    · cases y with
      | no => exact g2.elim
      | sh d => exact g2
      | ow m =>
        obtain ⟨b, ys, rfl, g1, g2, g3, g4, g5, g6, g7⟩ := g2
        exact ⟨b, ys, rfl, g1, g2, g3, g4, fun zs z => g5 zs (List.mem_cons_of_mem _ z), g6, g7⟩
    · rintro m rfl l' _
      obtain ⟨b, ys, rfl, g1, g2, g3, g4, g5, g6, g7⟩ := g2
      intro e
      cases e
      exact g5 xs List.mem_cons_self
theorem q_par {i j : Nat} {oi oj : Bool} {x y : PySem.Str} {a b : Expr} {ea eb : E} {px py pt pos : Pos} {kt k2 : Nat} {pt2 : Pos} (hc : X.calm = true) (hN : X.N.Nodup) (hi : X.N[i]? = some x) (hj : X.N[j]? = some y) (hij : i ≠ j)
    (hx : X.env.scope.names.lookup x = some .local) (hy : X.env.scope.names.lookup y = some .local) (ha : SG X fa oi a (evE gl c ea)) (hb : SG X fa oj b (evE gl c eb)) (ua : unst a = true) (ub : unst b = true)
    (hw : swappedStores [.Tuple [.Name x px, .Name y py] kt pt] (.Tuple [a, b] k2 pt2) X.env = pure (some [x, y])) :
    SS X fa (.Assign [.Tuple [.Name x px, .Name y py] kt pt] (.Tuple [a, b] k2 pt2) pos) (evS gl c (.par i j oi oj ea eb)) :=
  PS.imp (ps_par hc hN hi hj hij hx hy (pa_cons ha (pa_cons hb pa_nil (unst_cons ub)) (unst_cons ua)) hw rfl) fun En σ H q => par_ok gl c q
/-! ### o[k] = v -/
section
variable {K : PySem.W.Frag} {Z : Zn} {σ : L2.St} {Wr Wr' : Addr → Prop} {ρ ρ' : List Addr} {H H' : Hp} {s : S}
theorem nodup_inj {α : Type} {l : List α} (nd : l.Nodup) {i j : Nat} {a : α} (h1 : l[i]? = some a) (h2 : l[j]? = some a) : i = j := by
  obtain ⟨hi, e1⟩ := List.getElem?_eq_some_iff.mp h1
  obtain ⟨hj, e2⟩ := List.getElem?_eq_some_iff.mp h2
  rcases Nat.lt_trichotomy i j with h | h | h
  · exact absurd (e1.trans e2.symm) (List.pairwise_iff_getElem.mp nd i j hi hj h)
  · exact h
  · exact absurd (e2.trans e1.symm) (List.pairwise_iff_getElem.mp nd j i hj hi h)
theorem Fr.stoSet {n : Nat} {a : Addr} {o : SO} {ho : HO} (F : Fr K fa Z Wr ρ H σ s) (hn : ρ[n]? = some a) (hl : n < s.sto.length) (m : Mut (some ho)) (r : RSO K fa Wr ρ H o (some ho)) :
    Fr K fa Z Wr ρ (upd H a ho) σ { s with sto := s.sto.set n o } ∧ Ex Wr ρ H Wr ρ (upd H a ho) := by
  have wa : Wr a := F.rw a (List.mem_of_getElem? hn)
  have x : Ex Wr ρ H Wr ρ (upd H a ho) := ⟨F.mu, fun _ _ z => z, fun b z => .inl z, fun b o e nb => by rw [upd_ne (fun z => nb (by rw [z]; exact wa))]; exact e⟩
  refine ⟨⟨fun b z => ?_, F.rw, F.nd, ?_, fun k o' b e1 e2 => ?_, F.sl, fun j d e => ?_, fun j m e => ?_, F.od, F.z1, F.z2, fun b o' z => ?_, F.z4, F.z5, fun b ys z => ?_⟩, x⟩
  · by_cases eb : b = a
    · subst eb; rw [upd_same]; exact m
    · rw [upd_ne eb]; exact F.mu b z
  · simp only [List.length_set]; exact F.len
  · by_cases ek : k = n
    · subst ek
      rw [hn] at e2; cases e2
      simp only [List.getElem?_set_self hl] at e1
      cases e1
      rw [upd_same]; exact r.ext x
    · simp only [List.getElem?_set_ne (fun z => ek z.symm)] at e1
      have nb : b ≠ a := fun z => by
        subst z
        exact ek (nodup_inj F.nd e2 hn)
      rw [upd_ne nb]
      exact (F.so k o' b e1 e2).ext x
  · obtain ⟨v, e1, e2⟩ := F.sh j d e
    exact ⟨v, e1, e2.ext x⟩
  · obtain ⟨b, zs, g1, g2, g3, g4, g5, g6⟩ := F.ow j m e
    have nb : b ≠ a := fun z => g5 (z ▸ List.mem_of_getElem? hn)
    exact ⟨b, zs, g1, by rw [upd_ne nb]; exact g2, g3.ext x, g4, g5, g6⟩
  · by_cases eb : b = a
    · subst eb
      rcases F.z4 b (List.mem_of_getElem? hn) with q | q
      · exact .inl q
      · rw [z] at q; cases q
    · rcases F.z3 b o' z with z1 | z1
      · exact .inl z1
      · exact .inr (by rw [upd_ne eb]; exact z1)
  · obtain ⟨g1, g2, g3, g4⟩ := F.ac b ys z
    have nb : b ≠ a := fun z => g3 (z ▸ List.mem_of_getElem? hn)
    exact ⟨by rw [upd_ne nb]; exact g1, g2, g3, g4⟩
theorem put_map {d : D} {v : V} {k : Key} (rv : Rp K fa Wr ρ H d v) : ∀ {kvs : List (Key × D)} {vs : List (Key × V)}, vs.map (·.1) = kvs.map (·.1) → RpL K fa Wr ρ H (kvs.map (·.2)) (vs.map (·.2)) →
    (vs.any fun p => decide (p.1 = k)) = (kvs.any fun p => decide (p.1 = k)) ∧ (vs.map fun kv => if kv.1 = k then (kv.1, v) else kv).map (·.1) = (kvs.map fun p => if p.1 = k then (p.1, d) else p).map (·.1) ∧
    RpL K fa Wr ρ H ((kvs.map fun p => if p.1 = k then (p.1, d) else p).map (·.2)) ((vs.map fun kv => if kv.1 = k then (kv.1, v) else kv).map (·.2))
  | [], [], _, _ => ⟨rfl, rfl, .nil⟩
  | [], _ :: _, e, _ => by simp at e
  | _ :: _, [], e, _ => by simp at e
  | p :: kvs, q :: vs, e, r => by
    rw [List.map_cons, List.map_cons] at e r
    injection e with e1 e2
    obtain ⟨u, w, ee, ru, rw'⟩ := r.inv
    injection ee with e3 e4
    obtain ⟨h1, h2, h3⟩ := put_map rv e2 (by rw [e4]; exact rw')
    simp only [List.any_cons, List.map_cons, h1, h2, e1]
    refine ⟨by rw [h1], ?_, ?_⟩
    · congr 1
      split <;> simp [e1]
    · refine .cons ?_ h3
      split
      · exact rv
      · rw [e3]; exact ru
theorem put_rel {d : D} {v : V} {k : Key} (rv : Rp K fa Wr ρ H d v) {kvs : List (Key × D)} {vs : List (Key × V)} (e : vs.map (·.1) = kvs.map (·.1)) (r : RpL K fa Wr ρ H (kvs.map (·.2)) (vs.map (·.2))) : RSO K fa Wr ρ H (.dct (kput kvs k d)) (some (.dK (putK vs k v))) := by
  obtain ⟨h1, h2, h3⟩ := put_map (k := k) rv e r
  refine ⟨putK vs k v, rfl, ?_⟩
  unfold putK kput
  rw [h1]
  split
  · exact ⟨h2, h3⟩
  · rw [List.map_append, List.map_append, List.map_append, List.map_append, e]
    exact ⟨rfl, r.append (.cons rv .nil)⟩
end
theorem keyOf_rel {K : PySem.W.Frag} {Wr : Addr → Prop} {ρ : List Addr} {H : Hp} {d : D} {v : V} {k : Key} (h : keyOf d = some k) (r : Rp K fa Wr ρ H d v) : v = kV k := by
  cases d with
  | int i => cases h; rw [Rp] at r; exact r
  | str x => cases h; rw [Rp] at r; exact r
  | _ => cases h
def rSetB : TSet := fun o i v H Q => rSetD o i v H Q ∨ rSetL o i v H Q
theorem set_both (hu : X.A.units + 200 < cLine) : PSet X rSetB := by
  intro pins s σ H o i v ov iv u Q I ro ri rv h
  rcases h with h | h
  · exact set_dict (by omega) pins s σ H o i v ov iv u Q I ro ri rv h
  · exact set_list pins s σ H o i v ov iv u Q I ro ri rv h
theorem stoPut_inv {sto sto' : List SO} {o k d : D} (h : stoPut sto o k d = some sto') : ∃ n k', o = .ref n ∧ keyOf k = some k' ∧ ((∃ kvs, sto[n]? = some (.dct kvs) ∧ kvs.length < sizeLine ∧ sto' = sto.set n (.dct (kput kvs k' d))) ∨
    ∃ l i j, sto[n]? = some (.lst l) ∧ k' = .inl i ∧ ixN l.length i = some j ∧ sto' = sto.set n (.lst (l.set j d))) := by
  unfold stoPut at h
  split at h
  case h_2 => cases h
  rename_i n k' ek
  refine ⟨n, k', rfl, ek, ?_⟩
  split at h
  · rename_i kvs hs
    split at h
    · rename_i hz
      cases h
      exact .inl ⟨kvs, hs, hz, rfl⟩
    · cases h
  · rename_i l hs
    split at h
    · rename_i i
      split at h
      · rename_i j hj
        cases h
        exact .inr ⟨l, i, j, hs, rfl, hj, rfl⟩
      · cases h
    · cases h
  · cases h
theorem put_ok {o k e : E} {σ : L2.St} {H : Hp} {En : Ends} (h : rdS X.K fa (evS gl c (.put o k e)) En σ H) : tAsg (rdE X.K fa (evE gl c e)) (gSub (rdE X.K fa (evE gl c o)) (rdE X.K fa (evE gl c k)) rSetB) En σ H := by
  obtain ⟨Z, Wr, ρ, s, F, q⟩ := h
  rw [evS] at q
  refine ⟨Z, Wr, ρ, s, F, OkD.bindS q fun d s1 z1 q Wr1 ρ1 v H1 x1 F1 r1 => ⟨Z, Wr1, ρ1, s1, F1, OkD.bindS (q.later x1) fun od s2 z2 q Wr2 ρ2 ov H2 x2 F2 r2 => ⟨Z, Wr2, ρ2, s2, F2, OkD.bindS (q.later x2) fun kd s3 z3 q Wr3 ρ3 iv H3 x3 F3 r3 => ?_⟩⟩⟩
  have r2 := r2.ext x3
  have r1 := r1.ext (x2.trans x3)
  cases es : stoPut s3.sto od kd d with
  | none => rw [es] at q; exact q.elim
  | some sto =>
  rw [es] at q
  obtain ⟨n, k', rfl, ek, hh⟩ := stoPut_inv es
  rw [Rp] at r2
  obtain ⟨a, rfl, ha⟩ := r2
  have hk := keyOf_rel ek r3
  rcases hh with ⟨kvs, hs, hz, rfl⟩ | ⟨l, i, j, hs, rfl, hj, rfl⟩
  · obtain ⟨vs, e1, e2, e3⟩ := F3.so n _ a hs ha
    obtain ⟨F4, x4⟩ := F3.stoSet (ho := .dK (putK vs k' v)) ha (List.getElem?_eq_some_iff.mp hs).1 True.intro (put_rel r1 e2 e3)
    have lz : vs.length < sizeLine := by
      have := congrArg List.length e2
      simp only [List.length_map] at this
      omega
    exact .inl ⟨a, _, rfl, by rw [hk]; exact .k e1 lz, q _ _ _ _ (x3.trans x4) F4⟩
  · obtain ⟨vs, e1, e3⟩ := F3.so n _ a hs ha
    obtain ⟨F4, x4⟩ := F3.stoSet (o := .lst (l.set j d)) (ho := .lst (vs.set j v)) ha (List.getElem?_eq_some_iff.mp hs).1 True.intro ⟨_, rfl, e3.set j r1⟩
    exact .inr ⟨a, vs, i, j, rfl, hk, e1, by rw [e3.len]; exact hj, q _ _ _ _ (x3.trans x4) F4⟩
def noSlE : Expr → Bool
  | .Slice .. => false
  | .Tuple .. => false
  | _ => true
theorem q_put {o k e : Expr} {eo ek ee : E} {spos pos : Pos} (hu : X.A.units + 200 < cLine) (ho : SE X fa o (evE gl c eo)) (hk : SE X fa k (evE gl c ek)) (he : SE X fa e (evE gl c ee)) (hn : noSlE k = true) : SS X fa (.Assign [.Subscript o k spos] e pos) (evS gl c (.put eo ek ee)) := by
  refine PS.imp (ps_asg he (pg_sub ho hk (set_both hu) (by intro v; cases k <;> first | rfl | cases hn)) ?_ ?_ rfl) fun En σ H q => put_ok gl c q
  · cases e <;> rfl
  · cases e <;> rfl
/-! ### loops -/
def notSet : Expr → Bool
  | .Set .. => false
  | _ => true
theorem no_fold {e : Expr} {env : Env} (h : notSet e = true) : ∀ x, foldedSetIterable e env x = pure x := by
  intro x; cases e <;> first | rfl | cases h
theorem drop_cons {α : Type} {l : List α} {i : Nat} {d : α} (h : l[i]? = some d) : l.drop i = d :: l.drop (i + 1) := by
  obtain ⟨hi, e⟩ := List.getElem?_eq_some_iff.mp h
  rw [List.drop_eq_getElem_cons hi, e]
theorem for_ok {t : Tg} {it : Iw} {b : List Sm} {σ : L2.St} {H : Hp} {En : Ends} (h : rdS X.K fa (evS gl c (.fr t it b)) En σ H) : tFor (rdI X.K fa (evIt gl c it)) (rdTg X.K fa t) (rdS X.K fa (evSs gl c b)) En σ H := by
  obtain ⟨Z, Wr, ρ, s, F, q⟩ := h
  rw [evS] at q
  refine ⟨Z, Wr, ρ, s, F, ?_⟩
  cases e1 : evIt gl c it s with
  | exc _ _ => rw [e1] at q; exact q.elim
  | stk => rw [e1] at q; exact q.elim
  | ok items s1 =>
  rw [e1, R.bind_ok] at q
  intro J Wr1 ρ1 H1 x1 F1 Y
  refine ⟨fun i m σ' H' => m = items.length - i ∧ i ≤ items.length ∧ ∃ Wr' ρ' s', Ex Wr1 ρ1 H1 Wr' ρ' H' ∧ Fr X.K fa Z Wr' ρ' H' σ' s' ∧ OkS X.K fa Z Wr' ρ' H' En (loopF (fun d s => match asg t d s with | some s => evSs gl c b s | none => .stk) (items.drop i) s'), ⟨items.length, by simp, Nat.zero_le _, Wr1, ρ1, s1, F1.ex, F1, q.later x1⟩, ?_⟩
  rintro i m σ2 H2 ⟨rfl, hi, Wr2, ρ2, s2, x2, F2, q2⟩
  have y := Y Wr2 ρ2 H2 x2 F2.mu i
  cases e : items[i]? with
  | none =>
    have hge := List.getElem?_eq_none_iff.mp e
    rw [List.drop_eq_nil_of_le hge] at q2
    exact .inl ⟨y.2 hge, q2 _ _ _ _ F2.ex F2⟩
  | some d =>
    have hlt := (List.getElem?_eq_some_iff.mp e).1
    rw [drop_cons e, loopF] at q2
    refine .inr ⟨(y.1 d e).1, fun σ' H' => ∃ m', m' < items.length - i ∧ (m' = items.length - (i + 1) ∧ i + 1 ≤ items.length ∧ ∃ Wr' ρ' s', Ex Wr1 ρ1 H1 Wr' ρ' H' ∧ Fr X.K fa Z Wr' ρ' H' σ' s' ∧ OkS X.K fa Z Wr' ρ' H' En (loopF (fun d s => match asg t d s with | some s => evSs gl c b s | none => .stk) (items.drop (i + 1)) s')), fun σ' H' z => z, fun x H3 hy => ?_⟩
    obtain ⟨same, r⟩ := (y.1 d e).2 x H3 hy
    have F3 := F2.same same
    have x3 : Ex Wr2 ρ2 H2 Wr2 ρ2 H3 := Ex.same F2.mu same
    cases e3 : asg t d s2 with
    | none => rw [e3] at q2; exact q2.elim
    | some s3 =>
    rw [e3] at q2
    refine ⟨Z, Wr2, ρ2, s2, d, s3, F3, r, e3, fun σ3 F4 _ => ⟨Z, Wr2, ρ2, s3, F4, ?_⟩⟩
    dsimp only at q2
    cases e5 : evSs gl c b s3 with
    | stk => rw [e5] at q2; exact q2.elim
    | exc _ _ => rw [e5] at q2; exact q2.elim
    | ok f s4 =>
      rw [e5] at q2
      have again : ∀ Wr5 ρ5 σ5 H5, Ex Wr2 ρ2 H3 Wr5 ρ5 H5 → Fr X.K fa Z Wr5 ρ5 H5 σ5 s4 → OkS X.K fa Z Wr2 ρ2 H2 En (loopF (fun d s => match asg t d s with | some s => evSs gl c b s | none => .stk) (items.drop (i + 1)) s4) → _ := fun Wr5 ρ5 σ5 H5 x5 F5 q2 =>
        (⟨items.length - (i + 1), by omega, rfl, hlt, Wr5, ρ5, s4, x2.trans (x3.trans x5), F5, q2.later (x3.trans x5)⟩ : ∃ m', m' < items.length - i ∧ (m' = items.length - (i + 1) ∧ i + 1 ≤ items.length ∧ ∃ Wr' ρ' s', Ex Wr1 ρ1 H1 Wr' ρ' H5 ∧ Fr X.K fa Z Wr' ρ' H5 σ5 s' ∧ OkS X.K fa Z Wr' ρ' H5 En (loopF (fun d s => match asg t d s with | some s => evSs gl c b s | none => .stk) (items.drop (i + 1)) s')))
      cases f with
      | nx => exact fun Wr5 ρ5 σ5 H5 x5 F5 => again Wr5 ρ5 σ5 H5 x5 F5 q2
      | ct => exact fun Wr5 ρ5 σ5 H5 x5 F5 => again Wr5 ρ5 σ5 H5 x5 F5 q2
      | bk => exact fun Wr5 ρ5 σ5 H5 x5 F5 => q2 _ _ _ _ (x3.trans x5) F5
      | rt dd => exact fun Wr5 ρ5 σ5 v H5 x5 F5 r5 => q2 _ _ _ _ _ (x3.trans x5) F5 r5
theorem q_for {tg iter : Expr} {t : Tg} {it : Iw} {body : List Stmt} {b : List Sm} {pos : Pos} (hp : PassesOwn (model X.prog X.w) X.A X.env X.xe) (hc : X.calm = true) (hi : SIt X fa tg iter (evIt gl c it)) (hg : STg X fa tg t) (hb : SSs X fa body (evSs gl c b)) (hn : notSet iter = true) : SS X fa (.For tg iter body [] pos) (evS gl c (.fr t it b)) :=
  PS.imp (ps_for hp hc hi hg hb (no_fold hn)) fun En σ H q => for_ok gl c q
theorem while_ok {t : T} {b : List Sm} {σ : L2.St} {H : Hp} {En : Ends} (h : rdS X.K fa (evS gl c (.whl t b)) En σ H) : tWhile (rdT X.K fa (evT gl c t)) (rdS X.K fa (evSs gl c b)) En σ H := by
  obtain ⟨Z, Wr, ρ, s, F, q⟩ := h
  rw [evS] at q
  refine ⟨fun m σ' H' => ∃ Wr' ρ' s', Ex Wr ρ H Wr' ρ' H' ∧ Fr X.K fa Z Wr' ρ' H' σ' s' ∧ OkS X.K fa Z Wr' ρ' H' En (loopW (evT gl c t) (evSs gl c b) m s'), ⟨wLim, Wr, ρ, s, F.ex, F, q⟩, ?_⟩
  rintro m σ2 H2 ⟨Wr2, ρ2, s2, x2, F2, q2⟩
  cases m with
  | zero => exact q2.elim
  | succ n =>
    rw [loopW] at q2
    refine ⟨Z, Wr2, ρ2, s2, F2, OkB.bind (P := OkS X.K fa Z Wr2 ρ2 H2 En) (fun z => z) (fun _ _ z => z) q2 fun k s3 _ q3 Wr3 ρ3 H3 x3 F3 => ?_⟩
    cases k with
    | false => exact q3 _ _ _ _ x3 F3
    | true =>
      rw [if_pos rfl] at q3 ⊢
      refine ⟨fun σ' H' => ∃ m', m' < n + 1 ∧ ∃ Wr' ρ' s', Ex Wr ρ H Wr' ρ' H' ∧ Fr X.K fa Z Wr' ρ' H' σ' s' ∧ OkS X.K fa Z Wr' ρ' H' En (loopW (evT gl c t) (evSs gl c b) m' s'), fun σ' H' z => z, Z, Wr3, ρ3, s3, F3, ?_⟩
      cases e5 : evSs gl c b s3 with
      | stk => rw [e5] at q3; exact q3.elim
      | exc _ _ => rw [e5] at q3; exact q3.elim
      | ok f s4 =>
        rw [e5] at q3
        cases f with
        | nx => exact fun Wr5 ρ5 σ5 H5 x5 F5 => ⟨n, Nat.lt_succ_self n, Wr5, ρ5, s4, x2.trans (x3.trans x5), F5, q3.later (x3.trans x5)⟩
        | ct => exact fun Wr5 ρ5 σ5 H5 x5 F5 => ⟨n, Nat.lt_succ_self n, Wr5, ρ5, s4, x2.trans (x3.trans x5), F5, q3.later (x3.trans x5)⟩
        | bk => exact fun Wr5 ρ5 σ5 H5 x5 F5 => q3 _ _ _ _ (x3.trans x5) F5
        | rt dd => exact fun Wr5 ρ5 σ5 v H5 x5 F5 r5 => q3 _ _ _ _ _ (x3.trans x5) F5 r5
theorem q_while {e : Expr} {t : T} {body : List Stmt} {b : List Sm} {pos : Pos} (hp : PassesOwn (model X.prog X.w) X.A X.env X.xe) (ht : STt X fa e (evT gl c t)) (hb : SSs X fa body (evSs gl c b)) : SS X fa (.While e body [] pos) (evS gl c (.whl t b)) :=
  PS.imp (ps_while hp ht hb) fun En σ H q => while_ok gl c q
end
end Dn

/-! Dn, part S: comprehensions. -/
namespace Dn
open PySem PySem.Spec PyProof.Rows L2
/-! ### slots forgotten and put back -/
theorem wipe_in {σ : L2.St} {i : Nat} : ∀ {vs : List Nat}, i ∈ vs → (L2.wipe σ vs)[i]? = if i < σ.length then some none else none
  | v :: vs, h => by
    unfold L2.wipe
    by_cases e : v = i
    · subst e
      by_cases hv : v < (L2.wipe σ vs).length
      · rw [List.getElem?_set_self hv, if_pos (by rwa [wipe_length] at hv)]
      · rw [List.getElem?_eq_none (by simpa using hv), if_neg (by rwa [wipe_length] at hv)]
    · rw [List.getElem?_set_ne e]
      exact wipe_in ((List.mem_cons.mp h).resolve_left fun z => e z.symm)
theorem wipe_eq {σ1 σ2 : L2.St} {vs : List Nat} (hl : σ2.length = σ1.length) (h : ∀ i, i ∉ vs → σ2[i]? = σ1[i]?) : L2.wipe σ2 vs = L2.wipe σ1 vs := by
  apply List.ext_getElem?
  intro i
  by_cases m : i ∈ vs
  · rw [wipe_in m, wipe_in m, hl]
  · rw [wipe_out m, wipe_out m, h i m]
theorem wipe_twice {σ : L2.St} {vs : List Nat} : L2.wipe (L2.wipe σ vs) vs = L2.wipe σ vs := wipe_eq (wipe_length σ vs) fun i m => wipe_out m
theorem back_get : ∀ (vs : List Nat) (e : List Sl) (s : S) (i : Nat), (s.back vs e).env[i]? = if i ∈ vs then (if i < s.env.length then some (Sl.held e[i]?) else none) else s.env[i]?
  | [], e, s, i => by unfold S.back; simp
  | v :: vs, e, s, i => by
    have ih := back_get vs e s i
    have hl : ∀ (vs : List Nat) (r : List Sl), (vs.foldr (fun v r => r.set v (Sl.held e[v]?)) r).length = r.length := fun vs r => by
      induction vs with
      | nil => rfl
      | cons v vs ih => rw [List.foldr_cons, List.length_set, ih]
    unfold S.back at ih ⊢
    dsimp only at ih ⊢
    rw [List.foldr_cons]
    by_cases ev : v = i
    · subst ev
      rw [if_pos List.mem_cons_self]
      by_cases hv : v < s.env.length
      · rw [List.getElem?_set_self (by rw [hl]; exact hv), if_pos hv]
      · rw [List.getElem?_eq_none (by rw [List.length_set, hl]; omega), if_neg hv]
    · rw [List.getElem?_set_ne ev, ih]
      by_cases m : i ∈ vs
      · rw [if_pos m, if_pos (List.mem_cons_of_mem _ m)]
      · rw [if_neg m, if_neg (fun z => (List.mem_cons.mp z).elim (fun q => ev q.symm) m)]
section
variable {K : PySem.W.Frag} {fa : Nat → Addr} {Z : Zn} {σ : L2.St} {Wr Wr' : Addr → Prop} {ρ ρ' : List Addr} {H H' : Hp} {s : S}
theorem Fr.clr {i : Nat} {o : Option V} (F : Fr K fa Z Wr ρ H σ s) : Fr K fa Z Wr ρ H (σ.set i o) (s.setSl i .no) := by
  by_cases hi : i < s.env.length
  · have gs : ∀ {j : Nat}, j ≠ i → (σ.set i o)[j]? = σ[j]? := fun {j} n => List.getElem?_set_ne (fun e => n e.symm)
    have gt : ∀ {j : Nat} {x : Sl}, (s.setSl i .no).env[j]? = some x → x ≠ .no → j ≠ i ∧ s.env[j]? = some x := fun {j x} e n => by
      rw [setSl_get hi] at e
      split at e
      · cases e; exact absurd rfl n
      · exact ⟨by assumption, e⟩
    refine ⟨F.mu, F.rw, F.nd, F.len, F.so, ?_, fun j d e => ?_, fun j l e => ?_, fun j k m n a e1 e2 e3 e4 => ?_, F.z1, F.z2, F.z3, F.z4, F.z5, fun a xs z => ?_⟩
    · unfold S.setSl; simp only [List.length_set]; exact F.sl
    · obtain ⟨n, e⟩ := gt e (fun z => nomatch z)
      rw [gs n]; exact F.sh j d e
    · obtain ⟨n, e⟩ := gt e (fun z => nomatch z)
      rw [gs n]; exact F.ow j l e
    · obtain ⟨n1, e1⟩ := gt e1 (fun z => nomatch z)
      obtain ⟨n2, e2⟩ := gt e2 (fun z => nomatch z)
      rw [gs n1] at e3; rw [gs n2] at e4
      exact F.od j k m n a e1 e2 e3 e4
    · obtain ⟨g1, g2, g3, g4, g5⟩ := F.ac a xs z
      refine ⟨g1, g2, g3, g4, fun j l e => ?_⟩
      obtain ⟨n, e⟩ := gt e (fun z => nomatch z)
      rw [gs n]; exact g5 j l e
  · have e1 : s.setSl i .no = s := by
      unfold S.setSl
      rw [List.set_eq_of_length_le (by omega)]
    have e2 : σ.set i o = σ := List.set_eq_of_length_le (by rw [← F.sl]; omega)
    rw [e1, e2]; exact F
theorem Fr.wipe (F : Fr K fa Z Wr ρ H σ s) : ∀ vs : List Nat, Fr K fa Z Wr ρ H (L2.wipe σ vs) (s.wipe vs)
  | [] => F
  | v :: vs => Fr.clr (i := v) (o := none) (Fr.wipe F vs)
theorem Fr.back {vs : List Nat} {e : List Sl} (F : Fr K fa Z Wr ρ H (L2.wipe σ vs) s) (h : ∀ (i : Nat) d, e[i]? = some (.sh d) → ∃ u, σ[i]? = some (some u) ∧ Rp K fa Wr ρ H d u) : Fr K fa Z Wr ρ H σ (s.back vs e) := by
  have hl : ∀ (vs : List Nat) (r : List Sl), (vs.foldr (fun v r => r.set v (Sl.held e[v]?)) r).length = r.length := fun vs r => by
    induction vs with
    | nil => rfl
    | cons v vs ih => rw [List.foldr_cons, List.length_set, ih]
  have ow : ∀ {j : Nat} {l : List D}, (s.back vs e).env[j]? = some (.ow l) → j ∉ vs ∧ s.env[j]? = some (.ow l) := fun {j l} z => by
    rw [back_get] at z
    split at z
    · split at z
      · injection z with z
        cases q : e[j]? with
        | none => rw [q] at z; cases z
        | some x => rw [q] at z; cases x <;> cases z
      · cases z
    · exact ⟨by assumption, z⟩
  refine ⟨F.mu, F.rw, F.nd, F.len, F.so, ?_, fun j d z => ?_, fun j l z => ?_, fun j k m n a e1 e2 e3 e4 => ?_, F.z1, F.z2, F.z3, F.z4, F.z5, fun a xs z => ?_⟩
  · unfold S.back; dsimp only; rw [hl, F.sl, wipe_length]
  · rw [back_get] at z
    split at z
    · split at z
      · injection z with z
        cases q : e[j]? with
        | none => rw [q] at z; cases z
        | some x =>
          rw [q] at z
          cases x with
          | sh d' => cases z; exact h j _ q
          | no => cases z
          | ow _ => cases z
      · cases z
    · obtain ⟨v, e1, e2⟩ := F.sh j d z
      exact ⟨v, (wipe_some e1).1, e2⟩
  · obtain ⟨n, z⟩ := ow z
    obtain ⟨a, xs, e1, e2⟩ := F.ow j l z
    exact ⟨a, xs, (wipe_some e1).1, e2⟩
  · obtain ⟨n1, e1⟩ := ow e1
    obtain ⟨n2, e2⟩ := ow e2
    exact F.od j k m n a e1 e2 (by rw [wipe_out n1]; exact e3) (by rw [wipe_out n2]; exact e4)
  · obtain ⟨g1, g2, g3, g4, g5⟩ := F.ac a xs z
    refine ⟨g1, g2, g3, g4, fun j l q => ?_⟩
    obtain ⟨n, q⟩ := ow q
    have := g5 j l q
    rwa [wipe_out n] at this
/-- a new list, under way -/
theorem Fr.acNew {p : Addr} (F : Fr K fa Z Wr ρ H σ s) (hp : H p = none) : Fr K fa { Z with ac := (p, []) :: Z.ac } (fun a => Wr a ∨ a = p) ρ (upd H p (.lst [])) σ s ∧ Ex Wr ρ H (fun a => Wr a ∨ a = p) ρ (upd H p (.lst [])) := by
  have np : ¬ Wr p := F.wfresh hp
  have x : Ex Wr ρ H (fun a => Wr a ∨ a = p) ρ (upd H p (.lst [])) := ⟨F.mu, fun _ _ z => z, fun a z => z.elim .inl fun e => .inr (e ▸ hp), fun a o e _ => by rw [upd_ne (ne_of_none e hp)]; exact e⟩
  have ne : ∀ a, Wr a → a ≠ p := fun a w e => np (e ▸ w)
  refine ⟨⟨fun a w => ?_, fun a z => .inl (F.rw a z), F.nd, F.len, fun n o a h1 h2 => ?_, F.sl, fun i d e => ?_, fun i l e => ?_, F.od, F.z1, fun a w => .inl (F.z2 a w), fun a o z => ?_, F.z4, fun a w => ?_, fun a ys z => ?_⟩, x⟩
  · by_cases e : a = p
    · subst e; rw [upd_same]; trivial
    · rw [upd_ne e]; exact F.mu a (w.resolve_right e)
  · rw [upd_ne (ne a (F.rw a (List.mem_of_getElem? h2)))]
    exact (F.so n o a h1 h2).ext x
  · obtain ⟨v, e1, e2⟩ := F.sh i d e
    exact ⟨v, e1, e2.ext x⟩
  · obtain ⟨a, xs, h1, h2, h3, h4, h5, h6⟩ := F.ow i l e
    exact ⟨a, xs, h1, by rw [upd_ne (ne a h4)]; exact h2, h3.ext x, .inl h4, h5, h6⟩
  · rcases F.z3 a o z with q | q
    · exact .inl q
    · exact .inr (by rw [upd_ne (ne_of_none q hp)]; exact q)
  · rcases w with w | rfl
    · exact F.z5 a w
    · exact .inr (F.zfresh hp)
  · rcases List.mem_cons.mp z with z | z
    · cases z
      refine ⟨upd_same, .inr rfl, fun z => np (F.rw p z), fun z => np (F.z2 p z), fun i l e e' => ?_⟩
      obtain ⟨a, xs, h1, h2, h3, h4, _⟩ := F.ow i l e
      rw [e'] at h1; cases h1
      exact np h4
    · obtain ⟨g1, g2, g3⟩ := F.ac a ys z
      exact ⟨by rw [upd_ne (ne a g2)]; exact g1, .inl g2, g3⟩
/-- .. takes an item -/
theorem Fr.acAdd {p : Addr} {xs : List V} {r : List (Addr × List V)} {y : V} (F : Fr K fa { Z with ac := (p, xs) :: r } Wr ρ H σ s) (nr : ∀ ys, (p, ys) ∉ r) : Fr K fa { Z with ac := (p, xs ++ [y]) :: r } Wr ρ (upd H p (.lst (xs ++ [y]))) σ s ∧ Ex Wr ρ H Wr ρ (upd H p (.lst (xs ++ [y]))) := by
  obtain ⟨h1, h2, h3, h4, h5⟩ := F.ac p xs List.mem_cons_self
  have x : Ex Wr ρ H Wr ρ (upd H p (.lst (xs ++ [y]))) := ⟨F.mu, fun _ _ z => z, fun b z => .inl z, fun b o e n => by rw [upd_ne (fun z => n (by rw [z]; exact h2))]; exact e⟩
  refine ⟨⟨fun a w => ?_, F.rw, F.nd, F.len, fun n o a e1 e2 => ?_, F.sl, fun i d e => ?_, fun i l e => ?_, F.od, F.z1, F.z2, fun a o z => ?_, F.z4, F.z5, fun a ys z => ?_⟩, x⟩
  · by_cases e : a = p
    · subst e; rw [upd_same]; trivial
    · rw [upd_ne e]; exact F.mu a w
  · rw [upd_ne (fun e => h3 (by rw [← e]; exact List.mem_of_getElem? e2))]
    exact (F.so n o a e1 e2).ext x
  · obtain ⟨v, e1, e2⟩ := F.sh i d e
    exact ⟨v, e1, e2.ext x⟩
  · obtain ⟨a, zs, g1, g2, g3, g4, g5, g6⟩ := F.ow i l e
    have na : a ≠ p := fun z => h5 i l e (z ▸ g1)
    exact ⟨a, zs, g1, by rw [upd_ne na]; exact g2, g3.ext x, g4, g5, g6⟩
  · by_cases e : a = p
    · subst e
      rcases F.z5 a h2 with q | q
      · exact absurd q h4
      · have z : Z.H a = some o := z
        have q : Z.H a = none := q
        rw [z] at q; cases q
    · rcases F.z3 a o z with q | q
      · exact .inl q
      · exact .inr (by rw [upd_ne e]; exact q)
  · rcases List.mem_cons.mp z with z | z
    · cases z; exact ⟨upd_same, h2, h3, h4, h5⟩
    · obtain ⟨g1, g2, g3⟩ := F.ac a ys (List.mem_cons_of_mem _ z)
      have na : a ≠ p := fun e => nr ys (e ▸ z)
      exact ⟨by rw [upd_ne na]; exact g1, g2, g3⟩
/-- a list that nobody else knows, as a value -/
theorem OkG.fresh {fr : Bool} {Q : VK} {l : List D} {a : Addr} {xs : List V} (q : OkG K fa fr Z σ Wr ρ H Q (.ok (.lst l) s)) (x : Ex Wr ρ H Wr' ρ' H') (F : Fr K fa Z Wr' ρ' H' σ s) (w : Wr' a) (hr : a ∉ ρ') (hz : ¬ Z.Wr a) (ho : ¬ OwnAt σ s a) (hc : ∀ ys, (a, ys) ∉ Z.ac) (ha : H' a = some (.lst xs)) (r : RpL K fa Wr' ρ' H' l xs) : Q (.ref a) H' := by
  cases fr with
  | true => exact q _ _ _ _ _ x F w hr hz ho hc ha r
  | false =>
    have x2 : Ex Wr' ρ' H' (fun b => Wr' b ∧ b ≠ a) ρ' H' := ⟨F.mu, fun _ _ z => z, fun b z => .inl z.1, fun b o e _ => e⟩
    have rr : Rp K fa (fun b => Wr' b ∧ b ≠ a) ρ' H' (.lst l) (.ref a) := by
      rw [Rp]; exact ⟨a, xs, rfl, ⟨fun z => z.2 rfl, .inl ha⟩, r.ext x2⟩
    refine q _ _ _ _ (x.trans x2) ⟨fun b z => F.mu b z.1, fun b z => ⟨F.rw b z, fun e => hr (e ▸ z)⟩, F.nd, F.len, fun n o b e1 e2 => (F.so n o b e1 e2).ext x2, F.sl, fun i d e => ?_, fun i m e => ?_, F.od, F.z1, fun b z => ⟨F.z2 b z, fun e => hz (e ▸ z)⟩, F.z3, F.z4, fun b z => F.z5 b z.1, fun b ys z => ?_⟩ rr
    · obtain ⟨v, e1, e2⟩ := F.sh i d e
      exact ⟨v, e1, e2.ext x2⟩
    · obtain ⟨b, ys, g1, g2, g3, g4, g5, g6⟩ := F.ow i m e
      exact ⟨b, ys, g1, g2, g3.ext x2, ⟨g4, fun z => ho ⟨i, m, e, z ▸ g1⟩⟩, g5, g6⟩
    · obtain ⟨g1, g2, g3⟩ := F.ac b ys z
      exact ⟨g1, ⟨g2, fun e => hc ys (e ▸ z)⟩, g3⟩
end
theorem fold_cons {f : D → List D → S → R (List D)} {d : D} {ds acc : List D} {s : S} : fold f (d :: ds) acc s = (f d acc s).bind fun acc s => fold f ds acc s := by
  rw [fold]; cases f d acc s <;> rfl
section
variable {X : Cx} {fa : Nat → Addr} (gl : List D) (c : Cl)
/-- the turn of a comprehension -/
def turnF (gl : List D) (c : Cl) (vs : List Nat) (el : E) (tg : Tg) (ifs : Ts) : D → List D → S → R (List D) := fun d acc s => match asg tg d s with
  | some s => (evTs gl c ifs s).bind fun k s => if k then (evE gl c el s).bind fun x s => if acc.length < sizeLine then .ok (acc ++ [x]) (s.wipe vs) else .stk else .ok acc (s.wipe vs)
  | none => .stk
theorem evComp {vs : List Nat} {el : E} {tg : Tg} {it : Iw} {ifs : Ts} {s : S} : evE gl c (.comp vs el (.mk tg it ifs)) s = (evIt gl c it s).bind fun items s => (fold (turnF gl c vs el tg ifs) items [] (s.wipe vs)).bind fun l s2 => .ok (.lst l) (s2.back vs s.env) := by
  rw [evE]; rfl
theorem okG_stk {K : PySem.W.Frag} {fr : Bool} {Z : Zn} {σ : L2.St} {Wr : Addr → Prop} {ρ : List Addr} {H : Hp} {Q : VK} {α : Type} {f : α → S → R D} (h : OkG K fa fr Z σ Wr ρ H Q ((R.stk).bind f)) : False := notG_stk h
theorem lc_ok {fr : Bool} {vs : List Nat} {el : E} {t : Tg} {it : Iw} {ts : Ts} {σ : L2.St} {H : Hp} {Q : VK} (hv : ∀ i ∈ tgv t, i ∈ vs) (h : rdG X.K fa fr (evE gl c (.comp vs el (.mk t it ts))) σ H Q) :
    tLc (rdI X.K fa (evIt gl c it)) (rdTg X.K fa t) (rdT X.K fa (evTs gl c ts)) (rdE X.K fa (evE gl c el)) vs σ H Q := by
  obtain ⟨Z, Wr, ρ, s, F, q⟩ := h
  rw [evComp] at q
  refine ⟨Z, Wr, ρ, s, F, ?_⟩
  cases e1 : evIt gl c it s with
  | exc _ _ => rw [e1] at q; exact (notG_exc _ _ q).elim
  | stk => rw [e1] at q; exact (notG_stk q).elim
  | ok items s1 =>
  rw [e1, R.bind_ok] at q
  intro J Wr1 ρ1 H1 x1 F1 Y Dl hD
  have q := q.later x1
  obtain ⟨F2, x2⟩ := (F1.wipe vs).acNew hD
  have nZ : ∀ ys, (Dl, ys) ∉ Z.ac := fun ys z => by have := (F1.ac Dl ys z).1; rw [hD] at this; cases this
  let W : Nat → Nat → Hp → Prop := fun i m H' => m = items.length - i ∧ i ≤ items.length ∧ ∃ Wr' ρ' s' acc xs, Ex Wr1 ρ1 H1 Wr' ρ' H' ∧ Fr X.K fa { Z with ac := (Dl, xs) :: Z.ac } Wr' ρ' H' (L2.wipe σ vs) s' ∧ RpL X.K fa Wr' ρ' H' acc xs ∧
    OkG X.K fa fr Z σ Wr1 ρ1 H1 Q ((fold (turnF gl c vs el t ts) (items.drop i) acc s').bind fun l s2 => .ok (.lst l) (s2.back vs s1.env))
  refine ⟨W, ⟨items.length, by simp, Nat.zero_le _, _, _, _, [], [], x2, F2, .nil, q⟩, ?_⟩
  rintro i m H2 ⟨rfl, hi, Wr2, ρ2, s2, acc, xs, x3, F3, rl, q2⟩
  have y := Y Wr2 ρ2 H2 x3 F3.mu i
  cases e : items[i]? with
  | none =>
    have hge := List.getElem?_eq_none_iff.mp e
    rw [List.drop_eq_nil_of_le hge, fold, R.bind_ok] at q2
    refine .inl ⟨y.2 hge, ?_⟩
    obtain ⟨F4, p1, p2, p3, p4, p5⟩ := Fr.acPop (Z1 := Z) F3
    have F5 : Fr X.K fa Z Wr2 ρ2 H2 σ (s2.back vs s1.env) := F4.back fun j d e => by
      obtain ⟨v, g1, g2⟩ := F1.sh j d e
      exact ⟨v, g1, g2.ext x3⟩
    refine q2.fresh x3 F5 p1 p2 p3 ?_ nZ p5 rl
    rintro ⟨j, l, g1, g2⟩
    rw [back_get] at g1
    split at g1
    · split at g1
      · injection g1 with g1
        cases q' : s1.env[j]? with
        | none => rw [q'] at g1; cases g1
        | some z => rw [q'] at g1; cases z <;> cases g1
      · cases g1
    · rename_i nj
      exact p4 ⟨j, l, g1, by rw [wipe_out nj]; exact g2⟩
  | some d =>
    have hlt := (List.getElem?_eq_some_iff.mp e).1
    rw [drop_cons e, fold_cons] at q2
    refine .inr ⟨(y.1 d e).1, fun H' => ∃ m', m' < items.length - i ∧ W (i + 1) m' H', fun H' z => z, fun x H3 hy => ?_⟩
    obtain ⟨same, r⟩ := (y.1 d e).2 x H3 hy
    have F4 := F3.same same
    have x4 : Ex Wr2 ρ2 H2 Wr2 ρ2 H3 := Ex.same F3.mu same
    unfold turnF at q2
    cases e3 : asg t d s2 with
    | none => simp only [e3] at q2; exact (notG_stk q2).elim
    | some s3 =>
    simp only [e3] at q2
    refine ⟨_, Wr2, ρ2, s2, d, s3, F4, r, e3, fun σ3 F5 hσ => ⟨?_, _, Wr2, ρ2, s3, F5, ?_⟩⟩
    · have := wipe_eq (vs := vs) hσ.1 fun j nj => hσ.2 j fun z => nj (hv j z)
      rw [this, wipe_twice]
    have wσ : L2.wipe σ3 vs = L2.wipe σ vs := by
      have := wipe_eq (vs := vs) hσ.1 fun j nj => hσ.2 j fun z => nj (hv j z)
      rw [this, wipe_twice]
    cases e5 : evTs gl c ts s3 with
    | stk => simp only [e5] at q2; exact (notG_stk q2).elim
    | exc _ _ => simp only [e5] at q2; exact (notG_exc _ _ q2).elim
    | ok k s4 =>
    simp only [e5, R.bind_ok] at q2
    intro Wr5 ρ5 H5 x5 F6
    cases k with
    | false =>
      simp only [Bool.false_eq_true, if_false, R.bind_ok] at q2 ⊢
      have F7 := F6.wipe vs
      rw [wσ] at F7
      exact ⟨items.length - (i + 1), by omega, rfl, hlt, Wr5, ρ5, _, acc, xs, x3.trans (x4.trans x5), F7, rl.ext (x4.trans x5), q2⟩
    | true =>
      simp only [if_true] at q2 ⊢
      refine ⟨_, Wr5, ρ5, s4, F6, ?_⟩
      cases e6 : evE gl c el s4 with
      | stk => simp only [e6] at q2; exact (notG_stk q2).elim
      | exc _ _ => simp only [e6] at q2; exact (notG_exc _ _ q2).elim
      | ok dy s5 =>
      simp only [e6, R.bind_ok] at q2
      intro Wr6 ρ6 v H6 x6 F8 r6
      split at q2
      case isFalse => exact (notG_stk q2).elim
      rename_i hz
      rw [R.bind_ok] at q2
      obtain ⟨g1, _⟩ := F8.ac Dl xs List.mem_cons_self
      obtain ⟨F9, x9⟩ := Fr.acAdd (Z := Z) (y := v) F8 nZ
      have F10 := F9.wipe vs
      rw [wσ] at F10
      have xa := x4.trans (x5.trans (x6.trans x9))
      refine ⟨xs, g1, by rw [rl.len]; exact hz, items.length - (i + 1), by omega, rfl, hlt, Wr6, ρ6, _, acc ++ [dy], xs ++ [v], x3.trans xa, F10, (rl.ext xa).append (.cons (r6.ext x9) .nil), q2⟩
theorem tests_nil {ifs : Ts} : PTs X [] (rdT X.K fa (evTs gl c .nil)) := ⟨fun pins s σ H Q I h => pts_nil.run pins s σ H Q I (by
  obtain ⟨Z, Wr, ρ, t, F, q⟩ := h
  rw [evTs] at q
  exact q _ _ _ F.ex F)⟩
theorem tests_one {e : Expr} {t : T} (h : STt X fa e (evT gl c t)) : PTs X [e] (rdT X.K fa (evTs gl c (.cons t .nil))) := ⟨fun pins s σ H Q I h0 => (pts_one h).run pins s σ H Q I (by
  obtain ⟨Z, Wr, ρ, t', F, q⟩ := h0
  rw [evTs] at q
  refine ⟨Z, Wr, ρ, t', F, OkB.bind (P := OkB X.K fa Z σ Wr ρ H Q) (fun z => z) (fun _ _ z => z) q fun k s1 _ q Wr1 ρ1 H1 x1 F1 => ?_⟩
  cases k with
  | true =>
    rw [if_pos rfl, evTs] at q
    exact q _ _ _ x1 F1
  | false => exact q _ _ _ x1 F1)⟩
theorem s_comp {fr : Bool} {elt tg iter : Expr} {ifs : List Expr} {scope : Scope} {own : List (PySem.Str × Nat)} {pos : Pos} {t : Tg} {it : Iw} {ts : Ts} {x : E} (hc : X.calm = true) (hN : X.N.Nodup) (hi : SIt X fa tg iter (evIt gl c it)) (ok : BlkOk X.N X.env.scope scope own)
    (hg : ∀ (s : Shared) (H : Hp) (C : Addr) (cl : List (PySem.Str × Addr)) (fp : List Addr), STg (X.blk s H scope (compEnvC scope cl C X.env) fp) fa tg t) (ht : ∀ (s : Shared) (H : Hp) (C : Addr) (cl : List (PySem.Str × Addr)) (fp : List Addr), PTs (X.blk s H scope (compEnvC scope cl C X.env) fp) ifs (rdT X.K fa (evTs gl c ts)))
    (he : ∀ (s : Shared) (H : Hp) (C : Addr) (cl : List (PySem.Str × Addr)) (fp : List Addr), SE (X.blk s H scope (compEnvC scope cl C X.env) fp) fa elt (evE gl c x)) (hn : notSet iter = true) (hv : ∀ i ∈ tgv t, i ∈ own.map (·.2)) : SG X fa fr (.ListComp elt [⟨tg, iter, ifs, 0⟩] scope pos) (evE gl c (.comp (own.map (·.2)) x (.mk t it ts))) :=
  PE.imp (pe_lc (g := rdTg X.K fa t) (tt := rdT X.K fa (evTs gl c ts)) (te := rdE X.K fa (evE gl c x)) hc hN hi ok hg ht he (no_fold hn)) fun σ H Q q => lc_ok gl c hv q
/-- the outer turn -/
def turnG (gl : List D) (c : Cl) (vs vs1 : List Nat) (el : E) (tg : Tg) (ifs : Ts) (tg1 : Tg) (it1 : Iw) (ifs1 : Ts) : D → List D → S → R (List D) := fun d acc s => match asg tg d s with
  | some s => (evTs gl c ifs s).bind fun k s => if k then (evIt gl c it1 s).bind fun items1 s => (fold (turnF gl c vs1 el tg1 ifs1) items1 acc (s.wipe vs1)).bind fun l s => .ok l (s.wipe vs) else .ok acc (s.wipe vs)
  | none => .stk
theorem evComp2 {vs vs1 : List Nat} {el : E} {tg tg1 : Tg} {it it1 : Iw} {ifs ifs1 : Ts} {s : S} : evE gl c (.comp2 vs vs1 el (.mk tg it ifs) (.mk tg1 it1 ifs1)) s = (evIt gl c it s).bind fun items s => (fold (turnG gl c vs vs1 el tg ifs tg1 it1 ifs1) items [] (s.wipe vs)).bind fun l s2 => .ok (.lst l) (s2.back vs s.env) := by
  rw [evE]; rfl
theorem lc2_ok {fr : Bool} {vs vs1 : List Nat} {el : E} {t t1 : Tg} {it it1 : Iw} {ts ts1 : Ts} {σ : L2.St} {H : Hp} {Q : VK} (hv : ∀ i ∈ tgv t, i ∈ vs) (hv1 : ∀ i ∈ tgv t1, i ∈ vs1) (hs : ∀ i ∈ vs1, i ∈ vs) (h : rdG X.K fa fr (evE gl c (.comp2 vs vs1 el (.mk t it ts) (.mk t1 it1 ts1))) σ H Q) :
    tLc2 (rdI X.K fa (evIt gl c it)) (rdTg X.K fa t) (rdT X.K fa (evTs gl c ts)) (rdI X.K fa (evIt gl c it1)) (rdTg X.K fa t1) (rdT X.K fa (evTs gl c ts1)) (rdE X.K fa (evE gl c el)) vs vs1 σ H Q := by
  obtain ⟨Z, Wr, ρ, s, F, q⟩ := h
  rw [evComp2] at q
  refine ⟨Z, Wr, ρ, s, F, ?_⟩
  cases e1 : evIt gl c it s with
  | exc _ _ => rw [e1] at q; exact (notG_exc _ _ q).elim
  | stk => rw [e1] at q; exact (notG_stk q).elim
  | ok items s1 =>
  rw [e1, R.bind_ok] at q
  intro J Wr1 ρ1 H1 x1 F1 Y Dl hD
  have q := q.later x1
  obtain ⟨F2, x2⟩ := (F1.wipe vs).acNew hD
  have nZ : ∀ ys, (Dl, ys) ∉ Z.ac := fun ys z => by have := (F1.ac Dl ys z).1; rw [hD] at this; cases this
  let W : Nat → Nat → Hp → Prop := fun i m H' => m = items.length - i ∧ i ≤ items.length ∧ ∃ Wr' ρ' s' acc xs, Ex Wr1 ρ1 H1 Wr' ρ' H' ∧ Fr X.K fa { Z with ac := (Dl, xs) :: Z.ac } Wr' ρ' H' (L2.wipe σ vs) s' ∧ RpL X.K fa Wr' ρ' H' acc xs ∧
    OkG X.K fa fr Z σ Wr1 ρ1 H1 Q ((fold (turnG gl c vs vs1 el t ts t1 it1 ts1) (items.drop i) acc s').bind fun l s2 => .ok (.lst l) (s2.back vs s1.env))
  refine ⟨W, ⟨items.length, by simp, Nat.zero_le _, _, _, _, [], [], x2, F2, .nil, q⟩, ?_⟩
  rintro i m H2 ⟨rfl, hi, Wr2, ρ2, s2, acc, xs, x3, F3, rl, q2⟩
  have y := Y Wr2 ρ2 H2 x3 F3.mu i
  cases e : items[i]? with
  | none =>
    have hge := List.getElem?_eq_none_iff.mp e
    rw [List.drop_eq_nil_of_le hge, fold, R.bind_ok] at q2
    refine .inl ⟨y.2 hge, ?_⟩
    obtain ⟨F4, p1, p2, p3, p4, p5⟩ := Fr.acPop (Z1 := Z) F3
    have F5 : Fr X.K fa Z Wr2 ρ2 H2 σ (s2.back vs s1.env) := F4.back fun j d e => by
      obtain ⟨v, g1, g2⟩ := F1.sh j d e
      exact ⟨v, g1, g2.ext x3⟩
    refine q2.fresh x3 F5 p1 p2 p3 ?_ nZ p5 rl
    rintro ⟨j, l, g1, g2⟩
    rw [back_get] at g1
    split at g1
    · split at g1
      · injection g1 with g1
        cases q' : s1.env[j]? with
        | none => rw [q'] at g1; cases g1
        | some z => rw [q'] at g1; cases z <;> cases g1
      · cases g1
    · rename_i nj
      exact p4 ⟨j, l, g1, by rw [wipe_out nj]; exact g2⟩
  | some d =>
    have hlt := (List.getElem?_eq_some_iff.mp e).1
    rw [drop_cons e, fold_cons] at q2
    refine .inr ⟨(y.1 d e).1, fun H' => ∃ m', m' < items.length - i ∧ W (i + 1) m' H', fun H' z => z, fun x H3 hy => ?_⟩
    obtain ⟨same, r⟩ := (y.1 d e).2 x H3 hy
    have F4 := F3.same same
    have x4 : Ex Wr2 ρ2 H2 Wr2 ρ2 H3 := Ex.same F3.mu same
    generalize hf : (fun (acc : List D) (s : S) => fold (turnG gl c vs vs1 el t ts t1 it1 ts1) (items.drop (i + 1)) acc s) = rest at q2
    unfold turnG at q2
    cases e3 : asg t d s2 with
    | none => simp only [e3] at q2; exact (notG_stk q2).elim
    | some s3 =>
    simp only [e3] at q2
    refine ⟨_, Wr2, ρ2, s2, d, s3, F4, r, e3, fun σ3 F5 hσ => ⟨?_, _, Wr2, ρ2, s3, F5, ?_⟩⟩
    · have := wipe_eq (vs := vs) hσ.1 fun j nj => hσ.2 j fun z => nj (hv j z)
      rw [this, wipe_twice]
    have wσ : L2.wipe σ3 vs = L2.wipe σ vs := by
      have := wipe_eq (vs := vs) hσ.1 fun j nj => hσ.2 j fun z => nj (hv j z)
      rw [this, wipe_twice]
    cases e5 : evTs gl c ts s3 with
    | stk => simp only [e5] at q2; exact (notG_stk q2).elim
    | exc _ _ => simp only [e5] at q2; exact (notG_exc _ _ q2).elim
    | ok k s4 =>
    simp only [e5, R.bind_ok] at q2
    intro Wr5 ρ5 H5 x5 F6
    cases k with
    | false =>
      simp only [Bool.false_eq_true, if_false, R.bind_ok] at q2 ⊢
      have F7 := F6.wipe vs
      rw [wσ] at F7
      subst hf
      exact ⟨items.length - (i + 1), by omega, rfl, hlt, Wr5, ρ5, _, acc, xs, x3.trans (x4.trans x5), F7, rl.ext (x4.trans x5), q2⟩
    | true =>
      simp only [if_true] at q2 ⊢
      refine ⟨_, Wr5, ρ5, s4, F6, ?_⟩
      cases e6 : evIt gl c it1 s4 with
      | stk => simp only [e6] at q2; exact (notG_stk q2).elim
      | exc _ _ => simp only [e6] at q2; exact (notG_exc _ _ q2).elim
      | ok items1 s5 =>
      simp only [e6, R.bind_ok] at q2
      intro J1 Wr6 ρ6 H6 x6 F7 Y1
      have F8 := F7.wipe vs1
      have xb := x3.trans (x4.trans (x5.trans x6))
      let W1 : Nat → Nat → Hp → Prop := fun j k H' => k = items1.length - j ∧ j ≤ items1.length ∧ ∃ Wr' ρ' s' acc xs, Ex Wr6 ρ6 H6 Wr' ρ' H' ∧ Fr X.K fa { Z with ac := (Dl, xs) :: Z.ac } Wr' ρ' H' (L2.wipe σ3 vs1) s' ∧ RpL X.K fa Wr' ρ' H' acc xs ∧
        OkG X.K fa fr Z σ Wr1 ρ1 H1 Q ((((fold (turnF gl c vs1 el t1 ts1) (items1.drop j) acc s').bind fun l s => .ok l (s.wipe vs)).bind rest).bind fun l s2 => .ok (.lst l) (s2.back vs s1.env))
      refine ⟨W1, ⟨items1.length, by simp, Nat.zero_le _, _, _, _, acc, xs, F8.ex, F8, rl.ext (x4.trans (x5.trans x6)), q2⟩, ?_⟩
      clear q2
      rintro j k' H7 ⟨rfl, hj, Wr7, ρ7, s7, acc7, xs7, x7, F9, rl7, q7⟩
      have y1 := Y1 Wr7 ρ7 H7 x7 F9.mu j
      cases e7 : items1[j]? with
      | none =>
        have hge := List.getElem?_eq_none_iff.mp e7
        rw [List.drop_eq_nil_of_le hge, fold] at q7
        simp only [R.bind_ok] at q7
        subst hf
        have F10 := F9.wipe vs
        have ew : L2.wipe (L2.wipe σ3 vs1) vs = L2.wipe σ vs := by
          rw [← wσ]
          exact wipe_eq (wipe_length σ3 vs1) fun j nj => wipe_out fun z => nj (hs j z)
        rw [ew] at F10
        exact .inl ⟨y1.2 hge, items.length - (i + 1), by omega, rfl, hlt, Wr7, ρ7, _, acc7, xs7, xb.trans x7, F10, rl7, q7⟩
      | some d7 =>
        have hlt7 := (List.getElem?_eq_some_iff.mp e7).1
        rw [drop_cons e7, fold_cons] at q7
        refine .inr ⟨(y1.1 d7 e7).1, fun H' => ∃ m', m' < items1.length - j ∧ W1 (j + 1) m' H', fun H' z => z, fun x8 H8 hy8 => ?_⟩
        obtain ⟨same8, r8⟩ := (y1.1 d7 e7).2 x8 H8 hy8
        have F10 := F9.same same8
        have x9 : Ex Wr7 ρ7 H7 Wr7 ρ7 H8 := Ex.same F9.mu same8
        generalize hf2 : (fun (acc : List D) (s : S) => fold (turnF gl c vs1 el t1 ts1) (items1.drop (j + 1)) acc s) = rest1 at q7
        unfold turnF at q7
        cases e9 : asg t1 d7 s7 with
        | none => simp only [e9] at q7; exact (notG_stk q7).elim
        | some s9 =>
        simp only [e9] at q7
        have wσ1 : ∀ σ9 : L2.St, (σ9.length = (L2.wipe σ3 vs1).length ∧ ∀ i, i ∉ tgv t1 → σ9[i]? = (L2.wipe σ3 vs1)[i]?) → L2.wipe σ9 vs1 = L2.wipe σ3 vs1 := fun σ9 h9 => by
          have := wipe_eq (vs := vs1) h9.1 fun j nj => h9.2 j fun z => nj (hv1 j z)
          rw [this, wipe_twice]
        refine ⟨_, Wr7, ρ7, s7, d7, s9, F10, r8, e9, fun σ9 F11 hσ9 => ⟨wσ1 σ9 hσ9, _, Wr7, ρ7, s9, F11, ?_⟩⟩
        cases e10 : evTs gl c ts1 s9 with
        | stk => simp only [e10] at q7; exact (notG_stk q7).elim
        | exc _ _ => simp only [e10] at q7; exact (notG_exc _ _ q7).elim
        | ok k9 s10 =>
        simp only [e10, R.bind_ok] at q7
        intro Wr10 ρ10 H10 x10 F12
        cases k9 with
        | false =>
          simp only [Bool.false_eq_true, if_false, R.bind_ok] at q7 ⊢
          have F13 := F12.wipe vs1
          rw [wσ1 σ9 hσ9] at F13
          subst hf2
          exact ⟨items1.length - (j + 1), by omega, rfl, hlt7, Wr10, ρ10, _, acc7, xs7, x7.trans (x9.trans x10), F13, rl7.ext (x9.trans x10), q7⟩
        | true =>
          simp only [if_true] at q7 ⊢
          refine ⟨_, Wr10, ρ10, s10, F12, ?_⟩
          cases e11 : evE gl c el s10 with
          | stk => simp only [e11] at q7; exact (notG_stk q7).elim
          | exc _ _ => simp only [e11] at q7; exact (notG_exc _ _ q7).elim
          | ok dy s11 =>
          simp only [e11, R.bind_ok] at q7
          intro Wr11 ρ11 v H11 x11 F13 r11
          split at q7
          case isFalse => exact (notG_stk q7).elim
          rename_i hz
          simp only [R.bind_ok] at q7
          obtain ⟨g1, _⟩ := F13.ac Dl xs7 List.mem_cons_self
          obtain ⟨F14, x14⟩ := Fr.acAdd (Z := Z) (y := v) F13 nZ
          have F15 := F14.wipe vs1
          rw [wσ1 σ9 hσ9] at F15
          have xa := x9.trans (x10.trans (x11.trans x14))
          subst hf2
          exact ⟨xs7, g1, by rw [rl7.len]; exact hz, items1.length - (j + 1), by omega, rfl, hlt7, Wr11, ρ11, _, acc7 ++ [dy], xs7 ++ [v], x7.trans xa, F15, (rl7.ext xa).append (.cons (r11.ext x14) .nil), q7⟩
theorem s_comp2 {fr : Bool} {elt tg iter tg1 iter1 : Expr} {ifs ifs1 : List Expr} {scope : Scope} {own : List (PySem.Str × Nat)} {vs1 : List Nat} {pos : Pos} {t t1 : Tg} {it it1 : Iw} {ts ts1 : Ts} {x : E} (hc : X.calm = true) (hN : X.N.Nodup) (hi : SIt X fa tg iter (evIt gl c it)) (ok : BlkOk X.N X.env.scope scope own)
    (hg : ∀ (s : Shared) (H : Hp) (C : Addr) (cl : List (PySem.Str × Addr)) (fp : List Addr), STg (X.blk s H scope (compEnvC scope cl C X.env) fp) fa tg t) (ht : ∀ (s : Shared) (H : Hp) (C : Addr) (cl : List (PySem.Str × Addr)) (fp : List Addr), PTs (X.blk s H scope (compEnvC scope cl C X.env) fp) ifs (rdT X.K fa (evTs gl c ts)))
    (hi1 : ∀ (s : Shared) (H : Hp) (C : Addr) (cl : List (PySem.Str × Addr)) (fp : List Addr), SIt (X.blk s H scope (compEnvC scope cl C X.env) fp) fa tg1 iter1 (evIt gl c it1))
    (hg1 : ∀ (s : Shared) (H : Hp) (C : Addr) (cl : List (PySem.Str × Addr)) (fp : List Addr), STg (X.blk s H scope (compEnvC scope cl C X.env) fp) fa tg1 t1) (ht1 : ∀ (s : Shared) (H : Hp) (C : Addr) (cl : List (PySem.Str × Addr)) (fp : List Addr), PTs (X.blk s H scope (compEnvC scope cl C X.env) fp) ifs1 (rdT X.K fa (evTs gl c ts1)))
    (he : ∀ (s : Shared) (H : Hp) (C : Addr) (cl : List (PySem.Str × Addr)) (fp : List Addr), SE (X.blk s H scope (compEnvC scope cl C X.env) fp) fa elt (evE gl c x)) (hn : notSet iter = true) (hn1 : notSet iter1 = true) (hv : ∀ i ∈ tgv t, i ∈ own.map (·.2)) (hv1 : ∀ i ∈ tgv t1, i ∈ vs1) (hs : ∀ i ∈ vs1, i ∈ own.map (·.2)) :
    SG X fa fr (.ListComp elt [⟨tg, iter, ifs, 0⟩, ⟨tg1, iter1, ifs1, 0⟩] scope pos) (evE gl c (.comp2 (own.map (·.2)) vs1 x (.mk t it ts) (.mk t1 it1 ts1))) :=
  PE.imp (pe_lc2 (g := rdTg X.K fa t) (tt := rdT X.K fa (evTs gl c ts)) (wi1 := rdI X.K fa (evIt gl c it1)) (g1 := rdTg X.K fa t1) (tt1 := rdT X.K fa (evTs gl c ts1)) (te := rdE X.K fa (evE gl c x)) hc hN hi ok hs hg ht hi1 hg1 ht1 he (no_fold hn) (fun env => no_fold hn1)) fun σ H Q q => lc2_ok gl c hv hv1 hs q
end
end Dn

/-! Dn, part T: text and inner language matched, expressions. -/
namespace Dn
open PySem PySem.Spec PyProof.Rows L2
/-! ### what names stand for -/
mutual
def D.same : D → D → Bool
  | .non, .non => true
  | .bl a, .bl b => decide (a = b)
  | .int a, .int b => decide (a = b)
  | .str a, .str b => decide (a = b)
  | .tup a, .tup b => D.sames a b
  | .lst a, .lst b => D.sames a b
  | _, _ => false
def D.sames : List D → List D → Bool
  | [], [] => true
  | a :: as, b :: bs => D.same a b && D.sames as bs
  | _, _ => false
end
mutual
theorem D.same_eq : ∀ {a b : D}, D.same a b = true → a = b
  | .non, b, h => by cases b <;> first | rfl | (simp only [D.same] at h; cases h)
  | .bl a, b, h => by
    cases b with
    | bl b => simp only [D.same, decide_eq_true_eq] at h; rw [h]
    | _ => simp only [D.same] at h; cases h
  | .int a, b, h => by
    cases b with
    | int b => simp only [D.same, decide_eq_true_eq] at h; rw [h]
    | _ => simp only [D.same] at h; cases h
  | .str a, b, h => by
    cases b with
    | str b => simp only [D.same, decide_eq_true_eq] at h; rw [h]
    | _ => simp only [D.same] at h; cases h
  | .tup a, b, h => by
    cases b with
    | tup b => simp only [D.same] at h; rw [D.sames_eq h]
    | _ => simp only [D.same] at h; cases h
  | .lst a, b, h => by
    cases b with
    | lst b => simp only [D.same] at h; rw [D.sames_eq h]
    | _ => simp only [D.same] at h; cases h
  | .ref n, b, h => by cases b <;> (simp only [D.same] at h; cases h)
  | .fn n, b, h => by cases b <;> (simp only [D.same] at h; cases h)
  | .ty n, b, h => by cases b <;> (simp only [D.same] at h; cases h)
  | .kl n, b, h => by cases b <;> (simp only [D.same] at h; cases h)
theorem D.sames_eq : ∀ {a b : List D}, D.sames a b = true → a = b
  | [], [], _ => rfl
  | [], _ :: _, h => by simp only [D.sames] at h; cases h
  | _ :: _, [], h => by simp only [D.sames] at h; cases h
  | a :: as, b :: bs, h => by
    simp only [D.sames, Bool.and_eq_true] at h
    rw [D.same_eq h.1, D.sames_eq h.2]
end
def fillSame : List (Sum Nat D) → List (Sum Nat D) → Bool
  | [], [] => true
  | .inl a :: as, .inl b :: bs => decide (a = b) && fillSame as bs
  | .inr a :: as, .inr b :: bs => D.same a b && fillSame as bs
  | _, _ => false
theorem fillSame_eq : ∀ {a b : List (Sum Nat D)}, fillSame a b = true → a = b
  | [], [], _ => rfl
  | [], _ :: _, h => by simp only [fillSame] at h; cases h
  | .inl _ :: _, [], h => by simp only [fillSame] at h; cases h
  | .inr _ :: _, [], h => by simp only [fillSame] at h; cases h
  | .inl a :: as, .inl b :: bs, h => by
    simp only [fillSame, Bool.and_eq_true, decide_eq_true_eq] at h
    rw [h.1, fillSame_eq h.2]
  | .inr a :: as, .inr b :: bs, h => by
    simp only [fillSame, Bool.and_eq_true] at h
    rw [D.same_eq h.1, fillSame_eq h.2]
  | .inl a :: as, .inr b :: bs, h => by simp only [fillSame] at h; cases h
  | .inr a :: as, .inl b :: bs, h => by simp only [fillSame] at h; cases h
/-- the defs by name, the module's constants, the built-in names that the module leaves alone, the calls with keywords or defaults -/
structure Tb where
  fns : List (PySem.Str × Nat)
  glos : List (PySem.Str × Nat)
  blt : List PySem.Str
  kws : List ((Nat × Nat × List PySem.Str) × List (Sum Nat D))
/-- where a text stands -/
structure Ck where
  tb : Tb
  N : List PySem.Str
  sc : Scope
  blk : Option Scope
def Ck.fn (k : Ck) (x : PySem.Str) : Bool := match k.blk with
  | none => true
  | some s => s.names.lookup x == some .cell
def Ck.slot (k : Ck) (i : Nat) (x : PySem.Str) : Bool := decide (k.N[i]? = some x)
def plainN (x : PySem.Str) : Bool := !(x == ("__debug__" : PySem.Str)) && !(x == ("__classdict__" : PySem.Str))
def Ck.vis (k : Ck) (x : PySem.Str) : Bool := (match k.sc.names.lookup x with
  | some .local => true
  | some .cell => true
  | some .free => true
  | _ => false) && plainN x
def Ck.gl (k : Ck) (x : PySem.Str) : Bool := decide (k.sc.names.lookup x = some .globalImplicit) && !(x == ("__debug__" : PySem.Str))
def Ck.blt (k : Ck) (x : PySem.Str) : Bool := k.gl x && decide (x ∈ k.tb.blt) && decide (x ≠ "__name__")
def Ck.loc (k : Ck) (x : PySem.Str) : Bool := match k.sc.names.lookup x with
  | some .local => true
  | some .cell => k.fn x
  | _ => false
def Ck.inner (k : Ck) (scope : Scope) : Ck := { k with sc := relS scope k.sc, blk := some scope }
/-- another context of the same run -/
structure Sib (X X' : Cx) : Prop where
  prog : X'.prog = X.prog
  w : X'.w = X.w
  K : X'.K = X.K
  mg : X'.mg = X.mg
  base : X'.base = X.base
  A : X'.A = X.A
  calm : X'.calm = X.calm
theorem Sib.refl (X : Cx) : Sib X X := ⟨rfl, rfl, rfl, rfl, rfl, rfl, rfl⟩
theorem Sib.trans {X Y W : Cx} (a : Sib X Y) (b : Sib Y W) : Sib X W := ⟨b.prog.trans a.prog, b.w.trans a.w, b.K.trans a.K, b.mg.trans a.mg, b.base.trans a.base, b.A.trans a.A, b.calm.trans a.calm⟩
section
variable (fa : Nat → Addr) (gl : List D) (c : Cl)
structure Cxt (k : Ck) (X : Cx) : Prop where
  N : X.N = k.N
  sc : X.env.scope = k.sc
  fn : ∀ x, k.fn x = true → X.fn x = true
  kind : X.env.scope.kind = .function
  calm : X.calm = true
  nd : X.N.Nodup
  hu : X.A.units + 200 < cLine
  gd : X.A.guards = some []
  fns : ∀ x n, (x, n) ∈ k.tb.fns → X.mg x = some (.ref (fa n)) ∧ ∀ X', Sib X X' → FnAt X' fa c n
  allf : ∀ n ds sto, c n ds sto ≠ .stk → ∀ X', Sib X X' → FnAt X' fa c n
  blt : ∀ x, x ∈ k.tb.blt → X.mg x = none
  glo : ∀ x g, (x, g) ∈ k.tb.glos → ∃ v u, X.mg x = some u ∧ L2.RelV v u ∧ ∀ d, gl[g]? = some d → ∀ Wr ρ H, Rp X.K fa Wr ρ H d v
  kws : ∀ n m ks fl, ((n, m, ks), fl) ∈ k.tb.kws → ∀ X', Sib X X' → KwAt X' fa c n m ks fl
end
section
variable {fa : Nat → Addr} {gl : List D} {c : Cl} {k : Ck} {X : Cx}
theorem Cxt.blkk (C : Cxt fa gl c k X) {scope : Scope} (hk : scope.kind = .function) (s : Shared) (H : Hp) (C' : Addr) (cl : List (PySem.Str × Addr)) (fp : List Addr) : Cxt fa gl c (k.inner scope) (X.blk s H scope (compEnvC scope cl C' X.env) fp) := by
  have sb : Sib X (X.blk s H scope (compEnvC scope cl C' X.env) fp) := ⟨rfl, rfl, rfl, rfl, rfl, rfl, rfl⟩
  refine ⟨C.N, ?_, fun x h => h, hk, C.calm, C.nd, C.hu, C.gd, fun x n h => ⟨(C.fns x n h).1, fun X' b => (C.fns x n h).2 X' (sb.trans b)⟩, fun n ds sto h X' b => C.allf n ds sto h X' (sb.trans b), C.blt, C.glo, fun n m ks fl h X' b => C.kws n m ks fl h X' (sb.trans b)⟩
  show relS scope X.env.scope = relS scope k.sc
  rw [C.sc]
theorem Cxt.slot (C : Cxt fa gl c k X) {i : Nat} {x : PySem.Str} (h : k.slot i x = true) : X.N[i]? = some x := by
  rw [C.N]; exact of_decide_eq_true h
theorem plainN_is {x : PySem.Str} (h : plainN x = true) : (x == ("__debug__" : PySem.Str)) = false ∧ (x == ("__classdict__" : PySem.Str)) = false := by
  unfold plainN at h
  simp only [Bool.and_eq_true, Bool.not_eq_true'] at h
  exact h
theorem Cxt.vis (C : Cxt fa gl c k X) {x : PySem.Str} (h : k.vis x = true) : Vis X.env.scope x ∧ (x == ("__debug__" : PySem.Str)) = false ∧ (x == ("__classdict__" : PySem.Str)) = false := by
  unfold Ck.vis at h
  rw [Bool.and_eq_true] at h
  refine ⟨?_, plainN_is h.2⟩
  have h := h.1
  unfold Vis
  rw [C.sc]
  split at h
  · exact .inl (by assumption)
  · exact .inr (.inl (by assumption))
  · exact .inr (.inr (by assumption))
  · cases h
theorem Cxt.gl' (C : Cxt fa gl c k X) {x : PySem.Str} (h : k.gl x = true) : Gl X x ∧ (x == ("__debug__" : PySem.Str)) = false := by
  unfold Ck.gl at h
  rw [Bool.and_eq_true] at h
  refine ⟨?_, by simpa using h.2⟩
  show X.env.scope.names.lookup x = _
  rw [C.sc]; exact of_decide_eq_true h.1
theorem Cxt.blt' (C : Cxt fa gl c k X) {x : PySem.Str} (h : k.blt x = true) : Gl X x ∧ (x == ("__debug__" : PySem.Str)) = false ∧ X.mg x = none ∧ x ≠ "__name__" := by
  unfold Ck.blt at h
  rw [Bool.and_eq_true, Bool.and_eq_true] at h
  obtain ⟨h1, h2⟩ := C.gl' h.1.1
  exact ⟨h1, h2, C.blt x (of_decide_eq_true h.1.2), of_decide_eq_true h.2⟩
theorem Cxt.loc (C : Cxt fa gl c k X) {x : PySem.Str} (h : k.loc x = true) : X.env.scope.names.lookup x = some .local ∨ (X.env.scope.names.lookup x = some .cell ∧ X.fn x = true) := by
  unfold Ck.loc at h
  rw [C.sc]
  split at h
  · exact .inl (by assumption)
  · exact .inr ⟨by assumption, C.fn x h⟩
  · cases h
end
/-! ### the match, each answer with what it is good for -/
structure Cert (P : Prop) where
  b : Bool
  ok : b = true → P
def Cert.no {P : Prop} : Cert P := ⟨false, fun h => nomatch h⟩
theorem band {a b : Bool} (h : (a && b) = true) : a = true ∧ b = true := by rwa [Bool.and_eq_true] at h
/-- expressions that give new lists -/
def frE : E → Bool
  | .lst _ => true
  | .prim p _ => match p with
    | .bin _ => true
    | .slc _ _ => true
    | .rev => true
    | .bf n => n == "sorted"
    | .bt n => n == "list"
    | _ => false
  | .ite _ a b => frE a && frE b
  | .comp _ _ _ => true
  | .comp2 _ _ _ _ _ => true
  | _ => false
def Es.len : Es → Nat
  | .nil => 0
  | .cons _ r => r.len + 1
section
variable (fa : Nat → Addr) (gl : List D) (c : Cl)
def Gd (k : Ck) (x : E) (e : Expr) : Prop := ∀ X, Cxt fa gl c k X → ∀ fr, (fr = true → frE x = true) → SG X fa fr e (evE gl c x)
def GEs (k : Ck) (x : Es) (es : List Expr) : Prop := (∀ X, Cxt fa gl c k X → SEs X fa es (evEs gl c x)) ∧ (∀ e ∈ es, unst e = true) ∧ x.len = es.length
def GO (k : Ck) (x : O) (e : Expr) : Prop := ∀ X, Cxt fa gl c k X → SOp X fa e (evO gl c x)
def GOs (k : Ck) (x : Os) (es : List Expr) : Prop := (∀ X, Cxt fa gl c k X → SOs X fa es (evOs gl c x)) ∧ (∀ e ∈ es, unst e = true)
def GT (k : Ck) (x : T) (e : Expr) : Prop := ∀ X, Cxt fa gl c k X → STt X fa e (evT gl c x)
def GTs (k : Ck) (x : Ts) (es : List Expr) : Prop := ∀ X, Cxt fa gl c k X → ∀ pos, SW X fa (.BoolOp .And es pos) (evTs gl c x)
def GTo (k : Ck) (x : Ts) (es : List Expr) : Prop := ∀ X, Cxt fa gl c k X → ∀ pos, SW X fa (.BoolOp .Or es pos) (evTo gl c x)
def GA (k : Ck) (x : Es) (es : List Expr) : Prop := ∀ X, Cxt fa gl c k X → ∀ pos, SE X fa (.BoolOp .And es pos) (evAnd gl c x)
def GR (k : Ck) (x : Es) (es : List Expr) : Prop := ∀ X, Cxt fa gl c k X → ∀ pos, SE X fa (.BoolOp .Or es pos) (evOr gl c x)
def GIf (k : Ck) (x : Ts) (es : List Expr) : Prop := ∀ X, Cxt fa gl c k X → PTs X es (rdT X.K fa (evTs gl c x))
def GI (k : Ck) (x : Iw) (tg e : Expr) : Prop := ∀ X, Cxt fa gl c k X → SIt X fa tg e (evIt gl c x)
def GK (k : Ck) (x : Es) (kws : List Keyword) : Prop := (∀ X, Cxt fa gl c k X → SKs X fa kws (evEs gl c x)) ∧ x.len = kws.length
def GP (k : Ck) (x : Es) (ks : List Key) (keys : List (Option Expr)) (vals : List Expr) : Prop := (∀ X, Cxt fa gl c k X → ∀ pos, SPs X fa pos keys vals ks (evEs gl c x)) ∧ keys.length = vals.length ∧ keys.all (·.isSome) = true
def GTg (k : Ck) (t : Tg) (e : Expr) : Prop := ∀ X, Cxt fa gl c k X → STg X fa e t
def GTgs (k : Ck) (t : Tgs) (es : List Expr) : Prop := (∀ X, Cxt fa gl c k X → STgs X fa es t) ∧ (∀ e ∈ es, unst e = true) ∧ es.length = t.len
end
section
variable {fa : Nat → Addr} {gl : List D} {c : Cl} {k : Ck} {X : Cx}
theorem Gd.se {x : E} {e : Expr} (h : Gd fa gl c k x e) (C : Cxt fa gl c k X) : SE X fa e (evE gl c x) := (h X C false fun z => nomatch z).e
theorem Gd.of {x : E} {e : Expr} (hx : frE x = false) (h : ∀ X, Cxt fa gl c k X → SE X fa e (evE gl c x)) : Gd fa gl c k x e := fun X C fr hf => by
  cases fr with
  | false => exact PE.imp (h X C) fun _ _ _ z => z
  | true => rw [hx] at hf; exact absurd (hf rfl) (by decide)
theorem evEs_len : ∀ (x : Es) (s : S) (ds : List D) (s1 : S), evEs gl c x s = .ok ds s1 → ds.length = x.len
  | .nil, s, ds, s1, h => by rw [evEs] at h; cases h; rfl
  | .cons e r, s, ds, s1, h => by
    rw [evEs] at h
    cases e1 : evE gl c e s with
    | exc _ _ => rw [e1] at h; cases h
    | stk => rw [e1] at h; cases h
    | ok d s2 =>
      rw [e1, R.bind_ok] at h
      cases e2 : evEs gl c r s2 with
      | exc _ _ => rw [e2] at h; cases h
      | stk => rw [e2] at h; cases h
      | ok ds2 s3 =>
        rw [e2, R.bind_ok] at h
        cases h
        rw [List.length_cons, evEs_len r _ _ _ e2, Es.len]
theorem unst_all {e : Expr} {es : List Expr} (h1 : unst e = true) (h2 : ∀ e ∈ es, unst e = true) : ∀ a ∈ e :: es, unst a = true := fun a ha => (List.mem_cons.mp ha).elim (fun z => z ▸ h1) (h2 a)
end
/-! ### targets -/
section
variable (fa : Nat → Addr) (gl : List D) (c : Cl)
mutual
def kTg (k : Ck) : (t : Tg) → (e : Expr) → Cert (GTg fa gl c k t e)
  | .nm i, .Name x _ => ⟨k.slot i x && k.loc x, fun h X C => by
    obtain ⟨h1, h2⟩ := band h
    have hl := C.loc h2
    exact g_nm C.nd (C.slot h1) (hl.imp id (·.1)) (hl.elim .inr fun z => .inl z.2)⟩
  | .tp ts, .Tuple es _ _ =>
    let r := kTgs k ts es
    ⟨r.b, fun h X C => let h := r.ok h; g_tp C.calm (h.1 X C) h.2.2 h.2.1⟩
  | _, _ => .no
def kTgs (k : Ck) : (t : Tgs) → (es : List Expr) → Cert (GTgs fa gl c k t es)
  | .nil, [] => ⟨true, fun _ => ⟨fun X C => g_nil, (fun _ z => absurd z List.not_mem_nil), rfl⟩⟩
  | .cons t r, e :: es =>
    let a := kTg k t e
    let b := kTgs k r es
    ⟨unst e && a.b && b.b, fun h => by
      obtain ⟨h, h3⟩ := band h
      obtain ⟨h1, h2⟩ := band h
      have ha := a.ok h2
      have hb := b.ok h3
      exact ⟨fun X C => g_cons (ha X C) (hb.1 X C) h1, unst_all h1 hb.2.1, by rw [List.length_cons, hb.2.2, Tgs.len]⟩⟩
  | _, _ => .no
end
end
end Dn

/-! Dn, part U: expressions matched. -/
namespace Dn
open PySem PySem.Spec PyProof.Rows L2
section
variable {fa : Nat → Addr} {gl : List D} {c : Cl} {k : Ck} {X : Cx}
def cstB : Cst → Const → Bool
  | .non, .none => true
  | .bl a, .bool b => decide (a = b)
  | .int a, .int b => decide (a = b)
  | .str a, .str b => decide (a = b)
  | _, _ => false
theorem cstB_eq : ∀ {a : Cst} {z : Const}, cstB a z = true → z = (match a with | .non => .none | .bl b => .bool b | .int i => .int i | .str x => .str x) := by
  intro a z h
  cases a <;> cases z <;> first
    | rfl
    | (simp only [cstB] at h; cases h; done)
    | (simp only [cstB, decide_eq_true_eq] at h; subst h; rfl)
def plainIxB : Expr → Bool
  | .Slice .. => false
  | .Tuple .. => false
  | _ => true
theorem plainIx_of {b : Expr} (h : plainIxB b = true) : PlainIx b := by
  intro o i; cases b <;> first | rfl | cases h
/-- the second part of a slice's operands is an expression -/
theorem own_map {N : List PySem.Str} : ∀ vs : List Nat, (vs.map fun v => (N.getD v "", v)).map (·.2) = vs
  | [] => rfl
  | v :: vs => by rw [List.map_cons, List.map_cons, own_map vs]
def Ck.ownOf (k : Ck) (vs : List Nat) : List (PySem.Str × Nat) := vs.map fun v => (k.N.getD v "", v)
theorem Cxt.blkOk (C : Cxt fa gl c k X) {scope : Scope} {vs : List Nat} (h : blkC k.N k.sc scope (k.ownOf vs) = true) : BlkOk X.N X.env.scope scope (k.ownOf vs) := by
  rw [C.N, C.sc]; exact blkOk_by h
theorem sorted_hf {n : String} : (frE (.prim (.bf n) .nil) = true) = ((n == "sorted") = true) := rfl
end
section
variable (fa : Nat → Addr) (gl : List D) (c : Cl)
mutual
def kE (k : Ck) : (x : E) → (e : Expr) → Cert (Gd fa gl c k x e)
  | .var i, e => match e with
    | .Name x _ => ⟨k.slot i x && k.vis x, fun h => Gd.of rfl fun X C =>
        let h1 := C.slot (band h).1
        let h2 := C.vis (band h).2
        s_var gl c h1 h2.1 h2.2.1 h2.2.2⟩
    | _ => .no
  | .cst z, e => match e with
    | .Constant w _ _ => ⟨cstB z w, fun h => Gd.of rfl fun X C => s_cst gl c (cstB_eq h)⟩
    | _ => .no
  | .fn n, e => match e with
    | .Name x _ => ⟨k.gl x && decide ((x, n) ∈ k.tb.fns), fun h => Gd.of rfl fun X C =>
        let h1 := C.gl' (band h).1
        s_fn gl c h1.1 (C.fns x n (of_decide_eq_true (band h).2)).1 h1.2⟩
    | _ => .no
  | .ty t, e => match e with
    | .Name x _ => ⟨k.blt x && decide (bootBuiltins x = some (.type t)), fun h => Gd.of rfl fun X C =>
        let h1 := C.blt' (band h).1
        s_ty gl c h1.1 h1.2.2.1 (of_decide_eq_true (band h).2) h1.2.2.2 h1.2.1⟩
    | _ => .no
  | .glo g, e => match e with
    | .Name x _ => ⟨k.gl x && decide ((x, g) ∈ k.tb.glos), fun h => Gd.of rfl fun X C => by
        have h1 := C.gl' (band h).1
        obtain ⟨v, u, h2, h3, h4⟩ := C.glo x g (of_decide_eq_true (band h).2)
        exact s_glo gl c h1.1 h2 h3 h4 h1.2⟩
    | _ => .no
  | .tup es, e => match e with
    | .Tuple as _ _ =>
      let a := kEs k es as
      ⟨a.b, fun h => Gd.of rfl fun X C => s_tup gl c ((a.ok h).1 X C)⟩
    | _ => .no
  | .lst es, e => match e with
    | .List as _ =>
      let a := kEs k es as
      ⟨a.b, fun h X C fr _ => s_lst gl c ((a.ok h).1 X C)⟩
    | _ => .no
  | .lstR es, e => match e with
    | .List as _ =>
      let a := kEs k es as
      ⟨a.b, fun h => Gd.of rfl fun X C => s_lstR gl c ((a.ok h).1 X C)⟩
    | _ => .no
  | .prim p os, e => match p, os, e with
    | .bin o, .cons x (.cons y .nil), .BinOp a o' b _ =>
      let ha := kO k x a
      let hb := kO k y b
      ⟨decide (o = o') && ha.b && hb.b, fun h X C fr _ => by
        obtain ⟨h, h3⟩ := band h
        obtain ⟨h1, h2⟩ := band h
        rw [← of_decide_eq_true h1]
        exact s_bin gl c (ha.ok h2 X C) (hb.ok h3 X C)⟩
    | .cmp o, .cons x (.cons y .nil), .Compare a [o'] [b] _ =>
      let ha := kO k x a
      let hb := kO k y b
      ⟨decide (o = o') && !behindInMarks o b && ha.b && hb.b, fun h => Gd.of rfl fun X C => by
        obtain ⟨h, h3⟩ := band h
        obtain ⟨h, h2⟩ := band h
        obtain ⟨h1, h4⟩ := band h
        rw [← of_decide_eq_true h1]
        exact s_cmp gl c C.hu (by simpa using h4) (ha.ok h2 X C) (hb.ok h3 X C)⟩
    | .idx, .cons x (.cons y .nil), .Subscript a b _ =>
      let ha := kO k x a
      let hb := kO k y b
      ⟨plainIxB b && ha.b && hb.b, fun h => Gd.of rfl fun X C => by
        obtain ⟨h, h3⟩ := band h
        obtain ⟨h1, h2⟩ := band h
        exact s_idx gl c C.hu (plainIx_of h1) (ha.ok h2 X C) (hb.ok h3 X C)⟩
    | .neg, .cons x .nil, .UnaryOp .USub a _ =>
      let ha := kO k x a
      ⟨ha.b, fun h => Gd.of rfl fun X C => s_neg gl c (ha.ok h X C)⟩
    | .slc false false, .cons x .nil, .Subscript a (.Slice none none none _) _ =>
      let ha := kO k x a
      ⟨ha.b, fun h X C fr _ => s_slc0 gl c (ha.ok h X C)⟩
    | .slc true false, .cons x (.cons y .nil), .Subscript a (.Slice (some b) none none _) _ =>
      let ha := kO k x a
      let hb := kO k y b
      ⟨ha.b && hb.b, fun h X C fr _ => s_slc1 gl c (ha.ok (band h).1 X C) (hb.ok (band h).2 X C)⟩
    | .slc false true, .cons x (.cons y .nil), .Subscript a (.Slice none (some b) none _) _ =>
      let ha := kO k x a
      let hb := kO k y b
      ⟨ha.b && hb.b, fun h X C fr _ => s_slc2 gl c (ha.ok (band h).1 X C) (hb.ok (band h).2 X C)⟩
    | .slc true true, .cons x (.cons (.e y) (.cons z .nil)), .Subscript a (.Slice (some b) (some d) none _) _ =>
      let ha := kO k x a
      let hb := kE k y b
      let hd := kO k z d
      ⟨ha.b && hb.b && hd.b, fun h X C fr _ => s_slc3 gl c (ha.ok (band (band h).1).1 X C) (s_oe gl c ((hb.ok (band (band h).1).2).se C)) (hd.ok (band h).2 X C)⟩
    | .rev, .cons x .nil, .Subscript a (.Slice none none (some (.UnaryOp .USub (.Constant (.int j) _ _) _)) _) _ =>
      let ha := kO k x a
      ⟨decide (j = 1) && ha.b, fun h X C fr _ => by
        have e := of_decide_eq_true (band h).1
        subst e
        exact s_rev gl c (ha.ok (band h).2 X C)⟩
    | .bf n, os, .Call (.Name f _) (a :: as) [] _ =>
      let ha := kOs k os (a :: as)
      ⟨k.blt f && decide (bootBuiltins f = some (.builtin n)) && ha.b, fun h X C fr hf => by
        obtain ⟨h, h3⟩ := band h
        obtain ⟨h1, h2⟩ := band h
        obtain ⟨g1, g2, g3, g4⟩ := C.blt' h1
        have hs := ha.ok h3
        exact s_bf gl c C.calm C.hu C.gd (hs.1 X C) g1 g3 (of_decide_eq_true h2) g4 g2 hs.2 hf⟩
    | .bt n, os, .Call (.Name f _) (a :: as) [] _ =>
      let ha := kOs k os (a :: as)
      ⟨k.blt f && decide (bootBuiltins f = some (.type n)) && ha.b, fun h X C fr hf => by
        obtain ⟨h, h3⟩ := band h
        obtain ⟨h1, h2⟩ := band h
        obtain ⟨g1, g2, g3, g4⟩ := C.blt' h1
        have hs := ha.ok h3
        exact s_bt gl c C.calm C.hu (hs.1 X C) g1 g3 (of_decide_eq_true h2) g4 g2 hs.2 hf⟩
    | _, _, _ => .no
  | .chain o1 o2 x y z, e => match e with
    | .Compare a [p1, p2] [b, d] _ =>
      let ha := kO k x a
      let hb := kO k y b
      let hd := kO k z d
      ⟨decide (o1 = p1) && decide (o2 = p2) && !lastMarks [o1, o2] [b, d] && ha.b && hb.b && hd.b, fun h => Gd.of rfl fun X C => by
        obtain ⟨h, h6⟩ := band h
        obtain ⟨h, h5⟩ := band h
        obtain ⟨h, h4⟩ := band h
        obtain ⟨h, h3⟩ := band h
        obtain ⟨h1, h2⟩ := band h
        rw [← of_decide_eq_true h1, ← of_decide_eq_true h2]
        exact s_chain gl c C.hu (by simpa using h3) (ha.ok h4 X C) (hb.ok h5 X C) (hd.ok h6 X C)⟩
    | _ => .no
  | .ite t x y, e => match e with
    | .IfExp q a b _ =>
      let ht := kT k t q
      let ha := kE k x a
      let hb := kE k y b
      ⟨ht.b && ha.b && hb.b, fun h X C fr hf => s_ite gl c (ht.ok (band (band h).1).1 X C) (ha.ok (band (band h).1).2 X C fr fun z => (band (hf z)).1) (hb.ok (band h).2 X C fr fun z => (band (hf z)).2)⟩
    | _ => .no
  | .andE es, e => match e with
    | .BoolOp .And as _ =>
      let a := kA k es as
      ⟨a.b, fun h => Gd.of rfl fun X C => PE.imp (a.ok h X C _) fun σ H Q q => by
        obtain ⟨Z, Wr, ρ, s, F, q⟩ := q
        rw [evE] at q
        exact ⟨Z, Wr, ρ, s, F, q⟩⟩
    | _ => .no
  | .orE es, e => match e with
    | .BoolOp .Or as _ =>
      let a := kR k es as
      ⟨a.b, fun h => Gd.of rfl fun X C => PE.imp (a.ok h X C _) fun σ H Q q => by
        obtain ⟨Z, Wr, ρ, s, F, q⟩ := q
        rw [evE] at q
        exact ⟨Z, Wr, ρ, s, F, q⟩⟩
    | _ => .no
  | .notE x, e => match e with
    | .UnaryOp .Not a _ =>
      let ha := kE k x a
      ⟨ha.b, fun h => Gd.of rfl fun X C => s_not gl c ((ha.ok h).se C)⟩
    | _ => .no
  | .call n fill r ks, e => match fill, ks, e with
    | none, .nil, .Call (.Name f _) (a :: as) [] _ =>
      let ha := kEs k r (a :: as)
      ⟨k.gl f && decide ((f, n) ∈ k.tb.fns) && ha.b, fun h => Gd.of rfl fun X C => by
        obtain ⟨h, h3⟩ := band h
        obtain ⟨h1, h2⟩ := band h
        obtain ⟨g1, g2⟩ := C.gl' h1
        obtain ⟨g3, g4⟩ := C.fns f n (of_decide_eq_true h2)
        have g5 := g4 X (Sib.refl X)
        have hs := ha.ok h3
        exact s_call gl c g5.call g5.keep g1 g3 (hs.1 X C) g2 hs.2.1⟩
    | some fl, ks, .Call (.Name f _) (a :: as) kws _ =>
      let ha := kEs k r (a :: as)
      let hk := kK k ks kws
      let nm := kws.filterMap (·.arg)
      ⟨k.gl f && decide ((f, n) ∈ k.tb.fns) && decide (kws.map (·.arg) = nm.map some) && (k.tb.kws.any fun p => decide (p.1 = (n, as.length + 1, nm)) && fillSame p.2 fl) && ha.b && hk.b, fun h => Gd.of rfl fun X C => by
        obtain ⟨h, h6⟩ := band h
        obtain ⟨h, h5⟩ := band h
        obtain ⟨h, h4⟩ := band h
        obtain ⟨h, h3⟩ := band h
        obtain ⟨h1, h2⟩ := band h
        obtain ⟨g1, g2⟩ := C.gl' h1
        obtain ⟨g3, _⟩ := C.fns f n (of_decide_eq_true h2)
        obtain ⟨p, hp, hq⟩ := List.any_eq_true.mp h4
        obtain ⟨q1, q2⟩ := band hq
        have q1 := of_decide_eq_true q1
        have q2 := fillSame_eq q2
        have hp : ((n, as.length + 1, nm), fl) ∈ k.tb.kws := by rw [← q1, ← q2]; exact hp
        have g4 := C.kws n (as.length + 1) nm fl hp X (Sib.refl X)
        have hs := ha.ok h5
        have ht := hk.ok h6
        have e3 := of_decide_eq_true h3
        have e4 : nm.length = kws.length := by
          have := congrArg List.length e3
          simpa using this.symm
        exact s_callK gl c g4 g1 g3 (hs.1 X C) (ht.1 X C) (fun s ds s1 e => by rw [evEs_len _ _ _ _ e, hs.2.2, List.length_cons]) (fun s ds s1 e => by rw [evEs_len _ _ _ _ e, ht.2, e4]) e3 g2 hs.2.1⟩
    | _, _, _ => .no
  | .callV i r, e => match e with
    | .Call (.Name f _) (a :: as) [] _ =>
      let ha := kEs k r (a :: as)
      ⟨k.slot i f && k.vis f && ha.b, fun h => Gd.of rfl fun X C => by
        obtain ⟨h, h3⟩ := band h
        obtain ⟨h1, h2⟩ := band h
        obtain ⟨g1, g2, g3⟩ := C.vis h2
        have hs := ha.ok h3
        exact s_callV gl c (fun n ds sto z => C.allf n ds sto z X (Sib.refl X)) (C.slot h1) g1 (hs.1 X C) g2 g3 hs.2.1⟩
    | _ => .no
  | .comp vs x g, e => match g, e with
    | .mk t it ts, .ListComp elt [⟨tg, iter, ifs, n⟩] scope ps =>
      let hi := kI k it tg iter
      let ht := kTg fa gl c (k.inner scope) t tg
      let hf := kIf (k.inner scope) ts ifs
      let hx := kE (k.inner scope) x elt
      ⟨decide (n = 0) && blkC k.N k.sc scope (k.ownOf vs) && notSet iter && ((tgv t).all fun i => decide (i ∈ vs)) && hi.b && ht.b && hf.b && hx.b, fun h X C fr _ => by
        obtain ⟨h, h8⟩ := band h
        obtain ⟨h, h7⟩ := band h
        obtain ⟨h, h6⟩ := band h
        obtain ⟨h, h5⟩ := band h
        obtain ⟨h, h4⟩ := band h
        obtain ⟨h, h3⟩ := band h
        obtain ⟨h1, h2⟩ := band h
        have e0 := of_decide_eq_true h1
        subst e0
        have ok := C.blkOk h2
        have B := fun s H C' cl fp => C.blkk ok.kind s H C' cl fp
        have q := s_comp (fr := fr) (elt := elt) (pos := ps) gl c C.calm C.nd (hi.ok h5 X C) ok (fun s H C' cl fp => ht.ok h6 _ (B s H C' cl fp)) (fun s H C' cl fp => hf.ok h7 _ (B s H C' cl fp)) (fun s H C' cl fp => (hx.ok h8).se (B s H C' cl fp)) h3 (fun i hi => by
          unfold Ck.ownOf; rw [own_map]; exact of_decide_eq_true (List.all_eq_true.mp h4 i hi))
        unfold Ck.ownOf at q
        rw [own_map] at q
        exact q⟩
    | _, _ => .no
  | .comp2 vs vs1 x g g1, e => match g, g1, e with
    | .mk t it ts, .mk t1 it1 ts1, .ListComp elt [⟨tg, iter, ifs, n⟩, ⟨tg1, iter1, ifs1, n1⟩] scope ps =>
      let hi := kI k it tg iter
      let ht := kTg fa gl c (k.inner scope) t tg
      let hf := kIf (k.inner scope) ts ifs
      let hi1 := kI (k.inner scope) it1 tg1 iter1
      let ht1 := kTg fa gl c (k.inner scope) t1 tg1
      let hf1 := kIf (k.inner scope) ts1 ifs1
      let hx := kE (k.inner scope) x elt
      ⟨decide (n = 0) && decide (n1 = 0) && blkC k.N k.sc scope (k.ownOf vs) && notSet iter && notSet iter1 && ((tgv t).all fun i => decide (i ∈ vs)) && ((tgv t1).all fun i => decide (i ∈ vs1)) && (vs1.all fun i => decide (i ∈ vs)) && hi.b && ht.b && hf.b && hi1.b && ht1.b && hf1.b && hx.b, fun h X C fr _ => by
        obtain ⟨h, h15⟩ := band h
        obtain ⟨h, h14⟩ := band h
        obtain ⟨h, h13⟩ := band h
        obtain ⟨h, h12⟩ := band h
        obtain ⟨h, h11⟩ := band h
        obtain ⟨h, h10⟩ := band h
        obtain ⟨h, h9⟩ := band h
        obtain ⟨h, h8⟩ := band h
        obtain ⟨h, h7⟩ := band h
        obtain ⟨h, h6⟩ := band h
        obtain ⟨h, h5⟩ := band h
        obtain ⟨h, h4⟩ := band h
        obtain ⟨h, h3⟩ := band h
        obtain ⟨h1, h2⟩ := band h
        have e0 := of_decide_eq_true h1
        have e1 := of_decide_eq_true h2
        subst e0 e1
        have ok := C.blkOk h3
        have B := fun s H C' cl fp => C.blkk ok.kind s H C' cl fp
        have q := s_comp2 (fr := fr) (elt := elt) (pos := ps) (vs1 := vs1) gl c C.calm C.nd (hi.ok h9 X C) ok (fun s H C' cl fp => ht.ok h10 _ (B s H C' cl fp)) (fun s H C' cl fp => hf.ok h11 _ (B s H C' cl fp)) (fun s H C' cl fp => hi1.ok h12 _ (B s H C' cl fp)) (fun s H C' cl fp => ht1.ok h13 _ (B s H C' cl fp)) (fun s H C' cl fp => hf1.ok h14 _ (B s H C' cl fp)) (fun s H C' cl fp => (hx.ok h15).se (B s H C' cl fp)) h4 h5 (fun i hi => by
          unfold Ck.ownOf; rw [own_map]; exact of_decide_eq_true (List.all_eq_true.mp h6 i hi)) (fun i hi => of_decide_eq_true (List.all_eq_true.mp h7 i hi)) (fun i hi => by
          unfold Ck.ownOf; rw [own_map]; exact of_decide_eq_true (List.all_eq_true.mp h8 i hi))
        unfold Ck.ownOf at q
        rw [own_map] at q
        exact q⟩
    | _, _, _ => .no
  | .mut m i r, e => match m, r, e with
    | .append, r, .Call (.Attribute (.Name f _) nm ap) [a] [] cp =>
      let ha := kEs k r [a]
      ⟨decide (nm = "append") && k.slot i f && k.vis f && (ap.endLine == cp.line) && ha.b, fun h => Gd.of rfl fun X C => by
        obtain ⟨h, h5⟩ := band h
        obtain ⟨h, h4⟩ := band h
        obtain ⟨h, h3⟩ := band h
        obtain ⟨h1, h2⟩ := band h
        have e0 := of_decide_eq_true h1
        subst e0
        obtain ⟨g1, g2, g3⟩ := C.vis h3
        have hs := ha.ok h5
        exact s_append gl c (C.slot h2) g1 g2 g3 h4 (hs.1 X C) (hs.2.1 _ List.mem_cons_self)⟩
    | .extend, r, .Call (.Attribute (.Name f _) nm ap) [a] [] cp =>
      let ha := kEs k r [a]
      ⟨decide (nm = "extend") && k.slot i f && k.vis f && (ap.endLine == cp.line) && ha.b, fun h => Gd.of rfl fun X C => by
        obtain ⟨h, h5⟩ := band h
        obtain ⟨h, h4⟩ := band h
        obtain ⟨h, h3⟩ := band h
        obtain ⟨h1, h2⟩ := band h
        have e0 := of_decide_eq_true h1
        subst e0
        obtain ⟨g1, g2, g3⟩ := C.vis h3
        have hs := ha.ok h5
        exact s_extend gl c (C.slot h2) g1 g2 g3 h4 (hs.1 X C) (hs.2.1 _ List.mem_cons_self)⟩
    | .popAt, r, .Call (.Attribute (.Name f _) nm ap) [a] [] cp =>
      let ha := kEs k r [a]
      ⟨decide (nm = "pop") && k.slot i f && k.vis f && (ap.endLine == cp.line) && ha.b, fun h => Gd.of rfl fun X C => by
        obtain ⟨h, h5⟩ := band h
        obtain ⟨h, h4⟩ := band h
        obtain ⟨h, h3⟩ := band h
        obtain ⟨h1, h2⟩ := band h
        have e0 := of_decide_eq_true h1
        subst e0
        obtain ⟨g1, g2, g3⟩ := C.vis h3
        have hs := ha.ok h5
        exact s_popAt gl c (C.slot h2) g1 g2 g3 h4 (hs.1 X C) (hs.2.1 _ List.mem_cons_self)⟩
    | .pop, .nil, .Call (.Attribute (.Name f _) nm ap) [] [] cp =>
      ⟨decide (nm = "pop") && k.slot i f && k.vis f && (ap.endLine == cp.line), fun h => Gd.of rfl fun X C => by
        obtain ⟨h, h4⟩ := band h
        obtain ⟨h, h3⟩ := band h
        obtain ⟨h1, h2⟩ := band h
        have e0 := of_decide_eq_true h1
        subst e0
        obtain ⟨g1, g2, g3⟩ := C.vis h3
        exact s_pop gl c (C.slot h2) g1 g2 g3 h4⟩
    | _, _, _ => .no
  | .dict ks r, e => match e with
    | .Dict keys vals _ =>
      let a := kP k r ks keys vals
      ⟨(match keys with | [] => false | _ => true) && decide (keys.length ≤ 15) && a.b, fun h => Gd.of rfl fun X C => by
        obtain ⟨h, h3⟩ := band h
        obtain ⟨h1, h2⟩ := band h
        have q := a.ok h3
        exact s_dict gl c (q.1 X C _) q.2.2 q.2.1 (fun z => by rw [z] at h1; cases h1) (of_decide_eq_true h2)⟩
    | _ => .no
def kEs (k : Ck) : (x : Es) → (es : List Expr) → Cert (GEs fa gl c k x es)
  | .nil, es => match es with
    | [] => ⟨true, fun _ => ⟨fun X C => s_nil gl c, (fun _ z => absurd z List.not_mem_nil), rfl⟩⟩
    | _ => .no
  | .cons x r, es => match es with
    | e :: es =>
      let a := kE k x e
      let b := kEs k r es
      ⟨unst e && a.b && b.b, fun h => by
        obtain ⟨h, h3⟩ := band h
        obtain ⟨h1, h2⟩ := band h
        have hb := b.ok h3
        exact ⟨fun X C => s_cons gl c ((a.ok h2).se C) (hb.1 X C) (unst_cons h1), unst_all h1 hb.2.1, by rw [List.length_cons, ← hb.2.2, Es.len]⟩⟩
    | _ => .no
def kO (k : Ck) : (x : O) → (e : Expr) → Cert (GO fa gl c k x e)
  | .b i, e => match e with
    | .Name x _ => ⟨k.slot i x && k.vis x, fun h X C =>
        let h1 := C.slot (band h).1
        let h2 := C.vis (band h).2
        s_ob gl c h1 h2.1 h2.2.1 h2.2.2⟩
    | _ => .no
  | .e x, e =>
    let a := kE k x e
    ⟨a.b, fun h X C => s_oe gl c ((a.ok h).se C)⟩
def kOs (k : Ck) : (x : Os) → (es : List Expr) → Cert (GOs fa gl c k x es)
  | .nil, es => match es with
    | [] => ⟨true, fun _ => ⟨fun X C => s_onil gl c, (fun _ z => absurd z List.not_mem_nil)⟩⟩
    | _ => .no
  | .cons x r, es => match es with
    | e :: es =>
      let a := kO k x e
      let b := kOs k r es
      ⟨unst e && a.b && b.b, fun h => by
        obtain ⟨h, h3⟩ := band h
        obtain ⟨h1, h2⟩ := band h
        have hb := b.ok h3
        exact ⟨fun X C => s_ocons gl c (a.ok h2 X C) (hb.1 X C) (unst_cons h1), unst_all h1 hb.2⟩⟩
    | _ => .no
def kT (k : Ck) : (t : T) → (e : Expr) → Cert (GT fa gl c k t e)
  | .val x, e =>
    let a := kE k x e
    ⟨plainT e && a.b, fun h X C => t_val gl c ((a.ok (band h).2).se C) (band h).1⟩
  | .cmp o x y, e => match e with
    | .Compare a [o'] [b] _ =>
      let ha := kO k x a
      let hb := kO k y b
      ⟨decide (o = o') && !behindInMarks o b && ha.b && hb.b, fun h X C => by
        obtain ⟨h, h3⟩ := band h
        obtain ⟨h, h2⟩ := band h
        obtain ⟨h1, h4⟩ := band h
        rw [← of_decide_eq_true h1]
        exact t_cmp gl c C.hu (by simpa using h4) (ha.ok h2 X C) (hb.ok h3 X C)⟩
    | _ => .no
  | .chain o1 o2 x y z, e => match e with
    | .Compare a [p1, p2] [b, d] _ =>
      let ha := kO k x a
      let hb := kO k y b
      let hd := kO k z d
      ⟨decide (o1 = p1) && decide (o2 = p2) && !lastMarks [o1, o2] [b, d] && ha.b && hb.b && hd.b, fun h X C => by
        obtain ⟨h, h6⟩ := band h
        obtain ⟨h, h5⟩ := band h
        obtain ⟨h, h4⟩ := band h
        obtain ⟨h, h3⟩ := band h
        obtain ⟨h1, h2⟩ := band h
        rw [← of_decide_eq_true h1, ← of_decide_eq_true h2]
        exact t_chain gl c C.hu (by simpa using h3) (ha.ok h4 X C) (hb.ok h5 X C) (hd.ok h6 X C)⟩
    | _ => .no
  | .not t, e => match e with
    | .UnaryOp .Not a _ =>
      let ha := kT k t a
      ⟨ha.b, fun h X C => t_not gl c (ha.ok h X C)⟩
    | _ => .no
  | .and ts, e => match e with
    | .BoolOp .And as _ =>
      let a := kTs k ts as
      ⟨a.b, fun h X C => PT.imp (a.ok h X C _).pt fun σ H Q q => by
        obtain ⟨Z, Wr, ρ, s, F, q⟩ := q
        rw [evT] at q
        exact ⟨Z, Wr, ρ, s, F, q⟩⟩
    | _ => .no
  | .or ts, e => match e with
    | .BoolOp .Or as _ =>
      let a := kTo k ts as
      ⟨a.b, fun h X C => PT.imp (a.ok h X C _).pt fun σ H Q q => by
        obtain ⟨Z, Wr, ρ, s, F, q⟩ := q
        rw [evT] at q
        exact ⟨Z, Wr, ρ, s, F, q⟩⟩
    | _ => .no
def kTs (k : Ck) : (t : Ts) → (es : List Expr) → Cert (GTs fa gl c k t es)
  | .nil, es => .no
  | .cons t r, es => match r, es with
    | .nil, [e] =>
      let a := kT k t e
      ⟨a.b, fun h X C pos => t_and1 gl c (a.ok h X C)⟩
    | .cons t2 r2, e :: e2 :: es =>
      let a := kT k t e
      let b := kTs k (.cons t2 r2) (e2 :: es)
      ⟨a.b && b.b, fun h X C pos => t_and gl c (a.ok (band h).1 X C) (b.ok (band h).2 X C pos)⟩
    | _, _ => .no
def kTo (k : Ck) : (t : Ts) → (es : List Expr) → Cert (GTo fa gl c k t es)
  | .nil, es => .no
  | .cons t r, es => match r, es with
    | .nil, [e] =>
      let a := kT k t e
      ⟨a.b, fun h X C pos => t_or1 gl c (a.ok h X C)⟩
    | .cons t2 r2, e :: e2 :: es =>
      let a := kT k t e
      let b := kTo k (.cons t2 r2) (e2 :: es)
      ⟨a.b && b.b, fun h X C pos => t_or gl c (a.ok (band h).1 X C) (b.ok (band h).2 X C pos)⟩
    | _, _ => .no
def kIf (k : Ck) : (t : Ts) → (es : List Expr) → Cert (GIf fa gl c k t es)
  | .nil, es => match es with
    | [] => ⟨true, fun _ X C => tests_nil (ifs := .nil) gl c⟩
    | _ => .no
  | .cons t r, es => match r, es with
    | .nil, [e] =>
      let a := kT k t e
      ⟨a.b, fun h X C => tests_one gl c (a.ok h X C)⟩
    | _, _ => .no
def kA (k : Ck) : (x : Es) → (es : List Expr) → Cert (GA fa gl c k x es)
  | .nil, es => .no
  | .cons x r, es => match r, es with
    | .nil, [e] =>
      let a := kE k x e
      ⟨a.b, fun h X C pos => s_and1 gl c ((a.ok h).se C)⟩
    | .cons x2 r2, e :: e2 :: es =>
      let a := kE k x e
      let b := kA k (.cons x2 r2) (e2 :: es)
      ⟨a.b && b.b, fun h X C pos => s_and gl c ((a.ok (band h).1).se C) (b.ok (band h).2 X C pos)⟩
    | _, _ => .no
def kR (k : Ck) : (x : Es) → (es : List Expr) → Cert (GR fa gl c k x es)
  | .nil, es => .no
  | .cons x r, es => match r, es with
    | .nil, [e] =>
      let a := kE k x e
      ⟨a.b, fun h X C pos => s_or1 gl c ((a.ok h).se C)⟩
    | .cons x2 r2, e :: e2 :: es =>
      let a := kE k x e
      let b := kR k (.cons x2 r2) (e2 :: es)
      ⟨a.b && b.b, fun h X C pos => s_or gl c ((a.ok (band h).1).se C) (b.ok (band h).2 X C pos)⟩
    | _, _ => .no
def kI (k : Ck) : (x : Iw) → (tg e : Expr) → Cert (GI fa gl c k x tg e)
  | .seq x, tg, e =>
    let a := kE k x e
    ⟨a.b, fun h X C => i_seq gl c ((a.ok h).se C)⟩
  | .range1 x, tg, e => match e with
    | .Call (.Name f _) [a] [] _ =>
      let ha := kE k x a
      ⟨decide (f = "range") && k.blt f && unst a && ha.b, fun h X C => by
        obtain ⟨h, h4⟩ := band h
        obtain ⟨h, h3⟩ := band h
        obtain ⟨h1, h2⟩ := band h
        have e0 := of_decide_eq_true h1
        subst e0
        obtain ⟨g1, g2, g3, g4⟩ := C.blt' h2
        exact i_range1 gl c g1 g3 ((ha.ok h4).se C) h3⟩
    | _ => .no
  | .range2 x y, tg, e => match e with
    | .Call (.Name f _) [a, b] [] _ =>
      let ha := kE k x a
      let hb := kE k y b
      ⟨decide (f = "range") && k.blt f && unst a && unst b && ha.b && hb.b, fun h X C => by
        obtain ⟨h, h6⟩ := band h
        obtain ⟨h, h5⟩ := band h
        obtain ⟨h, h4⟩ := band h
        obtain ⟨h, h3⟩ := band h
        obtain ⟨h1, h2⟩ := band h
        have e0 := of_decide_eq_true h1
        subst e0
        obtain ⟨g1, g2, g3, g4⟩ := C.blt' h2
        exact i_range2 gl c g1 g3 ((ha.ok h5).se C) ((hb.ok h6).se C) h3 h4⟩
    | _ => .no
  | .zip x y, tg, e => match tg, e with
    | .Tuple _ _ _, .Call (.Name f _) [a, b] [] _ =>
      let ha := kE k x a
      let hb := kE k y b
      ⟨decide (f = "zip") && k.blt f && unst a && unst b && ha.b && hb.b, fun h X C => by
        obtain ⟨h, h6⟩ := band h
        obtain ⟨h, h5⟩ := band h
        obtain ⟨h, h4⟩ := band h
        obtain ⟨h, h3⟩ := band h
        obtain ⟨h1, h2⟩ := band h
        have e0 := of_decide_eq_true h1
        subst e0
        obtain ⟨g1, g2, g3, g4⟩ := C.blt' h2
        exact i_zip gl c g1 g3 ((ha.ok h5).se C) ((hb.ok h6).se C) h3 h4⟩
    | _, _ => .no
  | .enum x, tg, e => match tg, e with
    | .Tuple _ _ _, .Call (.Name f _) [a] [] _ =>
      let ha := kE k x a
      ⟨decide (f = "enumerate") && k.blt f && unst a && ha.b, fun h X C => by
        obtain ⟨h, h4⟩ := band h
        obtain ⟨h, h3⟩ := band h
        obtain ⟨h1, h2⟩ := band h
        have e0 := of_decide_eq_true h1
        subst e0
        obtain ⟨g1, g2, g3, g4⟩ := C.blt' h2
        exact i_enum gl c g1 g3 ((ha.ok h4).se C) h3⟩
    | _, _ => .no
  | .rev x, tg, e => match e with
    | .Call (.Name f _) [a] [] _ =>
      let ha := kE k x a
      ⟨decide (f = "reversed") && k.blt f && unst a && ha.b, fun h X C => by
        obtain ⟨h, h4⟩ := band h
        obtain ⟨h, h3⟩ := band h
        obtain ⟨h1, h2⟩ := band h
        have e0 := of_decide_eq_true h1
        subst e0
        obtain ⟨g1, g2, g3, g4⟩ := C.blt' h2
        exact i_rev gl c g1 g3 ((ha.ok h4).se C) h3⟩
    | _ => .no
def kK (k : Ck) : (x : Es) → (kws : List Keyword) → Cert (GK fa gl c k x kws)
  | .nil, ks => match ks with
    | [] => ⟨true, fun _ => ⟨fun X C => s_knil gl c, rfl⟩⟩
    | _ => .no
  | .cons x r, ks => match ks with
    | ⟨nm, e, kp⟩ :: ks =>
      let a := kE k x e
      let b := kK k r ks
      ⟨a.b && b.b, fun h =>
        let hb := b.ok (band h).2
        ⟨fun X C => s_kcons gl c ((a.ok (band h).1).se C) (hb.1 X C), by rw [List.length_cons, ← hb.2, Es.len]⟩⟩
    | _ => .no
def kP (k : Ck) : (x : Es) → (ks : List Key) → (keys : List (Option Expr)) → (vals : List Expr) → Cert (GP fa gl c k x ks keys vals)
  | .nil, ks, keys, vals => match ks, keys, vals with
    | [], [], [] => ⟨true, fun _ => ⟨fun X C pos => s_pnil gl c, rfl, rfl⟩⟩
    | _, _, _ => .no
  | .cons x r, ks, keys, vals => match ks, keys, vals with
    | ky :: ks, some (.Constant z _ _) :: keys, v :: vals =>
      let a := kE k x v
      let b := kP k r ks keys vals
      ⟨decide (z = keyC ky) && a.b && b.b, fun h => by
        obtain ⟨h, h3⟩ := band h
        obtain ⟨h1, h2⟩ := band h
        have e0 := of_decide_eq_true h1
        subst e0
        have hb := b.ok h3
        exact ⟨fun X C pos => s_pcons gl c ((a.ok h2).se C) (hb.1 X C pos), by rw [List.length_cons, List.length_cons, hb.2.1], by rw [List.all_cons, hb.2.2]; rfl⟩⟩
    | _, _, _ => .no
end
end
end Dn

/-! Dn, part V: statements matched. -/
namespace Dn
open PySem PySem.Spec PyProof.Rows L2
section
variable {X : Cx} {fa : Nat → Addr} (gl : List D) (c : Cl)
def swB (sc : Scope) (y : PySem.Str) (py pos : Pos) (scope : Scope) : Bool := sc.names.lookup y == some .local && py.line == pos.line && !(scope.names.any fun (n, k) => n == y && (k == .local || k == .cell))
theorem sw_is {elt : Expr} {gs : List Comprehension} {scope : Scope} {pos py : Pos} {y : PySem.Str} {l : Nat} {env : Env} (hk : env.scope.kind = .function) : swapsWith (.ListComp elt gs scope pos) (some (.Name y py)) l env = pure (swB env.scope y py pos scope) := by
  have hb : env.blockKind = .function := by unfold Env.blockKind; rw [hk]; rfl
  unfold swapsWith
  simp only [hb, Expr.pos]
  rfl
theorem set_ok {i : Nat} {y : E} {σ : L2.St} {H : Hp} {En : Ends} (h : rdS X.K fa (evS gl c (.asg (.nm i) y)) En σ H) : tAsg (rdG X.K fa false (evE gl c y)) (gName i) En σ H := by
  obtain ⟨Z, Wr, ρ, s, F, q⟩ := h
  rw [evS] at q
  have q0 : OkD X.K fa Z σ Wr ρ H (fun v H1 => gName i v σ H1 En.nx) (evE gl c y s) := OkD.bindS q fun d s1 _ q Wr1 ρ1 v H1 x1 F1 r1 => by
    rw [asg] at q
    split at q
    · rename_i s2 e2
      split at e2
      · rename_i hlt
        cases e2
        exact q _ _ _ _ x1 (F1.setSh hlt r1)
      · cases e2
    · exact q.elim
  exact ⟨Z, Wr, ρ, s, F, q0⟩
theorem ownG_ok {i : Nat} {y : E} {σ : L2.St} {H : Hp} {En : Ends} (h : rdS X.K fa (evS gl c (.own i y)) En σ H) : tAsg (rdG X.K fa true (evE gl c y)) (gName i) En σ H := own_ok gl c h
theorem q_setLc {m : Sm} {i : Nat} {y : PySem.Str} {py spos : Pos} {fr : Bool} {elt tg iter : Expr} {ifs : List Expr} {scope : Scope} {own : List (PySem.Str × Nat)} {pos : Pos} {t : Tg} {it : Iw} {ts : Ts} {x : E} (hm : ∀ En σ H, rdS X.K fa (evS gl c m) En σ H → tAsg (rdG X.K fa fr (evE gl c (.comp (own.map (·.2)) x (.mk t it ts)))) (gName i) En σ H)
    (hy : X.N[i]? = some y) (hyl : X.env.scope.names.lookup y = some .local) (hsw : swapsWith (.ListComp elt [⟨tg, iter, ifs, 0⟩] scope pos) (some (.Name y py)) spos.line X.env = pure true) (hc : X.calm = true) (hN : X.N.Nodup) (hi : SIt X fa tg iter (evIt gl c it)) (ok : BlkOk X.N X.env.scope scope own)
    (hg : ∀ (s : Shared) (H : Hp) (C : Addr) (cl : List (PySem.Str × Addr)) (fp : List Addr), STg (X.blk s H scope (compEnvC scope cl C X.env) fp) fa tg t) (ht : ∀ (s : Shared) (H : Hp) (C : Addr) (cl : List (PySem.Str × Addr)) (fp : List Addr), PTs (X.blk s H scope (compEnvC scope cl C X.env) fp) ifs (rdT X.K fa (evTs gl c ts)))
    (he : ∀ (s : Shared) (H : Hp) (C : Addr) (cl : List (PySem.Str × Addr)) (fp : List Addr), SE (X.blk s H scope (compEnvC scope cl C X.env) fp) fa elt (evE gl c x)) (hn : notSet iter = true) (hv : ∀ i ∈ tgv t, i ∈ own.map (·.2)) : SS X fa (.Assign [.Name y py] (.ListComp elt [⟨tg, iter, ifs, 0⟩] scope pos) spos) (evS gl c m) :=
  PS.imp (ps_setLc (g := rdTg X.K fa t) (tt := rdT X.K fa (evTs gl c ts)) (te := rdE X.K fa (evE gl c x)) hc hN hy hyl hsw hi ok hg ht he (no_fold hn)) fun En σ H q => lc_ok gl c hv (hm En σ H q)
theorem q_setLc2 {m : Sm} {i : Nat} {y : PySem.Str} {py spos : Pos} {fr : Bool} {elt tg iter tg1 iter1 : Expr} {ifs ifs1 : List Expr} {scope : Scope} {own : List (PySem.Str × Nat)} {vs1 : List Nat} {pos : Pos} {t t1 : Tg} {it it1 : Iw} {ts ts1 : Ts} {x : E} (hm : ∀ En σ H, rdS X.K fa (evS gl c m) En σ H → tAsg (rdG X.K fa fr (evE gl c (.comp2 (own.map (·.2)) vs1 x (.mk t it ts) (.mk t1 it1 ts1)))) (gName i) En σ H)
    (hy : X.N[i]? = some y) (hyl : X.env.scope.names.lookup y = some .local) (hsw : swapsWith (.ListComp elt [⟨tg, iter, ifs, 0⟩, ⟨tg1, iter1, ifs1, 0⟩] scope pos) (some (.Name y py)) spos.line X.env = pure true) (hc : X.calm = true) (hN : X.N.Nodup) (hi : SIt X fa tg iter (evIt gl c it)) (ok : BlkOk X.N X.env.scope scope own)
    (hg : ∀ (s : Shared) (H : Hp) (C : Addr) (cl : List (PySem.Str × Addr)) (fp : List Addr), STg (X.blk s H scope (compEnvC scope cl C X.env) fp) fa tg t) (ht : ∀ (s : Shared) (H : Hp) (C : Addr) (cl : List (PySem.Str × Addr)) (fp : List Addr), PTs (X.blk s H scope (compEnvC scope cl C X.env) fp) ifs (rdT X.K fa (evTs gl c ts)))
    (hi1 : ∀ (s : Shared) (H : Hp) (C : Addr) (cl : List (PySem.Str × Addr)) (fp : List Addr), SIt (X.blk s H scope (compEnvC scope cl C X.env) fp) fa tg1 iter1 (evIt gl c it1))
    (hg1 : ∀ (s : Shared) (H : Hp) (C : Addr) (cl : List (PySem.Str × Addr)) (fp : List Addr), STg (X.blk s H scope (compEnvC scope cl C X.env) fp) fa tg1 t1) (ht1 : ∀ (s : Shared) (H : Hp) (C : Addr) (cl : List (PySem.Str × Addr)) (fp : List Addr), PTs (X.blk s H scope (compEnvC scope cl C X.env) fp) ifs1 (rdT X.K fa (evTs gl c ts1)))
    (he : ∀ (s : Shared) (H : Hp) (C : Addr) (cl : List (PySem.Str × Addr)) (fp : List Addr), SE (X.blk s H scope (compEnvC scope cl C X.env) fp) fa elt (evE gl c x)) (hn : notSet iter = true) (hn1 : notSet iter1 = true) (hv : ∀ i ∈ tgv t, i ∈ own.map (·.2)) (hv1 : ∀ i ∈ tgv t1, i ∈ vs1) (hs : ∀ i ∈ vs1, i ∈ own.map (·.2)) :
    SS X fa (.Assign [.Name y py] (.ListComp elt [⟨tg, iter, ifs, 0⟩, ⟨tg1, iter1, ifs1, 0⟩] scope pos) spos) (evS gl c m) :=
  PS.imp (ps_setLc2 (g := rdTg X.K fa t) (tt := rdT X.K fa (evTs gl c ts)) (wi1 := rdI X.K fa (evIt gl c it1)) (g1 := rdTg X.K fa t1) (tt1 := rdT X.K fa (evTs gl c ts1)) (te := rdE X.K fa (evE gl c x)) hc hN hy hyl hsw hi ok hs hg ht hi1 hg1 ht1 he (no_fold hn) (fun env => no_fold hn1)) fun En σ H q => lc2_ok gl c hv hv1 hs (hm En σ H q)
theorem sw_par {x y : PySem.Str} {px py pt pt2 : Pos} {kt k2 : Nat} {a b : Expr} {env : Env} (hk : env.scope.kind = .function) (hx : env.scope.names.lookup x = some .local) (hy : env.scope.names.lookup y = some .local) (hxy : (x == y) = false) (hl : (py.line == px.line) = true) (ha : unst a = true) (hb : unst b = true)
    (hf : ([a, b].all (foldedForSure 8)) = false) (hc : ([a, b].all (constantsAlone 8)) = false) : swappedStores [.Tuple [.Name x px, .Name y py] kt pt] (.Tuple [a, b] k2 pt2) env = pure (some [x, y]) := by
  have hb0 : env.blockKind = .function := by unfold Env.blockKind; rw [hk]; rfl
  have kx : env.kindOf x = some .local := hx
  have ky : env.kindOf y = some .local := hy
  have h0 : ∀ e : Expr, unst e = true → (match e with | .Starred .. => true | _ => false) = false := fun e h => by
    cases e <;> first | rfl | cases h
  have hst : ([a, b].any fun | .Starred .. => true | _ => false) = false := by
    rw [List.any_cons, List.any_cons, List.any_nil, h0 a ha, h0 b hb]; rfl
  have hyx : (y == x) = false := by
    cases e : (y == x) with
    | false => rfl
    | true => rw [eq_of_beq e] at hxy; simp at hxy
  have e0 : (decide (x = y)) = false := decide_eq_false fun e => by rw [e] at hxy; simp at hxy
  unfold swappedStores
  simp only [hb0, hst, hf, hc, kx, ky, hl, List.head?_cons, Option.map_some, Option.getD_some, Expr.pos, List.filterMap_cons, List.filterMap_nil, beq_self_eq_true, Bool.and_self, if_true, List.length_cons, List.length_nil, List.eraseDups_cons, List.filter_cons, List.filter_nil, hxy, hyx, bne_self_eq_false, Bool.not_false]
  simp
  intro h
  exfalso
  rcases h with h | h
  · exact Bool.noConfusion (h.symm.trans (h0 a ha))
  · exact Bool.noConfusion (h.symm.trans (h0 b hb))
end
section
variable (fa : Nat → Addr) (gl : List D) (c : Cl)
def GS (k : Ck) (m : Sm) (st : Stmt) : Prop := ∀ X, Cxt fa gl c k X → PassesOwn (model X.prog X.w) X.A X.env X.xe → SS X fa st (evS gl c m)
def GSs (k : Ck) (ms : List Sm) (sts : List Stmt) : Prop := ∀ X, Cxt fa gl c k X → PassesOwn (model X.prog X.w) X.A X.env X.xe → SSs X fa sts (evSs gl c ms)
/-- name = value; o: the name's own list -/
def smSet (o : Bool) (i : Nat) (x : E) : Sm := if o then .own i x else .asg (.nm i) x
def kSet (k : Ck) (o : Bool) (i : Nat) (x : E) (y : PySem.Str) (py spos : Pos) (v : Expr) : Cert (GS fa gl c k (smSet o i x) (.Assign [.Name y py] v spos)) :=
  if hq : noComp v = true then
    let a := kE fa gl c k x v
    ⟨k.slot i y && k.loc y && (!o || frE x) && a.b, fun h X C _ => by
      obtain ⟨h, h4⟩ := band h
      obtain ⟨h, h3⟩ := band h
      obtain ⟨h1, h2⟩ := band h
      cases o with
      | false => exact q_set gl c C.nd (C.slot h1) (C.loc h2) ((a.ok h4).se C) (nosw hq)
      | true => exact q_own gl c C.nd (C.slot h1) (C.loc h2) (a.ok h4 X C true fun _ => by simpa using h3) (nosw hq)⟩
  else match x, v with
    | .comp vs x (.mk t it ts), .ListComp elt [⟨tg, iter, ifs, n⟩] scope ps =>
      let hi := kI fa gl c k it tg iter
      let ht := kTg fa gl c (k.inner scope) t tg
      let hf := kIf fa gl c (k.inner scope) ts ifs
      let hx := kE fa gl c (k.inner scope) x elt
      ⟨k.slot i y && k.loc y && decide (n = 0) && blkC k.N k.sc scope (k.ownOf vs) && notSet iter && ((tgv t).all fun i => decide (i ∈ vs)) && hi.b && ht.b && hf.b && hx.b, fun h X C _ => by
        obtain ⟨h, h8⟩ := band h
        obtain ⟨h, h7⟩ := band h
        obtain ⟨h, h6⟩ := band h
        obtain ⟨h, h5⟩ := band h
        obtain ⟨h, h4⟩ := band h
        obtain ⟨h, h3⟩ := band h
        obtain ⟨h, h2⟩ := band h
        obtain ⟨h, h1⟩ := band h
        obtain ⟨hs1, hs2⟩ := band h
        have e0 := of_decide_eq_true h1
        subst e0
        have ok := C.blkOk h2
        have B := fun s H C' cl fp => C.blkk ok.kind s H C' cl fp
        have hv : ∀ i ∈ tgv t, i ∈ (k.ownOf vs).map (·.2) := fun i hi => by
          unfold Ck.ownOf; rw [own_map]; exact of_decide_eq_true (List.all_eq_true.mp h4 i hi)
        have em : (k.ownOf vs).map (·.2) = vs := own_map vs
        have qs := sw_is (elt := elt) (gs := [⟨tg, iter, ifs, 0⟩]) (scope := scope) (pos := ps) (py := py) (y := y) (l := spos.line) C.kind
        cases hw : swB X.env.scope y py ps scope with
        | true =>
          rw [hw] at qs
          have hyl : X.env.scope.names.lookup y = some .local := by
            unfold swB at hw
            exact eq_of_beq (band (band hw).1).1
          refine q_setLc (own := k.ownOf vs) (t := t) (it := it) (ts := ts) (x := x) (fr := o) (i := i) gl c ?_ (C.slot hs1) hyl qs C.calm C.nd (hi.ok h5 X C) ok (fun s H C' cl fp => ht.ok h6 _ (B s H C' cl fp)) (fun s H C' cl fp => hf.ok h7 _ (B s H C' cl fp)) (fun s H C' cl fp => (hx.ok h8).se (B s H C' cl fp)) h3 hv
          rw [em]
          intro En σ H q
          cases o with
          | false => exact set_ok gl c q
          | true => exact ownG_ok gl c q
        | false =>
          rw [hw] at qs
          have q := fun fr => s_comp (fr := fr) (elt := elt) (pos := ps) gl c C.calm C.nd (hi.ok h5 X C) ok (fun s H C' cl fp => ht.ok h6 _ (B s H C' cl fp)) (fun s H C' cl fp => hf.ok h7 _ (B s H C' cl fp)) (fun s H C' cl fp => (hx.ok h8).se (B s H C' cl fp)) h3 hv
          rw [em] at q
          cases o with
          | false => exact q_set gl c C.nd (C.slot hs1) (C.loc hs2) (q false).e qs
          | true => exact q_own gl c C.nd (C.slot hs1) (C.loc hs2) (q true) qs⟩
    | .comp2 vs vs1 x (.mk t it ts) (.mk t1 it1 ts1), .ListComp elt [⟨tg, iter, ifs, n⟩, ⟨tg1, iter1, ifs1, n1⟩] scope ps =>
      let hi := kI fa gl c k it tg iter
      let ht := kTg fa gl c (k.inner scope) t tg
      let hf := kIf fa gl c (k.inner scope) ts ifs
      let hi1 := kI fa gl c (k.inner scope) it1 tg1 iter1
      let ht1 := kTg fa gl c (k.inner scope) t1 tg1
      let hf1 := kIf fa gl c (k.inner scope) ts1 ifs1
      let hx := kE fa gl c (k.inner scope) x elt
      ⟨k.slot i y && k.loc y && decide (n = 0) && decide (n1 = 0) && blkC k.N k.sc scope (k.ownOf vs) && notSet iter && notSet iter1 && ((tgv t).all fun i => decide (i ∈ vs)) && ((tgv t1).all fun i => decide (i ∈ vs1)) && (vs1.all fun i => decide (i ∈ vs)) && hi.b && ht.b && hf.b && hi1.b && ht1.b && hf1.b && hx.b, fun h X C _ => by
        obtain ⟨h, h15⟩ := band h
        obtain ⟨h, h14⟩ := band h
        obtain ⟨h, h13⟩ := band h
        obtain ⟨h, h12⟩ := band h
        obtain ⟨h, h11⟩ := band h
        obtain ⟨h, h10⟩ := band h
        obtain ⟨h, h9⟩ := band h
        obtain ⟨h, h8⟩ := band h
        obtain ⟨h, h7⟩ := band h
        obtain ⟨h, h6⟩ := band h
        obtain ⟨h, h5⟩ := band h
        obtain ⟨h, h4⟩ := band h
        obtain ⟨h, h3⟩ := band h
        obtain ⟨h, h2⟩ := band h
        obtain ⟨h, h1⟩ := band h
        obtain ⟨hs1, hs2⟩ := band h
        have e0 := of_decide_eq_true h1
        have e1 := of_decide_eq_true h2
        subst e0 e1
        have ok := C.blkOk h3
        have B := fun s H C' cl fp => C.blkk ok.kind s H C' cl fp
        have em : (k.ownOf vs).map (·.2) = vs := own_map vs
        have hv : ∀ i ∈ tgv t, i ∈ (k.ownOf vs).map (·.2) := fun i hi => by
          rw [em]; exact of_decide_eq_true (List.all_eq_true.mp h6 i hi)
        have hv1 : ∀ i ∈ tgv t1, i ∈ vs1 := fun i hi => of_decide_eq_true (List.all_eq_true.mp h7 i hi)
        have hvs : ∀ i ∈ vs1, i ∈ (k.ownOf vs).map (·.2) := fun i hi => by
          rw [em]; exact of_decide_eq_true (List.all_eq_true.mp h8 i hi)
        have qs := sw_is (elt := elt) (gs := [⟨tg, iter, ifs, 0⟩, ⟨tg1, iter1, ifs1, 0⟩]) (scope := scope) (pos := ps) (py := py) (y := y) (l := spos.line) C.kind
        cases hw : swB X.env.scope y py ps scope with
        | true =>
          rw [hw] at qs
          have hyl : X.env.scope.names.lookup y = some .local := by
            unfold swB at hw
            exact eq_of_beq (band (band hw).1).1
          refine q_setLc2 (own := k.ownOf vs) (vs1 := vs1) (t := t) (it := it) (ts := ts) (t1 := t1) (it1 := it1) (ts1 := ts1) (x := x) (fr := o) (i := i) gl c ?_ (C.slot hs1) hyl qs C.calm C.nd (hi.ok h9 X C) ok (fun s H C' cl fp => ht.ok h10 _ (B s H C' cl fp)) (fun s H C' cl fp => hf.ok h11 _ (B s H C' cl fp)) (fun s H C' cl fp => hi1.ok h12 _ (B s H C' cl fp)) (fun s H C' cl fp => ht1.ok h13 _ (B s H C' cl fp)) (fun s H C' cl fp => hf1.ok h14 _ (B s H C' cl fp)) (fun s H C' cl fp => (hx.ok h15).se (B s H C' cl fp)) h4 h5 hv hv1 hvs
          rw [em]
          intro En σ H q
          cases o with
          | false => exact set_ok gl c q
          | true => exact ownG_ok gl c q
        | false =>
          rw [hw] at qs
          have q := fun fr => s_comp2 (fr := fr) (elt := elt) (pos := ps) (vs1 := vs1) gl c C.calm C.nd (hi.ok h9 X C) ok (fun s H C' cl fp => ht.ok h10 _ (B s H C' cl fp)) (fun s H C' cl fp => hf.ok h11 _ (B s H C' cl fp)) (fun s H C' cl fp => hi1.ok h12 _ (B s H C' cl fp)) (fun s H C' cl fp => ht1.ok h13 _ (B s H C' cl fp)) (fun s H C' cl fp => hf1.ok h14 _ (B s H C' cl fp)) (fun s H C' cl fp => (hx.ok h15).se (B s H C' cl fp)) h4 h5 hv hv1 hvs
          rw [em] at q
          cases o with
          | false => exact q_set gl c C.nd (C.slot hs1) (C.loc hs2) (q false).e qs
          | true => exact q_own gl c C.nd (C.slot hs1) (C.loc hs2) (q true) qs⟩
    | _, _ => .no
def notTup : Expr → Bool
  | .Tuple .. => false
  | _ => true
mutual
def kS (k : Ck) : (m : Sm) → (st : Stmt) → Cert (GS fa gl c k m st)
  | .asg t x, st => match t, st with
    | .nm i, .Assign [.Name y py] v spos => kSet fa gl c k false i x y py spos v
    | .tp ts, .Assign [.Tuple es kt tp] v spos =>
      let a := kTg fa gl c k (.tp ts) (.Tuple es kt tp)
      let b := kE fa gl c k x v
      ⟨notTup v && a.b && b.b, fun h X C _ => by
        obtain ⟨h, h3⟩ := band h
        obtain ⟨h1, h2⟩ := band h
        exact q_asg gl c (a.ok h2 X C) ((b.ok h3).se C) (by cases v <;> rfl) (by cases v <;> first | rfl | cases h1) rfl⟩
    | _, _ => .no
  | .own i x, st => match st with
    | .Assign [.Name y py] v spos => kSet fa gl c k true i x y py spos v
    | _ => .no
  | .par i j oi oj x1 x2, st => match st with
    | .Assign [.Tuple [.Name x px, .Name y py] kt pt] (.Tuple [a, b] k2 pt2) spos =>
      let ha := kE fa gl c k x1 a
      let hb := kE fa gl c k x2 b
      ⟨k.slot i x && k.slot j y && decide (i ≠ j) && decide (k.sc.names.lookup x = some .local) && decide (k.sc.names.lookup y = some .local) && !(x == y) && (py.line == px.line) && unst a && unst b && !([a, b].all (foldedForSure 8)) && !([a, b].all (constantsAlone 8)) && (!oi || frE x1) && (!oj || frE x2) && ha.b && hb.b, fun h X C _ => by
        obtain ⟨h, h15⟩ := band h
        obtain ⟨h, h14⟩ := band h
        obtain ⟨h, h13⟩ := band h
        obtain ⟨h, h12⟩ := band h
        obtain ⟨h, h11⟩ := band h
        obtain ⟨h, h10⟩ := band h
        obtain ⟨h, h9⟩ := band h
        obtain ⟨h, h8⟩ := band h
        obtain ⟨h, h7⟩ := band h
        obtain ⟨h, h6⟩ := band h
        obtain ⟨h, h5⟩ := band h
        obtain ⟨h, h4⟩ := band h
        obtain ⟨h, h3⟩ := band h
        obtain ⟨h1, h2⟩ := band h
        have hx : X.env.scope.names.lookup x = some .local := by rw [C.sc]; exact of_decide_eq_true h4
        have hy : X.env.scope.names.lookup y = some .local := by rw [C.sc]; exact of_decide_eq_true h5
        exact q_par gl c C.calm C.nd (C.slot h1) (C.slot h2) (of_decide_eq_true h3) hx hy (ha.ok h14 X C oi fun z => by rw [z] at h12; simpa using h12) (hb.ok h15 X C oj fun z => by rw [z] at h13; simpa using h13) h8 h9
          (sw_par C.kind hx hy (by simpa using h6) h7 h8 h9 (by rw [Bool.not_eq_true'] at h10; exact h10) (by rw [Bool.not_eq_true'] at h11; exact h11))⟩
    | _ => .no
  | .put o ky x, st => match st with
    | .Assign [.Subscript a b _] v spos =>
      let ha := kE fa gl c k o a
      let hb := kE fa gl c k ky b
      let hv := kE fa gl c k x v
      ⟨noSlE b && ha.b && hb.b && hv.b, fun h X C _ => by
        obtain ⟨h, h4⟩ := band h
        obtain ⟨h, h3⟩ := band h
        obtain ⟨h1, h2⟩ := band h
        exact q_put gl c C.hu ((ha.ok h2).se C) ((hb.ok h3).se C) ((hv.ok h4).se C) h1⟩
    | _ => .no
  | .ex x, st => match st with
    | .Expr v _ =>
      let a := kE fa gl c k x v
      ⟨noComp v && a.b, fun h X C _ => q_ex gl c ((a.ok (band h).2).se C) (band h).1⟩
    | _ => .no
  | .ret x, st => match st with
    | .Return (some v) _ =>
      let a := kE fa gl c k x v
      ⟨a.b, fun h X C _ => q_ret gl c ((a.ok h).se C)⟩
    | _ => .no
  | .retN, st => match st with
    | .Return none _ => ⟨true, fun _ X C _ => q_retN gl c⟩
    | _ => .no
  | .pass, st => match st with
    | .Pass _ => ⟨true, fun _ X C _ => q_pass gl c⟩
    | .Expr (.Constant (.str _) _ _) _ => ⟨true, fun _ X C _ => q_doc gl c⟩
    | _ => .no
  | .cont, st => match st with
    | .Continue _ => ⟨true, fun _ X C _ => q_cont gl c⟩
    | _ => .no
  | .brk, st => match st with
    | .Break _ => ⟨true, fun _ X C _ => q_brk gl c⟩
    | _ => .no
  | .ite t a b, st => match st with
    | .If q p r _ =>
      let ht := kT fa gl c k t q
      let ha := kSs k a p
      let hb := kSs k b r
      ⟨ht.b && ha.b && hb.b, fun h X C P => q_ite gl c (ht.ok (band (band h).1).1 X C) (ha.ok (band (band h).1).2 X C P) (hb.ok (band h).2 X C P)⟩
    | _ => .no
  | .fr t it b, st => match st with
    | .For tg iter body [] _ =>
      let hi := kI fa gl c k it tg iter
      let ht := kTg fa gl c k t tg
      let hb := kSs k b body
      ⟨notSet iter && hi.b && ht.b && hb.b, fun h X C P => by
        obtain ⟨h, h4⟩ := band h
        obtain ⟨h, h3⟩ := band h
        obtain ⟨h1, h2⟩ := band h
        exact q_for gl c P C.calm (hi.ok h2 X C) (ht.ok h3 X C) (hb.ok h4 X C P) h1⟩
    | _ => .no
  | .whl t b, st => match st with
    | .While e body [] _ =>
      let ht := kT fa gl c k t e
      let hb := kSs k b body
      ⟨ht.b && hb.b, fun h X C P => q_while gl c P (ht.ok (band h).1 X C) (hb.ok (band h).2 X C P)⟩
    | _ => .no
def kSs (k : Ck) : (ms : List Sm) → (sts : List Stmt) → Cert (GSs fa gl c k ms sts)
  | [], sts => match sts with
    | [] => ⟨true, fun _ X C _ => q_nil gl c⟩
    | _ => .no
  | m :: ms, sts => match sts with
    | st :: sts =>
      let a := kS k m st
      let b := kSs k ms sts
      ⟨a.b && b.b, fun h X C P => q_cons gl c (a.ok (band h).1 X C P) (b.ok (band h).2 X C P)⟩
    | _ => .no
end
end
end Dn

/-! Dn, part W: defs, calls to a depth. -/
namespace Dn
open PySem PySem.Spec PyProof.Rows L2
/-- a def keeps its promise wherever no guard stands around -/
structure FnG (P : Program) (w : World) (K : PySem.W.Frag) (mg : PySem.Str → Option Value) (base : Heap) (k : Nat) (f : Addr) (fd : FuncData) (ps : List PySem.Str) (sp : List V → Hp → VK → Prop) : Prop where
  len : ∀ vs H Q, sp vs H Q → vs.length = ps.length
  run : ∀ (A : Around) (outer : List Env) (s : Shared) (H : Hp) (args : Args) (us : List Value) (vs : List V) (Q : VK), Room k A → A.guards = some [] → Env0 P w K mg base A outer s H → BindsTo s fd args (ps.zip us) → Vals vs us → sp vs H Q →
    codeAny (model P w) A (.call (.ref f) args) (CR CX0 outer P w H s Q E0) s
section
variable {P : Program} {w : World} {K : PySem.W.Frag} {mg : PySem.Str → Option Value} {base : Heap}
/-- a def of the text, by its body -/
theorem fnG_of {k : Nat} {f : Addr} {nm ql : PySem.Str} {pars : Arguments} {bd : List Stmt} {sc : Scope} {dV kV dc pm cdv ct oc : Value} {an od : Option Addr} {osl : Array (Option Value)} {N ps : List PySem.Str} {sp : List V → Hp → VK → Prop}
    (lk : K.lookup f = some ⟨oc, od, .func (PySem.W.fnOf nm ql pars bd sc dV kV dc pm an cdv ct), osl⟩) (code : PySem.W.codeIn K cdv ql = true) (S : FnScope N ps sc) (len : ∀ vs H Q, sp vs H Q → vs.length = ps.length)
    (body : ∀ (A : Around) (outer : List Env) (s : Shared) (H : Hp) (vs : List V) (Q : VK), Room k (A.deeper (envOfC ql sc s.heap.objs.size f cdv)) → A.guards = some [] → sp vs H Q →
      ∃ t, PSs (cxOf CX0 P w K mg base N ql sc f cdv A outer s H E0).nox bd t ∧ t { nx := fun _ H' => Q .non H', rt := Q } (L2.start N vs) H) :
    FnG P w K mg base (k + 1) f (PySem.W.fnOf nm ql pars bd sc dV kV dc pm an cdv ct) ps sp := by
  constructor
  · exact len
  intro A outer s H args us vs Q room gd e0 bnd rv promise
  have lv := len _ _ _ promise
  have kIn : K.In s.heap := e0.mod.kin.keeps fun b o z => (e0.bs b o z).1
  have noLim : s.heap.NoLimit := e0.mod.nolimit.keeps fun b o z => (e0.bs b o z).1
  have kinds : ∀ y ∈ ps.zip us, sc.names.lookup y.1 = some .local ∨ (sc.names.lookup y.1 = some .cell ∧ ((cellsFrom (s.heap.objs.size + 1) sc.names []).lookup y.1).isSome = true) := by
    rintro ⟨n, v⟩ hy
    exact (S.par n (List.of_mem_zip hy).1).imp id fun z => ⟨z, PySem.W.cellsFrom_some _ _ _ (.inl z)⟩
  apply codeAny_call_function (body := bd) room.depth (kIn _ _ lk) rfl S.co S.gen rfl (PySem.W.codeRec_of kIn code)
  apply bnd
  apply wpAny_newFunctionEnv_cells S.kind kinds
  rintro _ rfl s1 inCall
  obtain ⟨t, ht, hq⟩ := body A outer s H vs Q (room.deeper _) gd promise
  have I : Inv (cxOf CX0 P w K mg base N ql sc f cdv A outer s H E0) [] (L2.start N vs) H s1 := inv_start S room.hd e0 lv rv inCall
  refine ⟨noLim.keeps inCall.toInCall.keep, codeAny_func (wpAny_mono (ht.nox.run [] s1 (L2.start N vs) H _ I hq) ?_ fun _ _ z => z)⟩
  intro fl s' ends
  cases fl with
  | ret u =>
    obtain ⟨v, _, H', J, r, q⟩ := ends
    exact ⟨v, H', J.os, J.bare, J.base, J.hok, r, q⟩
  | next =>
    obtain ⟨_, H', J, q⟩ := ends
    exact ⟨.non, H', J.os, J.bare, J.base, J.hok, rfl, q⟩
  | brk => obtain ⟨_, _, _, q⟩ := ends; exact q.elim
  | cont => obtain ⟨_, _, _, q⟩ := ends; exact q.elim
/-- the callee, called from X -/
theorem run_fnG {X : Cx} {k : Nat} {f : Addr} {fd : FuncData} {ps : List PySem.Str} {sp : List V → Hp → VK → Prop} {pins : List (Addr × Obj)} {σ : L2.St} {H : Hp} {s : Shared} {Q : VK} {args : Args} {us : List Value} {vs : List V} (F : FnG X.prog X.w X.K X.mg X.base k f fd ps sp) (room : Room k X.A) (gd : X.A.guards = some [])
    (I : Inv X pins σ H s) (bnd : BindsTo s fd args (ps.zip us)) (r : Vals vs us) (h : sp vs H Q) : codeAny (model X.prog X.w) X.A (.call (.ref f) args) (fun r s' => match r with | .ok (.ret u) => EP X pins σ Q u s' | .ok _ => False | .error e => X.xe e s') s := by
  refine codeAny_mono (F.run X.A X.stack s H args us vs Q room gd I.env0 bnd r h) fun r s' hq => ?_
  cases r with
  | error e => exact False.elim hq
  | ok fl =>
    cases fl with
    | ret u => exact I.after hq
    | next => exact hq
    | brk => exact hq
    | cont => exact hq
end
/-! ### a callee's frame, and back -/
section
variable {K : PySem.W.Frag} {fa : Nat → Addr} {Z : Zn} {σ σ2 : L2.St} {Wr Wr' : Addr → Prop} {ρ ρ' : List Addr} {H H' : Hp} {s s2 : S}
theorem Fr.ret (F : Fr K fa Z Wr ρ H σ s) (x : Ex Wr ρ H Wr' ρ' H') (F2 : Fr K fa ⟨Wr, ρ, H, []⟩ Wr' ρ' H' σ2 s2) : Fr K fa Z Wr' ρ' H' σ { s with sto := s2.sto } := by
  have held : ∀ a xs, H a = some (.lst xs) → a ∉ ρ → H' a = some (.lst xs) := fun a xs e n => (F2.z3 a _ e).resolve_left n
  have out : ∀ a, (∃ o, H a = some o) → a ∉ ρ → a ∉ ρ' := fun a ⟨o, e⟩ n z => by
    rcases F2.z4 a z with q | q
    · exact n q
    · have q : H a = none := q
      rw [e] at q; cases q
  refine ⟨F2.mu, F2.rw, F2.nd, F2.len, F2.so, F.sl, fun i d e => ?_, fun i l e => ?_, F.od, fun n a e => F2.z1 n a (F.z1 n a e), fun a z => F2.z2 a (F.z2 a z), fun a o e => ?_, fun a z => ?_, fun a z => ?_, fun a xs e => ?_⟩
  · obtain ⟨v, e1, e2⟩ := F.sh i d e
    exact ⟨v, e1, e2.ext x⟩
  · obtain ⟨a, xs, g1, g2, g3, g4, g5, g6⟩ := F.ow i l e
    exact ⟨a, xs, g1, held a xs g2 g5, g3.ext x, F2.z2 a g4, out a ⟨_, g2⟩ g5, g6⟩
  · rcases F.z3 a o e with q | q
    · exact .inl q
    · rcases F2.z3 a o q with q2 | q2
      · rcases F.z4 a q2 with q3 | q3
        · exact .inl q3
        · rw [e] at q3; cases q3
      · exact .inr q2
  · rcases F2.z4 a z with q | q
    · exact F.z4 a q
    · exact .inr (F.zfresh q)
  · rcases F2.z5 a z with q | q
    · exact F.z5 a q
    · exact .inr (F.zfresh q)
  · obtain ⟨g1, g2, g3, g4, g5⟩ := F.ac a xs e
    exact ⟨held a xs g1 g3, F2.z2 a g2, out a ⟨_, g1⟩ g3, g4, g5⟩
theorem slots_get {n : Nat} {ds : List D} (i : Nat) : (slots n ds)[i]? = if i < ds.length then (ds[i]?).map .sh else if i < n then some .no else none := by
  unfold slots
  by_cases h : i < ds.length
  · rw [List.getElem?_append_left (by simpa using h), List.getElem?_map, if_pos h]
  · rw [List.getElem?_append_right (by simpa using h), if_neg h, List.getElem?_replicate, List.length_map]
    by_cases h2 : i < n
    · rw [if_pos (by omega), if_pos h2]
    · rw [if_neg (by omega), if_neg h2]
/-- a def is entered -/
theorem Fr.enter {N : List PySem.Str} {ds : List D} {vs : List V} (F : Fr K fa Z Wr ρ H σ s) (r : RpL K fa Wr ρ H ds vs) (hl : ds.length ≤ N.length) : Fr K fa ⟨Wr, ρ, H, []⟩ Wr ρ H (L2.start N vs) ⟨slots N.length ds, s.sto⟩ := by
  refine ⟨F.mu, F.rw, F.nd, F.len, F.so, ?_, fun i d e => ?_, fun i l e => ?_, fun i j l m a e => ?_, fun _ _ z => z, fun _ z => z, fun _ _ z => .inr z, fun _ z => .inl z, fun _ z => .inl z, fun a xs z => absurd z List.not_mem_nil⟩
  · unfold slots L2.start
    simp only [List.length_append, List.length_map, List.length_replicate, r.len]
  · rw [slots_get] at e
    split at e
    · rename_i hi
      obtain ⟨d', e1, e2⟩ := Option.map_eq_some_iff.mp e
      cases e2
      obtain ⟨v, e3, e4⟩ := r.get e1
      refine ⟨v, ?_, e4⟩
      unfold L2.start
      rw [List.getElem?_append_left (by rw [List.length_map, r.len]; exact hi), List.getElem?_map, e3]
      rfl
    · split at e <;> cases e
  · rw [slots_get] at e
    split at e
    · obtain ⟨d', e1, e2⟩ := Option.map_eq_some_iff.mp e
      cases e2
    · split at e <;> cases e
  · rw [slots_get] at e
    split at e
    · obtain ⟨d', e1, e2⟩ := Option.map_eq_some_iff.mp e
      cases e2
    · split at e <;> cases e
end
/-! ### the defs of a module -/
/-- a def as the top has laid it, and its body in the inner language -/
structure DefOk (K : PySem.W.Frag) (tb : Tb) (f : Df) (a : Addr) (N ps : List PySem.Str) (nm ql : PySem.Str) (pars : Arguments) (bd : List Stmt) (sc : Scope) (fd : FuncData) : Prop where
  ex : ∃ (oc : Value) (od : Option Addr) (dV kV dc pm : Value) (an : Option Addr) (cdv ct : Value) (osl : Array (Option Value)), fd = PySem.W.fnOf nm ql pars bd sc dV kV dc pm an cdv ct ∧ K.lookup a = some ⟨oc, od, .func fd, osl⟩ ∧ PySem.W.codeIn K cdv ql = true
  bind : Binds K fd ps []
  keep : PySem.W.keepIn K (.ref a) = true
  S : FnScope N ps sc
  ns : N.length = f.ns
  pn : ps.length = f.ps
  pl : ps.length ≤ N.length
  ok : ∀ (fa : Nat → Addr) (gl : List D) (c : Cl), GSs fa gl c ⟨tb, N, sc, none⟩ f.body bd
/-- the n-th def stands at a, whatever its text -/
def DefAt (K : PySem.W.Frag) (tb : Tb) (f : Df) (a : Addr) (fd : FuncData) (ps : List PySem.Str) : Prop := ∃ N nm ql pars bd sc, DefOk K tb f a N ps nm ql pars bd sc fd
/-- the whole module: its defs by number -/
structure ModOk (K : PySem.W.Frag) (mg : PySem.Str → Option Value) (tb : Tb) (gl : List D) (tbl : List Df) (fa : Nat → Addr) : Prop where
  defs : ∀ n f, tbl[n]? = some f → ∃ fd ps, DefAt K tb f (fa n) fd ps
  fns : ∀ x n, (x, n) ∈ tb.fns → mg x = some (.ref (fa n)) ∧ n < tbl.length
  blt : ∀ x, x ∈ tb.blt → mg x = none
  glo : ∀ x g, (x, g) ∈ tb.glos → ∃ v u, mg x = some u ∧ L2.RelV v u ∧ ∀ d, gl[g]? = some d → ∀ Wr ρ H, Rp K fa Wr ρ H d v
  kws : ∀ n m ks fl, ((n, m, ks), fl) ∈ tb.kws → ∃ f fd ps g gV, tbl[n]? = some f ∧ DefAt K tb f (fa n) fd ps ∧ KBn K fd ps m ks g gV ∧ ∀ Wr ρ H ds ys vs zs, RpL K fa Wr ρ H ds (vs ++ zs) → vs.length = m → zs.length = ks.length → fillD ds fl = some ys → RpL K fa Wr ρ H ys (gV vs zs)
section
variable {P : Program} {w : World} {K : PySem.W.Frag} {mg : PySem.Str → Option Value} {base : Heap} {tb : Tb} {gl : List D} {tbl : List Df} {fa : Nat → Addr}
theorem calls_in {k n : Nat} {ds : List D} {sto : List SO} (h : calls tbl gl k n ds sto ≠ .stk) : n < tbl.length := by
  cases k with
  | zero => exact absurd rfl h
  | succ k =>
    cases e : tbl[n]? with
    | none =>
      unfold calls at h
      rw [e] at h
      exact absurd rfl h
    | some f => exact (List.getElem?_eq_some_iff.mp e).1
/-- behind the body -/
theorem okS_ret {Z : Zn} {σ : L2.St} {Wr : Addr → Prop} {ρ : List Addr} {H : Hp} {s : S} {Q : VK} {f : Df} {c : Cl} {ds : List D} (F : Fr K fa Z Wr ρ H σ s) (q : OkD K fa Z σ Wr ρ H Q ((f.run gl c ds s.sto).to s)) :
    ds.length = f.ps ∧ OkS K fa ⟨Wr, ρ, H, []⟩ Wr ρ H { nx := fun _ H' => Q .non H', rt := Q } (evSs gl c f.body ⟨slots f.ns ds, s.sto⟩) := by
  unfold Df.run at q
  split at q
  case isFalse => exact q.elim
  rename_i hl
  refine ⟨hl, ?_⟩
  cases e : evSs gl c f.body ⟨slots f.ns ds, s.sto⟩ with
  | stk => rw [e] at q; exact q.elim
  | exc _ _ => rw [e] at q; exact q.elim
  | ok fl s2 =>
    rw [e] at q
    cases fl with
    | nx => exact fun Wr' ρ' σ' H' x F2 => q Wr' ρ' .non H' x (F.ret x F2) (by rw [Rp])
    | rt d => exact fun Wr' ρ' σ' v H' x F2 r => q Wr' ρ' v H' x (F.ret x F2) r
    | bk => exact q.elim
    | ct => exact q.elim
theorem bound_ok {X : Cx} {k n : Nat} {f : Df} {c : Cl} {fd : FuncData} {ps : List PySem.Str} (DA : DefAt X.K tb f (fa n) fd ps) (G : FnG X.prog X.w X.K X.mg X.base k (fa n) fd ps (rCall X.K fa (c n))) (room : Room k X.A) (gd : X.A.guards = some []) : FnAt X fa c n := by
  obtain ⟨N, nm, ql, pars, bd, sc, O⟩ := DA
  refine ⟨fun pins s σ H vs us Q I r h => ?_, O.keep⟩
  have hl := G.len _ _ _ h
  have hb := O.bind s us I.kIn (by rw [List.append_nil, ← r.length]; exact hl)
  rw [List.append_nil] at hb
  refine wpAny_call (codeAny_mono (run_fnG G room gd I hb r h) fun r s' z => ?_)
  cases r with
  | error e => exact z
  | ok fl => cases fl <;> exact z
theorem kw_ok' {X : Cx} {k n m : Nat} {ks : List PySem.Str} {fl : List (Sum Nat D)} {f : Df} {c : Cl} {fd : FuncData} {ps : List PySem.Str} {g : List Value → List Value → List Value} {gV : List V → List V → List V} (DA : DefAt X.K tb f (fa n) fd ps) (B : KBn X.K fd ps m ks g gV) (hf : ∀ Wr ρ H ds ys vs zs, RpL X.K fa Wr ρ H ds (vs ++ zs) → vs.length = m → zs.length = ks.length → fillD ds fl = some ys → RpL X.K fa Wr ρ H ys (gV vs zs)) (G : FnG X.prog X.w X.K X.mg X.base k (fa n) fd ps (rCall X.K fa (c n))) (room : Room k X.A) (gd : X.A.guards = some []) : KwAt X fa c n m ks fl := by
  obtain ⟨N, nm, ql, pars, bd, sc, O⟩ := DA
  refine ⟨fun pins s σ H vs zs us ws Q I r rz l1 l2 h => ?_, O.keep⟩
  obtain ⟨Z, Wr, ρ, σ0, s0, ds, ys, F, rl, e, q⟩ := h
  have h : rCall X.K fa (c n) (gV vs zs) H Q := ⟨Z, Wr, ρ, σ0, s0, ys, F, hf _ _ _ _ _ _ _ rl l1 l2 e, q⟩
  have hb := B.to s us ws I.kIn (by rw [← r.length]; exact l1) (by rw [← rz.length]; exact l2)
  refine wpAny_call (codeAny_mono (run_fnG G room gd I hb (B.rel r rz) h) fun r s' z => ?_)
  cases r with
  | error e => exact z
  | ok fl => cases fl <;> exact z
/-- every def keeps what the evaluator says, to any depth -/
theorem fns_ok (M : ModOk K mg tb gl tbl fa) : ∀ (k n : Nat) (f : Df) (fd : FuncData) (ps : List PySem.Str), tbl[n]? = some f → DefAt K tb f (fa n) fd ps → FnG P w K mg base k (fa n) fd ps (rCall K fa (calls tbl gl k n))
  | 0, n, f, fd, ps, hn, DA => by
    refine ⟨fun vs H Q h => ?_, fun A outer s H args us vs Q _ _ _ _ _ h => ?_⟩
    · obtain ⟨Z, Wr, ρ, σ, s, ds, F, r, q⟩ := h
      exact q.elim
    · obtain ⟨Z, Wr, ρ, σ, s, ds, F, r, q⟩ := h
      exact q.elim
  | k + 1, n, f, fd, ps, hn, DA => by
    have DA0 := DA
    obtain ⟨N, nm, ql, pars, bd, sc, O⟩ := DA
    obtain ⟨oc, od, dV, kV, dc, pm, an, cdv, ct, osl, rfl, lk, hcd⟩ := O.ex
    have step : ∀ ds sto, calls tbl gl (k + 1) n ds sto = f.run gl (calls tbl gl k) ds sto := fun ds sto => by
      rw [calls]; dsimp only; rw [hn]
    refine fnG_of lk hcd O.S (fun vs H Q h => ?_) fun A outer s H vs Q room gd h => ?_
    · obtain ⟨Z, Wr, ρ, σ, s, ds, F, r, q⟩ := h
      rw [step] at q
      rw [r.len, (okS_ret F q).1, O.pn]
    · obtain ⟨Z, Wr, ρ, σ, s0, ds, F, r, q⟩ := h
      rw [step] at q
      obtain ⟨hl, q⟩ := okS_ret F q
      refine ⟨_, O.ok fa gl (calls tbl gl k) _ ?_ PassesOwn.never, ⟨Wr, ρ, H, []⟩, Wr, ρ, ⟨slots N.length ds, s0.sto⟩, F.enter r (by rw [hl, ← O.pn]; exact O.pl), by rw [O.ns]; exact q⟩
      have ih := fun n f fd ps (h1 : tbl[n]? = some f) h2 => fns_ok M k n f fd ps h1 h2
      have fnAt : ∀ (m : Nat), m < tbl.length → ∀ X', Sib (cxOf CX0 P w K mg base N ql sc (fa n) cdv A outer s H E0).nox X' → FnAt X' fa (calls tbl gl k) m := fun m hm X' sb => by
        obtain ⟨f', hf'⟩ : ∃ f', tbl[m]? = some f' := ⟨tbl[m], List.getElem?_eq_getElem hm⟩
        obtain ⟨fd', ps', DA'⟩ := M.defs m f' hf'
        have G := ih m f' fd' ps' hf' DA'
        obtain ⟨b1, b2, b3, b4, b5, b6, b7⟩ := sb
        have e1 : X'.K = K := b3
        exact bound_ok (f := f') (by rw [e1]; exact DA') (by rw [show X'.prog = P from b1, show X'.w = w from b2, e1, show X'.mg = mg from b4, show X'.base = base from b5]; exact G) (by rw [b6]; exact room) (by rw [b6]; exact gd)
      refine ⟨rfl, rfl, fun _ _ => rfl, O.S.kind, rfl, O.S.nd, ?_, gd, fun x m h => ⟨(M.fns x m h).1, fnAt m (M.fns x m h).2⟩, fun m ds sto h => fnAt m (calls_in h), M.blt, M.glo, fun m j ks fl h X' sb => ?_⟩
      · have := room.un
        show (A.deeper _).units + 200 < cLine
        omega
      · obtain ⟨f', fd', ps', g, gV, hf', DA', B, hh⟩ := M.kws m j ks fl h
        have G := ih m f' fd' ps' hf' DA'
        obtain ⟨b1, b2, b3, b4, b5, b6, b7⟩ := sb
        have e1 : X'.K = K := b3
        exact kw_ok' (f := f') (g := g) (gV := gV) (by rw [e1]; exact DA') (by rw [e1]; exact B) (by rw [e1]; exact hh) (by rw [show X'.prog = P from b1, show X'.w = w from b2, e1, show X'.mg = mg from b4, show X'.base = base from b5]; exact G) (by rw [b6]; exact room) (by rw [b6]; exact gd)
end
end Dn

/-! Dn, part X: a law's call, the law's row. -/
namespace Dn
open PySem PySem.Spec PyProof.Rows L2
/-- the heap behind the top, the script alone known: the law's def answers true -/
theorem lawG_core {P : Program} {w : World} {K : PySem.W.Frag} {mg mb : PySem.Str → Option Value} {k : Nat} {fa a : Addr} {fd : FuncData} {x : PySem.Str} {sp : List V → Hp → VK → Prop} {st : Shared} {vs : List Value} (H : Hp)
    (kIn : K.In st.heap) (gN : st.heap.Ns mainGlobals mg) (bN : st.heap.Ns builtinsNs mb) (bb : ∀ y : PySem.Str, y ≠ "__name__" → mb y = bootBuiltins y) (nl : st.heap.NoLimit) (ng : st.gens = #[])
    (ga : st.heap.get? a = some { cls := .type "list", data := .seq vs.toArray }) (room : Room k callerA) (F : ∀ base : Heap, K.In base → base.Ns mainGlobals mg → FnG P w K mg base k fa fd [x] sp) (bnd : ∀ (s : Shared) (u : Value), BindsTo s fd ⟨[u], []⟩ [(x, u)])
    (only : ∀ b, H b = none ∨ ∃ o xs, H b = some (.frz o (.lst xs))) (promise : sp [.ref a] H fun v _ => v = .bl true) (hok : HOk P w H st.heap) (one : ∀ b, H b ≠ none → b = a) (outK : H a ≠ none → K.lookup a = none) :
    codeAny (model P w) callerA (.call (.ref fa) ⟨[.ref a], []⟩) (fun r s' => r = .ok (.ret (.bool true)) ∧ OldK st.heap s'.heap ∧ s'.os = st.os ∧ AllBare s'.gens) st := by
  have none_or : ∀ b : Addr, b ≠ a → H b = none := fun b n => Decidable.byContradiction fun z => n (one b z)
  have notA : ∀ {b : Addr} {o : Obj} {es : Array DictEntry} {ep : Nat}, st.heap.get? b = some o → o.data = .dict es ep → H b = none := by
    intro b o es ep e d
    by_cases n : b = a
    · subst n
      rw [ga] at e
      cases e
      cases d
    · exact none_or b n
  have baseNs : ∀ {b : Addr} {m : PySem.Str → Option Value}, st.heap.Ns b m → (hidT st.heap H).Ns b m := by
    rintro b m ⟨o, es, ep, e, d, r⟩
    exact ⟨o, es, ep, hidT_get e (notA e d), d, r⟩
  have baseK : K.In (hidT st.heap H) := by
    intro b o e
    refine hidT_get (kIn b o e) ?_
    by_cases n : b = a
    · subst n
      refine Decidable.byContradiction fun z => ?_
      rw [outK z] at e
      cases e
    · exact none_or b n
  obtain ⟨mc, nl1, nl2⟩ := nl
  have md : Mod K mg (hidT st.heap H) := ⟨baseK, baseNs gN, ⟨mb, baseNs bN, bb⟩, mc, baseNs nl1, nl2⟩
  have en : Env0 P w K mg (hidT st.heap H) callerA [] st H := ⟨rfl, md, fun b o e => of_hidT e, Nat.le_of_eq (hidT_size _ _), trivial, fun b hb => absurd hb List.not_mem_nil, hok, .of_eq ng⟩
  refine codeAny_mono ((F _ baseK (baseNs gN)).run callerA [] st H ⟨[.ref a], []⟩ [.ref a] [.ref a] _ room rfl en (bnd st (.ref a)) (.cons rfl .nil) promise) ?_
  intro r s' z
  cases r with
  | error e => exact False.elim z
  | ok fl =>
    cases fl with
    | next => exact False.elim z
    | brk => exact False.elim z
    | cont => exact False.elim z
    | ret u =>
      obtain ⟨v, H', os, bare, un, hok2, rv, q⟩ := z
      have q : v = .bl true := q
      subst q
      have rv : u = Value.bool true := rv
      subst rv
      refine ⟨rfl, OldK.of_keep fun b o e => ?_, os, bare⟩
      rcases only b with n | ⟨ob, xs, n⟩
      · exact un.keep b o e n (fun z => absurd z List.not_mem_nil) (fun z => absurd z List.not_mem_nil)
      · obtain ⟨g1, _⟩ := hok b _ n
        obtain ⟨g2, _⟩ := hok2 b _ (un.frzs b ob _ n)
        rw [e] at g1; cases g1
        exact g2
/-- the law's def at its script -/
theorem lawG {P : Program} {w : World} {K : PySem.W.Frag} {mg mb : PySem.Str → Option Value} {k : Nat} {fa a : Addr} {fd : FuncData} {x : PySem.Str} {sp : List V → Hp → VK → Prop} {st : Shared} {vs : List Value} {ns : List Int}
    (kIn : K.In st.heap) (gN : st.heap.Ns mainGlobals mg) (bN : st.heap.Ns builtinsNs mb) (bb : ∀ y : PySem.Str, y ≠ "__name__" → mb y = bootBuiltins y) (nl : st.heap.NoLimit) (ng : st.gens = #[])
    (ga : st.heap.get? a = some { cls := .type "list", data := .seq vs.toArray }) (hi : IntsAre vs ns) (hl : ns.length ≤ sizeLine) (room : Room k callerA) (F : ∀ base : Heap, K.In base → base.Ns mainGlobals mg → FnG P w K mg base k fa fd [x] sp) (bnd : ∀ (s : Shared) (u : Value), BindsTo s fd ⟨[u], []⟩ [(x, u)])
    (promise : ∀ H : Hp, SqW (fun _ => False) H a (ns.map V.int) ∨ SqK K a (ns.map V.int) → sp [.ref a] H fun v _ => v = .bl true) :
    codeAny (model P w) callerA (.call (.ref fa) ⟨[.ref a], []⟩) (fun r s' => r = .ok (.ret (.bool true)) ∧ OldK st.heap s'.heap ∧ s'.os = st.os ∧ AllBare s'.gens) st := by
  have rv := vals_ints hi
  have lv := hi.length
  cases e : K.lookup a with
  | some o =>
    have g := kIn a o e
    rw [ga] at g
    cases g
    refine lawG_core (fun _ => none) kIn gN bN bb nl ng ga room F bnd (fun _ => .inl rfl) (promise _ (.inr ⟨_, vs.toArray, _, e, rfl, rfl, rfl, ?_, ?_⟩)) (fun b u z => ?_) (fun b z => absurd rfl z) fun z => absurd rfl z
    · rw [List.size_toArray, lv]; exact hl
    · simpa using rv
    · have z : (none : Option HO) = some u := z
      cases z
  | none =>
    let ob : Obj := { cls := .type "list", data := .seq vs.toArray }
    have at_a : (fun b => if b = a then some (HO.frz ob (.lst (ns.map V.int))) else none) a = some (HO.frz ob (.lst (ns.map V.int))) := if_pos rfl
    refine lawG_core (fun b => if b = a then some (.frz ob (.lst (ns.map V.int))) else none) kIn gN bN bb nl ng ga room F bnd (fun b => ?_) (promise _ (.inl ⟨id, .inr ⟨ob, at_a⟩⟩)) (fun b u z => ?_) (fun b z => ?_) fun _ => e
    · by_cases n : b = a
      · exact .inr ⟨ob, _, if_pos n⟩
      · exact .inl (if_neg n)
    · by_cases n : b = a
      · subst n
        have z := at_a.symm.trans z
        cases z
        exact ⟨ga, by rw [List.length_map]; exact hl, vs, _, rv, ga⟩
      · have z := (if_neg n).symm.trans z
        cases z
    · exact Decidable.byContradiction fun n => z (if_neg n)
/-- a law's row, from the evaluator's answer -/
theorem walkG {l : PySem.W.OpenLaw} {q : Program} {loose : List PySem.Str} {XP : (PySem.Str → Option Value) → Heap → Prop} {YP : World → Heap → Prop} {d : DefRec} {K : Params → PySem.W.Frag} {tb : Tb} {tbl : List Df} {gl : List D} (k L : Nat) (hn : l.most = some 63) (hdf : d.params.defaults = []) (hr : Room k callerA)
    (hY : ∀ (w : World) (h : Heap), YP w h → (K w.params).In h)
    (maths : ∀ ns : List Int, ns.length ≤ 63 → ∃ sto, calls tbl gl k L [.kl ns] [] = .ok (.bl true) sto)
    (F : ∀ (w : World) (mg : PySem.Str → Option Value) (fa : Addr) (h : Heap), (K w.params).In h → h.Ns mainGlobals mg → mg d.name = some (.ref fa) →
      ∃ (at_ : Nat → Addr) (fd : FuncData) (f : Df) (x : PySem.Str), at_ L = fa ∧ tbl[L]? = some f ∧ (∀ (s : Shared) (u : Value), BindsTo s fd ⟨[u], []⟩ [(x, u)]) ∧ DefAt (K w.params) tb f fa fd [x] ∧ ModOk (K w.params) mg tb gl tbl at_) :
    PySem.W.WalkO q loose XP YP l.row.toRowW d [] (fun f vs => PySem.call f vs) := by
  refine Att.attach_callB hn hdf ?_
  intro w s0 s1 mg mb fa o pm cd doc a vs ns G Y _ _ _ hmg ga hi hlen _ ng
  have kIn := hY w _ Y
  obtain ⟨at_, fd, f, x, rfl, hf, bnd, DA, M⟩ := F w mg fa _ kIn G.T.g hmg
  refine lawG (sp := rCall (K w.params) at_ (calls tbl gl k L)) kIn G.T.g G.T.b G.T.builtins G.T.nolimit ng ga hi (Nat.le_trans hlen (by decide)) hr (fun base b1 b2 => fns_ok M k L f fd [x] hf DA) bnd fun H hS => ?_
  obtain ⟨sto, e⟩ := maths ns hlen
  refine ⟨⟨fun _ => False, [], H, []⟩, fun _ => False, [], [], ⟨[], []⟩, [.kl ns], ?_, .cons ?_ .nil, ?_⟩
  · exact ⟨fun _ z => z.elim, fun _ z => absurd z List.not_mem_nil, List.nodup_nil, rfl, fun n o b z => by simp at z, rfl, fun i d z => by simp at z, fun i d z => by simp at z, fun i j l m b z => by simp at z, fun n b z => z, fun _ z => z, fun _ _ z => .inr z, fun _ z => .inl z, fun _ z => .inl z, fun _ _ z => absurd z List.not_mem_nil⟩
  · rw [Rp]; exact ⟨a, rfl, hS⟩
  · rw [e]
    intro Wr' ρ' v H' _ _ r
    rw [Rp] at r
    exact r
/-- the FnScope of a def, told by its parts -/
theorem def_ok {K : PySem.W.Frag} {tb : Tb} {f : Df} {a : Addr} {N ps : List PySem.Str} {nm : PySem.Str} {pars : Arguments} {bd : List Stmt} {sc : Scope} {oc dV kV dc pm cdv ct : Value} {an od : Option Addr} {osl : Array (Option Value)}
    (lk : K.lookup a = some ⟨oc, od, .func (PySem.W.fnOf nm nm pars bd sc dV kV dc pm an cdv ct), osl⟩) (hc : PySem.W.codeIn K cdv nm = true) (hk : PySem.W.keepIn K (.ref a) = true) (S : FnScope N ps sc)
    (b : ∀ us : List Value, us.length = ps.length → bindArgs (PySem.W.fnOf nm nm pars bd sc dV kV dc pm an cdv ct) ⟨us, []⟩ = pure (ps.zip us)) (hn : N.length = f.ns) (hp : ps.length = f.ps) (hl : ps.length ≤ N.length)
    (ok : ∀ (fa : Nat → Addr) (gl : List D) (c : Cl), (kSs fa gl c ⟨tb, N, sc, none⟩ f.body bd).b = true) : DefAt K tb f a (PySem.W.fnOf nm nm pars bd sc dV kV dc pm an cdv ct) ps :=
  ⟨N, nm, nm, pars, bd, sc, ⟨oc, od, dV, kV, dc, pm, an, cdv, ct, osl, rfl, lk, hc⟩, .all b, hk, S, hn, hp, hl, fun fa gl c => (kSs fa gl c _ _ _).ok (ok fa gl c)⟩
end Dn

/-! Dn, part Y: rules to reckon with the evaluator. -/
namespace Dn
open PySem
theorem ofO_some {α : Type} {a : α} {s : S} : ofO (some a) s = .ok a s := rfl
theorem pd_d {s : S} {x : D} : Pd.get s (.d x) = some x := rfl
theorem pd_p {env : List Sl} {sto : List SO} {i : Nat} : Pd.get ⟨env, sto⟩ (.p i) = (env[i]?).bind rdSl := rfl
theorem pdAll_nil {s : S} : pdAll s [] = some [] := rfl
theorem pdAll_cons {s : S} {p : Pd} {ps : List Pd} : pdAll s (p :: ps) = (p.get s).bind fun d => (pdAll s ps).map (d :: ·) := by
  rw [pdAll]; cases p.get s <;> cases pdAll s ps <;> rfl
theorem asg_nm {i : Nat} {d : D} {env : List Sl} {sto : List SO} : asg (.nm i) d ⟨env, sto⟩ = if i < env.length then some ⟨env.set i (.sh d), sto⟩ else none := by
  rw [asg]; rfl
theorem asg_tp {ts : Tgs} {l : List D} {s : S} : asg (.tp ts) (.tup l) s = asgs ts l s := by rw [asg]
theorem asgs_nil {s : S} : asgs .nil [] s = some s := by rw [asgs]
theorem asgs_cons {t : Tg} {r : Tgs} {d : D} {ds : List D} {s : S} : asgs (.cons t r) (d :: ds) s = (asg t d s).bind fun s => asgs r ds s := by
  rw [asgs]; cases asg t d s <;> rfl
theorem run_bin {o : Operator} {sto : List SO} {x y : D} : (P.bin o).run sto [x, y] = binD o x y := rfl
theorem run_cmp {o : CmpOp} {sto : List SO} {x y : D} : (P.cmp o).run sto [x, y] = (cmpD o x y).map .bl := rfl
theorem run_idx {sto : List SO} {ds : List D} : P.idx.run sto ds = idxD sto ds := rfl
theorem run_bf {n : String} {sto : List SO} {ds : List D} : (P.bf n).run sto ds = bfD n ds := rfl
theorem run_bt {n : String} {sto : List SO} {ds : List D} : (P.bt n).run sto ds = btD n ds := rfl
theorem run_rev {sto : List SO} {l : List D} : P.rev.run sto [.lst l] = some (.lst l.reverse) := rfl
theorem run_slcT {lo hi : Bool} {sto : List SO} {l ps : List D} : (P.slc lo hi).run sto (.tup l :: ps) = (prts lo hi ps).map fun p => .tup (D.cut l p.1 p.2) := rfl
theorem run_slcL {lo hi : Bool} {sto : List SO} {l ps : List D} : (P.slc lo hi).run sto (.lst l :: ps) = (prts lo hi ps).map fun p => .lst (D.cut l p.1 p.2) := rfl
theorem run_slcK {lo hi : Bool} {sto : List SO} {l : List Int} {ps : List D} : (P.slc lo hi).run sto (.kl l :: ps) = (prts lo hi ps).map fun p => .lst (D.cut (l.map .int) p.1 p.2) := rfl
theorem add_int {i j : Int} : binD .Add (.int i) (.int j) = some (.int (i + j)) := rfl
theorem sub_int {i j : Int} : binD .Sub (.int i) (.int j) = some (.int (i - j)) := rfl
theorem mul_int {i j : Int} (h : i.natAbs.log2 + j.natAbs.log2 < 1000000) : binD .Mult (.int i) (.int j) = some (.int (i * j)) := if_pos h
theorem div_int {i j : Int} (h : 0 < j) (h2 : j.natAbs.log2 < 9000) : binD .FloorDiv (.int i) (.int j) = some (.int (i / j)) := if_pos (by rw [decide_eq_true h, decide_eq_true h2]; rfl)
theorem mod_int {i j : Int} (h : 0 < j) : binD .Mod (.int i) (.int j) = some (.int (i % j)) := if_pos (decide_eq_true h)
theorem pow_int {i j : Int} (h : 0 ≤ j) (h2 : j ≤ 1000) (h3 : i.natAbs < 2 ^ 64) : binD .Pow (.int i) (.int j) = some (.int (i ^ j.toNat)) := if_pos (by rw [decide_eq_true h, decide_eq_true h2, decide_eq_true h3]; rfl)
theorem gt_int {i j : Int} : cmpD .Gt (.int i) (.int j) = some (decide (j < i)) := rfl
theorem lt_int {i j : Int} : cmpD .Lt (.int i) (.int j) = some (decide (i < j)) := rfl
theorem ge_int {i j : Int} : cmpD .GtE (.int i) (.int j) = some (decide (j ≤ i)) := rfl
theorem le_int {i j : Int} : cmpD .LtE (.int i) (.int j) = some (decide (i ≤ j)) := rfl
theorem len_lst {l : List D} : bfD "len" [.lst l] = some (.int l.length) := rfl
theorem len_tup {l : List D} : bfD "len" [.tup l] = some (.int l.length) := rfl
theorem rc_ok {d : D} {sto : List SO} {s : S} : (RC.ok d sto).to s = .ok d { s with sto := sto } := rfl
theorem calls_s {tb : List Df} {gl : List D} {k n : Nat} {ds : List D} {sto : List SO} {f : Df} (h : tb[n]? = some f) : calls tb gl (k + 1) n ds sto = f.run gl (calls tb gl k) ds sto := by
  rw [calls]; dsimp only; rw [h]
theorem log2_lt {n k : Nat} (h : n < 2 ^ k) (hk : 0 < k) : n.log2 < k := by
  by_cases e : n = 0
  · subst e; simpa using hk
  · exact (Nat.log2_lt e).mpr h
/-! ### the tap: a dict of four -/
def tapD (cs : List Int) (s r c : Int) : SO := .dct [(.inr "cells", .lst (cs.map .int)), (.inr "spot", .int s), (.inr "rest", .int r), (.inr "calls", .int c)]
section
variable {cs : List Int} {s r c x : Int} {sto : List SO}
theorem tap_cells : idxD (tapD cs s r c :: sto) [.ref 0, .str "cells"] = some (.lst (cs.map .int)) := by
  simp only [idxD, List.getElem?_cons_zero, tapD, Dn.keyOf, kget]; rfl
theorem tap_spot : idxD (tapD cs s r c :: sto) [.ref 0, .str "spot"] = some (.int s) := by
  simp only [idxD, List.getElem?_cons_zero, tapD, Dn.keyOf, kget]; rfl
theorem tap_rest : idxD (tapD cs s r c :: sto) [.ref 0, .str "rest"] = some (.int r) := by
  simp only [idxD, List.getElem?_cons_zero, tapD, Dn.keyOf, kget]; rfl
theorem tap_calls : idxD (tapD cs s r c :: sto) [.ref 0, .str "calls"] = some (.int c) := by
  simp only [idxD, List.getElem?_cons_zero, tapD, Dn.keyOf, kget]; rfl
theorem put_spot : stoPut (tapD cs s r c :: sto) (.ref 0) (.str "spot") (.int x) = some (tapD cs x r c :: sto) := rfl
theorem put_rest : stoPut (tapD cs s r c :: sto) (.ref 0) (.str "rest") (.int x) = some (tapD cs s x c :: sto) := rfl
theorem put_calls : stoPut (tapD cs s r c :: sto) (.ref 0) (.str "calls") (.int x) = some (tapD cs s r x :: sto) := rfl
end
end Dn

/-! Dn, part Z: the defs that many laws share: the tap, what is taken from it, the towns. -/
namespace Dn
open PySem L2
def tapF : Df := ⟨1, 1, [.ret (.dict [.inr "cells", .inr "spot", .inr "rest", .inr "calls"] (.cons (.prim (.bt "list") (.cons (.e (.prim (.slc false true) (.cons (.b 0) (.cons (.e (.cst (.int 63))) .nil)))) .nil)) (.cons (.cst (.int 0)) (.cons (.cst (.int 0)) (.cons (.cst (.int 0)) .nil)))))]⟩
def takeF : Df := ⟨2, 8, [.asg (.nm 2) (.prim (.bin .Add) (.cons (.e (.prim .idx (.cons (.b 0) (.cons (.e (.cst (.str "calls"))) .nil)))) (.cons (.e (.cst (.int 1))) .nil))),
    .put (.var 0) (.cst (.str "calls")) (.var 2),
    .ite (.cmp .Gt (.e (.prim .idx (.cons (.b 0) (.cons (.e (.cst (.str "rest"))) .nil)))) (.e (.cst (.int 0)))) [.asg (.nm 3) (.prim (.bin .Mod) (.cons (.e (.prim .idx (.cons (.b 0) (.cons (.e (.cst (.str "rest"))) .nil)))) (.cons (.b 1) .nil))),
    .put (.var 0) (.cst (.str "rest")) (.prim (.bin .FloorDiv) (.cons (.e (.prim .idx (.cons (.b 0) (.cons (.e (.cst (.str "rest"))) .nil)))) (.cons (.b 1) .nil))),
    .ret (.var 3)] [],
    .asg (.nm 4) (.prim .idx (.cons (.b 0) (.cons (.e (.cst (.str "spot"))) .nil))),
    .put (.var 0) (.cst (.str "spot")) (.prim (.bin .Add) (.cons (.b 4) (.cons (.e (.cst (.int 1))) .nil))),
    .asg (.nm 5) (.prim .idx (.cons (.b 0) (.cons (.e (.cst (.str "cells"))) .nil))),
    .asg (.nm 6) (.ite (.cmp .Gt (.e (.prim (.bf "len") (.cons (.b 5) .nil))) (.e (.cst (.int 0)))) (.prim .idx (.cons (.b 5) (.cons (.e (.prim (.bin .Mod) (.cons (.b 4) (.cons (.e (.prim (.bf "len") (.cons (.b 5) .nil))) .nil)))) .nil))) (.cst (.int 11))),
    .ite (.and (.cons (.cmp .Lt (.b 4) (.e (.prim (.bf "len") (.cons (.b 5) .nil)))) (.cons (.cmp .GtE (.b 6) (.e (.prim (.bin .Pow) (.cons (.e (.cst (.int 10))) (.cons (.e (.cst (.int 18))) .nil))))) .nil))) [.put (.var 0) (.cst (.str "rest")) (.prim (.bin .FloorDiv) (.cons (.b 6) (.cons (.b 1) .nil))),
    .ret (.prim (.bin .Mod) (.cons (.b 6) (.cons (.b 1) .nil)))] [],
    .asg (.nm 7) (.prim (.bin .Mod) (.cons (.e (.prim (.bin .Pow) (.cons (.e (.prim (.bin .Add) (.cons (.e (.prim (.bin .Add) (.cons (.e (.prim (.bin .Mod) (.cons (.b 6) (.cons (.e (.cst (.int 2147483629))) .nil)))) (.cons (.e (.prim (.bin .Mult) (.cons (.e (.cst (.int 6029))) (.cons (.b 2) .nil)))) .nil)))) (.cons (.e (.cst (.int 17))) .nil)))) (.cons (.e (.cst (.int 5))) .nil)))) (.cons (.e (.cst (.int 2147483647))) .nil))),
    .ret (.prim (.bin .Mod) (.cons (.e (.prim (.bin .FloorDiv) (.cons (.e (.prim (.bin .Mod) (.cons (.e (.prim (.bin .Pow) (.cons (.e (.prim (.bin .Add) (.cons (.b 7) (.cons (.e (.prim (.bin .Mult) (.cons (.e (.prim (.bin .Mult) (.cons (.e (.cst (.int 4111))) (.cons (.b 2) .nil)))) (.cons (.b 2) .nil)))) .nil)))) (.cons (.e (.cst (.int 5))) .nil)))) (.cons (.e (.cst (.int 2147483587))) .nil)))) (.cons (.e (.cst (.int 32))) .nil)))) (.cons (.b 1) .nil)))]⟩
def townsT : T := .cmp .Gt (.e (.prim (.bf "len") (.cons (.b 2) .nil))) (.b 3)
def townsB (n : Nat) : List Sm := [.ex (.mut .popAt 2 (.cons (.call n none (.cons (.var 0) (.cons (.prim (.bf "len") (.cons (.b 2) .nil)) .nil)) .nil) .nil))]
def townsF (n : Nat) : Df := ⟨2, 4, [.own 2 (.lst (.cons (.cst (.str "ash")) (.cons (.cst (.str "b")) (.cons (.cst (.str "elm")) (.cons (.cst (.str "oak")) (.cons (.cst (.str "zzzzzzzz")) .nil)))))),
    .asg (.nm 3) (.prim (.bf "min") (.cons (.e (.cst (.int 4))) (.cons (.e (.prim (.bin .Add) (.cons (.b 1) (.cons (.e (.call n none (.cons (.var 0) (.cons (.cst (.int 3)) .nil)) .nil)) .nil)))) .nil))),
    .whl townsT (townsB n),
    .ret (.var 2)]⟩
theorem m_log {m : Int} (hm : 0 < m) (hm2 : m < 1000) : m.natAbs.log2 < 9000 := Nat.lt_trans (log2_lt (k := 10) (show m.natAbs < 1024 by omega) (by decide)) (by decide)
def cellOf (cs : List Int) (s : Int) : Int := if 0 < (cs.length : Int) then cs.getD (s % cs.length).toNat 0 else 11
def drawn (x c m : Int) : Int := (((x % 2147483629 + 6029 * c + 17) ^ 5 % 2147483647 + 4111 * c * c) ^ 5 % 2147483587) / 32 % m
theorem at_cell {sto : List SO} {cs : List Int} {s : Int} (h : 0 < (cs.length : Int)) : idxD sto [.lst (cs.map .int), .int (s % cs.length)] = some (.int (cs.getD (s % cs.length).toNat 0)) := by
  have h1 : 0 ≤ s % (cs.length : Int) := Int.emod_nonneg _ (by omega)
  have h2 : s % (cs.length : Int) < cs.length := Int.emod_lt_of_pos _ h
  have h3 : (s % (cs.length : Int)).toNat < cs.length := by omega
  simp only [idxD, atI, ixN, List.length_map, if_pos h1, if_pos h2, Option.bind_some, List.getElem?_map]
  rw [List.getElem?_eq_getElem h3, List.getD_eq_getElem?_getD, List.getElem?_eq_getElem h3]
  rfl
section
variable {tbl : List Df} {gl : List D} {n : Nat}
theorem take1 (hn : tbl[n]? = some takeF) (k : Nat) (cs : List Int) (s r c m : Int) (hr : 0 < r) (hm : 0 < m) (hm2 : m < 1000) : calls tbl gl (k + 1) n [.ref 0, .int m] [tapD cs s r c] = .ok (.int (r % m)) [tapD cs s (r / m) (c + 1)] := by
  rw [calls_s hn, Df.run, if_pos (by rfl)]
  have e : slots takeF.ns [.ref 0, .int m] = [.sh (.ref 0), .sh (.int m), .no, .no, .no, .no, .no, .no] := rfl
  rw [e]
  simp only [takeF, evSs, evS, evE, evEs, evO, evOs, evT, R.bind_ok, ofO_some, pd_d, pd_p, pdAll_nil, pdAll_cons, asg_nm, run_bin, run_idx, tap_calls, tap_rest, put_calls, put_rest, add_int, gt_int, mod_int hm, div_int hm (m_log hm hm2), Cst.d, List.getElem?_cons_zero, List.getElem?_cons_succ, Option.bind_some, Option.map_some, rdSl, List.length_cons, List.length_nil, List.set_cons_zero, List.set_cons_succ, decide_eq_true hr, if_true, Nat.reduceAdd, Nat.reduceLT]
theorem take2 (hn : tbl[n]? = some takeF) (k : Nat) (cs : List Int) (s r c m : Int) (hr : r ≤ 0) (hs : 0 ≤ s) (hc : 0 ≤ c) (hc2 : c < 1000000) (hm : 0 < m) (hm2 : m < 1000) :
    calls tbl gl (k + 1) n [.ref 0, .int m] [tapD cs s r c] = if s < cs.length ∧ 10 ^ 18 ≤ cellOf cs s then .ok (.int (cellOf cs s % m)) [tapD cs (s + 1) (cellOf cs s / m) (c + 1)] else .ok (.int (drawn (cellOf cs s) (c + 1) m)) [tapD cs (s + 1) r (c + 1)] := by
  rw [calls_s hn, Df.run, if_pos (by rfl)]
  have e : slots takeF.ns [.ref 0, .int m] = [.sh (.ref 0), .sh (.int m), .no, .no, .no, .no, .no, .no] := rfl
  rw [e]
  have hr' : ¬ 0 < r := by omega
  have l0 := log2_lt (k := 30) (show (c + 1).natAbs < 2 ^ 30 by omega) (by decide)
  have l1 : (6029 : Int).natAbs.log2 + (c + 1).natAbs.log2 < 1000000 := by
    have : (6029 : Int).natAbs.log2 < 20 := by decide
    omega
  have l2 : (4111 : Int).natAbs.log2 + (c + 1).natAbs.log2 < 1000000 := by
    have : (4111 : Int).natAbs.log2 < 20 := by decide
    omega
  have l3 : (4111 * (c + 1)).natAbs.log2 + (c + 1).natAbs.log2 < 1000000 := by
    have := log2_lt (k := 40) (show (4111 * (c + 1)).natAbs < 2 ^ 40 by omega) (by decide)
    omega
  have sq : 0 ≤ 4111 * (c + 1) * (c + 1) ∧ 4111 * (c + 1) * (c + 1) ≤ 4111 * 1000000 * 1000000 := by
    refine ⟨Int.mul_nonneg (by omega) (by omega), Int.mul_le_mul (by omega) (by omega) (by omega) (by omega)⟩
  have b1 : ∀ x : Int, (x % 2147483629 + 6029 * (c + 1) + 17).natAbs < 2 ^ 64 := fun x => by
    have h1 : 0 ≤ x % 2147483629 := Int.emod_nonneg _ (by decide)
    have h2 : x % 2147483629 < 2147483629 := Int.emod_lt_of_pos _ (by decide)
    omega
  have b2 : ∀ x : Int, (x % 2147483647 + 4111 * (c + 1) * (c + 1)).natAbs < 2 ^ 64 := fun x => by
    have h1 : 0 ≤ x % 2147483647 := Int.emod_nonneg _ (by decide)
    have h2 : x % 2147483647 < 2147483647 := Int.emod_lt_of_pos _ (by decide)
    omega
  have p18 : binD .Pow (.int 10) (.int 18) = some (.int (10 ^ 18)) := rfl
  have p1 : ∀ x : Int, binD .Pow (.int (x % 2147483629 + 6029 * (c + 1) + 17)) (.int 5) = some (.int ((x % 2147483629 + 6029 * (c + 1) + 17) ^ 5)) := fun x => pow_int (by decide) (by decide) (b1 x)
  have p2 : ∀ x : Int, binD .Pow (.int (x % 2147483647 + 4111 * (c + 1) * (c + 1))) (.int 5) = some (.int ((x % 2147483647 + 4111 * (c + 1) * (c + 1)) ^ 5)) := fun x => pow_int (by decide) (by decide) (b2 x)
  have d32 : ∀ x : Int, binD .FloorDiv (.int x) (.int 32) = some (.int (x / 32)) := fun x => div_int (by decide) (by decide)
  have q1 : ∀ x : Int, binD .Mod (.int x) (.int 2147483629) = some (.int (x % 2147483629)) := fun x => mod_int (by decide)
  have q2 : ∀ x : Int, binD .Mod (.int x) (.int 2147483647) = some (.int (x % 2147483647)) := fun x => mod_int (by decide)
  have q3 : ∀ x : Int, binD .Mod (.int x) (.int 2147483587) = some (.int (x % 2147483587)) := fun x => mod_int (by decide)
  by_cases hl : 0 < (cs.length : Int)
  · have ec : cellOf cs s = cs.getD (s % cs.length).toNat 0 := if_pos hl
    by_cases h1 : s < cs.length
    · by_cases h2 : (10 : Int) ^ 18 ≤ cs.getD (s % cs.length).toNat 0
      · simp only [takeF, evSs, evS, evE, evEs, evO, evOs, evT, evTs, R.bind_ok, ofO_some, pd_d, pd_p, pdAll_nil, pdAll_cons, asg_nm, run_bin, run_idx, run_bf, len_lst, List.length_map, at_cell hl, tap_calls, tap_rest, tap_spot, tap_cells, put_calls, put_rest, put_spot, add_int, gt_int, lt_int, ge_int, mod_int hm, mod_int hl, div_int hm (m_log hm hm2), p18, Cst.d, List.getElem?_cons_zero, List.getElem?_cons_succ, Option.bind_some, Option.map_some, rdSl, List.length_cons, List.length_nil, List.set_cons_zero, List.set_cons_succ, decide_eq_true hl, decide_eq_true h1, decide_eq_true h2, decide_eq_false hr', if_true, if_false, Bool.false_eq_true, Nat.reduceAdd, Nat.reduceLT, decide_true, decide_false, ec, h1, h2, true_and, and_self]
      · simp only [takeF, evSs, evS, evE, evEs, evO, evOs, evT, evTs, R.bind_ok, ofO_some, pd_d, pd_p, pdAll_nil, pdAll_cons, asg_nm, run_bin, run_idx, run_bf, len_lst, List.length_map, at_cell hl, tap_calls, tap_rest, tap_spot, tap_cells, put_calls, put_rest, put_spot, add_int, gt_int, lt_int, ge_int, mod_int hm, mod_int hl, p18, p1, p2, q1, q2, q3, d32, mul_int l1, mul_int l2, mul_int l3, Cst.d, List.getElem?_cons_zero, List.getElem?_cons_succ, Option.bind_some, Option.map_some, rdSl, List.length_cons, List.length_nil, List.set_cons_zero, List.set_cons_succ, decide_eq_true hl, decide_eq_true h1, decide_eq_false h2, decide_eq_false hr', if_true, if_false, Bool.false_eq_true, Nat.reduceAdd, Nat.reduceLT, decide_true, decide_false, ec, h1, h2, true_and, and_false, drawn]
    · simp only [takeF, evSs, evS, evE, evEs, evO, evOs, evT, evTs, R.bind_ok, ofO_some, pd_d, pd_p, pdAll_nil, pdAll_cons, asg_nm, run_bin, run_idx, run_bf, len_lst, List.length_map, at_cell hl, tap_calls, tap_rest, tap_spot, tap_cells, put_calls, put_rest, put_spot, add_int, gt_int, lt_int, ge_int, mod_int hm, mod_int hl, p18, p1, p2, q1, q2, q3, d32, mul_int l1, mul_int l2, mul_int l3, Cst.d, List.getElem?_cons_zero, List.getElem?_cons_succ, Option.bind_some, Option.map_some, rdSl, List.length_cons, List.length_nil, List.set_cons_zero, List.set_cons_succ, decide_eq_true hl, decide_eq_false h1, decide_eq_false hr', if_true, if_false, Bool.false_eq_true, Nat.reduceAdd, Nat.reduceLT, decide_true, decide_false, ec, h1, false_and, drawn]
  · have ec : cellOf cs s = 11 := if_neg hl
    have h1 : ¬ s < cs.length := by omega
    simp only [takeF, evSs, evS, evE, evEs, evO, evOs, evT, evTs, R.bind_ok, ofO_some, pd_d, pd_p, pdAll_nil, pdAll_cons, asg_nm, run_bin, run_idx, run_bf, len_lst, List.length_map, tap_calls, tap_rest, tap_spot, tap_cells, put_calls, put_rest, put_spot, add_int, gt_int, lt_int, ge_int, mod_int hm, p18, p1, p2, q1, q2, q3, d32, mul_int l1, mul_int l2, mul_int l3, Cst.d, List.getElem?_cons_zero, List.getElem?_cons_succ, Option.bind_some, Option.map_some, rdSl, List.length_cons, List.length_nil, List.set_cons_zero, List.set_cons_succ, decide_eq_false hl, decide_eq_false h1, decide_eq_false hr', if_true, if_false, Bool.false_eq_true, Nat.reduceAdd, Nat.reduceLT, decide_true, decide_false, ec, h1, false_and, drawn]
/-- the tap stands, at most C were taken -/
def TapOk (C : Int) (sto : List SO) : Prop := ∃ cs s r c, sto = [tapD cs s r c] ∧ 0 ≤ s ∧ 0 ≤ c ∧ c ≤ C
theorem TapOk.mono {C C' : Int} {sto : List SO} (h : TapOk C sto) (l : C ≤ C') : TapOk C' sto := by
  obtain ⟨cs, s, r, c, e, h1, h2, h3⟩ := h
  exact ⟨cs, s, r, c, e, h1, h2, Int.le_trans h3 l⟩
theorem take_ok (hn : tbl[n]? = some takeF) (k : Nat) {sto : List SO} {C m : Int} (h : TapOk C sto) (hC : C < 1000000) (hm : 0 < m) (hm2 : m < 1000) : ∃ z sto', calls tbl gl (k + 1) n [.ref 0, .int m] sto = .ok (.int z) sto' ∧ 0 ≤ z ∧ z < m ∧ TapOk (C + 1) sto' := by
  obtain ⟨cs, s, r, c, rfl, h1, h2, h3⟩ := h
  by_cases hr : 0 < r
  · exact ⟨_, _, take1 hn k cs s r c m hr hm hm2, Int.emod_nonneg _ (by omega), Int.emod_lt_of_pos _ hm, cs, s, _, _, rfl, h1, by omega, by omega⟩
  · have t := take2 (gl := gl) hn k cs s r c m (by omega) h1 h2 (by omega) hm hm2
    split at t
    · exact ⟨_, _, t, Int.emod_nonneg _ (by omega), Int.emod_lt_of_pos _ hm, cs, _, _, _, rfl, by omega, by omega, by omega⟩
    · exact ⟨_, _, t, Int.emod_nonneg _ (by omega), Int.emod_lt_of_pos _ hm, cs, _, _, _, rfl, by omega, by omega, by omega⟩

/-! ### the towns -/
theorem min_int {i j : Int} : bfD "min" [.int i, .int j] = some (if decide (j < i) = true then .int j else .int i) := rfl
theorem max_int {i j : Int} : bfD "max" [.int i, .int j] = some (if decide (j > i) = true then .int j else .int i) := rfl
theorem ix_nat {n : Nat} {z : Int} (h0 : 0 ≤ z) (h1 : z < n) : ixN n z = some z.toNat := by
  unfold ixN; rw [if_pos h0, if_pos h1]
theorem erase_map {α β : Type} (f : α → β) : ∀ (l : List α) (i : Nat), (l.map f).eraseIdx i = (l.eraseIdx i).map f
  | [], _ => rfl
  | _ :: _, 0 => rfl
  | a :: l, i + 1 => by
    rw [List.map_cons, List.eraseIdx_cons_succ, List.eraseIdx_cons_succ, List.map_cons, erase_map f l i]
def pool : List PySem.Str := ["ash", "b", "elm", "oak", "zzzzzzzz"]
theorem towns_loop (hn : tbl[n]? = some takeF) (k : Nat) (least many : Nat) : ∀ (j fuel : Nat) (ws : List PySem.Str) (sto : List SO) (C : Int), TapOk C sto → ws.length = many + j → ws.length < 900 → j < fuel → C + j < 1000000 →
    ∃ (ws' : List PySem.Str) (sto' : List SO), ws'.Sublist ws ∧ ws'.length = many ∧ TapOk (C + j) sto' ∧ loopW (evT gl (calls tbl gl (k + 1)) townsT) (evSs gl (calls tbl gl (k + 1)) (townsB n)) fuel ⟨[.sh (.ref 0), .sh (.int least), .ow (ws.map .str), .sh (.int many)], sto⟩ = .ok .nx ⟨[.sh (.ref 0), .sh (.int least), .ow (ws'.map .str), .sh (.int many)], sto'⟩
  | j, 0, ws, sto, C, _, _, _, h, _ => absurd h (Nat.not_lt_zero _)
  | 0, fuel + 1, ws, sto, C, hT, hw, hb, _, _ => by
    refine ⟨ws, sto, List.Sublist.refl _, hw, by simpa using hT, ?_⟩
    have h1 : ¬ ((many : Int) < (ws.length : Int)) := by omega
    have ht : evT gl (calls tbl gl (k + 1)) townsT ⟨[.sh (.ref 0), .sh (.int least), .ow (ws.map .str), .sh (.int many)], sto⟩ = .ok false ⟨[.sh (.ref 0), .sh (.int least), .ow (ws.map .str), .sh (.int many)], sto⟩ := by
      simp only [townsT, evE, evO, evOs, evT, R.bind_ok, ofO_some, pd_d, pd_p, pdAll_nil, pdAll_cons, run_bf, len_lst, List.length_map, gt_int, List.getElem?_cons_zero, List.getElem?_cons_succ, Option.bind_some, Option.map_some, rdSl, decide_eq_false h1]
    rw [loopW, ht]; rfl
  | j + 1, fuel + 1, ws, sto, C, hT, hw, hb, hf, hC => by
    have h1 : (many : Int) < (ws.length : Int) := by omega
    obtain ⟨z, sto1, t, z0, z1, hT1⟩ := take_ok (gl := gl) hn k (m := (ws.length : Int)) hT (by omega) (by omega) (by omega)
    have hz : z.toNat < ws.length := by omega
    obtain ⟨ws', sto', g1, g2, g3, g4⟩ := towns_loop hn k least many j fuel (ws.eraseIdx z.toNat) sto1 (C + 1) hT1 (by rw [List.length_eraseIdx_of_lt hz]; omega) (by rw [List.length_eraseIdx_of_lt hz]; omega) (by omega) (by omega)
    refine ⟨ws', sto', g1.trans (List.eraseIdx_sublist _ _), g2, g3.mono (by omega), ?_⟩
    have ix : ixN ws.length z = some z.toNat := ix_nat z0 z1
    have em : muD .popAt (ws.map .str) [.int z] = some ((ws.eraseIdx z.toNat).map .str, .str ws[z.toNat]) := by
      simp only [muD, List.length_map, ix, List.getElem?_map, List.getElem?_eq_getElem hz, Option.map_some, erase_map]
    have ht : evT gl (calls tbl gl (k + 1)) townsT ⟨[.sh (.ref 0), .sh (.int least), .ow (ws.map .str), .sh (.int many)], sto⟩ = .ok true ⟨[.sh (.ref 0), .sh (.int least), .ow (ws.map .str), .sh (.int many)], sto⟩ := by
      simp only [townsT, evE, evO, evOs, evT, R.bind_ok, ofO_some, pd_d, pd_p, pdAll_nil, pdAll_cons, run_bf, len_lst, List.length_map, gt_int, List.getElem?_cons_zero, List.getElem?_cons_succ, Option.bind_some, Option.map_some, rdSl, decide_eq_true h1]
    have hb : evSs gl (calls tbl gl (k + 1)) (townsB n) ⟨[.sh (.ref 0), .sh (.int least), .ow (ws.map .str), .sh (.int many)], sto⟩ = .ok .nx ⟨[.sh (.ref 0), .sh (.int least), .ow ((ws.eraseIdx z.toNat).map .str), .sh (.int many)], sto1⟩ := by
      simp only [townsB, evSs, evS, evE, evEs, evO, evOs, R.bind_ok, ofO_some, pd_d, pd_p, pdAll_nil, pdAll_cons, run_bf, len_lst, List.length_map, List.getElem?_cons_zero, List.getElem?_cons_succ, Option.bind_some, Option.map_some, rdSl, List.append_nil, t, rc_ok, em, S.setSl, List.set_cons_zero, List.set_cons_succ]
    rw [loopW, ht, R.bind_ok, if_pos rfl, hb]
    exact g4
theorem towns_ok (hn : tbl[n]? = some takeF) {m : Nat} (hm : tbl[m]? = some (townsF n)) (k : Nat) {sto : List SO} {C : Int} (least : Nat) (hl : 1 ≤ least) (hl2 : least ≤ 2) (hT : TapOk C sto) (hC : C < 900000) : ∃ (ws : List PySem.Str) (sto' : List SO), ws.Sublist pool ∧ 1 ≤ ws.length ∧ ws.length ≤ 4 ∧ TapOk (C + 6) sto' ∧ calls tbl gl (k + 2) m [.ref 0, .int least] sto = .ok (.lst (ws.map .str)) sto' := by
  obtain ⟨z, sto1, t, z0, z1, hT1⟩ := take_ok (gl := gl) hn k (m := 3) hT (by omega) (by decide) (by decide)
  obtain ⟨many, hmany, m1, m2⟩ : ∃ many : Nat, (if decide (((least : Int) + z) < 4) = true then D.int ((least : Int) + z) else .int 4) = .int many ∧ 1 ≤ many ∧ many ≤ 4 := by
    by_cases h : ((least : Int) + z) < 4
    · refine ⟨((least : Int) + z).toNat, ?_, by omega, by omega⟩
      rw [decide_eq_true h, if_pos rfl]
      congr 1; omega
    · refine ⟨4, ?_, by omega, by omega⟩
      rw [decide_eq_false h, if_neg Bool.false_ne_true]; rfl
  obtain ⟨ws, sto', g1, g2, g3, g4⟩ := towns_loop (gl := gl) hn k least many (5 - many) wLim pool sto1 (C + 1) hT1 (by show 5 = _; omega) (by decide) (by unfold wLim; omega) (by omega)
  refine ⟨ws, sto', g1, by omega, by omega, g3.mono (by omega), ?_⟩
  rw [calls_s hm, Df.run, if_pos (by rfl)]
  have e : slots (townsF n).ns [.ref 0, .int least] = [.sh (.ref 0), .sh (.int least), .no, .no] := rfl
  rw [e]
  have ep : [D.str "ash", .str "b", .str "elm", .str "oak", .str "zzzzzzzz"] = pool.map .str := rfl
  have el : [D.str "ash", .str "b", .str "elm", .str "oak", .str "zzzzzzzz"].length ≤ sizeLine := by decide
  have elp : (pool.map D.str).length ≤ sizeLine := by decide
  have ht : (calls tbl gl (k + 1) n [.ref 0, .int 3] sto).to ⟨[.sh (.ref 0), .sh (.int least), .ow (pool.map .str), .no], sto⟩ = .ok (.int z) ⟨[.sh (.ref 0), .sh (.int least), .ow (pool.map .str), .no], sto1⟩ := by rw [t]; rfl
  simp only [townsF, evSs, evS, evE, evEs, evO, evOs, R.bind_ok, Cst.d, List.length_cons, List.length_nil, Nat.reduceAdd, elp, if_true, S.setSl, List.set_cons_zero, List.set_cons_succ, Nat.reduceLT, List.append_nil, ep, ofO_some, List.getElem?_cons_zero, List.getElem?_cons_succ, ht, pd_d, pd_p, pdAll_nil, pdAll_cons, asg_nm, run_bin, run_bf, add_int, min_int, hmany, Option.bind_some, Option.map_some, rdSl, g4]
end
/-! ### folds that map -/
theorem fold_map {f : D → List D → S → R (List D)} {g : D → D} {s : S} : ∀ (items acc : List D), (∀ d ∈ items, ∀ acc : List D, acc.length < sizeLine → f d acc s = .ok (acc ++ [g d]) s) → acc.length + items.length ≤ sizeLine → fold f items acc s = .ok (acc ++ items.map g) s
  | [], acc, _, _ => by rw [fold, List.map_nil, List.append_nil]
  | d :: ds, acc, h, l => by
    rw [List.length_cons] at l
    rw [fold, h d List.mem_cons_self acc (by omega)]
    dsimp only
    rw [fold_map ds (acc ++ [g d]) (fun d' hd => h d' (List.mem_cons_of_mem _ hd)) (by rw [List.length_append, List.length_singleton]; omega), List.map_cons, List.append_assoc]
    rfl
/-- a comprehension without tests whose items are reckoned without a turn of the store -/
theorem comp_map {gl : List D} {c : Cl} {vs : List Nat} {el : E} {tg : Tg} {it : Iw} {s s1 : S} {items : List D} {g : D → D} (hi : evIt gl c it s = .ok items s1) (hl : items.length ≤ sizeLine)
    (h : ∀ d ∈ items, ∃ s2 s3, asg tg d (s1.wipe vs) = some s2 ∧ evE gl c el s2 = .ok (g d) s3 ∧ s3.wipe vs = s1.wipe vs) : evE gl c (.comp vs el (.mk tg it .nil)) s = .ok (.lst (items.map g)) ((s1.wipe vs).back vs s1.env) := by
  rw [evComp, hi, R.bind_ok, fold_map (g := g) items [] (fun d hd acc ha => ?_) (by simpa using hl)]
  · rw [R.bind_ok, List.nil_append]
  · obtain ⟨s2, s3, h1, h2, h3⟩ := h d hd
    unfold turnF
    rw [h1]
    dsimp only
    rw [evTs, R.bind_ok, if_pos rfl, h2, R.bind_ok, if_pos ha, h3]
/-- .. with a turn of the store: an invariant -/
theorem fold_inv {f : D → List D → S → R (List D)} {P : List D → List D → S → Prop} : ∀ (items acc : List D) (s : S), P items acc s → (∀ d ds acc s, P (d :: ds) acc s → ∃ acc' s', f d acc s = .ok acc' s' ∧ P ds acc' s') → ∃ acc' s', fold f items acc s = .ok acc' s' ∧ P [] acc' s'
  | [], acc, s, h, _ => ⟨acc, s, rfl, h⟩
  | d :: ds, acc, s, h, st => by
    obtain ⟨acc1, s1, e, h1⟩ := st d ds acc s h
    obtain ⟨acc2, s2, e2, h2⟩ := fold_inv ds acc1 s1 h1 st
    exact ⟨acc2, s2, by rw [fold, e]; exact e2, h2⟩
/-- a loop whose body never leaves it -/
theorem loopF_inv {f : D → S → R Fl} {P : List D → S → Prop} : ∀ (items : List D) (s : S), P items s → (∀ d ds s, P (d :: ds) s → ∃ s', f d s = .ok .nx s' ∧ P ds s') → ∃ s', loopF f items s = .ok .nx s' ∧ P [] s'
  | [], s, h, _ => ⟨s, rfl, h⟩
  | d :: ds, s, h, st => by
    obtain ⟨s1, e, h1⟩ := st d ds s h
    obtain ⟨s2, e2, h2⟩ := loopF_inv ds s1 h1 st
    exact ⟨s2, by rw [loopF, e]; exact e2, h2⟩
/-! ### the tap is made -/
theorem tap_ok {tbl : List Df} {gl : List D} {n : Nat} (hn : tbl[n]? = some tapF) (k : Nat) (ns : List Int) (hl : ns.length ≤ 63) : ∃ sto, calls tbl gl (k + 1) n [.kl ns] [] = .ok (.ref 0) sto ∧ TapOk 0 sto := by
  refine ⟨[tapD (ns.take 63) 0 0 0], ?_, _, _, _, _, rfl, Int.le_refl _, Int.le_refl _, Int.le_refl _⟩
  rw [calls_s hn, Df.run, if_pos (by rfl)]
  have e : slots tapF.ns [.kl ns] = [.sh (.kl ns)] := rfl
  rw [e]
  have hc : D.cut (ns.map D.int) none (some 63) = (ns.take 63).map .int := by
    unfold D.cut
    rw [List.length_map]
    have h0 : HT.sIx ns.length 0 none = 0 := rfl
    have h1 : HT.sIx ns.length ns.length (some 63) = ns.length := by
      unfold HT.sIx
      simp
      omega
    rw [h0, h1, List.drop_zero, Nat.sub_zero, List.take_of_length_le (by rw [List.length_map]; exact Nat.le_refl _), List.take_of_length_le hl]
  have hk : ∀ x : D, ([Sum.inr "cells", Sum.inr "spot", Sum.inr "rest", Sum.inr "calls"] : List Key).length = [x, .int 0, .int 0, .int 0].length ∧ ([Sum.inr "cells", Sum.inr "spot", Sum.inr "rest", Sum.inr "calls"] : List Key).length ≤ 15 ∧ ([Sum.inr "cells", Sum.inr "spot", Sum.inr "rest", Sum.inr "calls"] : List Key) ≠ [] ∧ ([Sum.inr "cells", Sum.inr "spot", Sum.inr "rest", Sum.inr "calls"] : List Key).Nodup := fun x => ⟨rfl, by decide, by decide, by decide +kernel⟩
  have hb : btD "list" [.lst ((ns.take 63).map .int)] = some (.lst ((ns.take 63).map .int)) := rfl
  simp only [tapF, evSs, evS, evE, evEs, evO, evOs, R.bind_ok, Cst.d, pd_d, pd_p, pdAll_nil, pdAll_cons, run_bt, run_slcK, prts, hc, hb, ofO_some, List.getElem?_cons_zero, Option.bind_some, Option.map_some, rdSl, if_pos (hk _)]
  rfl
/-! ### one step at a time -/
section
variable {gl : List D} {c : Cl}
theorem ev_prim1 {p : P} {x : E} {d r : D} {s s1 : S} (h : evE gl c x s = .ok d s1) (hp : p.run s1.sto [d] = some r) : evE gl c (.prim p (.cons (.e x) .nil)) s = .ok r s1 := by
  rw [evE, evOs, evO, h]
  simp only [R.bind_ok, evOs, pdAll_cons, pdAll_nil, pd_d, Option.bind_some, Option.map_some, hp, ofO_some]
theorem ev_prim2 {p : P} {x y : E} {d e r : D} {s s1 s2 : S} (h : evE gl c x s = .ok d s1) (h2 : evE gl c y s1 = .ok e s2) (hp : p.run s2.sto [d, e] = some r) : evE gl c (.prim p (.cons (.e x) (.cons (.e y) .nil))) s = .ok r s2 := by
  rw [evE, evOs, evO, h]
  simp only [R.bind_ok]
  rw [evOs, evO, h2]
  simp only [R.bind_ok, evOs, pdAll_cons, pdAll_nil, pd_d, Option.bind_some, Option.map_some, hp, ofO_some]
theorem ev_ret {x : E} {d : D} {s s1 : S} {r : List Sm} (h : evE gl c x s = .ok d s1) : evSs gl c (.ret x :: r) s = .ok (.rt d) s1 := by
  rw [evSs, evS, h]; rfl
theorem ev_asg {t : Tg} {x : E} {d : D} {s s1 s2 : S} {r : List Sm} {z : R Fl} (h : evE gl c x s = .ok d s1) (ha : asg t d s1 = some s2) (hr : evSs gl c r s2 = z) : evSs gl c (.asg t x :: r) s = z := by
  rw [evSs, evS, h]
  simp only [R.bind_ok, ha, hr]
theorem ev_own {i : Nat} {x : E} {l : List D} {s s1 : S} {r : List Sm} {z : R Fl} (h : evE gl c x s = .ok (.lst l) s1) (hi : i < s1.env.length) (hr : evSs gl c r (s1.setSl i (.ow l)) = z) : evSs gl c (.own i x :: r) s = z := by
  rw [evSs, evS, h]
  simp only [R.bind_ok, if_pos hi, hr]
theorem ev_iteF {t : T} {a b r : List Sm} {s s1 s2 : S} {z : R Fl} (h : evT gl c t s = .ok false s1) (hb : evSs gl c b s1 = .ok .nx s2) (hr : evSs gl c r s2 = z) : evSs gl c (.ite t a b :: r) s = z := by
  rw [evSs, evS, h]
  simp only [R.bind_ok, if_neg Bool.false_ne_true, hb, hr]
def stepF (gl : List D) (c : Cl) (t : Tg) (b : List Sm) : D → S → R Fl := fun d s => match asg t d s with
  | some s => evSs gl c b s
  | none => .stk
theorem ev_fr {t : Tg} {it : Iw} {b r : List Sm} {items : List D} {s s1 s2 : S} {z : R Fl} (h : evIt gl c it s = .ok items s1) (hl : loopF (stepF gl c t b) items s1 = .ok .nx s2) (hr : evSs gl c r s2 = z) : evSs gl c (.fr t it b :: r) s = z := by
  rw [evSs, evS, h, R.bind_ok]
  show R.bind (loopF (stepF gl c t b) items s1) _ = z
  rw [hl, R.bind_ok]
  exact hr
theorem ev_call {n : Nat} {es : Es} {ds : List D} {d : D} {s s1 : S} {sto : List SO} (h : evEs gl c es s = .ok ds s1) (hc : c n ds s1.sto = .ok d sto) : evE gl c (.call n none es .nil) s = .ok d { s1 with sto := sto } := by
  rw [evE, h]
  simp only [R.bind_ok, evEs, List.append_nil, hc]
  rfl
theorem ev_cons {x : E} {r : Es} {d : D} {ds : List D} {s s1 s2 : S} (h : evE gl c x s = .ok d s1) (h2 : evEs gl c r s1 = .ok ds s2) : evEs gl c (.cons x r) s = .ok (d :: ds) s2 := by
  rw [evEs, h, R.bind_ok, h2]; rfl
theorem ev_nil {s : S} : evEs gl c .nil s = .ok [] s := by rw [evEs]
theorem ev_var {i : Nat} {d : D} {s : S} (h : s.env[i]? = some (.sh d)) : evE gl c (.var i) s = .ok d s := by rw [evE, h]
theorem ev_cst {k : Cst} {s : S} : evE gl c (.cst k) s = .ok k.d s := by rw [evE]
theorem run_ret {f : Df} {tb : List Df} {k n : Nat} {ds : List D} {sto : List SO} {d : D} {s2 : S} (h : tb[n]? = some f) (hl : ds.length = f.ps) (hb : evSs gl (calls tb gl k) f.body ⟨slots f.ns ds, sto⟩ = .ok (.rt d) s2) : calls tb gl (k + 1) n ds sto = .ok d s2.sto := by
  rw [calls_s h, Df.run, if_pos hl, hb]
end
end Dn

namespace K08
open PySem Dn L2
/-- greater_hearing(one, other) -/
def f0 : Df := ⟨2, 2, [.ret (.prim (.bf "max") (.cons (.e (.var 0)) (.cons (.e (.var 1)) .nil)))]⟩
def n0 : List Str := ["one", "other"]
def p0 : List Str := ["one", "other"]
/-- heard_together(one, other) -/
def f1 : Df := ⟨2, 4, [.ret (.prim (.bt "tuple") (.cons (.e (.comp [2, 3] (.call 0 none (.cons (.var 2) (.cons (.var 3) .nil)) .nil) (.mk (.tp (.cons (.nm 2) (.cons (.nm 3) .nil))) (.zip (.var 0) (.var 1)) .nil))) .nil))]⟩
def n1 : List Str := ["one", "other", "here", "there"]
def p1 : List Str := ["one", "other"]
/-- is_natural(thing) -/
def f2 : Df := ⟨1, 1, [.ret (.andE (.cons (.prim (.bf "isinstance") (.cons (.b 0) (.cons (.e (.ty "int")) .nil))) (.cons (.notE (.prim (.bf "isinstance") (.cons (.b 0) (.cons (.e (.ty "bool")) .nil)))) (.cons (.prim (.cmp .GtE) (.cons (.b 0) (.cons (.e (.cst (.int 0))) .nil))) .nil))))]⟩
def n2 : List Str := ["thing"]
def p2 : List Str := ["thing"]
/-- is_word(thing) -/
def f3 : Df := ⟨1, 2, [.ite (.or (.cons (.not (.val (.prim (.bf "isinstance") (.cons (.b 0) (.cons (.e (.ty "str")) .nil))))) (.cons (.not (.chain .LtE .LtE (.e (.cst (.int 1))) (.e (.prim (.bf "len") (.cons (.b 0) .nil))) (.e (.glo 1)))) .nil))) [.ret (.cst (.bl false))] [],
    .ret (.prim (.bf "all") (.cons (.e (.comp [1] (.prim (.cmp .In) (.cons (.b 1) (.cons (.e (.glo 0)) .nil))) (.mk (.nm 1) (.seq (.var 0)) .nil))) .nil))]⟩
def n3 : List Str := ["thing", "sign"]
def p3 : List Str := ["thing"]
/-- is_row_of(thing, looks) -/
def f4 : Df := ⟨2, 4, [.ite (.or (.cons (.not (.val (.prim (.bf "isinstance") (.cons (.b 0) (.cons (.e (.ty "tuple")) .nil))))) (.cons (.cmp .NotEq (.e (.prim (.bf "len") (.cons (.b 0) .nil))) (.e (.prim (.bf "len") (.cons (.b 1) .nil)))) .nil))) [.ret (.cst (.bl false))] [],
    .ret (.prim (.bf "all") (.cons (.e (.comp [2, 3] (.callV 2 (.cons (.var 3) .nil)) (.mk (.tp (.cons (.nm 2) (.cons (.nm 3) .nil))) (.zip (.var 1) (.var 0)) .nil))) .nil))]⟩
def n4 : List Str := ["thing", "looks", "look", "one"]
def p4 : List Str := ["thing", "looks"]
/-- rise_by_first(thing, is_one) -/
def f5 : Df := ⟨2, 4, [.ite (.or (.cons (.not (.val (.prim (.bf "isinstance") (.cons (.b 0) (.cons (.e (.ty "tuple")) .nil))))) (.cons (.not (.val (.prim (.bf "all") (.cons (.e (.comp [2] (.callV 1 (.cons (.var 2) .nil)) (.mk (.nm 2) (.seq (.var 0)) .nil))) .nil)))) .nil))) [.ret (.cst (.bl false))] [],
    .ret (.prim (.bf "all") (.cons (.e (.comp [2, 3] (.prim (.cmp .Lt) (.cons (.e (.prim .idx (.cons (.b 2) (.cons (.e (.cst (.int 0))) .nil)))) (.cons (.e (.prim .idx (.cons (.b 3) (.cons (.e (.cst (.int 0))) .nil)))) .nil))) (.mk (.tp (.cons (.nm 2) (.cons (.nm 3) .nil))) (.zip (.var 0) (.prim (.slc true false) (.cons (.b 0) (.cons (.e (.cst (.int 1))) .nil)))) .nil))) .nil))]⟩
def n5 : List Str := ["thing", "is_one", "one", "other"]
def p5 : List Str := ["thing", "is_one"]
/-- is_hearing(thing) -/
def f6 : Df := ⟨1, 1, [.ret (.call 4 none (.cons (.var 0) (.cons (.tup (.cons (.fn 3) (.cons (.fn 2) (.cons (.fn 2) .nil)))) .nil)) .nil)]⟩
def n6 : List Str := ["thing"]
def p6 : List Str := ["thing"]
/-- is_heard(thing) -/
def f7 : Df := ⟨1, 1, [.ret (.andE (.cons (.call 5 none (.cons (.var 0) (.cons (.fn 6) .nil)) .nil) (.cons (.prim (.cmp .Gt) (.cons (.e (.prim (.bf "len") (.cons (.b 0) .nil))) (.cons (.e (.cst (.int 0))) .nil))) .nil)))]⟩
def n7 : List Str := ["thing"]
def p7 : List Str := ["thing"]
/-- _law_tap(script) -/
def f8 : Df := ⟨1, 1, [.ret (.dict [.inr "cells", .inr "spot", .inr "rest", .inr "calls"] (.cons (.prim (.bt "list") (.cons (.e (.prim (.slc false true) (.cons (.b 0) (.cons (.e (.cst (.int 63))) .nil)))) .nil)) (.cons (.cst (.int 0)) (.cons (.cst (.int 0)) (.cons (.cst (.int 0)) .nil)))))]⟩
def n8 : List Str := ["script"]
def p8 : List Str := ["script"]
/-- _law_take(tap, many) -/
def f9 : Df := ⟨2, 8, [.asg (.nm 2) (.prim (.bin .Add) (.cons (.e (.prim .idx (.cons (.b 0) (.cons (.e (.cst (.str "calls"))) .nil)))) (.cons (.e (.cst (.int 1))) .nil))),
    .put (.var 0) (.cst (.str "calls")) (.var 2),
    .ite (.cmp .Gt (.e (.prim .idx (.cons (.b 0) (.cons (.e (.cst (.str "rest"))) .nil)))) (.e (.cst (.int 0)))) [.asg (.nm 3) (.prim (.bin .Mod) (.cons (.e (.prim .idx (.cons (.b 0) (.cons (.e (.cst (.str "rest"))) .nil)))) (.cons (.b 1) .nil))),
    .put (.var 0) (.cst (.str "rest")) (.prim (.bin .FloorDiv) (.cons (.e (.prim .idx (.cons (.b 0) (.cons (.e (.cst (.str "rest"))) .nil)))) (.cons (.b 1) .nil))),
    .ret (.var 3)] [],
    .asg (.nm 4) (.prim .idx (.cons (.b 0) (.cons (.e (.cst (.str "spot"))) .nil))),
    .put (.var 0) (.cst (.str "spot")) (.prim (.bin .Add) (.cons (.b 4) (.cons (.e (.cst (.int 1))) .nil))),
    .asg (.nm 5) (.prim .idx (.cons (.b 0) (.cons (.e (.cst (.str "cells"))) .nil))),
    .asg (.nm 6) (.ite (.cmp .Gt (.e (.prim (.bf "len") (.cons (.b 5) .nil))) (.e (.cst (.int 0)))) (.prim .idx (.cons (.b 5) (.cons (.e (.prim (.bin .Mod) (.cons (.b 4) (.cons (.e (.prim (.bf "len") (.cons (.b 5) .nil))) .nil)))) .nil))) (.cst (.int 11))),
    .ite (.and (.cons (.cmp .Lt (.b 4) (.e (.prim (.bf "len") (.cons (.b 5) .nil)))) (.cons (.cmp .GtE (.b 6) (.e (.prim (.bin .Pow) (.cons (.e (.cst (.int 10))) (.cons (.e (.cst (.int 18))) .nil))))) .nil))) [.put (.var 0) (.cst (.str "rest")) (.prim (.bin .FloorDiv) (.cons (.b 6) (.cons (.b 1) .nil))),
    .ret (.prim (.bin .Mod) (.cons (.b 6) (.cons (.b 1) .nil)))] [],
    .asg (.nm 7) (.prim (.bin .Mod) (.cons (.e (.prim (.bin .Pow) (.cons (.e (.prim (.bin .Add) (.cons (.e (.prim (.bin .Add) (.cons (.e (.prim (.bin .Mod) (.cons (.b 6) (.cons (.e (.cst (.int 2147483629))) .nil)))) (.cons (.e (.prim (.bin .Mult) (.cons (.e (.cst (.int 6029))) (.cons (.b 2) .nil)))) .nil)))) (.cons (.e (.cst (.int 17))) .nil)))) (.cons (.e (.cst (.int 5))) .nil)))) (.cons (.e (.cst (.int 2147483647))) .nil))),
    .ret (.prim (.bin .Mod) (.cons (.e (.prim (.bin .FloorDiv) (.cons (.e (.prim (.bin .Mod) (.cons (.e (.prim (.bin .Pow) (.cons (.e (.prim (.bin .Add) (.cons (.b 7) (.cons (.e (.prim (.bin .Mult) (.cons (.e (.prim (.bin .Mult) (.cons (.e (.cst (.int 4111))) (.cons (.b 2) .nil)))) (.cons (.b 2) .nil)))) .nil)))) (.cons (.e (.cst (.int 5))) .nil)))) (.cons (.e (.cst (.int 2147483587))) .nil)))) (.cons (.e (.cst (.int 32))) .nil)))) (.cons (.b 1) .nil)))]⟩
def n9 : List Str := ["tap", "many", "calls", "figure", "spot", "cells", "cell", "once"]
def p9 : List Str := ["tap", "many"]
/-- _law_towns(tap, least) -/
def f10 : Df := ⟨2, 4, [.own 2 (.lst (.cons (.cst (.str "ash")) (.cons (.cst (.str "b")) (.cons (.cst (.str "elm")) (.cons (.cst (.str "oak")) (.cons (.cst (.str "zzzzzzzz")) .nil)))))),
    .asg (.nm 3) (.prim (.bf "min") (.cons (.e (.cst (.int 4))) (.cons (.e (.prim (.bin .Add) (.cons (.b 1) (.cons (.e (.call 9 none (.cons (.var 0) (.cons (.cst (.int 3)) .nil)) .nil)) .nil)))) .nil))),
    .whl (.cmp .Gt (.e (.prim (.bf "len") (.cons (.b 2) .nil))) (.b 3)) [.ex (.mut .popAt 2 (.cons (.call 9 none (.cons (.var 0) (.cons (.prim (.bf "len") (.cons (.b 2) .nil)) .nil)) .nil) .nil))],
    .ret (.var 2)]⟩
def n10 : List Str := ["tap", "least", "pool", "many"]
def p10 : List Str := ["tap", "least"]
/-- _law_news(tap, towns) -/
def f11 : Df := ⟨2, 5, [.own 2 (.lst .nil),
    .fr (.nm 3) (.seq (.var 1)) [.asg (.nm 4) (.call 9 none (.cons (.var 0) (.cons (.cst (.int 3)) .nil)) .nil),
    .ex (.mut .append 2 (.cons (.tup (.cons (.var 3) (.cons (.var 4) (.cons (.prim (.bin .Mult) (.cons (.e (.call 9 none (.cons (.var 0) (.cons (.cst (.int 40)) .nil)) .nil)) (.cons (.e (.prim (.bt "int") (.cons (.e (.prim (.cmp .Gt) (.cons (.b 4) (.cons (.e (.cst (.int 0))) .nil)))) .nil))) .nil))) .nil)))) .nil))],
    .ret (.prim (.bt "tuple") (.cons (.b 2) .nil))]⟩
def n11 : List Str := ["tap", "towns", "found", "place", "many"]
def p11 : List Str := ["tap", "towns"]
/-- _law_greater(one, other) -/
def f12 : Df := ⟨2, 4, [.ret (.prim (.bt "tuple") (.cons (.e (.comp [2, 3] (.prim (.bf "max") (.cons (.e (.var 2)) (.cons (.e (.var 3)) .nil))) (.mk (.tp (.cons (.nm 2) (.cons (.nm 3) .nil))) (.zip (.var 0) (.var 1)) .nil))) .nil))]⟩
def n12 : List Str := ["one", "other", "a", "b"]
def p12 : List Str := ["one", "other"]
/-- law(script) -/
def f13 : Df := ⟨1, 17, [.asg (.nm 1) (.call 8 none (.cons (.var 0) .nil) .nil),
    .fr (.nm 2) (.range1 (.cst (.int 5))) [.asg (.nm 3) (.call 10 none (.cons (.var 1) (.cons (.prim (.bin .Add) (.cons (.e (.cst (.int 1))) (.cons (.e (.prim (.bin .Mod) (.cons (.b 2) (.cons (.e (.cst (.int 2))) .nil)))) .nil))) .nil)) .nil),
    .asg (.tp (.cons (.nm 4) (.cons (.nm 5) (.cons (.nm 6) .nil)))) (.comp [7] (.call 11 none (.cons (.var 1) (.cons (.var 3) .nil)) .nil) (.mk (.nm 7) (.range1 (.cst (.int 3))) .nil)),
    .asg (.nm 8) (.prim (.bt "tuple") (.cons (.e (.comp [9, 10, 11] (.tup (.cons (.var 9) (.cons (.var 10) (.cons (.prim (.bin .Add) (.cons (.b 11) (.cons (.e (.cst (.int 1))) .nil))) .nil)))) (.mk (.tp (.cons (.nm 9) (.cons (.nm 10) (.cons (.nm 11) .nil)))) (.seq (.var 4)) .nil))) .nil)),
    .asg (.nm 12) (.prim (.bt "tuple") (.cons (.e (.comp [7, 9] (.tup (.cons (.var 9) (.cons (.prim (.bin .Add) (.cons (.e (.prim (.bin .Pow) (.cons (.e (.cst (.int 10))) (.cons (.e (.cst (.int 9))) .nil)))) (.cons (.b 7) .nil))) (.cons (.prim (.bin .Sub) (.cons (.e (.cst (.int 9999))) (.cons (.b 7) .nil))) .nil)))) (.mk (.tp (.cons (.nm 7) (.cons (.nm 9) .nil))) (.enum (.var 3)) .nil))) .nil)),
    .asg (.nm 13) (.prim (.bf "repr") (.cons (.e (.tup (.cons (.var 4) (.cons (.var 5) (.cons (.var 6) .nil))))) .nil)),
    .fr (.nm 14) (.seq (.tup (.cons (.var 4) (.cons (.var 5) (.cons (.var 6) (.cons (.var 8) (.cons (.var 12) .nil))))))) [.fr (.nm 15) (.seq (.tup (.cons (.var 4) (.cons (.var 5) (.cons (.var 6) (.cons (.var 8) (.cons (.var 12) .nil))))))) [.asg (.nm 16) (.call 1 none (.cons (.var 14) (.cons (.var 15) .nil)) .nil),
    .ite (.or (.cons (.cmp .NotEq (.e (.prim (.bf "repr") (.cons (.b 16) .nil))) (.e (.prim (.bf "repr") (.cons (.e (.call 12 none (.cons (.var 14) (.cons (.var 15) .nil)) .nil)) .nil)))) (.cons (.cmp .IsNot (.e (.call 7 none (.cons (.var 16) .nil) .nil)) (.e (.cst (.bl true)))) .nil))) [.ret (.cst (.bl false))] [],
    .ite (.cmp .NotEq (.e (.lst (.cons (.call 1 none (.cons (.var 15) (.cons (.var 14) .nil)) .nil) (.cons (.call 1 none (.cons (.var 16) (.cons (.var 14) .nil)) .nil) (.cons (.call 1 none (.cons (.var 16) (.cons (.var 16) .nil)) .nil) .nil))))) (.e (.prim (.bin .Mult) (.cons (.e (.lst (.cons (.var 16) .nil))) (.cons (.e (.cst (.int 3))) .nil))))) [.ret (.cst (.bl false))] [],
    .ite (.cmp .NotEq (.e (.call 1 none (.cons (.var 16) (.cons (.var 6) .nil)) .nil)) (.e (.call 1 none (.cons (.var 14) (.cons (.call 1 none (.cons (.var 6) (.cons (.var 15) .nil)) .nil) .nil)) .nil))) [.ret (.cst (.bl false))] []]],
    .ite (.cmp .NotEq (.e (.prim (.bf "repr") (.cons (.e (.tup (.cons (.var 4) (.cons (.var 5) (.cons (.var 6) .nil))))) .nil))) (.b 13)) [.ret (.cst (.bl false))] []],
    .ret (.cst (.bl true))]⟩
def n13 : List Str := ["script", "tap", "turn", "towns", "one", "other", "third", "k", "late", "name", "many", "date", "far", "kept", "a", "b", "told"]
def p13 : List Str := ["script"]
def tbl : List Df := [f0, f1, f2, f3, f4, f5, f6, f7, f8, f9, f10, f11, f12, f13]
def gl : List D := [(.str "abcdefghijklmnopqrstuvwxyz"), (.int (8))]
def tb : Tb := ⟨[("greater_hearing", 0), ("heard_together", 1), ("is_natural", 2), ("is_word", 3), ("is_row_of", 4), ("rise_by_first", 5), ("is_hearing", 6), ("is_heard", 7), ("_law_tap", 8), ("_law_take", 9), ("_law_towns", 10), ("_law_news", 11), ("_law_greater", 12), ("law", 13)], [("LETTERS", 0), ("LONGEST", 1)], ["all", "bool", "enumerate", "int", "isinstance", "len", "list", "max", "min", "range", "repr", "str", "tuple", "zip"], []⟩
def top (i : Nat) : Stmt := PySem.Challenge.pw_strangerbench_k08_whole_heard_together.main.body.getD i (.Pass ⟨0, 0, 0, 0⟩)
theorem m0 : ∀ (fa : Nat → Addr) (gl : List D) (c : Cl), (kSs fa gl c ⟨tb, n0, defScope (top 1), none⟩ f0.body (defBody (top 1))).b = true := fun fa gl c => by kernel_rfl
theorem s0 : FnScope n0 p0 (defScope (top 1)) := ⟨rfl, rfl, rfl, by decide +kernel, rfl, by decide +kernel, by decide +kernel⟩
theorem m1 : ∀ (fa : Nat → Addr) (gl : List D) (c : Cl), (kSs fa gl c ⟨tb, n1, defScope (top 2), none⟩ f1.body (defBody (top 2))).b = true := fun fa gl c => by kernel_rfl
theorem s1 : FnScope n1 p1 (defScope (top 2)) := ⟨rfl, rfl, rfl, by decide +kernel, rfl, by decide +kernel, by decide +kernel⟩
theorem m2 : ∀ (fa : Nat → Addr) (gl : List D) (c : Cl), (kSs fa gl c ⟨tb, n2, defScope (top 6), none⟩ f2.body (defBody (top 6))).b = true := fun fa gl c => by kernel_rfl
theorem s2 : FnScope n2 p2 (defScope (top 6)) := ⟨rfl, rfl, rfl, by decide +kernel, rfl, by decide +kernel, by decide +kernel⟩
theorem m3 : ∀ (fa : Nat → Addr) (gl : List D) (c : Cl), (kSs fa gl c ⟨tb, n3, defScope (top 7), none⟩ f3.body (defBody (top 7))).b = true := fun fa gl c => by kernel_rfl
theorem s3 : FnScope n3 p3 (defScope (top 7)) := ⟨rfl, rfl, rfl, by decide +kernel, rfl, by decide +kernel, by decide +kernel⟩
theorem m4 : ∀ (fa : Nat → Addr) (gl : List D) (c : Cl), (kSs fa gl c ⟨tb, n4, defScope (top 8), none⟩ f4.body (defBody (top 8))).b = true := fun fa gl c => by kernel_rfl
theorem s4 : FnScope n4 p4 (defScope (top 8)) := ⟨rfl, rfl, rfl, by decide +kernel, rfl, by decide +kernel, by decide +kernel⟩
theorem m5 : ∀ (fa : Nat → Addr) (gl : List D) (c : Cl), (kSs fa gl c ⟨tb, n5, defScope (top 9), none⟩ f5.body (defBody (top 9))).b = true := fun fa gl c => by kernel_rfl
theorem s5 : FnScope n5 p5 (defScope (top 9)) := ⟨rfl, rfl, rfl, by decide +kernel, rfl, by decide +kernel, by decide +kernel⟩
theorem m6 : ∀ (fa : Nat → Addr) (gl : List D) (c : Cl), (kSs fa gl c ⟨tb, n6, defScope (top 10), none⟩ f6.body (defBody (top 10))).b = true := fun fa gl c => by kernel_rfl
theorem s6 : FnScope n6 p6 (defScope (top 10)) := ⟨rfl, rfl, rfl, by decide +kernel, rfl, by decide +kernel, by decide +kernel⟩
theorem m7 : ∀ (fa : Nat → Addr) (gl : List D) (c : Cl), (kSs fa gl c ⟨tb, n7, defScope (top 11), none⟩ f7.body (defBody (top 11))).b = true := fun fa gl c => by kernel_rfl
theorem s7 : FnScope n7 p7 (defScope (top 11)) := ⟨rfl, rfl, rfl, by decide +kernel, rfl, by decide +kernel, by decide +kernel⟩
theorem m8 : ∀ (fa : Nat → Addr) (gl : List D) (c : Cl), (kSs fa gl c ⟨tb, n8, defScope (top 13), none⟩ f8.body (defBody (top 13))).b = true := fun fa gl c => by kernel_rfl
theorem s8 : FnScope n8 p8 (defScope (top 13)) := ⟨rfl, rfl, rfl, by decide +kernel, rfl, by decide +kernel, by decide +kernel⟩
theorem m9 : ∀ (fa : Nat → Addr) (gl : List D) (c : Cl), (kSs fa gl c ⟨tb, n9, defScope (top 14), none⟩ f9.body (defBody (top 14))).b = true := fun fa gl c => by kernel_rfl
theorem s9 : FnScope n9 p9 (defScope (top 14)) := ⟨rfl, rfl, rfl, by decide +kernel, rfl, by decide +kernel, by decide +kernel⟩
theorem m10 : ∀ (fa : Nat → Addr) (gl : List D) (c : Cl), (kSs fa gl c ⟨tb, n10, defScope (top 15), none⟩ f10.body (defBody (top 15))).b = true := fun fa gl c => by kernel_rfl
theorem s10 : FnScope n10 p10 (defScope (top 15)) := ⟨rfl, rfl, rfl, by decide +kernel, rfl, by decide +kernel, by decide +kernel⟩
theorem m11 : ∀ (fa : Nat → Addr) (gl : List D) (c : Cl), (kSs fa gl c ⟨tb, n11, defScope (top 16), none⟩ f11.body (defBody (top 16))).b = true := fun fa gl c => by kernel_rfl
theorem s11 : FnScope n11 p11 (defScope (top 16)) := ⟨rfl, rfl, rfl, by decide +kernel, rfl, by decide +kernel, by decide +kernel⟩
theorem m12 : ∀ (fa : Nat → Addr) (gl : List D) (c : Cl), (kSs fa gl c ⟨tb, n12, defScope (top 17), none⟩ f12.body (defBody (top 17))).b = true := fun fa gl c => by kernel_rfl
theorem s12 : FnScope n12 p12 (defScope (top 17)) := ⟨rfl, rfl, rfl, by decide +kernel, rfl, by decide +kernel, by decide +kernel⟩
theorem m13 : ∀ (fa : Nat → Addr) (gl : List D) (c : Cl), (kSs fa gl c ⟨tb, n13, defScope (top 18), none⟩ f13.body (defBody (top 18))).b = true := fun fa gl c => by kernel_rfl
theorem s13 : FnScope n13 p13 (defScope (top 18)) := ⟨rfl, rfl, rfl, by decide +kernel, rfl, by decide +kernel, by decide +kernel⟩
theorem all_mk {K : PySem.W.Frag} {h : Heap} {mg : Str → Option Value} {fa g0 g1 g2 g3 g4 g5 g6 g7 g8 g9 g10 g11 g12 g13 : Addr} {od0 an0 od1 an1 od2 an2 od3 an3 od4 an4 od5 an5 od6 an6 od7 an7 od8 an8 od9 an9 od10 an10 od11 an11 od12 an12 od13 an13 : Option Addr} {sl0 sl1 sl2 sl3 sl4 sl5 sl6 sl7 sl8 sl9 sl10 sl11 sl12 sl13 : Array (Option Value)}
    {oc0 kV0 dc0 pm0 cd0 ct0 oc1 kV1 dc1 pm1 cd1 ct1 oc2 kV2 dc2 pm2 cd2 ct2 oc3 kV3 dc3 pm3 cd3 ct3 oc4 kV4 dc4 pm4 cd4 ct4 oc5 kV5 dc5 pm5 cd5 ct5 oc6 kV6 dc6 pm6 cd6 ct6 oc7 kV7 dc7 pm7 cd7 ct7 oc8 kV8 dc8 pm8 cd8 ct8 oc9 kV9 dc9 pm9 cd9 ct9 oc10 kV10 dc10 pm10 cd10 ct10 oc11 kV11 dc11 pm11 cd11 ct11 oc12 kV12 dc12 pm12 cd12 ct12 oc13 kV13 dc13 pm13 cd13 ct13 : Value} {t0 t1 : Tok} (X : K.In h) (G : h.Ns mainGlobals mg) (hfa : mg "law" = some (.ref fa))
    (a0 : PySem.W.nsIn K mainGlobals "greater_hearing" = some (some (.ref g0))) (l0 : K.lookup g0 = some ⟨oc0, od0, .func (PySem.W.fnOf "greater_hearing" "greater_hearing" (defArgs (top 1)) (defBody (top 1)) (defScope (top 1)) .none kV0 dc0 pm0 an0 cd0 ct0), sl0⟩) (c0 : PySem.W.codeIn K cd0 "greater_hearing" = true) (k0 : PySem.W.keepIn K (.ref g0) = true)
    (a1 : PySem.W.nsIn K mainGlobals "heard_together" = some (some (.ref g1))) (l1 : K.lookup g1 = some ⟨oc1, od1, .func (PySem.W.fnOf "heard_together" "heard_together" (defArgs (top 2)) (defBody (top 2)) (defScope (top 2)) .none kV1 dc1 pm1 an1 cd1 ct1), sl1⟩) (c1 : PySem.W.codeIn K cd1 "heard_together" = true) (k1 : PySem.W.keepIn K (.ref g1) = true)
    (a2 : PySem.W.nsIn K mainGlobals "is_natural" = some (some (.ref g2))) (l2 : K.lookup g2 = some ⟨oc2, od2, .func (PySem.W.fnOf "is_natural" "is_natural" (defArgs (top 6)) (defBody (top 6)) (defScope (top 6)) .none kV2 dc2 pm2 an2 cd2 ct2), sl2⟩) (c2 : PySem.W.codeIn K cd2 "is_natural" = true) (k2 : PySem.W.keepIn K (.ref g2) = true)
    (a3 : PySem.W.nsIn K mainGlobals "is_word" = some (some (.ref g3))) (l3 : K.lookup g3 = some ⟨oc3, od3, .func (PySem.W.fnOf "is_word" "is_word" (defArgs (top 7)) (defBody (top 7)) (defScope (top 7)) .none kV3 dc3 pm3 an3 cd3 ct3), sl3⟩) (c3 : PySem.W.codeIn K cd3 "is_word" = true) (k3 : PySem.W.keepIn K (.ref g3) = true)
    (a4 : PySem.W.nsIn K mainGlobals "is_row_of" = some (some (.ref g4))) (l4 : K.lookup g4 = some ⟨oc4, od4, .func (PySem.W.fnOf "is_row_of" "is_row_of" (defArgs (top 8)) (defBody (top 8)) (defScope (top 8)) .none kV4 dc4 pm4 an4 cd4 ct4), sl4⟩) (c4 : PySem.W.codeIn K cd4 "is_row_of" = true) (k4 : PySem.W.keepIn K (.ref g4) = true)
    (a5 : PySem.W.nsIn K mainGlobals "rise_by_first" = some (some (.ref g5))) (l5 : K.lookup g5 = some ⟨oc5, od5, .func (PySem.W.fnOf "rise_by_first" "rise_by_first" (defArgs (top 9)) (defBody (top 9)) (defScope (top 9)) .none kV5 dc5 pm5 an5 cd5 ct5), sl5⟩) (c5 : PySem.W.codeIn K cd5 "rise_by_first" = true) (k5 : PySem.W.keepIn K (.ref g5) = true)
    (a6 : PySem.W.nsIn K mainGlobals "is_hearing" = some (some (.ref g6))) (l6 : K.lookup g6 = some ⟨oc6, od6, .func (PySem.W.fnOf "is_hearing" "is_hearing" (defArgs (top 10)) (defBody (top 10)) (defScope (top 10)) .none kV6 dc6 pm6 an6 cd6 ct6), sl6⟩) (c6 : PySem.W.codeIn K cd6 "is_hearing" = true) (k6 : PySem.W.keepIn K (.ref g6) = true)
    (a7 : PySem.W.nsIn K mainGlobals "is_heard" = some (some (.ref g7))) (l7 : K.lookup g7 = some ⟨oc7, od7, .func (PySem.W.fnOf "is_heard" "is_heard" (defArgs (top 11)) (defBody (top 11)) (defScope (top 11)) .none kV7 dc7 pm7 an7 cd7 ct7), sl7⟩) (c7 : PySem.W.codeIn K cd7 "is_heard" = true) (k7 : PySem.W.keepIn K (.ref g7) = true)
    (a8 : PySem.W.nsIn K mainGlobals "_law_tap" = some (some (.ref g8))) (l8 : K.lookup g8 = some ⟨oc8, od8, .func (PySem.W.fnOf "_law_tap" "_law_tap" (defArgs (top 13)) (defBody (top 13)) (defScope (top 13)) .none kV8 dc8 pm8 an8 cd8 ct8), sl8⟩) (c8 : PySem.W.codeIn K cd8 "_law_tap" = true) (k8 : PySem.W.keepIn K (.ref g8) = true)
    (a9 : PySem.W.nsIn K mainGlobals "_law_take" = some (some (.ref g9))) (l9 : K.lookup g9 = some ⟨oc9, od9, .func (PySem.W.fnOf "_law_take" "_law_take" (defArgs (top 14)) (defBody (top 14)) (defScope (top 14)) .none kV9 dc9 pm9 an9 cd9 ct9), sl9⟩) (c9 : PySem.W.codeIn K cd9 "_law_take" = true) (k9 : PySem.W.keepIn K (.ref g9) = true)
    (a10 : PySem.W.nsIn K mainGlobals "_law_towns" = some (some (.ref g10))) (l10 : K.lookup g10 = some ⟨oc10, od10, .func (PySem.W.fnOf "_law_towns" "_law_towns" (defArgs (top 15)) (defBody (top 15)) (defScope (top 15)) .none kV10 dc10 pm10 an10 cd10 ct10), sl10⟩) (c10 : PySem.W.codeIn K cd10 "_law_towns" = true) (k10 : PySem.W.keepIn K (.ref g10) = true)
    (a11 : PySem.W.nsIn K mainGlobals "_law_news" = some (some (.ref g11))) (l11 : K.lookup g11 = some ⟨oc11, od11, .func (PySem.W.fnOf "_law_news" "_law_news" (defArgs (top 16)) (defBody (top 16)) (defScope (top 16)) .none kV11 dc11 pm11 an11 cd11 ct11), sl11⟩) (c11 : PySem.W.codeIn K cd11 "_law_news" = true) (k11 : PySem.W.keepIn K (.ref g11) = true)
    (a12 : PySem.W.nsIn K mainGlobals "_law_greater" = some (some (.ref g12))) (l12 : K.lookup g12 = some ⟨oc12, od12, .func (PySem.W.fnOf "_law_greater" "_law_greater" (defArgs (top 17)) (defBody (top 17)) (defScope (top 17)) .none kV12 dc12 pm12 an12 cd12 ct12), sl12⟩) (c12 : PySem.W.codeIn K cd12 "_law_greater" = true) (k12 : PySem.W.keepIn K (.ref g12) = true)
    (a13 : PySem.W.nsIn K mainGlobals "law" = some (some (.ref g13))) (l13 : K.lookup g13 = some ⟨oc13, od13, .func (PySem.W.fnOf "law" "law" (defArgs (top 18)) (defBody (top 18)) (defScope (top 18)) .none kV13 dc13 pm13 an13 cd13 ct13), sl13⟩) (c13 : PySem.W.codeIn K cd13 "law" = true) (k13 : PySem.W.keepIn K (.ref g13) = true)
    (z0 : PySem.W.nsIn K mainGlobals "all" = some none)
    (z1 : PySem.W.nsIn K mainGlobals "bool" = some none)
    (z2 : PySem.W.nsIn K mainGlobals "enumerate" = some none)
    (z3 : PySem.W.nsIn K mainGlobals "int" = some none)
    (z4 : PySem.W.nsIn K mainGlobals "isinstance" = some none)
    (z5 : PySem.W.nsIn K mainGlobals "len" = some none)
    (z6 : PySem.W.nsIn K mainGlobals "list" = some none)
    (z7 : PySem.W.nsIn K mainGlobals "max" = some none)
    (z8 : PySem.W.nsIn K mainGlobals "min" = some none)
    (z9 : PySem.W.nsIn K mainGlobals "range" = some none)
    (z10 : PySem.W.nsIn K mainGlobals "repr" = some none)
    (z11 : PySem.W.nsIn K mainGlobals "str" = some none)
    (z12 : PySem.W.nsIn K mainGlobals "tuple" = some none)
    (z13 : PySem.W.nsIn K mainGlobals "zip" = some none)
    (q0 : PySem.W.nsIn K mainGlobals "LETTERS" = some (some (.str "abcdefghijklmnopqrstuvwxyz" t0)))
    (q1 : PySem.W.nsIn K mainGlobals "LONGEST" = some (some (.int (8) t1)))
    : ∃ (at_ : Nat → Addr) (fd : FuncData) (f : Df) (x : Str), at_ 13 = fa ∧ tbl[13]? = some f ∧ (∀ (s : Shared) (u : Value), BindsTo s fd ⟨[u], []⟩ [(x, u)]) ∧ DefAt K tb f fa fd [x] ∧ ModOk K mg tb gl tbl at_ := by
  have e := hfa.symm.trans (PySem.W.mg_of X G a13)
  cases e
  have d0 := def_ok (tb := tb) (f := f0) (N := n0) (ps := p0) l0 c0 k0 s0 (fun us hl => match us, hl with | [_, _], _ => rfl) rfl rfl (by decide) m0
  have d1 := def_ok (tb := tb) (f := f1) (N := n1) (ps := p1) l1 c1 k1 s1 (fun us hl => match us, hl with | [_, _], _ => rfl) rfl rfl (by decide) m1
  have d2 := def_ok (tb := tb) (f := f2) (N := n2) (ps := p2) l2 c2 k2 s2 (fun us hl => match us, hl with | [_], _ => rfl) rfl rfl (by decide) m2
  have d3 := def_ok (tb := tb) (f := f3) (N := n3) (ps := p3) l3 c3 k3 s3 (fun us hl => match us, hl with | [_], _ => rfl) rfl rfl (by decide) m3
  have d4 := def_ok (tb := tb) (f := f4) (N := n4) (ps := p4) l4 c4 k4 s4 (fun us hl => match us, hl with | [_, _], _ => rfl) rfl rfl (by decide) m4
  have d5 := def_ok (tb := tb) (f := f5) (N := n5) (ps := p5) l5 c5 k5 s5 (fun us hl => match us, hl with | [_, _], _ => rfl) rfl rfl (by decide) m5
  have d6 := def_ok (tb := tb) (f := f6) (N := n6) (ps := p6) l6 c6 k6 s6 (fun us hl => match us, hl with | [_], _ => rfl) rfl rfl (by decide) m6
  have d7 := def_ok (tb := tb) (f := f7) (N := n7) (ps := p7) l7 c7 k7 s7 (fun us hl => match us, hl with | [_], _ => rfl) rfl rfl (by decide) m7
  have d8 := def_ok (tb := tb) (f := f8) (N := n8) (ps := p8) l8 c8 k8 s8 (fun us hl => match us, hl with | [_], _ => rfl) rfl rfl (by decide) m8
  have d9 := def_ok (tb := tb) (f := f9) (N := n9) (ps := p9) l9 c9 k9 s9 (fun us hl => match us, hl with | [_, _], _ => rfl) rfl rfl (by decide) m9
  have d10 := def_ok (tb := tb) (f := f10) (N := n10) (ps := p10) l10 c10 k10 s10 (fun us hl => match us, hl with | [_, _], _ => rfl) rfl rfl (by decide) m10
  have d11 := def_ok (tb := tb) (f := f11) (N := n11) (ps := p11) l11 c11 k11 s11 (fun us hl => match us, hl with | [_, _], _ => rfl) rfl rfl (by decide) m11
  have d12 := def_ok (tb := tb) (f := f12) (N := n12) (ps := p12) l12 c12 k12 s12 (fun us hl => match us, hl with | [_, _], _ => rfl) rfl rfl (by decide) m12
  have d13 := def_ok (tb := tb) (f := f13) (N := n13) (ps := p13) l13 c13 k13 s13 (fun us hl => match us, hl with | [_], _ => rfl) rfl rfl (by decide) m13
  refine ⟨fun n => [g0, g1, g2, g3, g4, g5, g6, g7, g8, g9, g10, g11, g12, fa].getD n 0, _, f13, "script", rfl, rfl, fun s u => .of_eq rfl, d13, ?_, ?_, ?_, ?_, ?_⟩
  · intro n f hn
    exact match n, hn with
    | 0, rfl => ⟨_, _, d0⟩
    | 1, rfl => ⟨_, _, d1⟩
    | 2, rfl => ⟨_, _, d2⟩
    | 3, rfl => ⟨_, _, d3⟩
    | 4, rfl => ⟨_, _, d4⟩
    | 5, rfl => ⟨_, _, d5⟩
    | 6, rfl => ⟨_, _, d6⟩
    | 7, rfl => ⟨_, _, d7⟩
    | 8, rfl => ⟨_, _, d8⟩
    | 9, rfl => ⟨_, _, d9⟩
    | 10, rfl => ⟨_, _, d10⟩
    | 11, rfl => ⟨_, _, d11⟩
    | 12, rfl => ⟨_, _, d12⟩
    | 13, rfl => ⟨_, _, d13⟩
    | _ + 14, z => nomatch z
  · have hh : ∀ p ∈ tb.fns, mg p.1 = some (.ref ([g0, g1, g2, g3, g4, g5, g6, g7, g8, g9, g10, g11, g12, fa].getD p.2 0)) ∧ p.2 < tbl.length := List.forall_mem_cons.mpr ⟨⟨PySem.W.mg_of X G a0, by decide⟩, List.forall_mem_cons.mpr ⟨⟨PySem.W.mg_of X G a1, by decide⟩, List.forall_mem_cons.mpr ⟨⟨PySem.W.mg_of X G a2, by decide⟩, List.forall_mem_cons.mpr ⟨⟨PySem.W.mg_of X G a3, by decide⟩, List.forall_mem_cons.mpr ⟨⟨PySem.W.mg_of X G a4, by decide⟩, List.forall_mem_cons.mpr ⟨⟨PySem.W.mg_of X G a5, by decide⟩, List.forall_mem_cons.mpr ⟨⟨PySem.W.mg_of X G a6, by decide⟩, List.forall_mem_cons.mpr ⟨⟨PySem.W.mg_of X G a7, by decide⟩, List.forall_mem_cons.mpr ⟨⟨PySem.W.mg_of X G a8, by decide⟩, List.forall_mem_cons.mpr ⟨⟨PySem.W.mg_of X G a9, by decide⟩, List.forall_mem_cons.mpr ⟨⟨PySem.W.mg_of X G a10, by decide⟩, List.forall_mem_cons.mpr ⟨⟨PySem.W.mg_of X G a11, by decide⟩, List.forall_mem_cons.mpr ⟨⟨PySem.W.mg_of X G a12, by decide⟩, List.forall_mem_cons.mpr ⟨⟨PySem.W.mg_of X G a13, by decide⟩, (fun _ z => absurd z List.not_mem_nil)⟩⟩⟩⟩⟩⟩⟩⟩⟩⟩⟩⟩⟩⟩
    exact fun x n z => hh (x, n) z
  · exact List.forall_mem_cons.mpr ⟨PySem.W.mg_none_of X G z0, List.forall_mem_cons.mpr ⟨PySem.W.mg_none_of X G z1, List.forall_mem_cons.mpr ⟨PySem.W.mg_none_of X G z2, List.forall_mem_cons.mpr ⟨PySem.W.mg_none_of X G z3, List.forall_mem_cons.mpr ⟨PySem.W.mg_none_of X G z4, List.forall_mem_cons.mpr ⟨PySem.W.mg_none_of X G z5, List.forall_mem_cons.mpr ⟨PySem.W.mg_none_of X G z6, List.forall_mem_cons.mpr ⟨PySem.W.mg_none_of X G z7, List.forall_mem_cons.mpr ⟨PySem.W.mg_none_of X G z8, List.forall_mem_cons.mpr ⟨PySem.W.mg_none_of X G z9, List.forall_mem_cons.mpr ⟨PySem.W.mg_none_of X G z10, List.forall_mem_cons.mpr ⟨PySem.W.mg_none_of X G z11, List.forall_mem_cons.mpr ⟨PySem.W.mg_none_of X G z12, List.forall_mem_cons.mpr ⟨PySem.W.mg_none_of X G z13, (fun _ z => absurd z List.not_mem_nil)⟩⟩⟩⟩⟩⟩⟩⟩⟩⟩⟩⟩⟩⟩
  · have hh : ∀ p ∈ tb.glos, ∃ v u, mg p.1 = some u ∧ L2.RelV v u ∧ ∀ d, gl[p.2]? = some d → ∀ Wr ρ H, Rp K (fun n => [g0, g1, g2, g3, g4, g5, g6, g7, g8, g9, g10, g11, g12, fa].getD n 0) Wr ρ H d v := List.forall_mem_cons.mpr ⟨⟨.str "abcdefghijklmnopqrstuvwxyz", .str "abcdefghijklmnopqrstuvwxyz" t0, PySem.W.mg_of X G q0, ⟨_, rfl⟩, fun d e Wr ρ H => by have e : some _ = some d := e; cases e; rw [Rp]⟩, List.forall_mem_cons.mpr ⟨⟨.int (8), .int (8) t1, PySem.W.mg_of X G q1, ⟨_, rfl⟩, fun d e Wr ρ H => by have e : some _ = some d := e; cases e; rw [Rp]⟩, (fun _ z => absurd z List.not_mem_nil)⟩⟩
    exact fun x g z => hh (x, g) z
  · exact fun n m ks fl z => absurd z List.not_mem_nil
end K08
namespace K08
open PySem Dn L2
/-! k08: the plain maths. -/
structure Hr where
  w : PySem.Str
  a : Int
  b : Int
def hD (h : Hr) : D := .tup [.str h.w, .int h.a, .int h.b]
def hT (l : List Hr) : D := .tup (l.map hD)
def mx (x y : Hr) : Hr := if x.a < y.a ∨ (x.a = y.a ∧ x.b < y.b) then y else x
theorem pool_ok : ∀ w ∈ pool, PyData.strOk w = true := by decide +kernel
theorem hD_eok {h : Hr} (hw : h.w ∈ pool) : eok (hD h) = true := by
  have := pool_ok _ hw
  simp [eok, hD, dok, dokL, dep, depL, this]
theorem gt_hD {x y : Hr} (e : x.w = y.w) : dcmp .Gt (hD y) (hD x) = some (decide (x.a < y.a ∨ (x.a = y.a ∧ x.b < y.b))) := by
  obtain ⟨w, a, b⟩ := x
  obtain ⟨w', a', b'⟩ := y
  cases e
  simp only [hD, dcmp, dcmpL, deq, ordI]
  by_cases h1 : a' = a
  · subst h1
    by_cases h2 : b' = b
    · subst h2; simp
    · simp [h2]
  · by_cases h2 : a < a'
    · simp [h1, h2]
    · have : ¬ (a = a') := fun z => h1 z.symm
      simp [h1, h2, this]
theorem max_hD {x y : Hr} (e : x.w = y.w) (hw : x.w ∈ pool) : bfD "max" [hD x, hD y] = some (hD (mx x y)) := by
  show max2 (hD x) (hD y) = _
  unfold max2
  rw [hD_eok hw, hD_eok (e ▸ hw), gt_hD e]
  simp only [Bool.and_self, if_true, Option.map_some, decide_eq_true_eq, mx]
  split <;> rfl
/-- names the same, place by place, all of the pool -/
def Al (l m : List Hr) : Prop := l.map (·.w) = m.map (·.w) ∧ ∀ x ∈ l, x.w ∈ pool
def mxs (l m : List Hr) : List Hr := List.zipWith mx l m
theorem mx_w {x y : Hr} (e : x.w = y.w) : (mx x y).w = x.w := by
  unfold mx; split
  · exact e.symm
  · rfl
theorem Al.inv {x y : Hr} {l m : List Hr} (h : Al (x :: l) (y :: m)) : x.w = y.w ∧ x.w ∈ pool ∧ Al l m := by
  obtain ⟨h1, h2⟩ := h
  rw [List.map_cons, List.map_cons] at h1
  injection h1 with h1 h3
  exact ⟨h1, h2 x List.mem_cons_self, h3, fun z hz => h2 z (List.mem_cons_of_mem _ hz)⟩
theorem Al.zip_mem : ∀ {l m : List Hr}, Al l m → ∀ d ∈ (((l.map hD).zip (m.map hD)).map fun p => D.tup [p.1, p.2]), ∃ x y, d = .tup [hD x, hD y] ∧ x.w = y.w ∧ x.w ∈ pool
  | [], m, _, d, hd => by simp at hd
  | _ :: _, [], _, d, hd => by simp at hd
  | x :: l, y :: m, h, d, hd => by
    obtain ⟨h1, h2, h3⟩ := h.inv
    rw [List.map_cons, List.map_cons, List.zip_cons_cons, List.map_cons] at hd
    rcases List.mem_cons.mp hd with e | hd
    · exact ⟨x, y, e, h1, h2⟩
    · exact Al.zip_mem h3 d hd
/-- the greater of a pair -/
def gp : D → D
  | .tup [x, y] => (bfD "max" [x, y]).getD .non
  | _ => .non
theorem Al.zip_gp : ∀ {l m : List Hr}, Al l m → (((l.map hD).zip (m.map hD)).map fun p => D.tup [p.1, p.2]).map gp = (mxs l m).map hD
  | [], m, _ => by cases m <;> rfl
  | _ :: _, [], _ => rfl
  | x :: l, y :: m, h => by
    obtain ⟨h1, h2, h3⟩ := h.inv
    have ih := Al.zip_gp h3
    rw [List.map_cons, List.map_cons, List.zip_cons_cons, List.map_cons, List.map_cons, ih]
    have e : gp (.tup [hD x, hD y]) = hD (mx x y) := by
      show (bfD "max" [hD x, hD y]).getD .non = _
      rw [max_hD h1 h2]; rfl
    rw [e]; rfl
theorem Al.len {l m : List Hr} (h : Al l m) : l.length = m.length := by
  have := congrArg List.length h.1
  simpa using this
theorem great_ok (k : Nat) {x y : Hr} (e : x.w = y.w) (hw : x.w ∈ pool) (sto : List SO) : calls tbl gl (k + 1) 0 [hD x, hD y] sto = .ok (hD (mx x y)) sto := by
  rw [calls_s (show tbl[0]? = some f0 from rfl), Df.run, if_pos (by rfl)]
  have e0 : slots f0.ns [hD x, hD y] = [.sh (hD x), .sh (hD y)] := rfl
  rw [e0]
  simp only [f0, evSs, evS, evE, evEs, evO, evOs, R.bind_ok, ofO_some, pd_d, pd_p, pdAll_nil, pdAll_cons, run_bf, List.getElem?_cons_zero, List.getElem?_cons_succ, Option.bind_some, Option.map_some, max_hD e hw]
theorem heard_ok (k : Nat) {l m : List Hr} (h : Al l m) (hl : l.length ≤ 4) (sto : List SO) : calls tbl gl (k + 2) 1 [hT l, hT m] sto = .ok (hT (mxs l m)) sto := by
  have hi : evIt gl (calls tbl gl (k + 1)) (.zip (.var 0) (.var 1)) ⟨[.sh (hT l), .sh (hT m), .no, .no], sto⟩ = .ok (((l.map hD).zip (m.map hD)).map fun p => D.tup [p.1, p.2]) ⟨[.sh (hT l), .sh (hT m), .no, .no], sto⟩ := by
    simp only [evIt, evE, R.bind_ok, List.getElem?_cons_zero, List.getElem?_cons_succ, hT]
  have q := comp_map (gl := gl) (c := calls tbl gl (k + 1)) (vs := [2, 3]) (el := .call 0 none (.cons (.var 2) (.cons (.var 3) .nil)) .nil) (tg := .tp (.cons (.nm 2) (.cons (.nm 3) .nil))) (g := gp) hi (by
      rw [List.length_map, List.length_zip, List.length_map, List.length_map]
      have : sizeLine = 16777216 := by decide
      omega) (fun d hd => by
      obtain ⟨x, y, rfl, h1, h2⟩ := h.zip_mem d hd
      refine ⟨⟨[.sh (hT l), .sh (hT m), .sh (hD x), .sh (hD y)], sto⟩, ⟨[.sh (hT l), .sh (hT m), .sh (hD x), .sh (hD y)], sto⟩, rfl, ?_, rfl⟩
      have t := great_ok k h1 h2 sto
      simp only [evE, evEs, R.bind_ok, List.getElem?_cons_zero, List.getElem?_cons_succ, List.append_nil, t, rc_ok]
      rw [show gp (.tup [hD x, hD y]) = hD (mx x y) by
        show (bfD "max" [hD x, hD y]).getD .non = _
        rw [max_hD h1 h2]; rfl])
  rw [h.zip_gp] at q
  have hb : btD "tuple" [.lst ((mxs l m).map hD)] = some (hT (mxs l m)) := rfl
  have r := ev_ret (r := []) (ev_prim1 (p := .bt "tuple") (r := hT (mxs l m)) q rfl)
  exact run_ret (f := f1) (ds := [hT l, hT m]) rfl rfl r
theorem greater_ok (k : Nat) {l m : List Hr} (h : Al l m) (hl : l.length ≤ 4) (sto : List SO) : calls tbl gl (k + 1) 12 [hT l, hT m] sto = .ok (hT (mxs l m)) sto := by
  have hi : evIt gl (calls tbl gl k) (.zip (.var 0) (.var 1)) ⟨[.sh (hT l), .sh (hT m), .no, .no], sto⟩ = .ok (((l.map hD).zip (m.map hD)).map fun p => D.tup [p.1, p.2]) ⟨[.sh (hT l), .sh (hT m), .no, .no], sto⟩ := by
    simp only [evIt, evE, R.bind_ok, List.getElem?_cons_zero, List.getElem?_cons_succ, hT]
  have q := comp_map (gl := gl) (c := calls tbl gl k) (vs := [2, 3]) (el := .prim (.bf "max") (.cons (.e (.var 2)) (.cons (.e (.var 3)) .nil))) (tg := .tp (.cons (.nm 2) (.cons (.nm 3) .nil))) (g := gp) hi (by
      rw [List.length_map, List.length_zip, List.length_map, List.length_map]
      have : sizeLine = 16777216 := by decide
      omega) (fun d hd => by
      obtain ⟨x, y, rfl, h1, h2⟩ := h.zip_mem d hd
      refine ⟨⟨[.sh (hT l), .sh (hT m), .sh (hD x), .sh (hD y)], sto⟩, ⟨[.sh (hT l), .sh (hT m), .sh (hD x), .sh (hD y)], sto⟩, rfl, ?_, rfl⟩
      refine ev_prim2 (ev_var rfl) (ev_var rfl) ?_
      rw [run_bf, max_hD h1 h2, show gp (.tup [hD x, hD y]) = hD (mx x y) by
        show (bfD "max" [hD x, hD y]).getD .non = _
        rw [max_hD h1 h2]; rfl])
  rw [h.zip_gp] at q
  have r := ev_ret (r := []) (ev_prim1 (p := .bt "tuple") (r := hT (mxs l m)) q rfl)
  exact run_ret (f := f12) (ds := [hT l, hT m]) rfl rfl r
/-! ### what a hearing is -/
theorem word_ok (k : Nat) {w : PySem.Str} (hw : w ∈ pool) (sto : List SO) : calls tbl gl (k + 1) 3 [.str w] sto = .ok (.bl true) sto := by
  unfold pool at hw
  simp only [List.mem_cons, List.not_mem_nil, or_false] at hw
  rcases hw with rfl | rfl | rfl | rfl | rfl <;> kernel_rfl
theorem nat_ok (k : Nat) {a : Int} (ha : 0 ≤ a) (sto : List SO) : calls tbl gl (k + 1) 2 [.int a] sto = .ok (.bl true) sto := by
  rw [calls_s (show tbl[2]? = some f2 from rfl), Df.run, if_pos (by rfl)]
  have e0 : slots f2.ns [.int a] = [.sh (.int a)] := rfl
  have i1 : bfD "isinstance" [.int a, .ty "int"] = some (.bl true) := rfl
  have i2 : bfD "isinstance" [.int a, .ty "bool"] = some (.bl false) := rfl
  rw [e0]
  simp only [f2, evSs, evS, evE, evAnd, evOs, evO, R.bind_ok, ofO_some, pd_d, pd_p, pdAll_nil, pdAll_cons, run_bf, run_cmp, i1, i2, ge_int, Cst.d, tru, List.getElem?_cons_zero, Option.bind_some, Option.map_some, rdSl, Bool.not_false, decide_eq_true ha]
theorem row_ok (k : Nat) {h : Hr} (hw : h.w ∈ pool) (ha : 0 ≤ h.a) (hb : 0 ≤ h.b) (sto : List SO) : calls tbl gl (k + 2) 4 [hD h, .tup [.fn 3, .fn 2, .fn 2]] sto = .ok (.bl true) sto := by
  have i1 : bfD "isinstance" [hD h, .ty "tuple"] = some (.bl true) := rfl
  have t1 := word_ok k hw sto
  have t2 := nat_ok k ha sto
  have t3 := nat_ok k hb sto
  have hi : evIt gl (calls tbl gl (k + 1)) (.zip (.var 1) (.var 0)) ⟨[.sh (hD h), .sh (.tup [.fn 3, .fn 2, .fn 2]), .no, .no], sto⟩ = .ok [.tup [.fn 3, .str h.w], .tup [.fn 2, .int h.a], .tup [.fn 2, .int h.b]] ⟨[.sh (hD h), .sh (.tup [.fn 3, .fn 2, .fn 2]), .no, .no], sto⟩ := by
    simp only [evIt, evE, R.bind_ok, List.getElem?_cons_zero, List.getElem?_cons_succ, hD]
    rfl
  have q := comp_map (gl := gl) (c := calls tbl gl (k + 1)) (vs := [2, 3]) (el := .callV 2 (.cons (.var 3) .nil)) (tg := .tp (.cons (.nm 2) (.cons (.nm 3) .nil))) (g := fun _ => .bl true) hi (by show 3 ≤ sizeLine; decide) (fun d hd => by
      have step : ∀ (n : Nat) (z : D), calls tbl gl (k + 1) n [z] sto = .ok (.bl true) sto → ∃ s2 s3, asg (.tp (.cons (.nm 2) (.cons (.nm 3) .nil))) (.tup [.fn n, z]) ((⟨[.sh (hD h), .sh (.tup [.fn 3, .fn 2, .fn 2]), .no, .no], sto⟩ : S).wipe [2, 3]) = some s2 ∧ evE gl (calls tbl gl (k + 1)) (.callV 2 (.cons (.var 3) .nil)) s2 = .ok (.bl true) s3 ∧ s3.wipe [2, 3] = (⟨[.sh (hD h), .sh (.tup [.fn 3, .fn 2, .fn 2]), .no, .no], sto⟩ : S).wipe [2, 3] := fun n z t => by
        refine ⟨⟨[.sh (hD h), .sh (.tup [.fn 3, .fn 2, .fn 2]), .sh (.fn n), .sh z], sto⟩, ⟨[.sh (hD h), .sh (.tup [.fn 3, .fn 2, .fn 2]), .sh (.fn n), .sh z], sto⟩, rfl, ?_, rfl⟩
        simp only [evE, evEs, R.bind_ok, List.getElem?_cons_zero, List.getElem?_cons_succ, t, rc_ok]
      simp only [List.mem_cons, List.not_mem_nil, or_false] at hd
      rcases hd with rfl | rfl | rfl
      · exact step 3 _ t1
      · exact step 2 _ t2
      · exact step 2 _ t3)
  have r := ev_ret (r := []) (ev_prim1 (p := .bf "all") (r := .bl true) q rfl)
  refine run_ret (f := f4) (ds := [hD h, .tup [.fn 3, .fn 2, .fn 2]]) (s2 := ⟨_, sto⟩) rfl rfl (ev_iteF (s1 := ⟨[.sh (hD h), .sh (.tup [.fn 3, .fn 2, .fn 2]), .no, .no], sto⟩) ?_ ?_ r)
  · have e0 : slots f4.ns [hD h, .tup [.fn 3, .fn 2, .fn 2]] = [.sh (hD h), .sh (.tup [.fn 3, .fn 2, .fn 2]), .no, .no] := rfl
    have l1 : bfD "len" [hD h] = some (.int 3) := rfl
    have l2 : bfD "len" [.tup [.fn 3, .fn 2, .fn 2]] = some (.int 3) := rfl
    have c1 : cmpD .NotEq (.int 3) (.int 3) = some false := rfl
    rw [e0]
    simp only [evT, evTo, evE, evOs, evO, R.bind_ok, ofO_some, pd_d, pd_p, pdAll_nil, pdAll_cons, run_bf, i1, l1, l2, c1, tru, List.getElem?_cons_zero, List.getElem?_cons_succ, Option.bind_some, Option.map_some, rdSl, Bool.not_true, Bool.false_eq_true, if_false]
  · rw [evSs]
theorem hearing_ok (k : Nat) {h : Hr} (hw : h.w ∈ pool) (ha : 0 ≤ h.a) (hb : 0 ≤ h.b) (sto : List SO) : calls tbl gl (k + 3) 6 [hD h] sto = .ok (.bl true) sto := by
  have t := row_ok k hw ha hb sto
  rw [calls_s (show tbl[6]? = some f6 from rfl), Df.run, if_pos (by rfl)]
  have e0 : slots f6.ns [hD h] = [.sh (hD h)] := rfl
  have el : ([D.fn 3, .fn 2, .fn 2] : List D).length ≤ sizeLine := by decide
  rw [e0]
  simp only [f6, evSs, evS, evE, evEs, R.bind_ok, List.getElem?_cons_zero, if_pos el, List.append_nil, t, rc_ok]
/-! ### rising names -/
def ltS (a b : PySem.Str) : Prop := cmpD .Lt (.str a) (.str b) = some true
instance (a b : PySem.Str) : Decidable (ltS a b) := inferInstanceAs (Decidable (cmpD .Lt (.str a) (.str b) = some true))
theorem pool_rise : pool.Pairwise ltS := by decide +kernel
theorem bols_true : ∀ l : List D, bols (l.map fun _ => D.bl true) = some (l.map fun _ => true)
  | [] => rfl
  | d :: l => by rw [List.map_cons, bols, bols_true l]; rfl
theorem all_id : ∀ l : List D, (l.map fun _ => true).all id = true
  | [] => rfl
  | d :: l => by rw [List.map_cons, List.all_cons, all_id l]; rfl
theorem all_true (l : List D) : bfD "all" [.lst (l.map fun _ => .bl true)] = some (.bl true) := by
  show (bols (l.map fun _ => D.bl true)).map (fun bs => D.bl (bs.all id)) = _
  rw [bols_true, Option.map_some, all_id]
theorem cut1 {x : D} {l : List D} : D.cut (x :: l) (some 1) none = l := by
  unfold D.cut
  have h1 : HT.sIx (x :: l).length 0 (some 1) = 1 := by
    unfold HT.sIx; simp
  have h2 : HT.sIx (x :: l).length (x :: l).length none = (x :: l).length := rfl
  rw [h1, h2, List.drop_succ_cons, List.drop_zero, List.length_cons, Nat.add_sub_cancel, List.take_length]
theorem adj_mem : ∀ {x : Hr} {l : List Hr}, ((x :: l).map (·.w)).Pairwise ltS → ∀ d ∈ ((((x :: l).map hD).zip (l.map hD)).map fun p => D.tup [p.1, p.2]), ∃ y z, d = .tup [hD y, hD z] ∧ ltS y.w z.w
  | x, [], _, d, hd => by simp at hd
  | x, y :: l, h, d, hd => by
    rw [List.map_cons, List.map_cons, List.zip_cons_cons, List.map_cons] at hd
    rw [List.map_cons, List.map_cons] at h
    have h1 := List.pairwise_cons.mp h
    rcases List.mem_cons.mp hd with e | hd
    · exact ⟨x, y, e, h1.1 _ List.mem_cons_self⟩
    · exact adj_mem h1.2 d hd
/-- as the laws want hearings -/
structure Good (l : List Hr) : Prop where
  ne : l ≠ []
  len : l.length ≤ 4
  pl : ∀ h ∈ l, h.w ∈ pool
  up : (l.map (·.w)).Pairwise ltS
  a0 : ∀ h ∈ l, 0 ≤ h.a
  b0 : ∀ h ∈ l, 0 ≤ h.b
theorem rise_ok (k : Nat) {l : List Hr} (G : Good l) (sto : List SO) : calls tbl gl (k + 4) 5 [hT l, .fn 6] sto = .ok (.bl true) sto := by
  let s0 : S := ⟨[.sh (hT l), .sh (.fn 6), .no, .no], sto⟩
  have i1 : bfD "isinstance" [hT l, .ty "tuple"] = some (.bl true) := rfl
  have sz : sizeLine = 16777216 := by decide
  have lm := G.len
  have hi : evIt gl (calls tbl gl (k + 3)) (.seq (.var 0)) s0 = .ok (l.map hD) s0 := by
    simp only [s0, evIt, evE, R.bind_ok, List.getElem?_cons_zero, hT, itemsOf, ofO_some]
  have q := comp_map (gl := gl) (c := calls tbl gl (k + 3)) (vs := [2]) (el := .callV 1 (.cons (.var 2) .nil)) (tg := .nm 2) (g := fun _ => .bl true) hi (by rw [List.length_map]; omega) (fun d hd => by
      obtain ⟨h, hm, rfl⟩ := List.mem_map.mp hd
      have t := hearing_ok k (G.pl h hm) (G.a0 h hm) (G.b0 h hm) sto
      refine ⟨⟨[.sh (hT l), .sh (.fn 6), .sh (hD h), .no], sto⟩, ⟨[.sh (hT l), .sh (.fn 6), .sh (hD h), .no], sto⟩, rfl, ?_, rfl⟩
      simp only [evE, evEs, R.bind_ok, List.getElem?_cons_zero, List.getElem?_cons_succ, t, rc_ok])
  have r1 := ev_prim1 (p := .bf "all") (r := .bl true) q (all_true _)
  obtain ⟨x, l', rfl⟩ : ∃ x l', l = x :: l' := by
    cases l with
    | nil => exact absurd rfl G.ne
    | cons x l' => exact ⟨x, l', rfl⟩
  have hi2 : evIt gl (calls tbl gl (k + 3)) (.zip (.var 0) (.prim (.slc true false) (.cons (.b 0) (.cons (.e (.cst (.int 1))) .nil)))) s0 = .ok ((((x :: l').map hD).zip (l'.map hD)).map fun p => D.tup [p.1, p.2]) s0 := by
    have c1 : (P.slc true false).run sto [hT (x :: l'), .int 1] = some (.tup (l'.map hD)) := by
      show (prts true false [.int 1]).map (fun p => D.tup (D.cut ((x :: l').map hD) p.1 p.2)) = _
      rw [prts, Option.map_some, List.map_cons, cut1]
    have v0 : evE gl (calls tbl gl (k + 3)) (.var 0) s0 = .ok (hT (x :: l')) s0 := ev_var rfl
    rw [evIt, v0, R.bind_ok]
    simp only [evE, evOs, evO, s0, R.bind_ok, ofO_some, pd_d, pd_p, pdAll_nil, pdAll_cons, Cst.d, List.getElem?_cons_zero, Option.bind_some, Option.map_some, rdSl, c1]
    rfl
  have q2 := comp_map (gl := gl) (c := calls tbl gl (k + 3)) (vs := [2, 3]) (el := .prim (.cmp .Lt) (.cons (.e (.prim .idx (.cons (.b 2) (.cons (.e (.cst (.int 0))) .nil)))) (.cons (.e (.prim .idx (.cons (.b 3) (.cons (.e (.cst (.int 0))) .nil)))) .nil))) (tg := .tp (.cons (.nm 2) (.cons (.nm 3) .nil))) (g := fun _ => .bl true) hi2 (by
      rw [List.length_map, List.length_zip, List.length_map, List.length_map]
      omega) (fun d hd => by
      obtain ⟨y, z, rfl, hlt⟩ := adj_mem G.up d hd
      have hlt : cmpD .Lt (.str y.w) (.str z.w) = some true := hlt
      have ix : ∀ h : Hr, idxD sto [hD h, .int 0] = some (.str h.w) := fun h => rfl
      refine ⟨⟨[.sh (hT (x :: l')), .sh (.fn 6), .sh (hD y), .sh (hD z)], sto⟩, ⟨[.sh (hT (x :: l')), .sh (.fn 6), .sh (hD y), .sh (hD z)], sto⟩, rfl, ?_, rfl⟩
      simp only [evE, evOs, evO, R.bind_ok, ofO_some, pd_d, pd_p, pdAll_nil, pdAll_cons, run_idx, run_cmp, Cst.d, List.getElem?_cons_zero, List.getElem?_cons_succ, Option.bind_some, Option.map_some, rdSl, ix, hlt])
  have r2 := ev_ret (r := []) (ev_prim1 (p := .bf "all") (r := .bl true) q2 (all_true _))
  refine run_ret (f := f5) (ds := [hT (x :: l'), .fn 6]) (s2 := ⟨_, sto⟩) rfl rfl (ev_iteF (s1 := s0) ?_ ?_ r2)
  · rw [evT, evTo, evT, evT]
    have v1 : evE gl (calls tbl gl (k + 3)) (.prim (.bf "isinstance") (.cons (.b 0) (.cons (.e (.ty "tuple")) .nil))) s0 = .ok (.bl true) s0 := by
      simp only [evE, evOs, evO, s0, R.bind_ok, ofO_some, pd_d, pd_p, pdAll_nil, pdAll_cons, run_bf, List.getElem?_cons_zero, Option.bind_some, Option.map_some, rdSl, i1]
    show R.bind (R.bind (R.bind (evE gl (calls tbl gl (k + 3)) (.prim (.bf "isinstance") (.cons (.b 0) (.cons (.e (.ty "tuple")) .nil))) s0) _) _) _ = _
    rw [v1]
    simp only [R.bind_ok, tru, ofO_some, Bool.not_true, Bool.false_eq_true, if_false]
    rw [evTo, evT, evT, r1]
    simp only [R.bind_ok, tru, ofO_some, Bool.not_true, Bool.false_eq_true, if_false, evTo]
    rfl
  · rw [evSs]
theorem heardB_ok (k : Nat) {l : List Hr} (G : Good l) (sto : List SO) : calls tbl gl (k + 5) 7 [hT l] sto = .ok (.bl true) sto := by
  have t := rise_ok k G sto
  rw [calls_s (show tbl[7]? = some f7 from rfl), Df.run, if_pos (by rfl)]
  have e0 : slots f7.ns [hT l] = [.sh (hT l)] := rfl
  have hl : 0 < ((l.map hD).length : Int) := by
    have := G.ne
    cases l with
    | nil => exact absurd rfl this
    | cons x l => simp
  have l1 : bfD "len" [hT l] = some (.int ((l.map hD).length : Int)) := rfl
  rw [e0]
  simp only [f7, evSs, evS, evE, evEs, evAnd, evOs, evO, R.bind_ok, ofO_some, pd_d, pd_p, pdAll_nil, pdAll_cons, run_bf, run_cmp, l1, gt_int, decide_eq_true hl, Cst.d, tru, List.getElem?_cons_zero, Option.bind_some, Option.map_some, rdSl, List.append_nil, t, rc_ok]
/-! ### the news -/
def newsB : List Sm := [.asg (.nm 4) (.call 9 none (.cons (.var 0) (.cons (.cst (.int 3)) .nil)) .nil),
    .ex (.mut .append 2 (.cons (.tup (.cons (.var 3) (.cons (.var 4) (.cons (.prim (.bin .Mult) (.cons (.e (.call 9 none (.cons (.var 0) (.cons (.cst (.int 40)) .nil)) .nil)) (.cons (.e (.prim (.bt "int") (.cons (.e (.prim (.cmp .Gt) (.cons (.b 4) (.cons (.e (.cst (.int 0))) .nil)))) .nil))) .nil))) .nil)))) .nil))]
def NewsP (ws : List PySem.Str) (C : Int) (rest : List D) (s : S) : Prop := ∃ (done : List Hr) (e3 e4 : Sl) (sto : List SO), s = ⟨[.sh (.ref 0), .sh (.lst (ws.map .str)), .ow (done.map hD), e3, e4], sto⟩ ∧ (done.map (·.w)).map D.str ++ rest = ws.map D.str ∧ (∀ h ∈ done, 0 ≤ h.a ∧ h.a < 3 ∧ 0 ≤ h.b ∧ h.b < 40) ∧ TapOk (C + 2 * done.length) sto
theorem news_step (k : Nat) {ws : List PySem.Str} {C : Int} (hl : ws.length ≤ 4) (hC : C < 900000) (d : D) (ds : List D) (s : S) (h : NewsP ws C (d :: ds) s) : ∃ s', stepF gl (calls tbl gl (k + 1)) (.nm 3) newsB d s = .ok .nx s' ∧ NewsP ws C ds s' := by
  obtain ⟨done, e3, e4, sto, rfl, hw, hb, hT⟩ := h
  have hlen := congrArg List.length hw
  simp only [List.length_append, List.length_map, List.length_cons] at hlen
  obtain ⟨w, hd⟩ : ∃ w, d = .str w := by
    have : d ∈ ws.map D.str := by rw [← hw]; exact List.mem_append_right _ List.mem_cons_self
    obtain ⟨w, _, e⟩ := List.mem_map.mp this
    exact ⟨w, e.symm⟩
  subst hd
  obtain ⟨z1, sto1, t1, p1, p2, T1⟩ := take_ok (gl := gl) (tbl := tbl) (n := 9) rfl k (m := 3) hT (by omega) (by decide) (by decide)
  obtain ⟨z2, sto2, t2, p3, p4, T2⟩ := take_ok (gl := gl) (tbl := tbl) (n := 9) rfl k (m := 40) T1 (by omega) (by decide) (by decide)
  let x : Hr := ⟨w, z1, z2 * (if decide (0 < z1) = true then 1 else 0)⟩
  have hx : 0 ≤ x.b ∧ x.b < 40 := by
    show 0 ≤ z2 * (if decide (0 < z1) = true then 1 else 0) ∧ z2 * (if decide (0 < z1) = true then 1 else 0) < 40
    split <;> omega
  have hz : (done.map hD).length < sizeLine := by
    have sz : sizeLine = 16777216 := by decide
    rw [List.length_map]; omega
  have em : muD .append (done.map hD) [hD x] = some (done.map hD ++ [hD x], .non) := if_pos hz
  have ml : binD .Mult (.int z2) (.int (if decide (0 < z1) = true then 1 else 0)) = some (.int x.b) := mul_int (by
    have h1 := log2_lt (k := 10) (show z2.natAbs < 1024 by omega) (by decide)
    have h2 : ((if decide (0 < z1) = true then 1 else 0 : Int)).natAbs.log2 < 10 := by split <;> decide
    omega)
  have hi : btD "int" [.bl (decide (0 < z1))] = some (.int (if decide (0 < z1) = true then 1 else 0)) := rfl
  have el : ([D.str w, .int z1, .int x.b] : List D).length ≤ sizeLine := by show 3 ≤ sizeLine; decide
  have ex : D.tup [.str w, .int z1, .int x.b] = hD x := rfl
  refine ⟨⟨[.sh (.ref 0), .sh (.lst (ws.map .str)), .ow (done.map hD ++ [hD x]), .sh (.str w), .sh (.int z1)], sto2⟩, ?_, done ++ [x], .sh (.str w), .sh (.int z1), sto2, ?_, ?_, ?_, ?_⟩
  · unfold stepF
    simp only [asg_nm, List.length_cons, List.length_nil, Nat.reduceAdd, Nat.reduceLT, if_true, List.set_cons_zero, List.set_cons_succ]
    have c1 : evE gl (calls tbl gl (k + 1)) (.call 9 none (.cons (.var 0) (.cons (.cst (.int 3)) .nil)) .nil) ⟨[.sh (.ref 0), .sh (.lst (ws.map .str)), .ow (done.map hD), .sh (.str w), e4], sto⟩ = .ok (.int z1) ⟨[.sh (.ref 0), .sh (.lst (ws.map .str)), .ow (done.map hD), .sh (.str w), e4], sto1⟩ :=
      ev_call (ev_cons (ev_var rfl) (ev_cons ev_cst ev_nil)) t1
    refine ev_asg (s2 := ⟨[.sh (.ref 0), .sh (.lst (ws.map .str)), .ow (done.map hD), .sh (.str w), .sh (.int z1)], sto1⟩) c1 rfl ?_
    have c2 : evE gl (calls tbl gl (k + 1)) (.call 9 none (.cons (.var 0) (.cons (.cst (.int 40)) .nil)) .nil) ⟨[.sh (.ref 0), .sh (.lst (ws.map .str)), .ow (done.map hD), .sh (.str w), .sh (.int z1)], sto1⟩ = .ok (.int z2) ⟨[.sh (.ref 0), .sh (.lst (ws.map .str)), .ow (done.map hD), .sh (.str w), .sh (.int z1)], sto2⟩ :=
      ev_call (ev_cons (ev_var rfl) (ev_cons ev_cst ev_nil)) t2
    have c3 : evE gl (calls tbl gl (k + 1)) (.prim (.bt "int") (.cons (.e (.prim (.cmp .Gt) (.cons (.b 4) (.cons (.e (.cst (.int 0))) .nil)))) .nil)) ⟨[.sh (.ref 0), .sh (.lst (ws.map .str)), .ow (done.map hD), .sh (.str w), .sh (.int z1)], sto2⟩ = .ok (.int (if decide (0 < z1) = true then 1 else 0)) ⟨[.sh (.ref 0), .sh (.lst (ws.map .str)), .ow (done.map hD), .sh (.str w), .sh (.int z1)], sto2⟩ := by
      refine ev_prim1 (d := .bl (decide (0 < z1))) ?_ hi
      simp only [evE, evOs, evO, R.bind_ok, ofO_some, pd_d, pd_p, pdAll_nil, pdAll_cons, run_cmp, gt_int, Cst.d, List.getElem?_cons_zero, List.getElem?_cons_succ, Option.bind_some, Option.map_some, rdSl]
    have c4 := ev_prim2 (p := .bin .Mult) c2 c3 ml
    have c5 := ev_cons (ev_var (gl := gl) (c := calls tbl gl (k + 1)) (i := 3) (d := .str w) (s := ⟨[.sh (.ref 0), .sh (.lst (ws.map .str)), .ow (done.map hD), .sh (.str w), .sh (.int z1)], sto1⟩) rfl) (ev_cons (ev_var (i := 4) rfl) (ev_cons c4 ev_nil))
    rw [evSs, evS, evE]
    simp only [List.getElem?_cons_zero, List.getElem?_cons_succ]
    rw [evEs, evE, c5, R.bind_ok, if_pos el, ex]
    simp only [R.bind_ok, evEs, List.getElem?_cons_zero, List.getElem?_cons_succ, em, S.setSl, List.set_cons_zero, List.set_cons_succ, evSs]
  · rw [List.map_append]; rfl
  · rw [List.map_append, List.map_append, List.append_assoc]; exact hw
  · intro h hm
    rcases List.mem_append.mp hm with hm | hm
    · exact hb h hm
    · rw [List.mem_singleton.mp hm]
      exact ⟨p1, p2, hx.1, hx.2⟩
  · exact T2.mono (by rw [List.length_append]; simp; omega)
theorem map_str : ∀ {l m : List PySem.Str}, l.map D.str = m.map D.str → l = m
  | [], [], _ => rfl
  | [], _ :: _, h => by simp at h
  | _ :: _, [], h => by simp at h
  | a :: l, b :: m, h => by
    rw [List.map_cons, List.map_cons] at h
    injection h with h1 h2
    injection h1 with h1
    rw [h1, map_str h2]
theorem news_ok (k : Nat) {ws : List PySem.Str} {C : Int} (hl : ws.length ≤ 4) (hC : C < 900000) {sto : List SO} (hTap : TapOk C sto) : ∃ (l : List Hr) (sto' : List SO), l.map (·.w) = ws ∧ (∀ h ∈ l, 0 ≤ h.a ∧ h.a < 3 ∧ 0 ≤ h.b ∧ h.b < 40) ∧ TapOk (C + 8) sto' ∧ calls tbl gl (k + 2) 11 [.ref 0, .lst (ws.map .str)] sto = .ok (hT l) sto' := by
  obtain ⟨s', e, done, e3, e4, sto', rfl, h1, h2, h3⟩ := loopF_inv (f := stepF gl (calls tbl gl (k + 1)) (.nm 3) newsB) (P := NewsP ws C) (ws.map D.str) ⟨[.sh (.ref 0), .sh (.lst (ws.map .str)), .ow [], .no, .no], sto⟩ ⟨[], .no, .no, sto, rfl, rfl, (fun _ z => absurd z List.not_mem_nil), by simpa using hTap⟩ (fun d ds s h => news_step k hl hC d ds s h)
  rw [List.append_nil] at h1
  have h1 := map_str h1
  have hd : done.length = ws.length := by rw [← h1, List.length_map]
  refine ⟨done, sto', h1, h2, h3.mono (by omega), ?_⟩
  have hi : evIt gl (calls tbl gl (k + 1)) (.seq (.var 1)) ⟨[.sh (.ref 0), .sh (.lst (ws.map .str)), .ow [], .no, .no], sto⟩ = .ok (ws.map D.str) ⟨[.sh (.ref 0), .sh (.lst (ws.map .str)), .ow [], .no, .no], sto⟩ := by
    simp only [evIt, evE, R.bind_ok, List.getElem?_cons_zero, List.getElem?_cons_succ, itemsOf, ofO_some]
  have hr : evE gl (calls tbl gl (k + 1)) (.prim (.bt "tuple") (.cons (.b 2) .nil)) ⟨[.sh (.ref 0), .sh (.lst (ws.map .str)), .ow (done.map hD), e3, e4], sto'⟩ = .ok (hT done) ⟨[.sh (.ref 0), .sh (.lst (ws.map .str)), .ow (done.map hD), e3, e4], sto'⟩ := by
    have hb : btD "tuple" [.lst (done.map hD)] = some (hT done) := rfl
    simp only [evE, evOs, evO, R.bind_ok, ofO_some, pd_d, pd_p, pdAll_nil, pdAll_cons, run_bt, hb, List.getElem?_cons_zero, List.getElem?_cons_succ, Option.bind_some, Option.map_some, rdSl]
  have r := ev_own (gl := gl) (c := calls tbl gl (k + 1)) (i := 2) (x := .lst .nil) (l := []) (s := ⟨[.sh (.ref 0), .sh (.lst (ws.map .str)), .no, .no, .no], sto⟩) (by rw [evE, evEs]; rfl) (by show 2 < 5; decide) (ev_fr (t := .nm 3) (b := newsB) hi e (ev_ret (r := []) hr))
  exact run_ret (f := f11) (n := 11) (tb := tbl) (ds := [.ref 0, .lst (ws.map .str)]) rfl rfl r
/-! ### the greater, as an operation -/
theorem mx_comm {x y : Hr} (e : x.w = y.w) : mx y x = mx x y := by
  obtain ⟨w, a, b⟩ := x
  obtain ⟨w', a', b'⟩ := y
  cases e
  unfold mx
  dsimp only
  split <;> split <;> first
    | rfl
    | (exfalso; omega)
    | (have h1 : a = a' := by omega
       have h2 : b = b' := by omega
       rw [h1, h2])
theorem mx_idem {x : Hr} : mx x x = x := by unfold mx; split <;> rfl
theorem mx_abs {x y : Hr} : mx (mx x y) x = mx x y := by
  unfold mx
  split
  · rw [if_neg (by omega)]
  · split <;> rfl
theorem mx_assoc {x y z : Hr} (e : x.w = y.w) (e2 : x.w = z.w) : mx (mx x y) z = mx x (mx z y) := by
  obtain ⟨w, a, b⟩ := x
  obtain ⟨w', a', b'⟩ := y
  obtain ⟨w2, a2, b2⟩ := z
  cases e; cases e2
  have h : ∀ p q : Hr, mx p q = if p.a < q.a ∨ (p.a = q.a ∧ p.b < q.b) then q else p := fun _ _ => rfl
  by_cases h1 : a < a' ∨ (a = a' ∧ b < b')
  · by_cases h2 : a2 < a' ∨ (a2 = a' ∧ b2 < b')
    · have h3 : ¬ (a' < a2 ∨ (a' = a2 ∧ b' < b2)) := by omega
      simp only [h, h1, h2, h3, if_true, if_false]
    · by_cases h3 : a' < a2 ∨ (a' = a2 ∧ b' < b2)
      · have h4 : a < a2 ∨ (a = a2 ∧ b < b2) := by omega
        simp only [h, h1, h2, h3, h4, if_true, if_false]
      · have h5 : a' = a2 := by omega
        have h6 : b' = b2 := by omega
        subst h5 h6
        have e : mx ⟨w, a, b⟩ ⟨w, a', b'⟩ = ⟨w, a', b'⟩ := if_pos h1
        rw [mx_idem, e, mx_idem]
  · by_cases h2 : a2 < a' ∨ (a2 = a' ∧ b2 < b')
    · have h3 : ¬ (a < a2 ∨ (a = a2 ∧ b < b2)) := by omega
      simp only [h, h1, h2, h3, if_true, if_false]
    · simp only [h, h1, h2, if_false]
theorem mxs_comm : ∀ {l m : List Hr}, Al l m → mxs m l = mxs l m
  | [], [], _ => rfl
  | [], _ :: _, _ => rfl
  | _ :: _, [], _ => rfl
  | x :: l, y :: m, h => by
    obtain ⟨h1, _, h3⟩ := h.inv
    unfold mxs at *
    rw [List.zipWith_cons_cons, List.zipWith_cons_cons, mx_comm h1]
    exact congrArg _ (mxs_comm h3)
theorem mxs_idem : ∀ {l : List Hr}, mxs l l = l
  | [] => rfl
  | x :: l => by
    unfold mxs
    rw [List.zipWith_cons_cons, mx_idem]
    exact congrArg _ (mxs_idem (l := l))
theorem mxs_abs : ∀ {l m : List Hr}, Al l m → mxs (mxs l m) l = mxs l m
  | [], m, _ => by cases m <;> rfl
  | _ :: _, [], h => by have := h.len; simp at this
  | x :: l, y :: m, h => by
    obtain ⟨_, _, h3⟩ := h.inv
    unfold mxs
    rw [List.zipWith_cons_cons, List.zipWith_cons_cons, mx_abs]
    exact congrArg _ (mxs_abs h3)
theorem mxs_assoc : ∀ {l m n : List Hr}, Al l m → Al l n → mxs (mxs l m) n = mxs l (mxs n m)
  | [], m, n, h, h' => by
    have e1 := h.len; have e2 := h'.len
    cases m with
    | nil => cases n with
      | nil => rfl
      | cons _ _ => simp at e2
    | cons _ _ => simp at e1
  | _ :: _, [], _, h, _ => by have := h.len; simp at this
  | _ :: _, _ :: _, [], _, h => by have := h.len; simp at this
  | x :: l, y :: m, z :: n, h, h' => by
    obtain ⟨h1, _, h3⟩ := h.inv
    obtain ⟨h4, _, h5⟩ := h'.inv
    unfold mxs
    simp only [List.zipWith_cons_cons]
    rw [mx_assoc h1 h4]
    exact congrArg _ (mxs_assoc h3 h5)
theorem mxs_w : ∀ {l m : List Hr}, Al l m → (mxs l m).map (·.w) = l.map (·.w)
  | [], m, _ => by cases m <;> rfl
  | _ :: _, [], h => by have := h.len; simp at this
  | x :: l, y :: m, h => by
    obtain ⟨h1, _, h3⟩ := h.inv
    unfold mxs
    rw [List.zipWith_cons_cons, List.map_cons, List.map_cons, mx_w h1]
    exact congrArg _ (mxs_w h3)
theorem mxs_mem {l m : List Hr} {h : Hr} (hm : h ∈ mxs l m) : ∃ x ∈ l, ∃ y ∈ m, h = x ∨ h = y := by
  induction l generalizing m with
  | nil => cases m <;> simp [mxs] at hm
  | cons x l ih =>
    cases m with
    | nil => simp [mxs] at hm
    | cons y m =>
      unfold mxs at hm ih
      rw [List.zipWith_cons_cons] at hm
      rcases List.mem_cons.mp hm with e | hm
      · refine ⟨x, List.mem_cons_self, y, List.mem_cons_self, ?_⟩
        rw [e]; unfold mx; split
        · exact .inr rfl
        · exact .inl rfl
      · obtain ⟨x', h1, y', h2, h3⟩ := ih hm
        exact ⟨x', List.mem_cons_of_mem _ h1, y', List.mem_cons_of_mem _ h2, h3⟩
/-- hearings of the names ws -/
structure Of (ws : List PySem.Str) (l : List Hr) : Prop where
  g : Good l
  w : l.map (·.w) = ws
  a9 : ∀ h ∈ l, h.a < 2000000000
  b9 : ∀ h ∈ l, h.b < 20000
theorem Of.al {ws : List PySem.Str} {l m : List Hr} (h : Of ws l) (h' : Of ws m) : Al l m := ⟨h.w.trans h'.w.symm, h.g.pl⟩
theorem Of.mxs {ws : List PySem.Str} {l m : List Hr} (h : Of ws l) (h' : Of ws m) : Of ws (mxs l m) := by
  have A := h.al h'
  have e := mxs_w A
  have el := congrArg List.length e
  simp only [List.length_map] at el
  have mem := fun (p : Hr) (q : p ∈ K08.mxs l m) => mxs_mem q
  refine ⟨⟨fun z => h.g.ne ?_, by rw [el]; exact h.g.len, fun p q => ?_, by rw [e]; exact h.g.up, fun p q => ?_, fun p q => ?_⟩, e.trans h.w, fun p q => ?_, fun p q => ?_⟩
  · rw [z] at el
    exact List.length_eq_zero_iff.mp el.symm
  all_goals
    obtain ⟨x, h1, y, h2, h3⟩ := mem p q
    rcases h3 with rfl | rfl
  · exact h.g.pl _ h1
  · exact h'.g.pl _ h2
  · exact h.g.a0 _ h1
  · exact h'.g.a0 _ h2
  · exact h.g.b0 _ h1
  · exact h'.g.b0 _ h2
  · exact h.a9 _ h1
  · exact h'.a9 _ h2
  · exact h.b9 _ h1
  · exact h'.b9 _ h2
/-! ### repr is told -/
theorem repr_ok {d : D} {p : PyData} (h1 : toPy d = some p) (h2 : dok d = true) (h3 : dep d ≤ 64) (h4 : p.showable = true) (h5 : p.weight ≤ 2 ^ 20) (h6 : p.intsShort 13 = true) : shw d = some p.shown := by
  have hl : PyData.layable0 p = true := by
    unfold PyData.layable0
    obtain ⟨p', g1, g2⟩ := dok_py h2
    rw [h1] at g1; cases g1
    rw [g2, decide_eq_true h5, Bool.true_and, Bool.and_true]
    exact decide_eq_true (by rw [dep_py h1]; exact h3)
  have hs := PyData.shown_le_of_layable0 hl h6
  have sz : sizeLine = 16777216 := by decide
  unfold shw
  rw [h1]
  dsimp only
  rw [h2, decide_eq_true h3, h4, decide_eq_true (show p.shown.length ≤ sizeLine by omega)]
  rfl
def pyH (h : Hr) : PyData := .tuple [.str h.w, .int h.a, .int h.b]
theorem py_hD (h : Hr) : toPy (hD h) = some (pyH h) := by
  simp [hD, toPy, toPyL, pyH]
theorem py_hDs : ∀ l : List Hr, toPyL (l.map hD) = some (l.map pyH)
  | [] => by simp [toPyL]
  | h :: l => by rw [List.map_cons, toPyL, py_hD, py_hDs l, List.map_cons]
theorem int_b {a : Int} (h0 : 0 ≤ a) (h : a < 2000000000) : PyData.intsShort 13 (.int a) = true ∧ PyData.showable (.int a) = true ∧ PyData.weight (.int a) ≤ 40 := by
  have l := log2_lt (k := 31) (show a.natAbs < 2 ^ 31 by omega) (by decide)
  refine ⟨decide_eq_true (Nat.le_trans (PyProof.Rows.toString_length_le h0 (k := 10) (by decide) (by omega)) (by decide)), decide_eq_true (by omega), ?_⟩
  show (if a == 0 then 0 else a.natAbs.log2 + 1) ≤ 40
  split <;> omega
theorem pool_sz : ∀ w ∈ pool, w.cps.size ≤ 8 := by decide +kernel
theorem pyH_b {h : Hr} (hw : h.w ∈ pool) (h1 : 0 ≤ h.a) (h2 : h.a < 2000000000) (h3 : 0 ≤ h.b) (h4 : h.b < 20000) : PyData.intsShort 13 (pyH h) = true ∧ PyData.showable (pyH h) = true ∧ PyData.weight (pyH h) ≤ 100 := by
  obtain ⟨a1, a2, a3⟩ := int_b h1 h2
  obtain ⟨b1, b2, b3⟩ := int_b h3 (show h.b < 2000000000 by omega)
  have s := pool_sz _ hw
  refine ⟨?_, ?_, ?_⟩
  · simp only [pyH, PyData.intsShort, PyData.intsShortAll] at *
    simp only [a1, b1, Bool.and_self]
  · simp only [pyH, PyData.showable, PyData.showableAll] at *
    simp only [a2, b2, Bool.and_self]
  · simp only [pyH, PyData.weight, PyData.weightAll] at *
    omega
theorem pys_b : ∀ {l : List Hr}, (∀ h ∈ l, h.w ∈ pool ∧ 0 ≤ h.a ∧ h.a < 2000000000 ∧ 0 ≤ h.b ∧ h.b < 20000) → PyData.intsShortAll 13 (l.map pyH) = true ∧ PyData.showableAll (l.map pyH) = true ∧ PyData.weightAll (l.map pyH) ≤ 101 * l.length
  | [], _ => ⟨rfl, rfl, Nat.le_refl _⟩
  | h :: l, hh => by
    obtain ⟨h1, h2, h3, h4, h5⟩ := hh h List.mem_cons_self
    obtain ⟨a1, a2, a3⟩ := pyH_b h1 h2 h3 h4 h5
    obtain ⟨b1, b2, b3⟩ := pys_b fun z hz => hh z (List.mem_cons_of_mem _ hz)
    rw [List.map_cons]
    refine ⟨by rw [PyData.intsShortAll, a1, b1]; rfl, by rw [PyData.showableAll, a2, b2]; rfl, ?_⟩
    rw [PyData.weightAll, List.length_cons]
    omega
theorem Of.py {ws : List PySem.Str} {l : List Hr} (h : Of ws l) : toPy (hT l) = some (.tuple (l.map pyH)) ∧ dok (hT l) = true ∧ dep (hT l) ≤ 2 ∧ PyData.intsShort 13 (.tuple (l.map pyH)) = true ∧ PyData.showable (.tuple (l.map pyH)) = true ∧ PyData.weight (.tuple (l.map pyH)) ≤ 404 := by
  obtain ⟨a1, a2, a3⟩ := pys_b (l := l) fun z hz => ⟨h.g.pl z hz, h.g.a0 z hz, h.a9 z hz, h.g.b0 z hz, h.b9 z hz⟩
  have hl := h.g.len
  have dk : ∀ l : List Hr, (∀ z ∈ l, z.w ∈ pool) → dokL (l.map hD) = true ∧ depL (l.map hD) ≤ 1 := fun l => by
    induction l with
    | nil => exact fun _ => ⟨rfl, Nat.zero_le _⟩
    | cons x l ih =>
      intro hp
      obtain ⟨i1, i2⟩ := ih fun z hz => hp z (List.mem_cons_of_mem _ hz)
      have e := hD_eok (hp x List.mem_cons_self)
      unfold eok at e
      obtain ⟨e1, _⟩ := band e
      have e2 : dep (hD x) = 1 := by simp [hD, dep, depL]
      rw [List.map_cons, dokL, depL, e1, i1, e2]
      exact ⟨rfl, by omega⟩
  obtain ⟨d1, d2⟩ := dk l h.g.pl
  refine ⟨by simp [hT, toPy, py_hDs], by simp [hT, dok, d1], by simp only [hT, dep]; omega, by simp [PyData.intsShort, a1], by simp [PyData.showable, a2], by simp only [PyData.weight]; omega⟩
theorem repr_hT {ws : List PySem.Str} {l : List Hr} (h : Of ws l) : ∃ x, bfD "repr" [hT l] = some (.str x) := by
  obtain ⟨h1, h2, h3, h4, h5, h6⟩ := h.py
  have e := repr_ok h1 h2 (by omega) h5 (by omega) h4
  exact ⟨_, by show (shw (hT l)).map D.str = _; rw [e]; rfl⟩
theorem repr_three {ws : List PySem.Str} {l m n : List Hr} (h : Of ws l) (h' : Of ws m) (h2' : Of ws n) : ∃ x, bfD "repr" [.tup [hT l, hT m, hT n]] = some (.str x) := by
  obtain ⟨h1, h2, h3, h4, h5, h6⟩ := h.py
  obtain ⟨g1, g2, g3, g4, g5, g6⟩ := h'.py
  obtain ⟨k1, k2, k3, k4, k5, k6⟩ := h2'.py
  have e1 : toPy (.tup [hT l, hT m, hT n]) = some (.tuple [.tuple (l.map pyH), .tuple (m.map pyH), .tuple (n.map pyH)]) := by
    simp [toPy, toPyL, h1, g1, k1]
  have e := repr_ok e1 (by simp [dok, dokL, h2, g2, k2]) (by simp only [dep, depL]; omega) (by simp [PyData.showable, PyData.showableAll] at *; exact ⟨h5, g5, k5⟩) (by simp only [PyData.weight, PyData.weightAll] at *; omega) (by simp [PyData.intsShort, PyData.intsShortAll] at *; exact ⟨h4, g4, k4⟩)
  exact ⟨_, by show (shw _).map D.str = _; rw [e]; rfl⟩
/-! ### the law's inner turn -/
def innerB : List Sm := [.asg (.nm 16) (.call 1 none (.cons (.var 14) (.cons (.var 15) .nil)) .nil),
    .ite (.or (.cons (.cmp .NotEq (.e (.prim (.bf "repr") (.cons (.b 16) .nil))) (.e (.prim (.bf "repr") (.cons (.e (.call 12 none (.cons (.var 14) (.cons (.var 15) .nil)) .nil)) .nil)))) (.cons (.cmp .IsNot (.e (.call 7 none (.cons (.var 16) .nil) .nil)) (.e (.cst (.bl true)))) .nil))) [.ret (.cst (.bl false))] [],
    .ite (.cmp .NotEq (.e (.lst (.cons (.call 1 none (.cons (.var 15) (.cons (.var 14) .nil)) .nil) (.cons (.call 1 none (.cons (.var 16) (.cons (.var 14) .nil)) .nil) (.cons (.call 1 none (.cons (.var 16) (.cons (.var 16) .nil)) .nil) .nil))))) (.e (.prim (.bin .Mult) (.cons (.e (.lst (.cons (.var 16) .nil))) (.cons (.e (.cst (.int 3))) .nil))))) [.ret (.cst (.bl false))] [],
    .ite (.cmp .NotEq (.e (.call 1 none (.cons (.var 16) (.cons (.var 6) .nil)) .nil)) (.e (.call 1 none (.cons (.var 14) (.cons (.call 1 none (.cons (.var 6) (.cons (.var 15) .nil)) .nil) .nil)) .nil))) [.ret (.cst (.bl false))] []]
theorem Of.heard {ws : List PySem.Str} {l m : List Hr} (h : Of ws l) (h' : Of ws m) (sto : List SO) : calls tbl gl 7 1 [hT l, hT m] sto = .ok (hT (K08.mxs l m)) sto := heard_ok 5 (h.al h') h.g.len sto
theorem ne_tup {l : List D} (h : dok (.tup l) = true) (h2 : dep (.tup l) ≤ 64) : cmpD .NotEq (.tup l) (.tup l) = some false := by
  have e : eok (.tup l) = true := by unfold eok; rw [h, decide_eq_true h2]; rfl
  have r := deq_refl h
  show (if (eok (.tup l) && eok (.tup l)) = true then some (!deq (.tup l) (.tup l)) else none) = some false
  rw [e, r]; rfl
theorem ne_lst {l : List D} (h : dok (.lst l) = true) (h2 : dep (.lst l) ≤ 64) : cmpD .NotEq (.lst l) (.lst l) = some false := by
  have e : eok (.lst l) = true := by unfold eok; rw [h, decide_eq_true h2]; rfl
  have r := deq_refl h
  show (if (eok (.lst l) && eok (.lst l)) = true then some (!deq (.lst l) (.lst l)) else none) = some false
  rw [e, r]; rfl
theorem inner_ok {ws : List PySem.Str} {a b c : List Hr} (ha : Of ws a) (hb : Of ws b) (hc : Of ws c) (q0 q1 q2 q3 q4 q5 q7 q8 q9 q10 q11 q12 q13 q16 : Sl) (sto : List SO) :
    evSs gl (calls tbl gl 7) innerB ⟨[q0, q1, q2, q3, q4, q5, .sh (hT c), q7, q8, q9, q10, q11, q12, q13, .sh (hT a), .sh (hT b), q16], sto⟩ = .ok .nx ⟨[q0, q1, q2, q3, q4, q5, .sh (hT c), q7, q8, q9, q10, q11, q12, q13, .sh (hT a), .sh (hT b), .sh (hT (mxs a b))], sto⟩ := by
  have hm := ha.mxs hb
  have t1 := ha.heard hb sto
  have t2 : calls tbl gl 7 12 [hT a, hT b] sto = .ok (hT (mxs a b)) sto := greater_ok 6 (ha.al hb) ha.g.len sto
  have t3 : calls tbl gl 7 7 [hT (mxs a b)] sto = .ok (.bl true) sto := heardB_ok 2 hm.g sto
  have t4 := hb.heard ha sto
  rw [mxs_comm (ha.al hb)] at t4
  have t5 := hm.heard ha sto
  rw [mxs_abs (ha.al hb)] at t5
  have t6 := hm.heard hm sto
  rw [mxs_idem] at t6
  have t7 := hm.heard hc sto
  rw [mxs_assoc (ha.al hb) (ha.al hc)] at t7
  have t8 := hc.heard hb sto
  have t9 := ha.heard (hc.mxs hb) sto
  obtain ⟨x, hr⟩ := repr_hT hm
  obtain ⟨p1, p2, p3, _⟩ := hm.py
  obtain ⟨r1, r2, r3, _⟩ := (ha.mxs (hc.mxs hb)).py
  have n1 : cmpD .NotEq (.str x) (.str x) = some false := by show some (!decide (x = x)) = _; simp
  have n2 : cmpD .IsNot (.bl true) (.bl true) = some false := rfl
  have n3 : cmpD .NotEq (.lst [hT (mxs a b), hT (mxs a b), hT (mxs a b)]) (.lst [hT (mxs a b), hT (mxs a b), hT (mxs a b)]) = some false := ne_lst (by simp [dok, dokL, p2]) (by simp only [dep, depL]; omega)
  have n4 : cmpD .NotEq (hT (mxs a (mxs c b))) (hT (mxs a (mxs c b))) = some false := ne_tup r2 (Nat.le_trans r3 (by decide))
  have m3 : binD .Mult (.lst [hT (mxs a b)]) (.int 3) = some (.lst [hT (mxs a b), hT (mxs a b), hT (mxs a b)]) := rfl
  have s1 : 1 ≤ sizeLine := by decide
  have s3 : 3 ≤ sizeLine := by decide
  simp only [innerB, evSs, evS, evE, evEs, evT, evTo, evOs, evO, R.bind_ok, ofO_some, pd_d, pd_p, pdAll_nil, pdAll_cons, run_bf, run_bin, asg_nm, Cst.d, List.getElem?_cons_zero, List.getElem?_cons_succ, Option.bind_some, Option.map_some, rdSl, List.append_nil, List.length_cons, List.length_nil, Nat.reduceAdd, Nat.reduceLT, if_true, List.set_cons_zero, List.set_cons_succ, t1, t2, t3, t4, t5, t6, t7, t8, t9, rc_ok, hr, n1, n2, n3, n4, m3, s1, s3, Bool.false_eq_true, if_false]
/-! ### the two loops -/
def five : Iw := .seq (.tup (.cons (.var 4) (.cons (.var 5) (.cons (.var 6) (.cons (.var 8) (.cons (.var 12) .nil))))))
def IsOf (ws : List PySem.Str) (d : D) : Prop := ∃ b, Of ws b ∧ d = hT b
section
variable {ws : List PySem.Str} {l1 l2 l3 l4 l5 : List Hr} (h1 : Of ws l1) (h2 : Of ws l2) (h3 : Of ws l3) (h4 : Of ws l4) (h5 : Of ws l5) (q0 q1 q2 q3 q7 q9 q10 q11 q13 : Sl) (sto : List SO)
def st5 (l1 l2 l3 l4 l5 : List Hr) (q0 q1 q2 q3 q7 q9 q10 q11 q13 : Sl) (sto : List SO) (e14 e15 e16 : Sl) : S := ⟨[q0, q1, q2, q3, .sh (hT l1), .sh (hT l2), .sh (hT l3), q7, .sh (hT l4), q9, q10, q11, .sh (hT l5), q13, e14, e15, e16], sto⟩
theorem five_it (e14 e15 e16 : Sl) : evIt gl (calls tbl gl 7) five (st5 l1 l2 l3 l4 l5 q0 q1 q2 q3 q7 q9 q10 q11 q13 sto e14 e15 e16) = .ok [hT l1, hT l2, hT l3, hT l4, hT l5] (st5 l1 l2 l3 l4 l5 q0 q1 q2 q3 q7 q9 q10 q11 q13 sto e14 e15 e16) := by
  have s5 : ([hT l1, hT l2, hT l3, hT l4, hT l5] : List D).length ≤ sizeLine := by show 5 ≤ sizeLine; decide
  have e := ev_cons (gl := gl) (c := calls tbl gl 7) (ev_var (i := 4) (d := hT l1) (s := st5 l1 l2 l3 l4 l5 q0 q1 q2 q3 q7 q9 q10 q11 q13 sto e14 e15 e16) rfl) (ev_cons (ev_var (i := 5) (d := hT l2) rfl) (ev_cons (ev_var (i := 6) (d := hT l3) rfl) (ev_cons (ev_var (i := 8) (d := hT l4) rfl) (ev_cons (ev_var (i := 12) (d := hT l5) rfl) ev_nil))))
  unfold five
  rw [evIt, evE, e, R.bind_ok, if_pos s5]
  rfl
include h1 h2 h3 h4 h5 in
theorem five_of : ∀ d ∈ [hT l1, hT l2, hT l3, hT l4, hT l5], IsOf ws d := by
  intro d hd
  simp only [List.mem_cons, List.not_mem_nil, or_false] at hd
  rcases hd with rfl | rfl | rfl | rfl | rfl
  · exact ⟨_, h1, rfl⟩
  · exact ⟨_, h2, rfl⟩
  · exact ⟨_, h3, rfl⟩
  · exact ⟨_, h4, rfl⟩
  · exact ⟨_, h5, rfl⟩
include h1 h2 h3 h4 h5 in
theorem loop_b {a : List Hr} (ha : Of ws a) (e15 e16 : Sl) : ∃ f15 f16, evSs gl (calls tbl gl 7) [.fr (.nm 15) five innerB] (st5 l1 l2 l3 l4 l5 q0 q1 q2 q3 q7 q9 q10 q11 q13 sto (.sh (hT a)) e15 e16) = .ok .nx (st5 l1 l2 l3 l4 l5 q0 q1 q2 q3 q7 q9 q10 q11 q13 sto (.sh (hT a)) f15 f16) := by
  obtain ⟨s', e, f15, f16, rfl, _⟩ := loopF_inv (f := stepF gl (calls tbl gl 7) (.nm 15) innerB) (P := fun rest s => ∃ e15 e16, s = st5 l1 l2 l3 l4 l5 q0 q1 q2 q3 q7 q9 q10 q11 q13 sto (.sh (hT a)) e15 e16 ∧ ∀ d ∈ rest, IsOf ws d) [hT l1, hT l2, hT l3, hT l4, hT l5] _ ⟨e15, e16, rfl, five_of h1 h2 h3 h4 h5⟩ (by
    rintro d ds s ⟨e15, e16, rfl, hd⟩
    obtain ⟨b, hb, rfl⟩ := hd d List.mem_cons_self
    refine ⟨_, ?_, .sh (hT b), .sh (hT (mxs a b)), rfl, fun z hz => hd z (List.mem_cons_of_mem _ hz)⟩
    exact inner_ok ha hb h3 q0 q1 q2 q3 (.sh (hT l1)) (.sh (hT l2)) q7 (.sh (hT l4)) q9 q10 q11 (.sh (hT l5)) q13 e16 sto)
  exact ⟨f15, f16, ev_fr (five_it q0 q1 q2 q3 q7 q9 q10 q11 q13 sto _ _ _) e (by rw [evSs])⟩
include h1 h2 h3 h4 h5 in
theorem loop_a (r : List Sm) (e14 e15 e16 : Sl) (hr : ∀ f14 f15 f16, evSs gl (calls tbl gl 7) r (st5 l1 l2 l3 l4 l5 q0 q1 q2 q3 q7 q9 q10 q11 q13 sto f14 f15 f16) = .ok .nx (st5 l1 l2 l3 l4 l5 q0 q1 q2 q3 q7 q9 q10 q11 q13 sto f14 f15 f16)) :
    ∃ f14 f15 f16, evSs gl (calls tbl gl 7) (.fr (.nm 14) five [.fr (.nm 15) five innerB] :: r) (st5 l1 l2 l3 l4 l5 q0 q1 q2 q3 q7 q9 q10 q11 q13 sto e14 e15 e16) = .ok .nx (st5 l1 l2 l3 l4 l5 q0 q1 q2 q3 q7 q9 q10 q11 q13 sto f14 f15 f16) := by
  obtain ⟨s', e, f14, f15, f16, rfl, _⟩ := loopF_inv (f := stepF gl (calls tbl gl 7) (.nm 14) [.fr (.nm 15) five innerB]) (P := fun rest s => ∃ e14 e15 e16, s = st5 l1 l2 l3 l4 l5 q0 q1 q2 q3 q7 q9 q10 q11 q13 sto e14 e15 e16 ∧ ∀ d ∈ rest, IsOf ws d) [hT l1, hT l2, hT l3, hT l4, hT l5] _ ⟨e14, e15, e16, rfl, five_of h1 h2 h3 h4 h5⟩ (by
    rintro d ds s ⟨e14, e15, e16, rfl, hd⟩
    obtain ⟨a, ha, rfl⟩ := hd d List.mem_cons_self
    obtain ⟨f15, f16, e⟩ := loop_b h1 h2 h3 h4 h5 q0 q1 q2 q3 q7 q9 q10 q11 q13 sto ha e15 e16
    exact ⟨_, e, .sh (hT a), f15, f16, rfl, fun z hz => hd z (List.mem_cons_of_mem _ hz)⟩)
  exact ⟨f14, f15, f16, ev_fr (five_it q0 q1 q2 q3 q7 q9 q10 q11 q13 sto _ _ _) e (hr f14 f15 f16)⟩
end
/-! ### a turn of the law -/
def late1 (h : Hr) : Hr := ⟨h.w, h.a, h.b + 1⟩
def farL : Nat → List PySem.Str → List Hr
  | _, [] => []
  | n, w :: ws => ⟨w, 10 ^ 9 + (n : Int), 9999 - (n : Int)⟩ :: farL (n + 1) ws
theorem farL_w : ∀ (n : Nat) (ws : List PySem.Str), (farL n ws).map (·.w) = ws
  | _, [] => rfl
  | n, w :: ws => by rw [farL, List.map_cons, farL_w]
theorem farL_b : ∀ (n : Nat) (ws : List PySem.Str), n + ws.length ≤ 100 → ∀ h ∈ farL n ws, 0 ≤ h.a ∧ h.a < 2000000000 ∧ 0 ≤ h.b ∧ h.b < 20000
  | _, [], _, h, hm => by simp [farL] at hm
  | n, w :: ws, hn, h, hm => by
    rw [farL] at hm
    rw [List.length_cons] at hn
    rcases List.mem_cons.mp hm with rfl | hm
    · exact ⟨by show 0 ≤ 10 ^ 9 + (n : Int); omega, by show 10 ^ 9 + (n : Int) < _; omega, by show 0 ≤ 9999 - (n : Int); omega, by show 9999 - (n : Int) < _; omega⟩
    · exact farL_b (n + 1) ws (by omega) h hm
theorem of_mk {ws : List PySem.Str} {l : List Hr} (hs : ws.Sublist pool) (h1 : 1 ≤ ws.length) (h4 : ws.length ≤ 4) (hw : l.map (·.w) = ws) (hb : ∀ h ∈ l, 0 ≤ h.a ∧ h.a < 2000000000 ∧ 0 ≤ h.b ∧ h.b < 20000) : Of ws l := by
  have el : l.length = ws.length := by rw [← hw, List.length_map]
  refine ⟨⟨fun z => by rw [z] at el; simp at el; omega, by omega, fun h hm => hs.subset (by rw [← hw]; exact List.mem_map.mpr ⟨h, hm, rfl⟩), by rw [hw]; exact List.Pairwise.sublist hs pool_rise, fun h hm => (hb h hm).1, fun h hm => (hb h hm).2.2.1⟩, hw, fun h hm => (hb h hm).2.1, fun h hm => (hb h hm).2.2.2⟩
section
variable (e0 e1 e2 e3 e4 e5 e6 e8 e12 e13 e14 e15 e16 : Sl)
def stL (sto : List SO) (e0 e1 e2 e3 e4 e5 e6 e8 e12 e13 e14 e15 e16 : Sl) : S := ⟨[e0, e1, e2, e3, e4, e5, e6, .no, e8, .no, .no, .no, e12, e13, e14, e15, e16], sto⟩
def newsE : E := .comp [7] (.call 11 none (.cons (.var 1) (.cons (.var 3) .nil)) .nil) (.mk (.nm 7) (.range1 (.cst (.int 3))) .nil)
theorem news_turn {ws : List PySem.Str} {C : Int} (hs : ws.Sublist pool) (h1 : 1 ≤ ws.length) (h4 : ws.length ≤ 4) (hC : C < 900000) {sto : List SO} (hTap : TapOk C sto) (d : D) (acc : List D) (ha : acc.length < sizeLine) : ∃ l sto', Of ws l ∧ (∀ h ∈ l, h.b < 40) ∧ TapOk (C + 8) sto' ∧ turnF gl (calls tbl gl 7) [7] (.call 11 none (.cons (.var 1) (.cons (.var 3) .nil)) .nil) (.nm 7) .nil d acc (stL sto e0 (.sh (.ref 0)) e2 (.sh (.lst (ws.map .str))) e4 e5 e6 e8 e12 e13 e14 e15 e16) = .ok (acc ++ [hT l]) (stL sto' e0 (.sh (.ref 0)) e2 (.sh (.lst (ws.map .str))) e4 e5 e6 e8 e12 e13 e14 e15 e16) := by
  obtain ⟨l, sto', w1, b1, T1, t⟩ := news_ok 5 h4 hC hTap
  refine ⟨l, sto', of_mk hs h1 h4 w1 (fun h hm => ⟨(b1 h hm).1, by have := (b1 h hm).2.1; omega, (b1 h hm).2.2.1, by have := (b1 h hm).2.2.2; omega⟩), (fun h hm => (b1 h hm).2.2.2), T1, ?_⟩
  have c1 := ev_call (gl := gl) (c := calls tbl gl 7) (n := 11) (s := ⟨[e0, .sh (.ref 0), e2, .sh (.lst (ws.map .str)), e4, e5, e6, .sh d, e8, .no, .no, .no, e12, e13, e14, e15, e16], sto⟩) (ev_cons (ev_var (i := 1) (d := .ref 0) rfl) (ev_cons (ev_var (i := 3) (d := .lst (ws.map .str)) rfl) ev_nil)) t
  have a1 : asg (.nm 7) d (stL sto e0 (.sh (.ref 0)) e2 (.sh (.lst (ws.map .str))) e4 e5 e6 e8 e12 e13 e14 e15 e16) = some ⟨[e0, .sh (.ref 0), e2, .sh (.lst (ws.map .str)), e4, e5, e6, .sh d, e8, .no, .no, .no, e12, e13, e14, e15, e16], sto⟩ := rfl
  unfold turnF
  rw [a1]
  dsimp only
  rw [evTs, R.bind_ok, if_pos rfl, c1, R.bind_ok, if_pos ha]
  rfl
theorem news3 {ws : List PySem.Str} {C : Int} (hs : ws.Sublist pool) (h1 : 1 ≤ ws.length) (h4 : ws.length ≤ 4) (hC : C < 800000) {sto : List SO} (hTap : TapOk C sto) : ∃ l1 l2 l3 sto', (∀ h ∈ l1, h.b < 40) ∧ Of ws l1 ∧ Of ws l2 ∧ Of ws l3 ∧ TapOk (C + 24) sto' ∧ evE gl (calls tbl gl 7) newsE (stL sto e0 (.sh (.ref 0)) e2 (.sh (.lst (ws.map .str))) e4 e5 e6 e8 e12 e13 e14 e15 e16) = .ok (.lst [hT l1, hT l2, hT l3]) (stL sto' e0 (.sh (.ref 0)) e2 (.sh (.lst (ws.map .str))) e4 e5 e6 e8 e12 e13 e14 e15 e16) := by
  have sz : sizeLine = 16777216 := by decide
  obtain ⟨l1, s1, O1, B1, T1, t1⟩ := news_turn e0 e2 e4 e5 e6 e8 e12 e13 e14 e15 e16 hs h1 h4 (by omega) hTap (.int 0) [] (by rw [sz]; decide)
  obtain ⟨l2, s2, O2, _, T2, t2⟩ := news_turn e0 e2 e4 e5 e6 e8 e12 e13 e14 e15 e16 hs h1 h4 (by omega) T1 (.int 1) ([] ++ [hT l1]) (by rw [sz]; simp)
  obtain ⟨l3, s3, O3, _, T3, t3⟩ := news_turn e0 e2 e4 e5 e6 e8 e12 e13 e14 e15 e16 hs h1 h4 (by omega) T2 (.int 2) (([] ++ [hT l1]) ++ [hT l2]) (by rw [sz]; simp)
  refine ⟨l1, l2, l3, s3, B1, O1, O2, O3, T3.mono (by omega), ?_⟩
  have hi : evIt gl (calls tbl gl 7) (.range1 (.cst (.int 3))) (stL sto e0 (.sh (.ref 0)) e2 (.sh (.lst (ws.map .str))) e4 e5 e6 e8 e12 e13 e14 e15 e16) = .ok [.int 0, .int 1, .int 2] (stL sto e0 (.sh (.ref 0)) e2 (.sh (.lst (ws.map .str))) e4 e5 e6 e8 e12 e13 e14 e15 e16) := by
    rw [evIt, ev_cst, R.bind_ok]; rfl
  unfold newsE
  rw [evComp, hi, R.bind_ok]
  have w0 : (stL sto e0 (.sh (.ref 0)) e2 (.sh (.lst (ws.map .str))) e4 e5 e6 e8 e12 e13 e14 e15 e16).wipe [7] = stL sto e0 (.sh (.ref 0)) e2 (.sh (.lst (ws.map .str))) e4 e5 e6 e8 e12 e13 e14 e15 e16 := rfl
  rw [w0, fold_cons, t1, R.bind_ok, fold_cons, t2, R.bind_ok, fold_cons, t3, R.bind_ok, fold, R.bind_ok]
  rfl
end
def lateE : E := .prim (.bt "tuple") (.cons (.e (.comp [9, 10, 11] (.tup (.cons (.var 9) (.cons (.var 10) (.cons (.prim (.bin .Add) (.cons (.b 11) (.cons (.e (.cst (.int 1))) .nil))) .nil)))) (.mk (.tp (.cons (.nm 9) (.cons (.nm 10) (.cons (.nm 11) .nil)))) (.seq (.var 4)) .nil))) .nil)
def farE : E := .prim (.bt "tuple") (.cons (.e (.comp [7, 9] (.tup (.cons (.var 9) (.cons (.prim (.bin .Add) (.cons (.e (.prim (.bin .Pow) (.cons (.e (.cst (.int 10))) (.cons (.e (.cst (.int 9))) .nil)))) (.cons (.b 7) .nil))) (.cons (.prim (.bin .Sub) (.cons (.e (.cst (.int 9999))) (.cons (.b 7) .nil))) .nil)))) (.mk (.tp (.cons (.nm 7) (.cons (.nm 9) .nil))) (.enum (.var 3)) .nil))) .nil)
def gLate : D → D
  | .tup [w, a, .int b] => .tup [w, a, .int (b + 1)]
  | d => d
def gFar : D → D
  | .tup [.int k, w] => .tup [w, .int (10 ^ 9 + k), .int (9999 - k)]
  | d => d
theorem late_map : ∀ l : List Hr, (l.map hD).map gLate = (l.map late1).map hD
  | [] => rfl
  | h :: l => by rw [List.map_cons, List.map_cons, List.map_cons, List.map_cons, late_map l]; rfl
theorem far_map : ∀ (n : Nat) (ws : List PySem.Str), (enumD n (ws.map D.str)).map gFar = (farL n ws).map hD
  | _, [] => rfl
  | n, w :: ws => by rw [List.map_cons, enumD, List.map_cons, farL, List.map_cons, far_map (n + 1) ws]; rfl
theorem enum_mem : ∀ (n : Nat) (ws : List PySem.Str), ∀ d ∈ enumD n (ws.map D.str), ∃ (k : Nat) (w : PySem.Str), d = .tup [.int k, .str w]
  | _, [], d, hd => by simp [enumD] at hd
  | n, w :: ws, d, hd => by
    rw [List.map_cons, enumD] at hd
    rcases List.mem_cons.mp hd with rfl | hd
    · exact ⟨n, w, rfl⟩
    · exact enum_mem (n + 1) ws d hd
section
variable (e0 e1 e2 e3 e4 e5 e6 e8 e12 e13 e14 e15 e16 : Sl)
theorem late_ev {l : List Hr} (hl : l.length ≤ 4) (sto : List SO) : evE gl (calls tbl gl 7) lateE (stL sto e0 e1 e2 e3 (.sh (hT l)) e5 e6 e8 e12 e13 e14 e15 e16) = .ok (hT (l.map late1)) (stL sto e0 e1 e2 e3 (.sh (hT l)) e5 e6 e8 e12 e13 e14 e15 e16) := by
  have sz : sizeLine = 16777216 := by decide
  have s3 : ∀ a b c : D, [a, b, c].length ≤ sizeLine := fun a b c => by show 3 ≤ sizeLine; decide
  have hi : evIt gl (calls tbl gl 7) (.seq (.var 4)) (stL sto e0 e1 e2 e3 (.sh (hT l)) e5 e6 e8 e12 e13 e14 e15 e16) = .ok (l.map hD) (stL sto e0 e1 e2 e3 (.sh (hT l)) e5 e6 e8 e12 e13 e14 e15 e16) := by
    rw [evIt, ev_var (d := hT l) rfl, R.bind_ok]; rfl
  have q := comp_map (gl := gl) (c := calls tbl gl 7) (vs := [9, 10, 11]) (el := .tup (.cons (.var 9) (.cons (.var 10) (.cons (.prim (.bin .Add) (.cons (.b 11) (.cons (.e (.cst (.int 1))) .nil))) .nil)))) (tg := .tp (.cons (.nm 9) (.cons (.nm 10) (.cons (.nm 11) .nil)))) (g := gLate) hi (by rw [List.length_map]; omega) (fun d hd => by
      obtain ⟨h, hm, rfl⟩ := List.mem_map.mp hd
      refine ⟨⟨[e0, e1, e2, e3, .sh (hT l), e5, e6, .no, e8, .sh (.str h.w), .sh (.int h.a), .sh (.int h.b), e12, e13, e14, e15, e16], sto⟩, ⟨[e0, e1, e2, e3, .sh (hT l), e5, e6, .no, e8, .sh (.str h.w), .sh (.int h.a), .sh (.int h.b), e12, e13, e14, e15, e16], sto⟩, rfl, ?_, rfl⟩
      simp only [evE, evEs, evOs, evO, R.bind_ok, ofO_some, pd_d, pd_p, pdAll_nil, pdAll_cons, run_bin, add_int, Cst.d, List.getElem?_cons_zero, List.getElem?_cons_succ, Option.bind_some, Option.map_some, rdSl, if_pos (s3 _ _ _)]
      rfl)
  rw [late_map] at q
  exact ev_prim1 (p := .bt "tuple") (r := hT (l.map late1)) q rfl
theorem far_ev {ws : List PySem.Str} (hl : ws.length ≤ 4) (sto : List SO) : evE gl (calls tbl gl 7) farE (stL sto e0 e1 e2 (.sh (.lst (ws.map .str))) e4 e5 e6 e8 e12 e13 e14 e15 e16) = .ok (hT (farL 0 ws)) (stL sto e0 e1 e2 (.sh (.lst (ws.map .str))) e4 e5 e6 e8 e12 e13 e14 e15 e16) := by
  have sz : sizeLine = 16777216 := by decide
  have s3 : ∀ a b c : D, [a, b, c].length ≤ sizeLine := fun a b c => by show 3 ≤ sizeLine; decide
  have p9 : binD .Pow (.int 10) (.int 9) = some (.int (10 ^ 9)) := rfl
  have hi : evIt gl (calls tbl gl 7) (.enum (.var 3)) (stL sto e0 e1 e2 (.sh (.lst (ws.map .str))) e4 e5 e6 e8 e12 e13 e14 e15 e16) = .ok (enumD 0 (ws.map .str)) (stL sto e0 e1 e2 (.sh (.lst (ws.map .str))) e4 e5 e6 e8 e12 e13 e14 e15 e16) := by
    rw [evIt, ev_var (d := .lst (ws.map .str)) rfl, R.bind_ok]
  have q := comp_map (gl := gl) (c := calls tbl gl 7) (vs := [7, 9]) (el := .tup (.cons (.var 9) (.cons (.prim (.bin .Add) (.cons (.e (.prim (.bin .Pow) (.cons (.e (.cst (.int 10))) (.cons (.e (.cst (.int 9))) .nil)))) (.cons (.b 7) .nil))) (.cons (.prim (.bin .Sub) (.cons (.e (.cst (.int 9999))) (.cons (.b 7) .nil))) .nil)))) (tg := .tp (.cons (.nm 7) (.cons (.nm 9) .nil))) (g := gFar) hi (by rw [enumD_len, List.length_map]; omega) (fun d hd => by
      obtain ⟨k, w, rfl⟩ := enum_mem 0 ws d hd
      refine ⟨⟨[e0, e1, e2, .sh (.lst (ws.map .str)), e4, e5, e6, .sh (.int k), e8, .sh (.str w), .no, .no, e12, e13, e14, e15, e16], sto⟩, ⟨[e0, e1, e2, .sh (.lst (ws.map .str)), e4, e5, e6, .sh (.int k), e8, .sh (.str w), .no, .no, e12, e13, e14, e15, e16], sto⟩, rfl, ?_, rfl⟩
      simp only [evE, evEs, evOs, evO, R.bind_ok, ofO_some, pd_d, pd_p, pdAll_nil, pdAll_cons, run_bin, add_int, sub_int, p9, Cst.d, List.getElem?_cons_zero, List.getElem?_cons_succ, Option.bind_some, Option.map_some, rdSl, if_pos (s3 _ _ _)]
      rfl)
  rw [far_map] at q
  exact ev_prim1 (p := .bt "tuple") (r := hT (farL 0 ws)) q rfl
end
def three : E := .tup (.cons (.var 4) (.cons (.var 5) (.cons (.var 6) .nil)))
def townsE : E := .call 10 none (.cons (.var 1) (.cons (.prim (.bin .Add) (.cons (.e (.cst (.int 1))) (.cons (.e (.prim (.bin .Mod) (.cons (.b 2) (.cons (.e (.cst (.int 2))) .nil)))) .nil))) .nil)) .nil
def turnB : List Sm := [.asg (.nm 3) townsE, .asg (.tp (.cons (.nm 4) (.cons (.nm 5) (.cons (.nm 6) .nil)))) newsE, .asg (.nm 8) lateE, .asg (.nm 12) farE,
    .asg (.nm 13) (.prim (.bf "repr") (.cons (.e three) .nil)), .fr (.nm 14) five [.fr (.nm 15) five innerB],
    .ite (.cmp .NotEq (.e (.prim (.bf "repr") (.cons (.e three) .nil))) (.b 13)) [.ret (.cst (.bl false))] []]
theorem turn_ok {C : Int} (hC : C < 700000) {sto : List SO} (hTap : TapOk C sto) (t : Nat) (e0 e3 e4 e5 e6 e8 e12 e13 e14 e15 e16 : Sl) : ∃ sto' f3 f4 f5 f6 f8 f12 f13 f14 f15 f16, TapOk (C + 30) sto' ∧ evSs gl (calls tbl gl 7) turnB (stL sto e0 (.sh (.ref 0)) (.sh (.int t)) e3 e4 e5 e6 e8 e12 e13 e14 e15 e16) = .ok .nx (stL sto' e0 (.sh (.ref 0)) (.sh (.int t)) f3 f4 f5 f6 f8 f12 f13 f14 f15 f16) := by
  obtain ⟨ws, s1, u1, u2, u3, T1, r1⟩ := towns_ok (gl := gl) (tbl := tbl) (n := 9) rfl (m := 10) rfl 5 (1 + t % 2) (by omega) (by omega) hTap (by omega)
  obtain ⟨l1, l2, l3, s2, B1, O1, O2, O3, T2, r2⟩ := news3 e0 (.sh (.int t)) e4 e5 e6 e8 e12 e13 e14 e15 e16 u1 u2 u3 (by omega) T1
  have O4 : Of ws (l1.map late1) := by
    refine of_mk u1 u2 u3 (by rw [List.map_map]; exact O1.w) fun h hm => ?_
    obtain ⟨x, hx, rfl⟩ := List.mem_map.mp hm
    have b1 := B1 x hx
    have b2 := O1.g.b0 x hx
    exact ⟨O1.g.a0 x hx, O1.a9 x hx, by show 0 ≤ x.b + 1; omega, by show x.b + 1 < _; omega⟩
  have O5 : Of ws (farL 0 ws) := of_mk u1 u2 u3 (farL_w 0 ws) (farL_b 0 ws (by omega))
  obtain ⟨kept, hk⟩ := repr_three O1 O2 O3
  have s3 : ∀ a b c : D, [a, b, c].length ≤ sizeLine := fun a b c => by show 3 ≤ sizeLine; decide
  -- the towns
  have c1 : evE gl (calls tbl gl 7) townsE (stL sto e0 (.sh (.ref 0)) (.sh (.int t)) e3 e4 e5 e6 e8 e12 e13 e14 e15 e16) = .ok (.lst (ws.map .str)) (stL s1 e0 (.sh (.ref 0)) (.sh (.int t)) e3 e4 e5 e6 e8 e12 e13 e14 e15 e16) := by
    have md : binD .Mod (.int t) (.int 2) = some (.int ((t : Int) % 2)) := mod_int (by decide)
    have ar : evE gl (calls tbl gl 7) (.prim (.bin .Add) (.cons (.e (.cst (.int 1))) (.cons (.e (.prim (.bin .Mod) (.cons (.b 2) (.cons (.e (.cst (.int 2))) .nil)))) .nil))) (stL sto e0 (.sh (.ref 0)) (.sh (.int t)) e3 e4 e5 e6 e8 e12 e13 e14 e15 e16) = .ok (.int ((1 + t % 2 : Nat) : Int)) (stL sto e0 (.sh (.ref 0)) (.sh (.int t)) e3 e4 e5 e6 e8 e12 e13 e14 e15 e16) := by
      have e : (((1 + t % 2 : Nat)) : Int) = 1 + (t : Int) % 2 := by omega
      rw [e]
      simp only [stL, evE, evOs, evO, R.bind_ok, ofO_some, pd_d, pd_p, pdAll_nil, pdAll_cons, run_bin, add_int, md, Cst.d, List.getElem?_cons_zero, List.getElem?_cons_succ, Option.bind_some, Option.map_some, rdSl]
    exact ev_call (ev_cons (ev_var (i := 1) (d := .ref 0) rfl) (ev_cons ar ev_nil)) r1
  have c3 : ∀ (a8 a12 a13 a14 a15 a16 : Sl), evE gl (calls tbl gl 7) (.prim (.bf "repr") (.cons (.e three) .nil)) (stL s2 e0 (.sh (.ref 0)) (.sh (.int t)) (.sh (.lst (ws.map .str))) (.sh (hT l1)) (.sh (hT l2)) (.sh (hT l3)) a8 a12 a13 a14 a15 a16) = .ok (.str kept) (stL s2 e0 (.sh (.ref 0)) (.sh (.int t)) (.sh (.lst (ws.map .str))) (.sh (hT l1)) (.sh (hT l2)) (.sh (hT l3)) a8 a12 a13 a14 a15 a16) := fun a8 a12 a13 a14 a15 a16 => by
    refine ev_prim1 (d := .tup [hT l1, hT l2, hT l3]) ?_ hk
    unfold three
    rw [evE, ev_cons (ev_var (i := 4) (d := hT l1) rfl) (ev_cons (ev_var (i := 5) (d := hT l2) rfl) (ev_cons (ev_var (i := 6) (d := hT l3) rfl) ev_nil)), R.bind_ok, if_pos (s3 _ _ _)]
  have n1 : cmpD .NotEq (.str kept) (.str kept) = some false := by show some (!decide (kept = kept)) = _; simp
  obtain ⟨f14, f15, f16, lp⟩ := loop_a O1 O2 O3 O4 O5 e0 (.sh (.ref 0)) (.sh (.int t)) (.sh (.lst (ws.map .str))) .no .no .no .no (.sh (.str kept)) s2 [.ite (.cmp .NotEq (.e (.prim (.bf "repr") (.cons (.e three) .nil))) (.b 13)) [.ret (.cst (.bl false))] []] e14 e15 e16 (fun f14 f15 f16 => by
    have q := c3 (.sh (hT (l1.map late1))) (.sh (hT (farL 0 ws))) (.sh (.str kept)) f14 f15 f16
    refine ev_iteF (s1 := stL s2 e0 (.sh (.ref 0)) (.sh (.int t)) (.sh (.lst (ws.map .str))) (.sh (hT l1)) (.sh (hT l2)) (.sh (hT l3)) (.sh (hT (l1.map late1))) (.sh (hT (farL 0 ws))) (.sh (.str kept)) f14 f15 f16) ?_ (by rw [evSs]) (by rw [evSs]; rfl)
    rw [evT, evO]
    show R.bind (R.bind (evE gl (calls tbl gl 7) (.prim (.bf "repr") (.cons (.e three) .nil)) (stL s2 e0 (.sh (.ref 0)) (.sh (.int t)) (.sh (.lst (ws.map .str))) (.sh (hT l1)) (.sh (hT l2)) (.sh (hT l3)) (.sh (hT (l1.map late1))) (.sh (hT (farL 0 ws))) (.sh (.str kept)) f14 f15 f16)) _) _ = _
    rw [q]
    simp only [stL, evO, R.bind_ok, ofO_some, pd_d, pd_p, List.getElem?_cons_zero, List.getElem?_cons_succ, Option.bind_some, rdSl, n1])
  refine ⟨s2, .sh (.lst (ws.map .str)), .sh (hT l1), .sh (hT l2), .sh (hT l3), .sh (hT (l1.map late1)), .sh (hT (farL 0 ws)), .sh (.str kept), f14, f15, f16, T2.mono (by omega), ?_⟩
  unfold turnB
  refine ev_asg c1 (s2 := stL s1 e0 (.sh (.ref 0)) (.sh (.int t)) (.sh (.lst (ws.map .str))) e4 e5 e6 e8 e12 e13 e14 e15 e16) rfl ?_
  refine ev_asg r2 (s2 := stL s2 e0 (.sh (.ref 0)) (.sh (.int t)) (.sh (.lst (ws.map .str))) (.sh (hT l1)) (.sh (hT l2)) (.sh (hT l3)) e8 e12 e13 e14 e15 e16) rfl ?_
  refine ev_asg (late_ev e0 (.sh (.ref 0)) (.sh (.int t)) (.sh (.lst (ws.map .str))) (.sh (hT l2)) (.sh (hT l3)) e8 e12 e13 e14 e15 e16 O1.g.len s2) (s2 := stL s2 e0 (.sh (.ref 0)) (.sh (.int t)) (.sh (.lst (ws.map .str))) (.sh (hT l1)) (.sh (hT l2)) (.sh (hT l3)) (.sh (hT (l1.map late1))) e12 e13 e14 e15 e16) rfl ?_
  refine ev_asg (far_ev e0 (.sh (.ref 0)) (.sh (.int t)) (.sh (hT l1)) (.sh (hT l2)) (.sh (hT l3)) (.sh (hT (l1.map late1))) e12 e13 e14 e15 e16 u3 s2) (s2 := stL s2 e0 (.sh (.ref 0)) (.sh (.int t)) (.sh (.lst (ws.map .str))) (.sh (hT l1)) (.sh (hT l2)) (.sh (hT l3)) (.sh (hT (l1.map late1))) (.sh (hT (farL 0 ws))) e13 e14 e15 e16) rfl ?_
  refine ev_asg (c3 _ _ _ _ _ _) (s2 := stL s2 e0 (.sh (.ref 0)) (.sh (.int t)) (.sh (.lst (ws.map .str))) (.sh (hT l1)) (.sh (hT l2)) (.sh (hT l3)) (.sh (hT (l1.map late1))) (.sh (hT (farL 0 ws))) (.sh (.str kept)) e14 e15 e16) rfl ?_
  exact lp

theorem maths (ns : List Int) (hl : ns.length ≤ 63) : ∃ sto, calls tbl gl 8 13 [.kl ns] [] = .ok (.bl true) sto := by
  obtain ⟨s0, t0, T0⟩ := tap_ok (tbl := tbl) (gl := gl) (n := 8) rfl 6 ns hl
  have c0 := ev_call (gl := gl) (c := calls tbl gl 7) (n := 8) (s := ⟨[.sh (.kl ns), .no, .no, .no, .no, .no, .no, .no, .no, .no, .no, .no, .no, .no, .no, .no, .no], []⟩) (ev_cons (ev_var (i := 0) (d := .kl ns) rfl) ev_nil) t0
  obtain ⟨s', e, f2, f3, f4, f5, f6, f8, f12, f13, f14, f15, f16, sto, rfl, _⟩ := loopF_inv (f := stepF gl (calls tbl gl 7) (.nm 2) turnB) (P := fun rest s => ∃ e2 e3 e4 e5 e6 e8 e12 e13 e14 e15 e16 sto, s = stL sto (.sh (.kl ns)) (.sh (.ref 0)) e2 e3 e4 e5 e6 e8 e12 e13 e14 e15 e16 ∧ TapOk (30 * (5 - (rest.length : Int))) sto ∧ rest.length ≤ 5 ∧ ∀ d ∈ rest, ∃ t : Nat, d = .int t)
    [.int 0, .int 1, .int 2, .int 3, .int 4] (stL s0 (.sh (.kl ns)) (.sh (.ref 0)) .no .no .no .no .no .no .no .no .no .no .no) ⟨.no, .no, .no, .no, .no, .no, .no, .no, .no, .no, .no, s0, rfl, T0.mono (by decide), by decide, by
      intro d hd
      simp only [List.mem_cons, List.not_mem_nil, or_false] at hd
      rcases hd with rfl | rfl | rfl | rfl | rfl
      · exact ⟨0, rfl⟩
      · exact ⟨1, rfl⟩
      · exact ⟨2, rfl⟩
      · exact ⟨3, rfl⟩
      · exact ⟨4, rfl⟩⟩ (by
    rintro d ds s ⟨e2, e3, e4, e5, e6, e8, e12, e13, e14, e15, e16, sto, rfl, T, hr, hd⟩
    obtain ⟨t, rfl⟩ := hd d List.mem_cons_self
    rw [List.length_cons] at T hr
    obtain ⟨sto', f3, f4, f5, f6, f8, f12, f13, f14, f15, f16, T', e⟩ := turn_ok (by omega) T t (.sh (.kl ns)) e3 e4 e5 e6 e8 e12 e13 e14 e15 e16
    exact ⟨_, e, .sh (.int t), f3, f4, f5, f6, f8, f12, f13, f14, f15, f16, sto', rfl, T'.mono (by omega), by omega, fun z hz => hd z (List.mem_cons_of_mem _ hz)⟩)
  have hi : evIt gl (calls tbl gl 7) (.range1 (.cst (.int 5))) (stL s0 (.sh (.kl ns)) (.sh (.ref 0)) .no .no .no .no .no .no .no .no .no .no .no) = .ok [.int 0, .int 1, .int 2, .int 3, .int 4] (stL s0 (.sh (.kl ns)) (.sh (.ref 0)) .no .no .no .no .no .no .no .no .no .no .no) := by
    rw [evIt, ev_cst, R.bind_ok]; rfl
  have r := ev_asg (t := .nm 1) (s2 := stL s0 (.sh (.kl ns)) (.sh (.ref 0)) .no .no .no .no .no .no .no .no .no .no .no) c0 rfl (ev_fr (t := .nm 2) (b := turnB) hi e (ev_ret (r := []) (x := .cst (.bl true)) ev_cst))
  exact ⟨_, run_ret (f := K08.f13) (n := 13) (tb := tbl) (ds := [.kl ns]) rfl rfl r⟩

end K08
open PySem PySem.W PyProof.Rows
set_option maxRecDepth 100000 in
set_option maxHeartbeats 0 in
theorem PySem.Challenge.cw_strangerbench_k08_whole_heard_together_holds : PySem.Challenge.rw_strangerbench_k08_whole_heard_together.Holds := by
  w_on; o_law; k_head; (case hw => w_witness2)
  k_fill
  refine Dn.walkG (l := PySem.Challenge.rw_strangerbench_k08_whole_heard_together) (tb := K08.tb) (tbl := K08.tbl) (gl := K08.gl) 8 13 rfl rfl ⟨rfl, by decide, by decide⟩ (fun w h Y => PySem.W.kIn_of Y) K08.maths ?F
  case F =>
    intro w mg fa h KX G hmg
    refine' K08.all_mk KX G hmg ?a0 ?l0 ?c0 ?k0 ?a1 ?l1 ?c1 ?k1 ?a2 ?l2 ?c2 ?k2 ?a3 ?l3 ?c3 ?k3 ?a4 ?l4 ?c4 ?k4 ?a5 ?l5 ?c5 ?k5 ?a6 ?l6 ?c6 ?k6 ?a7 ?l7 ?c7 ?k7 ?a8 ?l8 ?c8 ?k8 ?a9 ?l9 ?c9 ?k9 ?a10 ?l10 ?c10 ?k10 ?a11 ?l11 ?c11 ?k11 ?a12 ?l12 ?c12 ?k12 ?a13 ?l13 ?c13 ?k13 ?z0 ?z1 ?z2 ?z3 ?z4 ?z5 ?z6 ?z7 ?z8 ?z9 ?z10 ?z11 ?z12 ?z13 ?q0 ?q1
    (case a0 => k_is)
    (case l0 => k_is)
    (case c0 => k_is)
    (case k0 => k_is)
    (case a1 => k_is)
    (case l1 => k_is)
    (case c1 => k_is)
    (case k1 => k_is)
    (case a2 => k_is)
    (case l2 => k_is)
    (case c2 => k_is)
    (case k2 => k_is)
    (case a3 => k_is)
    (case l3 => k_is)
    (case c3 => k_is)
    (case k3 => k_is)
    (case a4 => k_is)
    (case l4 => k_is)
    (case c4 => k_is)
    (case k4 => k_is)
    (case a5 => k_is)
    (case l5 => k_is)
    (case c5 => k_is)
    (case k5 => k_is)
    (case a6 => k_is)
    (case l6 => k_is)
    (case c6 => k_is)
    (case k6 => k_is)
    (case a7 => k_is)
    (case l7 => k_is)
    (case c7 => k_is)
    (case k7 => k_is)
    (case a8 => k_is)
    (case l8 => k_is)
    (case c8 => k_is)
    (case k8 => k_is)
    (case a9 => k_is)
    (case l9 => k_is)
    (case c9 => k_is)
    (case k9 => k_is)
    (case a10 => k_is)
    (case l10 => k_is)
    (case c10 => k_is)
    (case k10 => k_is)
    (case a11 => k_is)
    (case l11 => k_is)
    (case c11 => k_is)
    (case k11 => k_is)
    (case a12 => k_is)
    (case l12 => k_is)
    (case c12 => k_is)
    (case k12 => k_is)
    (case a13 => k_is)
    (case l13 => k_is)
    (case c13 => k_is)
    (case k13 => k_is)
    (case z0 => k_is)
    (case z1 => k_is)
    (case z2 => k_is)
    (case z3 => k_is)
    (case z4 => k_is)
    (case z5 => k_is)
    (case z6 => k_is)
    (case z7 => k_is)
    (case z8 => k_is)
    (case z9 => k_is)
    (case z10 => k_is)
    (case z11 => k_is)
    (case z12 => k_is)
    (case z13 => k_is)
    (case q0 => k_is)
    (case q1 => k_is)
