import PyProof.Rows.All
import Wide.All
import OpenK.AllK
import Wide.FinOn
import HandS.ForMost
import HandS.ForExc
import KE.KeyNested
import HandS.Wide
import HandS.Deep
import HandS.IsInst
import HandS.Flow
import HandS.TupAny
import HandS.TupMul
import HandS.Style
import HandS.Zip
import KE.SortData
import HandS.Conv
import HandS.Dict
import HandS.SortRule
import PySem.Challenge.RW_tillscales_k02_whole_tills_deed_by_deed
set_option Elab.async false
set_option linter.all false
set_option maxRecDepth 100000
/-! DA: deep data over HandS: values as trees, a store of own objects, the relation to HandS's heap, the lifting of readings. -/
namespace L2.DL
open PySem PySem.Spec PyProof.Rows

/-- a value as a tree: tuples, frozen lists and dicts hold trees; ob n is the n-th own object of the store -/
inductive D where
  | non | bl (b : Bool) | int (i : Int) | str (x : Str)
  | tup (xs : List D) | lst (xs : List D) | dct (ks vs : List D)
  | ob (n : Nat) | adr (a : Addr) | ty (n : String)

/-- an own object -/
inductive O where
  | lst (xs : List D) | dct (ks vs : List D) | ins (C : Addr) (fs : List (Str × D)) | dead

abbrev Sto := List O
abbrev En := List (Option D)

/-- where the own objects stand, which addresses are frozen -/
structure Wd where
  mu : List Addr
  fz : Addr → Prop

/-- n is an own object that lives, at a -/
def Live (W : Wd) (L : Sto) (n : Nat) (a : Addr) : Prop := W.mu[n]? = some a ∧ ∃ o, L[n]? = some o ∧ o ≠ .dead

/-! ### keys of dicts: what hashing and == see -/
mutual
/-- the key that a value is, if it is one -/
def skOf : D → Option NestedKey
  | .non => some .none
  | .bl b => some (.num (if b then 1 else 0))
  | .int i => some (.num i)
  | .str x => some (.text x)
  | .tup xs => (skOfs xs).map .tup
  | _ => none
def skOfs : List D → Option (List NestedKey)
  | [] => some []
  | x :: xs => match skOf x, skOfs xs with
    | some k, some ks => some (k :: ks)
    | _, _ => none
end
/-- the entries of a dict whose keys are tuples: the key, where its tuple stands, the value -/
abbrev DE3 := NestedKey × Addr × Value
def ent3 (w : World) (x : DE3) : DictEntry := ⟨x.1.hash w, .ref x.2.1, x.2.2⟩
/-- a dict object by its entries -/
def dictHO (w : World) (a : Addr) (es : List DE3 × Nat) : HO := .ext fun h => (a == sysModules) = false ∧ es.1.length ≤ sizeLine ∧ (es.1.map (·.1)).Nodup ∧ ∃ o, h.get? a = some o ∧ o.ExactDict ∧ o.data = .dict (es.1.map (ent3 w)).toArray es.2

/-- a list of the written part -/
def KLst (K : PySem.W.Frag) (a : Addr) (xs : List V) : Prop :=
  ∃ (o : Obj) (its : Array Value) (n : Nat), K.lookup a = some o ∧ o.cls = .type "list" ∧ o.dict = none ∧ o.data = .seq its n ∧ its.size ≤ sizeLine ∧ Vals xs its.toList

mutual
/-- the value v of HandS's heap stands for the tree d -/
inductive Is (K : PySem.W.Frag) (w : World) (H : Hp) (W : Wd) : V → D → Prop
  | non : Is K w H W .non .non
  | bl (b : Bool) : Is K w H W (.bl b) (.bl b)
  | int (i : Int) : Is K w H W (.int i) (.int i)
  | str (x : Str) : Is K w H W (.str x) (.str x)
  | tup {a : Addr} {xs : List V} {ds : List D} : SqT K H a xs → Iss K w H W xs ds → Is K w H W (.ref a) (.tup ds)
  | lst {a : Addr} {xs : List V} {ds : List D} : W.fz a → Rd H a (.lst xs) → Iss K w H W xs ds → Is K w H W (.ref a) (.lst ds)
  | lstK {a : Addr} {xs : List V} {ds : List D} : KLst K a xs → Iss K w H W xs ds → Is K w H W (.ref a) (.lst ds)
  | dct {a : Addr} {es : List DE3 × Nat} {ks vs : List D} : W.fz a → H a = some (dictHO w a es) → IsE K w H W es.1 ks vs → Is K w H W (.ref a) (.dct ks vs)
  | ob {n : Nat} {a : Addr} : W.mu[n]? = some a → Is K w H W (.ref a) (.ob n)
  | adr (a : Addr) : Is K w H W (.ref a) (.adr a)
  | ty (n : String) : Is K w H W (.ty n) (.ty n)
inductive Iss (K : PySem.W.Frag) (w : World) (H : Hp) (W : Wd) : List V → List D → Prop
  | nil : Iss K w H W [] []
  | cons {v : V} {vs : List V} {d : D} {ds : List D} : Is K w H W v d → Iss K w H W vs ds → Iss K w H W (v :: vs) (d :: ds)
inductive IsE (K : PySem.W.Frag) (w : World) (H : Hp) (W : Wd) : List DE3 → List D → List D → Prop
  | nil : IsE K w H W [] [] []
  | cons {e : DE3} {es : List DE3} {k v : D} {ks vs : List D} {vv : V} : skOf k = some e.1 → e.1.depth ≤ 8 → Is K w H W (.ref e.2.1) k → RelV vv e.2.2 → Is K w H W vv v → IsE K w H W es ks vs →
      IsE K w H W (e :: es) (k :: ks) (v :: vs)
end

/-- fields of an instance -/
inductive IsF (K : PySem.W.Frag) (w : World) (H : Hp) (W : Wd) : List (Str × V) → List (Str × D) → Prop
  | nil : IsF K w H W [] []
  | cons {f : Str} {v : V} {d : D} {vs : List (Str × V)} {ds : List (Str × D)} : Is K w H W v d → IsF K w H W vs ds → IsF K w H W ((f, v) :: vs) ((f, d) :: ds)

/-- the own object o stands at a -/
def IsO (K : PySem.W.Frag) (w : World) (H : Hp) (W : Wd) (a : Addr) : O → Prop
  | .lst ds => ∃ xs, H a = some (.lst xs) ∧ Iss K w H W xs ds
  | .dct ks vs => ∃ es, H a = some (dictHO w a es) ∧ IsE K w H W es.1 ks vs
  | .ins C fs => ∃ dx vs, H a = some (.ins C dx vs) ∧ IsF K w H W vs fs
  | .dead => True

/-- a slot -/
inductive IsS (K : PySem.W.Frag) (w : World) (H : Hp) (W : Wd) : En → St → Prop
  | nil : IsS K w H W [] []
  | nop {o : Option V} {ρ : En} {σ : St} : IsS K w H W ρ σ → IsS K w H W (none :: ρ) (o :: σ)
  | som {v : V} {d : D} {ρ : En} {σ : St} : Is K w H W v d → IsS K w H W ρ σ → IsS K w H W (some d :: ρ) (some v :: σ)

/-- what a step leaves: all that is tracked but the own objects stands as it was -/
structure Ext (W : Wd) (L : Sto) (H : Hp) (W' : Wd) (L' : Sto) (H' : Hp) : Prop where
  pre : ∃ t, W'.mu = W.mu ++ t
  fz : ∀ a, W.fz a → W'.fz a
  keep : ∀ a o, H a = some o → (∀ n, ¬ Live W L n a) → H' a = some o
  live : ∀ n a, Live W' L' n a → (∃ m, Live W L m a) ∨ H a = none
  fzn : ∀ a, W'.fz a → W.fz a ∨ (∃ m, Live W L m a) ∨ H a = none

/-- the part of it that values lean on -/
structure Ext0 (W : Wd) (L : Sto) (H : Hp) (W' : Wd) (H' : Hp) : Prop where
  pre : ∃ t, W'.mu = W.mu ++ t
  fz : ∀ a, W.fz a → W'.fz a
  keep : ∀ a o, H a = some o → (∀ n, ¬ Live W L n a) → H' a = some o
theorem Ext.to0 {W W' : Wd} {L L' : Sto} {H H' : Hp} (x : Ext W L H W' L' H') : Ext0 W L H W' H' := ⟨x.pre, x.fz, x.keep⟩
theorem Ext.refl (W : Wd) (L : Sto) (H : Hp) : Ext W L H W L H := ⟨⟨[], (List.append_nil _).symm⟩, fun _ h => h, fun _ _ h _ => h, fun n _ h => .inl ⟨n, h⟩, fun _ h => .inl h⟩
theorem Ext.trans {W W1 W2 : Wd} {L L1 L2 : Sto} {H H1 H2 : Hp} (a : Ext W L H W1 L1 H1) (b : Ext W1 L1 H1 W2 L2 H2) : Ext W L H W2 L2 H2 where
  pre := by
    obtain ⟨t, e⟩ := a.pre
    obtain ⟨u, e'⟩ := b.pre
    exact ⟨t ++ u, by rw [e', e, List.append_assoc]⟩
  fz := fun x h => b.fz x (a.fz x h)
  keep := fun x o h n => by
    refine b.keep x o (a.keep x o h n) fun m hm => ?_
    rcases a.live m x hm with ⟨k, hk⟩ | hn
    · exact n k hk
    · rw [h] at hn; cases hn
  live := fun n x h => by
    rcases b.live n x h with ⟨m, hm⟩ | hn
    · exact a.live m x hm
    · by_cases hl : ∃ m, Live W L m x
      · exact .inl hl
      · cases e : H x with
        | none => exact .inr rfl
        | some o =>
          have q := a.keep x o e fun k hk => hl ⟨k, hk⟩
          rw [q] at hn; cases hn
  fzn := fun x h => by
    rcases b.fzn x h with h | ⟨m, hm⟩ | hn
    · exact a.fzn x h
    · exact .inr (a.live m x hm)
    · by_cases hl : ∃ m, Live W L m x
      · exact .inr (.inl hl)
      · cases e : H x with
        | none => exact .inr (.inr rfl)
        | some o =>
          have q := a.keep x o e fun k hk => hl ⟨k, hk⟩
          rw [q] at hn; cases hn

/-- what else is to stay true as the state goes on (of what is wanted of an exception) -/
structure Gam where
  p : Wd → Sto → Hp → Prop
  st : ∀ {W W' : Wd} {L L' : Sto} {H H' : Hp}, p W L H → Ext W L H W' L' H' → p W' L' H'
def Gam.none : Gam := ⟨fun _ _ _ => True, fun _ _ => trivial⟩
/-- the store is held -/
structure SR (K : PySem.W.Frag) (w : World) (G : Gam) (H : Hp) (W : Wd) (L : Sto) : Prop where
  len : W.mu.length = L.length
  inj : ∀ n m a, Live W L n a → Live W L m a → n = m
  nfz : ∀ n a, Live W L n a → ¬ W.fz a
  fzt : ∀ a, W.fz a → ∃ o, H a = some o
  ok : ∀ (n : Nat) (a : Addr) (o : O), W.mu[n]? = some a → L[n]? = some o → IsO K w H W a o
  gam : G.p W L H

section
variable {K : PySem.W.Frag} {w : World} {G : Gam} {H H' : Hp} {W W' : Wd} {L L' : Sto}

theorem SR.lt {n : Nat} (r : SR K w G H W L) : n < L.length → ∃ a, W.mu[n]? = some a := fun h => ⟨_, List.getElem?_eq_getElem (by rw [r.len]; exact h)⟩
/-- what stands at a live address is a list, a dict or an instance -/
theorem SR.kind (r : SR K w G H W L) {n : Nat} {a : Addr} (l : Live W L n a) : (∃ xs, H a = some (.lst xs)) ∨ (∃ es, H a = some (dictHO w a es)) ∨ ∃ C dx fs, H a = some (.ins C dx fs) := by
  obtain ⟨e, o, eo, nd⟩ := l
  have q := r.ok n a o e eo
  cases o with
  | lst ds => obtain ⟨xs, h, _⟩ := q; exact .inl ⟨xs, h⟩
  | dct ks vs => obtain ⟨es, h, _⟩ := q; exact .inr (.inl ⟨es, h⟩)
  | ins C fs => obtain ⟨dx, vs, h, _⟩ := q; exact .inr (.inr ⟨C, dx, vs, h⟩)
  | dead => exact absurd rfl nd
theorem SR.there (r : SR K w G H W L) {n : Nat} {a : Addr} (l : Live W L n a) : ∃ o, H a = some o := by
  rcases r.kind l with ⟨_, h⟩ | ⟨_, h⟩ | ⟨_, _, _, h⟩ <;> exact ⟨_, h⟩
theorem SR.notTup (r : SR K w G H W L) {a : Addr} {xs : List V} (h : H a = some (.tup xs)) (n : Nat) : ¬ Live W L n a := fun l => by
  rcases r.kind l with ⟨_, q⟩ | ⟨_, q⟩ | ⟨_, _, _, q⟩ <;> (rw [h] at q; cases q)
theorem SR.notFrz (r : SR K w G H W L) {a : Addr} {o : Obj} {u : HO} (h : H a = some (.frz o u)) (n : Nat) : ¬ Live W L n a := fun l => by
  rcases r.kind l with ⟨_, q⟩ | ⟨_, q⟩ | ⟨_, _, _, q⟩ <;> (rw [h] at q; cases q)
theorem SR.notFz (r : SR K w G H W L) {a : Addr} (h : W.fz a) (n : Nat) : ¬ Live W L n a := fun l => r.nfz n a l h

theorem SqT.ext0 (r : SR K w G H W L) (x : Ext0 W L H W' H') {a : Addr} {xs : List V} (h : SqT K H a xs) : SqT K H' a xs := by
  rcases h with (h | ⟨o, h⟩) | h
  · exact .inl (.inl (x.keep a _ h (r.notTup h)))
  · exact .inl (.inr ⟨o, x.keep a _ h (r.notFrz h)⟩)
  · exact .inr h
theorem mu_ext0 (x : Ext0 W L H W' H') {n : Nat} {a : Addr} (h : W.mu[n]? = some a) : W'.mu[n]? = some a := by
  obtain ⟨t, e⟩ := x.pre
  rw [e, List.getElem?_append_left (List.getElem?_eq_some_iff.mp h).1]
  exact h
mutual
theorem Is.ext0 (r : SR K w G H W L) (x : Ext0 W L H W' H') : ∀ {v : V} {d : D}, Is K w H W v d → Is K w H' W' v d
  | _, _, .non => .non
  | _, _, .bl b => .bl b
  | _, _, .int i => .int i
  | _, _, .str s => .str s
  | _, _, .tup h hs => .tup (SqT.ext0 r x h) (Iss.ext0 r x hs)
  | _, _, .lst (a := a) f h hs => .lst (x.fz _ f) (by
      rcases h with h | ⟨o, h⟩
      · exact .inl (x.keep _ _ h (r.notFz f))
      · exact .inr ⟨o, x.keep _ _ h (r.notFz f)⟩) (Iss.ext0 r x hs)
  | _, _, .lstK h hs => .lstK h (Iss.ext0 r x hs)
  | _, _, .dct f h hs => .dct (x.fz _ f) (x.keep _ _ h (r.notFz f)) (IsE.ext0 r x hs)
  | _, _, .ob h => .ob (mu_ext0 x h)
  | _, _, .adr a => .adr a
  | _, _, .ty n => .ty n
theorem Iss.ext0 (r : SR K w G H W L) (x : Ext0 W L H W' H') : ∀ {vs : List V} {ds : List D}, Iss K w H W vs ds → Iss K w H' W' vs ds
  | _, _, .nil => .nil
  | _, _, .cons h hs => .cons (Is.ext0 r x h) (Iss.ext0 r x hs)
theorem IsE.ext0 (r : SR K w G H W L) (x : Ext0 W L H W' H') : ∀ {es : List DE3} {ks vs : List D}, IsE K w H W es ks vs → IsE K w H' W' es ks vs
  | _, _, _, .nil => .nil
  | _, _, _, .cons a b c d e g => .cons a b (Is.ext0 r x c) d (Is.ext0 r x e) (IsE.ext0 r x g)
end
theorem IsF.ext0 (r : SR K w G H W L) (x : Ext0 W L H W' H') : ∀ {vs : List (Str × V)} {ds : List (Str × D)}, IsF K w H W vs ds → IsF K w H' W' vs ds
  | _, _, .nil => .nil
  | _, _, .cons h hs => .cons (h.ext0 r x) (IsF.ext0 r x hs)
theorem IsS.ext0 (r : SR K w G H W L) (x : Ext0 W L H W' H') : ∀ {ρ : En} {σ : St}, IsS K w H W ρ σ → IsS K w H' W' ρ σ
  | _, _, .nil => .nil
  | _, _, .nop h => .nop (IsS.ext0 r x h)
  | _, _, .som h hs => .som (h.ext0 r x) (IsS.ext0 r x hs)


theorem SqT.ext (r : SR K w G H W L) (x : Ext W L H W' L' H') {a : Addr} {xs : List V} (h : SqT K H a xs) : SqT K H' a xs := SqT.ext0 r x.to0 h
theorem mu_ext (x : Ext W L H W' L' H') {n : Nat} {a : Addr} (h : W.mu[n]? = some a) : W'.mu[n]? = some a := mu_ext0 x.to0 h
theorem Is.ext (r : SR K w G H W L) (x : Ext W L H W' L' H') {v : V} {d : D} (h : Is K w H W v d) : Is K w H' W' v d := Is.ext0 r x.to0 h
theorem Iss.ext (r : SR K w G H W L) (x : Ext W L H W' L' H') {vs : List V} {ds : List D} (h : Iss K w H W vs ds) : Iss K w H' W' vs ds := Iss.ext0 r x.to0 h
theorem IsE.ext (r : SR K w G H W L) (x : Ext W L H W' L' H') {es : List DE3} {ks vs : List D} (h : IsE K w H W es ks vs) : IsE K w H' W' es ks vs := IsE.ext0 r x.to0 h
theorem IsF.ext (r : SR K w G H W L) (x : Ext W L H W' L' H') {vs : List (Str × V)} {ds : List (Str × D)} (h : IsF K w H W vs ds) : IsF K w H' W' vs ds := IsF.ext0 r x.to0 h
theorem IsS.ext (r : SR K w G H W L) (x : Ext W L H W' L' H') {ρ : En} {σ : St} (h : IsS K w H W ρ σ) : IsS K w H' W' ρ σ := IsS.ext0 r x.to0 h

theorem Iss.length : ∀ {vs : List V} {ds : List D}, Iss K w H W vs ds → vs.length = ds.length
  | _, _, .nil => rfl
  | _, _, .cons _ h => by rw [List.length_cons, List.length_cons, Iss.length h]
theorem Iss.get : ∀ {vs : List V} {ds : List D} {i : Nat} {d : D}, Iss K w H W vs ds → ds[i]? = some d → ∃ v, vs[i]? = some v ∧ Is K w H W v d
  | _, _, _, _, .nil, e => by simp at e
  | _, _, 0, _, .cons h _, e => by simp at e; subst e; exact ⟨_, rfl, h⟩
  | _, _, i + 1, _, .cons _ h, e => by
    obtain ⟨v, h1, h2⟩ := Iss.get (i := i) h (by simpa using e)
    exact ⟨v, by simpa using h1, h2⟩
theorem Iss.getV : ∀ {vs : List V} {ds : List D} {i : Nat} {v : V}, Iss K w H W vs ds → vs[i]? = some v → ∃ d, ds[i]? = some d ∧ Is K w H W v d
  | _, _, _, _, .nil, e => by simp at e
  | _, _, 0, _, .cons h _, e => by simp at e; subst e; exact ⟨_, rfl, h⟩
  | _, _, i + 1, _, .cons _ h, e => by
    obtain ⟨v, h1, h2⟩ := Iss.getV (i := i) h (by simpa using e)
    exact ⟨v, by simpa using h1, h2⟩
theorem Iss.append : ∀ {xs ys : List V} {ds es : List D}, Iss K w H W xs ds → Iss K w H W ys es → Iss K w H W (xs ++ ys) (ds ++ es)
  | _, _, _, _, .nil, h => h
  | _, _, _, _, .cons a t, h => .cons a (Iss.append t h)
theorem Iss.take : ∀ {xs : List V} {ds : List D} (n : Nat), Iss K w H W xs ds → Iss K w H W (xs.take n) (ds.take n)
  | _, _, 0, _ => .nil
  | _, _, _ + 1, .nil => .nil
  | _, _, n + 1, .cons a t => .cons a (Iss.take n t)
theorem Iss.drop : ∀ {xs : List V} {ds : List D} (n : Nat), Iss K w H W xs ds → Iss K w H W (xs.drop n) (ds.drop n)
  | _, _, 0, h => h
  | _, _, _ + 1, .nil => .nil
  | _, _, n + 1, .cons _ t => Iss.drop n t
theorem Iss.set {v : V} {d : D} (h : Is K w H W v d) : ∀ {xs : List V} {ds : List D} (n : Nat), Iss K w H W xs ds → Iss K w H W (xs.set n v) (ds.set n d)
  | _, _, _, .nil => .nil
  | _, _, 0, .cons _ t => .cons h t
  | _, _, n + 1, .cons a t => .cons a (Iss.set h n t)
theorem Iss.dropLast {xs : List V} {ds : List D} (h : Iss K w H W xs ds) : Iss K w H W xs.dropLast ds.dropLast := by
  rw [List.dropLast_eq_take, List.dropLast_eq_take, h.length]
  exact h.take _
theorem Iss.reverse : ∀ {xs : List V} {ds : List D}, Iss K w H W xs ds → Iss K w H W xs.reverse ds.reverse
  | _, _, .nil => .nil
  | _, _, .cons a t => by rw [List.reverse_cons, List.reverse_cons]; exact (Iss.reverse t).append (.cons a .nil)
theorem IsS.length : ∀ {ρ : En} {σ : St}, IsS K w H W ρ σ → ρ.length = σ.length
  | _, _, .nil => rfl
  | _, _, .nop h => by rw [List.length_cons, List.length_cons, IsS.length h]
  | _, _, .som _ h => by rw [List.length_cons, List.length_cons, IsS.length h]
theorem IsS.get : ∀ {ρ : En} {σ : St} {i : Nat} {d : D}, IsS K w H W ρ σ → ρ[i]? = some (some d) → ∃ v, σ[i]? = some (some v) ∧ Is K w H W v d
  | _, _, _, _, .nil, e => by simp at e
  | _, _, 0, _, .nop _, e => by simp at e
  | _, _, 0, _, .som h _, e => by simp at e; subst e; exact ⟨_, rfl, h⟩
  | _, _, i + 1, _, .nop h, e => by
    obtain ⟨v, h1, h2⟩ := IsS.get (i := i) h (by simpa using e)
    exact ⟨v, by simpa using h1, h2⟩
  | _, _, i + 1, _, .som _ h, e => by
    obtain ⟨v, h1, h2⟩ := IsS.get (i := i) h (by simpa using e)
    exact ⟨v, by simpa using h1, h2⟩
theorem IsS.set {v : V} {d : D} (h : Is K w H W v d) : ∀ {ρ : En} {σ : St} (i : Nat), IsS K w H W ρ σ → IsS K w H W (ρ.set i (some d)) (σ.set i (some v))
  | _, _, _, .nil => .nil
  | _, _, 0, .nop t => .som h t
  | _, _, 0, .som _ t => .som h t
  | _, _, i + 1, .nop t => .nop (IsS.set h i t)
  | _, _, i + 1, .som a t => .som a (IsS.set h i t)
theorem IsS.unset {o : Option V} : ∀ {ρ : En} {σ : St} (i : Nat), IsS K w H W ρ σ → IsS K w H W (ρ.set i none) (σ.set i o)
  | _, _, _, .nil => .nil
  | _, _, 0, .nop t => .nop t
  | _, _, 0, .som _ t => .nop t
  | _, _, i + 1, .nop t => .nop (IsS.unset i t)
  | _, _, i + 1, .som a t => .som a (IsS.unset i t)
theorem IsS.starts : ∀ {vs : List V} {ds : List D} (n : Nat), Iss K w H W vs ds → IsS K w H W (ds.map some ++ List.replicate n none) (vs.map some ++ List.replicate n none)
  | _, _, 0, .nil => .nil
  | _, _, n + 1, .nil => .nop (IsS.starts n .nil)
  | _, _, n, .cons h t => .som h (IsS.starts n t)

/-! ### the lifting -/
abbrev QE := D → Sto → Prop
abbrev tE := En → Sto → QE → Prop
/-- what is to follow, told for HandS: from the state at the start to any end -/
def Kont (K : PySem.W.Frag) (w : World) (G : Gam) (W : Wd) (L : Sto) (H : Hp) (R : QE) (Q : VK) : Prop :=
  ∀ d L' W' H' v, Ext W L H W' L' H' → SR K w G H' W' L' → Is K w H' W' v d → R d L' → Q v H'
theorem Kont.ext {R : QE} {Q : VK} (k : Kont K w G W L H R Q) (x : Ext W L H W' L' H') : Kont K w G W' L' H' R Q := fun d L2 W2 H2 v x2 sr is r => k d L2 W2 H2 v (x.trans x2) sr is r
theorem Kont.here {R : QE} {Q : VK} {d : D} {v : V} (k : Kont K w G W L H R Q) (sr : SR K w G H W L) (is : Is K w H W v d) (r : R d L) : Q v H := k d L W H v (Ext.refl W L H) sr is r
def lift (K : PySem.W.Frag) (w : World) (G : Gam) (t : tE) : TE := fun σ H Q => ∃ W ρ L R, IsS K w H W ρ σ ∧ SR K w G H W L ∧ t ρ L R ∧ Kont K w G W L H R Q
/-- tests -/
abbrev QT := Bool → Sto → Prop
abbrev tT := En → Sto → QT → Prop
def KontT (K : PySem.W.Frag) (w : World) (G : Gam) (W : Wd) (L : Sto) (H : Hp) (R : QT) (Q : Bool → Hp → Prop) : Prop :=
  ∀ b L' W' H', Ext W L H W' L' H' → SR K w G H' W' L' → R b L' → Q b H'
theorem KontT.ext {R : QT} {Q : Bool → Hp → Prop} (k : KontT K w G W L H R Q) (x : Ext W L H W' L' H') : KontT K w G W' L' H' R Q := fun d L2 W2 H2 x2 sr r => k d L2 W2 H2 (x.trans x2) sr r
def liftT (K : PySem.W.Frag) (w : World) (G : Gam) (t : tT) : TT := fun σ H Q => ∃ W ρ L R, IsS K w H W ρ σ ∧ SR K w G H W L ∧ t ρ L R ∧ KontT K w G W L H R Q
/-- argument lists -/
abbrev QA := List D → Sto → Prop
abbrev tA := En → Sto → QA → Prop
def KontA (K : PySem.W.Frag) (w : World) (G : Gam) (W : Wd) (L : Sto) (H : Hp) (R : QA) (Q : List V → Hp → Prop) : Prop :=
  ∀ ds L' W' H' vs, Ext W L H W' L' H' → SR K w G H' W' L' → Iss K w H' W' vs ds → R ds L' → Q vs H'
theorem KontA.ext {R : QA} {Q : List V → Hp → Prop} (k : KontA K w G W L H R Q) (x : Ext W L H W' L' H') : KontA K w G W' L' H' R Q := fun d L2 W2 H2 v x2 sr is r => k d L2 W2 H2 v (x.trans x2) sr is r
def liftA (K : PySem.W.Frag) (w : World) (G : Gam) (t : tA) : TA := fun σ H Q => ∃ W ρ L R, IsS K w H W ρ σ ∧ SR K w G H W L ∧ t ρ L R ∧ KontA K w G W L H R Q
/-- statements -/
structure DEnds where
  nx : En → Sto → Prop
  rt : D → Sto → Prop
  bk : En → Sto → Prop := fun _ _ => False
  ct : En → Sto → Prop := fun _ _ => False
abbrev tS := DEnds → En → Sto → Prop
def KontN (K : PySem.W.Frag) (w : World) (G : Gam) (W : Wd) (L : Sto) (H : Hp) (R : En → Sto → Prop) (Q : St → Hp → Prop) : Prop :=
  ∀ ρ' L' W' H' σ', Ext W L H W' L' H' → IsS K w H' W' ρ' σ' → SR K w G H' W' L' → R ρ' L' → Q σ' H'
theorem KontN.ext {R : En → Sto → Prop} {Q : St → Hp → Prop} (k : KontN K w G W L H R Q) (x : Ext W L H W' L' H') : KontN K w G W' L' H' R Q := fun d L2 W2 H2 v x2 is sr r => k d L2 W2 H2 v (x.trans x2) is sr r
structure KontS (K : PySem.W.Frag) (w : World) (G : Gam) (W : Wd) (L : Sto) (H : Hp) (DD : DEnds) (D : Ends) : Prop where
  nx : KontN K w G W L H DD.nx D.nx
  rt : Kont K w G W L H DD.rt D.rt
  bk : KontN K w G W L H DD.bk D.bk
  ct : KontN K w G W L H DD.ct D.ct
theorem KontS.ext {DD : DEnds} {D : Ends} (k : KontS K w G W L H DD D) (x : Ext W L H W' L' H') : KontS K w G W' L' H' DD D := ⟨k.nx.ext x, k.rt.ext x, k.bk.ext x, k.ct.ext x⟩
def liftS (K : PySem.W.Frag) (w : World) (G : Gam) (t : tS) : TS := fun D σ H => ∃ W ρ L DD, IsS K w H W ρ σ ∧ SR K w G H W L ∧ t DD ρ L ∧ KontS K w G W L H DD D
/-- targets -/
abbrev tG := D → En → Sto → (En → Sto → Prop) → Prop
def liftG (K : PySem.W.Frag) (w : World) (G : Gam) (t : tG) : TG := fun v σ H Q => ∃ W ρ L d R, IsS K w H W ρ σ ∧ SR K w G H W L ∧ Is K w H W v d ∧ t d ρ L R ∧ KontN K w G W L H R Q
end

structure DE (X : Cx) (G : Gam) (e : Expr) (t : tE) : Prop where
  pe : PE X e (lift X.K X.w G t)
structure DT (X : Cx) (G : Gam) (e : Expr) (t : tT) : Prop where
  pt : PT X e (liftT X.K X.w G t)
structure DA (X : Cx) (G : Gam) (es : List Expr) (t : tA) : Prop where
  pa : PA X es (liftA X.K X.w G t)
structure DS (X : Cx) (G : Gam) (st : Stmt) (t : tS) : Prop where
  ps : PS X st (liftS X.K X.w G t)
structure DSs (X : Cx) (G : Gam) (sts : List Stmt) (t : tS) : Prop where
  pss : PSs X sts (liftS X.K X.w G t)
structure DG (X : Cx) (G : Gam) (tg : Expr) (t : tG) : Prop where
  pg : PG X tg (liftG X.K X.w G t)

section
variable {X : Cx} {e : Expr}
theorem PE.imp {t t' : TE} (h : PE X e t) (i : ∀ σ H Q, t' σ H Q → t σ H Q) : PE X e t' := ⟨fun pins s σ H Q I hw => h.run pins s σ H Q I (i σ H Q hw)⟩
theorem PT.imp {t t' : TT} (h : PT X e t) (i : ∀ σ H Q, t' σ H Q → t σ H Q) : PT X e t' := ⟨fun pins s σ H Q I hw => h.run pins s σ H Q I (i σ H Q hw)⟩
theorem PW.imp {t t' : TT} (h : PW X e t) (i : ∀ σ H Q, t' σ H Q → t σ H Q) : PW X e t' := ⟨fun wh pins s σ H Q I hw => h.run wh pins s σ H Q I (i σ H Q hw)⟩
theorem PA.imp {es : List Expr} {t t' : TA} (h : PA X es t) (i : ∀ σ H Q, t' σ H Q → t σ H Q) : PA X es t' := ⟨fun pos pins s σ H Q I hw => h.run pos pins s σ H Q I (i σ H Q hw)⟩
theorem PS.imp {st : Stmt} {t t' : TS} (h : PS X st t) (i : ∀ D σ H, t' D σ H → t D σ H) : PS X st t' := ⟨fun pins s σ H D I hw => h.run pins s σ H D I (i D σ H hw)⟩
theorem PSs.imp {st : List Stmt} {t t' : TS} (h : PSs X st t) (i : ∀ D σ H, t' D σ H → t D σ H) : PSs X st t' := ⟨fun pins s σ H D I hw => h.run pins s σ H D I (i D σ H hw)⟩
theorem PG.imp {t t' : TG} (h : PG X e t) (i : ∀ v σ H Q, t' v σ H Q → t v σ H Q) : PG X e t' := ⟨fun pins s σ H v u Q I r hw => h.run pins s σ H v u Q I r (i v σ H Q hw)⟩
end
end L2.DL

set_option Elab.async false
set_option linter.all false
set_option maxRecDepth 100000
/-! DB: new objects; expressions: names, constants, operators, comparisons, truth, displays, subscripts. -/
namespace L2.DL
open PySem PySem.Spec PyProof.Rows

section
variable {K : PySem.W.Frag} {w : World} {G : Gam} {H H' : Hp} {W W' : Wd} {L L' : Sto} {p : Addr} {ho : HO}

/-! ### new objects -/
theorem Ext.new (hp : H p = none) : Ext W L H W L (upd H p ho) :=
  ⟨⟨[], (List.append_nil _).symm⟩, fun _ h => h, fun a o h _ => by rw [upd_ne (ne_of_none h hp)]; exact h, fun n _ h => .inl ⟨n, h⟩, fun _ h => .inl h⟩
theorem IsO.ext0 (r : SR K w G H W L) (x : Ext0 W L H W' H') {a : Addr} {o : O} (h : IsO K w H W a o) (e : ∀ ho, H a = some ho → H' a = some ho) : IsO K w H' W' a o := by
  cases o with
  | lst ds => obtain ⟨xs, h1, h2⟩ := h; exact ⟨xs, e _ h1, Iss.ext0 r x h2⟩
  | dct ks vs => obtain ⟨es, h1, h2⟩ := h; exact ⟨es, e _ h1, IsE.ext0 r x h2⟩
  | ins C fs => obtain ⟨dx, vs, h1, h2⟩ := h; exact ⟨dx, vs, e _ h1, h2.ext0 r x⟩
  | dead => trivial
theorem IsO.ext (r : SR K w G H W L) (x : Ext W L H W' L' H') {a : Addr} {o : O} (h : IsO K w H W a o) (e : ∀ ho, H a = some ho → H' a = some ho) : IsO K w H' W' a o := IsO.ext0 r x.to0 h e
theorem SR.new (r : SR K w G H W L) (hp : H p = none) : SR K w G (upd H p ho) W L where
  len := r.len
  inj := r.inj
  nfz := r.nfz
  fzt := fun a f => by
    obtain ⟨o, h⟩ := r.fzt a f
    exact ⟨o, by rw [upd_ne (ne_of_none h hp)]; exact h⟩
  ok := fun n a o h1 h2 => (r.ok n a o h1 h2).ext r (Ext.new hp) fun u h => by rw [upd_ne (ne_of_none h hp)]; exact h
  gam := G.st r.gam (Ext.new hp)
/-- frozen beside -/
def Wd.and (W : Wd) (p : Addr) : Wd := ⟨W.mu, fun a => a = p ∨ W.fz a⟩
theorem Ext.newF (hp : H p = none) : Ext W L H (W.and p) L (upd H p ho) :=
  ⟨⟨[], (List.append_nil _).symm⟩, fun _ h => .inr h, fun a o h _ => by rw [upd_ne (ne_of_none h hp)]; exact h, fun n _ h => .inl ⟨n, h⟩, fun a f => by
    rcases f with e | f
    · rw [e]; exact .inr (.inr hp)
    · exact .inl f⟩
theorem SR.newF (r : SR K w G H W L) (hp : H p = none) : SR K w G (upd H p ho) (W.and p) L where
  len := r.len
  inj := r.inj
  nfz := fun n a l f => by
    rcases f with e | f
    · obtain ⟨o, h⟩ := r.there l
      rw [e, hp] at h; cases h
    · exact r.nfz n a l f
  fzt := fun a f => by
    rcases f with e | f
    · exact ⟨ho, by rw [e, upd_same]⟩
    · obtain ⟨o, h⟩ := r.fzt a f
      exact ⟨o, by rw [upd_ne (ne_of_none h hp)]; exact h⟩
  ok := fun n a o h1 h2 => (r.ok n a o h1 h2).ext r (Ext.newF hp) fun u h => by rw [upd_ne (ne_of_none h hp)]; exact h
  gam := G.st r.gam (Ext.newF hp)
/-- a new own object -/
def Wd.more (W : Wd) (p : Addr) : Wd := ⟨W.mu ++ [p], W.fz⟩
theorem live_more {o : O} (r : SR K w G H W L) {n : Nat} {a : Addr} (l : Live (W.more p) (L ++ [o]) n a) : Live W L n a ∨ (n = L.length ∧ a = p) := by
  obtain ⟨h1, u, h2, h3⟩ := l
  by_cases hn : n < L.length
  · refine .inl ⟨?_, u, ?_, h3⟩
    · have h1' : (W.mu ++ [p])[n]? = some a := h1
      rw [List.getElem?_append_left (by rw [r.len]; exact hn)] at h1'
      exact h1'
    · rw [List.getElem?_append_left hn] at h2; exact h2
  · have hl : n < (L ++ [o]).length := (List.getElem?_eq_some_iff.mp h2).1
    rw [List.length_append, List.length_singleton] at hl
    have e : n = L.length := by omega
    subst e
    have h1' : (W.mu ++ [p])[L.length]? = some a := h1
    rw [← r.len, List.getElem?_concat_length] at h1'
    exact .inr ⟨rfl, (Option.some.inj h1').symm⟩
theorem Ext.newO {o : O} (r : SR K w G H W L) (hp : H p = none) : Ext W L H (W.more p) (L ++ [o]) (upd H p ho) where
  pre := ⟨[p], rfl⟩
  fz := fun _ h => h
  keep := fun a u h _ => by rw [upd_ne (ne_of_none h hp)]; exact h
  live := fun n a l => by
    rcases live_more r l with l | ⟨_, e⟩
    · exact .inl ⟨n, l⟩
    · rw [e]; exact .inr hp
  fzn := fun _ h => .inl h
theorem SR.newO {o : O} (r : SR K w G H W L) (hp : H p = none) (ho' : IsO K w (upd H p ho) (W.more p) p o) : SR K w G (upd H p ho) (W.more p) (L ++ [o]) where
  len := by show (W.mu ++ [p]).length = _; rw [List.length_append, List.length_append, r.len, List.length_singleton, List.length_singleton]
  inj := fun n m a l1 l2 => by
    rcases live_more r l1 with l1 | ⟨e1, e2⟩ <;> rcases live_more r l2 with l2 | ⟨e3, e4⟩
    · exact r.inj n m a l1 l2
    · obtain ⟨u, h⟩ := r.there l1; rw [e4, hp] at h; cases h
    · obtain ⟨u, h⟩ := r.there l2; rw [e2, hp] at h; cases h
    · rw [e1, e3]
  nfz := fun n a l f => by
    rcases live_more r l with l | ⟨_, e⟩
    · exact r.nfz n a l f
    · obtain ⟨u, h⟩ := r.fzt a f
      rw [e, hp] at h; cases h
  fzt := fun a f => by
    obtain ⟨u, h⟩ := r.fzt a f
    exact ⟨u, by rw [upd_ne (ne_of_none h hp)]; exact h⟩
  ok := fun n a u h1 h2 => by
    by_cases hn : n < L.length
    · have h1' : (W.mu ++ [p])[n]? = some a := h1
      rw [List.getElem?_append_left (by rw [r.len]; exact hn)] at h1'
      rw [List.getElem?_append_left hn] at h2
      exact (r.ok n a u h1' h2).ext r (Ext.newO (o := o) r hp) fun v h => by rw [upd_ne (ne_of_none h hp)]; exact h
    · have hl : n < (L ++ [o]).length := (List.getElem?_eq_some_iff.mp h2).1
      rw [List.length_append, List.length_singleton] at hl
      have e : n = L.length := by omega
      subst e
      have h1' : (W.mu ++ [p])[L.length]? = some a := h1
      rw [← r.len, List.getElem?_concat_length] at h1'
      rw [List.getElem?_concat_length] at h2
      cases h1'; cases h2
      exact ho'
  gam := G.st r.gam (Ext.newO r hp)
/-- an own object is changed -/
theorem live_set {o : O} {n m : Nat} {a : Addr} {u : O} (hn : L[n]? = some u) (hu : u ≠ .dead) (l : Live W (L.set n o) m a) : Live W L m a := by
  obtain ⟨h1, v, h2, h3⟩ := l
  by_cases e : n = m
  · subst e; exact ⟨h1, u, hn, hu⟩
  · rw [List.getElem?_set_ne e] at h2
    exact ⟨h1, v, h2, h3⟩
theorem Ext.set {o u : O} {n : Nat} {a : Addr} (hm : W.mu[n]? = some a) (hn : L[n]? = some u) (hu : u ≠ .dead) : Ext W L H W (L.set n o) (upd H a ho) where
  pre := ⟨[], (List.append_nil _).symm⟩
  fz := fun _ h => h
  keep := fun b v h nl => by
    have : b ≠ a := fun e => nl n (by rw [e]; exact ⟨hm, u, hn, hu⟩)
    rw [upd_ne this]; exact h
  live := fun m b l => .inl ⟨m, live_set hn hu l⟩
  fzn := fun _ h => .inl h
theorem SR.set {o u : O} {n : Nat} {a : Addr} (r : SR K w G H W L) (hm : W.mu[n]? = some a) (hn : L[n]? = some u) (hu : u ≠ .dead) (ho' : IsO K w (upd H a ho) W a o) : SR K w G (upd H a ho) W (L.set n o) where
  len := by rw [List.length_set]; exact r.len
  inj := fun n1 m1 b l1 l2 => r.inj n1 m1 b (live_set hn hu l1) (live_set hn hu l2)
  nfz := fun n1 b l f => r.nfz n1 b (live_set hn hu l) f
  fzt := fun b f => by
    obtain ⟨v, h⟩ := r.fzt b f
    by_cases e : b = a
    · exact ⟨ho, by rw [e, upd_same]⟩
    · exact ⟨v, by rw [upd_ne e]; exact h⟩
  ok := fun m b v h1 h2 => by
    by_cases e : n = m
    · subst e
      rw [hm] at h1; cases h1
      rw [List.getElem?_set_self (List.getElem?_eq_some_iff.mp hn).1] at h2
      cases h2
      exact ho'
    · rw [List.getElem?_set_ne e] at h2
      have q := r.ok m b v h1 h2
      by_cases dv : v = .dead
      · rw [dv]; trivial
      · have hne : b ≠ a := fun z => e (r.inj n m a ⟨hm, u, hn, hu⟩ (by rw [← z]; exact ⟨h1, v, h2, dv⟩))
        exact q.ext r (Ext.set (o := o) hm hn hu) fun x h => by rw [upd_ne hne]; exact h
  gam := G.st r.gam (Ext.set hm hn hu)
/-- an own object is frozen: nobody changes it any more -/
theorem Ext.frz {u : O} {n : Nat} {a : Addr} (hm : W.mu[n]? = some a) (hn : L[n]? = some u) (hu : u ≠ .dead) : Ext W L H (W.and a) (L.set n .dead) H :=
  ⟨⟨[], (List.append_nil _).symm⟩, fun _ h => .inr h, fun _ _ h _ => h, fun m _ l => .inl ⟨m, live_set hn hu l⟩, fun b f => by
    rcases f with e | f
    · rw [e]; exact .inr (.inl ⟨n, hm, u, hn, hu⟩)
    · exact .inl f⟩
theorem SR.frz {u : O} {n : Nat} {a : Addr} (r : SR K w G H W L) (hm : W.mu[n]? = some a) (hn : L[n]? = some u) (hu : u ≠ .dead) : SR K w G H (W.and a) (L.set n .dead) where
  len := by rw [List.length_set]; exact r.len
  inj := fun n1 m1 b l1 l2 => r.inj n1 m1 b (live_set hn hu l1) (live_set hn hu l2)
  nfz := fun m b l f => by
    have l' := live_set hn hu l
    rcases f with e | f
    · have e2 : n = m := r.inj n m a ⟨hm, u, hn, hu⟩ (by rw [← e]; exact l')
      subst e2
      obtain ⟨_, v, h2, h3⟩ := l
      rw [List.getElem?_set_self (List.getElem?_eq_some_iff.mp hn).1] at h2
      cases h2
      exact h3 rfl
    · exact r.nfz m b l' f
  fzt := fun b f => by
    rcases f with e | f
    · rw [e]; exact r.there (n := n) ⟨hm, u, hn, hu⟩
    · exact r.fzt b f
  ok := fun m b v h1 h2 => by
    by_cases e : n = m
    · subst e
      rw [List.getElem?_set_self (List.getElem?_eq_some_iff.mp hn).1] at h2
      cases h2
      trivial
    · rw [List.getElem?_set_ne e] at h2
      exact (r.ok m b v h1 h2).ext r (Ext.frz hm hn hu) fun _ h => h
  gam := G.st r.gam (Ext.frz hm hn hu)

variable {R : QE} {Q : VK} {xs : List V} {ds : List D}
theorem Kont.tup (k : Kont K w G W L H R Q) (sr : SR K w G H W L) (hp : H p = none) (is : Iss K w H W xs ds) (r : R (.tup ds) L) : Q (.ref p) (upd H p (.tup xs)) :=
  k _ _ _ _ _ (Ext.new hp) (sr.new hp) (.tup (SqT.of upd_same) (is.ext sr (Ext.new hp))) r
theorem Kont.lst (k : Kont K w G W L H R Q) (sr : SR K w G H W L) (hp : H p = none) (is : Iss K w H W xs ds) (r : R (.lst ds) L) : Q (.ref p) (upd H p (.lst xs)) :=
  k _ _ _ _ _ (Ext.newF hp) (sr.newF hp) (.lst (.inl rfl) (.inl upd_same) (is.ext sr (Ext.newF hp))) r
theorem Kont.own (k : Kont K w G W L H R Q) (sr : SR K w G H W L) (hp : H p = none) (is : Iss K w H W xs ds) (r : R (.ob L.length) (L ++ [.lst ds])) : Q (.ref p) (upd H p (.lst xs)) :=
  k _ _ _ _ _ (Ext.newO sr hp) (sr.newO (o := .lst ds) hp ⟨xs, upd_same, is.ext sr (Ext.newO (o := .lst ds) sr hp)⟩) (.ob (by show (W.mu ++ [p])[L.length]? = _; rw [← sr.len, List.getElem?_concat_length])) r
end

/-! ### names, constants -/
section
variable {X : Cx} {G : Gam} {a b c e : Expr} {ta tb tc : tE} {pos : Pos}
def tV (i : Nat) : tE := fun ρ L R => match ρ[i]? with
  | some (some d) => R d L
  | _ => False
def tK (d : D) : tE := fun _ L R => R d L
theorem de_var (i : Nat) {x : Str} {pos : Pos} (hN : X.N[i]? = some x := by rfl) (hv : Vis X.env.scope x := by first | exact Or.inl rfl | exact Or.inr (Or.inl rfl) | exact Or.inr (Or.inr rfl)) (hd : (x == ("__debug__" : Str)) = false := by decide)
    (hcd : (x == ("__classdict__" : Str)) = false := by decide) : DE X G (.Name x pos) (tV i) := by
  refine ⟨PE.imp (pv i hN hv hd hcd) fun σ H Q ⟨W, ρ, L, R, es, sr, h, k⟩ => ?_⟩
  unfold tV at h
  split at h
  · rename_i d hd'
    obtain ⟨v, hv', is⟩ := es.get hd'
    exact ⟨v, hv', k.here sr is h⟩
  · exact h.elim
/-- a constant value -/
theorem de_const {v : V} {d : D} (h : PE X e (tC v)) (i : ∀ K w H W, Is K w H W v d) : DE X G e (tK d) := ⟨PE.imp h fun σ H Q ⟨W, ρ, L, R, es, sr, h, k⟩ => k.here sr (i _ _ _ _) h⟩
theorem de_int {i j pos} : DE X G (.Constant (.int i) j pos) (tK (.int i)) := de_const pe_int fun _ _ _ _ => .int i
theorem de_bl {i j pos} : DE X G (.Constant (.bool i) j pos) (tK (.bl i)) := de_const pe_bl fun _ _ _ _ => .bl i
theorem de_non {j pos} : DE X G (.Constant .none j pos) (tK .non) := de_const pe_non fun _ _ _ _ => .non
theorem de_str {i j pos} : DE X G (.Constant (.str i) j pos) (tK (.str i)) := de_const pe_str fun _ _ _ _ => .str i
/-- a module's object: an own class, a def -/
theorem de_glob {x : Str} {f : Addr} {pos : Pos} (hg : Gl X x) (hm : X.mg x = some (.ref f)) (hd : (x == ("__debug__" : Str)) = false := by decide) : DE X G (.Name x pos) (tK (.adr f)) :=
  de_const (pe_glob (v := .ref f) hg hm rfl hd) fun _ _ _ _ => .adr f
/-- a built-in type as a value -/
theorem de_type {x : Str} {n : String} {pos : Pos} (hg : Gl X x) (hm : X.mg x = none) (hv : bootBuiltins x = some (.type n)) (hn : x ≠ "__name__" := by decide) (hd : (x == ("__debug__" : Str)) = false := by decide) : DE X G (.Name x pos) (tK (.ty n)) :=
  de_const (pe_bltn (v := .ty n) hg hm hv rfl hn hd) fun _ _ _ _ => .ty n
/-- a written tuple, list, int of the module -/
theorem de_globV {x : Str} {v : V} {u : Value} {d : D} {pos : Pos} (hg : Gl X x) (hm : X.mg x = some u) (r : RelV v u) (i : ∀ w H W, Is X.K w H W v d) (hd : (x == ("__debug__" : Str)) = false := by decide) : DE X G (.Name x pos) (tK d) :=
  ⟨PE.imp (pe_glob hg hm r hd) fun σ H Q ⟨W, ρ, L, R, es, sr, h, k⟩ => k.here sr (i _ _ _) h⟩

/-! ### two-place operations -/
abbrev O2 := D → D → Sto → QE → Prop
def OpD (K : PySem.W.Frag) (w : World) (o : O2) (r : R2) : Prop :=
  ∀ G W H L x y v u R Q, SR K w G H W L → Is K w H W v x → Is K w H W u y → o x y L R → Kont K w G W L H R Q → r v u H Q
def tB2 (o : O2) (ta tb : tE) : tE := fun ρ L R => ta ρ L fun x L1 => tb ρ L1 fun y L2 => o x y L2 R
theorem two_imp {K : PySem.W.Frag} {w : World} {o : O2} {r : R2} (hd : OpD K w o r) {σ : L2.St} {H : Hp} {Q : VK} (h : lift K w G (tB2 o ta tb) σ H Q) : tOp r (lift K w G ta) (lift K w G tb) σ H Q := by
  obtain ⟨W, ρ, L, R, es, sr, h, k⟩ := h
  exact ⟨W, ρ, L, _, es, sr, h, fun x L1 W1 H1 v x1 sr1 is1 h1 => ⟨W1, ρ, L1, _, es.ext sr x1, sr1, h1, fun y L2 W2 H2 u x2 sr2 is2 h2 => hd G W2 H2 L2 x y v u R Q sr2 (is1.ext sr1 x2) is2 h2 (k.ext (x1.trans x2))⟩⟩
theorem de_bin {op : Operator} {o : O2} {r : R2} (ho : OpR X (binaryOp op) r) (hd : OpD X.K X.w o r) (ha : DE X G a ta) (hb : DE X G b tb) : DE X G (.BinOp a op b pos) (tB2 o ta tb) :=
  ⟨PE.imp (pe_op ho ha.pe hb.pe) fun _ _ _ h => two_imp hd h⟩
theorem de_cmp {op : CmpOp} {o : O2} {r : R2} (ho : OpR X (compareOp op) r) (hd : OpD X.K X.w o r) (ha : DE X G a ta) (hb : DE X G b tb) (hm : behindInMarks op b = false) : DE X G (.Compare a [op] [b] pos) (tB2 o ta tb) :=
  ⟨PE.imp (pe_cmpR ho ha.pe hb.pe hm) fun _ _ _ h => two_imp hd h⟩
/-- a value that is to be a bool -/
def asB (R : QT) : QE := fun d L => match d with
  | .bl b => R b L
  | _ => False
def tTB (t : tE) : tT := fun ρ L R => t ρ L (asB R)
theorem kontB {K : PySem.W.Frag} {w : World} {W : Wd} {L : Sto} {H : Hp} {R : QT} {Q : Bool → Hp → Prop} (k : KontT K w G W L H R Q) : Kont K w G W L H (asB R) (fun x H' => ∃ c, x = .bl c ∧ Q c H') := fun d L2 W2 H2 v x sr is r => by
  cases d with
  | bl c => cases is; exact ⟨c, rfl, k c L2 W2 H2 x sr r⟩
  | _ => exact r.elim
theorem dt_cmp {op : CmpOp} {o : O2} {r : R2} (ho : OpR X (compareOp op) r) (hd : OpD X.K X.w o r) (ha : DE X G a ta) (hb : DE X G b tb) (hm : behindInMarks op b = false) : DT X G (.Compare a [op] [b] pos) (tTB (tB2 o ta tb)) :=
  ⟨PT.imp (pt_cmpR ho ha.pe hb.pe hm) fun σ H Q ⟨W, ρ, L, R, es, sr, h, k⟩ => two_imp hd ⟨W, ρ, L, asB R, es, sr, h, kontB k⟩⟩

/-! ### one-place operations -/
abbrev O1 := D → Sto → QE → Prop
def UnD (K : PySem.W.Frag) (w : World) (o : O1) (r : V → Hp → VK → Prop) : Prop := ∀ G W H L x v R Q, SR K w G H W L → Is K w H W v x → o x L R → Kont K w G W L H R Q → r v H Q
def tB1 (o : O1) (ta : tE) : tE := fun ρ L R => ta ρ L fun x L1 => o x L1 R
theorem de_un {op : UnaryOp} {o : O1} {r : V → Hp → VK → Prop} (ho : UnR X (unaryOp op) r) (hd : UnD X.K X.w o r) (ha : DE X G a ta) : DE X G (.UnaryOp op a pos) (tB1 o ta) :=
  ⟨PE.imp (pe_un ho ha.pe) fun σ H Q ⟨W, ρ, L, R, es, sr, h, k⟩ => ⟨W, ρ, L, _, es, sr, h, fun x L1 W1 H1 v x1 sr1 is1 h1 => hd G W1 H1 L1 x v R Q sr1 is1 h1 (k.ext x1)⟩⟩

/-! ### ints -/
def oI (g : Int → Int → D) : O2 := fun x y L R => match x, y with
  | .int i, .int j => R (g i j) L
  | _, _ => False
/-- ints under a condition -/
def oIC (C : Int → Int → Prop) (g : Int → Int → D) : O2 := fun x y L R => match x, y with
  | .int i, .int j => C i j ∧ R (g i j) L
  | _, _ => False
theorem od_I {K w} {g : Int → Int → V} {g' : Int → Int → D} (hg : ∀ H W i j, Is K w H W (g i j) (g' i j)) : OpD K w (oI g') (rI0 g) := by
  intro G W H L x y v u R Q sr ix iy h k
  cases x with
  | int i =>
    cases y with
    | int j => cases ix; cases iy; exact ⟨i, j, rfl, rfl, k.here sr (hg _ _ i j) h⟩
    | _ => exact h.elim
  | _ => exact h.elim
theorem od_IC {K w} {C : Int → Int → Prop} {g : Int → Int → V} {g' : Int → Int → D} (hg : ∀ H W i j, Is K w H W (g i j) (g' i j)) : OpD K w (oIC C g') (rI C g) := by
  intro G W H L x y v u R Q sr ix iy h k
  cases x with
  | int i =>
    cases y with
    | int j => cases ix; cases iy; exact ⟨i, j, rfl, rfl, h.1, k.here sr (hg _ _ i j) h.2⟩
    | _ => exact h.elim
  | _ => exact h.elim
abbrev oSub : O2 := oI fun i j => .int (i - j)
abbrev oMul : O2 := oIC CMul fun i j => .int (i * j)
abbrev oMod : O2 := oIC (fun _ j => 0 < j) fun i j => .int (i % j)
abbrev oDiv : O2 := oIC CDivW fun i j => .int (i / j)
abbrev oPow : O2 := oIC CPow fun i j => .int (i ^ j.toNat)
abbrev oLt : O2 := oI fun i j => .bl (decide (i < j))
abbrev oLe : O2 := oI fun i j => .bl (decide (i ≤ j))
abbrev oGt : O2 := oI fun i j => .bl (decide (j < i))
abbrev oGe : O2 := oI fun i j => .bl (decide (j ≤ i))
theorem de_sub (ha : DE X G a ta) (hb : DE X G b tb) : DE X G (.BinOp a .Sub b pos) (tB2 oSub ta tb) := de_bin op_sub (od_I fun _ _ _ _ => .int _) ha hb
theorem de_mul (ha : DE X G a ta) (hb : DE X G b tb) : DE X G (.BinOp a .Mult b pos) (tB2 oMul ta tb) := de_bin op_mul (od_IC fun _ _ _ _ => .int _) ha hb
theorem de_mod (ha : DE X G a ta) (hb : DE X G b tb) : DE X G (.BinOp a .Mod b pos) (tB2 oMod ta tb) := de_bin op_mod (od_IC fun _ _ _ _ => .int _) ha hb
theorem de_div (ha : DE X G a ta) (hb : DE X G b tb) : DE X G (.BinOp a .FloorDiv b pos) (tB2 oDiv ta tb) := de_bin op_fdivW (od_IC fun _ _ _ _ => .int _) ha hb
theorem de_pow (ha : DE X G a ta) (hb : DE X G b tb) : DE X G (.BinOp a .Pow b pos) (tB2 oPow ta tb) := de_bin op_pow (od_IC fun _ _ _ _ => .int _) ha hb
theorem de_lt (ha : DE X G a ta) (hb : DE X G b tb) : DE X G (.Compare a [.Lt] [b] pos) (tB2 oLt ta tb) := de_cmp op_lt (od_I fun _ _ _ _ => .bl _) ha hb (nomark _)
theorem de_le (ha : DE X G a ta) (hb : DE X G b tb) : DE X G (.Compare a [.LtE] [b] pos) (tB2 oLe ta tb) := de_cmp op_le (od_I fun _ _ _ _ => .bl _) ha hb (nomark _)
theorem de_gt (ha : DE X G a ta) (hb : DE X G b tb) : DE X G (.Compare a [.Gt] [b] pos) (tB2 oGt ta tb) := de_cmp op_gt (od_I fun _ _ _ _ => .bl _) ha hb (nomark _)
theorem de_ge (ha : DE X G a ta) (hb : DE X G b tb) : DE X G (.Compare a [.GtE] [b] pos) (tB2 oGe ta tb) := de_cmp op_ge (od_I fun _ _ _ _ => .bl _) ha hb (nomark _)
theorem dt_lt (ha : DE X G a ta) (hb : DE X G b tb) : DT X G (.Compare a [.Lt] [b] pos) (tTB (tB2 oLt ta tb)) := dt_cmp op_lt (od_I fun _ _ _ _ => .bl _) ha hb (nomark _)
theorem dt_le (ha : DE X G a ta) (hb : DE X G b tb) : DT X G (.Compare a [.LtE] [b] pos) (tTB (tB2 oLe ta tb)) := dt_cmp op_le (od_I fun _ _ _ _ => .bl _) ha hb (nomark _)
theorem dt_gt (ha : DE X G a ta) (hb : DE X G b tb) : DT X G (.Compare a [.Gt] [b] pos) (tTB (tB2 oGt ta tb)) := dt_cmp op_gt (od_I fun _ _ _ _ => .bl _) ha hb (nomark _)
theorem dt_ge (ha : DE X G a ta) (hb : DE X G b tb) : DT X G (.Compare a [.GtE] [b] pos) (tTB (tB2 oGe ta tb)) := dt_cmp op_ge (od_I fun _ _ _ _ => .bl _) ha hb (nomark _)
def oNeg : O1 := fun x L R => match x with
  | .int i => R (.int (-i)) L
  | _ => False
theorem de_neg (ha : DE X G a ta) : DE X G (.UnaryOp .USub a pos) (tB1 oNeg ta) := de_un un_neg (fun G W H L x v R Q sr is h k => by
  cases x with
  | int i => cases is; exact ⟨i, rfl, k.here sr (.int _) h⟩
  | _ => exact h.elim) ha
/-- a op b op' c of ints -/
def tCh (o o' : O2) (ta tb tc : tE) : tE := fun ρ L R => ta ρ L fun x L1 => tb ρ L1 fun y L2 => o x y L2 fun z L3 => match z with
  | .bl k => if k = true then tc ρ L3 fun u L4 => o' y u L4 R else R (.bl false) L3
  | _ => False
theorem chain_imp {K : PySem.W.Frag} {w : World} {o o' : O2} {r r' : R2} (hd : OpD K w o r) (hd' : OpD K w o' r') {σ : L2.St} {H : Hp} {Q : VK} (h : lift K w G (tCh o o' ta tb tc) σ H Q) : tChain r r' (lift K w G ta) (lift K w G tb) (lift K w G tc) σ H Q := by
  obtain ⟨W, ρ, L, R, es, sr, h, k⟩ := h
  refine ⟨W, ρ, L, _, es, sr, h, fun x L1 W1 H1 v x1 sr1 is1 h1 => ⟨W1, ρ, L1, _, es.ext sr x1, sr1, h1, fun y L2 W2 H2 u x2 sr2 is2 h2 => hd G W2 H2 L2 x y v u _ _ sr2 (is1.ext sr1 x2) is2 h2 fun z L3 W3 H3 t x3 sr3 is3 h3 => ?_⟩⟩
  cases z with
  | bl c =>
    cases is3
    refine ⟨c, rfl, ?_⟩
    have es3 := ((es.ext sr x1).ext sr1 x2).ext sr2 x3
    cases c with
    | true =>
      rw [if_pos rfl]
      have h3 := (if_pos rfl).mp h3
      exact ⟨W3, ρ, L3, _, es3, sr3, h3, fun s L4 W4 H4 t x4 sr4 is4 h4 => hd' G W4 H4 L4 y s u t R Q sr4 ((is2.ext sr2 x3).ext sr3 x4) is4 h4 (k.ext (((x1.trans x2).trans x3).trans x4))⟩
    | false =>
      rw [if_neg Bool.false_ne_true]
      have h3 := (if_neg Bool.false_ne_true).mp h3
      exact (k.ext ((x1.trans x2).trans x3)).here sr3 (.bl false) h3
  | _ => exact h3.elim
theorem de_lele (ha : DE X G a ta) (hb : DE X G b tb) (hc : DE X G c tc) (hm : lastMarks [.LtE, .LtE] [b, c] = false := by with_unfolding_all rfl) : DE X G (.Compare a [.LtE, .LtE] [b, c] pos) (tCh oLe oLe ta tb tc) :=
  ⟨PE.imp (pe_chain op_le op_le ha.pe hb.pe hc.pe hm) fun _ _ _ h => chain_imp (od_I fun _ _ _ _ => .bl _) (od_I fun _ _ _ _ => .bl _) h⟩
theorem dt_lele (ha : DE X G a ta) (hb : DE X G b tb) (hc : DE X G c tc) (hm : lastMarks [.LtE, .LtE] [b, c] = false := by with_unfolding_all rfl) : DT X G (.Compare a [.LtE, .LtE] [b, c] pos) (tTB (tCh oLe oLe ta tb tc)) :=
  ⟨PT.imp (pt_chain op_le op_le ha.pe hb.pe hc.pe hm) fun σ H Q ⟨W, ρ, L, R, es, sr, h, k⟩ => chain_imp (od_I fun _ _ _ _ => .bl _) (od_I fun _ _ _ _ => .bl _) ⟨W, ρ, L, asB R, es, sr, h, kontB k⟩⟩
end
end L2.DL

set_option Elab.async false
set_option linter.all false
set_option maxRecDepth 100000
/-! DC: equality, membership, truth, and/or/not, displays, subscripts, built-ins. -/
namespace L2.DL
open PySem PySem.Spec PyProof.Rows

/-! ### == -/
mutual
def eqD : D → D → Bool
  | .non, .non => true
  | .bl a, .bl b => a == b
  | .bl a, .int j => (if a then 1 else 0) == j
  | .int i, .bl b => i == (if b then 1 else 0)
  | .int i, .int j => decide (i = j)
  | .str x, .str y => decide (x = y)
  | .lst xs, .lst ys => eqDs xs ys
  | .tup xs, .tup ys => eqDs xs ys
  | _, _ => false
def eqDs : List D → List D → Bool
  | [], [] => true
  | x :: xs, y :: ys => eqD x y && eqDs xs ys
  | _, _ => false
end
/-- data at most so deep -/
def fitD : Nat → D → Bool
  | _, .non => true
  | _, .bl _ => true
  | _, .int _ => true
  | _, .str x => PyData.strOk x
  | n + 1, .tup xs => xs.all (fitD n)
  | n + 1, .lst xs => xs.all (fitD n)
  | _, _ => false
mutual
def pdOf : D → PyData
  | .bl b => .bool b
  | .int i => .int i
  | .str x => .str x
  | .tup xs => .tuple (pdOfs xs)
  | .lst xs => .list (pdOfs xs)
  | _ => .none
def pdOfs : List D → List PyData
  | [] => []
  | x :: xs => pdOf x :: pdOfs xs
end
theorem fitD_tup {n : Nat} {xs : List D} (h : fitD n (.tup xs) = true) : ∃ m, n = m + 1 ∧ ∀ x ∈ xs, fitD m x = true := by
  cases n with
  | zero => simp [fitD] at h
  | succ m => exact ⟨m, rfl, by simpa [fitD] using h⟩
theorem fitD_lst {n : Nat} {xs : List D} (h : fitD n (.lst xs) = true) : ∃ m, n = m + 1 ∧ ∀ x ∈ xs, fitD m x = true := by
  cases n with
  | zero => simp [fitD] at h
  | succ m => exact ⟨m, rfl, by simpa [fitD] using h⟩
mutual
theorem fit_lay : ∀ (d : D) (n : Nat), fitD n d = true → (pdOf d).canLay0 = true ∧ (pdOf d).depth ≤ n
  | .non, _, _ => by simp [pdOf, PyData.canLay0, PyData.depth]
  | .bl _, _, _ => by simp [pdOf, PyData.canLay0, PyData.depth]
  | .int _, _, _ => by simp [pdOf, PyData.canLay0, PyData.depth]
  | .str x, n, h => by
    have h' : PyData.strOk x = true := by cases n <;> simpa [fitD] using h
    simp [pdOf, PyData.canLay0, PyData.depth, h']
  | .tup xs, n, h => by
    obtain ⟨m, rfl, h'⟩ := fitD_tup h
    have := fit_lays xs m h'
    simp [pdOf, PyData.canLay0, PyData.depth, this.1, this.2]
  | .lst xs, n, h => by
    obtain ⟨m, rfl, h'⟩ := fitD_lst h
    have := fit_lays xs m h'
    simp [pdOf, PyData.canLay0, PyData.depth, this.1, this.2]
  | .dct _ _, n, h => by cases n <;> simp [fitD] at h
  | .ob _, n, h => by cases n <;> simp [fitD] at h
  | .adr _, n, h => by cases n <;> simp [fitD] at h
  | .ty _, n, h => by cases n <;> simp [fitD] at h
theorem fit_lays : ∀ (xs : List D) (n : Nat), (∀ x ∈ xs, fitD n x = true) → PyData.canLayAll0 (pdOfs xs) = true ∧ PyData.depthAll (pdOfs xs) ≤ n
  | [], _, _ => by simp [pdOfs, PyData.canLayAll0, PyData.depthAll]
  | x :: xs, n, h => by
    have h1 := fit_lay x n (h x List.mem_cons_self)
    have h2 := fit_lays xs n fun y hy => h y (List.mem_cons_of_mem _ hy)
    simp only [pdOfs, PyData.canLayAll0, PyData.depthAll, h1.1, h2.1, Bool.and_self, true_and]
    exact Nat.max_le.mpr ⟨h1.2, h2.2⟩
end
mutual
theorem eqv_eq : ∀ (d e : D) (n m : Nat), fitD n d = true → fitD m e = true → PyData.eqv (pdOf d) (pdOf e) = eqD d e
  | .non, e, _, m, _, h => by cases e <;> first | (simp [pdOf, PyData.eqv, eqD]; done) | (cases m <;> simp [fitD] at h)
  | .bl _, e, _, m, _, h => by cases e <;> first | (simp [pdOf, PyData.eqv, eqD]; done) | (cases m <;> simp [fitD] at h)
  | .int _, e, _, m, _, h => by cases e <;> first | (simp [pdOf, PyData.eqv, eqD]; done) | (simp [pdOf, PyData.eqv, eqD]; rw [Bool.eq_iff_iff]; simp; done) | (cases m <;> simp [fitD] at h)
  | .str _, e, _, m, _, h => by cases e <;> first | (simp [pdOf, PyData.eqv, eqD]; done) | (simp [pdOf, PyData.eqv, eqD]; rw [Bool.eq_iff_iff]; simp; done) | (cases m <;> simp [fitD] at h)
  | .tup xs, e, n, m, h, h' => by
    cases e with
    | tup ys =>
      obtain ⟨n', rfl, a⟩ := fitD_tup h
      obtain ⟨m', rfl, b⟩ := fitD_tup h'
      simp only [pdOf, PyData.eqv, eqD]
      exact eqvs_eq xs ys n' m' a b
    | _ => first | (simp [pdOf, PyData.eqv, eqD]; done) | (cases m <;> simp [fitD] at h')
  | .lst xs, e, n, m, h, h' => by
    cases e with
    | lst ys =>
      obtain ⟨n', rfl, a⟩ := fitD_lst h
      obtain ⟨m', rfl, b⟩ := fitD_lst h'
      simp only [pdOf, PyData.eqv, eqD]
      exact eqvs_eq xs ys n' m' a b
    | _ => first | (simp [pdOf, PyData.eqv, eqD]; done) | (cases m <;> simp [fitD] at h')
  | .dct _ _, _, n, _, h, _ => by cases n <;> simp [fitD] at h
  | .ob _, _, n, _, h, _ => by cases n <;> simp [fitD] at h
  | .adr _, _, n, _, h, _ => by cases n <;> simp [fitD] at h
  | .ty _, _, n, _, h, _ => by cases n <;> simp [fitD] at h
theorem eqvs_eq : ∀ (xs ys : List D) (n m : Nat), (∀ x ∈ xs, fitD n x = true) → (∀ x ∈ ys, fitD m x = true) → PyData.eqvAll (pdOfs xs) (pdOfs ys) = eqDs xs ys
  | [], ys, _, _, _, _ => by cases ys <;> simp [pdOfs, PyData.eqvAll, eqDs]
  | x :: xs, [], _, _, _, _ => by simp [pdOfs, PyData.eqvAll, eqDs]
  | x :: xs, y :: ys, n, m, h, h' => by
    simp only [pdOfs, PyData.eqvAll, eqDs]
    rw [eqv_eq x y n m (h x List.mem_cons_self) (h' y List.mem_cons_self), eqvs_eq xs ys n m (fun z hz => h z (List.mem_cons_of_mem _ hz)) fun z hz => h' z (List.mem_cons_of_mem _ hz)]
end
/-- an own list is looked at as the list that it is -/
def view (L : Sto) : D → D
  | .ob n => match L[n]? with
    | some (.lst xs) => .lst xs
    | _ => .ob n
  | d => d
/-- a list's or tuple's items -/
def seqOf (L : Sto) (d : D) : Option (List D) := match view L d with
  | .lst xs => some xs
  | .tup xs => some xs
  | _ => none

section
variable {K : PySem.W.Frag} {w : World} {G : Gam} {H : Hp} {W : Wd} {L : Sto}
theorem KLst.sq {a : Addr} {xs : List V} (h : KLst K a xs) : SqL K H a xs := .inr h
theorem is_view (sr : SR K w G H W L) {v : V} {d : D} (is : Is K w H W v d) : Is K w H W v (view L d) ∨ ∃ a xs ds, v = .ref a ∧ view L d = .lst ds ∧ H a = some (.lst xs) ∧ Iss K w H W xs ds := by
  cases d with
  | ob n =>
    cases hL : L[n]? with
    | none =>
      have e : view L (.ob n) = .ob n := by simp only [view, hL]
      rw [e]; exact .inl is
    | some o =>
      cases o with
      | lst xs =>
        have e : view L (.ob n) = .lst xs := by simp only [view, hL]
        cases is with
        | ob hm =>
          obtain ⟨ys, h1, h2⟩ := sr.ok _ _ _ hm hL
          exact .inr ⟨_, _, _, rfl, e, h1, h2⟩
      | _ =>
        have e : view L (.ob n) = .ob n := by simp only [view, hL]
        rw [e]; exact .inl is
  | _ => exact .inl is
theorem lst_is {v : V} {ds : List D} (is : Is K w H W v (.lst ds)) : ∃ a xs, v = .ref a ∧ SqL K H a xs ∧ Iss K w H W xs ds := by
  cases is with
  | lst _ h hs => exact ⟨_, _, rfl, .inl h, hs⟩
  | lstK h hs => exact ⟨_, _, rfl, h.sq, hs⟩
theorem view_lst (sr : SR K w G H W L) {v : V} {d : D} {ds : List D} (is : Is K w H W v d) (e : view L d = .lst ds) : ∃ a xs, v = .ref a ∧ SqL K H a xs ∧ Iss K w H W xs ds := by
  rcases is_view sr is with h | ⟨a, xs, es, h1, h2, h3, h4⟩
  · rw [e] at h; exact lst_is h
  · rw [e] at h2; cases h2
    exact ⟨a, xs, h1, SqL.of h3, h4⟩
theorem view_tup (sr : SR K w G H W L) {v : V} {d : D} {ds : List D} (is : Is K w H W v d) (e : view L d = .tup ds) : ∃ a xs, v = .ref a ∧ SqT K H a xs ∧ Iss K w H W xs ds := by
  rcases is_view sr is with h | ⟨a, xs, es, h1, h2, h3, h4⟩
  · rw [e] at h
    cases h with
    | tup h hs => exact ⟨_, _, rfl, h, hs⟩
  · rw [e] at h2; cases h2
theorem seq_is (sr : SR K w G H W L) {v : V} {d : D} {ds : List D} (is : Is K w H W v d) (e : seqOf L d = some ds) : ∃ a xs, v = .ref a ∧ (SqL K H a xs ∨ SqT K H a xs) ∧ Iss K w H W xs ds := by
  unfold seqOf at e
  split at e
  · rename_i xs h
    cases e
    obtain ⟨a, xs, h1, h2, h3⟩ := view_lst sr is h
    exact ⟨a, xs, h1, .inl h2, h3⟩
  · rename_i xs h
    cases e
    obtain ⟨a, xs, h1, h2, h3⟩ := view_tup sr is h
    exact ⟨a, xs, h1, .inr h2, h3⟩
  · cases e
mutual
theorem Is.dp : ∀ {v : V} {d : D} {n : Nat}, Is K w H W v d → fitD n d = true → Dp K H v (pdOf d)
  | _, _, _, .non, _ => by simp only [pdOf]; exact .non
  | _, _, _, .bl b, _ => by simp only [pdOf]; exact .bl b
  | _, _, _, .int i, _ => by simp only [pdOf]; exact .int i
  | _, _, _, .str x, _ => by simp only [pdOf]; exact .str x
  | _, _, _, .tup h hs, f => by
    obtain ⟨m, rfl, h'⟩ := fitD_tup f
    simp only [pdOf]; exact .tup h (Iss.dp hs h')
  | _, _, _, .lst _ h hs, f => by
    obtain ⟨m, rfl, h'⟩ := fitD_lst f
    simp only [pdOf]; exact .lst (.inl h) (Iss.dp hs h')
  | _, _, _, .lstK h hs, f => by
    obtain ⟨m, rfl, h'⟩ := fitD_lst f
    simp only [pdOf]; exact .lst h.sq (Iss.dp hs h')
  | _, _, n, .dct _ _ _, f => by cases n <;> simp [fitD] at f
  | _, _, n, .ob _, f => by cases n <;> simp [fitD] at f
  | _, _, n, .adr _, f => by cases n <;> simp [fitD] at f
  | _, _, n, .ty _, f => by cases n <;> simp [fitD] at f
theorem Iss.dp : ∀ {vs : List V} {ds : List D} {n : Nat}, Iss K w H W vs ds → (∀ x ∈ ds, fitD n x = true) → DpAll K H vs (pdOfs ds)
  | _, _, _, .nil, _ => by simp only [pdOfs]; exact .nil
  | _, _, _, .cons h hs, f => by simp only [pdOfs]; exact .cons (Is.dp h (f _ List.mem_cons_self)) (Iss.dp hs fun x hx => f x (List.mem_cons_of_mem _ hx))
end
theorem view_dp (sr : SR K w G H W L) {v : V} {d : D} {n : Nat} (is : Is K w H W v d) (f : fitD n (view L d) = true) : Dp K H v (pdOf (view L d)) := by
  rcases is_view sr is with h | ⟨a, xs, ds, h1, h2, h3, h4⟩
  · exact h.dp f
  · rw [h2] at f ⊢
    obtain ⟨m, rfl, h'⟩ := fitD_lst f
    rw [h1]
    simp only [pdOf]
    exact .lst (SqL.of h3) (h4.dp h')
theorem shaped_of {d : D} {n : Nat} (f : fitD n d = true) (hn : n ≤ 64) : SeqAt.shaped (pdOf d) = true := by
  have h := fit_lay d n f
  show ((pdOf d).canLay0 && decide ((pdOf d).depth ≤ 64)) = true
  rw [Bool.and_eq_true]
  exact ⟨h.1, decide_eq_true (by omega)⟩
end

/-- how deep data may be -/
abbrev deepest : Nat := 40
def oEq : O2 := fun x y L R => fitD deepest (view L x) = true ∧ fitD deepest (view L y) = true ∧ R (.bl (eqD (view L x) (view L y))) L
def oNe : O2 := fun x y L R => fitD deepest (view L x) = true ∧ fitD deepest (view L y) = true ∧ R (.bl (!eqD (view L x) (view L y))) L
theorem od_eq {K w} : OpD K w oEq (rEqD K) := by
  intro G W H L x y v u R Q sr ix iy h k
  obtain ⟨f1, f2, h⟩ := h
  refine ⟨_, _, view_dp sr ix f1, view_dp sr iy f2, shaped_of f1 (by decide), shaped_of f2 (by decide), ?_⟩
  rw [eqv_eq _ _ _ _ f1 f2]
  exact k.here sr (.bl _) h
theorem od_ne {K w} : OpD K w oNe (rNeD K) := by
  intro G W H L x y v u R Q sr ix iy h k
  obtain ⟨f1, f2, h⟩ := h
  refine ⟨_, _, view_dp sr ix f1, view_dp sr iy f2, shaped_of f1 (by decide), shaped_of f2 (by decide), ?_⟩
  rw [eqv_eq _ _ _ _ f1 f2]
  exact k.here sr (.bl _) h
/-- x in a list or a tuple of data -/
def inD (x : D) (ys : List D) : Bool := ys.any fun y => eqD y x
def oIn : O2 := fun x y L R => match seqOf L y with
  | some ys => fitD deepest (view L x) = true ∧ ys.all (fitD deepest) = true ∧ R (.bl (inD (view L x) ys)) L
  | none => match x, y with
    | .str a, .str b => R (.bl (!(Builtin.Str.occurrences b a 0 b.length 1).isEmpty)) L
    | _, _ => False
def oNotIn : O2 := fun x y L R => match seqOf L y with
  | some ys => fitD deepest (view L x) = true ∧ ys.all (fitD deepest) = true ∧ R (.bl (!inD (view L x) ys)) L
  | none => match x, y with
    | .str a, .str b => R (.bl (!(!(Builtin.Str.occurrences b a 0 b.length 1).isEmpty))) L
    | _, _ => False
section
variable {X : Cx} {G : Gam}
/-- x in t, t a tuple of data -/
def rInT (K : PySem.W.Frag) (neg : Bool) : R2 := fun x y H Q => ∃ d ds, Dp K H x d ∧ Dp K H y (.tuple ds) ∧ SeqAt.shaped d = true ∧ SeqAt.shaped (.tuple ds) = true ∧ Q (.bl (if neg then !ds.any fun z => PyData.eqv z d else ds.any fun z => PyData.eqv z d)) H
theorem op_inT (hu : X.A.units + 65 < cLine) : OpR X (compareOp .In) (rInT X.K false) := by
  intro pins s σ H x y v u Q I rx ry h
  obtain ⟨d, ds, hd, he, sd, se, q⟩ := h
  obtain ⟨as, r1⟩ := Dp.reads I d x v hd rx
  obtain ⟨bs, r2⟩ := Dp.reads I (.tuple ds) y u he ry
  exact SeqAt.in_tuple_reads r2 r1 (SeqAt.canLay_of_shaped se) (SeqAt.canLay_of_shaped sd) (room_in_shaped sd hu) ⟨.bl _, H, I, rfl, q⟩
theorem op_notInT (hu : X.A.units + 65 < cLine) : OpR X (compareOp .NotIn) (rInT X.K true) := by
  intro pins s σ H x y v u Q I rx ry h
  obtain ⟨d, ds, hd, he, sd, se, q⟩ := h
  obtain ⟨as, r1⟩ := Dp.reads I d x v hd rx
  obtain ⟨bs, r2⟩ := Dp.reads I (.tuple ds) y u he ry
  exact SeqAt.notIn_tuple_reads r2 r1 (SeqAt.canLay_of_shaped se) (SeqAt.canLay_of_shaped sd) (room_in_shaped sd hu) ⟨.bl _, H, I, rfl, q⟩
end
theorem any_eqv : ∀ (ys : List D) (x : D) (n : Nat), fitD n x = true → (∀ y ∈ ys, fitD n y = true) → ((pdOfs ys).any fun z => PyData.eqv z (pdOf x)) = inD x ys
  | [], _, _, _, _ => rfl
  | y :: ys, x, n, h, h' => by
    have e1 := any_eqv ys x n h fun z hz => h' z (List.mem_cons_of_mem _ hz)
    have e2 := eqv_eq y x n n (h' y List.mem_cons_self) h
    show ((PyData.eqv (pdOf y) (pdOf x)) || (pdOfs ys).any fun z => PyData.eqv z (pdOf x)) = (eqD y x || inD x ys)
    rw [e1, e2]
theorem all_fit {n : Nat} {ys : List D} (h : ys.all (fitD n) = true) : ∀ y ∈ ys, fitD n y = true := by simpa using h
theorem od_in {K w} : OpD K w oIn (fun x y H Q => rInD K x y H Q ∨ rInT K false x y H Q ∨ ∃ i j, x = .str i ∧ y = .str j ∧ Q (.bl (!(Builtin.Str.occurrences j i 0 j.length 1).isEmpty)) H) := by
  intro G W H L x y v u R Q sr ix iy h k
  unfold oIn at h
  split at h
  · rename_i ys e
    obtain ⟨f1, f2, h⟩ := h
    have f2' := all_fit f2
    have dx := view_dp sr ix f1
    have sx := shaped_of f1 (by decide)
    have ea := any_eqv ys _ _ f1 f2'
    have fl : fitD (deepest + 1) (.lst ys) = true := by simpa [fitD] using f2'
    have ft : fitD (deepest + 1) (.tup ys) = true := by simpa [fitD] using f2'
    obtain ⟨a, xs, rfl, hs, hi⟩ := seq_is sr iy e
    rcases hs with hs | hs
    · refine .inl ⟨_, pdOfs ys, dx, .lst hs (hi.dp f2'), sx, by simpa only [pdOf] using shaped_of fl (by decide), ?_⟩
      rw [ea]; exact k.here sr (.bl _) h
    · refine .inr (.inl ⟨_, pdOfs ys, dx, .tup hs (hi.dp f2'), sx, by simpa only [pdOf] using shaped_of ft (by decide), ?_⟩)
      rw [ea]; exact k.here sr (.bl _) h
  · split at h
    · cases ix; cases iy
      exact .inr (.inr ⟨_, _, rfl, rfl, k.here sr (.bl _) h⟩)
    · exact h.elim
theorem od_notIn {K w} : OpD K w oNotIn (fun x y H Q => rNotInD K x y H Q ∨ rInT K true x y H Q ∨ ∃ i j, x = .str i ∧ y = .str j ∧ Q (.bl (!(!(Builtin.Str.occurrences j i 0 j.length 1).isEmpty))) H) := by
  intro G W H L x y v u R Q sr ix iy h k
  unfold oNotIn at h
  split at h
  · rename_i ys e
    obtain ⟨f1, f2, h⟩ := h
    have f2' := all_fit f2
    have dx := view_dp sr ix f1
    have sx := shaped_of f1 (by decide)
    have ea := any_eqv ys _ _ f1 f2'
    have fl : fitD (deepest + 1) (.lst ys) = true := by simpa [fitD] using f2'
    have ft : fitD (deepest + 1) (.tup ys) = true := by simpa [fitD] using f2'
    obtain ⟨a, xs, rfl, hs, hi⟩ := seq_is sr iy e
    rcases hs with hs | hs
    · refine .inl ⟨_, pdOfs ys, dx, .lst hs (hi.dp f2'), sx, by simpa only [pdOf] using shaped_of fl (by decide), ?_⟩
      rw [ea]; exact k.here sr (.bl _) h
    · refine .inr (.inl ⟨_, pdOfs ys, dx, .tup hs (hi.dp f2'), sx, by simpa only [pdOf] using shaped_of ft (by decide), ?_⟩)
      rw [if_pos rfl, ea]; exact k.here sr (.bl _) h
  · split at h
    · cases ix; cases iy
      exact .inr (.inr ⟨_, _, rfl, rfl, k.here sr (.bl _) h⟩)
    · exact h.elim
section
variable {X : Cx} {G : Gam} {a b c e : Expr} {ta tb tc : tE} {pos : Pos}
theorem de_eq (hu : X.A.units + 65 < cLine) (ha : DE X G a ta) (hb : DE X G b tb) : DE X G (.Compare a [.Eq] [b] pos) (tB2 oEq ta tb) := de_cmp (op_eqD (by omega)) od_eq ha hb (nomark _)
theorem de_ne (hu : X.A.units + 65 < cLine) (ha : DE X G a ta) (hb : DE X G b tb) : DE X G (.Compare a [.NotEq] [b] pos) (tB2 oNe ta tb) := de_cmp (op_neD (by omega)) od_ne ha hb (nomark _)
theorem dt_eq (hu : X.A.units + 65 < cLine) (ha : DE X G a ta) (hb : DE X G b tb) : DT X G (.Compare a [.Eq] [b] pos) (tTB (tB2 oEq ta tb)) := dt_cmp (op_eqD (by omega)) od_eq ha hb (nomark _)
theorem dt_ne (hu : X.A.units + 65 < cLine) (ha : DE X G a ta) (hb : DE X G b tb) : DT X G (.Compare a [.NotEq] [b] pos) (tTB (tB2 oNe ta tb)) := dt_cmp (op_neD (by omega)) od_ne ha hb (nomark _)
theorem de_in (hu : X.A.units + 65 < cLine) (ha : DE X G a ta) (hb : DE X G b tb) (hm : behindInMarks .In b = false := by with_unfolding_all rfl) : DE X G (.Compare a [.In] [b] pos) (tB2 oIn ta tb) := de_cmp ((op_inD hu).or ((op_inT hu).or op_in_str)) od_in ha hb hm
theorem de_notIn (hu : X.A.units + 65 < cLine) (ha : DE X G a ta) (hb : DE X G b tb) (hm : behindInMarks .NotIn b = false := by with_unfolding_all rfl) : DE X G (.Compare a [.NotIn] [b] pos) (tB2 oNotIn ta tb) := de_cmp ((op_notInD hu).or ((op_notInT hu).or L2.op_notIn_str)) od_notIn ha hb hm
theorem dt_in (hu : X.A.units + 65 < cLine) (ha : DE X G a ta) (hb : DE X G b tb) (hm : behindInMarks .In b = false := by with_unfolding_all rfl) : DT X G (.Compare a [.In] [b] pos) (tTB (tB2 oIn ta tb)) := dt_cmp ((op_inD hu).or ((op_inT hu).or op_in_str)) od_in ha hb hm
theorem dt_notIn (hu : X.A.units + 65 < cLine) (ha : DE X G a ta) (hb : DE X G b tb) (hm : behindInMarks .NotIn b = false := by with_unfolding_all rfl) : DT X G (.Compare a [.NotIn] [b] pos) (tTB (tB2 oNotIn ta tb)) := dt_cmp ((op_notInD hu).or ((op_notInT hu).or L2.op_notIn_str)) od_notIn ha hb hm
/-! ### is None -/
def isN : D → Bool
  | .non => true
  | _ => false
def oIsN : O2 := fun x y L R => match y with
  | .non => R (.bl (isN x)) L
  | _ => False
def oNotN : O2 := fun x y L R => match y with
  | .non => R (.bl (!isN x)) L
  | _ => False
theorem isN_eq {K w H W} {v : V} {d : D} (i : Is K w H W v d) : decide (v = .non) = isN d := by cases i <;> simp [isN]
theorem de_isN (ha : DE X G a ta) (hb : DE X G b tb) : DE X G (.Compare a [.Is] [b] pos) (tB2 oIsN ta tb) := de_cmp op_isN (fun G W H L x y v u R Q sr ix iy h k => by
  cases y with
  | non => cases iy; exact ⟨rfl, by rw [isN_eq ix]; exact k.here sr (.bl _) h⟩
  | _ => exact h.elim) ha hb (nomark _)
theorem de_notN (ha : DE X G a ta) (hb : DE X G b tb) : DE X G (.Compare a [.IsNot] [b] pos) (tB2 oNotN ta tb) := de_cmp op_notN (fun G W H L x y v u R Q sr ix iy h k => by
  cases y with
  | non => cases iy; exact ⟨rfl, by rw [isN_eq ix]; exact k.here sr (.bl _) h⟩
  | _ => exact h.elim) ha hb (nomark _)
theorem dt_isN (ha : DE X G a ta) (hb : DE X G b tb) : DT X G (.Compare a [.Is] [b] pos) (tTB (tB2 oIsN ta tb)) := dt_cmp op_isN (fun G W H L x y v u R Q sr ix iy h k => by
  cases y with
  | non => cases iy; exact ⟨rfl, by rw [isN_eq ix]; exact k.here sr (.bl _) h⟩
  | _ => exact h.elim) ha hb (nomark _)
theorem dt_notN (ha : DE X G a ta) (hb : DE X G b tb) : DT X G (.Compare a [.IsNot] [b] pos) (tTB (tB2 oNotN ta tb)) := dt_cmp op_notN (fun G W H L x y v u R Q sr ix iy h k => by
  cases y with
  | non => cases iy; exact ⟨rfl, by rw [isN_eq ix]; exact k.here sr (.bl _) h⟩
  | _ => exact h.elim) ha hb (nomark _)
def oIsB : O2 := fun x y L R => match x, y with
  | .bl i, .bl j => R (.bl (decide (i = j))) L
  | _, _ => False
theorem de_isB (ha : DE X G a ta) (hb : DE X G b tb) : DE X G (.Compare a [.Is] [b] pos) (tB2 oIsB ta tb) := de_cmp L2.op_isBl (fun G W H L x y v u R Q sr ix iy h k => by
  cases x with
  | bl i =>
    cases y with
    | bl j => cases ix; cases iy; exact ⟨i, j, rfl, rfl, k.here sr (.bl _) h⟩
    | _ => exact h.elim
  | _ => exact h.elim) ha hb (nomark _)

/-! ### truth -/
def truD (L : Sto) (d : D) (R : QT) : Prop := match view L d with
  | .non => R false L
  | .bl b => R b L
  | .int i => R (i != 0) L
  | .str x => x.length ≤ sizeLine ∧ R ((x.length : Int) != 0) L
  | .lst xs => R (!xs.isEmpty) L
  | .tup xs => R (!xs.isEmpty) L
  | _ => False
theorem empty_iss {K w H W} {xs : List V} {ds : List D} (h : Iss K w H W xs ds) : (!xs.isEmpty) = !ds.isEmpty := by cases h <;> rfl
theorem tru_is {K w G H W L} (sr : SR K w G H W L) {v : V} {d : D} {R : QT} {Q : Bool → Hp → Prop} (is : Is K w H W v d) (h : truD L d R) (k : KontT K w G W L H R Q) : ∃ b, TruV K v H b ∧ R b L := by
  unfold truD at h
  split at h
  · rename_i e
    rcases is_view sr is with q | ⟨_, _, _, _, q, _⟩
    · rw [e] at q; cases q; exact ⟨false, rfl, h⟩
    · rw [e] at q; cases q
  · rename_i b e
    rcases is_view sr is with q | ⟨_, _, _, _, q, _⟩
    · rw [e] at q; cases q; exact ⟨_, rfl, h⟩
    · rw [e] at q; cases q
  · rename_i b e
    rcases is_view sr is with q | ⟨_, _, _, _, q, _⟩
    · rw [e] at q; cases q; exact ⟨_, rfl, h⟩
    · rw [e] at q; cases q
  · rename_i b e
    rcases is_view sr is with q | ⟨_, _, _, _, q, _⟩
    · rw [e] at q; cases q; exact ⟨_, ⟨h.1, rfl⟩, h.2⟩
    · rw [e] at q; cases q
  · rename_i xs e
    obtain ⟨a, ys, rfl, h1, h2⟩ := view_lst sr is e
    exact ⟨_, .inl ⟨_, h1, rfl⟩, by rw [empty_iss h2]; exact h⟩
  · rename_i xs e
    obtain ⟨a, ys, rfl, h1, h2⟩ := view_tup sr is e
    exact ⟨_, .inr (.inl ⟨_, h1, rfl⟩), by rw [empty_iss h2]; exact h⟩
  · exact h.elim
def tTru (t : tE) : tT := fun ρ L R => t ρ L fun d L1 => truD L1 d R
theorem dt_tru (ha : DE X G a ta) (he : ∀ whole, isTrue a X.env whole = (do let v ← whole; standAt a.pos; holding [v] (truthy v)) := by intro _; rfl) : DT X G a (tTru ta) :=
  ⟨PT.imp (pt_truth ha.pe he) fun σ H Q ⟨W, ρ, L, R, es, sr, h, k⟩ => ⟨W, ρ, L, _, es, sr, h, fun d L1 W1 H1 v x1 sr1 is1 h1 => by
    obtain ⟨b, h2, h3⟩ := tru_is sr1 is1 h1 (k.ext x1)
    exact ⟨b, h2, (k.ext x1) b L1 W1 H1 (Ext.refl _ _ _) sr1 h3⟩⟩⟩
def tNt (t : tT) : tT := fun ρ L R => t ρ L fun b L1 => R (!b) L1
theorem dt_not {t : tT} (h : DT X G a t) : DT X G (.UnaryOp .Not a pos) (tNt t) :=
  ⟨PT.imp (pt_not h.pt) fun σ H Q ⟨W, ρ, L, R, es, sr, h, k⟩ => ⟨W, ρ, L, _, es, sr, h, fun b L1 W1 H1 x1 sr1 h1 => k (!b) L1 W1 H1 x1 sr1 h1⟩⟩
/-- and, or as tests, chains -/
structure DW (X : Cx) (G : Gam) (e : Expr) (t : tT) : Prop where
  pw : PW X e (liftT X.K X.w G t)
def tAn (t u : tT) : tT := fun ρ L R => t ρ L fun b L1 => if b = true then u ρ L1 R else R false L1
def tOr (t u : tT) : tT := fun ρ L R => t ρ L fun b L1 => if b = true then R true L1 else u ρ L1 R
variable {rest : List Expr} {t u : tT}
theorem dt_w (h : DW X G e t) : DT X G e t := ⟨h.pw.pt⟩
theorem dw_and1 (h : DT X G a t) : DW X G (.BoolOp .And [a] pos) t := ⟨pw_and1 h.pt⟩
theorem dw_or1 (h : DT X G a t) : DW X G (.BoolOp .Or [a] pos) t := ⟨pw_or1 h.pt⟩
theorem dw_and (ha : DT X G a t) (hb : DW X G (.BoolOp .And (b :: rest) pos) u) : DW X G (.BoolOp .And (a :: b :: rest) pos) (tAn t u) :=
  ⟨PW.imp (pw_and ha.pt hb.pw) fun σ H Q ⟨W, ρ, L, R, es, sr, h, k⟩ => ⟨W, ρ, L, _, es, sr, h, fun c L1 W1 H1 x1 sr1 h1 => by
    cases c with
    | true => exact ⟨W1, ρ, L1, R, es.ext sr x1, sr1, (if_pos rfl).mp h1, k.ext x1⟩
    | false => exact (k.ext x1) false L1 W1 H1 (Ext.refl _ _ _) sr1 ((if_neg Bool.false_ne_true).mp h1)⟩⟩
theorem dw_or (ha : DT X G a t) (hb : DW X G (.BoolOp .Or (b :: rest) pos) u) : DW X G (.BoolOp .Or (a :: b :: rest) pos) (tOr t u) :=
  ⟨PW.imp (pw_or ha.pt hb.pw) fun σ H Q ⟨W, ρ, L, R, es, sr, h, k⟩ => ⟨W, ρ, L, _, es, sr, h, fun c L1 W1 H1 x1 sr1 h1 => by
    cases c with
    | true => exact (k.ext x1) true L1 W1 H1 (Ext.refl _ _ _) sr1 ((if_pos rfl).mp h1)
    | false => exact ⟨W1, ρ, L1, R, es.ext sr x1, sr1, (if_neg Bool.false_ne_true).mp h1, k.ext x1⟩⟩⟩
/-- and, or, not as values (by truth) -/
def tAnV (ta tb : tE) : tE := fun ρ L R => ta ρ L fun x L1 => truD L1 x fun b L2 => if b = true then tb ρ L2 R else R x L2
def tOrV (ta tb : tE) : tE := fun ρ L R => ta ρ L fun x L1 => truD L1 x fun b L2 => if b = true then R x L2 else tb ρ L2 R
def tNtV (ta : tE) : tE := fun ρ L R => ta ρ L fun x L1 => truD L1 x fun b L2 => R (.bl (!b)) L2
theorem de_and1 {op : BoolOp} (h : DE X G a ta) : DE X G (.BoolOp op [a] pos) ta := ⟨pe_one h.pe⟩
theorem de_and (ha : DE X G a ta) (hb : DE X G (.BoolOp .And (b :: rest) pos) tb) : DE X G (.BoolOp .And (a :: b :: rest) pos) (tAnV ta tb) :=
  ⟨PE.imp (pe_andT ha.pe hb.pe) fun σ H Q ⟨W, ρ, L, R, es, sr, h, k⟩ => ⟨W, ρ, L, _, es, sr, h, fun x L1 W1 H1 v x1 sr1 is1 h1 => by
    obtain ⟨c, h2, h3⟩ := tru_is (Q := fun _ _ => True) sr1 is1 h1 fun _ _ _ _ _ _ _ => trivial
    refine ⟨c, h2, ?_⟩
    cases c with
    | true => rw [if_pos rfl]; exact ⟨W1, ρ, L1, R, es.ext sr x1, sr1, (if_pos rfl).mp h3, k.ext x1⟩
    | false => rw [if_neg Bool.false_ne_true]; exact (k.ext x1).here sr1 is1 ((if_neg Bool.false_ne_true).mp h3)⟩⟩
theorem de_or (ha : DE X G a ta) (hb : DE X G (.BoolOp .Or (b :: rest) pos) tb) : DE X G (.BoolOp .Or (a :: b :: rest) pos) (tOrV ta tb) :=
  ⟨PE.imp (pe_orT ha.pe hb.pe) fun σ H Q ⟨W, ρ, L, R, es, sr, h, k⟩ => ⟨W, ρ, L, _, es, sr, h, fun x L1 W1 H1 v x1 sr1 is1 h1 => by
    obtain ⟨c, h2, h3⟩ := tru_is (Q := fun _ _ => True) sr1 is1 h1 fun _ _ _ _ _ _ _ => trivial
    refine ⟨c, h2, ?_⟩
    cases c with
    | true => rw [if_pos rfl]; exact (k.ext x1).here sr1 is1 ((if_pos rfl).mp h3)
    | false => rw [if_neg Bool.false_ne_true]; exact ⟨W1, ρ, L1, R, es.ext sr x1, sr1, (if_neg Bool.false_ne_true).mp h3, k.ext x1⟩⟩⟩
theorem de_not (ha : DE X G a ta) : DE X G (.UnaryOp .Not a pos) (tNtV ta) :=
  ⟨PE.imp (pe_notT ha.pe) fun σ H Q ⟨W, ρ, L, R, es, sr, h, k⟩ => ⟨W, ρ, L, _, es, sr, h, fun x L1 W1 H1 v x1 sr1 is1 h1 => by
    obtain ⟨c, h2, h3⟩ := tru_is (Q := fun _ _ => True) sr1 is1 h1 fun _ _ _ _ _ _ _ => trivial
    exact ⟨c, h2, (k.ext x1).here sr1 (.bl _) h3⟩⟩⟩
def tIfE (t : tT) (ta tb : tE) : tE := fun ρ L R => t ρ L fun b L1 => if b = true then ta ρ L1 R else tb ρ L1 R
theorem de_if (hc : DT X G c t) (ha : DE X G a ta) (hb : DE X G b tb) : DE X G (.IfExp c a b pos) (tIfE t ta tb) :=
  ⟨PE.imp (pe_ifExp hc.pt ha.pe hb.pe) fun σ H Q ⟨W, ρ, L, R, es, sr, h, k⟩ => ⟨W, ρ, L, _, es, sr, h, fun c L1 W1 H1 x1 sr1 h1 => by
    cases c with
    | true => rw [if_pos rfl]; exact ⟨W1, ρ, L1, R, es.ext sr x1, sr1, (if_pos rfl).mp h1, k.ext x1⟩
    | false => rw [if_neg Bool.false_ne_true]; exact ⟨W1, ρ, L1, R, es.ext sr x1, sr1, (if_neg Bool.false_ne_true).mp h1, k.ext x1⟩⟩⟩

/-! ### argument lists, displays -/
def tNilA : tA := fun _ L R => R [] L
def tConsA (te : tE) (t : tA) : tA := fun ρ L R => te ρ L fun x L1 => t ρ L1 fun xs L2 => R (x :: xs) L2
variable {es : List Expr} {te : tE} {tt : tA}
theorem da_nil : DA X G [] tNilA := ⟨PA.imp pa_nil fun σ H Q ⟨W, ρ, L, R, es, sr, h, k⟩ => k [] L W H [] (Ext.refl _ _ _) sr .nil h⟩
theorem da_cons (ha : DE X G e te) (hr : DA X G es tt) (hs : starEach (e :: es) X.env = (false, eval e X.env) :: starEach es X.env := by rfl) : DA X G (e :: es) (tConsA te tt) :=
  ⟨PA.imp (pa_cons ha.pe hr.pa hs) fun σ H Q ⟨W, ρ, L, R, es, sr, h, k⟩ => ⟨W, ρ, L, _, es, sr, h, fun x L1 W1 H1 v x1 sr1 is1 h1 => ⟨W1, ρ, L1, _, es.ext sr x1, sr1, h1, fun xs L2 W2 H2 vs x2 sr2 is2 h2 =>
    k (x :: xs) L2 W2 H2 (v :: vs) (x1.trans x2) sr2 (.cons (is1.ext sr1 x2) is2) h2⟩⟩⟩
def tTupD (t : tA) : tE := fun ρ L R => t ρ L fun xs L1 => xs.length ≤ sizeLine ∧ R (.tup xs) L1
/-- a list that nobody will change -/
def tLstD (t : tA) : tE := fun ρ L R => t ρ L fun xs L1 => xs.length ≤ sizeLine ∧ R (.lst xs) L1
/-- a list of one's own -/
def tLstO (t : tA) : tE := fun ρ L R => t ρ L fun xs L1 => xs.length ≤ sizeLine ∧ R (.ob L1.length) (L1 ++ [.lst xs])
theorem de_tup {k} (h : DA X G es tt) : DE X G (.Tuple es k pos) (tTupD tt) :=
  ⟨PE.imp (pe_tup h.pa) fun σ H Q ⟨W, ρ, L, R, es, sr, h, k⟩ => ⟨W, ρ, L, _, es, sr, h, fun xs L1 W1 H1 vs x1 sr1 is1 h1 => ⟨by rw [is1.length]; exact h1.1, fun p hp => (k.ext x1).tup sr1 hp is1 h1.2⟩⟩⟩
theorem de_lst (h : DA X G es tt) : DE X G (.List es pos) (tLstD tt) :=
  ⟨PE.imp (pe_lst h.pa) fun σ H Q ⟨W, ρ, L, R, es, sr, h, k⟩ => ⟨W, ρ, L, _, es, sr, h, fun xs L1 W1 H1 vs x1 sr1 is1 h1 => ⟨by rw [is1.length]; exact h1.1, fun p hp => (k.ext x1).lst sr1 hp is1 h1.2⟩⟩⟩
theorem de_lstO (h : DA X G es tt) : DE X G (.List es pos) (tLstO tt) :=
  ⟨PE.imp (pe_lst h.pa) fun σ H Q ⟨W, ρ, L, R, es, sr, h, k⟩ => ⟨W, ρ, L, _, es, sr, h, fun xs L1 W1 H1 vs x1 sr1 is1 h1 => ⟨by rw [is1.length]; exact h1.1, fun p hp => (k.ext x1).own sr1 hp is1 h1.2⟩⟩⟩
end
end L2.DL

set_option Elab.async false
set_option linter.all false
set_option maxRecDepth 100000
/-! DD: + of all kinds, subscripts, slices, built-ins by value. -/
namespace L2.DL
open PySem PySem.Spec PyProof.Rows

/-- an own or frozen list's items -/
def lstOf (L : Sto) (d : D) : Option (List D) := match view L d with
  | .lst xs => some xs
  | _ => none
section
variable {K : PySem.W.Frag} {w : World} {G : Gam} {H : Hp} {W : Wd} {L : Sto}
theorem lstOf_is (sr : SR K w G H W L) {v : V} {d : D} {ds : List D} (is : Is K w H W v d) (e : lstOf L d = some ds) : ∃ a xs, v = .ref a ∧ SqL K H a xs ∧ Iss K w H W xs ds := by
  unfold lstOf at e
  split at e
  · rename_i xs h
    cases e
    exact view_lst sr is h
  · cases e
end

/-! ### + -/
/-- two lists that are read -/
def rCatL (K : PySem.W.Frag) : R2 := fun x y H Q => ∃ a b xs ys, x = .ref a ∧ y = .ref b ∧ SqL K H a xs ∧ SqL K H b ys ∧ xs.length + ys.length ≤ sizeLine ∧ ∀ p, H p = none → Q (.ref p) (upd H p (.lst (xs ++ ys)))
section
variable {X : Cx} {G : Gam}
theorem op_catL : OpR X (binaryOp .Add) (rCatL X.K) := by
  intro pins s σ H x y v u Q I rx ry h
  obtain ⟨l, b, xs, zs, rfl, rfl, hH, hB, hz, q⟩ := h
  cases rx
  cases ry
  obtain ⟨its, r, pl, _⟩ := I.list hH
  obtain ⟨its2, r2, pl2, _⟩ := I.list hB
  have e1 := r.length
  have e2 := r2.length
  obtain ⟨⟨cls, dd, data, sl⟩, ho, hc, n, hd⟩ := pl.isList
  obtain ⟨⟨cls2, dd2, data2, sl2⟩, ho2, hc2, n2, hd2⟩ := pl2.isList
  simp only at hc hd hc2 hd2
  subst hc hd hc2 hd2
  refine concat_meets ⟨_, ho, rfl⟩ ⟨_, ho2, rfl⟩ noFill_list_add seq_list_add PySem.F.slot_list_add PySem.F.entry_list_add (PySem.F.args_list_add_2 _ _) (list_addW l b its.toArray its2.toArray n n2 dd dd2 sl sl2 (by rw [List.size_toArray, List.size_toArray]; omega)) ⟨ho, ho2, ?_⟩
  have ea : its.toArray ++ its2.toArray = (its ++ its2).toArray := by simp
  rw [ea]
  exact ⟨.ref _, _, I.lnew (t' := s.toks) (r.append r2) (by rw [List.length_append]; omega), rfl, q _ I.fresh⟩
end
def oAdd : O2 := fun x y L R => match x, y with
  | .int i, .int j => R (.int (i + j)) L
  | .str a, .str b => a.length + b.length ≤ sizeLine ∧ R (.str (a ++ b)) L
  | .tup xs, .tup ys => xs.length + ys.length ≤ sizeLine ∧ R (.tup (xs ++ ys)) L
  | x, y => match lstOf L x, lstOf L y with
    | some xs, some ys => xs.length + ys.length ≤ sizeLine ∧ R (.lst (xs ++ ys)) L
    | _, _ => False
/-- the same, a new list is one's own -/
def oAddO : O2 := fun x y L R => match lstOf L x, lstOf L y with
    | some xs, some ys => xs.length + ys.length ≤ sizeLine ∧ R (.ob L.length) (L ++ [.lst (xs ++ ys)])
    | _, _ => False
theorem od_add {K w} : OpD K w oAdd (fun x y H Q => rI0 (fun i j => .int (i + j)) x y H Q ∨ (∃ i j, x = .str i ∧ y = .str j ∧ i.length + j.length ≤ sizeLine ∧ Q (.str (i ++ j)) H) ∨ rCatA K x y H Q ∨ rCatL K x y H Q) := by
  intro G W H L x y v u R Q sr ix iy h k
  unfold oAdd at h
  split at h
  · cases ix; cases iy; exact .inl ⟨_, _, rfl, rfl, k.here sr (.int _) h⟩
  · cases ix; cases iy; exact .inr (.inl ⟨_, _, rfl, rfl, h.1, k.here sr (.str _) h.2⟩)
  · rename_i xs ys
    obtain ⟨a, vs, rfl, h1, h2⟩ := view_tup (L := L) sr ix rfl
    obtain ⟨b, us, rfl, h3, h4⟩ := view_tup (L := L) sr iy rfl
    refine .inr (.inr (.inl ⟨a, b, vs, us, rfl, rfl, h1, h3, by rw [h2.length, h4.length]; exact h.1, fun e => ?_, fun e1 e2 => ?_, fun e1 e2 p hp => k.tup sr hp (h2.append h4) h.2⟩))
    · subst e
      cases h2
      exact k.here sr (.tup h3 h4) (by simpa using h.2)
    · subst e2
      cases h4
      exact k.here sr (.tup h1 h2) (by simpa using h.2)
  · split at h
    · rename_i e1 e2
      obtain ⟨a, vs, rfl, h1, h2⟩ := lstOf_is sr ix e1
      obtain ⟨b, us, rfl, h3, h4⟩ := lstOf_is sr iy e2
      exact .inr (.inr (.inr ⟨a, b, vs, us, rfl, rfl, h1, h3, by rw [h2.length, h4.length]; exact h.1, fun p hp => k.lst sr hp (h2.append h4) h.2⟩))
    · exact h.elim
theorem od_addO {K w} : OpD K w oAddO (rCatL K) := by
  intro G W H L x y v u R Q sr ix iy h k
  unfold oAddO at h
  split at h
  · rename_i e1 e2
    obtain ⟨a, vs, rfl, h1, h2⟩ := lstOf_is sr ix e1
    obtain ⟨b, us, rfl, h3, h4⟩ := lstOf_is sr iy e2
    exact ⟨a, b, vs, us, rfl, rfl, h1, h3, by rw [h2.length, h4.length]; exact h.1, fun p hp => k.own sr hp (h2.append h4) h.2⟩
  · exact h.elim
section
variable {X : Cx} {G : Gam} {a b c e : Expr} {ta tb tc : tE} {pos : Pos}
theorem de_add (ha : DE X G a ta) (hb : DE X G b tb) : DE X G (.BinOp a .Add b pos) (tB2 oAdd ta tb) := de_bin (op_add.or (op_add_str.or (op_catA.or op_catL))) od_add ha hb
theorem de_addO (ha : DE X G a ta) (hb : DE X G b tb) : DE X G (.BinOp a .Add b pos) (tB2 oAddO ta tb) := de_bin op_catL od_addO ha hb

/-! ### subscripts -/
def atD (xs : List D) : Int → Option D
  | .ofNat n => xs[n]?
  | .negSucc n => if n < xs.length then xs[xs.length - 1 - n]? else none
theorem atI_ofNat {α : Type} {xs : List α} {n : Nat} {v : α} (h : xs[n]? = some v) : atI xs (Int.ofNat n) = some v := atI_nat h
theorem atI_neg {α : Type} {xs : List α} {n : Nat} {v : α} (hn : n < xs.length) (h : xs[xs.length - 1 - n]? = some v) : atI xs (Int.negSucc n) = some v := by
  have e : ixN xs.length (Int.negSucc n) = some (xs.length - 1 - n) := by
    unfold ixN
    rw [if_neg (by omega), if_pos (by omega)]
    congr 1
    omega
  unfold atI
  rw [e]
  exact h
theorem at_is {K w H W} {vs : List V} {ds : List D} {i : Int} {d : D} (is : Iss K w H W vs ds) (e : atD ds i = some d) : ∃ v, atI vs i = some v ∧ Is K w H W v d := by
  cases i with
  | ofNat n =>
    obtain ⟨v, h1, h2⟩ := is.get (i := n) e
    exact ⟨v, atI_ofNat h1, h2⟩
  | negSucc n =>
    by_cases hn : n < ds.length
    · simp only [atD, if_pos hn] at e
      obtain ⟨v, h1, h2⟩ := is.get e
      rw [← is.length] at h1
      exact ⟨v, atI_neg (by rw [is.length]; exact hn) h1, h2⟩
    · simp only [atD, if_neg hn] at e
      cases e
def oIx : O2 := fun x y L R => match y with
  | .int i => match seqOf L x with
    | some xs => match atD xs i with
      | some v => R v L
      | none => False
    | none => False
  | _ => False
theorem od_ix {K w} : OpD K w oIx (fun x y H Q => rIxL K x y H Q ∨ rIxT K x y H Q) := by
  intro G W H L x y v u R Q sr ix iy h k
  unfold oIx at h
  split at h
  · rename_i i
    split at h
    · rename_i xs e
      split at h
      · rename_i d ed
        cases iy
        obtain ⟨a, vs, rfl, h1, h2⟩ := seq_is sr ix e
        obtain ⟨v, h3, h4⟩ := at_is h2 ed
        rcases h1 with h1 | h1
        · exact .inl ⟨a, vs, i, v, rfl, rfl, h1, h3, k.here sr h4 h⟩
        · exact .inr ⟨a, vs, i, v, rfl, rfl, h1, h3, k.here sr h4 h⟩
      · exact h.elim
    · exact h.elim
  · exact h.elim
theorem de_ix (ha : DE X G a ta) (hb : DE X G b tb) (hs : PlainIx b := by exact fun _ _ => rfl) : DE X G (.Subscript a b pos) (tB2 oIx ta tb) :=
  ⟨PE.imp (pe_ix (ix_list.or ix_tup) ha.pe hb.pe hs) fun _ _ _ h => two_imp od_ix h⟩

/-! ### slices -/
abbrev tP := En → Sto → (Option Int → Sto → Prop) → Prop
def KontP (K : PySem.W.Frag) (w : World) (G : Gam) (W : Wd) (L : Sto) (H : Hp) (R : Option Int → Sto → Prop) (Q : Option Int → Hp → Prop) : Prop :=
  ∀ o L' W' H', Ext W L H W' L' H' → SR K w G H' W' L' → R o L' → Q o H'
def liftP (K : PySem.W.Frag) (w : World) (G : Gam) (t : tP) : TO := fun σ H Q => ∃ W ρ L R, IsS K w H W ρ σ ∧ SR K w G H W L ∧ t ρ L R ∧ KontP K w G W L H R Q
structure DO (X : Cx) (G : Gam) (e : Option Expr) (t : tP) : Prop where
  po : PO X e (liftP X.K X.w G t)
def tNoP : tP := fun _ L R => R none L
def tSomeP (t : tE) : tP := fun ρ L R => t ρ L fun d L1 => match d with
  | .int i => R (some i) L1
  | _ => False
theorem PO.imp {e : Option Expr} {t t' : TO} (h : PO X e t) (i : ∀ σ H Q, t' σ H Q → t σ H Q) : PO X e t' := ⟨fun pins s σ H Q I hw => h.run pins s σ H Q I (i σ H Q hw)⟩
theorem do_none : DO X G none tNoP := ⟨PO.imp po_none fun σ H Q ⟨W, ρ, L, R, es, sr, h, k⟩ => k none L W H (Ext.refl _ _ _) sr h⟩
theorem do_some (ha : DE X G a ta) : DO X G (some a) (tSomeP ta) := ⟨PO.imp (po_some ha.pe) fun σ H Q ⟨W, ρ, L, R, es, sr, h, k⟩ => ⟨W, ρ, L, _, es, sr, h, fun d L1 W1 H1 v x1 sr1 is1 h1 => by
  cases d with
  | int i => cases is1; exact ⟨i, rfl, k (some i) L1 W1 H1 x1 sr1 h1⟩
  | _ => exact h1.elim⟩⟩
def cutD (xs : List D) (lo hi : Option Int) : List D := (xs.drop (HT.sIx xs.length 0 lo)).take (HT.sIx xs.length xs.length hi - HT.sIx xs.length 0 lo)
def oSl (x : D) (lo hi : Option Int) (L : Sto) (R : QE) : Prop := match view L x with
  | .lst xs => R (.lst (cutD xs lo hi)) L
  | .tup xs => R (.tup (cutD xs lo hi)) L
  | .str z => z.length ≤ sizeLine ∧ R (.str (cutS z lo hi)) L
  | _ => False
def tSlD (te : tE) (tl th : tP) : tE := fun ρ L R => te ρ L fun x L1 => tl ρ L1 fun l L2 => th ρ L2 fun u L3 => oSl x l u L3 R
theorem cut_is {K w H W} {vs : List V} {ds : List D} (h : Iss K w H W vs ds) (lo hi : Option Int) : Iss K w H W (cutV vs lo hi) (cutD ds lo hi) := by
  unfold cutV cutD
  rw [h.length]
  exact (h.drop _).take _
theorem sIx_all {n : Nat} {ds : List D} {lo hi : Option Int} (hn : ds.length = n) (h : HT.sIx n 0 lo = 0 ∧ HT.sIx n n hi = n) : cutD ds lo hi = ds := by
  unfold cutD
  rw [hn, h.1, h.2, List.drop_zero, Nat.sub_zero, ← hn, List.take_length]
theorem de_slice {lo hi : Option Expr} {tl th : tP} {p2 : Pos} (ha : DE X G a ta) (hl : DO X G lo tl) (hh : DO X G hi th) : DE X G (.Subscript a (.Slice lo hi none p2) pos) (tSlD ta tl th) :=
  ⟨PE.imp (pe_slice (sl_list.or (sl_tupA.or sl_str)) ha.pe hl.po hh.po) fun σ H Q ⟨W, ρ, L, R, es, sr, h, k⟩ => ⟨W, ρ, L, _, es, sr, h, fun x L1 W1 H1 v x1 sr1 is1 h1 =>
    ⟨W1, ρ, L1, _, es.ext sr x1, sr1, h1, fun l L2 W2 H2 x2 sr2 h2 => ⟨W2, ρ, L2, _, (es.ext sr x1).ext sr1 x2, sr2, h2, fun u L3 W3 H3 x3 sr3 h3 => by
      have is3 := (is1.ext sr1 x2).ext sr2 x3
      have k3 := k.ext ((x1.trans x2).trans x3)
      unfold oSl at h3
      split at h3
      · rename_i xs e
        obtain ⟨p, vs, rfl, h4, h5⟩ := view_lst sr3 is3 e
        exact .inl ⟨p, vs, rfl, h4, fun q hq => k3.lst sr3 hq (cut_is h5 l u) h3⟩
      · rename_i xs e
        obtain ⟨p, vs, rfl, h4, h5⟩ := view_tup sr3 is3 e
        refine .inr (.inl ⟨p, vs, rfl, h4, fun hw => ?_, fun hw q hq => k3.tup sr3 hq (cut_is h5 l u) h3⟩)
        rw [sIx_all (h5.length.symm) hw] at h3
        exact k3.here sr3 (.tup h4 h5) h3
      · rename_i z e
        rcases is_view sr3 is3 with q | ⟨_, _, _, _, q, _⟩
        · rw [e] at q; cases q
          exact .inr (.inr ⟨z, rfl, h3.1, k3.here sr3 (.str _) h3.2⟩)
        · rw [e] at q; cases q
      · exact h3.elim⟩⟩⟩⟩

/-! ### built-ins by value -/
abbrev OA := List D → Sto → QE → Prop
def CbD (K : PySem.W.Frag) (w : World) (o : OA) (r : List V → Hp → VK → Prop) : Prop := ∀ G W H L xs vs R Q, SR K w G H W L → Iss K w H W vs xs → o xs L R → Kont K w G W L H R Q → r vs H Q
def tCa (o : OA) (t : tA) : tE := fun ρ L R => t ρ L fun xs L1 => o xs L1 R
theorem cb_imp {K w} {o : OA} {r : List V → Hp → VK → Prop} {t : tA} (hd : CbD K w o r) {σ : L2.St} {H : Hp} {Q : VK} (h : lift K w G (tCa o t) σ H Q) : tCB r (liftA K w G t) σ H Q := by
  obtain ⟨W, ρ, L, R, es, sr, h, k⟩ := h
  exact ⟨W, ρ, L, _, es, sr, h, fun xs L1 W1 H1 vs x1 sr1 is1 h1 => hd G W1 H1 L1 xs vs R Q sr1 is1 h1 (k.ext x1)⟩
variable {es : List Expr} {tt : tA} {x : Str} {p : Pos} {id T : String} {r : List V → Hp → VK → Prop} {o : OA}
theorem de_callB (hc : CallR X (.builtin id) r) (hd : CbD X.K X.w o r) (hg : Gl X x) (hm : X.mg x = none) (hv : bootBuiltins x = some (.builtin id)) (ha : DA X G (e :: es) tt) (hn : x ≠ "__name__" := by decide) (hdb : (x == ("__debug__" : Str)) = false := by decide)
    (he : starEach (e :: es) X.env = (false, eval e X.env) :: starEach es X.env := by rfl) (hpl : (backTo pos (starEach es X.env)).any (·.1) = false := by rfl) : DE X G (.Call (.Name x p) (e :: es) [] pos) (tCa o tt) :=
  ⟨PE.imp (pe_callB hc hg hm hv ha.pa hn hdb he hpl) fun _ _ _ h => cb_imp hd h⟩
theorem de_callTy (hc : CallR X (.type T) r) (hd : CbD X.K X.w o r) (hg : Gl X x) (hm : X.mg x = none) (hv : bootBuiltins x = some (.type T)) (ha : DA X G (e :: es) tt) (hn : x ≠ "__name__" := by decide) (hdb : (x == ("__debug__" : Str)) = false := by decide)
    (he : starEach (e :: es) X.env = (false, eval e X.env) :: starEach es X.env := by rfl) (hpl : (backTo pos (starEach es X.env)).any (·.1) = false := by rfl) : DE X G (.Call (.Name x p) (e :: es) [] pos) (tCa o tt) :=
  ⟨PE.imp (pe_callTy hc hg hm hv ha.pa hn hdb he hpl) fun _ _ _ h => cb_imp hd h⟩
theorem iss1 {K w H W} {vs : List V} {d : D} (h : Iss K w H W vs [d]) : ∃ v, vs = [v] ∧ Is K w H W v d := by
  cases h with
  | cons a t => cases t; exact ⟨_, rfl, a⟩
theorem iss2 {K w H W} {vs : List V} {d e : D} (h : Iss K w H W vs [d, e]) : ∃ v u, vs = [v, u] ∧ Is K w H W v d ∧ Is K w H W u e := by
  cases h with
  | cons a t =>
    obtain ⟨u, rfl, b⟩ := iss1 t
    exact ⟨_, _, rfl, a, b⟩

/-- len -/
def lenD (L : Sto) (d : D) (R : QE) : Prop := match view L d with
  | .lst xs => R (.int xs.length) L
  | .tup xs => R (.int xs.length) L
  | .str z => z.length ≤ sizeLine ∧ R (.int z.length) L
  | _ => False
def cLen : OA := fun xs L R => match xs with
  | [d] => lenD L d R
  | _ => False
theorem cb_len {K w} : CbD K w cLen (fun xs H Q => ∃ x n, xs = [x] ∧ LenV K x H n ∧ Q (.int n) H) := by
  intro G W H L xs vs R Q sr is h k
  unfold cLen at h
  split at h
  · obtain ⟨v, rfl, i⟩ := iss1 is
    unfold lenD at h
    split at h
    · rename_i e
      obtain ⟨p, us, rfl, h4, h5⟩ := view_lst sr i e
      exact ⟨_, _, rfl, .inl ⟨_, h4, rfl⟩, k.here sr (.int _) (by rw [h5.length]; exact h)⟩
    · rename_i e
      obtain ⟨p, us, rfl, h4, h5⟩ := view_tup sr i e
      exact ⟨_, _, rfl, .inr ⟨_, h4, rfl⟩, k.here sr (.int _) (by rw [h5.length]; exact h)⟩
    · rename_i z e
      rcases is_view sr i with q | ⟨_, _, _, _, q, _⟩
      · rw [e] at q; cases q
        exact ⟨_, _, rfl, ⟨h.1, rfl⟩, k.here sr (.int _) h.2⟩
      · rw [e] at q; cases q
    · exact h.elim
  · exact h.elim
theorem de_len (hm : X.mg "len" = none) (ha : DA X G (e :: es) tt) (hg : Gl X "len" := by rfl) (he : starEach (e :: es) X.env = (false, eval e X.env) :: starEach es X.env := by rfl) (hpl : (backTo pos (starEach es X.env)).any (·.1) = false := by rfl) :
    DE X G (.Call (.Name "len" p) (e :: es) [] pos) (tCa cLen tt) := de_callB call_len cb_len hg hm PySem.boot_len ha (by decide) (by decide) he hpl
def cAbs : OA := fun xs L R => match xs with
  | [.int i] => R (.int (if i < 0 then -i else i)) L
  | _ => False
theorem cb_abs {K w} : CbD K w cAbs (fun xs H Q => ∃ i, xs = [.int i] ∧ Q (.int (if i < 0 then -i else i)) H) := by
  intro G W H L xs vs R Q sr is h k
  unfold cAbs at h
  split at h
  · obtain ⟨v, rfl, i⟩ := iss1 is
    cases i
    exact ⟨_, rfl, k.here sr (.int _) h⟩
  · exact h.elim
theorem de_abs (hm : X.mg "abs" = none) (ha : DA X G (e :: es) tt) (hg : Gl X "abs" := by rfl) (he : starEach (e :: es) X.env = (false, eval e X.env) :: starEach es X.env := by rfl) (hpl : (backTo pos (starEach es X.env)).any (·.1) = false := by rfl) :
    DE X G (.Call (.Name "abs" p) (e :: es) [] pos) (tCa cAbs tt) := de_callB call_abs cb_abs hg hm boot_abs ha (by decide) (by decide) he hpl
def cInt : OA := fun xs L R => match xs with
  | [.int i] => R (.int i) L
  | [.bl b] => R (.int (if b then 1 else 0)) L
  | _ => False
theorem cb_int {K w} : CbD K w cInt (fun xs H Q => (∃ i, xs = [.int i] ∧ Q (.int i) H) ∨ ∃ k, xs = [.bl k] ∧ Q (.int (if k then 1 else 0)) H) := by
  intro G W H L xs vs R Q sr is h k
  unfold cInt at h
  split at h
  · obtain ⟨v, rfl, i⟩ := iss1 is
    cases i
    exact .inl ⟨_, rfl, k.here sr (.int _) h⟩
  · obtain ⟨v, rfl, i⟩ := iss1 is
    cases i
    exact .inr ⟨_, rfl, k.here sr (.int _) h⟩
  · exact h.elim
theorem de_intC (hm : X.mg "int" = none) (ha : DA X G (e :: es) tt) (hg : Gl X "int" := by rfl) (he : starEach (e :: es) X.env = (false, eval e X.env) :: starEach es X.env := by rfl) (hpl : (backTo pos (starEach es X.env)).any (·.1) = false := by rfl) :
    DE X G (.Call (.Name "int" p) (e :: es) [] pos) (tCa cInt tt) := de_callTy call_int1 cb_int hg hm PyProof.Rows.boot_int ha (by decide) (by decide) he hpl
def cMax : OA := fun xs L R => match xs with
  | [.int i, .int j] => R (.int (if j > i then j else i)) L
  | _ => False
def cMin : OA := fun xs L R => match xs with
  | [.int i, .int j] => R (.int (if j < i then j else i)) L
  | _ => False
theorem cb_max {K w} : CbD K w cMax (fun xs H Q => ∃ i j, xs = [.int i, .int j] ∧ Q (.int (if j > i then j else i)) H) := by
  intro G W H L xs vs R Q sr is h k
  unfold cMax at h
  split at h
  · obtain ⟨v, u, rfl, i, j⟩ := iss2 is
    cases i; cases j
    exact ⟨_, _, rfl, k.here sr (.int _) h⟩
  · exact h.elim
theorem cb_min {K w} : CbD K w cMin (fun xs H Q => ∃ i j, xs = [.int i, .int j] ∧ Q (.int (if j < i then j else i)) H) := by
  intro G W H L xs vs R Q sr is h k
  unfold cMin at h
  split at h
  · obtain ⟨v, u, rfl, i, j⟩ := iss2 is
    cases i; cases j
    exact ⟨_, _, rfl, k.here sr (.int _) h⟩
  · exact h.elim
theorem de_max2 (hc : X.calm = true) (hm : X.mg "max" = none) (ha : DA X G (e :: es) tt) (hg : Gl X "max" := by rfl) (he : starEach (e :: es) X.env = (false, eval e X.env) :: starEach es X.env := by rfl) (hpl : (backTo pos (starEach es X.env)).any (·.1) = false := by rfl) :
    DE X G (.Call (.Name "max" p) (e :: es) [] pos) (tCa cMax tt) := de_callB (call_max2 hc) cb_max hg hm boot_max ha (by decide) (by decide) he hpl
theorem de_min2 (hc : X.calm = true) (hm : X.mg "min" = none) (ha : DA X G (e :: es) tt) (hg : Gl X "min" := by rfl) (he : starEach (e :: es) X.env = (false, eval e X.env) :: starEach es X.env := by rfl) (hpl : (backTo pos (starEach es X.env)).any (·.1) = false := by rfl) :
    DE X G (.Call (.Name "min" p) (e :: es) [] pos) (tCa cMin tt) := de_callB (call_min2 hc) cb_min hg hm boot_min ha (by decide) (by decide) he hpl

/-! ### isinstance -/
/-- the built-in type's name of a value -/
def tyD (L : Sto) (d : D) : Option String := match view L d with
  | .non => some "NoneType"
  | .bl _ => some "bool"
  | .int _ => some "int"
  | .str _ => some "str"
  | .lst _ => some "list"
  | .tup _ => some "tuple"
  | _ => none
def isTy (t c : String) : Bool := t == c || (t == "bool" && c == "int")
theorem ty_is {K w G H W L} (sr : SR K w G H W L) {v : V} {d : D} {t : String} (is : Is K w H W v d) (e : tyD L d = some t) : TyX K H v (.type t) ∧ t ∈ ["NoneType", "bool", "int", "str", "list", "tuple"] := by
  unfold tyD at e
  split at e
  all_goals first | (cases e; done) | skip
  all_goals rename_i e2
  all_goals cases e
  · rcases is_view sr is with q | ⟨_, _, _, _, q, _⟩
    · rw [e2] at q; cases q; exact ⟨.base .non, by decide⟩
    · rw [e2] at q; cases q
  · rcases is_view sr is with q | ⟨_, _, _, _, q, _⟩
    · rw [e2] at q; cases q; exact ⟨.base (.bl _), by decide⟩
    · rw [e2] at q; cases q
  · rcases is_view sr is with q | ⟨_, _, _, _, q, _⟩
    · rw [e2] at q; cases q; exact ⟨.base (.int _), by decide⟩
    · rw [e2] at q; cases q
  · rcases is_view sr is with q | ⟨_, _, _, _, q, _⟩
    · rw [e2] at q; cases q; exact ⟨.base (.str _), by decide⟩
    · rw [e2] at q; cases q
  · obtain ⟨p, us, rfl, h4, h5⟩ := view_lst sr is e2
    refine ⟨?_, by decide⟩
    rcases h4 with (h4 | ⟨o, h4⟩) | ⟨o, its, n, h4, h6, _⟩
    · exact .base (.lst h4)
    · exact .base (.frz h4)
    · exact .kList h4 h6
  · obtain ⟨p, us, rfl, h4, h5⟩ := view_tup sr is e2
    refine ⟨?_, by decide⟩
    rcases h4 with (h4 | ⟨o, h4⟩) | ⟨o, its, n, h4, h6, _⟩
    · exact .base (.tup h4)
    · exact .fTuple h4
    · exact .kTuple h4 h6
theorem kit_is {K : PySem.W.Frag} : ∀ t ∈ (["NoneType", "bool", "int", "str", "list", "tuple"] : List String), ∀ c ∈ (["bool", "int", "str", "list", "tuple"] : List String), PySem.W.kitOne K (.type t) (.type c) = some (isTy t c) := by
  have h : ∀ t ∈ (["NoneType", "bool", "int", "str", "list", "tuple"] : List String), ∀ c ∈ (["bool", "int", "str", "list", "tuple"] : List String), kitB t c = some (isTy t c) := by decide +kernel
  exact fun t ht c hc => kit_ty (h t ht c hc)
def isiD (L : Sto) (d c : D) (R : QE) : Prop := match c, tyD L d with
  | .ty c, some t => c ∈ (["bool", "int", "str", "list", "tuple"] : List String) ∧ R (.bl (isTy t c)) L
  | _, _ => False
def cIsi : OA := fun xs L R => match xs with
  | [d, c] => isiD L d c R
  | _ => False
theorem cb_isi {K w} : CbD K w cIsi (rIsi K) := by
  intro G W H L xs vs R Q sr is h k
  unfold cIsi at h
  split at h
  · obtain ⟨v, u, rfl, i, j⟩ := iss2 is
    unfold isiD at h
    split at h
    · rename_i c t e
      obtain ⟨hc, h⟩ := h
      cases j
      obtain ⟨t1, t2⟩ := ty_is sr i e
      exact ⟨v, .ty c, _, _, _, rfl, .ty c, t1, kit_is t t2 c hc, k.here sr (.bl _) h⟩
    · exact h.elim
  · exact h.elim
theorem de_isi (hm : X.mg "isinstance" = none) (ha : DA X G (e :: es) tt) (hg : Gl X "isinstance" := by rfl) (he : starEach (e :: es) X.env = (false, eval e X.env) :: starEach es X.env := by rfl) (hpl : (backTo pos (starEach es X.env)).any (·.1) = false := by rfl) :
    DE X G (.Call (.Name "isinstance" p) (e :: es) [] pos) (tCa cIsi tt) := de_callB call_isi cb_isi hg hm boot_isinstance ha (by decide) (by decide) he hpl
/-- isinstance(x, (S, T)) -/
def isiD2 (L : Sto) (d c : D) (R : QE) : Prop := match c, tyD L d with
  | .tup [.ty c, .ty c'], some t => (c ∈ (["bool", "int", "str", "list", "tuple"] : List String) ∧ c' ∈ (["bool", "int", "str", "list", "tuple"] : List String)) ∧ R (.bl (isTy t c || isTy t c')) L
  | _, _ => False
def cIsi2 : OA := fun xs L R => match xs with
  | [d, c] => isiD2 L d c R
  | _ => False
theorem kit_any {K : PySem.W.Frag} {t c c' : String} (ht : t ∈ (["NoneType", "bool", "int", "str", "list", "tuple"] : List String)) (h1 : c ∈ (["bool", "int", "str", "list", "tuple"] : List String)) (h2 : c' ∈ (["bool", "int", "str", "list", "tuple"] : List String)) :
    PySem.W.kitAny K (.type t) [.type c, .type c'] = some (isTy t c || isTy t c') := by
  refine kitAny_cons (b := isTy t c) (kit_is t ht c h1) (fun e => ?_) fun e => by rw [e, Bool.true_or]
  rw [e, Bool.false_or]
  exact kitAny_cons (b := isTy t c') (kit_is t ht c' h2) (fun e => by rw [e]; exact kitAny_nil) fun e => e
def rIsiS (K : PySem.W.Frag) : List V → Hp → VK → Prop := fun xs H Q => ∃ (x : V) (tp : Addr) (cs : List V) (t : Value) (us : List Value) (b : Bool), xs = [x, .ref tp] ∧ SqT K H tp cs ∧ Paired ClsV cs us ∧ TyX K H x t ∧ PySem.W.kitAny K t us = some b ∧ Q (.bl b) H
theorem call_isiS : CallR X (.builtin "isinstance") (rIsiS X.K) := by
  intro pins s σ H xs us Q I r h
  obtain ⟨x, tp, cs, t, ws, b, rfl, hT, k, ty, e, q⟩ := h
  obtain ⟨u1, u2, rfl, r1, r2⟩ := vals2 r
  cases (show u2 = Value.ref tp from r2)
  obtain ⟨P, Z, p, hx⟩ := kit_of I r1 ty
  obtain ⟨its, rv, ⟨o, h1, h2, n, h3⟩, _⟩ := I.tuple hT
  have e3 := ClsV.all k rv
  subst e3
  obtain ⟨oc, od, dt, sl⟩ := o
  simp only at h2 h3
  subst h2 h3
  exact PySem.W.kia_tup Z I.kIn p h1 e hx fun tk => ⟨.bl b, H, I.tok tk, rfl, q⟩
theorem cb_isi2 {K w} : CbD K w cIsi2 (rIsiS K) := by
  intro G W H L xs vs R Q sr is h k
  unfold cIsi2 at h
  split at h
  · obtain ⟨v, u, rfl, i, j⟩ := iss2 is
    unfold isiD2 at h
    split at h
    · rename_i c c' t e
      obtain ⟨⟨hc, hc'⟩, h⟩ := h
      obtain ⟨t1, t2⟩ := ty_is sr i e
      cases j with
      | tup hs hi =>
        obtain ⟨v1, v2, rfl, i1, i2⟩ := iss2 hi
        cases i1; cases i2
        exact ⟨v, _, _, _, _, _, rfl, hs, .cons (.ty c) (.cons (.ty c') .nil), t1, kit_any t2 hc hc', k.here sr (.bl _) h⟩
    · exact h.elim
  · exact h.elim
theorem de_isi2 (hm : X.mg "isinstance" = none) (ha : DA X G (e :: es) tt) (hg : Gl X "isinstance" := by rfl) (he : starEach (e :: es) X.env = (false, eval e X.env) :: starEach es X.env := by rfl) (hpl : (backTo pos (starEach es X.env)).any (·.1) = false := by rfl) :
    DE X G (.Call (.Name "isinstance" p) (e :: es) [] pos) (tCa cIsi2 tt) := de_callB call_isiS cb_isi2 hg hm boot_isinstance ha (by decide) (by decide) he hpl
end
end L2.DL

set_option Elab.async false
set_option linter.all false
set_option maxRecDepth 100000
/-! DF: targets, statements, loops, comprehensions. -/
namespace L2.DL
open PySem PySem.Spec PyProof.Rows

/-! ### targets -/
section
variable {K : PySem.W.Frag} {w : World} {G : Gam} {H H' : Hp} {W W' : Wd} {L L' : Sto}
abbrev tGs := List D → En → Sto → (En → Sto → Prop) → Prop
def liftGs (K : PySem.W.Frag) (w : World) (G : Gam) (t : tGs) : TGs := fun vs σ H Q => ∃ W ρ L ds R, IsS K w H W ρ σ ∧ SR K w G H W L ∧ Iss K w H W vs ds ∧ t ds ρ L R ∧ KontN K w G W L H R Q
end
structure DGs (X : Cx) (G : Gam) (ts : List Expr) (t : tGs) : Prop where
  pgs : PGs X ts (liftGs X.K X.w G t)
section
variable {X : Cx} {G : Gam} {a b c e : Expr} {ta tb tc te : tE} {pos : Pos}
theorem PGs.imp {ts : List Expr} {t t' : TGs} (h : PGs X ts t) (i : ∀ vs σ H Q, t' vs σ H Q → t vs σ H Q) : PGs X ts t' := ⟨fun pins s σ H v u Q I r hw => h.run pins s σ H v u Q I r (i v σ H Q hw)⟩
def gNm (i : Nat) : tG := fun d ρ L Q => Q (ρ.set i (some d)) L
theorem dg_name {i : Nat} {x : Str} (hN : X.N.Nodup) (hi : X.N[i]? = some x) (hx : Loc X.env.scope x := by first | exact .inl rfl | exact .inr rfl) (hf : X.fn x = true ∨ X.env.scope.names.lookup x = some .local := by first | exact .inl rfl | exact .inr rfl | assumption) : DG X G (.Name x pos) (gNm i) :=
  ⟨PG.imp (pg_name hN hi hx hf) fun v σ H Q ⟨W, ρ, L, d, R, es, sr, is, h, k⟩ => k _ L W H _ (Ext.refl _ _ _) (es.set is i) sr h⟩
def gNilD : tGs := fun ds ρ L Q => match ds with
  | [] => Q ρ L
  | _ => False
def gConsD (t : tG) (u : tGs) : tGs := fun ds ρ L Q => match ds with
  | d :: r => t d ρ L fun ρ1 L1 => u r ρ1 L1 Q
  | [] => False
theorem dgs_nil : DGs X G [] gNilD := ⟨PGs.imp pgs_nil fun vs σ H Q ⟨W, ρ, L, ds, R, es, sr, is, h, k⟩ => by
  cases is with
  | nil => exact ⟨rfl, k _ L W H _ (Ext.refl _ _ _) es sr h⟩
  | cons _ _ => exact h.elim⟩
theorem dgs_cons {ts : List Expr} {t : tG} {u : tGs} (h1 : DG X G e t) (h2 : DGs X G ts u) (hs : (assignEach (e :: ts) X.env).map (·.2) = assign e X.env :: (assignEach ts X.env).map (·.2) := by rfl) : DGs X G (e :: ts) (gConsD t u) :=
  ⟨PGs.imp (pgs_cons h1.pg h2.pgs hs) fun vs σ H Q ⟨W, ρ, L, ds, R, es, sr, is, h, k⟩ => by
    cases is with
    | nil => exact h.elim
    | cons i is => exact ⟨_, _, rfl, W, ρ, L, _, _, es, sr, i, h, fun ρ1 L1 W1 H1 σ1 x1 es1 sr1 h1 => ⟨W1, ρ1, L1, _, R, es1, sr1, is.ext sr x1, h1, k.ext x1⟩⟩⟩
def gTpD (n : Nat) (t : tGs) : tG := fun d ρ L Q => match d with
  | .tup xs => xs.length = n ∧ t xs ρ L Q
  | _ => False
theorem dg_tup {ts : List Expr} {k : Nat} {t : tGs} {n : Nat} (hc : X.calm = true) (h : DGs X G ts t) (hn : (assignEach ts X.env).length = n := by rfl) (hst : (assignEach ts X.env).findIdx? (·.1) = none := by rfl) : DG X G (.Tuple ts k pos) (gTpD n t) :=
  ⟨PG.imp (pg_tup hc h.pgs hn hst) fun v σ H Q ⟨W, ρ, L, d, R, es, sr, is, h, k⟩ => by
    cases d with
    | tup xs =>
      cases is with
      | tup hs hi => exact ⟨_, _, rfl, hs, by rw [hi.length]; exact h.1, W, ρ, L, _, R, es, sr, hi, h.2, k⟩
    | _ => exact h.elim⟩
/-- a store into an own list -/
def posD (n : Nat) : Int → Option Nat
  | .ofNat j => if j < n then some j else none
  | .negSucc j => if j < n then some (n - 1 - j) else none
theorem ixN_pos {n : Nat} {i : Int} {j : Nat} (h : posD n i = some j) : ixN n i = some j := by
  cases i with
  | ofNat k =>
    by_cases hk : k < n
    · simp only [posD, if_pos hk] at h
      cases h
      unfold ixN
      rw [if_pos (show (0 : Int) ≤ Int.ofNat j from Int.natCast_nonneg j), if_pos (show Int.ofNat j < (n : Int) from Int.ofNat_lt.mpr hk)]
      rfl
    · simp only [posD, if_neg hk] at h; cases h
  | negSucc k =>
    by_cases hk : k < n
    · simp only [posD, if_pos hk] at h
      cases h
      unfold ixN
      rw [if_neg (by omega), if_pos (by omega)]
      congr 1
      omega
    · simp only [posD, if_neg hk] at h; cases h
abbrev O3 := D → D → D → Sto → (Sto → Prop) → Prop
def SetD (K : PySem.W.Frag) (w : World) (o : O3) (r : V → V → V → Hp → (Hp → Prop) → Prop) : Prop :=
  ∀ G W H L x i d xv iv v (R : Sto → Prop) (Q : Hp → Prop), SR K w G H W L → Is K w H W xv x → Is K w H W iv i → Is K w H W v d → o x i d L R →
    (∀ L' W' H', Ext W L H W' L' H' → SR K w G H' W' L' → R L' → Q H') → r xv iv v H Q
def gSb (ta ti : tE) (o : O3) : tG := fun d ρ L Q => ta ρ L fun x L1 => ti ρ L1 fun i L2 => o x i d L2 fun L3 => Q ρ L3
theorem dg_sub {ti : tE} {i : Expr} {o : O3} {r : V → V → V → Hp → (Hp → Prop) → Prop} (hr : PSet X r) (hd : SetD X.K X.w o r) (ha : DE X G a ta) (hi : DE X G i ti)
    (hz : ∀ v, assign (.Subscript a i pos) X.env v = (do
      let ov ← holding [v] (eval a X.env)
      let iv ← holding [v, ov] (eval i X.env)
      standAt pos
      holding [v, ov, iv] (setItem ov iv v)
      release [v, ov, iv] []) := by intro _; rfl) : DG X G (.Subscript a i pos) (gSb ta ti o) :=
  ⟨PG.imp (pg_sub ha.pe hi.pe hr hz) fun v σ H Q ⟨W, ρ, L, d, R, es, sr, is, h, k⟩ => ⟨W, ρ, L, _, es, sr, h, fun x L1 W1 H1 xv x1 sr1 is1 h1 => ⟨W1, ρ, L1, _, es.ext sr x1, sr1, h1, fun i L2 W2 H2 iv x2 sr2 is2 h2 =>
    hd G W2 H2 L2 x i d xv iv v _ _ sr2 (is1.ext sr1 x2) is2 ((is.ext sr x1).ext sr1 x2) h2 fun L3 W3 H3 x3 sr3 h3 => k ρ L3 W3 H3 σ ((x1.trans x2).trans x3) (((es.ext sr x1).ext sr1 x2).ext sr2 x3) sr3 h3⟩⟩⟩
def sLst : O3 := fun x i d L Q => match x, i with
  | .ob n, .int k => match L[n]? with
    | some (.lst xs) => match posD xs.length k with
      | some j => Q (L.set n (.lst (xs.set j d)))
      | none => False
    | _ => False
  | _, _ => False
theorem sd_lst {K w} : SetD K w sLst rSetL := by
  intro G W H L x i d xv iv v R Q sr ix ii iv' h k
  unfold sLst at h
  split at h
  · rename_i n z
    split at h
    · rename_i xs e
      split at h
      · rename_i j ej
        cases ix with
        | ob hm =>
          cases ii
          obtain ⟨vs, h1, h2⟩ := sr.ok _ _ _ hm e
          refine ⟨_, vs, z, j, rfl, rfl, h1, by rw [h2.length]; exact ixN_pos ej, ?_⟩
          have ex := Ext.set (o := .lst (xs.set j d)) (ho := .lst (vs.set j v)) (H := H) hm e (by intro z; cases z)
          exact k _ W _ ex (sr.set hm e (by intro z; cases z) ⟨_, upd_same, (h2.set iv' j).ext sr ex⟩) h
      · exact h.elim
    · exact h.elim
  · exact h.elim
theorem dg_subL {ti : tE} {i : Expr} (ha : DE X G a ta) (hi : DE X G i ti)
    (hz : ∀ v, assign (.Subscript a i pos) X.env v = (do
      let ov ← holding [v] (eval a X.env)
      let iv ← holding [v, ov] (eval i X.env)
      standAt pos
      holding [v, ov, iv] (setItem ov iv v)
      release [v, ov, iv] []) := by intro _; rfl) : DG X G (.Subscript a i pos) (gSb ta ti sLst) := dg_sub set_list sd_lst ha hi hz

/-! ### statements -/
variable {st : Stmt} {sts : List Stmt} {t u : tS} {tt : tT}
def tNx : tS := fun DD ρ L => DD.nx ρ L
def tSq (t u : tS) : tS := fun DD ρ L => t { DD with nx := u DD } ρ L
theorem liftS.go {K w G} {σ : L2.St} {H : Hp} {D : Ends} {W : Wd} {ρ : En} {L : Sto} {DD : DEnds} {t : tS} (es : IsS K w H W ρ σ) (sr : SR K w G H W L) (h : t DD ρ L) (k : KontS K w G W L H DD D) : liftS K w G t D σ H := ⟨W, ρ, L, DD, es, sr, h, k⟩
theorem dss_nil : DSs X G [] tNx := ⟨PSs.imp pss_nil fun D σ H ⟨W, ρ, L, DD, es, sr, h, k⟩ => k.nx ρ L W H σ (Ext.refl _ _ _) es sr h⟩
theorem dss_cons (h1 : DS X G st t) (h2 : DSs X G sts u) : DSs X G (st :: sts) (tSq t u) :=
  ⟨PSs.imp (pss_cons h1.ps h2.pss) fun D σ H ⟨W, ρ, L, DD, es, sr, h, k⟩ => ⟨W, ρ, L, _, es, sr, h, ⟨fun ρ1 L1 W1 H1 σ1 x1 es1 sr1 h1 => ⟨W1, ρ1, L1, DD, es1, sr1, h1, k.ext x1⟩, k.rt, k.bk, k.ct⟩⟩⟩
theorem dss_one (h1 : DS X G st t) : DSs X G [st] t := ⟨pss_one h1.ps⟩
theorem ds_pass : DS X G (.Pass pos) tNx := ⟨PS.imp ps_pass fun D σ H ⟨W, ρ, L, DD, es, sr, h, k⟩ => k.nx ρ L W H σ (Ext.refl _ _ _) es sr h⟩
def tBk : tS := fun DD ρ L => DD.bk ρ L
def tCt : tS := fun DD ρ L => DD.ct ρ L
theorem ds_break : DS X G (.Break pos) tBk := ⟨PS.imp ps_break fun D σ H ⟨W, ρ, L, DD, es, sr, h, k⟩ => k.bk ρ L W H σ (Ext.refl _ _ _) es sr h⟩
theorem ds_continue : DS X G (.Continue pos) tCt := ⟨PS.imp ps_continue fun D σ H ⟨W, ρ, L, DD, es, sr, h, k⟩ => k.ct ρ L W H σ (Ext.refl _ _ _) es sr h⟩
def tDp (te : tE) : tS := fun DD ρ L => te ρ L fun _ L1 => DD.nx ρ L1
theorem ds_expr (he : DE X G e te) (hs : swapsWith e none pos.line X.env = pure false := by rfl) : DS X G (.Expr e pos) (tDp te) :=
  ⟨PS.imp (ps_expr he.pe hs) fun D σ H ⟨W, ρ, L, DD, es, sr, h, k⟩ => ⟨W, ρ, L, _, es, sr, h, fun d L1 W1 H1 v x1 sr1 is1 h1 => k.nx ρ L1 W1 H1 σ x1 (es.ext sr x1) sr1 h1⟩⟩
def tRt (te : tE) : tS := fun DD ρ L => te ρ L DD.rt
theorem ds_ret (he : DE X G e te) : DS X G (.Return (some e) pos) (tRt te) := ⟨PS.imp (ps_ret he.pe) fun D σ H ⟨W, ρ, L, DD, es, sr, h, k⟩ => ⟨W, ρ, L, _, es, sr, h, k.rt⟩⟩
def tRtN : tS := fun DD _ L => DD.rt .non L
theorem ds_retN : DS X G (.Return none pos) tRtN := ⟨PS.imp ps_retN fun D σ H ⟨W, ρ, L, DD, es, sr, h, k⟩ => k.rt.here sr .non h⟩
def tIfD (c : tT) (t u : tS) : tS := fun DD ρ L => c ρ L fun b L1 => if b = true then t DD ρ L1 else u DD ρ L1
theorem ds_if {p q : List Stmt} (hc : DT X G c tt) (ha : DSs X G p t) (hb : DSs X G q u) : DS X G (.If c p q pos) (tIfD tt t u) :=
  ⟨PS.imp (ps_if hc.pt ha.pss hb.pss) fun D σ H ⟨W, ρ, L, DD, es, sr, h, k⟩ => ⟨W, ρ, L, _, es, sr, h, fun b L1 W1 H1 x1 sr1 h1 => by
    cases b with
    | true => rw [if_pos rfl]; exact ⟨W1, ρ, L1, DD, es.ext sr x1, sr1, (if_pos rfl).mp h1, k.ext x1⟩
    | false => rw [if_neg Bool.false_ne_true]; exact ⟨W1, ρ, L1, DD, es.ext sr x1, sr1, (if_neg Bool.false_ne_true).mp h1, k.ext x1⟩⟩⟩
def tNo : tS := fun _ _ _ => False
theorem ds_never : DS X G st tNo := ⟨PS.imp ps_never fun D σ H ⟨W, ρ, L, DD, es, sr, h, k⟩ => h.elim⟩
theorem dss_never : DSs X G sts tNo := ⟨PSs.imp pss_never fun D σ H ⟨W, ρ, L, DD, es, sr, h, k⟩ => h.elim⟩
/-- name = e -/
def tSt (te : tE) (i : Nat) : tS := fun DD ρ L => te ρ L fun d L1 => DD.nx (ρ.set i (some d)) L1
theorem ds_set {i : Nat} {x : Str} {pos' : Pos} (hN : X.N.Nodup) (hi : X.N[i]? = some x) (he : DE X G e te) (hx : Loc X.env.scope x := by first | exact .inl rfl | exact .inr rfl) (hs : swapsWith e (some (.Name x pos')) pos.line X.env = pure false := by rfl) (hf : X.fn x = true ∨ X.env.scope.names.lookup x = some .local := by first | exact .inl rfl | exact .inr rfl | assumption) :
    DS X G (.Assign [.Name x pos'] e pos) (tSt te i) :=
  ⟨PS.imp (ps_set hN hi hx he.pe hs hf) fun D σ H ⟨W, ρ, L, DD, es, sr, h, k⟩ => ⟨W, ρ, L, _, es, sr, h, fun d L1 W1 H1 v x1 sr1 is1 h1 => k.nx _ L1 W1 H1 _ x1 ((es.ext sr x1).set is1 i) sr1 h1⟩⟩
def tAs (te : tE) (g : tG) : tS := fun DD ρ L => te ρ L fun d L1 => g d ρ L1 DD.nx
theorem ds_asg {tg : Expr} {g : tG} (he : DE X G e te) (hg : DG X G tg g) (hs : swapsWithSole [tg] e pos.line X.env = pure false := by rfl) (hw : swappedStores [tg] e X.env = pure none := by rfl) (h1 : (assignEach [tg] X.env).map (·.2) = [assign tg X.env] := by rfl) :
    DS X G (.Assign [tg] e pos) (tAs te g) :=
  ⟨PS.imp (ps_asg he.pe hg.pg hs hw h1) fun D σ H ⟨W, ρ, L, DD, es, sr, h, k⟩ => ⟨W, ρ, L, _, es, sr, h, fun d L1 W1 H1 v x1 sr1 is1 h1 => ⟨W1, ρ, L1, d, _, es.ext sr x1, sr1, is1, h1, k.nx.ext x1⟩⟩⟩
/-- a, b = e1, e2 of plain local names -/
def tP2 (i j : Nat) (t : tA) : tS := fun DD ρ L => t ρ L fun ds L1 => match ds with
  | [d, e] => DD.nx ((ρ.set i (some d)).set j (some e)) L1
  | _ => False
theorem ds_par {i j : Nat} {x y : Str} {t : tA} {px py pt : Pos} {kt k2 pt2} (hc : X.calm = true) (hN : X.N.Nodup) (hi : X.N[i]? = some x) (hj : X.N[j]? = some y) (hij : i ≠ j)
    (hx : X.env.scope.names.lookup x = some .local) (hy : X.env.scope.names.lookup y = some .local) (ha : DA X G [a, b] t)
    (hw : swappedStores [.Tuple [.Name x px, .Name y py] kt pt] (.Tuple [a, b] k2 pt2) X.env = pure (some [x, y]))
    (hs : swapsWithSole [.Tuple [.Name x px, .Name y py] kt pt] (.Tuple [a, b] k2 pt2) pos.line X.env = pure false := by rfl) : DS X G (.Assign [.Tuple [.Name x px, .Name y py] kt pt] (.Tuple [a, b] k2 pt2) pos) (tP2 i j t) :=
  ⟨PS.imp (ps_par hc hN hi hj hij hx hy ha.pa hw hs) fun D σ H ⟨W, ρ, L, DD, es, sr, h, k⟩ => ⟨W, ρ, L, _, es, sr, h, fun ds L1 W1 H1 vs x1 sr1 is1 h1 => by
    split at h1
    · obtain ⟨v, u, rfl, i1, i2⟩ := iss2 is1
      exact ⟨v, u, rfl, k.nx _ L1 W1 H1 _ x1 (((es.ext sr x1).set i1 i).set i2 j) sr1 h1⟩
    · exact h1.elim⟩⟩
def tP3 (i j l : Nat) (t : tA) : tS := fun DD ρ L => t ρ L fun ds L1 => match ds with
  | [d, e, f] => DD.nx (((ρ.set i (some d)).set j (some e)).set l (some f)) L1
  | _ => False
theorem iss3 {K w H W} {vs : List V} {d e f : D} (h : Iss K w H W vs [d, e, f]) : ∃ v u x, vs = [v, u, x] ∧ Is K w H W v d ∧ Is K w H W u e ∧ Is K w H W x f := by
  cases h with
  | cons a t =>
    obtain ⟨u, x, rfl, b, c⟩ := iss2 t
    exact ⟨_, _, _, rfl, a, b, c⟩
theorem ds_par3 {i j l : Nat} {x y z : Str} {t : tA} {px py pz pt : Pos} {kt k2 pt2} (hc : X.calm = true) (hN : X.N.Nodup) (hi : X.N[i]? = some x) (hj : X.N[j]? = some y) (hl : X.N[l]? = some z) (hij : i ≠ j) (hil : i ≠ l) (hjl : j ≠ l)
    (hx : X.env.scope.names.lookup x = some .local) (hy : X.env.scope.names.lookup y = some .local) (hz : X.env.scope.names.lookup z = some .local) (ha : DA X G [a, b, c] t)
    (hw : swappedStores [.Tuple [.Name x px, .Name y py, .Name z pz] kt pt] (.Tuple [a, b, c] k2 pt2) X.env = pure (some [x, y, z]))
    (hs : swapsWithSole [.Tuple [.Name x px, .Name y py, .Name z pz] kt pt] (.Tuple [a, b, c] k2 pt2) pos.line X.env = pure false := by rfl) : DS X G (.Assign [.Tuple [.Name x px, .Name y py, .Name z pz] kt pt] (.Tuple [a, b, c] k2 pt2) pos) (tP3 i j l t) :=
  ⟨PS.imp (ps_par3 hc hN hi hj hl hij hil hjl hx hy hz ha.pa hw hs) fun D σ H ⟨W, ρ, L, DD, es, sr, h, k⟩ => ⟨W, ρ, L, _, es, sr, h, fun ds L1 W1 H1 vs x1 sr1 is1 h1 => by
    split at h1
    · obtain ⟨v, u, z, rfl, i1, i2, i3⟩ := iss3 is1
      exact ⟨v, u, z, rfl, k.nx _ L1 W1 H1 _ x1 ((((es.ext sr x1).set i1 i).set i2 j).set i3 l) sr1 h1⟩
    · exact h1.elim⟩⟩

/-! ### while -/
def tWh (c : tT) (tb : tS) : tS := fun DD ρ L => ∃ F : Nat → En → Sto → Prop, (∃ m, F m ρ L) ∧ ∀ m ρ L, F m ρ L →
  c ρ L fun b L1 => if b = true then tb { DD with nx := fun ρ' L' => ∃ m', m' < m ∧ F m' ρ' L', ct := fun ρ' L' => ∃ m', m' < m ∧ F m' ρ' L', bk := DD.nx } ρ L1 else DD.nx ρ L1
theorem ds_while {body : List Stmt} {tb : tS} (hp : PassesOwn (model X.prog X.w) X.A X.env X.xe) (hc : DT X G c tt) (hb : DSs X G body tb) : DS X G (.While c body [] pos) (tWh tt tb) :=
  ⟨PS.imp (ps_while hp hc.pt hb.pss) fun D σ H ⟨W, ρ, L, DD, es, sr, h, k⟩ => by
    obtain ⟨F, ⟨m0, f0⟩, turn⟩ := h
    refine ⟨fun m σ' H' => ∃ W' ρ' L', Ext W L H W' L' H' ∧ IsS X.K X.w H' W' ρ' σ' ∧ SR X.K X.w G H' W' L' ∧ F m ρ' L', ⟨m0, W, ρ, L, Ext.refl _ _ _, es, sr, f0⟩, ?_⟩
    rintro m σ1 H1 ⟨W1, ρ1, L1, x1, es1, sr1, f1⟩
    refine ⟨W1, ρ1, L1, _, es1, sr1, turn m ρ1 L1 f1, fun b L2 W2 H2 x2 sr2 h2 => ?_⟩
    cases b with
    | true =>
      rw [if_pos rfl]
      have h2 := (if_pos rfl).mp h2
      refine ⟨fun σ' H' => ∃ m', m' < m ∧ ∃ W' ρ' L', Ext W L H W' L' H' ∧ IsS X.K X.w H' W' ρ' σ' ∧ SR X.K X.w G H' W' L' ∧ F m' ρ' L', fun σ' H' h => h, ?_⟩
      have nx : ∀ ρ' L' W' H' σ', Ext W2 L2 H2 W' L' H' → IsS X.K X.w H' W' ρ' σ' → SR X.K X.w G H' W' L' → (∃ m', m' < m ∧ F m' ρ' L') → ∃ m', m' < m ∧ ∃ W' ρ' L', Ext W L H W' L' H' ∧ IsS X.K X.w H' W' ρ' σ' ∧ SR X.K X.w G H' W' L' ∧ F m' ρ' L' :=
        fun ρ' L' W' H' σ' x3 es3 sr3 ⟨m', hm, f3⟩ => ⟨m', hm, W', ρ', L', (x1.trans x2).trans x3, es3, sr3, f3⟩
      exact ⟨W2, ρ1, L2, _, es1.ext sr1 x2, sr2, h2, nx, (k.rt.ext x1).ext x2, (k.nx.ext x1).ext x2, nx⟩
    | false =>
      rw [if_neg Bool.false_ne_true]
      exact k.nx ρ1 L2 W2 H2 σ1 (x1.trans x2) (es1.ext sr1 x2) sr2 ((if_neg Bool.false_ne_true).mp h2)⟩

/-! ### what is walked -/
/-- J walks the items ds, whatever else happens -/
structure ItD (K : PySem.W.Frag) (w : World) (G : Gam) (W : Wd) (L : Sto) (H : Hp) (J : It) (ds : List D) : Prop where
  stop : ∀ W' L' H', Ext W L H W' L' H' → SR K w G H' W' L' → J.stop ds.length H'
  go : ∀ (i : Nat) (d : D) W' L' H', ds[i]? = some d → Ext W L H W' L' H' → SR K w G H' W' L' → J.go i H'
  yld : ∀ (i : Nat) (d : D) W' L' H' x H2, ds[i]? = some d → Ext W L H W' L' H' → SR K w G H' W' L' → J.yld i H' x H2 → ∃ W2, Ext W' L' H' W2 L' H2 ∧ SR K w G H2 W2 L' ∧ Is K w H2 W2 x d
abbrev tI := En → Sto → (List D → Sto → Prop) → Prop
def liftI (K : PySem.W.Frag) (w : World) (G : Gam) (t : tI) : TI := fun σ H R => ∃ W ρ L RR, IsS K w H W ρ σ ∧ SR K w G H W L ∧ t ρ L RR ∧ ∀ ds L1 W1 H1 J, Ext W L H W1 L1 H1 → SR K w G H1 W1 L1 → ItD K w G W1 L1 H1 J ds → RR ds L1 → R J H1
structure DI (X : Cx) (G : Gam) (tg e : Expr) (t : tI) : Prop where
  pi : PI X tg e (liftI X.K X.w G t)
theorem PI.imp {tg : Expr} {t t' : TI} (h : PI X tg e t) (i : ∀ σ H R, t' σ H R → t σ H R) : PI X tg e t' := ⟨fun pins s σ H R I hw => h.run pins s σ H R I (i σ H R hw)⟩
theorem itD_list {K w G} {W : Wd} {L : Sto} {H : Hp} {a : Addr} {xs : List V} {ds : List D} (sr : SR K w G H W L) (hs : (W.fz a ∧ Rd H a (.lst xs)) ∨ KLst K a xs) (is : Iss K w H W xs ds) : ItD K w G W L H (Itl K a) ds := by
  have keep : ∀ W' L' H', Ext W L H W' L' H' → SqL K H' a xs := fun W' L' H' x => by
    rcases hs with ⟨f, h | ⟨o, h⟩⟩ | h
    · exact .inl (.inl (x.keep _ _ h (sr.notFz f)))
    · exact .inl (.inr ⟨o, x.keep _ _ h (sr.notFz f)⟩)
    · exact .inr h
  refine ⟨fun W' L' H' x _ => ⟨xs, keep _ _ _ x, by rw [is.length]; exact Nat.le_refl _⟩, fun i d W' L' H' e x _ => ?_, fun i d W' L' H' v H2 e x sr' y => ?_⟩
  · obtain ⟨v, h1, _⟩ := is.get e
    exact ⟨xs, v, keep _ _ _ x, h1⟩
  · obtain ⟨u, h1, h2⟩ := is.get e
    obtain ⟨e1, y⟩ := y
    have e2 := y xs (keep _ _ _ x)
    rw [h1] at e2; cases e2
    subst e1
    exact ⟨W', Ext.refl _ _ _, sr', h2.ext sr x⟩
theorem itD_tup {K w G} {W : Wd} {L : Sto} {H : Hp} {a : Addr} {xs : List V} {ds : List D} (sr : SR K w G H W L) (hs : SqT K H a xs) (is : Iss K w H W xs ds) : ItD K w G W L H (Itt K a) ds := by
  refine ⟨fun W' L' H' x _ => ⟨xs, SqT.ext sr x hs, by rw [is.length]; exact Nat.le_refl _⟩, fun i d W' L' H' e x _ => ?_, fun i d W' L' H' v H2 e x sr' y => ?_⟩
  · obtain ⟨v, h1, _⟩ := is.get e
    exact ⟨xs, v, SqT.ext sr x hs, h1⟩
  · obtain ⟨u, h1, h2⟩ := is.get e
    obtain ⟨e1, y⟩ := y
    have e2 := y xs (SqT.ext sr x hs)
    rw [h1] at e2; cases e2
    subst e1
    exact ⟨W', Ext.refl _ _ _, sr', h2.ext sr x⟩
/-- a frozen list -/
def iLs (te : tE) : tI := fun ρ L R => te ρ L fun d L1 => match d with
  | .lst xs => R xs L1
  | _ => False
def iTp (te : tE) : tI := fun ρ L R => te ρ L fun d L1 => match d with
  | .tup xs => R xs L1
  | _ => False
theorem di_list {tg : Expr} (he : DE X G e te) : DI X G tg e (iLs te) :=
  ⟨PI.imp (pi_list he.pe) fun σ H R ⟨W, ρ, L, RR, es, sr, h, k⟩ => ⟨W, ρ, L, _, es, sr, h, fun d L1 W1 H1 v x1 sr1 is1 h1 => by
    cases d with
    | lst xs =>
      cases is1 with
      | lst f h2 hs => exact ⟨_, rfl, ⟨_, .inl h2⟩, k xs L1 W1 H1 _ x1 sr1 (itD_list sr1 (.inl ⟨f, h2⟩) hs) h1⟩
      | lstK h2 hs => exact ⟨_, rfl, ⟨_, h2.sq⟩, k xs L1 W1 H1 _ x1 sr1 (itD_list sr1 (.inr h2) hs) h1⟩
    | _ => exact h1.elim⟩⟩
theorem di_tup {tg : Expr} (he : DE X G e te) : DI X G tg e (iTp te) :=
  ⟨PI.imp (pi_tup he.pe) fun σ H R ⟨W, ρ, L, RR, es, sr, h, k⟩ => ⟨W, ρ, L, _, es, sr, h, fun d L1 W1 H1 v x1 sr1 is1 h1 => by
    cases d with
    | tup xs =>
      cases is1 with
      | tup h2 hs => exact ⟨_, rfl, ⟨_, h2⟩, k xs L1 W1 H1 _ x1 sr1 (itD_tup sr1 h2 hs) h1⟩
    | _ => exact h1.elim⟩⟩
/-- ranges -/
def rangeD (lo : Int) (n : Nat) : List D := (List.range n).map fun (i : Nat) => .int (lo + (i : Int))
theorem rangeD_get {lo : Int} {n i : Nat} {d : D} (h : (rangeD lo n)[i]? = some d) : i < n ∧ d = .int (lo + i) := by
  unfold rangeD at h
  rw [List.getElem?_map] at h
  by_cases hi : i < n
  · rw [List.getElem?_range hi] at h
    exact ⟨hi, (Option.some.inj h).symm⟩
  · rw [List.getElem?_eq_none (by simpa using hi)] at h; cases h
theorem rangeD_length {lo : Int} {n : Nat} : (rangeD lo n).length = n := by unfold rangeD; simp
theorem itD_range {K w G} {W : Wd} {L : Sto} {H : Hp} {lo : Int} {n : Nat} : ItD K w G W L H (Itr lo n) (rangeD lo n) := by
  refine ⟨fun W' L' H' x _ => ?_, fun i d W' L' H' e x _ => (rangeD_get e).1, fun i d W' L' H' v H2 e x sr' y => ?_⟩
  · rw [rangeD_length]; exact Nat.le_refl _
  · obtain ⟨_, rfl⟩ := rangeD_get e
    obtain ⟨rfl, rfl⟩ := y
    exact ⟨W', Ext.refl _ _ _, sr', .int _⟩
def iRg1 (t : tA) : tI := fun ρ L R => t ρ L fun ds L1 => match ds with
  | [.int j] => (-(2 ^ 62) ≤ j ∧ j < 2 ^ 62) ∧ R (rangeD 0 j.toNat) L1
  | _ => False
def iRg2 (t : tA) : tI := fun ρ L R => t ρ L fun ds L1 => match ds with
  | [.int i, .int j] => (-(2 ^ 62) ≤ i ∧ i < 2 ^ 62 ∧ -(2 ^ 62) ≤ j ∧ j < 2 ^ 62) ∧ R (rangeD i (j - i).toNat) L1
  | _ => False
theorem di_range1 {tg : Expr} {t : tA} {p : Pos} (hm : X.mg "range" = none) (ha : DA X G [a] t) (hg : Gl X "range" := by rfl) (hs : starEach [a] X.env = [(false, eval a X.env)] := by rfl) : DI X G tg (.Call (.Name "range" p) [a] [] pos) (iRg1 t) :=
  ⟨PI.imp (pi_range1 hg hm ha.pa hs) fun σ H R ⟨W, ρ, L, RR, es, sr, h, k⟩ => ⟨W, ρ, L, _, es, sr, h, fun ds L1 W1 H1 vs x1 sr1 is1 h1 => by
    split at h1
    · obtain ⟨v, rfl, i⟩ := iss1 is1
      cases i
      exact ⟨_, rfl, h1.1.1, h1.1.2, k _ L1 W1 H1 _ x1 sr1 itD_range h1.2⟩
    · exact h1.elim⟩⟩
theorem di_range2 {tg : Expr} {t : tA} {p : Pos} (hm : X.mg "range" = none) (ha : DA X G [a, b] t) (hg : Gl X "range" := by rfl) (hs : starEach [a, b] X.env = [(false, eval a X.env), (false, eval b X.env)] := by rfl) (hs2 : starEach [b] X.env = [(false, eval b X.env)] := by rfl) :
    DI X G tg (.Call (.Name "range" p) [a, b] [] pos) (iRg2 t) :=
  ⟨PI.imp (pi_range2 hg hm ha.pa hs hs2) fun σ H R ⟨W, ρ, L, RR, es, sr, h, k⟩ => ⟨W, ρ, L, _, es, sr, h, fun ds L1 W1 H1 vs x1 sr1 is1 h1 => by
    split at h1
    · obtain ⟨v, u, rfl, i, j⟩ := iss2 is1
      cases i; cases j
      exact ⟨_, _, rfl, h1.1, k _ L1 W1 H1 _ x1 sr1 itD_range h1.2⟩
    · exact h1.elim⟩⟩

/-! ### for -/
/-- F: by what is still to come -/
def tFr (wi : tI) (g : tG) (tb : tS) : tS := fun DD ρ L => wi ρ L fun ds L1 => ∃ F : List D → En → Sto → Prop, F ds ρ L1 ∧ (∀ x r ρ L, F (x :: r) ρ L → g x ρ L fun ρ2 L2 => tb { DD with nx := F r, ct := F r, bk := DD.nx } ρ2 L2) ∧ ∀ ρ L, F [] ρ L → DD.nx ρ L
theorem drop_get {α : Type} {l : List α} {i : Nat} {x : α} (h : l[i]? = some x) : l.drop i = x :: l.drop (i + 1) := by
  obtain ⟨h1, h2⟩ := List.getElem?_eq_some_iff.mp h
  rw [List.drop_eq_getElem_cons h1, h2]
theorem ds_for {tg : Expr} {body : List Stmt} {wi : tI} {g : tG} {tb : tS} (hp : PassesOwn (model X.prog X.w) X.A X.env X.xe) (hc : X.calm = true) (hi : DI X G tg e wi) (hg : DG X G tg g) (hb : DSs X G body tb)
    (hs : ∀ x, foldedSetIterable e X.env x = pure x := by intro _; rfl) : DS X G (.For tg e body [] pos) (tFr wi g tb) :=
  ⟨PS.imp (ps_for hp hc hi.pi hg.pg hb.pss hs) fun D σ H ⟨W, ρ, L, DD, es, sr, h, k⟩ => ⟨W, ρ, L, _, es, sr, h, fun ds L1 W1 H1 J x1 sr1 it h1 => by
    obtain ⟨F, f0, turn, fin⟩ := h1
    refine ⟨fun i m σ' H' => m = ds.length - i ∧ i ≤ ds.length ∧ ∃ W' ρ' L', Ext W1 L1 H1 W' L' H' ∧ IsS X.K X.w H' W' ρ' σ' ∧ SR X.K X.w G H' W' L' ∧ F (ds.drop i) ρ' L', ⟨ds.length, rfl, Nat.zero_le _, W1, ρ, L1, Ext.refl _ _ _, es.ext sr x1, sr1, f0⟩, ?_⟩
    rintro i m σ2 H2 ⟨rfl, hi, W2, ρ2, L2, x2, es2, sr2, f2⟩
    by_cases hlt : i < ds.length
    · have e := List.getElem?_eq_getElem hlt
      rw [drop_get e] at f2
      refine .inr ⟨it.go i _ W2 L2 H2 e x2 sr2, fun σ' H' => ∃ W' ρ' L', Ext W1 L1 H1 W' L' H' ∧ IsS X.K X.w H' W' ρ' σ' ∧ SR X.K X.w G H' W' L' ∧ F (ds.drop (i + 1)) ρ' L', fun σ' H' h => ⟨ds.length - (i + 1), by omega, rfl, hlt, h⟩, fun x H3 y => ?_⟩
      obtain ⟨W3, x3, sr3, is3⟩ := it.yld i _ W2 L2 H2 x H3 e x2 sr2 y
      refine ⟨W3, ρ2, L2, _, _, es2.ext sr2 x3, sr3, is3, turn _ _ ρ2 L2 f2, fun ρ4 L4 W4 H4 σ4 x4 es4 sr4 h4 => ?_⟩
      have nx : ∀ ρ' L' W' H' σ', Ext W4 L4 H4 W' L' H' → IsS X.K X.w H' W' ρ' σ' → SR X.K X.w G H' W' L' → F (ds.drop (i + 1)) ρ' L' → ∃ W' ρ' L', Ext W1 L1 H1 W' L' H' ∧ IsS X.K X.w H' W' ρ' σ' ∧ SR X.K X.w G H' W' L' ∧ F (ds.drop (i + 1)) ρ' L' :=
        fun ρ' L' W' H' σ' x5 es5 sr5 f5 => ⟨W', ρ', L', ((x2.trans x3).trans x4).trans x5, es5, sr5, f5⟩
      have kk := (((k.ext x1).ext x2).ext x3).ext x4
      exact ⟨W4, ρ4, L4, _, es4, sr4, h4, nx, kk.rt, kk.nx, nx⟩
    · have e : i = ds.length := by omega
      subst e
      rw [List.drop_length] at f2
      exact .inl ⟨it.stop W2 L2 H2 x2 sr2, k.nx ρ2 L2 W2 H2 σ2 (x1.trans x2) es2 sr2 (fin ρ2 L2 f2)⟩⟩⟩
end
end L2.DL

set_option Elab.async false
set_option linter.all false
set_option maxRecDepth 100000
/-! DG: list comprehensions; a def's promise over trees; calls. -/
namespace L2.DL
open PySem PySem.Spec PyProof.Rows

/-! ### a hidden list: tracked, neither own nor frozen -/
section
variable {K : PySem.W.Frag} {w : World} {G : Gam} {H H' : Hp} {W W' : Wd} {L L' : Sto} {q : Addr} {zs : List V} {ho : HO}
/-- q stands apart -/
structure Hid (W : Wd) (L : Sto) (H : Hp) (q : Addr) (zs : List V) : Prop where
  at_ : H q = some (.lst zs)
  nfz : ¬ W.fz q
  nlive : ∀ n, ¬ Live W L n q
theorem Hid.ext (h : Hid W L H q zs) (x : Ext W L H W' L' H') : Hid W' L' H' q zs where
  at_ := x.keep _ _ h.at_ h.nlive
  nfz := fun f => by
    rcases x.fzn q f with f | ⟨m, l⟩ | e
    · exact h.nfz f
    · exact h.nlive m l
    · rw [h.at_] at e; cases e
  nlive := fun n l => by
    rcases x.live n q l with ⟨m, l⟩ | e
    · exact h.nlive m l
    · rw [h.at_] at e; cases e
theorem Hid.new (r : SR K w G H W L) (hq : H q = none) : Hid W L (upd H q (.lst zs)) q zs where
  at_ := upd_same
  nfz := fun f => by obtain ⟨o, e⟩ := r.fzt q f; rw [hq] at e; cases e
  nlive := fun n l => by obtain ⟨o, e⟩ := r.there l; rw [hq] at e; cases e
theorem hid_sqt (h : Hid W L H q zs) {a : Addr} {xs : List V} (s : SqT K H a xs) : SqT K (upd H q ho) a xs := by
  rcases s with (s | ⟨o, s⟩) | s
  · exact .inl (.inl (by rw [upd_ne (ne_of s h.at_ (by intro z; cases z))]; exact s))
  · exact .inl (.inr ⟨o, by rw [upd_ne (ne_of s h.at_ (by intro z; cases z))]; exact s⟩)
  · exact .inr s
mutual
theorem Is.hid (h : Hid W L H q zs) : ∀ {v : V} {d : D}, Is K w H W v d → Is K w (upd H q ho) W v d
  | _, _, .non => .non
  | _, _, .bl b => .bl b
  | _, _, .int i => .int i
  | _, _, .str s => .str s
  | _, _, .tup s hs => .tup (hid_sqt h s) (Iss.hid h hs)
  | _, _, .lst (a := a) f s hs => .lst f (by
      have ne : a ≠ q := fun e => h.nfz (e ▸ f)
      rcases s with s | ⟨o, s⟩
      · exact .inl (by rw [upd_ne ne]; exact s)
      · exact .inr ⟨o, by rw [upd_ne ne]; exact s⟩) (Iss.hid h hs)
  | _, _, .lstK s hs => .lstK s (Iss.hid h hs)
  | _, _, .dct (a := a) f s hs => .dct f (by
      have ne : a ≠ q := fun e => h.nfz (e ▸ f)
      rw [upd_ne ne]; exact s) (IsE.hid h hs)
  | _, _, .ob s => .ob s
  | _, _, .adr a => .adr a
  | _, _, .ty n => .ty n
theorem Iss.hid (h : Hid W L H q zs) : ∀ {vs : List V} {ds : List D}, Iss K w H W vs ds → Iss K w (upd H q ho) W vs ds
  | _, _, .nil => .nil
  | _, _, .cons a t => .cons (Is.hid h a) (Iss.hid h t)
theorem IsE.hid (h : Hid W L H q zs) : ∀ {es : List DE3} {ks vs : List D}, IsE K w H W es ks vs → IsE K w (upd H q ho) W es ks vs
  | _, _, _, .nil => .nil
  | _, _, _, .cons a b c d e g => .cons a b (Is.hid h c) d (Is.hid h e) (IsE.hid h g)
end
theorem IsF.hid (h : Hid W L H q zs) : ∀ {vs : List (Str × V)} {ds : List (Str × D)}, IsF K w H W vs ds → IsF K w (upd H q ho) W vs ds
  | _, _, .nil => .nil
  | _, _, .cons a t => .cons (Is.hid h a) (IsF.hid h t)
theorem IsS.hidS' (h : Hid W L H q zs) : ∀ {ρ : En} {σ : L2.St}, IsS K w H W ρ σ → IsS K w (upd H q ho) W ρ σ
  | _, _, .nil => .nil
  | _, _, .nop t => .nop (IsS.hidS' h t)
  | _, _, .som a t => .som (Is.hid h a) (IsS.hidS' h t)
theorem IsS.hidS {ρ : En} {σ : L2.St} (i : IsS K w H W ρ σ) (h : Hid W L H q zs) : IsS K w (upd H q ho) W ρ σ := IsS.hidS' h i
theorem Hid.put {ys : List V} (h : Hid W L H q zs) : Hid W L (upd H q (.lst ys)) q ys := ⟨upd_same, h.nfz, h.nlive⟩
theorem SR.hid (h : Hid W L H q zs) (r : SR K w G H W L) (g : G.p W L (upd H q ho)) : SR K w G (upd H q ho) W L where
  len := r.len
  inj := r.inj
  nfz := r.nfz
  fzt := fun a f => by
    obtain ⟨o, e⟩ := r.fzt a f
    exact ⟨o, by rw [upd_ne (show a ≠ q from fun z => h.nfz (z ▸ f))]; exact e⟩
  ok := fun n a o e1 e2 => by
    have x := r.ok n a o e1 e2
    by_cases d : o = .dead
    · rw [d]; trivial
    · have ne : a ≠ q := fun z => h.nlive n (z ▸ ⟨e1, o, e2, d⟩)
      cases o with
      | lst ds => obtain ⟨xs, a1, a2⟩ := x; exact ⟨xs, by rw [upd_ne ne]; exact a1, by first | exact Iss.hid h a2 | exact IsE.hid h a2 | exact IsF.hid h a2⟩
      | dct ks vs => obtain ⟨es, a1, a2⟩ := x; exact ⟨es, by rw [upd_ne ne]; exact a1, by first | exact Iss.hid h a2 | exact IsE.hid h a2 | exact IsF.hid h a2⟩
      | ins C fs => obtain ⟨dx, vs, a1, a2⟩ := x; exact ⟨dx, vs, by rw [upd_ne ne]; exact a1, by first | exact Iss.hid h a2 | exact IsE.hid h a2 | exact IsF.hid h a2⟩
      | dead => trivial
  gam := g
theorem Ext.hid {H1 : Hp} {W1 : Wd} {L1 : Sto} (x : Ext W1 L1 H1 W L H) (hq : H1 q = none) : Ext W1 L1 H1 W L (upd H q ho) :=
  ⟨x.pre, x.fz, fun a o e n => by rw [upd_ne (ne_of_none e hq)]; exact x.keep a o e n, x.live, x.fzn⟩
/-- in the end it is frozen -/
theorem Ext.hidF {H1 : Hp} {W1 : Wd} {L1 : Sto} (x : Ext W1 L1 H1 W L H) (hq : H1 q = none) : Ext W1 L1 H1 (W.and q) L H :=
  ⟨x.pre, fun a f => .inr (x.fz a f), x.keep, x.live, fun a f => by
    rcases f with e | f
    · rw [e]; exact .inr (.inr hq)
    · exact x.fzn a f⟩
theorem Ext0.and : Ext0 W L H (W.and q) H := ⟨⟨[], (List.append_nil _).symm⟩, fun _ f => .inr f, fun _ _ e _ => e⟩
theorem SR.hidF (h : Hid W L H q zs) (r : SR K w G H W L) (g : G.p (W.and q) L H) : SR K w G H (W.and q) L where
  len := r.len
  inj := r.inj
  nfz := fun n a l f => by
    rcases f with e | f
    · exact h.nlive n (e ▸ l)
    · exact r.nfz n a l f
  fzt := fun a f => by
    rcases f with e | f
    · rw [e]; exact ⟨_, h.at_⟩
    · exact r.fzt a f
  ok := fun n a o e1 e2 => (r.ok n a o e1 e2).ext0 r Ext0.and fun _ e => e
  gam := g
end

/-! ### slots forgotten -/
def wipeD (ρ : En) : List Nat → En
  | [] => ρ
  | v :: vs => (wipeD ρ vs).set v none
theorem IsS.wipe {K w H W} {ρ : En} {σ : L2.St} (h : IsS K w H W ρ σ) : ∀ vs : List Nat, IsS K w H W (wipeD ρ vs) (wipe σ vs)
  | [] => h
  | v :: vs => (IsS.wipe h vs).unset v
theorem wipe_get {σ : L2.St} : ∀ (vs : List Nat) (j : Nat), (wipe σ vs)[j]? = if j ∈ vs then (σ[j]?).map (fun _ => none) else σ[j]?
  | [], j => by simp [wipe]
  | v :: vs, j => by
    have ih := wipe_get (σ := σ) vs j
    unfold wipe
    rw [List.getElem?_set]
    by_cases h : v = j
    · subst h
      rw [if_pos rfl, if_pos List.mem_cons_self, wipe_length]
      by_cases hl : v < σ.length
      · rw [if_pos hl, List.getElem?_eq_getElem hl]; rfl
      · rw [if_neg hl, List.getElem?_eq_none (Nat.le_of_not_lt hl)]; rfl
    · rw [if_neg h, ih]
      have : (j ∈ v :: vs) = (j ∈ vs) := by simp [List.mem_cons, Ne.symm h]
      by_cases hm : j ∈ vs
      · rw [if_pos hm, if_pos (List.mem_cons_of_mem _ hm)]
      · rw [if_neg hm, if_neg (by rw [this]; exact hm)]
theorem wipe_set {σ : L2.St} {i : Nat} {o : Option V} {vs : List Nat} (hi : i ∈ vs) : wipe (σ.set i o) vs = wipe σ vs := by
  apply List.ext_getElem?
  intro j
  rw [wipe_get, wipe_get]
  by_cases hj : j ∈ vs
  · rw [if_pos hj, if_pos hj, List.getElem?_set]
    by_cases h : i = j
    · subst h
      rw [if_pos rfl]
      by_cases hl : i < σ.length
      · rw [if_pos hl, List.getElem?_eq_getElem hl]; rfl
      · rw [if_neg hl, List.getElem?_eq_none (Nat.le_of_not_lt hl)]
    · rw [if_neg h]
  · rw [if_neg hj, if_neg hj, List.getElem?_set_ne (show i ≠ j from fun h => hj (h ▸ hi))]
theorem wipe_wipe {σ : L2.St} {vs : List Nat} : wipe (wipe σ vs) vs = wipe σ vs := by
  apply List.ext_getElem?
  intro j
  rw [wipe_get, wipe_get]
  by_cases hj : j ∈ vs
  · rw [if_pos hj, if_pos hj, Option.map_map]; rfl
  · rw [if_neg hj, if_neg hj]

/-! ### what a comprehension's target does -/
abbrev tC := D → En → (En → Prop) → Prop
/-- the H-side reading g keeps to the tree side's t -/
def TgC (K : PySem.W.Frag) (w : World) (g : TG) (t : tC) (vs : List Nat) : Prop :=
  ∀ (H : Hp) (W : Wd) (x : V) (d : D) (ρ : En) (σ : L2.St) (R : En → Prop), Is K w H W x d → IsS K w H W ρ σ → t d ρ R → ∃ σ2 ρ2, R ρ2 ∧ IsS K w H W ρ2 σ2 ∧ wipe σ2 vs = wipe σ vs ∧ ∀ Q, Q σ2 H → g x σ H Q
def c1 (i : Nat) : tC := fun d ρ R => R (ρ.set i (some d))
theorem tgc1 {K w} {i : Nat} {vs : List Nat} (hi : i ∈ vs) : TgC K w (gName i) (c1 i) vs := fun H W x d ρ σ R is es h => ⟨_, _, h, es.set is i, wipe_set hi, fun Q q => q⟩
def gNms : List Nat → TGs
  | [] => gNil
  | i :: r => gCons (gName i) (gNms r)
def setsD : List Nat → List D → En → En
  | i :: r, d :: ds, ρ => setsD r ds (ρ.set i (some d))
  | _, _, ρ => ρ
def sets : List Nat → List V → L2.St → L2.St
  | i :: r, d :: ds, ρ => sets r ds (ρ.set i (some d))
  | _, _, ρ => ρ
def cN (is : List Nat) : tC := fun d ρ R => match d with
  | .tup xs => xs.length = is.length ∧ R (setsD is xs ρ)
  | _ => False
theorem sets_is {K w H W} : ∀ (is : List Nat) {vs : List V} {ds : List D} {ρ : En} {σ : L2.St}, Iss K w H W vs ds → IsS K w H W ρ σ → IsS K w H W (setsD is ds ρ) (sets is vs σ)
  | [], _, _, _, _, _, es => es
  | _ :: _, _, _, _, _, .nil, es => es
  | i :: r, _, _, _, _, .cons a t, es => sets_is r t (es.set a i)
theorem sets_wipe {vs : List Nat} : ∀ (is : List Nat) (xs : List V) (σ : L2.St), (∀ i ∈ is, i ∈ vs) → wipe (sets is xs σ) vs = wipe σ vs
  | [], _, _, _ => rfl
  | _ :: _, [], _, _ => rfl
  | i :: r, x :: xs, σ, h => by
    show wipe (sets r xs (σ.set i (some x))) vs = _
    rw [sets_wipe r xs _ fun j hj => h j (List.mem_cons_of_mem _ hj), wipe_set (h i List.mem_cons_self)]
theorem gNms_ok : ∀ (is : List Nat) (xs : List V) (σ : L2.St) (H : Hp) (Q : L2.St → Hp → Prop), xs.length = is.length → Q (sets is xs σ) H → gNms is xs σ H Q
  | [], xs, σ, H, Q, e, q => by
    cases xs with
    | nil => exact ⟨rfl, q⟩
    | cons _ _ => cases e
  | i :: r, xs, σ, H, Q, e, q => by
    cases xs with
    | nil => cases e
    | cons x xs => exact ⟨x, xs, rfl, gNms_ok r xs _ H Q (by simpa using e) q⟩
theorem tgcN {K w} {n : Nat} {is vs : List Nat} (hn : is.length = n) (hi : ∀ i ∈ is, i ∈ vs) : TgC K w (gTup K n (gNms is)) (cN is) vs := fun H W x d ρ σ R iv es h => by
  cases d with
  | tup ds =>
    cases iv with
    | tup hs his =>
      rename_i a xs
      exact ⟨_, _, h.2, sets_is is his es, sets_wipe is xs σ hi, fun Q q => ⟨a, xs, rfl, hs, by rw [his.length, h.1, hn], gNms_ok is xs σ H Q (by rw [his.length]; exact h.1) q⟩⟩
  | _ => exact h.elim

/-! ### list comprehensions -/
section
variable {X : Cx} {G : Gam} {a b c e : Expr} {ta tb tc te : tE} {pos : Pos}
structure DTs (X : Cx) (G : Gam) (ifs : List Expr) (t : tT) : Prop where
  pts : PTs X ifs (liftT X.K X.w G t)
theorem PTs.imp {ifs : List Expr} {t t' : TT} (h : PTs X ifs t) (i : ∀ σ H Q, t' σ H Q → t σ H Q) : PTs X ifs t' := ⟨fun pins s σ H Q I hw => h.run pins s σ H Q I (i σ H Q hw)⟩
def tYesD : tT := fun _ L R => R true L
theorem dts_nil : DTs X G [] tYesD := ⟨PTs.imp pts_nil fun σ H Q ⟨W, ρ, L, R, es, sr, h, k⟩ => k true L W H (Ext.refl _ _ _) sr h⟩
theorem dts_one {t : tT} (h : DT X G c t) : DTs X G [c] t := ⟨pts_one h.pt⟩
def tLcD (wi : tI) (g : tC) (tt : tT) (te : tE) (vs : List Nat) : tE := fun ρ L R => wi ρ L fun ds L1 => ∃ F : List D → List D → Sto → Prop, F ds [] L1 ∧
  (∀ x r acc L, F (x :: r) acc L → g x (wipeD ρ vs) fun ρ2 => tt ρ2 L fun b L2 => if b = true then te ρ2 L2 fun y L3 => acc.length < sizeLine ∧ F r (acc ++ [y]) L3 else F r acc L2) ∧
  ∀ acc L, F [] acc L → R (.lst acc) L
theorem lc_imp {K w G} {wi : tI} {g : TG} {tg : tC} {tt : tT} {te : tE} {vs : List Nat} (hg : TgC K w g tg vs) {σ : L2.St} {H : Hp} {Q : VK} (h : lift K w G (tLcD wi tg tt te vs) σ H Q) : tLc (liftI K w G wi) g (liftT K w G tt) (lift K w G te) vs σ H Q := by
  obtain ⟨W, ρ, L, R, es, sr, h, k⟩ := h
  refine ⟨W, ρ, L, _, es, sr, h, fun ds L1 W1 H1 J x1 sr1 it h1 q hq => ?_⟩
  obtain ⟨F, f0, turn, fin⟩ := h1
  have es1 := es.ext sr x1
  let St : List D → Hp → Prop := fun r H' => ∃ W' L' acc accV, Ext W1 L1 H1 W' L' H' ∧ SR K w G H' W' L' ∧ IsS K w H' W' ρ σ ∧ Hid W' L' H' q accV ∧ Iss K w H' W' accV acc ∧ F r acc L'
  refine ⟨fun i m H' => m = ds.length - i ∧ i ≤ ds.length ∧ St (ds.drop i) H', ⟨ds.length, rfl, Nat.zero_le _, W1, L1, [], [], Ext.new hq, sr1.new hq, es1.ext sr1 (Ext.new hq), Hid.new sr1 hq, .nil, f0⟩, ?_⟩
  rintro i m H2 ⟨rfl, hi, W2, L2, acc, accV, x2, sr2, es2, hd2, ia2, f2⟩
  by_cases hlt : i < ds.length
  · have e := List.getElem?_eq_getElem hlt
    rw [drop_get e] at f2
    refine .inr ⟨it.go i _ W2 L2 H2 e x2 sr2, St (ds.drop (i + 1)), fun H' h => ⟨ds.length - (i + 1), by omega, rfl, hlt, h⟩, fun x H3 y => ?_⟩
    obtain ⟨W3, x3, sr3, is3⟩ := it.yld i _ W2 L2 H2 x H3 e x2 sr2 y
    have es3 := es2.ext sr2 x3
    obtain ⟨σ4, ρ4, h4, es4, hw4, go⟩ := hg H3 W3 x _ _ _ _ is3 (es3.wipe vs) (turn _ _ acc L2 f2)
    refine go _ ⟨hw4.trans wipe_wipe, W3, ρ4, L2, _, es4, sr3, h4, fun bb L5 W5 H5 x5 sr5 h5 => ?_⟩
    have x15 := (x2.trans x3).trans x5
    cases bb with
    | false =>
      refine iteF ?_
      have h5 := (if_neg Bool.false_ne_true).mp h5
      exact ⟨W5, L5, acc, accV, x15, sr5, es3.ext sr3 x5, (hd2.ext x3).ext x5, ((ia2.ext sr2 x3).ext sr3 x5), h5⟩
    | true =>
      refine iteT ?_
      have h5 := (if_pos rfl).mp h5
      refine ⟨W5, ρ4, L5, _, es4.ext sr3 x5, sr5, h5, fun z L6 W6 H6 zv x6 sr6 is6 h6 => ?_⟩
      have hd6 := ((hd2.ext x3).ext x5).ext x6
      have ia6 := ((ia2.ext sr2 x3).ext sr3 x5).ext sr5 x6
      exact ⟨accV, hd6.at_, by rw [ia6.length]; exact h6.1, W6, L6, acc ++ [z], accV ++ [zv], (x15.trans x6).hid hq, SR.hid hd6 sr6 (G.st sr1.gam ((x15.trans x6).hid hq)), ((es3.ext sr3 x5).ext sr5 x6).hidS hd6, hd6.put, Iss.hid hd6 (ia6.append (.cons is6 .nil)), h6.2⟩
  · have e : i = ds.length := by omega
    subst e
    rw [List.drop_length] at f2
    refine .inl ⟨it.stop W2 L2 H2 x2 sr2, ?_⟩
    exact (k.ext x1) _ L2 (W2.and q) H2 _ (x2.hidF hq) (SR.hidF hd2 sr2 (G.st sr1.gam (x2.hidF hq))) (.lst (.inl rfl) (.inl hd2.at_) (Iss.ext0 sr2 Ext0.and ia2)) (fin acc L2 f2)
theorem de_lc {elt tg iter : Expr} {ifs : List Expr} {scope : Scope} {own : List (Str × Nat)} {wi : tI} {g : TG} {gc : tC} {tt : tT} (hc : X.calm = true) (hN : X.N.Nodup) (hi : DI X G tg iter wi) (ok : BlkOk X.N X.env.scope scope own)
    (hg : ∀ (s : Shared) (H : Hp) (C : Addr) (cl : List (Str × Addr)) (fp : List Addr), PG (X.blk s H scope (compEnvC scope cl C X.env) fp) tg g) (hgc : TgC X.K X.w g gc (own.map (·.2)))
    (ht : ∀ (s : Shared) (H : Hp) (C : Addr) (cl : List (Str × Addr)) (fp : List Addr), DTs (X.blk s H scope (compEnvC scope cl C X.env) fp) G ifs tt)
    (he : ∀ (s : Shared) (H : Hp) (C : Addr) (cl : List (Str × Addr)) (fp : List Addr), DE (X.blk s H scope (compEnvC scope cl C X.env) fp) G elt te) (hs : ∀ x, foldedSetIterable iter X.env x = pure x := by intro _; rfl) :
    DE X G (.ListComp elt [⟨tg, iter, ifs, 0⟩] scope pos) (tLcD wi gc tt te (own.map (·.2))) :=
  ⟨PE.imp (pe_lc hc hN hi.pi ok hg (fun s H C cl fp => (ht s H C cl fp).pts) (fun s H C cl fp => (he s H C cl fp).pe) hs) fun _ _ _ h => lc_imp hgc h⟩
theorem ds_setLc {i : Nat} {y : Str} {py spos : Pos} {elt tg iter : Expr} {ifs : List Expr} {scope : Scope} {own : List (Str × Nat)} {wi : tI} {g : TG} {gc : tC} {tt : tT} (hc : X.calm = true) (hN : X.N.Nodup) (hy : X.N[i]? = some y) (hyl : X.env.scope.names.lookup y = some .local)
    (hsw : swapsWith (.ListComp elt [⟨tg, iter, ifs, 0⟩] scope pos) (some (.Name y py)) spos.line X.env = pure true) (hi : DI X G tg iter wi) (ok : BlkOk X.N X.env.scope scope own)
    (hg : ∀ (s : Shared) (H : Hp) (C : Addr) (cl : List (Str × Addr)) (fp : List Addr), PG (X.blk s H scope (compEnvC scope cl C X.env) fp) tg g) (hgc : TgC X.K X.w g gc (own.map (·.2)))
    (ht : ∀ (s : Shared) (H : Hp) (C : Addr) (cl : List (Str × Addr)) (fp : List Addr), DTs (X.blk s H scope (compEnvC scope cl C X.env) fp) G ifs tt)
    (he : ∀ (s : Shared) (H : Hp) (C : Addr) (cl : List (Str × Addr)) (fp : List Addr), DE (X.blk s H scope (compEnvC scope cl C X.env) fp) G elt te) (hs : ∀ x, foldedSetIterable iter X.env x = pure x := by intro _; rfl) :
    DS X G (.Assign [.Name y py] (.ListComp elt [⟨tg, iter, ifs, 0⟩] scope pos) spos) (tSt (tLcD wi gc tt te (own.map (·.2))) i) :=
  ⟨PS.imp (ps_setLc hc hN hy hyl hsw hi.pi ok hg (fun s H C cl fp => (ht s H C cl fp).pts) (fun s H C cl fp => (he s H C cl fp).pe) hs) fun D σ H ⟨W, ρ, L, DD, es, sr, h, k⟩ =>
    lc_imp hgc ⟨W, ρ, L, _, es, sr, h, fun d L1 W1 H1 v x1 sr1 is1 h1 => k.nx _ L1 W1 H1 _ x1 ((es.ext sr x1).set is1 i) sr1 h1⟩⟩
end

/-! ### no own object from m on -/
mutual
def lowD (m : Nat) : D → Prop
  | .tup xs => lowDs m xs
  | .lst xs => lowDs m xs
  | .dct ks vs => lowDs m ks ∧ lowDs m vs
  | .ob n => n < m
  | _ => True
def lowDs (m : Nat) : List D → Prop
  | [] => True
  | x :: xs => lowD m x ∧ lowDs m xs
end
def lowF (m : Nat) : List (Str × D) → Prop
  | [] => True
  | (_, d) :: r => lowD m d ∧ lowF m r
def lowO (m : Nat) : O → Prop
  | .lst xs => lowDs m xs
  | .dct ks vs => lowDs m ks ∧ lowDs m vs
  | .ins _ fs => lowF m fs
  | .dead => True
def lowL (m : Nat) : Sto → Prop
  | [] => True
  | o :: r => lowO m o ∧ lowL m r
theorem lowDs_of {m : Nat} : ∀ {xs : List D}, (∀ x ∈ xs, lowD m x) → lowDs m xs
  | [], _ => trivial
  | x :: xs, h => ⟨h x List.mem_cons_self, lowDs_of fun y hy => h y (List.mem_cons_of_mem _ hy)⟩
theorem lowDs_mem {m : Nat} : ∀ {xs : List D}, lowDs m xs → ∀ x ∈ xs, lowD m x
  | [], _, _, h => nomatch h
  | x :: xs, h, y, hy => by
    rcases List.mem_cons.mp hy with e | hy
    · rw [e]; exact h.1
    · exact lowDs_mem h.2 y hy
theorem lowDs_map {α : Type} {m : Nat} {f : α → D} {xs : List α} (h : ∀ x, lowD m (f x)) : lowDs m (xs.map f) := lowDs_of fun x hx => by
  obtain ⟨y, _, e⟩ := List.mem_map.mp hx
  rw [← e]; exact h y
theorem lowDs_append {m : Nat} : ∀ {xs ys : List D}, lowDs m xs → lowDs m ys → lowDs m (xs ++ ys)
  | [], _, _, h => h
  | _ :: _, _, h, h' => ⟨h.1, lowDs_append h.2 h'⟩

section
variable {K : PySem.W.Frag} {w : World} {G : Gam} {H H' : Hp} {W W' : Wd} {L L' : Sto} {m : Nat}
/-- the world that is left of the first m objects, the others frozen -/
def Wd.cut (W : Wd) (L : Sto) (m : Nat) : Wd := ⟨W.mu.take m, fun a => W.fz a ∨ ∃ n, m ≤ n ∧ Live W L n a⟩
mutual
theorem Is.low (f : ∀ a, W.fz a → W'.fz a) (hm : ∀ (n : Nat) (a : Addr), n < m → W.mu[n]? = some a → W'.mu[n]? = some a) : ∀ {v : V} {d : D}, Is K w H W v d → lowD m d → Is K w H W' v d
  | _, _, .non, _ => .non
  | _, _, .bl b, _ => .bl b
  | _, _, .int i, _ => .int i
  | _, _, .str s, _ => .str s
  | _, _, .tup s hs, l => .tup s (Iss.low f hm hs (by simpa only [lowD] using l))
  | _, _, .lst z s hs, l => .lst (f _ z) s (Iss.low f hm hs (by simpa only [lowD] using l))
  | _, _, .lstK s hs, l => .lstK s (Iss.low f hm hs (by simpa only [lowD] using l))
  | _, _, .dct z s hs, l => .dct (f _ z) s (IsE.low f hm hs (by simpa only [lowD] using l))
  | _, _, .ob s, l => .ob (hm _ _ (by simpa only [lowD] using l) s)
  | _, _, .adr a, _ => .adr a
  | _, _, .ty n, _ => .ty n
theorem Iss.low (f : ∀ a, W.fz a → W'.fz a) (hm : ∀ (n : Nat) (a : Addr), n < m → W.mu[n]? = some a → W'.mu[n]? = some a) : ∀ {vs : List V} {ds : List D}, Iss K w H W vs ds → lowDs m ds → Iss K w H W' vs ds
  | _, _, .nil, _ => .nil
  | _, _, .cons a t, l => .cons (Is.low f hm a (by simp only [lowDs] at l; exact l.1)) (Iss.low f hm t (by simp only [lowDs] at l; exact l.2))
theorem IsE.low (f : ∀ a, W.fz a → W'.fz a) (hm : ∀ (n : Nat) (a : Addr), n < m → W.mu[n]? = some a → W'.mu[n]? = some a) : ∀ {es : List DE3} {ks vs : List D}, IsE K w H W es ks vs → lowDs m ks ∧ lowDs m vs → IsE K w H W' es ks vs
  | _, _, _, .nil, _ => .nil
  | _, _, _, .cons a b c d e t, l => .cons a b (Is.low f hm c (by simp only [lowDs] at l; exact l.1.1)) d (Is.low f hm e (by simp only [lowDs] at l; exact l.2.1)) (IsE.low f hm t (by simp only [lowDs] at l; exact ⟨l.1.2, l.2.2⟩))
end
theorem IsF.low (f : ∀ a, W.fz a → W'.fz a) (hm : ∀ (n : Nat) (a : Addr), n < m → W.mu[n]? = some a → W'.mu[n]? = some a) : ∀ {vs : List (Str × V)} {ds : List (Str × D)}, IsF K w H W vs ds → lowF m ds → IsF K w H W' vs ds
  | _, _, .nil, _ => .nil
  | _, _, .cons a t, l => .cons (a.low f hm l.1) (IsF.low f hm t l.2)
theorem IsO.low (f : ∀ a, W.fz a → W'.fz a) (hm : ∀ (n : Nat) (a : Addr), n < m → W.mu[n]? = some a → W'.mu[n]? = some a) {a : Addr} {o : O} (h : IsO K w H W a o) (l : lowO m o) : IsO K w H W' a o := by
  cases o with
  | lst ds => obtain ⟨xs, h1, h2⟩ := h; exact ⟨xs, h1, h2.low f hm l⟩
  | dct ks vs => obtain ⟨es, h1, h2⟩ := h; exact ⟨es, h1, h2.low f hm l⟩
  | ins C fs => obtain ⟨dx, vs, h1, h2⟩ := h; exact ⟨dx, vs, h1, h2.low f hm l⟩
  | dead => trivial
end
mutual
/-- own objects from m on are frozen where they stand in a value -/
inductive Fr (L : Sto) (m : Nat) : D → D → Prop
  | same {d : D} : lowD m d → Fr L m d d
  | obl {n : Nat} {xs ys : List D} : m ≤ n → L[n]? = some (.lst xs) → Frs L m xs ys → Fr L m (.ob n) (.lst ys)
  | obd {n : Nat} {ks vs vs' : List D} : m ≤ n → L[n]? = some (.dct ks vs) → lowDs m ks → Frs L m vs vs' → Fr L m (.ob n) (.dct ks vs')
  | tup {xs ys : List D} : Frs L m xs ys → Fr L m (.tup xs) (.tup ys)
  | lst {xs ys : List D} : Frs L m xs ys → Fr L m (.lst xs) (.lst ys)
inductive Frs (L : Sto) (m : Nat) : List D → List D → Prop
  | same {ds : List D} : lowDs m ds → Frs L m ds ds
  | nil : Frs L m [] []
  | cons {d e : D} {ds es : List D} : Fr L m d e → Frs L m ds es → Frs L m (d :: ds) (e :: es)
end
section
variable {K : PySem.W.Frag} {w : World} {G : Gam} {H H' : Hp} {W W' : Wd} {L L' : Sto} {m : Nat}
mutual
theorem Fr.low : ∀ {d e : D}, Fr L m d e → lowD m e
  | _, _, .same l => l
  | _, _, .obl _ _ h => by simp only [lowD]; exact Frs.low h
  | _, _, .obd _ _ h h' => by simp only [lowD]; exact ⟨h, Frs.low h'⟩
  | _, _, .tup h => by simp only [lowD]; exact Frs.low h
  | _, _, .lst h => by simp only [lowD]; exact Frs.low h
theorem Frs.low : ∀ {d e : List D}, Frs L m d e → lowDs m e
  | _, _, .same l => l
  | _, _, .nil => by simp only [lowDs]
  | _, _, .cons h t => by simp only [lowDs]; exact ⟨Fr.low h, Frs.low t⟩
end
theorem cut_mu (n : Nat) (a : Addr) (hn : n < m) (h : W.mu[n]? = some a) : (W.cut L m).mu[n]? = some a := by
  show (W.mu.take m)[n]? = some a
  rw [List.getElem?_take_of_lt hn]; exact h
theorem cut_fz (a : Addr) (h : W.fz a) : (W.cut L m).fz a := .inl h
mutual
theorem Is.fr (sr : SR K w G H W L) : ∀ {d e : D}, Fr L m d e → ∀ {v : V}, Is K w H W v d → Is K w H (W.cut L m) v e
  | _, _, .same l, _, i => i.low cut_fz cut_mu l
  | _, _, .obl hn e h, _, .ob hm => by
    obtain ⟨xs, h1, h2⟩ := sr.ok _ _ _ hm e
    exact .lst (.inr ⟨_, hn, hm, _, e, by intro z; cases z⟩) (.inl h1) (Iss.fr sr h h2)
  | _, _, .obd hn e h h', _, .ob hm => by
    obtain ⟨es, h1, h2⟩ := sr.ok _ _ _ hm e
    exact .dct (.inr ⟨_, hn, hm, _, e, by intro z; cases z⟩) h1 (IsE.fr sr h' h h2)
  | _, _, .tup h, _, .tup s i => .tup s (Iss.fr sr h i)
  | _, _, .lst h, _, .lst z s i => .lst (cut_fz _ z) s (Iss.fr sr h i)
  | _, _, .lst h, _, .lstK s i => .lstK s (Iss.fr sr h i)
theorem Iss.fr (sr : SR K w G H W L) : ∀ {ds es : List D}, Frs L m ds es → ∀ {vs : List V}, Iss K w H W vs ds → Iss K w H (W.cut L m) vs es
  | _, _, .same l, _, i => i.low cut_fz cut_mu l
  | _, _, .nil, _, .nil => .nil
  | _, _, .cons h t, _, .cons i is => .cons (Is.fr sr h i) (Iss.fr sr t is)
theorem IsE.fr (sr : SR K w G H W L) : ∀ {vs vs' : List D}, Frs L m vs vs' → ∀ {ks : List D} {es : List DE3}, lowDs m ks → IsE K w H W es ks vs → IsE K w H (W.cut L m) es ks vs'
  | _, _, .same l, _, _, lk, i => i.low cut_fz cut_mu ⟨lk, l⟩
  | _, _, .nil, _, _, _, .nil => .nil
  | _, _, .cons h t, _, _, lk, .cons a b c d e i => .cons a b (c.low cut_fz cut_mu (by simp only [lowDs] at lk; exact lk.1)) d (Is.fr sr h e) (IsE.fr sr t (by simp only [lowDs] at lk; exact lk.2) i)
end
end
end L2.DL

set_option Elab.async false
set_option linter.all false
set_option maxRecDepth 100000
/-! DH: what a def promises over trees, its body, its calls. -/
namespace L2.DL
open PySem PySem.Spec PyProof.Rows

inductive FrF (L : Sto) (m : Nat) : List (Str × D) → List (Str × D) → Prop
  | nil : FrF L m [] []
  | cons {f : Str} {d e : D} {ds es : List (Str × D)} : Fr L m d e → FrF L m ds es → FrF L m ((f, d) :: ds) ((f, e) :: es)
inductive FrO (L : Sto) (m : Nat) : O → O → Prop
  | same {o : O} : lowO m o → FrO L m o o
  | lst {xs ys : List D} : Frs L m xs ys → FrO L m (.lst xs) (.lst ys)
  | dct {ks vs vs' : List D} : lowDs m ks → Frs L m vs vs' → FrO L m (.dct ks vs) (.dct ks vs')
  | ins {C : Addr} {fs fs' : List (Str × D)} : FrF L m fs fs' → FrO L m (.ins C fs) (.ins C fs')
inductive FrL (L : Sto) (m : Nat) : Sto → Sto → Prop
  | nil : FrL L m [] []
  | cons {o u : O} {os us : Sto} : FrO L m o u → FrL L m os us → FrL L m (o :: os) (u :: us)
section
variable {K : PySem.W.Frag} {w : World} {G : Gam} {H H' : Hp} {W W' : Wd} {L L' : Sto} {m : Nat}
theorem FrF.low : ∀ {fs fs' : List (Str × D)}, FrF L m fs fs' → lowF m fs'
  | _, _, .nil => trivial
  | _, _, .cons h t => ⟨h.low, FrF.low t⟩
theorem FrO.low {o u : O} (h : FrO L m o u) : lowO m u := by
  cases h with
  | same l => exact l
  | lst h => exact h.low
  | dct h h' => exact ⟨h, h'.low⟩
  | ins h => exact h.low
theorem FrL.low : ∀ {L1 L2 : Sto}, FrL L m L1 L2 → lowL m L2
  | _, _, .nil => trivial
  | _, _, .cons h t => ⟨h.low, FrL.low t⟩
theorem FrL.length : ∀ {L1 L2 : Sto}, FrL L m L1 L2 → L1.length = L2.length
  | _, _, .nil => rfl
  | _, _, .cons _ t => by rw [List.length_cons, List.length_cons, FrL.length t]
theorem FrL.get : ∀ {L1 L2 : Sto} {n : Nat} {u : O}, FrL L m L1 L2 → L2[n]? = some u → ∃ o, L1[n]? = some o ∧ FrO L m o u
  | _, _, _, _, .nil, e => by simp at e
  | _, _, 0, _, .cons h _, e => by simp at e; subst e; exact ⟨_, rfl, h⟩
  | _, _, n + 1, _, .cons _ t, e => by
    obtain ⟨o, h1, h2⟩ := FrL.get (n := n) t (by simpa using e)
    exact ⟨o, by simpa using h1, h2⟩
theorem FrL.same : ∀ {L1 : Sto}, lowL m L1 → FrL L m L1 L1
  | [], _ => .nil
  | _ :: _, h => .cons (.same h.1) (FrL.same h.2)
theorem FrO.dead {o u : O} (h : FrO L m o u) (hu : u ≠ .dead) : o ≠ .dead := by
  cases h with
  | same l => exact hu
  | _ => intro z; cases z
theorem IsF.fr (sr : SR K w G H W L) : ∀ {fs fs' : List (Str × D)}, FrF L m fs fs' → ∀ {vs : List (Str × V)}, IsF K w H W vs fs → IsF K w H (W.cut L m) vs fs'
  | _, _, .nil, _, .nil => .nil
  | _, _, .cons h t, _, .cons i is => .cons (i.fr sr h) (IsF.fr sr t is)
theorem IsO.fr (sr : SR K w G H W L) {o u : O} (h : FrO L m o u) {a : Addr} (i : IsO K w H W a o) : IsO K w H (W.cut L m) a u := by
  cases h with
  | same l => exact i.low cut_fz cut_mu l
  | lst h => obtain ⟨xs, h1, h2⟩ := i; exact ⟨xs, h1, h2.fr sr h⟩
  | dct h h' => obtain ⟨es, h1, h2⟩ := i; exact ⟨es, h1, h2.fr sr h' h⟩
  | ins h => obtain ⟨dx, vs, h1, h2⟩ := i; exact ⟨dx, vs, h1, h2.fr sr h⟩
theorem SR.forget (r : SR K w G H W L) : SR K w .none H W L := ⟨r.len, r.inj, r.nfz, r.fzt, r.ok, trivial⟩
theorem SR.with (r : SR K w .none H W L) (g : G.p W L H) : SR K w G H W L := ⟨r.len, r.inj, r.nfz, r.fzt, r.ok, g⟩
theorem live_cut {L0 : Sto} (fl : FrL L m (L.take m) L0) {n : Nat} {a : Addr} (l : Live (W.cut L m) L0 n a) : n < m ∧ Live W L n a := by
  obtain ⟨h1, u, h2, h3⟩ := l
  obtain ⟨o, h4, h5⟩ := fl.get h2
  have hn : n < m := by
    have := (List.getElem?_eq_some_iff.mp h4).1
    rw [List.length_take] at this
    omega
  refine ⟨hn, ?_, o, ?_, h5.dead h3⟩
  · have h1' : (W.mu.take m)[n]? = some a := h1
    rw [List.getElem?_take_of_lt hn] at h1'; exact h1'
  · rw [List.getElem?_take_of_lt hn] at h4; exact h4
theorem SR.cut {L0 : Sto} (r : SR K w G H W L) (fl : FrL L m (L.take m) L0) : SR K w .none H (W.cut L m) L0 where
  len := by
    show (W.mu.take m).length = _
    rw [← fl.length, List.length_take, List.length_take, r.len]
  inj := fun n k a l1 l2 => r.inj n k a (live_cut fl l1).2 (live_cut fl l2).2
  nfz := fun n a l f => by
    obtain ⟨hn, l'⟩ := live_cut fl l
    rcases f with f | ⟨k, hk, f⟩
    · exact r.nfz n a l' f
    · have := r.inj n k a l' f
      omega
  fzt := fun a f => by
    rcases f with f | ⟨k, hk, f⟩
    · exact r.fzt a f
    · exact r.there f
  ok := fun n a u h1 h2 => by
    obtain ⟨o, h4, h5⟩ := fl.get h2
    have hn : n < m := by
      have := (List.getElem?_eq_some_iff.mp h4).1
      rw [List.length_take] at this
      omega
    have h1' : (W.mu.take m)[n]? = some a := h1
    rw [List.getElem?_take_of_lt hn] at h1'
    rw [List.getElem?_take_of_lt hn] at h4
    exact (r.ok n a o h1' h4).fr r h5
  gam := trivial
theorem Ext.cut {We : Wd} {Le L0 : Sto} {He : Hp} (x : Ext We Le He W L H) (hl : We.mu.length = m) (fl : FrL L m (L.take m) L0) : Ext We Le He (W.cut L m) L0 H where
  pre := by
    obtain ⟨t, e⟩ := x.pre
    refine ⟨[], ?_⟩
    show W.mu.take m = _
    rw [e, ← hl, List.take_left, List.append_nil]
  fz := fun a f => .inl (x.fz a f)
  keep := x.keep
  live := fun n a l => x.live n a (live_cut fl l).2
  fzn := fun a f => by
    rcases f with f | ⟨k, hk, f⟩
    · exact x.fzn a f
    · exact .inr (x.live k a f)

/-! ### promises -/
/-- an exception: its class, its own fields where it has a dict -/
structure Exn where
  cls : Addr
  fs : Option (List (Str × D))
abbrev QX := Exn → Sto → Prop
abbrev FS := List D → Sto → QE → QX → Prop
def ExnAt (K : PySem.W.Frag) (w : World) (H : Hp) (W : Wd) (x : Exn) (od : Option Addr) : Prop := match x.fs with
  | none => od = none
  | some ds => ∃ d vs, od = some d ∧ H d = some (.xd vs) ∧ IsF K w H W vs ds
def KontE (K : PySem.W.Frag) (w : World) (W : Wd) (L : Sto) (H : Hp) (RE : QX) (E : XK) : Prop :=
  ∀ x L' W' H' od, Ext W L H W' L' H' → SR K w .none H' W' L' → ExnAt K w H' W' x od → RE x L' → E (.ref x.cls) od H'
theorem KontE.ext {RE : QX} {E : XK} (k : KontE K w W L H RE E) (x : Ext W L H W' L' H') : KontE K w W' L' H' RE E := fun y L2 W2 H2 od x2 sr e r => k y L2 W2 H2 od (x.trans x2) sr e r
def gamE (K : PySem.W.Frag) (w : World) (RE : QX) (E : XK) : Gam := ⟨fun W L H => KontE K w W L H RE E, fun k x => k.ext x⟩
/-- the answer is low, the objects are as many as before -/
def Lowly (n : Nat) (R : QE) : QE := fun d L => lowD n d ∧ lowL n L ∧ L.length = n ∧ R d L
def liftF (K : PySem.W.Frag) (w : World) (n : Nat) (f : FS) : Sp := fun vs H Q E => vs.length = n ∧ ∃ W ds L R RE, Iss K w H W vs ds ∧ SR K w .none H W L ∧ f ds L R RE ∧ Kont K w .none W L H (Lowly L.length R) Q ∧ KontE K w W L H RE E
/-- what a body is to come to: the objects beyond the first n are frozen, then R -/
def FinR (n : Nat) (R : QE) : QE := fun d L => ∃ d0 L0, Fr L n d d0 ∧ FrL L n (L.take n) L0 ∧ L0.length = n ∧ R d0 L0
theorem Kont.fin {R : QE} {Q : VK} (k : Kont K w .none W L H (Lowly L.length R) Q) (sr : SR K w .none H W L) : Kont K w G W L H (FinR L.length R) Q := fun d L1 W1 H1 v x sr1 is ⟨d0, L0, fr, fl, hl, r⟩ =>
  k d0 L0 (W1.cut L1 L.length) H1 v (x.cut sr.len fl) (sr1.cut fl) (is.fr sr1 fr) ⟨fr.low, fl.low, hl, r⟩
/-- no own object at all -/
theorem FinR.none {R : QE} {d : D} {L : Sto} (h : lowD 0 d) (r : R d []) : FinR 0 R d L := ⟨d, [], .same h, .nil, rfl, r⟩
def startD (n : Nat) (ds : List D) : En := ds.map some ++ List.replicate (n - ds.length) none
end

section
variable {P : Program} {w : World} {K : PySem.W.Frag} {mg : Str → Option Value} {base : Heap}
abbrev CXX (P : Program) (w : World) : CXT := L2.CX P w
/-- THE RULE for a def: its body as a term, and the term's reading -/
theorem fn_D {x qual : Str} {st : Stmt} {f : Addr} {fd : FuncData} {N ps : List Str} {k : Nat} {fs : FS} (F : Fun K x qual st f fd) (S : FnScope N ps (defScope st))
    (hbody : ∀ (cdv : Value) (A : Around) (outer : List Env) (s : Shared) (H : Hp) (E : XK) (ds : List D) (L : Sto) (R : QE) (RE : QX), Room k (A.deeper (envOfC qual (defScope st) s.heap.objs.size f cdv)) → ds.length = ps.length → fs ds L R RE →
      ∃ t, DSs (cxOf (L2.CX P w) P w K mg base N qual (defScope st) f cdv A outer s H E) (gamE K w RE E) (defBody st) t ∧ t { nx := fun _ L' => FinR L.length R .non L', rt := FinR L.length R } (startD N.length ds) L) :
    FnOk P w K mg base (L2.CX P w) (k + 1) f fd ps (liftF K w ps.length fs) :=
  F.okX S (fun vs H Q E h => h.1) fun cdv A outer s H vs Q E hr ⟨hlen, W, ds, L, R, RE, is, sr, hf, k1, k2⟩ => by
    obtain ⟨t, h1, h2⟩ := hbody cdv A outer s H E ds L R RE hr (by rw [← is.length]; exact hlen) hf
    refine ⟨_, h1.pss, W, startD N.length ds, L, _, ?_, sr.with (G := gamE K w RE E) k2, h2, ?_⟩
    · unfold L2.start startD
      rw [is.length]
      exact IsS.starts _ is
    · have kf := k1.fin (G := gamE K w RE E) sr
      exact ⟨fun ρ' L' W' H' σ' x _ sr' h => kf .non L' W' H' .non x sr' .non h, kf, fun _ _ _ _ _ _ _ _ h => h, fun _ _ _ _ _ _ _ _ h => h⟩
end

/-! ### calls -/
section
variable {X : Cx} {G : Gam} {e : Expr} {es : List Expr} {tt : tA} {k : Nat} {f : Addr} {fd : FuncData} {ps : List Str} {x : Str} {p pos : Pos} {fs : FS} {n : Nat}
/-- nothing of one's own is handed on -/
def tCaP (n : Nat) (fs : FS) (t : tA) : tE := fun ρ L R => t ρ L fun cs L1 => cs.length = n ∧ lowDs 0 cs ∧ fs cs [] (fun d _ => lowD 0 d → R d L1) fun _ _ => False
theorem call_imp {H : Hp} {Q : VK} {E : XK} {W : Wd} {L : Sto} {R : QE} {cs : List D} {vs : List V} (sr : SR X.K X.w G H W L) (is : Iss X.K X.w H W vs cs) (hn : cs.length = n) (low : lowDs 0 cs) (h : fs cs [] (fun d _ => lowD 0 d → R d L) fun _ _ => False) (k : Kont X.K X.w G W L H R Q) :
    liftF X.K X.w n fs vs H Q E := by
  have is0 : Iss X.K X.w H ⟨[], W.fz⟩ vs cs := Iss.low (m := 0) (W := W) (W' := ⟨[], W.fz⟩) (fun _ f => f) (fun _ _ h => absurd h (Nat.not_lt_zero _)) is low
  have sr0 : SR X.K X.w .none H ⟨[], W.fz⟩ [] := by
    refine ⟨rfl, ?_, ?_, sr.fzt, ?_, trivial⟩
    · rintro n m a ⟨_, o, e, _⟩; simp at e
    · rintro n a ⟨_, o, e, _⟩; simp at e
    · intro n a o _ e; simp at e
  refine ⟨by rw [is.length]; exact hn, ⟨[], W.fz⟩, cs, [], _, _, is0, sr0, h, ?_, fun x L' W' H' od _ _ _ h => h.elim⟩
  intro d L' W' H' v x0 sr' i ⟨l1, l2, l3, r⟩
  have l0 : L' = [] := List.length_eq_zero_iff.mp l3
  subst l0
  have nl : ∀ n a, ¬ Live ⟨[], W.fz⟩ ([] : Sto) n a := fun n a ⟨_, o, e, _⟩ => by simp at e
  have keep : ∀ a o, H a = some o → H' a = some o := fun a o e => x0.keep a o e fun n => nl n a
  have fzn : ∀ a, W'.fz a → W.fz a ∨ H a = none := fun a f => by
    rcases x0.fzn a f with f | ⟨m, l⟩ | e
    · exact .inl f
    · exact absurd l (nl m a)
    · exact .inr e
  have x1 : Ext W L H ⟨W.mu, W'.fz⟩ L H' := ⟨⟨[], (List.append_nil _).symm⟩, x0.fz, fun a o e _ => keep a o e, fun n a l => .inl ⟨n, l⟩, fun a f => (fzn a f).elim .inl fun e => .inr (.inr e)⟩
  have sr1 : SR X.K X.w G H' ⟨W.mu, W'.fz⟩ L := by
    refine ⟨sr.len, sr.inj, fun n a l f => ?_, sr'.fzt, fun n a o e1 e2 => (sr.ok n a o e1 e2).ext sr x1 fun u e => keep a u e, G.st sr.gam x1⟩
    have l' : Live W L n a := l
    rcases fzn a f with f | e
    · exact sr.nfz n a l' f
    · obtain ⟨o, e'⟩ := sr.there l'
      rw [e] at e'; cases e'
  have i1 : Is X.K X.w H' ⟨W.mu, W'.fz⟩ v d := Is.low (m := 0) (W := W') (W' := ⟨W.mu, W'.fz⟩) (fun _ f => f) (fun _ _ h => absurd h (Nat.not_lt_zero _)) i l1
  exact k d L _ H' v x1 sr1 i1 (r l1)
theorem de_call (F : FnOk X.prog X.w X.K X.mg X.base (L2.CX X.prog X.w) k f fd ps (liftF X.K X.w n fs)) (hr : Room k X.A) (hm : X.mg x = some (.ref f)) (hk : PySem.W.keepIn X.K (.ref f) = true) (hb : Binds X.K fd ps []) (ha : DA X G (e :: es) tt)
    (hg : Gl X x := by rfl) (hdb : (x == ("__debug__" : Str)) = false := by decide) (he : starEach (e :: es) X.env = (false, eval e X.env) :: starEach es X.env := by rfl) (hpl : (backTo pos (starEach es X.env)).any (·.1) = false := by rfl) :
    DE X G (.Call (.Name x p) (e :: es) [] pos) (tCaP n fs tt) :=
  ⟨PE.imp (pe_call (E := E0) F hr hg hm hk hb .nil passL ha.pa hdb he hpl) fun σ H Q ⟨W, ρ, L, R, es', sr, h, k⟩ => ⟨W, ρ, L, _, es', sr, h, fun cs L1 W1 H1 vs x1 sr1 is1 h1 => by
    show liftF X.K X.w n fs (vs ++ []) H1 Q E0
    rw [List.append_nil]
    exact call_imp sr1 is1 h1.1 h1.2.1 h1.2.2 (k.ext x1)⟩⟩
theorem de_call0 (F : FnOk X.prog X.w X.K X.mg X.base (L2.CX X.prog X.w) k f fd ps (liftF X.K X.w n fs)) (hr : Room k X.A) (hm : X.mg x = some (.ref f)) (hk : PySem.W.keepIn X.K (.ref f) = true) (hb : Binds X.K fd ps [])
    (hg : Gl X x := by rfl) (hdb : (x == ("__debug__" : Str)) = false := by decide) : DE X G (.Call (.Name x p) [] [] pos) (tCaP n fs tNilA) :=
  ⟨PE.imp (pe_call0 (E := E0) F hr hg hm hk hb .nil passL hdb) fun σ H Q ⟨W, ρ, L, R, es', sr, h, k⟩ => by
    show liftF X.K X.w n fs ([] ++ []) H Q E0
    exact call_imp sr .nil h.1 h.2.1 h.2.2 k⟩
/-- one own object is handed on, as the first argument -/
def tCaM (n : Nat) (fs : FS) (t : tA) : tE := fun ρ L R => t ρ L fun cs L1 => match cs with
  | .ob j :: r => r.length + 1 = n ∧ lowDs 0 r ∧ match L1[j]? with
    | some o => o ≠ .dead ∧ lowO 0 o ∧ fs (.ob 0 :: r) [o] (fun d L2 => lowD 0 d ∧ match L2 with
      | [o'] => lowO 0 o' ∧ R d (L1.set j o')
      | _ => False) fun _ _ => False
    | none => False
  | _ => False
theorem callM_imp {H : Hp} {Q : VK} {E : XK} {W : Wd} {L : Sto} {R : QE} {cs : List D} {vs : List V} (sr : SR X.K X.w G H W L) (is : Iss X.K X.w H W vs cs)
    (h : tCaM n fs (fun _ L R => R cs L) [] L R) (k : Kont X.K X.w G W L H R Q) : liftF X.K X.w n fs vs H Q E := by
  unfold tCaM at h
  dsimp only at h
  split at h
  · rename_i j r
    obtain ⟨hn, low, h⟩ := h
    split at h
    · rename_i o eo
      obtain ⟨od, ol, h⟩ := h
      cases is with
      | cons i is =>
        cases i with
        | ob hm =>
          rename_i vs a
          have lv : Live W L j a := ⟨hm, o, eo, od⟩
          have is0 : Iss X.K X.w H ⟨[a], W.fz⟩ vs r := Iss.low (m := 0) (W := W) (W' := ⟨[a], W.fz⟩) (fun _ f => f) (fun _ _ h => absurd h (Nat.not_lt_zero _)) is low
          have one : ∀ {n : Nat} {b : Addr}, ([a] : List Addr)[n]? = some b → n = 0 ∧ b = a := fun {n b} e => by
            cases n with
            | zero => exact ⟨rfl, by simpa using e.symm⟩
            | succ n => simp at e
          have sr0 : SR X.K X.w .none H ⟨[a], W.fz⟩ [o] := by
            refine ⟨rfl, ?_, ?_, sr.fzt, ?_, trivial⟩
            · rintro n m b ⟨h1, _⟩ ⟨h2, _⟩
              rw [(one h1).1, (one h2).1]
            · rintro n b ⟨h1, _⟩ f
              have e := (one h1).2
              subst e
              exact sr.nfz j _ lv f
            · intro n b u h1 h2
              obtain ⟨rfl, rfl⟩ := one h1
              have e : o = u := by simpa using h2
              subst e
              exact (sr.ok j _ _ hm eo).low (m := 0) (W := W) (W' := ⟨[b], W.fz⟩) (fun _ f => f) (fun _ _ h => absurd h (Nat.not_lt_zero _)) ol
          refine ⟨by rw [List.length_cons, is.length]; exact hn, ⟨[a], W.fz⟩, .ob 0 :: r, [o], _, _, .cons (.ob rfl) is0, sr0, h, ?_, fun x L' W' H' od _ _ _ h => h.elim⟩
          intro d L' W' H' v x0 sr' i ⟨_, _, l3, l1, rr⟩
          obtain ⟨o', rfl⟩ : ∃ o', L' = [o'] := by
            cases L' with
            | nil => cases l3
            | cons o' t =>
              cases t with
              | nil => exact ⟨o', rfl⟩
              | cons _ _ => simp at l3
          obtain ⟨l2, rr⟩ := rr
          have live0 : ∀ {n : Nat} {b : Addr}, Live ⟨[a], W.fz⟩ [o] n b → b = a := fun {n b} l => (one l.1).2
          have keep : ∀ b u, H b = some u → b ≠ a → H' b = some u := fun b u e ne => x0.keep b u e fun n l => ne (live0 l)
          have fzn : ∀ b, W'.fz b → W.fz b ∨ b = a ∨ H b = none := fun b f => by
            rcases x0.fzn b f with f | ⟨m, l⟩ | e
            · exact .inl f
            · exact .inr (.inl (live0 l))
            · exact .inr (.inr e)
          -- the object is still there
          obtain ⟨t, et⟩ := x0.pre
          have ma : W'.mu[0]? = some a := by rw [et]; rfl
          have x1 : Ext W L H ⟨W.mu, W'.fz⟩ (L.set j o') H' := ⟨⟨[], (List.append_nil _).symm⟩, x0.fz, fun b u e nl => keep b u e fun z => nl j (z ▸ lv), fun n b l => .inl ⟨n, live_set (W := W) eo od l⟩, fun b f => by
            rcases fzn b f with f | e | e
            · exact .inl f
            · exact .inr (.inl ⟨j, e ▸ lv⟩)
            · exact .inr (.inr e)⟩
          have sr1 : SR X.K X.w G H' ⟨W.mu, W'.fz⟩ (L.set j o') := by
            refine ⟨by rw [List.length_set]; exact sr.len, fun n m b p1 p2 => sr.inj n m b (live_set (W := W) eo od p1) (live_set (W := W) eo od p2), fun n b l f => ?_, sr'.fzt, fun n b u h1 h2 => ?_, G.st sr.gam x1⟩
            · have l' : Live W L n b := live_set (W := W) eo od l
              rcases fzn b f with f | e | e
              · exact sr.nfz n b l' f
              · subst e
                have en := sr.inj n j b l' lv
                subst en
                obtain ⟨_, u, h2, h3⟩ := l
                rw [List.getElem?_set_self (List.getElem?_eq_some_iff.mp eo).1] at h2
                cases h2
                exact sr'.nfz 0 b ⟨ma, _, rfl, h3⟩ f
              · obtain ⟨u, e'⟩ := sr.there l'
                rw [e] at e'; cases e'
            · by_cases en : j = n
              · subst en
                have eb : a = b := Option.some.inj (hm.symm.trans h1)
                subst eb
                rw [List.getElem?_set_self (List.getElem?_eq_some_iff.mp eo).1] at h2
                cases h2
                exact (sr'.ok 0 a _ ma rfl).low (m := 0) (W := W') (W' := ⟨W.mu, W'.fz⟩) (fun _ f => f) (fun _ _ h => absurd h (Nat.not_lt_zero _)) l2
              · rw [List.getElem?_set_ne en] at h2
                by_cases ud : u = .dead
                · rw [ud]; trivial
                · have ne : b ≠ a := fun z => en (sr.inj j n a lv (z ▸ ⟨h1, u, h2, ud⟩))
                  exact (sr.ok n b u h1 h2).ext sr x1 fun v e => keep b v e ne
          have i1 : Is X.K X.w H' ⟨W.mu, W'.fz⟩ v d := Is.low (m := 0) (W := W') (W' := ⟨W.mu, W'.fz⟩) (fun _ f => f) (fun _ _ h => absurd h (Nat.not_lt_zero _)) i l1
          exact k d _ _ H' v x1 sr1 i1 rr
    · exact h.elim
  · exact h.elim
theorem de_callM (F : FnOk X.prog X.w X.K X.mg X.base (L2.CX X.prog X.w) k f fd ps (liftF X.K X.w n fs)) (hr : Room k X.A) (hm : X.mg x = some (.ref f)) (hk : PySem.W.keepIn X.K (.ref f) = true) (hb : Binds X.K fd ps []) (ha : DA X G (e :: es) tt)
    (hg : Gl X x := by rfl) (hdb : (x == ("__debug__" : Str)) = false := by decide) (he : starEach (e :: es) X.env = (false, eval e X.env) :: starEach es X.env := by rfl) (hpl : (backTo pos (starEach es X.env)).any (·.1) = false := by rfl) :
    DE X G (.Call (.Name x p) (e :: es) [] pos) (tCaM n fs tt) :=
  ⟨PE.imp (pe_call (E := E0) F hr hg hm hk hb .nil passL ha.pa hdb he hpl) fun σ H Q ⟨W, ρ, L, R, es', sr, h, k⟩ => ⟨W, ρ, L, _, es', sr, h, fun cs L1 W1 H1 vs x1 sr1 is1 h1 => by
    show liftF X.K X.w n fs (vs ++ []) H1 Q E0
    rw [List.append_nil]
    exact callM_imp sr1 is1 h1 (k.ext x1)⟩⟩
end

/-! ### pure defs -/
/-- what a pure def promises: by the arguments, the answer -/
abbrev PS1 := List D → (D → Prop) → Prop
def pureF (P : PS1) : FS := fun ds L R _ => L = [] ∧ P ds fun d => R d []
theorem rtp {R : QE} {d : D} {L : Sto} (h : lowD 0 d) (r : R d []) : FinR 0 R d L := ⟨d, [], .same h, .nil, rfl, r⟩
theorem rtpF {R : QE} {d d0 : D} {L : Sto} (h : Fr L 0 d d0) (r : R d0 []) : FinR 0 R d L := ⟨d0, [], h, .nil, rfl, r⟩
abbrev endP (R : QE) : DEnds := { nx := fun _ L' => FinR 0 R .non L', rt := FinR 0 R }
section
variable {P : Program} {w : World} {K : PySem.W.Frag} {mg : Str → Option Value} {base : Heap}
/-- a derivation of a def's body, wherever it is called -/
abbrev DvOf (P : Program) (w : World) (K : PySem.W.Frag) (mg : Str → Option Value) (base : Heap) (N : List Str) (qual : Str) (st : Stmt) (f : Addr) (k : Nat) (t : tS) : Prop :=
  ∀ (cdv : Value) (A : Around) (outer : List Env) (s : Shared) (H : Hp) (E : XK) (RE : QX), Room k (A.deeper (envOfC qual (defScope st) s.heap.objs.size f cdv)) →
    DSs (cxOf (L2.CX P w) P w K mg base N qual (defScope st) f cdv A outer s H E) (gamE K w RE E) (defBody st) t
/-- THE RULE for a pure def -/
theorem fn_P {x qual : Str} {st : Stmt} {f : Addr} {fd : FuncData} {N ps : List Str} {k : Nat} {P1 : PS1} {t : tS} (F : Fun K x qual st f fd) (S : FnScope N ps (defScope st)) (dv : DvOf P w K mg base N qual st f k t)
    (rd : ∀ (ds : List D) (R : QE), ds.length = ps.length → P1 ds (fun d => R d []) → t (endP R) (startD N.length ds) []) :
    FnOk P w K mg base (L2.CX P w) (k + 1) f fd ps (liftF K w ps.length (pureF P1)) :=
  fn_D F S fun cdv A outer s H E ds L R RE hr hl ⟨e, h⟩ => by
    subst e
    exact ⟨t, dv cdv A outer s H E RE hr, rd ds R hl h⟩
/-- .. for one that changes its first argument's object -/
def mutF (P : D → O → List D → (D → O → Prop) → Prop) : FS := fun ds L R _ => match ds, L with
  | d :: r, [o] => P d o r fun x o' => R x [o']
  | _, _ => False
abbrev endM (R : QE) : DEnds := { nx := fun _ L' => FinR 1 R .non L', rt := FinR 1 R }
theorem rtm {R : QE} {d : D} {o : O} {L : Sto} (h : lowD 1 d) (h' : lowO 1 o) (r : R d [o]) : FinR 1 R d (o :: L) := ⟨d, [o], .same h, .cons (.same h') .nil, rfl, r⟩
theorem fn_M {x qual : Str} {st : Stmt} {f : Addr} {fd : FuncData} {N ps : List Str} {k : Nat} {P1 : D → O → List D → (D → O → Prop) → Prop} {t : tS} (F : Fun K x qual st f fd) (S : FnScope N ps (defScope st)) (dv : DvOf P w K mg base N qual st f k t)
    (rd : ∀ (d : D) (o : O) (r : List D) (R : QE), r.length + 1 = ps.length → P1 d o r (fun x o' => R x [o']) → t (endM R) (startD N.length (d :: r)) [o]) :
    FnOk P w K mg base (L2.CX P w) (k + 1) f fd ps (liftF K w ps.length (mutF P1)) :=
  fn_D F S fun cdv A outer s H E ds L R RE hr hl h => by
    unfold mutF at h
    split at h
    · exact ⟨t, dv cdv A outer s H E RE hr, rd _ _ _ R hl h⟩
    · exact h.elim
end
/-- a def as it stands behind the top -/
structure FunAt (K : PySem.W.Frag) (mg : Str → Option Value) (x : Str) (st : Stmt) (ps : List Str) where
  f : Addr
  fd : FuncData
  F : Fun K x x st f fd
  g : mg x = some (.ref f)
  b : Binds K fd ps []
/-- a written value of the module -/
def GlobV (K : PySem.W.Frag) (mg : Str → Option Value) (x : Str) (d : D) : Prop := ∃ u v, mg x = some u ∧ RelV v u ∧ ∀ w H W, Is K w H W v d
theorem de_cst {X : Cx} {G : Gam} {x : Str} {d : D} {pos : Pos} (h : GlobV X.K X.mg x d) (hg : Gl X x := by rfl) (hd : (x == ("__debug__" : Str)) = false := by decide) : DE X G (.Name x pos) (tK d) :=
  let ⟨_, _, h1, h2, h3⟩ := h; de_globV hg h1 h2 h3 hd
theorem iteB {b : Bool} {A B : Prop} (h1 : b = true → A) (h2 : b = false → B) : if b = true then A else B := by
  cases b with
  | true => rw [if_pos rfl]; exact h1 rfl
  | false => rw [if_neg Bool.false_ne_true]; exact h2 rfl
theorem iteY {b : Bool} {A B : Prop} (h : b = true) (ha : A) : if b = true then A else B := by subst h; rw [if_pos rfl]; exact ha
theorem iteN {b : Bool} {A B : Prop} (h : b = false) (hb : B) : if b = true then A else B := by subst h; rw [if_neg Bool.false_ne_true]; exact hb
theorem hu65 {k : Nat} {A : Around} (r : Room k A) : A.units + 65 < cLine := by have := r.un; omega
end L2.DL

set_option Elab.async false
set_option linter.all false
set_option maxRecDepth 100000
/-! DJ: lists by built-ins (any, all, sum, max, sorted, list, tuple), zip, reversing, append, a small written dict asked. -/
namespace L2.DL
open PySem PySem.Spec PyProof.Rows

/-! ### what lists hold -/
def blsOf : List D → Option (List Bool)
  | [] => some []
  | .bl b :: r => (blsOf r).map (b :: ·)
  | _ :: _ => none
def intsOf : List D → Option (List Int)
  | [] => some []
  | .int b :: r => (intsOf r).map (b :: ·)
  | _ :: _ => none
section
variable {K : PySem.W.Frag} {w : World} {H : Hp} {W : Wd}
theorem bls_is : ∀ {vs : List V} {ds : List D} {bs : List Bool}, Iss K w H W vs ds → blsOf ds = some bs → vs = bs.map V.bl
  | _, _, _, .nil, e => by simp [blsOf] at e; subst e; rfl
  | _, _, _, .cons (d := d) h t, e => by
    cases d with
    | bl b =>
      cases h
      simp only [blsOf, Option.map_eq_some_iff] at e
      obtain ⟨bs, e1, e2⟩ := e
      subst e2
      rw [bls_is t e1]; rfl
    | _ => simp [blsOf] at e
theorem ints_is : ∀ {vs : List V} {ds : List D} {bs : List Int}, Iss K w H W vs ds → intsOf ds = some bs → vs = bs.map V.int
  | _, _, _, .nil, e => by simp [intsOf] at e; subst e; rfl
  | _, _, _, .cons (d := d) h t, e => by
    cases d with
    | int b =>
      cases h
      simp only [intsOf, Option.map_eq_some_iff] at e
      obtain ⟨bs, e1, e2⟩ := e
      subst e2
      rw [ints_is t e1]; rfl
    | _ => simp [intsOf] at e
end
theorem blsOf_map (bs : List Bool) : blsOf (bs.map D.bl) = some bs := by
  induction bs with
  | nil => rfl
  | cons b r ih => simp [blsOf, ih]
theorem intsOf_map (bs : List Int) : intsOf (bs.map D.int) = some bs := by
  induction bs with
  | nil => rfl
  | cons b r ih => simp [intsOf, ih]

section
variable {X : Cx} {G : Gam} {a b c e : Expr} {ta tb tc te : tE} {pos : Pos} {es : List Expr} {tt : tA} {x : Str} {p : Pos}
/-! ### any, all, sum, max -/
def cBls (f : List Bool → Bool) : OA := fun xs L R => match xs with
  | [d] => match lstOf L d with
    | some ds => match blsOf ds with
      | some bs => R (.bl (f bs)) L
      | none => False
    | none => False
  | _ => False
abbrev cAny : OA := cBls (·.any id)
abbrev cAll : OA := cBls (·.all id)
theorem cb_any {K w} : CbD K w cAny (rAny K) := by
  intro G W H L xs vs R Q sr is h k
  unfold cAny cBls at h
  split at h
  · obtain ⟨v, rfl, i⟩ := iss1 is
    split at h
    · rename_i ds e
      split at h
      · rename_i bs e2
        obtain ⟨a, ys, rfl, h1, h2⟩ := lstOf_is sr i e
        exact ⟨a, bs, rfl, by rw [← bls_is h2 e2]; exact h1, k.here sr (.bl _) h⟩
      · exact h.elim
    · exact h.elim
  · exact h.elim
theorem cb_all {K w} : CbD K w cAll (rAll K) := by
  intro G W H L xs vs R Q sr is h k
  unfold cAll cBls at h
  split at h
  · obtain ⟨v, rfl, i⟩ := iss1 is
    split at h
    · rename_i ds e
      split at h
      · rename_i bs e2
        obtain ⟨a, ys, rfl, h1, h2⟩ := lstOf_is sr i e
        exact ⟨a, bs, rfl, by rw [← bls_is h2 e2]; exact h1, k.here sr (.bl _) h⟩
      · exact h.elim
    · exact h.elim
  · exact h.elim
def cSum : OA := fun xs L R => match xs with
  | [d] => match lstOf L d with
    | some ds => match intsOf ds with
      | some bs => R (.int bs.sum) L
      | none => False
    | none => False
  | _ => False
theorem cb_sum {K w} : CbD K w cSum (rSum K) := by
  intro G W H L xs vs R Q sr is h k
  unfold cSum at h
  split at h
  · obtain ⟨v, rfl, i⟩ := iss1 is
    split at h
    · rename_i ds e
      split at h
      · rename_i bs e2
        obtain ⟨a, ys, rfl, h1, h2⟩ := lstOf_is sr i e
        exact ⟨a, bs, rfl, by rw [← ints_is h2 e2]; exact h1, k.here sr (.int _) h⟩
      · exact h.elim
    · exact h.elim
  · exact h.elim
def maxI : List Int → Int
  | [] => 0
  | x :: r => r.foldl max x
theorem maxI_ge : ∀ (r : List Int) (x : Int), x ≤ r.foldl max x ∧ (∀ y ∈ r, y ≤ r.foldl max x) ∧ (r.foldl max x = x ∨ r.foldl max x ∈ r)
  | [], x => ⟨Int.le_refl _, by simp, .inl rfl⟩
  | y :: r, x => by
    obtain ⟨h1, h2, h3⟩ := maxI_ge r (max x y)
    refine ⟨by simp only [List.foldl_cons]; omega, ?_, ?_⟩
    · intro z hz
      simp only [List.foldl_cons]
      rcases List.mem_cons.mp hz with rfl | hz
      · omega
      · exact h2 z hz
    · simp only [List.foldl_cons]
      rcases h3 with e | e
      · by_cases hxy : x ≤ y
        · right; rw [e]; have : max x y = y := by omega
          rw [this]; exact List.mem_cons_self
        · left; rw [e]; omega
      · exact .inr (List.mem_cons_of_mem _ e)
theorem maxI_uniq {ns : List Int} {m : Int} (h0 : 0 < ns.length) (h1 : m ∈ ns) (h2 : ∀ y ∈ ns, y ≤ m) : m = maxI ns := by
  cases ns with
  | nil => cases h1
  | cons x r =>
    obtain ⟨a, b, c⟩ := maxI_ge r x
    show m = r.foldl max x
    have h3 : m ≤ r.foldl max x := by
      rcases List.mem_cons.mp h1 with rfl | h
      · exact a
      · exact b _ h
    have h4 : r.foldl max x ≤ m := by
      rcases c with e | e
      · rw [e]; exact h2 x List.mem_cons_self
      · exact h2 _ (List.mem_cons_of_mem _ e)
    omega
def cMaxL : OA := fun xs L R => match xs with
  | [d] => match lstOf L d with
    | some ds => match intsOf ds with
      | some bs => 0 < bs.length ∧ R (.int (maxI bs)) L
      | none => False
    | none => False
  | _ => False
theorem cb_maxL {K w} : CbD K w cMaxL (rMax K) := by
  intro G W H L xs vs R Q sr is h k
  unfold cMaxL at h
  split at h
  · obtain ⟨v, rfl, i⟩ := iss1 is
    split at h
    · rename_i ds e
      split at h
      · rename_i bs e2
        obtain ⟨a, ys, rfl, h1, h2⟩ := lstOf_is sr i e
        exact ⟨a, bs, rfl, by rw [← ints_is h2 e2]; exact h1, h.1, fun m m1 m2 => k.here sr (.int _) (by rw [maxI_uniq h.1 m1 m2]; exact h.2)⟩
      · exact h.elim
    · exact h.elim
  · exact h.elim
theorem de_any (hm : X.mg "any" = none) (ha : DA X G (e :: es) tt) (hc : X.calm = true := by rfl) (hg : Gl X "any" := by rfl) (he : starEach (e :: es) X.env = (false, eval e X.env) :: starEach es X.env := by rfl) (hpl : (backTo pos (starEach es X.env)).any (·.1) = false := by rfl) :
    DE X G (.Call (.Name "any" p) (e :: es) [] pos) (tCa cAny tt) := de_callB (cr_any hc) cb_any hg hm (by first | exact PyProof.Rows.boot_any | exact boot_any | decide +kernel) ha (by decide) (by decide) he hpl
theorem de_all (hm : X.mg "all" = none) (ha : DA X G (e :: es) tt) (hc : X.calm = true := by rfl) (hg : Gl X "all" := by rfl) (he : starEach (e :: es) X.env = (false, eval e X.env) :: starEach es X.env := by rfl) (hpl : (backTo pos (starEach es X.env)).any (·.1) = false := by rfl) :
    DE X G (.Call (.Name "all" p) (e :: es) [] pos) (tCa cAll tt) := de_callB (cr_all hc) cb_all hg hm (by first | exact PyProof.Rows.boot_all | exact boot_all | decide +kernel) ha (by decide) (by decide) he hpl
theorem de_sum (hm : X.mg "sum" = none) (ha : DA X G (e :: es) tt) (hc : X.calm = true := by rfl) (hg : Gl X "sum" := by rfl) (he : starEach (e :: es) X.env = (false, eval e X.env) :: starEach es X.env := by rfl) (hpl : (backTo pos (starEach es X.env)).any (·.1) = false := by rfl) :
    DE X G (.Call (.Name "sum" p) (e :: es) [] pos) (tCa cSum tt) := de_callB (cr_sum hc) cb_sum hg hm (by first | exact PyProof.Rows.boot_sum | exact boot_sum | decide +kernel) ha (by decide) (by decide) he hpl
theorem de_maxL (hm : X.mg "max" = none) (ha : DA X G (e :: es) tt) (hc : X.calm = true := by rfl) (hg : Gl X "max" := by rfl) (he : starEach (e :: es) X.env = (false, eval e X.env) :: starEach es X.env := by rfl) (hpl : (backTo pos (starEach es X.env)).any (·.1) = false := by rfl) :
    DE X G (.Call (.Name "max" p) (e :: es) [] pos) (tCa cMaxL tt) := de_callB (cr_max hc) cb_maxL hg hm boot_max ha (by decide) (by decide) he hpl

/-! ### list(x), tuple(x) -/
def cList : OA := fun xs L R => match xs with
  | [d] => match seqOf L d with
    | some ds => R (.lst ds) L
    | none => False
  | _ => False
def cListO : OA := fun xs L R => match xs with
  | [d] => match seqOf L d with
    | some ds => R (.ob L.length) (L ++ [.lst ds])
    | none => False
  | _ => False
def rListS (K : PySem.W.Frag) : List V → Hp → VK → Prop := fun xs H Q => ∃ p ys, xs = [.ref p] ∧ (SqL K H p ys ∨ SqT K H p ys) ∧ ∀ l, H l = none → Q (.ref l) (upd H l (.lst ys))
theorem cb_list {K w} : CbD K w cList (rListS K) := by
  intro G W H L xs vs R Q sr is h k
  unfold cList at h
  split at h
  · obtain ⟨v, rfl, i⟩ := iss1 is
    split at h
    · rename_i ds e
      obtain ⟨a, ys, rfl, h1, h2⟩ := seq_is sr i e
      exact ⟨a, ys, rfl, h1, fun l hl => k.lst sr hl h2 h⟩
    · exact h.elim
  · exact h.elim
theorem cb_listO {K w} : CbD K w cListO (rListS K) := by
  intro G W H L xs vs R Q sr is h k
  unfold cListO at h
  split at h
  · obtain ⟨v, rfl, i⟩ := iss1 is
    split at h
    · rename_i ds e
      obtain ⟨a, ys, rfl, h1, h2⟩ := seq_is sr i e
      exact ⟨a, ys, rfl, h1, fun l hl => k.own sr hl h2 h⟩
    · exact h.elim
  · exact h.elim
theorem de_listC (hm : X.mg "list" = none) (ha : DA X G (e :: es) tt) (hg : Gl X "list" := by rfl) (he : starEach (e :: es) X.env = (false, eval e X.env) :: starEach es X.env := by rfl) (hpl : (backTo pos (starEach es X.env)).any (·.1) = false := by rfl) :
    DE X G (.Call (.Name "list" p) (e :: es) [] pos) (tCa cList tt) := de_callTy call_list_of cb_list hg hm PyProof.Rows.boot_list ha (by decide) (by decide) he hpl
theorem de_listO (hm : X.mg "list" = none) (ha : DA X G (e :: es) tt) (hg : Gl X "list" := by rfl) (he : starEach (e :: es) X.env = (false, eval e X.env) :: starEach es X.env := by rfl) (hpl : (backTo pos (starEach es X.env)).any (·.1) = false := by rfl) :
    DE X G (.Call (.Name "list" p) (e :: es) [] pos) (tCa cListO tt) := de_callTy call_list_of cb_listO hg hm PyProof.Rows.boot_list ha (by decide) (by decide) he hpl
def cTuple : OA := fun xs L R => match xs with
  | [d] => match seqOf L d with
    | some ds => R (.tup ds) L
    | none => False
  | _ => False
theorem cb_tuple {K w} : CbD K w cTuple (fun xs H Q => ∃ p ys, xs = [.ref p] ∧ ((SqL K H p ys ∧ ∀ l, H l = none → Q (.ref l) (upd H l (.tup ys))) ∨ (SqT K H p ys ∧ Q (.ref p) H))) := by
  intro G W H L xs vs R Q sr is h k
  unfold cTuple at h
  split at h
  · obtain ⟨v, rfl, i⟩ := iss1 is
    split at h
    · rename_i ds e
      obtain ⟨a, ys, rfl, h1, h2⟩ := seq_is sr i e
      rcases h1 with h1 | h1
      · exact ⟨a, ys, rfl, .inl ⟨h1, fun l hl => k.tup sr hl h2 h⟩⟩
      · exact ⟨a, ys, rfl, .inr ⟨h1, k.here sr (.tup h1 h2) h⟩⟩
    · exact h.elim
  · exact h.elim
theorem de_tuple (hm : X.mg "tuple" = none) (ha : DA X G (e :: es) tt) (hg : Gl X "tuple" := by rfl) (he : starEach (e :: es) X.env = (false, eval e X.env) :: starEach es X.env := by rfl) (hpl : (backTo pos (starEach es X.env)).any (·.1) = false := by rfl) :
    DE X G (.Call (.Name "tuple" p) (e :: es) [] pos) (tCa cTuple tt) := de_callTy call_tuple_of cb_tuple hg hm PyProof.Rows.boot_tuple ha (by decide) (by decide) he hpl
/-! ### list(range(..)) -/
theorem rg_is {K w H W} (lo hi : Int) : Iss K w H W (rgV lo hi) (rangeD lo (hi - lo).toNat) := by
  unfold rgV rangeD
  generalize List.range (hi - lo).toNat = l
  induction l with
  | nil => exact .nil
  | cons x r ih => exact .cons (.int _) ih
def tLsR1 (t : tA) : tE := fun ρ L R => t ρ L fun ds L1 => match ds with
  | [.int j] => RgOk 0 j ∧ R (.lst (rangeD 0 j.toNat)) L1
  | _ => False
def tLsR2 (t : tA) : tE := fun ρ L R => t ρ L fun ds L1 => match ds with
  | [.int i, .int j] => RgOk i j ∧ R (.lst (rangeD i (j - i).toNat)) L1
  | _ => False
def t1A (t : tE) : tA := tConsA t tNilA
theorem de_listR1 {p2 pos2 : Pos} (hc : X.calm = true) (hm : X.mg "list" = none) (hm2 : X.mg "range" = none) (ha : DE X G a ta) (hg : Gl X "list" := by rfl) (hg2 : Gl X "range" := by rfl) (na2 : starEach [a] X.env = (false, eval a X.env) :: starEach [] X.env := by rfl)
    (na : starEach [.Call (.Name "range" p2) [a] [] pos2] X.env = (false, eval (.Call (.Name "range" p2) [a] [] pos2) X.env) :: starEach [] X.env := by rfl) :
    DE X G (.Call (.Name "list" p) [.Call (.Name "range" p2) [a] [] pos2] [] pos) (tLsR1 (tConsA ta tNilA)) :=
  ⟨PE.imp (pe_listRg hc hg hm (prg_1 hg2 hm2 ha.pe na2) na) fun σ H Q ⟨W, ρ, L, R, es, sr, h, k⟩ => ⟨W, ρ, L, _, es, sr, h, fun d L1 W1 H1 v x1 sr1 is1 h1 => by
    dsimp only [tNilA] at h1
    split at h1
    · rename_i j e
      cases e
      cases is1
      refine ⟨_, rfl, h1.1, fun q hq => (k.ext x1).lst sr1 hq (rg_is _ _) ?_⟩
      simpa using h1.2
    · exact h1.elim⟩⟩
theorem de_listR2 {p2 pos2 : Pos} (hc : X.calm = true) (hm : X.mg "list" = none) (hm2 : X.mg "range" = none) (ha : DE X G a ta) (hb : DE X G b tb) (hg : Gl X "list" := by rfl) (hg2 : Gl X "range" := by rfl) (na2 : starEach [a, b] X.env = (false, eval a X.env) :: starEach [b] X.env := by rfl)
    (nb2 : starEach [b] X.env = (false, eval b X.env) :: starEach [] X.env := by rfl) (hp : (backTo pos2 (starEach [b] X.env)).any (·.1) = false := by rfl)
    (na : starEach [.Call (.Name "range" p2) [a, b] [] pos2] X.env = (false, eval (.Call (.Name "range" p2) [a, b] [] pos2) X.env) :: starEach [] X.env := by rfl) :
    DE X G (.Call (.Name "list" p) [.Call (.Name "range" p2) [a, b] [] pos2] [] pos) (tLsR2 (tConsA ta (tConsA tb tNilA))) :=
  ⟨PE.imp (pe_listRg hc hg hm (prg_2 hg2 hm2 ha.pe hb.pe na2 nb2 hp) na) fun σ H Q ⟨W, ρ, L, R, es, sr, h, k⟩ => ⟨W, ρ, L, _, es, sr, h, fun d L1 W1 H1 v x1 sr1 is1 h1 => ⟨W1, ρ, L1, _, es.ext sr x1, sr1, h1, fun d2 L2 W2 H2 v2 x2 sr2 is2 h2 => by
    dsimp only [tNilA] at h2
    have is1 := is1.ext sr1 x2
    split at h2
    · rename_i i j e
      cases e
      cases is1; cases is2
      exact ⟨_, _, rfl, rfl, h2.1, fun q hq => ((k.ext x1).ext x2).lst sr2 hq (rg_is _ _) h2.2⟩
    · exact h2.elim⟩⟩⟩

/-! ### append -/
def appD (n : Nat) (R : QE) : QA := fun ds L2 => match ds with
  | [y] => match L2[n]? with
    | some (.lst xs) => xs.length < sizeLine ∧ R .non (L2.set n (.lst (xs ++ [y])))
    | _ => False
  | _ => False
def isLst : Option O → Bool
  | some (.lst _) => true
  | _ => false
def tAppend (to : tE) (t : tA) : tE := fun ρ L R => to ρ L fun d L1 => match d with
  | .ob n => isLst L1[n]? = true ∧ t ρ L1 (appD n R)
  | _ => False
theorem de_append {to : tE} {o : Expr} {apos cpos : Pos} (ho : DE X G o to) (ha : DA X G (e :: es) tt) (hbase : attributeBase o "append" X.env (eval o X.env) = eval o X.env := by rfl)
    (hfew : ((backTo cpos (starEach (e :: es) X.env)).all (fun x => !x.1) && (backToKw cpos (keywordEach [] X.env)).all (fun x => x.1.isSome)
      && decide ((e :: es).length + ([] : List Keyword).length + (if ([] : List Keyword).isEmpty then 0 else 1) < 30)) = true := by rfl)
    (hline : (apos.endLine == cpos.line) = true := by rfl) (hs : starEach (e :: es) X.env = (false, eval e X.env) :: starEach es X.env := by rfl) (hplain : (backTo cpos (starEach es X.env)).any (·.1) = false := by rfl) :
    DE X G (.Call (.Attribute o "append" apos) (e :: es) [] cpos) (tAppend to tt) :=
  ⟨PE.imp (pe_bm PySem.F.plainAttrs_list PySem.F.slot_list_append PySem.F.type_list_append mt_append ho.pe ha.pa hbase hfew hline hs hplain) fun σ H Q ⟨W, ρ, L, R, es, sr, h, k⟩ => ⟨W, ρ, L, _, es, sr, h, fun d L1 W1 H1 v x1 sr1 is1 h1 => by
    split at h1
    · rename_i n
      obtain ⟨hl, h1⟩ := h1
      cases is1 with
      | ob hm =>
        rename_i a
        obtain ⟨xs0, e0⟩ : ∃ xs : List D, L1[n]? = some (O.lst xs) := by
          unfold isLst at hl
          split at hl
          · exact ⟨_, by assumption⟩
          · cases hl
        obtain ⟨vs, h2, h3⟩ := sr1.ok _ _ _ hm e0
        refine ⟨.inl ⟨rfl, _, SqL.of h2⟩, W1, ρ, L1, _, es.ext sr x1, sr1, h1, fun ds L2 W2 H2 us x2 sr2 is2 h4 => ?_⟩
        unfold appD at h4
        split at h4
        · rename_i y
          obtain ⟨u, rfl, iu⟩ := iss1 is2
          split at h4
          · rename_i xs e2
            have hm2 := mu_ext x2 hm
            obtain ⟨ws, h5, h6⟩ := sr2.ok _ _ _ hm2 e2
            have ex := Ext.set (o := .lst (xs ++ [y])) (ho := .lst (ws ++ [u])) (H := H2) hm2 e2 (by intro z; cases z)
            refine ⟨a, ws, u, rfl, rfl, h5, by rw [h6.length]; exact h4.1, ?_⟩
            exact ((k.ext x1).ext x2) _ _ W2 _ _ ex (sr2.set hm2 e2 (by intro z; cases z) ⟨_, upd_same, (h6.append (.cons iu .nil)).ext sr2 ex⟩) .non h4.2
          · exact h4.elim
        · exact h4.elim
    · exact h1.elim⟩⟩

/-! ### xs[::-1] -/
theorem sliceApplied_rev {prog : Program} {w : World} {A : Around} {E : Value → Shared → Prop} {s : Shared} {sl : Addr} {vk : Value} {n : Nat} {Q : Int × Int × Nat → Shared → Prop} (hs : s.heap.IsSliceOf sl .none .none vk) (pk : IsPart vk (some (-1)))
    (h : Q ((n : Int) - 1, -1, n) s) : wpAny (model prog w) A (Builtin.Slice.sliceApplied (.ref sl) (pure (n : Int))) Q E s := by
  obtain ⟨os, hos, hcs, hds⟩ := id hs
  unfold Builtin.Slice.sliceApplied Builtin.Slice.sliceFields
  refine wpAny_bind (wpAny_bind (wpAny_field hos hds (x := .none) rfl (wpAny_bind (wpAny_field hos hds (x := .none) rfl (wpAny_bind (wpAny_field hos hds (x := vk) rfl (wpAny_pure ?_)))))))
  refine wpAny_bind (HT.slicePart_ pk ?_)
  show wpAny _ _ (if ((-1 : Int) == 0) = true then _ else _) _ _ s
  rw [if_neg (by decide)]
  refine wpAny_bind (slicePart_none (wpAny_bind (slicePart_none (wpAny_bind (wpAny_pure ?_)))))
  show wpAny _ _ (match Builtin.Slice.sliceAdjust none none (-1) (n : Int) with | (lo, hi) => pure (lo, (-1 : Int), Builtin.Slice.slicePlaces lo hi (-1))) _ _ s
  have e1 : Builtin.Slice.sliceAdjust none none (-1) (n : Int) = ((n : Int) - 1, -1) := by
    unfold Builtin.Slice.sliceAdjust
    simp
  have e2 : Builtin.Slice.slicePlaces ((n : Int) - 1) (-1) (-1) = n := by
    unfold Builtin.Slice.slicePlaces
    simp
    try omega
  rw [e1]
  show wpAny _ _ (pure ((n : Int) - 1, (-1 : Int), Builtin.Slice.slicePlaces ((n : Int) - 1) (-1) (-1))) _ _ s
  rw [e2]
  exact wpAny_pure h
theorem pick_rev (xs : Array Value) : ((List.range xs.size).filterMap fun (m : Nat) => xs[(((xs.size : Int) - 1) + (m : Int) * (-1)).toNat]?).toArray = xs.toList.reverse.toArray := by
  congr 1
  have h : ∀ k, k ≤ xs.size → ((List.range k).filterMap fun (m : Nat) => xs[(((xs.size : Int) - 1) + (m : Int) * (-1)).toNat]?) = xs.toList.reverse.take k := by
    intro k
    induction k with
    | zero => intro _; rfl
    | succ k ih =>
      intro hk
      have e : (((xs.size : Int) - 1) + (k : Int) * (-1)).toNat = xs.size - 1 - k := by omega
      rw [List.range_succ, List.filterMap_append, ih (by omega), List.take_succ]
      congr 1
      simp only [List.filterMap_cons, List.filterMap_nil, e]
      rw [List.getElem?_reverse (by simp; omega)]
      simp only [Array.length_toList, Array.getElem?_toList]
      have hlt : xs.size - 1 - k < xs.size := by omega
      rw [Array.getElem?_eq_getElem hlt]
      rfl
  rw [h xs.size (Nat.le_refl _), List.take_of_length_le (by simp)]
theorem getItem_tuple_rev {prog : Program} {w : World} {A : Around} {E : Value → Shared → Prop} {s : Shared} {t sl : Addr} {items : Array Value} {vk : Value} {Q : Value → Shared → Prop} (ht : IsTup s.heap t items) (hs : s.heap.IsSliceOf sl .none .none vk) (pk : IsPart vk (some (-1)))
    (h : Q (.ref s.heap.objs.size) { s with heap := s.heap.push { cls := .type "tuple", data := .seq items.toList.reverse.toArray } })
    (hsz : items.size ≤ sizeLine) : wpAny (model prog w) A (getItem (.ref t) (.ref sl)) Q E s := by
  have hrev : sizeOk (.seq items.toList.reverse.toArray) := by
    show items.toList.reverse.toArray.size ≤ sizeLine
    rw [List.size_toArray, List.length_reverse, Array.length_toList]
    exact hsz
  obtain ⟨os, hos, hcs, hds⟩ := id hs
  have hTs : s.TypeIs (.ref sl) "slice" := ⟨os, hos, hcs⟩
  unfold getItem
  try with_reducible refine wpAny_holding ?_
  first | refine wpAny_bind (wpAny_pure ?_) | skip
  refine wpAny_bind (wpAny_sequenceKey ht.typeIs (by decide) ?_)
  refine wpAny_bind (wpAny_callSpecial?_slot (name := Str.ofString "__getitem__") ht.typeIs PyProof.Rows.slot_tuple_getitem
    (wpAny_call_entry PyProof.Rows.slot_tuple_getitem ht.typeIs entry_tuple_getitem ?_ (args_tuple_getitem _ _)))
  show wpAny _ _ (Builtin.Tuple.tupleItemsOf (.ref t) >>= _) _ _ s
  refine wpAny_bind (tupleItemsOf_ ht ?_)
  refine wpAny_bind (wpAny_typeOf hTs ?_)
  rw [if_pos (by decide)]
  refine wpAny_bind (sliceApplied_rev hs pk ?_)
  have hno : ¬ ((((items.size : Int) - 1) == 0 && (-1 : Int) == 1 && items.size == items.size) = true) := by simp
  show wpAny _ _ (if (((items.size : Int) - 1) == 0 && (-1 : Int) == 1 && items.size == items.size) = true then _ else _) _ _ s
  rw [if_neg hno, pick_rev]
  first
    | exact wpAny_bind (m := Builtin.Tuple.tupleExact _) (wpAny_newObj_type (wpAny_pure ⟨_, rfl, wpAny_pure h⟩) hrev)
    | exact wpAny_bind (m := Builtin.Tuple.tupleExact _) (wpAny_newObj_type (wpAny_bind (wpAny_pure (wpAny_pure ⟨_, rfl, wpAny_pure h⟩))) hrev)
    | exact wpAny_bind (wpAny_bind (m := Builtin.Tuple.tupleExact _) (wpAny_newObj_type (wpAny_pure (wpAny_pure ⟨_, rfl, wpAny_pure h⟩)) hrev))
    | exact wpAny_bind (wpAny_bind (m := Builtin.Tuple.tupleExact _) (wpAny_newObj_type (wpAny_pure ⟨_, rfl, wpAny_pure h⟩) hrev))
def tRevA (K : PySem.W.Frag) (te : TE) : TE := fun σ H Q => te σ H fun x H1 => ∃ a xs, x = .ref a ∧ ((SqL K H1 a xs ∧ ∀ p, H1 p = none → Q (.ref p) (upd H1 p (.lst xs.reverse))) ∨ (SqT K H1 a xs ∧ ∀ p, H1 p = none → Q (.ref p) (upd H1 p (.tup xs.reverse))))
theorem pe_revA {te : TE} {k : Nat} {p1 p2 p3 pos : Pos} (he : PE X e te) : PE X (.Subscript e (.Slice none none (some (.UnaryOp .USub (.Constant (.int 1) k p1) p2)) p3) pos) (tRevA X.K te) := by
  refine ⟨fun pins s σ H Q I h => ?_⟩
  refine Subscript_ (thn (he.run pins s σ H _ I h) fun v s1 ⟨x, H1, I1, r1, q1⟩ => ?_)
  obtain ⟨a, xs, ex, q⟩ := q1
  subst ex
  cases r1
  have hst : PO X (some (.UnaryOp .USub (.Constant (.int 1) k p1) p2)) (tPart (tUn (rU fun i => .int (-i)) (L2.tC (.int 1)))) := po_some (pe_un un_neg pe_int)
  refine wpAny_Slice (thn (po_none.run pins s1 σ H1 (fun o H2 => o = none ∧ H2 = H1) I1 ⟨rfl, rfl⟩) fun vl s2 ⟨l, H2, I2, pl, el, e2⟩ => ?_)
  subst el e2
  refine thn (po_none.run pins s2 σ H2 (fun o H3 => o = none ∧ H3 = H2) I2 ⟨rfl, rfl⟩) fun vu s3 ⟨u, H3, I3, pu, eu, e3⟩ => ?_
  subst eu e3
  refine thn (hst.run pins s3 σ H3 (fun o H4 => o = some (-1) ∧ H4 = H3) I3 ⟨1, rfl, -1, rfl, rfl, rfl⟩) fun vs s4 ⟨o, H4, I4, ps, eo, e4⟩ => ?_
  subst eo e4
  have I5 : Inv X pins σ H4 { s4 with heap := s4.heap.push { cls := .type "slice", data := .fields #[vl, vu, vs] } } := I4.kept (t' := s4.toks) fun b ob q => Heap.get?_push_of_some _ q
  show wpAny (model X.prog X.w) X.A (subscriptTail e (.Slice none none (some (.UnaryOp .USub (.Constant (.int 1) k p1) p2)) p3) (.ref a) (.ref s4.heap.objs.size)) (EP X pins σ Q) X.xe { s4 with heap := s4.heap.push { cls := .type "slice", data := .fields #[vl, vu, vs] } }
  rcases q with ⟨hx, q⟩ | ⟨hx, q⟩
  · obtain ⟨its, r, ht, hz⟩ := I5.list hx
    have hlen := r.length
    refine tail_any (ops := [.ref a, .ref s4.heap.objs.size]) ht.isList.typeIs (PySem.slot_list_getitem.lookup) ?_ (by with_unfolding_all rfl)
    refine wpAny_getItem_list_slice ht.isList (Heap.IsSliceOf.new _ vl vu vs) pl pu ps (by decide) ?_ (by rw [List.size_toArray]; omega)
    rw [PySem.W.krv_pick]
    refine ⟨.ref _, _, I5.laid (t' := s4.toks) (o := .lst xs.reverse) (fun b ob q => Heap.get?_push_of_some _ q) (Nat.le_refl _) ?_, rfl, q _ (I5.hok.fresh (Nat.le_refl _))⟩
    exact ⟨by rw [List.length_reverse]; exact hz, _, 0, r.reverse, Heap.get?_push_size _ rfl⟩
  · obtain ⟨its, r, ht, hz⟩ := I5.tuple hx
    have hlen := r.length
    cases pl
    cases pu
    refine tail_any (ops := [.ref a, .ref s4.heap.objs.size]) ht.typeIs PyProof.Rows.slot_tuple_getitem.lookup ?_ (by with_unfolding_all rfl)
    refine getItem_tuple_rev ht (Heap.IsSliceOf.new _ .none .none vs) ps ?_ (by rw [List.size_toArray]; omega)
    refine ⟨.ref _, _, I5.laid (t' := s4.toks) (o := .tup xs.reverse) (fun b ob q => Heap.get?_push_of_some _ q) (Nat.le_refl _) ?_, rfl, q _ (I5.hok.fresh (Nat.le_refl _))⟩
    exact ⟨by rw [List.length_reverse]; exact hz, _, r.reverse, IsTup.new _ _⟩
def tRev (ta : tE) : tE := fun ρ L R => ta ρ L fun d L1 => match view L1 d with
  | .lst xs => R (.lst xs.reverse) L1
  | .tup xs => R (.tup xs.reverse) L1
  | _ => False
theorem de_rev {k : Nat} {p1 p2 p3 pos : Pos} (ha : DE X G a ta) : DE X G (.Subscript a (.Slice none none (some (.UnaryOp .USub (.Constant (.int 1) k p1) p2)) p3) pos) (tRev ta) :=
  ⟨PE.imp (pe_revA ha.pe) fun σ H Q ⟨W, ρ, L, R, es, sr, h, k⟩ => ⟨W, ρ, L, _, es, sr, h, fun d L1 W1 H1 v x1 sr1 is1 h1 => by
    split at h1
    · rename_i xs e
      obtain ⟨p, vs, rfl, h4, h5⟩ := view_lst sr1 is1 e
      exact ⟨p, vs, rfl, .inl ⟨h4, fun q hq => (k.ext x1).lst sr1 hq h5.reverse h1⟩⟩
    · rename_i xs e
      obtain ⟨p, vs, rfl, h4, h5⟩ := view_tup sr1 is1 e
      exact ⟨p, vs, rfl, .inr ⟨h4, fun q hq => (k.ext x1).tup sr1 hq h5.reverse h1⟩⟩
    · exact h1.elim⟩⟩

/-! ### zip -/
def zipD (xs ys : List D) : List D := List.zipWith (fun x y => .tup [x, y]) xs ys
def iZp (t : tA) : tI := fun ρ L R => t ρ L fun ds L1 => match ds with
  | [.lst xs, .lst ys] => R (zipD xs ys) L1
  | [.tup xs, .tup ys] => R (zipD xs ys) L1
  | _ => False
theorem zipD_get {xs ys : List D} {i : Nat} {d : D} (h : (zipD xs ys)[i]? = some d) : ∃ x y, xs[i]? = some x ∧ ys[i]? = some y ∧ d = .tup [x, y] := by
  unfold zipD at h
  rw [List.getElem?_zipWith] at h
  cases hx : xs[i]? with
  | none => rw [hx] at h; simp at h
  | some x =>
    cases hy : ys[i]? with
    | none => rw [hx, hy] at h; simp at h
    | some y => rw [hx, hy] at h; simp at h; exact ⟨x, y, rfl, rfl, h.symm⟩
/-- a list that stays: frozen or written -/
def Stays (K : PySem.W.Frag) (W : Wd) (H : Hp) (a : Addr) (xs : List V) : Prop := (W.fz a ∧ Rd H a (.lst xs)) ∨ KLst K a xs
theorem lst_stays {K w H W} {v : V} {ds : List D} (is : Is K w H W v (.lst ds)) : ∃ a xs, v = .ref a ∧ Stays K W H a xs ∧ Iss K w H W xs ds := by
  cases is with
  | lst f h hs => exact ⟨_, _, rfl, .inl ⟨f, h⟩, hs⟩
  | lstK h hs => exact ⟨_, _, rfl, .inr h, hs⟩
theorem Stays.keep {K w G} {W W' : Wd} {L L' : Sto} {H H' : Hp} {a : Addr} {xs : List V} (s : Stays K W H a xs) (sr : SR K w G H W L) (x : Ext W L H W' L' H') : SqL K H' a xs := by
  rcases s with ⟨f, h | ⟨o, h⟩⟩ | h
  · exact .inl (.inl (x.keep _ _ h (sr.notFz f)))
  · exact .inl (.inr ⟨o, x.keep _ _ h (sr.notFz f)⟩)
  · exact .inr h
theorem zip_len {xs ys : List D} {vs us : List V} {K w H W} (i1 : Iss K w H W vs xs) (i2 : Iss K w H W us ys) : vs.length ≤ (zipD xs ys).length ∨ us.length ≤ (zipD xs ys).length := by
  rw [i1.length, i2.length]; unfold zipD; rw [List.length_zipWith]; omega
theorem itD_zip {K w G} {W : Wd} {L : Sto} {H : Hp} {a b : Addr} {xs ys : List V} {ds es : List D} (sr : SR K w G H W L) (s1 : Stays K W H a xs) (s2 : Stays K W H b ys) (i1 : Iss K w H W xs ds) (i2 : Iss K w H W ys es) : ItD K w G W L H (Itz K a b) (zipD ds es) := by
  refine ⟨fun W' L' H' x _ => ⟨xs, ys, s1.keep sr x, s2.keep sr x, zip_len i1 i2⟩, fun i d W' L' H' e x _ => ?_, fun i d W' L' H' v H2 e x sr' y => ?_⟩
  · obtain ⟨p, q, e1, e2, _⟩ := zipD_get e
    obtain ⟨v, h1, _⟩ := i1.get e1
    obtain ⟨u, h2, _⟩ := i2.get e2
    exact ⟨xs, ys, v, u, s1.keep sr x, s2.keep sr x, h1, h2⟩
  · obtain ⟨p, q, e1, e2, rfl⟩ := zipD_get e
    obtain ⟨v0, h1, g1⟩ := i1.get e1
    obtain ⟨u0, h2, g2⟩ := i2.get e2
    obtain ⟨T, x', y', rfl, hT, rfl, f1, f2⟩ := y
    have e3 := f1 xs (s1.keep sr x)
    have e4 := f2 ys (s2.keep sr x)
    rw [h1] at e3; cases e3
    rw [h2] at e4; cases e4
    exact ⟨W', Ext.new hT, sr'.new hT, .tup (SqT.of upd_same) (.cons ((g1.ext sr x).ext sr' (Ext.new hT)) (.cons ((g2.ext sr x).ext sr' (Ext.new hT)) .nil))⟩
theorem itD_zipT {K w G} {W : Wd} {L : Sto} {H : Hp} {a b : Addr} {xs ys : List V} {ds es : List D} (sr : SR K w G H W L) (s1 : SqT K H a xs) (s2 : SqT K H b ys) (i1 : Iss K w H W xs ds) (i2 : Iss K w H W ys es) : ItD K w G W L H (RZ.ItzT K a b) (zipD ds es) := by
  refine ⟨fun W' L' H' x _ => ⟨xs, ys, SqT.ext sr x s1, SqT.ext sr x s2, zip_len i1 i2⟩, fun i d W' L' H' e x _ => ?_, fun i d W' L' H' v H2 e x sr' y => ?_⟩
  · obtain ⟨p, q, e1, e2, _⟩ := zipD_get e
    obtain ⟨v, h1, _⟩ := i1.get e1
    obtain ⟨u, h2, _⟩ := i2.get e2
    exact ⟨xs, ys, v, u, SqT.ext sr x s1, SqT.ext sr x s2, h1, h2⟩
  · obtain ⟨p, q, e1, e2, rfl⟩ := zipD_get e
    obtain ⟨v0, h1, g1⟩ := i1.get e1
    obtain ⟨u0, h2, g2⟩ := i2.get e2
    obtain ⟨T, x', y', rfl, hT, rfl, f1, f2⟩ := y
    have e3 := f1 xs (SqT.ext sr x s1)
    have e4 := f2 ys (SqT.ext sr x s2)
    rw [h1] at e3; cases e3
    rw [h2] at e4; cases e4
    exact ⟨W', Ext.new hT, sr'.new hT, .tup (SqT.of upd_same) (.cons ((g1.ext sr x).ext sr' (Ext.new hT)) (.cons ((g2.ext sr x).ext sr' (Ext.new hT)) .nil))⟩
theorem di_zip {tpos : Pos} {elts : List Expr} {kk : Nat} {t : tA} (hm : X.mg "zip" = none) (ha : DA X G [a, b] t) (hg : Gl X "zip" := by rfl)
    (hs : starEach [a, b] X.env = (false, eval a X.env) :: starEach [b] X.env := by rfl) (hpl : (backTo pos (starEach [b] X.env)).any (·.1) = false := by rfl) :
    DI X G (.Tuple elts kk tpos) (.Call (.Name "zip" p) [a, b] [] pos) (iZp t) :=
  ⟨PI.imp (RZ.pi_zipA hg hm ha.pa hs hpl) fun σ H R ⟨W, ρ, L, RR, es, sr, h, k⟩ => ⟨W, ρ, L, _, es, sr, h, fun ds L1 W1 H1 vs x1 sr1 is1 h1 => by
    split at h1
    · obtain ⟨v, u, rfl, i1, i2⟩ := iss2 is1
      obtain ⟨p, xs, rfl, s1, j1⟩ := lst_stays i1
      obtain ⟨q, ys, rfl, s2, j2⟩ := lst_stays i2
      exact ⟨p, q, xs, ys, rfl, .inl ⟨s1.keep sr1 (Ext.refl _ _ _), s2.keep sr1 (Ext.refl _ _ _), k _ L1 W1 H1 _ x1 sr1 (itD_zip sr1 s1 s2 j1 j2) h1⟩⟩
    · obtain ⟨v, u, rfl, i1, i2⟩ := iss2 is1
      cases i1 with
      | tup s1 j1 =>
        cases i2 with
        | tup s2 j2 => exact ⟨_, _, _, _, rfl, .inr ⟨s1, s2, k _ L1 W1 H1 _ x1 sr1 (itD_zipT sr1 s1 s2 j1 j2) h1⟩⟩
    · exact h1.elim⟩⟩
end
end L2.DL

set_option Elab.async false
set_option linter.all false
set_option maxRecDepth 100000
/-! DK: sorted, a small written dict asked, defs that give an own object. -/
namespace L2.DL
open PySem PySem.Spec PyProof.Rows

/-! ### sorted -/
open PySem.W in
def rSortD (K : PySem.W.Frag) : List V → Hp → VK → Prop := fun vs H Q => ∃ (a : Addr) (xs : List V) (bs : List D) (P : V → D → Prop), vs = [V.ref a] ∧ SqL K H a xs ∧ EachIs P xs bs ∧ (∀ x d, P x d → d ∈ bs → Dp K H x (pdOf d)) ∧
  AllAlike (bs.map pdOf) ∧ Sortable (bs.map pdOf) ∧ (∀ b ∈ bs, (pdOf b).depth ≤ 60) ∧ ∀ ys p, EachIs P ys (bs.mergeSort (dataLe false pdOf)) → H p = none → Q (.ref p) (upd H p (.lst ys))
section
open PySem.W
theorem each_mem' {α β : Type} {R : α → β → Prop} : ∀ {as : List α} {bs : List β}, EachIs R as bs → EachIs (fun a b => R a b ∧ b ∈ bs) as bs
  | _, _, .nil => .nil
  | _, _, .cons h t => .cons ⟨h, List.mem_cons_self⟩ ((each_mem' t).mono fun a b hh => ⟨hh.1, List.mem_cons_of_mem _ hh.2⟩)
theorem each_vals {P : V → D → Prop} : ∀ {xs : List V} {us : List Value} {bs : List D}, Vals xs us → EachIs P xs bs → EachIs (fun u b => ∃ x, RelV x u ∧ P x b) us bs
  | _, _, _, .nil, .nil => .nil
  | _, _, _, .cons r t, .cons h k => .cons ⟨_, r, h⟩ (each_vals t k)
theorem vals_each {P : V → D → Prop} : ∀ {us : List Value} {bs : List D}, EachIs (fun u b => ∃ x, RelV x u ∧ P x b) us bs → ∃ xs, Vals xs us ∧ EachIs P xs bs
  | _, _, .nil => ⟨[], .nil, .nil⟩
  | _, _, .cons ⟨x, r, h⟩ t => by
    obtain ⟨xs, h1, h2⟩ := vals_each t
    exact ⟨x :: xs, .cons r h1, .cons h h2⟩
theorem cr_sortD {X : Cx} (hu : X.A.units + 65 < cLine) : CallR X (.builtin "sorted") (rSortD X.K) := by
  intro pins s σ H vs us Q I r h
  obtain ⟨a, xs, bs, P, rfl, hs, hP, hD, hal, hso, hd, q⟩ := h
  obtain ⟨its, rv, hl, hz⟩ := I.list hs
  obtain ⟨u, rfl, ru⟩ := vals1 r
  obtain rfl : u = Value.ref a := ru
  have e1 : EachIs (fun u b => ∃ x, RelV x u ∧ (P x b ∧ b ∈ bs)) its bs := each_vals rv (each_mem' hP)
  have er : EachIs (fun v b => ∃ as, Reads s.heap v (pdOf b) as) its bs := e1.mono fun v b ⟨x, r, h, hm⟩ => Dp.reads I (pdOf b) x v (hD x b h hm) r
  have hlen : bs.length ≤ sizeLine := by rw [← hP.length]; exact hz
  refine sorted_data (R := fun u b => ∃ x, RelV x u ∧ P x b) hl.isList (e1.mono fun v b ⟨x, r, h, _⟩ => ⟨x, r, h⟩) er hal hso hlen (fun b hb => by have := hd b hb; omega) fun out ho eo => ?_
  obtain ⟨ys, h1, h2⟩ := vals_each eo
  obtain ⟨n, hn⟩ := sortedAll_at s.heap its out.toArray
  refine ⟨.ref (s.heap.objs.size + 1), upd H (s.heap.objs.size + 1) (.lst ys), I.laid (t' := s.toks) (fun b o e => sortedAll_old e) (Nat.le_succ _) ⟨?_, out, n, h1, hn⟩, rfl, q ys _ h2 (I.hok.fresh (Nat.le_succ _))⟩
  rw [h1.length, ho]; exact hlen
end
/-- alike, and fit to be sorted -/
def sortsB (xs : List D) : Bool := (xs.all fun x => xs.all fun y => PySem.W.alike (pdOf x) (pdOf y)) && ((xs.all fun x => match x with | .tup (_ :: _) => true | _ => false) || (xs.all fun x => match x with | .int _ => true | .str _ => true | _ => false)) && xs.all (fitD deepest)
def sortD (xs : List D) : List D := xs.mergeSort (PySem.W.dataLe false pdOf)
def cSorted : OA := fun xs L R => match xs with
  | [d] => match lstOf L d with
    | some ds => sortsB ds = true ∧ R (.lst (sortD ds)) L
    | none => False
  | _ => False
theorem iss_each {K w H W} : ∀ {vs : List V} {ds : List D}, Iss K w H W vs ds → PySem.W.EachIs (fun v d => Is K w H W v d) vs ds
  | _, _, .nil => .nil
  | _, _, .cons h t => .cons h (iss_each t)
theorem each_iss {K w H W} : ∀ {vs : List V} {ds : List D}, PySem.W.EachIs (fun v d => Is K w H W v d) vs ds → Iss K w H W vs ds
  | _, _, .nil => .nil
  | _, _, .cons h t => .cons h (each_iss t)
theorem cb_sorted {K w} : CbD K w cSorted (rSortD K) := by
  intro G W H L xs vs R Q sr is h k
  unfold cSorted at h
  split at h
  · obtain ⟨v, rfl, i⟩ := iss1 is
    split at h
    · rename_i ds e
      obtain ⟨a, ys, rfl, h1, h2⟩ := lstOf_is sr i e
      obtain ⟨hs, h⟩ := h
      unfold sortsB at hs
      rw [Bool.and_eq_true, Bool.and_eq_true] at hs
      obtain ⟨⟨s1, s2⟩, s3⟩ := hs
      rw [List.all_eq_true] at s1 s3
      refine ⟨a, ys, ds, fun v d => Is K w H W v d, rfl, h1, iss_each h2, fun x d i hm => i.dp (s3 d hm), ?_, ?_, fun b hb => ?_, fun zs p hz hp => k.lst sr hp (each_iss hz) h⟩
      · intro d hd d' hd'
        obtain ⟨b, hb, rfl⟩ := List.mem_map.mp hd
        obtain ⟨b', hb', rfl⟩ := List.mem_map.mp hd'
        exact List.all_eq_true.mp (s1 b hb) b' hb'
      · rw [Bool.or_eq_true] at s2
        rcases s2 with s2 | s2
        · left
          intro d hd
          obtain ⟨b, hb, rfl⟩ := List.mem_map.mp hd
          have := List.all_eq_true.mp s2 b hb
          split at this
          · exact ⟨_, _, by simp only [pdOf, pdOfs]; rfl⟩
          · cases this
        · right
          intro d hd
          obtain ⟨b, hb, rfl⟩ := List.mem_map.mp hd
          have := List.all_eq_true.mp s2 b hb
          split at this
          · exact ⟨by simp [pdOf], fun xs => by simp [pdOf]⟩
          · exact ⟨by simp [pdOf], fun xs => by simp [pdOf]⟩
          · cases this
      · have := (fit_lay b deepest (s3 b hb)).2
        exact Nat.le_trans this (by decide)
    · exact h.elim
  · exact h.elim
section
variable {X : Cx} {G : Gam} {a b c e : Expr} {ta tb tc te : tE} {pos : Pos} {es : List Expr} {tt : tA} {x : Str} {p : Pos}
theorem de_sorted (hu : X.A.units + 65 < cLine) (hm : X.mg "sorted" = none) (ha : DA X G (e :: es) tt) (hg : Gl X "sorted" := by rfl) (he : starEach (e :: es) X.env = (false, eval e X.env) :: starEach es X.env := by rfl) (hpl : (backTo pos (starEach es X.env)).any (·.1) = false := by rfl) :
    DE X G (.Call (.Name "sorted" p) (e :: es) [] pos) (tCa cSorted tt) := de_callB (cr_sortD hu) cb_sorted hg hm (by first | exact PyProof.Rows.boot_sorted | exact boot_sorted | decide +kernel) ha (by decide) (by decide) he hpl

/-! ### {"a": 0, ..}.get(x, y) -/
theorem pe_neg {k : Nat} {p1 p2 : Pos} {i : Int} : PE X (.UnaryOp .USub (.Constant (.int i) k p1) p2) (L2.tC (.int (-i))) := PE.imp (pe_un un_neg pe_int) fun σ H Q h => ⟨i, rfl, h⟩
theorem upd_upd {H : Hp} {p : Addr} {o u : HO} : upd (upd H p o) p u = upd H p u := by
  funext a
  by_cases h : a = p
  · rw [h, upd_same, upd_same]
  · rw [upd_ne h, upd_ne h, upd_ne h]
/-- the pairs of a written dict, all ints -/
def kvsOf (cs : List (Str × Int)) : List (Key × V) := cs.map fun c => (.inr c.1, .int c.2)
def tDgt (cs : List (Str × Int)) (ty tx : tE) : tE := fun ρ L R => ty ρ L fun y L1 => tx ρ L1 fun z L2 => match y with
  | .str s => match cs.lookup s with
    | some i => R (.int i) L2
    | none => R z L2
  | _ => False
theorem val_lookup {s : Str} : ∀ cs : List (Str × Int), valV (kvsOf cs) (.inr s) = (cs.lookup s).map V.int
  | [] => rfl
  | (c, i) :: r => by
    have ih := val_lookup (s := s) r
    unfold kvsOf at *
    rw [List.map_cons]
    by_cases h : c = s
    · subst h
      rw [valV_pos rfl]
      simp [List.lookup]
    · rw [valV_neg (fun e => h (Sum.inr.inj e)), ih]
      have : (s == c) = false := by
        rw [beq_eq_false_iff_ne]; exact fun e => h e.symm
      simp [List.lookup, this]
theorem de_dgt {keys : List (Option Expr)} {values : List Expr} {trs : List (TE × TE)} {apos cpos dpos : Pos} {f : Expr} {cs : List (Str × Int)} (hu : X.A.units + 1 < cLine) (hd : PPs X dpos keys values trs) (htr : ∀ σ H (Q : List (V × V) → Hp → Prop), Q ((kvsOf cs).map fun kv => (kV kv.1, kv.2)) H → tPairs trs σ H Q) (hn : mergeK [] (kvsOf cs) = kvsOf cs)
    (hall : keys.all (·.isSome) = true) (hl : keys.length = values.length) (h0 : keys ≠ []) (h15 : keys.length ≤ 15) (hc : (kvsOf cs).length ≤ 15) (ha : DE X G e ta) (hb : DE X G f tb) (m : M2 X (.Dict keys values dpos) "get" apos e f cpos := by exact ⟨rfl, rfl, rfl, rfl⟩) :
    DE X G (.Call (.Attribute (.Dict keys values dpos) "get" apos) [e, f] [] cpos) (tDgt cs ta tb) :=
  ⟨PE.imp (pe_dget2 hu (pe_disp hd hall hl h0 h15) ha.pe hb.pe m) fun σ H Q ⟨W, ρ, L, R, es, sr, h, k⟩ => by
    intro q hq
    refine htr σ _ _ ⟨upd_same, kvsOf cs, rfl, hc, ?_⟩
    rw [hn, upd_upd]
    refine ⟨q, rfl, .inl ⟨_, .inl upd_same⟩, ?_⟩
    have x0 : Ext W L H W L (upd H q (.dK (kvsOf cs))) := Ext.new hq
    have nl : ∀ n, ¬ Live W L n q := fun n l => by obtain ⟨u, e⟩ := sr.there l; rw [hq] at e; cases e
    refine ⟨W, ρ, L, _, es.ext sr x0, sr.new hq, h, fun y L1 W1 H1 v x1 sr1 is1 h1 => ⟨W1, ρ, L1, _, (es.ext sr x0).ext (sr.new hq) x1, sr1, h1, fun z L2 W2 H2 u x2 sr2 is2 h2 => ?_⟩⟩
    have is1 := is1.ext sr1 x2
    have hd : H2 q = some (.dK (kvsOf cs)) := (x1.trans x2).keep _ _ upd_same nl
    have k2 := ((k.ext x0).ext x1).ext x2
    split at h2
    · cases is1
      refine ⟨_, DGet.k (k := .inr _) hd, ?_⟩
      rw [val_lookup]
      split at h2
      · rename_i i e
        rw [e]
        exact k2.here sr2 (.int _) h2
      · rename_i e
        rw [e]
        exact k2.here sr2 is2 h2
    · exact h2.elim⟩
theorem de_dgt1 {n1 : Nat} {q1 apos cpos dpos : Pos} {f v1 : Expr} {k1 : Str} {i1 : Int} (hu : X.A.units + 65 < cLine) (hv1 : PE X v1 (L2.tC (.int i1))) (ha : DE X G e ta) (hb : DE X G f tb)
    (m : M2 X (.Dict [some (.Constant (.str k1) n1 q1)] [v1] dpos) "get" apos e f cpos := by exact ⟨rfl, rfl, rfl, rfl⟩) :
    DE X G (.Call (.Attribute (.Dict [some (.Constant (.str k1) n1 q1)] [v1] dpos) "get" apos) [e, f] [] cpos) (tDgt [(k1, i1)] ta tb) :=
  de_dgt (by omega) (pps_cons pe_str hv1 pps_nil) (fun σ H Q h => h) rfl rfl rfl (by simp) (by show 1 ≤ 15; decide) (by show 1 ≤ 15; decide) ha hb m
theorem de_dgt2 {n1 n2 : Nat} {q1 q2 apos cpos dpos : Pos} {f v1 v2 : Expr} {k1 k2 : Str} {i1 i2 : Int} (hu : X.A.units + 65 < cLine) (hne : k1 ≠ k2) (hv1 : PE X v1 (L2.tC (.int i1))) (hv2 : PE X v2 (L2.tC (.int i2))) (ha : DE X G e ta) (hb : DE X G f tb)
    (m : M2 X (.Dict [some (.Constant (.str k1) n1 q1), some (.Constant (.str k2) n2 q2)] [v1, v2] dpos) "get" apos e f cpos := by exact ⟨rfl, rfl, rfl, rfl⟩) :
    DE X G (.Call (.Attribute (.Dict [some (.Constant (.str k1) n1 q1), some (.Constant (.str k2) n2 q2)] [v1, v2] dpos) "get" apos) [e, f] [] cpos) (tDgt [(k1, i1), (k2, i2)] ta tb) :=
  de_dgt (by omega) (pps_cons pe_str hv1 (pps_cons pe_str hv2 pps_nil)) (fun σ H Q h => h) (by
    show mergeK [] [(.inr k1, V.int i1), (.inr k2, V.int i2)] = [(.inr k1, V.int i1), (.inr k2, V.int i2)]
    have h : ¬ (Sum.inr k1 : Key) = .inr k2 := fun e => hne (Sum.inr.inj e)
    simp [mergeK, putK, hne]) rfl rfl (by simp) (by show 2 ≤ 15; decide) (by show 2 ≤ 15; decide) ha hb m
end

/-! ### defs that give an own object -/
/-- no own object handed on; a new one comes back -/
abbrev PN := List D → (O → Prop) → Prop
def liftN (K : PySem.W.Frag) (w : World) (n : Nat) (f : PN) : Sp := fun vs H Q E => vs.length = n ∧ ∃ W ds R, Iss K w H W vs ds ∧ SR K w .none H W [] ∧ f ds R ∧ Kont K w .none W [] H (fun d L => ∃ o, d = .ob 0 ∧ L = [o] ∧ o ≠ .dead ∧ lowO 0 o ∧ R o) Q
abbrev endN (R : O → Prop) : DEnds := { nx := fun _ _ => False, rt := fun d L => ∃ o, d = .ob 0 ∧ L = [o] ∧ o ≠ .dead ∧ lowO 0 o ∧ R o }
section
variable {P : Program} {w : World} {K : PySem.W.Frag} {mg : Str → Option Value} {base : Heap}
theorem fn_N {x qual : Str} {st : Stmt} {f : Addr} {fd : FuncData} {N ps : List Str} {k : Nat} {P1 : PN} {t : tS} (F : Fun K x qual st f fd) (S : FnScope N ps (defScope st)) (dv : DvOf P w K mg base N qual st f k t)
    (rd : ∀ (ds : List D) (R : O → Prop), ds.length = ps.length → P1 ds R → t (endN R) (startD N.length ds) []) :
    FnOk P w K mg base (L2.CX P w) (k + 1) f fd ps (liftN K w ps.length P1) :=
  F.okX S (fun vs H Q E h => h.1) fun cdv A outer s H vs Q E hr ⟨hlen, W, ds, R, is, sr, hf, k1⟩ => by
    refine ⟨_, (dv cdv A outer s H E (fun _ _ => False) hr).pss, W, startD N.length ds, [], _, ?_, sr.with (G := gamE K w (fun _ _ => False) E) (fun _ _ _ _ _ _ _ _ r => r.elim), rd ds R (by rw [← is.length]; exact hlen) hf, ?_⟩
    · unfold L2.start startD
      rw [is.length]
      exact IsS.starts _ is
    · exact ⟨fun ρ' L' W' H' σ' x _ sr' h => h.elim, fun d L' W' H' v x sr' i r => k1 d L' W' H' v x sr'.forget i r, fun _ _ _ _ _ _ _ _ h => h, fun _ _ _ _ _ _ _ _ h => h⟩
end
section
variable {X : Cx} {G : Gam} {e : Expr} {es : List Expr} {tt : tA} {k : Nat} {f : Addr} {fd : FuncData} {ps : List Str} {x : Str} {p pos : Pos} {fs : PN} {n : Nat}
def tCaN (n : Nat) (fs : PN) (t : tA) : tE := fun ρ L R => t ρ L fun cs L1 => cs.length = n ∧ lowDs 0 cs ∧ fs cs fun o => R (.ob L1.length) (L1 ++ [o])
theorem callN_imp {H : Hp} {Q : VK} {E : XK} {W : Wd} {L : Sto} {R : QE} {cs : List D} {vs : List V} (sr : SR X.K X.w G H W L) (is : Iss X.K X.w H W vs cs) (hn : cs.length = n) (low : lowDs 0 cs) (h : fs cs fun o => R (.ob L.length) (L ++ [o])) (k : Kont X.K X.w G W L H R Q) :
    liftN X.K X.w n fs vs H Q E := by
  have is0 : Iss X.K X.w H ⟨[], W.fz⟩ vs cs := Iss.low (m := 0) (W := W) (W' := ⟨[], W.fz⟩) (fun _ f => f) (fun _ _ h => absurd h (Nat.not_lt_zero _)) is low
  have sr0 : SR X.K X.w .none H ⟨[], W.fz⟩ [] := by
    refine ⟨rfl, ?_, ?_, sr.fzt, ?_, trivial⟩
    · rintro n m a ⟨_, o, e, _⟩; simp at e
    · rintro n a ⟨_, o, e, _⟩; simp at e
    · intro n a o _ e; simp at e
  refine ⟨by rw [is.length]; exact hn, ⟨[], W.fz⟩, cs, _, is0, sr0, h, ?_⟩
  rintro d L' W' H' v x0 sr' i ⟨o, rfl, rfl, nd, lo, r⟩
  have nl : ∀ n a, ¬ Live ⟨[], W.fz⟩ ([] : Sto) n a := fun n a ⟨_, o, e, _⟩ => by simp at e
  have keep : ∀ a o, H a = some o → H' a = some o := fun a o e => x0.keep a o e fun n => nl n a
  have fzn : ∀ a, W'.fz a → W.fz a ∨ H a = none := fun a f => by
    rcases x0.fzn a f with f | ⟨m, l⟩ | e
    · exact .inl f
    · exact absurd l (nl m a)
    · exact .inr e
  cases i with
  | ob hm =>
    rename_i a
    have la : Live W' [o] 0 a := ⟨hm, o, rfl, nd⟩
    have fresh : H a = none := by
      rcases x0.live 0 a la with ⟨m, l⟩ | e
      · exact absurd l (nl m a)
      · exact e
    have mu1 : ∀ {b : Addr}, (W.mu ++ [a])[L.length]? = some b → b = a := fun {b} e => by
      rw [← sr.len, List.getElem?_concat_length] at e
      exact (Option.some.inj e).symm
    have lv : ∀ {n : Nat} {b : Addr}, Live ⟨W.mu ++ [a], W'.fz⟩ (L ++ [o]) n b → Live W L n b ∨ (n = L.length ∧ b = a) := fun {n b} ⟨h1, u, h2, h3⟩ => by
      by_cases hn : n < L.length
      · refine .inl ⟨?_, u, ?_, h3⟩
        · have h1' : (W.mu ++ [a])[n]? = some b := h1
          rw [List.getElem?_append_left (by rw [sr.len]; exact hn)] at h1'
          exact h1'
        · rw [List.getElem?_append_left hn] at h2; exact h2
      · have hl : n < (L ++ [o]).length := (List.getElem?_eq_some_iff.mp h2).1
        rw [List.length_append, List.length_singleton] at hl
        have e : n = L.length := by omega
        subst e
        exact .inr ⟨rfl, mu1 h1⟩
    have x1 : Ext W L H ⟨W.mu ++ [a], W'.fz⟩ (L ++ [o]) H' := ⟨⟨[a], rfl⟩, x0.fz, fun b u e _ => keep b u e, fun n b l => by
      rcases lv l with l | ⟨_, e⟩
      · exact .inl ⟨n, l⟩
      · rw [e]; exact .inr fresh, fun b f => (fzn b f).elim .inl fun e => .inr (.inr e)⟩
    have sr1 : SR X.K X.w G H' ⟨W.mu ++ [a], W'.fz⟩ (L ++ [o]) := by
      refine ⟨?_, fun n m b l1 l2 => ?_, fun n b l f => ?_, sr'.fzt, fun n b u e1 e2 => ?_, G.st sr.gam x1⟩
      · show (W.mu ++ [a]).length = _
        rw [List.length_append, List.length_append, sr.len, List.length_singleton, List.length_singleton]
      · rcases lv l1 with l1 | ⟨e1, e2⟩ <;> rcases lv l2 with l2 | ⟨e3, e4⟩
        · exact sr.inj n m b l1 l2
        · obtain ⟨u, h⟩ := sr.there l1; rw [e4, fresh] at h; cases h
        · obtain ⟨u, h⟩ := sr.there l2; rw [e2, fresh] at h; cases h
        · rw [e1, e3]
      · rcases lv l with l | ⟨_, e⟩
        · rcases fzn b f with f | e
          · exact sr.nfz n b l f
          · obtain ⟨u, h⟩ := sr.there l; rw [e] at h; cases h
        · subst e; exact sr'.nfz 0 b la f
      · by_cases hn : n < L.length
        · have e1' : (W.mu ++ [a])[n]? = some b := e1
          rw [List.getElem?_append_left (by rw [sr.len]; exact hn)] at e1'
          rw [List.getElem?_append_left hn] at e2
          exact (sr.ok n b u e1' e2).ext sr x1 fun v e => keep b v e
        · have hl : n < (L ++ [o]).length := (List.getElem?_eq_some_iff.mp e2).1
          rw [List.length_append, List.length_singleton] at hl
          have e : n = L.length := by omega
          subst e
          have := mu1 e1
          subst this
          rw [List.getElem?_concat_length] at e2
          cases e2
          exact (sr'.ok 0 _ _ hm rfl).low (m := 0) (W := W') (W' := ⟨W.mu ++ [_], W'.fz⟩) (fun _ f => f) (fun _ _ h => absurd h (Nat.not_lt_zero _)) lo
    exact k (.ob L.length) _ _ H' (.ref a) x1 sr1 (.ob (by show (W.mu ++ [a])[L.length]? = _; rw [← sr.len, List.getElem?_concat_length])) r
theorem de_callN (F : FnOk X.prog X.w X.K X.mg X.base (L2.CX X.prog X.w) k f fd ps (liftN X.K X.w n fs)) (hr : Room k X.A) (hm : X.mg x = some (.ref f)) (hk : PySem.W.keepIn X.K (.ref f) = true) (hb : Binds X.K fd ps []) (ha : DA X G (e :: es) tt)
    (hg : Gl X x := by rfl) (hdb : (x == ("__debug__" : Str)) = false := by decide) (he : starEach (e :: es) X.env = (false, eval e X.env) :: starEach es X.env := by rfl) (hpl : (backTo pos (starEach es X.env)).any (·.1) = false := by rfl) :
    DE X G (.Call (.Name x p) (e :: es) [] pos) (tCaN n fs tt) :=
  ⟨PE.imp (pe_call (E := E0) F hr hg hm hk hb .nil passL ha.pa hdb he hpl) fun σ H Q ⟨W, ρ, L, R, es', sr, h, k⟩ => ⟨W, ρ, L, _, es', sr, h, fun cs L1 W1 H1 vs x1 sr1 is1 h1 => by
    show liftN X.K X.w n fs (vs ++ []) H1 Q E0
    rw [List.append_nil]
    exact callN_imp sr1 is1 h1.1 h1.2.1 h1.2.2 (k.ext x1)⟩⟩
end
/-- a def's promise at no depth: never asked -/
def noF : FS := fun _ _ _ _ => False
theorem FnOk.no {P : Program} {w : World} {K : PySem.W.Frag} {mg : Str → Option Value} {base : Heap} {CX : CXT} {k n : Nat} {f : Addr} {fd : FuncData} {ps : List Str} : FnOk P w K mg base CX k f fd ps (liftF K w n noF) :=
  ⟨fun vs H Q E ⟨_, _, _, _, _, _, _, _, h, _⟩ => h.elim, fun A outer s H args us vs Q E hr he hb hv ⟨_, _, _, _, _, _, _, _, h, _⟩ => h.elim⟩
end L2.DL

set_option Elab.async false
set_option linter.all false
set_option maxRecDepth 100000
/-! DU: the readings, step by step: one rule for each word, met by its head alone. -/
namespace L2.DL
open PySem PySem.Spec PyProof.Rows

section
variable {DD : DEnds} {ρ : En} {L : Sto} {R : QE} {RT : QT} {RA : QA} {d x y : D} {i j l n : Nat} {ta tb tc te : tE} {t u : tT} {s s' : tS} {tt : tA}
/-! expressions -/
theorem i_tV (h : ρ[i]? = some (some d)) (r : R d L) : tV i ρ L R := by unfold tV; rw [h]; exact r
theorem i_tK (r : R d L) : tK d ρ L R := r
theorem i_tB2 {o : O2} (r : ta ρ L fun x L1 => tb ρ L1 fun y L2 => o x y L2 R) : tB2 o ta tb ρ L R := r
theorem i_tB1 {o : O1} (r : ta ρ L fun x L1 => o x L1 R) : tB1 o ta ρ L R := r
theorem i_tCa {o : OA} (r : tt ρ L fun xs L1 => o xs L1 R) : tCa o tt ρ L R := r
theorem i_nil (r : RA [] L) : tNilA ρ L RA := r
theorem i_cons (r : te ρ L fun x L1 => tt ρ L1 fun xs L2 => RA (x :: xs) L2) : tConsA te tt ρ L RA := r
theorem i_tup (r : tt ρ L fun xs L1 => xs.length ≤ sizeLine ∧ R (.tup xs) L1) : tTupD tt ρ L R := r
theorem i_lst (r : tt ρ L fun xs L1 => xs.length ≤ sizeLine ∧ R (.lst xs) L1) : tLstD tt ρ L R := r
theorem i_lstO (r : tt ρ L fun xs L1 => xs.length ≤ sizeLine ∧ R (.ob L1.length) (L1 ++ [.lst xs])) : tLstO tt ρ L R := r
theorem i_and (r : ta ρ L fun x L1 => truD L1 x fun b L2 => if b = true then tb ρ L2 R else R x L2) : tAnV ta tb ρ L R := r
theorem i_or (r : ta ρ L fun x L1 => truD L1 x fun b L2 => if b = true then R x L2 else tb ρ L2 R) : tOrV ta tb ρ L R := r
theorem i_not (r : ta ρ L fun x L1 => truD L1 x fun b L2 => R (.bl (!b)) L2) : tNtV ta ρ L R := r
theorem i_ifE (r : t ρ L fun b L1 => if b = true then ta ρ L1 R else tb ρ L1 R) : tIfE t ta tb ρ L R := r
/-- the second bound -/
def chQ (o' : O2) (tc : tE) (ρ : En) (y : D) (R : QE) : QE := fun z L3 => match z with
  | .bl k => if k = true then tc ρ L3 fun u L4 => o' y u L4 R else R (.bl false) L3
  | _ => False
theorem i_tCh {o o' : O2} (r : ta ρ L fun x L1 => tb ρ L1 fun y L2 => o x y L2 (chQ o' tc ρ y R)) : tCh o o' ta tb tc ρ L R := r
theorem i_chQ {o' : O2} {k : Bool} (r : if k = true then tc ρ L fun u L4 => o' y u L4 R else R (.bl false) L) : chQ o' tc ρ y R (.bl k) L := r
theorem i_call {fs : FS} (r : tt ρ L fun cs L1 => cs.length = n ∧ lowDs 0 cs ∧ fs cs [] (fun d _ => lowD 0 d → R d L1) fun _ _ => False) : tCaP n fs tt ρ L R := r
/-- the object handed on -/
def caM (n : Nat) (fs : FS) (R : QE) : QA := fun cs L1 => match cs with
  | .ob j :: r => r.length + 1 = n ∧ lowDs 0 r ∧ match L1[j]? with
    | some o => o ≠ .dead ∧ lowO 0 o ∧ fs (.ob 0 :: r) [o] (fun d L2 => lowD 0 d ∧ match L2 with
      | [o'] => lowO 0 o' ∧ R d (L1.set j o')
      | _ => False) fun _ _ => False
    | none => False
  | _ => False
theorem i_callM {fs : FS} (r : tt ρ L (caM n fs R)) : tCaM n fs tt ρ L R := r
theorem i_callN {fs : PN} (r : tt ρ L fun cs L1 => cs.length = n ∧ lowDs 0 cs ∧ fs cs fun o => R (.ob L1.length) (L1 ++ [o])) : tCaN n fs tt ρ L R := r
/-! tests -/
theorem i_TB (r : ta ρ L (asB RT)) : tTB ta ρ L RT := r
theorem i_asB {b : Bool} (r : RT b L) : asB RT (.bl b) L := r
theorem i_Tru (r : ta ρ L fun d L1 => truD L1 d RT) : tTru ta ρ L RT := r
theorem i_Nt (r : t ρ L fun b L1 => RT (!b) L1) : tNt t ρ L RT := r
theorem i_An (r : t ρ L fun b L1 => if b = true then u ρ L1 RT else RT false L1) : tAn t u ρ L RT := r
theorem i_Or (r : t ρ L fun b L1 => if b = true then RT true L1 else u ρ L1 RT) : tOr t u ρ L RT := r
/-! statements -/
theorem i_Nx (r : DD.nx ρ L) : tNx DD ρ L := r
theorem i_Sq (r : s { DD with nx := s' DD } ρ L) : tSq s s' DD ρ L := r
theorem i_Bk (r : DD.bk ρ L) : tBk DD ρ L := r
theorem i_Ct (r : DD.ct ρ L) : tCt DD ρ L := r
theorem i_Dp (r : te ρ L fun _ L1 => DD.nx ρ L1) : tDp te DD ρ L := r
theorem i_Rt (r : te ρ L DD.rt) : tRt te DD ρ L := r
theorem i_RtN (r : DD.rt .non L) : tRtN DD ρ L := r
theorem i_If (r : t ρ L fun b L1 => if b = true then s DD ρ L1 else s' DD ρ L1) : tIfD t s s' DD ρ L := r
def stQ (i : Nat) (ρ : En) (N : En → Sto → Prop) : QE := fun d L1 => N (ρ.set i (some d)) L1
theorem i_St (r : te ρ L (stQ i ρ DD.nx)) : tSt te i DD ρ L := r
theorem i_As {g : tG} (r : te ρ L fun d L1 => g d ρ L1 DD.nx) : tAs te g DD ρ L := r
def p2Q (i j : Nat) (ρ : En) (N : En → Sto → Prop) : QA := fun ds L1 => match ds with
  | [d, e] => N ((ρ.set i (some d)).set j (some e)) L1
  | _ => False
theorem i_P2 (r : tt ρ L (p2Q i j ρ DD.nx)) : tP2 i j tt DD ρ L := r
theorem i_p2 {N : En → Sto → Prop} (r : N ((ρ.set i (some d)).set j (some x)) L) : p2Q i j ρ N [d, x] L := r
def p3Q (i j l : Nat) (ρ : En) (N : En → Sto → Prop) : QA := fun ds L1 => match ds with
  | [d, e, f] => N (((ρ.set i (some d)).set j (some e)).set l (some f)) L1
  | _ => False
theorem i_P3 (r : tt ρ L (p3Q i j l ρ DD.nx)) : tP3 i j l tt DD ρ L := r
theorem i_p3 {N : En → Sto → Prop} (r : N (((ρ.set i (some d)).set j (some x)).set l (some y)) L) : p3Q i j l ρ N [d, x, y] L := r
/-! targets -/
variable {Q : En → Sto → Prop} {g : tG} {gs : tGs} {xs ys : List D}
theorem i_gNm (r : Q (ρ.set i (some d)) L) : gNm i d ρ L Q := r
theorem i_gTp (h : xs.length = n) (r : gs xs ρ L Q) : gTpD n gs (.tup xs) ρ L Q := ⟨h, r⟩
theorem i_gTp1 {a : D} (r : gs [a] ρ L Q) : gTpD 1 gs (.tup [a]) ρ L Q := ⟨by simp, r⟩
theorem i_gTp2 {a b : D} (r : gs [a, b] ρ L Q) : gTpD 2 gs (.tup [a, b]) ρ L Q := ⟨by simp, r⟩
theorem i_gTp3 {a b c : D} (r : gs [a, b, c] ρ L Q) : gTpD 3 gs (.tup [a, b, c]) ρ L Q := ⟨by simp, r⟩
theorem i_gTp4 {a b c d : D} (r : gs [a, b, c, d] ρ L Q) : gTpD 4 gs (.tup [a, b, c, d]) ρ L Q := ⟨by simp, r⟩
theorem i_gTp5 {a b c d e : D} (r : gs [a, b, c, d, e] ρ L Q) : gTpD 5 gs (.tup [a, b, c, d, e]) ρ L Q := ⟨by simp, r⟩
theorem i_gTp6 {a b c d e f : D} (r : gs [a, b, c, d, e, f] ρ L Q) : gTpD 6 gs (.tup [a, b, c, d, e, f]) ρ L Q := ⟨by simp, r⟩
theorem i_gNil (r : Q ρ L) : gNilD [] ρ L Q := r
theorem i_gCons (r : g d ρ L fun ρ1 L1 => gs xs ρ1 L1 Q) : gConsD g gs (d :: xs) ρ L Q := r
theorem i_gSb {o : O3} (r : ta ρ L fun x L1 => tb ρ L1 fun i L2 => o x i d L2 fun L3 => Q ρ L3) : gSb ta tb o d ρ L Q := r
theorem i_sLst {z : Int} {k m : Nat} {W : Sto → Prop} (h : L[k]? = some (.lst xs)) (e : posD xs.length z = some m) (r : W (L.set k (.lst (xs.set m d)))) : sLst (.ob k) (.int z) d L W := by simp only [sLst, h, e]; exact r
/-! operations -/
variable {p q : Int} {gg : Int → Int → D} {C : Int → Int → Prop}
theorem i_oI (r : R (gg p q) L) : oI gg (.int p) (.int q) L R := r
theorem i_oIC (c : C p q) (r : R (gg p q) L) : oIC C gg (.int p) (.int q) L R := ⟨c, r⟩
theorem i_neg (r : R (.int (-p)) L) : oNeg (.int p) L R := r
theorem i_addI (r : R (.int (p + q)) L) : oAdd (.int p) (.int q) L R := r
theorem i_addS {a b : Str} (h : a.length + b.length ≤ sizeLine) (r : R (.str (a ++ b)) L) : oAdd (.str a) (.str b) L R := ⟨h, r⟩
theorem i_addT (h : xs.length + ys.length ≤ sizeLine) (r : R (.tup (xs ++ ys)) L) : oAdd (.tup xs) (.tup ys) L R := ⟨h, r⟩
theorem i_addL (h : xs.length + ys.length ≤ sizeLine) (r : R (.lst (xs ++ ys)) L) : oAdd (.lst xs) (.lst ys) L R := ⟨h, r⟩
theorem i_ixT (h : atD xs p = some d) (r : R d L) : oIx (.tup xs) (.int p) L R := by
  show (match atD xs p with | some v => R v L | none => False)
  rw [h]; exact r
theorem i_ixL (h : atD xs p = some d) (r : R d L) : oIx (.lst xs) (.int p) L R := by
  show (match atD xs p with | some v => R v L | none => False)
  rw [h]; exact r
theorem i_ixO {k : Nat} (h0 : L[k]? = some (.lst xs)) (h : atD xs p = some d) (r : R d L) : oIx (.ob k) (.int p) L R := by
  have e : seqOf L (.ob k) = some xs := by simp only [seqOf, view, h0]
  unfold oIx; dsimp only; rw [e]; dsimp only; rw [h]; exact r
theorem fit_view {n : Nat} {d : D} {L : Sto} (h : fitD n d = true) : view L d = d := by
  cases d with
  | ob k => cases n <;> simp [fitD] at h
  | _ => rfl
theorem i_eq (f : fitD 40 x = true) (g : fitD 40 y = true) (r : R (.bl (eqD x y)) L) : oEq x y L R := by
  unfold oEq; rw [fit_view f, fit_view g]; exact ⟨f, g, r⟩
theorem i_ne (f : fitD 40 x = true) (g : fitD 40 y = true) (r : R (.bl (!eqD x y)) L) : oNe x y L R := by
  unfold oNe; rw [fit_view f, fit_view g]; exact ⟨f, g, r⟩
theorem i_inT (f : fitD 40 x = true) (g : xs.all (fitD 40) = true) (r : R (.bl (inD x xs)) L) : oIn x (.tup xs) L R := by
  unfold oIn; show fitD 40 (view L x) = true ∧ _ ∧ _; rw [fit_view f]; exact ⟨f, g, r⟩
theorem i_inL (f : fitD 40 x = true) (g : xs.all (fitD 40) = true) (r : R (.bl (inD x xs)) L) : oIn x (.lst xs) L R := by
  unfold oIn; show fitD 40 (view L x) = true ∧ _ ∧ _; rw [fit_view f]; exact ⟨f, g, r⟩
theorem i_ninT (f : fitD 40 x = true) (g : xs.all (fitD 40) = true) (r : R (.bl (!inD x xs)) L) : oNotIn x (.tup xs) L R := by
  unfold oNotIn; show fitD 40 (view L x) = true ∧ _ ∧ _; rw [fit_view f]; exact ⟨f, g, r⟩
theorem i_ninL (f : fitD 40 x = true) (g : xs.all (fitD 40) = true) (r : R (.bl (!inD x xs)) L) : oNotIn x (.lst xs) L R := by
  unfold oNotIn; show fitD 40 (view L x) = true ∧ _ ∧ _; rw [fit_view f]; exact ⟨f, g, r⟩
theorem i_isN (r : R (.bl (isN x)) L) : oIsN x .non L R := r
theorem i_notN (r : R (.bl (!isN x)) L) : oNotN x .non L R := r
theorem i_isB {a b : Bool} (r : R (.bl (decide (a = b))) L) : oIsB (.bl a) (.bl b) L R := r
/-! truth -/
theorem i_trB {b : Bool} (r : RT b L) : truD L (.bl b) RT := r
theorem i_trI (r : RT (p != 0) L) : truD L (.int p) RT := r
theorem i_trN (r : RT false L) : truD L .non RT := r
theorem i_trL (r : RT (!xs.isEmpty) L) : truD L (.lst xs) RT := r
theorem i_trT (r : RT (!xs.isEmpty) L) : truD L (.tup xs) RT := r
theorem i_trS {z : Str} (h : z.length ≤ sizeLine) (r : RT ((z.length : Int) != 0) L) : truD L (.str z) RT := ⟨h, r⟩
theorem i_trO {k : Nat} (h : L[k]? = some (.lst xs)) (r : RT (!xs.isEmpty) L) : truD L (.ob k) RT := by
  have e : view L (.ob k) = .lst xs := by simp only [view, h]
  unfold truD; rw [e]; exact r
/-! built-ins -/
theorem i_lenT (r : R (.int xs.length) L) : cLen [.tup xs] L R := r
theorem i_lenL (r : R (.int xs.length) L) : cLen [.lst xs] L R := r
theorem i_lenS {z : Str} (h : z.length ≤ sizeLine) (r : R (.int z.length) L) : cLen [.str z] L R := ⟨h, r⟩
theorem i_lenO {k : Nat} (h : L[k]? = some (.lst xs)) (r : R (.int xs.length) L) : cLen [.ob k] L R := by
  have e : view L (.ob k) = .lst xs := by simp only [view, h]
  unfold cLen lenD; dsimp only; rw [e]; exact r
theorem i_abs (r : R (.int (if p < 0 then -p else p)) L) : cAbs [.int p] L R := r
theorem i_int (r : R (.int p) L) : cInt [.int p] L R := r
theorem i_max (r : R (.int (if q > p then q else p)) L) : cMax [.int p, .int q] L R := r
theorem i_min (r : R (.int (if q < p then q else p)) L) : cMin [.int p, .int q] L R := r
theorem i_bls {f : List Bool → Bool} {bs : List Bool} (e : blsOf xs = some bs) (r : R (.bl (f bs)) L) : cBls f [.lst xs] L R := by
  unfold cBls
  show (match blsOf xs with | some bs => R (.bl (f bs)) L | none => False)
  rw [e]; exact r
theorem i_any {bs : List Bool} (e : blsOf xs = some bs) (r : R (.bl (bs.any id)) L) : cAny [.lst xs] L R := i_bls e r
theorem i_all {bs : List Bool} (e : blsOf xs = some bs) (r : R (.bl (bs.all id)) L) : cAll [.lst xs] L R := i_bls e r
theorem i_sum {bs : List Int} (e : intsOf xs = some bs) (r : R (.int bs.sum) L) : cSum [.lst xs] L R := by
  unfold cSum
  show (match intsOf xs with | some bs => R (.int bs.sum) L | none => False)
  rw [e]; exact r
theorem i_maxL {bs : List Int} (e : intsOf xs = some bs) (h : 0 < bs.length) (r : R (.int (maxI bs)) L) : cMaxL [.lst xs] L R := by
  unfold cMaxL
  show (match intsOf xs with | some bs => 0 < bs.length ∧ R (.int (maxI bs)) L | none => False)
  rw [e]; exact ⟨h, r⟩
theorem i_listT (r : R (.lst xs) L) : cList [.tup xs] L R := r
theorem i_listL (r : R (.lst xs) L) : cList [.lst xs] L R := r
theorem i_listO {k : Nat} (h : L[k]? = some (.lst xs)) (r : R (.lst xs) L) : cList [.ob k] L R := by
  have e : seqOf L (.ob k) = some xs := by simp only [seqOf, view, h]
  unfold cList; dsimp only; rw [e]; exact r
theorem i_tupT (r : R (.tup xs) L) : cTuple [.tup xs] L R := r
theorem i_tupL (r : R (.tup xs) L) : cTuple [.lst xs] L R := r
theorem i_sortL (h : sortsB xs = true) (r : R (.lst (sortD xs)) L) : cSorted [.lst xs] L R := ⟨h, r⟩
theorem i_sortO {k : Nat} (h0 : L[k]? = some (.lst xs)) (h : sortsB xs = true) (r : R (.lst (sortD xs)) L) : cSorted [.ob k] L R := by
  have e : lstOf L (.ob k) = some xs := by simp only [lstOf, view, h0]
  unfold cSorted; dsimp only; rw [e]; exact ⟨h, r⟩
theorem i_LsR1 (r : tt ρ L fun ds L1 => match ds with | [.int j] => RgOk 0 j ∧ R (.lst (rangeD 0 j.toNat)) L1 | _ => False) : tLsR1 tt ρ L R := r
def app1 (n : Nat) (tt : tA) (ρ : En) (R : QE) : QE := fun d L1 => match d with
  | .ob n => isLst L1[n]? = true ∧ tt ρ L1 (appD n R)
  | _ => False
theorem i_append (r : te ρ L (app1 0 tt ρ R)) : tAppend te tt ρ L R := r
theorem i_app1 {m k : Nat} (h : isLst L[k]? = true) (r : tt ρ L (appD k R)) : app1 m tt ρ R (.ob k) L := ⟨h, r⟩
theorem i_appD {k : Nat} (h : L[k]? = some (.lst xs)) (hl : xs.length < sizeLine) (r : R .non (L.set k (.lst (xs ++ [y])))) : appD k R [y] L := by
  unfold appD; rw [h]; exact ⟨hl, r⟩
def revQ (R : QE) : QE := fun d L1 => match view L1 d with
  | .lst xs => R (.lst xs.reverse) L1
  | .tup xs => R (.tup xs.reverse) L1
  | _ => False
theorem i_rev (r : te ρ L (revQ R)) : tRev te ρ L R := r
theorem i_revT (r : R (.tup xs.reverse) L) : revQ R (.tup xs) L := r
theorem i_revL (r : R (.lst xs.reverse) L) : revQ R (.lst xs) L := r
/-! slices -/
variable {tl th : tP} {RP : Option Int → Sto → Prop}
theorem i_sl (r : te ρ L fun x L1 => tl ρ L1 fun l L2 => th ρ L2 fun u L3 => oSl x l u L3 R) : tSlD te tl th ρ L R := r
theorem i_noP (r : RP none L) : tNoP ρ L RP := r
def someQ (RP : Option Int → Sto → Prop) : QE := fun d L1 => match d with
  | .int i => RP (some i) L1
  | _ => False
theorem i_someP (r : te ρ L (someQ RP)) : tSomeP te ρ L RP := r
theorem i_some (r : RP (some p) L) : someQ RP (.int p) L := r
variable {lo hi : Option Int}
theorem i_slT (r : R (.tup (cutD xs lo hi)) L) : oSl (.tup xs) lo hi L R := r
theorem i_slL (r : R (.lst (cutD xs lo hi)) L) : oSl (.lst xs) lo hi L R := r
theorem i_slS {z : Str} (h : z.length ≤ sizeLine) (r : R (.str (cutS z lo hi)) L) : oSl (.str z) lo hi L R := ⟨h, r⟩
/-! walks -/
variable {RI : List D → Sto → Prop}
def lsQ (RI : List D → Sto → Prop) : QE := fun d L1 => match d with
  | .lst xs => RI xs L1
  | _ => False
def tpQ (RI : List D → Sto → Prop) : QE := fun d L1 => match d with
  | .tup xs => RI xs L1
  | _ => False
theorem i_iLs (r : te ρ L (lsQ RI)) : iLs te ρ L RI := r
theorem i_lsQ (r : RI xs L) : lsQ RI (.lst xs) L := r
theorem i_iTp (r : te ρ L (tpQ RI)) : iTp te ρ L RI := r
theorem i_tpQ (r : RI xs L) : tpQ RI (.tup xs) L := r
def r1Q (RI : List D → Sto → Prop) : QA := fun ds L1 => match ds with
  | [.int j] => (-(2 ^ 62) ≤ j ∧ j < 2 ^ 62) ∧ RI (rangeD 0 j.toNat) L1
  | _ => False
theorem i_iRg1 (r : tt ρ L (r1Q RI)) : iRg1 tt ρ L RI := r
theorem i_r1Q (h : -(2 ^ 62) ≤ p ∧ p < 2 ^ 62) (r : RI (rangeD 0 p.toNat) L) : r1Q RI [.int p] L := ⟨h, r⟩
def r2Q (RI : List D → Sto → Prop) : QA := fun ds L1 => match ds with
  | [.int i, .int j] => (-(2 ^ 62) ≤ i ∧ i < 2 ^ 62 ∧ -(2 ^ 62) ≤ j ∧ j < 2 ^ 62) ∧ RI (rangeD i (j - i).toNat) L1
  | _ => False
theorem i_iRg2 (r : tt ρ L (r2Q RI)) : iRg2 tt ρ L RI := r
theorem i_r2Q (h : -(2 ^ 62) ≤ p ∧ p < 2 ^ 62 ∧ -(2 ^ 62) ≤ q ∧ q < 2 ^ 62) (r : RI (rangeD p (q - p).toNat) L) : r2Q RI [.int p, .int q] L := ⟨h, r⟩
def zpQ (RI : List D → Sto → Prop) : QA := fun ds L1 => match ds with
  | [.lst xs, .lst ys] => RI (zipD xs ys) L1
  | [.tup xs, .tup ys] => RI (zipD xs ys) L1
  | _ => False
theorem i_iZp (r : tt ρ L (zpQ RI)) : iZp tt ρ L RI := r
theorem i_zpL (r : RI (zipD xs ys) L) : zpQ RI [.lst xs, .lst ys] L := r
theorem i_zpT (r : RI (zipD xs ys) L) : zpQ RI [.tup xs, .tup ys] L := r
def lsR1Q (R : QE) : QA := fun ds L1 => match ds with
  | [.int j] => RgOk 0 j ∧ R (.lst (rangeD 0 j.toNat)) L1
  | _ => False
theorem i_lsR1 (r : tt ρ L (lsR1Q R)) : tLsR1 tt ρ L R := r
theorem i_lsR1Q (h : RgOk 0 p) (r : R (.lst (rangeD 0 p.toNat)) L) : lsR1Q R [.int p] L := ⟨h, r⟩
def lsR2Q (R : QE) : QA := fun ds L1 => match ds with
  | [.int i, .int j] => RgOk i j ∧ R (.lst (rangeD i (j - i).toNat)) L1
  | _ => False
theorem i_lsR2 (r : tt ρ L (lsR2Q R)) : tLsR2 tt ρ L R := r
theorem i_lsR2Q (h : RgOk p q) (r : R (.lst (rangeD p (q - p).toNat)) L) : lsR2Q R [.int p, .int q] L := ⟨h, r⟩
/-! a small written dict -/
def dgtQ (cs : List (Str × Int)) (y : D) (R : QE) : QE := fun z L2 => match y with
  | .str s => match cs.lookup s with
    | some i => R (.int i) L2
    | none => R z L2
  | _ => False
theorem i_dgt {cs : List (Str × Int)} (r : ta ρ L fun y L1 => tb ρ L1 (dgtQ cs y R)) : tDgt cs ta tb ρ L R := r
theorem i_dgtY {cs : List (Str × Int)} {z : Str} (h : cs.lookup z = some p) (r : R (.int p) L) : dgtQ cs (.str z) R d L := by unfold dgtQ; dsimp only; rw [h]; exact r
theorem i_dgtN {cs : List (Str × Int)} {z : Str} (h : cs.lookup z = none) (r : R d L) : dgtQ cs (.str z) R d L := by unfold dgtQ; dsimp only; rw [h]; exact r
/-! loops -/
/-- a loop over the items ds -/
def frD (g : tG) (s : tS) (DD : DEnds) (ρ : En) (ds : List D) (L1 : Sto) : Prop := ∃ F : List D → En → Sto → Prop, F ds ρ L1 ∧ (∀ x r ρ L, F (x :: r) ρ L → g x ρ L fun ρ2 L2 => s { DD with nx := F r, ct := F r, bk := DD.nx } ρ2 L2) ∧ ∀ ρ L, F [] ρ L → DD.nx ρ L
theorem i_Fr {wi : tI} (r : wi ρ L fun ds L1 => frD g s DD ρ ds L1) : tFr wi g s DD ρ L := r
theorem fr_by {ds : List D} (F : List D → En → Sto → Prop) (h0 : F ds ρ L) (h : ∀ x r ρ L, F (x :: r) ρ L → g x ρ L fun ρ2 L2 => s { DD with nx := F r, ct := F r, bk := DD.nx } ρ2 L2) (fin : ∀ ρ L, F [] ρ L → DD.nx ρ L) : frD g s DD ρ ds L := ⟨F, h0, h, fin⟩
/-- a comprehension over the items ds -/
def lcD (gc : tC) (t : tT) (te : tE) (vs : List Nat) (ρ : En) (R : QE) (ds : List D) (L1 : Sto) : Prop := ∃ F : List D → List D → Sto → Prop, F ds [] L1 ∧
  (∀ x r acc L, F (x :: r) acc L → gc x (wipeD ρ vs) fun ρ2 => t ρ2 L fun b L2 => if b = true then te ρ2 L2 fun y L3 => acc.length < sizeLine ∧ F r (acc ++ [y]) L3 else F r acc L2) ∧
  ∀ acc L, F [] acc L → R (.lst acc) L
theorem i_Lc {wi : tI} {gc : tC} {vs : List Nat} (r : wi ρ L fun ds L1 => lcD gc t te vs ρ R ds L1) : tLcD wi gc t te vs ρ L R := r
theorem i_c1 {N : En → Prop} (r : N (ρ.set i (some d))) : c1 i d ρ N := r
theorem i_cN {is : List Nat} {N : En → Prop} (h : xs.length = is.length) (r : N (setsD is xs ρ)) : cN is (.tup xs) ρ N := ⟨h, r⟩
theorem i_yes (r : RT true L) : tYesD ρ L RT := r
end
/-! the same, what is found told by an existence -/
theorem s_iteY {b : Bool} {A B : Prop} (h : b = true ∧ A) : if b = true then A else B := iteY h.1 h.2
theorem s_iteN {b : Bool} {A B : Prop} (h : b = false ∧ B) : if b = true then A else B := iteN h.1 h.2
section
variable {ρ : En} {L : Sto} {R : QE} {RT : QT} {tt : tA} {N : En → Prop} {i k m : Nat} {xs : List D} {p : Int} {cs : List (Str × Int)} {z : Str} {d : D} {is : List Nat}
theorem s_tV (h : ∃ d, ρ[i]? = some (some d) ∧ R d L) : tV i ρ L R := let ⟨_, h, r⟩ := h; i_tV h r
theorem s_ixT (h : ∃ d, atD xs p = some d ∧ R d L) : oIx (.tup xs) (.int p) L R := let ⟨_, h, r⟩ := h; i_ixT h r
theorem s_ixL (h : ∃ d, atD xs p = some d ∧ R d L) : oIx (.lst xs) (.int p) L R := let ⟨_, h, r⟩ := h; i_ixL h r
theorem s_ixO (h : ∃ xs, L[k]? = some (.lst xs) ∧ ∃ d, atD xs p = some d ∧ R d L) : oIx (.ob k) (.int p) L R := let ⟨_, h0, _, h, r⟩ := h; i_ixO h0 h r
theorem s_trO (h : ∃ xs, L[k]? = some (.lst xs) ∧ RT (!xs.isEmpty) L) : truD L (.ob k) RT := let ⟨_, h, r⟩ := h; i_trO h r
theorem s_lenO (h : ∃ xs, L[k]? = some (.lst xs) ∧ R (.int xs.length) L) : cLen [.ob k] L R := let ⟨_, h, r⟩ := h; i_lenO h r
theorem s_listO (h : ∃ xs, L[k]? = some (.lst xs) ∧ R (.lst xs) L) : cList [.ob k] L R := let ⟨_, h, r⟩ := h; i_listO h r
theorem s_app1 (h : isLst L[k]? = true ∧ tt ρ L (appD k R)) : app1 m tt ρ R (.ob k) L := h
theorem s_dgtY (h : ∃ p, cs.lookup z = some p ∧ R (.int p) L) : dgtQ cs (.str z) R d L := let ⟨_, h, r⟩ := h; i_dgtY h r
theorem s_stQ {N : En → Sto → Prop} (h : ∃ ρ', ρ.set i (some d) = ρ' ∧ N ρ' L) : stQ i ρ N d L := by obtain ⟨_, rfl, h⟩ := h; exact h
theorem s_gNm {N : En → Sto → Prop} (h : ∃ ρ', ρ.set i (some d) = ρ' ∧ N ρ' L) : gNm i d ρ L N := by obtain ⟨_, rfl, h⟩ := h; exact h
theorem s_c1 (h : ∃ ρ', ρ.set i (some d) = ρ' ∧ N ρ') : c1 i d ρ N := by obtain ⟨_, rfl, h⟩ := h; exact h
theorem s_p2 {j : Nat} {x : D} {N : En → Sto → Prop} (h : ∃ ρ', (ρ.set i (some d)).set j (some x) = ρ' ∧ N ρ' L) : p2Q i j ρ N [d, x] L := by obtain ⟨_, rfl, h⟩ := h; exact h
theorem s_p3 {j l : Nat} {x y : D} {N : En → Sto → Prop} (h : ∃ ρ', ((ρ.set i (some d)).set j (some x)).set l (some y) = ρ' ∧ N ρ' L) : p3Q i j l ρ N [d, x, y] L := by obtain ⟨_, rfl, h⟩ := h; exact h
theorem s_cN' (h : xs.length = is.length ∧ ∃ ρ', setsD is xs ρ = ρ' ∧ N ρ') : cN is (.tup xs) ρ N := by obtain ⟨h1, _, rfl, h⟩ := h; exact ⟨h1, h⟩
theorem s_start {t : tS} {DD : DEnds} {n : Nat} {ds : List D} (h : ∃ ρ', startD n ds = ρ' ∧ t DD ρ' L) : t DD (startD n ds) L := by obtain ⟨_, rfl, h⟩ := h; exact h
theorem s_cN (h : xs.length = is.length ∧ N (setsD is xs ρ)) : cN is (.tup xs) ρ N := h
end
section
variable {ρ : En} {L : Sto} {R : QE} {te : tE} {t : tT} {gc : tC} {vs : List Nat}
/-- a comprehension that leaves the state as it is: what each item comes to -/
theorem lc_pure (ds : List D) (f : D → Option D) (hl : ds.length ≤ sizeLine) (h : ∀ x ∈ ds, ∀ (Q : QE) (N : Sto → Prop), (∀ y, f x = some y → Q y L) → (f x = none → N L) → gc x (wipeD ρ vs) fun ρ2 => t ρ2 L fun b L2 => if b = true then te ρ2 L2 Q else N L2)
    (r : R (.lst (ds.filterMap f)) L) : lcD gc t te vs ρ R ds L := by
  refine ⟨fun r acc L' => L' = L ∧ ∃ done, done ++ r = ds ∧ acc = done.filterMap f, ⟨rfl, [], rfl, rfl⟩, ?_, ?_⟩
  · rintro x rest acc L1 ⟨e0, done, e, rfl⟩
    subst e0
    have hm : x ∈ ds := by rw [← e]; simp
    have hlt : (done.filterMap f).length < sizeLine := by
      have h1 := List.length_filterMap_le f done
      have h2 : done.length + (rest.length + 1) ≤ sizeLine := by rw [← e] at hl; simpa using hl
      omega
    refine h x hm _ _ (fun y hy => ⟨hlt, rfl, done ++ [x], by simpa using e, ?_⟩) fun hn => ⟨rfl, done ++ [x], by simpa using e, ?_⟩
    · simp [List.filterMap_append, hy]
    · simp [List.filterMap_append, hn]
  · rintro acc L1 ⟨e0, done, e, rfl⟩
    subst e0
    have : done = ds := by simpa using e
    rw [this]; exact r
/-- .. one that changes it under I, each item met by P -/
theorem lc_inv (ds : List D) (I : Sto → Prop) (P : D → Prop) (i0 : I L) (hl : ds.length ≤ sizeLine) (h : ∀ x ∈ ds, ∀ (L : Sto), I L → ∀ (Q : QE) (N : Sto → Prop), (∀ y L', P y → I L' → Q y L') → (∀ L', I L' → N L') → gc x (wipeD ρ vs) fun ρ2 => t ρ2 L fun b L2 => if b = true then te ρ2 L2 Q else N L2)
    (r : ∀ acc L', (∀ y ∈ acc, P y) → acc.length ≤ ds.length → I L' → R (.lst acc) L') : lcD gc t te vs ρ R ds L := by
  refine ⟨fun r acc L' => I L' ∧ (∀ y ∈ acc, P y) ∧ ∃ done, done ++ r = ds ∧ acc.length ≤ done.length, ⟨i0, by simp, [], rfl, by simp⟩, ?_, ?_⟩
  · rintro x rest acc L1 ⟨hi, hp, done, e, hlen⟩
    have hm : x ∈ ds := by rw [← e]; simp
    have hlt : acc.length < sizeLine := by
      have h2 : done.length + (rest.length + 1) ≤ sizeLine := by rw [← e] at hl; simpa using hl
      omega
    refine h x hm L1 hi _ _ (fun y L' hy hi' => ⟨hlt, hi', ?_, done ++ [x], by simpa using e, by simpa using hlen⟩) fun L' hi' => ⟨hi', hp, done ++ [x], by simpa using e, by simp; omega⟩
    intro z hz
    rcases List.mem_append.mp hz with hz | hz
    · exact hp z hz
    · rw [List.mem_singleton.mp hz]; exact hy
  · rintro acc L1 ⟨hi, hp, done, e, hlen⟩
    have : done = ds := by simpa using e
    rw [this] at hlen; exact r acc L1 hp hlen hi
end

/-! one's own objects -/
section
variable {ρ : En} {L : Sto} {R : QE} {fs : FS} {n j k : Nat} {r : List D} {o : O} {d x : D} {z : Int} {W : Sto → Prop}
/-- what comes back of an object handed on -/
def mQ (R : QE) (L : Sto) (j : Nat) : QE := fun d L2 => lowD 0 d ∧ match L2 with
  | [o'] => lowO 0 o' ∧ R d (L.set j o')
  | _ => False
theorem i_caM (hj : L[j]? = some o) (hn : r.length + 1 = n) (low : lowDs 0 r) (nd : o ≠ .dead) (lo : lowO 0 o) (h : fs (.ob 0 :: r) [o] (mQ R L j) fun _ _ => False) : caM n fs R (.ob j :: r) L := by
  unfold caM
  dsimp only
  rw [hj]
  exact ⟨hn, low, nd, lo, h⟩
theorem i_mQ (low : lowD 0 d) (lo : lowO 0 o) (h : R d (L.set j o)) : mQ R L j d [o] := ⟨low, lo, h⟩
theorem s_sLst (h : ∃ xs, L[k]? = some (.lst xs) ∧ ∃ m, posD xs.length z = some m ∧ ∃ L', L.set k (.lst (xs.set m d)) = L' ∧ W L') : sLst (.ob k) (.int z) d L W := by
  obtain ⟨xs, h1, m, h2, _, rfl, h3⟩ := h
  exact i_sLst h1 h2 h3
theorem rtm3 {o : O} {L : Sto} (h : lowD 1 d) (h' : lowO 1 o) (r : R d [o]) : FinR 1 R d (o :: L) := rtm h h' r
end
end L2.DL

set_option Elab.async false
set_option linter.all false
set_option maxRecDepth 100000
/-! DS: the readings' steps as a class: found by the head of what is to be shown, without a trial of each rule. -/
namespace L2.DL
open PySem PySem.Spec PyProof.Rows
class Stp (P : Prop) (Q : outParam Prop) : Prop where
  go : Q → P
class Nth (ρ : List (Option D)) (i : Nat) (d : outParam D) : Prop where
  at_ : ρ[i]? = some (some d)
instance {d : D} {ρ : List (Option D)} : Nth (some d :: ρ) 0 d := ⟨rfl⟩
instance {x : Option D} {ρ : List (Option D)} {i : Nat} {d : D} [h : Nth ρ i d] : Nth (x :: ρ) (i + 1) d := ⟨by rw [List.getElem?_cons_succ]; exact h.at_⟩
class NthD (xs : List D) (i : Nat) (d : outParam D) : Prop where
  at_ : xs[i]? = some d
instance {d : D} {ρ : List D} : NthD (d :: ρ) 0 d := ⟨rfl⟩
instance {x : D} {ρ : List D} {i : Nat} {d : D} [h : NthD ρ i d] : NthD (x :: ρ) (i + 1) d := ⟨by rw [List.getElem?_cons_succ]; exact h.at_⟩
class SetAt (ρ : List (Option D)) (i : Nat) (v : Option D) (ρ' : outParam (List (Option D))) : Prop where
  eq : ρ.set i v = ρ'
instance {x v : Option D} {ρ : List (Option D)} : SetAt (x :: ρ) 0 v (v :: ρ) := ⟨rfl⟩
instance {x v : Option D} {ρ ρ' : List (Option D)} {i : Nat} [h : SetAt ρ i v ρ'] : SetAt (x :: ρ) (i + 1) v (x :: ρ') := ⟨by rw [List.set_cons_succ, h.eq]⟩
class Wip (ρ : List (Option D)) (vs : List Nat) (ρ' : outParam (List (Option D))) : Prop where
  eq : wipeD ρ vs = ρ'
instance {ρ : List (Option D)} : Wip ρ [] ρ := ⟨rfl⟩
instance {ρ ρ' ρ'' : List (Option D)} {v : Nat} {vs : List Nat} [h : Wip ρ vs ρ'] [k : SetAt ρ' v none ρ''] : Wip ρ (v :: vs) ρ'' := ⟨by rw [wipeD, h.eq, k.eq]⟩
class Sts (is : List Nat) (ds : List D) (ρ : List (Option D)) (ρ' : outParam (List (Option D))) : Prop where
  eq : setsD is ds ρ = ρ'
instance {ρ : List (Option D)} : Sts [] [] ρ ρ := ⟨rfl⟩
instance {i : Nat} {is : List Nat} {d : D} {ds : List D} {ρ ρ' ρ'' : List (Option D)} [k : SetAt ρ i (some d) ρ'] [h : Sts is ds ρ' ρ''] : Sts (i :: is) (d :: ds) ρ ρ'' := ⟨by rw [setsD, k.eq, h.eq]⟩
section
variable {DD : DEnds} {ρ ρ' ρ'' ρ4 : En} {L : Sto} {R : QE} {RT : QT} {RA : QA} {d x y z : D} {i j l n : Nat} {ta tb tc te : tE} {t u : tT} {s s' : tS} {tt : tA} {Q : En → Sto → Prop} {g : tG} {gs : tGs} {xs ys : List D} {p q : Int} {gg : Int → Int → D} {C : Int → Int → Prop} {tl th : tP} {RP : Option Int → Sto → Prop} {lo hi : Option Int} {RI : List D → Sto → Prop} {A B : Prop} {N : En → Prop} {is vs : List Nat}
instance : Stp (tK d ρ L R) (R d L) := ⟨i_tK⟩
instance {o : O2} : Stp (tB2 o ta tb ρ L R) (ta ρ L fun x L1 => tb ρ L1 fun y L2 => o x y L2 R) := ⟨i_tB2⟩
instance {o : O1} : Stp (tB1 o ta ρ L R) (ta ρ L fun x L1 => o x L1 R) := ⟨i_tB1⟩
instance {o : OA} : Stp (tCa o tt ρ L R) (tt ρ L fun xs L1 => o xs L1 R) := ⟨i_tCa⟩
instance : Stp (tNilA ρ L RA) (RA [] L) := ⟨i_nil⟩
instance : Stp (tConsA te tt ρ L RA) (te ρ L fun x L1 => tt ρ L1 fun xs L2 => RA (x :: xs) L2) := ⟨i_cons⟩
instance : Stp (tTupD tt ρ L R) (tt ρ L fun xs L1 => xs.length ≤ sizeLine ∧ R (.tup xs) L1) := ⟨i_tup⟩
instance : Stp (tLstD tt ρ L R) (tt ρ L fun xs L1 => xs.length ≤ sizeLine ∧ R (.lst xs) L1) := ⟨i_lst⟩
instance : Stp (tLstO tt ρ L R) (tt ρ L fun xs L1 => xs.length ≤ sizeLine ∧ R (.ob L1.length) (L1 ++ [.lst xs])) := ⟨i_lstO⟩
instance : Stp (tAnV ta tb ρ L R) (ta ρ L fun x L1 => truD L1 x fun b L2 => if b = true then tb ρ L2 R else R x L2) := ⟨i_and⟩
instance : Stp (tOrV ta tb ρ L R) (ta ρ L fun x L1 => truD L1 x fun b L2 => if b = true then R x L2 else tb ρ L2 R) := ⟨i_or⟩
instance : Stp (tNtV ta ρ L R) (ta ρ L fun x L1 => truD L1 x fun b L2 => R (.bl (!b)) L2) := ⟨i_not⟩
instance : Stp (tIfE t ta tb ρ L R) (t ρ L fun b L1 => if b = true then ta ρ L1 R else tb ρ L1 R) := ⟨i_ifE⟩
instance {o o' : O2} : Stp (tCh o o' ta tb tc ρ L R) (ta ρ L fun x L1 => tb ρ L1 fun y L2 => o x y L2 (chQ o' tc ρ y R)) := ⟨i_tCh⟩
instance {o' : O2} {k : Bool} : Stp (chQ o' tc ρ y R (.bl k) L) (if k = true then tc ρ L fun u L4 => o' y u L4 R else R (.bl false) L) := ⟨i_chQ⟩
instance {fs : FS} : Stp (tCaP n fs tt ρ L R) (tt ρ L fun cs L1 => cs.length = n ∧ lowDs 0 cs ∧ fs cs [] (fun d _ => lowD 0 d → R d L1) fun _ _ => False) := ⟨i_call⟩
instance {fs : FS} : Stp (tCaM n fs tt ρ L R) (tt ρ L (caM n fs R)) := ⟨i_callM⟩
instance {fs : PN} : Stp (tCaN n fs tt ρ L R) (tt ρ L fun cs L1 => cs.length = n ∧ lowDs 0 cs ∧ fs cs fun o => R (.ob L1.length) (L1 ++ [o])) := ⟨i_callN⟩
instance : Stp (tTB ta ρ L RT) (ta ρ L (asB RT)) := ⟨i_TB⟩
instance {b : Bool} : Stp (asB RT (.bl b) L) (RT b L) := ⟨i_asB⟩
instance : Stp (tTru ta ρ L RT) (ta ρ L fun d L1 => truD L1 d RT) := ⟨i_Tru⟩
instance : Stp (tNt t ρ L RT) (t ρ L fun b L1 => RT (!b) L1) := ⟨i_Nt⟩
instance : Stp (tAn t u ρ L RT) (t ρ L fun b L1 => if b = true then u ρ L1 RT else RT false L1) := ⟨i_An⟩
instance : Stp (tOr t u ρ L RT) (t ρ L fun b L1 => if b = true then RT true L1 else u ρ L1 RT) := ⟨i_Or⟩
instance : Stp (tNx DD ρ L) (DD.nx ρ L) := ⟨i_Nx⟩
instance : Stp (tSq s s' DD ρ L) (s { DD with nx := s' DD } ρ L) := ⟨i_Sq⟩
instance : Stp (tBk DD ρ L) (DD.bk ρ L) := ⟨i_Bk⟩
instance : Stp (tCt DD ρ L) (DD.ct ρ L) := ⟨i_Ct⟩
instance : Stp (tDp te DD ρ L) (te ρ L fun _ L1 => DD.nx ρ L1) := ⟨i_Dp⟩
instance : Stp (tRt te DD ρ L) (te ρ L DD.rt) := ⟨i_Rt⟩
instance : Stp (tRtN DD ρ L) (DD.rt .non L) := ⟨i_RtN⟩
instance : Stp (tIfD t s s' DD ρ L) (t ρ L fun b L1 => if b = true then s DD ρ L1 else s' DD ρ L1) := ⟨i_If⟩
instance : Stp (tSt te i DD ρ L) (te ρ L (stQ i ρ DD.nx)) := ⟨i_St⟩
instance {g : tG} : Stp (tAs te g DD ρ L) (te ρ L fun d L1 => g d ρ L1 DD.nx) := ⟨i_As⟩
instance : Stp (tP2 i j tt DD ρ L) (tt ρ L (p2Q i j ρ DD.nx)) := ⟨i_P2⟩
instance : Stp (tP3 i j l tt DD ρ L) (tt ρ L (p3Q i j l ρ DD.nx)) := ⟨i_P3⟩
instance {a : D} : Stp (gTpD 1 gs (.tup [a]) ρ L Q) (gs [a] ρ L Q) := ⟨i_gTp1⟩
instance {a b : D} : Stp (gTpD 2 gs (.tup [a, b]) ρ L Q) (gs [a, b] ρ L Q) := ⟨i_gTp2⟩
instance {a b c : D} : Stp (gTpD 3 gs (.tup [a, b, c]) ρ L Q) (gs [a, b, c] ρ L Q) := ⟨i_gTp3⟩
instance {a b c d : D} : Stp (gTpD 4 gs (.tup [a, b, c, d]) ρ L Q) (gs [a, b, c, d] ρ L Q) := ⟨i_gTp4⟩
instance {a b c d e : D} : Stp (gTpD 5 gs (.tup [a, b, c, d, e]) ρ L Q) (gs [a, b, c, d, e] ρ L Q) := ⟨i_gTp5⟩
instance {a b c d e f : D} : Stp (gTpD 6 gs (.tup [a, b, c, d, e, f]) ρ L Q) (gs [a, b, c, d, e, f] ρ L Q) := ⟨i_gTp6⟩
instance : Stp (gNilD [] ρ L Q) (Q ρ L) := ⟨i_gNil⟩
instance : Stp (gConsD g gs (d :: xs) ρ L Q) (g d ρ L fun ρ1 L1 => gs xs ρ1 L1 Q) := ⟨i_gCons⟩
instance {o : O3} : Stp (gSb ta tb o d ρ L Q) (ta ρ L fun x L1 => tb ρ L1 fun i L2 => o x i d L2 fun L3 => Q ρ L3) := ⟨i_gSb⟩
instance : Stp (oI gg (.int p) (.int q) L R) (R (gg p q) L) := ⟨i_oI⟩
instance : Stp (oNeg (.int p) L R) (R (.int (-p)) L) := ⟨i_neg⟩
instance : Stp (oAdd (.int p) (.int q) L R) (R (.int (p + q)) L) := ⟨i_addI⟩
instance : Stp (oIsN x .non L R) (R (.bl (isN x)) L) := ⟨i_isN⟩
instance : Stp (oNotN x .non L R) (R (.bl (!isN x)) L) := ⟨i_notN⟩
instance {a b : Bool} : Stp (oIsB (.bl a) (.bl b) L R) (R (.bl (decide (a = b))) L) := ⟨i_isB⟩
instance {b : Bool} : Stp (truD L (.bl b) RT) (RT b L) := ⟨i_trB⟩
instance : Stp (truD L (.int p) RT) (RT (p != 0) L) := ⟨i_trI⟩
instance : Stp (truD L .non RT) (RT false L) := ⟨i_trN⟩
instance : Stp (truD L (.lst xs) RT) (RT (!xs.isEmpty) L) := ⟨i_trL⟩
instance : Stp (truD L (.tup xs) RT) (RT (!xs.isEmpty) L) := ⟨i_trT⟩
instance : Stp (cLen [.tup xs] L R) (R (.int xs.length) L) := ⟨i_lenT⟩
instance : Stp (cLen [.lst xs] L R) (R (.int xs.length) L) := ⟨i_lenL⟩
instance : Stp (cAbs [.int p] L R) (R (.int (if p < 0 then -p else p)) L) := ⟨i_abs⟩
instance : Stp (cInt [.int p] L R) (R (.int p) L) := ⟨i_int⟩
instance : Stp (cMax [.int p, .int q] L R) (R (.int (if q > p then q else p)) L) := ⟨i_max⟩
instance : Stp (cMin [.int p, .int q] L R) (R (.int (if q < p then q else p)) L) := ⟨i_min⟩
instance : Stp (cList [.tup xs] L R) (R (.lst xs) L) := ⟨i_listT⟩
instance : Stp (cList [.lst xs] L R) (R (.lst xs) L) := ⟨i_listL⟩
instance : Stp (cTuple [.tup xs] L R) (R (.tup xs) L) := ⟨i_tupT⟩
instance : Stp (cTuple [.lst xs] L R) (R (.tup xs) L) := ⟨i_tupL⟩
instance : Stp (tAppend te tt ρ L R) (te ρ L (app1 0 tt ρ R)) := ⟨i_append⟩
instance : Stp (tRev te ρ L R) (te ρ L (revQ R)) := ⟨i_rev⟩
instance : Stp (revQ R (.tup xs) L) (R (.tup xs.reverse) L) := ⟨i_revT⟩
instance : Stp (revQ R (.lst xs) L) (R (.lst xs.reverse) L) := ⟨i_revL⟩
instance : Stp (tSlD te tl th ρ L R) (te ρ L fun x L1 => tl ρ L1 fun l L2 => th ρ L2 fun u L3 => oSl x l u L3 R) := ⟨i_sl⟩
instance : Stp (tNoP ρ L RP) (RP none L) := ⟨i_noP⟩
instance : Stp (tSomeP te ρ L RP) (te ρ L (someQ RP)) := ⟨i_someP⟩
instance : Stp (someQ RP (.int p) L) (RP (some p) L) := ⟨i_some⟩
instance : Stp (oSl (.tup xs) lo hi L R) (R (.tup (cutD xs lo hi)) L) := ⟨i_slT⟩
instance : Stp (oSl (.lst xs) lo hi L R) (R (.lst (cutD xs lo hi)) L) := ⟨i_slL⟩
instance : Stp (iLs te ρ L RI) (te ρ L (lsQ RI)) := ⟨i_iLs⟩
instance : Stp (lsQ RI (.lst xs) L) (RI xs L) := ⟨i_lsQ⟩
instance : Stp (iTp te ρ L RI) (te ρ L (tpQ RI)) := ⟨i_iTp⟩
instance : Stp (tpQ RI (.tup xs) L) (RI xs L) := ⟨i_tpQ⟩
instance : Stp (iRg1 tt ρ L RI) (tt ρ L (r1Q RI)) := ⟨i_iRg1⟩
instance : Stp (iRg2 tt ρ L RI) (tt ρ L (r2Q RI)) := ⟨i_iRg2⟩
instance : Stp (iZp tt ρ L RI) (tt ρ L (zpQ RI)) := ⟨i_iZp⟩
instance : Stp (zpQ RI [.lst xs, .lst ys] L) (RI (zipD xs ys) L) := ⟨i_zpL⟩
instance : Stp (zpQ RI [.tup xs, .tup ys] L) (RI (zipD xs ys) L) := ⟨i_zpT⟩
instance : Stp (tLsR1 tt ρ L R) (tt ρ L (lsR1Q R)) := ⟨i_lsR1⟩
instance : Stp (tLsR2 tt ρ L R) (tt ρ L (lsR2Q R)) := ⟨i_lsR2⟩
instance {cs : List (Str × Int)} : Stp (tDgt cs ta tb ρ L R) (ta ρ L fun y L1 => tb ρ L1 (dgtQ cs y R)) := ⟨i_dgt⟩
instance {wi : tI} : Stp (tFr wi g s DD ρ L) (wi ρ L fun ds L1 => frD g s DD ρ ds L1) := ⟨i_Fr⟩
instance {wi : tI} {gc : tC} {vs : List Nat} : Stp (tLcD wi gc t te vs ρ L R) (wi ρ L fun ds L1 => lcD gc t te vs ρ R ds L1) := ⟨i_Lc⟩
instance : Stp (tYesD ρ L RT) (RT true L) := ⟨i_yes⟩
instance [h : Nth ρ i d] : Stp (tV i ρ L R) (R d L) := ⟨i_tV h.at_⟩
instance [h : SetAt ρ i (some d) ρ'] {N : En → Sto → Prop} : Stp (stQ i ρ N d L) (N ρ' L) := ⟨fun r => s_stQ ⟨ρ', h.eq, r⟩⟩
instance [h : SetAt ρ i (some d) ρ'] {N : En → Sto → Prop} : Stp (gNm i d ρ L N) (N ρ' L) := ⟨fun r => s_gNm ⟨ρ', h.eq, r⟩⟩
instance [h : SetAt ρ i (some d) ρ'] [k : SetAt ρ' j (some x) ρ''] {N : En → Sto → Prop} : Stp (p2Q i j ρ N [d, x] L) (N ρ'' L) := ⟨fun r => s_p2 ⟨ρ'', by rw [h.eq, k.eq], r⟩⟩
instance [h : SetAt ρ i (some d) ρ'] [k : SetAt ρ' j (some x) ρ''] [m : SetAt ρ'' l (some y) ρ4] {N : En → Sto → Prop} : Stp (p3Q i j l ρ N [d, x, y] L) (N ρ4 L) := ⟨fun r => s_p3 ⟨ρ4, by rw [h.eq, k.eq, m.eq], r⟩⟩
instance [k : Wip ρ vs ρ'] [h : SetAt ρ' i (some d) ρ''] : Stp (c1 i d (wipeD ρ vs) N) (N ρ'') := ⟨fun r => s_c1 ⟨ρ'', by rw [k.eq, h.eq], r⟩⟩
theorem cN_of (e : xs.length = is.length) (h : setsD is xs ρ = ρ') (r : N ρ') : cN is (.tup xs) ρ N := ⟨e, by rw [h]; exact r⟩
class SameLen {α β : Type} (xs : List α) (ys : List β) : Prop where
  eq : xs.length = ys.length
instance {α β : Type} : SameLen ([] : List α) ([] : List β) := ⟨rfl⟩
instance {α β : Type} {x : α} {y : β} {xs : List α} {ys : List β} [h : SameLen xs ys] : SameLen (x :: xs) (y :: ys) := ⟨by rw [List.length_cons, List.length_cons, h.eq]⟩
instance [e : SameLen xs is] [k : Wip ρ vs ρ'] [h : Sts is xs ρ' ρ''] : Stp (cN is (.tup xs) (wipeD ρ vs) N) (N ρ'') := ⟨fun r => cN_of e.eq (by rw [k.eq, h.eq]) r⟩
instance {k : Nat} [h : NthD xs k d] : Stp (oIx (.tup xs) (.int (OfNat.ofNat k)) L R) (R d L) := ⟨i_ixT (show xs[k]? = some d from h.at_)⟩
instance {k : Nat} [h : NthD xs k d] : Stp (oIx (.lst xs) (.int (OfNat.ofNat k)) L R) (R d L) := ⟨i_ixL (show xs[k]? = some d from h.at_)⟩
instance {c : Decidable (true = true)} : Stp (@ite Prop (true = true) c A B) A := ⟨fun a => by rw [if_pos rfl]; exact a⟩
instance {c : Decidable (false = true)} : Stp (@ite Prop (false = true) c A B) B := ⟨fun a => by rw [if_neg Bool.false_ne_true]; exact a⟩
end
end L2.DL

set_option Elab.async false
set_option linter.all false
set_option maxRecDepth 100000
set_option maxHeartbeats 4000000
/-! SB: programs, plans, stands, deeds: what the defs answer. -/
namespace L2.DL
open PySem PySem.Spec PyProof.Rows

/-! ### the things -/
structure Pl where
  tol : Int
  wait : Int
  each : Bool
  most : Int
  spread : Int
  lean : Bool
abbrev wayD (b : Bool) : D := .str (if b then "each" else "sum")
abbrev Pl.prog (P : Pl) : D := .tup [.int P.tol, .int P.wait, wayD P.each]
abbrev Pl.world (P : Pl) : D := .tup [.int P.most, .int P.spread, .bl P.lean]
abbrev Pl.d (P : Pl) : D := .tup [P.prog, P.world]
structure Pl.ok (P : Pl) : Prop where
  t0 : 0 ≤ P.tol
  t1 : P.tol ≤ 3
  w0 : 1 ≤ P.wait
  w1 : P.wait ≤ 3
  m0 : 1 ≤ P.most
  m1 : P.most ≤ 3
  s0 : 0 ≤ P.spread
  s1 : P.spread ≤ 2
structure Sd where
  off : Int
  want : Int
  left : Int
  hand : Int
  leans : Bool
  locked : Bool
abbrev Sd.d (S : Sd) : D := .tup [.int S.off, .int S.want, .int S.left, .int S.hand, .bl S.leans, .bl S.locked]
abbrev beginS : Sd := ⟨0, 0, 0, 0, false, false⟩
abbrev lockedS : Sd := ⟨0, 0, 0, 0, false, true⟩
inductive Dd where
  | wait | hide (n : Int) | read (n : Int) | lay (n : Int) | lean | off | free
abbrev Dd.d : Dd → D
  | .wait => .tup [.str "wait"]
  | .hide n => .tup [.str "hide", .int n]
  | .read n => .tup [.str "read", .int n]
  | .lay n => .tup [.str "lay", .int n]
  | .lean => .tup [.str "lean"]
  | .off => .tup [.str "off"]
  | .free => .tup [.str "free"]
/-- a source of numbers -/
abbrev spr (a m : Int) : O := .lst [.int a, .int m]

/-! ### the consts -/
abbrev c_WAYS : D := .tup [.str "each", .str "sum"]
abbrev c_BEGIN : D := .tup [.int 0, .int 0, .int 0, .int 0, .bl false, .bl false]
abbrev c_LOCKED : D := .tup [.int 0, .int 0, .int 0, .int 0, .bl false, .bl true]
abbrev c_FAR : D := .int 20

/-! ### what is answered -/
def isWithinB : D → Int → Int → Bool
  | .int i, lo, hi => decide (lo ≤ i) && decide (i ≤ hi)
  | _, _, _ => false
def isRowB : D → Int → Bool
  | .tup xs, n => decide ((xs.length : Int) = n)
  | _, _ => false
def isBoolB : D → Bool
  | .bl _ => true
  | _ => false
def isWayB : D → Bool
  | .str s => decide (s = "each") || decide (s = "sum")
  | _ => false
def isProgramB : D → Bool
  | .tup [t, w, y] => isWithinB t 0 3 && isWithinB w 1 3 && isWayB y
  | _ => false
def isPlanB : D → Bool
  | .tup [p, .tup [m, s, l]] => isProgramB p && isWithinB m 1 3 && isWithinB s 0 2 && isBoolB l
  | _ => false
def allProgs : List D := ([0, 1, 2, 3] : List Int).flatMap fun t => ([1, 2, 3] : List Int).flatMap fun w => [.tup [.int t, .int w, .str "each"], .tup [.int t, .int w, .str "sum"]]
def fitsI (P : Pl) (off want left hand : Int) (leans locked : Bool) : Bool :=
  if locked then decide (off = 0 ∧ want = 0 ∧ left = 0 ∧ hand = 0) && !leans
  else decide (0 ≤ want ∧ want ≤ P.most) && decide (hand = 0 ∨ hand = want) && !(leans && !P.lean) && (if want = 0 then decide (left = 0 ∧ -P.tol ≤ off ∧ off ≤ P.tol) else decide (1 ≤ left ∧ left ≤ P.wait))
def fitsB (P : Pl) : D → Bool
  | .tup [.int off, .int want, .int left, .int hand, .bl leans, .bl locked] =>
    decide (-20 ≤ off ∧ off ≤ 20) && decide (-20 ≤ want ∧ want ≤ 20) && decide (-20 ≤ left ∧ left ≤ 20) && decide (-20 ≤ hand ∧ hand ≤ 20) && fitsI P off want left hand leans locked
  | _ => false
def kindD : D → Int
  | .non => 0
  | .bl _ => 1
  | .lst _ => 2
  | .tup _ => 3
  | .int _ => 4
  | .str _ => 5
  | _ => 6
mutual
def twD : D → D → Bool
  | .non, .non => true
  | .bl a, .bl b => a == b
  | .int a, .int b => decide (a = b)
  | .str a, .str b => decide (a = b)
  | .lst xs, .lst ys => twDs xs ys
  | .tup xs, .tup ys => twDs xs ys
  | _, _ => false
def twDs : List D → List D → Bool
  | [], [] => true
  | x :: xs, y :: ys => twD x y && twDs xs ys
  | _, _ => false
end
/-- the deeds at a stand, as they are found -/
def deedsRaw (P : Pl) (S : Sd) : List Dd :=
  .wait :: ((List.range P.most.toNat).flatMap fun (i : Nat) => Dd.hide (1 + (i : Int)) :: (if S.want = 0 then [Dd.read (1 + (i : Int))] else [])) ++
    ((List.range (P.spread + 1 - -P.spread).toNat).flatMap fun (i : Nat) => if S.hand ≠ 0 ∧ 0 < S.hand + (-P.spread + (i : Int)) then [Dd.lay (-P.spread + (i : Int))] else []) ++ (if P.lean then [if S.leans then .off else .lean] else [])
def deedsL (P : Pl) (S : Sd) : List D := if S.locked then [Dd.free.d] else sortD ((deedsRaw P S).map Dd.d)
def behind (P : Pl) (S : Sd) (off hand : Int) (leans : Bool) (weight : Int) : Sd × Str × Int :=
  if S.want ≠ 0 then
    (if S.off < off ∧ (if off - S.want < 0 then -(off - S.want) else off - S.want) ≤ P.tol then (⟨if P.each then 0 else off - S.want, 0, 0, 0, leans, false⟩, "accepts", weight - hand)
    else if S.left ≠ 1 then (⟨off, S.want, S.left - 1, hand, leans, false⟩, "", weight) else (lockedS, "calls", weight))
  else if (if off < 0 then -off else off) ≤ P.tol then (⟨off, 0, 0, 0, leans, false⟩, "", weight) else (lockedS, "calls", weight)
def doneS (P : Pl) (S : Sd) : Dd → Sd × Str × Int
  | .free => (beginS, "", 0)
  | .read n => (⟨S.off, n, P.wait, n, S.leans, false⟩, "", 0)
  | .wait => behind P S S.off S.hand S.leans 0
  | .hide n => behind P S (S.off + n) S.hand S.leans n
  | .lay n => behind P S (S.off + S.hand + n) 0 S.leans 0
  | .lean => behind P S (S.off + 1) S.hand true 0
  | .off => behind P S (S.off - 1) S.hand false 0
abbrev tellD (x : Sd × Str × Int) : D := .tup [x.1.d, .str x.2.1, .int x.2.2]

/-! ### promises -/
def F_is_within : FS := pureF fun ds R => ∃ v lo hi, ds = [v, .int lo, .int hi] ∧ fitD 30 v = true ∧ R (.bl (isWithinB v lo hi))
def F_is_row : FS := pureF fun ds R => ∃ v n, ds = [v, .int n] ∧ fitD 30 v = true ∧ R (.bl (isRowB v n))
def F_is_program : FS := pureF fun ds R => ∃ v, ds = [v] ∧ fitD 30 v = true ∧ R (.bl (isProgramB v))
def F_is_plan : FS := pureF fun ds R => ∃ v, ds = [v] ∧ fitD 30 v = true ∧ R (.bl (isPlanB v))
def F_programs_of : FS := pureF fun ds R => ds = [] ∧ R (.lst allProgs)
def F_all_programs : FS := pureF fun ds R => ds = [] ∧ R (.lst allProgs)
def F_look_at_plan : FS := pureF fun ds R => ∃ P : Pl, ds = [P.d] ∧ P.ok ∧ R .non
def F_first_stand : FS := pureF fun ds R => ∃ P : Pl, ds = [P.d] ∧ P.ok ∧ R beginS.d
def F_fits : FS := pureF fun ds R => ∃ (P : Pl) (x : D), ds = [P.d, x] ∧ P.ok ∧ fitD 30 x = true ∧ R (.bl (fitsB P x))
def F_is_stand : FS := pureF fun ds R => ∃ (P : Pl) (x : D), ds = [P.d, x] ∧ P.ok ∧ fitD 30 x = true ∧ R (.bl (fitsB P x))
def F_law_spring : PN := fun ds R => ∃ (ns : List Int) (at_ : Int), ds = [.lst (ns.map .int), .int at_] ∧ 0 ≤ at_ ∧ ∀ a m, R (spr a m)
def F_law_pick : FS := mutF fun d o r R => d = .ob 0 ∧ (∃ a m, o = spr a m) ∧ ∃ k : Int, r = [.int k] ∧ 0 < k ∧ k < 2 ^ 64 ∧ ∀ i a m, 0 ≤ i → i < k → R (.int i) (spr a m)
def F_law_kind : FS := pureF fun ds R => ∃ v, ds = [v] ∧ fitD 30 v = true ∧ R (.int (kindD v))
mutual
/-- no sequence is too long -/
def wideD : D → Prop
  | .tup xs => xs.length ≤ 100000 ∧ wideDs xs
  | .lst xs => xs.length ≤ 100000 ∧ wideDs xs
  | _ => True
def wideDs : List D → Prop
  | [] => True
  | x :: xs => wideD x ∧ wideDs xs
end
def P_law_twins (m : Nat) : PS1 := fun ds R => ∃ a b, ds = [a, b] ∧ fitD m a = true ∧ fitD m b = true ∧ wideD a ∧ m ≤ 20 ∧ R (.bl (twD a b))
def F_law_twins : Nat → FS
  | 0 => noF
  | m + 1 => pureF (P_law_twins m)
def F_law_program : FS := mutF fun d o r R => d = .ob 0 ∧ (∃ a m, o = spr a m) ∧ r = [] ∧ ∀ (t w : Int) (e : Bool) a m, 0 ≤ t → t ≤ 3 → 1 ≤ w → w ≤ 3 → R (.tup [.int t, .int w, wayD e]) (spr a m)
def F_law_plan : FS := mutF fun d o r R => d = .ob 0 ∧ (∃ a m, o = spr a m) ∧ r = [] ∧ ∀ (P : Pl) a m, P.ok → R P.d (spr a m)
def F_law_small : FS := mutF fun d o r R => d = .ob 0 ∧ (∃ a m, o = spr a m) ∧ r = [] ∧ ∀ (P : Pl) a m, P.ok → P.tol ≤ 2 → P.wait ≤ 2 → P.most ≤ 2 → P.spread ≤ 1 → R P.d (spr a m)
def F_law_begin : FS := pureF fun ds R => ds = [] ∧ R beginS.d
def F_law_deeds : FS := pureF fun ds R => ∃ (P : Pl) (S : Sd), ds = [P.d, S.d] ∧ P.ok ∧ R (.lst (deedsL P S))
def F_law_done : FS := pureF fun ds R => ∃ (P : Pl) (S : Sd) (e : Dd), ds = [P.d, S.d, e.d] ∧ P.ok ∧ R (tellD (doneS P S e))
def F_law_int : FS := pureF fun ds R => ∃ v lo hi, ds = [v, .int lo, .int hi] ∧ fitD 30 v = true ∧ R (.bl (isWithinB v lo hi))
def F_law_made : FS := pureF fun ds R => ∃ v n, ds = [v, .int n] ∧ fitD 30 v = true ∧ R (.bl (isRowB v n))
def F_law_good_program : FS := pureF fun ds R => ∃ v, ds = [v] ∧ fitD 30 v = true ∧ R (.bl (isProgramB v))
def F_law_good_plan : FS := pureF fun ds R => ∃ v, ds = [v] ∧ fitD 30 v = true ∧ R (.bl (isPlanB v))
def F_law_good_stand : FS := pureF fun ds R => ∃ (P : Pl) (x : D), ds = [P.d, x] ∧ P.ok ∧ fitD 30 x = true ∧ R (.bl (fitsB P x))
def P_law_bent (n : Nat) : D → O → List D → (D → O → Prop) → Prop := fun d o r R => d = .ob 0 ∧ (∃ a m, o = spr a m) ∧ ∃ v, r = [v] ∧ fitD n v = true ∧ wideD v ∧ n ≤ 20 ∧ ∀ x a m, fitD (n + 2) x = true → R x (spr a m)
def F_law_bent : Nat → FS
  | 0 => noF
  | n + 1 => mutF (P_law_bent n)

/-! ### readings -/
/-- is_within: 0 value, 1 low, 2 high -/
def t_is_within : tS := (tRt (tAnV (tCa cIsi (tConsA (tV 0) (tConsA (tK (.ty "int")) tNilA))) (tAnV (tNtV (tCa cIsi (tConsA (tV 0) (tConsA (tK (.ty "bool")) tNilA)))) (tCh oLe oLe (tV 1) (tV 0) (tV 2)))))
abbrev n_is_within : Nat := 3
/-- is_row: 0 value, 1 many -/
def t_is_row : tS := (tRt (tAnV (tCa cIsi (tConsA (tV 0) (tConsA (tK (.ty "tuple")) tNilA))) (tB2 oEq (tCa cLen (tConsA (tV 0) tNilA)) (tV 1))))
abbrev n_is_row : Nat := 2
/-- is_program: 0 value -/
def t_is_program : tS := (tSq (tIfD (tOr (tNt (tTru (tCaP 2 F_is_row (tConsA (tV 0) (tConsA (tK (.int 3)) tNilA))))) (tOr (tNt (tTru (tCaP 3 F_is_within (tConsA (tB2 oIx (tV 0) (tK (.int 0))) (tConsA (tK (.int 0)) (tConsA (tK (.int 3)) tNilA)))))) (tNt (tTru (tCaP 3 F_is_within (tConsA (tB2 oIx (tV 0) (tK (.int 1))) (tConsA (tK (.int 1)) (tConsA (tK (.int 3)) tNilA)))))))) (tRt (tK (.bl false))) tNx) (tRt (tAnV (tCa cIsi (tConsA (tB2 oIx (tV 0) (tK (.int 2))) (tConsA (tK (.ty "str")) tNilA))) (tB2 oIn (tB2 oIx (tV 0) (tK (.int 2))) (tK c_WAYS)))))
abbrev n_is_program : Nat := 1
/-- is_plan: 0 value, 1 most, 2 spread, 3 leaning -/
def t_is_plan : tS := (tSq (tIfD (tOr (tNt (tTru (tCaP 2 F_is_row (tConsA (tV 0) (tConsA (tK (.int 2)) tNilA))))) (tOr (tNt (tTru (tCaP 1 F_is_program (tConsA (tB2 oIx (tV 0) (tK (.int 0))) tNilA)))) (tNt (tTru (tCaP 2 F_is_row (tConsA (tB2 oIx (tV 0) (tK (.int 1))) (tConsA (tK (.int 3)) tNilA))))))) (tRt (tK (.bl false))) tNx) (tSq (tAs (tB2 oIx (tV 0) (tK (.int 1))) (gTpD 3 (gConsD (gNm 1) (gConsD (gNm 2) (gConsD (gNm 3) gNilD))))) (tRt (tAnV (tCaP 3 F_is_within (tConsA (tV 1) (tConsA (tK (.int 1)) (tConsA (tK (.int 3)) tNilA)))) (tAnV (tCaP 3 F_is_within (tConsA (tV 2) (tConsA (tK (.int 0)) (tConsA (tK (.int 2)) tNilA)))) (tCa cIsi (tConsA (tV 3) (tConsA (tK (.ty "bool")) tNilA))))))))
abbrev n_is_plan : Nat := 4
/-- programs_of: 0 found, 1 tolerance, 2 wait, 3 way -/
def t_programs_of : tS := (tSq (tSt (tLstD tNilA) 0) (tSq (tFr (iRg1 (tConsA (tK (.int 4)) tNilA)) (gNm 1) (tFr (iRg2 (tConsA (tK (.int 1)) (tConsA (tK (.int 4)) tNilA))) (gNm 2) (tSt (tB2 oAdd (tV 0) (tLcD (iTp (tK c_WAYS)) (c1 3) tYesD (tTupD (tConsA (tV 1) (tConsA (tV 2) (tConsA (tV 3) tNilA)))) [3])) 0))) (tRt (tV 0))))
abbrev n_programs_of : Nat := 4
/-- all_programs:  -/
def t_all_programs : tS := (tRt (tCaP 0 F_programs_of tNilA))
abbrev n_all_programs : Nat := 0
/-- look_at_plan: 0 plan -/
def t_look_at_plan : tS := (tIfD (tNt (tTru (tCaP 1 F_is_plan (tConsA (tV 0) tNilA)))) tNo tNx)
abbrev n_look_at_plan : Nat := 1
/-- first_stand: 0 plan -/
def t_first_stand : tS := (tSq (tDp (tCaP 1 F_look_at_plan (tConsA (tV 0) tNilA))) (tRt (tK c_BEGIN)))
abbrev n_first_stand : Nat := 1
/-- fits: 0 plan, 1 value, 2 tolerance, 3 wait, 4 way, 5 most, 6 spread, 7 leaning, 8 off, 9 want, 10 left, 11 hand, 12 leans, 13 locked, 14 number -/
def t_fits : tS := (tSq (tAs (tV 0) (gTpD 2 (gConsD (gTpD 3 (gConsD (gNm 2) (gConsD (gNm 3) (gConsD (gNm 4) gNilD)))) (gConsD (gTpD 3 (gConsD (gNm 5) (gConsD (gNm 6) (gConsD (gNm 7) gNilD)))) gNilD)))) (tSq (tIfD (tOr (tNt (tTru (tCaP 2 F_is_row (tConsA (tV 1) (tConsA (tK (.int 6)) tNilA))))) (tOr (tNt (tTru (tCa cIsi (tConsA (tB2 oIx (tV 1) (tK (.int 4))) (tConsA (tK (.ty "bool")) tNilA))))) (tNt (tTru (tCa cIsi (tConsA (tB2 oIx (tV 1) (tK (.int 5))) (tConsA (tK (.ty "bool")) tNilA))))))) (tRt (tK (.bl false))) tNx) (tSq (tIfD (tNt (tTru (tCa cAll (tConsA (tLcD (iTp (tSlD (tV 1) tNoP (tSomeP (tK (.int 4))))) (c1 14) tYesD (tCaP 3 F_is_within (tConsA (tV 14) (tConsA (tB1 oNeg (tK c_FAR)) (tConsA (tK c_FAR) tNilA)))) [14]) tNilA)))) (tRt (tK (.bl false))) tNx) (tSq (tAs (tV 1) (gTpD 6 (gConsD (gNm 8) (gConsD (gNm 9) (gConsD (gNm 10) (gConsD (gNm 11) (gConsD (gNm 12) (gConsD (gNm 13) gNilD)))))))) (tSq (tIfD (tTru (tV 13)) (tRt (tB2 oEq (tV 1) (tK c_LOCKED))) tNx) (tSq (tIfD (tOr (tNt (tTB (tCh oLe oLe (tK (.int 0)) (tV 9) (tV 5)))) (tOr (tTB (tB2 oNotIn (tV 11) (tTupD (tConsA (tK (.int 0)) (tConsA (tV 9) tNilA))))) (tAn (tTru (tV 12)) (tNt (tTru (tV 7)))))) (tRt (tK (.bl false))) tNx) (tSq (tIfD (tTB (tB2 oEq (tV 9) (tK (.int 0)))) (tRt (tAnV (tB2 oEq (tV 10) (tK (.int 0))) (tCh oLe oLe (tB1 oNeg (tV 2)) (tV 8) (tV 2)))) tNx) (tRt (tCh oLe oLe (tK (.int 1)) (tV 10) (tV 3))))))))))
abbrev n_fits : Nat := 15
/-- is_stand: 0 plan, 1 value -/
def t_is_stand : tS := (tSq (tDp (tCaP 1 F_look_at_plan (tConsA (tV 0) tNilA))) (tRt (tCaP 2 F_fits (tConsA (tV 0) (tConsA (tV 1) tNilA)))))
abbrev n_is_stand : Nat := 2
/-- _law_spring: 0 script, 1 at, 2 cell, 3 mixed -/
def t_law_spring : tS := (tSq (tSt (tK (.int 7)) 2) (tSq (tIfD (tTB (tB2 oLt (tV 1) (tCa cLen (tConsA (tV 0) tNilA)))) (tSt (tCa cAbs (tConsA (tB2 oIx (tV 0) (tV 1)) tNilA)) 2) tNx) (tSq (tSt (tB2 oMod (tCa cInt (tConsA (tB2 oAdd (tB2 oAdd (tB2 oMul (tV 2) (tK (.int 863))) (tB2 oMul (tK (.int 524287)) (tV 1))) (tK (.int 1))) tNilA)) (tK (.int 999999999989))) 3) (tRt (tLstO (tConsA (tIfE (tTB (tB2 oGe (tV 2) (tB2 oPow (tK (.int 10)) (tK (.int 18))))) (tV 2) (tK (.int 0))) (tConsA (tV 3) tNilA)))))))
abbrev n_law_spring : Nat := 4
/-- _law_pick: 0 spring, 1 many, 2 digit -/
def t_law_pick : tS := (tSq (tIfD (tTB (tB2 oGt (tB2 oIx (tV 0) (tK (.int 0))) (tK (.int 0)))) (tSq (tSt (tB2 oMod (tCa cInt (tConsA (tB2 oIx (tV 0) (tK (.int 0))) tNilA)) (tV 1)) 2) (tSq (tAs (tB2 oDiv (tB2 oIx (tV 0) (tK (.int 0))) (tV 1)) (gSb (tV 0) (tK (.int 0)) sLst)) (tRt (tV 2)))) tNx) (tSq (tAs (tB2 oMod (tCa cInt (tConsA (tB2 oAdd (tB2 oMul (tB2 oIx (tV 0) (tK (.int 1))) (tK (.int 393555900739))) (tK (.int 8191))) tNilA)) (tK (.int 999999999989))) (gSb (tV 0) (tK (.int 1)) sLst)) (tRt (tB2 oMod (tCa cInt (tConsA (tB2 oDiv (tB2 oIx (tV 0) (tK (.int 1))) (tK (.int 4093))) tNilA)) (tV 1)))))
abbrev n_law_pick : Nat := 3
/-- _law_kind: 0 value -/
def t_law_kind : tS := (tSq (tIfD (tOr (tTB (tB2 oIsN (tV 0) (tK .non))) (tTru (tCa cIsi (tConsA (tV 0) (tConsA (tK (.ty "bool")) tNilA))))) (tRt (tIfE (tTB (tB2 oIsN (tV 0) (tK .non))) (tK (.int 0)) (tK (.int 1)))) tNx) (tSq (tIfD (tTru (tCa cIsi2 (tConsA (tV 0) (tConsA (tTupD (tConsA (tK (.ty "list")) (tConsA (tK (.ty "tuple")) tNilA))) tNilA)))) (tRt (tIfE (tTru (tCa cIsi (tConsA (tV 0) (tConsA (tK (.ty "list")) tNilA)))) (tK (.int 2)) (tK (.int 3)))) tNx) (tRt (tIfE (tTru (tCa cIsi (tConsA (tV 0) (tConsA (tK (.ty "int")) tNilA)))) (tK (.int 4)) (tIfE (tTru (tCa cIsi (tConsA (tV 0) (tConsA (tK (.ty "str")) tNilA)))) (tK (.int 5)) (tK (.int 6)))))))
abbrev n_law_kind : Nat := 1
/-- _law_twins: 0 one, 1 other, 2 a, 3 b -/
def t_law_twins (m : Nat) : tS := (tSq (tIfD (tTB (tB2 oNe (tCaP 1 F_law_kind (tConsA (tV 0) tNilA)) (tCaP 1 F_law_kind (tConsA (tV 1) tNilA)))) (tRt (tK (.bl false))) tNx) (tSq (tIfD (tTB (tB2 oIn (tCaP 1 F_law_kind (tConsA (tV 0) tNilA)) (tLstD (tConsA (tK (.int 2)) (tConsA (tK (.int 3)) tNilA))))) (tRt (tAnV (tB2 oEq (tCa cLen (tConsA (tV 0) tNilA)) (tCa cLen (tConsA (tV 1) tNilA))) (tB2 oEq (tLcD (iZp (tConsA (tV 0) (tConsA (tV 1) tNilA))) (cN [2, 3]) (tNt (tTru (tCaP 2 (F_law_twins m) (tConsA (tV 2) (tConsA (tV 3) tNilA))))) (tK (.int 1)) [2, 3]) (tLstD tNilA)))) tNx) (tRt (tB2 oEq (tV 0) (tV 1)))))
abbrev n_law_twins : Nat := 4
/-- _law_program: 0 spring -/
def t_law_program : tS := (tRt (tTupD (tConsA (tCaM 2 F_law_pick (tConsA (tV 0) (tConsA (tK (.int 4)) tNilA))) (tConsA (tB2 oAdd (tK (.int 1)) (tCaM 2 F_law_pick (tConsA (tV 0) (tConsA (tK (.int 3)) tNilA)))) (tConsA (tB2 oIx (tLstD (tConsA (tK (.str "each")) (tConsA (tK (.str "sum")) tNilA))) (tCaM 2 F_law_pick (tConsA (tV 0) (tConsA (tK (.int 2)) tNilA)))) tNilA)))))
abbrev n_law_program : Nat := 1
/-- _law_plan: 0 spring, 1 world -/
def t_law_plan : tS := (tSq (tSt (tTupD (tConsA (tB2 oAdd (tK (.int 1)) (tCaM 2 F_law_pick (tConsA (tV 0) (tConsA (tK (.int 3)) tNilA)))) (tConsA (tB2 oIx (tLstD (tConsA (tK (.int 0)) (tConsA (tK (.int 1)) (tConsA (tK (.int 1)) (tConsA (tK (.int 2)) tNilA))))) (tCaM 2 F_law_pick (tConsA (tV 0) (tConsA (tK (.int 4)) tNilA)))) (tConsA (tB2 oEq (tCaM 2 F_law_pick (tConsA (tV 0) (tConsA (tK (.int 3)) tNilA))) (tK (.int 0))) tNilA)))) 1) (tRt (tTupD (tConsA (tCaM 1 F_law_program (tConsA (tV 0) tNilA)) (tConsA (tV 1) tNilA)))))
abbrev n_law_plan : Nat := 2
/-- _law_small: 0 spring, 1 tolerance, 2 wait, 3 way, 4 most, 5 spread, 6 leaning -/
def t_law_small : tS := (tSq (tAs (tCaM 1 F_law_plan (tConsA (tV 0) tNilA)) (gTpD 2 (gConsD (gTpD 3 (gConsD (gNm 1) (gConsD (gNm 2) (gConsD (gNm 3) gNilD)))) (gConsD (gTpD 3 (gConsD (gNm 4) (gConsD (gNm 5) (gConsD (gNm 6) gNilD)))) gNilD)))) (tRt (tTupD (tConsA (tTupD (tConsA (tCa cMin (tConsA (tK (.int 2)) (tConsA (tV 1) tNilA))) (tConsA (tCa cMin (tConsA (tK (.int 2)) (tConsA (tV 2) tNilA))) (tConsA (tV 3) tNilA)))) (tConsA (tTupD (tConsA (tCa cMin (tConsA (tK (.int 2)) (tConsA (tV 4) tNilA))) (tConsA (tCa cMin (tConsA (tK (.int 1)) (tConsA (tV 5) tNilA))) (tConsA (tV 6) tNilA)))) tNilA)))))
abbrev n_law_small : Nat := 7
/-- _law_begin:  -/
def t_law_begin : tS := (tRt (tTupD (tConsA (tK (.int 0)) (tConsA (tK (.int 0)) (tConsA (tK (.int 0)) (tConsA (tK (.int 0)) (tConsA (tK (.bl false)) (tConsA (tK (.bl false)) tNilA))))))))
abbrev n_law_begin : Nat := 0
/-- _law_deeds: 0 plan, 1 stand, 2 most, 3 spread, 4 leaning, 5 found, 6 weight, 7 more -/
def t_law_deeds : tS := (tSq (tAs (tB2 oIx (tV 0) (tK (.int 1))) (gTpD 3 (gConsD (gNm 2) (gConsD (gNm 3) (gConsD (gNm 4) gNilD))))) (tSq (tIfD (tTru (tB2 oIx (tV 1) (tK (.int 5)))) (tRt (tLstD (tConsA (tTupD (tConsA (tK (.str "free")) tNilA)) tNilA))) tNx) (tSq (tSt (tLstO (tConsA (tTupD (tConsA (tK (.str "wait")) tNilA)) tNilA)) 5) (tSq (tFr (iRg2 (tConsA (tK (.int 1)) (tConsA (tB2 oAdd (tV 2) (tK (.int 1))) tNilA))) (gNm 6) (tSq (tDp (tAppend (tV 5) (tConsA (tTupD (tConsA (tK (.str "hide")) (tConsA (tV 6) tNilA))) tNilA))) (tIfD (tTB (tB2 oEq (tB2 oIx (tV 1) (tK (.int 1))) (tK (.int 0)))) (tDp (tAppend (tV 5) (tConsA (tTupD (tConsA (tK (.str "read")) (tConsA (tV 6) tNilA))) tNilA))) tNx))) (tSq (tFr (iRg2 (tConsA (tB1 oNeg (tV 3)) (tConsA (tB2 oAdd (tV 3) (tK (.int 1))) tNilA))) (gNm 7) (tIfD (tAn (tTB (tB2 oNe (tB2 oIx (tV 1) (tK (.int 3))) (tK (.int 0)))) (tTB (tB2 oGt (tB2 oAdd (tB2 oIx (tV 1) (tK (.int 3))) (tV 7)) (tK (.int 0))))) (tDp (tAppend (tV 5) (tConsA (tTupD (tConsA (tK (.str "lay")) (tConsA (tV 7) tNilA))) tNilA))) tNx)) (tSq (tIfD (tTru (tV 4)) (tDp (tAppend (tV 5) (tConsA (tIfE (tTru (tB2 oIx (tV 1) (tK (.int 4)))) (tTupD (tConsA (tK (.str "off")) tNilA)) (tTupD (tConsA (tK (.str "lean")) tNilA))) tNilA))) tNx) (tRt (tCa cSorted (tConsA (tV 5) tNilA)))))))))
abbrev n_law_deeds : Nat := 8
/-- _law_done: 0 plan, 1 stand, 2 deed, 3 tolerance, 4 wait, 5 way, 6 off, 7 want, 8 left, 9 hand, 10 leans, 11 locked, 12 word, 13 number, 14 before, 15 weight -/
def t_law_done : tS := (tSq (tAs (tB2 oIx (tV 0) (tK (.int 0))) (gTpD 3 (gConsD (gNm 3) (gConsD (gNm 4) (gConsD (gNm 5) gNilD))))) (tSq (tAs (tV 1) (gTpD 6 (gConsD (gNm 6) (gConsD (gNm 7) (gConsD (gNm 8) (gConsD (gNm 9) (gConsD (gNm 10) (gConsD (gNm 11) gNilD)))))))) (tSq (tAs (tSlD (tB2 oAdd (tV 2) (tTupD (tConsA (tK (.int 0)) tNilA))) tNoP (tSomeP (tK (.int 2)))) (gTpD 2 (gConsD (gNm 12) (gConsD (gNm 13) gNilD)))) (tSq (tIfD (tTB (tB2 oEq (tV 12) (tK (.str "free")))) (tRt (tTupD (tConsA (tCaP 0 F_law_begin tNilA) (tConsA (tK (.str "")) (tConsA (tK (.int 0)) tNilA))))) tNx) (tSq (tIfD (tTB (tB2 oEq (tV 12) (tK (.str "read")))) (tRt (tTupD (tConsA (tTupD (tConsA (tV 6) (tConsA (tV 13) (tConsA (tV 4) (tConsA (tV 13) (tConsA (tV 10) (tConsA (tK (.bl false)) tNilA))))))) (tConsA (tK (.str "")) (tConsA (tK (.int 0)) tNilA))))) tNx) (tSq (tP2 14 15 (tConsA (tV 6) (tConsA (tK (.int 0)) tNilA))) (tSq (tIfD (tTB (tB2 oEq (tV 12) (tK (.str "hide")))) (tP2 6 15 (tConsA (tB2 oAdd (tV 6) (tV 13)) (tConsA (tV 13) tNilA))) (tIfD (tTB (tB2 oEq (tV 12) (tK (.str "lay")))) (tP2 6 9 (tConsA (tB2 oAdd (tB2 oAdd (tV 6) (tV 9)) (tV 13)) (tConsA (tK (.int 0)) tNilA))) (tIfD (tTB (tB2 oEq (tV 12) (tK (.str "lean")))) (tP2 6 10 (tConsA (tB2 oAdd (tV 6) (tK (.int 1))) (tConsA (tK (.bl true)) tNilA))) (tIfD (tTB (tB2 oEq (tV 12) (tK (.str "off")))) (tP2 6 10 (tConsA (tB2 oSub (tV 6) (tK (.int 1))) (tConsA (tK (.bl false)) tNilA))) tNx)))) (tSq (tIfD (tTB (tB2 oNe (tV 7) (tK (.int 0)))) (tSq (tIfD (tAn (tTB (tB2 oGt (tV 6) (tV 14))) (tTB (tB2 oLe (tCa cAbs (tConsA (tB2 oSub (tV 6) (tV 7)) tNilA)) (tV 3)))) (tRt (tTupD (tConsA (tTupD (tConsA (tDgt [("each", 0)] (tV 5) (tB2 oSub (tV 6) (tV 7))) (tConsA (tK (.int 0)) (tConsA (tK (.int 0)) (tConsA (tK (.int 0)) (tConsA (tV 10) (tConsA (tK (.bl false)) tNilA))))))) (tConsA (tK (.str "accepts")) (tConsA (tB2 oSub (tV 15) (tV 9)) tNilA))))) tNx) (tIfD (tTB (tB2 oNe (tV 8) (tK (.int 1)))) (tRt (tTupD (tConsA (tTupD (tConsA (tV 6) (tConsA (tV 7) (tConsA (tB2 oSub (tV 8) (tK (.int 1))) (tConsA (tV 9) (tConsA (tV 10) (tConsA (tK (.bl false)) tNilA))))))) (tConsA (tK (.str "")) (tConsA (tV 15) tNilA))))) tNx)) (tIfD (tTB (tB2 oLe (tCa cAbs (tConsA (tV 6) tNilA)) (tV 3))) (tRt (tTupD (tConsA (tTupD (tConsA (tV 6) (tConsA (tK (.int 0)) (tConsA (tK (.int 0)) (tConsA (tK (.int 0)) (tConsA (tV 10) (tConsA (tK (.bl false)) tNilA))))))) (tConsA (tK (.str "")) (tConsA (tV 15) tNilA))))) tNx)) (tRt (tTupD (tConsA (tTupD (tConsA (tK (.int 0)) (tConsA (tK (.int 0)) (tConsA (tK (.int 0)) (tConsA (tK (.int 0)) (tConsA (tK (.bl false)) (tConsA (tK (.bl true)) tNilA))))))) (tConsA (tK (.str "calls")) (tConsA (tV 15) tNilA)))))))))))))
abbrev n_law_done : Nat := 16
/-- _law_int: 0 value, 1 low, 2 high -/
def t_law_int : tS := (tRt (tAnV (tCa cIsi (tConsA (tV 0) (tConsA (tK (.ty "int")) tNilA))) (tAnV (tNtV (tCa cIsi (tConsA (tV 0) (tConsA (tK (.ty "bool")) tNilA)))) (tCh oLe oLe (tV 1) (tV 0) (tV 2)))))
abbrev n_law_int : Nat := 3
/-- _law_made: 0 value, 1 many -/
def t_law_made : tS := (tRt (tAnV (tCa cIsi (tConsA (tV 0) (tConsA (tK (.ty "tuple")) tNilA))) (tB2 oEq (tCa cLen (tConsA (tV 0) tNilA)) (tV 1))))
abbrev n_law_made : Nat := 2
/-- _law_good_program: 0 value -/
def t_law_good_program : tS := (tSq (tIfD (tOr (tNt (tTru (tCaP 2 F_law_made (tConsA (tV 0) (tConsA (tK (.int 3)) tNilA))))) (tOr (tNt (tTru (tCa cIsi (tConsA (tB2 oIx (tV 0) (tK (.int 2))) (tConsA (tK (.ty "str")) tNilA))))) (tTB (tB2 oNotIn (tB2 oIx (tV 0) (tK (.int 2))) (tLstD (tConsA (tK (.str "each")) (tConsA (tK (.str "sum")) tNilA))))))) (tRt (tK (.bl false))) tNx) (tRt (tAnV (tCaP 3 F_law_int (tConsA (tB2 oIx (tV 0) (tK (.int 0))) (tConsA (tK (.int 0)) (tConsA (tK (.int 3)) tNilA)))) (tCaP 3 F_law_int (tConsA (tB2 oIx (tV 0) (tK (.int 1))) (tConsA (tK (.int 1)) (tConsA (tK (.int 3)) tNilA)))))))
abbrev n_law_good_program : Nat := 1
/-- _law_good_plan: 0 value -/
def t_law_good_plan : tS := (tSq (tIfD (tOr (tNt (tTru (tCaP 2 F_law_made (tConsA (tV 0) (tConsA (tK (.int 2)) tNilA))))) (tOr (tNt (tTru (tCaP 1 F_law_good_program (tConsA (tB2 oIx (tV 0) (tK (.int 0))) tNilA)))) (tNt (tTru (tCaP 2 F_law_made (tConsA (tB2 oIx (tV 0) (tK (.int 1))) (tConsA (tK (.int 3)) tNilA))))))) (tRt (tK (.bl false))) tNx) (tRt (tAnV (tCaP 3 F_law_int (tConsA (tB2 oIx (tB2 oIx (tV 0) (tK (.int 1))) (tK (.int 0))) (tConsA (tK (.int 1)) (tConsA (tK (.int 3)) tNilA)))) (tAnV (tCaP 3 F_law_int (tConsA (tB2 oIx (tB2 oIx (tV 0) (tK (.int 1))) (tK (.int 1))) (tConsA (tK (.int 0)) (tConsA (tK (.int 2)) tNilA)))) (tCa cIsi (tConsA (tB2 oIx (tB2 oIx (tV 0) (tK (.int 1))) (tK (.int 2))) (tConsA (tK (.ty "bool")) tNilA)))))))
abbrev n_law_good_plan : Nat := 1
/-- _law_good_stand: 0 plan, 1 value, 2 tolerance, 3 wait, 4 way, 5 off, 6 want, 7 left, 8 hand, 9 leans, 10 locked, 11 one -/
def t_law_good_stand : tS := (tSq (tAs (tB2 oIx (tV 0) (tK (.int 0))) (gTpD 3 (gConsD (gNm 2) (gConsD (gNm 3) (gConsD (gNm 4) gNilD))))) (tSq (tIfD (tOr (tNt (tTru (tCaP 2 F_law_made (tConsA (tV 1) (tConsA (tK (.int 6)) tNilA))))) (tTB (tB2 oNe (tLcD (iTp (tSlD (tV 1) tNoP (tSomeP (tK (.int 4))))) (c1 11) (tNt (tTru (tCaP 3 F_law_int (tConsA (tV 11) (tConsA (tB1 oNeg (tK (.int 20))) (tConsA (tK (.int 20)) tNilA)))))) (tV 11) [11]) (tLstD tNilA)))) (tRt (tK (.bl false))) tNx) (tSq (tIfD (tTB (tB2 oNe (tLcD (iTp (tSlD (tV 1) (tSomeP (tK (.int 4))) tNoP)) (c1 11) (tNt (tTru (tCa cIsi (tConsA (tV 11) (tConsA (tK (.ty "bool")) tNilA))))) (tV 11) [11]) (tLstD tNilA))) (tRt (tK (.bl false))) tNx) (tSq (tAs (tV 1) (gTpD 6 (gConsD (gNm 5) (gConsD (gNm 6) (gConsD (gNm 7) (gConsD (gNm 8) (gConsD (gNm 9) (gConsD (gNm 10) gNilD)))))))) (tSq (tIfD (tTru (tV 10)) (tRt (tB2 oEq (tLstD (tConsA (tV 5) (tConsA (tV 6) (tConsA (tV 7) (tConsA (tV 8) (tConsA (tV 9) tNilA)))))) (tLstD (tConsA (tK (.int 0)) (tConsA (tK (.int 0)) (tConsA (tK (.int 0)) (tConsA (tK (.int 0)) (tConsA (tK (.bl false)) tNilA)))))))) tNx) (tSq (tIfD (tOr (tAn (tTru (tV 9)) (tNt (tTru (tB2 oIx (tB2 oIx (tV 0) (tK (.int 1))) (tK (.int 2)))))) (tTB (tB2 oNotIn (tV 6) (tLsR1 (tConsA (tB2 oAdd (tB2 oIx (tB2 oIx (tV 0) (tK (.int 1))) (tK (.int 0))) (tK (.int 1))) tNilA))))) (tRt (tK (.bl false))) tNx) (tSq (tIfD (tTB (tB2 oEq (tV 6) (tK (.int 0)))) (tRt (tAnV (tB2 oEq (tV 7) (tK (.int 0))) (tAnV (tB2 oEq (tV 8) (tK (.int 0))) (tB2 oLe (tCa cAbs (tConsA (tV 5) tNilA)) (tV 2))))) tNx) (tRt (tAnV (tB2 oIn (tV 8) (tLstD (tConsA (tK (.int 0)) (tConsA (tV 6) tNilA)))) (tB2 oIn (tV 7) (tLsR2 (tConsA (tK (.int 1)) (tConsA (tB2 oAdd (tV 3) (tK (.int 1))) tNilA)))))))))))))
abbrev n_law_good_stand : Nat := 12
/-- _law_bent: 0 spring, 1 value, 2 at, 3 way, 4 some -/
def t_law_bent (m : Nat) : tS := (tSq (tIfD (tAn (tTru (tCa cIsi (tConsA (tV 1) (tConsA (tK (.ty "tuple")) tNilA)))) (tAn (tTB (tB2 oNe (tV 1) (tTupD tNilA))) (tTB (tB2 oGt (tCaM 2 F_law_pick (tConsA (tV 0) (tConsA (tK (.int 6)) tNilA))) (tK (.int 0)))))) (tSq (tP2 2 3 (tConsA (tCaM 2 F_law_pick (tConsA (tV 0) (tConsA (tCa cLen (tConsA (tV 1) tNilA)) tNilA))) (tConsA (tCaM 2 F_law_pick (tConsA (tV 0) (tConsA (tK (.int 8)) tNilA))) tNilA))) (tSq (tIfD (tTB (tB2 oEq (tV 3) (tK (.int 0)))) (tRt (tB2 oAdd (tSlD (tV 1) tNoP (tSomeP (tV 2))) (tSlD (tV 1) (tSomeP (tB2 oAdd (tV 2) (tK (.int 1)))) tNoP))) tNx) (tSq (tIfD (tTB (tB2 oEq (tV 3) (tK (.int 1)))) (tRt (tB2 oAdd (tB2 oAdd (tSlD (tV 1) tNoP (tSomeP (tV 2))) (tSlD (tV 1) (tSomeP (tV 2)) (tSomeP (tB2 oAdd (tV 2) (tK (.int 1)))))) (tSlD (tV 1) (tSomeP (tV 2)) tNoP))) tNx) (tSq (tIfD (tTB (tB2 oEq (tV 3) (tK (.int 2)))) (tRt (tRev (tV 1))) tNx) (tRt (tB2 oAdd (tB2 oAdd (tSlD (tV 1) tNoP (tSomeP (tV 2))) (tTupD (tConsA (tCaM 2 (F_law_bent m) (tConsA (tV 0) (tConsA (tB2 oIx (tV 1) (tV 2)) tNilA))) tNilA))) (tSlD (tV 1) (tSomeP (tB2 oAdd (tV 2) (tK (.int 1)))) tNoP))))))) tNx) (tSq (tSt (tLstD (tConsA (tK .non) (tConsA (tK (.bl true)) (tConsA (tK (.bl false)) (tConsA (tK (.int 0)) (tConsA (tK (.int 1)) (tConsA (tK (.int 2)) (tConsA (tK (.int 3)) (tConsA (tK (.int 4)) (tConsA (tB1 oNeg (tK (.int 1))) (tConsA (tB1 oNeg (tK (.int 2))) (tConsA (tK (.int 20)) (tConsA (tK (.int 21)) (tConsA (tB1 oNeg (tK (.int 20))) (tConsA (tB1 oNeg (tK (.int 21))) (tConsA (tB2 oPow (tK (.int 10)) (tK (.int 30))) (tConsA (tK (.str "")) (tConsA (tK (.str "each")) (tConsA (tK (.str "sum")) tNilA))))))))))))))))))) 4) (tSq (tSt (tB2 oAdd (tV 4) (tLstD (tConsA (tTupD tNilA) (tConsA (tLstD tNilA) (tConsA (tTupD (tConsA (tK (.int 0)) (tConsA (tK (.int 1)) (tConsA (tK (.str "each")) tNilA)))) (tConsA (tTupD (tConsA (tK (.int 1)) (tConsA (tK (.int 0)) (tConsA (tK (.bl false)) tNilA)))) (tConsA (tTupD (tConsA (tK (.int 0)) (tConsA (tK (.int 0)) (tConsA (tK (.int 0)) (tConsA (tK (.int 0)) (tConsA (tK (.bl false)) (tConsA (tK (.bl true)) tNilA))))))) tNilA))))))) 4) (tRt (tB2 oIx (tV 4) (tCaM 2 F_law_pick (tConsA (tV 0) (tConsA (tCa cLen (tConsA (tV 4) tNilA)) tNilA))))))))
abbrev n_law_bent : Nat := 5

/-! ### small facts -/
mutual
theorem fit_low : ∀ (d : D) (n m : Nat), fitD n d = true → lowD m d
  | .non, _, _, _ => by simp only [lowD]
  | .bl _, _, _, _ => by simp only [lowD]
  | .int _, _, _, _ => by simp only [lowD]
  | .str _, _, _, _ => by simp only [lowD]
  | .tup xs, n, m, h => by
    obtain ⟨k, rfl, h'⟩ := fitD_tup h
    simp only [lowD]; exact fit_lows xs k m h'
  | .lst xs, n, m, h => by
    obtain ⟨k, rfl, h'⟩ := fitD_lst h
    simp only [lowD]; exact fit_lows xs k m h'
  | .dct _ _, n, _, h => by cases n <;> simp [fitD] at h
  | .ob _, n, _, h => by cases n <;> simp [fitD] at h
  | .adr _, _, _, _ => by simp only [lowD]
  | .ty _, _, _, _ => by simp only [lowD]
theorem fit_lows : ∀ (xs : List D) (n m : Nat), (∀ x ∈ xs, fitD n x = true) → lowDs m xs
  | [], _, _, _ => by simp only [lowDs]
  | x :: xs, n, m, h => by
    simp only [lowDs]
    exact ⟨fit_low x n m (h x List.mem_cons_self), fit_lows xs n m fun y hy => h y (List.mem_cons_of_mem _ hy)⟩
end
mutual
theorem fit_mono : ∀ (d : D) (n m : Nat), n ≤ m → fitD n d = true → fitD m d = true
  | .non, _, _, _, _ => by simp [fitD]
  | .bl _, _, _, _, _ => by simp [fitD]
  | .int _, _, _, _, _ => by simp [fitD]
  | .str x, n, m, _, h => by
    have h' : PyData.strOk x = true := by cases n <;> simpa [fitD] using h
    cases m <;> simpa [fitD] using h'
  | .tup xs, n, m, hl, h => by
    obtain ⟨k, rfl, h'⟩ := fitD_tup h
    cases m with
    | zero => omega
    | succ m => simp only [fitD, List.all_eq_true]; exact fit_monos xs k m (by omega) h'
  | .lst xs, n, m, hl, h => by
    obtain ⟨k, rfl, h'⟩ := fitD_lst h
    cases m with
    | zero => omega
    | succ m => simp only [fitD, List.all_eq_true]; exact fit_monos xs k m (by omega) h'
  | .dct _ _, n, _, _, h => by cases n <;> simp [fitD] at h
  | .ob _, n, _, _, h => by cases n <;> simp [fitD] at h
  | .adr _, n, _, _, h => by cases n <;> simp [fitD] at h
  | .ty _, n, _, _, h => by cases n <;> simp [fitD] at h
theorem fit_monos : ∀ (xs : List D) (n m : Nat), n ≤ m → (∀ x ∈ xs, fitD n x = true) → ∀ x ∈ xs, fitD m x = true
  | [], _, _, _, _ => fun _ h => nomatch h
  | x :: xs, n, m, hl, h => fun y hy => by
    rcases List.mem_cons.mp hy with e | hy
    · rw [e]; exact fit_mono x n m hl (h x List.mem_cons_self)
    · exact fit_monos xs n m hl (fun z hz => h z (List.mem_cons_of_mem _ hz)) y hy
end
theorem fit_nodct {n : Nat} {ks vs : List D} : fitD n (.dct ks vs) = true → False := by cases n <;> simp [fitD]
theorem fit_noob {n k : Nat} : fitD n (.ob k) = true → False := by cases n <;> simp [fitD]
theorem fit_noadr {n : Nat} {a : Addr} : fitD n (.adr a) = true → False := by cases n <;> simp [fitD]
theorem fit_noty {n : Nat} {a : String} : fitD n (.ty a) = true → False := by cases n <;> simp [fitD]
theorem fit_tup {n : Nat} {xs : List D} (h : fitD (n + 1) (.tup xs) = true) : ∀ x ∈ xs, fitD n x = true := by simpa [fitD] using h
/-- the built-in type of data -/
def tyF : D → String
  | .non => "NoneType"
  | .bl _ => "bool"
  | .int _ => "int"
  | .str _ => "str"
  | .lst _ => "list"
  | .tup _ => "tuple"
  | _ => "?"
def isIntB : D → Bool
  | .int _ => true
  | .bl _ => true
  | _ => false
def isTupB : D → Bool
  | .tup _ => true
  | _ => false
def isLstB : D → Bool
  | .lst _ => true
  | _ => false
def isStrB : D → Bool
  | .str _ => true
  | _ => false
theorem tyD_fit {n : Nat} {d : D} {L : Sto} (h : fitD n d = true) : tyD L d = some (tyF d) := by
  unfold tyD
  rw [fit_view h]
  cases d with
  | dct _ _ => exact (fit_nodct h).elim
  | ob _ => exact (fit_noob h).elim
  | adr _ => exact (fit_noadr h).elim
  | ty _ => exact (fit_noty h).elim
  | _ => rfl
theorem u_isi {d : D} {c : String} {L : Sto} {R : QE} (f : fitD 40 d = true) (hc : c ∈ (["bool", "int", "str", "list", "tuple"] : List String)) (r : R (.bl (isTy (tyF d) c)) L) : cIsi [d, .ty c] L R := by
  show isiD L d (.ty c) R
  unfold isiD
  rw [tyD_fit f]
  exact ⟨hc, r⟩
theorem u_isB {d : D} {L : Sto} {R : QE} (f : fitD 40 d = true) (r : R (.bl (isBoolB d)) L) : cIsi [d, .ty "bool"] L R := u_isi f (by decide) (by
  have e : isTy (tyF d) "bool" = isBoolB d := by cases d <;> rfl
  rw [e]; exact r)
theorem u_isI {d : D} {L : Sto} {R : QE} (f : fitD 40 d = true) (r : R (.bl (isIntB d)) L) : cIsi [d, .ty "int"] L R := u_isi f (by decide) (by
  have e : isTy (tyF d) "int" = isIntB d := by cases d <;> rfl
  rw [e]; exact r)
theorem u_isT {d : D} {L : Sto} {R : QE} (f : fitD 40 d = true) (r : R (.bl (isTupB d)) L) : cIsi [d, .ty "tuple"] L R := u_isi f (by decide) (by
  have e : isTy (tyF d) "tuple" = isTupB d := by cases d <;> rfl
  rw [e]; exact r)
theorem u_isS {d : D} {L : Sto} {R : QE} (f : fitD 40 d = true) (r : R (.bl (isStrB d)) L) : cIsi [d, .ty "str"] L R := u_isi f (by decide) (by
  have e : isTy (tyF d) "str" = isStrB d := by cases d <;> rfl
  rw [e]; exact r)
theorem u_isL {d : D} {L : Sto} {R : QE} (f : fitD 40 d = true) (r : R (.bl (isLstB d)) L) : cIsi [d, .ty "list"] L R := u_isi f (by decide) (by
  have e : isTy (tyF d) "list" = isLstB d := by cases d <;> rfl
  rw [e]; exact r)
theorem u_isLT {d : D} {L : Sto} {R : QE} (f : fitD 40 d = true) (r : R (.bl (isLstB d || isTupB d)) L) : cIsi2 [d, .tup [.ty "list", .ty "tuple"]] L R := by
  show isiD2 L d (.tup [.ty "list", .ty "tuple"]) R
  unfold isiD2
  rw [tyD_fit f]
  refine ⟨⟨by decide, by decide⟩, ?_⟩
  have e : (isTy (tyF d) "list" || isTy (tyF d) "tuple") = (isLstB d || isTupB d) := by cases d <;> rfl
  rw [e]; exact r
theorem rB {R : QE} {L : Sto} {a b : Bool} (r : R (.bl a) L) (e : b = a) : R (.bl b) L := by rw [e]; exact r
theorem within_fit {v : D} {lo hi : Int} (h : isWithinB v lo hi = true) : ∃ i, v = .int i ∧ lo ≤ i ∧ i ≤ hi := by
  cases v with
  | int i => simp [isWithinB] at h; exact ⟨i, rfl, h⟩
  | _ => simp [isWithinB] at h
theorem bool_fit {v : D} (h : isBoolB v = true) : ∃ i, v = .bl i := by
  cases v with
  | bl i => exact ⟨i, rfl⟩
  | _ => simp [isBoolB] at h
theorem row_fit {v : D} {n : Int} (h : isRowB v n = true) : ∃ xs, v = .tup xs ∧ (xs.length : Int) = n := by
  cases v with
  | tup xs => simp [isRowB] at h; exact ⟨xs, rfl, h⟩
  | _ => simp [isRowB] at h
theorem str_fit {v : D} (h : isStrB v = true) : ∃ s, v = .str s := by
  cases v with
  | str s => exact ⟨s, rfl⟩
  | _ => simp [isStrB] at h

/-! ### promises used -/
section
variable {R : QE} {RE : QX} {v x a b : D} {lo hi n : Int} {P : Pl} {S : Sd} {m : Nat}
theorem u_is_within (f : fitD 30 v = true) (r : R (.bl (isWithinB v lo hi)) []) : F_is_within [v, .int lo, .int hi] [] R RE := ⟨rfl, v, lo, hi, rfl, f, r⟩
theorem u_law_int (f : fitD 30 v = true) (r : R (.bl (isWithinB v lo hi)) []) : F_law_int [v, .int lo, .int hi] [] R RE := ⟨rfl, v, lo, hi, rfl, f, r⟩
theorem u_is_row (f : fitD 30 v = true) (r : R (.bl (isRowB v n)) []) : F_is_row [v, .int n] [] R RE := ⟨rfl, v, n, rfl, f, r⟩
theorem u_law_made (f : fitD 30 v = true) (r : R (.bl (isRowB v n)) []) : F_law_made [v, .int n] [] R RE := ⟨rfl, v, n, rfl, f, r⟩
theorem u_is_program (f : fitD 30 v = true) (r : R (.bl (isProgramB v)) []) : F_is_program [v] [] R RE := ⟨rfl, v, rfl, f, r⟩
theorem u_law_good_program (f : fitD 30 v = true) (r : R (.bl (isProgramB v)) []) : F_law_good_program [v] [] R RE := ⟨rfl, v, rfl, f, r⟩
theorem u_is_plan (f : fitD 30 v = true) (r : R (.bl (isPlanB v)) []) : F_is_plan [v] [] R RE := ⟨rfl, v, rfl, f, r⟩
theorem u_law_good_plan (f : fitD 30 v = true) (r : R (.bl (isPlanB v)) []) : F_law_good_plan [v] [] R RE := ⟨rfl, v, rfl, f, r⟩
theorem u_law_kind (f : fitD 30 v = true) (r : R (.int (kindD v)) []) : F_law_kind [v] [] R RE := ⟨rfl, v, rfl, f, r⟩
end

/-! springs -/
section
variable {a m k : Int} {R : QE} {L pre : Sto} {j : Nat}
theorem u_pickM (o : O) (hs : ∃ a m, o = spr a m) (hj : L[j]? = some o) (h1 : 0 < k) (h2 : k < 2 ^ 64) (h : ∀ (i a m : Int), 0 ≤ i → i < k → R (.int i) (L.set j (spr a m))) : caM 2 F_law_pick R [.ob j, .int k] L := by
  obtain ⟨a, m, rfl⟩ := hs
  exact i_caM hj rfl ⟨trivial, trivial⟩ (by intro z; cases z) ⟨trivial, trivial, trivial⟩ ⟨rfl, ⟨a, m, rfl⟩, k, rfl, h1, h2, fun i a m h3 h4 => ⟨trivial, ⟨trivial, trivial, trivial⟩, h i a m h3 h4⟩⟩
theorem u_pick0 (h1 : 0 < k) (h2 : k < 2 ^ 64) (h : ∀ (i a m : Int), 0 ≤ i → i < k → R (.int i) [spr a m]) : caM 2 F_law_pick R [.ob 0, .int k] [spr a m] := u_pickM _ ⟨a, m, rfl⟩ rfl h1 h2 h
theorem u_pickG (hj : j = pre.length) (h1 : 0 < k) (h2 : k < 2 ^ 64) (h : ∀ (i a m : Int), 0 ≤ i → i < k → R (.int i) (pre ++ [spr a m])) : caM 2 F_law_pick R [.ob j, .int k] (pre ++ [spr a m]) := by
  subst hj
  refine u_pickM (spr a m) ⟨a, m, rfl⟩ (by rw [List.getElem?_concat_length]) h1 h2 fun i a' m' h3 h4 => ?_
  have e : (pre ++ [spr a m]).set pre.length (spr a' m') = pre ++ [spr a' m'] := by simp
  rw [e]; exact h i a' m' h3 h4
end
section
local macro_rules | `(tactic| walk_at "d") => `(tactic| (first
  | with_reducible refine Stp.go ?_
  | with_reducible refine And.intro ?_ ?_
  | with_reducible refine fun _ => ?_
  | ((with_reducible refine s_iteY ?_); refine And.intro rfl ?_)
  | ((with_reducible refine s_iteN ?_); refine And.intro rfl ?_)
  | with_reducible refine iteB (fun _ => ?_) (fun _ => ?_)
  | with_reducible refine i_eq ?_ ?_ ?_
  | with_reducible refine i_ne ?_ ?_ ?_
  | with_reducible refine rtp ?_ ?_
  | with_reducible refine u_isB ?_ ?_
  | with_reducible refine u_isI ?_ ?_
  | with_reducible refine u_isT ?_ ?_
  | with_reducible refine u_isS ?_ ?_
  | with_reducible refine u_isL ?_ ?_
  | with_reducible refine u_isLT ?_ ?_
  | with_reducible refine u_is_within ?_ ?_
  | with_reducible refine u_law_int ?_ ?_
  | with_reducible refine u_is_row ?_ ?_
  | with_reducible refine u_law_made ?_ ?_
  | with_reducible refine u_is_program ?_ ?_
  | with_reducible refine u_law_good_program ?_ ?_
  | with_reducible refine u_is_plan ?_ ?_
  | with_reducible refine u_law_good_plan ?_ ?_
  | with_reducible refine u_law_kind ?_ ?_
  | with_reducible refine u_pick0 ?_ ?_ ?_
  | with_reducible refine u_pickG ?_ ?_ ?_ ?_
  | with_reducible refine rtm3 ?_ ?_ ?_
  | ((with_reducible refine s_sLst ?_); refine Exists.intro _ (And.intro rfl (Exists.intro _ (And.intro rfl (Exists.intro _ (And.intro (by simp only [List.set_cons_zero, List.set_cons_succ]; rfl) ?_))))))
  | with_reducible refine i_oIC ?_ ?_
  | with_reducible refine i_addS ?_ ?_
  | with_reducible refine i_addT ?_ ?_
  | with_reducible refine i_addL ?_ ?_
  | with_reducible refine i_trS ?_ ?_
  | with_reducible refine i_lenS ?_ ?_
  | with_reducible refine i_slS ?_ ?_
  | with_reducible refine i_r1Q ?_ ?_
  | with_reducible refine i_r2Q ?_ ?_
  | with_reducible refine i_lsR1Q ?_ ?_
  | with_reducible refine i_lsR2Q ?_ ?_
  | with_reducible refine i_inT ?_ ?_ ?_
  | with_reducible refine i_inL ?_ ?_ ?_
  | with_reducible refine i_ninT ?_ ?_ ?_
  | with_reducible refine i_ninL ?_ ?_ ?_
  | ((with_reducible refine s_tV ?_); refine Exists.intro _ (And.intro rfl ?_))
  | ((with_reducible refine s_ixT ?_); refine Exists.intro _ (And.intro rfl ?_))
  | ((with_reducible refine s_gNm ?_); refine Exists.intro _ (And.intro (by simp only [wipeD, setsD, List.set_cons_zero, List.set_cons_succ]; rfl) ?_))
  | ((with_reducible refine s_stQ ?_); refine Exists.intro _ (And.intro (by simp only [wipeD, setsD, List.set_cons_zero, List.set_cons_succ]; rfl) ?_))
  | ((with_reducible refine s_c1 ?_); refine Exists.intro _ (And.intro (by simp only [wipeD, setsD, List.set_cons_zero, List.set_cons_succ]; rfl) ?_))
  | ((with_reducible refine s_p2 ?_); refine Exists.intro _ (And.intro (by simp only [wipeD, setsD, List.set_cons_zero, List.set_cons_succ]; rfl) ?_))
  | ((with_reducible refine s_p3 ?_); refine Exists.intro _ (And.intro (by simp only [wipeD, setsD, List.set_cons_zero, List.set_cons_succ]; rfl) ?_))
  | ((with_reducible refine s_cN' ?_); refine And.intro rfl (Exists.intro _ (And.intro (by simp only [wipeD, setsD, List.set_cons_zero, List.set_cons_succ]; rfl) ?_)))
  | ((with_reducible refine s_ixL ?_); refine Exists.intro _ (And.intro rfl ?_))
  | ((with_reducible refine s_trO ?_); refine Exists.intro _ (And.intro rfl ?_))
  | ((with_reducible refine s_lenO ?_); refine Exists.intro _ (And.intro rfl ?_))
  | ((with_reducible refine s_listO ?_); refine Exists.intro _ (And.intro rfl ?_))
  | ((with_reducible refine s_ixO ?_); refine Exists.intro _ (And.intro rfl (Exists.intro _ (And.intro rfl ?_))))
  | ((with_reducible refine s_app1 ?_); refine And.intro rfl ?_)
  | ((with_reducible refine s_cN ?_); refine And.intro rfl ?_)
  | ((with_reducible refine s_dgtY ?_); refine Exists.intro _ (And.intro rfl ?_))
  | ((with_reducible refine i_dgtN ?_ ?_); exact rfl)))
local macro_rules | `(tactic| walk_at "ds") => `(tactic| ((try simp only [startD, List.map_cons, List.map_nil, List.length_cons, List.length_nil, List.replicate, Nat.reduceAdd, Nat.reduceSub, List.cons_append, List.nil_append]); repeat' walk_at "d"))
/-- side conditions -/
local macro_rules | `(tactic| walk_at "e") => `(tactic| (first
  | with_reducible assumption
  | ((with_reducible show fitD _ _ = true); (first | rfl | decide +kernel | (exact fit_mono _ 30 _ (by decide) (by assumption))))
  | ((with_reducible show lowDs _ _); (repeat' first | trivial | (exact fit_low _ 30 _ (by assumption)) | refine And.intro ?_ ?_); done)
  | ((with_reducible show lowO _ _); (show lowDs _ _); (repeat' first | trivial | (exact fit_low _ 30 _ (by assumption)) | refine And.intro ?_ ?_); done)
  | ((with_reducible show (_ : Int) < _); (first | decide | omega))
  | ((with_reducible show (_ : Int) ≤ _); (first | decide | omega))
  | ((with_reducible show lowD _ _); (first | trivial | (exact fit_low _ 30 _ (by assumption))))
  | ((with_reducible show List.length _ = _); simp; done)
  | ((with_reducible show _ ≤ sizeLine); rw [sizeLine_eq]; simp; done)
  | ((with_reducible show List.all _ _ = true); (first | rfl | decide +kernel | (simp [fitD]; done)))
  | skip))
local macro_rules | `(tactic| walk_at "de") => `(tactic| (walk_at "ds" <;> walk_at "e"))

theorem rd_is_within (ds : List D) (R : QE) (h : ∃ v lo hi, ds = [v, .int lo, .int hi] ∧ fitD 30 v = true ∧ R (.bl (isWithinB v lo hi)) []) : t_is_within (endP R) (startD 3 ds) [] := by
  obtain ⟨v, lo, hi, rfl, f, r⟩ := h
  unfold t_is_within
  cases v <;> walk_at "de"
  all_goals (refine rB r ?_; clear r; simp_all [isWithinB, isIntB, isBoolB] <;> omega)
theorem rd_law_int (ds : List D) (R : QE) (h : ∃ v lo hi, ds = [v, .int lo, .int hi] ∧ fitD 30 v = true ∧ R (.bl (isWithinB v lo hi)) []) : t_law_int (endP R) (startD 3 ds) [] := rd_is_within ds R h
theorem rd_is_row (ds : List D) (R : QE) (h : ∃ v n, ds = [v, .int n] ∧ fitD 30 v = true ∧ R (.bl (isRowB v n)) []) : t_is_row (endP R) (startD 2 ds) [] := by
  obtain ⟨v, n, rfl, f, r⟩ := h
  unfold t_is_row
  cases v <;> walk_at "de"
  all_goals (refine rB r ?_; clear r; simp_all [isRowB, isTupB, eqD]; done)
theorem rd_law_made (ds : List D) (R : QE) (h : ∃ v n, ds = [v, .int n] ∧ fitD 30 v = true ∧ R (.bl (isRowB v n)) []) : t_law_made (endP R) (startD 2 ds) [] := rd_is_row ds R h
theorem row2 (v : D) : (∃ a b, v = .tup [a, b]) ∨ isRowB v 2 = false := by
  cases v with
  | tup xs =>
    match xs with
    | [a, b] => exact .inl ⟨a, b, rfl⟩
    | [] => exact .inr rfl
    | [_] => exact .inr rfl
    | _ :: _ :: _ :: r => right; unfold isRowB; simp; omega
  | _ => exact .inr rfl
theorem row3 (v : D) : (∃ a b c, v = .tup [a, b, c]) ∨ isRowB v 3 = false := by
  cases v with
  | tup xs =>
    match xs with
    | [a, b, c] => exact .inl ⟨a, b, c, rfl⟩
    | [] => exact .inr rfl
    | [_] => exact .inr rfl
    | [_, _] => exact .inr rfl
    | _ :: _ :: _ :: _ :: r => right; unfold isRowB; simp; omega
  | _ => exact .inr rfl
theorem row6 (v : D) : (∃ a b c d e f, v = .tup [a, b, c, d, e, f]) ∨ isRowB v 6 = false := by
  cases v with
  | tup xs =>
    match xs with
    | [a, b, c, d, e, f] => exact .inl ⟨a, b, c, d, e, f, rfl⟩
    | [] => exact .inr rfl
    | [_] => exact .inr rfl
    | [_, _] => exact .inr rfl
    | [_, _, _] => exact .inr rfl
    | [_, _, _, _] => exact .inr rfl
    | [_, _, _, _, _] => exact .inr rfl
    | _ :: _ :: _ :: _ :: _ :: _ :: _ :: r => right; unfold isRowB; simp; omega
  | _ => exact .inr rfl
theorem fit_tup3 {n : Nat} {a b c : D} (h : fitD (n + 1) (.tup [a, b, c]) = true) : fitD n a = true ∧ fitD n b = true ∧ fitD n c = true := by simpa [fitD] using h
theorem fit_tup2 {n : Nat} {a b : D} (h : fitD (n + 1) (.tup [a, b]) = true) : fitD n a = true ∧ fitD n b = true := by simpa [fitD] using h
theorem prog_row {v : D} (h : isRowB v 3 = false) : isProgramB v = false := by
  unfold isProgramB
  split
  · cases h
  · rfl
theorem plan_row {v : D} (h : isRowB v 2 = false) : isPlanB v = false := by
  unfold isPlanB
  split
  · cases h
  · rfl
theorem way_str {v : D} (h : isStrB v = false) : isWayB v = false := by
  cases v with
  | str s => cases h
  | _ => rfl
theorem way_in {v : D} : inD v [.str "each", .str "sum"] = isWayB v := by
  cases v with
  | str s => simp [inD, isWayB, eqD, eq_comm]
  | _ => simp [inD, isWayB, eqD]
theorem rd_is_program (ds : List D) (R : QE) (h : ∃ v, ds = [v] ∧ fitD 30 v = true ∧ R (.bl (isProgramB v)) []) : t_is_program (endP R) (startD 1 ds) [] := by
  obtain ⟨v, rfl, f, r⟩ := h
  unfold t_is_program
  rcases row3 v with ⟨a, b, c, rfl⟩ | hr
  · obtain ⟨fa, fb, fc⟩ := fit_tup3 f
    have fa := fit_mono _ _ 30 (by decide) fa
    have fb := fit_mono _ _ 30 (by decide) fb
    have fc := fit_mono _ _ 30 (by decide) fc
    walk_at "de"
    all_goals (first
      | (refine rB r ?_; clear r; rw [way_in]; simp_all [isProgramB]; done)
      | (refine rB r ?_; clear r; simp_all [isProgramB, way_str]; done))
  · walk_at "de"
    all_goals (first | (refine rB r ?_; rw [prog_row hr]; done) | (exfalso; clear r; simp_all; done))
end
end L2.DL

set_option Elab.async false
set_option linter.all false
set_option maxRecDepth 100000
set_option maxHeartbeats 4000000
/-! SC: programs, plans, stands: the readings proved. -/
namespace L2.DL
open PySem PySem.Spec PyProof.Rows

section
local macro_rules | `(tactic| walk_at "d") => `(tactic| (first
  | with_reducible refine Stp.go ?_
  | with_reducible refine And.intro ?_ ?_
  | with_reducible refine fun _ => ?_
  | ((with_reducible refine s_iteY ?_); refine And.intro rfl ?_)
  | ((with_reducible refine s_iteN ?_); refine And.intro rfl ?_)
  | with_reducible refine iteB (fun _ => ?_) (fun _ => ?_)
  | with_reducible refine i_eq ?_ ?_ ?_
  | with_reducible refine i_ne ?_ ?_ ?_
  | with_reducible refine rtp ?_ ?_
  | with_reducible refine u_isB ?_ ?_
  | with_reducible refine u_isI ?_ ?_
  | with_reducible refine u_isT ?_ ?_
  | with_reducible refine u_isS ?_ ?_
  | with_reducible refine u_isL ?_ ?_
  | with_reducible refine u_isLT ?_ ?_
  | with_reducible refine u_is_within ?_ ?_
  | with_reducible refine u_law_int ?_ ?_
  | with_reducible refine u_is_row ?_ ?_
  | with_reducible refine u_law_made ?_ ?_
  | with_reducible refine u_is_program ?_ ?_
  | with_reducible refine u_law_good_program ?_ ?_
  | with_reducible refine u_is_plan ?_ ?_
  | with_reducible refine u_law_good_plan ?_ ?_
  | with_reducible refine u_law_kind ?_ ?_
  | with_reducible refine u_pick0 ?_ ?_ ?_
  | with_reducible refine u_pickG ?_ ?_ ?_ ?_
  | with_reducible refine rtm3 ?_ ?_ ?_
  | ((with_reducible refine s_sLst ?_); refine Exists.intro _ (And.intro rfl (Exists.intro _ (And.intro rfl (Exists.intro _ (And.intro (by simp only [List.set_cons_zero, List.set_cons_succ]; rfl) ?_))))))
  | with_reducible refine i_oIC ?_ ?_
  | with_reducible refine i_addS ?_ ?_
  | with_reducible refine i_addT ?_ ?_
  | with_reducible refine i_addL ?_ ?_
  | with_reducible refine i_trS ?_ ?_
  | with_reducible refine i_lenS ?_ ?_
  | with_reducible refine i_slS ?_ ?_
  | with_reducible refine i_r1Q ?_ ?_
  | with_reducible refine i_r2Q ?_ ?_
  | with_reducible refine i_lsR1Q ?_ ?_
  | with_reducible refine i_lsR2Q ?_ ?_
  | with_reducible refine i_inT ?_ ?_ ?_
  | with_reducible refine i_inL ?_ ?_ ?_
  | with_reducible refine i_ninT ?_ ?_ ?_
  | with_reducible refine i_ninL ?_ ?_ ?_
  | ((with_reducible refine s_tV ?_); refine Exists.intro _ (And.intro rfl ?_))
  | ((with_reducible refine s_ixT ?_); refine Exists.intro _ (And.intro rfl ?_))
  | ((with_reducible refine s_gNm ?_); refine Exists.intro _ (And.intro (by simp only [wipeD, setsD, List.set_cons_zero, List.set_cons_succ]; rfl) ?_))
  | ((with_reducible refine s_stQ ?_); refine Exists.intro _ (And.intro (by simp only [wipeD, setsD, List.set_cons_zero, List.set_cons_succ]; rfl) ?_))
  | ((with_reducible refine s_c1 ?_); refine Exists.intro _ (And.intro (by simp only [wipeD, setsD, List.set_cons_zero, List.set_cons_succ]; rfl) ?_))
  | ((with_reducible refine s_p2 ?_); refine Exists.intro _ (And.intro (by simp only [wipeD, setsD, List.set_cons_zero, List.set_cons_succ]; rfl) ?_))
  | ((with_reducible refine s_p3 ?_); refine Exists.intro _ (And.intro (by simp only [wipeD, setsD, List.set_cons_zero, List.set_cons_succ]; rfl) ?_))
  | ((with_reducible refine s_cN' ?_); refine And.intro rfl (Exists.intro _ (And.intro (by simp only [wipeD, setsD, List.set_cons_zero, List.set_cons_succ]; rfl) ?_)))
  | ((with_reducible refine s_ixL ?_); refine Exists.intro _ (And.intro rfl ?_))
  | ((with_reducible refine s_trO ?_); refine Exists.intro _ (And.intro rfl ?_))
  | ((with_reducible refine s_lenO ?_); refine Exists.intro _ (And.intro rfl ?_))
  | ((with_reducible refine s_listO ?_); refine Exists.intro _ (And.intro rfl ?_))
  | ((with_reducible refine s_ixO ?_); refine Exists.intro _ (And.intro rfl (Exists.intro _ (And.intro rfl ?_))))
  | ((with_reducible refine s_app1 ?_); refine And.intro rfl ?_)
  | ((with_reducible refine s_cN ?_); refine And.intro rfl ?_)
  | ((with_reducible refine s_dgtY ?_); refine Exists.intro _ (And.intro rfl ?_))
  | ((with_reducible refine i_dgtN ?_ ?_); exact rfl)))
local macro_rules | `(tactic| walk_at "ds") => `(tactic| ((try simp only [startD, List.map_cons, List.map_nil, List.length_cons, List.length_nil, List.replicate, Nat.reduceAdd, Nat.reduceSub, List.cons_append, List.nil_append]); repeat' walk_at "d"))
/-- side conditions -/
local macro_rules | `(tactic| walk_at "e") => `(tactic| (first
  | with_reducible assumption
  | ((with_reducible show fitD _ _ = true); (first | rfl | decide +kernel | (exact fit_mono _ 30 _ (by decide) (by assumption))))
  | ((with_reducible show lowDs _ _); (repeat' first | trivial | (exact fit_low _ 30 _ (by assumption)) | refine And.intro ?_ ?_); done)
  | ((with_reducible show lowO _ _); (show lowDs _ _); (repeat' first | trivial | (exact fit_low _ 30 _ (by assumption)) | refine And.intro ?_ ?_); done)
  | ((with_reducible show (_ : Int) < _); (first | decide | omega))
  | ((with_reducible show (_ : Int) ≤ _); (first | decide | omega))
  | ((with_reducible show lowD _ _); (first | trivial | (exact fit_low _ 30 _ (by assumption))))
  | ((with_reducible show List.length _ = _); simp; done)
  | ((with_reducible show _ ≤ sizeLine); rw [sizeLine_eq]; simp; done)
  | ((with_reducible show List.all _ _ = true); (first | rfl | decide +kernel | (simp [fitD]; done)))
  | skip))
local macro_rules | `(tactic| walk_at "de") => `(tactic| (walk_at "ds" <;> walk_at "e"))


theorem rd_is_plan (ds : List D) (R : QE) (h : ∃ v, ds = [v] ∧ fitD 30 v = true ∧ R (.bl (isPlanB v)) []) : t_is_plan (endP R) (startD 4 ds) [] := by
  obtain ⟨v, rfl, f, r⟩ := h
  unfold t_is_plan
  rcases row2 v with ⟨a, b, rfl⟩ | hr
  · obtain ⟨fa, fb⟩ := fit_tup2 f
    have fa := fit_mono _ _ 30 (by decide) fa
    rcases row3 b with ⟨b1, b2, b3, rfl⟩ | hr
    · obtain ⟨f1, f2, f3⟩ := fit_tup3 fb
      have fb := fit_mono _ _ 30 (by decide) fb
      have f1 := fit_mono _ _ 30 (by decide) f1
      have f2 := fit_mono _ _ 30 (by decide) f2
      have f3 := fit_mono _ _ 30 (by decide) f3
      walk_at "de"
      all_goals (first
        | (refine rB r ?_; clear r; simp_all [isPlanB]; done))
    · have fb := fit_mono _ _ 30 (by decide) fb
      have e : isPlanB (.tup [a, b]) = false := by
        unfold isPlanB
        split
        · rename_i h; cases h; cases hr
        · rfl
      walk_at "de"
      all_goals (first
        | (refine rB r ?_; rw [e]; done)
        | (exfalso; clear r; simp_all; done))
  · walk_at "de"
    all_goals (first | (refine rB r ?_; rw [plan_row hr]; done) | (exfalso; clear r; simp_all; done))
theorem rd_law_good_program (ds : List D) (R : QE) (h : ∃ v, ds = [v] ∧ fitD 30 v = true ∧ R (.bl (isProgramB v)) []) : t_law_good_program (endP R) (startD 1 ds) [] := by
  obtain ⟨v, rfl, f, r⟩ := h
  unfold t_law_good_program
  rcases row3 v with ⟨a, b, c, rfl⟩ | hr
  · obtain ⟨fa, fb, fc⟩ := fit_tup3 f
    have fa := fit_mono _ _ 30 (by decide) fa
    have fb := fit_mono _ _ 30 (by decide) fb
    have fc := fit_mono _ _ 30 (by decide) fc
    walk_at "de"
    all_goals (first
      | (refine rB r ?_; clear r; simp_all [isProgramB, way_str, way_in]; done))
  · walk_at "de"
    all_goals (first | (refine rB r ?_; rw [prog_row hr]; done) | (exfalso; clear r; simp_all; done))
theorem rd_law_good_plan (ds : List D) (R : QE) (h : ∃ v, ds = [v] ∧ fitD 30 v = true ∧ R (.bl (isPlanB v)) []) : t_law_good_plan (endP R) (startD 1 ds) [] := by
  obtain ⟨v, rfl, f, r⟩ := h
  unfold t_law_good_plan
  rcases row2 v with ⟨a, b, rfl⟩ | hr
  · obtain ⟨fa, fb⟩ := fit_tup2 f
    have fa := fit_mono _ _ 30 (by decide) fa
    rcases row3 b with ⟨b1, b2, b3, rfl⟩ | hr
    · obtain ⟨f1, f2, f3⟩ := fit_tup3 fb
      have fb := fit_mono _ _ 30 (by decide) fb
      have f1 := fit_mono _ _ 30 (by decide) f1
      have f2 := fit_mono _ _ 30 (by decide) f2
      have f3 := fit_mono _ _ 30 (by decide) f3
      walk_at "de"
      all_goals (first
        | (refine rB r ?_; clear r; simp_all [isPlanB]; done))
    · have fb := fit_mono _ _ 30 (by decide) fb
      have e : isPlanB (.tup [a, b]) = false := by
        unfold isPlanB
        split
        · rename_i h; cases h; cases hr
        · rfl
      walk_at "de"
      all_goals (first
        | (refine rB r ?_; rw [e]; done)
        | (exfalso; clear r; simp_all; done))
  · walk_at "de"
    all_goals (first | (refine rB r ?_; rw [plan_row hr]; done) | (exfalso; clear r; simp_all; done))
theorem Pl.prog_ok {P : Pl} (h : P.ok) : isProgramB P.prog = true := by
  obtain ⟨h1, h2, h3, h4, _⟩ := h
  unfold Pl.prog isProgramB
  cases P.each <;> simp [isWithinB, wayD, isWayB, h1, h2, h3, h4]
theorem Pl.plan_ok {P : Pl} (h : P.ok) : isPlanB P.d = true := by
  have h0 := Pl.prog_ok h
  obtain ⟨_, _, _, _, h1, h2, h3, h4⟩ := h
  unfold Pl.d Pl.world isPlanB
  simp [h0, isWithinB, isBoolB, h1, h2, h3, h4]
theorem Pl.fit {P : Pl} : fitD 30 P.d = true := by
  unfold Pl.d Pl.world Pl.prog
  cases P.each <;> simp [fitD, wayD, PyData.strOk] <;> decide +kernel
theorem u_look {P : Pl} {R : QE} {RE : QX} (h : P.ok) (r : R .non []) : F_look_at_plan [P.d] [] R RE := ⟨rfl, P, rfl, h, r⟩
theorem rd_look_at_plan (ds : List D) (R : QE) (h : ∃ P : Pl, ds = [P.d] ∧ P.ok ∧ R .non []) : t_look_at_plan (endP R) (startD 1 ds) [] := by
  obtain ⟨P, rfl, hP, r⟩ := h
  have f := P.fit
  have e := Pl.plan_ok hP
  unfold t_look_at_plan
  walk_at "de"
  all_goals (exfalso; clear r; simp_all; done)
theorem Sd.fit {S : Sd} : fitD 30 S.d = true := by simp [fitD]
theorem u_first_stand {P : Pl} {R : QE} {RE : QX} (h : P.ok) (r : R beginS.d []) : F_first_stand [P.d] [] R RE := ⟨rfl, P, rfl, h, r⟩
theorem u_fits {P : Pl} {x : D} {R : QE} {RE : QX} (h : P.ok) (f : fitD 30 x = true) (r : R (.bl (fitsB P x)) []) : F_fits [P.d, x] [] R RE := ⟨rfl, P, x, rfl, h, f, r⟩
theorem low_of {d : D} (f : fitD 30 d = true) : lowD 0 d := fit_low _ 30 _ f
end
section
local macro_rules | `(tactic| walk_at "d") => `(tactic| (first
  | with_reducible refine Stp.go ?_
  | with_reducible refine And.intro ?_ ?_
  | with_reducible refine fun _ => ?_
  | ((with_reducible refine s_iteY ?_); refine And.intro rfl ?_)
  | ((with_reducible refine s_iteN ?_); refine And.intro rfl ?_)
  | with_reducible refine iteB (fun _ => ?_) (fun _ => ?_)
  | with_reducible refine i_eq ?_ ?_ ?_
  | with_reducible refine i_ne ?_ ?_ ?_
  | with_reducible refine rtp ?_ ?_
  | with_reducible refine u_isB ?_ ?_
  | with_reducible refine u_isI ?_ ?_
  | with_reducible refine u_isT ?_ ?_
  | with_reducible refine u_isS ?_ ?_
  | with_reducible refine u_isL ?_ ?_
  | with_reducible refine u_isLT ?_ ?_
  | with_reducible refine u_is_within ?_ ?_
  | with_reducible refine u_law_int ?_ ?_
  | with_reducible refine u_is_row ?_ ?_
  | with_reducible refine u_law_made ?_ ?_
  | with_reducible refine u_is_program ?_ ?_
  | with_reducible refine u_law_good_program ?_ ?_
  | with_reducible refine u_is_plan ?_ ?_
  | with_reducible refine u_law_good_plan ?_ ?_
  | with_reducible refine u_law_kind ?_ ?_
  | with_reducible refine u_pick0 ?_ ?_ ?_
  | with_reducible refine u_pickG ?_ ?_ ?_ ?_
  | with_reducible refine u_look ?_ ?_
  | with_reducible refine u_fits ?_ ?_ ?_
  | with_reducible refine rtm3 ?_ ?_ ?_
  | ((with_reducible refine s_sLst ?_); refine Exists.intro _ (And.intro rfl (Exists.intro _ (And.intro rfl (Exists.intro _ (And.intro (by simp only [List.set_cons_zero, List.set_cons_succ]; rfl) ?_))))))
  | with_reducible refine i_oIC ?_ ?_
  | with_reducible refine i_addS ?_ ?_
  | with_reducible refine i_addT ?_ ?_
  | with_reducible refine i_addL ?_ ?_
  | with_reducible refine i_trS ?_ ?_
  | with_reducible refine i_lenS ?_ ?_
  | with_reducible refine i_slS ?_ ?_
  | with_reducible refine i_r1Q ?_ ?_
  | with_reducible refine i_r2Q ?_ ?_
  | with_reducible refine i_lsR1Q ?_ ?_
  | with_reducible refine i_lsR2Q ?_ ?_
  | with_reducible refine i_inT ?_ ?_ ?_
  | with_reducible refine i_inL ?_ ?_ ?_
  | with_reducible refine i_ninT ?_ ?_ ?_
  | with_reducible refine i_ninL ?_ ?_ ?_
  | ((with_reducible refine s_tV ?_); refine Exists.intro _ (And.intro rfl ?_))
  | ((with_reducible refine s_ixT ?_); refine Exists.intro _ (And.intro rfl ?_))
  | ((with_reducible refine s_gNm ?_); refine Exists.intro _ (And.intro (by simp only [wipeD, setsD, List.set_cons_zero, List.set_cons_succ]; rfl) ?_))
  | ((with_reducible refine s_stQ ?_); refine Exists.intro _ (And.intro (by simp only [wipeD, setsD, List.set_cons_zero, List.set_cons_succ]; rfl) ?_))
  | ((with_reducible refine s_c1 ?_); refine Exists.intro _ (And.intro (by simp only [wipeD, setsD, List.set_cons_zero, List.set_cons_succ]; rfl) ?_))
  | ((with_reducible refine s_p2 ?_); refine Exists.intro _ (And.intro (by simp only [wipeD, setsD, List.set_cons_zero, List.set_cons_succ]; rfl) ?_))
  | ((with_reducible refine s_p3 ?_); refine Exists.intro _ (And.intro (by simp only [wipeD, setsD, List.set_cons_zero, List.set_cons_succ]; rfl) ?_))
  | ((with_reducible refine s_cN' ?_); refine And.intro rfl (Exists.intro _ (And.intro (by simp only [wipeD, setsD, List.set_cons_zero, List.set_cons_succ]; rfl) ?_)))
  | ((with_reducible refine s_ixL ?_); refine Exists.intro _ (And.intro rfl ?_))
  | ((with_reducible refine s_trO ?_); refine Exists.intro _ (And.intro rfl ?_))
  | ((with_reducible refine s_lenO ?_); refine Exists.intro _ (And.intro rfl ?_))
  | ((with_reducible refine s_listO ?_); refine Exists.intro _ (And.intro rfl ?_))
  | ((with_reducible refine s_ixO ?_); refine Exists.intro _ (And.intro rfl (Exists.intro _ (And.intro rfl ?_))))
  | ((with_reducible refine s_app1 ?_); refine And.intro rfl ?_)
  | ((with_reducible refine s_cN ?_); refine And.intro rfl ?_)
  | ((with_reducible refine s_dgtY ?_); refine Exists.intro _ (And.intro rfl ?_))
  | ((with_reducible refine i_dgtN ?_ ?_); exact rfl)))
local macro_rules | `(tactic| walk_at "ds") => `(tactic| ((try simp only [startD, List.map_cons, List.map_nil, List.length_cons, List.length_nil, List.replicate, Nat.reduceAdd, Nat.reduceSub, List.cons_append, List.nil_append]); repeat' walk_at "d"))
/-- side conditions -/
local macro_rules | `(tactic| walk_at "e") => `(tactic| (first
  | with_reducible assumption
  | ((with_reducible show fitD _ _ = true); (first | rfl | decide +kernel | (exact fit_mono _ 30 _ (by decide) (by assumption))))
  | ((with_reducible show lowDs _ _); (repeat' first | trivial | (exact fit_low _ 30 _ (by assumption)) | refine And.intro ?_ ?_); done)
  | ((with_reducible show lowO _ _); (show lowDs _ _); (repeat' first | trivial | (exact fit_low _ 30 _ (by assumption)) | refine And.intro ?_ ?_); done)
  | ((with_reducible show (_ : Int) < _); (first | decide | omega))
  | ((with_reducible show (_ : Int) ≤ _); (first | decide | omega))
  | ((with_reducible show lowD _ _); (first | trivial | (exact fit_low _ 30 _ (by assumption))))
  | ((with_reducible show List.length _ = _); simp; done)
  | ((with_reducible show _ ≤ sizeLine); rw [sizeLine_eq]; simp; done)
  | ((with_reducible show List.all _ _ = true); (first | rfl | decide +kernel | (simp [fitD]; done)))
  | skip))
local macro_rules | `(tactic| walk_at "de") => `(tactic| (walk_at "ds" <;> walk_at "e"))


theorem rd_first_stand (ds : List D) (R : QE) (h : ∃ P : Pl, ds = [P.d] ∧ P.ok ∧ R beginS.d []) : t_first_stand (endP R) (startD 1 ds) [] := by
  obtain ⟨P, rfl, hP, r⟩ := h
  have f := P.fit
  unfold t_first_stand
  walk_at "de"
theorem rd_is_stand (ds : List D) (R : QE) (h : ∃ (P : Pl) (x : D), ds = [P.d, x] ∧ P.ok ∧ fitD 30 x = true ∧ R (.bl (fitsB P x)) []) : t_is_stand (endP R) (startD 2 ds) [] := by
  obtain ⟨P, x, rfl, hP, fx, r⟩ := h
  have f := P.fit
  unfold t_is_stand
  walk_at "de"
/-- a stand by its parts -/
theorem stand_cases (x : D) : (∃ off want left hand : Int, ∃ leans locked : Bool, x = .tup [.int off, .int want, .int left, .int hand, .bl leans, .bl locked] ∧ (-20 ≤ off ∧ off ≤ 20) ∧ (-20 ≤ want ∧ want ≤ 20) ∧ (-20 ≤ left ∧ left ≤ 20) ∧ (-20 ≤ hand ∧ hand ≤ 20)) ∨
    (∃ a b c d e f, x = .tup [a, b, c, d, e, f] ∧ (isWithinB a (-20) 20 && isWithinB b (-20) 20 && isWithinB c (-20) 20 && isWithinB d (-20) 20 && isBoolB e && isBoolB f) = false ∧ ∀ P, fitsB P x = false) ∨ (isRowB x 6 = false ∧ ∀ P, fitsB P x = false) := by
  rcases row6 x with ⟨a, b, c, d, e, f, rfl⟩ | hr
  · by_cases h : (isWithinB a (-20) 20 && isWithinB b (-20) 20 && isWithinB c (-20) 20 && isWithinB d (-20) 20 && isBoolB e && isBoolB f) = true
    · simp only [Bool.and_eq_true] at h
      obtain ⟨⟨⟨⟨⟨h1, h2⟩, h3⟩, h4⟩, h5⟩, h6⟩ := h
      obtain ⟨i1, rfl, b1⟩ := within_fit h1
      obtain ⟨i2, rfl, b2⟩ := within_fit h2
      obtain ⟨i3, rfl, b3⟩ := within_fit h3
      obtain ⟨i4, rfl, b4⟩ := within_fit h4
      obtain ⟨k1, rfl⟩ := bool_fit h5
      obtain ⟨k2, rfl⟩ := bool_fit h6
      exact .inl ⟨i1, i2, i3, i4, k1, k2, rfl, b1, b2, b3, b4⟩
    · rw [Bool.not_eq_true] at h
      refine .inr (.inl ⟨a, b, c, d, e, f, rfl, h, fun P => ?_⟩)
      unfold fitsB
      split
      · rename_i q
        cases q
        simp [isWithinB, isBoolB] at h
        simp
        intro h1 h2 h3 h4 h5 h6 h7 h8
        exact absurd h (by simp [h1, h2, h3, h4, h5, h6, h7, h8])
      · rfl
  · refine .inr (.inr ⟨hr, fun P => ?_⟩)
    unfold fitsB
    split
    · cases hr
    · rfl
theorem fit_tup6 {n : Nat} {a b c d e f : D} (h : fitD (n + 1) (.tup [a, b, c, d, e, f]) = true) : fitD n a = true ∧ fitD n b = true ∧ fitD n c = true ∧ fitD n d = true ∧ fitD n e = true ∧ fitD n f = true := by simpa [fitD] using h
theorem cut4 (a b c d e f : D) : cutD [a, b, c, d, e, f] none (some 4) = [a, b, c, d] := by rfl
end
end L2.DL

set_option Elab.async false
set_option linter.all false
set_option maxRecDepth 100000
set_option maxHeartbeats 400000
/-! SD: stands that fit. -/
namespace L2.DL
open PySem PySem.Spec PyProof.Rows
section
local macro_rules | `(tactic| walk_at "d") => `(tactic| (first
  | with_reducible refine Stp.go ?_
  | with_reducible refine And.intro ?_ ?_
  | with_reducible refine fun _ => ?_
  | ((with_reducible refine s_iteY ?_); refine And.intro rfl ?_)
  | ((with_reducible refine s_iteN ?_); refine And.intro rfl ?_)
  | with_reducible refine iteB (fun _ => ?_) (fun _ => ?_)
  | with_reducible refine i_eq ?_ ?_ ?_
  | with_reducible refine i_ne ?_ ?_ ?_
  | with_reducible refine rtp ?_ ?_
  | with_reducible refine u_isB ?_ ?_
  | with_reducible refine u_isI ?_ ?_
  | with_reducible refine u_isT ?_ ?_
  | with_reducible refine u_isS ?_ ?_
  | with_reducible refine u_isL ?_ ?_
  | with_reducible refine u_isLT ?_ ?_
  | with_reducible refine u_is_within ?_ ?_
  | with_reducible refine u_law_int ?_ ?_
  | with_reducible refine u_is_row ?_ ?_
  | with_reducible refine u_law_made ?_ ?_
  | with_reducible refine u_is_program ?_ ?_
  | with_reducible refine u_law_good_program ?_ ?_
  | with_reducible refine u_is_plan ?_ ?_
  | with_reducible refine u_law_good_plan ?_ ?_
  | with_reducible refine u_law_kind ?_ ?_
  | with_reducible refine u_pick0 ?_ ?_ ?_
  | with_reducible refine u_pickG ?_ ?_ ?_ ?_
  | with_reducible refine u_look ?_ ?_
  | with_reducible refine u_fits ?_ ?_ ?_
  | with_reducible refine rtm3 ?_ ?_ ?_
  | ((with_reducible refine s_sLst ?_); refine Exists.intro _ (And.intro rfl (Exists.intro _ (And.intro rfl (Exists.intro _ (And.intro (by simp only [List.set_cons_zero, List.set_cons_succ]; rfl) ?_))))))
  | with_reducible refine i_oIC ?_ ?_
  | with_reducible refine i_addS ?_ ?_
  | with_reducible refine i_addT ?_ ?_
  | with_reducible refine i_addL ?_ ?_
  | with_reducible refine i_trS ?_ ?_
  | with_reducible refine i_lenS ?_ ?_
  | with_reducible refine i_slS ?_ ?_
  | with_reducible refine i_r1Q ?_ ?_
  | with_reducible refine i_r2Q ?_ ?_
  | with_reducible refine i_lsR1Q ?_ ?_
  | with_reducible refine i_lsR2Q ?_ ?_
  | with_reducible refine i_inT ?_ ?_ ?_
  | with_reducible refine i_inL ?_ ?_ ?_
  | with_reducible refine i_ninT ?_ ?_ ?_
  | with_reducible refine i_ninL ?_ ?_ ?_
  | ((with_reducible refine s_tV ?_); refine Exists.intro _ (And.intro rfl ?_))
  | ((with_reducible refine s_ixT ?_); refine Exists.intro _ (And.intro rfl ?_))
  | ((with_reducible refine s_gNm ?_); refine Exists.intro _ (And.intro (by simp only [wipeD, setsD, List.set_cons_zero, List.set_cons_succ]; rfl) ?_))
  | ((with_reducible refine s_stQ ?_); refine Exists.intro _ (And.intro (by simp only [wipeD, setsD, List.set_cons_zero, List.set_cons_succ]; rfl) ?_))
  | ((with_reducible refine s_c1 ?_); refine Exists.intro _ (And.intro (by simp only [wipeD, setsD, List.set_cons_zero, List.set_cons_succ]; rfl) ?_))
  | ((with_reducible refine s_p2 ?_); refine Exists.intro _ (And.intro (by simp only [wipeD, setsD, List.set_cons_zero, List.set_cons_succ]; rfl) ?_))
  | ((with_reducible refine s_p3 ?_); refine Exists.intro _ (And.intro (by simp only [wipeD, setsD, List.set_cons_zero, List.set_cons_succ]; rfl) ?_))
  | ((with_reducible refine s_cN' ?_); refine And.intro rfl (Exists.intro _ (And.intro (by simp only [wipeD, setsD, List.set_cons_zero, List.set_cons_succ]; rfl) ?_)))
  | ((with_reducible refine s_ixL ?_); refine Exists.intro _ (And.intro rfl ?_))
  | ((with_reducible refine s_trO ?_); refine Exists.intro _ (And.intro rfl ?_))
  | ((with_reducible refine s_lenO ?_); refine Exists.intro _ (And.intro rfl ?_))
  | ((with_reducible refine s_listO ?_); refine Exists.intro _ (And.intro rfl ?_))
  | ((with_reducible refine s_ixO ?_); refine Exists.intro _ (And.intro rfl (Exists.intro _ (And.intro rfl ?_))))
  | ((with_reducible refine s_app1 ?_); refine And.intro rfl ?_)
  | ((with_reducible refine s_cN ?_); refine And.intro rfl ?_)
  | ((with_reducible refine s_dgtY ?_); refine Exists.intro _ (And.intro rfl ?_))
  | ((with_reducible refine i_dgtN ?_ ?_); exact rfl)))
local macro_rules | `(tactic| walk_at "ds") => `(tactic| ((try simp only [startD, List.map_cons, List.map_nil, List.length_cons, List.length_nil, List.replicate, Nat.reduceAdd, Nat.reduceSub, List.cons_append, List.nil_append]); repeat' walk_at "d"))
/-- side conditions -/
local macro_rules | `(tactic| walk_at "e") => `(tactic| (first
  | with_reducible assumption
  | ((with_reducible show fitD _ _ = true); (first | rfl | decide +kernel | (exact fit_mono _ 30 _ (by decide) (by assumption))))
  | ((with_reducible show lowDs _ _); (repeat' first | trivial | (exact fit_low _ 30 _ (by assumption)) | refine And.intro ?_ ?_); done)
  | ((with_reducible show lowO _ _); (show lowDs _ _); (repeat' first | trivial | (exact fit_low _ 30 _ (by assumption)) | refine And.intro ?_ ?_); done)
  | ((with_reducible show (_ : Int) < _); (first | decide | omega))
  | ((with_reducible show (_ : Int) ≤ _); (first | decide | omega))
  | ((with_reducible show lowD _ _); (first | trivial | (exact fit_low _ 30 _ (by assumption))))
  | ((with_reducible show List.length _ = _); simp; done)
  | ((with_reducible show _ ≤ sizeLine); rw [sizeLine_eq]; simp; done)
  | ((with_reducible show List.all _ _ = true); (first | rfl | decide +kernel | (simp [fitD]; done)))
  | skip))
local macro_rules | `(tactic| walk_at "de") => `(tactic| (walk_at "ds" <;> walk_at "e"))


theorem rd_fits (ds : List D) (R : QE) (h : ∃ (P : Pl) (x : D), ds = [P.d, x] ∧ P.ok ∧ fitD 30 x = true ∧ R (.bl (fitsB P x)) []) : t_fits (endP R) (startD 15 ds) [] := by
  obtain ⟨P, x, rfl, hP, fx, r⟩ := h
  have f := P.fit
  unfold t_fits
  rcases stand_cases x with ⟨off, want, left, hand, leans, locked, rfl, b1, b2, b3, b4⟩ | ⟨a, b, c, d, e, g, rfl, h, hn⟩ | ⟨hr, hn⟩
  · walk_at "de"
    rw [cut4]
    refine lc_pure [.int off, .int want, .int left, .int hand] (fun x => some (.bl (isWithinB x (-20) 20))) (by rw [sizeLine_eq]; simp) (fun x hx Q N hQ hN => ?_) ?_
    · have fx : fitD 30 x = true := by
        simp at hx
        rcases hx with rfl | rfl | rfl | rfl <;> simp [fitD]
      walk_at "de"
      all_goals exact hQ _ rfl
    · walk_at "de"
      refine i_all (bs := [isWithinB (.int off) (-20) 20, isWithinB (.int want) (-20) 20, isWithinB (.int left) (-20) 20, isWithinB (.int hand) (-20) 20]) rfl ?_
      have e : ([isWithinB (.int off) (-20) 20, isWithinB (.int want) (-20) 20, isWithinB (.int left) (-20) 20, isWithinB (.int hand) (-20) 20] : List Bool).all id = true := by simp [isWithinB, b1, b2, b3, b4]
      rw [e]
      cases locked <;> cases leans <;> walk_at "de"
      all_goals clear e
      all_goals (refine rB r ?_; clear r f fx; by_cases hw : want = 0 <;> by_cases hh : hand = 0 <;> simp_all [fitsB, fitsI, inD, eqD, eqDs] <;> omega)
  · obtain ⟨f1, f2, f3, f4, f5, f6⟩ := fit_tup6 fx
    have f1 := fit_mono _ _ 30 (by decide) f1
    have f2 := fit_mono _ _ 30 (by decide) f2
    have f3 := fit_mono _ _ 30 (by decide) f3
    have f4 := fit_mono _ _ 30 (by decide) f4
    have f5 := fit_mono _ _ 30 (by decide) f5
    have f6 := fit_mono _ _ 30 (by decide) f6
    walk_at "de"
    all_goals first
      | (refine rB r ?_; rw [hn P]; done)
      | skip
    rw [cut4]
    refine lc_pure [a, b, c, d] (fun x => some (.bl (isWithinB x (-20) 20))) (by rw [sizeLine_eq]; simp) (fun x hx Q N hQ hN => ?_) ?_
    · have fx : fitD 30 x = true := by
        simp at hx
        rcases hx with rfl | rfl | rfl | rfl <;> assumption
      walk_at "de"
      all_goals exact hQ _ rfl
    · walk_at "de"
      refine i_all (bs := [isWithinB a (-20) 20, isWithinB b (-20) 20, isWithinB c (-20) 20, isWithinB d (-20) 20]) rfl ?_
      walk_at "de"
      all_goals first
        | (refine rB r ?_; rw [hn P]; done)
        | (exfalso; clear r; simp_all; done)
  · walk_at "de"
    all_goals first
      | (refine rB r ?_; rw [hn P]; done)
      | (exfalso; clear r; simp_all; done)
end
end L2.DL

set_option Elab.async false
set_option linter.all false
set_option maxRecDepth 100000
set_option maxHeartbeats 400000
/-! SE: springs, kinds, likeness, deeds. -/
namespace L2.DL
open PySem PySem.Spec PyProof.Rows
/-! what is handed on -/
section
variable {a m : Int} {R : QE} {L pre : Sto} {j : Nat}
theorem low_spr {a m : Int} {k : Nat} : lowO k (spr a m) := ⟨trivial, trivial, trivial⟩
theorem nd_spr {a m : Int} : spr a m ≠ .dead := by intro z; cases z
theorem at_pre {o : O} (hj : j = pre.length) : (pre ++ [o])[j]? = some o := by subst hj; rw [List.getElem?_concat_length]
theorem set_pre {o o' : O} (hj : j = pre.length) : (pre ++ [o]).set j o' = pre ++ [o'] := by subst hj; simp
theorem u_program0 (h : ∀ (t w : Int) (e : Bool) (a m : Int), 0 ≤ t → t ≤ 3 → 1 ≤ w → w ≤ 3 → R (.tup [.int t, .int w, wayD e]) [spr a m]) : caM 1 F_law_program R [.ob 0] [spr a m] :=
  i_caM (o := spr a m) rfl rfl trivial nd_spr low_spr ⟨rfl, ⟨a, m, rfl⟩, rfl, fun t w e a m h1 h2 h3 h4 => ⟨⟨trivial, trivial, trivial, trivial⟩, low_spr, h t w e a m h1 h2 h3 h4⟩⟩
theorem low_pl {P : Pl} {k : Nat} : lowD k P.d := ⟨⟨trivial, trivial, trivial, trivial⟩, ⟨trivial, trivial, trivial, trivial⟩, trivial⟩
theorem u_plan0 (h : ∀ (P : Pl) (a m : Int), P.ok → R P.d [spr a m]) : caM 1 F_law_plan R [.ob 0] [spr a m] :=
  i_caM (o := spr a m) rfl rfl trivial nd_spr low_spr ⟨rfl, ⟨a, m, rfl⟩, rfl, fun P a m h1 => ⟨low_pl, low_spr, h P a m h1⟩⟩
theorem u_planG (hj : j = pre.length) (h : ∀ (P : Pl) (a m : Int), P.ok → R P.d (pre ++ [spr a m])) : caM 1 F_law_plan R [.ob j] (pre ++ [spr a m]) :=
  i_caM (o := spr a m) (at_pre hj) rfl trivial nd_spr low_spr ⟨rfl, ⟨a, m, rfl⟩, rfl, fun P a m h1 => ⟨low_pl, low_spr, by rw [set_pre hj]; exact h P a m h1⟩⟩
theorem u_smallG (hj : j = pre.length) (h : ∀ (P : Pl) (a m : Int), P.ok → P.tol ≤ 2 → P.wait ≤ 2 → P.most ≤ 2 → P.spread ≤ 1 → R P.d (pre ++ [spr a m])) : caM 1 F_law_small R [.ob j] (pre ++ [spr a m]) :=
  i_caM (o := spr a m) (at_pre hj) rfl trivial nd_spr low_spr ⟨rfl, ⟨a, m, rfl⟩, rfl, fun P a m h1 h2 h3 h4 h5 => ⟨low_pl, low_spr, by rw [set_pre hj]; exact h P a m h1 h2 h3 h4 h5⟩⟩
theorem u_bent0 {n : Nat} {v : D} (hf : fitD n v = true) (hw : wideD v) (hn : n ≤ 20) (h : ∀ (x : D) (a m : Int), fitD (n + 2) x = true → R x [spr a m]) : caM 2 (F_law_bent (n + 1)) R [.ob 0, v] [spr a m] :=
  i_caM (o := spr a m) rfl rfl ⟨fit_low _ _ _ hf, trivial⟩ nd_spr low_spr ⟨rfl, ⟨a, m, rfl⟩, v, rfl, hf, hw, hn, fun x a m h1 => ⟨fit_low _ _ _ h1, low_spr, h x a m h1⟩⟩
theorem u_bentG {n : Nat} {v : D} (hj : j = pre.length) (hf : fitD n v = true) (hw : wideD v) (hn : n ≤ 20) (h : ∀ (x : D) (a m : Int), fitD (n + 2) x = true → R x (pre ++ [spr a m])) : caM 2 (F_law_bent (n + 1)) R [.ob j, v] (pre ++ [spr a m]) :=
  i_caM (o := spr a m) (at_pre hj) rfl ⟨fit_low _ _ _ hf, trivial⟩ nd_spr low_spr ⟨rfl, ⟨a, m, rfl⟩, v, rfl, hf, hw, hn, fun x a m h1 => ⟨fit_low _ _ _ h1, low_spr, by rw [set_pre hj]; exact h x a m h1⟩⟩
theorem u_begin {R : QE} {RE : QX} (r : R beginS.d []) : F_law_begin [] [] R RE := ⟨rfl, rfl, r⟩
end
section
local macro_rules | `(tactic| walk_at "d") => `(tactic| (first
  | with_reducible refine Stp.go ?_
  | with_reducible refine And.intro ?_ ?_
  | with_reducible refine fun _ => ?_
  | ((with_reducible refine s_iteY ?_); refine And.intro rfl ?_)
  | ((with_reducible refine s_iteN ?_); refine And.intro rfl ?_)
  | with_reducible refine iteB (fun _ => ?_) (fun _ => ?_)
  | with_reducible refine i_eq ?_ ?_ ?_
  | with_reducible refine i_ne ?_ ?_ ?_
  | with_reducible refine rtp ?_ ?_
  | with_reducible refine u_isB ?_ ?_
  | with_reducible refine u_isI ?_ ?_
  | with_reducible refine u_isT ?_ ?_
  | with_reducible refine u_isS ?_ ?_
  | with_reducible refine u_isL ?_ ?_
  | with_reducible refine u_isLT ?_ ?_
  | with_reducible refine u_is_within ?_ ?_
  | with_reducible refine u_law_int ?_ ?_
  | with_reducible refine u_is_row ?_ ?_
  | with_reducible refine u_law_made ?_ ?_
  | with_reducible refine u_is_program ?_ ?_
  | with_reducible refine u_law_good_program ?_ ?_
  | with_reducible refine u_is_plan ?_ ?_
  | with_reducible refine u_law_good_plan ?_ ?_
  | with_reducible refine u_law_kind ?_ ?_
  | with_reducible refine u_pick0 ?_ ?_ ?_
  | with_reducible refine u_pickG ?_ ?_ ?_ ?_
  | with_reducible refine u_look ?_ ?_
  | with_reducible refine u_fits ?_ ?_ ?_
  | with_reducible refine u_program0 ?_
  | with_reducible refine u_plan0 ?_
  | with_reducible refine u_begin ?_
  | with_reducible refine rtm3 ?_ ?_ ?_
  | ((with_reducible refine s_sLst ?_); refine Exists.intro _ (And.intro rfl (Exists.intro _ (And.intro rfl (Exists.intro _ (And.intro (by simp only [List.set_cons_zero, List.set_cons_succ]; rfl) ?_))))))
  | with_reducible refine i_oIC ?_ ?_
  | with_reducible refine i_addS ?_ ?_
  | with_reducible refine i_addT ?_ ?_
  | with_reducible refine i_addL ?_ ?_
  | with_reducible refine i_trS ?_ ?_
  | with_reducible refine i_lenS ?_ ?_
  | with_reducible refine i_slS ?_ ?_
  | with_reducible refine i_r1Q ?_ ?_
  | with_reducible refine i_r2Q ?_ ?_
  | with_reducible refine i_lsR1Q ?_ ?_
  | with_reducible refine i_lsR2Q ?_ ?_
  | with_reducible refine i_inT ?_ ?_ ?_
  | with_reducible refine i_inL ?_ ?_ ?_
  | with_reducible refine i_ninT ?_ ?_ ?_
  | with_reducible refine i_ninL ?_ ?_ ?_
  | ((with_reducible refine s_tV ?_); refine Exists.intro _ (And.intro rfl ?_))
  | ((with_reducible refine s_ixT ?_); refine Exists.intro _ (And.intro rfl ?_))
  | ((with_reducible refine s_gNm ?_); refine Exists.intro _ (And.intro (by simp only [wipeD, setsD, List.set_cons_zero, List.set_cons_succ]; rfl) ?_))
  | ((with_reducible refine s_stQ ?_); refine Exists.intro _ (And.intro (by simp only [wipeD, setsD, List.set_cons_zero, List.set_cons_succ]; rfl) ?_))
  | ((with_reducible refine s_c1 ?_); refine Exists.intro _ (And.intro (by simp only [wipeD, setsD, List.set_cons_zero, List.set_cons_succ]; rfl) ?_))
  | ((with_reducible refine s_p2 ?_); refine Exists.intro _ (And.intro (by simp only [wipeD, setsD, List.set_cons_zero, List.set_cons_succ]; rfl) ?_))
  | ((with_reducible refine s_p3 ?_); refine Exists.intro _ (And.intro (by simp only [wipeD, setsD, List.set_cons_zero, List.set_cons_succ]; rfl) ?_))
  | ((with_reducible refine s_cN' ?_); refine And.intro rfl (Exists.intro _ (And.intro (by simp only [wipeD, setsD, List.set_cons_zero, List.set_cons_succ]; rfl) ?_)))
  | ((with_reducible refine s_ixL ?_); refine Exists.intro _ (And.intro rfl ?_))
  | ((with_reducible refine s_trO ?_); refine Exists.intro _ (And.intro rfl ?_))
  | ((with_reducible refine s_lenO ?_); refine Exists.intro _ (And.intro rfl ?_))
  | ((with_reducible refine s_listO ?_); refine Exists.intro _ (And.intro rfl ?_))
  | ((with_reducible refine s_ixO ?_); refine Exists.intro _ (And.intro rfl (Exists.intro _ (And.intro rfl ?_))))
  | ((with_reducible refine s_app1 ?_); refine And.intro rfl ?_)
  | ((with_reducible refine s_cN ?_); refine And.intro rfl ?_)
  | ((with_reducible refine s_dgtY ?_); refine Exists.intro _ (And.intro rfl ?_))
  | ((with_reducible refine i_dgtN ?_ ?_); exact rfl)))
local macro_rules | `(tactic| walk_at "ds") => `(tactic| ((try simp only [startD, List.map_cons, List.map_nil, List.length_cons, List.length_nil, List.replicate, Nat.reduceAdd, Nat.reduceSub, List.cons_append, List.nil_append]); repeat' walk_at "d"))
/-- side conditions -/
local macro_rules | `(tactic| walk_at "e") => `(tactic| (first
  | with_reducible assumption
  | ((with_reducible show fitD _ _ = true); (first | rfl | decide +kernel | (exact fit_mono _ 30 _ (by decide) (by assumption))))
  | ((with_reducible show lowDs _ _); (repeat' first | trivial | (exact fit_low _ 30 _ (by assumption)) | refine And.intro ?_ ?_); done)
  | ((with_reducible show lowO _ _); (show lowDs _ _); (repeat' first | trivial | (exact fit_low _ 30 _ (by assumption)) | refine And.intro ?_ ?_); done)
  | ((with_reducible show (_ : Int) < _); (first | decide | omega))
  | ((with_reducible show (_ : Int) ≤ _); (first | decide | omega))
  | ((with_reducible show lowD _ _); (first | trivial | (exact fit_low _ 30 _ (by assumption))))
  | ((with_reducible show List.length _ = _); simp; done)
  | ((with_reducible show _ ≤ sizeLine); rw [sizeLine_eq]; simp; done)
  | ((with_reducible show List.all _ _ = true); (first | rfl | decide +kernel | (simp [fitD]; done)))
  | skip))
local macro_rules | `(tactic| walk_at "de") => `(tactic| (walk_at "ds" <;> walk_at "e"))


theorem cmulL {i j : Int} (h1 : -(2 ^ 64) < i) (h2 : i < 2 ^ 64) : CMul i j := .inl ⟨h1, h2⟩
theorem cmulR {i j : Int} (h1 : -(2 ^ 64) < j) (h2 : j < 2 ^ 64) : CMul i j := .inr ⟨h1, h2⟩
theorem at_map {ns : List Int} {k : Int} (h0 : 0 ≤ k) (h : k < ns.length) : ∃ i, atD (ns.map .int) k = some (.int i) := by
  obtain ⟨n, rfl⟩ := Int.eq_ofNat_of_zero_le h0
  have hn : n < ns.length := by omega
  refine ⟨ns[n], ?_⟩
  show (ns.map D.int)[n]? = _
  rw [List.getElem?_map, List.getElem?_eq_getElem hn]; rfl
theorem rd_law_spring (ds : List D) (R : O → Prop) (h : ∃ (ns : List Int) (at_ : Int), ds = [.lst (ns.map .int), .int at_] ∧ 0 ≤ at_ ∧ ∀ a m, R (spr a m)) : t_law_spring (endN R) (startD 4 ds) [] := by
  obtain ⟨ns, at_, rfl, h0, r⟩ := h
  unfold t_law_spring
  walk_at "de"
  · rename_i hlt
    simp only [List.length_map, decide_eq_true_eq] at hlt
    obtain ⟨i, hi⟩ := at_map h0 hlt
    refine i_ixL hi ?_
    walk_at "de"
    all_goals first
      | exact ⟨_, rfl, rfl, nd_spr, low_spr, r _ _⟩
      | (refine cmulL ?_ ?_ <;> decide)
      | (refine cmulR ?_ ?_ <;> decide)
      | (exact ⟨by decide, by decide, by decide⟩)
  all_goals first
    | exact ⟨_, rfl, rfl, nd_spr, low_spr, r _ _⟩
    | (refine cmulL ?_ ?_ <;> decide)
    | (refine cmulR ?_ ?_ <;> decide)
    | (exact ⟨by decide, by decide, by decide⟩)
theorem cdiv_of {i k : Int} (h0 : 0 < k) (h : k < 2 ^ 64) : CDivW i k := by
  refine ⟨h0, ?_⟩
  have h1 : k.natAbs < 2 ^ 64 := by omega
  have h2 := (Nat.log2_lt (n := k.natAbs) (k := 64) (by omega)).mpr h1
  omega
theorem rd_law_pick (d : D) (o : O) (r : List D) (R : QE) (h : d = .ob 0 ∧ (∃ a m, o = spr a m) ∧ ∃ k : Int, r = [.int k] ∧ 0 < k ∧ k < 2 ^ 64 ∧ ∀ i a m, 0 ≤ i → i < k → R (.int i) [spr a m]) : t_law_pick (endM R) (startD 3 (d :: r)) [o] := by
  obtain ⟨rfl, ⟨a, m, rfl⟩, k, rfl, h1, h2, r⟩ := h
  unfold t_law_pick
  walk_at "de"
  all_goals first
    | exact r _ _ _ (Int.emod_nonneg _ (by omega)) (Int.emod_lt_of_pos _ h1)
    | exact cdiv_of h1 h2
    | exact cdiv_of (by decide) (by decide)
    | (refine cmulR ?_ ?_ <;> decide)
theorem rd_law_kind (ds : List D) (R : QE) (h : ∃ v, ds = [v] ∧ fitD 30 v = true ∧ R (.int (kindD v)) []) : t_law_kind (endP R) (startD 1 ds) [] := by
  obtain ⟨v, rfl, f, r⟩ := h
  unfold t_law_kind
  cases v <;> walk_at "de"
  all_goals exact r
theorem rd_law_begin (ds : List D) (R : QE) (h : ds = [] ∧ R beginS.d []) : t_law_begin (endP R) (startD 0 ds) [] := by
  obtain ⟨rfl, r⟩ := h
  unfold t_law_begin
  walk_at "de"
theorem rd_law_program (d : D) (o : O) (r : List D) (R : QE) (h : d = .ob 0 ∧ (∃ a m, o = spr a m) ∧ r = [] ∧ ∀ (t w : Int) (e : Bool) a m, 0 ≤ t → t ≤ 3 → 1 ≤ w → w ≤ 3 → R (.tup [.int t, .int w, wayD e]) [spr a m]) : t_law_program (endM R) (startD 1 (d :: r)) [o] := by
  obtain ⟨rfl, ⟨a, m, rfl⟩, rfl, r⟩ := h
  unfold t_law_program
  walk_at "de"
  rename_i i1 _ _ h1 h2 i2 _ _ h3 h4 i3 _ _ h5 h6
  have h7 : i3 = 0 ∨ i3 = 1 := by omega
  rcases h7 with rfl | rfl
  · refine i_ixL rfl ?_
    walk_at "de"
    exact r i1 (1 + i2) true _ _ h1 (by omega) (by omega) (by omega)
  · refine i_ixL rfl ?_
    walk_at "de"
    exact r i1 (1 + i2) false _ _ h1 (by omega) (by omega) (by omega)
theorem rd_law_plan (d : D) (o : O) (r : List D) (R : QE) (h : d = .ob 0 ∧ (∃ a m, o = spr a m) ∧ r = [] ∧ ∀ (P : Pl) a m, P.ok → R P.d [spr a m]) : t_law_plan (endM R) (startD 2 (d :: r)) [o] := by
  obtain ⟨rfl, ⟨a, m, rfl⟩, rfl, r⟩ := h
  unfold t_law_plan
  walk_at "de"
  rename_i i1 _ _ h1 h2 i3 _ _ h5 h6
  have h7 : ∃ z : Int, (0 ≤ z ∧ z ≤ 2) ∧ atD [.int 0, .int 1, .int 1, .int 2] i3 = some (.int z) := by
    have h8 : i3 = 0 ∨ i3 = 1 ∨ i3 = 2 ∨ i3 = 3 := by omega
    rcases h8 with rfl | rfl | rfl | rfl
    · exact ⟨0, by decide, rfl⟩
    · exact ⟨1, by decide, rfl⟩
    · exact ⟨1, by decide, rfl⟩
    · exact ⟨2, by decide, rfl⟩
  obtain ⟨z, hz, he⟩ := h7
  refine i_ixL he ?_
  walk_at "de"
  rename_i i4 _ _ _ _ t w e _ _ h9 h10 h11 h12
  exact r ⟨t, w, e, 1 + i1, z, eqD (.int i4) (.int 0)⟩ _ _ ⟨h9, h10, h11, h12, by show 1 ≤ 1 + i1; omega, by show 1 + i1 ≤ 3; omega, hz.1, hz.2⟩
theorem rd_law_small (d : D) (o : O) (r : List D) (R : QE) (h : d = .ob 0 ∧ (∃ a m, o = spr a m) ∧ r = [] ∧ ∀ (P : Pl) a m, P.ok → P.tol ≤ 2 → P.wait ≤ 2 → P.most ≤ 2 → P.spread ≤ 1 → R P.d [spr a m]) : t_law_small (endM R) (startD 7 (d :: r)) [o] := by
  obtain ⟨rfl, ⟨a, m, rfl⟩, rfl, r⟩ := h
  unfold t_law_small
  walk_at "de"
  rename_i P _ _ hP
  obtain ⟨h1, h2, h3, h4, h5, h6, h7, h8⟩ := hP
  exact r ⟨if P.tol < 2 then P.tol else 2, if P.wait < 2 then P.wait else 2, P.each, if P.most < 2 then P.most else 2, if P.spread < 1 then P.spread else 1, P.lean⟩ _ _
    ⟨by dsimp only; omega, by dsimp only; omega, by dsimp only; omega, by dsimp only; omega, by dsimp only; omega, by dsimp only; omega, by dsimp only; omega, by dsimp only; omega⟩ (by dsimp only; omega) (by dsimp only; omega) (by dsimp only; omega) (by dsimp only; omega)
end
end L2.DL

set_option Elab.async false
set_option linter.all false
set_option maxRecDepth 100000
set_option maxHeartbeats 1000000
/-! SG: bent values, all programs, good stands. -/
namespace L2.DL
open PySem PySem.Spec PyProof.Rows
section
local macro_rules | `(tactic| walk_at "d") => `(tactic| (first
  | with_reducible refine Stp.go ?_
  | with_reducible refine And.intro ?_ ?_
  | with_reducible refine fun _ => ?_
  | ((with_reducible refine s_iteY ?_); refine And.intro rfl ?_)
  | ((with_reducible refine s_iteN ?_); refine And.intro rfl ?_)
  | with_reducible refine iteB (fun _ => ?_) (fun _ => ?_)
  | with_reducible refine i_eq ?_ ?_ ?_
  | with_reducible refine i_ne ?_ ?_ ?_
  | with_reducible refine rtp ?_ ?_
  | with_reducible refine u_isB ?_ ?_
  | with_reducible refine u_isI ?_ ?_
  | with_reducible refine u_isT ?_ ?_
  | with_reducible refine u_isS ?_ ?_
  | with_reducible refine u_isL ?_ ?_
  | with_reducible refine u_isLT ?_ ?_
  | with_reducible refine u_is_within ?_ ?_
  | with_reducible refine u_law_int ?_ ?_
  | with_reducible refine u_is_row ?_ ?_
  | with_reducible refine u_law_made ?_ ?_
  | with_reducible refine u_is_program ?_ ?_
  | with_reducible refine u_law_good_program ?_ ?_
  | with_reducible refine u_is_plan ?_ ?_
  | with_reducible refine u_law_good_plan ?_ ?_
  | with_reducible refine u_law_kind ?_ ?_
  | with_reducible refine u_pick0 ?_ ?_ ?_
  | with_reducible refine u_pickG ?_ ?_ ?_ ?_
  | with_reducible refine u_look ?_ ?_
  | with_reducible refine u_fits ?_ ?_ ?_
  | with_reducible refine u_program0 ?_
  | with_reducible refine u_plan0 ?_
  | with_reducible refine u_begin ?_
  | with_reducible refine rtm3 ?_ ?_ ?_
  | ((with_reducible refine s_sLst ?_); refine Exists.intro _ (And.intro rfl (Exists.intro _ (And.intro rfl (Exists.intro _ (And.intro (by simp only [List.set_cons_zero, List.set_cons_succ]; rfl) ?_))))))
  | with_reducible refine i_oIC ?_ ?_
  | with_reducible refine i_addS ?_ ?_
  | with_reducible refine i_addT ?_ ?_
  | with_reducible refine i_addL ?_ ?_
  | with_reducible refine i_trS ?_ ?_
  | with_reducible refine i_lenS ?_ ?_
  | with_reducible refine i_slS ?_ ?_
  | with_reducible refine i_r1Q ?_ ?_
  | with_reducible refine i_r2Q ?_ ?_
  | with_reducible refine i_lsR1Q ?_ ?_
  | with_reducible refine i_lsR2Q ?_ ?_
  | with_reducible refine i_inT ?_ ?_ ?_
  | with_reducible refine i_inL ?_ ?_ ?_
  | with_reducible refine i_ninT ?_ ?_ ?_
  | with_reducible refine i_ninL ?_ ?_ ?_
  | ((with_reducible refine s_tV ?_); refine Exists.intro _ (And.intro rfl ?_))
  | ((with_reducible refine s_ixT ?_); refine Exists.intro _ (And.intro rfl ?_))
  | ((with_reducible refine s_gNm ?_); refine Exists.intro _ (And.intro (by simp only [wipeD, setsD, List.set_cons_zero, List.set_cons_succ]; rfl) ?_))
  | ((with_reducible refine s_stQ ?_); refine Exists.intro _ (And.intro (by simp only [wipeD, setsD, List.set_cons_zero, List.set_cons_succ]; rfl) ?_))
  | ((with_reducible refine s_c1 ?_); refine Exists.intro _ (And.intro (by simp only [wipeD, setsD, List.set_cons_zero, List.set_cons_succ]; rfl) ?_))
  | ((with_reducible refine s_p2 ?_); refine Exists.intro _ (And.intro (by simp only [wipeD, setsD, List.set_cons_zero, List.set_cons_succ]; rfl) ?_))
  | ((with_reducible refine s_p3 ?_); refine Exists.intro _ (And.intro (by simp only [wipeD, setsD, List.set_cons_zero, List.set_cons_succ]; rfl) ?_))
  | ((with_reducible refine s_cN' ?_); refine And.intro rfl (Exists.intro _ (And.intro (by simp only [wipeD, setsD, List.set_cons_zero, List.set_cons_succ]; rfl) ?_)))
  | ((with_reducible refine s_ixL ?_); refine Exists.intro _ (And.intro rfl ?_))
  | ((with_reducible refine s_trO ?_); refine Exists.intro _ (And.intro rfl ?_))
  | ((with_reducible refine s_lenO ?_); refine Exists.intro _ (And.intro rfl ?_))
  | ((with_reducible refine s_listO ?_); refine Exists.intro _ (And.intro rfl ?_))
  | ((with_reducible refine s_ixO ?_); refine Exists.intro _ (And.intro rfl (Exists.intro _ (And.intro rfl ?_))))
  | ((with_reducible refine s_app1 ?_); refine And.intro rfl ?_)
  | ((with_reducible refine s_cN ?_); refine And.intro rfl ?_)
  | ((with_reducible refine s_dgtY ?_); refine Exists.intro _ (And.intro rfl ?_))
  | ((with_reducible refine i_dgtN ?_ ?_); exact rfl)))
local macro_rules | `(tactic| walk_at "ds") => `(tactic| ((try simp only [startD, List.map_cons, List.map_nil, List.length_cons, List.length_nil, List.replicate, Nat.reduceAdd, Nat.reduceSub, List.cons_append, List.nil_append]); repeat' walk_at "d"))
/-- side conditions -/
local macro_rules | `(tactic| walk_at "e") => `(tactic| (first
  | with_reducible assumption
  | ((with_reducible show fitD _ _ = true); (first | rfl | decide +kernel | (exact fit_mono _ 30 _ (by decide) (by assumption))))
  | ((with_reducible show lowDs _ _); (repeat' first | trivial | (exact fit_low _ 30 _ (by assumption)) | refine And.intro ?_ ?_); done)
  | ((with_reducible show lowO _ _); (show lowDs _ _); (repeat' first | trivial | (exact fit_low _ 30 _ (by assumption)) | refine And.intro ?_ ?_); done)
  | ((with_reducible show (_ : Int) < _); (first | decide | omega))
  | ((with_reducible show (_ : Int) ≤ _); (first | decide | omega))
  | ((with_reducible show lowD _ _); (first | trivial | (exact fit_low _ 30 _ (by assumption))))
  | ((with_reducible show List.length _ = _); simp; done)
  | ((with_reducible show _ ≤ sizeLine); rw [sizeLine_eq]; simp; done)
  | ((with_reducible show List.all _ _ = true); (first | rfl | decide +kernel | (simp [fitD]; done)))
  | skip))
local macro_rules | `(tactic| walk_at "de") => `(tactic| (walk_at "ds" <;> walk_at "e"))


theorem in_range {z lo : Int} {n : Nat} : inD (.int z) (rangeD lo n) = decide (lo ≤ z ∧ z < lo + n) := by
  rw [Bool.eq_iff_iff]
  simp only [inD, rangeD, List.any_map, List.any_eq_true, List.mem_range, Function.comp_apply, eqD, decide_eq_true_eq]
  constructor
  · rintro ⟨i, h1, h2⟩; omega
  · rintro ⟨h1, h2⟩; exact ⟨(z - lo).toNat, by omega, by omega⟩
theorem range_fit {lo : Int} {n k : Nat} : (rangeD lo n).all (fitD k) = true := by
  simp [rangeD, List.all_map, fitD]
theorem nil_eq (ys : List D) : eqD (.lst ys) (.lst []) = ys.isEmpty := by cases ys <;> simp [eqD, eqDs]
theorem flt_fit {p : D → Bool} {xs : List D} (h : ∀ x ∈ xs, fitD 30 x = true) : fitD 40 (.lst (xs.filterMap fun x => if p x = true then none else some x)) = true := by
  simp only [fitD, List.all_eq_true]
  intro x hx
  obtain ⟨y, hy, e⟩ := List.mem_filterMap.mp hx
  split at e
  · cases e
  · cases e; exact fit_mono _ 30 _ (by decide) (h _ hy)
theorem flt_nil {p : D → Bool} {xs : List D} : (xs.filterMap fun x => if p x = true then none else some x).isEmpty = xs.all p := by
  induction xs with
  | nil => rfl
  | cons x r ih =>
    cases e : p x
    · simp [List.filterMap_cons, e]
    · simp [List.filterMap_cons, e, ih]
theorem abs_le {z t : Int} : ((if z < 0 then -z else z) ≤ t) ↔ (-t ≤ z ∧ z ≤ t) := by split <;> omega
theorem cut46 (a b c d e f : D) : cutD [a, b, c, d, e, f] (some 4) none = [e, f] := rfl
theorem rd_law_good_stand (ds : List D) (R : QE) (h : ∃ (P : Pl) (x : D), ds = [P.d, x] ∧ P.ok ∧ fitD 30 x = true ∧ R (.bl (fitsB P x)) []) : t_law_good_stand (endP R) (startD 12 ds) [] := by
  obtain ⟨P, x, rfl, hP, fx, r⟩ := h
  have f := P.fit
  unfold t_law_good_stand
  rcases stand_cases x with ⟨off, want, left, hand, leans, locked, rfl, b1, b2, b3, b4⟩ | ⟨a, b, c, d, e, g, rfl, h, hn⟩ | ⟨hr, hn⟩
  · walk_at "de"
    rw [cut4]
    refine lc_pure [.int off, .int want, .int left, .int hand] (fun x => if isWithinB x (-20) 20 = true then none else some x) (by rw [sizeLine_eq]; simp) (fun x hx Q N hQ hN => ?_) ?_
    · have fx : fitD 30 x = true := by
        simp at hx
        rcases hx with rfl | rfl | rfl | rfl <;> simp [fitD]
      walk_at "de"
      · rename_i hh
        exact hQ _ (by simp_all)
      · rename_i hh
        exact hN (by simp_all)
    · have e : ([.int off, .int want, .int left, .int hand] : List D).filterMap (fun x => if isWithinB x (-20) 20 = true then none else some x) = [] := by simp [isWithinB, b1, b2, b3, b4]
      rw [e]
      walk_at "de"
      rw [cut46]
      refine lc_pure [.bl leans, .bl locked] (fun x => if isBoolB x = true then none else some x) (by rw [sizeLine_eq]; simp) (fun x hx Q N hQ hN => ?_) ?_
      · have fx : fitD 30 x = true := by
          simp at hx
          rcases hx with rfl | rfl <;> simp [fitD]
        walk_at "de"
        · rename_i hh
          exact hQ _ (by simp_all)
        · rename_i hh
          exact hN (by simp_all)
      · have e : ([.bl leans, .bl locked] : List D).filterMap (fun x => if isBoolB x = true then none else some x) = [] := by simp [isBoolB]
        rw [e]
        clear e
        have hr : RgOk 0 (P.most + 1) := by have := hP.m0; have := hP.m1; unfold RgOk; omega
        have hr2 : RgOk 1 (P.wait + 1) := by have := hP.w0; have := hP.w1; unfold RgOk; omega
        have hm0 := hP.m0
        have hm1 := hP.m1
        have hw0 := hP.w0
        have hw1 := hP.w1
        cases locked <;> cases leans <;> walk_at "de"
        all_goals first
          | exact range_fit
          | skip
        all_goals (refine rB r ?_; clear r f fx hr hr2; rw [Bool.eq_iff_iff]; try simp only [in_range, decide_eq_true_eq, decide_eq_false_iff_not, Bool.not_eq_true', Bool.not_eq_false', abs_le] at *)
        all_goals (by_cases hw : want = 0 <;> by_cases hh : hand = 0 <;> simp_all [fitsB, fitsI, inD, eqD, eqDs] <;> omega)
  · obtain ⟨f1, f2, f3, f4, f5, f6⟩ := fit_tup6 fx
    have f1 := fit_mono _ _ 30 (by decide) f1
    have f2 := fit_mono _ _ 30 (by decide) f2
    have f3 := fit_mono _ _ 30 (by decide) f3
    have f4 := fit_mono _ _ 30 (by decide) f4
    have f5 := fit_mono _ _ 30 (by decide) f5
    have f6 := fit_mono _ _ 30 (by decide) f6
    have g1 : ∀ x ∈ [a, b, c, d], fitD 30 x = true := by
      intro x hx
      simp at hx
      rcases hx with rfl | rfl | rfl | rfl <;> assumption
    have g2 : ∀ x ∈ [e, g], fitD 30 x = true := by
      intro x hx
      simp at hx
      rcases hx with rfl | rfl <;> assumption
    have k1 := flt_fit (p := fun x => isWithinB x (-20) 20) g1
    have k2 := flt_fit (p := isBoolB) g2
    walk_at "de"
    rw [cut4]
    refine lc_pure [a, b, c, d] (fun x => if isWithinB x (-20) 20 = true then none else some x) (by rw [sizeLine_eq]; simp) (fun x hx Q N hQ hN => ?_) ?_
    · have fx := g1 x hx
      walk_at "de"
      · rename_i hh
        exact hQ _ (by simp_all)
      · rename_i hh
        exact hN (by simp_all)
    · walk_at "de"
      · refine rB r ?_; rw [hn P]
      · rename_i h1
        rw [nil_eq, flt_nil] at h1
        rw [cut46]
        refine lc_pure [e, g] (fun x => if isBoolB x = true then none else some x) (by rw [sizeLine_eq]; simp) (fun x hx Q N hQ hN => ?_) ?_
        · have fx := g2 x hx
          walk_at "de"
          · rename_i hh
            exact hQ _ (by simp_all)
          · rename_i hh
            exact hN (by simp_all)
        · walk_at "de"
          · refine rB r ?_; rw [hn P]
          all_goals (rename_i h2; rw [nil_eq, flt_nil] at h2; exfalso; clear r; simp_all; done)
  · walk_at "de"
    all_goals first
      | (refine rB r ?_; rw [hn P]; done)
      | (exfalso; clear r; simp_all; done)
/-- the programs with these bounds -/
def progsW (t w : Int) : List D := [.tup [.int t, .int w, .str "each"], .tup [.int t, .int w, .str "sum"]]
def progsT (t : Int) : List D := progsW t 1 ++ progsW t 2 ++ progsW t 3
theorem allProgs_eq : allProgs = progsT 0 ++ progsT 1 ++ progsT 2 ++ progsT 3 := rfl
def isI : D → Int
  | .int i => i
  | _ => 0
theorem rd_programs_of (ds : List D) (R : QE) (h : ds = [] ∧ R (.lst allProgs) []) : t_programs_of (endP R) (startD 4 ds) [] := by
  obtain ⟨rfl, r⟩ := h
  unfold t_programs_of
  walk_at "de"
  refine fr_by (fun rest ρ L => L = [] ∧ ∃ done acc a b c, done ++ rest = rangeD 0 4 ∧ acc = done.flatMap (fun x => progsT (isI x)) ∧ ρ = [some (.lst acc), a, b, c]) ⟨rfl, [], [], none, none, none, rfl, rfl, rfl⟩ ?_ ?_
  · rintro x rest ρ L ⟨rfl, done, acc, a, b, c, hd, hacc, rfl⟩
    obtain ⟨t, rfl⟩ : ∃ t, x = .int t := by
      have : x ∈ rangeD 0 4 := by rw [← hd]; simp
      obtain ⟨i, _, e⟩ := List.mem_map.mp this
      exact ⟨_, e.symm⟩
    have hlen : acc.length ≤ 24 := by
      have h1 : done.length ≤ 4 := by
        have := congrArg List.length hd
        simp [rangeD] at this; omega
      have h2 : ∀ l : List D, (l.flatMap fun x => progsT (isI x)).length = 6 * l.length := by
        intro l
        induction l with
        | nil => rfl
        | cons y l ih => rw [List.flatMap_cons, List.length_append, ih]; simp [progsT, progsW]; omega
      rw [hacc, h2]; omega
    walk_at "de"
    refine fr_by (fun rest' ρ L => L = [] ∧ ∃ done' acc' b c, done' ++ rest' = rangeD 1 3 ∧ acc' = acc ++ done'.flatMap (fun x => progsW t (isI x)) ∧ ρ = [some (.lst acc'), some (.int t), b, c]) ⟨rfl, [], acc, b, c, rfl, by simp, rfl⟩ ?_ ?_
    · rintro x' rest' ρ L ⟨rfl, done', acc', b', c', hd', hacc', rfl⟩
      obtain ⟨w, rfl⟩ : ∃ w, x' = .int w := by
        have : x' ∈ rangeD 1 3 := by rw [← hd']; simp
        obtain ⟨i, _, e⟩ := List.mem_map.mp this
        exact ⟨_, e.symm⟩
      have hlen' : acc'.length ≤ 30 := by
        have h1 : done'.length ≤ 3 := by
          have := congrArg List.length hd'
          simp [rangeD] at this; omega
        have h2 : ∀ l : List D, (l.flatMap fun x => progsW t (isI x)).length = 2 * l.length := by
          intro l
          induction l with
          | nil => rfl
          | cons y l ih => rw [List.flatMap_cons, List.length_append, ih]; simp [progsW]; omega
        rw [hacc', List.length_append, h2]; omega
      walk_at "de"
      refine lc_pure [.str "each", .str "sum"] (fun x => some (.tup [.int t, .int w, x])) (by rw [sizeLine_eq]; simp) (fun y hy Q N hQ hN => ?_) ?_
      · walk_at "de"
        exact hQ _ rfl
      · refine i_addL (by rw [sizeLine_eq]; simp; omega) ?_
        walk_at "de"
        all_goals first
          | rfl
          | exact ⟨done' ++ [.int w], _, _, _, by simpa using hd', by rw [hacc']; simp [progsW, isI], rfl⟩
    · rintro ρ L ⟨rfl, done', acc', b', c', hd', hacc', rfl⟩
      have hd' : done' = rangeD 1 3 := by simpa using hd'
      subst hd'
      walk_at "de"
      all_goals first
        | rfl
        | trivial
        | exact ⟨done ++ [.int t], _, _, _, _, by simpa using hd, by rw [hacc', hacc]; simp [progsT, isI, rangeD, List.range, List.range.loop], rfl⟩
  · rintro ρ L ⟨rfl, done, acc, a, b, c, hd, hacc, rfl⟩
    have hd : done = rangeD 0 4 := by simpa using hd
    subst hd
    walk_at "de"
    · exact fit_low _ 30 _ (by rw [hacc]; decide +kernel)
    · rw [hacc]; exact r
theorem u_programs_of {R : QE} {RE : QX} (r : R (.lst allProgs) []) : F_programs_of [] [] R RE := ⟨rfl, rfl, r⟩
theorem rd_all_programs (ds : List D) (R : QE) (h : ds = [] ∧ R (.lst allProgs) []) : t_all_programs (endP R) (startD 0 ds) [] := by
  obtain ⟨rfl, r⟩ := h
  unfold t_all_programs
  walk_at "de"
  refine u_programs_of ?_
  walk_at "de"
/-- the values that stand written -/
def bentL : List D := [.non, .bl true, .bl false, .int 0, .int 1, .int 2, .int 3, .int 4, .int (-1), .int (-2), .int 20, .int 21, .int (-20), .int (-21), .int (10 ^ Int.toNat 30), .str "", .str "each", .str "sum"] ++
  [.tup [], .lst [], .tup [.int 0, .int 1, .str "each"], .tup [.int 1, .int 0, .bl false], .tup [.int 0, .int 0, .int 0, .int 0, .bl false, .bl true]]
theorem bentL_fit : ∀ x ∈ bentL, fitD 2 x = true := by
  have h : bentL.all (fitD 2) = true := by decide +kernel
  exact List.all_eq_true.mp h
theorem at_mem {xs : List D} {i : Int} (h0 : 0 ≤ i) (h : i < xs.length) : ∃ x, atD xs i = some x ∧ x ∈ xs := by
  obtain ⟨n, rfl⟩ := Int.eq_ofNat_of_zero_le h0
  have hn : n < xs.length := by omega
  exact ⟨xs[n], List.getElem?_eq_getElem hn, List.getElem_mem hn⟩
theorem bent_end {R : QE} {n : Nat} {i a m : Int} (r : ∀ (x : D) (a m : Int), fitD (n + 2) x = true → R x [spr a m]) (h0 : 0 ≤ i) (h : i < bentL.length) : oIx (.lst bentL) (.int i) [spr a m] (FinR 1 R) := by
  obtain ⟨x, h1, h2⟩ := at_mem h0 h
  have f := bentL_fit x h2
  exact i_ixL h1 (rtm3 (fit_low _ 2 _ f) low_spr (r x a m (fit_mono _ 2 _ (by omega) f)))
theorem cut_fit {n : Nat} {xs : List D} {lo hi : Option Int} (h : ∀ x ∈ xs, fitD n x = true) : ∀ x ∈ cutD xs lo hi, fitD n x = true := fun x hx => h x (List.mem_of_mem_drop (List.mem_of_mem_take hx))
theorem cut_len {xs : List D} {lo hi : Option Int} : (cutD xs lo hi).length ≤ xs.length := by
  unfold cutD; rw [List.length_take, List.length_drop]; omega
theorem tup_fit {n : Nat} {xs : List D} (h : ∀ x ∈ xs, fitD n x = true) : fitD (n + 1) (.tup xs) = true := by simpa [fitD] using h
theorem cat_fit {n : Nat} {xs ys : List D} (h : ∀ x ∈ xs, fitD n x = true) (g : ∀ x ∈ ys, fitD n x = true) : ∀ x ∈ xs ++ ys, fitD n x = true := fun x hx => (List.mem_append.mp hx).elim (h x) (g x)
theorem wideDs_mem : ∀ {xs : List D}, wideDs xs → ∀ x ∈ xs, wideD x
  | [], _, _, h => nomatch h
  | x :: xs, h, y, hy => by
    simp only [wideDs] at h
    rcases List.mem_cons.mp hy with e | hy
    · rw [e]; exact h.1
    · exact wideDs_mem h.2 y hy
theorem rd_law_bent (n : Nat) (d : D) (o : O) (r : List D) (R : QE) (h : P_law_bent n d o r fun x o' => R x [o']) : t_law_bent n (endM R) (startD 5 (d :: r)) [o] := by
  obtain ⟨rfl, ⟨a, m, rfl⟩, v, rfl, fv, hw, hn, r⟩ := h
  have fv30 := fit_mono _ _ 30 (by omega) fv
  unfold t_law_bent
  walk_at "de"
  all_goals first
    | (exact ⟨by decide, by decide, by decide⟩)
    | (refine bent_end r (by assumption) (by assumption))
    | skip
  rename_i ht _ i0 _ _ _ _ _
  obtain ⟨xs, rfl⟩ : ∃ xs, v = .tup xs := by
    cases v with
    | tup xs => exact ⟨xs, rfl⟩
    | _ => simp [isTupB] at ht
  obtain ⟨k, rfl, gx⟩ := fitD_tup fv
  simp only [wideD] at hw
  have hpos : (0 : Int) < xs.length := by
    cases xs with
    | nil => simp_all [eqD, eqDs]
    | cons x r => simp only [List.length_cons]; omega
  have hw1 := hw.1
  have gx' : ∀ x ∈ xs, fitD (k + 2) x = true := fun x hx => fit_mono _ _ _ (by omega) (gx x hx)
  have g2 : ∀ lo hi, ∀ x ∈ cutD xs lo hi, fitD (k + 2) x = true := fun lo hi => cut_fit gx'
  walk_at "de"
  all_goals first
    | exact Nat.le_trans (Nat.add_le_add cut_len cut_len) (by rw [sizeLine_eq]; omega)
    | (rw [List.length_append]; exact Nat.le_trans (Nat.add_le_add (Nat.add_le_add cut_len cut_len) cut_len) (by rw [sizeLine_eq]; omega))
    | exact fit_low _ (k + 1 + 2) _ (tup_fit (cat_fit (g2 _ _) (g2 _ _)))
    | exact fit_low _ (k + 1 + 2) _ (tup_fit (cat_fit (cat_fit (g2 _ _) (g2 _ _)) (g2 _ _)))
    | exact fit_low _ (k + 1 + 2) _ (tup_fit fun x hx => gx' x (List.mem_reverse.mp hx))
    | exact r _ _ _ (tup_fit (cat_fit (g2 _ _) (g2 _ _)))
    | exact r _ _ _ (tup_fit (cat_fit (cat_fit (g2 _ _) (g2 _ _)) (g2 _ _)))
    | exact r _ _ _ (tup_fit fun x hx => gx' x (List.mem_reverse.mp hx))
    | skip
  rename_i at_ _ _ ha0 ha1 _ _ _ _ _ _ _ _
  obtain ⟨x, hx1, hx2⟩ := at_mem ha0 ha1
  refine i_ixT hx1 ?_
  walk_at "de"
  refine u_bent0 (gx x hx2) (wideDs_mem hw.2 x hx2) (by omega) fun y a m fy => ?_
  have fy : ∀ z ∈ [y], fitD (k + 2) z = true := fun z hz => by rw [List.mem_singleton.mp hz]; exact fy
  walk_at "de"
  all_goals first
    | exact Nat.le_trans (Nat.add_le_add cut_len (Nat.le_refl _)) (by rw [sizeLine_eq]; simp; omega)
    | (rw [List.length_append]; exact Nat.le_trans (Nat.add_le_add (Nat.add_le_add cut_len (Nat.le_refl _)) cut_len) (by rw [sizeLine_eq]; simp; omega))
    | exact fit_low _ (k + 1 + 2) _ (tup_fit (cat_fit (cat_fit (g2 _ _) fy) (g2 _ _)))
    | exact r _ _ _ (tup_fit (cat_fit (cat_fit (g2 _ _) fy) (g2 _ _)))
end
end L2.DL

set_option Elab.async false
set_option linter.all false
set_option maxRecDepth 100000
set_option maxHeartbeats 4000000
/-! SF: likeness, deeds, what is done. -/
namespace L2.DL
open PySem PySem.Spec PyProof.Rows
theorem u_twins {R : QE} {RE : QX} {a b : D} {m : Nat} (f : fitD m a = true) (g : fitD m b = true) (w : wideD a) (hm : m ≤ 20) (r : R (.bl (twD a b)) []) : F_law_twins (m + 1) [a, b] [] R RE := ⟨rfl, a, b, rfl, f, g, w, hm, r⟩
section
local macro_rules | `(tactic| walk_at "d") => `(tactic| (first
  | with_reducible refine Stp.go ?_
  | with_reducible refine And.intro ?_ ?_
  | with_reducible refine fun _ => ?_
  | ((with_reducible refine s_iteY ?_); refine And.intro rfl ?_)
  | ((with_reducible refine s_iteN ?_); refine And.intro rfl ?_)
  | with_reducible refine iteB (fun _ => ?_) (fun _ => ?_)
  | with_reducible refine i_eq ?_ ?_ ?_
  | with_reducible refine i_ne ?_ ?_ ?_
  | with_reducible refine rtp ?_ ?_
  | with_reducible refine u_isB ?_ ?_
  | with_reducible refine u_isI ?_ ?_
  | with_reducible refine u_isT ?_ ?_
  | with_reducible refine u_isS ?_ ?_
  | with_reducible refine u_isL ?_ ?_
  | with_reducible refine u_isLT ?_ ?_
  | with_reducible refine u_is_within ?_ ?_
  | with_reducible refine u_law_int ?_ ?_
  | with_reducible refine u_is_row ?_ ?_
  | with_reducible refine u_law_made ?_ ?_
  | with_reducible refine u_is_program ?_ ?_
  | with_reducible refine u_law_good_program ?_ ?_
  | with_reducible refine u_is_plan ?_ ?_
  | with_reducible refine u_law_good_plan ?_ ?_
  | with_reducible refine u_law_kind ?_ ?_
  | with_reducible refine u_pick0 ?_ ?_ ?_
  | with_reducible refine u_pickG ?_ ?_ ?_ ?_
  | with_reducible refine u_begin ?_
  | with_reducible refine rtm3 ?_ ?_ ?_
  | ((with_reducible refine s_sLst ?_); refine Exists.intro _ (And.intro rfl (Exists.intro _ (And.intro rfl (Exists.intro _ (And.intro (by simp only [List.set_cons_zero, List.set_cons_succ]; rfl) ?_))))))
  | with_reducible refine i_oIC ?_ ?_
  | with_reducible refine i_addS ?_ ?_
  | with_reducible refine i_addT ?_ ?_
  | with_reducible refine i_addL ?_ ?_
  | with_reducible refine i_trS ?_ ?_
  | with_reducible refine i_lenS ?_ ?_
  | with_reducible refine i_slS ?_ ?_
  | with_reducible refine i_r1Q ?_ ?_
  | with_reducible refine i_r2Q ?_ ?_
  | with_reducible refine i_lsR1Q ?_ ?_
  | with_reducible refine i_lsR2Q ?_ ?_
  | with_reducible refine i_inT ?_ ?_ ?_
  | with_reducible refine i_inL ?_ ?_ ?_
  | with_reducible refine i_ninT ?_ ?_ ?_
  | with_reducible refine i_ninL ?_ ?_ ?_
  | ((with_reducible refine s_tV ?_); refine Exists.intro _ (And.intro rfl ?_))
  | ((with_reducible refine s_ixT ?_); refine Exists.intro _ (And.intro rfl ?_))
  | ((with_reducible refine s_gNm ?_); refine Exists.intro _ (And.intro (by simp only [wipeD, setsD, List.set_cons_zero, List.set_cons_succ]; rfl) ?_))
  | ((with_reducible refine s_stQ ?_); refine Exists.intro _ (And.intro (by simp only [wipeD, setsD, List.set_cons_zero, List.set_cons_succ]; rfl) ?_))
  | ((with_reducible refine s_c1 ?_); refine Exists.intro _ (And.intro (by simp only [wipeD, setsD, List.set_cons_zero, List.set_cons_succ]; rfl) ?_))
  | ((with_reducible refine s_p2 ?_); refine Exists.intro _ (And.intro (by simp only [wipeD, setsD, List.set_cons_zero, List.set_cons_succ]; rfl) ?_))
  | ((with_reducible refine s_p3 ?_); refine Exists.intro _ (And.intro (by simp only [wipeD, setsD, List.set_cons_zero, List.set_cons_succ]; rfl) ?_))
  | ((with_reducible refine s_cN' ?_); refine And.intro rfl (Exists.intro _ (And.intro (by simp only [wipeD, setsD, List.set_cons_zero, List.set_cons_succ]; rfl) ?_)))
  | ((with_reducible refine s_ixL ?_); refine Exists.intro _ (And.intro rfl ?_))
  | ((with_reducible refine s_trO ?_); refine Exists.intro _ (And.intro rfl ?_))
  | ((with_reducible refine s_lenO ?_); refine Exists.intro _ (And.intro rfl ?_))
  | ((with_reducible refine s_listO ?_); refine Exists.intro _ (And.intro rfl ?_))
  | ((with_reducible refine s_ixO ?_); refine Exists.intro _ (And.intro rfl (Exists.intro _ (And.intro rfl ?_))))
  | ((with_reducible refine s_app1 ?_); refine And.intro rfl ?_)
  | ((with_reducible refine s_cN ?_); refine And.intro rfl ?_)
  | ((with_reducible refine s_dgtY ?_); refine Exists.intro _ (And.intro rfl ?_))
  | ((with_reducible refine i_dgtN ?_ ?_); exact rfl)))
local macro_rules | `(tactic| walk_at "ds") => `(tactic| ((try simp only [startD, List.map_cons, List.map_nil, List.length_cons, List.length_nil, List.replicate, Nat.reduceAdd, Nat.reduceSub, List.cons_append, List.nil_append]); repeat' walk_at "d"))
/-- side conditions -/
local macro_rules | `(tactic| walk_at "e") => `(tactic| (first
  | with_reducible assumption
  | ((with_reducible show fitD _ _ = true); (first | rfl | decide +kernel | (exact fit_mono _ 30 _ (by decide) (by assumption))))
  | ((with_reducible show lowDs _ _); (repeat' first | trivial | (exact fit_low _ 30 _ (by assumption)) | refine And.intro ?_ ?_); done)
  | ((with_reducible show lowO _ _); (show lowDs _ _); (repeat' first | trivial | (exact fit_low _ 30 _ (by assumption)) | refine And.intro ?_ ?_); done)
  | ((with_reducible show (_ : Int) < _); (first | decide | omega))
  | ((with_reducible show (_ : Int) ≤ _); (first | decide | omega))
  | ((with_reducible show lowD _ _); (first | trivial | (exact fit_low _ 30 _ (by assumption))))
  | ((with_reducible show List.length _ = _); simp; done)
  | ((with_reducible show _ ≤ sizeLine); rw [sizeLine_eq]; simp; done)
  | ((with_reducible show List.all _ _ = true); (first | rfl | decide +kernel | (simp [fitD]; done)))
  | skip))
local macro_rules | `(tactic| walk_at "de") => `(tactic| (walk_at "ds" <;> walk_at "e"))


theorem twDs_len : ∀ {xs ys : List D}, twDs xs ys = true → xs.length = ys.length
  | [], [], _ => rfl
  | [], _ :: _, h => by simp [twDs] at h
  | _ :: _, [], h => by simp [twDs] at h
  | x :: xs, y :: ys, h => by
    simp only [twDs, Bool.and_eq_true] at h
    rw [List.length_cons, List.length_cons, twDs_len h.2]
def unlike (p : D) : Option D := match p with
  | .tup [a, b] => if twD a b then none else some (.int 1)
  | _ => none
theorem twDs_zip : ∀ {xs ys : List D}, xs.length = ys.length → (twDs xs ys = ((zipD xs ys).filterMap unlike).isEmpty)
  | [], [], _ => by simp [twDs, zipD]
  | [], _ :: _, h => by simp at h
  | _ :: _, [], h => by simp at h
  | x :: xs, y :: ys, h => by
    have ih := twDs_zip (xs := xs) (ys := ys) (by simpa using h)
    simp only [zipD] at ih
    simp only [twDs, zipD, List.zipWith_cons_cons, List.filterMap_cons, unlike]
    rw [ih]
    cases e : twD x y <;> simp
theorem unl_eq (xs : List D) : eqD (.lst (xs.filterMap unlike)) (.lst []) = (xs.filterMap unlike).isEmpty := by
  cases xs.filterMap unlike <;> simp [eqD, eqDs]
theorem unl_fit (xs : List D) : fitD 40 (.lst (xs.filterMap unlike)) = true := by
  simp only [fitD, List.all_eq_true]
  intro x hx
  obtain ⟨p, _, h⟩ := List.mem_filterMap.mp hx
  unfold unlike at h
  split at h
  · split at h
    · cases h
    · cases h; rfl
  · cases h
theorem kind_seq {a : D} (h : inD (.int (kindD a)) [.int 2, .int 3] = true) : (∃ xs, a = .lst xs) ∨ ∃ xs, a = .tup xs := by
  cases a with
  | lst xs => exact .inl ⟨xs, rfl⟩
  | tup xs => exact .inr ⟨xs, rfl⟩
  | _ => simp [inD, eqD, kindD] at h
theorem kind_lst {b : D} (h : kindD b = 2) : ∃ xs, b = .lst xs := by
  cases b with
  | lst xs => exact ⟨xs, rfl⟩
  | _ => simp [kindD] at h
theorem kind_tup {b : D} (h : kindD b = 3) : ∃ xs, b = .tup xs := by
  cases b with
  | tup xs => exact ⟨xs, rfl⟩
  | _ => simp [kindD] at h
theorem zipD_mem {xs ys : List D} {p : D} (h : p ∈ zipD xs ys) : ∃ x y, x ∈ xs ∧ y ∈ ys ∧ p = .tup [x, y] := by
  obtain ⟨i, hi, e⟩ := List.getElem_of_mem h
  obtain ⟨x, y, h1, h2, h3⟩ := zipD_get (i := i) (d := p) (by rw [List.getElem?_eq_getElem hi, e])
  exact ⟨x, y, List.mem_of_getElem? h1, List.mem_of_getElem? h2, h3⟩
theorem twD_kind {a b : D} (h : kindD a ≠ kindD b) : twD a b = false := by
  cases a <;> cases b <;> simp [kindD] at h <;> simp [twD]
theorem twD_eq {a b : D} {m : Nat} (f : fitD m a = true) (g : fitD m b = true) (hk : kindD a = kindD b) (h : inD (.int (kindD a)) [.int 2, .int 3] = false) : eqD a b = twD a b := by
  cases a <;> cases b <;> simp [kindD] at hk <;> first
    | (simp [eqD, twD]; done)
    | (simp [inD, eqD, kindD] at h; done)
    | exact (fit_nodct f).elim
    | exact (fit_noob f).elim
    | exact (fit_noadr f).elim
    | exact (fit_noty f).elim
theorem lc_twins {n : Nat} {xs ys : List D} {R : QE} {ρ : En} (hx : ∀ x ∈ xs, fitD n x = true) (hy : ∀ x ∈ ys, fitD n x = true) (hw : wideDs xs) (hl : xs.length ≤ 100000) (hn : n ≤ 20) (h4 : ρ.length = 4) (r : R (.lst ((zipD xs ys).filterMap unlike)) []) :
    lcD (cN [2, 3]) (tNt (tTru (tCaP 2 (F_law_twins (n + 1)) (tConsA (tV 2) (tConsA (tV 3) tNilA))))) (tK (.int 1)) [2, 3] ρ R (zipD xs ys) [] := by
  obtain ⟨r0, r1, r2, r3, rfl⟩ : ∃ a b c d, ρ = [a, b, c, d] := by
    match ρ, h4 with
    | [a, b, c, d], _ => exact ⟨a, b, c, d, rfl⟩
  refine lc_pure (zipD xs ys) unlike (by unfold zipD; rw [List.length_zipWith, sizeLine_eq]; omega) (fun p hp Q N hQ hN => ?_) r
  obtain ⟨x, y, h1, h2, rfl⟩ := zipD_mem hp
  have fx := hx x h1
  have fy := hy y h2
  have wx := wideDs_mem hw x h1
  have fx30 := fit_mono _ _ 30 (by omega) fx
  have fy30 := fit_mono _ _ 30 (by omega) fy
  walk_at "de"
  refine u_twins fx fy wx hn ?_
  walk_at "de"
  · exact hQ _ (by unfold unlike; simp_all)
  · exact hN (by unfold unlike; simp_all)
theorem rd_law_twins (m : Nat) (ds : List D) (R : QE) (h : P_law_twins m ds fun d => R d []) : t_law_twins m (endP R) (startD 4 ds) [] := by
  obtain ⟨a, b, rfl, fa, fb, hw, hm, r⟩ := h
  have fa30 := fit_mono _ _ 30 (by omega) fa
  have fb30 := fit_mono _ _ 30 (by omega) fb
  unfold t_law_twins
  walk_at "de"
  · rename_i h
    refine rB r ?_
    rw [twD_kind]
    simp only [eqD, Bool.not_eq_true', decide_eq_false_iff_not] at h
    exact h
  · rename_i hk _ hs
    have hk : kindD a = kindD b := by simpa [eqD] using hk
    rcases kind_seq hs with ⟨xs, rfl⟩ | ⟨xs, rfl⟩
    · obtain ⟨ys, rfl⟩ := kind_lst hk.symm
      obtain ⟨n, rfl, gx⟩ := fitD_lst fa
      obtain ⟨n', e, gy⟩ := fitD_lst fb
      cases e
      simp only [wideD] at hw
      walk_at "de"
      · rename_i hl
        have hl : xs.length = ys.length := by simp only [eqD, decide_eq_true_eq] at hl; omega
        refine lc_twins gx gy hw.2 hw.1 (by omega) rfl ?_
        have hu := unl_fit (zipD xs ys)
        walk_at "de"
        refine rB r ?_
        rw [unl_eq, ← twDs_zip hl]
        simp [twD]
      · rename_i hl
        refine rB r ?_
        rw [hl]
        cases e : twD (.lst xs) (.lst ys) with
        | false => rfl
        | true =>
          simp only [twD] at e
          simp [eqD, twDs_len e] at hl
    · obtain ⟨ys, rfl⟩ := kind_tup hk.symm
      obtain ⟨n, rfl, gx⟩ := fitD_tup fa
      obtain ⟨n', e, gy⟩ := fitD_tup fb
      cases e
      simp only [wideD] at hw
      walk_at "de"
      · rename_i hl
        have hl : xs.length = ys.length := by simp only [eqD, decide_eq_true_eq] at hl; omega
        refine lc_twins gx gy hw.2 hw.1 (by omega) rfl ?_
        have hu := unl_fit (zipD xs ys)
        walk_at "de"
        refine rB r ?_
        rw [unl_eq, ← twDs_zip hl]
        simp [twD]
      · rename_i hl
        refine rB r ?_
        rw [hl]
        cases e : twD (.tup xs) (.tup ys) with
        | false => rfl
        | true =>
          simp only [twD] at e
          simp [eqD, twDs_len e] at hl
  · rename_i hk _ hs
    have hk : kindD a = kindD b := by simpa [eqD] using hk
    exact rB r (twD_eq fa fb hk hs)
theorem rD {R : QE} {L : Sto} {a b : D} (r : R a L) (e : b = a) : R b L := by rw [e]; exact r
theorem cut_one (w : Str) : cutD ([.str w] ++ [.int 0]) none (some 2) = [.str w, .int 0] := rfl
theorem cut_two (w : Str) (n : Int) : cutD ([.str w, .int n] ++ [.int 0]) none (some 2) = [.str w, .int n] := rfl
theorem rd_law_done (ds : List D) (R : QE) (h : ∃ (P : Pl) (S : Sd) (e : Dd), ds = [P.d, S.d, e.d] ∧ P.ok ∧ R (tellD (doneS P S e)) []) : t_law_done (endP R) (startD 16 ds) [] := by
  obtain ⟨⟨tol, wait, each, most, spread, lean⟩, ⟨off, want, left, hand, leans, locked⟩, e, rfl, hP, r⟩ := h
  unfold t_law_done
  cases e <;> (walk_at "de"; (first | rw [cut_one] | rw [cut_two]); walk_at "de")
  all_goals (try ((with_reducible show dgtQ _ _ _ _ _); cases each <;> walk_at "de"))
  all_goals (refine rD r ?_; clear r hP; simp only [eqD, decide_eq_true_eq, decide_eq_false_iff_not, Bool.not_eq_true', Bool.not_eq_false', doneS, behind] at *)
  all_goals ((repeat' split) <;> first | rfl | (exfalso; omega) | (simp_all; done))
end
end L2.DL

set_option Elab.async false
set_option linter.all false
set_option maxRecDepth 100000
set_option maxHeartbeats 1000000
/-! SH: the deeds at a stand. -/
namespace L2.DL
open PySem PySem.Spec PyProof.Rows
theorem s_appD0 {R : QE} {xs : List D} {y : D} (hl : xs.length < sizeLine) (r : R .non [.lst (xs ++ [y])]) : appD 0 R [y] [.lst xs] := i_appD rfl hl r
section
local macro_rules | `(tactic| walk_at "d") => `(tactic| (first
  | with_reducible refine Stp.go ?_
  | with_reducible refine And.intro ?_ ?_
  | with_reducible refine fun _ => ?_
  | ((with_reducible refine s_iteY ?_); refine And.intro rfl ?_)
  | ((with_reducible refine s_iteN ?_); refine And.intro rfl ?_)
  | with_reducible refine iteB (fun _ => ?_) (fun _ => ?_)
  | with_reducible refine i_eq ?_ ?_ ?_
  | with_reducible refine i_ne ?_ ?_ ?_
  | with_reducible refine rtp ?_ ?_
  | with_reducible refine u_isB ?_ ?_
  | with_reducible refine u_isI ?_ ?_
  | with_reducible refine u_isT ?_ ?_
  | with_reducible refine u_isS ?_ ?_
  | with_reducible refine u_isL ?_ ?_
  | with_reducible refine u_isLT ?_ ?_
  | with_reducible refine u_is_within ?_ ?_
  | with_reducible refine u_law_int ?_ ?_
  | with_reducible refine u_is_row ?_ ?_
  | with_reducible refine u_law_made ?_ ?_
  | with_reducible refine u_is_program ?_ ?_
  | with_reducible refine u_law_good_program ?_ ?_
  | with_reducible refine u_is_plan ?_ ?_
  | with_reducible refine u_law_good_plan ?_ ?_
  | with_reducible refine u_law_kind ?_ ?_
  | with_reducible refine u_pick0 ?_ ?_ ?_
  | with_reducible refine u_pickG ?_ ?_ ?_ ?_
  | with_reducible refine u_look ?_ ?_
  | with_reducible refine u_fits ?_ ?_ ?_
  | with_reducible refine u_program0 ?_
  | with_reducible refine u_plan0 ?_
  | with_reducible refine u_begin ?_
  | with_reducible refine s_appD0 ?_ ?_
  | with_reducible refine rtm3 ?_ ?_ ?_
  | ((with_reducible refine s_sLst ?_); refine Exists.intro _ (And.intro rfl (Exists.intro _ (And.intro rfl (Exists.intro _ (And.intro (by simp only [List.set_cons_zero, List.set_cons_succ]; rfl) ?_))))))
  | with_reducible refine i_oIC ?_ ?_
  | with_reducible refine i_addS ?_ ?_
  | with_reducible refine i_addT ?_ ?_
  | with_reducible refine i_addL ?_ ?_
  | with_reducible refine i_trS ?_ ?_
  | with_reducible refine i_lenS ?_ ?_
  | with_reducible refine i_slS ?_ ?_
  | with_reducible refine i_r1Q ?_ ?_
  | with_reducible refine i_r2Q ?_ ?_
  | with_reducible refine i_lsR1Q ?_ ?_
  | with_reducible refine i_lsR2Q ?_ ?_
  | with_reducible refine i_inT ?_ ?_ ?_
  | with_reducible refine i_inL ?_ ?_ ?_
  | with_reducible refine i_ninT ?_ ?_ ?_
  | with_reducible refine i_ninL ?_ ?_ ?_
  | ((with_reducible refine s_tV ?_); refine Exists.intro _ (And.intro rfl ?_))
  | ((with_reducible refine s_ixT ?_); refine Exists.intro _ (And.intro rfl ?_))
  | ((with_reducible refine s_gNm ?_); refine Exists.intro _ (And.intro (by simp only [wipeD, setsD, List.set_cons_zero, List.set_cons_succ]; rfl) ?_))
  | ((with_reducible refine s_stQ ?_); refine Exists.intro _ (And.intro (by simp only [wipeD, setsD, List.set_cons_zero, List.set_cons_succ]; rfl) ?_))
  | ((with_reducible refine s_c1 ?_); refine Exists.intro _ (And.intro (by simp only [wipeD, setsD, List.set_cons_zero, List.set_cons_succ]; rfl) ?_))
  | ((with_reducible refine s_p2 ?_); refine Exists.intro _ (And.intro (by simp only [wipeD, setsD, List.set_cons_zero, List.set_cons_succ]; rfl) ?_))
  | ((with_reducible refine s_p3 ?_); refine Exists.intro _ (And.intro (by simp only [wipeD, setsD, List.set_cons_zero, List.set_cons_succ]; rfl) ?_))
  | ((with_reducible refine s_cN' ?_); refine And.intro rfl (Exists.intro _ (And.intro (by simp only [wipeD, setsD, List.set_cons_zero, List.set_cons_succ]; rfl) ?_)))
  | ((with_reducible refine s_ixL ?_); refine Exists.intro _ (And.intro rfl ?_))
  | ((with_reducible refine s_trO ?_); refine Exists.intro _ (And.intro rfl ?_))
  | ((with_reducible refine s_lenO ?_); refine Exists.intro _ (And.intro rfl ?_))
  | ((with_reducible refine s_listO ?_); refine Exists.intro _ (And.intro rfl ?_))
  | ((with_reducible refine s_ixO ?_); refine Exists.intro _ (And.intro rfl (Exists.intro _ (And.intro rfl ?_))))
  | ((with_reducible refine s_app1 ?_); refine And.intro rfl ?_)
  | ((with_reducible refine s_cN ?_); refine And.intro rfl ?_)
  | ((with_reducible refine s_dgtY ?_); refine Exists.intro _ (And.intro rfl ?_))
  | ((with_reducible refine i_dgtN ?_ ?_); exact rfl)))
local macro_rules | `(tactic| walk_at "ds") => `(tactic| ((try simp only [startD, List.map_cons, List.map_nil, List.length_cons, List.length_nil, List.replicate, Nat.reduceAdd, Nat.reduceSub, List.cons_append, List.nil_append]); repeat' walk_at "d"))
/-- side conditions -/
local macro_rules | `(tactic| walk_at "e") => `(tactic| (first
  | with_reducible assumption
  | ((with_reducible show fitD _ _ = true); (first | rfl | decide +kernel | (exact fit_mono _ 30 _ (by decide) (by assumption))))
  | ((with_reducible show lowDs _ _); (repeat' first | trivial | (exact fit_low _ 30 _ (by assumption)) | refine And.intro ?_ ?_); done)
  | ((with_reducible show lowO _ _); (show lowDs _ _); (repeat' first | trivial | (exact fit_low _ 30 _ (by assumption)) | refine And.intro ?_ ?_); done)
  | ((with_reducible show (_ : Int) < _); (first | decide | omega))
  | ((with_reducible show (_ : Int) ≤ _); (first | decide | omega))
  | ((with_reducible show lowD _ _); (first | trivial | (exact fit_low _ 30 _ (by assumption))))
  | ((with_reducible show List.length _ = _); simp; done)
  | ((with_reducible show _ ≤ sizeLine); rw [sizeLine_eq]; simp; done)
  | ((with_reducible show List.all _ _ = true); (first | rfl | decide +kernel | (simp [fitD]; done)))
  | skip))
local macro_rules | `(tactic| walk_at "de") => `(tactic| (walk_at "ds" <;> walk_at "e"))


theorem dd_alike (a b : Dd) : PySem.W.alike (pdOf a.d) (pdOf b.d) = true := by
  cases a <;> cases b <;> simp [Dd.d, pdOf, pdOfs, PySem.W.alike, PySem.W.alikeAll]
theorem dd_fit (a : Dd) : fitD 2 a.d = true := by cases a <;> first
    | decide +kernel
    | (simp only [fitD, List.all_cons, List.all_nil, Bool.and_true]; decide +kernel)
theorem dd_sorts (ds : List Dd) : sortsB (ds.map Dd.d) = true := by
  unfold sortsB
  rw [Bool.and_eq_true, Bool.and_eq_true, Bool.or_eq_true]
  refine ⟨⟨?_, .inl ?_⟩, ?_⟩
  · simp only [List.all_map, List.all_eq_true, Function.comp_apply]
    intro a _ b _
    exact dd_alike a b
  · simp only [List.all_map, List.all_eq_true, Function.comp_apply]
    intro a _
    cases a <;> rfl
  · simp only [List.all_map, List.all_eq_true, Function.comp_apply]
    intro a _
    exact fit_mono _ 2 _ (by decide) (dd_fit a)
def f1 (S : Sd) (x : D) : List D := (Dd.hide (isI x)).d :: (if S.want = 0 then [(Dd.read (isI x)).d] else [])
def f2 (S : Sd) (x : D) : List D := if S.hand ≠ 0 ∧ 0 < S.hand + isI x then [(Dd.lay (isI x)).d] else []
theorem deeds_eq (P : Pl) (S : Sd) : (deedsRaw P S).map Dd.d = [Dd.wait.d] ++ (rangeD 1 P.most.toNat).flatMap (f1 S) ++ (rangeD (-P.spread) (P.spread + 1 - -P.spread).toNat).flatMap (f2 S) ++ (if P.lean then [if S.leans then Dd.off.d else Dd.lean.d] else []) := by
  unfold deedsRaw rangeD
  simp only [List.map_append, List.map_cons, List.flatMap_map, List.map_flatMap, List.cons_append, List.nil_append]
  congr 1
  congr 1
  · congr 1
    · congr 1
      funext i
      unfold f1 isI
      split <;> rfl
    · congr 1
      funext i
      unfold f2 isI
      split <;> rfl
  · split
    · split <;> rfl
    · rfl
theorem len_f1 (S : Sd) : ∀ l : List D, (l.flatMap (f1 S)).length ≤ 2 * l.length
  | [] => by simp
  | x :: l => by
    have := len_f1 S l
    rw [List.flatMap_cons, List.length_append, List.length_cons]
    have h : (f1 S x).length ≤ 2 := by unfold f1; split <;> simp
    omega
theorem len_f2 (S : Sd) : ∀ l : List D, (l.flatMap (f2 S)).length ≤ l.length
  | [] => by simp
  | x :: l => by
    have := len_f2 S l
    rw [List.flatMap_cons, List.length_append, List.length_cons]
    have h : (f2 S x).length ≤ 1 := by unfold f2; split <;> simp
    omega
theorem range_int {lo : Int} {n : Nat} {x : D} (h : x ∈ rangeD lo n) : ∃ t, x = .int t := by
  obtain ⟨i, _, e⟩ := List.mem_map.mp h
  exact ⟨_, e.symm⟩
theorem low_sort (ds : List Dd) : lowD 0 (.lst (sortD (ds.map Dd.d))) := by
  show lowDs 0 (sortD (ds.map Dd.d))
  refine lowDs_of fun x hx => ?_
  have h := (List.mergeSort_perm (ds.map Dd.d) (PySem.W.dataLe false pdOf)).mem_iff.mp hx
  obtain ⟨a, _, rfl⟩ := List.mem_map.mp h
  exact fit_low _ 2 _ (dd_fit a)
theorem rd_law_deeds (ds : List D) (R : QE) (h : ∃ (P : Pl) (S : Sd), ds = [P.d, S.d] ∧ P.ok ∧ R (.lst (deedsL P S)) []) : t_law_deeds (endP R) (startD 8 ds) [] := by
  obtain ⟨P, S, rfl, hP, r⟩ := h
  obtain ⟨t0, t1, w0, w1, m0, m1, s0, s1⟩ := hP
  unfold t_law_deeds
  walk_at "de"
  · rename_i hl
    unfold deedsL at r
    rw [if_pos hl] at r
    exact r
  rename_i hl
  unfold deedsL at r
  rw [if_neg (by rw [hl]; decide), deeds_eq] at r
  rw [show (P.most + 1 - 1).toNat = P.most.toNat by omega]
  refine fr_by (fun rest ρ L => ∃ done x6, done ++ rest = rangeD 1 P.most.toNat ∧ L = [.lst ([Dd.wait.d] ++ done.flatMap (f1 S))] ∧ ρ = [some P.d, some S.d, some (.int P.most), some (.int P.spread), some (.bl P.lean), some (.ob 0), x6, none]) ⟨[], none, rfl, rfl, rfl⟩ ?_ ?_
  · rintro x rest ρ L ⟨done, x6, hd, rfl, rfl⟩
    obtain ⟨t, rfl⟩ := range_int (show x ∈ rangeD 1 P.most.toNat by rw [← hd]; simp)
    have hlen : ([Dd.wait.d] ++ done.flatMap (f1 S)).length ≤ 10 := by
      have h1 := congrArg List.length hd
      simp [rangeD] at h1
      have h2 := len_f1 S done
      simp only [List.length_append, List.length_cons, List.length_nil]
      omega
    walk_at "de"
    all_goals first
      | (rw [sizeLine_eq]; simp only [List.length_append, List.length_cons, List.length_nil] at *; omega)
      | (rename_i hw; exact ⟨done ++ [.int t], _, by simpa using hd, by simp_all [f1, eqD, isI], rfl⟩)
  · rintro ρ L ⟨done, x6, hd, rfl, rfl⟩
    have hd : done = rangeD 1 P.most.toNat := by simpa using hd
    subst hd
    have hlen0 : ([Dd.wait.d] ++ (rangeD 1 P.most.toNat).flatMap (f1 S)).length ≤ 10 := by
      have h2 := len_f1 S (rangeD 1 P.most.toNat)
      rw [rangeD_length] at h2
      simp only [List.length_append, List.length_cons, List.length_nil]
      omega
    generalize hA : [Dd.wait.d] ++ (rangeD 1 P.most.toNat).flatMap (f1 S) = A at *
    walk_at "de"
    refine fr_by (fun rest ρ L => ∃ done x7, done ++ rest = rangeD (-P.spread) (P.spread + 1 - -P.spread).toNat ∧ L = [.lst (A ++ done.flatMap (f2 S))] ∧ ρ = [some P.d, some S.d, some (.int P.most), some (.int P.spread), some (.bl P.lean), some (.ob 0), x6, x7]) ⟨[], none, rfl, by simp, rfl⟩ ?_ ?_
    · rintro x rest ρ L ⟨done, x7, hd, rfl, rfl⟩
      obtain ⟨t, rfl⟩ := range_int (show x ∈ rangeD (-P.spread) (P.spread + 1 - -P.spread).toNat by rw [← hd]; simp)
      have hlen : (A ++ done.flatMap (f2 S)).length ≤ 20 := by
        have h1 := congrArg List.length hd
        simp [rangeD] at h1
        have h2 := len_f2 S done
        rw [List.length_append]
        omega
      walk_at "de"
      all_goals first
        | (rw [sizeLine_eq]; omega)
        | (exact ⟨done ++ [.int t], _, by simpa using hd, by simp_all [f2, eqD, isI], rfl⟩)
        | (exact ⟨done ++ [.int t], _, by simpa using hd, by simp_all [f2, eqD, isI]; omega, rfl⟩)
    · rintro ρ L ⟨done, x7, hd, rfl, rfl⟩
      have hd : done = rangeD (-P.spread) (P.spread + 1 - -P.spread).toNat := by simpa using hd
      subst hd
      have hlen1 : (A ++ (rangeD (-P.spread) (P.spread + 1 - -P.spread).toNat).flatMap (f2 S)).length ≤ 20 := by
        have h2 := len_f2 S (rangeD (-P.spread) (P.spread + 1 - -P.spread).toNat)
        rw [rangeD_length] at h2
        rw [List.length_append]
        omega
      have hs : ∀ B : List D, A ++ (rangeD (-P.spread) (P.spread + 1 - -P.spread).toNat).flatMap (f2 S) ++ (if P.lean then [if S.leans then Dd.off.d else Dd.lean.d] else []) = B → sortsB B = true := by
        rintro B rfl
        rw [← hA, ← deeds_eq]
        exact dd_sorts _
      have hw : ∀ B : List D, A ++ (rangeD (-P.spread) (P.spread + 1 - -P.spread).toNat).flatMap (f2 S) ++ (if P.lean then [if S.leans then Dd.off.d else Dd.lean.d] else []) = B → lowD 0 (.lst (sortD B)) := by
        rintro B rfl
        rw [← hA, ← deeds_eq]
        exact low_sort _
      generalize hB : A ++ (rangeD (-P.spread) (P.spread + 1 - -P.spread).toNat).flatMap (f2 S) = B at *
      walk_at "de"
      all_goals first
        | (rw [sizeLine_eq]; omega)
        | (rename_i h1 h2; simp only [h1, h2, if_true, if_false, Bool.false_eq_true] at r hs hw; refine i_sortO rfl (hs _ rfl) ?_; exact rtp (hw _ rfl) r)
        | (rename_i h1; simp only [h1, if_false, Bool.false_eq_true, List.append_nil] at r hs hw; refine i_sortO rfl (hs _ rfl) ?_; exact rtp (hw _ rfl) r)
end
end L2.DL

set_option Elab.async false
set_option linter.all false
set_option maxRecDepth 100000
set_option maxHeartbeats 1000000
/-! SI: the program's own deeds: stands that come up, deeds, steps. -/
namespace L2.DL
open PySem PySem.Spec PyProof.Rows
abbrev c_MOST_DEEDS : D := .int 60
abbrev c_GROWING : D := .tup [.str "hide", .str "lay", .str "lean"]

/-! ### values alike -/
mutual
def sameD : D → D → Bool
  | .non, .non => true
  | .bl a, .bl b => a == b
  | .int a, .int b => decide (a = b)
  | .str a, .str b => decide (a = b)
  | .lst xs, .lst ys => sameDs xs ys
  | .tup xs, .tup ys => sameDs xs ys
  | .dct xs ys, .dct us vs => sameDs xs us && sameDs ys vs
  | .ob n, .ob m => n == m
  | .adr n, .adr m => decide (n = m)
  | .ty n, .ty m => decide (n = m)
  | _, _ => false
def sameDs : List D → List D → Bool
  | [], [] => true
  | x :: xs, y :: ys => sameD x y && sameDs xs ys
  | _, _ => false
end
mutual
theorem sameD_eq : ∀ a b : D, sameD a b = true → a = b
  | .non, b, h => by cases b <;> simp [sameD] at h ⊢
  | .bl a, b, h => by cases b <;> simp [sameD] at h ⊢; exact h
  | .int a, b, h => by cases b <;> simp [sameD] at h ⊢; exact h
  | .str a, b, h => by cases b <;> simp [sameD] at h ⊢; exact h
  | .ob a, b, h => by cases b <;> simp [sameD] at h ⊢; exact h
  | .adr a, b, h => by cases b <;> simp [sameD] at h ⊢; exact h
  | .ty a, b, h => by cases b <;> simp [sameD] at h ⊢; exact h
  | .tup xs, b, h => by
    cases b <;> simp [sameD] at h ⊢
    exact sameDs_eq xs _ h
  | .lst xs, b, h => by
    cases b <;> simp [sameD] at h ⊢
    exact sameDs_eq xs _ h
  | .dct xs ys, b, h => by
    cases b <;> simp [sameD] at h ⊢
    exact ⟨sameDs_eq xs _ h.1, sameDs_eq ys _ h.2⟩
theorem sameDs_eq : ∀ a b : List D, sameDs a b = true → a = b
  | [], b, h => by cases b <;> simp [sameDs] at h ⊢
  | x :: xs, [], h => by simp [sameDs] at h
  | x :: xs, y :: ys, h => by
    simp only [sameDs, Bool.and_eq_true] at h
    rw [sameD_eq x y h.1, sameDs_eq xs ys h.2]
end

/-! ### what is possible -/
def Poss (P : Pl) (S : Sd) : Dd → Prop
  | .free => S.locked = true
  | .wait => S.locked = false
  | .hide n => S.locked = false ∧ 1 ≤ n ∧ n ≤ P.most
  | .read n => S.locked = false ∧ S.want = 0 ∧ 1 ≤ n ∧ n ≤ P.most
  | .lay n => S.locked = false ∧ S.hand ≠ 0 ∧ -P.spread ≤ n ∧ n ≤ P.spread ∧ 0 < S.hand + n
  | .lean => S.locked = false ∧ P.lean = true ∧ S.leans = false
  | .off => S.locked = false ∧ P.lean = true ∧ S.leans = true
theorem mem_raw {P : Pl} {S : Sd} {e : Dd} (hl : S.locked = false) : e ∈ deedsRaw P S ↔ Poss P S e ∧ e ≠ .free := by
  unfold deedsRaw
  simp only [List.mem_append, List.mem_cons, List.mem_flatMap, List.mem_range]
  constructor
  · rintro (((rfl | ⟨i, hi, h⟩) | ⟨i, hi, h⟩) | h)
    · exact ⟨hl, by simp⟩
    · rcases h with rfl | h
      · exact ⟨⟨hl, by omega, by omega⟩, by simp⟩
      · split at h
        · rename_i h0
          rw [List.mem_singleton.mp h]
          exact ⟨⟨hl, h0, by omega, by omega⟩, by simp⟩
        · cases h
    · split at h
      · rename_i h0
        rw [List.mem_singleton.mp h]
        exact ⟨⟨hl, h0.1, by omega, by omega, h0.2⟩, by simp⟩
      · cases h
    · split at h
      · rename_i h0
        rw [List.mem_singleton.mp h]
        cases hs : S.leans
        · exact ⟨⟨hl, h0, hs⟩, by simp⟩
        · exact ⟨⟨hl, h0, hs⟩, by simp⟩
      · cases h
  · rintro ⟨h, hf⟩
    cases e with
    | free => exact absurd rfl hf
    | wait => exact .inl (.inl (.inl rfl))
    | hide n => exact .inl (.inl (.inr ⟨(n - 1).toNat, by have := h.2; omega, .inl (by have := h.2; congr 1; omega)⟩))
    | read n => exact .inl (.inl (.inr ⟨(n - 1).toNat, by have := h.2; omega, .inr (by
        rw [if_pos h.2.1]
        have := h.2
        exact List.mem_singleton.mpr (by congr 1; omega))⟩))
    | lay n => exact .inl (.inr ⟨(n + P.spread).toNat, by have := h.2; omega, by
        have e : -P.spread + ((n + P.spread).toNat : Int) = n := by have := h.2; omega
        rw [e, if_pos ⟨h.2.1, h.2.2.2.2⟩]
        exact List.mem_singleton.mpr rfl⟩)
    | lean => exact .inr (by rw [if_pos h.2.1, h.2.2]; exact List.mem_singleton.mpr rfl)
    | off => exact .inr (by rw [if_pos h.2.1, h.2.2]; exact List.mem_singleton.mpr rfl)
theorem mem_deedsL {P : Pl} {S : Sd} {x : D} : x ∈ deedsL P S ↔ ∃ e : Dd, x = e.d ∧ Poss P S e := by
  unfold deedsL
  split
  · rename_i hl
    constructor
    · intro h; exact ⟨.free, List.mem_singleton.mp h, hl⟩
    · rintro ⟨e, rfl, h⟩
      cases e with
      | free => exact List.mem_singleton.mpr rfl
      | _ => first | (have h := h.1; rw [hl] at h; cases h) | (have h : S.locked = false := h; rw [hl] at h; cases h)
  · rename_i hl
    have hl : S.locked = false := by simpa using hl
    unfold sortD
    rw [List.mem_mergeSort, List.mem_map]
    constructor
    · rintro ⟨e, h, rfl⟩; exact ⟨e, rfl, ((mem_raw hl).mp h).1⟩
    · rintro ⟨e, rfl, h⟩
      refine ⟨e, (mem_raw hl).mpr ⟨h, ?_⟩, rfl⟩
      rintro rfl
      have h : S.locked = true := h
      rw [hl] at h; cases h

/-! ### stands that come up -/
structure Up (P : Pl) (S : Sd) : Prop where
  lock : S.locked = true → S = lockedS
  w0 : 0 ≤ S.want
  w1 : S.want ≤ P.most
  hd : S.hand = 0 ∨ S.hand = S.want
  ln : S.leans = true → P.lean = true
  rd : S.want = 0 → S.left = 0 ∧ -P.tol ≤ S.off ∧ S.off ≤ P.tol
  wt : S.want ≠ 0 → 1 ≤ S.left ∧ S.left ≤ P.wait ∧ -P.tol - (P.wait - S.left) ≤ S.off ∧ S.off ≤ P.tol + 5 * (P.wait - S.left)
theorem Up.begin {P : Pl} (h : P.ok) : Up P beginS := by
  refine ⟨by simp, by simp, ?_, by simp, by simp, fun _ => ⟨rfl, ?_, ?_⟩, by simp⟩
  · have := h.m0; simp; omega
  · have := h.t0; simp; omega
  · have := h.t0; simp; omega
theorem Up.lk {P : Pl} (h : P.ok) : Up P lockedS := by
  refine ⟨by simp, by simp, ?_, by simp, by simp, fun _ => ⟨rfl, ?_, ?_⟩, by simp⟩
  · have := h.m0; simp; omega
  · have := h.t0; simp; omega
  · have := h.t0; simp; omega
theorem Up.fits {P : Pl} {S : Sd} (h : P.ok) (u : Up P S) : fitsB P S.d = true := by
  obtain ⟨off, want, left, hand, leans, locked⟩ := S
  obtain ⟨lock, w0, w1, hd, ln, rd, wt⟩ := u
  obtain ⟨h1, h2, h3, h4, h5, h6, h7, h8⟩ := h
  dsimp only at *
  unfold fitsB Sd.d fitsI
  dsimp only
  cases locked with
  | true =>
    have e := lock rfl
    cases e
    rfl
  | false =>
    have hl : (leans && !P.lean) = false := by
      cases leans
      · rfl
      · rw [ln rfl]; rfl
    by_cases hw : want = 0
    · obtain ⟨a, b, c⟩ := rd hw
      simp only [Bool.and_eq_true, decide_eq_true_eq, if_neg Bool.false_ne_true, hl, Bool.not_false, if_pos hw]
      refine ⟨⟨⟨⟨?_, ?_⟩, ?_⟩, ?_⟩, ⟨⟨?_, ?_⟩, trivial⟩, ?_⟩ <;> omega
    · obtain ⟨a, b, c, d⟩ := wt hw
      simp only [Bool.and_eq_true, decide_eq_true_eq, if_neg Bool.false_ne_true, hl, Bool.not_false, if_neg hw]
      refine ⟨⟨⟨⟨?_, ?_⟩, ?_⟩, ?_⟩, ⟨⟨?_, ?_⟩, trivial⟩, ?_⟩ <;> omega
/-- what fits, by its parts -/
structure Fits (P : Pl) (S : Sd) : Prop where
  lock : S.locked = true → S = lockedS
  w0 : 0 ≤ S.want
  w1 : S.want ≤ P.most
  hd : S.hand = 0 ∨ S.hand = S.want
  wt : S.want ≠ 0 → 1 ≤ S.left
theorem fits_of {P : Pl} {S : Sd} (hP : P.ok) (h : fitsB P S.d = true) : Fits P S := by
  obtain ⟨off, want, left, hand, leans, locked⟩ := S
  unfold fitsB Sd.d fitsI at h
  dsimp only at h
  have := hP.m0
  cases locked with
  | true =>
    simp only [Bool.and_eq_true, decide_eq_true_eq, if_pos] at h
    obtain ⟨_, ⟨rfl, rfl, rfl, rfl⟩, hl⟩ := h
    have hl : leans = false := by simpa using hl
    subst hl
    exact ⟨fun _ => rfl, by simp, by simp; omega, by simp, by simp⟩
  | false =>
    simp only [Bool.and_eq_true, decide_eq_true_eq, if_neg Bool.false_ne_true] at h
    obtain ⟨_, ⟨⟨⟨a, b⟩, c⟩, d⟩, e⟩ := h
    refine ⟨fun z => absurd (show false = true from z) Bool.false_ne_true, a, b, c, fun hw => ?_⟩
    dsimp only at hw ⊢
    rw [if_neg hw] at e
    simp only [decide_eq_true_eq] at e
    exact e.1
theorem Up.step {P : Pl} {S : Sd} {e : Dd} (h : P.ok) (u : Up P S) (p : Poss P S e) : Up P (doneS P S e).1 := by
  obtain ⟨off, want, left, hand, leans, locked⟩ := S
  obtain ⟨lock, w0, w1, hd, ln, rd, wt⟩ := u
  obtain ⟨h1, h2, h3, h4, h5, h6, h7, h8⟩ := h
  have lk := Up.lk ⟨h1, h2, h3, h4, h5, h6, h7, h8⟩
  have bg := Up.begin ⟨h1, h2, h3, h4, h5, h6, h7, h8⟩
  dsimp only at *
  have key : ∀ (off' hand' : Int) (leans' : Bool) (weight : Int), locked = false → (leans' = true → P.lean = true) → (hand' = 0 ∨ hand' = want) → off - 1 ≤ off' → off' ≤ off + 5 →
      Up P (behind P ⟨off, want, left, hand, leans, locked⟩ off' hand' leans' weight).1 := by
    intro off' hand' leans' weight hlk hl hh o1 o2
    unfold behind
    dsimp only
    by_cases hw : want = 0
    · rw [if_neg (by simp [hw])]
      by_cases ha : (if off' < 0 then -off' else off') ≤ P.tol
      · rw [if_pos ha]
        rw [abs_le] at ha
        exact ⟨fun z => absurd (show false = true from z) Bool.false_ne_true, by simp, by simp; omega, .inl rfl, hl, fun _ => ⟨rfl, ha⟩, fun z => absurd rfl z⟩
      · rw [if_neg ha]; exact lk
    · rw [if_pos hw]
      obtain ⟨a, b, c, d⟩ := wt hw
      by_cases ha : off < off' ∧ (if off' - want < 0 then -(off' - want) else off' - want) ≤ P.tol
      · rw [if_pos ha]
        obtain ⟨ha1, ha2⟩ := ha
        rw [abs_le] at ha2
        refine ⟨fun z => absurd (show false = true from z) Bool.false_ne_true, by simp, by simp; omega, .inl rfl, hl, fun _ => ⟨rfl, ?_, ?_⟩, fun z => absurd rfl z⟩
        · dsimp only
          split <;> omega
        · dsimp only
          split <;> omega
      · rw [if_neg ha]
        by_cases hn : left ≠ 1
        · rw [if_pos hn]
          exact ⟨fun z => absurd (show false = true from z) Bool.false_ne_true, w0, w1, hh, hl, fun z => absurd z hw, fun _ => ⟨by dsimp only; omega, by dsimp only; omega, by dsimp only; omega, by dsimp only; omega⟩⟩
        · rw [if_neg hn]; exact lk
  cases e with
  | free => exact bg
  | read n =>
    obtain ⟨p1, p2, p3, p4⟩ := p
    obtain ⟨a, b, c⟩ := rd p2
    dsimp only at p1
    refine ⟨fun z => absurd (show false = true from z) Bool.false_ne_true, by show 0 ≤ n; omega, p4, .inr rfl, ln, fun z => ?_, fun _ => ⟨?_, ?_, ?_, ?_⟩⟩
    · have z : n = 0 := z
      omega
    all_goals (simp only [doneS]; omega)
  | wait => exact key _ _ _ _ p ln hd (by dsimp only; omega) (by dsimp only; omega)
  | hide n => exact key _ _ _ _ p.1 ln hd (by have := p.2; dsimp only; omega) (by have := p.2; dsimp only; omega)
  | lay n =>
    obtain ⟨p1, p2, p3, p4, p5⟩ := p
    dsimp only at p2 p5
    exact key _ _ _ _ p1 ln (.inl rfl) (by dsimp only; omega) (by dsimp only; omega)
  | lean => exact key _ _ _ _ p.1 (fun _ => p.2.1) hd (by dsimp only; omega) (by dsimp only; omega)
  | off => exact key _ _ _ _ p.1 (fun z => absurd (show false = true from z) Bool.false_ne_true) hd (by dsimp only; omega) (by dsimp only; omega)

/-! ### deeds in order -/
/-- as the program finds them -/
def deedsQ (most spread hand want : Int) (lean leans : Bool) : List D :=
  (rangeD 1 (most + 1 - 1).toNat).filterMap (fun x => some (.tup [.str "hide", x])) ++
    (if hand > 0 then (rangeD (-spread) (spread + 1 - -spread).toNat).filterMap (fun x => if 0 < hand + isI x then some (.tup [.str "lay", x]) else none) else []) ++
    (if lean then [.tup [.str (if leans then "off" else "lean")]] else []) ++
    (if want = 0 then (rangeD 1 (most + 1 - 1).toNat).filterMap (fun x => some (.tup [.str "read", x])) else []) ++ [.tup [.str "wait"]]
/-- sorting by insertion: what is reckoned with -/
def insX {α : Type} (le : α → α → Bool) (a : α) : List α → List α
  | [] => [a]
  | b :: r => if le a b = true then a :: b :: r else b :: insX le a r
def sortX {α : Type} (le : α → α → Bool) : List α → List α
  | [] => []
  | a :: r => insX le a (sortX le r)
theorem insX_split {α : Type} {le : α → α → Bool} (a : α) : ∀ (l1 l2 : List α), (∀ b ∈ l1, (!le a b) = true) → (∀ b ∈ l2, le a b = true) → insX le a (l1 ++ l2) = l1 ++ a :: l2
  | [], [], _, _ => rfl
  | [], b :: r, _, h => by
    show (if le a b = true then a :: b :: r else b :: insX le a r) = _
    rw [if_pos (h b List.mem_cons_self)]; rfl
  | b :: l1, l2, h, h' => by
    have hb : le a b = false := by simpa using h b List.mem_cons_self
    show (if le a b = true then a :: b :: (l1 ++ l2) else b :: insX le a (l1 ++ l2)) = _
    rw [hb, if_neg Bool.false_ne_true, insX_split a l1 l2 (fun c hc => h c (List.mem_cons_of_mem _ hc)) h']; rfl
theorem sort_sortX {α : Type} {le : α → α → Bool} (h : PySem.W.TotalLe le) : ∀ l : List α, l.mergeSort le = sortX le l
  | [] => by simp [sortX]
  | a :: l => by
    have tot : ∀ (a b : α), (le a b || le b a) = true := fun a b => by
      rcases h.total a b with e | e <;> simp [e]
    obtain ⟨l1, l2, e1, e2, h1⟩ := List.mergeSort_cons h.trans tot a l
    have hp := List.pairwise_mergeSort h.trans tot (a :: l)
    rw [e1] at hp ⊢
    have h2 : ∀ b ∈ l2, le a b = true := by
      have := (List.pairwise_append.mp hp).2.1
      exact (List.pairwise_cons.mp this).1
    show _ = insX le a (sortX le l)
    rw [← sort_sortX h l, e2, insX_split a l1 l2 h1 h2]
theorem sortD_X (l : List D) : sortD l = sortX (PySem.W.dataLe false pdOf) l := sort_sortX (PySem.W.sortLe_total _ _ _) l
def chkQ (most spread hand : Int) (w0 lean leans : Bool) : Bool :=
  sameDs (deedsQ most spread hand (if w0 then 0 else 1) lean leans) (sortX (PySem.W.dataLe false pdOf) ((deedsRaw ⟨0, 1, true, most, spread, lean⟩ ⟨0, if w0 then 0 else 1, 0, hand, leans, false⟩).map Dd.d))
theorem chk_all : (([1, 2, 3] : List Int).all fun m => ([0, 1, 2] : List Int).all fun s => ([0, 1, 2, 3] : List Int).all fun h => [true, false].all fun w0 => [true, false].all fun l => [true, false].all fun l2 => chkQ m s h w0 l l2) = true := by decide +kernel
theorem deedsQ_eq {P : Pl} {S : Sd} (hP : P.ok) (hS : Fits P S) (hl : S.locked = false) : deedsQ P.most P.spread S.hand S.want P.lean S.leans = deedsL P S := by
  obtain ⟨off, want, left, hand, leans, locked⟩ := S
  obtain ⟨tol, wait, each, most, spread, lean⟩ := P
  obtain ⟨_, _, _, _, m0, m1, s0, s1⟩ := hP
  obtain ⟨_, w0, w1, hd, _⟩ := hS
  dsimp only at *
  subst hl
  have hm : most = 1 ∨ most = 2 ∨ most = 3 := by omega
  have hs : spread = 0 ∨ spread = 1 ∨ spread = 2 := by omega
  have hh : hand = 0 ∨ hand = 1 ∨ hand = 2 ∨ hand = 3 := by omega
  have e1 : deedsQ most spread hand want lean leans = deedsQ most spread hand (if want = 0 then 0 else 1) lean leans := by
    unfold deedsQ
    by_cases hw : want = 0 <;> simp [hw]
  have e2 : deedsRaw ⟨tol, wait, each, most, spread, lean⟩ ⟨off, want, left, hand, leans, false⟩ = deedsRaw ⟨0, 1, true, most, spread, lean⟩ ⟨0, if want = 0 then 0 else 1, 0, hand, leans, false⟩ := by
    unfold deedsRaw
    by_cases hw : want = 0 <;> simp [hw]
  have h : chkQ most spread hand (decide (want = 0)) lean leans = true := by
    have h := List.all_eq_true.mp chk_all most (by simp; omega)
    have h := List.all_eq_true.mp h spread (by simp; omega)
    have h := List.all_eq_true.mp h hand (by simp; omega)
    have h := List.all_eq_true.mp h (decide (want = 0)) (by cases decide (want = 0) <;> simp)
    have h := List.all_eq_true.mp h lean (by cases lean <;> simp)
    exact List.all_eq_true.mp h leans (by cases leans <;> simp)
  unfold chkQ at h
  have h := sameDs_eq _ _ h
  unfold deedsL
  rw [if_neg (by simp), e2, e1, sortD_X]
  simpa using h
end L2.DL

set_option Elab.async false
set_option linter.all false
set_option maxRecDepth 100000
set_option maxHeartbeats 1000000
/-! SM: deeds, read: deeds_of growth passed is_like look_at_stand look_at_deed deeds_at after told. -/
namespace L2.DL
open PySem PySem.Spec PyProof.Rows
/-- a value that is one of some deeds -/
def likeB (v : D) (some : List D) : Bool := match v with
  | .tup [.str _] => inD v some
  | .tup [.str _, n] => isWithinB n (-2) 3 && inD v some
  | _ => false
def F_deeds_of : FS := pureF fun ds R => ∃ (P : Pl) (S : Sd), ds = [P.d, S.d] ∧ P.ok ∧ Fits P S ∧ R (.lst (deedsL P S))
def F_growth : FS := pureF fun ds R => ∃ (S : Sd) (e : Dd), ds = [S.d, e.d] ∧ R (.int (match e with | .hide n => n | .lay n => S.hand + n | .lean => 1 | .off => -1 | _ => 0))
def F_passed : FS := pureF fun ds R => ∃ (P : Pl) (S : Sd) (e : Dd), ds = [P.d, S.d, e.d] ∧ P.ok ∧ Fits P S ∧ Poss P S e ∧ R (tellD (doneS P S e))
def F_is_like : FS := pureF fun ds R => ∃ (v : D) (xs : List Dd), ds = [v, .lst (xs.map Dd.d)] ∧ fitD 30 v = true ∧ R (.bl (likeB v (xs.map Dd.d)))
def F_look_at_stand : FS := pureF fun ds R => ∃ (P : Pl) (x : D), ds = [P.d, x] ∧ P.ok ∧ fitD 30 x = true ∧ fitsB P x = true ∧ R .non
def F_look_at_deed : FS := pureF fun ds R => ∃ (P : Pl) (S : Sd) (e : Dd), ds = [P.d, S.d, e.d] ∧ P.ok ∧ fitsB P S.d = true ∧ Poss P S e ∧ R .non
def F_deeds_at : FS := pureF fun ds R => ∃ (P : Pl) (S : Sd), ds = [P.d, S.d] ∧ P.ok ∧ fitsB P S.d = true ∧ R (.lst (deedsL P S))
def F_after : FS := pureF fun ds R => ∃ (P : Pl) (S : Sd) (e : Dd), ds = [P.d, S.d, e.d] ∧ P.ok ∧ fitsB P S.d = true ∧ Poss P S e ∧ R (doneS P S e).1.d
def F_told : FS := pureF fun ds R => ∃ (P : Pl) (S : Sd) (e : Dd), ds = [P.d, S.d, e.d] ∧ P.ok ∧ fitsB P S.d = true ∧ Poss P S e ∧ R (.str (doneS P S e).2.1)
/-- deeds_of: 0 plan, 1 stand, 2 off, 3 want, 4 left, 5 hand, 6 leans, 7 locked, 8 most, 9 spread, 10 leaning, 11 found, 12 weight, 13 more -/
def t_deeds_of : tS := (tSq (tAs (tV 1) (gTpD 6 (gConsD (gNm 2) (gConsD (gNm 3) (gConsD (gNm 4) (gConsD (gNm 5) (gConsD (gNm 6) (gConsD (gNm 7) gNilD)))))))) (tSq (tAs (tB2 oIx (tV 0) (tK (.int 1))) (gTpD 3 (gConsD (gNm 8) (gConsD (gNm 9) (gConsD (gNm 10) gNilD))))) (tSq (tIfD (tTru (tV 7)) (tRt (tLstD (tConsA (tTupD (tConsA (tK (.str "free")) tNilA)) tNilA))) tNx) (tSq (tSt (tLcD (iRg2 (tConsA (tK (.int 1)) (tConsA (tB2 oAdd (tV 8) (tK (.int 1))) tNilA))) (c1 12) tYesD (tTupD (tConsA (tK (.str "hide")) (tConsA (tV 12) tNilA))) [12]) 11) (tSq (tIfD (tTB (tB2 oGt (tV 5) (tK (.int 0)))) (tSt (tB2 oAdd (tV 11) (tLcD (iRg2 (tConsA (tB1 oNeg (tV 9)) (tConsA (tB2 oAdd (tV 9) (tK (.int 1))) tNilA))) (c1 13) (tTB (tB2 oGt (tB2 oAdd (tV 5) (tV 13)) (tK (.int 0)))) (tTupD (tConsA (tK (.str "lay")) (tConsA (tV 13) tNilA))) [13])) 11) tNx) (tSq (tIfD (tTru (tV 10)) (tSt (tB2 oAdd (tV 11) (tLstD (tConsA (tIfE (tTru (tV 6)) (tTupD (tConsA (tK (.str "off")) tNilA)) (tTupD (tConsA (tK (.str "lean")) tNilA))) tNilA))) 11) tNx) (tSq (tIfD (tTB (tB2 oEq (tV 3) (tK (.int 0)))) (tSt (tB2 oAdd (tV 11) (tLcD (iRg2 (tConsA (tK (.int 1)) (tConsA (tB2 oAdd (tV 8) (tK (.int 1))) tNilA))) (c1 12) tYesD (tTupD (tConsA (tK (.str "read")) (tConsA (tV 12) tNilA))) [12])) 11) tNx) (tRt (tB2 oAdd (tV 11) (tLstD (tConsA (tTupD (tConsA (tK (.str "wait")) tNilA)) tNilA)))))))))))
abbrev n_deeds_of : Nat := 14
/-- growth: 0 stand, 1 deed -/
def t_growth : tS := (tSq (tIfD (tTB (tB2 oEq (tB2 oIx (tV 1) (tK (.int 0))) (tK (.str "hide")))) (tRt (tB2 oIx (tV 1) (tK (.int 1)))) tNx) (tSq (tIfD (tTB (tB2 oEq (tB2 oIx (tV 1) (tK (.int 0))) (tK (.str "lay")))) (tRt (tB2 oAdd (tB2 oIx (tV 0) (tK (.int 3))) (tB2 oIx (tV 1) (tK (.int 1))))) tNx) (tRt (tDgt [("lean", 1), ("off", (-1))] (tB2 oIx (tV 1) (tK (.int 0))) (tK (.int 0))))))
abbrev n_growth : Nat := 2
/-- passed: 0 plan, 1 stand, 2 deed, 3 tolerance, 4 wait, 5 way, 6 off, 7 want, 8 left, 9 hand, 10 leans, 11 locked, 12 unpaid_so -/
def t_passed : tS := (tSq (tAs (tB2 oIx (tV 0) (tK (.int 0))) (gTpD 3 (gConsD (gNm 3) (gConsD (gNm 4) (gConsD (gNm 5) gNilD))))) (tSq (tAs (tV 1) (gTpD 6 (gConsD (gNm 6) (gConsD (gNm 7) (gConsD (gNm 8) (gConsD (gNm 9) (gConsD (gNm 10) (gConsD (gNm 11) gNilD)))))))) (tSq (tIfD (tTB (tB2 oEq (tB2 oIx (tV 2) (tK (.int 0))) (tK (.str "free")))) (tRt (tTupD (tConsA (tK c_BEGIN) (tConsA (tK (.str "")) (tConsA (tK (.int 0)) tNilA))))) tNx) (tSq (tIfD (tTB (tB2 oEq (tB2 oIx (tV 2) (tK (.int 0))) (tK (.str "read")))) (tRt (tTupD (tConsA (tTupD (tConsA (tV 6) (tConsA (tB2 oIx (tV 2) (tK (.int 1))) (tConsA (tV 4) (tConsA (tB2 oIx (tV 2) (tK (.int 1))) (tConsA (tV 10) (tConsA (tK (.bl false)) tNilA))))))) (tConsA (tK (.str "")) (tConsA (tK (.int 0)) tNilA))))) tNx) (tSq (tSt (tB2 oAdd (tV 6) (tCaP 2 F_growth (tConsA (tV 1) (tConsA (tV 2) tNilA)))) 6) (tSq (tSt (tIfE (tTB (tB2 oEq (tB2 oIx (tV 2) (tK (.int 0))) (tK (.str "lay")))) (tK (.int 0)) (tV 9)) 9) (tSq (tIfD (tTB (tB2 oIn (tB2 oIx (tV 2) (tK (.int 0))) (tTupD (tConsA (tK (.str "lean")) (tConsA (tK (.str "off")) tNilA))))) (tSt (tNtV (tV 10)) 10) tNx) (tSq (tSt (tIfE (tTB (tB2 oEq (tB2 oIx (tV 2) (tK (.int 0))) (tK (.str "hide")))) (tB2 oIx (tV 2) (tK (.int 1))) (tK (.int 0))) 12) (tSq (tIfD (tAn (tTB (tB2 oGt (tV 7) (tK (.int 0)))) (tAn (tTB (tB2 oIn (tB2 oIx (tV 2) (tK (.int 0))) (tK c_GROWING))) (tTB (tCh oLe oLe (tB2 oSub (tV 7) (tV 3)) (tV 6) (tB2 oAdd (tV 7) (tV 3)))))) (tSq (tSt (tIfE (tTB (tB2 oEq (tV 5) (tK (.str "each")))) (tK (.int 0)) (tB2 oSub (tV 6) (tV 7))) 6) (tRt (tTupD (tConsA (tTupD (tConsA (tV 6) (tConsA (tK (.int 0)) (tConsA (tK (.int 0)) (tConsA (tK (.int 0)) (tConsA (tV 10) (tConsA (tK (.bl false)) tNilA))))))) (tConsA (tK (.str "accepts")) (tConsA (tB2 oSub (tV 12) (tV 9)) tNilA)))))) tNx) (tSq (tIfD (tAn (tTB (tB2 oGt (tV 7) (tK (.int 0)))) (tTB (tB2 oGt (tV 8) (tK (.int 1))))) (tRt (tTupD (tConsA (tTupD (tConsA (tV 6) (tConsA (tV 7) (tConsA (tB2 oSub (tV 8) (tK (.int 1))) (tConsA (tV 9) (tConsA (tV 10) (tConsA (tK (.bl false)) tNilA))))))) (tConsA (tK (.str "")) (tConsA (tV 12) tNilA))))) tNx) (tSq (tIfD (tOr (tTB (tB2 oGt (tV 7) (tK (.int 0)))) (tNt (tTB (tCh oLe oLe (tB1 oNeg (tV 3)) (tV 6) (tV 3))))) (tRt (tTupD (tConsA (tK c_LOCKED) (tConsA (tK (.str "calls")) (tConsA (tV 12) tNilA))))) tNx) (tRt (tTupD (tConsA (tTupD (tConsA (tV 6) (tConsA (tK (.int 0)) (tConsA (tK (.int 0)) (tConsA (tK (.int 0)) (tConsA (tV 10) (tConsA (tK (.bl false)) tNilA))))))) (tConsA (tK (.str "")) (tConsA (tV 12) tNilA))))))))))))))))
abbrev n_passed : Nat := 13
/-- is_like: 0 value, 1 some -/
def t_is_like : tS := (tSq (tIfD (tOr (tNt (tTru (tCa cIsi (tConsA (tV 0) (tConsA (tK (.ty "tuple")) tNilA))))) (tOr (tTB (tB2 oNotIn (tCa cLen (tConsA (tV 0) tNilA)) (tTupD (tConsA (tK (.int 1)) (tConsA (tK (.int 2)) tNilA))))) (tNt (tTru (tCa cIsi (tConsA (tB2 oIx (tV 0) (tK (.int 0))) (tConsA (tK (.ty "str")) tNilA))))))) (tRt (tK (.bl false))) tNx) (tRt (tAnV (tOrV (tB2 oEq (tCa cLen (tConsA (tV 0) tNilA)) (tK (.int 1))) (tCaP 3 F_is_within (tConsA (tB2 oIx (tV 0) (tK (.int 1))) (tConsA (tB1 oNeg (tK (.int 2))) (tConsA (tK (.int 3)) tNilA))))) (tB2 oIn (tV 0) (tV 1)))))
abbrev n_is_like : Nat := 2
/-- look_at_stand: 0 plan, 1 stand -/
def t_look_at_stand : tS := (tIfD (tNt (tTru (tCaP 2 F_fits (tConsA (tV 0) (tConsA (tV 1) tNilA))))) tNo tNx)
abbrev n_look_at_stand : Nat := 2
/-- look_at_deed: 0 plan, 1 stand, 2 deed -/
def t_look_at_deed : tS := (tSq (tDp (tCaP 1 F_look_at_plan (tConsA (tV 0) tNilA))) (tSq (tDp (tCaP 2 F_look_at_stand (tConsA (tV 0) (tConsA (tV 1) tNilA)))) (tIfD (tNt (tTru (tCaP 2 F_is_like (tConsA (tV 2) (tConsA (tCaP 2 F_deeds_of (tConsA (tV 0) (tConsA (tV 1) tNilA))) tNilA))))) tNo tNx)))
abbrev n_look_at_deed : Nat := 3
/-- deeds_at: 0 plan, 1 stand -/
def t_deeds_at : tS := (tSq (tDp (tCaP 1 F_look_at_plan (tConsA (tV 0) tNilA))) (tSq (tDp (tCaP 2 F_look_at_stand (tConsA (tV 0) (tConsA (tV 1) tNilA)))) (tRt (tCaP 2 F_deeds_of (tConsA (tV 0) (tConsA (tV 1) tNilA))))))
abbrev n_deeds_at : Nat := 2
/-- after: 0 plan, 1 stand, 2 deed -/
def t_after : tS := (tSq (tDp (tCaP 3 F_look_at_deed (tConsA (tV 0) (tConsA (tV 1) (tConsA (tV 2) tNilA))))) (tRt (tB2 oIx (tCaP 3 F_passed (tConsA (tV 0) (tConsA (tV 1) (tConsA (tV 2) tNilA)))) (tK (.int 0)))))
abbrev n_after : Nat := 3
/-- told: 0 plan, 1 stand, 2 deed -/
def t_told : tS := (tSq (tDp (tCaP 3 F_look_at_deed (tConsA (tV 0) (tConsA (tV 1) (tConsA (tV 2) tNilA))))) (tRt (tB2 oIx (tCaP 3 F_passed (tConsA (tV 0) (tConsA (tV 1) (tConsA (tV 2) tNilA)))) (tK (.int 1)))))
abbrev n_told : Nat := 3
section
variable {R : QE} {RE : QX} {v x : D} {P : Pl} {S : Sd} {e : Dd}
theorem u_deeds_of (h : P.ok) (f : Fits P S) (r : R (.lst (deedsL P S)) []) : F_deeds_of [P.d, S.d] [] R RE := ⟨rfl, P, S, rfl, h, f, r⟩
theorem u_growth (r : R (.int (match e with | .hide n => n | .lay n => S.hand + n | .lean => 1 | .off => -1 | _ => 0)) []) : F_growth [S.d, e.d] [] R RE := ⟨rfl, S, e, rfl, r⟩
theorem u_passed (h : P.ok) (f : Fits P S) (p : Poss P S e) (r : R (tellD (doneS P S e)) []) : F_passed [P.d, S.d, e.d] [] R RE := ⟨rfl, P, S, e, rfl, h, f, p, r⟩
theorem u_look_stand (h : P.ok) (f : fitD 30 x = true) (g : fitsB P x = true) (r : R .non []) : F_look_at_stand [P.d, x] [] R RE := ⟨rfl, P, x, rfl, h, f, g, r⟩
theorem u_look_deed (h : P.ok) (g : fitsB P S.d = true) (p : Poss P S e) (r : R .non []) : F_look_at_deed [P.d, S.d, e.d] [] R RE := ⟨rfl, P, S, e, rfl, h, g, p, r⟩
theorem u_deeds_at (h : P.ok) (f : fitsB P S.d = true) (r : R (.lst (deedsL P S)) []) : F_deeds_at [P.d, S.d] [] R RE := ⟨rfl, P, S, rfl, h, f, r⟩
theorem u_after (h : P.ok) (g : fitsB P S.d = true) (p : Poss P S e) (r : R (doneS P S e).1.d []) : F_after [P.d, S.d, e.d] [] R RE := ⟨rfl, P, S, e, rfl, h, g, p, r⟩
theorem u_told (h : P.ok) (g : fitsB P S.d = true) (p : Poss P S e) (r : R (.str (doneS P S e).2.1) []) : F_told [P.d, S.d, e.d] [] R RE := ⟨rfl, P, S, e, rfl, h, g, p, r⟩
theorem deedsL_dds : ∃ xs : List Dd, deedsL P S = xs.map Dd.d := by
  have h : ∀ l : List D, (∀ x ∈ l, ∃ e : Dd, x = e.d) → ∃ xs : List Dd, l = xs.map Dd.d := by
    intro l
    induction l with
    | nil => exact fun _ => ⟨[], rfl⟩
    | cons y l ih =>
      intro hl
      obtain ⟨e, rfl⟩ := hl y List.mem_cons_self
      obtain ⟨xs, rfl⟩ := ih fun z hz => hl z (List.mem_cons_of_mem _ hz)
      exact ⟨e :: xs, rfl⟩
  exact h _ fun x hx => let ⟨e, h, _⟩ := mem_deedsL.mp hx; ⟨e, h⟩
theorem u_is_like (f : fitD 30 v = true) (r : R (.bl (likeB v (deedsL P S))) []) : F_is_like [v, .lst (deedsL P S)] [] R RE := by
  obtain ⟨xs, e⟩ := deedsL_dds (P := P) (S := S)
  rw [e] at r ⊢
  exact ⟨rfl, v, xs, rfl, f, r⟩
theorem low_deeds {k : Nat} : lowD k (.lst (deedsL P S)) := by
  obtain ⟨xs, e⟩ := deedsL_dds (P := P) (S := S)
  rw [e]
  show lowDs k _
  exact lowDs_map fun x => fit_low _ 2 _ (dd_fit x)
theorem low_sd {k : Nat} : lowD k S.d := fit_low _ 30 _ Sd.fit
theorem low_dd {k : Nat} : lowD k e.d := fit_low _ 2 _ (dd_fit e)
end
section
local macro_rules | `(tactic| walk_at "d") => `(tactic| (first
  | with_reducible refine Stp.go ?_
  | with_reducible refine And.intro ?_ ?_
  | with_reducible refine fun _ => ?_
  | ((with_reducible refine s_iteY ?_); refine And.intro rfl ?_)
  | ((with_reducible refine s_iteN ?_); refine And.intro rfl ?_)
  | with_reducible refine iteB (fun _ => ?_) (fun _ => ?_)
  | with_reducible refine i_eq ?_ ?_ ?_
  | with_reducible refine i_ne ?_ ?_ ?_
  | with_reducible refine rtp ?_ ?_
  | with_reducible refine u_isB ?_ ?_
  | with_reducible refine u_isI ?_ ?_
  | with_reducible refine u_isT ?_ ?_
  | with_reducible refine u_isS ?_ ?_
  | with_reducible refine u_isL ?_ ?_
  | with_reducible refine u_isLT ?_ ?_
  | with_reducible refine u_is_within ?_ ?_
  | with_reducible refine u_law_int ?_ ?_
  | with_reducible refine u_is_row ?_ ?_
  | with_reducible refine u_law_made ?_ ?_
  | with_reducible refine u_is_program ?_ ?_
  | with_reducible refine u_law_good_program ?_ ?_
  | with_reducible refine u_is_plan ?_ ?_
  | with_reducible refine u_law_good_plan ?_ ?_
  | with_reducible refine u_law_kind ?_ ?_
  | with_reducible refine u_pick0 ?_ ?_ ?_
  | with_reducible refine u_pickG ?_ ?_ ?_ ?_
  | with_reducible refine u_look ?_ ?_
  | with_reducible refine u_fits ?_ ?_ ?_
  | with_reducible refine u_deeds_of ?_ ?_ ?_
  | with_reducible refine u_growth ?_
  | with_reducible refine u_passed ?_ ?_ ?_ ?_
  | with_reducible refine u_look_stand ?_ ?_ ?_ ?_
  | with_reducible refine u_look_deed ?_ ?_ ?_ ?_
  | with_reducible refine u_is_like ?_ ?_
  | with_reducible refine rtm3 ?_ ?_ ?_
  | ((with_reducible refine s_sLst ?_); refine Exists.intro _ (And.intro rfl (Exists.intro _ (And.intro rfl (Exists.intro _ (And.intro (by simp only [List.set_cons_zero, List.set_cons_succ]; rfl) ?_))))))
  | with_reducible refine i_oIC ?_ ?_
  | with_reducible refine i_addS ?_ ?_
  | with_reducible refine i_addT ?_ ?_
  | with_reducible refine i_addL ?_ ?_
  | with_reducible refine i_trS ?_ ?_
  | with_reducible refine i_lenS ?_ ?_
  | with_reducible refine i_slS ?_ ?_
  | with_reducible refine i_r1Q ?_ ?_
  | with_reducible refine i_r2Q ?_ ?_
  | with_reducible refine i_lsR1Q ?_ ?_
  | with_reducible refine i_lsR2Q ?_ ?_
  | with_reducible refine i_inT ?_ ?_ ?_
  | with_reducible refine i_inL ?_ ?_ ?_
  | with_reducible refine i_ninT ?_ ?_ ?_
  | with_reducible refine i_ninL ?_ ?_ ?_
  | ((with_reducible refine s_tV ?_); refine Exists.intro _ (And.intro rfl ?_))
  | ((with_reducible refine s_ixT ?_); refine Exists.intro _ (And.intro rfl ?_))
  | ((with_reducible refine s_gNm ?_); refine Exists.intro _ (And.intro (by simp only [wipeD, setsD, List.set_cons_zero, List.set_cons_succ]; rfl) ?_))
  | ((with_reducible refine s_stQ ?_); refine Exists.intro _ (And.intro (by simp only [wipeD, setsD, List.set_cons_zero, List.set_cons_succ]; rfl) ?_))
  | ((with_reducible refine s_c1 ?_); refine Exists.intro _ (And.intro (by simp only [wipeD, setsD, List.set_cons_zero, List.set_cons_succ]; rfl) ?_))
  | ((with_reducible refine s_p2 ?_); refine Exists.intro _ (And.intro (by simp only [wipeD, setsD, List.set_cons_zero, List.set_cons_succ]; rfl) ?_))
  | ((with_reducible refine s_p3 ?_); refine Exists.intro _ (And.intro (by simp only [wipeD, setsD, List.set_cons_zero, List.set_cons_succ]; rfl) ?_))
  | ((with_reducible refine s_cN' ?_); refine And.intro rfl (Exists.intro _ (And.intro (by simp only [wipeD, setsD, List.set_cons_zero, List.set_cons_succ]; rfl) ?_)))
  | ((with_reducible refine s_ixL ?_); refine Exists.intro _ (And.intro rfl ?_))
  | ((with_reducible refine s_trO ?_); refine Exists.intro _ (And.intro rfl ?_))
  | ((with_reducible refine s_lenO ?_); refine Exists.intro _ (And.intro rfl ?_))
  | ((with_reducible refine s_listO ?_); refine Exists.intro _ (And.intro rfl ?_))
  | ((with_reducible refine s_ixO ?_); refine Exists.intro _ (And.intro rfl (Exists.intro _ (And.intro rfl ?_))))
  | ((with_reducible refine s_app1 ?_); refine And.intro rfl ?_)
  | ((with_reducible refine s_cN ?_); refine And.intro rfl ?_)
  | ((with_reducible refine s_dgtY ?_); refine Exists.intro _ (And.intro rfl ?_))
  | ((with_reducible refine i_dgtN ?_ ?_); exact rfl)))
local macro_rules | `(tactic| walk_at "ds") => `(tactic| ((try simp only [startD, List.map_cons, List.map_nil, List.length_cons, List.length_nil, List.replicate, Nat.reduceAdd, Nat.reduceSub, List.cons_append, List.nil_append]); repeat' walk_at "d"))
/-- side conditions -/
local macro_rules | `(tactic| walk_at "e") => `(tactic| (first
  | with_reducible assumption
  | ((with_reducible show fitD _ _ = true); (first | rfl | decide +kernel | (exact fit_mono _ 30 _ (by decide) (by assumption))))
  | ((with_reducible show lowDs _ _); (repeat' first | trivial | (exact fit_low _ 30 _ (by assumption)) | refine And.intro ?_ ?_); done)
  | ((with_reducible show lowO _ _); (show lowDs _ _); (repeat' first | trivial | (exact fit_low _ 30 _ (by assumption)) | refine And.intro ?_ ?_); done)
  | ((with_reducible show (_ : Int) < _); (first | decide | omega))
  | ((with_reducible show (_ : Int) ≤ _); (first | decide | omega))
  | ((with_reducible show lowD _ _); (first | trivial | (exact fit_low _ 30 _ (by assumption))))
  | ((with_reducible show List.length _ = _); simp; done)
  | ((with_reducible show _ ≤ sizeLine); rw [sizeLine_eq]; simp; done)
  | ((with_reducible show List.all _ _ = true); (first | rfl | decide +kernel | (simp [fitD]; done)))
  | skip))
local macro_rules | `(tactic| walk_at "de") => `(tactic| (walk_at "ds" <;> walk_at "e"))


theorem rd_look_at_stand (ds : List D) (R : QE) (h : ∃ (P : Pl) (x : D), ds = [P.d, x] ∧ P.ok ∧ fitD 30 x = true ∧ fitsB P x = true ∧ R .non []) : t_look_at_stand (endP R) (startD 2 ds) [] := by
  obtain ⟨P, x, rfl, hP, fx, hf, r⟩ := h
  have f := P.fit
  unfold t_look_at_stand
  walk_at "de"
  all_goals (exfalso; clear r; simp_all; done)
theorem rd_growth (ds : List D) (R : QE) (h : ∃ (S : Sd) (e : Dd), ds = [S.d, e.d] ∧ R (.int (match e with | .hide n => n | .lay n => S.hand + n | .lean => 1 | .off => -1 | _ => 0)) []) : t_growth (endP R) (startD 2 ds) [] := by
  obtain ⟨S, e, rfl, r⟩ := h
  unfold t_growth
  cases e <;> walk_at "de"
  all_goals first | exact r | (exfalso; rename_i h; revert h; decide +kernel) | skip
theorem fm_low {f : D → Option D} {xs : List D} {k : Nat} (h : ∀ x ∈ xs, ∀ y, f x = some y → lowD k y) : lowDs k (xs.filterMap f) := lowDs_of fun y hy => by
  obtain ⟨x, hx, e⟩ := List.mem_filterMap.mp hy
  exact h x hx y e
theorem rangeD_low {lo : Int} {n k : Nat} {x : D} (h : x ∈ rangeD lo n) : lowD k x := by obtain ⟨t, rfl⟩ := range_int h; trivial
theorem rd_deeds_of (ds : List D) (R : QE) (h : ∃ (P : Pl) (S : Sd), ds = [P.d, S.d] ∧ P.ok ∧ Fits P S ∧ R (.lst (deedsL P S)) []) : t_deeds_of (endP R) (startD 14 ds) [] := by
  obtain ⟨P, S, rfl, hP, hS, r⟩ := h
  have e := fun hl => deedsQ_eq hP hS hl
  have m0 := hP.m0
  have m1 := hP.m1
  have s0 := hP.s0
  have s1 := hP.s1
  have lw := low_deeds (P := P) (S := S) (k := 0)
  unfold t_deeds_of
  generalize hU : (tSq (tIfD (tTru (tV 10)) (tSt (tB2 oAdd (tV 11) (tLstD (tConsA (tIfE (tTru (tV 6)) (tTupD (tConsA (tK (.str "off")) tNilA)) (tTupD (tConsA (tK (.str "lean")) tNilA))) tNilA))) 11) tNx) (tSq (tIfD (tTB (tB2 oEq (tV 3) (tK (.int 0)))) (tSt (tB2 oAdd (tV 11) (tLcD (iRg2 (tConsA (tK (.int 1)) (tConsA (tB2 oAdd (tV 8) (tK (.int 1))) tNilA))) (c1 12) tYesD (tTupD (tConsA (tK (.str "read")) (tConsA (tV 12) tNilA))) [12])) 11) tNx) (tRt (tB2 oAdd (tV 11) (tLstD (tConsA (tTupD (tConsA (tK (.str "wait")) tNilA)) tNilA)))))) = U
  walk_at "de"
  · rename_i hl
    unfold deedsL at r
    rw [if_pos hl] at r
    exact r
  rename_i hl
  have e := e hl
  rw [← e] at r lw
  clear e
  unfold deedsQ at r lw
  have hA : ((rangeD 1 (P.most + 1 - 1).toNat).filterMap (fun x => some (D.tup [.str "hide", x]))).length ≤ 3 := Nat.le_trans (List.length_filterMap_le _ _) (by rw [rangeD_length]; omega)
  have hC : ((rangeD 1 (P.most + 1 - 1).toNat).filterMap (fun x => some (D.tup [.str "read", x]))).length ≤ 3 := Nat.le_trans (List.length_filterMap_le _ _) (by rw [rangeD_length]; omega)
  have hB : ((rangeD (-P.spread) (P.spread + 1 - -P.spread).toNat).filterMap (fun x => if 0 < S.hand + isI x then some (D.tup [.str "lay", x]) else none)).length ≤ 5 := Nat.le_trans (List.length_filterMap_le _ _) (by rw [rangeD_length]; omega)
  refine lc_pure (rangeD 1 (P.most + 1 - 1).toNat) (fun x => some (.tup [.str "hide", x])) (by rw [rangeD_length, sizeLine_eq]; omega) (fun x hx Q N hQ hN => ?_) ?_
  · walk_at "de"
    exact hQ _ rfl
  generalize (rangeD 1 (P.most + 1 - 1).toNat).filterMap (fun x => some (D.tup [.str "hide", x])) = A at r lw hA ⊢
  have step : ∀ (B : List D) (x13 : Option D), B = (if S.hand > 0 then (rangeD (-P.spread) (P.spread + 1 - -P.spread).toNat).filterMap (fun x => if 0 < S.hand + isI x then some (D.tup [.str "lay", x]) else none) else []) → B.length ≤ 5 →
      U (endP R) [some P.d, some S.d, some (.int S.off), some (.int S.want), some (.int S.left), some (.int S.hand), some (.bl S.leans), some (.bl S.locked), some (.int P.most), some (.int P.spread), some (.bl P.lean), some (.lst (A ++ B)), none, x13] [] := by
    intro B x13 eB hB
    subst hU
    rw [← eB] at r lw
    clear eB
    walk_at "de"
    all_goals first
      | (rw [sizeLine_eq]; simp only [List.length_append, List.length_cons, List.length_nil]; omega)
      | skip
    all_goals first
      | (with_reducible show lcD _ _ _ _ _ _ _ _)
        refine lc_pure (rangeD 1 (P.most + 1 - 1).toNat) (fun x => some (.tup [.str "read", x])) (by rw [rangeD_length, sizeLine_eq]; omega) (fun x hx Q N hQ hN => ?_) ?_
        · walk_at "de"
          exact hQ _ rfl
        walk_at "de"
      | skip
    all_goals first
      | (rw [sizeLine_eq]; simp only [List.length_append, List.length_cons, List.length_nil]; omega)
      | skip
    all_goals simp_all [eqD]
  clear hU
  walk_at "de"
  · refine lc_pure (rangeD (-P.spread) (P.spread + 1 - -P.spread).toNat) (fun x => if 0 < S.hand + isI x then some (D.tup [.str "lay", x]) else none) (by rw [rangeD_length, sizeLine_eq]; omega) (fun x hx Q N hQ hN => ?_) ?_
    · obtain ⟨t, rfl⟩ := range_int hx
      walk_at "de"
      · rename_i hh
        have hh : 0 < S.hand + t := by simpa using hh
        exact hQ _ (by simp [isI, hh])
      · rename_i hh
        have hh : ¬ 0 < S.hand + t := by simpa using hh
        exact hN (by simp [isI, hh])
    · rename_i hh
      walk_at "de"
      · rw [sizeLine_eq]; omega
      · exact step _ _ (by rw [if_pos (by simpa using hh)]) hB
  · rename_i hh
    have h := step [] none (by rw [if_neg (by simpa using hh)]) (by simp)
    rw [List.append_nil] at h
    exact h
end
end L2.DL

set_option Elab.async false
set_option linter.all false
set_option maxRecDepth 100000
set_option maxHeartbeats 4000000
/-! SN: what a deed does, read. -/
namespace L2.DL
open PySem PySem.Spec PyProof.Rows
section
local macro_rules | `(tactic| walk_at "d") => `(tactic| (first
  | with_reducible refine Stp.go ?_
  | with_reducible refine And.intro ?_ ?_
  | with_reducible refine fun _ => ?_
  | ((with_reducible refine s_iteY ?_); refine And.intro rfl ?_)
  | ((with_reducible refine s_iteN ?_); refine And.intro rfl ?_)
  | with_reducible refine iteB (fun _ => ?_) (fun _ => ?_)
  | with_reducible refine i_eq ?_ ?_ ?_
  | with_reducible refine i_ne ?_ ?_ ?_
  | with_reducible refine rtp ?_ ?_
  | with_reducible refine u_isB ?_ ?_
  | with_reducible refine u_isI ?_ ?_
  | with_reducible refine u_isT ?_ ?_
  | with_reducible refine u_isS ?_ ?_
  | with_reducible refine u_isL ?_ ?_
  | with_reducible refine u_isLT ?_ ?_
  | with_reducible refine u_is_within ?_ ?_
  | with_reducible refine u_law_int ?_ ?_
  | with_reducible refine u_is_row ?_ ?_
  | with_reducible refine u_law_made ?_ ?_
  | with_reducible refine u_is_program ?_ ?_
  | with_reducible refine u_law_good_program ?_ ?_
  | with_reducible refine u_is_plan ?_ ?_
  | with_reducible refine u_law_good_plan ?_ ?_
  | with_reducible refine u_law_kind ?_ ?_
  | with_reducible refine u_pick0 ?_ ?_ ?_
  | with_reducible refine u_pickG ?_ ?_ ?_ ?_
  | with_reducible refine u_look ?_ ?_
  | with_reducible refine u_fits ?_ ?_ ?_
  | with_reducible refine u_deeds_of ?_ ?_ ?_
  | with_reducible refine u_growth ?_
  | with_reducible refine u_passed ?_ ?_ ?_ ?_
  | with_reducible refine u_look_stand ?_ ?_ ?_ ?_
  | with_reducible refine u_look_deed ?_ ?_ ?_ ?_
  | with_reducible refine u_is_like ?_ ?_
  | with_reducible refine rtm3 ?_ ?_ ?_
  | ((with_reducible refine s_sLst ?_); refine Exists.intro _ (And.intro rfl (Exists.intro _ (And.intro rfl (Exists.intro _ (And.intro (by simp only [List.set_cons_zero, List.set_cons_succ]; rfl) ?_))))))
  | with_reducible refine i_oIC ?_ ?_
  | with_reducible refine i_addS ?_ ?_
  | with_reducible refine i_addT ?_ ?_
  | with_reducible refine i_addL ?_ ?_
  | with_reducible refine i_trS ?_ ?_
  | with_reducible refine i_lenS ?_ ?_
  | with_reducible refine i_slS ?_ ?_
  | with_reducible refine i_r1Q ?_ ?_
  | with_reducible refine i_r2Q ?_ ?_
  | with_reducible refine i_lsR1Q ?_ ?_
  | with_reducible refine i_lsR2Q ?_ ?_
  | with_reducible refine i_inT ?_ ?_ ?_
  | with_reducible refine i_inL ?_ ?_ ?_
  | with_reducible refine i_ninT ?_ ?_ ?_
  | with_reducible refine i_ninL ?_ ?_ ?_
  | ((with_reducible refine s_tV ?_); refine Exists.intro _ (And.intro rfl ?_))
  | ((with_reducible refine s_ixT ?_); refine Exists.intro _ (And.intro rfl ?_))
  | ((with_reducible refine s_gNm ?_); refine Exists.intro _ (And.intro (by simp only [wipeD, setsD, List.set_cons_zero, List.set_cons_succ]; rfl) ?_))
  | ((with_reducible refine s_stQ ?_); refine Exists.intro _ (And.intro (by simp only [wipeD, setsD, List.set_cons_zero, List.set_cons_succ]; rfl) ?_))
  | ((with_reducible refine s_c1 ?_); refine Exists.intro _ (And.intro (by simp only [wipeD, setsD, List.set_cons_zero, List.set_cons_succ]; rfl) ?_))
  | ((with_reducible refine s_p2 ?_); refine Exists.intro _ (And.intro (by simp only [wipeD, setsD, List.set_cons_zero, List.set_cons_succ]; rfl) ?_))
  | ((with_reducible refine s_p3 ?_); refine Exists.intro _ (And.intro (by simp only [wipeD, setsD, List.set_cons_zero, List.set_cons_succ]; rfl) ?_))
  | ((with_reducible refine s_cN' ?_); refine And.intro rfl (Exists.intro _ (And.intro (by simp only [wipeD, setsD, List.set_cons_zero, List.set_cons_succ]; rfl) ?_)))
  | ((with_reducible refine s_ixL ?_); refine Exists.intro _ (And.intro rfl ?_))
  | ((with_reducible refine s_trO ?_); refine Exists.intro _ (And.intro rfl ?_))
  | ((with_reducible refine s_lenO ?_); refine Exists.intro _ (And.intro rfl ?_))
  | ((with_reducible refine s_listO ?_); refine Exists.intro _ (And.intro rfl ?_))
  | ((with_reducible refine s_ixO ?_); refine Exists.intro _ (And.intro rfl (Exists.intro _ (And.intro rfl ?_))))
  | ((with_reducible refine s_app1 ?_); refine And.intro rfl ?_)
  | ((with_reducible refine s_cN ?_); refine And.intro rfl ?_)
  | ((with_reducible refine s_dgtY ?_); refine Exists.intro _ (And.intro rfl ?_))
  | ((with_reducible refine i_dgtN ?_ ?_); exact rfl)))
local macro_rules | `(tactic| walk_at "ds") => `(tactic| ((try simp only [startD, List.map_cons, List.map_nil, List.length_cons, List.length_nil, List.replicate, Nat.reduceAdd, Nat.reduceSub, List.cons_append, List.nil_append]); repeat' walk_at "d"))
/-- side conditions -/
local macro_rules | `(tactic| walk_at "e") => `(tactic| (first
  | with_reducible assumption
  | ((with_reducible show fitD _ _ = true); (first | rfl | decide +kernel | (exact fit_mono _ 30 _ (by decide) (by assumption))))
  | ((with_reducible show lowDs _ _); (repeat' first | trivial | (exact fit_low _ 30 _ (by assumption)) | refine And.intro ?_ ?_); done)
  | ((with_reducible show lowO _ _); (show lowDs _ _); (repeat' first | trivial | (exact fit_low _ 30 _ (by assumption)) | refine And.intro ?_ ?_); done)
  | ((with_reducible show (_ : Int) < _); (first | decide | omega))
  | ((with_reducible show (_ : Int) ≤ _); (first | decide | omega))
  | ((with_reducible show lowD _ _); (first | trivial | (exact fit_low _ 30 _ (by assumption))))
  | ((with_reducible show List.length _ = _); simp; done)
  | ((with_reducible show _ ≤ sizeLine); rw [sizeLine_eq]; simp; done)
  | ((with_reducible show List.all _ _ = true); (first | rfl | decide +kernel | (simp [fitD]; done)))
  | skip))
local macro_rules | `(tactic| walk_at "de") => `(tactic| (walk_at "ds" <;> walk_at "e"))


theorem way_each (b : Bool) : eqD (wayD b) (.str "each") = b := by cases b <;> decide +kernel
theorem bh1 {P : Pl} {S : Sd} {off hand w : Int} {leans : Bool} (hw : 0 < S.want) (h1 : S.off < off) (h2 : S.want - P.tol ≤ off) (h3 : off ≤ S.want + P.tol) : behind P S off hand leans w = ((⟨if P.each then 0 else off - S.want, 0, 0, 0, leans, false⟩ : Sd), ("accepts" : Str), w - hand) := by
  unfold behind
  rw [if_pos (by omega), if_pos ⟨h1, by rw [abs_le]; omega⟩]
theorem bh2 {P : Pl} {S : Sd} {off hand w : Int} {leans : Bool} (hw : 0 < S.want) (hn : ¬ (S.off < off ∧ S.want - P.tol ≤ off ∧ off ≤ S.want + P.tol)) (hl : 1 < S.left) : behind P S off hand leans w = ((⟨off, S.want, S.left - 1, hand, leans, false⟩ : Sd), ("" : Str), w) := by
  unfold behind
  rw [if_pos (by omega), if_neg (by rw [abs_le]; omega), if_pos (by omega)]
theorem bh3 {P : Pl} {S : Sd} {off hand w : Int} {leans : Bool} (hw : 0 < S.want) (hn : ¬ (S.off < off ∧ S.want - P.tol ≤ off ∧ off ≤ S.want + P.tol)) (hl : S.left ≤ 1) (h1 : 1 ≤ S.left) : behind P S off hand leans w = (lockedS, ("calls" : Str), w) := by
  unfold behind
  rw [if_pos (by omega), if_neg (by rw [abs_le]; omega), if_neg (by omega)]
theorem bh4 {P : Pl} {S : Sd} {off hand w : Int} {leans : Bool} (hw : S.want = 0) (h1 : -P.tol ≤ off) (h2 : off ≤ P.tol) : behind P S off hand leans w = ((⟨off, 0, 0, 0, leans, false⟩ : Sd), ("" : Str), w) := by
  unfold behind
  rw [if_neg (by omega), if_pos (by rw [abs_le]; omega)]
theorem bh5 {P : Pl} {S : Sd} {off hand w : Int} {leans : Bool} (hw : S.want = 0) (h1 : ¬ (-P.tol ≤ off ∧ off ≤ P.tol)) : behind P S off hand leans w = (lockedS, ("calls" : Str), w) := by
  unfold behind
  rw [if_neg (by omega), if_neg (by rw [abs_le]; omega)]
theorem rd_passed_free (P : Pl) (S : Sd) (R : QE) (hP : P.ok) (w0 : 0 ≤ S.want) (wt : S.want ≠ 0 → 1 ≤ S.left) (t0 : 0 ≤ P.tol) (hp : Poss P S .free) (r : R (tellD (doneS P S .free)) []) (l1 : lowD 0 P.d) (l2 : lowD 0 S.d) (l3 : lowD 0 (Dd.d .free)) (wf : fitD 40 (wayD P.each) = true) : t_passed (endP R) (startD 13 [P.d, S.d, Dd.d .free]) [] := by
  unfold t_passed
  walk_at "de"
  all_goals (try (exact ⟨l2, l3, trivial⟩))
  all_goals (clear l1 l2 l3 wf)
  all_goals (refine rD r ?_; clear r)
  all_goals (simp only [way_each, decide_eq_true_eq, decide_eq_false_iff_not, Bool.not_eq_true', Bool.not_eq_false', doneS, Poss, Int.zero_add, Int.add_zero] at *)
  all_goals (first
    | rfl
    | (exfalso; omega)
    | (rw [bh1] <;> first | rfl | omega | (simp_all; done) | (simp_all [Int.add_assoc, Int.sub_eq_add_neg]; done))
    | (rw [bh2] <;> first | rfl | omega | (simp_all; done) | (simp_all [Int.add_assoc, Int.sub_eq_add_neg]; done))
    | (rw [bh3] <;> first | rfl | omega | (simp_all; done) | (simp_all [Int.add_assoc, Int.sub_eq_add_neg]; done))
    | (rw [bh4] <;> first | rfl | omega | (simp_all; done) | (simp_all [Int.add_assoc, Int.sub_eq_add_neg]; done))
    | (rw [bh5] <;> first | rfl | omega | (simp_all; done) | (simp_all [Int.add_assoc, Int.sub_eq_add_neg]; done)))
theorem rd_passed_wait (P : Pl) (S : Sd) (R : QE) (hP : P.ok) (w0 : 0 ≤ S.want) (wt : S.want ≠ 0 → 1 ≤ S.left) (t0 : 0 ≤ P.tol) (hp : Poss P S .wait) (r : R (tellD (doneS P S .wait)) []) (l1 : lowD 0 P.d) (l2 : lowD 0 S.d) (l3 : lowD 0 (Dd.d .wait)) (wf : fitD 40 (wayD P.each) = true) : t_passed (endP R) (startD 13 [P.d, S.d, Dd.d .wait]) [] := by
  unfold t_passed
  walk_at "de"
  all_goals (try (exact ⟨l2, l3, trivial⟩))
  all_goals (clear l1 l2 l3 wf)
  all_goals (refine rD r ?_; clear r)
  all_goals (simp only [way_each, decide_eq_true_eq, decide_eq_false_iff_not, Bool.not_eq_true', Bool.not_eq_false', doneS, Poss, Int.zero_add, Int.add_zero] at *)
  all_goals (first
    | rfl
    | (exfalso; omega)
    | (rw [bh1] <;> first | rfl | omega | (simp_all; done) | (simp_all [Int.add_assoc, Int.sub_eq_add_neg]; done))
    | (rw [bh2] <;> first | rfl | omega | (simp_all; done) | (simp_all [Int.add_assoc, Int.sub_eq_add_neg]; done))
    | (rw [bh3] <;> first | rfl | omega | (simp_all; done) | (simp_all [Int.add_assoc, Int.sub_eq_add_neg]; done))
    | (rw [bh4] <;> first | rfl | omega | (simp_all; done) | (simp_all [Int.add_assoc, Int.sub_eq_add_neg]; done))
    | (rw [bh5] <;> first | rfl | omega | (simp_all; done) | (simp_all [Int.add_assoc, Int.sub_eq_add_neg]; done)))
theorem rd_passed_hide (n : Int) (P : Pl) (S : Sd) (R : QE) (hP : P.ok) (w0 : 0 ≤ S.want) (wt : S.want ≠ 0 → 1 ≤ S.left) (t0 : 0 ≤ P.tol) (hp : Poss P S (.hide n)) (r : R (tellD (doneS P S (.hide n))) []) (l1 : lowD 0 P.d) (l2 : lowD 0 S.d) (l3 : lowD 0 (Dd.d (.hide n))) (wf : fitD 40 (wayD P.each) = true) : t_passed (endP R) (startD 13 [P.d, S.d, Dd.d (.hide n)]) [] := by
  unfold t_passed
  walk_at "de"
  all_goals (try (exact ⟨l2, l3, trivial⟩))
  all_goals (clear l1 l2 l3 wf)
  all_goals (refine rD r ?_; clear r)
  all_goals (simp only [way_each, decide_eq_true_eq, decide_eq_false_iff_not, Bool.not_eq_true', Bool.not_eq_false', doneS, Poss, Int.zero_add, Int.add_zero] at *)
  all_goals (first
    | rfl
    | (exfalso; omega)
    | (rw [bh1] <;> first | rfl | omega | (simp_all; done) | (simp_all [Int.add_assoc, Int.sub_eq_add_neg]; done))
    | (rw [bh2] <;> first | rfl | omega | (simp_all; done) | (simp_all [Int.add_assoc, Int.sub_eq_add_neg]; done))
    | (rw [bh3] <;> first | rfl | omega | (simp_all; done) | (simp_all [Int.add_assoc, Int.sub_eq_add_neg]; done))
    | (rw [bh4] <;> first | rfl | omega | (simp_all; done) | (simp_all [Int.add_assoc, Int.sub_eq_add_neg]; done))
    | (rw [bh5] <;> first | rfl | omega | (simp_all; done) | (simp_all [Int.add_assoc, Int.sub_eq_add_neg]; done)))
theorem rd_passed_read (n : Int) (P : Pl) (S : Sd) (R : QE) (hP : P.ok) (w0 : 0 ≤ S.want) (wt : S.want ≠ 0 → 1 ≤ S.left) (t0 : 0 ≤ P.tol) (hp : Poss P S (.read n)) (r : R (tellD (doneS P S (.read n))) []) (l1 : lowD 0 P.d) (l2 : lowD 0 S.d) (l3 : lowD 0 (Dd.d (.read n))) (wf : fitD 40 (wayD P.each) = true) : t_passed (endP R) (startD 13 [P.d, S.d, Dd.d (.read n)]) [] := by
  unfold t_passed
  walk_at "de"
  all_goals (try (exact ⟨l2, l3, trivial⟩))
  all_goals (clear l1 l2 l3 wf)
  all_goals (refine rD r ?_; clear r)
  all_goals (simp only [way_each, decide_eq_true_eq, decide_eq_false_iff_not, Bool.not_eq_true', Bool.not_eq_false', doneS, Poss, Int.zero_add, Int.add_zero] at *)
  all_goals (first
    | rfl
    | (exfalso; omega)
    | (rw [bh1] <;> first | rfl | omega | (simp_all; done) | (simp_all [Int.add_assoc, Int.sub_eq_add_neg]; done))
    | (rw [bh2] <;> first | rfl | omega | (simp_all; done) | (simp_all [Int.add_assoc, Int.sub_eq_add_neg]; done))
    | (rw [bh3] <;> first | rfl | omega | (simp_all; done) | (simp_all [Int.add_assoc, Int.sub_eq_add_neg]; done))
    | (rw [bh4] <;> first | rfl | omega | (simp_all; done) | (simp_all [Int.add_assoc, Int.sub_eq_add_neg]; done))
    | (rw [bh5] <;> first | rfl | omega | (simp_all; done) | (simp_all [Int.add_assoc, Int.sub_eq_add_neg]; done)))
theorem rd_passed_lay (n : Int) (P : Pl) (S : Sd) (R : QE) (hP : P.ok) (w0 : 0 ≤ S.want) (wt : S.want ≠ 0 → 1 ≤ S.left) (t0 : 0 ≤ P.tol) (hp : Poss P S (.lay n)) (r : R (tellD (doneS P S (.lay n))) []) (l1 : lowD 0 P.d) (l2 : lowD 0 S.d) (l3 : lowD 0 (Dd.d (.lay n))) (wf : fitD 40 (wayD P.each) = true) : t_passed (endP R) (startD 13 [P.d, S.d, Dd.d (.lay n)]) [] := by
  unfold t_passed
  walk_at "de"
  all_goals (try (exact ⟨l2, l3, trivial⟩))
  all_goals (clear l1 l2 l3 wf)
  all_goals (refine rD r ?_; clear r)
  all_goals (simp only [way_each, decide_eq_true_eq, decide_eq_false_iff_not, Bool.not_eq_true', Bool.not_eq_false', doneS, Poss, Int.zero_add, Int.add_zero] at *)
  all_goals (first
    | rfl
    | (exfalso; omega)
    | (rw [bh1] <;> first | rfl | omega | (simp_all; done) | (simp_all [Int.add_assoc, Int.sub_eq_add_neg]; done))
    | (rw [bh2] <;> first | rfl | omega | (simp_all; done) | (simp_all [Int.add_assoc, Int.sub_eq_add_neg]; done))
    | (rw [bh3] <;> first | rfl | omega | (simp_all; done) | (simp_all [Int.add_assoc, Int.sub_eq_add_neg]; done))
    | (rw [bh4] <;> first | rfl | omega | (simp_all; done) | (simp_all [Int.add_assoc, Int.sub_eq_add_neg]; done))
    | (rw [bh5] <;> first | rfl | omega | (simp_all; done) | (simp_all [Int.add_assoc, Int.sub_eq_add_neg]; done)))
theorem rd_passed_lean (P : Pl) (S : Sd) (R : QE) (hP : P.ok) (w0 : 0 ≤ S.want) (wt : S.want ≠ 0 → 1 ≤ S.left) (t0 : 0 ≤ P.tol) (hp : Poss P S .lean) (r : R (tellD (doneS P S .lean)) []) (l1 : lowD 0 P.d) (l2 : lowD 0 S.d) (l3 : lowD 0 (Dd.d .lean)) (wf : fitD 40 (wayD P.each) = true) : t_passed (endP R) (startD 13 [P.d, S.d, Dd.d .lean]) [] := by
  unfold t_passed
  walk_at "de"
  all_goals (try (exact ⟨l2, l3, trivial⟩))
  all_goals (clear l1 l2 l3 wf)
  all_goals (refine rD r ?_; clear r)
  all_goals (simp only [way_each, decide_eq_true_eq, decide_eq_false_iff_not, Bool.not_eq_true', Bool.not_eq_false', doneS, Poss, Int.zero_add, Int.add_zero] at *)
  all_goals (first
    | rfl
    | (exfalso; omega)
    | (rw [bh1] <;> first | rfl | omega | (simp_all; done) | (simp_all [Int.add_assoc, Int.sub_eq_add_neg]; done))
    | (rw [bh2] <;> first | rfl | omega | (simp_all; done) | (simp_all [Int.add_assoc, Int.sub_eq_add_neg]; done))
    | (rw [bh3] <;> first | rfl | omega | (simp_all; done) | (simp_all [Int.add_assoc, Int.sub_eq_add_neg]; done))
    | (rw [bh4] <;> first | rfl | omega | (simp_all; done) | (simp_all [Int.add_assoc, Int.sub_eq_add_neg]; done))
    | (rw [bh5] <;> first | rfl | omega | (simp_all; done) | (simp_all [Int.add_assoc, Int.sub_eq_add_neg]; done)))
theorem rd_passed_off (P : Pl) (S : Sd) (R : QE) (hP : P.ok) (w0 : 0 ≤ S.want) (wt : S.want ≠ 0 → 1 ≤ S.left) (t0 : 0 ≤ P.tol) (hp : Poss P S .off) (r : R (tellD (doneS P S .off)) []) (l1 : lowD 0 P.d) (l2 : lowD 0 S.d) (l3 : lowD 0 (Dd.d .off)) (wf : fitD 40 (wayD P.each) = true) : t_passed (endP R) (startD 13 [P.d, S.d, Dd.d .off]) [] := by
  unfold t_passed
  walk_at "de"
  all_goals (try (exact ⟨l2, l3, trivial⟩))
  all_goals (clear l1 l2 l3 wf)
  all_goals (refine rD r ?_; clear r)
  all_goals (simp only [way_each, decide_eq_true_eq, decide_eq_false_iff_not, Bool.not_eq_true', Bool.not_eq_false', doneS, Poss, Int.zero_add, Int.add_zero] at *)
  all_goals (first
    | rfl
    | (exfalso; omega)
    | (rw [bh1] <;> first | rfl | omega | (simp_all; done) | (simp_all [Int.add_assoc, Int.sub_eq_add_neg]; done))
    | (rw [bh2] <;> first | rfl | omega | (simp_all; done) | (simp_all [Int.add_assoc, Int.sub_eq_add_neg]; done))
    | (rw [bh3] <;> first | rfl | omega | (simp_all; done) | (simp_all [Int.add_assoc, Int.sub_eq_add_neg]; done))
    | (rw [bh4] <;> first | rfl | omega | (simp_all; done) | (simp_all [Int.add_assoc, Int.sub_eq_add_neg]; done))
    | (rw [bh5] <;> first | rfl | omega | (simp_all; done) | (simp_all [Int.add_assoc, Int.sub_eq_add_neg]; done)))
theorem rd_passed (ds : List D) (R : QE) (h : ∃ (P : Pl) (S : Sd) (e : Dd), ds = [P.d, S.d, e.d] ∧ P.ok ∧ Fits P S ∧ Poss P S e ∧ R (tellD (doneS P S e)) []) : t_passed (endP R) (startD 13 ds) [] := by
  obtain ⟨P, S, e, rfl, hP, hS, hp, r⟩ := h
  have l1 := low_pl (P := P) (k := 0)
  have l2 := low_sd (S := S) (k := 0)
  have l3 := low_dd (e := e) (k := 0)
  have wf : fitD 40 (wayD P.each) = true := by cases P.each <;> decide +kernel
  cases e with
  | free => exact rd_passed_free P S R hP hS.w0 hS.wt hP.t0 hp r l1 l2 l3 wf
  | wait => exact rd_passed_wait P S R hP hS.w0 hS.wt hP.t0 hp r l1 l2 l3 wf
  | hide n => exact rd_passed_hide n P S R hP hS.w0 hS.wt hP.t0 hp r l1 l2 l3 wf
  | read n => exact rd_passed_read n P S R hP hS.w0 hS.wt hP.t0 hp r l1 l2 l3 wf
  | lay n => exact rd_passed_lay n P S R hP hS.w0 hS.wt hP.t0 hp r l1 l2 l3 wf
  | lean => exact rd_passed_lean P S R hP hS.w0 hS.wt hP.t0 hp r l1 l2 l3 wf
  | off => exact rd_passed_off P S R hP hS.w0 hS.wt hP.t0 hp r l1 l2 l3 wf
end
end L2.DL

set_option Elab.async false
set_option linter.all false
set_option maxRecDepth 100000
set_option maxHeartbeats 1000000
/-! SO: one deed of a stand, runs: the defs read. -/
namespace L2.DL
open PySem PySem.Spec PyProof.Rows

/-! ### deeds known -/
mutual
theorem twD_same : ∀ a b : D, twD a b = true → a = b
  | .non, b, h => by cases b <;> simp [twD] at h ⊢
  | .bl a, b, h => by cases b <;> simp [twD] at h ⊢; exact h
  | .int a, b, h => by cases b <;> simp [twD] at h ⊢; exact h
  | .str a, b, h => by cases b <;> simp [twD] at h ⊢; exact h
  | .tup xs, b, h => by
    cases b <;> simp [twD] at h ⊢
    exact twDs_same xs _ h
  | .lst xs, b, h => by
    cases b <;> simp [twD] at h ⊢
    exact twDs_same xs _ h
  | .dct _ _, b, h => by simp [twD] at h
  | .ob _, b, h => by simp [twD] at h
  | .adr _, b, h => by simp [twD] at h
  | .ty _, b, h => by simp [twD] at h
theorem twDs_same : ∀ a b : List D, twDs a b = true → a = b
  | [], b, h => by cases b <;> simp [twDs] at h ⊢
  | x :: xs, [], h => by simp [twDs] at h
  | x :: xs, y :: ys, h => by
    simp only [twDs, Bool.and_eq_true] at h
    rw [twD_same x y h.1, twDs_same xs ys h.2]
end
mutual
theorem tw_refl : ∀ (a : D) (n : Nat), fitD n a = true → twD a a = true
  | .non, _, _ => by simp [twD]
  | .bl _, _, _ => by simp [twD]
  | .int _, _, _ => by simp [twD]
  | .str _, _, _ => by simp [twD]
  | .tup xs, n, h => by
    obtain ⟨k, rfl, h'⟩ := fitD_tup h
    simp only [twD]; exact tw_refls xs k h'
  | .lst xs, n, h => by
    obtain ⟨k, rfl, h'⟩ := fitD_lst h
    simp only [twD]; exact tw_refls xs k h'
  | .dct _ _, n, h => (fit_nodct h).elim
  | .ob _, n, h => (fit_noob h).elim
  | .adr _, n, h => (fit_noadr h).elim
  | .ty _, n, h => (fit_noty h).elim
theorem tw_refls : ∀ (xs : List D) (n : Nat), (∀ x ∈ xs, fitD n x = true) → twDs xs xs = true
  | [], _, _ => by simp [twDs]
  | x :: xs, n, h => by
    simp only [twDs, Bool.and_eq_true]
    exact ⟨tw_refl x n (h x List.mem_cons_self), tw_refls xs n fun y hy => h y (List.mem_cons_of_mem _ hy)⟩
end
theorem eqD_dd {e : Dd} {w : Str} : eqD e.d (.tup [.str w]) = true → e.d = .tup [.str w] := by
  cases e <;> simp [eqD, eqDs] <;> exact fun h => h
theorem eqD_dd2 {e : Dd} {w : Str} {n : Int} : eqD e.d (.tup [.str w, .int n]) = true → e.d = .tup [.str w, .int n] := by
  cases e <;> simp [eqD, eqDs] <;> exact fun h h' => ⟨h, h'⟩
theorem eqD_self (e : Dd) : eqD e.d e.d = true := by cases e <;> simp [eqD, eqDs]
theorem like_mem {P : Pl} {S : Sd} (hP : P.ok) (v : D) : likeB v (deedsL P S) = true ↔ v ∈ deedsL P S := by
  constructor
  · intro h
    unfold likeB at h
    split at h
    · obtain ⟨y, hy, e⟩ := List.any_eq_true.mp h
      obtain ⟨e', rfl, hp⟩ := mem_deedsL.mp hy
      rw [← eqD_dd e]; exact hy
    · rw [Bool.and_eq_true] at h
      obtain ⟨n, rfl, _⟩ := within_fit h.1
      obtain ⟨y, hy, e⟩ := List.any_eq_true.mp h.2
      obtain ⟨e', rfl, hp⟩ := mem_deedsL.mp hy
      rw [← eqD_dd2 e]; exact hy
    · cases h
  · intro h
    obtain ⟨e, rfl, hp⟩ := mem_deedsL.mp h
    have h1 : inD e.d (deedsL P S) = true := List.any_eq_true.mpr ⟨_, h, eqD_self e⟩
    have := hP.m1
    have := hP.s1
    cases e with
    | hide n =>
      obtain ⟨_, _, _⟩ := hp
      simp only [likeB, h1, isWithinB, Bool.and_true, Bool.and_eq_true, decide_eq_true_eq]; omega
    | read n =>
      obtain ⟨_, _, _, _⟩ := hp
      simp only [likeB, h1, isWithinB, Bool.and_true, Bool.and_eq_true, decide_eq_true_eq]; omega
    | lay n =>
      obtain ⟨_, _, _, _, _⟩ := hp
      simp only [likeB, h1, isWithinB, Bool.and_true, Bool.and_eq_true, decide_eq_true_eq]; omega
    | _ => exact h1
/-! ### steps -/
def ofD : D → Dd
  | .tup [.str w] => if w = "free" then .free else if w = "lean" then .lean else if w = "off" then .off else .wait
  | .tup [.str w, .int n] => if w = "hide" then .hide n else if w = "read" then .read n else .lay n
  | _ => .wait
def of1 (w : Str) : Dd := if w = "free" then .free else if w = "lean" then .lean else if w = "off" then .off else .wait
def of2 (w : Str) (n : Int) : Dd := if w = "hide" then .hide n else if w = "read" then .read n else .lay n
theorem ofD_d (e : Dd) : ofD e.d = e := by
  cases e with
  | hide n => show of2 "hide" n = _; unfold of2; rw [if_pos rfl]
  | read n => show of2 "read" n = _; unfold of2; rw [if_neg (by decide +kernel), if_pos rfl]
  | lay n => show of2 "lay" n = _; unfold of2; rw [if_neg (by decide +kernel), if_neg (by decide +kernel)]
  | free => show of1 "free" = _; unfold of1; rw [if_pos rfl]
  | lean => show of1 "lean" = _; unfold of1; rw [if_neg (by decide +kernel), if_pos rfl]
  | off => show of1 "off" = _; unfold of1; rw [if_neg (by decide +kernel), if_neg (by decide +kernel), if_pos rfl]
  | wait => show of1 "wait" = _; unfold of1; rw [if_neg (by decide +kernel), if_neg (by decide +kernel), if_neg (by decide +kernel)]
def stepsL (P : Pl) : Sd → List D → List (Sd × Str × Int)
  | _, [] => []
  | S, v :: r => if likeB v (deedsL P S) = true then doneS P S (ofD v) :: stepsL P (doneS P S (ofD v)).1 r else []
theorem steps_len {P : Pl} : ∀ (vs : List D) (S : Sd), (stepsL P S vs).length ≤ vs.length
  | [], _ => by simp [stepsL]
  | v :: r, S => by
    unfold stepsL
    split
    · rw [List.length_cons, List.length_cons]; exact Nat.succ_le_succ (steps_len r _)
    · simp
/-- a run, deed by deed -/
inductive Run (P : Pl) (S : Sd) : List Dd → Sd → List (Sd × Str × Int) → Prop
  | nil : Run P S [] S []
  | snoc {es : List Dd} {S' : Sd} {tr : List (Sd × Str × Int)} {e : Dd} : Run P S es S' tr → Poss P S' e → Run P S (es ++ [e]) (doneS P S' e).1 (tr ++ [doneS P S' e])
theorem Run.up {P : Pl} {S S' : Sd} {es tr} (hP : P.ok) (u : Up P S) (r : Run P S es S' tr) : Up P S' := by
  induction r with
  | nil => exact u
  | snoc _ p ih => exact ih.step hP p
theorem Run.len {P : Pl} {S S' : Sd} {es tr} (r : Run P S es S' tr) : tr.length = es.length := by
  induction r with
  | nil => rfl
  | snoc _ _ ih => rw [List.length_append, List.length_append, ih]; rfl
theorem Run.steps {P : Pl} {S S' : Sd} {es tr} (hP : P.ok) (r : Run P S es S' tr) : ∀ vs, stepsL P S (es.map Dd.d ++ vs) = tr ++ stepsL P S' vs := by
  induction r with
  | nil => intro vs; rfl
  | @snoc es S' tr e _ p ih =>
    intro vs
    have h : likeB e.d (deedsL P S') = true := (like_mem hP _).mpr (mem_deedsL.mpr ⟨e, rfl, p⟩)
    rw [List.map_append, List.append_assoc, ih]
    show tr ++ stepsL P S' (e.d :: vs) = _
    rw [show stepsL P S' (e.d :: vs) = doneS P S' e :: stepsL P (doneS P S' e).1 vs by rw [stepsL, if_pos h, ofD_d], List.append_assoc]; rfl
theorem Run.last {P : Pl} {S S' : Sd} {es tr} (r : Run P S es S' tr) : (tr = [] ∧ S' = S) ∨ ∃ t x, tr = t ++ [x] ∧ S' = x.1 := by
  cases r with
  | nil => exact .inl ⟨rfl, rfl⟩
  | snoc _ _ => exact .inr ⟨_, _, rfl, rfl⟩
def fitsRunB (P : Pl) : D → Bool
  | .tup vs => decide (vs.length ≤ 60) && decide ((stepsL P beginS vs).length = vs.length)
  | _ => false
def F_steps_of : FS := pureF fun ds R => ∃ (P : Pl) (S : Sd) (vs : List D), ds = [P.d, S.d, .tup vs] ∧ P.ok ∧ Up P S ∧ vs.length ≤ 1000 ∧ (∀ v ∈ vs, fitD 29 v = true) ∧ R (.lst ((stepsL P S vs).map tellD))
def F_fits_run : FS := pureF fun ds R => ∃ (P : Pl) (v : D), ds = [P.d, v] ∧ P.ok ∧ fitD 30 v = true ∧ R (.bl (fitsRunB P v))
def F_is_run : FS := pureF fun ds R => ∃ (P : Pl) (v : D), ds = [P.d, v] ∧ P.ok ∧ fitD 30 v = true ∧ R (.bl (fitsRunB P v))
def F_look_at_run : FS := pureF fun ds R => ∃ (P : Pl) (v : D), ds = [P.d, v] ∧ P.ok ∧ fitD 30 v = true ∧ fitsRunB P v = true ∧ R .non
def F_stand_behind : FS := pureF fun ds R => ∃ (P : Pl) (es : List Dd) (S : Sd) (tr : List (Sd × Str × Int)), ds = [P.d, .tup (es.map Dd.d)] ∧ P.ok ∧ Run P beginS es S tr ∧ es.length ≤ 60 ∧ R S.d
def F_words : FS := pureF fun ds R => ∃ (P : Pl) (es : List Dd) (S : Sd) (tr : List (Sd × Str × Int)), ds = [P.d, .tup (es.map Dd.d)] ∧ P.ok ∧ Run P beginS es S tr ∧ es.length ≤ 60 ∧ R (.lst (tr.map fun x => .str x.2.1))
def F_unpaid : FS := pureF fun ds R => ∃ (P : Pl) (es : List Dd) (S : Sd) (tr : List (Sd × Str × Int)), ds = [P.d, .tup (es.map Dd.d)] ∧ P.ok ∧ Run P beginS es S tr ∧ es.length ≤ 60 ∧ R (.int (tr.map fun x => x.2.2).sum)
/-- steps_of: 0 plan, 1 stand, 2 deeds, 3 found, 4 deed -/
def t_steps_of : tS := (tSq (tSt (tLstO tNilA) 3) (tSq (tFr (iTp (tV 2)) (gNm 4) (tSq (tIfD (tNt (tTru (tCaP 2 F_is_like (tConsA (tV 4) (tConsA (tCaP 2 F_deeds_of (tConsA (tV 0) (tConsA (tV 1) tNilA))) tNilA))))) (tRt (tV 3)) tNx) (tSq (tDp (tAppend (tV 3) (tConsA (tCaP 3 F_passed (tConsA (tV 0) (tConsA (tV 1) (tConsA (tV 4) tNilA)))) tNilA))) (tSt (tB2 oIx (tB2 oIx (tV 3) (tB1 oNeg (tK (.int 1)))) (tK (.int 0))) 1)))) (tRt (tV 3))))
abbrev n_steps_of : Nat := 5
/-- fits_run: 0 plan, 1 value -/
def t_fits_run : tS := (tSq (tIfD (tOr (tNt (tTru (tCa cIsi (tConsA (tV 1) (tConsA (tK (.ty "tuple")) tNilA))))) (tTB (tB2 oGt (tCa cLen (tConsA (tV 1) tNilA)) (tK c_MOST_DEEDS)))) (tRt (tK (.bl false))) tNx) (tRt (tB2 oEq (tCa cLen (tConsA (tCaP 3 F_steps_of (tConsA (tV 0) (tConsA (tK c_BEGIN) (tConsA (tV 1) tNilA)))) tNilA)) (tCa cLen (tConsA (tV 1) tNilA)))))
abbrev n_fits_run : Nat := 2
/-- is_run: 0 plan, 1 value -/
def t_is_run : tS := (tSq (tDp (tCaP 1 F_look_at_plan (tConsA (tV 0) tNilA))) (tRt (tCaP 2 F_fits_run (tConsA (tV 0) (tConsA (tV 1) tNilA)))))
abbrev n_is_run : Nat := 2
/-- look_at_run: 0 plan, 1 run -/
def t_look_at_run : tS := (tSq (tDp (tCaP 1 F_look_at_plan (tConsA (tV 0) tNilA))) (tIfD (tNt (tTru (tCaP 2 F_fits_run (tConsA (tV 0) (tConsA (tV 1) tNilA))))) tNo tNx))
abbrev n_look_at_run : Nat := 2
/-- stand_behind: 0 plan, 1 run -/
def t_stand_behind : tS := (tSq (tDp (tCaP 2 F_look_at_run (tConsA (tV 0) (tConsA (tV 1) tNilA)))) (tRt (tB2 oIx (tB2 oIx (tB2 oAdd (tLstD (tConsA (tTupD (tConsA (tK c_BEGIN) (tConsA (tK (.str "")) (tConsA (tK (.int 0)) tNilA)))) tNilA)) (tCaP 3 F_steps_of (tConsA (tV 0) (tConsA (tK c_BEGIN) (tConsA (tV 1) tNilA))))) (tB1 oNeg (tK (.int 1)))) (tK (.int 0)))))
abbrev n_stand_behind : Nat := 2
/-- words: 0 plan, 1 run, 2 stand, 3 word, 4 weight -/
def t_words : tS := (tSq (tDp (tCaP 2 F_look_at_run (tConsA (tV 0) (tConsA (tV 1) tNilA)))) (tRt (tLcD (iLs (tCaP 3 F_steps_of (tConsA (tV 0) (tConsA (tK c_BEGIN) (tConsA (tV 1) tNilA))))) (cN [2, 3, 4]) tYesD (tV 3) [2, 3, 4])))
abbrev n_words : Nat := 5
/-- unpaid: 0 plan, 1 run, 2 stand, 3 word, 4 weight -/
def t_unpaid : tS := (tSq (tDp (tCaP 2 F_look_at_run (tConsA (tV 0) (tConsA (tV 1) tNilA)))) (tRt (tCa cSum (tConsA (tLcD (iLs (tCaP 3 F_steps_of (tConsA (tV 0) (tConsA (tK c_BEGIN) (tConsA (tV 1) tNilA))))) (cN [2, 3, 4]) tYesD (tV 4) [2, 3, 4]) tNilA))))
abbrev n_unpaid : Nat := 5
section
variable {R : QE} {RE : QX} {v x : D} {P : Pl} {S : Sd} {e : Dd} {vs : List D} {es : List Dd} {tr : List (Sd × Str × Int)}
theorem u_steps (h : P.ok) (u : Up P S) (hl : vs.length ≤ 1000) (f : ∀ v ∈ vs, fitD 29 v = true) (r : R (.lst ((stepsL P S vs).map tellD)) []) : F_steps_of [P.d, S.d, .tup vs] [] R RE := ⟨rfl, P, S, vs, rfl, h, u, hl, f, r⟩
theorem u_fits_run (h : P.ok) (f : fitD 30 v = true) (r : R (.bl (fitsRunB P v)) []) : F_fits_run [P.d, v] [] R RE := ⟨rfl, P, v, rfl, h, f, r⟩
theorem u_is_run (h : P.ok) (f : fitD 30 v = true) (r : R (.bl (fitsRunB P v)) []) : F_is_run [P.d, v] [] R RE := ⟨rfl, P, v, rfl, h, f, r⟩
theorem u_look_run (h : P.ok) (f : fitD 30 v = true) (g : fitsRunB P v = true) (r : R .non []) : F_look_at_run [P.d, v] [] R RE := ⟨rfl, P, v, rfl, h, f, g, r⟩
theorem u_stand_behind (h : P.ok) (g : Run P beginS es S tr) (hl : es.length ≤ 60) (r : R S.d []) : F_stand_behind [P.d, .tup (es.map Dd.d)] [] R RE := ⟨rfl, P, es, S, tr, rfl, h, g, hl, r⟩
theorem u_words (h : P.ok) (g : Run P beginS es S tr) (hl : es.length ≤ 60) (r : R (.lst (tr.map fun x => .str x.2.1)) []) : F_words [P.d, .tup (es.map Dd.d)] [] R RE := ⟨rfl, P, es, S, tr, rfl, h, g, hl, r⟩
theorem u_unpaid (h : P.ok) (g : Run P beginS es S tr) (hl : es.length ≤ 60) (r : R (.int (tr.map fun x => x.2.2).sum) []) : F_unpaid [P.d, .tup (es.map Dd.d)] [] R RE := ⟨rfl, P, es, S, tr, rfl, h, g, hl, r⟩
end
section
local macro_rules | `(tactic| walk_at "d") => `(tactic| (first
  | with_reducible refine Stp.go ?_
  | with_reducible refine And.intro ?_ ?_
  | with_reducible refine fun _ => ?_
  | ((with_reducible refine s_iteY ?_); refine And.intro rfl ?_)
  | ((with_reducible refine s_iteN ?_); refine And.intro rfl ?_)
  | with_reducible refine iteB (fun _ => ?_) (fun _ => ?_)
  | with_reducible refine i_eq ?_ ?_ ?_
  | with_reducible refine i_ne ?_ ?_ ?_
  | with_reducible refine rtp ?_ ?_
  | with_reducible refine u_isB ?_ ?_
  | with_reducible refine u_isI ?_ ?_
  | with_reducible refine u_isT ?_ ?_
  | with_reducible refine u_isS ?_ ?_
  | with_reducible refine u_isL ?_ ?_
  | with_reducible refine u_isLT ?_ ?_
  | with_reducible refine u_is_within ?_ ?_
  | with_reducible refine u_law_int ?_ ?_
  | with_reducible refine u_is_row ?_ ?_
  | with_reducible refine u_law_made ?_ ?_
  | with_reducible refine u_is_program ?_ ?_
  | with_reducible refine u_law_good_program ?_ ?_
  | with_reducible refine u_is_plan ?_ ?_
  | with_reducible refine u_law_good_plan ?_ ?_
  | with_reducible refine u_law_kind ?_ ?_
  | with_reducible refine u_pick0 ?_ ?_ ?_
  | with_reducible refine u_pickG ?_ ?_ ?_ ?_
  | with_reducible refine u_look ?_ ?_
  | with_reducible refine u_fits ?_ ?_ ?_
  | with_reducible refine u_deeds_of ?_ ?_ ?_
  | with_reducible refine u_growth ?_
  | with_reducible refine u_passed ?_ ?_ ?_ ?_
  | with_reducible refine u_look_stand ?_ ?_ ?_ ?_
  | with_reducible refine u_look_deed ?_ ?_ ?_ ?_
  | with_reducible refine u_is_like ?_ ?_
  | with_reducible refine u_fits_run ?_ ?_ ?_
  | with_reducible refine rtm3 ?_ ?_ ?_
  | ((with_reducible refine s_sLst ?_); refine Exists.intro _ (And.intro rfl (Exists.intro _ (And.intro rfl (Exists.intro _ (And.intro (by simp only [List.set_cons_zero, List.set_cons_succ]; rfl) ?_))))))
  | with_reducible refine i_oIC ?_ ?_
  | with_reducible refine i_addS ?_ ?_
  | with_reducible refine i_addT ?_ ?_
  | with_reducible refine i_addL ?_ ?_
  | with_reducible refine i_trS ?_ ?_
  | with_reducible refine i_lenS ?_ ?_
  | with_reducible refine i_slS ?_ ?_
  | with_reducible refine i_r1Q ?_ ?_
  | with_reducible refine i_r2Q ?_ ?_
  | with_reducible refine i_lsR1Q ?_ ?_
  | with_reducible refine i_lsR2Q ?_ ?_
  | with_reducible refine i_inT ?_ ?_ ?_
  | with_reducible refine i_inL ?_ ?_ ?_
  | with_reducible refine i_ninT ?_ ?_ ?_
  | with_reducible refine i_ninL ?_ ?_ ?_
  | ((with_reducible refine s_tV ?_); refine Exists.intro _ (And.intro rfl ?_))
  | ((with_reducible refine s_ixT ?_); refine Exists.intro _ (And.intro rfl ?_))
  | ((with_reducible refine s_gNm ?_); refine Exists.intro _ (And.intro (by simp only [wipeD, setsD, List.set_cons_zero, List.set_cons_succ]; rfl) ?_))
  | ((with_reducible refine s_stQ ?_); refine Exists.intro _ (And.intro (by simp only [wipeD, setsD, List.set_cons_zero, List.set_cons_succ]; rfl) ?_))
  | ((with_reducible refine s_c1 ?_); refine Exists.intro _ (And.intro (by simp only [wipeD, setsD, List.set_cons_zero, List.set_cons_succ]; rfl) ?_))
  | ((with_reducible refine s_p2 ?_); refine Exists.intro _ (And.intro (by simp only [wipeD, setsD, List.set_cons_zero, List.set_cons_succ]; rfl) ?_))
  | ((with_reducible refine s_p3 ?_); refine Exists.intro _ (And.intro (by simp only [wipeD, setsD, List.set_cons_zero, List.set_cons_succ]; rfl) ?_))
  | ((with_reducible refine s_cN' ?_); refine And.intro rfl (Exists.intro _ (And.intro (by simp only [wipeD, setsD, List.set_cons_zero, List.set_cons_succ]; rfl) ?_)))
  | ((with_reducible refine s_ixL ?_); refine Exists.intro _ (And.intro rfl ?_))
  | ((with_reducible refine s_trO ?_); refine Exists.intro _ (And.intro rfl ?_))
  | ((with_reducible refine s_lenO ?_); refine Exists.intro _ (And.intro rfl ?_))
  | ((with_reducible refine s_listO ?_); refine Exists.intro _ (And.intro rfl ?_))
  | ((with_reducible refine s_ixO ?_); refine Exists.intro _ (And.intro rfl (Exists.intro _ (And.intro rfl ?_))))
  | ((with_reducible refine s_app1 ?_); refine And.intro rfl ?_)
  | ((with_reducible refine s_cN ?_); refine And.intro rfl ?_)
  | ((with_reducible refine s_dgtY ?_); refine Exists.intro _ (And.intro rfl ?_))
  | ((with_reducible refine i_dgtN ?_ ?_); exact rfl)))
local macro_rules | `(tactic| walk_at "ds") => `(tactic| ((try simp only [startD, List.map_cons, List.map_nil, List.length_cons, List.length_nil, List.replicate, Nat.reduceAdd, Nat.reduceSub, List.cons_append, List.nil_append]); repeat' walk_at "d"))
/-- side conditions -/
local macro_rules | `(tactic| walk_at "e") => `(tactic| (first
  | with_reducible assumption
  | ((with_reducible show fitD _ _ = true); (first | rfl | decide +kernel | (exact fit_mono _ 30 _ (by decide) (by assumption))))
  | ((with_reducible show lowDs _ _); (repeat' first | trivial | (exact fit_low _ 30 _ (by assumption)) | refine And.intro ?_ ?_); done)
  | ((with_reducible show lowO _ _); (show lowDs _ _); (repeat' first | trivial | (exact fit_low _ 30 _ (by assumption)) | refine And.intro ?_ ?_); done)
  | ((with_reducible show (_ : Int) < _); (first | decide | omega))
  | ((with_reducible show (_ : Int) ≤ _); (first | decide | omega))
  | ((with_reducible show lowD _ _); (first | trivial | (exact fit_low _ 30 _ (by assumption))))
  | ((with_reducible show List.length _ = _); simp; done)
  | ((with_reducible show _ ≤ sizeLine); rw [sizeLine_eq]; simp; done)
  | ((with_reducible show List.all _ _ = true); (first | rfl | decide +kernel | (simp [fitD]; done)))
  | skip))
local macro_rules | `(tactic| walk_at "de") => `(tactic| (walk_at "ds" <;> walk_at "e"))


theorem dds_fit (xs : List Dd) : (xs.map Dd.d).all (fitD 40) = true := by
  simp only [List.all_map, List.all_eq_true, Function.comp_apply]
  intro a _
  exact fit_mono _ 2 _ (by decide) (dd_fit a)
theorem rd_is_like (ds : List D) (R : QE) (h : ∃ (v : D) (xs : List Dd), ds = [v, .lst (xs.map Dd.d)] ∧ fitD 30 v = true ∧ R (.bl (likeB v (xs.map Dd.d))) []) : t_is_like (endP R) (startD 2 ds) [] := by
  obtain ⟨v, xs, rfl, f, r⟩ := h
  have hx := dds_fit xs
  unfold t_is_like
  have tl : ∀ ys, v = .tup ys → (∃ a, ys = [a] ∧ fitD 30 a = true) ∨ (∃ a b, ys = [a, b] ∧ fitD 30 a = true ∧ fitD 30 b = true) ∨ ((ys.length : Int) ≠ 1 ∧ (ys.length : Int) ≠ 2) := by
    rintro ys rfl
    match ys, f with
    | [], _ => exact .inr (.inr (by simp))
    | [a], f => exact .inl ⟨a, rfl, fit_mono _ 29 _ (by decide) (fit_tup f a (by simp))⟩
    | [a, b], f => exact .inr (.inl ⟨a, b, rfl, fit_mono _ 29 _ (by decide) (fit_tup f a (by simp)), fit_mono _ 29 _ (by decide) (fit_tup f b (by simp))⟩)
    | _ :: _ :: _ :: r, _ => exact .inr (.inr (by simp; omega))
  cases v with
  | tup ys =>
    rcases tl ys rfl with ⟨a, rfl, fa⟩ | ⟨a, b, rfl, fa, fb⟩ | ⟨h1, h2⟩
    · cases a <;> walk_at "de"
      all_goals first
        | exact hx
        | (exfalso; rename_i h; revert h; decide +kernel)
        | (refine rB r ?_; rfl)
        | skip
    · cases a <;> walk_at "de"
      all_goals first
        | exact hx
        | (exfalso; rename_i h; revert h; decide +kernel)
        | (refine rB r ?_; rfl)
        | (refine rB r ?_; simp_all [likeB]; done)
        | skip
    · walk_at "de"
      all_goals first
        | (refine rB r ?_; unfold likeB; split <;> first | rfl | (exfalso; rename_i q; cases q; simp at h1 h2; done))
        | (exfalso; rename_i h; simp [inD, eqD] at h; omega)
        | skip
  | _ =>
    walk_at "de"
    all_goals first
      | (refine rB r ?_; rfl)
      | (exfalso; rename_i h; revert h; decide +kernel)
      | skip
theorem rd_look_at_deed (ds : List D) (R : QE) (h : ∃ (P : Pl) (S : Sd) (e : Dd), ds = [P.d, S.d, e.d] ∧ P.ok ∧ fitsB P S.d = true ∧ Poss P S e ∧ R .non []) : t_look_at_deed (endP R) (startD 3 ds) [] := by
  obtain ⟨P, S, e, rfl, hP, hf, hp, r⟩ := h
  have f := P.fit
  have fs := S.fit
  have F := fits_of hP hf
  have fe := fit_mono _ 2 30 (by decide) (dd_fit e)
  have hl := (like_mem hP _).mpr (mem_deedsL.mpr ⟨e, rfl, hp⟩)
  have l1 := low_pl (P := P) (k := 0)
  have l2 := low_sd (S := S) (k := 0)
  have l3 := low_dd (e := e) (k := 0)
  have l4 := low_deeds (P := P) (S := S) (k := 0)
  unfold t_look_at_deed
  walk_at "de"
  all_goals first
    | exact ⟨l3, l4, trivial⟩
    | (exfalso; rename_i h; rw [hl] at h; cases h)
    | skip
theorem rd_deeds_at (ds : List D) (R : QE) (h : ∃ (P : Pl) (S : Sd), ds = [P.d, S.d] ∧ P.ok ∧ fitsB P S.d = true ∧ R (.lst (deedsL P S)) []) : t_deeds_at (endP R) (startD 2 ds) [] := by
  obtain ⟨P, S, rfl, hP, hf, r⟩ := h
  have f := P.fit
  have fs := S.fit
  have F := fits_of hP hf
  have l4 := low_deeds (P := P) (S := S) (k := 0)
  unfold t_deeds_at
  walk_at "de"
theorem rd_after (ds : List D) (R : QE) (h : ∃ (P : Pl) (S : Sd) (e : Dd), ds = [P.d, S.d, e.d] ∧ P.ok ∧ fitsB P S.d = true ∧ Poss P S e ∧ R (doneS P S e).1.d []) : t_after (endP R) (startD 3 ds) [] := by
  obtain ⟨P, S, e, rfl, hP, hf, hp, r⟩ := h
  have f := P.fit
  have fs := S.fit
  have F := fits_of hP hf
  have l3 := low_dd (e := e) (k := 0)
  unfold t_after
  walk_at "de"
  all_goals exact ⟨low_pl, low_sd, l3, trivial⟩
theorem rd_told (ds : List D) (R : QE) (h : ∃ (P : Pl) (S : Sd) (e : Dd), ds = [P.d, S.d, e.d] ∧ P.ok ∧ fitsB P S.d = true ∧ Poss P S e ∧ R (.str (doneS P S e).2.1) []) : t_told (endP R) (startD 3 ds) [] := by
  obtain ⟨P, S, e, rfl, hP, hf, hp, r⟩ := h
  have f := P.fit
  have fs := S.fit
  have F := fits_of hP hf
  have l3 := low_dd (e := e) (k := 0)
  unfold t_told
  walk_at "de"
  all_goals exact ⟨low_pl, low_sd, l3, trivial⟩
theorem tell_frs (tr : List (Sd × Str × Int)) : lowDs 0 (tr.map tellD) := lowDs_map fun x => ⟨⟨trivial, trivial, trivial, trivial, trivial, trivial, trivial⟩, trivial, trivial, trivial⟩
theorem ofD_mem {P : Pl} {S : Sd} {v : D} (h : v ∈ deedsL P S) : v = (ofD v).d ∧ Poss P S (ofD v) := by
  obtain ⟨e, rfl, hp⟩ := mem_deedsL.mp h
  rw [ofD_d]; exact ⟨rfl, hp⟩
theorem u_finO {R : QE} {xs : List D} (low : lowDs 0 xs) (r : R (.lst xs) []) : FinR 0 R (.ob 0) [.lst xs] := rtpF (.obl (Nat.zero_le _) rfl (.same low)) r
theorem at_last (xs : List D) (y : D) : atD (xs ++ [y]) (-1) = some y := by
  show (if 0 < (xs ++ [y]).length then (xs ++ [y])[(xs ++ [y]).length - 1 - 0]? else none) = some y
  rw [if_pos (by simp), List.length_append, List.length_singleton, Nat.sub_zero, Nat.add_sub_cancel, List.getElem?_concat_length]
theorem u_ixLast {R : QE} {xs : List D} {y : D} {L : Sto} (r : R y (.lst (xs ++ [y]) :: L)) : oIx (.ob 0) (.int (-1)) (.lst (xs ++ [y]) :: L) R := i_ixO rfl (at_last xs y) r
end
section
local macro_rules | `(tactic| walk_at "d") => `(tactic| (first
  | with_reducible refine u_finO ?_ ?_
  | with_reducible refine u_ixLast ?_
  | with_reducible refine Stp.go ?_
  | with_reducible refine And.intro ?_ ?_
  | with_reducible refine fun _ => ?_
  | ((with_reducible refine s_iteY ?_); refine And.intro rfl ?_)
  | ((with_reducible refine s_iteN ?_); refine And.intro rfl ?_)
  | with_reducible refine iteB (fun _ => ?_) (fun _ => ?_)
  | with_reducible refine i_eq ?_ ?_ ?_
  | with_reducible refine i_ne ?_ ?_ ?_
  | with_reducible refine rtp ?_ ?_
  | with_reducible refine u_isB ?_ ?_
  | with_reducible refine u_isI ?_ ?_
  | with_reducible refine u_isT ?_ ?_
  | with_reducible refine u_isS ?_ ?_
  | with_reducible refine u_isL ?_ ?_
  | with_reducible refine u_isLT ?_ ?_
  | with_reducible refine u_is_within ?_ ?_
  | with_reducible refine u_law_int ?_ ?_
  | with_reducible refine u_is_row ?_ ?_
  | with_reducible refine u_law_made ?_ ?_
  | with_reducible refine u_is_program ?_ ?_
  | with_reducible refine u_law_good_program ?_ ?_
  | with_reducible refine u_is_plan ?_ ?_
  | with_reducible refine u_law_good_plan ?_ ?_
  | with_reducible refine u_law_kind ?_ ?_
  | with_reducible refine u_pick0 ?_ ?_ ?_
  | with_reducible refine u_pickG ?_ ?_ ?_ ?_
  | with_reducible refine s_appD0 ?_ ?_
  | with_reducible refine u_look ?_ ?_
  | with_reducible refine u_fits ?_ ?_ ?_
  | with_reducible refine u_deeds_of ?_ ?_ ?_
  | with_reducible refine u_growth ?_
  | with_reducible refine u_passed ?_ ?_ ?_ ?_
  | with_reducible refine u_look_stand ?_ ?_ ?_ ?_
  | with_reducible refine u_look_deed ?_ ?_ ?_ ?_
  | with_reducible refine u_is_like ?_ ?_
  | with_reducible refine u_fits_run ?_ ?_ ?_
  | with_reducible refine rtm3 ?_ ?_ ?_
  | ((with_reducible refine s_sLst ?_); refine Exists.intro _ (And.intro rfl (Exists.intro _ (And.intro rfl (Exists.intro _ (And.intro (by simp only [List.set_cons_zero, List.set_cons_succ]; rfl) ?_))))))
  | with_reducible refine i_oIC ?_ ?_
  | with_reducible refine i_addS ?_ ?_
  | with_reducible refine i_addT ?_ ?_
  | with_reducible refine i_addL ?_ ?_
  | with_reducible refine i_trS ?_ ?_
  | with_reducible refine i_lenS ?_ ?_
  | with_reducible refine i_slS ?_ ?_
  | with_reducible refine i_r1Q ?_ ?_
  | with_reducible refine i_r2Q ?_ ?_
  | with_reducible refine i_lsR1Q ?_ ?_
  | with_reducible refine i_lsR2Q ?_ ?_
  | with_reducible refine i_inT ?_ ?_ ?_
  | with_reducible refine i_inL ?_ ?_ ?_
  | with_reducible refine i_ninT ?_ ?_ ?_
  | with_reducible refine i_ninL ?_ ?_ ?_
  | ((with_reducible refine s_tV ?_); refine Exists.intro _ (And.intro rfl ?_))
  | ((with_reducible refine s_ixT ?_); refine Exists.intro _ (And.intro rfl ?_))
  | ((with_reducible refine s_gNm ?_); refine Exists.intro _ (And.intro (by simp only [wipeD, setsD, List.set_cons_zero, List.set_cons_succ]; rfl) ?_))
  | ((with_reducible refine s_stQ ?_); refine Exists.intro _ (And.intro (by simp only [wipeD, setsD, List.set_cons_zero, List.set_cons_succ]; rfl) ?_))
  | ((with_reducible refine s_c1 ?_); refine Exists.intro _ (And.intro (by simp only [wipeD, setsD, List.set_cons_zero, List.set_cons_succ]; rfl) ?_))
  | ((with_reducible refine s_p2 ?_); refine Exists.intro _ (And.intro (by simp only [wipeD, setsD, List.set_cons_zero, List.set_cons_succ]; rfl) ?_))
  | ((with_reducible refine s_p3 ?_); refine Exists.intro _ (And.intro (by simp only [wipeD, setsD, List.set_cons_zero, List.set_cons_succ]; rfl) ?_))
  | ((with_reducible refine s_cN' ?_); refine And.intro rfl (Exists.intro _ (And.intro (by simp only [wipeD, setsD, List.set_cons_zero, List.set_cons_succ]; rfl) ?_)))
  | ((with_reducible refine s_ixL ?_); refine Exists.intro _ (And.intro rfl ?_))
  | ((with_reducible refine s_trO ?_); refine Exists.intro _ (And.intro rfl ?_))
  | ((with_reducible refine s_lenO ?_); refine Exists.intro _ (And.intro rfl ?_))
  | ((with_reducible refine s_listO ?_); refine Exists.intro _ (And.intro rfl ?_))
  | ((with_reducible refine s_ixO ?_); refine Exists.intro _ (And.intro rfl (Exists.intro _ (And.intro rfl ?_))))
  | ((with_reducible refine s_app1 ?_); refine And.intro rfl ?_)
  | ((with_reducible refine s_cN ?_); refine And.intro rfl ?_)
  | ((with_reducible refine s_dgtY ?_); refine Exists.intro _ (And.intro rfl ?_))
  | ((with_reducible refine i_dgtN ?_ ?_); exact rfl)))
local macro_rules | `(tactic| walk_at "ds") => `(tactic| ((try simp only [startD, List.map_cons, List.map_nil, List.length_cons, List.length_nil, List.replicate, Nat.reduceAdd, Nat.reduceSub, List.cons_append, List.nil_append]); repeat' walk_at "d"))
/-- side conditions -/
local macro_rules | `(tactic| walk_at "e") => `(tactic| (first
  | with_reducible assumption
  | ((with_reducible show fitD _ _ = true); (first | rfl | decide +kernel | (exact fit_mono _ 30 _ (by decide) (by assumption))))
  | ((with_reducible show lowDs _ _); (repeat' first | trivial | (exact fit_low _ 30 _ (by assumption)) | refine And.intro ?_ ?_); done)
  | ((with_reducible show lowO _ _); (show lowDs _ _); (repeat' first | trivial | (exact fit_low _ 30 _ (by assumption)) | refine And.intro ?_ ?_); done)
  | ((with_reducible show (_ : Int) < _); (first | decide | omega))
  | ((with_reducible show (_ : Int) ≤ _); (first | decide | omega))
  | ((with_reducible show lowD _ _); (first | trivial | (exact fit_low _ 30 _ (by assumption))))
  | ((with_reducible show List.length _ = _); simp; done)
  | ((with_reducible show _ ≤ sizeLine); rw [sizeLine_eq]; simp; done)
  | ((with_reducible show List.all _ _ = true); (first | rfl | decide +kernel | (simp [fitD]; done)))
  | skip))
local macro_rules | `(tactic| walk_at "de") => `(tactic| (walk_at "ds" <;> walk_at "e"))


theorem rd_steps_of (ds : List D) (R : QE) (h : ∃ (P : Pl) (S : Sd) (vs : List D), ds = [P.d, S.d, .tup vs] ∧ P.ok ∧ Up P S ∧ vs.length ≤ 1000 ∧ (∀ v ∈ vs, fitD 29 v = true) ∧ R (.lst ((stepsL P S vs).map tellD)) []) : t_steps_of (endP R) (startD 5 ds) [] := by
  obtain ⟨P, S0, vs, rfl, hP, hU, hl, hf, r⟩ := h
  have fin : ∀ (tr : List (Sd × Str × Int)), tr = stepsL P S0 vs → FinR 0 R (.ob 0) [.lst (tr.map tellD)] := by
    rintro tr rfl
    exact rtpF (.obl (Nat.zero_le _) rfl (.same (tell_frs _))) r
  unfold t_steps_of
  walk_at "de"
  refine fr_by (fun rest ρ L => ∃ S tr x4, Up P S ∧ tr ++ stepsL P S rest = stepsL P S0 vs ∧ L = [.lst (tr.map tellD)] ∧ (∀ v ∈ rest, fitD 29 v = true) ∧ tr.length ≤ 1000 ∧ tr.length + rest.length ≤ 1000 ∧ ρ = [some P.d, some S.d, some (.tup vs), some (.ob 0), x4]) ⟨S0, [], none, hU, rfl, rfl, hf, by simp, by simpa using hl, rfl⟩ ?_ ?_
  · rintro v rest ρ L ⟨S, tr, x4, u, he, rfl, hr, hn, hn2, rfl⟩
    have fv := fit_mono _ 29 30 (by decide) (hr v List.mem_cons_self)
    have lv := low_of fv
    have F := fits_of hP (u.fits hP)
    have l4 := low_deeds (P := P) (S := S) (k := 0)
    by_cases hh : likeB v (deedsL P S) = true
    · obtain ⟨ev, hp⟩ := ofD_mem ((like_mem hP v).mp hh)
      have l3 := low_dd (e := ofD v) (k := 0)
      have he' : (tr ++ [doneS P S (ofD v)]) ++ stepsL P (doneS P S (ofD v)).1 rest = stepsL P S0 vs := by
        rw [← he, stepsL, if_pos hh, List.append_assoc]; rfl
      generalize ofD v = e at ev hp l3 he'
      subst ev
      rw [List.length_cons] at hn2
      walk_at "de"
      all_goals first
        | exact ⟨l3, l4, trivial⟩
        | exact ⟨low_pl, low_sd, l3, trivial⟩
        | (exfalso; rename_i h; rw [hh] at h; cases h)
        | (rw [List.length_map, sizeLine_eq]; omega)
        | exact ⟨_, tr ++ [doneS P S e], _, u.step hP hp, he', by rw [List.map_append]; rfl, fun z hz => hr z (List.mem_cons_of_mem _ hz), by rw [List.length_append, List.length_singleton]; omega, by rw [List.length_append, List.length_singleton]; omega, rfl⟩
        | skip
    · have he : tr = stepsL P S0 vs := by
        rw [← he, stepsL, if_neg hh, List.append_nil]
      walk_at "de"
      all_goals first
        | exact ⟨lv, l4, trivial⟩
        | (exfalso; rename_i h; simp [hh] at h; done)
        | exact tell_frs _
        | (rw [he]; exact r)
        | skip
  · rintro ρ L ⟨S, tr, x4, u, he, rfl, hr, hn, hn2, rfl⟩
    have he : tr = stepsL P S0 vs := by rw [← he, stepsL, List.append_nil]
    walk_at "de"
    · exact tell_frs _
    · rw [he]; exact r
end
end L2.DL

set_option Elab.async false
set_option linter.all false
set_option maxRecDepth 100000
set_option maxHeartbeats 1000000
/-! SP: runs, read. -/
namespace L2.DL
open PySem PySem.Spec PyProof.Rows
section
variable {R : QE} {RE : QX} {v x : D} {P : Pl} {S : Sd} {e : Dd} {vs : List D} {es : List Dd} {tr : List (Sd × Str × Int)}
theorem u_stepsB (h : P.ok) (hl : vs.length ≤ 1000) (f : ∀ v ∈ vs, fitD 29 v = true) (r : R (.lst ((stepsL P beginS vs).map tellD)) []) : F_steps_of [P.d, .tup [.int 0, .int 0, .int 0, .int 0, .bl false, .bl false], .tup vs] [] R RE := u_steps (S := beginS) h (Up.begin h) hl f r
theorem Run.all (hP : P.ok) (r : Run P beginS es S tr) : stepsL P beginS (es.map Dd.d) = tr := by
  have h := r.steps hP []
  rw [List.append_nil] at h
  rw [h, stepsL, List.append_nil]
theorem Run.good (hP : P.ok) (r : Run P beginS es S tr) (hl : es.length ≤ 60) : fitsRunB P (.tup (es.map Dd.d)) = true := by
  simp only [fitsRunB, List.length_map, Bool.and_eq_true, decide_eq_true_eq, r.all hP, r.len, hl, and_self]
theorem dds_fit29 : fitD 30 (.tup (es.map Dd.d)) = true := by
  simp only [fitD, List.all_map, List.all_eq_true, Function.comp_apply]
  intro a _
  exact fit_mono _ 2 _ (by decide) (dd_fit a)
end
theorem tell_w (tr : List (Sd × Str × Int)) : (tr.map tellD).filterMap (fun x => match x with | .tup [_, w, _] => some w | _ => none) = tr.map fun x => D.str x.2.1 := by
  induction tr with
  | nil => rfl
  | cons x t ih => rw [List.map_cons, List.map_cons, ← ih]; rfl
theorem tell_n (tr : List (Sd × Str × Int)) : (tr.map tellD).filterMap (fun x => match x with | .tup [_, _, w] => some w | _ => none) = (tr.map fun x => x.2.2).map D.int := by
  induction tr with
  | nil => rfl
  | cons x t ih => rw [List.map_cons, List.map_cons, List.map_cons, ← ih]; rfl
section
local macro_rules | `(tactic| walk_at "d") => `(tactic| (first
  | with_reducible refine u_finO ?_ ?_
  | with_reducible refine u_ixLast ?_
  | with_reducible refine Stp.go ?_
  | with_reducible refine And.intro ?_ ?_
  | with_reducible refine fun _ => ?_
  | ((with_reducible refine s_iteY ?_); refine And.intro rfl ?_)
  | ((with_reducible refine s_iteN ?_); refine And.intro rfl ?_)
  | with_reducible refine iteB (fun _ => ?_) (fun _ => ?_)
  | with_reducible refine i_eq ?_ ?_ ?_
  | with_reducible refine i_ne ?_ ?_ ?_
  | with_reducible refine rtp ?_ ?_
  | with_reducible refine u_isB ?_ ?_
  | with_reducible refine u_isI ?_ ?_
  | with_reducible refine u_isT ?_ ?_
  | with_reducible refine u_isS ?_ ?_
  | with_reducible refine u_isL ?_ ?_
  | with_reducible refine u_isLT ?_ ?_
  | with_reducible refine u_is_within ?_ ?_
  | with_reducible refine u_law_int ?_ ?_
  | with_reducible refine u_is_row ?_ ?_
  | with_reducible refine u_law_made ?_ ?_
  | with_reducible refine u_is_program ?_ ?_
  | with_reducible refine u_law_good_program ?_ ?_
  | with_reducible refine u_is_plan ?_ ?_
  | with_reducible refine u_law_good_plan ?_ ?_
  | with_reducible refine u_law_kind ?_ ?_
  | with_reducible refine u_pick0 ?_ ?_ ?_
  | with_reducible refine u_pickG ?_ ?_ ?_ ?_
  | with_reducible refine u_look ?_ ?_
  | with_reducible refine u_fits ?_ ?_ ?_
  | with_reducible refine u_stepsB ?_ ?_ ?_ ?_
  | with_reducible refine u_fits_run ?_ ?_ ?_
  | with_reducible refine u_look_run ?_ ?_ ?_ ?_
  | with_reducible refine rtm3 ?_ ?_ ?_
  | ((with_reducible refine s_sLst ?_); refine Exists.intro _ (And.intro rfl (Exists.intro _ (And.intro rfl (Exists.intro _ (And.intro (by simp only [List.set_cons_zero, List.set_cons_succ]; rfl) ?_))))))
  | with_reducible refine i_oIC ?_ ?_
  | with_reducible refine i_addS ?_ ?_
  | with_reducible refine i_addT ?_ ?_
  | with_reducible refine i_addL ?_ ?_
  | with_reducible refine i_trS ?_ ?_
  | with_reducible refine i_lenS ?_ ?_
  | with_reducible refine i_slS ?_ ?_
  | with_reducible refine i_r1Q ?_ ?_
  | with_reducible refine i_r2Q ?_ ?_
  | with_reducible refine i_lsR1Q ?_ ?_
  | with_reducible refine i_lsR2Q ?_ ?_
  | with_reducible refine i_inT ?_ ?_ ?_
  | with_reducible refine i_inL ?_ ?_ ?_
  | with_reducible refine i_ninT ?_ ?_ ?_
  | with_reducible refine i_ninL ?_ ?_ ?_
  | ((with_reducible refine s_tV ?_); refine Exists.intro _ (And.intro rfl ?_))
  | ((with_reducible refine s_ixT ?_); refine Exists.intro _ (And.intro rfl ?_))
  | ((with_reducible refine s_gNm ?_); refine Exists.intro _ (And.intro (by simp only [wipeD, setsD, List.set_cons_zero, List.set_cons_succ]; rfl) ?_))
  | ((with_reducible refine s_stQ ?_); refine Exists.intro _ (And.intro (by simp only [wipeD, setsD, List.set_cons_zero, List.set_cons_succ]; rfl) ?_))
  | ((with_reducible refine s_c1 ?_); refine Exists.intro _ (And.intro (by simp only [wipeD, setsD, List.set_cons_zero, List.set_cons_succ]; rfl) ?_))
  | ((with_reducible refine s_p2 ?_); refine Exists.intro _ (And.intro (by simp only [wipeD, setsD, List.set_cons_zero, List.set_cons_succ]; rfl) ?_))
  | ((with_reducible refine s_p3 ?_); refine Exists.intro _ (And.intro (by simp only [wipeD, setsD, List.set_cons_zero, List.set_cons_succ]; rfl) ?_))
  | ((with_reducible refine s_cN' ?_); refine And.intro rfl (Exists.intro _ (And.intro (by simp only [wipeD, setsD, List.set_cons_zero, List.set_cons_succ]; rfl) ?_)))
  | ((with_reducible refine s_ixL ?_); refine Exists.intro _ (And.intro rfl ?_))
  | ((with_reducible refine s_trO ?_); refine Exists.intro _ (And.intro rfl ?_))
  | ((with_reducible refine s_lenO ?_); refine Exists.intro _ (And.intro rfl ?_))
  | ((with_reducible refine s_listO ?_); refine Exists.intro _ (And.intro rfl ?_))
  | ((with_reducible refine s_ixO ?_); refine Exists.intro _ (And.intro rfl (Exists.intro _ (And.intro rfl ?_))))
  | ((with_reducible refine s_app1 ?_); refine And.intro rfl ?_)
  | ((with_reducible refine s_cN ?_); refine And.intro rfl ?_)
  | ((with_reducible refine s_dgtY ?_); refine Exists.intro _ (And.intro rfl ?_))
  | ((with_reducible refine i_dgtN ?_ ?_); exact rfl)))
local macro_rules | `(tactic| walk_at "ds") => `(tactic| ((try simp only [startD, List.map_cons, List.map_nil, List.length_cons, List.length_nil, List.replicate, Nat.reduceAdd, Nat.reduceSub, List.cons_append, List.nil_append]); repeat' walk_at "d"))
/-- side conditions -/
local macro_rules | `(tactic| walk_at "e") => `(tactic| (first
  | with_reducible assumption
  | ((with_reducible show fitD _ _ = true); (first | rfl | decide +kernel | (exact fit_mono _ 30 _ (by decide) (by assumption))))
  | ((with_reducible show lowDs _ _); (repeat' first | trivial | (exact fit_low _ 30 _ (by assumption)) | refine And.intro ?_ ?_); done)
  | ((with_reducible show lowO _ _); (show lowDs _ _); (repeat' first | trivial | (exact fit_low _ 30 _ (by assumption)) | refine And.intro ?_ ?_); done)
  | ((with_reducible show (_ : Int) < _); (first | decide | omega))
  | ((with_reducible show (_ : Int) ≤ _); (first | decide | omega))
  | ((with_reducible show lowD _ _); (first | trivial | (exact fit_low _ 30 _ (by assumption))))
  | ((with_reducible show List.length _ = _); simp; done)
  | ((with_reducible show _ ≤ sizeLine); rw [sizeLine_eq]; simp; done)
  | ((with_reducible show List.all _ _ = true); (first | rfl | decide +kernel | (simp [fitD]; done)))
  | skip))
local macro_rules | `(tactic| walk_at "de") => `(tactic| (walk_at "ds" <;> walk_at "e"))


theorem rd_fits_run (ds : List D) (R : QE) (h : ∃ (P : Pl) (v : D), ds = [P.d, v] ∧ P.ok ∧ fitD 30 v = true ∧ R (.bl (fitsRunB P v)) []) : t_fits_run (endP R) (startD 2 ds) [] := by
  obtain ⟨P, v, rfl, hP, f, r⟩ := h
  have lp := low_pl (P := P) (k := 0)
  have lv := low_of f
  unfold t_fits_run
  cases v with
  | tup vs =>
    have hf := fit_tup (n := 29) f
    walk_at "de"
    all_goals first
      | (refine rB r ?_; rename_i h; simp only [decide_eq_true_eq] at h; simp only [fitsRunB]; rw [decide_eq_false (show ¬ vs.length ≤ 60 by omega)]; rfl)
      | exact ⟨lp, ⟨trivial, trivial, trivial, trivial, trivial, trivial, trivial⟩, lv, trivial⟩
      | (rename_i h; simp only [decide_eq_false_iff_not] at h; omega)
      | exact hf _ (by assumption)
      | (refine rB r ?_; rename_i h _; simp only [decide_eq_false_iff_not] at h; simp only [fitsRunB, eqD, List.length_map]; rw [decide_eq_true (show vs.length ≤ 60 by omega), Bool.true_and, Bool.eq_iff_iff]; simp only [decide_eq_true_eq]; omega)
      | skip
  | _ =>
    walk_at "de"
    all_goals first
      | (refine rB r ?_; rfl)
      | (exfalso; rename_i h; revert h; decide +kernel)
      | skip
theorem rd_is_run (ds : List D) (R : QE) (h : ∃ (P : Pl) (v : D), ds = [P.d, v] ∧ P.ok ∧ fitD 30 v = true ∧ R (.bl (fitsRunB P v)) []) : t_is_run (endP R) (startD 2 ds) [] := by
  obtain ⟨P, v, rfl, hP, f, r⟩ := h
  have lp := low_pl (P := P) (k := 0)
  have lv := low_of f
  have fp := P.fit
  unfold t_is_run
  walk_at "de"
theorem rd_look_at_run (ds : List D) (R : QE) (h : ∃ (P : Pl) (v : D), ds = [P.d, v] ∧ P.ok ∧ fitD 30 v = true ∧ fitsRunB P v = true ∧ R .non []) : t_look_at_run (endP R) (startD 2 ds) [] := by
  obtain ⟨P, v, rfl, hP, f, g, r⟩ := h
  have lp := low_pl (P := P) (k := 0)
  have lv := low_of f
  have fp := P.fit
  unfold t_look_at_run
  walk_at "de"
  all_goals (rename_i h; rw [g] at h; cases h)
theorem rd_stand_behind (ds : List D) (R : QE) (h : ∃ (P : Pl) (es : List Dd) (S : Sd) (tr : List (Sd × Str × Int)), ds = [P.d, .tup (es.map Dd.d)] ∧ P.ok ∧ Run P beginS es S tr ∧ es.length ≤ 60 ∧ R S.d []) : t_stand_behind (endP R) (startD 2 ds) [] := by
  obtain ⟨P, es, S, tr, rfl, hP, hr, hl, r⟩ := h
  have lp := low_pl (P := P) (k := 0)
  have fv := dds_fit29 (es := es)
  have hf := fit_tup (n := 29) fv
  have lv := low_of fv
  have g := hr.good hP hl
  have fp := P.fit
  unfold t_stand_behind
  walk_at "de"
  all_goals first
    | exact ⟨lp, lv, trivial⟩
    | exact ⟨lp, ⟨trivial, trivial, trivial, trivial, trivial, trivial, trivial⟩, lv, trivial⟩
    | (rw [List.length_map]; omega)
    | exact hf _ (by assumption)
    | skip
  · rw [hr.all hP, List.length_map, hr.len, sizeLine_eq, List.length_singleton]; omega
  · rw [hr.all hP]
    rcases hr.last with ⟨rfl, rfl⟩ | ⟨t, x, rfl, rfl⟩
    · refine i_ixL (d := tellD (beginS, "", 0)) rfl ?_
      walk_at "de"
    · rw [List.map_append, ← List.append_assoc]
      refine i_ixL (at_last _ _) ?_
      walk_at "de"
theorem rd_words (ds : List D) (R : QE) (h : ∃ (P : Pl) (es : List Dd) (S : Sd) (tr : List (Sd × Str × Int)), ds = [P.d, .tup (es.map Dd.d)] ∧ P.ok ∧ Run P beginS es S tr ∧ es.length ≤ 60 ∧ R (.lst (tr.map fun x => .str x.2.1)) []) : t_words (endP R) (startD 5 ds) [] := by
  obtain ⟨P, es, S, tr, rfl, hP, hr, hl, r⟩ := h
  have lp := low_pl (P := P) (k := 0)
  have fv := dds_fit29 (es := es)
  have hf := fit_tup (n := 29) fv
  have lv := low_of fv
  have g := hr.good hP hl
  have fp := P.fit
  unfold t_words
  walk_at "de"
  all_goals first
    | exact ⟨lp, lv, trivial⟩
    | exact ⟨lp, ⟨trivial, trivial, trivial, trivial, trivial, trivial, trivial⟩, lv, trivial⟩
    | (rw [List.length_map]; omega)
    | exact hf _ (by assumption)
    | skip
  rw [hr.all hP]
  refine lc_pure (tr.map tellD) (fun x => match x with | .tup [_, w, _] => some w | _ => none) (by rw [List.length_map, hr.len, sizeLine_eq]; omega) (fun x hx Q N hQ hN => ?_) ?_
  · obtain ⟨y, _, rfl⟩ := List.mem_map.mp hx
    walk_at "de"
    all_goals exact hQ _ rfl
  · rw [tell_w]
    walk_at "de"
    exact lowDs_map fun x => trivial
theorem rd_unpaid (ds : List D) (R : QE) (h : ∃ (P : Pl) (es : List Dd) (S : Sd) (tr : List (Sd × Str × Int)), ds = [P.d, .tup (es.map Dd.d)] ∧ P.ok ∧ Run P beginS es S tr ∧ es.length ≤ 60 ∧ R (.int (tr.map fun x => x.2.2).sum) []) : t_unpaid (endP R) (startD 5 ds) [] := by
  obtain ⟨P, es, S, tr, rfl, hP, hr, hl, r⟩ := h
  have lp := low_pl (P := P) (k := 0)
  have fv := dds_fit29 (es := es)
  have hf := fit_tup (n := 29) fv
  have lv := low_of fv
  have g := hr.good hP hl
  have fp := P.fit
  unfold t_unpaid
  walk_at "de"
  all_goals first
    | exact ⟨lp, lv, trivial⟩
    | exact ⟨lp, ⟨trivial, trivial, trivial, trivial, trivial, trivial, trivial⟩, lv, trivial⟩
    | (rw [List.length_map]; omega)
    | exact hf _ (by assumption)
    | skip
  rw [hr.all hP]
  refine lc_pure (tr.map tellD) (fun x => match x with | .tup [_, _, w] => some w | _ => none) (by rw [List.length_map, hr.len, sizeLine_eq]; omega) (fun x hx Q N hQ hN => ?_) ?_
  · obtain ⟨y, _, rfl⟩ := List.mem_map.mp hx
    walk_at "de"
    all_goals exact hQ _ rfl
  · rw [tell_n]
    walk_at "de"
    refine i_sum (intsOf_map _) ?_
    walk_at "de"
end
end L2.DL

set_option Elab.async false
set_option linter.all false
set_option maxRecDepth 100000
set_option maxHeartbeats 1000000
/-! SQ: what the laws' own texts share: springs and plans handed on, likeness, the law's start and end. (Holds what SK1 holds for k01.) -/
namespace L2.DL
open PySem PySem.Spec PyProof.Rows
def F_law : FS := pureF fun ds R => ∃ ns : List Int, ds = [.lst (ns.map .int)] ∧ R (.bl true)
section
variable {R : QE} {RE : QX} {a b x : D} {P : Pl} {S : Sd} {e : Dd} {pre : Sto} {j : Nat} {p m : Int}
theorem k_spring {ns : List Int} {z : Int} {W : O → Prop} (h0 : 0 ≤ z) (h : ∀ a m, W (spr a m)) : F_law_spring [.lst (ns.map .int), .int z] W := ⟨ns, z, rfl, h0, h⟩
theorem k_is_stand (h : P.ok) (f : fitD 30 x = true) (r : R (.bl (fitsB P x)) []) : F_is_stand [P.d, x] [] R RE := ⟨rfl, P, x, rfl, h, f, r⟩
theorem k_deeds (h : P.ok) (r : R (.lst (deedsL P S)) []) : F_law_deeds [P.d, S.d] [] R RE := ⟨rfl, P, S, rfl, h, r⟩
theorem k_done (h : P.ok) (r : R (tellD (doneS P S e)) []) : F_law_done [P.d, S.d, e.d] [] R RE := ⟨rfl, P, S, e, rfl, h, r⟩
theorem k_twins (f : fitD 9 a = true) (g : fitD 9 b = true) (w : wideD a) (r : R (.bl (twD a b)) []) : F_law_twins 10 [a, b] [] R RE := u_twins (m := 9) f g w (by decide) r
/-- two that are the same -/
theorem k_same (f : fitD 9 a = true) (w : wideD a) (r : R (.bl true) []) : F_law_twins 10 [a, a] [] R RE := k_twins f f w (by rw [tw_refl a 9 f]; exact r)
end
theorem pr_wide {P : Pl} : wideD P.prog := ⟨by simp, trivial, trivial, trivial, trivial⟩
theorem pl_wide {P : Pl} : wideD P.d := ⟨by simp, pr_wide, ⟨by simp, trivial, trivial, trivial, trivial⟩, trivial⟩
theorem sd_wide {S : Sd} : wideD S.d := ⟨by simp, trivial, trivial, trivial, trivial, trivial, trivial, trivial⟩
theorem dd_wide {e : Dd} : wideD e.d := by cases e <;> exact ⟨by simp, by first | exact ⟨trivial, trivial⟩ | exact ⟨trivial, trivial, trivial⟩⟩
theorem pr_fit9 {P : Pl} : fitD 9 P.prog = true := by
  unfold Pl.prog
  cases P.each <;> simp [fitD, wayD, PyData.strOk] <;> decide +kernel
theorem sd_fit9 {S : Sd} {n : Nat} : fitD (n + 1) S.d = true := by simp [fitD]
theorem lst_low {ns : List Int} {z : Int} : lowDs 0 [.lst (ns.map .int), .int z] := ⟨lowDs_map fun _ => trivial, trivial, trivial⟩
theorem pl_fit9 {P : Pl} : fitD 9 P.d = true := by
  unfold Pl.d Pl.world Pl.prog
  cases P.each <;> simp [fitD, wayD, PyData.strOk] <;> decide +kernel
theorem deeds_mem {P : Pl} {S : Sd} {x : D} (h : x ∈ deedsL P S) : ∃ e : Dd, x = e.d ∧ Poss P S e := mem_deedsL.mp h
theorem wideDs_of : ∀ {xs : List D}, (∀ x ∈ xs, wideD x) → wideDs xs
  | [], _ => trivial
  | x :: xs, h => ⟨h x List.mem_cons_self, wideDs_of fun y hy => h y (List.mem_cons_of_mem _ hy)⟩
theorem deeds_len {P : Pl} {S : Sd} (hP : P.ok) : 0 < (deedsL P S).length ∧ (deedsL P S).length ≤ 100 := by
  unfold deedsL
  split
  · simp
  · unfold sortD
    rw [List.length_mergeSort]
    refine ⟨by simp [deedsRaw], ?_⟩
    rw [deeds_eq]
    have h1 := len_f1 S (rangeD 1 P.most.toNat)
    have h2 := len_f2 S (rangeD (-P.spread) (P.spread + 1 - -P.spread).toNat)
    rw [rangeD_length] at h1 h2
    have := hP.m0; have := hP.m1; have := hP.s0; have := hP.s1
    simp only [List.length_append, List.length_cons, List.length_nil]
    split <;> simp only [List.length_cons, List.length_nil] <;> omega
theorem deeds_wide {P : Pl} {S : Sd} (hP : P.ok) : wideD (.lst (deedsL P S)) := ⟨by have := (deeds_len (S := S) hP).2; omega, wideDs_of fun x hx => by
  obtain ⟨e, rfl, _⟩ := deeds_mem hx
  exact dd_wide⟩
theorem deeds_fit {P : Pl} {S : Sd} {n : Nat} : fitD (n + 3) (.lst (deedsL P S)) = true := by
  simp only [fitD, List.all_eq_true]
  intro x hx
  obtain ⟨e, rfl, _⟩ := deeds_mem hx
  exact fit_mono _ 2 _ (by omega) (dd_fit e)
theorem word_fit {P : Pl} {S : Sd} {e : Dd} {n : Nat} : fitD n (.str (doneS P S e).2.1) = true := by
  have h : ∀ n, fitD n (.str "") = true ∧ fitD n (.str "accepts") = true ∧ fitD n (.str "calls") = true := by
    intro n
    have h1 : PyData.strOk ("" : Str) = true := by decide +kernel
    have h2 : PyData.strOk ("accepts" : Str) = true := by decide +kernel
    have h3 : PyData.strOk ("calls" : Str) = true := by decide +kernel
    cases n <;> simp only [fitD] <;> exact ⟨h1, h2, h3⟩
  have hb : ∀ off hand leans w, fitD n (.str (behind P S off hand leans w).2.1) = true := by
    intro off hand leans w
    have key : ∀ (c : Prop) [Decidable c] (a b : Sd × Str × Int), fitD n (.str a.2.1) = true → fitD n (.str b.2.1) = true → fitD n (.str (if c then a else b).2.1) = true := by
      intro c _ a b h1 h2
      by_cases hc : c
      · rw [if_pos hc]; exact h1
      · rw [if_neg hc]; exact h2
    unfold behind
    exact key _ _ _ (key _ _ _ (h n).2.1 (key _ _ _ (h n).1 (h n).2.2)) (key _ _ _ (h n).1 (h n).2.2)
  cases e with
  | free => exact (h n).1
  | read n => exact (h _).1
  | _ => exact hb _ _ _ _
/-- the law's own start -/
theorem law_in {K : PySem.W.Frag} {w : World} {H : Hp} {a : Addr} {ns : List Int} (hO : Only H) (hS : SqL K H a (ns.map V.int)) : liftF K w 1 F_law [.ref a] H (fun v _ => v = .bl true) fun _ _ _ => False := by
  refine ⟨rfl, ⟨[], fun b => b = a ∧ ∃ u, H b = some u⟩, [.lst (ns.map .int)], [], fun d _ => d = .bl true, fun _ _ => False, ?_, ?_, ⟨rfl, ns, rfl, rfl⟩, ?_, fun _ _ _ _ _ _ _ _ h => h.elim⟩
  · have hi : ∀ W, Iss K w H W (ns.map V.int) (ns.map .int) := fun W => by
      clear hS
      induction ns with
      | nil => exact .nil
      | cons x r ih => exact .cons (.int x) ih
    refine .cons ?_ .nil
    rcases hS with hS | ⟨o, its, n, h1, h2⟩
    · refine .lst ⟨rfl, ?_⟩ hS (hi _)
      rcases hS with hS | ⟨o, hS⟩
      · exact ⟨_, hS⟩
      · exact ⟨_, hS⟩
    · exact .lstK ⟨o, its, n, h1, h2⟩ (hi _)
  · refine ⟨rfl, ?_, ?_, fun b h => h.2, ?_, trivial⟩
    · rintro n m b ⟨_, o, e, _⟩; simp at e
    · rintro n b ⟨_, o, e, _⟩; simp at e
    · intro n b o _ e; simp at e
  · rintro d L' W' H' v _ _ i ⟨_, _, _, rfl⟩
    cases i
    rfl
theorem law_out {P : Program} {w : World} {H : Hp} {s : Shared} {e : Value} {s' : Shared} (h : L2.CX P w [] H s (fun _ _ _ => False) e s') : False := by
  obtain ⟨_, _, _, _, _, _, _, _, _, _, _, _, z⟩ := h
  exact z.elim
end L2.DL

set_option Elab.async false
set_option linter.all false
set_option maxRecDepth 100000
set_option maxHeartbeats 1000000
/-! SK2: the law of k02, read. -/
namespace L2.DL
open PySem PySem.Spec PyProof.Rows
/-- law: 0 script, 1 at, 2 spring, 3 plan, 4 past, 5 rows, 6 total, 7 stand, 8 most, 9 turn, 10 some, 11 lays, 12 deed, 13 there, 14 word, 15 weight, 16 odds, 17 odd, 18 good, 19 row -/
def t_law : tS := (tSq (tFr (iRg1 (tConsA (tB2 oAdd (tCa cMin (tConsA (tCa cLen (tConsA (tV 0) tNilA)) (tConsA (tK (.int 8)) tNilA))) (tK (.int 1))) tNilA)) (gNm 1) (tSq (tSt (tCaN 2 F_law_spring (tConsA (tV 0) (tConsA (tV 1) tNilA))) 2) (tSq (tAs (tTupD (tConsA (tCaM 1 F_law_plan (tConsA (tV 2) tNilA)) (tConsA (tTupD tNilA) (tConsA (tLstD tNilA) (tConsA (tK (.int 0)) tNilA))))) (gTpD 4 (gConsD (gNm 3) (gConsD (gNm 4) (gConsD (gNm 5) (gConsD (gNm 6) gNilD)))))) (tSq (tP2 7 8 (tConsA (tCaP 0 F_law_begin tNilA) (tConsA (tB2 oIx (tLstD (tConsA (tK (.int 6)) (tConsA (tK (.int 25)) (tConsA (tK (.int 60)) tNilA)))) (tCaM 2 F_law_pick (tConsA (tV 2) (tConsA (tK (.int 3)) tNilA)))) tNilA))) (tSq (tFr (iRg1 (tConsA (tCaM 2 F_law_pick (tConsA (tV 2) (tConsA (tB2 oAdd (tV 8) (tK (.int 1))) tNilA))) tNilA)) (gNm 9) (tSq (tSt (tCaP 2 F_law_deeds (tConsA (tV 3) (tConsA (tV 7) tNilA))) 10) (tSq (tSt (tLcD (iLs (tV 10)) (c1 12) (tTB (tB2 oEq (tB2 oIx (tV 12) (tK (.int 0))) (tK (.str "lay")))) (tV 12) [12]) 11) (tSq (tSt (tB2 oIx (tV 10) (tCaM 2 F_law_pick (tConsA (tV 2) (tConsA (tCa cLen (tConsA (tV 10) tNilA)) tNilA)))) 12) (tSq (tIfD (tAn (tTB (tB2 oNe (tV 11) (tLstD tNilA))) (tTB (tB2 oEq (tCaM 2 F_law_pick (tConsA (tV 2) (tConsA (tK (.int 2)) tNilA))) (tK (.int 0))))) (tSt (tB2 oIx (tV 11) (tCaM 2 F_law_pick (tConsA (tV 2) (tConsA (tCa cLen (tConsA (tV 11) tNilA)) tNilA)))) 12) tNx) (tSq (tAs (tCaP 3 F_law_done (tConsA (tV 3) (tConsA (tV 7) (tConsA (tV 12) tNilA)))) (gTpD 3 (gConsD (gNm 13) (gConsD (gNm 14) (gConsD (gNm 15) gNilD))))) (tSq (tIfD (tNt (tTru (tCaP 2 (F_law_twins 10) (tConsA (tLstD (tConsA (tCaP 2 F_deeds_at (tConsA (tV 3) (tConsA (tV 7) tNilA))) (tConsA (tCaP 3 F_after (tConsA (tV 3) (tConsA (tV 7) (tConsA (tV 12) tNilA)))) tNilA))) (tConsA (tLstD (tConsA (tV 10) (tConsA (tV 13) tNilA))) tNilA))))) (tRt (tK (.bl false))) tNx) (tSq (tIfD (tNt (tTru (tCaP 2 (F_law_twins 10) (tConsA (tCaP 3 F_told (tConsA (tV 3) (tConsA (tV 7) (tConsA (tV 12) tNilA)))) (tConsA (tV 14) tNilA))))) (tRt (tK (.bl false))) tNx) (tSq (tP2 4 7 (tConsA (tB2 oAdd (tV 4) (tTupD (tConsA (tV 12) tNilA))) (tConsA (tV 13) tNilA))) (tP2 5 6 (tConsA (tB2 oAdd (tV 5) (tLstD (tConsA (tV 14) tNilA))) (tConsA (tB2 oAdd (tV 6) (tV 15)) tNilA)))))))))))) (tSq (tIfD (tNt (tTru (tCaP 2 (F_law_twins 10) (tConsA (tLstD (tConsA (tCaP 2 F_is_run (tConsA (tV 3) (tConsA (tV 4) tNilA))) (tConsA (tCaP 2 F_stand_behind (tConsA (tV 3) (tConsA (tV 4) tNilA))) tNilA))) (tConsA (tLstD (tConsA (tK (.bl true)) (tConsA (tV 7) tNilA))) tNilA))))) (tRt (tK (.bl false))) tNx) (tSq (tIfD (tNt (tTru (tCaP 2 (F_law_twins 10) (tConsA (tLstD (tConsA (tCaP 2 F_words (tConsA (tV 3) (tConsA (tV 4) tNilA))) (tConsA (tCaP 2 F_unpaid (tConsA (tV 3) (tConsA (tV 4) tNilA))) tNilA))) (tConsA (tLstD (tConsA (tV 5) (tConsA (tV 6) tNilA))) tNilA))))) (tRt (tK (.bl false))) tNx) (tSq (tSt (tLstD (tConsA (tTupD (tConsA (tK (.str "wait")) tNilA)) (tConsA (tTupD (tConsA (tK (.str "free")) tNilA)) (tConsA (tTupD (tConsA (tK (.str "hide")) (tConsA (tK (.int 1)) tNilA))) (tConsA (tTupD (tConsA (tK (.str "hide")) (tConsA (tK (.int 0)) tNilA))) (tConsA (tTupD (tConsA (tK (.str "lay")) (tConsA (tK (.int 0)) tNilA))) (tConsA (tTupD (tConsA (tK (.str "read")) (tConsA (tK (.int 1)) tNilA))) (tConsA (tTupD (tConsA (tK (.str "read")) (tConsA (tK (.bl true)) tNilA))) (tConsA (tTupD (tConsA (tK (.str "lean")) tNilA)) tNilA))))))))) 16) (tFr (iLs (tB2 oAdd (tV 16) (tLstD (tConsA (tTupD (tConsA (tK (.str "wait")) (tConsA (tK (.int 0)) tNilA))) (tConsA (tLstD (tConsA (tK (.str "wait")) tNilA)) (tConsA (tTupD tNilA) (tConsA (tK .non) (tConsA (tK (.str "wait")) (tConsA (tTupD (tConsA (tK (.str "hide")) tNilA)) tNilA))))))))) (gNm 17) (tSq (tSt (tB2 oNe (tLcD (iLs (tCaP 2 F_law_deeds (tConsA (tV 3) (tConsA (tV 7) tNilA)))) (c1 19) (tTru (tCaP 2 (F_law_twins 10) (tConsA (tV 19) (tConsA (tV 17) tNilA)))) (tV 19) [19]) (tLstD tNilA)) 18) (tIfD (tNt (tTru (tCaP 2 (F_law_twins 10) (tConsA (tCaP 2 F_is_run (tConsA (tV 3) (tConsA (tB2 oAdd (tV 4) (tTupD (tConsA (tV 17) tNilA))) tNilA))) (tConsA (tAnV (tV 18) (tB2 oLt (tCa cLen (tConsA (tV 4) tNilA)) (tK (.int 60)))) tNilA))))) (tRt (tK (.bl false))) tNx))))))))))) (tRt (tK (.bl true))))
abbrev n_law : Nat := 20
theorem run_odd {P : Pl} {S : Sd} {es : List Dd} {tr : List (Sd × Str × Int)} (hP : P.ok) (r : Run P beginS es S tr) (odd : D) : fitsRunB P (.tup (es.map Dd.d ++ [odd])) = (likeB odd (deedsL P S) && decide (es.length < 60)) := by
  simp only [fitsRunB, r.steps hP, List.length_append, List.length_map, List.length_singleton, r.len]
  rw [Bool.eq_iff_iff]
  simp only [Bool.and_eq_true, decide_eq_true_eq]
  by_cases h : likeB odd (deedsL P S) = true
  · rw [stepsL, if_pos h]
    simp [h, stepsL]
    omega
  · rw [stepsL, if_neg h]
    simp [h]
theorem good_odd {P : Pl} {S : Sd} (hP : P.ok) {odd : D} : ((deedsL P S).filterMap (fun x => if twD x odd = true then some x else none)).isEmpty = !likeB odd (deedsL P S) := by
  by_cases h : likeB odd (deedsL P S) = true
  · have hm := (like_mem hP odd).mp h
    obtain ⟨e, rfl, _⟩ := deeds_mem hm
    have : e.d ∈ (deedsL P S).filterMap (fun x => if twD x e.d = true then some x else none) := List.mem_filterMap.mpr ⟨e.d, hm, by rw [if_pos (tw_refl _ 2 (dd_fit e))]⟩
    rw [h]
    cases hq : (deedsL P S).filterMap (fun x => if twD x e.d = true then some x else none) with
    | nil => rw [hq] at this; cases this
    | cons _ _ => rfl
  · have : (deedsL P S).filterMap (fun x => if twD x odd = true then some x else none) = [] := by
      rw [List.filterMap_eq_nil_iff]
      intro x hx
      rw [if_neg]
      intro ht
      have e := twD_same _ _ ht
      subst e
      exact h ((like_mem hP x).mpr hx)
    rw [this]
    simp [h]
def isLay : D → Bool
  | .tup (.str w :: _) => decide (w = "lay")
  | _ => false
theorem flt_fit2 {P : Pl} {S : Sd} {f : D → Option D} (hf : ∀ x y, f x = some y → y = x) {n : Nat} : fitD (n + 3) (.lst ((deedsL P S).filterMap f)) = true := by
  simp only [fitD, List.all_eq_true]
  intro x hx
  obtain ⟨y, hy, e⟩ := List.mem_filterMap.mp hx
  have q := hf _ _ e
  subst q
  obtain ⟨e1, rfl, _⟩ := deeds_mem hy
  exact fit_mono _ 2 _ (by omega) (dd_fit e1)
theorem ne_nil (xs : List D) : (!eqD (.lst xs) (.lst [])) = !xs.isEmpty := by cases xs <;> simp [eqD, eqDs]
theorem fda {P : Pl} {S : Sd} {e : Dd} {n : Nat} : fitD (n + 5) (.lst [.lst (deedsL P S), (doneS P S e).1.d]) = true := by
  have h := deeds_fit (P := P) (S := S) (n := n + 1)
  show ([.lst (deedsL P S), (doneS P S e).1.d] : List D).all (fitD (n + 4)) = true
  rw [List.all_cons, List.all_cons, h, sd_fit9]; rfl
theorem ftr {tr : List (Sd × Str × Int)} (h : ∀ x ∈ tr, ∀ n, fitD n (.str x.2.1) = true) {z : Int} {n : Nat} : fitD (n + 5) (.lst [.lst (tr.map fun x => .str x.2.1), .int z]) = true := by
  show ([.lst (tr.map fun x => .str x.2.1), .int z] : List D).all (fitD (n + 4)) = true
  have h1 : fitD (n + 4) (.lst (tr.map fun x => .str x.2.1)) = true := by
    show (tr.map fun x => D.str x.2.1).all (fitD (n + 3)) = true
    rw [List.all_eq_true]
    intro y hy
    obtain ⟨x, hx, rfl⟩ := List.mem_map.mp hy
    exact h x hx _
  rw [List.all_cons, List.all_cons, h1]; rfl
theorem Run.word {P : Pl} {S S' : Sd} {es tr} (r : Run P S es S' tr) : ∀ x ∈ tr, ∀ n, fitD n (.str x.2.1) = true := by
  induction r with
  | nil => intro x hx; cases hx
  | snoc _ _ ih =>
    intro x hx n
    rcases List.mem_append.mp hx with hx | hx
    · exact ih x hx n
    · rw [List.mem_singleton.mp hx]; exact word_fit
section
local macro_rules | `(tactic| walk_at "d") => `(tactic| (first
  | with_reducible refine Stp.go ?_
  | with_reducible refine And.intro ?_ ?_
  | with_reducible refine fun _ => ?_
  | ((with_reducible refine s_iteY ?_); refine And.intro rfl ?_)
  | ((with_reducible refine s_iteN ?_); refine And.intro rfl ?_)
  | with_reducible refine iteB (fun _ => ?_) (fun _ => ?_)
  | with_reducible refine i_eq ?_ ?_ ?_
  | with_reducible refine i_ne ?_ ?_ ?_
  | with_reducible refine rtp ?_ ?_
  | with_reducible refine u_isB ?_ ?_
  | with_reducible refine u_isI ?_ ?_
  | with_reducible refine u_isT ?_ ?_
  | with_reducible refine u_isS ?_ ?_
  | with_reducible refine u_isL ?_ ?_
  | with_reducible refine u_isLT ?_ ?_
  | with_reducible refine u_is_within ?_ ?_
  | with_reducible refine u_law_int ?_ ?_
  | with_reducible refine u_is_row ?_ ?_
  | with_reducible refine u_law_made ?_ ?_
  | with_reducible refine u_is_program ?_ ?_
  | with_reducible refine u_law_good_program ?_ ?_
  | with_reducible refine u_is_plan ?_ ?_
  | with_reducible refine u_law_good_plan ?_ ?_
  | with_reducible refine u_law_kind ?_ ?_
  | with_reducible refine u_pick0 ?_ ?_ ?_
  | with_reducible refine u_pickG ?_ ?_ ?_ ?_
  | with_reducible refine u_planG ?_ ?_
  | with_reducible refine k_spring ?_ ?_
  | with_reducible refine k_deeds ?_ ?_
  | with_reducible refine k_done ?_ ?_
  | with_reducible refine u_deeds_at ?_ ?_ ?_
  | with_reducible refine u_after ?_ ?_ ?_ ?_
  | with_reducible refine u_told ?_ ?_ ?_ ?_
  | with_reducible refine u_begin ?_
  | with_reducible refine u_is_run ?_ ?_ ?_
  | with_reducible refine Pl.fit 
  | with_reducible refine Sd.fit 
  | with_reducible refine rtm3 ?_ ?_ ?_
  | ((with_reducible refine s_sLst ?_); refine Exists.intro _ (And.intro rfl (Exists.intro _ (And.intro rfl (Exists.intro _ (And.intro (by simp only [List.set_cons_zero, List.set_cons_succ]; rfl) ?_))))))
  | with_reducible refine i_oIC ?_ ?_
  | with_reducible refine i_addS ?_ ?_
  | with_reducible refine i_addT ?_ ?_
  | with_reducible refine i_addL ?_ ?_
  | with_reducible refine i_trS ?_ ?_
  | with_reducible refine i_lenS ?_ ?_
  | with_reducible refine i_slS ?_ ?_
  | with_reducible refine i_r1Q ?_ ?_
  | with_reducible refine i_r2Q ?_ ?_
  | with_reducible refine i_lsR1Q ?_ ?_
  | with_reducible refine i_lsR2Q ?_ ?_
  | with_reducible refine i_inT ?_ ?_ ?_
  | with_reducible refine i_inL ?_ ?_ ?_
  | with_reducible refine i_ninT ?_ ?_ ?_
  | with_reducible refine i_ninL ?_ ?_ ?_
  | ((with_reducible refine s_tV ?_); refine Exists.intro _ (And.intro rfl ?_))
  | ((with_reducible refine s_ixT ?_); refine Exists.intro _ (And.intro rfl ?_))
  | ((with_reducible refine s_gNm ?_); refine Exists.intro _ (And.intro (by simp only [wipeD, setsD, List.set_cons_zero, List.set_cons_succ]; rfl) ?_))
  | ((with_reducible refine s_stQ ?_); refine Exists.intro _ (And.intro (by simp only [wipeD, setsD, List.set_cons_zero, List.set_cons_succ]; rfl) ?_))
  | ((with_reducible refine s_c1 ?_); refine Exists.intro _ (And.intro (by simp only [wipeD, setsD, List.set_cons_zero, List.set_cons_succ]; rfl) ?_))
  | ((with_reducible refine s_p2 ?_); refine Exists.intro _ (And.intro (by simp only [wipeD, setsD, List.set_cons_zero, List.set_cons_succ]; rfl) ?_))
  | ((with_reducible refine s_p3 ?_); refine Exists.intro _ (And.intro (by simp only [wipeD, setsD, List.set_cons_zero, List.set_cons_succ]; rfl) ?_))
  | ((with_reducible refine s_cN' ?_); refine And.intro rfl (Exists.intro _ (And.intro (by simp only [wipeD, setsD, List.set_cons_zero, List.set_cons_succ]; rfl) ?_)))
  | ((with_reducible refine s_ixL ?_); refine Exists.intro _ (And.intro rfl ?_))
  | ((with_reducible refine s_trO ?_); refine Exists.intro _ (And.intro rfl ?_))
  | ((with_reducible refine s_lenO ?_); refine Exists.intro _ (And.intro rfl ?_))
  | ((with_reducible refine s_listO ?_); refine Exists.intro _ (And.intro rfl ?_))
  | ((with_reducible refine s_ixO ?_); refine Exists.intro _ (And.intro rfl (Exists.intro _ (And.intro rfl ?_))))
  | ((with_reducible refine s_app1 ?_); refine And.intro rfl ?_)
  | ((with_reducible refine s_cN ?_); refine And.intro rfl ?_)
  | ((with_reducible refine s_dgtY ?_); refine Exists.intro _ (And.intro rfl ?_))
  | ((with_reducible refine i_dgtN ?_ ?_); exact rfl)))
local macro_rules | `(tactic| walk_at "ds") => `(tactic| ((try simp only [startD, List.map_cons, List.map_nil, List.length_cons, List.length_nil, List.replicate, Nat.reduceAdd, Nat.reduceSub, List.cons_append, List.nil_append]); repeat' walk_at "d"))
/-- side conditions -/
local macro_rules | `(tactic| walk_at "e") => `(tactic| (first
  | with_reducible assumption
  | ((with_reducible show fitD _ _ = true); (first | rfl | decide +kernel | (exact fit_mono _ 30 _ (by decide) (by assumption))))
  | ((with_reducible show lowDs _ _); (repeat' first | trivial | (exact fit_low _ 30 _ (by assumption)) | refine And.intro ?_ ?_); done)
  | ((with_reducible show lowO _ _); (show lowDs _ _); (repeat' first | trivial | (exact fit_low _ 30 _ (by assumption)) | refine And.intro ?_ ?_); done)
  | ((with_reducible show (_ : Int) < _); (first | decide | omega))
  | ((with_reducible show (_ : Int) ≤ _); (first | decide | omega))
  | ((with_reducible show lowD _ _); (first | trivial | (exact fit_low _ 30 _ (by assumption))))
  | ((with_reducible show List.length _ = _); simp; done)
  | ((with_reducible show _ ≤ sizeLine); rw [sizeLine_eq]; simp; done)
  | ((with_reducible show List.all _ _ = true); (first | rfl | decide +kernel | (simp [fitD]; done)))
  | skip))
local macro_rules | `(tactic| walk_at "de") => `(tactic| (walk_at "ds" <;> walk_at "e"))


theorem rd_law_k02 (ds : List D) (R : QE) (h : ∃ ns : List Int, ds = [.lst (ns.map .int)] ∧ R (.bl true) []) : t_law (endP R) (startD 20 ds) [] := by
  obtain ⟨ns, rfl, r⟩ := h
  unfold t_law
  walk_at "de"
  all_goals first
    | (split <;> simp <;> omega)
    | skip
  refine fr_by (fun rest ρ L => (∀ x ∈ rest, ∃ z : Int, x = .int z ∧ 0 ≤ z) ∧ ∃ x1 x2 x3 x4 x5 x6 x7 x8 x9 x10 x11 x12 x13 x14 x15 x16 x17 x18 x19, ρ = [some (.lst (ns.map .int)), x1, x2, x3, x4, x5, x6, x7, x8, x9, x10, x11, x12, x13, x14, x15, x16, x17, x18, x19]) ?_ ?_ ?_
  · refine ⟨fun x hx => ?_, _, _, _, _, _, _, _, _, _, _, _, _, _, _, _, _, _, _, _, rfl⟩
    obtain ⟨i, _, e⟩ := List.mem_map.mp hx
    exact ⟨_, e.symm, by omega⟩
  · rintro x rest ρ L ⟨hz, x1, x2, x3, x4, x5, x6, x7, x8, x9, x10, x11, x12, x13, x14, x15, x16, x17, x18, x19, rfl⟩
    obtain ⟨z, rfl, hz0⟩ := hz x List.mem_cons_self
    have hl0 := lst_low (ns := ns) (z := z)
    walk_at "de"
    rename_i P a1 m1 hP _ k a2 m2 hk0 hk1
    have hmost : ∃ most : Int, atD [.int 6, .int 25, .int 60] k = some (.int most) ∧ 0 ≤ most ∧ most ≤ 60 := by
      have h8 : k = 0 ∨ k = 1 ∨ k = 2 := by omega
      rcases h8 with rfl | rfl | rfl
      · exact ⟨6, rfl, by decide, by decide⟩
      · exact ⟨25, rfl, by decide, by decide⟩
      · exact ⟨60, rfl, by decide, by decide⟩
    obtain ⟨most, hm, hm0, hm1⟩ := hmost
    refine i_ixL hm ?_
    walk_at "de"
    rename_i turns a3 m3 ht0 ht1
    refine fr_by (fun rest1 ρ L' => ∃ es S tr a m x9 x10 x11 x12 x13 x14 x15, Run P beginS es S tr ∧ es.length + rest1.length ≤ 60 ∧ L' = L ++ [spr a m] ∧ ρ = [some (.lst (ns.map .int)), some (.int z), some (.ob L.length), some P.d, some (.tup (es.map Dd.d)), some (.lst (tr.map fun x => .str x.2.1)), some (.int (tr.map fun x => x.2.2).sum), some S.d, some (.int most), x9, x10, x11, x12, x13, x14, x15, x16, x17, x18, x19]) ⟨[], beginS, [], _, _, _, _, _, _, _, _, _, .nil, by rw [rangeD_length]; simp; omega, rfl, rfl⟩ ?_ ?_
    · rintro t rest1 ρ L' ⟨es, S, tr, a4, m4, x9, x10, x11, x12, x13, x14, x15, hr, hlen, rfl, rfl⟩
      have hU := hr.up hP (Up.begin hP)
      have hf := hU.fits hP
      have hd := deeds_len (S := S) hP
      have ht := hr.len
      rw [List.length_cons] at hlen
      walk_at "de"
      refine lc_pure (deedsL P S) (fun x => if isLay x = true then some x else none) (by rw [sizeLine_eq]; omega) (fun x hx Q N hQ hN => ?_) ?_
      · obtain ⟨e, rfl, _⟩ := deeds_mem hx
        cases e <;> walk_at "de"
        all_goals first
          | (exfalso; rename_i h; revert h; decide +kernel)
          | exact hQ _ (by rfl)
          | exact hN (by rfl)
          | skip
      have hfl : ∀ x ∈ (deedsL P S).filterMap (fun x => if isLay x = true then some x else none), x ∈ deedsL P S := by
        intro x hx
        obtain ⟨y, hy, e⟩ := List.mem_filterMap.mp hx
        split at e
        · cases e; exact hy
        · cases e
      have hff : fitD 40 (.lst ((deedsL P S).filterMap (fun x => if isLay x = true then some x else none))) = true := flt_fit2 (n := 37) fun x y e => by
        split at e
        · cases e; rfl
        · cases e
      have hnl := Nat.le_trans (List.length_filterMap_le (fun x => if isLay x = true then some x else none) (deedsL P S)) hd.2
      generalize (deedsL P S).filterMap (fun x => if isLay x = true then some x else none) = lays at hfl hff hnl ⊢
      have main : ∀ (e : Dd) (a5 m5 : Int), Poss P S e → ∀ U : tS, U = tSq (tAs (tCaP 3 F_law_done (tConsA (tV 3) (tConsA (tV 7) (tConsA (tV 12) tNilA)))) (gTpD 3 (gConsD (gNm 13) (gConsD (gNm 14) (gConsD (gNm 15) gNilD))))) (tSq (tIfD (tNt (tTru (tCaP 2 (F_law_twins 10) (tConsA (tLstD (tConsA (tCaP 2 F_deeds_at (tConsA (tV 3) (tConsA (tV 7) tNilA))) (tConsA (tCaP 3 F_after (tConsA (tV 3) (tConsA (tV 7) (tConsA (tV 12) tNilA)))) tNilA))) (tConsA (tLstD (tConsA (tV 10) (tConsA (tV 13) tNilA))) tNilA))))) (tRt (tK (.bl false))) tNx) (tSq (tIfD (tNt (tTru (tCaP 2 (F_law_twins 10) (tConsA (tCaP 3 F_told (tConsA (tV 3) (tConsA (tV 7) (tConsA (tV 12) tNilA)))) (tConsA (tV 14) tNilA))))) (tRt (tK (.bl false))) tNx) (tSq (tP2 4 7 (tConsA (tB2 oAdd (tV 4) (tTupD (tConsA (tV 12) tNilA))) (tConsA (tV 13) tNilA))) (tP2 5 6 (tConsA (tB2 oAdd (tV 5) (tLstD (tConsA (tV 14) tNilA))) (tConsA (tB2 oAdd (tV 6) (tV 15)) tNilA)))))) →
          ∀ (DD : DEnds) (v10 v11 : D), DD.nx = (fun ρ L' => ∃ es S tr a m x9 x10 x11 x12 x13 x14 x15, Run P beginS es S tr ∧ es.length + rest1.length ≤ 60 ∧ L' = L ++ [spr a m] ∧ ρ = [some (.lst (ns.map .int)), some (.int z), some (.ob L.length), some P.d, some (.tup (es.map Dd.d)), some (.lst (tr.map fun x => .str x.2.1)), some (.int (tr.map fun x => x.2.2).sum), some S.d, some (.int most), x9, x10, x11, x12, x13, x14, x15, x16, x17, x18, x19]) →
          U DD [some (.lst (ns.map .int)), some (.int z), some (.ob L.length), some P.d, some (.tup (es.map Dd.d)), some (.lst (tr.map fun x => .str x.2.1)), some (.int (tr.map fun x => x.2.2).sum), some S.d, some (.int most), some t, some (.lst (deedsL P S)), some v11, some e.d, x13, x14, x15, x16, x17, x18, x19] (L ++ [spr a5 m5]) := by
        rintro e a5 m5 hp U rfl DD v10 v11 hnx
        have l3 := low_dd (e := e) (k := 0)
        walk_at "de"
        all_goals first
          | exact ⟨low_pl, low_sd, l3, trivial⟩
          | skip
        refine k_same (fda (n := 4)) ⟨by simp, deeds_wide hP, sd_wide, trivial⟩ ?_
        walk_at "de"
        all_goals first
          | exact ⟨low_pl, low_sd, l3, trivial⟩
          | skip
        refine k_same (a := .str (doneS P S e).2.1) word_fit trivial ?_
        walk_at "de"
        all_goals first
          | (rw [sizeLine_eq]; simp; omega)
          | skip
        rw [hnx]
        exact ⟨es ++ [e], _, tr ++ [doneS P S e], a5, m5, some t, some (.lst (deedsL P S)), some v11, some e.d, some (doneS P S e).1.d, some (.str (doneS P S e).2.1), some (.int (doneS P S e).2.2), hr.snoc hp, by rw [List.length_append, List.length_singleton]; omega, rfl, by simp⟩
      generalize hU : tSq (tAs (tCaP 3 F_law_done (tConsA (tV 3) (tConsA (tV 7) (tConsA (tV 12) tNilA)))) (gTpD 3 (gConsD (gNm 13) (gConsD (gNm 14) (gConsD (gNm 15) gNilD))))) _ = U
      have main := fun e a m hp => main e a m hp U hU.symm
      clear hU
      walk_at "de"
      rename_i i a5 m5 hi0 hi1
      obtain ⟨x, hx1, hx2⟩ := at_mem hi0 hi1
      obtain ⟨e, rfl, hp⟩ := deeds_mem hx2
      refine i_ixL hx1 ?_
      walk_at "de"
      all_goals first
        | exact main e _ _ hp _ (.lst lays) (.lst lays) rfl
        | skip
      · rename_i hl _ _ _ _ _ _
        rw [ne_nil] at hl
        have : 0 < lays.length := by
          cases lays with
          | nil => cases hl
          | cons _ _ => simp
        omega
      · rename_i j a6 m6 hj0 hj1
        obtain ⟨y, hy1, hy2⟩ := at_mem hj0 hj1
        obtain ⟨e2, rfl, hp2⟩ := deeds_mem (hfl _ hy2)
        refine i_ixL hy1 ?_
        walk_at "de"
        exact main e2 _ _ hp2 _ (.lst lays) (.lst lays) rfl
    · rintro ρ L' ⟨es, S, tr, a4, m4, x9, x10, x11, x12, x13, x14, x15, hr, hlen, rfl, rfl⟩
      have hl60 : es.length ≤ 60 := by simpa using hlen
      have fv := dds_fit29 (es := es)
      have lv := low_of fv
      have hg := hr.good hP hl60
      have hd := deeds_len (S := S) hP
      walk_at "de"
      refine u_stand_behind hP hr hl60 ?_
      walk_at "de"
      · simp
      rw [hg]
      refine k_same (a := .lst [.bl true, S.d]) (by simp [fitD]) ⟨by simp, trivial, sd_wide, trivial⟩ ?_
      walk_at "de"
      refine u_words hP hr hl60 ?_
      walk_at "de"
      refine u_unpaid hP hr hl60 ?_
      walk_at "de"
      · simp
      refine k_same (ftr (n := 4) hr.word) ⟨by simp, ⟨by rw [List.length_map, hr.len]; omega, wideDs_of fun x hx => by obtain ⟨y, _, rfl⟩ := List.mem_map.mp hx; trivial⟩, trivial, trivial⟩ ?_
      walk_at "de"
      all_goals first
        | (rw [sizeLine_eq]; simp only [List.length_cons, List.length_nil]; omega)
        | skip
      refine fr_by (fun rest2 ρ L' => (∀ y ∈ rest2, fitD 4 y = true) ∧ L' = L ++ [spr a4 m4] ∧ ∃ x16 x17 x18 x19, ρ = [some (.lst (ns.map .int)), some (.int z), some (.ob L.length), some P.d, some (.tup (es.map Dd.d)), some (.lst (tr.map fun x => .str x.2.1)), some (.int (tr.map fun x => x.2.2).sum), some S.d, some (.int most), x9, x10, x11, x12, x13, x14, x15, x16, x17, x18, x19]) ⟨?_, rfl, _, _, _, _, rfl⟩ ?_ ?_
      · exact List.all_eq_true.mp (by decide +kernel)
      · rintro odd rest2 ρ L' ⟨hy, rfl, y16, y17, y18, y19, rfl⟩
        have fo := hy odd List.mem_cons_self
        have fo30 := fit_mono _ 4 30 (by decide) fo
        have fo9 := fit_mono _ 4 9 (by decide) fo
        have lo := low_of fo30
        walk_at "de"
        refine lc_pure (deedsL P S) (fun x => if twD x odd = true then some x else none) (by rw [sizeLine_eq]; omega) (fun x hx Q N hQ hN => ?_) ?_
        · obtain ⟨e, rfl, _⟩ := deeds_mem hx
          have l3 := low_dd (e := e) (k := 0)
          walk_at "de"
          all_goals first
            | exact ⟨l3, lo, trivial⟩
            | skip
          refine k_twins (fit_mono _ 2 9 (by decide) (dd_fit e)) fo9 dd_wide ?_
          walk_at "de"
          · rename_i h; exact hQ _ (by rw [if_pos h])
          · rename_i h; exact hN (by rw [if_neg (by rw [h]; decide)])
        have hgo := good_odd (S := S) hP (odd := odd)
        have hro := run_odd hP hr odd
        have hff : fitD 40 (.lst ((deedsL P S).filterMap (fun x => if twD x odd = true then some x else none))) = true := flt_fit2 (n := 37) fun x y e => by
          split at e
          · cases e; rfl
          · cases e
        generalize (deedsL P S).filterMap (fun x => if twD x odd = true then some x else none) = gs at hgo hff ⊢
        have hgo : (!eqD (.lst gs) (.lst [])) = likeB odd (deedsL P S) := by rw [ne_nil, hgo, Bool.not_not]
        have fp1 : fitD 30 (.tup (es.map Dd.d ++ [odd])) = true := by
          show (es.map Dd.d ++ [odd]).all (fitD 29) = true
          rw [List.all_append, List.all_cons, List.all_nil, fit_mono _ 4 29 (by decide) fo]
          have : (es.map Dd.d).all (fitD 29) = true := fv
          rw [this]; rfl
        have lp1 := low_of fp1
        walk_at "de"
        · rw [List.length_map, List.length_singleton, sizeLine_eq]; omega
        all_goals rename_i hh
        all_goals rw [hgo] at hh
        all_goals rw [hro, hh]
        · have hdec : (true && decide (es.length < 60)) = decide (((es.map Dd.d).length : Int) < 60) := by
            rw [Bool.true_and, List.length_map, Bool.eq_iff_iff]
            simp only [decide_eq_true_eq]; omega
          rw [hdec]
          refine k_same (a := .bl _) rfl trivial ?_
          walk_at "de"
          all_goals first
            | exact hy _ (List.mem_cons_of_mem _ (by assumption))
            | exact ⟨_, _, _, _, rfl⟩
            | rfl
        · rw [hgo, hh, Bool.false_and]
          refine k_same (a := .bl _) rfl trivial ?_
          walk_at "de"
          all_goals first
            | exact hy _ (List.mem_cons_of_mem _ (by assumption))
            | exact ⟨_, _, _, _, rfl⟩
            | rfl
      · rintro ρ L' ⟨_, rfl, y16, y17, y18, y19, rfl⟩
        walk_at "de"
        all_goals first
          | exact hz _ (List.mem_cons_of_mem _ (by assumption))
          | exact ⟨_, _, _, _, _, _, _, _, _, _, _, _, _, _, _, _, _, _, _, rfl⟩
  · rintro ρ L ⟨_, x1, x2, x3, x4, x5, x6, x7, x8, x9, x10, x11, x12, x13, x14, x15, x16, x17, x18, x19, rfl⟩
    walk_at "de"
end
end L2.DL

set_option Elab.async false
set_option linter.all false
set_option maxRecDepth 100000
set_option maxHeartbeats 4000000
namespace L2.DL
open PySem PySem.Spec PyProof.Rows
def topS (i : Nat) : Stmt := PySem.Challenge.pw_tillscales_k02_whole_tills_deed_by_deed.main.body.getD i (.Pass ⟨0, 0, 0, 0⟩)
abbrev s_law_begin : Stmt := topS 44
abbrev N_law_begin : List Str := []
theorem sc_law_begin : FnScope N_law_begin [] (defScope s_law_begin) := ⟨rfl, rfl, rfl, by decide +kernel, rfl, by decide +kernel, by decide +kernel⟩
abbrev s_law_deeds : Stmt := topS 45
abbrev N_law_deeds : List Str := ["plan", "stand", "most", "spread", "leaning", "found", "weight", "more"]
theorem sc_law_deeds : FnScope N_law_deeds ["plan", "stand"] (defScope s_law_deeds) := ⟨rfl, rfl, rfl, by decide +kernel, rfl, by decide +kernel, by decide +kernel⟩
abbrev s_law_done : Stmt := topS 46
abbrev N_law_done : List Str := ["plan", "stand", "deed", "tolerance", "wait", "way", "off", "want", "left", "hand", "leans", "locked", "word", "number", "before", "weight"]
theorem sc_law_done : FnScope N_law_done ["plan", "stand", "deed"] (defScope s_law_done) := ⟨rfl, rfl, rfl, by decide +kernel, rfl, by decide +kernel, by decide +kernel⟩
abbrev s_law_pick : Stmt := topS 38
abbrev N_law_pick : List Str := ["spring", "many", "digit"]
theorem sc_law_pick : FnScope N_law_pick ["spring", "many"] (defScope s_law_pick) := ⟨rfl, rfl, rfl, by decide +kernel, rfl, by decide +kernel, by decide +kernel⟩
abbrev s_law_program : Stmt := topS 41
abbrev N_law_program : List Str := ["spring"]
theorem sc_law_program : FnScope N_law_program ["spring"] (defScope s_law_program) := ⟨rfl, rfl, rfl, by decide +kernel, rfl, by decide +kernel, by decide +kernel⟩
abbrev s_law_plan : Stmt := topS 42
abbrev N_law_plan : List Str := ["spring", "world"]
theorem sc_law_plan : FnScope N_law_plan ["spring"] (defScope s_law_plan) := ⟨rfl, rfl, rfl, by decide +kernel, rfl, by decide +kernel, by decide +kernel⟩
abbrev s_law_spring : Stmt := topS 37
abbrev N_law_spring : List Str := ["script", "at", "cell", "mixed"]
theorem sc_law_spring : FnScope N_law_spring ["script", "at"] (defScope s_law_spring) := ⟨rfl, rfl, rfl, by decide +kernel, rfl, by decide +kernel, by decide +kernel⟩
abbrev s_law_kind : Stmt := topS 39
abbrev N_law_kind : List Str := ["value"]
theorem sc_law_kind : FnScope N_law_kind ["value"] (defScope s_law_kind) := ⟨rfl, rfl, rfl, by decide +kernel, rfl, by decide +kernel, by decide +kernel⟩
abbrev s_law_twins : Stmt := topS 40
abbrev N_law_twins : List Str := ["one", "other", "a", "b"]
theorem sc_law_twins : FnScope N_law_twins ["one", "other"] (defScope s_law_twins) := ⟨rfl, rfl, rfl, by decide +kernel, rfl, by decide +kernel, by decide +kernel⟩
abbrev s_deeds_of : Stmt := topS 21
abbrev N_deeds_of : List Str := ["plan", "stand", "off", "want", "left", "hand", "leans", "locked", "most", "spread", "leaning", "found", "weight", "more"]
theorem sc_deeds_of : FnScope N_deeds_of ["plan", "stand"] (defScope s_deeds_of) := ⟨rfl, rfl, rfl, by decide +kernel, rfl, by decide +kernel, by decide +kernel⟩
abbrev s_is_within : Stmt := topS 11
abbrev N_is_within : List Str := ["value", "low", "high"]
theorem sc_is_within : FnScope N_is_within ["value", "low", "high"] (defScope s_is_within) := ⟨rfl, rfl, rfl, by decide +kernel, rfl, by decide +kernel, by decide +kernel⟩
abbrev s_is_like : Stmt := topS 24
abbrev N_is_like : List Str := ["value", "some"]
theorem sc_is_like : FnScope N_is_like ["value", "some"] (defScope s_is_like) := ⟨rfl, rfl, rfl, by decide +kernel, rfl, by decide +kernel, by decide +kernel⟩
abbrev s_is_row : Stmt := topS 12
abbrev N_is_row : List Str := ["value", "many"]
theorem sc_is_row : FnScope N_is_row ["value", "many"] (defScope s_is_row) := ⟨rfl, rfl, rfl, by decide +kernel, rfl, by decide +kernel, by decide +kernel⟩
abbrev s_is_program : Stmt := topS 13
abbrev N_is_program : List Str := ["value"]
theorem sc_is_program : FnScope N_is_program ["value"] (defScope s_is_program) := ⟨rfl, rfl, rfl, by decide +kernel, rfl, by decide +kernel, by decide +kernel⟩
abbrev s_is_plan : Stmt := topS 14
abbrev N_is_plan : List Str := ["value", "most", "spread", "leaning"]
theorem sc_is_plan : FnScope N_is_plan ["value"] (defScope s_is_plan) := ⟨rfl, rfl, rfl, by decide +kernel, rfl, by decide +kernel, by decide +kernel⟩
abbrev s_look_at_plan : Stmt := topS 15
abbrev N_look_at_plan : List Str := ["plan"]
theorem sc_look_at_plan : FnScope N_look_at_plan ["plan"] (defScope s_look_at_plan) := ⟨rfl, rfl, rfl, by decide +kernel, rfl, by decide +kernel, by decide +kernel⟩
abbrev s_fits : Stmt := topS 16
abbrev N_fits : List Str := ["plan", "value", "tolerance", "wait", "way", "most", "spread", "leaning", "off", "want", "left", "hand", "leans", "locked", "number"]
theorem sc_fits : FnScope N_fits ["plan", "value"] (defScope s_fits) := ⟨rfl, rfl, rfl, by decide +kernel, rfl, by decide +kernel, by decide +kernel⟩
abbrev s_look_at_stand : Stmt := topS 17
abbrev N_look_at_stand : List Str := ["plan", "stand"]
theorem sc_look_at_stand : FnScope N_look_at_stand ["plan", "stand"] (defScope s_look_at_stand) := ⟨rfl, rfl, rfl, by decide +kernel, rfl, by decide +kernel, by decide +kernel⟩
abbrev s_look_at_deed : Stmt := topS 27
abbrev N_look_at_deed : List Str := ["plan", "stand", "deed"]
theorem sc_look_at_deed : FnScope N_look_at_deed ["plan", "stand", "deed"] (defScope s_look_at_deed) := ⟨rfl, rfl, rfl, by decide +kernel, rfl, by decide +kernel, by decide +kernel⟩
abbrev s_growth : Stmt := topS 22
abbrev N_growth : List Str := ["stand", "deed"]
theorem sc_growth : FnScope N_growth ["stand", "deed"] (defScope s_growth) := ⟨rfl, rfl, rfl, by decide +kernel, rfl, by decide +kernel, by decide +kernel⟩
abbrev s_passed : Stmt := topS 23
abbrev N_passed : List Str := ["plan", "stand", "deed", "tolerance", "wait", "way", "off", "want", "left", "hand", "leans", "locked", "unpaid_so"]
theorem sc_passed : FnScope N_passed ["plan", "stand", "deed"] (defScope s_passed) := ⟨rfl, rfl, rfl, by decide +kernel, rfl, by decide +kernel, by decide +kernel⟩
abbrev s_after : Stmt := topS 30
abbrev N_after : List Str := ["plan", "stand", "deed"]
theorem sc_after : FnScope N_after ["plan", "stand", "deed"] (defScope s_after) := ⟨rfl, rfl, rfl, by decide +kernel, rfl, by decide +kernel, by decide +kernel⟩
abbrev s_deeds_at : Stmt := topS 29
abbrev N_deeds_at : List Str := ["plan", "stand"]
theorem sc_deeds_at : FnScope N_deeds_at ["plan", "stand"] (defScope s_deeds_at) := ⟨rfl, rfl, rfl, by decide +kernel, rfl, by decide +kernel, by decide +kernel⟩
abbrev s_steps_of : Stmt := topS 25
abbrev N_steps_of : List Str := ["plan", "stand", "deeds", "found", "deed"]
theorem sc_steps_of : FnScope N_steps_of ["plan", "stand", "deeds"] (defScope s_steps_of) := ⟨rfl, rfl, rfl, by decide +kernel, rfl, by decide +kernel, by decide +kernel⟩
abbrev s_fits_run : Stmt := topS 26
abbrev N_fits_run : List Str := ["plan", "value"]
theorem sc_fits_run : FnScope N_fits_run ["plan", "value"] (defScope s_fits_run) := ⟨rfl, rfl, rfl, by decide +kernel, rfl, by decide +kernel, by decide +kernel⟩
abbrev s_is_run : Stmt := topS 32
abbrev N_is_run : List Str := ["plan", "value"]
theorem sc_is_run : FnScope N_is_run ["plan", "value"] (defScope s_is_run) := ⟨rfl, rfl, rfl, by decide +kernel, rfl, by decide +kernel, by decide +kernel⟩
abbrev s_look_at_run : Stmt := topS 28
abbrev N_look_at_run : List Str := ["plan", "run"]
theorem sc_look_at_run : FnScope N_look_at_run ["plan", "run"] (defScope s_look_at_run) := ⟨rfl, rfl, rfl, by decide +kernel, rfl, by decide +kernel, by decide +kernel⟩
abbrev s_stand_behind : Stmt := topS 33
abbrev N_stand_behind : List Str := ["plan", "run"]
theorem sc_stand_behind : FnScope N_stand_behind ["plan", "run"] (defScope s_stand_behind) := ⟨rfl, rfl, rfl, by decide +kernel, rfl, by decide +kernel, by decide +kernel⟩
abbrev s_told : Stmt := topS 31
abbrev N_told : List Str := ["plan", "stand", "deed"]
theorem sc_told : FnScope N_told ["plan", "stand", "deed"] (defScope s_told) := ⟨rfl, rfl, rfl, by decide +kernel, rfl, by decide +kernel, by decide +kernel⟩
abbrev s_unpaid : Stmt := topS 35
abbrev N_unpaid : List Str := ["plan", "run", "stand", "word", "weight"]
theorem sc_unpaid : FnScope N_unpaid ["plan", "run"] (defScope s_unpaid) := ⟨rfl, rfl, rfl, by decide +kernel, rfl, by decide +kernel, by decide +kernel⟩
abbrev s_words : Stmt := topS 34
abbrev N_words : List Str := ["plan", "run", "stand", "word", "weight"]
theorem sc_words : FnScope N_words ["plan", "run"] (defScope s_words) := ⟨rfl, rfl, rfl, by decide +kernel, rfl, by decide +kernel, by decide +kernel⟩
abbrev s_law : Stmt := topS 47
abbrev N_law : List Str := ["script", "at", "spring", "plan", "past", "rows", "total", "stand", "most", "turn", "some", "lays", "deed", "there", "word", "weight", "odds", "odd", "good", "row"]
theorem sc_law : FnScope N_law ["script"] (defScope s_law) := ⟨rfl, rfl, rfl, by decide +kernel, rfl, by decide +kernel, by decide +kernel⟩
/-- what stands behind the top -/
structure Txt (K : PySem.W.Frag) (mg : Str → Option Value) where
  law_begin : FunAt K mg "_law_begin" s_law_begin []
  law_deeds : FunAt K mg "_law_deeds" s_law_deeds ["plan", "stand"]
  law_done : FunAt K mg "_law_done" s_law_done ["plan", "stand", "deed"]
  law_pick : FunAt K mg "_law_pick" s_law_pick ["spring", "many"]
  law_program : FunAt K mg "_law_program" s_law_program ["spring"]
  law_plan : FunAt K mg "_law_plan" s_law_plan ["spring"]
  law_spring : FunAt K mg "_law_spring" s_law_spring ["script", "at"]
  law_kind : FunAt K mg "_law_kind" s_law_kind ["value"]
  law_twins : FunAt K mg "_law_twins" s_law_twins ["one", "other"]
  deeds_of : FunAt K mg "deeds_of" s_deeds_of ["plan", "stand"]
  is_within : FunAt K mg "is_within" s_is_within ["value", "low", "high"]
  is_like : FunAt K mg "is_like" s_is_like ["value", "some"]
  is_row : FunAt K mg "is_row" s_is_row ["value", "many"]
  is_program : FunAt K mg "is_program" s_is_program ["value"]
  is_plan : FunAt K mg "is_plan" s_is_plan ["value"]
  look_at_plan : FunAt K mg "look_at_plan" s_look_at_plan ["plan"]
  fits : FunAt K mg "fits" s_fits ["plan", "value"]
  look_at_stand : FunAt K mg "look_at_stand" s_look_at_stand ["plan", "stand"]
  look_at_deed : FunAt K mg "look_at_deed" s_look_at_deed ["plan", "stand", "deed"]
  growth : FunAt K mg "growth" s_growth ["stand", "deed"]
  passed : FunAt K mg "passed" s_passed ["plan", "stand", "deed"]
  after : FunAt K mg "after" s_after ["plan", "stand", "deed"]
  deeds_at : FunAt K mg "deeds_at" s_deeds_at ["plan", "stand"]
  steps_of : FunAt K mg "steps_of" s_steps_of ["plan", "stand", "deeds"]
  fits_run : FunAt K mg "fits_run" s_fits_run ["plan", "value"]
  is_run : FunAt K mg "is_run" s_is_run ["plan", "value"]
  look_at_run : FunAt K mg "look_at_run" s_look_at_run ["plan", "run"]
  stand_behind : FunAt K mg "stand_behind" s_stand_behind ["plan", "run"]
  told : FunAt K mg "told" s_told ["plan", "stand", "deed"]
  unpaid : FunAt K mg "unpaid" s_unpaid ["plan", "run"]
  words : FunAt K mg "words" s_words ["plan", "run"]
  law : FunAt K mg "law" s_law ["script"]
  n_abs : mg "abs" = none
  n_all : mg "all" = none
  n_bool : mg "bool" = none
  n_int : mg "int" = none
  n_isinstance : mg "isinstance" = none
  n_len : mg "len" = none
  n_list : mg "list" = none
  n_min : mg "min" = none
  n_range : mg "range" = none
  n_sorted : mg "sorted" = none
  n_str : mg "str" = none
  n_sum : mg "sum" = none
  n_tuple : mg "tuple" = none
  n_zip : mg "zip" = none
  g_BEGIN : GlobV K mg "BEGIN" c_BEGIN
  g_FAR : GlobV K mg "FAR" c_FAR
  g_GROWING : GlobV K mg "GROWING" c_GROWING
  g_LOCKED : GlobV K mg "LOCKED" c_LOCKED
  g_MOST_DEEDS : GlobV K mg "MOST_DEEDS" c_MOST_DEEDS
  g_WAYS : GlobV K mg "WAYS" c_WAYS
section
variable {P : Program} {w : World} {K : PySem.W.Frag} {mg : Str → Option Value} {base : Heap}
theorem ok_law_begin (T : Txt K mg) : FnOk P w K mg base (L2.CX P w) 1 T.law_begin.f T.law_begin.fd [] (liftF K w 0 F_law_begin) :=
  fn_P (t := t_law_begin) T.law_begin.F sc_law_begin (fun cdv A outer s H E RE hr => (dss_one (ds_ret (de_tup (da_cons de_int (da_cons de_int (da_cons de_int (da_cons de_int (da_cons de_bl (da_cons de_bl da_nil)))))))))) (fun ds R hl h => rd_law_begin ds R h)
theorem ok_law_deeds (T : Txt K mg) : FnOk P w K mg base (L2.CX P w) 1 T.law_deeds.f T.law_deeds.fd ["plan", "stand"] (liftF K w 2 F_law_deeds) :=
  fn_P (t := t_law_deeds) T.law_deeds.F sc_law_deeds (fun cdv A outer s H E RE hr => (dss_cons (ds_asg (de_ix (de_var 0) de_int) (dg_tup rfl (dgs_cons (dg_name (i := 2) sc_law_deeds.nd rfl) (dgs_cons (dg_name (i := 3) sc_law_deeds.nd rfl) (dgs_cons (dg_name (i := 4) sc_law_deeds.nd rfl) dgs_nil))))) (dss_cons (ds_if (dt_tru (de_ix (de_var 1) de_int)) (dss_one (ds_ret (de_lst (da_cons (de_tup (da_cons de_str da_nil)) da_nil)))) dss_nil) (dss_cons (ds_set (i := 5) sc_law_deeds.nd rfl (de_lstO (da_cons (de_tup (da_cons de_str da_nil)) da_nil))) (dss_cons (ds_for (passes_of rfl) rfl (di_range2 T.n_range (da_cons de_int (da_cons (de_add (de_var 2) de_int) da_nil))) (dg_name (i := 6) sc_law_deeds.nd rfl) (dss_cons (ds_expr (de_append (de_var 5) (da_cons (de_tup (da_cons de_str (da_cons (de_var 6) da_nil))) da_nil))) (dss_one (ds_if (dt_eq (hu65 hr) (de_ix (de_var 1) de_int) de_int) (dss_one (ds_expr (de_append (de_var 5) (da_cons (de_tup (da_cons de_str (da_cons (de_var 6) da_nil))) da_nil)))) dss_nil)))) (dss_cons (ds_for (passes_of rfl) rfl (di_range2 T.n_range (da_cons (de_neg (de_var 3)) (da_cons (de_add (de_var 3) de_int) da_nil))) (dg_name (i := 7) sc_law_deeds.nd rfl) (dss_one (ds_if (dt_w (dw_and (dt_ne (hu65 hr) (de_ix (de_var 1) de_int) de_int) (dw_and1 (dt_gt (de_add (de_ix (de_var 1) de_int) (de_var 7)) de_int)))) (dss_one (ds_expr (de_append (de_var 5) (da_cons (de_tup (da_cons de_str (da_cons (de_var 7) da_nil))) da_nil)))) dss_nil))) (dss_cons (ds_if (dt_tru (de_var 4)) (dss_one (ds_expr (de_append (de_var 5) (da_cons (de_if (dt_tru (de_ix (de_var 1) de_int)) (de_tup (da_cons de_str da_nil)) (de_tup (da_cons de_str da_nil))) da_nil)))) dss_nil) (dss_one (ds_ret (de_sorted (hu65 hr) T.n_sorted (da_cons (de_var 5) da_nil))))))))))) (fun ds R hl h => rd_law_deeds ds R h)
theorem ok_law_done (T : Txt K mg) : FnOk P w K mg base (L2.CX P w) 2 T.law_done.f T.law_done.fd ["plan", "stand", "deed"] (liftF K w 3 F_law_done) :=
  fn_P (t := t_law_done) T.law_done.F sc_law_done (fun cdv A outer s H E RE hr => (dss_cons (ds_asg (de_ix (de_var 0) de_int) (dg_tup rfl (dgs_cons (dg_name (i := 3) sc_law_done.nd rfl) (dgs_cons (dg_name (i := 4) sc_law_done.nd rfl) (dgs_cons (dg_name (i := 5) sc_law_done.nd rfl) dgs_nil))))) (dss_cons (ds_asg (de_var 1) (dg_tup rfl (dgs_cons (dg_name (i := 6) sc_law_done.nd rfl) (dgs_cons (dg_name (i := 7) sc_law_done.nd rfl) (dgs_cons (dg_name (i := 8) sc_law_done.nd rfl) (dgs_cons (dg_name (i := 9) sc_law_done.nd rfl) (dgs_cons (dg_name (i := 10) sc_law_done.nd rfl) (dgs_cons (dg_name (i := 11) sc_law_done.nd rfl) dgs_nil)))))))) (dss_cons (ds_asg (de_slice (de_add (de_var 2) (de_tup (da_cons de_int da_nil))) do_none (do_some de_int)) (dg_tup rfl (dgs_cons (dg_name (i := 12) sc_law_done.nd rfl) (dgs_cons (dg_name (i := 13) sc_law_done.nd rfl) dgs_nil)))) (dss_cons (ds_if (dt_eq (hu65 hr) (de_var 12) de_str) (dss_one (ds_ret (de_tup (da_cons (de_call0 (ok_law_begin T) (hr.mono (by first | decide | (simp only [Nat.add_eq]; omega) | omega)) T.law_begin.g T.law_begin.F.kp T.law_begin.b) (da_cons de_str (da_cons de_int da_nil)))))) dss_nil) (dss_cons (ds_if (dt_eq (hu65 hr) (de_var 12) de_str) (dss_one (ds_ret (de_tup (da_cons (de_tup (da_cons (de_var 6) (da_cons (de_var 13) (da_cons (de_var 4) (da_cons (de_var 13) (da_cons (de_var 10) (da_cons de_bl da_nil))))))) (da_cons de_str (da_cons de_int da_nil)))))) dss_nil) (dss_cons (ds_par (i := 14) (j := 15) rfl sc_law_done.nd rfl rfl (by decide) rfl rfl (da_cons (de_var 6) (da_cons de_int da_nil)) (by rfl)) (dss_cons (ds_if (dt_eq (hu65 hr) (de_var 12) de_str) (dss_one (ds_par (i := 6) (j := 15) rfl sc_law_done.nd rfl rfl (by decide) rfl rfl (da_cons (de_add (de_var 6) (de_var 13)) (da_cons (de_var 13) da_nil)) (by rfl))) (dss_one (ds_if (dt_eq (hu65 hr) (de_var 12) de_str) (dss_one (ds_par (i := 6) (j := 9) rfl sc_law_done.nd rfl rfl (by decide) rfl rfl (da_cons (de_add (de_add (de_var 6) (de_var 9)) (de_var 13)) (da_cons de_int da_nil)) (by rfl))) (dss_one (ds_if (dt_eq (hu65 hr) (de_var 12) de_str) (dss_one (ds_par (i := 6) (j := 10) rfl sc_law_done.nd rfl rfl (by decide) rfl rfl (da_cons (de_add (de_var 6) de_int) (da_cons de_bl da_nil)) (by rfl))) (dss_one (ds_if (dt_eq (hu65 hr) (de_var 12) de_str) (dss_one (ds_par (i := 6) (j := 10) rfl sc_law_done.nd rfl rfl (by decide) rfl rfl (da_cons (de_sub (de_var 6) de_int) (da_cons de_bl da_nil)) (by rfl))) dss_nil))))))) (dss_cons (ds_if (dt_ne (hu65 hr) (de_var 7) de_int) (dss_cons (ds_if (dt_w (dw_and (dt_gt (de_var 6) (de_var 14)) (dw_and1 (dt_le (de_abs T.n_abs (da_cons (de_sub (de_var 6) (de_var 7)) da_nil)) (de_var 3))))) (dss_one (ds_ret (de_tup (da_cons (de_tup (da_cons (de_dgt1 (hu65 hr) pe_int (de_var 5) (de_sub (de_var 6) (de_var 7))) (da_cons de_int (da_cons de_int (da_cons de_int (da_cons (de_var 10) (da_cons de_bl da_nil))))))) (da_cons de_str (da_cons (de_sub (de_var 15) (de_var 9)) da_nil)))))) dss_nil) (dss_one (ds_if (dt_ne (hu65 hr) (de_var 8) de_int) (dss_one (ds_ret (de_tup (da_cons (de_tup (da_cons (de_var 6) (da_cons (de_var 7) (da_cons (de_sub (de_var 8) de_int) (da_cons (de_var 9) (da_cons (de_var 10) (da_cons de_bl da_nil))))))) (da_cons de_str (da_cons (de_var 15) da_nil)))))) dss_nil))) (dss_one (ds_if (dt_le (de_abs T.n_abs (da_cons (de_var 6) da_nil)) (de_var 3)) (dss_one (ds_ret (de_tup (da_cons (de_tup (da_cons (de_var 6) (da_cons de_int (da_cons de_int (da_cons de_int (da_cons (de_var 10) (da_cons de_bl da_nil))))))) (da_cons de_str (da_cons (de_var 15) da_nil)))))) dss_nil))) (dss_one (ds_ret (de_tup (da_cons (de_tup (da_cons de_int (da_cons de_int (da_cons de_int (da_cons de_int (da_cons de_bl (da_cons de_bl da_nil))))))) (da_cons de_str (da_cons (de_var 15) da_nil))))))))))))))) (fun ds R hl h => rd_law_done ds R h)
theorem ok_law_pick (T : Txt K mg) : FnOk P w K mg base (L2.CX P w) 1 T.law_pick.f T.law_pick.fd ["spring", "many"] (liftF K w 2 F_law_pick) :=
  fn_M (t := t_law_pick) T.law_pick.F sc_law_pick (fun cdv A outer s H E RE hr => (dss_cons (ds_if (dt_gt (de_ix (de_var 0) de_int) de_int) (dss_cons (ds_set (i := 2) sc_law_pick.nd rfl (de_mod (de_intC T.n_int (da_cons (de_ix (de_var 0) de_int) da_nil)) (de_var 1))) (dss_cons (ds_asg (de_div (de_ix (de_var 0) de_int) (de_var 1)) (dg_subL (de_var 0) de_int)) (dss_one (ds_ret (de_var 2))))) dss_nil) (dss_cons (ds_asg (de_mod (de_intC T.n_int (da_cons (de_add (de_mul (de_ix (de_var 0) de_int) de_int) de_int) da_nil)) de_int) (dg_subL (de_var 0) de_int)) (dss_one (ds_ret (de_mod (de_intC T.n_int (da_cons (de_div (de_ix (de_var 0) de_int) de_int) da_nil)) (de_var 1))))))) (fun d o r R hl h => rd_law_pick d o r R h)
theorem ok_law_program (T : Txt K mg) : FnOk P w K mg base (L2.CX P w) 2 T.law_program.f T.law_program.fd ["spring"] (liftF K w 1 F_law_program) :=
  fn_M (t := t_law_program) T.law_program.F sc_law_program (fun cdv A outer s H E RE hr => (dss_one (ds_ret (de_tup (da_cons (de_callM (ok_law_pick T) (hr.mono (by first | decide | (simp only [Nat.add_eq]; omega) | omega)) T.law_pick.g T.law_pick.F.kp T.law_pick.b (da_cons (de_var 0) (da_cons de_int da_nil))) (da_cons (de_add de_int (de_callM (ok_law_pick T) (hr.mono (by first | decide | (simp only [Nat.add_eq]; omega) | omega)) T.law_pick.g T.law_pick.F.kp T.law_pick.b (da_cons (de_var 0) (da_cons de_int da_nil)))) (da_cons (de_ix (de_lst (da_cons de_str (da_cons de_str da_nil))) (de_callM (ok_law_pick T) (hr.mono (by first | decide | (simp only [Nat.add_eq]; omega) | omega)) T.law_pick.g T.law_pick.F.kp T.law_pick.b (da_cons (de_var 0) (da_cons de_int da_nil)))) da_nil))))))) (fun d o r R hl h => rd_law_program d o r R h)
theorem ok_law_plan (T : Txt K mg) : FnOk P w K mg base (L2.CX P w) 3 T.law_plan.f T.law_plan.fd ["spring"] (liftF K w 1 F_law_plan) :=
  fn_M (t := t_law_plan) T.law_plan.F sc_law_plan (fun cdv A outer s H E RE hr => (dss_cons (ds_set (i := 1) sc_law_plan.nd rfl (de_tup (da_cons (de_add de_int (de_callM (ok_law_pick T) (hr.mono (by first | decide | (simp only [Nat.add_eq]; omega) | omega)) T.law_pick.g T.law_pick.F.kp T.law_pick.b (da_cons (de_var 0) (da_cons de_int da_nil)))) (da_cons (de_ix (de_lst (da_cons de_int (da_cons de_int (da_cons de_int (da_cons de_int da_nil))))) (de_callM (ok_law_pick T) (hr.mono (by first | decide | (simp only [Nat.add_eq]; omega) | omega)) T.law_pick.g T.law_pick.F.kp T.law_pick.b (da_cons (de_var 0) (da_cons de_int da_nil)))) (da_cons (de_eq (hu65 hr) (de_callM (ok_law_pick T) (hr.mono (by first | decide | (simp only [Nat.add_eq]; omega) | omega)) T.law_pick.g T.law_pick.F.kp T.law_pick.b (da_cons (de_var 0) (da_cons de_int da_nil))) de_int) da_nil))))) (dss_one (ds_ret (de_tup (da_cons (de_callM (ok_law_program T) (hr.mono (by first | decide | (simp only [Nat.add_eq]; omega) | omega)) T.law_program.g T.law_program.F.kp T.law_program.b (da_cons (de_var 0) da_nil)) (da_cons (de_var 1) da_nil))))))) (fun d o r R hl h => rd_law_plan d o r R h)
theorem ok_law_spring (T : Txt K mg) : FnOk P w K mg base (L2.CX P w) 1 T.law_spring.f T.law_spring.fd ["script", "at"] (liftN K w 2 F_law_spring) :=
  fn_N (t := t_law_spring) T.law_spring.F sc_law_spring (fun cdv A outer s H E RE hr => (dss_cons (ds_set (i := 2) sc_law_spring.nd rfl de_int) (dss_cons (ds_if (dt_lt (de_var 1) (de_len T.n_len (da_cons (de_var 0) da_nil))) (dss_one (ds_set (i := 2) sc_law_spring.nd rfl (de_abs T.n_abs (da_cons (de_ix (de_var 0) (de_var 1)) da_nil)))) dss_nil) (dss_cons (ds_set (i := 3) sc_law_spring.nd rfl (de_mod (de_intC T.n_int (da_cons (de_add (de_add (de_mul (de_var 2) de_int) (de_mul de_int (de_var 1))) de_int) da_nil)) de_int)) (dss_one (ds_ret (de_lstO (da_cons (de_if (dt_ge (de_var 2) (de_pow de_int de_int)) (de_var 2) de_int) (da_cons (de_var 3) da_nil))))))))) (fun ds R hl h => rd_law_spring ds R h)
theorem ok_law_kind (T : Txt K mg) : FnOk P w K mg base (L2.CX P w) 1 T.law_kind.f T.law_kind.fd ["value"] (liftF K w 1 F_law_kind) :=
  fn_P (t := t_law_kind) T.law_kind.F sc_law_kind (fun cdv A outer s H E RE hr => (dss_cons (ds_if (dt_w (dw_or (dt_isN (de_var 0) de_non) (dw_or1 (dt_tru (de_isi T.n_isinstance (da_cons (de_var 0) (da_cons (de_type (by rfl) T.n_bool boot_bool) da_nil))))))) (dss_one (ds_ret (de_if (dt_isN (de_var 0) de_non) de_int de_int))) dss_nil) (dss_cons (ds_if (dt_tru (de_isi2 T.n_isinstance (da_cons (de_var 0) (da_cons (de_tup (da_cons (de_type (by rfl) T.n_list boot_list) (da_cons (de_type (by rfl) T.n_tuple boot_tuple) da_nil))) da_nil)))) (dss_one (ds_ret (de_if (dt_tru (de_isi T.n_isinstance (da_cons (de_var 0) (da_cons (de_type (by rfl) T.n_list boot_list) da_nil)))) de_int de_int))) dss_nil) (dss_one (ds_ret (de_if (dt_tru (de_isi T.n_isinstance (da_cons (de_var 0) (da_cons (de_type (by rfl) T.n_int boot_int) da_nil)))) de_int (de_if (dt_tru (de_isi T.n_isinstance (da_cons (de_var 0) (da_cons (de_type (by rfl) T.n_str boot_str) da_nil)))) de_int de_int))))))) (fun ds R hl h => rd_law_kind ds R h)
theorem ok_law_twins (T : Txt K mg) : ∀ m : Nat, FnOk P w K mg base (L2.CX P w) (1 + m) T.law_twins.f T.law_twins.fd ["one", "other"] (liftF K w 2 (F_law_twins m))
  | 0 => FnOk.no
  | m + 1 => fn_P (k := 1 + m) (P1 := P_law_twins m) (t := t_law_twins m) T.law_twins.F sc_law_twins (fun cdv A outer s H E RE hr => (dss_cons (ds_if (dt_ne (hu65 hr) (de_call (ok_law_kind T) (hr.mono (by first | decide | (simp only [Nat.add_eq]; omega) | omega)) T.law_kind.g T.law_kind.F.kp T.law_kind.b (da_cons (de_var 0) da_nil)) (de_call (ok_law_kind T) (hr.mono (by first | decide | (simp only [Nat.add_eq]; omega) | omega)) T.law_kind.g T.law_kind.F.kp T.law_kind.b (da_cons (de_var 1) da_nil))) (dss_one (ds_ret de_bl)) dss_nil) (dss_cons (ds_if (dt_in (hu65 hr) (de_call (ok_law_kind T) (hr.mono (by first | decide | (simp only [Nat.add_eq]; omega) | omega)) T.law_kind.g T.law_kind.F.kp T.law_kind.b (da_cons (de_var 0) da_nil)) (de_lst (da_cons de_int (da_cons de_int da_nil)))) (dss_one (ds_ret (de_and (de_eq (hu65 hr) (de_len T.n_len (da_cons (de_var 0) da_nil)) (de_len T.n_len (da_cons (de_var 1) da_nil))) (de_and1 (de_eq (hu65 hr) (de_lc (own := [("a", 2), ("b", 3)]) rfl sc_law_twins.nd (di_zip T.n_zip (da_cons (de_var 0) (da_cons (de_var 1) da_nil))) (blkOk_by (N := N_law_twins) (sc := defScope s_law_twins) (by decide +kernel)) (fun _ _ _ _ _ => pg_tup rfl (pgs_cons (pg_name (i := 2) sc_law_twins.nd rfl (Or.inl rfl)) (pgs_cons (pg_name (i := 3) sc_law_twins.nd rfl (Or.inl rfl)) pgs_nil))) (tgcN (is := [2, 3]) rfl (by decide)) (fun _ _ _ _ _ => dts_one (dt_not (dt_tru (de_call (ok_law_twins T m) (hr.mono (by first | decide | (simp only [Nat.add_eq]; omega) | omega)) T.law_twins.g T.law_twins.F.kp T.law_twins.b (da_cons (de_var 2) (da_cons (de_var 3) da_nil)))))) (fun _ _ _ _ _ => de_int)) (de_lst da_nil)))))) dss_nil) (dss_one (ds_ret (de_eq (hu65 hr) (de_var 0) (de_var 1))))))) (fun ds R hl h => rd_law_twins m ds R h)
theorem ok_deeds_of (T : Txt K mg) : FnOk P w K mg base (L2.CX P w) 1 T.deeds_of.f T.deeds_of.fd ["plan", "stand"] (liftF K w 2 F_deeds_of) :=
  fn_P (t := t_deeds_of) T.deeds_of.F sc_deeds_of (fun cdv A outer s H E RE hr => (dss_cons (ds_asg (de_var 1) (dg_tup rfl (dgs_cons (dg_name (i := 2) sc_deeds_of.nd rfl) (dgs_cons (dg_name (i := 3) sc_deeds_of.nd rfl) (dgs_cons (dg_name (i := 4) sc_deeds_of.nd rfl) (dgs_cons (dg_name (i := 5) sc_deeds_of.nd rfl) (dgs_cons (dg_name (i := 6) sc_deeds_of.nd rfl) (dgs_cons (dg_name (i := 7) sc_deeds_of.nd rfl) dgs_nil)))))))) (dss_cons (ds_asg (de_ix (de_var 0) de_int) (dg_tup rfl (dgs_cons (dg_name (i := 8) sc_deeds_of.nd rfl) (dgs_cons (dg_name (i := 9) sc_deeds_of.nd rfl) (dgs_cons (dg_name (i := 10) sc_deeds_of.nd rfl) dgs_nil))))) (dss_cons (ds_if (dt_tru (de_var 7)) (dss_one (ds_ret (de_lst (da_cons (de_tup (da_cons de_str da_nil)) da_nil)))) dss_nil) (dss_cons (ds_setLc (i := 11) (own := [("weight", 12)]) rfl sc_deeds_of.nd rfl rfl (sw_true rfl rfl rfl (by decide +kernel)) (di_range2 T.n_range (da_cons de_int (da_cons (de_add (de_var 8) de_int) da_nil))) (blkOk_by (N := N_deeds_of) (sc := defScope s_deeds_of) (by decide +kernel)) (fun _ _ _ _ _ => pg_name (i := 12) sc_deeds_of.nd rfl (Or.inl rfl)) (tgc1 (by decide)) (fun _ _ _ _ _ => dts_nil) (fun _ _ _ _ _ => (de_tup (da_cons de_str (da_cons (de_var 12) da_nil))))) (dss_cons (ds_if (dt_gt (de_var 5) de_int) (dss_one (ds_set (i := 11) sc_deeds_of.nd rfl (de_add (de_var 11) (de_lc (own := [("more", 13)]) rfl sc_deeds_of.nd (di_range2 T.n_range (da_cons (de_neg (de_var 9)) (da_cons (de_add (de_var 9) de_int) da_nil))) (blkOk_by (N := N_deeds_of) (sc := defScope s_deeds_of) (by decide +kernel)) (fun _ _ _ _ _ => pg_name (i := 13) sc_deeds_of.nd rfl (Or.inl rfl)) (tgc1 (by decide)) (fun _ _ _ _ _ => dts_one (dt_gt (de_add (de_var 5) (de_var 13)) de_int)) (fun _ _ _ _ _ => (de_tup (da_cons de_str (da_cons (de_var 13) da_nil)))))))) dss_nil) (dss_cons (ds_if (dt_tru (de_var 10)) (dss_one (ds_set (i := 11) sc_deeds_of.nd rfl (de_add (de_var 11) (de_lst (da_cons (de_if (dt_tru (de_var 6)) (de_tup (da_cons de_str da_nil)) (de_tup (da_cons de_str da_nil))) da_nil))))) dss_nil) (dss_cons (ds_if (dt_eq (hu65 hr) (de_var 3) de_int) (dss_one (ds_set (i := 11) sc_deeds_of.nd rfl (de_add (de_var 11) (de_lc (own := [("weight", 12)]) rfl sc_deeds_of.nd (di_range2 T.n_range (da_cons de_int (da_cons (de_add (de_var 8) de_int) da_nil))) (blkOk_by (N := N_deeds_of) (sc := defScope s_deeds_of) (by decide +kernel)) (fun _ _ _ _ _ => pg_name (i := 12) sc_deeds_of.nd rfl (Or.inl rfl)) (tgc1 (by decide)) (fun _ _ _ _ _ => dts_nil) (fun _ _ _ _ _ => (de_tup (da_cons de_str (da_cons (de_var 12) da_nil)))))))) dss_nil) (dss_one (ds_ret (de_add (de_var 11) (de_lst (da_cons (de_tup (da_cons de_str da_nil)) da_nil))))))))))))) (fun ds R hl h => rd_deeds_of ds R h)
theorem ok_is_within (T : Txt K mg) : FnOk P w K mg base (L2.CX P w) 1 T.is_within.f T.is_within.fd ["value", "low", "high"] (liftF K w 3 F_is_within) :=
  fn_P (t := t_is_within) T.is_within.F sc_is_within (fun cdv A outer s H E RE hr => (dss_one (ds_ret (de_and (de_isi T.n_isinstance (da_cons (de_var 0) (da_cons (de_type (by rfl) T.n_int boot_int) da_nil))) (de_and (de_not (de_isi T.n_isinstance (da_cons (de_var 0) (da_cons (de_type (by rfl) T.n_bool boot_bool) da_nil)))) (de_and1 (de_lele (de_var 1) (de_var 0) (de_var 2)))))))) (fun ds R hl h => rd_is_within ds R h)
theorem ok_is_like (T : Txt K mg) : FnOk P w K mg base (L2.CX P w) 2 T.is_like.f T.is_like.fd ["value", "some"] (liftF K w 2 F_is_like) :=
  fn_P (t := t_is_like) T.is_like.F sc_is_like (fun cdv A outer s H E RE hr => (dss_cons (ds_if (dt_w (dw_or (dt_not (dt_tru (de_isi T.n_isinstance (da_cons (de_var 0) (da_cons (de_type (by rfl) T.n_tuple boot_tuple) da_nil))))) (dw_or (dt_notIn (hu65 hr) (de_len T.n_len (da_cons (de_var 0) da_nil)) (de_tup (da_cons de_int (da_cons de_int da_nil)))) (dw_or1 (dt_not (dt_tru (de_isi T.n_isinstance (da_cons (de_ix (de_var 0) de_int) (da_cons (de_type (by rfl) T.n_str boot_str) da_nil))))))))) (dss_one (ds_ret de_bl)) dss_nil) (dss_one (ds_ret (de_and (de_or (de_eq (hu65 hr) (de_len T.n_len (da_cons (de_var 0) da_nil)) de_int) (de_and1 (de_call (ok_is_within T) (hr.mono (by first | decide | (simp only [Nat.add_eq]; omega) | omega)) T.is_within.g T.is_within.F.kp T.is_within.b (da_cons (de_ix (de_var 0) de_int) (da_cons (de_neg de_int) (da_cons de_int da_nil)))))) (de_and1 (de_in (hu65 hr) (de_var 0) (de_var 1)))))))) (fun ds R hl h => rd_is_like ds R h)
theorem ok_is_row (T : Txt K mg) : FnOk P w K mg base (L2.CX P w) 1 T.is_row.f T.is_row.fd ["value", "many"] (liftF K w 2 F_is_row) :=
  fn_P (t := t_is_row) T.is_row.F sc_is_row (fun cdv A outer s H E RE hr => (dss_one (ds_ret (de_and (de_isi T.n_isinstance (da_cons (de_var 0) (da_cons (de_type (by rfl) T.n_tuple boot_tuple) da_nil))) (de_and1 (de_eq (hu65 hr) (de_len T.n_len (da_cons (de_var 0) da_nil)) (de_var 1))))))) (fun ds R hl h => rd_is_row ds R h)
theorem ok_is_program (T : Txt K mg) : FnOk P w K mg base (L2.CX P w) 2 T.is_program.f T.is_program.fd ["value"] (liftF K w 1 F_is_program) :=
  fn_P (t := t_is_program) T.is_program.F sc_is_program (fun cdv A outer s H E RE hr => (dss_cons (ds_if (dt_w (dw_or (dt_not (dt_tru (de_call (ok_is_row T) (hr.mono (by first | decide | (simp only [Nat.add_eq]; omega) | omega)) T.is_row.g T.is_row.F.kp T.is_row.b (da_cons (de_var 0) (da_cons de_int da_nil))))) (dw_or (dt_not (dt_tru (de_call (ok_is_within T) (hr.mono (by first | decide | (simp only [Nat.add_eq]; omega) | omega)) T.is_within.g T.is_within.F.kp T.is_within.b (da_cons (de_ix (de_var 0) de_int) (da_cons de_int (da_cons de_int da_nil)))))) (dw_or1 (dt_not (dt_tru (de_call (ok_is_within T) (hr.mono (by first | decide | (simp only [Nat.add_eq]; omega) | omega)) T.is_within.g T.is_within.F.kp T.is_within.b (da_cons (de_ix (de_var 0) de_int) (da_cons de_int (da_cons de_int da_nil)))))))))) (dss_one (ds_ret de_bl)) dss_nil) (dss_one (ds_ret (de_and (de_isi T.n_isinstance (da_cons (de_ix (de_var 0) de_int) (da_cons (de_type (by rfl) T.n_str boot_str) da_nil))) (de_and1 (de_in (hu65 hr) (de_ix (de_var 0) de_int) (de_cst T.g_WAYS)))))))) (fun ds R hl h => rd_is_program ds R h)
theorem ok_is_plan (T : Txt K mg) : FnOk P w K mg base (L2.CX P w) 3 T.is_plan.f T.is_plan.fd ["value"] (liftF K w 1 F_is_plan) :=
  fn_P (t := t_is_plan) T.is_plan.F sc_is_plan (fun cdv A outer s H E RE hr => (dss_cons (ds_if (dt_w (dw_or (dt_not (dt_tru (de_call (ok_is_row T) (hr.mono (by first | decide | (simp only [Nat.add_eq]; omega) | omega)) T.is_row.g T.is_row.F.kp T.is_row.b (da_cons (de_var 0) (da_cons de_int da_nil))))) (dw_or (dt_not (dt_tru (de_call (ok_is_program T) (hr.mono (by first | decide | (simp only [Nat.add_eq]; omega) | omega)) T.is_program.g T.is_program.F.kp T.is_program.b (da_cons (de_ix (de_var 0) de_int) da_nil)))) (dw_or1 (dt_not (dt_tru (de_call (ok_is_row T) (hr.mono (by first | decide | (simp only [Nat.add_eq]; omega) | omega)) T.is_row.g T.is_row.F.kp T.is_row.b (da_cons (de_ix (de_var 0) de_int) (da_cons de_int da_nil))))))))) (dss_one (ds_ret de_bl)) dss_nil) (dss_cons (ds_asg (de_ix (de_var 0) de_int) (dg_tup rfl (dgs_cons (dg_name (i := 1) sc_is_plan.nd rfl) (dgs_cons (dg_name (i := 2) sc_is_plan.nd rfl) (dgs_cons (dg_name (i := 3) sc_is_plan.nd rfl) dgs_nil))))) (dss_one (ds_ret (de_and (de_call (ok_is_within T) (hr.mono (by first | decide | (simp only [Nat.add_eq]; omega) | omega)) T.is_within.g T.is_within.F.kp T.is_within.b (da_cons (de_var 1) (da_cons de_int (da_cons de_int da_nil)))) (de_and (de_call (ok_is_within T) (hr.mono (by first | decide | (simp only [Nat.add_eq]; omega) | omega)) T.is_within.g T.is_within.F.kp T.is_within.b (da_cons (de_var 2) (da_cons de_int (da_cons de_int da_nil)))) (de_and1 (de_isi T.n_isinstance (da_cons (de_var 3) (da_cons (de_type (by rfl) T.n_bool boot_bool) da_nil))))))))))) (fun ds R hl h => rd_is_plan ds R h)
theorem ok_look_at_plan (T : Txt K mg) : FnOk P w K mg base (L2.CX P w) 4 T.look_at_plan.f T.look_at_plan.fd ["plan"] (liftF K w 1 F_look_at_plan) :=
  fn_P (t := t_look_at_plan) T.look_at_plan.F sc_look_at_plan (fun cdv A outer s H E RE hr => (dss_one (ds_if (dt_not (dt_tru (de_call (ok_is_plan T) (hr.mono (by first | decide | (simp only [Nat.add_eq]; omega) | omega)) T.is_plan.g T.is_plan.F.kp T.is_plan.b (da_cons (de_var 0) da_nil)))) (dss_one ds_never) dss_nil))) (fun ds R hl h => rd_look_at_plan ds R h)
theorem ok_fits (T : Txt K mg) : FnOk P w K mg base (L2.CX P w) 2 T.fits.f T.fits.fd ["plan", "value"] (liftF K w 2 F_fits) :=
  fn_P (t := t_fits) T.fits.F sc_fits (fun cdv A outer s H E RE hr => (dss_cons (ds_asg (de_var 0) (dg_tup rfl (dgs_cons (dg_tup rfl (dgs_cons (dg_name (i := 2) sc_fits.nd rfl) (dgs_cons (dg_name (i := 3) sc_fits.nd rfl) (dgs_cons (dg_name (i := 4) sc_fits.nd rfl) dgs_nil)))) (dgs_cons (dg_tup rfl (dgs_cons (dg_name (i := 5) sc_fits.nd rfl) (dgs_cons (dg_name (i := 6) sc_fits.nd rfl) (dgs_cons (dg_name (i := 7) sc_fits.nd rfl) dgs_nil)))) dgs_nil)))) (dss_cons (ds_if (dt_w (dw_or (dt_not (dt_tru (de_call (ok_is_row T) (hr.mono (by first | decide | (simp only [Nat.add_eq]; omega) | omega)) T.is_row.g T.is_row.F.kp T.is_row.b (da_cons (de_var 1) (da_cons de_int da_nil))))) (dw_or (dt_not (dt_tru (de_isi T.n_isinstance (da_cons (de_ix (de_var 1) de_int) (da_cons (de_type (by rfl) T.n_bool boot_bool) da_nil))))) (dw_or1 (dt_not (dt_tru (de_isi T.n_isinstance (da_cons (de_ix (de_var 1) de_int) (da_cons (de_type (by rfl) T.n_bool boot_bool) da_nil))))))))) (dss_one (ds_ret de_bl)) dss_nil) (dss_cons (ds_if (dt_not (dt_tru (de_all T.n_all (da_cons (de_lc (own := [("number", 14)]) rfl sc_fits.nd (di_tup (de_slice (de_var 1) do_none (do_some de_int))) (blkOk_by (N := N_fits) (sc := defScope s_fits) (by decide +kernel)) (fun _ _ _ _ _ => pg_name (i := 14) sc_fits.nd rfl (Or.inl rfl)) (tgc1 (by decide)) (fun _ _ _ _ _ => dts_nil) (fun _ _ _ _ _ => (de_call (ok_is_within T) (hr.mono (by first | decide | (simp only [Nat.add_eq]; omega) | omega)) T.is_within.g T.is_within.F.kp T.is_within.b (da_cons (de_var 14) (da_cons (de_neg (de_cst T.g_FAR)) (da_cons (de_cst T.g_FAR) da_nil)))))) da_nil)))) (dss_one (ds_ret de_bl)) dss_nil) (dss_cons (ds_asg (de_var 1) (dg_tup rfl (dgs_cons (dg_name (i := 8) sc_fits.nd rfl) (dgs_cons (dg_name (i := 9) sc_fits.nd rfl) (dgs_cons (dg_name (i := 10) sc_fits.nd rfl) (dgs_cons (dg_name (i := 11) sc_fits.nd rfl) (dgs_cons (dg_name (i := 12) sc_fits.nd rfl) (dgs_cons (dg_name (i := 13) sc_fits.nd rfl) dgs_nil)))))))) (dss_cons (ds_if (dt_tru (de_var 13)) (dss_one (ds_ret (de_eq (hu65 hr) (de_var 1) (de_cst T.g_LOCKED)))) dss_nil) (dss_cons (ds_if (dt_w (dw_or (dt_not (dt_lele de_int (de_var 9) (de_var 5))) (dw_or (dt_notIn (hu65 hr) (de_var 11) (de_tup (da_cons de_int (da_cons (de_var 9) da_nil)))) (dw_or1 (dt_w (dw_and (dt_tru (de_var 12)) (dw_and1 (dt_not (dt_tru (de_var 7)))))))))) (dss_one (ds_ret de_bl)) dss_nil) (dss_cons (ds_if (dt_eq (hu65 hr) (de_var 9) de_int) (dss_one (ds_ret (de_and (de_eq (hu65 hr) (de_var 10) de_int) (de_and1 (de_lele (de_neg (de_var 2)) (de_var 8) (de_var 2)))))) dss_nil) (dss_one (ds_ret (de_lele de_int (de_var 10) (de_var 3)))))))))))) (fun ds R hl h => rd_fits ds R h)
theorem ok_look_at_stand (T : Txt K mg) : FnOk P w K mg base (L2.CX P w) 3 T.look_at_stand.f T.look_at_stand.fd ["plan", "stand"] (liftF K w 2 F_look_at_stand) :=
  fn_P (t := t_look_at_stand) T.look_at_stand.F sc_look_at_stand (fun cdv A outer s H E RE hr => (dss_one (ds_if (dt_not (dt_tru (de_call (ok_fits T) (hr.mono (by first | decide | (simp only [Nat.add_eq]; omega) | omega)) T.fits.g T.fits.F.kp T.fits.b (da_cons (de_var 0) (da_cons (de_var 1) da_nil))))) (dss_one ds_never) dss_nil))) (fun ds R hl h => rd_look_at_stand ds R h)
theorem ok_look_at_deed (T : Txt K mg) : FnOk P w K mg base (L2.CX P w) 5 T.look_at_deed.f T.look_at_deed.fd ["plan", "stand", "deed"] (liftF K w 3 F_look_at_deed) :=
  fn_P (t := t_look_at_deed) T.look_at_deed.F sc_look_at_deed (fun cdv A outer s H E RE hr => (dss_cons (ds_expr (de_call (ok_look_at_plan T) (hr.mono (by first | decide | (simp only [Nat.add_eq]; omega) | omega)) T.look_at_plan.g T.look_at_plan.F.kp T.look_at_plan.b (da_cons (de_var 0) da_nil))) (dss_cons (ds_expr (de_call (ok_look_at_stand T) (hr.mono (by first | decide | (simp only [Nat.add_eq]; omega) | omega)) T.look_at_stand.g T.look_at_stand.F.kp T.look_at_stand.b (da_cons (de_var 0) (da_cons (de_var 1) da_nil)))) (dss_one (ds_if (dt_not (dt_tru (de_call (ok_is_like T) (hr.mono (by first | decide | (simp only [Nat.add_eq]; omega) | omega)) T.is_like.g T.is_like.F.kp T.is_like.b (da_cons (de_var 2) (da_cons (de_call (ok_deeds_of T) (hr.mono (by first | decide | (simp only [Nat.add_eq]; omega) | omega)) T.deeds_of.g T.deeds_of.F.kp T.deeds_of.b (da_cons (de_var 0) (da_cons (de_var 1) da_nil))) da_nil))))) (dss_one ds_never) dss_nil))))) (fun ds R hl h => rd_look_at_deed ds R h)
theorem ok_growth (T : Txt K mg) : FnOk P w K mg base (L2.CX P w) 1 T.growth.f T.growth.fd ["stand", "deed"] (liftF K w 2 F_growth) :=
  fn_P (t := t_growth) T.growth.F sc_growth (fun cdv A outer s H E RE hr => (dss_cons (ds_if (dt_eq (hu65 hr) (de_ix (de_var 1) de_int) de_str) (dss_one (ds_ret (de_ix (de_var 1) de_int))) dss_nil) (dss_cons (ds_if (dt_eq (hu65 hr) (de_ix (de_var 1) de_int) de_str) (dss_one (ds_ret (de_add (de_ix (de_var 0) de_int) (de_ix (de_var 1) de_int)))) dss_nil) (dss_one (ds_ret (de_dgt2 (hu65 hr) (by decide) pe_int pe_neg (de_ix (de_var 1) de_int) de_int)))))) (fun ds R hl h => rd_growth ds R h)
theorem ok_passed (T : Txt K mg) : FnOk P w K mg base (L2.CX P w) 2 T.passed.f T.passed.fd ["plan", "stand", "deed"] (liftF K w 3 F_passed) :=
  fn_P (t := t_passed) T.passed.F sc_passed (fun cdv A outer s H E RE hr => (dss_cons (ds_asg (de_ix (de_var 0) de_int) (dg_tup rfl (dgs_cons (dg_name (i := 3) sc_passed.nd rfl) (dgs_cons (dg_name (i := 4) sc_passed.nd rfl) (dgs_cons (dg_name (i := 5) sc_passed.nd rfl) dgs_nil))))) (dss_cons (ds_asg (de_var 1) (dg_tup rfl (dgs_cons (dg_name (i := 6) sc_passed.nd rfl) (dgs_cons (dg_name (i := 7) sc_passed.nd rfl) (dgs_cons (dg_name (i := 8) sc_passed.nd rfl) (dgs_cons (dg_name (i := 9) sc_passed.nd rfl) (dgs_cons (dg_name (i := 10) sc_passed.nd rfl) (dgs_cons (dg_name (i := 11) sc_passed.nd rfl) dgs_nil)))))))) (dss_cons (ds_if (dt_eq (hu65 hr) (de_ix (de_var 2) de_int) de_str) (dss_one (ds_ret (de_tup (da_cons (de_cst T.g_BEGIN) (da_cons de_str (da_cons de_int da_nil)))))) dss_nil) (dss_cons (ds_if (dt_eq (hu65 hr) (de_ix (de_var 2) de_int) de_str) (dss_one (ds_ret (de_tup (da_cons (de_tup (da_cons (de_var 6) (da_cons (de_ix (de_var 2) de_int) (da_cons (de_var 4) (da_cons (de_ix (de_var 2) de_int) (da_cons (de_var 10) (da_cons de_bl da_nil))))))) (da_cons de_str (da_cons de_int da_nil)))))) dss_nil) (dss_cons (ds_set (i := 6) sc_passed.nd rfl (de_add (de_var 6) (de_call (ok_growth T) (hr.mono (by first | decide | (simp only [Nat.add_eq]; omega) | omega)) T.growth.g T.growth.F.kp T.growth.b (da_cons (de_var 1) (da_cons (de_var 2) da_nil))))) (dss_cons (ds_set (i := 9) sc_passed.nd rfl (de_if (dt_eq (hu65 hr) (de_ix (de_var 2) de_int) de_str) de_int (de_var 9))) (dss_cons (ds_if (dt_in (hu65 hr) (de_ix (de_var 2) de_int) (de_tup (da_cons de_str (da_cons de_str da_nil)))) (dss_one (ds_set (i := 10) sc_passed.nd rfl (de_not (de_var 10)))) dss_nil) (dss_cons (ds_set (i := 12) sc_passed.nd rfl (de_if (dt_eq (hu65 hr) (de_ix (de_var 2) de_int) de_str) (de_ix (de_var 2) de_int) de_int)) (dss_cons (ds_if (dt_w (dw_and (dt_gt (de_var 7) de_int) (dw_and (dt_in (hu65 hr) (de_ix (de_var 2) de_int) (de_cst T.g_GROWING)) (dw_and1 (dt_lele (de_sub (de_var 7) (de_var 3)) (de_var 6) (de_add (de_var 7) (de_var 3))))))) (dss_cons (ds_set (i := 6) sc_passed.nd rfl (de_if (dt_eq (hu65 hr) (de_var 5) de_str) de_int (de_sub (de_var 6) (de_var 7)))) (dss_one (ds_ret (de_tup (da_cons (de_tup (da_cons (de_var 6) (da_cons de_int (da_cons de_int (da_cons de_int (da_cons (de_var 10) (da_cons de_bl da_nil))))))) (da_cons de_str (da_cons (de_sub (de_var 12) (de_var 9)) da_nil))))))) dss_nil) (dss_cons (ds_if (dt_w (dw_and (dt_gt (de_var 7) de_int) (dw_and1 (dt_gt (de_var 8) de_int)))) (dss_one (ds_ret (de_tup (da_cons (de_tup (da_cons (de_var 6) (da_cons (de_var 7) (da_cons (de_sub (de_var 8) de_int) (da_cons (de_var 9) (da_cons (de_var 10) (da_cons de_bl da_nil))))))) (da_cons de_str (da_cons (de_var 12) da_nil)))))) dss_nil) (dss_cons (ds_if (dt_w (dw_or (dt_gt (de_var 7) de_int) (dw_or1 (dt_not (dt_lele (de_neg (de_var 3)) (de_var 6) (de_var 3)))))) (dss_one (ds_ret (de_tup (da_cons (de_cst T.g_LOCKED) (da_cons de_str (da_cons (de_var 12) da_nil)))))) dss_nil) (dss_one (ds_ret (de_tup (da_cons (de_tup (da_cons (de_var 6) (da_cons de_int (da_cons de_int (da_cons de_int (da_cons (de_var 10) (da_cons de_bl da_nil))))))) (da_cons de_str (da_cons (de_var 12) da_nil)))))))))))))))))) (fun ds R hl h => rd_passed ds R h)
theorem ok_after (T : Txt K mg) : FnOk P w K mg base (L2.CX P w) 6 T.after.f T.after.fd ["plan", "stand", "deed"] (liftF K w 3 F_after) :=
  fn_P (t := t_after) T.after.F sc_after (fun cdv A outer s H E RE hr => (dss_cons (ds_expr (de_call (ok_look_at_deed T) (hr.mono (by first | decide | (simp only [Nat.add_eq]; omega) | omega)) T.look_at_deed.g T.look_at_deed.F.kp T.look_at_deed.b (da_cons (de_var 0) (da_cons (de_var 1) (da_cons (de_var 2) da_nil))))) (dss_one (ds_ret (de_ix (de_call (ok_passed T) (hr.mono (by first | decide | (simp only [Nat.add_eq]; omega) | omega)) T.passed.g T.passed.F.kp T.passed.b (da_cons (de_var 0) (da_cons (de_var 1) (da_cons (de_var 2) da_nil)))) de_int))))) (fun ds R hl h => rd_after ds R h)
theorem ok_deeds_at (T : Txt K mg) : FnOk P w K mg base (L2.CX P w) 5 T.deeds_at.f T.deeds_at.fd ["plan", "stand"] (liftF K w 2 F_deeds_at) :=
  fn_P (t := t_deeds_at) T.deeds_at.F sc_deeds_at (fun cdv A outer s H E RE hr => (dss_cons (ds_expr (de_call (ok_look_at_plan T) (hr.mono (by first | decide | (simp only [Nat.add_eq]; omega) | omega)) T.look_at_plan.g T.look_at_plan.F.kp T.look_at_plan.b (da_cons (de_var 0) da_nil))) (dss_cons (ds_expr (de_call (ok_look_at_stand T) (hr.mono (by first | decide | (simp only [Nat.add_eq]; omega) | omega)) T.look_at_stand.g T.look_at_stand.F.kp T.look_at_stand.b (da_cons (de_var 0) (da_cons (de_var 1) da_nil)))) (dss_one (ds_ret (de_call (ok_deeds_of T) (hr.mono (by first | decide | (simp only [Nat.add_eq]; omega) | omega)) T.deeds_of.g T.deeds_of.F.kp T.deeds_of.b (da_cons (de_var 0) (da_cons (de_var 1) da_nil)))))))) (fun ds R hl h => rd_deeds_at ds R h)
theorem ok_steps_of (T : Txt K mg) : FnOk P w K mg base (L2.CX P w) 3 T.steps_of.f T.steps_of.fd ["plan", "stand", "deeds"] (liftF K w 3 F_steps_of) :=
  fn_P (t := t_steps_of) T.steps_of.F sc_steps_of (fun cdv A outer s H E RE hr => (dss_cons (ds_set (i := 3) sc_steps_of.nd rfl (de_lstO da_nil)) (dss_cons (ds_for (passes_of rfl) rfl (di_tup (de_var 2)) (dg_name (i := 4) sc_steps_of.nd rfl) (dss_cons (ds_if (dt_not (dt_tru (de_call (ok_is_like T) (hr.mono (by first | decide | (simp only [Nat.add_eq]; omega) | omega)) T.is_like.g T.is_like.F.kp T.is_like.b (da_cons (de_var 4) (da_cons (de_call (ok_deeds_of T) (hr.mono (by first | decide | (simp only [Nat.add_eq]; omega) | omega)) T.deeds_of.g T.deeds_of.F.kp T.deeds_of.b (da_cons (de_var 0) (da_cons (de_var 1) da_nil))) da_nil))))) (dss_one (ds_ret (de_var 3))) dss_nil) (dss_cons (ds_expr (de_append (de_var 3) (da_cons (de_call (ok_passed T) (hr.mono (by first | decide | (simp only [Nat.add_eq]; omega) | omega)) T.passed.g T.passed.F.kp T.passed.b (da_cons (de_var 0) (da_cons (de_var 1) (da_cons (de_var 4) da_nil)))) da_nil))) (dss_one (ds_set (i := 1) sc_steps_of.nd rfl (de_ix (de_ix (de_var 3) (de_neg de_int)) de_int)))))) (dss_one (ds_ret (de_var 3)))))) (fun ds R hl h => rd_steps_of ds R h)
theorem ok_fits_run (T : Txt K mg) : FnOk P w K mg base (L2.CX P w) 4 T.fits_run.f T.fits_run.fd ["plan", "value"] (liftF K w 2 F_fits_run) :=
  fn_P (t := t_fits_run) T.fits_run.F sc_fits_run (fun cdv A outer s H E RE hr => (dss_cons (ds_if (dt_w (dw_or (dt_not (dt_tru (de_isi T.n_isinstance (da_cons (de_var 1) (da_cons (de_type (by rfl) T.n_tuple boot_tuple) da_nil))))) (dw_or1 (dt_gt (de_len T.n_len (da_cons (de_var 1) da_nil)) (de_cst T.g_MOST_DEEDS))))) (dss_one (ds_ret de_bl)) dss_nil) (dss_one (ds_ret (de_eq (hu65 hr) (de_len T.n_len (da_cons (de_call (ok_steps_of T) (hr.mono (by first | decide | (simp only [Nat.add_eq]; omega) | omega)) T.steps_of.g T.steps_of.F.kp T.steps_of.b (da_cons (de_var 0) (da_cons (de_cst T.g_BEGIN) (da_cons (de_var 1) da_nil)))) da_nil)) (de_len T.n_len (da_cons (de_var 1) da_nil))))))) (fun ds R hl h => rd_fits_run ds R h)
theorem ok_is_run (T : Txt K mg) : FnOk P w K mg base (L2.CX P w) 5 T.is_run.f T.is_run.fd ["plan", "value"] (liftF K w 2 F_is_run) :=
  fn_P (t := t_is_run) T.is_run.F sc_is_run (fun cdv A outer s H E RE hr => (dss_cons (ds_expr (de_call (ok_look_at_plan T) (hr.mono (by first | decide | (simp only [Nat.add_eq]; omega) | omega)) T.look_at_plan.g T.look_at_plan.F.kp T.look_at_plan.b (da_cons (de_var 0) da_nil))) (dss_one (ds_ret (de_call (ok_fits_run T) (hr.mono (by first | decide | (simp only [Nat.add_eq]; omega) | omega)) T.fits_run.g T.fits_run.F.kp T.fits_run.b (da_cons (de_var 0) (da_cons (de_var 1) da_nil))))))) (fun ds R hl h => rd_is_run ds R h)
theorem ok_look_at_run (T : Txt K mg) : FnOk P w K mg base (L2.CX P w) 5 T.look_at_run.f T.look_at_run.fd ["plan", "run"] (liftF K w 2 F_look_at_run) :=
  fn_P (t := t_look_at_run) T.look_at_run.F sc_look_at_run (fun cdv A outer s H E RE hr => (dss_cons (ds_expr (de_call (ok_look_at_plan T) (hr.mono (by first | decide | (simp only [Nat.add_eq]; omega) | omega)) T.look_at_plan.g T.look_at_plan.F.kp T.look_at_plan.b (da_cons (de_var 0) da_nil))) (dss_one (ds_if (dt_not (dt_tru (de_call (ok_fits_run T) (hr.mono (by first | decide | (simp only [Nat.add_eq]; omega) | omega)) T.fits_run.g T.fits_run.F.kp T.fits_run.b (da_cons (de_var 0) (da_cons (de_var 1) da_nil))))) (dss_one ds_never) dss_nil)))) (fun ds R hl h => rd_look_at_run ds R h)
theorem ok_stand_behind (T : Txt K mg) : FnOk P w K mg base (L2.CX P w) 6 T.stand_behind.f T.stand_behind.fd ["plan", "run"] (liftF K w 2 F_stand_behind) :=
  fn_P (t := t_stand_behind) T.stand_behind.F sc_stand_behind (fun cdv A outer s H E RE hr => (dss_cons (ds_expr (de_call (ok_look_at_run T) (hr.mono (by first | decide | (simp only [Nat.add_eq]; omega) | omega)) T.look_at_run.g T.look_at_run.F.kp T.look_at_run.b (da_cons (de_var 0) (da_cons (de_var 1) da_nil)))) (dss_one (ds_ret (de_ix (de_ix (de_add (de_lst (da_cons (de_tup (da_cons (de_cst T.g_BEGIN) (da_cons de_str (da_cons de_int da_nil)))) da_nil)) (de_call (ok_steps_of T) (hr.mono (by first | decide | (simp only [Nat.add_eq]; omega) | omega)) T.steps_of.g T.steps_of.F.kp T.steps_of.b (da_cons (de_var 0) (da_cons (de_cst T.g_BEGIN) (da_cons (de_var 1) da_nil))))) (de_neg de_int)) de_int))))) (fun ds R hl h => rd_stand_behind ds R h)
theorem ok_told (T : Txt K mg) : FnOk P w K mg base (L2.CX P w) 6 T.told.f T.told.fd ["plan", "stand", "deed"] (liftF K w 3 F_told) :=
  fn_P (t := t_told) T.told.F sc_told (fun cdv A outer s H E RE hr => (dss_cons (ds_expr (de_call (ok_look_at_deed T) (hr.mono (by first | decide | (simp only [Nat.add_eq]; omega) | omega)) T.look_at_deed.g T.look_at_deed.F.kp T.look_at_deed.b (da_cons (de_var 0) (da_cons (de_var 1) (da_cons (de_var 2) da_nil))))) (dss_one (ds_ret (de_ix (de_call (ok_passed T) (hr.mono (by first | decide | (simp only [Nat.add_eq]; omega) | omega)) T.passed.g T.passed.F.kp T.passed.b (da_cons (de_var 0) (da_cons (de_var 1) (da_cons (de_var 2) da_nil)))) de_int))))) (fun ds R hl h => rd_told ds R h)
theorem ok_unpaid (T : Txt K mg) : FnOk P w K mg base (L2.CX P w) 6 T.unpaid.f T.unpaid.fd ["plan", "run"] (liftF K w 2 F_unpaid) :=
  fn_P (t := t_unpaid) T.unpaid.F sc_unpaid (fun cdv A outer s H E RE hr => (dss_cons (ds_expr (de_call (ok_look_at_run T) (hr.mono (by first | decide | (simp only [Nat.add_eq]; omega) | omega)) T.look_at_run.g T.look_at_run.F.kp T.look_at_run.b (da_cons (de_var 0) (da_cons (de_var 1) da_nil)))) (dss_one (ds_ret (de_sum T.n_sum (da_cons (de_lc (own := [("stand", 2), ("word", 3), ("weight", 4)]) rfl sc_unpaid.nd (di_list (de_call (ok_steps_of T) (hr.mono (by first | decide | (simp only [Nat.add_eq]; omega) | omega)) T.steps_of.g T.steps_of.F.kp T.steps_of.b (da_cons (de_var 0) (da_cons (de_cst T.g_BEGIN) (da_cons (de_var 1) da_nil))))) (blkOk_by (N := N_unpaid) (sc := defScope s_unpaid) (by decide +kernel)) (fun _ _ _ _ _ => pg_tup rfl (pgs_cons (pg_name (i := 2) sc_unpaid.nd rfl (Or.inl rfl)) (pgs_cons (pg_name (i := 3) sc_unpaid.nd rfl (Or.inl rfl)) (pgs_cons (pg_name (i := 4) sc_unpaid.nd rfl (Or.inl rfl)) pgs_nil)))) (tgcN (is := [2, 3, 4]) rfl (by decide)) (fun _ _ _ _ _ => dts_nil) (fun _ _ _ _ _ => (de_var 4))) da_nil)))))) (fun ds R hl h => rd_unpaid ds R h)
theorem ok_words (T : Txt K mg) : FnOk P w K mg base (L2.CX P w) 6 T.words.f T.words.fd ["plan", "run"] (liftF K w 2 F_words) :=
  fn_P (t := t_words) T.words.F sc_words (fun cdv A outer s H E RE hr => (dss_cons (ds_expr (de_call (ok_look_at_run T) (hr.mono (by first | decide | (simp only [Nat.add_eq]; omega) | omega)) T.look_at_run.g T.look_at_run.F.kp T.look_at_run.b (da_cons (de_var 0) (da_cons (de_var 1) da_nil)))) (dss_one (ds_ret (de_lc (own := [("stand", 2), ("word", 3), ("weight", 4)]) rfl sc_words.nd (di_list (de_call (ok_steps_of T) (hr.mono (by first | decide | (simp only [Nat.add_eq]; omega) | omega)) T.steps_of.g T.steps_of.F.kp T.steps_of.b (da_cons (de_var 0) (da_cons (de_cst T.g_BEGIN) (da_cons (de_var 1) da_nil))))) (blkOk_by (N := N_words) (sc := defScope s_words) (by decide +kernel)) (fun _ _ _ _ _ => pg_tup rfl (pgs_cons (pg_name (i := 2) sc_words.nd rfl (Or.inl rfl)) (pgs_cons (pg_name (i := 3) sc_words.nd rfl (Or.inl rfl)) (pgs_cons (pg_name (i := 4) sc_words.nd rfl (Or.inl rfl)) pgs_nil)))) (tgcN (is := [2, 3, 4]) rfl (by decide)) (fun _ _ _ _ _ => dts_nil) (fun _ _ _ _ _ => (de_var 3))))))) (fun ds R hl h => rd_words ds R h)
theorem ok_law (T : Txt K mg) : FnOk P w K mg base (L2.CX P w) 12 T.law.f T.law.fd ["script"] (liftF K w 1 F_law) :=
  fn_P (t := t_law) T.law.F sc_law (fun cdv A outer s H E RE hr => (dss_cons (ds_for (passes_of rfl) rfl (di_range1 T.n_range (da_cons (de_add (de_min2 rfl T.n_min (da_cons (de_len T.n_len (da_cons (de_var 0) da_nil)) (da_cons de_int da_nil))) de_int) da_nil)) (dg_name (i := 1) sc_law.nd rfl) (dss_cons (ds_set (i := 2) sc_law.nd rfl (de_callN (ok_law_spring T) (hr.mono (by first | decide | (simp only [Nat.add_eq]; omega) | omega)) T.law_spring.g T.law_spring.F.kp T.law_spring.b (da_cons (de_var 0) (da_cons (de_var 1) da_nil)))) (dss_cons (ds_asg (de_tup (da_cons (de_callM (ok_law_plan T) (hr.mono (by first | decide | (simp only [Nat.add_eq]; omega) | omega)) T.law_plan.g T.law_plan.F.kp T.law_plan.b (da_cons (de_var 2) da_nil)) (da_cons (de_tup da_nil) (da_cons (de_lst da_nil) (da_cons de_int da_nil))))) (dg_tup rfl (dgs_cons (dg_name (i := 3) sc_law.nd rfl) (dgs_cons (dg_name (i := 4) sc_law.nd rfl) (dgs_cons (dg_name (i := 5) sc_law.nd rfl) (dgs_cons (dg_name (i := 6) sc_law.nd rfl) dgs_nil)))))) (dss_cons (ds_par (i := 7) (j := 8) rfl sc_law.nd rfl rfl (by decide) rfl rfl (da_cons (de_call0 (ok_law_begin T) (hr.mono (by first | decide | (simp only [Nat.add_eq]; omega) | omega)) T.law_begin.g T.law_begin.F.kp T.law_begin.b) (da_cons (de_ix (de_lst (da_cons de_int (da_cons de_int (da_cons de_int da_nil)))) (de_callM (ok_law_pick T) (hr.mono (by first | decide | (simp only [Nat.add_eq]; omega) | omega)) T.law_pick.g T.law_pick.F.kp T.law_pick.b (da_cons (de_var 2) (da_cons de_int da_nil)))) da_nil)) (by rfl)) (dss_cons (ds_for (passes_of rfl) rfl (di_range1 T.n_range (da_cons (de_callM (ok_law_pick T) (hr.mono (by first | decide | (simp only [Nat.add_eq]; omega) | omega)) T.law_pick.g T.law_pick.F.kp T.law_pick.b (da_cons (de_var 2) (da_cons (de_add (de_var 8) de_int) da_nil))) da_nil)) (dg_name (i := 9) sc_law.nd rfl) (dss_cons (ds_set (i := 10) sc_law.nd rfl (de_call (ok_law_deeds T) (hr.mono (by first | decide | (simp only [Nat.add_eq]; omega) | omega)) T.law_deeds.g T.law_deeds.F.kp T.law_deeds.b (da_cons (de_var 3) (da_cons (de_var 7) da_nil)))) (dss_cons (ds_setLc (i := 11) (own := [("deed", 12)]) rfl sc_law.nd rfl rfl (sw_true rfl rfl rfl (by decide +kernel)) (di_list (de_var 10)) (blkOk_by (N := N_law) (sc := defScope s_law) (by decide +kernel)) (fun _ _ _ _ _ => pg_name (i := 12) sc_law.nd rfl (Or.inl rfl)) (tgc1 (by decide)) (fun _ _ _ _ _ => dts_one (dt_eq (hu65 hr) (de_ix (de_var 12) de_int) de_str)) (fun _ _ _ _ _ => (de_var 12))) (dss_cons (ds_set (i := 12) sc_law.nd rfl (de_ix (de_var 10) (de_callM (ok_law_pick T) (hr.mono (by first | decide | (simp only [Nat.add_eq]; omega) | omega)) T.law_pick.g T.law_pick.F.kp T.law_pick.b (da_cons (de_var 2) (da_cons (de_len T.n_len (da_cons (de_var 10) da_nil)) da_nil))))) (dss_cons (ds_if (dt_w (dw_and (dt_ne (hu65 hr) (de_var 11) (de_lst da_nil)) (dw_and1 (dt_eq (hu65 hr) (de_callM (ok_law_pick T) (hr.mono (by first | decide | (simp only [Nat.add_eq]; omega) | omega)) T.law_pick.g T.law_pick.F.kp T.law_pick.b (da_cons (de_var 2) (da_cons de_int da_nil))) de_int)))) (dss_one (ds_set (i := 12) sc_law.nd rfl (de_ix (de_var 11) (de_callM (ok_law_pick T) (hr.mono (by first | decide | (simp only [Nat.add_eq]; omega) | omega)) T.law_pick.g T.law_pick.F.kp T.law_pick.b (da_cons (de_var 2) (da_cons (de_len T.n_len (da_cons (de_var 11) da_nil)) da_nil)))))) dss_nil) (dss_cons (ds_asg (de_call (ok_law_done T) (hr.mono (by first | decide | (simp only [Nat.add_eq]; omega) | omega)) T.law_done.g T.law_done.F.kp T.law_done.b (da_cons (de_var 3) (da_cons (de_var 7) (da_cons (de_var 12) da_nil)))) (dg_tup rfl (dgs_cons (dg_name (i := 13) sc_law.nd rfl) (dgs_cons (dg_name (i := 14) sc_law.nd rfl) (dgs_cons (dg_name (i := 15) sc_law.nd rfl) dgs_nil))))) (dss_cons (ds_if (dt_not (dt_tru (de_call (ok_law_twins T 10) (hr.mono (by first | decide | (simp only [Nat.add_eq]; omega) | omega)) T.law_twins.g T.law_twins.F.kp T.law_twins.b (da_cons (de_lst (da_cons (de_call (ok_deeds_at T) (hr.mono (by first | decide | (simp only [Nat.add_eq]; omega) | omega)) T.deeds_at.g T.deeds_at.F.kp T.deeds_at.b (da_cons (de_var 3) (da_cons (de_var 7) da_nil))) (da_cons (de_call (ok_after T) (hr.mono (by first | decide | (simp only [Nat.add_eq]; omega) | omega)) T.after.g T.after.F.kp T.after.b (da_cons (de_var 3) (da_cons (de_var 7) (da_cons (de_var 12) da_nil)))) da_nil))) (da_cons (de_lst (da_cons (de_var 10) (da_cons (de_var 13) da_nil))) da_nil))))) (dss_one (ds_ret de_bl)) dss_nil) (dss_cons (ds_if (dt_not (dt_tru (de_call (ok_law_twins T 10) (hr.mono (by first | decide | (simp only [Nat.add_eq]; omega) | omega)) T.law_twins.g T.law_twins.F.kp T.law_twins.b (da_cons (de_call (ok_told T) (hr.mono (by first | decide | (simp only [Nat.add_eq]; omega) | omega)) T.told.g T.told.F.kp T.told.b (da_cons (de_var 3) (da_cons (de_var 7) (da_cons (de_var 12) da_nil)))) (da_cons (de_var 14) da_nil))))) (dss_one (ds_ret de_bl)) dss_nil) (dss_cons (ds_par (i := 4) (j := 7) rfl sc_law.nd rfl rfl (by decide) rfl rfl (da_cons (de_add (de_var 4) (de_tup (da_cons (de_var 12) da_nil))) (da_cons (de_var 13) da_nil)) (by rfl)) (dss_one (ds_par (i := 5) (j := 6) rfl sc_law.nd rfl rfl (by decide) rfl rfl (da_cons (de_add (de_var 5) (de_lst (da_cons (de_var 14) da_nil))) (da_cons (de_add (de_var 6) (de_var 15)) da_nil)) (by rfl)))))))))))) (dss_cons (ds_if (dt_not (dt_tru (de_call (ok_law_twins T 10) (hr.mono (by first | decide | (simp only [Nat.add_eq]; omega) | omega)) T.law_twins.g T.law_twins.F.kp T.law_twins.b (da_cons (de_lst (da_cons (de_call (ok_is_run T) (hr.mono (by first | decide | (simp only [Nat.add_eq]; omega) | omega)) T.is_run.g T.is_run.F.kp T.is_run.b (da_cons (de_var 3) (da_cons (de_var 4) da_nil))) (da_cons (de_call (ok_stand_behind T) (hr.mono (by first | decide | (simp only [Nat.add_eq]; omega) | omega)) T.stand_behind.g T.stand_behind.F.kp T.stand_behind.b (da_cons (de_var 3) (da_cons (de_var 4) da_nil))) da_nil))) (da_cons (de_lst (da_cons de_bl (da_cons (de_var 7) da_nil))) da_nil))))) (dss_one (ds_ret de_bl)) dss_nil) (dss_cons (ds_if (dt_not (dt_tru (de_call (ok_law_twins T 10) (hr.mono (by first | decide | (simp only [Nat.add_eq]; omega) | omega)) T.law_twins.g T.law_twins.F.kp T.law_twins.b (da_cons (de_lst (da_cons (de_call (ok_words T) (hr.mono (by first | decide | (simp only [Nat.add_eq]; omega) | omega)) T.words.g T.words.F.kp T.words.b (da_cons (de_var 3) (da_cons (de_var 4) da_nil))) (da_cons (de_call (ok_unpaid T) (hr.mono (by first | decide | (simp only [Nat.add_eq]; omega) | omega)) T.unpaid.g T.unpaid.F.kp T.unpaid.b (da_cons (de_var 3) (da_cons (de_var 4) da_nil))) da_nil))) (da_cons (de_lst (da_cons (de_var 5) (da_cons (de_var 6) da_nil))) da_nil))))) (dss_one (ds_ret de_bl)) dss_nil) (dss_cons (ds_set (i := 16) sc_law.nd rfl (de_lst (da_cons (de_tup (da_cons de_str da_nil)) (da_cons (de_tup (da_cons de_str da_nil)) (da_cons (de_tup (da_cons de_str (da_cons de_int da_nil))) (da_cons (de_tup (da_cons de_str (da_cons de_int da_nil))) (da_cons (de_tup (da_cons de_str (da_cons de_int da_nil))) (da_cons (de_tup (da_cons de_str (da_cons de_int da_nil))) (da_cons (de_tup (da_cons de_str (da_cons de_bl da_nil))) (da_cons (de_tup (da_cons de_str da_nil)) da_nil)))))))))) (dss_one (ds_for (passes_of rfl) rfl (di_list (de_add (de_var 16) (de_lst (da_cons (de_tup (da_cons de_str (da_cons de_int da_nil))) (da_cons (de_lst (da_cons de_str da_nil)) (da_cons (de_tup da_nil) (da_cons de_non (da_cons de_str (da_cons (de_tup (da_cons de_str da_nil)) da_nil))))))))) (dg_name (i := 17) sc_law.nd rfl) (dss_cons (ds_set (i := 18) sc_law.nd rfl (de_ne (hu65 hr) (de_lc (own := [("row", 19)]) rfl sc_law.nd (di_list (de_call (ok_law_deeds T) (hr.mono (by first | decide | (simp only [Nat.add_eq]; omega) | omega)) T.law_deeds.g T.law_deeds.F.kp T.law_deeds.b (da_cons (de_var 3) (da_cons (de_var 7) da_nil)))) (blkOk_by (N := N_law) (sc := defScope s_law) (by decide +kernel)) (fun _ _ _ _ _ => pg_name (i := 19) sc_law.nd rfl (Or.inl rfl)) (tgc1 (by decide)) (fun _ _ _ _ _ => dts_one (dt_tru (de_call (ok_law_twins T 10) (hr.mono (by first | decide | (simp only [Nat.add_eq]; omega) | omega)) T.law_twins.g T.law_twins.F.kp T.law_twins.b (da_cons (de_var 19) (da_cons (de_var 17) da_nil))))) (fun _ _ _ _ _ => (de_var 19))) (de_lst da_nil))) (dss_one (ds_if (dt_not (dt_tru (de_call (ok_law_twins T 10) (hr.mono (by first | decide | (simp only [Nat.add_eq]; omega) | omega)) T.law_twins.g T.law_twins.F.kp T.law_twins.b (da_cons (de_call (ok_is_run T) (hr.mono (by first | decide | (simp only [Nat.add_eq]; omega) | omega)) T.is_run.g T.is_run.F.kp T.is_run.b (da_cons (de_var 3) (da_cons (de_add (de_var 4) (de_tup (da_cons (de_var 17) da_nil))) da_nil))) (da_cons (de_and (de_var 18) (de_and1 (de_lt (de_len T.n_len (da_cons (de_var 4) da_nil)) de_int))) da_nil))))) (dss_one (ds_ret de_bl)) dss_nil))))))))))))) (dss_one (ds_ret de_bl)))) (fun ds R hl h => rd_law_k02 ds R h)
end

end L2.DL

set_option Elab.async false
set_option linter.all false
set_option maxRecDepth 100000
set_option maxHeartbeats 4000000
namespace L2.DL
open PySem PySem.Spec PyProof.Rows
section
/-- a def as the top has written it -/
theorem funAt_of {K : PySem.W.Frag} {h : Heap} {mg : Str → Option Value} (X : K.In h) (Gn : h.Ns mainGlobals mg) {x : Str} {st : Stmt} {ps : List Str} {f : Addr} {oc : Value} {od an : Option Addr} {osl : Array (Option Value)} {kV doc pm cdv ct : Value} (a : PySem.W.nsIn K mainGlobals x = some (some (.ref f)))
    (l : K.lookup f = some ⟨oc, od, .func (PySem.W.fnOf x x (defArgs st) (defBody st) (defScope st) .none kV doc pm an cdv ct), osl⟩) (c : PySem.W.codeIn K cdv x = true) (k : PySem.W.keepIn K (.ref f) = true)
    (hb : ∀ (kV doc pm : Value) (an : Option Addr) (cdv ct : Value) (us : List Value), us.length = ps.length → bindArgs (PySem.W.fnOf x x (defArgs st) (defBody st) (defScope st) .none kV doc pm an cdv ct) ⟨us, []⟩ = pure (ps.zip us)) :
    ∃ F : FunAt K mg x st ps, F.f = f ∧ F.fd = PySem.W.fnOf x x (defArgs st) (defBody st) (defScope st) .none kV doc pm an cdv ct :=
  ⟨⟨f, _, fun_mk l c k, PySem.W.mg_of X Gn a, (fun_mk l c k).binds hb⟩, rfl, rfl⟩
theorem all_mk {l : PySem.W.OpenLaw} {w : World} {K : PySem.W.Frag} {h : Heap} {mg : Str → Option Value} {fa : Addr} (X : K.In h) (Gn : h.Ns mainGlobals mg) (hfa : mg "law" = some (.ref fa))
    {f0 f1 f2 f3 f4 f5 f6 f7 f8 f9 f10 f11 f12 f13 f14 f15 f16 f17 f18 f19 f20 f21 f22 f23 f24 f25 f26 f27 f28 f29 f30 f31 : Addr} {od0 an0 od1 an1 od2 an2 od3 an3 od4 an4 od5 an5 od6 an6 od7 an7 od8 an8 od9 an9 od10 an10 od11 an11 od12 an12 od13 an13 od14 an14 od15 an15 od16 an16 od17 an17 od18 an18 od19 an19 od20 an20 od21 an21 od22 an22 od23 an23 od24 an24 od25 an25 od26 an26 od27 an27 od28 an28 od29 an29 od30 an30 od31 an31 : Option Addr} {sl0 sl1 sl2 sl3 sl4 sl5 sl6 sl7 sl8 sl9 sl10 sl11 sl12 sl13 sl14 sl15 sl16 sl17 sl18 sl19 sl20 sl21 sl22 sl23 sl24 sl25 sl26 sl27 sl28 sl29 sl30 sl31 : Array (Option Value)} {oc0 kV0 dc0 pm0 cd0 ct0 oc1 kV1 dc1 pm1 cd1 ct1 oc2 kV2 dc2 pm2 cd2 ct2 oc3 kV3 dc3 pm3 cd3 ct3 oc4 kV4 dc4 pm4 cd4 ct4 oc5 kV5 dc5 pm5 cd5 ct5 oc6 kV6 dc6 pm6 cd6 ct6 oc7 kV7 dc7 pm7 cd7 ct7 oc8 kV8 dc8 pm8 cd8 ct8 oc9 kV9 dc9 pm9 cd9 ct9 oc10 kV10 dc10 pm10 cd10 ct10 oc11 kV11 dc11 pm11 cd11 ct11 oc12 kV12 dc12 pm12 cd12 ct12 oc13 kV13 dc13 pm13 cd13 ct13 oc14 kV14 dc14 pm14 cd14 ct14 oc15 kV15 dc15 pm15 cd15 ct15 oc16 kV16 dc16 pm16 cd16 ct16 oc17 kV17 dc17 pm17 cd17 ct17 oc18 kV18 dc18 pm18 cd18 ct18 oc19 kV19 dc19 pm19 cd19 ct19 oc20 kV20 dc20 pm20 cd20 ct20 oc21 kV21 dc21 pm21 cd21 ct21 oc22 kV22 dc22 pm22 cd22 ct22 oc23 kV23 dc23 pm23 cd23 ct23 oc24 kV24 dc24 pm24 cd24 ct24 oc25 kV25 dc25 pm25 cd25 ct25 oc26 kV26 dc26 pm26 cd26 ct26 oc27 kV27 dc27 pm27 cd27 ct27 oc28 kV28 dc28 pm28 cd28 ct28 oc29 kV29 dc29 pm29 cd29 ct29 oc30 kV30 dc30 pm30 cd30 ct30 oc31 kV31 dc31 pm31 cd31 ct31 : Value}
    {pB : Addr} {odB : Option Addr} {tB1 tB2 tB3 tB4 : Tok} {nB : Nat} {slB : Array (Option Value)}
    {tF : Tok}
    {pG : Addr} {odG : Option Addr} {tG1 tG2 tG3 : Tok} {nG : Nat} {slG : Array (Option Value)}
    {pL : Addr} {odL : Option Addr} {tL1 tL2 tL3 tL4 : Tok} {nL : Nat} {slL : Array (Option Value)}
    {tM : Tok}
    {pW : Addr} {odW : Option Addr} {tW1 tW2 : Tok} {nW : Nat} {slW : Array (Option Value)}
    (a0 : PySem.W.nsIn K mainGlobals "_law_begin" = some (some (.ref f0))) (l0 : K.lookup f0 = some ⟨oc0, od0, .func (PySem.W.fnOf "_law_begin" "_law_begin" (defArgs s_law_begin) (defBody s_law_begin) (defScope s_law_begin) .none kV0 dc0 pm0 an0 cd0 ct0), sl0⟩) (c0 : PySem.W.codeIn K cd0 "_law_begin" = true) (k0 : PySem.W.keepIn K (.ref f0) = true)
    (a1 : PySem.W.nsIn K mainGlobals "_law_deeds" = some (some (.ref f1))) (l1 : K.lookup f1 = some ⟨oc1, od1, .func (PySem.W.fnOf "_law_deeds" "_law_deeds" (defArgs s_law_deeds) (defBody s_law_deeds) (defScope s_law_deeds) .none kV1 dc1 pm1 an1 cd1 ct1), sl1⟩) (c1 : PySem.W.codeIn K cd1 "_law_deeds" = true) (k1 : PySem.W.keepIn K (.ref f1) = true)
    (a2 : PySem.W.nsIn K mainGlobals "_law_done" = some (some (.ref f2))) (l2 : K.lookup f2 = some ⟨oc2, od2, .func (PySem.W.fnOf "_law_done" "_law_done" (defArgs s_law_done) (defBody s_law_done) (defScope s_law_done) .none kV2 dc2 pm2 an2 cd2 ct2), sl2⟩) (c2 : PySem.W.codeIn K cd2 "_law_done" = true) (k2 : PySem.W.keepIn K (.ref f2) = true)
    (a3 : PySem.W.nsIn K mainGlobals "_law_pick" = some (some (.ref f3))) (l3 : K.lookup f3 = some ⟨oc3, od3, .func (PySem.W.fnOf "_law_pick" "_law_pick" (defArgs s_law_pick) (defBody s_law_pick) (defScope s_law_pick) .none kV3 dc3 pm3 an3 cd3 ct3), sl3⟩) (c3 : PySem.W.codeIn K cd3 "_law_pick" = true) (k3 : PySem.W.keepIn K (.ref f3) = true)
    (a4 : PySem.W.nsIn K mainGlobals "_law_program" = some (some (.ref f4))) (l4 : K.lookup f4 = some ⟨oc4, od4, .func (PySem.W.fnOf "_law_program" "_law_program" (defArgs s_law_program) (defBody s_law_program) (defScope s_law_program) .none kV4 dc4 pm4 an4 cd4 ct4), sl4⟩) (c4 : PySem.W.codeIn K cd4 "_law_program" = true) (k4 : PySem.W.keepIn K (.ref f4) = true)
    (a5 : PySem.W.nsIn K mainGlobals "_law_plan" = some (some (.ref f5))) (l5 : K.lookup f5 = some ⟨oc5, od5, .func (PySem.W.fnOf "_law_plan" "_law_plan" (defArgs s_law_plan) (defBody s_law_plan) (defScope s_law_plan) .none kV5 dc5 pm5 an5 cd5 ct5), sl5⟩) (c5 : PySem.W.codeIn K cd5 "_law_plan" = true) (k5 : PySem.W.keepIn K (.ref f5) = true)
    (a6 : PySem.W.nsIn K mainGlobals "_law_spring" = some (some (.ref f6))) (l6 : K.lookup f6 = some ⟨oc6, od6, .func (PySem.W.fnOf "_law_spring" "_law_spring" (defArgs s_law_spring) (defBody s_law_spring) (defScope s_law_spring) .none kV6 dc6 pm6 an6 cd6 ct6), sl6⟩) (c6 : PySem.W.codeIn K cd6 "_law_spring" = true) (k6 : PySem.W.keepIn K (.ref f6) = true)
    (a7 : PySem.W.nsIn K mainGlobals "_law_kind" = some (some (.ref f7))) (l7 : K.lookup f7 = some ⟨oc7, od7, .func (PySem.W.fnOf "_law_kind" "_law_kind" (defArgs s_law_kind) (defBody s_law_kind) (defScope s_law_kind) .none kV7 dc7 pm7 an7 cd7 ct7), sl7⟩) (c7 : PySem.W.codeIn K cd7 "_law_kind" = true) (k7 : PySem.W.keepIn K (.ref f7) = true)
    (a8 : PySem.W.nsIn K mainGlobals "_law_twins" = some (some (.ref f8))) (l8 : K.lookup f8 = some ⟨oc8, od8, .func (PySem.W.fnOf "_law_twins" "_law_twins" (defArgs s_law_twins) (defBody s_law_twins) (defScope s_law_twins) .none kV8 dc8 pm8 an8 cd8 ct8), sl8⟩) (c8 : PySem.W.codeIn K cd8 "_law_twins" = true) (k8 : PySem.W.keepIn K (.ref f8) = true)
    (a9 : PySem.W.nsIn K mainGlobals "deeds_of" = some (some (.ref f9))) (l9 : K.lookup f9 = some ⟨oc9, od9, .func (PySem.W.fnOf "deeds_of" "deeds_of" (defArgs s_deeds_of) (defBody s_deeds_of) (defScope s_deeds_of) .none kV9 dc9 pm9 an9 cd9 ct9), sl9⟩) (c9 : PySem.W.codeIn K cd9 "deeds_of" = true) (k9 : PySem.W.keepIn K (.ref f9) = true)
    (a10 : PySem.W.nsIn K mainGlobals "is_within" = some (some (.ref f10))) (l10 : K.lookup f10 = some ⟨oc10, od10, .func (PySem.W.fnOf "is_within" "is_within" (defArgs s_is_within) (defBody s_is_within) (defScope s_is_within) .none kV10 dc10 pm10 an10 cd10 ct10), sl10⟩) (c10 : PySem.W.codeIn K cd10 "is_within" = true) (k10 : PySem.W.keepIn K (.ref f10) = true)
    (a11 : PySem.W.nsIn K mainGlobals "is_like" = some (some (.ref f11))) (l11 : K.lookup f11 = some ⟨oc11, od11, .func (PySem.W.fnOf "is_like" "is_like" (defArgs s_is_like) (defBody s_is_like) (defScope s_is_like) .none kV11 dc11 pm11 an11 cd11 ct11), sl11⟩) (c11 : PySem.W.codeIn K cd11 "is_like" = true) (k11 : PySem.W.keepIn K (.ref f11) = true)
    (a12 : PySem.W.nsIn K mainGlobals "is_row" = some (some (.ref f12))) (l12 : K.lookup f12 = some ⟨oc12, od12, .func (PySem.W.fnOf "is_row" "is_row" (defArgs s_is_row) (defBody s_is_row) (defScope s_is_row) .none kV12 dc12 pm12 an12 cd12 ct12), sl12⟩) (c12 : PySem.W.codeIn K cd12 "is_row" = true) (k12 : PySem.W.keepIn K (.ref f12) = true)
    (a13 : PySem.W.nsIn K mainGlobals "is_program" = some (some (.ref f13))) (l13 : K.lookup f13 = some ⟨oc13, od13, .func (PySem.W.fnOf "is_program" "is_program" (defArgs s_is_program) (defBody s_is_program) (defScope s_is_program) .none kV13 dc13 pm13 an13 cd13 ct13), sl13⟩) (c13 : PySem.W.codeIn K cd13 "is_program" = true) (k13 : PySem.W.keepIn K (.ref f13) = true)
    (a14 : PySem.W.nsIn K mainGlobals "is_plan" = some (some (.ref f14))) (l14 : K.lookup f14 = some ⟨oc14, od14, .func (PySem.W.fnOf "is_plan" "is_plan" (defArgs s_is_plan) (defBody s_is_plan) (defScope s_is_plan) .none kV14 dc14 pm14 an14 cd14 ct14), sl14⟩) (c14 : PySem.W.codeIn K cd14 "is_plan" = true) (k14 : PySem.W.keepIn K (.ref f14) = true)
    (a15 : PySem.W.nsIn K mainGlobals "look_at_plan" = some (some (.ref f15))) (l15 : K.lookup f15 = some ⟨oc15, od15, .func (PySem.W.fnOf "look_at_plan" "look_at_plan" (defArgs s_look_at_plan) (defBody s_look_at_plan) (defScope s_look_at_plan) .none kV15 dc15 pm15 an15 cd15 ct15), sl15⟩) (c15 : PySem.W.codeIn K cd15 "look_at_plan" = true) (k15 : PySem.W.keepIn K (.ref f15) = true)
    (a16 : PySem.W.nsIn K mainGlobals "fits" = some (some (.ref f16))) (l16 : K.lookup f16 = some ⟨oc16, od16, .func (PySem.W.fnOf "fits" "fits" (defArgs s_fits) (defBody s_fits) (defScope s_fits) .none kV16 dc16 pm16 an16 cd16 ct16), sl16⟩) (c16 : PySem.W.codeIn K cd16 "fits" = true) (k16 : PySem.W.keepIn K (.ref f16) = true)
    (a17 : PySem.W.nsIn K mainGlobals "look_at_stand" = some (some (.ref f17))) (l17 : K.lookup f17 = some ⟨oc17, od17, .func (PySem.W.fnOf "look_at_stand" "look_at_stand" (defArgs s_look_at_stand) (defBody s_look_at_stand) (defScope s_look_at_stand) .none kV17 dc17 pm17 an17 cd17 ct17), sl17⟩) (c17 : PySem.W.codeIn K cd17 "look_at_stand" = true) (k17 : PySem.W.keepIn K (.ref f17) = true)
    (a18 : PySem.W.nsIn K mainGlobals "look_at_deed" = some (some (.ref f18))) (l18 : K.lookup f18 = some ⟨oc18, od18, .func (PySem.W.fnOf "look_at_deed" "look_at_deed" (defArgs s_look_at_deed) (defBody s_look_at_deed) (defScope s_look_at_deed) .none kV18 dc18 pm18 an18 cd18 ct18), sl18⟩) (c18 : PySem.W.codeIn K cd18 "look_at_deed" = true) (k18 : PySem.W.keepIn K (.ref f18) = true)
    (a19 : PySem.W.nsIn K mainGlobals "growth" = some (some (.ref f19))) (l19 : K.lookup f19 = some ⟨oc19, od19, .func (PySem.W.fnOf "growth" "growth" (defArgs s_growth) (defBody s_growth) (defScope s_growth) .none kV19 dc19 pm19 an19 cd19 ct19), sl19⟩) (c19 : PySem.W.codeIn K cd19 "growth" = true) (k19 : PySem.W.keepIn K (.ref f19) = true)
    (a20 : PySem.W.nsIn K mainGlobals "passed" = some (some (.ref f20))) (l20 : K.lookup f20 = some ⟨oc20, od20, .func (PySem.W.fnOf "passed" "passed" (defArgs s_passed) (defBody s_passed) (defScope s_passed) .none kV20 dc20 pm20 an20 cd20 ct20), sl20⟩) (c20 : PySem.W.codeIn K cd20 "passed" = true) (k20 : PySem.W.keepIn K (.ref f20) = true)
    (a21 : PySem.W.nsIn K mainGlobals "after" = some (some (.ref f21))) (l21 : K.lookup f21 = some ⟨oc21, od21, .func (PySem.W.fnOf "after" "after" (defArgs s_after) (defBody s_after) (defScope s_after) .none kV21 dc21 pm21 an21 cd21 ct21), sl21⟩) (c21 : PySem.W.codeIn K cd21 "after" = true) (k21 : PySem.W.keepIn K (.ref f21) = true)
    (a22 : PySem.W.nsIn K mainGlobals "deeds_at" = some (some (.ref f22))) (l22 : K.lookup f22 = some ⟨oc22, od22, .func (PySem.W.fnOf "deeds_at" "deeds_at" (defArgs s_deeds_at) (defBody s_deeds_at) (defScope s_deeds_at) .none kV22 dc22 pm22 an22 cd22 ct22), sl22⟩) (c22 : PySem.W.codeIn K cd22 "deeds_at" = true) (k22 : PySem.W.keepIn K (.ref f22) = true)
    (a23 : PySem.W.nsIn K mainGlobals "steps_of" = some (some (.ref f23))) (l23 : K.lookup f23 = some ⟨oc23, od23, .func (PySem.W.fnOf "steps_of" "steps_of" (defArgs s_steps_of) (defBody s_steps_of) (defScope s_steps_of) .none kV23 dc23 pm23 an23 cd23 ct23), sl23⟩) (c23 : PySem.W.codeIn K cd23 "steps_of" = true) (k23 : PySem.W.keepIn K (.ref f23) = true)
    (a24 : PySem.W.nsIn K mainGlobals "fits_run" = some (some (.ref f24))) (l24 : K.lookup f24 = some ⟨oc24, od24, .func (PySem.W.fnOf "fits_run" "fits_run" (defArgs s_fits_run) (defBody s_fits_run) (defScope s_fits_run) .none kV24 dc24 pm24 an24 cd24 ct24), sl24⟩) (c24 : PySem.W.codeIn K cd24 "fits_run" = true) (k24 : PySem.W.keepIn K (.ref f24) = true)
    (a25 : PySem.W.nsIn K mainGlobals "is_run" = some (some (.ref f25))) (l25 : K.lookup f25 = some ⟨oc25, od25, .func (PySem.W.fnOf "is_run" "is_run" (defArgs s_is_run) (defBody s_is_run) (defScope s_is_run) .none kV25 dc25 pm25 an25 cd25 ct25), sl25⟩) (c25 : PySem.W.codeIn K cd25 "is_run" = true) (k25 : PySem.W.keepIn K (.ref f25) = true)
    (a26 : PySem.W.nsIn K mainGlobals "look_at_run" = some (some (.ref f26))) (l26 : K.lookup f26 = some ⟨oc26, od26, .func (PySem.W.fnOf "look_at_run" "look_at_run" (defArgs s_look_at_run) (defBody s_look_at_run) (defScope s_look_at_run) .none kV26 dc26 pm26 an26 cd26 ct26), sl26⟩) (c26 : PySem.W.codeIn K cd26 "look_at_run" = true) (k26 : PySem.W.keepIn K (.ref f26) = true)
    (a27 : PySem.W.nsIn K mainGlobals "stand_behind" = some (some (.ref f27))) (l27 : K.lookup f27 = some ⟨oc27, od27, .func (PySem.W.fnOf "stand_behind" "stand_behind" (defArgs s_stand_behind) (defBody s_stand_behind) (defScope s_stand_behind) .none kV27 dc27 pm27 an27 cd27 ct27), sl27⟩) (c27 : PySem.W.codeIn K cd27 "stand_behind" = true) (k27 : PySem.W.keepIn K (.ref f27) = true)
    (a28 : PySem.W.nsIn K mainGlobals "told" = some (some (.ref f28))) (l28 : K.lookup f28 = some ⟨oc28, od28, .func (PySem.W.fnOf "told" "told" (defArgs s_told) (defBody s_told) (defScope s_told) .none kV28 dc28 pm28 an28 cd28 ct28), sl28⟩) (c28 : PySem.W.codeIn K cd28 "told" = true) (k28 : PySem.W.keepIn K (.ref f28) = true)
    (a29 : PySem.W.nsIn K mainGlobals "unpaid" = some (some (.ref f29))) (l29 : K.lookup f29 = some ⟨oc29, od29, .func (PySem.W.fnOf "unpaid" "unpaid" (defArgs s_unpaid) (defBody s_unpaid) (defScope s_unpaid) .none kV29 dc29 pm29 an29 cd29 ct29), sl29⟩) (c29 : PySem.W.codeIn K cd29 "unpaid" = true) (k29 : PySem.W.keepIn K (.ref f29) = true)
    (a30 : PySem.W.nsIn K mainGlobals "words" = some (some (.ref f30))) (l30 : K.lookup f30 = some ⟨oc30, od30, .func (PySem.W.fnOf "words" "words" (defArgs s_words) (defBody s_words) (defScope s_words) .none kV30 dc30 pm30 an30 cd30 ct30), sl30⟩) (c30 : PySem.W.codeIn K cd30 "words" = true) (k30 : PySem.W.keepIn K (.ref f30) = true)
    (a31 : PySem.W.nsIn K mainGlobals "law" = some (some (.ref f31))) (l31 : K.lookup f31 = some ⟨oc31, od31, .func (PySem.W.fnOf "law" "law" (defArgs s_law) (defBody s_law) (defScope s_law) .none kV31 dc31 pm31 an31 cd31 ct31), sl31⟩) (c31 : PySem.W.codeIn K cd31 "law" = true) (k31 : PySem.W.keepIn K (.ref f31) = true)
    (z_abs : PySem.W.nsIn K mainGlobals "abs" = some none)
    (z_all : PySem.W.nsIn K mainGlobals "all" = some none)
    (z_bool : PySem.W.nsIn K mainGlobals "bool" = some none)
    (z_int : PySem.W.nsIn K mainGlobals "int" = some none)
    (z_isinstance : PySem.W.nsIn K mainGlobals "isinstance" = some none)
    (z_len : PySem.W.nsIn K mainGlobals "len" = some none)
    (z_list : PySem.W.nsIn K mainGlobals "list" = some none)
    (z_min : PySem.W.nsIn K mainGlobals "min" = some none)
    (z_range : PySem.W.nsIn K mainGlobals "range" = some none)
    (z_sorted : PySem.W.nsIn K mainGlobals "sorted" = some none)
    (z_str : PySem.W.nsIn K mainGlobals "str" = some none)
    (z_sum : PySem.W.nsIn K mainGlobals "sum" = some none)
    (z_tuple : PySem.W.nsIn K mainGlobals "tuple" = some none)
    (z_zip : PySem.W.nsIn K mainGlobals "zip" = some none)
    (gB : PySem.W.nsIn K mainGlobals "BEGIN" = some (some (.ref pB))) (lB : K.lookup pB = some ⟨.type "tuple", odB, .seq #[.int 0 tB1, .int 0 tB2, .int 0 tB3, .int 0 tB4, .bool false, .bool false] nB, slB⟩)
    (gF : PySem.W.nsIn K mainGlobals "FAR" = some (some (.int 20 tF)))
    (gG : PySem.W.nsIn K mainGlobals "GROWING" = some (some (.ref pG))) (lG : K.lookup pG = some ⟨.type "tuple", odG, .seq #[.str "hide" tG1, .str "lay" tG2, .str "lean" tG3] nG, slG⟩)
    (gL : PySem.W.nsIn K mainGlobals "LOCKED" = some (some (.ref pL))) (lL : K.lookup pL = some ⟨.type "tuple", odL, .seq #[.int 0 tL1, .int 0 tL2, .int 0 tL3, .int 0 tL4, .bool false, .bool true] nL, slL⟩)
    (gM : PySem.W.nsIn K mainGlobals "MOST_DEEDS" = some (some (.int 60 tM)))
    (gW : PySem.W.nsIn K mainGlobals "WAYS" = some (some (.ref pW))) (lW : K.lookup pW = some ⟨.type "tuple", odW, .seq #[.str "each" tW1, .str "sum" tW2] nW, slW⟩) :
    ∃ fd : FuncData, (∀ (s : Shared) (v : Value), BindsTo s fd ⟨[v], []⟩ [("script", v)]) ∧ ∀ base : Heap, K.In base → base.Ns mainGlobals mg → FnOk l.prog w K mg base (L2.CX l.prog w) 12 fa fd ["script"] (liftF K w 1 F_law) := by
  obtain ⟨F0, e0, d0⟩ := funAt_of (ps := []) X Gn a0 l0 c0 k0 fun _ _ _ _ _ _ us hl => match us, hl with | [], _ => rfl
  obtain ⟨F1, e1, d1⟩ := funAt_of (ps := ["plan", "stand"]) X Gn a1 l1 c1 k1 fun _ _ _ _ _ _ us hl => match us, hl with | [_, _], _ => rfl
  obtain ⟨F2, e2, d2⟩ := funAt_of (ps := ["plan", "stand", "deed"]) X Gn a2 l2 c2 k2 fun _ _ _ _ _ _ us hl => match us, hl with | [_, _, _], _ => rfl
  obtain ⟨F3, e3, d3⟩ := funAt_of (ps := ["spring", "many"]) X Gn a3 l3 c3 k3 fun _ _ _ _ _ _ us hl => match us, hl with | [_, _], _ => rfl
  obtain ⟨F4, e4, d4⟩ := funAt_of (ps := ["spring"]) X Gn a4 l4 c4 k4 fun _ _ _ _ _ _ us hl => match us, hl with | [_], _ => rfl
  obtain ⟨F5, e5, d5⟩ := funAt_of (ps := ["spring"]) X Gn a5 l5 c5 k5 fun _ _ _ _ _ _ us hl => match us, hl with | [_], _ => rfl
  obtain ⟨F6, e6, d6⟩ := funAt_of (ps := ["script", "at"]) X Gn a6 l6 c6 k6 fun _ _ _ _ _ _ us hl => match us, hl with | [_, _], _ => rfl
  obtain ⟨F7, e7, d7⟩ := funAt_of (ps := ["value"]) X Gn a7 l7 c7 k7 fun _ _ _ _ _ _ us hl => match us, hl with | [_], _ => rfl
  obtain ⟨F8, e8, d8⟩ := funAt_of (ps := ["one", "other"]) X Gn a8 l8 c8 k8 fun _ _ _ _ _ _ us hl => match us, hl with | [_, _], _ => rfl
  obtain ⟨F9, e9, d9⟩ := funAt_of (ps := ["plan", "stand"]) X Gn a9 l9 c9 k9 fun _ _ _ _ _ _ us hl => match us, hl with | [_, _], _ => rfl
  obtain ⟨F10, e10, d10⟩ := funAt_of (ps := ["value", "low", "high"]) X Gn a10 l10 c10 k10 fun _ _ _ _ _ _ us hl => match us, hl with | [_, _, _], _ => rfl
  obtain ⟨F11, e11, d11⟩ := funAt_of (ps := ["value", "some"]) X Gn a11 l11 c11 k11 fun _ _ _ _ _ _ us hl => match us, hl with | [_, _], _ => rfl
  obtain ⟨F12, e12, d12⟩ := funAt_of (ps := ["value", "many"]) X Gn a12 l12 c12 k12 fun _ _ _ _ _ _ us hl => match us, hl with | [_, _], _ => rfl
  obtain ⟨F13, e13, d13⟩ := funAt_of (ps := ["value"]) X Gn a13 l13 c13 k13 fun _ _ _ _ _ _ us hl => match us, hl with | [_], _ => rfl
  obtain ⟨F14, e14, d14⟩ := funAt_of (ps := ["value"]) X Gn a14 l14 c14 k14 fun _ _ _ _ _ _ us hl => match us, hl with | [_], _ => rfl
  obtain ⟨F15, e15, d15⟩ := funAt_of (ps := ["plan"]) X Gn a15 l15 c15 k15 fun _ _ _ _ _ _ us hl => match us, hl with | [_], _ => rfl
  obtain ⟨F16, e16, d16⟩ := funAt_of (ps := ["plan", "value"]) X Gn a16 l16 c16 k16 fun _ _ _ _ _ _ us hl => match us, hl with | [_, _], _ => rfl
  obtain ⟨F17, e17, d17⟩ := funAt_of (ps := ["plan", "stand"]) X Gn a17 l17 c17 k17 fun _ _ _ _ _ _ us hl => match us, hl with | [_, _], _ => rfl
  obtain ⟨F18, e18, d18⟩ := funAt_of (ps := ["plan", "stand", "deed"]) X Gn a18 l18 c18 k18 fun _ _ _ _ _ _ us hl => match us, hl with | [_, _, _], _ => rfl
  obtain ⟨F19, e19, d19⟩ := funAt_of (ps := ["stand", "deed"]) X Gn a19 l19 c19 k19 fun _ _ _ _ _ _ us hl => match us, hl with | [_, _], _ => rfl
  obtain ⟨F20, e20, d20⟩ := funAt_of (ps := ["plan", "stand", "deed"]) X Gn a20 l20 c20 k20 fun _ _ _ _ _ _ us hl => match us, hl with | [_, _, _], _ => rfl
  obtain ⟨F21, e21, d21⟩ := funAt_of (ps := ["plan", "stand", "deed"]) X Gn a21 l21 c21 k21 fun _ _ _ _ _ _ us hl => match us, hl with | [_, _, _], _ => rfl
  obtain ⟨F22, e22, d22⟩ := funAt_of (ps := ["plan", "stand"]) X Gn a22 l22 c22 k22 fun _ _ _ _ _ _ us hl => match us, hl with | [_, _], _ => rfl
  obtain ⟨F23, e23, d23⟩ := funAt_of (ps := ["plan", "stand", "deeds"]) X Gn a23 l23 c23 k23 fun _ _ _ _ _ _ us hl => match us, hl with | [_, _, _], _ => rfl
  obtain ⟨F24, e24, d24⟩ := funAt_of (ps := ["plan", "value"]) X Gn a24 l24 c24 k24 fun _ _ _ _ _ _ us hl => match us, hl with | [_, _], _ => rfl
  obtain ⟨F25, e25, d25⟩ := funAt_of (ps := ["plan", "value"]) X Gn a25 l25 c25 k25 fun _ _ _ _ _ _ us hl => match us, hl with | [_, _], _ => rfl
  obtain ⟨F26, e26, d26⟩ := funAt_of (ps := ["plan", "run"]) X Gn a26 l26 c26 k26 fun _ _ _ _ _ _ us hl => match us, hl with | [_, _], _ => rfl
  obtain ⟨F27, e27, d27⟩ := funAt_of (ps := ["plan", "run"]) X Gn a27 l27 c27 k27 fun _ _ _ _ _ _ us hl => match us, hl with | [_, _], _ => rfl
  obtain ⟨F28, e28, d28⟩ := funAt_of (ps := ["plan", "stand", "deed"]) X Gn a28 l28 c28 k28 fun _ _ _ _ _ _ us hl => match us, hl with | [_, _, _], _ => rfl
  obtain ⟨F29, e29, d29⟩ := funAt_of (ps := ["plan", "run"]) X Gn a29 l29 c29 k29 fun _ _ _ _ _ _ us hl => match us, hl with | [_, _], _ => rfl
  obtain ⟨F30, e30, d30⟩ := funAt_of (ps := ["plan", "run"]) X Gn a30 l30 c30 k30 fun _ _ _ _ _ _ us hl => match us, hl with | [_, _], _ => rfl
  obtain ⟨F31, e31, d31⟩ := funAt_of (ps := ["script"]) X Gn a31 l31 c31 k31 fun _ _ _ _ _ _ us hl => match us, hl with | [_], _ => rfl
  have g_BEGIN : GlobV K mg "BEGIN" c_BEGIN := ⟨_, .ref pB, PySem.W.mg_of X Gn gB, rfl, fun w H W => .tup (xs := [.int 0, .int 0, .int 0, .int 0, .bl false, .bl false]) (.inr ⟨_, _, _, lB, rfl, rfl, (by show 6 ≤ sizeLine; decide), .cons ⟨_, rfl⟩ (.cons ⟨_, rfl⟩ (.cons ⟨_, rfl⟩ (.cons ⟨_, rfl⟩ (.cons rfl (.cons rfl .nil)))))⟩) (.cons (.int _) (.cons (.int _) (.cons (.int _) (.cons (.int _) (.cons (.bl _) (.cons (.bl _) .nil))))))⟩
  have g_FAR : GlobV K mg "FAR" c_FAR := ⟨_, .int 20, PySem.W.mg_of X Gn gF, ⟨_, rfl⟩, fun w H W => .int _⟩
  have g_GROWING : GlobV K mg "GROWING" c_GROWING := ⟨_, .ref pG, PySem.W.mg_of X Gn gG, rfl, fun w H W => .tup (xs := [.str "hide", .str "lay", .str "lean"]) (.inr ⟨_, _, _, lG, rfl, rfl, (by show 3 ≤ sizeLine; decide), .cons ⟨_, rfl⟩ (.cons ⟨_, rfl⟩ (.cons ⟨_, rfl⟩ .nil))⟩) (.cons (.str _) (.cons (.str _) (.cons (.str _) .nil)))⟩
  have g_LOCKED : GlobV K mg "LOCKED" c_LOCKED := ⟨_, .ref pL, PySem.W.mg_of X Gn gL, rfl, fun w H W => .tup (xs := [.int 0, .int 0, .int 0, .int 0, .bl false, .bl true]) (.inr ⟨_, _, _, lL, rfl, rfl, (by show 6 ≤ sizeLine; decide), .cons ⟨_, rfl⟩ (.cons ⟨_, rfl⟩ (.cons ⟨_, rfl⟩ (.cons ⟨_, rfl⟩ (.cons rfl (.cons rfl .nil)))))⟩) (.cons (.int _) (.cons (.int _) (.cons (.int _) (.cons (.int _) (.cons (.bl _) (.cons (.bl _) .nil))))))⟩
  have g_MOST_DEEDS : GlobV K mg "MOST_DEEDS" c_MOST_DEEDS := ⟨_, .int 60, PySem.W.mg_of X Gn gM, ⟨_, rfl⟩, fun w H W => .int _⟩
  have g_WAYS : GlobV K mg "WAYS" c_WAYS := ⟨_, .ref pW, PySem.W.mg_of X Gn gW, rfl, fun w H W => .tup (xs := [.str "each", .str "sum"]) (.inr ⟨_, _, _, lW, rfl, rfl, (by show 2 ≤ sizeLine; decide), .cons ⟨_, rfl⟩ (.cons ⟨_, rfl⟩ .nil)⟩) (.cons (.str _) (.cons (.str _) .nil))⟩
  let T : Txt K mg := ⟨F0, F1, F2, F3, F4, F5, F6, F7, F8, F9, F10, F11, F12, F13, F14, F15, F16, F17, F18, F19, F20, F21, F22, F23, F24, F25, F26, F27, F28, F29, F30, F31, PySem.W.mg_none_of X Gn z_abs, PySem.W.mg_none_of X Gn z_all, PySem.W.mg_none_of X Gn z_bool, PySem.W.mg_none_of X Gn z_int, PySem.W.mg_none_of X Gn z_isinstance, PySem.W.mg_none_of X Gn z_len, PySem.W.mg_none_of X Gn z_list, PySem.W.mg_none_of X Gn z_min, PySem.W.mg_none_of X Gn z_range, PySem.W.mg_none_of X Gn z_sorted, PySem.W.mg_none_of X Gn z_str, PySem.W.mg_none_of X Gn z_sum, PySem.W.mg_none_of X Gn z_tuple, PySem.W.mg_none_of X Gn z_zip, g_BEGIN, g_FAR, g_GROWING, g_LOCKED, g_MOST_DEEDS, g_WAYS⟩
  have e := hfa.symm.trans (PySem.W.mg_of X Gn a31)
  cases e
  refine ⟨PySem.W.fnOf "law" "law" (defArgs s_law) (defBody s_law) (defScope s_law) .none kV31 dc31 pm31 an31 cd31 ct31, fun s v => .of_eq rfl, fun base _ _ => ?_⟩
  have h := ok_law (P := l.prog) (w := w) (base := base) T
  rw [show T.law = F31 from rfl, e31, d31] at h
  exact h
end
end L2.DL
open PySem PySem.W PyProof.Rows
set_option maxHeartbeats 0 in
theorem PySem.Challenge.cw_tillscales_k02_whole_tills_deed_by_deed_holds : PySem.Challenge.rw_tillscales_k02_whole_tills_deed_by_deed.Holds := by
  w_on; o_law; k_head; (case hw => w_witness2)
  k_fill
  refine L2.walk_of (l := PySem.Challenge.rw_tillscales_k02_whole_tills_deed_by_deed) (n := 63) (k := 12) (x := "script") (CX := fun w => L2.CX PySem.Challenge.rw_tillscales_k02_whole_tills_deed_by_deed.prog w) (sp := fun w => L2.DL.liftF _ w 1 L2.DL.F_law) rfl (by decide) rfl ⟨rfl, by decide, by decide⟩ (fun w h Y => PySem.W.kIn_of Y) ?F (fun w H a ns hl hO hS => L2.DL.law_in hO hS) (fun w H s e s2 h => L2.DL.law_out h)
  case F =>
    intro w mg fa h KX G hmg
    refine' L2.DL.all_mk KX G hmg ?a0 ?l0 ?c0 ?k0 ?a1 ?l1 ?c1 ?k1 ?a2 ?l2 ?c2 ?k2 ?a3 ?l3 ?c3 ?k3 ?a4 ?l4 ?c4 ?k4 ?a5 ?l5 ?c5 ?k5 ?a6 ?l6 ?c6 ?k6 ?a7 ?l7 ?c7 ?k7 ?a8 ?l8 ?c8 ?k8 ?a9 ?l9 ?c9 ?k9 ?a10 ?l10 ?c10 ?k10 ?a11 ?l11 ?c11 ?k11 ?a12 ?l12 ?c12 ?k12 ?a13 ?l13 ?c13 ?k13 ?a14 ?l14 ?c14 ?k14 ?a15 ?l15 ?c15 ?k15 ?a16 ?l16 ?c16 ?k16 ?a17 ?l17 ?c17 ?k17 ?a18 ?l18 ?c18 ?k18 ?a19 ?l19 ?c19 ?k19 ?a20 ?l20 ?c20 ?k20 ?a21 ?l21 ?c21 ?k21 ?a22 ?l22 ?c22 ?k22 ?a23 ?l23 ?c23 ?k23 ?a24 ?l24 ?c24 ?k24 ?a25 ?l25 ?c25 ?k25 ?a26 ?l26 ?c26 ?k26 ?a27 ?l27 ?c27 ?k27 ?a28 ?l28 ?c28 ?k28 ?a29 ?l29 ?c29 ?k29 ?a30 ?l30 ?c30 ?k30 ?a31 ?l31 ?c31 ?k31 ?z_abs ?z_all ?z_bool ?z_int ?z_isinstance ?z_len ?z_list ?z_min ?z_range ?z_sorted ?z_str ?z_sum ?z_tuple ?z_zip ?gB ?lB ?gF ?gG ?lG ?gL ?lL ?gM ?gW ?lW
    (case a0 => k_is); (case l0 => k_is); (case c0 => k_is); (case k0 => k_is); (case a1 => k_is); (case l1 => k_is); (case c1 => k_is); (case k1 => k_is); (case a2 => k_is); (case l2 => k_is); (case c2 => k_is); (case k2 => k_is); (case a3 => k_is); (case l3 => k_is); (case c3 => k_is); (case k3 => k_is); (case a4 => k_is); (case l4 => k_is); (case c4 => k_is); (case k4 => k_is); (case a5 => k_is); (case l5 => k_is); (case c5 => k_is); (case k5 => k_is); (case a6 => k_is); (case l6 => k_is); (case c6 => k_is); (case k6 => k_is); (case a7 => k_is); (case l7 => k_is); (case c7 => k_is); (case k7 => k_is); (case a8 => k_is); (case l8 => k_is); (case c8 => k_is); (case k8 => k_is); (case a9 => k_is); (case l9 => k_is); (case c9 => k_is); (case k9 => k_is); (case a10 => k_is); (case l10 => k_is); (case c10 => k_is); (case k10 => k_is); (case a11 => k_is); (case l11 => k_is); (case c11 => k_is); (case k11 => k_is); (case a12 => k_is); (case l12 => k_is); (case c12 => k_is); (case k12 => k_is); (case a13 => k_is); (case l13 => k_is); (case c13 => k_is); (case k13 => k_is); (case a14 => k_is); (case l14 => k_is); (case c14 => k_is); (case k14 => k_is); (case a15 => k_is); (case l15 => k_is); (case c15 => k_is); (case k15 => k_is); (case a16 => k_is); (case l16 => k_is); (case c16 => k_is); (case k16 => k_is); (case a17 => k_is); (case l17 => k_is); (case c17 => k_is); (case k17 => k_is); (case a18 => k_is); (case l18 => k_is); (case c18 => k_is); (case k18 => k_is); (case a19 => k_is); (case l19 => k_is); (case c19 => k_is); (case k19 => k_is); (case a20 => k_is); (case l20 => k_is); (case c20 => k_is); (case k20 => k_is); (case a21 => k_is); (case l21 => k_is); (case c21 => k_is); (case k21 => k_is); (case a22 => k_is); (case l22 => k_is); (case c22 => k_is); (case k22 => k_is); (case a23 => k_is); (case l23 => k_is); (case c23 => k_is); (case k23 => k_is); (case a24 => k_is); (case l24 => k_is); (case c24 => k_is); (case k24 => k_is); (case a25 => k_is); (case l25 => k_is); (case c25 => k_is); (case k25 => k_is); (case a26 => k_is); (case l26 => k_is); (case c26 => k_is); (case k26 => k_is); (case a27 => k_is); (case l27 => k_is); (case c27 => k_is); (case k27 => k_is); (case a28 => k_is); (case l28 => k_is); (case c28 => k_is); (case k28 => k_is); (case a29 => k_is); (case l29 => k_is); (case c29 => k_is); (case k29 => k_is); (case a30 => k_is); (case l30 => k_is); (case c30 => k_is); (case k30 => k_is); (case a31 => k_is); (case l31 => k_is); (case c31 => k_is); (case k31 => k_is); (case z_abs => k_is); (case z_all => k_is); (case z_bool => k_is); (case z_int => k_is); (case z_isinstance => k_is); (case z_len => k_is); (case z_list => k_is); (case z_min => k_is); (case z_range => k_is); (case z_sorted => k_is); (case z_str => k_is); (case z_sum => k_is); (case z_tuple => k_is); (case z_zip => k_is); (case gB => k_is); (case lB => k_is); (case gF => k_is); (case gG => k_is); (case lG => k_is); (case gL => k_is); (case lL => k_is); (case gM => k_is); (case gW => k_is); (case lW => k_is)

