import PyProof.Rows.All
import Wide.All
import OpenK.AllK
import Wide.FinOn
import HandS.ForMost
import HandS.ForExc
import KE.KeyNested
import HandS.Wide
import HandS.Deep
import HandS.IsInst
import HandS.Flow
import HandS.TupAny
import HandS.TupMul
import HandS.Style
import HandS.Zip
import KE.SortData
import HandS.Conv
import HandS.Dict
import HandS.SortRule
import KE.KDictKeyed
import KE.KDictDisplayH
import KE.KDictOf
import PyProof.Rows.TupTab
import PyProof.Rows.SeqRoads
import HandS.Iter
import KE.KDictWalk
import KE.KDictCopyH
import PySem.Challenge.RW_tillscales_k04_whole_harms_of_plans
set_option Elab.async false
set_option linter.all false
set_option maxRecDepth 100000
/-! DA: deep data over HandS: values as trees, a store of own objects, the relation to HandS's heap, the lifting of readings. -/
namespace L2.DL
open PySem PySem.Spec PyProof.Rows

/-- a value as a tree: tuples, frozen lists and dicts hold trees; ob n is the n-th own object of the store -/
inductive D where
  | non | bl (b : Bool) | int (i : Int) | str (x : Str)
  | tup (xs : List D) | lst (xs : List D) | dct (ks vs : List D)
  | ob (n : Nat) | adr (a : Addr) | ty (n : String)

/-- an own object -/
inductive O where
  | lst (xs : List D) | dct (ks vs : List D) | ins (C : Addr) (fs : List (Str × D)) | dead

abbrev Sto := List O
abbrev En := List (Option D)

/-- where the own objects stand, which addresses are frozen -/
structure Wd where
  mu : List Addr
  fz : Addr → Prop

/-- n is an own object that lives, at a -/
def Live (W : Wd) (L : Sto) (n : Nat) (a : Addr) : Prop := W.mu[n]? = some a ∧ ∃ o, L[n]? = some o ∧ o ≠ .dead

/-! ### keys of dicts: what hashing and == see -/
mutual
/-- the key that a value is, if it is one -/
def skOf : D → Option NestedKey
  | .non => some .none
  | .bl b => some (.num (if b then 1 else 0))
  | .int i => some (.num i)
  | .str x => some (.text x)
  | .tup xs => (skOfs xs).map .tup
  | _ => none
def skOfs : List D → Option (List NestedKey)
  | [] => some []
  | x :: xs => match skOf x, skOfs xs with
    | some k, some ks => some (k :: ks)
    | _, _ => none
end
/-- the entries of a dict whose keys are tuples: the key, where its tuple stands, the value -/
abbrev DE3 := NestedKey × Addr × Value
def ent3 (w : World) (x : DE3) : DictEntry := ⟨x.1.hash w, .ref x.2.1, x.2.2⟩
/-- a dict object by its entries -/
def dictHO (w : World) (a : Addr) (es : List DE3 × Nat) : HO := .ext fun h => (a == sysModules) = false ∧ es.1.length ≤ sizeLine ∧ (es.1.map (·.1)).Nodup ∧ ∃ o, h.get? a = some o ∧ o.ExactDict ∧ o.data = .dict (es.1.map (ent3 w)).toArray es.2

/-- a list of the written part -/
def KLst (K : PySem.W.Frag) (a : Addr) (xs : List V) : Prop :=
  ∃ (o : Obj) (its : Array Value) (n : Nat), K.lookup a = some o ∧ o.cls = .type "list" ∧ o.dict = none ∧ o.data = .seq its n ∧ its.size ≤ sizeLine ∧ Vals xs its.toList

mutual
/-- the value v of HandS's heap stands for the tree d -/
inductive Is (K : PySem.W.Frag) (w : World) (H : Hp) (W : Wd) : V → D → Prop
  | non : Is K w H W .non .non
  | bl (b : Bool) : Is K w H W (.bl b) (.bl b)
  | int (i : Int) : Is K w H W (.int i) (.int i)
  | str (x : Str) : Is K w H W (.str x) (.str x)
  | tup {a : Addr} {xs : List V} {ds : List D} : SqT K H a xs → Iss K w H W xs ds → Is K w H W (.ref a) (.tup ds)
  | lst {a : Addr} {xs : List V} {ds : List D} : W.fz a → Rd H a (.lst xs) → Iss K w H W xs ds → Is K w H W (.ref a) (.lst ds)
  | lstK {a : Addr} {xs : List V} {ds : List D} : KLst K a xs → Iss K w H W xs ds → Is K w H W (.ref a) (.lst ds)
  | dct {a : Addr} {es : List DE3 × Nat} {ks vs : List D} : W.fz a → H a = some (dictHO w a es) → IsE K w H W es.1 ks vs → Is K w H W (.ref a) (.dct ks vs)
  | ob {n : Nat} {a : Addr} : W.mu[n]? = some a → Is K w H W (.ref a) (.ob n)
  | adr (a : Addr) : Is K w H W (.ref a) (.adr a)
  | ty (n : String) : Is K w H W (.ty n) (.ty n)
inductive Iss (K : PySem.W.Frag) (w : World) (H : Hp) (W : Wd) : List V → List D → Prop
  | nil : Iss K w H W [] []
  | cons {v : V} {vs : List V} {d : D} {ds : List D} : Is K w H W v d → Iss K w H W vs ds → Iss K w H W (v :: vs) (d :: ds)
inductive IsE (K : PySem.W.Frag) (w : World) (H : Hp) (W : Wd) : List DE3 → List D → List D → Prop
  | nil : IsE K w H W [] [] []
  | cons {e : DE3} {es : List DE3} {k v : D} {ks vs : List D} {vv : V} : skOf k = some e.1 → e.1.depth ≤ 8 → Is K w H W (.ref e.2.1) k → RelV vv e.2.2 → Is K w H W vv v → IsE K w H W es ks vs →
      IsE K w H W (e :: es) (k :: ks) (v :: vs)
end

/-- fields of an instance -/
inductive IsF (K : PySem.W.Frag) (w : World) (H : Hp) (W : Wd) : List (Str × V) → List (Str × D) → Prop
  | nil : IsF K w H W [] []
  | cons {f : Str} {v : V} {d : D} {vs : List (Str × V)} {ds : List (Str × D)} : Is K w H W v d → IsF K w H W vs ds → IsF K w H W ((f, v) :: vs) ((f, d) :: ds)

/-- the own object o stands at a -/
def IsO (K : PySem.W.Frag) (w : World) (H : Hp) (W : Wd) (a : Addr) : O → Prop
  | .lst ds => ∃ xs, H a = some (.lst xs) ∧ Iss K w H W xs ds
  | .dct ks vs => ∃ es, H a = some (dictHO w a es) ∧ IsE K w H W es.1 ks vs
  | .ins C fs => ∃ dx vs, H a = some (.ins C dx vs) ∧ IsF K w H W vs fs
  | .dead => True

/-- a slot -/
inductive IsS (K : PySem.W.Frag) (w : World) (H : Hp) (W : Wd) : En → St → Prop
  | nil : IsS K w H W [] []
  | nop {o : Option V} {ρ : En} {σ : St} : IsS K w H W ρ σ → IsS K w H W (none :: ρ) (o :: σ)
  | som {v : V} {d : D} {ρ : En} {σ : St} : Is K w H W v d → IsS K w H W ρ σ → IsS K w H W (some d :: ρ) (some v :: σ)

/-- what a step leaves: all that is tracked but the own objects stands as it was -/
structure Ext (W : Wd) (L : Sto) (H : Hp) (W' : Wd) (L' : Sto) (H' : Hp) : Prop where
  pre : ∃ t, W'.mu = W.mu ++ t
  fz : ∀ a, W.fz a → W'.fz a
  keep : ∀ a o, H a = some o → (∀ n, ¬ Live W L n a) → H' a = some o
  live : ∀ n a, Live W' L' n a → (∃ m, Live W L m a) ∨ H a = none
  fzn : ∀ a, W'.fz a → W.fz a ∨ (∃ m, Live W L m a) ∨ H a = none

/-- the part of it that values lean on -/
structure Ext0 (W : Wd) (L : Sto) (H : Hp) (W' : Wd) (H' : Hp) : Prop where
  pre : ∃ t, W'.mu = W.mu ++ t
  fz : ∀ a, W.fz a → W'.fz a
  keep : ∀ a o, H a = some o → (∀ n, ¬ Live W L n a) → H' a = some o
theorem Ext.to0 {W W' : Wd} {L L' : Sto} {H H' : Hp} (x : Ext W L H W' L' H') : Ext0 W L H W' H' := ⟨x.pre, x.fz, x.keep⟩
theorem Ext.refl (W : Wd) (L : Sto) (H : Hp) : Ext W L H W L H := ⟨⟨[], (List.append_nil _).symm⟩, fun _ h => h, fun _ _ h _ => h, fun n _ h => .inl ⟨n, h⟩, fun _ h => .inl h⟩
theorem Ext.trans {W W1 W2 : Wd} {L L1 L2 : Sto} {H H1 H2 : Hp} (a : Ext W L H W1 L1 H1) (b : Ext W1 L1 H1 W2 L2 H2) : Ext W L H W2 L2 H2 where
  pre := by
    obtain ⟨t, e⟩ := a.pre
    obtain ⟨u, e'⟩ := b.pre
    exact ⟨t ++ u, by rw [e', e, List.append_assoc]⟩
  fz := fun x h => b.fz x (a.fz x h)
  keep := fun x o h n => by
    refine b.keep x o (a.keep x o h n) fun m hm => ?_
    rcases a.live m x hm with ⟨k, hk⟩ | hn
    · exact n k hk
    · rw [h] at hn; cases hn
  live := fun n x h => by
    rcases b.live n x h with ⟨m, hm⟩ | hn
    · exact a.live m x hm
    · by_cases hl : ∃ m, Live W L m x
      · exact .inl hl
      · cases e : H x with
        | none => exact .inr rfl
        | some o =>
          have q := a.keep x o e fun k hk => hl ⟨k, hk⟩
          rw [q] at hn; cases hn
  fzn := fun x h => by
    rcases b.fzn x h with h | ⟨m, hm⟩ | hn
    · exact a.fzn x h
    · exact .inr (a.live m x hm)
    · by_cases hl : ∃ m, Live W L m x
      · exact .inr (.inl hl)
      · cases e : H x with
        | none => exact .inr (.inr rfl)
        | some o =>
          have q := a.keep x o e fun k hk => hl ⟨k, hk⟩
          rw [q] at hn; cases hn

/-- what else is to stay true as the state goes on (of what is wanted of an exception) -/
structure Gam where
  p : Wd → Sto → Hp → Prop
  st : ∀ {W W' : Wd} {L L' : Sto} {H H' : Hp}, p W L H → Ext W L H W' L' H' → p W' L' H'
def Gam.none : Gam := ⟨fun _ _ _ => True, fun _ _ => trivial⟩
/-- the store is held -/
structure SR (K : PySem.W.Frag) (w : World) (G : Gam) (H : Hp) (W : Wd) (L : Sto) : Prop where
  len : W.mu.length = L.length
  inj : ∀ n m a, Live W L n a → Live W L m a → n = m
  nfz : ∀ n a, Live W L n a → ¬ W.fz a
  fzt : ∀ a, W.fz a → ∃ o, H a = some o
  ok : ∀ (n : Nat) (a : Addr) (o : O), W.mu[n]? = some a → L[n]? = some o → IsO K w H W a o
  gam : G.p W L H

section
variable {K : PySem.W.Frag} {w : World} {G : Gam} {H H' : Hp} {W W' : Wd} {L L' : Sto}

theorem SR.lt {n : Nat} (r : SR K w G H W L) : n < L.length → ∃ a, W.mu[n]? = some a := fun h => ⟨_, List.getElem?_eq_getElem (by rw [r.len]; exact h)⟩
/-- what stands at a live address is a list, a dict or an instance -/
theorem SR.kind (r : SR K w G H W L) {n : Nat} {a : Addr} (l : Live W L n a) : (∃ xs, H a = some (.lst xs)) ∨ (∃ es, H a = some (dictHO w a es)) ∨ ∃ C dx fs, H a = some (.ins C dx fs) := by
  obtain ⟨e, o, eo, nd⟩ := l
  have q := r.ok n a o e eo
  cases o with
  | lst ds => obtain ⟨xs, h, _⟩ := q; exact .inl ⟨xs, h⟩
  | dct ks vs => obtain ⟨es, h, _⟩ := q; exact .inr (.inl ⟨es, h⟩)
  | ins C fs => obtain ⟨dx, vs, h, _⟩ := q; exact .inr (.inr ⟨C, dx, vs, h⟩)
  | dead => exact absurd rfl nd
theorem SR.there (r : SR K w G H W L) {n : Nat} {a : Addr} (l : Live W L n a) : ∃ o, H a = some o := by
  rcases r.kind l with ⟨_, h⟩ | ⟨_, h⟩ | ⟨_, _, _, h⟩ <;> exact ⟨_, h⟩
theorem SR.notTup (r : SR K w G H W L) {a : Addr} {xs : List V} (h : H a = some (.tup xs)) (n : Nat) : ¬ Live W L n a := fun l => by
  rcases r.kind l with ⟨_, q⟩ | ⟨_, q⟩ | ⟨_, _, _, q⟩ <;> (rw [h] at q; cases q)
theorem SR.notFrz (r : SR K w G H W L) {a : Addr} {o : Obj} {u : HO} (h : H a = some (.frz o u)) (n : Nat) : ¬ Live W L n a := fun l => by
  rcases r.kind l with ⟨_, q⟩ | ⟨_, q⟩ | ⟨_, _, _, q⟩ <;> (rw [h] at q; cases q)
theorem SR.notFz (r : SR K w G H W L) {a : Addr} (h : W.fz a) (n : Nat) : ¬ Live W L n a := fun l => r.nfz n a l h

theorem SqT.ext0 (r : SR K w G H W L) (x : Ext0 W L H W' H') {a : Addr} {xs : List V} (h : SqT K H a xs) : SqT K H' a xs := by
  rcases h with (h | ⟨o, h⟩) | h
  · exact .inl (.inl (x.keep a _ h (r.notTup h)))
  · exact .inl (.inr ⟨o, x.keep a _ h (r.notFrz h)⟩)
  · exact .inr h
theorem mu_ext0 (x : Ext0 W L H W' H') {n : Nat} {a : Addr} (h : W.mu[n]? = some a) : W'.mu[n]? = some a := by
  obtain ⟨t, e⟩ := x.pre
  rw [e, List.getElem?_append_left (List.getElem?_eq_some_iff.mp h).1]
  exact h
mutual
theorem Is.ext0 (r : SR K w G H W L) (x : Ext0 W L H W' H') : ∀ {v : V} {d : D}, Is K w H W v d → Is K w H' W' v d
  | _, _, .non => .non
  | _, _, .bl b => .bl b
  | _, _, .int i => .int i
  | _, _, .str s => .str s
  | _, _, .tup h hs => .tup (SqT.ext0 r x h) (Iss.ext0 r x hs)
  | _, _, .lst (a := a) f h hs => .lst (x.fz _ f) (by
      rcases h with h | ⟨o, h⟩
      · exact .inl (x.keep _ _ h (r.notFz f))
      · exact .inr ⟨o, x.keep _ _ h (r.notFz f)⟩) (Iss.ext0 r x hs)
  | _, _, .lstK h hs => .lstK h (Iss.ext0 r x hs)
  | _, _, .dct f h hs => .dct (x.fz _ f) (x.keep _ _ h (r.notFz f)) (IsE.ext0 r x hs)
  | _, _, .ob h => .ob (mu_ext0 x h)
  | _, _, .adr a => .adr a
  | _, _, .ty n => .ty n
theorem Iss.ext0 (r : SR K w G H W L) (x : Ext0 W L H W' H') : ∀ {vs : List V} {ds : List D}, Iss K w H W vs ds → Iss K w H' W' vs ds
  | _, _, .nil => .nil
  | _, _, .cons h hs => .cons (Is.ext0 r x h) (Iss.ext0 r x hs)
theorem IsE.ext0 (r : SR K w G H W L) (x : Ext0 W L H W' H') : ∀ {es : List DE3} {ks vs : List D}, IsE K w H W es ks vs → IsE K w H' W' es ks vs
  | _, _, _, .nil => .nil
  | _, _, _, .cons a b c d e g => .cons a b (Is.ext0 r x c) d (Is.ext0 r x e) (IsE.ext0 r x g)
end
theorem IsF.ext0 (r : SR K w G H W L) (x : Ext0 W L H W' H') : ∀ {vs : List (Str × V)} {ds : List (Str × D)}, IsF K w H W vs ds → IsF K w H' W' vs ds
  | _, _, .nil => .nil
  | _, _, .cons h hs => .cons (h.ext0 r x) (IsF.ext0 r x hs)
theorem IsS.ext0 (r : SR K w G H W L) (x : Ext0 W L H W' H') : ∀ {ρ : En} {σ : St}, IsS K w H W ρ σ → IsS K w H' W' ρ σ
  | _, _, .nil => .nil
  | _, _, .nop h => .nop (IsS.ext0 r x h)
  | _, _, .som h hs => .som (h.ext0 r x) (IsS.ext0 r x hs)


theorem SqT.ext (r : SR K w G H W L) (x : Ext W L H W' L' H') {a : Addr} {xs : List V} (h : SqT K H a xs) : SqT K H' a xs := SqT.ext0 r x.to0 h
theorem mu_ext (x : Ext W L H W' L' H') {n : Nat} {a : Addr} (h : W.mu[n]? = some a) : W'.mu[n]? = some a := mu_ext0 x.to0 h
theorem Is.ext (r : SR K w G H W L) (x : Ext W L H W' L' H') {v : V} {d : D} (h : Is K w H W v d) : Is K w H' W' v d := Is.ext0 r x.to0 h
theorem Iss.ext (r : SR K w G H W L) (x : Ext W L H W' L' H') {vs : List V} {ds : List D} (h : Iss K w H W vs ds) : Iss K w H' W' vs ds := Iss.ext0 r x.to0 h
theorem IsE.ext (r : SR K w G H W L) (x : Ext W L H W' L' H') {es : List DE3} {ks vs : List D} (h : IsE K w H W es ks vs) : IsE K w H' W' es ks vs := IsE.ext0 r x.to0 h
theorem IsF.ext (r : SR K w G H W L) (x : Ext W L H W' L' H') {vs : List (Str × V)} {ds : List (Str × D)} (h : IsF K w H W vs ds) : IsF K w H' W' vs ds := IsF.ext0 r x.to0 h
theorem IsS.ext (r : SR K w G H W L) (x : Ext W L H W' L' H') {ρ : En} {σ : St} (h : IsS K w H W ρ σ) : IsS K w H' W' ρ σ := IsS.ext0 r x.to0 h

theorem Iss.length : ∀ {vs : List V} {ds : List D}, Iss K w H W vs ds → vs.length = ds.length
  | _, _, .nil => rfl
  | _, _, .cons _ h => by rw [List.length_cons, List.length_cons, Iss.length h]
theorem Iss.get : ∀ {vs : List V} {ds : List D} {i : Nat} {d : D}, Iss K w H W vs ds → ds[i]? = some d → ∃ v, vs[i]? = some v ∧ Is K w H W v d
  | _, _, _, _, .nil, e => by simp at e
  | _, _, 0, _, .cons h _, e => by simp at e; subst e; exact ⟨_, rfl, h⟩
  | _, _, i + 1, _, .cons _ h, e => by
    obtain ⟨v, h1, h2⟩ := Iss.get (i := i) h (by simpa using e)
    exact ⟨v, by simpa using h1, h2⟩
theorem Iss.getV : ∀ {vs : List V} {ds : List D} {i : Nat} {v : V}, Iss K w H W vs ds → vs[i]? = some v → ∃ d, ds[i]? = some d ∧ Is K w H W v d
  | _, _, _, _, .nil, e => by simp at e
  | _, _, 0, _, .cons h _, e => by simp at e; subst e; exact ⟨_, rfl, h⟩
  | _, _, i + 1, _, .cons _ h, e => by
    obtain ⟨v, h1, h2⟩ := Iss.getV (i := i) h (by simpa using e)
    exact ⟨v, by simpa using h1, h2⟩
theorem Iss.append : ∀ {xs ys : List V} {ds es : List D}, Iss K w H W xs ds → Iss K w H W ys es → Iss K w H W (xs ++ ys) (ds ++ es)
  | _, _, _, _, .nil, h => h
  | _, _, _, _, .cons a t, h => .cons a (Iss.append t h)
theorem Iss.take : ∀ {xs : List V} {ds : List D} (n : Nat), Iss K w H W xs ds → Iss K w H W (xs.take n) (ds.take n)
  | _, _, 0, _ => .nil
  | _, _, _ + 1, .nil => .nil
  | _, _, n + 1, .cons a t => .cons a (Iss.take n t)
theorem Iss.drop : ∀ {xs : List V} {ds : List D} (n : Nat), Iss K w H W xs ds → Iss K w H W (xs.drop n) (ds.drop n)
  | _, _, 0, h => h
  | _, _, _ + 1, .nil => .nil
  | _, _, n + 1, .cons _ t => Iss.drop n t
theorem Iss.set {v : V} {d : D} (h : Is K w H W v d) : ∀ {xs : List V} {ds : List D} (n : Nat), Iss K w H W xs ds → Iss K w H W (xs.set n v) (ds.set n d)
  | _, _, _, .nil => .nil
  | _, _, 0, .cons _ t => .cons h t
  | _, _, n + 1, .cons a t => .cons a (Iss.set h n t)
theorem Iss.dropLast {xs : List V} {ds : List D} (h : Iss K w H W xs ds) : Iss K w H W xs.dropLast ds.dropLast := by
  rw [List.dropLast_eq_take, List.dropLast_eq_take, h.length]
  exact h.take _
theorem Iss.reverse : ∀ {xs : List V} {ds : List D}, Iss K w H W xs ds → Iss K w H W xs.reverse ds.reverse
  | _, _, .nil => .nil
  | _, _, .cons a t => by rw [List.reverse_cons, List.reverse_cons]; exact (Iss.reverse t).append (.cons a .nil)
theorem IsS.length : ∀ {ρ : En} {σ : St}, IsS K w H W ρ σ → ρ.length = σ.length
  | _, _, .nil => rfl
  | _, _, .nop h => by rw [List.length_cons, List.length_cons, IsS.length h]
  | _, _, .som _ h => by rw [List.length_cons, List.length_cons, IsS.length h]
theorem IsS.get : ∀ {ρ : En} {σ : St} {i : Nat} {d : D}, IsS K w H W ρ σ → ρ[i]? = some (some d) → ∃ v, σ[i]? = some (some v) ∧ Is K w H W v d
  | _, _, _, _, .nil, e => by simp at e
  | _, _, 0, _, .nop _, e => by simp at e
  | _, _, 0, _, .som h _, e => by simp at e; subst e; exact ⟨_, rfl, h⟩
  | _, _, i + 1, _, .nop h, e => by
    obtain ⟨v, h1, h2⟩ := IsS.get (i := i) h (by simpa using e)
    exact ⟨v, by simpa using h1, h2⟩
  | _, _, i + 1, _, .som _ h, e => by
    obtain ⟨v, h1, h2⟩ := IsS.get (i := i) h (by simpa using e)
    exact ⟨v, by simpa using h1, h2⟩
theorem IsS.set {v : V} {d : D} (h : Is K w H W v d) : ∀ {ρ : En} {σ : St} (i : Nat), IsS K w H W ρ σ → IsS K w H W (ρ.set i (some d)) (σ.set i (some v))
  | _, _, _, .nil => .nil
  | _, _, 0, .nop t => .som h t
  | _, _, 0, .som _ t => .som h t
  | _, _, i + 1, .nop t => .nop (IsS.set h i t)
  | _, _, i + 1, .som a t => .som a (IsS.set h i t)
theorem IsS.unset {o : Option V} : ∀ {ρ : En} {σ : St} (i : Nat), IsS K w H W ρ σ → IsS K w H W (ρ.set i none) (σ.set i o)
  | _, _, _, .nil => .nil
  | _, _, 0, .nop t => .nop t
  | _, _, 0, .som _ t => .nop t
  | _, _, i + 1, .nop t => .nop (IsS.unset i t)
  | _, _, i + 1, .som a t => .som a (IsS.unset i t)
theorem IsS.starts : ∀ {vs : List V} {ds : List D} (n : Nat), Iss K w H W vs ds → IsS K w H W (ds.map some ++ List.replicate n none) (vs.map some ++ List.replicate n none)
  | _, _, 0, .nil => .nil
  | _, _, n + 1, .nil => .nop (IsS.starts n .nil)
  | _, _, n, .cons h t => .som h (IsS.starts n t)

/-! ### the lifting -/
abbrev QE := D → Sto → Prop
abbrev tE := En → Sto → QE → Prop
/-- what is to follow, told for HandS: from the state at the start to any end -/
def Kont (K : PySem.W.Frag) (w : World) (G : Gam) (W : Wd) (L : Sto) (H : Hp) (R : QE) (Q : VK) : Prop :=
  ∀ d L' W' H' v, Ext W L H W' L' H' → SR K w G H' W' L' → Is K w H' W' v d → R d L' → Q v H'
theorem Kont.ext {R : QE} {Q : VK} (k : Kont K w G W L H R Q) (x : Ext W L H W' L' H') : Kont K w G W' L' H' R Q := fun d L2 W2 H2 v x2 sr is r => k d L2 W2 H2 v (x.trans x2) sr is r
theorem Kont.here {R : QE} {Q : VK} {d : D} {v : V} (k : Kont K w G W L H R Q) (sr : SR K w G H W L) (is : Is K w H W v d) (r : R d L) : Q v H := k d L W H v (Ext.refl W L H) sr is r
def lift (K : PySem.W.Frag) (w : World) (G : Gam) (t : tE) : TE := fun σ H Q => ∃ W ρ L R, IsS K w H W ρ σ ∧ SR K w G H W L ∧ t ρ L R ∧ Kont K w G W L H R Q
/-- tests -/
abbrev QT := Bool → Sto → Prop
abbrev tT := En → Sto → QT → Prop
def KontT (K : PySem.W.Frag) (w : World) (G : Gam) (W : Wd) (L : Sto) (H : Hp) (R : QT) (Q : Bool → Hp → Prop) : Prop :=
  ∀ b L' W' H', Ext W L H W' L' H' → SR K w G H' W' L' → R b L' → Q b H'
theorem KontT.ext {R : QT} {Q : Bool → Hp → Prop} (k : KontT K w G W L H R Q) (x : Ext W L H W' L' H') : KontT K w G W' L' H' R Q := fun d L2 W2 H2 x2 sr r => k d L2 W2 H2 (x.trans x2) sr r
def liftT (K : PySem.W.Frag) (w : World) (G : Gam) (t : tT) : TT := fun σ H Q => ∃ W ρ L R, IsS K w H W ρ σ ∧ SR K w G H W L ∧ t ρ L R ∧ KontT K w G W L H R Q
/-- argument lists -/
abbrev QA := List D → Sto → Prop
abbrev tA := En → Sto → QA → Prop
def KontA (K : PySem.W.Frag) (w : World) (G : Gam) (W : Wd) (L : Sto) (H : Hp) (R : QA) (Q : List V → Hp → Prop) : Prop :=
  ∀ ds L' W' H' vs, Ext W L H W' L' H' → SR K w G H' W' L' → Iss K w H' W' vs ds → R ds L' → Q vs H'
theorem KontA.ext {R : QA} {Q : List V → Hp → Prop} (k : KontA K w G W L H R Q) (x : Ext W L H W' L' H') : KontA K w G W' L' H' R Q := fun d L2 W2 H2 v x2 sr is r => k d L2 W2 H2 v (x.trans x2) sr is r
def liftA (K : PySem.W.Frag) (w : World) (G : Gam) (t : tA) : TA := fun σ H Q => ∃ W ρ L R, IsS K w H W ρ σ ∧ SR K w G H W L ∧ t ρ L R ∧ KontA K w G W L H R Q
/-- statements -/
structure DEnds where
  nx : En → Sto → Prop
  rt : D → Sto → Prop
  bk : En → Sto → Prop := fun _ _ => False
  ct : En → Sto → Prop := fun _ _ => False
abbrev tS := DEnds → En → Sto → Prop
def KontN (K : PySem.W.Frag) (w : World) (G : Gam) (W : Wd) (L : Sto) (H : Hp) (R : En → Sto → Prop) (Q : St → Hp → Prop) : Prop :=
  ∀ ρ' L' W' H' σ', Ext W L H W' L' H' → IsS K w H' W' ρ' σ' → SR K w G H' W' L' → R ρ' L' → Q σ' H'
theorem KontN.ext {R : En → Sto → Prop} {Q : St → Hp → Prop} (k : KontN K w G W L H R Q) (x : Ext W L H W' L' H') : KontN K w G W' L' H' R Q := fun d L2 W2 H2 v x2 is sr r => k d L2 W2 H2 v (x.trans x2) is sr r
structure KontS (K : PySem.W.Frag) (w : World) (G : Gam) (W : Wd) (L : Sto) (H : Hp) (DD : DEnds) (D : Ends) : Prop where
  nx : KontN K w G W L H DD.nx D.nx
  rt : Kont K w G W L H DD.rt D.rt
  bk : KontN K w G W L H DD.bk D.bk
  ct : KontN K w G W L H DD.ct D.ct
theorem KontS.ext {DD : DEnds} {D : Ends} (k : KontS K w G W L H DD D) (x : Ext W L H W' L' H') : KontS K w G W' L' H' DD D := ⟨k.nx.ext x, k.rt.ext x, k.bk.ext x, k.ct.ext x⟩
def liftS (K : PySem.W.Frag) (w : World) (G : Gam) (t : tS) : TS := fun D σ H => ∃ W ρ L DD, IsS K w H W ρ σ ∧ SR K w G H W L ∧ t DD ρ L ∧ KontS K w G W L H DD D
/-- targets -/
abbrev tG := D → En → Sto → (En → Sto → Prop) → Prop
def liftG (K : PySem.W.Frag) (w : World) (G : Gam) (t : tG) : TG := fun v σ H Q => ∃ W ρ L d R, IsS K w H W ρ σ ∧ SR K w G H W L ∧ Is K w H W v d ∧ t d ρ L R ∧ KontN K w G W L H R Q
end

structure DE (X : Cx) (G : Gam) (e : Expr) (t : tE) : Prop where
  pe : PE X e (lift X.K X.w G t)
structure DT (X : Cx) (G : Gam) (e : Expr) (t : tT) : Prop where
  pt : PT X e (liftT X.K X.w G t)
structure DA (X : Cx) (G : Gam) (es : List Expr) (t : tA) : Prop where
  pa : PA X es (liftA X.K X.w G t)
structure DS (X : Cx) (G : Gam) (st : Stmt) (t : tS) : Prop where
  ps : PS X st (liftS X.K X.w G t)
structure DSs (X : Cx) (G : Gam) (sts : List Stmt) (t : tS) : Prop where
  pss : PSs X sts (liftS X.K X.w G t)
structure DG (X : Cx) (G : Gam) (tg : Expr) (t : tG) : Prop where
  pg : PG X tg (liftG X.K X.w G t)

section
variable {X : Cx} {e : Expr}
theorem PE.imp {t t' : TE} (h : PE X e t) (i : ∀ σ H Q, t' σ H Q → t σ H Q) : PE X e t' := ⟨fun pins s σ H Q I hw => h.run pins s σ H Q I (i σ H Q hw)⟩
theorem PT.imp {t t' : TT} (h : PT X e t) (i : ∀ σ H Q, t' σ H Q → t σ H Q) : PT X e t' := ⟨fun pins s σ H Q I hw => h.run pins s σ H Q I (i σ H Q hw)⟩
theorem PW.imp {t t' : TT} (h : PW X e t) (i : ∀ σ H Q, t' σ H Q → t σ H Q) : PW X e t' := ⟨fun wh pins s σ H Q I hw => h.run wh pins s σ H Q I (i σ H Q hw)⟩
theorem PA.imp {es : List Expr} {t t' : TA} (h : PA X es t) (i : ∀ σ H Q, t' σ H Q → t σ H Q) : PA X es t' := ⟨fun pos pins s σ H Q I hw => h.run pos pins s σ H Q I (i σ H Q hw)⟩
theorem PS.imp {st : Stmt} {t t' : TS} (h : PS X st t) (i : ∀ D σ H, t' D σ H → t D σ H) : PS X st t' := ⟨fun pins s σ H D I hw => h.run pins s σ H D I (i D σ H hw)⟩
theorem PSs.imp {st : List Stmt} {t t' : TS} (h : PSs X st t) (i : ∀ D σ H, t' D σ H → t D σ H) : PSs X st t' := ⟨fun pins s σ H D I hw => h.run pins s σ H D I (i D σ H hw)⟩
theorem PG.imp {t t' : TG} (h : PG X e t) (i : ∀ v σ H Q, t' v σ H Q → t v σ H Q) : PG X e t' := ⟨fun pins s σ H v u Q I r hw => h.run pins s σ H v u Q I r (i v σ H Q hw)⟩
end
end L2.DL

set_option Elab.async false
set_option linter.all false
set_option maxRecDepth 100000
/-! DB: new objects; expressions: names, constants, operators, comparisons, truth, displays, subscripts. -/
namespace L2.DL
open PySem PySem.Spec PyProof.Rows

section
variable {K : PySem.W.Frag} {w : World} {G : Gam} {H H' : Hp} {W W' : Wd} {L L' : Sto} {p : Addr} {ho : HO}

/-! ### new objects -/
theorem Ext.new (hp : H p = none) : Ext W L H W L (upd H p ho) :=
  ⟨⟨[], (List.append_nil _).symm⟩, fun _ h => h, fun a o h _ => by rw [upd_ne (ne_of_none h hp)]; exact h, fun n _ h => .inl ⟨n, h⟩, fun _ h => .inl h⟩
theorem IsO.ext0 (r : SR K w G H W L) (x : Ext0 W L H W' H') {a : Addr} {o : O} (h : IsO K w H W a o) (e : ∀ ho, H a = some ho → H' a = some ho) : IsO K w H' W' a o := by
  cases o with
  | lst ds => obtain ⟨xs, h1, h2⟩ := h; exact ⟨xs, e _ h1, Iss.ext0 r x h2⟩
  | dct ks vs => obtain ⟨es, h1, h2⟩ := h; exact ⟨es, e _ h1, IsE.ext0 r x h2⟩
  | ins C fs => obtain ⟨dx, vs, h1, h2⟩ := h; exact ⟨dx, vs, e _ h1, h2.ext0 r x⟩
  | dead => trivial
theorem IsO.ext (r : SR K w G H W L) (x : Ext W L H W' L' H') {a : Addr} {o : O} (h : IsO K w H W a o) (e : ∀ ho, H a = some ho → H' a = some ho) : IsO K w H' W' a o := IsO.ext0 r x.to0 h e
theorem SR.new (r : SR K w G H W L) (hp : H p = none) : SR K w G (upd H p ho) W L where
  len := r.len
  inj := r.inj
  nfz := r.nfz
  fzt := fun a f => by
    obtain ⟨o, h⟩ := r.fzt a f
    exact ⟨o, by rw [upd_ne (ne_of_none h hp)]; exact h⟩
  ok := fun n a o h1 h2 => (r.ok n a o h1 h2).ext r (Ext.new hp) fun u h => by rw [upd_ne (ne_of_none h hp)]; exact h
  gam := G.st r.gam (Ext.new hp)
/-- frozen beside -/
def Wd.and (W : Wd) (p : Addr) : Wd := ⟨W.mu, fun a => a = p ∨ W.fz a⟩
theorem Ext.newF (hp : H p = none) : Ext W L H (W.and p) L (upd H p ho) :=
  ⟨⟨[], (List.append_nil _).symm⟩, fun _ h => .inr h, fun a o h _ => by rw [upd_ne (ne_of_none h hp)]; exact h, fun n _ h => .inl ⟨n, h⟩, fun a f => by
    rcases f with e | f
    · rw [e]; exact .inr (.inr hp)
    · exact .inl f⟩
theorem SR.newF (r : SR K w G H W L) (hp : H p = none) : SR K w G (upd H p ho) (W.and p) L where
  len := r.len
  inj := r.inj
  nfz := fun n a l f => by
    rcases f with e | f
    · obtain ⟨o, h⟩ := r.there l
      rw [e, hp] at h; cases h
    · exact r.nfz n a l f
  fzt := fun a f => by
    rcases f with e | f
    · exact ⟨ho, by rw [e, upd_same]⟩
    · obtain ⟨o, h⟩ := r.fzt a f
      exact ⟨o, by rw [upd_ne (ne_of_none h hp)]; exact h⟩
  ok := fun n a o h1 h2 => (r.ok n a o h1 h2).ext r (Ext.newF hp) fun u h => by rw [upd_ne (ne_of_none h hp)]; exact h
  gam := G.st r.gam (Ext.newF hp)
/-- a new own object -/
def Wd.more (W : Wd) (p : Addr) : Wd := ⟨W.mu ++ [p], W.fz⟩
theorem live_more {o : O} (r : SR K w G H W L) {n : Nat} {a : Addr} (l : Live (W.more p) (L ++ [o]) n a) : Live W L n a ∨ (n = L.length ∧ a = p) := by
  obtain ⟨h1, u, h2, h3⟩ := l
  by_cases hn : n < L.length
  · refine .inl ⟨?_, u, ?_, h3⟩
    · have h1' : (W.mu ++ [p])[n]? = some a := h1
      rw [List.getElem?_append_left (by rw [r.len]; exact hn)] at h1'
      exact h1'
    · rw [List.getElem?_append_left hn] at h2; exact h2
  · have hl : n < (L ++ [o]).length := (List.getElem?_eq_some_iff.mp h2).1
    rw [List.length_append, List.length_singleton] at hl
    have e : n = L.length := by omega
    subst e
    have h1' : (W.mu ++ [p])[L.length]? = some a := h1
    rw [← r.len, List.getElem?_concat_length] at h1'
    exact .inr ⟨rfl, (Option.some.inj h1').symm⟩
theorem Ext.newO {o : O} (r : SR K w G H W L) (hp : H p = none) : Ext W L H (W.more p) (L ++ [o]) (upd H p ho) where
  pre := ⟨[p], rfl⟩
  fz := fun _ h => h
  keep := fun a u h _ => by rw [upd_ne (ne_of_none h hp)]; exact h
  live := fun n a l => by
    rcases live_more r l with l | ⟨_, e⟩
    · exact .inl ⟨n, l⟩
    · rw [e]; exact .inr hp
  fzn := fun _ h => .inl h
theorem SR.newO {o : O} (r : SR K w G H W L) (hp : H p = none) (ho' : IsO K w (upd H p ho) (W.more p) p o) : SR K w G (upd H p ho) (W.more p) (L ++ [o]) where
  len := by show (W.mu ++ [p]).length = _; rw [List.length_append, List.length_append, r.len, List.length_singleton, List.length_singleton]
  inj := fun n m a l1 l2 => by
    rcases live_more r l1 with l1 | ⟨e1, e2⟩ <;> rcases live_more r l2 with l2 | ⟨e3, e4⟩
    · exact r.inj n m a l1 l2
    · obtain ⟨u, h⟩ := r.there l1; rw [e4, hp] at h; cases h
    · obtain ⟨u, h⟩ := r.there l2; rw [e2, hp] at h; cases h
    · rw [e1, e3]
  nfz := fun n a l f => by
    rcases live_more r l with l | ⟨_, e⟩
    · exact r.nfz n a l f
    · obtain ⟨u, h⟩ := r.fzt a f
      rw [e, hp] at h; cases h
  fzt := fun a f => by
    obtain ⟨u, h⟩ := r.fzt a f
    exact ⟨u, by rw [upd_ne (ne_of_none h hp)]; exact h⟩
  ok := fun n a u h1 h2 => by
    by_cases hn : n < L.length
    · have h1' : (W.mu ++ [p])[n]? = some a := h1
      rw [List.getElem?_append_left (by rw [r.len]; exact hn)] at h1'
      rw [List.getElem?_append_left hn] at h2
      exact (r.ok n a u h1' h2).ext r (Ext.newO (o := o) r hp) fun v h => by rw [upd_ne (ne_of_none h hp)]; exact h
    · have hl : n < (L ++ [o]).length := (List.getElem?_eq_some_iff.mp h2).1
      rw [List.length_append, List.length_singleton] at hl
      have e : n = L.length := by omega
      subst e
      have h1' : (W.mu ++ [p])[L.length]? = some a := h1
      rw [← r.len, List.getElem?_concat_length] at h1'
      rw [List.getElem?_concat_length] at h2
      cases h1'; cases h2
      exact ho'
  gam := G.st r.gam (Ext.newO r hp)
/-- an own object is changed -/
theorem live_set {o : O} {n m : Nat} {a : Addr} {u : O} (hn : L[n]? = some u) (hu : u ≠ .dead) (l : Live W (L.set n o) m a) : Live W L m a := by
  obtain ⟨h1, v, h2, h3⟩ := l
  by_cases e : n = m
  · subst e; exact ⟨h1, u, hn, hu⟩
  · rw [List.getElem?_set_ne e] at h2
    exact ⟨h1, v, h2, h3⟩
theorem Ext.set {o u : O} {n : Nat} {a : Addr} (hm : W.mu[n]? = some a) (hn : L[n]? = some u) (hu : u ≠ .dead) : Ext W L H W (L.set n o) (upd H a ho) where
  pre := ⟨[], (List.append_nil _).symm⟩
  fz := fun _ h => h
  keep := fun b v h nl => by
    have : b ≠ a := fun e => nl n (by rw [e]; exact ⟨hm, u, hn, hu⟩)
    rw [upd_ne this]; exact h
  live := fun m b l => .inl ⟨m, live_set hn hu l⟩
  fzn := fun _ h => .inl h
theorem SR.set {o u : O} {n : Nat} {a : Addr} (r : SR K w G H W L) (hm : W.mu[n]? = some a) (hn : L[n]? = some u) (hu : u ≠ .dead) (ho' : IsO K w (upd H a ho) W a o) : SR K w G (upd H a ho) W (L.set n o) where
  len := by rw [List.length_set]; exact r.len
  inj := fun n1 m1 b l1 l2 => r.inj n1 m1 b (live_set hn hu l1) (live_set hn hu l2)
  nfz := fun n1 b l f => r.nfz n1 b (live_set hn hu l) f
  fzt := fun b f => by
    obtain ⟨v, h⟩ := r.fzt b f
    by_cases e : b = a
    · exact ⟨ho, by rw [e, upd_same]⟩
    · exact ⟨v, by rw [upd_ne e]; exact h⟩
  ok := fun m b v h1 h2 => by
    by_cases e : n = m
    · subst e
      rw [hm] at h1; cases h1
      rw [List.getElem?_set_self (List.getElem?_eq_some_iff.mp hn).1] at h2
      cases h2
      exact ho'
    · rw [List.getElem?_set_ne e] at h2
      have q := r.ok m b v h1 h2
      by_cases dv : v = .dead
      · rw [dv]; trivial
      · have hne : b ≠ a := fun z => e (r.inj n m a ⟨hm, u, hn, hu⟩ (by rw [← z]; exact ⟨h1, v, h2, dv⟩))
        exact q.ext r (Ext.set (o := o) hm hn hu) fun x h => by rw [upd_ne hne]; exact h
  gam := G.st r.gam (Ext.set hm hn hu)
/-- an own object is frozen: nobody changes it any more -/
theorem Ext.frz {u : O} {n : Nat} {a : Addr} (hm : W.mu[n]? = some a) (hn : L[n]? = some u) (hu : u ≠ .dead) : Ext W L H (W.and a) (L.set n .dead) H :=
  ⟨⟨[], (List.append_nil _).symm⟩, fun _ h => .inr h, fun _ _ h _ => h, fun m _ l => .inl ⟨m, live_set hn hu l⟩, fun b f => by
    rcases f with e | f
    · rw [e]; exact .inr (.inl ⟨n, hm, u, hn, hu⟩)
    · exact .inl f⟩
theorem SR.frz {u : O} {n : Nat} {a : Addr} (r : SR K w G H W L) (hm : W.mu[n]? = some a) (hn : L[n]? = some u) (hu : u ≠ .dead) : SR K w G H (W.and a) (L.set n .dead) where
  len := by rw [List.length_set]; exact r.len
  inj := fun n1 m1 b l1 l2 => r.inj n1 m1 b (live_set hn hu l1) (live_set hn hu l2)
  nfz := fun m b l f => by
    have l' := live_set hn hu l
    rcases f with e | f
    · have e2 : n = m := r.inj n m a ⟨hm, u, hn, hu⟩ (by rw [← e]; exact l')
      subst e2
      obtain ⟨_, v, h2, h3⟩ := l
      rw [List.getElem?_set_self (List.getElem?_eq_some_iff.mp hn).1] at h2
      cases h2
      exact h3 rfl
    · exact r.nfz m b l' f
  fzt := fun b f => by
    rcases f with e | f
    · rw [e]; exact r.there (n := n) ⟨hm, u, hn, hu⟩
    · exact r.fzt b f
  ok := fun m b v h1 h2 => by
    by_cases e : n = m
    · subst e
      rw [List.getElem?_set_self (List.getElem?_eq_some_iff.mp hn).1] at h2
      cases h2
      trivial
    · rw [List.getElem?_set_ne e] at h2
      exact (r.ok m b v h1 h2).ext r (Ext.frz hm hn hu) fun _ h => h
  gam := G.st r.gam (Ext.frz hm hn hu)

variable {R : QE} {Q : VK} {xs : List V} {ds : List D}
theorem Kont.tup (k : Kont K w G W L H R Q) (sr : SR K w G H W L) (hp : H p = none) (is : Iss K w H W xs ds) (r : R (.tup ds) L) : Q (.ref p) (upd H p (.tup xs)) :=
  k _ _ _ _ _ (Ext.new hp) (sr.new hp) (.tup (SqT.of upd_same) (is.ext sr (Ext.new hp))) r
theorem Kont.lst (k : Kont K w G W L H R Q) (sr : SR K w G H W L) (hp : H p = none) (is : Iss K w H W xs ds) (r : R (.lst ds) L) : Q (.ref p) (upd H p (.lst xs)) :=
  k _ _ _ _ _ (Ext.newF hp) (sr.newF hp) (.lst (.inl rfl) (.inl upd_same) (is.ext sr (Ext.newF hp))) r
theorem Kont.own (k : Kont K w G W L H R Q) (sr : SR K w G H W L) (hp : H p = none) (is : Iss K w H W xs ds) (r : R (.ob L.length) (L ++ [.lst ds])) : Q (.ref p) (upd H p (.lst xs)) :=
  k _ _ _ _ _ (Ext.newO sr hp) (sr.newO (o := .lst ds) hp ⟨xs, upd_same, is.ext sr (Ext.newO (o := .lst ds) sr hp)⟩) (.ob (by show (W.mu ++ [p])[L.length]? = _; rw [← sr.len, List.getElem?_concat_length])) r
end

/-! ### names, constants -/
section
variable {X : Cx} {G : Gam} {a b c e : Expr} {ta tb tc : tE} {pos : Pos}
def tV (i : Nat) : tE := fun ρ L R => match ρ[i]? with
  | some (some d) => R d L
  | _ => False
def tK (d : D) : tE := fun _ L R => R d L
theorem de_var (i : Nat) {x : Str} {pos : Pos} (hN : X.N[i]? = some x := by rfl) (hv : Vis X.env.scope x := by first | exact Or.inl rfl | exact Or.inr (Or.inl rfl) | exact Or.inr (Or.inr rfl)) (hd : (x == ("__debug__" : Str)) = false := by decide)
    (hcd : (x == ("__classdict__" : Str)) = false := by decide) : DE X G (.Name x pos) (tV i) := by
  refine ⟨PE.imp (pv i hN hv hd hcd) fun σ H Q ⟨W, ρ, L, R, es, sr, h, k⟩ => ?_⟩
  unfold tV at h
  split at h
  · rename_i d hd'
    obtain ⟨v, hv', is⟩ := es.get hd'
    exact ⟨v, hv', k.here sr is h⟩
  · exact h.elim
/-- a constant value -/
theorem de_const {v : V} {d : D} (h : PE X e (tC v)) (i : ∀ K w H W, Is K w H W v d) : DE X G e (tK d) := ⟨PE.imp h fun σ H Q ⟨W, ρ, L, R, es, sr, h, k⟩ => k.here sr (i _ _ _ _) h⟩
theorem de_int {i j pos} : DE X G (.Constant (.int i) j pos) (tK (.int i)) := de_const pe_int fun _ _ _ _ => .int i
theorem de_bl {i j pos} : DE X G (.Constant (.bool i) j pos) (tK (.bl i)) := de_const pe_bl fun _ _ _ _ => .bl i
theorem de_non {j pos} : DE X G (.Constant .none j pos) (tK .non) := de_const pe_non fun _ _ _ _ => .non
theorem de_str {i j pos} : DE X G (.Constant (.str i) j pos) (tK (.str i)) := de_const pe_str fun _ _ _ _ => .str i
/-- a module's object: an own class, a def -/
theorem de_glob {x : Str} {f : Addr} {pos : Pos} (hg : Gl X x) (hm : X.mg x = some (.ref f)) (hd : (x == ("__debug__" : Str)) = false := by decide) : DE X G (.Name x pos) (tK (.adr f)) :=
  de_const (pe_glob (v := .ref f) hg hm rfl hd) fun _ _ _ _ => .adr f
/-- a built-in type as a value -/
theorem de_type {x : Str} {n : String} {pos : Pos} (hg : Gl X x) (hm : X.mg x = none) (hv : bootBuiltins x = some (.type n)) (hn : x ≠ "__name__" := by decide) (hd : (x == ("__debug__" : Str)) = false := by decide) : DE X G (.Name x pos) (tK (.ty n)) :=
  de_const (pe_bltn (v := .ty n) hg hm hv rfl hn hd) fun _ _ _ _ => .ty n
/-- a written tuple, list, int of the module -/
theorem de_globV {x : Str} {v : V} {u : Value} {d : D} {pos : Pos} (hg : Gl X x) (hm : X.mg x = some u) (r : RelV v u) (i : ∀ w H W, Is X.K w H W v d) (hd : (x == ("__debug__" : Str)) = false := by decide) : DE X G (.Name x pos) (tK d) :=
  ⟨PE.imp (pe_glob hg hm r hd) fun σ H Q ⟨W, ρ, L, R, es, sr, h, k⟩ => k.here sr (i _ _ _) h⟩

/-! ### two-place operations -/
abbrev O2 := D → D → Sto → QE → Prop
def OpD (K : PySem.W.Frag) (w : World) (o : O2) (r : R2) : Prop :=
  ∀ G W H L x y v u R Q, SR K w G H W L → Is K w H W v x → Is K w H W u y → o x y L R → Kont K w G W L H R Q → r v u H Q
def tB2 (o : O2) (ta tb : tE) : tE := fun ρ L R => ta ρ L fun x L1 => tb ρ L1 fun y L2 => o x y L2 R
theorem two_imp {K : PySem.W.Frag} {w : World} {o : O2} {r : R2} (hd : OpD K w o r) {σ : L2.St} {H : Hp} {Q : VK} (h : lift K w G (tB2 o ta tb) σ H Q) : tOp r (lift K w G ta) (lift K w G tb) σ H Q := by
  obtain ⟨W, ρ, L, R, es, sr, h, k⟩ := h
  exact ⟨W, ρ, L, _, es, sr, h, fun x L1 W1 H1 v x1 sr1 is1 h1 => ⟨W1, ρ, L1, _, es.ext sr x1, sr1, h1, fun y L2 W2 H2 u x2 sr2 is2 h2 => hd G W2 H2 L2 x y v u R Q sr2 (is1.ext sr1 x2) is2 h2 (k.ext (x1.trans x2))⟩⟩
theorem de_bin {op : Operator} {o : O2} {r : R2} (ho : OpR X (binaryOp op) r) (hd : OpD X.K X.w o r) (ha : DE X G a ta) (hb : DE X G b tb) : DE X G (.BinOp a op b pos) (tB2 o ta tb) :=
  ⟨PE.imp (pe_op ho ha.pe hb.pe) fun _ _ _ h => two_imp hd h⟩
theorem de_cmp {op : CmpOp} {o : O2} {r : R2} (ho : OpR X (compareOp op) r) (hd : OpD X.K X.w o r) (ha : DE X G a ta) (hb : DE X G b tb) (hm : behindInMarks op b = false) : DE X G (.Compare a [op] [b] pos) (tB2 o ta tb) :=
  ⟨PE.imp (pe_cmpR ho ha.pe hb.pe hm) fun _ _ _ h => two_imp hd h⟩
/-- a value that is to be a bool -/
def asB (R : QT) : QE := fun d L => match d with
  | .bl b => R b L
  | _ => False
def tTB (t : tE) : tT := fun ρ L R => t ρ L (asB R)
theorem kontB {K : PySem.W.Frag} {w : World} {W : Wd} {L : Sto} {H : Hp} {R : QT} {Q : Bool → Hp → Prop} (k : KontT K w G W L H R Q) : Kont K w G W L H (asB R) (fun x H' => ∃ c, x = .bl c ∧ Q c H') := fun d L2 W2 H2 v x sr is r => by
  cases d with
  | bl c => cases is; exact ⟨c, rfl, k c L2 W2 H2 x sr r⟩
  | _ => exact r.elim
theorem dt_cmp {op : CmpOp} {o : O2} {r : R2} (ho : OpR X (compareOp op) r) (hd : OpD X.K X.w o r) (ha : DE X G a ta) (hb : DE X G b tb) (hm : behindInMarks op b = false) : DT X G (.Compare a [op] [b] pos) (tTB (tB2 o ta tb)) :=
  ⟨PT.imp (pt_cmpR ho ha.pe hb.pe hm) fun σ H Q ⟨W, ρ, L, R, es, sr, h, k⟩ => two_imp hd ⟨W, ρ, L, asB R, es, sr, h, kontB k⟩⟩

/-! ### one-place operations -/
abbrev O1 := D → Sto → QE → Prop
def UnD (K : PySem.W.Frag) (w : World) (o : O1) (r : V → Hp → VK → Prop) : Prop := ∀ G W H L x v R Q, SR K w G H W L → Is K w H W v x → o x L R → Kont K w G W L H R Q → r v H Q
def tB1 (o : O1) (ta : tE) : tE := fun ρ L R => ta ρ L fun x L1 => o x L1 R
theorem de_un {op : UnaryOp} {o : O1} {r : V → Hp → VK → Prop} (ho : UnR X (unaryOp op) r) (hd : UnD X.K X.w o r) (ha : DE X G a ta) : DE X G (.UnaryOp op a pos) (tB1 o ta) :=
  ⟨PE.imp (pe_un ho ha.pe) fun σ H Q ⟨W, ρ, L, R, es, sr, h, k⟩ => ⟨W, ρ, L, _, es, sr, h, fun x L1 W1 H1 v x1 sr1 is1 h1 => hd G W1 H1 L1 x v R Q sr1 is1 h1 (k.ext x1)⟩⟩

/-! ### ints -/
def oI (g : Int → Int → D) : O2 := fun x y L R => match x, y with
  | .int i, .int j => R (g i j) L
  | _, _ => False
/-- ints under a condition -/
def oIC (C : Int → Int → Prop) (g : Int → Int → D) : O2 := fun x y L R => match x, y with
  | .int i, .int j => C i j ∧ R (g i j) L
  | _, _ => False
theorem od_I {K w} {g : Int → Int → V} {g' : Int → Int → D} (hg : ∀ H W i j, Is K w H W (g i j) (g' i j)) : OpD K w (oI g') (rI0 g) := by
  intro G W H L x y v u R Q sr ix iy h k
  cases x with
  | int i =>
    cases y with
    | int j => cases ix; cases iy; exact ⟨i, j, rfl, rfl, k.here sr (hg _ _ i j) h⟩
    | _ => exact h.elim
  | _ => exact h.elim
theorem od_IC {K w} {C : Int → Int → Prop} {g : Int → Int → V} {g' : Int → Int → D} (hg : ∀ H W i j, Is K w H W (g i j) (g' i j)) : OpD K w (oIC C g') (rI C g) := by
  intro G W H L x y v u R Q sr ix iy h k
  cases x with
  | int i =>
    cases y with
    | int j => cases ix; cases iy; exact ⟨i, j, rfl, rfl, h.1, k.here sr (hg _ _ i j) h.2⟩
    | _ => exact h.elim
  | _ => exact h.elim
abbrev oSub : O2 := oI fun i j => .int (i - j)
abbrev oMul : O2 := oIC CMul fun i j => .int (i * j)
abbrev oMod : O2 := oIC (fun _ j => 0 < j) fun i j => .int (i % j)
abbrev oDiv : O2 := oIC CDivW fun i j => .int (i / j)
abbrev oPow : O2 := oIC CPow fun i j => .int (i ^ j.toNat)
abbrev oLt : O2 := oI fun i j => .bl (decide (i < j))
abbrev oLe : O2 := oI fun i j => .bl (decide (i ≤ j))
abbrev oGt : O2 := oI fun i j => .bl (decide (j < i))
abbrev oGe : O2 := oI fun i j => .bl (decide (j ≤ i))
theorem de_sub (ha : DE X G a ta) (hb : DE X G b tb) : DE X G (.BinOp a .Sub b pos) (tB2 oSub ta tb) := de_bin op_sub (od_I fun _ _ _ _ => .int _) ha hb
theorem de_mul (ha : DE X G a ta) (hb : DE X G b tb) : DE X G (.BinOp a .Mult b pos) (tB2 oMul ta tb) := de_bin op_mul (od_IC fun _ _ _ _ => .int _) ha hb
theorem de_mod (ha : DE X G a ta) (hb : DE X G b tb) : DE X G (.BinOp a .Mod b pos) (tB2 oMod ta tb) := de_bin op_mod (od_IC fun _ _ _ _ => .int _) ha hb
theorem de_div (ha : DE X G a ta) (hb : DE X G b tb) : DE X G (.BinOp a .FloorDiv b pos) (tB2 oDiv ta tb) := de_bin op_fdivW (od_IC fun _ _ _ _ => .int _) ha hb
theorem de_pow (ha : DE X G a ta) (hb : DE X G b tb) : DE X G (.BinOp a .Pow b pos) (tB2 oPow ta tb) := de_bin op_pow (od_IC fun _ _ _ _ => .int _) ha hb
theorem de_lt (ha : DE X G a ta) (hb : DE X G b tb) : DE X G (.Compare a [.Lt] [b] pos) (tB2 oLt ta tb) := de_cmp op_lt (od_I fun _ _ _ _ => .bl _) ha hb (nomark _)
theorem de_le (ha : DE X G a ta) (hb : DE X G b tb) : DE X G (.Compare a [.LtE] [b] pos) (tB2 oLe ta tb) := de_cmp op_le (od_I fun _ _ _ _ => .bl _) ha hb (nomark _)
theorem de_gt (ha : DE X G a ta) (hb : DE X G b tb) : DE X G (.Compare a [.Gt] [b] pos) (tB2 oGt ta tb) := de_cmp op_gt (od_I fun _ _ _ _ => .bl _) ha hb (nomark _)
theorem de_ge (ha : DE X G a ta) (hb : DE X G b tb) : DE X G (.Compare a [.GtE] [b] pos) (tB2 oGe ta tb) := de_cmp op_ge (od_I fun _ _ _ _ => .bl _) ha hb (nomark _)
theorem dt_lt (ha : DE X G a ta) (hb : DE X G b tb) : DT X G (.Compare a [.Lt] [b] pos) (tTB (tB2 oLt ta tb)) := dt_cmp op_lt (od_I fun _ _ _ _ => .bl _) ha hb (nomark _)
theorem dt_le (ha : DE X G a ta) (hb : DE X G b tb) : DT X G (.Compare a [.LtE] [b] pos) (tTB (tB2 oLe ta tb)) := dt_cmp op_le (od_I fun _ _ _ _ => .bl _) ha hb (nomark _)
theorem dt_gt (ha : DE X G a ta) (hb : DE X G b tb) : DT X G (.Compare a [.Gt] [b] pos) (tTB (tB2 oGt ta tb)) := dt_cmp op_gt (od_I fun _ _ _ _ => .bl _) ha hb (nomark _)
theorem dt_ge (ha : DE X G a ta) (hb : DE X G b tb) : DT X G (.Compare a [.GtE] [b] pos) (tTB (tB2 oGe ta tb)) := dt_cmp op_ge (od_I fun _ _ _ _ => .bl _) ha hb (nomark _)
def oNeg : O1 := fun x L R => match x with
  | .int i => R (.int (-i)) L
  | _ => False
theorem de_neg (ha : DE X G a ta) : DE X G (.UnaryOp .USub a pos) (tB1 oNeg ta) := de_un un_neg (fun G W H L x v R Q sr is h k => by
  cases x with
  | int i => cases is; exact ⟨i, rfl, k.here sr (.int _) h⟩
  | _ => exact h.elim) ha
/-- a op b op' c of ints -/
def tCh (o o' : O2) (ta tb tc : tE) : tE := fun ρ L R => ta ρ L fun x L1 => tb ρ L1 fun y L2 => o x y L2 fun z L3 => match z with
  | .bl k => if k = true then tc ρ L3 fun u L4 => o' y u L4 R else R (.bl false) L3
  | _ => False
theorem chain_imp {K : PySem.W.Frag} {w : World} {o o' : O2} {r r' : R2} (hd : OpD K w o r) (hd' : OpD K w o' r') {σ : L2.St} {H : Hp} {Q : VK} (h : lift K w G (tCh o o' ta tb tc) σ H Q) : tChain r r' (lift K w G ta) (lift K w G tb) (lift K w G tc) σ H Q := by
  obtain ⟨W, ρ, L, R, es, sr, h, k⟩ := h
  refine ⟨W, ρ, L, _, es, sr, h, fun x L1 W1 H1 v x1 sr1 is1 h1 => ⟨W1, ρ, L1, _, es.ext sr x1, sr1, h1, fun y L2 W2 H2 u x2 sr2 is2 h2 => hd G W2 H2 L2 x y v u _ _ sr2 (is1.ext sr1 x2) is2 h2 fun z L3 W3 H3 t x3 sr3 is3 h3 => ?_⟩⟩
  cases z with
  | bl c =>
    cases is3
    refine ⟨c, rfl, ?_⟩
    have es3 := ((es.ext sr x1).ext sr1 x2).ext sr2 x3
    cases c with
    | true =>
      rw [if_pos rfl]
      have h3 := (if_pos rfl).mp h3
      exact ⟨W3, ρ, L3, _, es3, sr3, h3, fun s L4 W4 H4 t x4 sr4 is4 h4 => hd' G W4 H4 L4 y s u t R Q sr4 ((is2.ext sr2 x3).ext sr3 x4) is4 h4 (k.ext (((x1.trans x2).trans x3).trans x4))⟩
    | false =>
      rw [if_neg Bool.false_ne_true]
      have h3 := (if_neg Bool.false_ne_true).mp h3
      exact (k.ext ((x1.trans x2).trans x3)).here sr3 (.bl false) h3
  | _ => exact h3.elim
theorem de_lele (ha : DE X G a ta) (hb : DE X G b tb) (hc : DE X G c tc) (hm : lastMarks [.LtE, .LtE] [b, c] = false := by with_unfolding_all rfl) : DE X G (.Compare a [.LtE, .LtE] [b, c] pos) (tCh oLe oLe ta tb tc) :=
  ⟨PE.imp (pe_chain op_le op_le ha.pe hb.pe hc.pe hm) fun _ _ _ h => chain_imp (od_I fun _ _ _ _ => .bl _) (od_I fun _ _ _ _ => .bl _) h⟩
theorem dt_lele (ha : DE X G a ta) (hb : DE X G b tb) (hc : DE X G c tc) (hm : lastMarks [.LtE, .LtE] [b, c] = false := by with_unfolding_all rfl) : DT X G (.Compare a [.LtE, .LtE] [b, c] pos) (tTB (tCh oLe oLe ta tb tc)) :=
  ⟨PT.imp (pt_chain op_le op_le ha.pe hb.pe hc.pe hm) fun σ H Q ⟨W, ρ, L, R, es, sr, h, k⟩ => chain_imp (od_I fun _ _ _ _ => .bl _) (od_I fun _ _ _ _ => .bl _) ⟨W, ρ, L, asB R, es, sr, h, kontB k⟩⟩
end
end L2.DL

set_option Elab.async false
set_option linter.all false
set_option maxRecDepth 100000
/-! DC: equality, membership, truth, and/or/not, displays, subscripts, built-ins. -/
namespace L2.DL
open PySem PySem.Spec PyProof.Rows

/-! ### == -/
mutual
def eqD : D → D → Bool
  | .non, .non => true
  | .bl a, .bl b => a == b
  | .bl a, .int j => (if a then 1 else 0) == j
  | .int i, .bl b => i == (if b then 1 else 0)
  | .int i, .int j => decide (i = j)
  | .str x, .str y => decide (x = y)
  | .lst xs, .lst ys => eqDs xs ys
  | .tup xs, .tup ys => eqDs xs ys
  | _, _ => false
def eqDs : List D → List D → Bool
  | [], [] => true
  | x :: xs, y :: ys => eqD x y && eqDs xs ys
  | _, _ => false
end
/-- data at most so deep -/
def fitD : Nat → D → Bool
  | _, .non => true
  | _, .bl _ => true
  | _, .int _ => true
  | _, .str x => PyData.strOk x
  | n + 1, .tup xs => xs.all (fitD n)
  | n + 1, .lst xs => xs.all (fitD n)
  | _, _ => false
mutual
def pdOf : D → PyData
  | .bl b => .bool b
  | .int i => .int i
  | .str x => .str x
  | .tup xs => .tuple (pdOfs xs)
  | .lst xs => .list (pdOfs xs)
  | _ => .none
def pdOfs : List D → List PyData
  | [] => []
  | x :: xs => pdOf x :: pdOfs xs
end
theorem fitD_tup {n : Nat} {xs : List D} (h : fitD n (.tup xs) = true) : ∃ m, n = m + 1 ∧ ∀ x ∈ xs, fitD m x = true := by
  cases n with
  | zero => simp [fitD] at h
  | succ m => exact ⟨m, rfl, by simpa [fitD] using h⟩
theorem fitD_lst {n : Nat} {xs : List D} (h : fitD n (.lst xs) = true) : ∃ m, n = m + 1 ∧ ∀ x ∈ xs, fitD m x = true := by
  cases n with
  | zero => simp [fitD] at h
  | succ m => exact ⟨m, rfl, by simpa [fitD] using h⟩
mutual
theorem fit_lay : ∀ (d : D) (n : Nat), fitD n d = true → (pdOf d).canLay0 = true ∧ (pdOf d).depth ≤ n
  | .non, _, _ => by simp [pdOf, PyData.canLay0, PyData.depth]
  | .bl _, _, _ => by simp [pdOf, PyData.canLay0, PyData.depth]
  | .int _, _, _ => by simp [pdOf, PyData.canLay0, PyData.depth]
  | .str x, n, h => by
    have h' : PyData.strOk x = true := by cases n <;> simpa [fitD] using h
    simp [pdOf, PyData.canLay0, PyData.depth, h']
  | .tup xs, n, h => by
    obtain ⟨m, rfl, h'⟩ := fitD_tup h
    have := fit_lays xs m h'
    simp [pdOf, PyData.canLay0, PyData.depth, this.1, this.2]
  | .lst xs, n, h => by
    obtain ⟨m, rfl, h'⟩ := fitD_lst h
    have := fit_lays xs m h'
    simp [pdOf, PyData.canLay0, PyData.depth, this.1, this.2]
  | .dct _ _, n, h => by cases n <;> simp [fitD] at h
  | .ob _, n, h => by cases n <;> simp [fitD] at h
  | .adr _, n, h => by cases n <;> simp [fitD] at h
  | .ty _, n, h => by cases n <;> simp [fitD] at h
theorem fit_lays : ∀ (xs : List D) (n : Nat), (∀ x ∈ xs, fitD n x = true) → PyData.canLayAll0 (pdOfs xs) = true ∧ PyData.depthAll (pdOfs xs) ≤ n
  | [], _, _ => by simp [pdOfs, PyData.canLayAll0, PyData.depthAll]
  | x :: xs, n, h => by
    have h1 := fit_lay x n (h x List.mem_cons_self)
    have h2 := fit_lays xs n fun y hy => h y (List.mem_cons_of_mem _ hy)
    simp only [pdOfs, PyData.canLayAll0, PyData.depthAll, h1.1, h2.1, Bool.and_self, true_and]
    exact Nat.max_le.mpr ⟨h1.2, h2.2⟩
end
mutual
theorem eqv_eq : ∀ (d e : D) (n m : Nat), fitD n d = true → fitD m e = true → PyData.eqv (pdOf d) (pdOf e) = eqD d e
  | .non, e, _, m, _, h => by cases e <;> first | (simp [pdOf, PyData.eqv, eqD]; done) | (cases m <;> simp [fitD] at h)
  | .bl _, e, _, m, _, h => by cases e <;> first | (simp [pdOf, PyData.eqv, eqD]; done) | (cases m <;> simp [fitD] at h)
  | .int _, e, _, m, _, h => by cases e <;> first | (simp [pdOf, PyData.eqv, eqD]; done) | (simp [pdOf, PyData.eqv, eqD]; rw [Bool.eq_iff_iff]; simp; done) | (cases m <;> simp [fitD] at h)
  | .str _, e, _, m, _, h => by cases e <;> first | (simp [pdOf, PyData.eqv, eqD]; done) | (simp [pdOf, PyData.eqv, eqD]; rw [Bool.eq_iff_iff]; simp; done) | (cases m <;> simp [fitD] at h)
  | .tup xs, e, n, m, h, h' => by
    cases e with
    | tup ys =>
      obtain ⟨n', rfl, a⟩ := fitD_tup h
      obtain ⟨m', rfl, b⟩ := fitD_tup h'
      simp only [pdOf, PyData.eqv, eqD]
      exact eqvs_eq xs ys n' m' a b
    | _ => first | (simp [pdOf, PyData.eqv, eqD]; done) | (cases m <;> simp [fitD] at h')
  | .lst xs, e, n, m, h, h' => by
    cases e with
    | lst ys =>
      obtain ⟨n', rfl, a⟩ := fitD_lst h
      obtain ⟨m', rfl, b⟩ := fitD_lst h'
      simp only [pdOf, PyData.eqv, eqD]
      exact eqvs_eq xs ys n' m' a b
    | _ => first | (simp [pdOf, PyData.eqv, eqD]; done) | (cases m <;> simp [fitD] at h')
  | .dct _ _, _, n, _, h, _ => by cases n <;> simp [fitD] at h
  | .ob _, _, n, _, h, _ => by cases n <;> simp [fitD] at h
  | .adr _, _, n, _, h, _ => by cases n <;> simp [fitD] at h
  | .ty _, _, n, _, h, _ => by cases n <;> simp [fitD] at h
theorem eqvs_eq : ∀ (xs ys : List D) (n m : Nat), (∀ x ∈ xs, fitD n x = true) → (∀ x ∈ ys, fitD m x = true) → PyData.eqvAll (pdOfs xs) (pdOfs ys) = eqDs xs ys
  | [], ys, _, _, _, _ => by cases ys <;> simp [pdOfs, PyData.eqvAll, eqDs]
  | x :: xs, [], _, _, _, _ => by simp [pdOfs, PyData.eqvAll, eqDs]
  | x :: xs, y :: ys, n, m, h, h' => by
    simp only [pdOfs, PyData.eqvAll, eqDs]
    rw [eqv_eq x y n m (h x List.mem_cons_self) (h' y List.mem_cons_self), eqvs_eq xs ys n m (fun z hz => h z (List.mem_cons_of_mem _ hz)) fun z hz => h' z (List.mem_cons_of_mem _ hz)]
end
/-- an own list is looked at as the list that it is -/
def view (L : Sto) : D → D
  | .ob n => match L[n]? with
    | some (.lst xs) => .lst xs
    | _ => .ob n
  | d => d
/-- a list's or tuple's items -/
def seqOf (L : Sto) (d : D) : Option (List D) := match view L d with
  | .lst xs => some xs
  | .tup xs => some xs
  | _ => none

section
variable {K : PySem.W.Frag} {w : World} {G : Gam} {H : Hp} {W : Wd} {L : Sto}
theorem KLst.sq {a : Addr} {xs : List V} (h : KLst K a xs) : SqL K H a xs := .inr h
theorem is_view (sr : SR K w G H W L) {v : V} {d : D} (is : Is K w H W v d) : Is K w H W v (view L d) ∨ ∃ a xs ds, v = .ref a ∧ view L d = .lst ds ∧ H a = some (.lst xs) ∧ Iss K w H W xs ds := by
  cases d with
  | ob n =>
    cases hL : L[n]? with
    | none =>
      have e : view L (.ob n) = .ob n := by simp only [view, hL]
      rw [e]; exact .inl is
    | some o =>
      cases o with
      | lst xs =>
        have e : view L (.ob n) = .lst xs := by simp only [view, hL]
        cases is with
        | ob hm =>
          obtain ⟨ys, h1, h2⟩ := sr.ok _ _ _ hm hL
          exact .inr ⟨_, _, _, rfl, e, h1, h2⟩
      | _ =>
        have e : view L (.ob n) = .ob n := by simp only [view, hL]
        rw [e]; exact .inl is
  | _ => exact .inl is
theorem lst_is {v : V} {ds : List D} (is : Is K w H W v (.lst ds)) : ∃ a xs, v = .ref a ∧ SqL K H a xs ∧ Iss K w H W xs ds := by
  cases is with
  | lst _ h hs => exact ⟨_, _, rfl, .inl h, hs⟩
  | lstK h hs => exact ⟨_, _, rfl, h.sq, hs⟩
theorem view_lst (sr : SR K w G H W L) {v : V} {d : D} {ds : List D} (is : Is K w H W v d) (e : view L d = .lst ds) : ∃ a xs, v = .ref a ∧ SqL K H a xs ∧ Iss K w H W xs ds := by
  rcases is_view sr is with h | ⟨a, xs, es, h1, h2, h3, h4⟩
  · rw [e] at h; exact lst_is h
  · rw [e] at h2; cases h2
    exact ⟨a, xs, h1, SqL.of h3, h4⟩
theorem view_tup (sr : SR K w G H W L) {v : V} {d : D} {ds : List D} (is : Is K w H W v d) (e : view L d = .tup ds) : ∃ a xs, v = .ref a ∧ SqT K H a xs ∧ Iss K w H W xs ds := by
  rcases is_view sr is with h | ⟨a, xs, es, h1, h2, h3, h4⟩
  · rw [e] at h
    cases h with
    | tup h hs => exact ⟨_, _, rfl, h, hs⟩
  · rw [e] at h2; cases h2
theorem seq_is (sr : SR K w G H W L) {v : V} {d : D} {ds : List D} (is : Is K w H W v d) (e : seqOf L d = some ds) : ∃ a xs, v = .ref a ∧ (SqL K H a xs ∨ SqT K H a xs) ∧ Iss K w H W xs ds := by
  unfold seqOf at e
  split at e
  · rename_i xs h
    cases e
    obtain ⟨a, xs, h1, h2, h3⟩ := view_lst sr is h
    exact ⟨a, xs, h1, .inl h2, h3⟩
  · rename_i xs h
    cases e
    obtain ⟨a, xs, h1, h2, h3⟩ := view_tup sr is h
    exact ⟨a, xs, h1, .inr h2, h3⟩
  · cases e
mutual
theorem Is.dp : ∀ {v : V} {d : D} {n : Nat}, Is K w H W v d → fitD n d = true → Dp K H v (pdOf d)
  | _, _, _, .non, _ => by simp only [pdOf]; exact .non
  | _, _, _, .bl b, _ => by simp only [pdOf]; exact .bl b
  | _, _, _, .int i, _ => by simp only [pdOf]; exact .int i
  | _, _, _, .str x, _ => by simp only [pdOf]; exact .str x
  | _, _, _, .tup h hs, f => by
    obtain ⟨m, rfl, h'⟩ := fitD_tup f
    simp only [pdOf]; exact .tup h (Iss.dp hs h')
  | _, _, _, .lst _ h hs, f => by
    obtain ⟨m, rfl, h'⟩ := fitD_lst f
    simp only [pdOf]; exact .lst (.inl h) (Iss.dp hs h')
  | _, _, _, .lstK h hs, f => by
    obtain ⟨m, rfl, h'⟩ := fitD_lst f
    simp only [pdOf]; exact .lst h.sq (Iss.dp hs h')
  | _, _, n, .dct _ _ _, f => by cases n <;> simp [fitD] at f
  | _, _, n, .ob _, f => by cases n <;> simp [fitD] at f
  | _, _, n, .adr _, f => by cases n <;> simp [fitD] at f
  | _, _, n, .ty _, f => by cases n <;> simp [fitD] at f
theorem Iss.dp : ∀ {vs : List V} {ds : List D} {n : Nat}, Iss K w H W vs ds → (∀ x ∈ ds, fitD n x = true) → DpAll K H vs (pdOfs ds)
  | _, _, _, .nil, _ => by simp only [pdOfs]; exact .nil
  | _, _, _, .cons h hs, f => by simp only [pdOfs]; exact .cons (Is.dp h (f _ List.mem_cons_self)) (Iss.dp hs fun x hx => f x (List.mem_cons_of_mem _ hx))
end
theorem view_dp (sr : SR K w G H W L) {v : V} {d : D} {n : Nat} (is : Is K w H W v d) (f : fitD n (view L d) = true) : Dp K H v (pdOf (view L d)) := by
  rcases is_view sr is with h | ⟨a, xs, ds, h1, h2, h3, h4⟩
  · exact h.dp f
  · rw [h2] at f ⊢
    obtain ⟨m, rfl, h'⟩ := fitD_lst f
    rw [h1]
    simp only [pdOf]
    exact .lst (SqL.of h3) (h4.dp h')
theorem shaped_of {d : D} {n : Nat} (f : fitD n d = true) (hn : n ≤ 64) : SeqAt.shaped (pdOf d) = true := by
  have h := fit_lay d n f
  show ((pdOf d).canLay0 && decide ((pdOf d).depth ≤ 64)) = true
  rw [Bool.and_eq_true]
  exact ⟨h.1, decide_eq_true (by omega)⟩
end

/-- how deep data may be -/
abbrev deepest : Nat := 40
def oEq : O2 := fun x y L R => fitD deepest (view L x) = true ∧ fitD deepest (view L y) = true ∧ R (.bl (eqD (view L x) (view L y))) L
def oNe : O2 := fun x y L R => fitD deepest (view L x) = true ∧ fitD deepest (view L y) = true ∧ R (.bl (!eqD (view L x) (view L y))) L
theorem od_eq {K w} : OpD K w oEq (rEqD K) := by
  intro G W H L x y v u R Q sr ix iy h k
  obtain ⟨f1, f2, h⟩ := h
  refine ⟨_, _, view_dp sr ix f1, view_dp sr iy f2, shaped_of f1 (by decide), shaped_of f2 (by decide), ?_⟩
  rw [eqv_eq _ _ _ _ f1 f2]
  exact k.here sr (.bl _) h
theorem od_ne {K w} : OpD K w oNe (rNeD K) := by
  intro G W H L x y v u R Q sr ix iy h k
  obtain ⟨f1, f2, h⟩ := h
  refine ⟨_, _, view_dp sr ix f1, view_dp sr iy f2, shaped_of f1 (by decide), shaped_of f2 (by decide), ?_⟩
  rw [eqv_eq _ _ _ _ f1 f2]
  exact k.here sr (.bl _) h
/-- x in a list or a tuple of data -/
def inD (x : D) (ys : List D) : Bool := ys.any fun y => eqD y x
def oIn : O2 := fun x y L R => match seqOf L y with
  | some ys => fitD deepest (view L x) = true ∧ ys.all (fitD deepest) = true ∧ R (.bl (inD (view L x) ys)) L
  | none => match x, y with
    | .str a, .str b => R (.bl (!(Builtin.Str.occurrences b a 0 b.length 1).isEmpty)) L
    | _, _ => False
def oNotIn : O2 := fun x y L R => match seqOf L y with
  | some ys => fitD deepest (view L x) = true ∧ ys.all (fitD deepest) = true ∧ R (.bl (!inD (view L x) ys)) L
  | none => match x, y with
    | .str a, .str b => R (.bl (!(!(Builtin.Str.occurrences b a 0 b.length 1).isEmpty))) L
    | _, _ => False
section
variable {X : Cx} {G : Gam}
/-- x in t, t a tuple of data -/
def rInT (K : PySem.W.Frag) (neg : Bool) : R2 := fun x y H Q => ∃ d ds, Dp K H x d ∧ Dp K H y (.tuple ds) ∧ SeqAt.shaped d = true ∧ SeqAt.shaped (.tuple ds) = true ∧ Q (.bl (if neg then !ds.any fun z => PyData.eqv z d else ds.any fun z => PyData.eqv z d)) H
theorem op_inT (hu : X.A.units + 65 < cLine) : OpR X (compareOp .In) (rInT X.K false) := by
  intro pins s σ H x y v u Q I rx ry h
  obtain ⟨d, ds, hd, he, sd, se, q⟩ := h
  obtain ⟨as, r1⟩ := Dp.reads I d x v hd rx
  obtain ⟨bs, r2⟩ := Dp.reads I (.tuple ds) y u he ry
  exact SeqAt.in_tuple_reads r2 r1 (SeqAt.canLay_of_shaped se) (SeqAt.canLay_of_shaped sd) (room_in_shaped sd hu) ⟨.bl _, H, I, rfl, q⟩
theorem op_notInT (hu : X.A.units + 65 < cLine) : OpR X (compareOp .NotIn) (rInT X.K true) := by
  intro pins s σ H x y v u Q I rx ry h
  obtain ⟨d, ds, hd, he, sd, se, q⟩ := h
  obtain ⟨as, r1⟩ := Dp.reads I d x v hd rx
  obtain ⟨bs, r2⟩ := Dp.reads I (.tuple ds) y u he ry
  exact SeqAt.notIn_tuple_reads r2 r1 (SeqAt.canLay_of_shaped se) (SeqAt.canLay_of_shaped sd) (room_in_shaped sd hu) ⟨.bl _, H, I, rfl, q⟩
end
theorem any_eqv : ∀ (ys : List D) (x : D) (n : Nat), fitD n x = true → (∀ y ∈ ys, fitD n y = true) → ((pdOfs ys).any fun z => PyData.eqv z (pdOf x)) = inD x ys
  | [], _, _, _, _ => rfl
  | y :: ys, x, n, h, h' => by
    have e1 := any_eqv ys x n h fun z hz => h' z (List.mem_cons_of_mem _ hz)
    have e2 := eqv_eq y x n n (h' y List.mem_cons_self) h
    show ((PyData.eqv (pdOf y) (pdOf x)) || (pdOfs ys).any fun z => PyData.eqv z (pdOf x)) = (eqD y x || inD x ys)
    rw [e1, e2]
theorem all_fit {n : Nat} {ys : List D} (h : ys.all (fitD n) = true) : ∀ y ∈ ys, fitD n y = true := by simpa using h
theorem od_in {K w} : OpD K w oIn (fun x y H Q => rInD K x y H Q ∨ rInT K false x y H Q ∨ ∃ i j, x = .str i ∧ y = .str j ∧ Q (.bl (!(Builtin.Str.occurrences j i 0 j.length 1).isEmpty)) H) := by
  intro G W H L x y v u R Q sr ix iy h k
  unfold oIn at h
  split at h
  · rename_i ys e
    obtain ⟨f1, f2, h⟩ := h
    have f2' := all_fit f2
    have dx := view_dp sr ix f1
    have sx := shaped_of f1 (by decide)
    have ea := any_eqv ys _ _ f1 f2'
    have fl : fitD (deepest + 1) (.lst ys) = true := by simpa [fitD] using f2'
    have ft : fitD (deepest + 1) (.tup ys) = true := by simpa [fitD] using f2'
    obtain ⟨a, xs, rfl, hs, hi⟩ := seq_is sr iy e
    rcases hs with hs | hs
    · refine .inl ⟨_, pdOfs ys, dx, .lst hs (hi.dp f2'), sx, by simpa only [pdOf] using shaped_of fl (by decide), ?_⟩
      rw [ea]; exact k.here sr (.bl _) h
    · refine .inr (.inl ⟨_, pdOfs ys, dx, .tup hs (hi.dp f2'), sx, by simpa only [pdOf] using shaped_of ft (by decide), ?_⟩)
      rw [ea]; exact k.here sr (.bl _) h
  · split at h
    · cases ix; cases iy
      exact .inr (.inr ⟨_, _, rfl, rfl, k.here sr (.bl _) h⟩)
    · exact h.elim
theorem od_notIn {K w} : OpD K w oNotIn (fun x y H Q => rNotInD K x y H Q ∨ rInT K true x y H Q ∨ ∃ i j, x = .str i ∧ y = .str j ∧ Q (.bl (!(!(Builtin.Str.occurrences j i 0 j.length 1).isEmpty))) H) := by
  intro G W H L x y v u R Q sr ix iy h k
  unfold oNotIn at h
  split at h
  · rename_i ys e
    obtain ⟨f1, f2, h⟩ := h
    have f2' := all_fit f2
    have dx := view_dp sr ix f1
    have sx := shaped_of f1 (by decide)
    have ea := any_eqv ys _ _ f1 f2'
    have fl : fitD (deepest + 1) (.lst ys) = true := by simpa [fitD] using f2'
    have ft : fitD (deepest + 1) (.tup ys) = true := by simpa [fitD] using f2'
    obtain ⟨a, xs, rfl, hs, hi⟩ := seq_is sr iy e
    rcases hs with hs | hs
    · refine .inl ⟨_, pdOfs ys, dx, .lst hs (hi.dp f2'), sx, by simpa only [pdOf] using shaped_of fl (by decide), ?_⟩
      rw [ea]; exact k.here sr (.bl _) h
    · refine .inr (.inl ⟨_, pdOfs ys, dx, .tup hs (hi.dp f2'), sx, by simpa only [pdOf] using shaped_of ft (by decide), ?_⟩)
      rw [if_pos rfl, ea]; exact k.here sr (.bl _) h
  · split at h
    · cases ix; cases iy
      exact .inr (.inr ⟨_, _, rfl, rfl, k.here sr (.bl _) h⟩)
    · exact h.elim
section
variable {X : Cx} {G : Gam} {a b c e : Expr} {ta tb tc : tE} {pos : Pos}
theorem de_eq (hu : X.A.units + 65 < cLine) (ha : DE X G a ta) (hb : DE X G b tb) : DE X G (.Compare a [.Eq] [b] pos) (tB2 oEq ta tb) := de_cmp (op_eqD (by omega)) od_eq ha hb (nomark _)
theorem de_ne (hu : X.A.units + 65 < cLine) (ha : DE X G a ta) (hb : DE X G b tb) : DE X G (.Compare a [.NotEq] [b] pos) (tB2 oNe ta tb) := de_cmp (op_neD (by omega)) od_ne ha hb (nomark _)
theorem dt_eq (hu : X.A.units + 65 < cLine) (ha : DE X G a ta) (hb : DE X G b tb) : DT X G (.Compare a [.Eq] [b] pos) (tTB (tB2 oEq ta tb)) := dt_cmp (op_eqD (by omega)) od_eq ha hb (nomark _)
theorem dt_ne (hu : X.A.units + 65 < cLine) (ha : DE X G a ta) (hb : DE X G b tb) : DT X G (.Compare a [.NotEq] [b] pos) (tTB (tB2 oNe ta tb)) := dt_cmp (op_neD (by omega)) od_ne ha hb (nomark _)
theorem de_in (hu : X.A.units + 65 < cLine) (ha : DE X G a ta) (hb : DE X G b tb) (hm : behindInMarks .In b = false := by with_unfolding_all rfl) : DE X G (.Compare a [.In] [b] pos) (tB2 oIn ta tb) := de_cmp ((op_inD hu).or ((op_inT hu).or op_in_str)) od_in ha hb hm
theorem de_notIn (hu : X.A.units + 65 < cLine) (ha : DE X G a ta) (hb : DE X G b tb) (hm : behindInMarks .NotIn b = false := by with_unfolding_all rfl) : DE X G (.Compare a [.NotIn] [b] pos) (tB2 oNotIn ta tb) := de_cmp ((op_notInD hu).or ((op_notInT hu).or L2.op_notIn_str)) od_notIn ha hb hm
theorem dt_in (hu : X.A.units + 65 < cLine) (ha : DE X G a ta) (hb : DE X G b tb) (hm : behindInMarks .In b = false := by with_unfolding_all rfl) : DT X G (.Compare a [.In] [b] pos) (tTB (tB2 oIn ta tb)) := dt_cmp ((op_inD hu).or ((op_inT hu).or op_in_str)) od_in ha hb hm
theorem dt_notIn (hu : X.A.units + 65 < cLine) (ha : DE X G a ta) (hb : DE X G b tb) (hm : behindInMarks .NotIn b = false := by with_unfolding_all rfl) : DT X G (.Compare a [.NotIn] [b] pos) (tTB (tB2 oNotIn ta tb)) := dt_cmp ((op_notInD hu).or ((op_notInT hu).or L2.op_notIn_str)) od_notIn ha hb hm
/-! ### is None -/
def isN : D → Bool
  | .non => true
  | _ => false
def oIsN : O2 := fun x y L R => match y with
  | .non => R (.bl (isN x)) L
  | _ => False
def oNotN : O2 := fun x y L R => match y with
  | .non => R (.bl (!isN x)) L
  | _ => False
theorem isN_eq {K w H W} {v : V} {d : D} (i : Is K w H W v d) : decide (v = .non) = isN d := by cases i <;> simp [isN]
theorem de_isN (ha : DE X G a ta) (hb : DE X G b tb) : DE X G (.Compare a [.Is] [b] pos) (tB2 oIsN ta tb) := de_cmp op_isN (fun G W H L x y v u R Q sr ix iy h k => by
  cases y with
  | non => cases iy; exact ⟨rfl, by rw [isN_eq ix]; exact k.here sr (.bl _) h⟩
  | _ => exact h.elim) ha hb (nomark _)
theorem de_notN (ha : DE X G a ta) (hb : DE X G b tb) : DE X G (.Compare a [.IsNot] [b] pos) (tB2 oNotN ta tb) := de_cmp op_notN (fun G W H L x y v u R Q sr ix iy h k => by
  cases y with
  | non => cases iy; exact ⟨rfl, by rw [isN_eq ix]; exact k.here sr (.bl _) h⟩
  | _ => exact h.elim) ha hb (nomark _)
theorem dt_isN (ha : DE X G a ta) (hb : DE X G b tb) : DT X G (.Compare a [.Is] [b] pos) (tTB (tB2 oIsN ta tb)) := dt_cmp op_isN (fun G W H L x y v u R Q sr ix iy h k => by
  cases y with
  | non => cases iy; exact ⟨rfl, by rw [isN_eq ix]; exact k.here sr (.bl _) h⟩
  | _ => exact h.elim) ha hb (nomark _)
theorem dt_notN (ha : DE X G a ta) (hb : DE X G b tb) : DT X G (.Compare a [.IsNot] [b] pos) (tTB (tB2 oNotN ta tb)) := dt_cmp op_notN (fun G W H L x y v u R Q sr ix iy h k => by
  cases y with
  | non => cases iy; exact ⟨rfl, by rw [isN_eq ix]; exact k.here sr (.bl _) h⟩
  | _ => exact h.elim) ha hb (nomark _)
def oIsB : O2 := fun x y L R => match x, y with
  | .bl i, .bl j => R (.bl (decide (i = j))) L
  | _, _ => False
theorem de_isB (ha : DE X G a ta) (hb : DE X G b tb) : DE X G (.Compare a [.Is] [b] pos) (tB2 oIsB ta tb) := de_cmp L2.op_isBl (fun G W H L x y v u R Q sr ix iy h k => by
  cases x with
  | bl i =>
    cases y with
    | bl j => cases ix; cases iy; exact ⟨i, j, rfl, rfl, k.here sr (.bl _) h⟩
    | _ => exact h.elim
  | _ => exact h.elim) ha hb (nomark _)

/-! ### truth -/
def truD (L : Sto) (d : D) (R : QT) : Prop := match view L d with
  | .non => R false L
  | .bl b => R b L
  | .int i => R (i != 0) L
  | .str x => x.length ≤ sizeLine ∧ R ((x.length : Int) != 0) L
  | .lst xs => R (!xs.isEmpty) L
  | .tup xs => R (!xs.isEmpty) L
  | _ => False
theorem empty_iss {K w H W} {xs : List V} {ds : List D} (h : Iss K w H W xs ds) : (!xs.isEmpty) = !ds.isEmpty := by cases h <;> rfl
theorem tru_is {K w G H W L} (sr : SR K w G H W L) {v : V} {d : D} {R : QT} {Q : Bool → Hp → Prop} (is : Is K w H W v d) (h : truD L d R) (k : KontT K w G W L H R Q) : ∃ b, TruV K v H b ∧ R b L := by
  unfold truD at h
  split at h
  · rename_i e
    rcases is_view sr is with q | ⟨_, _, _, _, q, _⟩
    · rw [e] at q; cases q; exact ⟨false, rfl, h⟩
    · rw [e] at q; cases q
  · rename_i b e
    rcases is_view sr is with q | ⟨_, _, _, _, q, _⟩
    · rw [e] at q; cases q; exact ⟨_, rfl, h⟩
    · rw [e] at q; cases q
  · rename_i b e
    rcases is_view sr is with q | ⟨_, _, _, _, q, _⟩
    · rw [e] at q; cases q; exact ⟨_, rfl, h⟩
    · rw [e] at q; cases q
  · rename_i b e
    rcases is_view sr is with q | ⟨_, _, _, _, q, _⟩
    · rw [e] at q; cases q; exact ⟨_, ⟨h.1, rfl⟩, h.2⟩
    · rw [e] at q; cases q
  · rename_i xs e
    obtain ⟨a, ys, rfl, h1, h2⟩ := view_lst sr is e
    exact ⟨_, .inl ⟨_, h1, rfl⟩, by rw [empty_iss h2]; exact h⟩
  · rename_i xs e
    obtain ⟨a, ys, rfl, h1, h2⟩ := view_tup sr is e
    exact ⟨_, .inr (.inl ⟨_, h1, rfl⟩), by rw [empty_iss h2]; exact h⟩
  · exact h.elim
def tTru (t : tE) : tT := fun ρ L R => t ρ L fun d L1 => truD L1 d R
theorem dt_tru (ha : DE X G a ta) (he : ∀ whole, isTrue a X.env whole = (do let v ← whole; standAt a.pos; holding [v] (truthy v)) := by intro _; rfl) : DT X G a (tTru ta) :=
  ⟨PT.imp (pt_truth ha.pe he) fun σ H Q ⟨W, ρ, L, R, es, sr, h, k⟩ => ⟨W, ρ, L, _, es, sr, h, fun d L1 W1 H1 v x1 sr1 is1 h1 => by
    obtain ⟨b, h2, h3⟩ := tru_is sr1 is1 h1 (k.ext x1)
    exact ⟨b, h2, (k.ext x1) b L1 W1 H1 (Ext.refl _ _ _) sr1 h3⟩⟩⟩
def tNt (t : tT) : tT := fun ρ L R => t ρ L fun b L1 => R (!b) L1
theorem dt_not {t : tT} (h : DT X G a t) : DT X G (.UnaryOp .Not a pos) (tNt t) :=
  ⟨PT.imp (pt_not h.pt) fun σ H Q ⟨W, ρ, L, R, es, sr, h, k⟩ => ⟨W, ρ, L, _, es, sr, h, fun b L1 W1 H1 x1 sr1 h1 => k (!b) L1 W1 H1 x1 sr1 h1⟩⟩
/-- and, or as tests, chains -/
structure DW (X : Cx) (G : Gam) (e : Expr) (t : tT) : Prop where
  pw : PW X e (liftT X.K X.w G t)
def tAn (t u : tT) : tT := fun ρ L R => t ρ L fun b L1 => if b = true then u ρ L1 R else R false L1
def tOr (t u : tT) : tT := fun ρ L R => t ρ L fun b L1 => if b = true then R true L1 else u ρ L1 R
variable {rest : List Expr} {t u : tT}
theorem dt_w (h : DW X G e t) : DT X G e t := ⟨h.pw.pt⟩
theorem dw_and1 (h : DT X G a t) : DW X G (.BoolOp .And [a] pos) t := ⟨pw_and1 h.pt⟩
theorem dw_or1 (h : DT X G a t) : DW X G (.BoolOp .Or [a] pos) t := ⟨pw_or1 h.pt⟩
theorem dw_and (ha : DT X G a t) (hb : DW X G (.BoolOp .And (b :: rest) pos) u) : DW X G (.BoolOp .And (a :: b :: rest) pos) (tAn t u) :=
  ⟨PW.imp (pw_and ha.pt hb.pw) fun σ H Q ⟨W, ρ, L, R, es, sr, h, k⟩ => ⟨W, ρ, L, _, es, sr, h, fun c L1 W1 H1 x1 sr1 h1 => by
    cases c with
    | true => exact ⟨W1, ρ, L1, R, es.ext sr x1, sr1, (if_pos rfl).mp h1, k.ext x1⟩
    | false => exact (k.ext x1) false L1 W1 H1 (Ext.refl _ _ _) sr1 ((if_neg Bool.false_ne_true).mp h1)⟩⟩
theorem dw_or (ha : DT X G a t) (hb : DW X G (.BoolOp .Or (b :: rest) pos) u) : DW X G (.BoolOp .Or (a :: b :: rest) pos) (tOr t u) :=
  ⟨PW.imp (pw_or ha.pt hb.pw) fun σ H Q ⟨W, ρ, L, R, es, sr, h, k⟩ => ⟨W, ρ, L, _, es, sr, h, fun c L1 W1 H1 x1 sr1 h1 => by
    cases c with
    | true => exact (k.ext x1) true L1 W1 H1 (Ext.refl _ _ _) sr1 ((if_pos rfl).mp h1)
    | false => exact ⟨W1, ρ, L1, R, es.ext sr x1, sr1, (if_neg Bool.false_ne_true).mp h1, k.ext x1⟩⟩⟩
/-- and, or, not as values (by truth) -/
def tAnV (ta tb : tE) : tE := fun ρ L R => ta ρ L fun x L1 => truD L1 x fun b L2 => if b = true then tb ρ L2 R else R x L2
def tOrV (ta tb : tE) : tE := fun ρ L R => ta ρ L fun x L1 => truD L1 x fun b L2 => if b = true then R x L2 else tb ρ L2 R
def tNtV (ta : tE) : tE := fun ρ L R => ta ρ L fun x L1 => truD L1 x fun b L2 => R (.bl (!b)) L2
theorem de_and1 {op : BoolOp} (h : DE X G a ta) : DE X G (.BoolOp op [a] pos) ta := ⟨pe_one h.pe⟩
theorem de_and (ha : DE X G a ta) (hb : DE X G (.BoolOp .And (b :: rest) pos) tb) : DE X G (.BoolOp .And (a :: b :: rest) pos) (tAnV ta tb) :=
  ⟨PE.imp (pe_andT ha.pe hb.pe) fun σ H Q ⟨W, ρ, L, R, es, sr, h, k⟩ => ⟨W, ρ, L, _, es, sr, h, fun x L1 W1 H1 v x1 sr1 is1 h1 => by
    obtain ⟨c, h2, h3⟩ := tru_is (Q := fun _ _ => True) sr1 is1 h1 fun _ _ _ _ _ _ _ => trivial
    refine ⟨c, h2, ?_⟩
    cases c with
    | true => rw [if_pos rfl]; exact ⟨W1, ρ, L1, R, es.ext sr x1, sr1, (if_pos rfl).mp h3, k.ext x1⟩
    | false => rw [if_neg Bool.false_ne_true]; exact (k.ext x1).here sr1 is1 ((if_neg Bool.false_ne_true).mp h3)⟩⟩
theorem de_or (ha : DE X G a ta) (hb : DE X G (.BoolOp .Or (b :: rest) pos) tb) : DE X G (.BoolOp .Or (a :: b :: rest) pos) (tOrV ta tb) :=
  ⟨PE.imp (pe_orT ha.pe hb.pe) fun σ H Q ⟨W, ρ, L, R, es, sr, h, k⟩ => ⟨W, ρ, L, _, es, sr, h, fun x L1 W1 H1 v x1 sr1 is1 h1 => by
    obtain ⟨c, h2, h3⟩ := tru_is (Q := fun _ _ => True) sr1 is1 h1 fun _ _ _ _ _ _ _ => trivial
    refine ⟨c, h2, ?_⟩
    cases c with
    | true => rw [if_pos rfl]; exact (k.ext x1).here sr1 is1 ((if_pos rfl).mp h3)
    | false => rw [if_neg Bool.false_ne_true]; exact ⟨W1, ρ, L1, R, es.ext sr x1, sr1, (if_neg Bool.false_ne_true).mp h3, k.ext x1⟩⟩⟩
theorem de_not (ha : DE X G a ta) : DE X G (.UnaryOp .Not a pos) (tNtV ta) :=
  ⟨PE.imp (pe_notT ha.pe) fun σ H Q ⟨W, ρ, L, R, es, sr, h, k⟩ => ⟨W, ρ, L, _, es, sr, h, fun x L1 W1 H1 v x1 sr1 is1 h1 => by
    obtain ⟨c, h2, h3⟩ := tru_is (Q := fun _ _ => True) sr1 is1 h1 fun _ _ _ _ _ _ _ => trivial
    exact ⟨c, h2, (k.ext x1).here sr1 (.bl _) h3⟩⟩⟩
def tIfE (t : tT) (ta tb : tE) : tE := fun ρ L R => t ρ L fun b L1 => if b = true then ta ρ L1 R else tb ρ L1 R
theorem de_if (hc : DT X G c t) (ha : DE X G a ta) (hb : DE X G b tb) : DE X G (.IfExp c a b pos) (tIfE t ta tb) :=
  ⟨PE.imp (pe_ifExp hc.pt ha.pe hb.pe) fun σ H Q ⟨W, ρ, L, R, es, sr, h, k⟩ => ⟨W, ρ, L, _, es, sr, h, fun c L1 W1 H1 x1 sr1 h1 => by
    cases c with
    | true => rw [if_pos rfl]; exact ⟨W1, ρ, L1, R, es.ext sr x1, sr1, (if_pos rfl).mp h1, k.ext x1⟩
    | false => rw [if_neg Bool.false_ne_true]; exact ⟨W1, ρ, L1, R, es.ext sr x1, sr1, (if_neg Bool.false_ne_true).mp h1, k.ext x1⟩⟩⟩

/-! ### argument lists, displays -/
def tNilA : tA := fun _ L R => R [] L
def tConsA (te : tE) (t : tA) : tA := fun ρ L R => te ρ L fun x L1 => t ρ L1 fun xs L2 => R (x :: xs) L2
variable {es : List Expr} {te : tE} {tt : tA}
theorem da_nil : DA X G [] tNilA := ⟨PA.imp pa_nil fun σ H Q ⟨W, ρ, L, R, es, sr, h, k⟩ => k [] L W H [] (Ext.refl _ _ _) sr .nil h⟩
theorem da_cons (ha : DE X G e te) (hr : DA X G es tt) (hs : starEach (e :: es) X.env = (false, eval e X.env) :: starEach es X.env := by rfl) : DA X G (e :: es) (tConsA te tt) :=
  ⟨PA.imp (pa_cons ha.pe hr.pa hs) fun σ H Q ⟨W, ρ, L, R, es, sr, h, k⟩ => ⟨W, ρ, L, _, es, sr, h, fun x L1 W1 H1 v x1 sr1 is1 h1 => ⟨W1, ρ, L1, _, es.ext sr x1, sr1, h1, fun xs L2 W2 H2 vs x2 sr2 is2 h2 =>
    k (x :: xs) L2 W2 H2 (v :: vs) (x1.trans x2) sr2 (.cons (is1.ext sr1 x2) is2) h2⟩⟩⟩
def tTupD (t : tA) : tE := fun ρ L R => t ρ L fun xs L1 => xs.length ≤ sizeLine ∧ R (.tup xs) L1
/-- a list that nobody will change -/
def tLstD (t : tA) : tE := fun ρ L R => t ρ L fun xs L1 => xs.length ≤ sizeLine ∧ R (.lst xs) L1
/-- a list of one's own -/
def tLstO (t : tA) : tE := fun ρ L R => t ρ L fun xs L1 => xs.length ≤ sizeLine ∧ R (.ob L1.length) (L1 ++ [.lst xs])
theorem de_tup {k} (h : DA X G es tt) : DE X G (.Tuple es k pos) (tTupD tt) :=
  ⟨PE.imp (pe_tup h.pa) fun σ H Q ⟨W, ρ, L, R, es, sr, h, k⟩ => ⟨W, ρ, L, _, es, sr, h, fun xs L1 W1 H1 vs x1 sr1 is1 h1 => ⟨by rw [is1.length]; exact h1.1, fun p hp => (k.ext x1).tup sr1 hp is1 h1.2⟩⟩⟩
theorem de_lst (h : DA X G es tt) : DE X G (.List es pos) (tLstD tt) :=
  ⟨PE.imp (pe_lst h.pa) fun σ H Q ⟨W, ρ, L, R, es, sr, h, k⟩ => ⟨W, ρ, L, _, es, sr, h, fun xs L1 W1 H1 vs x1 sr1 is1 h1 => ⟨by rw [is1.length]; exact h1.1, fun p hp => (k.ext x1).lst sr1 hp is1 h1.2⟩⟩⟩
theorem de_lstO (h : DA X G es tt) : DE X G (.List es pos) (tLstO tt) :=
  ⟨PE.imp (pe_lst h.pa) fun σ H Q ⟨W, ρ, L, R, es, sr, h, k⟩ => ⟨W, ρ, L, _, es, sr, h, fun xs L1 W1 H1 vs x1 sr1 is1 h1 => ⟨by rw [is1.length]; exact h1.1, fun p hp => (k.ext x1).own sr1 hp is1 h1.2⟩⟩⟩
end
end L2.DL

set_option Elab.async false
set_option linter.all false
set_option maxRecDepth 100000
/-! DD: + of all kinds, subscripts, slices, built-ins by value. -/
namespace L2.DL
open PySem PySem.Spec PyProof.Rows

/-- an own or frozen list's items -/
def lstOf (L : Sto) (d : D) : Option (List D) := match view L d with
  | .lst xs => some xs
  | _ => none
section
variable {K : PySem.W.Frag} {w : World} {G : Gam} {H : Hp} {W : Wd} {L : Sto}
theorem lstOf_is (sr : SR K w G H W L) {v : V} {d : D} {ds : List D} (is : Is K w H W v d) (e : lstOf L d = some ds) : ∃ a xs, v = .ref a ∧ SqL K H a xs ∧ Iss K w H W xs ds := by
  unfold lstOf at e
  split at e
  · rename_i xs h
    cases e
    exact view_lst sr is h
  · cases e
end

/-! ### + -/
/-- two lists that are read -/
def rCatL (K : PySem.W.Frag) : R2 := fun x y H Q => ∃ a b xs ys, x = .ref a ∧ y = .ref b ∧ SqL K H a xs ∧ SqL K H b ys ∧ xs.length + ys.length ≤ sizeLine ∧ ∀ p, H p = none → Q (.ref p) (upd H p (.lst (xs ++ ys)))
section
variable {X : Cx} {G : Gam}
theorem op_catL : OpR X (binaryOp .Add) (rCatL X.K) := by
  intro pins s σ H x y v u Q I rx ry h
  obtain ⟨l, b, xs, zs, rfl, rfl, hH, hB, hz, q⟩ := h
  cases rx
  cases ry
  obtain ⟨its, r, pl, _⟩ := I.list hH
  obtain ⟨its2, r2, pl2, _⟩ := I.list hB
  have e1 := r.length
  have e2 := r2.length
  obtain ⟨⟨cls, dd, data, sl⟩, ho, hc, n, hd⟩ := pl.isList
  obtain ⟨⟨cls2, dd2, data2, sl2⟩, ho2, hc2, n2, hd2⟩ := pl2.isList
  simp only at hc hd hc2 hd2
  subst hc hd hc2 hd2
  refine concat_meets ⟨_, ho, rfl⟩ ⟨_, ho2, rfl⟩ noFill_list_add seq_list_add PySem.F.slot_list_add PySem.F.entry_list_add (PySem.F.args_list_add_2 _ _) (list_addW l b its.toArray its2.toArray n n2 dd dd2 sl sl2 (by rw [List.size_toArray, List.size_toArray]; omega)) ⟨ho, ho2, ?_⟩
  have ea : its.toArray ++ its2.toArray = (its ++ its2).toArray := by simp
  rw [ea]
  exact ⟨.ref _, _, I.lnew (t' := s.toks) (r.append r2) (by rw [List.length_append]; omega), rfl, q _ I.fresh⟩
end
def oAdd : O2 := fun x y L R => match x, y with
  | .int i, .int j => R (.int (i + j)) L
  | .str a, .str b => a.length + b.length ≤ sizeLine ∧ R (.str (a ++ b)) L
  | .tup xs, .tup ys => xs.length + ys.length ≤ sizeLine ∧ R (.tup (xs ++ ys)) L
  | x, y => match lstOf L x, lstOf L y with
    | some xs, some ys => xs.length + ys.length ≤ sizeLine ∧ R (.lst (xs ++ ys)) L
    | _, _ => False
/-- the same, a new list is one's own -/
def oAddO : O2 := fun x y L R => match lstOf L x, lstOf L y with
    | some xs, some ys => xs.length + ys.length ≤ sizeLine ∧ R (.ob L.length) (L ++ [.lst (xs ++ ys)])
    | _, _ => False
theorem od_add {K w} : OpD K w oAdd (fun x y H Q => rI0 (fun i j => .int (i + j)) x y H Q ∨ (∃ i j, x = .str i ∧ y = .str j ∧ i.length + j.length ≤ sizeLine ∧ Q (.str (i ++ j)) H) ∨ rCatA K x y H Q ∨ rCatL K x y H Q) := by
  intro G W H L x y v u R Q sr ix iy h k
  unfold oAdd at h
  split at h
  · cases ix; cases iy; exact .inl ⟨_, _, rfl, rfl, k.here sr (.int _) h⟩
  · cases ix; cases iy; exact .inr (.inl ⟨_, _, rfl, rfl, h.1, k.here sr (.str _) h.2⟩)
  · rename_i xs ys
    obtain ⟨a, vs, rfl, h1, h2⟩ := view_tup (L := L) sr ix rfl
    obtain ⟨b, us, rfl, h3, h4⟩ := view_tup (L := L) sr iy rfl
    refine .inr (.inr (.inl ⟨a, b, vs, us, rfl, rfl, h1, h3, by rw [h2.length, h4.length]; exact h.1, fun e => ?_, fun e1 e2 => ?_, fun e1 e2 p hp => k.tup sr hp (h2.append h4) h.2⟩))
    · subst e
      cases h2
      exact k.here sr (.tup h3 h4) (by simpa using h.2)
    · subst e2
      cases h4
      exact k.here sr (.tup h1 h2) (by simpa using h.2)
  · split at h
    · rename_i e1 e2
      obtain ⟨a, vs, rfl, h1, h2⟩ := lstOf_is sr ix e1
      obtain ⟨b, us, rfl, h3, h4⟩ := lstOf_is sr iy e2
      exact .inr (.inr (.inr ⟨a, b, vs, us, rfl, rfl, h1, h3, by rw [h2.length, h4.length]; exact h.1, fun p hp => k.lst sr hp (h2.append h4) h.2⟩))
    · exact h.elim
theorem od_addO {K w} : OpD K w oAddO (rCatL K) := by
  intro G W H L x y v u R Q sr ix iy h k
  unfold oAddO at h
  split at h
  · rename_i e1 e2
    obtain ⟨a, vs, rfl, h1, h2⟩ := lstOf_is sr ix e1
    obtain ⟨b, us, rfl, h3, h4⟩ := lstOf_is sr iy e2
    exact ⟨a, b, vs, us, rfl, rfl, h1, h3, by rw [h2.length, h4.length]; exact h.1, fun p hp => k.own sr hp (h2.append h4) h.2⟩
  · exact h.elim
section
variable {X : Cx} {G : Gam} {a b c e : Expr} {ta tb tc : tE} {pos : Pos}
theorem de_add (ha : DE X G a ta) (hb : DE X G b tb) : DE X G (.BinOp a .Add b pos) (tB2 oAdd ta tb) := de_bin (op_add.or (op_add_str.or (op_catA.or op_catL))) od_add ha hb
theorem de_addO (ha : DE X G a ta) (hb : DE X G b tb) : DE X G (.BinOp a .Add b pos) (tB2 oAddO ta tb) := de_bin op_catL od_addO ha hb

/-! ### subscripts -/
def atD (xs : List D) : Int → Option D
  | .ofNat n => xs[n]?
  | .negSucc n => if n < xs.length then xs[xs.length - 1 - n]? else none
theorem atI_ofNat {α : Type} {xs : List α} {n : Nat} {v : α} (h : xs[n]? = some v) : atI xs (Int.ofNat n) = some v := atI_nat h
theorem atI_neg {α : Type} {xs : List α} {n : Nat} {v : α} (hn : n < xs.length) (h : xs[xs.length - 1 - n]? = some v) : atI xs (Int.negSucc n) = some v := by
  have e : ixN xs.length (Int.negSucc n) = some (xs.length - 1 - n) := by
    unfold ixN
    rw [if_neg (by omega), if_pos (by omega)]
    congr 1
    omega
  unfold atI
  rw [e]
  exact h
theorem at_is {K w H W} {vs : List V} {ds : List D} {i : Int} {d : D} (is : Iss K w H W vs ds) (e : atD ds i = some d) : ∃ v, atI vs i = some v ∧ Is K w H W v d := by
  cases i with
  | ofNat n =>
    obtain ⟨v, h1, h2⟩ := is.get (i := n) e
    exact ⟨v, atI_ofNat h1, h2⟩
  | negSucc n =>
    by_cases hn : n < ds.length
    · simp only [atD, if_pos hn] at e
      obtain ⟨v, h1, h2⟩ := is.get e
      rw [← is.length] at h1
      exact ⟨v, atI_neg (by rw [is.length]; exact hn) h1, h2⟩
    · simp only [atD, if_neg hn] at e
      cases e
def oIx : O2 := fun x y L R => match y with
  | .int i => match seqOf L x with
    | some xs => match atD xs i with
      | some v => R v L
      | none => False
    | none => False
  | _ => False
theorem od_ix {K w} : OpD K w oIx (fun x y H Q => rIxL K x y H Q ∨ rIxT K x y H Q) := by
  intro G W H L x y v u R Q sr ix iy h k
  unfold oIx at h
  split at h
  · rename_i i
    split at h
    · rename_i xs e
      split at h
      · rename_i d ed
        cases iy
        obtain ⟨a, vs, rfl, h1, h2⟩ := seq_is sr ix e
        obtain ⟨v, h3, h4⟩ := at_is h2 ed
        rcases h1 with h1 | h1
        · exact .inl ⟨a, vs, i, v, rfl, rfl, h1, h3, k.here sr h4 h⟩
        · exact .inr ⟨a, vs, i, v, rfl, rfl, h1, h3, k.here sr h4 h⟩
      · exact h.elim
    · exact h.elim
  · exact h.elim
theorem de_ix (ha : DE X G a ta) (hb : DE X G b tb) (hs : PlainIx b := by exact fun _ _ => rfl) : DE X G (.Subscript a b pos) (tB2 oIx ta tb) :=
  ⟨PE.imp (pe_ix (ix_list.or ix_tup) ha.pe hb.pe hs) fun _ _ _ h => two_imp od_ix h⟩

/-! ### slices -/
abbrev tP := En → Sto → (Option Int → Sto → Prop) → Prop
def KontP (K : PySem.W.Frag) (w : World) (G : Gam) (W : Wd) (L : Sto) (H : Hp) (R : Option Int → Sto → Prop) (Q : Option Int → Hp → Prop) : Prop :=
  ∀ o L' W' H', Ext W L H W' L' H' → SR K w G H' W' L' → R o L' → Q o H'
def liftP (K : PySem.W.Frag) (w : World) (G : Gam) (t : tP) : TO := fun σ H Q => ∃ W ρ L R, IsS K w H W ρ σ ∧ SR K w G H W L ∧ t ρ L R ∧ KontP K w G W L H R Q
structure DO (X : Cx) (G : Gam) (e : Option Expr) (t : tP) : Prop where
  po : PO X e (liftP X.K X.w G t)
def tNoP : tP := fun _ L R => R none L
def tSomeP (t : tE) : tP := fun ρ L R => t ρ L fun d L1 => match d with
  | .int i => R (some i) L1
  | _ => False
theorem PO.imp {e : Option Expr} {t t' : TO} (h : PO X e t) (i : ∀ σ H Q, t' σ H Q → t σ H Q) : PO X e t' := ⟨fun pins s σ H Q I hw => h.run pins s σ H Q I (i σ H Q hw)⟩
theorem do_none : DO X G none tNoP := ⟨PO.imp po_none fun σ H Q ⟨W, ρ, L, R, es, sr, h, k⟩ => k none L W H (Ext.refl _ _ _) sr h⟩
theorem do_some (ha : DE X G a ta) : DO X G (some a) (tSomeP ta) := ⟨PO.imp (po_some ha.pe) fun σ H Q ⟨W, ρ, L, R, es, sr, h, k⟩ => ⟨W, ρ, L, _, es, sr, h, fun d L1 W1 H1 v x1 sr1 is1 h1 => by
  cases d with
  | int i => cases is1; exact ⟨i, rfl, k (some i) L1 W1 H1 x1 sr1 h1⟩
  | _ => exact h1.elim⟩⟩
def cutD (xs : List D) (lo hi : Option Int) : List D := (xs.drop (HT.sIx xs.length 0 lo)).take (HT.sIx xs.length xs.length hi - HT.sIx xs.length 0 lo)
def oSl (x : D) (lo hi : Option Int) (L : Sto) (R : QE) : Prop := match view L x with
  | .lst xs => R (.lst (cutD xs lo hi)) L
  | .tup xs => R (.tup (cutD xs lo hi)) L
  | .str z => z.length ≤ sizeLine ∧ R (.str (cutS z lo hi)) L
  | _ => False
def tSlD (te : tE) (tl th : tP) : tE := fun ρ L R => te ρ L fun x L1 => tl ρ L1 fun l L2 => th ρ L2 fun u L3 => oSl x l u L3 R
theorem cut_is {K w H W} {vs : List V} {ds : List D} (h : Iss K w H W vs ds) (lo hi : Option Int) : Iss K w H W (cutV vs lo hi) (cutD ds lo hi) := by
  unfold cutV cutD
  rw [h.length]
  exact (h.drop _).take _
theorem sIx_all {n : Nat} {ds : List D} {lo hi : Option Int} (hn : ds.length = n) (h : HT.sIx n 0 lo = 0 ∧ HT.sIx n n hi = n) : cutD ds lo hi = ds := by
  unfold cutD
  rw [hn, h.1, h.2, List.drop_zero, Nat.sub_zero, ← hn, List.take_length]
theorem de_slice {lo hi : Option Expr} {tl th : tP} {p2 : Pos} (ha : DE X G a ta) (hl : DO X G lo tl) (hh : DO X G hi th) : DE X G (.Subscript a (.Slice lo hi none p2) pos) (tSlD ta tl th) :=
  ⟨PE.imp (pe_slice (sl_list.or (sl_tupA.or sl_str)) ha.pe hl.po hh.po) fun σ H Q ⟨W, ρ, L, R, es, sr, h, k⟩ => ⟨W, ρ, L, _, es, sr, h, fun x L1 W1 H1 v x1 sr1 is1 h1 =>
    ⟨W1, ρ, L1, _, es.ext sr x1, sr1, h1, fun l L2 W2 H2 x2 sr2 h2 => ⟨W2, ρ, L2, _, (es.ext sr x1).ext sr1 x2, sr2, h2, fun u L3 W3 H3 x3 sr3 h3 => by
      have is3 := (is1.ext sr1 x2).ext sr2 x3
      have k3 := k.ext ((x1.trans x2).trans x3)
      unfold oSl at h3
      split at h3
      · rename_i xs e
        obtain ⟨p, vs, rfl, h4, h5⟩ := view_lst sr3 is3 e
        exact .inl ⟨p, vs, rfl, h4, fun q hq => k3.lst sr3 hq (cut_is h5 l u) h3⟩
      · rename_i xs e
        obtain ⟨p, vs, rfl, h4, h5⟩ := view_tup sr3 is3 e
        refine .inr (.inl ⟨p, vs, rfl, h4, fun hw => ?_, fun hw q hq => k3.tup sr3 hq (cut_is h5 l u) h3⟩)
        rw [sIx_all (h5.length.symm) hw] at h3
        exact k3.here sr3 (.tup h4 h5) h3
      · rename_i z e
        rcases is_view sr3 is3 with q | ⟨_, _, _, _, q, _⟩
        · rw [e] at q; cases q
          exact .inr (.inr ⟨z, rfl, h3.1, k3.here sr3 (.str _) h3.2⟩)
        · rw [e] at q; cases q
      · exact h3.elim⟩⟩⟩⟩

/-! ### built-ins by value -/
abbrev OA := List D → Sto → QE → Prop
def CbD (K : PySem.W.Frag) (w : World) (o : OA) (r : List V → Hp → VK → Prop) : Prop := ∀ G W H L xs vs R Q, SR K w G H W L → Iss K w H W vs xs → o xs L R → Kont K w G W L H R Q → r vs H Q
def tCa (o : OA) (t : tA) : tE := fun ρ L R => t ρ L fun xs L1 => o xs L1 R
theorem cb_imp {K w} {o : OA} {r : List V → Hp → VK → Prop} {t : tA} (hd : CbD K w o r) {σ : L2.St} {H : Hp} {Q : VK} (h : lift K w G (tCa o t) σ H Q) : tCB r (liftA K w G t) σ H Q := by
  obtain ⟨W, ρ, L, R, es, sr, h, k⟩ := h
  exact ⟨W, ρ, L, _, es, sr, h, fun xs L1 W1 H1 vs x1 sr1 is1 h1 => hd G W1 H1 L1 xs vs R Q sr1 is1 h1 (k.ext x1)⟩
variable {es : List Expr} {tt : tA} {x : Str} {p : Pos} {id T : String} {r : List V → Hp → VK → Prop} {o : OA}
theorem de_callB (hc : CallR X (.builtin id) r) (hd : CbD X.K X.w o r) (hg : Gl X x) (hm : X.mg x = none) (hv : bootBuiltins x = some (.builtin id)) (ha : DA X G (e :: es) tt) (hn : x ≠ "__name__" := by decide) (hdb : (x == ("__debug__" : Str)) = false := by decide)
    (he : starEach (e :: es) X.env = (false, eval e X.env) :: starEach es X.env := by rfl) (hpl : (backTo pos (starEach es X.env)).any (·.1) = false := by rfl) : DE X G (.Call (.Name x p) (e :: es) [] pos) (tCa o tt) :=
  ⟨PE.imp (pe_callB hc hg hm hv ha.pa hn hdb he hpl) fun _ _ _ h => cb_imp hd h⟩
theorem de_callTy (hc : CallR X (.type T) r) (hd : CbD X.K X.w o r) (hg : Gl X x) (hm : X.mg x = none) (hv : bootBuiltins x = some (.type T)) (ha : DA X G (e :: es) tt) (hn : x ≠ "__name__" := by decide) (hdb : (x == ("__debug__" : Str)) = false := by decide)
    (he : starEach (e :: es) X.env = (false, eval e X.env) :: starEach es X.env := by rfl) (hpl : (backTo pos (starEach es X.env)).any (·.1) = false := by rfl) : DE X G (.Call (.Name x p) (e :: es) [] pos) (tCa o tt) :=
  ⟨PE.imp (pe_callTy hc hg hm hv ha.pa hn hdb he hpl) fun _ _ _ h => cb_imp hd h⟩
theorem iss1 {K w H W} {vs : List V} {d : D} (h : Iss K w H W vs [d]) : ∃ v, vs = [v] ∧ Is K w H W v d := by
  cases h with
  | cons a t => cases t; exact ⟨_, rfl, a⟩
theorem iss2 {K w H W} {vs : List V} {d e : D} (h : Iss K w H W vs [d, e]) : ∃ v u, vs = [v, u] ∧ Is K w H W v d ∧ Is K w H W u e := by
  cases h with
  | cons a t =>
    obtain ⟨u, rfl, b⟩ := iss1 t
    exact ⟨_, _, rfl, a, b⟩

/-- len -/
def lenD (L : Sto) (d : D) (R : QE) : Prop := match view L d with
  | .lst xs => R (.int xs.length) L
  | .tup xs => R (.int xs.length) L
  | .str z => z.length ≤ sizeLine ∧ R (.int z.length) L
  | _ => False
def cLen : OA := fun xs L R => match xs with
  | [d] => lenD L d R
  | _ => False
theorem cb_len {K w} : CbD K w cLen (fun xs H Q => ∃ x n, xs = [x] ∧ LenV K x H n ∧ Q (.int n) H) := by
  intro G W H L xs vs R Q sr is h k
  unfold cLen at h
  split at h
  · obtain ⟨v, rfl, i⟩ := iss1 is
    unfold lenD at h
    split at h
    · rename_i e
      obtain ⟨p, us, rfl, h4, h5⟩ := view_lst sr i e
      exact ⟨_, _, rfl, .inl ⟨_, h4, rfl⟩, k.here sr (.int _) (by rw [h5.length]; exact h)⟩
    · rename_i e
      obtain ⟨p, us, rfl, h4, h5⟩ := view_tup sr i e
      exact ⟨_, _, rfl, .inr ⟨_, h4, rfl⟩, k.here sr (.int _) (by rw [h5.length]; exact h)⟩
    · rename_i z e
      rcases is_view sr i with q | ⟨_, _, _, _, q, _⟩
      · rw [e] at q; cases q
        exact ⟨_, _, rfl, ⟨h.1, rfl⟩, k.here sr (.int _) h.2⟩
      · rw [e] at q; cases q
    · exact h.elim
  · exact h.elim
theorem de_len (hm : X.mg "len" = none) (ha : DA X G (e :: es) tt) (hg : Gl X "len" := by rfl) (he : starEach (e :: es) X.env = (false, eval e X.env) :: starEach es X.env := by rfl) (hpl : (backTo pos (starEach es X.env)).any (·.1) = false := by rfl) :
    DE X G (.Call (.Name "len" p) (e :: es) [] pos) (tCa cLen tt) := de_callB call_len cb_len hg hm PySem.boot_len ha (by decide) (by decide) he hpl
def cAbs : OA := fun xs L R => match xs with
  | [.int i] => R (.int (if i < 0 then -i else i)) L
  | _ => False
theorem cb_abs {K w} : CbD K w cAbs (fun xs H Q => ∃ i, xs = [.int i] ∧ Q (.int (if i < 0 then -i else i)) H) := by
  intro G W H L xs vs R Q sr is h k
  unfold cAbs at h
  split at h
  · obtain ⟨v, rfl, i⟩ := iss1 is
    cases i
    exact ⟨_, rfl, k.here sr (.int _) h⟩
  · exact h.elim
theorem de_abs (hm : X.mg "abs" = none) (ha : DA X G (e :: es) tt) (hg : Gl X "abs" := by rfl) (he : starEach (e :: es) X.env = (false, eval e X.env) :: starEach es X.env := by rfl) (hpl : (backTo pos (starEach es X.env)).any (·.1) = false := by rfl) :
    DE X G (.Call (.Name "abs" p) (e :: es) [] pos) (tCa cAbs tt) := de_callB call_abs cb_abs hg hm boot_abs ha (by decide) (by decide) he hpl
def cInt : OA := fun xs L R => match xs with
  | [.int i] => R (.int i) L
  | [.bl b] => R (.int (if b then 1 else 0)) L
  | _ => False
theorem cb_int {K w} : CbD K w cInt (fun xs H Q => (∃ i, xs = [.int i] ∧ Q (.int i) H) ∨ ∃ k, xs = [.bl k] ∧ Q (.int (if k then 1 else 0)) H) := by
  intro G W H L xs vs R Q sr is h k
  unfold cInt at h
  split at h
  · obtain ⟨v, rfl, i⟩ := iss1 is
    cases i
    exact .inl ⟨_, rfl, k.here sr (.int _) h⟩
  · obtain ⟨v, rfl, i⟩ := iss1 is
    cases i
    exact .inr ⟨_, rfl, k.here sr (.int _) h⟩
  · exact h.elim
theorem de_intC (hm : X.mg "int" = none) (ha : DA X G (e :: es) tt) (hg : Gl X "int" := by rfl) (he : starEach (e :: es) X.env = (false, eval e X.env) :: starEach es X.env := by rfl) (hpl : (backTo pos (starEach es X.env)).any (·.1) = false := by rfl) :
    DE X G (.Call (.Name "int" p) (e :: es) [] pos) (tCa cInt tt) := de_callTy call_int1 cb_int hg hm PyProof.Rows.boot_int ha (by decide) (by decide) he hpl
def cMax : OA := fun xs L R => match xs with
  | [.int i, .int j] => R (.int (if j > i then j else i)) L
  | _ => False
def cMin : OA := fun xs L R => match xs with
  | [.int i, .int j] => R (.int (if j < i then j else i)) L
  | _ => False
theorem cb_max {K w} : CbD K w cMax (fun xs H Q => ∃ i j, xs = [.int i, .int j] ∧ Q (.int (if j > i then j else i)) H) := by
  intro G W H L xs vs R Q sr is h k
  unfold cMax at h
  split at h
  · obtain ⟨v, u, rfl, i, j⟩ := iss2 is
    cases i; cases j
    exact ⟨_, _, rfl, k.here sr (.int _) h⟩
  · exact h.elim
theorem cb_min {K w} : CbD K w cMin (fun xs H Q => ∃ i j, xs = [.int i, .int j] ∧ Q (.int (if j < i then j else i)) H) := by
  intro G W H L xs vs R Q sr is h k
  unfold cMin at h
  split at h
  · obtain ⟨v, u, rfl, i, j⟩ := iss2 is
    cases i; cases j
    exact ⟨_, _, rfl, k.here sr (.int _) h⟩
  · exact h.elim
theorem de_max2 (hc : X.calm = true) (hm : X.mg "max" = none) (ha : DA X G (e :: es) tt) (hg : Gl X "max" := by rfl) (he : starEach (e :: es) X.env = (false, eval e X.env) :: starEach es X.env := by rfl) (hpl : (backTo pos (starEach es X.env)).any (·.1) = false := by rfl) :
    DE X G (.Call (.Name "max" p) (e :: es) [] pos) (tCa cMax tt) := de_callB (call_max2 hc) cb_max hg hm boot_max ha (by decide) (by decide) he hpl
theorem de_min2 (hc : X.calm = true) (hm : X.mg "min" = none) (ha : DA X G (e :: es) tt) (hg : Gl X "min" := by rfl) (he : starEach (e :: es) X.env = (false, eval e X.env) :: starEach es X.env := by rfl) (hpl : (backTo pos (starEach es X.env)).any (·.1) = false := by rfl) :
    DE X G (.Call (.Name "min" p) (e :: es) [] pos) (tCa cMin tt) := de_callB (call_min2 hc) cb_min hg hm boot_min ha (by decide) (by decide) he hpl

/-! ### isinstance -/
/-- the built-in type's name of a value -/
def tyD (L : Sto) (d : D) : Option String := match view L d with
  | .non => some "NoneType"
  | .bl _ => some "bool"
  | .int _ => some "int"
  | .str _ => some "str"
  | .lst _ => some "list"
  | .tup _ => some "tuple"
  | _ => none
def isTy (t c : String) : Bool := t == c || (t == "bool" && c == "int")
theorem ty_is {K w G H W L} (sr : SR K w G H W L) {v : V} {d : D} {t : String} (is : Is K w H W v d) (e : tyD L d = some t) : TyX K H v (.type t) ∧ t ∈ ["NoneType", "bool", "int", "str", "list", "tuple"] := by
  unfold tyD at e
  split at e
  all_goals first | (cases e; done) | skip
  all_goals rename_i e2
  all_goals cases e
  · rcases is_view sr is with q | ⟨_, _, _, _, q, _⟩
    · rw [e2] at q; cases q; exact ⟨.base .non, by decide⟩
    · rw [e2] at q; cases q
  · rcases is_view sr is with q | ⟨_, _, _, _, q, _⟩
    · rw [e2] at q; cases q; exact ⟨.base (.bl _), by decide⟩
    · rw [e2] at q; cases q
  · rcases is_view sr is with q | ⟨_, _, _, _, q, _⟩
    · rw [e2] at q; cases q; exact ⟨.base (.int _), by decide⟩
    · rw [e2] at q; cases q
  · rcases is_view sr is with q | ⟨_, _, _, _, q, _⟩
    · rw [e2] at q; cases q; exact ⟨.base (.str _), by decide⟩
    · rw [e2] at q; cases q
  · obtain ⟨p, us, rfl, h4, h5⟩ := view_lst sr is e2
    refine ⟨?_, by decide⟩
    rcases h4 with (h4 | ⟨o, h4⟩) | ⟨o, its, n, h4, h6, _⟩
    · exact .base (.lst h4)
    · exact .base (.frz h4)
    · exact .kList h4 h6
  · obtain ⟨p, us, rfl, h4, h5⟩ := view_tup sr is e2
    refine ⟨?_, by decide⟩
    rcases h4 with (h4 | ⟨o, h4⟩) | ⟨o, its, n, h4, h6, _⟩
    · exact .base (.tup h4)
    · exact .fTuple h4
    · exact .kTuple h4 h6
theorem kit_is {K : PySem.W.Frag} : ∀ t ∈ (["NoneType", "bool", "int", "str", "list", "tuple"] : List String), ∀ c ∈ (["bool", "int", "str", "list", "tuple"] : List String), PySem.W.kitOne K (.type t) (.type c) = some (isTy t c) := by
  have h : ∀ t ∈ (["NoneType", "bool", "int", "str", "list", "tuple"] : List String), ∀ c ∈ (["bool", "int", "str", "list", "tuple"] : List String), kitB t c = some (isTy t c) := by decide +kernel
  exact fun t ht c hc => kit_ty (h t ht c hc)
def isiD (L : Sto) (d c : D) (R : QE) : Prop := match c, tyD L d with
  | .ty c, some t => c ∈ (["bool", "int", "str", "list", "tuple"] : List String) ∧ R (.bl (isTy t c)) L
  | _, _ => False
def cIsi : OA := fun xs L R => match xs with
  | [d, c] => isiD L d c R
  | _ => False
theorem cb_isi {K w} : CbD K w cIsi (rIsi K) := by
  intro G W H L xs vs R Q sr is h k
  unfold cIsi at h
  split at h
  · obtain ⟨v, u, rfl, i, j⟩ := iss2 is
    unfold isiD at h
    split at h
    · rename_i c t e
      obtain ⟨hc, h⟩ := h
      cases j
      obtain ⟨t1, t2⟩ := ty_is sr i e
      exact ⟨v, .ty c, _, _, _, rfl, .ty c, t1, kit_is t t2 c hc, k.here sr (.bl _) h⟩
    · exact h.elim
  · exact h.elim
theorem de_isi (hm : X.mg "isinstance" = none) (ha : DA X G (e :: es) tt) (hg : Gl X "isinstance" := by rfl) (he : starEach (e :: es) X.env = (false, eval e X.env) :: starEach es X.env := by rfl) (hpl : (backTo pos (starEach es X.env)).any (·.1) = false := by rfl) :
    DE X G (.Call (.Name "isinstance" p) (e :: es) [] pos) (tCa cIsi tt) := de_callB call_isi cb_isi hg hm boot_isinstance ha (by decide) (by decide) he hpl
/-- isinstance(x, (S, T)) -/
def isiD2 (L : Sto) (d c : D) (R : QE) : Prop := match c, tyD L d with
  | .tup [.ty c, .ty c'], some t => (c ∈ (["bool", "int", "str", "list", "tuple"] : List String) ∧ c' ∈ (["bool", "int", "str", "list", "tuple"] : List String)) ∧ R (.bl (isTy t c || isTy t c')) L
  | _, _ => False
def cIsi2 : OA := fun xs L R => match xs with
  | [d, c] => isiD2 L d c R
  | _ => False
theorem kit_any {K : PySem.W.Frag} {t c c' : String} (ht : t ∈ (["NoneType", "bool", "int", "str", "list", "tuple"] : List String)) (h1 : c ∈ (["bool", "int", "str", "list", "tuple"] : List String)) (h2 : c' ∈ (["bool", "int", "str", "list", "tuple"] : List String)) :
    PySem.W.kitAny K (.type t) [.type c, .type c'] = some (isTy t c || isTy t c') := by
  refine kitAny_cons (b := isTy t c) (kit_is t ht c h1) (fun e => ?_) fun e => by rw [e, Bool.true_or]
  rw [e, Bool.false_or]
  exact kitAny_cons (b := isTy t c') (kit_is t ht c' h2) (fun e => by rw [e]; exact kitAny_nil) fun e => e
def rIsiS (K : PySem.W.Frag) : List V → Hp → VK → Prop := fun xs H Q => ∃ (x : V) (tp : Addr) (cs : List V) (t : Value) (us : List Value) (b : Bool), xs = [x, .ref tp] ∧ SqT K H tp cs ∧ Paired ClsV cs us ∧ TyX K H x t ∧ PySem.W.kitAny K t us = some b ∧ Q (.bl b) H
theorem call_isiS : CallR X (.builtin "isinstance") (rIsiS X.K) := by
  intro pins s σ H xs us Q I r h
  obtain ⟨x, tp, cs, t, ws, b, rfl, hT, k, ty, e, q⟩ := h
  obtain ⟨u1, u2, rfl, r1, r2⟩ := vals2 r
  cases (show u2 = Value.ref tp from r2)
  obtain ⟨P, Z, p, hx⟩ := kit_of I r1 ty
  obtain ⟨its, rv, ⟨o, h1, h2, n, h3⟩, _⟩ := I.tuple hT
  have e3 := ClsV.all k rv
  subst e3
  obtain ⟨oc, od, dt, sl⟩ := o
  simp only at h2 h3
  subst h2 h3
  exact PySem.W.kia_tup Z I.kIn p h1 e hx fun tk => ⟨.bl b, H, I.tok tk, rfl, q⟩
theorem cb_isi2 {K w} : CbD K w cIsi2 (rIsiS K) := by
  intro G W H L xs vs R Q sr is h k
  unfold cIsi2 at h
  split at h
  · obtain ⟨v, u, rfl, i, j⟩ := iss2 is
    unfold isiD2 at h
    split at h
    · rename_i c c' t e
      obtain ⟨⟨hc, hc'⟩, h⟩ := h
      obtain ⟨t1, t2⟩ := ty_is sr i e
      cases j with
      | tup hs hi =>
        obtain ⟨v1, v2, rfl, i1, i2⟩ := iss2 hi
        cases i1; cases i2
        exact ⟨v, _, _, _, _, _, rfl, hs, .cons (.ty c) (.cons (.ty c') .nil), t1, kit_any t2 hc hc', k.here sr (.bl _) h⟩
    · exact h.elim
  · exact h.elim
theorem de_isi2 (hm : X.mg "isinstance" = none) (ha : DA X G (e :: es) tt) (hg : Gl X "isinstance" := by rfl) (he : starEach (e :: es) X.env = (false, eval e X.env) :: starEach es X.env := by rfl) (hpl : (backTo pos (starEach es X.env)).any (·.1) = false := by rfl) :
    DE X G (.Call (.Name "isinstance" p) (e :: es) [] pos) (tCa cIsi2 tt) := de_callB call_isiS cb_isi2 hg hm boot_isinstance ha (by decide) (by decide) he hpl
end
end L2.DL

set_option Elab.async false
set_option linter.all false
set_option maxRecDepth 100000
/-! DF: targets, statements, loops, comprehensions. -/
namespace L2.DL
open PySem PySem.Spec PyProof.Rows

/-! ### targets -/
section
variable {K : PySem.W.Frag} {w : World} {G : Gam} {H H' : Hp} {W W' : Wd} {L L' : Sto}
abbrev tGs := List D → En → Sto → (En → Sto → Prop) → Prop
def liftGs (K : PySem.W.Frag) (w : World) (G : Gam) (t : tGs) : TGs := fun vs σ H Q => ∃ W ρ L ds R, IsS K w H W ρ σ ∧ SR K w G H W L ∧ Iss K w H W vs ds ∧ t ds ρ L R ∧ KontN K w G W L H R Q
end
structure DGs (X : Cx) (G : Gam) (ts : List Expr) (t : tGs) : Prop where
  pgs : PGs X ts (liftGs X.K X.w G t)
section
variable {X : Cx} {G : Gam} {a b c e : Expr} {ta tb tc te : tE} {pos : Pos}
theorem PGs.imp {ts : List Expr} {t t' : TGs} (h : PGs X ts t) (i : ∀ vs σ H Q, t' vs σ H Q → t vs σ H Q) : PGs X ts t' := ⟨fun pins s σ H v u Q I r hw => h.run pins s σ H v u Q I r (i v σ H Q hw)⟩
def gNm (i : Nat) : tG := fun d ρ L Q => Q (ρ.set i (some d)) L
theorem dg_name {i : Nat} {x : Str} (hN : X.N.Nodup) (hi : X.N[i]? = some x) (hx : Loc X.env.scope x := by first | exact .inl rfl | exact .inr rfl) (hf : X.fn x = true ∨ X.env.scope.names.lookup x = some .local := by first | exact .inl rfl | exact .inr rfl | assumption) : DG X G (.Name x pos) (gNm i) :=
  ⟨PG.imp (pg_name hN hi hx hf) fun v σ H Q ⟨W, ρ, L, d, R, es, sr, is, h, k⟩ => k _ L W H _ (Ext.refl _ _ _) (es.set is i) sr h⟩
def gNilD : tGs := fun ds ρ L Q => match ds with
  | [] => Q ρ L
  | _ => False
def gConsD (t : tG) (u : tGs) : tGs := fun ds ρ L Q => match ds with
  | d :: r => t d ρ L fun ρ1 L1 => u r ρ1 L1 Q
  | [] => False
theorem dgs_nil : DGs X G [] gNilD := ⟨PGs.imp pgs_nil fun vs σ H Q ⟨W, ρ, L, ds, R, es, sr, is, h, k⟩ => by
  cases is with
  | nil => exact ⟨rfl, k _ L W H _ (Ext.refl _ _ _) es sr h⟩
  | cons _ _ => exact h.elim⟩
theorem dgs_cons {ts : List Expr} {t : tG} {u : tGs} (h1 : DG X G e t) (h2 : DGs X G ts u) (hs : (assignEach (e :: ts) X.env).map (·.2) = assign e X.env :: (assignEach ts X.env).map (·.2) := by rfl) : DGs X G (e :: ts) (gConsD t u) :=
  ⟨PGs.imp (pgs_cons h1.pg h2.pgs hs) fun vs σ H Q ⟨W, ρ, L, ds, R, es, sr, is, h, k⟩ => by
    cases is with
    | nil => exact h.elim
    | cons i is => exact ⟨_, _, rfl, W, ρ, L, _, _, es, sr, i, h, fun ρ1 L1 W1 H1 σ1 x1 es1 sr1 h1 => ⟨W1, ρ1, L1, _, R, es1, sr1, is.ext sr x1, h1, k.ext x1⟩⟩⟩
def gTpD (n : Nat) (t : tGs) : tG := fun d ρ L Q => match d with
  | .tup xs => xs.length = n ∧ t xs ρ L Q
  | _ => False
theorem dg_tup {ts : List Expr} {k : Nat} {t : tGs} {n : Nat} (hc : X.calm = true) (h : DGs X G ts t) (hn : (assignEach ts X.env).length = n := by rfl) (hst : (assignEach ts X.env).findIdx? (·.1) = none := by rfl) : DG X G (.Tuple ts k pos) (gTpD n t) :=
  ⟨PG.imp (pg_tup hc h.pgs hn hst) fun v σ H Q ⟨W, ρ, L, d, R, es, sr, is, h, k⟩ => by
    cases d with
    | tup xs =>
      cases is with
      | tup hs hi => exact ⟨_, _, rfl, hs, by rw [hi.length]; exact h.1, W, ρ, L, _, R, es, sr, hi, h.2, k⟩
    | _ => exact h.elim⟩
/-- a store into an own list -/
def posD (n : Nat) : Int → Option Nat
  | .ofNat j => if j < n then some j else none
  | .negSucc j => if j < n then some (n - 1 - j) else none
theorem ixN_pos {n : Nat} {i : Int} {j : Nat} (h : posD n i = some j) : ixN n i = some j := by
  cases i with
  | ofNat k =>
    by_cases hk : k < n
    · simp only [posD, if_pos hk] at h
      cases h
      unfold ixN
      rw [if_pos (show (0 : Int) ≤ Int.ofNat j from Int.natCast_nonneg j), if_pos (show Int.ofNat j < (n : Int) from Int.ofNat_lt.mpr hk)]
      rfl
    · simp only [posD, if_neg hk] at h; cases h
  | negSucc k =>
    by_cases hk : k < n
    · simp only [posD, if_pos hk] at h
      cases h
      unfold ixN
      rw [if_neg (by omega), if_pos (by omega)]
      congr 1
      omega
    · simp only [posD, if_neg hk] at h; cases h
abbrev O3 := D → D → D → Sto → (Sto → Prop) → Prop
def SetD (K : PySem.W.Frag) (w : World) (o : O3) (r : V → V → V → Hp → (Hp → Prop) → Prop) : Prop :=
  ∀ G W H L x i d xv iv v (R : Sto → Prop) (Q : Hp → Prop), SR K w G H W L → Is K w H W xv x → Is K w H W iv i → Is K w H W v d → o x i d L R →
    (∀ L' W' H', Ext W L H W' L' H' → SR K w G H' W' L' → R L' → Q H') → r xv iv v H Q
def gSb (ta ti : tE) (o : O3) : tG := fun d ρ L Q => ta ρ L fun x L1 => ti ρ L1 fun i L2 => o x i d L2 fun L3 => Q ρ L3
theorem dg_sub {ti : tE} {i : Expr} {o : O3} {r : V → V → V → Hp → (Hp → Prop) → Prop} (hr : PSet X r) (hd : SetD X.K X.w o r) (ha : DE X G a ta) (hi : DE X G i ti)
    (hz : ∀ v, assign (.Subscript a i pos) X.env v = (do
      let ov ← holding [v] (eval a X.env)
      let iv ← holding [v, ov] (eval i X.env)
      standAt pos
      holding [v, ov, iv] (setItem ov iv v)
      release [v, ov, iv] []) := by intro _; rfl) : DG X G (.Subscript a i pos) (gSb ta ti o) :=
  ⟨PG.imp (pg_sub ha.pe hi.pe hr hz) fun v σ H Q ⟨W, ρ, L, d, R, es, sr, is, h, k⟩ => ⟨W, ρ, L, _, es, sr, h, fun x L1 W1 H1 xv x1 sr1 is1 h1 => ⟨W1, ρ, L1, _, es.ext sr x1, sr1, h1, fun i L2 W2 H2 iv x2 sr2 is2 h2 =>
    hd G W2 H2 L2 x i d xv iv v _ _ sr2 (is1.ext sr1 x2) is2 ((is.ext sr x1).ext sr1 x2) h2 fun L3 W3 H3 x3 sr3 h3 => k ρ L3 W3 H3 σ ((x1.trans x2).trans x3) (((es.ext sr x1).ext sr1 x2).ext sr2 x3) sr3 h3⟩⟩⟩
def sLst : O3 := fun x i d L Q => match x, i with
  | .ob n, .int k => match L[n]? with
    | some (.lst xs) => match posD xs.length k with
      | some j => Q (L.set n (.lst (xs.set j d)))
      | none => False
    | _ => False
  | _, _ => False
theorem sd_lst {K w} : SetD K w sLst rSetL := by
  intro G W H L x i d xv iv v R Q sr ix ii iv' h k
  unfold sLst at h
  split at h
  · rename_i n z
    split at h
    · rename_i xs e
      split at h
      · rename_i j ej
        cases ix with
        | ob hm =>
          cases ii
          obtain ⟨vs, h1, h2⟩ := sr.ok _ _ _ hm e
          refine ⟨_, vs, z, j, rfl, rfl, h1, by rw [h2.length]; exact ixN_pos ej, ?_⟩
          have ex := Ext.set (o := .lst (xs.set j d)) (ho := .lst (vs.set j v)) (H := H) hm e (by intro z; cases z)
          exact k _ W _ ex (sr.set hm e (by intro z; cases z) ⟨_, upd_same, (h2.set iv' j).ext sr ex⟩) h
      · exact h.elim
    · exact h.elim
  · exact h.elim
theorem dg_subL {ti : tE} {i : Expr} (ha : DE X G a ta) (hi : DE X G i ti)
    (hz : ∀ v, assign (.Subscript a i pos) X.env v = (do
      let ov ← holding [v] (eval a X.env)
      let iv ← holding [v, ov] (eval i X.env)
      standAt pos
      holding [v, ov, iv] (setItem ov iv v)
      release [v, ov, iv] []) := by intro _; rfl) : DG X G (.Subscript a i pos) (gSb ta ti sLst) := dg_sub set_list sd_lst ha hi hz

/-! ### statements -/
variable {st : Stmt} {sts : List Stmt} {t u : tS} {tt : tT}
def tNx : tS := fun DD ρ L => DD.nx ρ L
def tSq (t u : tS) : tS := fun DD ρ L => t { DD with nx := u DD } ρ L
theorem liftS.go {K w G} {σ : L2.St} {H : Hp} {D : Ends} {W : Wd} {ρ : En} {L : Sto} {DD : DEnds} {t : tS} (es : IsS K w H W ρ σ) (sr : SR K w G H W L) (h : t DD ρ L) (k : KontS K w G W L H DD D) : liftS K w G t D σ H := ⟨W, ρ, L, DD, es, sr, h, k⟩
theorem dss_nil : DSs X G [] tNx := ⟨PSs.imp pss_nil fun D σ H ⟨W, ρ, L, DD, es, sr, h, k⟩ => k.nx ρ L W H σ (Ext.refl _ _ _) es sr h⟩
theorem dss_cons (h1 : DS X G st t) (h2 : DSs X G sts u) : DSs X G (st :: sts) (tSq t u) :=
  ⟨PSs.imp (pss_cons h1.ps h2.pss) fun D σ H ⟨W, ρ, L, DD, es, sr, h, k⟩ => ⟨W, ρ, L, _, es, sr, h, ⟨fun ρ1 L1 W1 H1 σ1 x1 es1 sr1 h1 => ⟨W1, ρ1, L1, DD, es1, sr1, h1, k.ext x1⟩, k.rt, k.bk, k.ct⟩⟩⟩
theorem dss_one (h1 : DS X G st t) : DSs X G [st] t := ⟨pss_one h1.ps⟩
theorem ds_pass : DS X G (.Pass pos) tNx := ⟨PS.imp ps_pass fun D σ H ⟨W, ρ, L, DD, es, sr, h, k⟩ => k.nx ρ L W H σ (Ext.refl _ _ _) es sr h⟩
def tBk : tS := fun DD ρ L => DD.bk ρ L
def tCt : tS := fun DD ρ L => DD.ct ρ L
theorem ds_break : DS X G (.Break pos) tBk := ⟨PS.imp ps_break fun D σ H ⟨W, ρ, L, DD, es, sr, h, k⟩ => k.bk ρ L W H σ (Ext.refl _ _ _) es sr h⟩
theorem ds_continue : DS X G (.Continue pos) tCt := ⟨PS.imp ps_continue fun D σ H ⟨W, ρ, L, DD, es, sr, h, k⟩ => k.ct ρ L W H σ (Ext.refl _ _ _) es sr h⟩
def tDp (te : tE) : tS := fun DD ρ L => te ρ L fun _ L1 => DD.nx ρ L1
theorem ds_expr (he : DE X G e te) (hs : swapsWith e none pos.line X.env = pure false := by rfl) : DS X G (.Expr e pos) (tDp te) :=
  ⟨PS.imp (ps_expr he.pe hs) fun D σ H ⟨W, ρ, L, DD, es, sr, h, k⟩ => ⟨W, ρ, L, _, es, sr, h, fun d L1 W1 H1 v x1 sr1 is1 h1 => k.nx ρ L1 W1 H1 σ x1 (es.ext sr x1) sr1 h1⟩⟩
def tRt (te : tE) : tS := fun DD ρ L => te ρ L DD.rt
theorem ds_ret (he : DE X G e te) : DS X G (.Return (some e) pos) (tRt te) := ⟨PS.imp (ps_ret he.pe) fun D σ H ⟨W, ρ, L, DD, es, sr, h, k⟩ => ⟨W, ρ, L, _, es, sr, h, k.rt⟩⟩
def tRtN : tS := fun DD _ L => DD.rt .non L
theorem ds_retN : DS X G (.Return none pos) tRtN := ⟨PS.imp ps_retN fun D σ H ⟨W, ρ, L, DD, es, sr, h, k⟩ => k.rt.here sr .non h⟩
def tIfD (c : tT) (t u : tS) : tS := fun DD ρ L => c ρ L fun b L1 => if b = true then t DD ρ L1 else u DD ρ L1
theorem ds_if {p q : List Stmt} (hc : DT X G c tt) (ha : DSs X G p t) (hb : DSs X G q u) : DS X G (.If c p q pos) (tIfD tt t u) :=
  ⟨PS.imp (ps_if hc.pt ha.pss hb.pss) fun D σ H ⟨W, ρ, L, DD, es, sr, h, k⟩ => ⟨W, ρ, L, _, es, sr, h, fun b L1 W1 H1 x1 sr1 h1 => by
    cases b with
    | true => rw [if_pos rfl]; exact ⟨W1, ρ, L1, DD, es.ext sr x1, sr1, (if_pos rfl).mp h1, k.ext x1⟩
    | false => rw [if_neg Bool.false_ne_true]; exact ⟨W1, ρ, L1, DD, es.ext sr x1, sr1, (if_neg Bool.false_ne_true).mp h1, k.ext x1⟩⟩⟩
def tNo : tS := fun _ _ _ => False
theorem ds_never : DS X G st tNo := ⟨PS.imp ps_never fun D σ H ⟨W, ρ, L, DD, es, sr, h, k⟩ => h.elim⟩
theorem dss_never : DSs X G sts tNo := ⟨PSs.imp pss_never fun D σ H ⟨W, ρ, L, DD, es, sr, h, k⟩ => h.elim⟩
/-- name = e -/
def tSt (te : tE) (i : Nat) : tS := fun DD ρ L => te ρ L fun d L1 => DD.nx (ρ.set i (some d)) L1
theorem ds_set {i : Nat} {x : Str} {pos' : Pos} (hN : X.N.Nodup) (hi : X.N[i]? = some x) (he : DE X G e te) (hx : Loc X.env.scope x := by first | exact .inl rfl | exact .inr rfl) (hs : swapsWith e (some (.Name x pos')) pos.line X.env = pure false := by rfl) (hf : X.fn x = true ∨ X.env.scope.names.lookup x = some .local := by first | exact .inl rfl | exact .inr rfl | assumption) :
    DS X G (.Assign [.Name x pos'] e pos) (tSt te i) :=
  ⟨PS.imp (ps_set hN hi hx he.pe hs hf) fun D σ H ⟨W, ρ, L, DD, es, sr, h, k⟩ => ⟨W, ρ, L, _, es, sr, h, fun d L1 W1 H1 v x1 sr1 is1 h1 => k.nx _ L1 W1 H1 _ x1 ((es.ext sr x1).set is1 i) sr1 h1⟩⟩
def tAs (te : tE) (g : tG) : tS := fun DD ρ L => te ρ L fun d L1 => g d ρ L1 DD.nx
theorem ds_asg {tg : Expr} {g : tG} (he : DE X G e te) (hg : DG X G tg g) (hs : swapsWithSole [tg] e pos.line X.env = pure false := by rfl) (hw : swappedStores [tg] e X.env = pure none := by rfl) (h1 : (assignEach [tg] X.env).map (·.2) = [assign tg X.env] := by rfl) :
    DS X G (.Assign [tg] e pos) (tAs te g) :=
  ⟨PS.imp (ps_asg he.pe hg.pg hs hw h1) fun D σ H ⟨W, ρ, L, DD, es, sr, h, k⟩ => ⟨W, ρ, L, _, es, sr, h, fun d L1 W1 H1 v x1 sr1 is1 h1 => ⟨W1, ρ, L1, d, _, es.ext sr x1, sr1, is1, h1, k.nx.ext x1⟩⟩⟩
/-- a, b = e1, e2 of plain local names -/
def tP2 (i j : Nat) (t : tA) : tS := fun DD ρ L => t ρ L fun ds L1 => match ds with
  | [d, e] => DD.nx ((ρ.set i (some d)).set j (some e)) L1
  | _ => False
theorem ds_par {i j : Nat} {x y : Str} {t : tA} {px py pt : Pos} {kt k2 pt2} (hc : X.calm = true) (hN : X.N.Nodup) (hi : X.N[i]? = some x) (hj : X.N[j]? = some y) (hij : i ≠ j)
    (hx : X.env.scope.names.lookup x = some .local) (hy : X.env.scope.names.lookup y = some .local) (ha : DA X G [a, b] t)
    (hw : swappedStores [.Tuple [.Name x px, .Name y py] kt pt] (.Tuple [a, b] k2 pt2) X.env = pure (some [x, y]))
    (hs : swapsWithSole [.Tuple [.Name x px, .Name y py] kt pt] (.Tuple [a, b] k2 pt2) pos.line X.env = pure false := by rfl) : DS X G (.Assign [.Tuple [.Name x px, .Name y py] kt pt] (.Tuple [a, b] k2 pt2) pos) (tP2 i j t) :=
  ⟨PS.imp (ps_par hc hN hi hj hij hx hy ha.pa hw hs) fun D σ H ⟨W, ρ, L, DD, es, sr, h, k⟩ => ⟨W, ρ, L, _, es, sr, h, fun ds L1 W1 H1 vs x1 sr1 is1 h1 => by
    split at h1
    · obtain ⟨v, u, rfl, i1, i2⟩ := iss2 is1
      exact ⟨v, u, rfl, k.nx _ L1 W1 H1 _ x1 (((es.ext sr x1).set i1 i).set i2 j) sr1 h1⟩
    · exact h1.elim⟩⟩
def tP3 (i j l : Nat) (t : tA) : tS := fun DD ρ L => t ρ L fun ds L1 => match ds with
  | [d, e, f] => DD.nx (((ρ.set i (some d)).set j (some e)).set l (some f)) L1
  | _ => False
theorem iss3 {K w H W} {vs : List V} {d e f : D} (h : Iss K w H W vs [d, e, f]) : ∃ v u x, vs = [v, u, x] ∧ Is K w H W v d ∧ Is K w H W u e ∧ Is K w H W x f := by
  cases h with
  | cons a t =>
    obtain ⟨u, x, rfl, b, c⟩ := iss2 t
    exact ⟨_, _, _, rfl, a, b, c⟩
theorem ds_par3 {i j l : Nat} {x y z : Str} {t : tA} {px py pz pt : Pos} {kt k2 pt2} (hc : X.calm = true) (hN : X.N.Nodup) (hi : X.N[i]? = some x) (hj : X.N[j]? = some y) (hl : X.N[l]? = some z) (hij : i ≠ j) (hil : i ≠ l) (hjl : j ≠ l)
    (hx : X.env.scope.names.lookup x = some .local) (hy : X.env.scope.names.lookup y = some .local) (hz : X.env.scope.names.lookup z = some .local) (ha : DA X G [a, b, c] t)
    (hw : swappedStores [.Tuple [.Name x px, .Name y py, .Name z pz] kt pt] (.Tuple [a, b, c] k2 pt2) X.env = pure (some [x, y, z]))
    (hs : swapsWithSole [.Tuple [.Name x px, .Name y py, .Name z pz] kt pt] (.Tuple [a, b, c] k2 pt2) pos.line X.env = pure false := by rfl) : DS X G (.Assign [.Tuple [.Name x px, .Name y py, .Name z pz] kt pt] (.Tuple [a, b, c] k2 pt2) pos) (tP3 i j l t) :=
  ⟨PS.imp (ps_par3 hc hN hi hj hl hij hil hjl hx hy hz ha.pa hw hs) fun D σ H ⟨W, ρ, L, DD, es, sr, h, k⟩ => ⟨W, ρ, L, _, es, sr, h, fun ds L1 W1 H1 vs x1 sr1 is1 h1 => by
    split at h1
    · obtain ⟨v, u, z, rfl, i1, i2, i3⟩ := iss3 is1
      exact ⟨v, u, z, rfl, k.nx _ L1 W1 H1 _ x1 ((((es.ext sr x1).set i1 i).set i2 j).set i3 l) sr1 h1⟩
    · exact h1.elim⟩⟩

/-! ### while -/
def tWh (c : tT) (tb : tS) : tS := fun DD ρ L => ∃ F : Nat → En → Sto → Prop, (∃ m, F m ρ L) ∧ ∀ m ρ L, F m ρ L →
  c ρ L fun b L1 => if b = true then tb { DD with nx := fun ρ' L' => ∃ m', m' < m ∧ F m' ρ' L', ct := fun ρ' L' => ∃ m', m' < m ∧ F m' ρ' L', bk := DD.nx } ρ L1 else DD.nx ρ L1
theorem ds_while {body : List Stmt} {tb : tS} (hp : PassesOwn (model X.prog X.w) X.A X.env X.xe) (hc : DT X G c tt) (hb : DSs X G body tb) : DS X G (.While c body [] pos) (tWh tt tb) :=
  ⟨PS.imp (ps_while hp hc.pt hb.pss) fun D σ H ⟨W, ρ, L, DD, es, sr, h, k⟩ => by
    obtain ⟨F, ⟨m0, f0⟩, turn⟩ := h
    refine ⟨fun m σ' H' => ∃ W' ρ' L', Ext W L H W' L' H' ∧ IsS X.K X.w H' W' ρ' σ' ∧ SR X.K X.w G H' W' L' ∧ F m ρ' L', ⟨m0, W, ρ, L, Ext.refl _ _ _, es, sr, f0⟩, ?_⟩
    rintro m σ1 H1 ⟨W1, ρ1, L1, x1, es1, sr1, f1⟩
    refine ⟨W1, ρ1, L1, _, es1, sr1, turn m ρ1 L1 f1, fun b L2 W2 H2 x2 sr2 h2 => ?_⟩
    cases b with
    | true =>
      rw [if_pos rfl]
      have h2 := (if_pos rfl).mp h2
      refine ⟨fun σ' H' => ∃ m', m' < m ∧ ∃ W' ρ' L', Ext W L H W' L' H' ∧ IsS X.K X.w H' W' ρ' σ' ∧ SR X.K X.w G H' W' L' ∧ F m' ρ' L', fun σ' H' h => h, ?_⟩
      have nx : ∀ ρ' L' W' H' σ', Ext W2 L2 H2 W' L' H' → IsS X.K X.w H' W' ρ' σ' → SR X.K X.w G H' W' L' → (∃ m', m' < m ∧ F m' ρ' L') → ∃ m', m' < m ∧ ∃ W' ρ' L', Ext W L H W' L' H' ∧ IsS X.K X.w H' W' ρ' σ' ∧ SR X.K X.w G H' W' L' ∧ F m' ρ' L' :=
        fun ρ' L' W' H' σ' x3 es3 sr3 ⟨m', hm, f3⟩ => ⟨m', hm, W', ρ', L', (x1.trans x2).trans x3, es3, sr3, f3⟩
      exact ⟨W2, ρ1, L2, _, es1.ext sr1 x2, sr2, h2, nx, (k.rt.ext x1).ext x2, (k.nx.ext x1).ext x2, nx⟩
    | false =>
      rw [if_neg Bool.false_ne_true]
      exact k.nx ρ1 L2 W2 H2 σ1 (x1.trans x2) (es1.ext sr1 x2) sr2 ((if_neg Bool.false_ne_true).mp h2)⟩

/-! ### what is walked -/
/-- J walks the items ds, whatever else happens -/
structure ItD (K : PySem.W.Frag) (w : World) (G : Gam) (W : Wd) (L : Sto) (H : Hp) (J : It) (ds : List D) : Prop where
  stop : ∀ W' L' H', Ext W L H W' L' H' → SR K w G H' W' L' → J.stop ds.length H'
  go : ∀ (i : Nat) (d : D) W' L' H', ds[i]? = some d → Ext W L H W' L' H' → SR K w G H' W' L' → J.go i H'
  yld : ∀ (i : Nat) (d : D) W' L' H' x H2, ds[i]? = some d → Ext W L H W' L' H' → SR K w G H' W' L' → J.yld i H' x H2 → ∃ W2, Ext W' L' H' W2 L' H2 ∧ SR K w G H2 W2 L' ∧ Is K w H2 W2 x d
abbrev tI := En → Sto → (List D → Sto → Prop) → Prop
def liftI (K : PySem.W.Frag) (w : World) (G : Gam) (t : tI) : TI := fun σ H R => ∃ W ρ L RR, IsS K w H W ρ σ ∧ SR K w G H W L ∧ t ρ L RR ∧ ∀ ds L1 W1 H1 J, Ext W L H W1 L1 H1 → SR K w G H1 W1 L1 → ItD K w G W1 L1 H1 J ds → RR ds L1 → R J H1
structure DI (X : Cx) (G : Gam) (tg e : Expr) (t : tI) : Prop where
  pi : PI X tg e (liftI X.K X.w G t)
theorem PI.imp {tg : Expr} {t t' : TI} (h : PI X tg e t) (i : ∀ σ H R, t' σ H R → t σ H R) : PI X tg e t' := ⟨fun pins s σ H R I hw => h.run pins s σ H R I (i σ H R hw)⟩
theorem itD_list {K w G} {W : Wd} {L : Sto} {H : Hp} {a : Addr} {xs : List V} {ds : List D} (sr : SR K w G H W L) (hs : (W.fz a ∧ Rd H a (.lst xs)) ∨ KLst K a xs) (is : Iss K w H W xs ds) : ItD K w G W L H (Itl K a) ds := by
  have keep : ∀ W' L' H', Ext W L H W' L' H' → SqL K H' a xs := fun W' L' H' x => by
    rcases hs with ⟨f, h | ⟨o, h⟩⟩ | h
    · exact .inl (.inl (x.keep _ _ h (sr.notFz f)))
    · exact .inl (.inr ⟨o, x.keep _ _ h (sr.notFz f)⟩)
    · exact .inr h
  refine ⟨fun W' L' H' x _ => ⟨xs, keep _ _ _ x, by rw [is.length]; exact Nat.le_refl _⟩, fun i d W' L' H' e x _ => ?_, fun i d W' L' H' v H2 e x sr' y => ?_⟩
  · obtain ⟨v, h1, _⟩ := is.get e
    exact ⟨xs, v, keep _ _ _ x, h1⟩
  · obtain ⟨u, h1, h2⟩ := is.get e
    obtain ⟨e1, y⟩ := y
    have e2 := y xs (keep _ _ _ x)
    rw [h1] at e2; cases e2
    subst e1
    exact ⟨W', Ext.refl _ _ _, sr', h2.ext sr x⟩
theorem itD_tup {K w G} {W : Wd} {L : Sto} {H : Hp} {a : Addr} {xs : List V} {ds : List D} (sr : SR K w G H W L) (hs : SqT K H a xs) (is : Iss K w H W xs ds) : ItD K w G W L H (Itt K a) ds := by
  refine ⟨fun W' L' H' x _ => ⟨xs, SqT.ext sr x hs, by rw [is.length]; exact Nat.le_refl _⟩, fun i d W' L' H' e x _ => ?_, fun i d W' L' H' v H2 e x sr' y => ?_⟩
  · obtain ⟨v, h1, _⟩ := is.get e
    exact ⟨xs, v, SqT.ext sr x hs, h1⟩
  · obtain ⟨u, h1, h2⟩ := is.get e
    obtain ⟨e1, y⟩ := y
    have e2 := y xs (SqT.ext sr x hs)
    rw [h1] at e2; cases e2
    subst e1
    exact ⟨W', Ext.refl _ _ _, sr', h2.ext sr x⟩
/-- a frozen list -/
def iLs (te : tE) : tI := fun ρ L R => te ρ L fun d L1 => match d with
  | .lst xs => R xs L1
  | _ => False
def iTp (te : tE) : tI := fun ρ L R => te ρ L fun d L1 => match d with
  | .tup xs => R xs L1
  | _ => False
theorem di_list {tg : Expr} (he : DE X G e te) : DI X G tg e (iLs te) :=
  ⟨PI.imp (pi_list he.pe) fun σ H R ⟨W, ρ, L, RR, es, sr, h, k⟩ => ⟨W, ρ, L, _, es, sr, h, fun d L1 W1 H1 v x1 sr1 is1 h1 => by
    cases d with
    | lst xs =>
      cases is1 with
      | lst f h2 hs => exact ⟨_, rfl, ⟨_, .inl h2⟩, k xs L1 W1 H1 _ x1 sr1 (itD_list sr1 (.inl ⟨f, h2⟩) hs) h1⟩
      | lstK h2 hs => exact ⟨_, rfl, ⟨_, h2.sq⟩, k xs L1 W1 H1 _ x1 sr1 (itD_list sr1 (.inr h2) hs) h1⟩
    | _ => exact h1.elim⟩⟩
theorem di_tup {tg : Expr} (he : DE X G e te) : DI X G tg e (iTp te) :=
  ⟨PI.imp (pi_tup he.pe) fun σ H R ⟨W, ρ, L, RR, es, sr, h, k⟩ => ⟨W, ρ, L, _, es, sr, h, fun d L1 W1 H1 v x1 sr1 is1 h1 => by
    cases d with
    | tup xs =>
      cases is1 with
      | tup h2 hs => exact ⟨_, rfl, ⟨_, h2⟩, k xs L1 W1 H1 _ x1 sr1 (itD_tup sr1 h2 hs) h1⟩
    | _ => exact h1.elim⟩⟩
/-- ranges -/
def rangeD (lo : Int) (n : Nat) : List D := (List.range n).map fun (i : Nat) => .int (lo + (i : Int))
theorem rangeD_get {lo : Int} {n i : Nat} {d : D} (h : (rangeD lo n)[i]? = some d) : i < n ∧ d = .int (lo + i) := by
  unfold rangeD at h
  rw [List.getElem?_map] at h
  by_cases hi : i < n
  · rw [List.getElem?_range hi] at h
    exact ⟨hi, (Option.some.inj h).symm⟩
  · rw [List.getElem?_eq_none (by simpa using hi)] at h; cases h
theorem rangeD_length {lo : Int} {n : Nat} : (rangeD lo n).length = n := by unfold rangeD; simp
theorem itD_range {K w G} {W : Wd} {L : Sto} {H : Hp} {lo : Int} {n : Nat} : ItD K w G W L H (Itr lo n) (rangeD lo n) := by
  refine ⟨fun W' L' H' x _ => ?_, fun i d W' L' H' e x _ => (rangeD_get e).1, fun i d W' L' H' v H2 e x sr' y => ?_⟩
  · rw [rangeD_length]; exact Nat.le_refl _
  · obtain ⟨_, rfl⟩ := rangeD_get e
    obtain ⟨rfl, rfl⟩ := y
    exact ⟨W', Ext.refl _ _ _, sr', .int _⟩
def iRg1 (t : tA) : tI := fun ρ L R => t ρ L fun ds L1 => match ds with
  | [.int j] => (-(2 ^ 62) ≤ j ∧ j < 2 ^ 62) ∧ R (rangeD 0 j.toNat) L1
  | _ => False
def iRg2 (t : tA) : tI := fun ρ L R => t ρ L fun ds L1 => match ds with
  | [.int i, .int j] => (-(2 ^ 62) ≤ i ∧ i < 2 ^ 62 ∧ -(2 ^ 62) ≤ j ∧ j < 2 ^ 62) ∧ R (rangeD i (j - i).toNat) L1
  | _ => False
theorem di_range1 {tg : Expr} {t : tA} {p : Pos} (hm : X.mg "range" = none) (ha : DA X G [a] t) (hg : Gl X "range" := by rfl) (hs : starEach [a] X.env = [(false, eval a X.env)] := by rfl) : DI X G tg (.Call (.Name "range" p) [a] [] pos) (iRg1 t) :=
  ⟨PI.imp (pi_range1 hg hm ha.pa hs) fun σ H R ⟨W, ρ, L, RR, es, sr, h, k⟩ => ⟨W, ρ, L, _, es, sr, h, fun ds L1 W1 H1 vs x1 sr1 is1 h1 => by
    split at h1
    · obtain ⟨v, rfl, i⟩ := iss1 is1
      cases i
      exact ⟨_, rfl, h1.1.1, h1.1.2, k _ L1 W1 H1 _ x1 sr1 itD_range h1.2⟩
    · exact h1.elim⟩⟩
theorem di_range2 {tg : Expr} {t : tA} {p : Pos} (hm : X.mg "range" = none) (ha : DA X G [a, b] t) (hg : Gl X "range" := by rfl) (hs : starEach [a, b] X.env = [(false, eval a X.env), (false, eval b X.env)] := by rfl) (hs2 : starEach [b] X.env = [(false, eval b X.env)] := by rfl) :
    DI X G tg (.Call (.Name "range" p) [a, b] [] pos) (iRg2 t) :=
  ⟨PI.imp (pi_range2 hg hm ha.pa hs hs2) fun σ H R ⟨W, ρ, L, RR, es, sr, h, k⟩ => ⟨W, ρ, L, _, es, sr, h, fun ds L1 W1 H1 vs x1 sr1 is1 h1 => by
    split at h1
    · obtain ⟨v, u, rfl, i, j⟩ := iss2 is1
      cases i; cases j
      exact ⟨_, _, rfl, h1.1, k _ L1 W1 H1 _ x1 sr1 itD_range h1.2⟩
    · exact h1.elim⟩⟩

/-! ### for -/
/-- F: by what is still to come -/
def tFr (wi : tI) (g : tG) (tb : tS) : tS := fun DD ρ L => wi ρ L fun ds L1 => ∃ F : List D → En → Sto → Prop, F ds ρ L1 ∧ (∀ x r ρ L, F (x :: r) ρ L → g x ρ L fun ρ2 L2 => tb { DD with nx := F r, ct := F r, bk := DD.nx } ρ2 L2) ∧ ∀ ρ L, F [] ρ L → DD.nx ρ L
theorem drop_get {α : Type} {l : List α} {i : Nat} {x : α} (h : l[i]? = some x) : l.drop i = x :: l.drop (i + 1) := by
  obtain ⟨h1, h2⟩ := List.getElem?_eq_some_iff.mp h
  rw [List.drop_eq_getElem_cons h1, h2]
theorem ds_for {tg : Expr} {body : List Stmt} {wi : tI} {g : tG} {tb : tS} (hp : PassesOwn (model X.prog X.w) X.A X.env X.xe) (hc : X.calm = true) (hi : DI X G tg e wi) (hg : DG X G tg g) (hb : DSs X G body tb)
    (hs : ∀ x, foldedSetIterable e X.env x = pure x := by intro _; rfl) : DS X G (.For tg e body [] pos) (tFr wi g tb) :=
  ⟨PS.imp (ps_for hp hc hi.pi hg.pg hb.pss hs) fun D σ H ⟨W, ρ, L, DD, es, sr, h, k⟩ => ⟨W, ρ, L, _, es, sr, h, fun ds L1 W1 H1 J x1 sr1 it h1 => by
    obtain ⟨F, f0, turn, fin⟩ := h1
    refine ⟨fun i m σ' H' => m = ds.length - i ∧ i ≤ ds.length ∧ ∃ W' ρ' L', Ext W1 L1 H1 W' L' H' ∧ IsS X.K X.w H' W' ρ' σ' ∧ SR X.K X.w G H' W' L' ∧ F (ds.drop i) ρ' L', ⟨ds.length, rfl, Nat.zero_le _, W1, ρ, L1, Ext.refl _ _ _, es.ext sr x1, sr1, f0⟩, ?_⟩
    rintro i m σ2 H2 ⟨rfl, hi, W2, ρ2, L2, x2, es2, sr2, f2⟩
    by_cases hlt : i < ds.length
    · have e := List.getElem?_eq_getElem hlt
      rw [drop_get e] at f2
      refine .inr ⟨it.go i _ W2 L2 H2 e x2 sr2, fun σ' H' => ∃ W' ρ' L', Ext W1 L1 H1 W' L' H' ∧ IsS X.K X.w H' W' ρ' σ' ∧ SR X.K X.w G H' W' L' ∧ F (ds.drop (i + 1)) ρ' L', fun σ' H' h => ⟨ds.length - (i + 1), by omega, rfl, hlt, h⟩, fun x H3 y => ?_⟩
      obtain ⟨W3, x3, sr3, is3⟩ := it.yld i _ W2 L2 H2 x H3 e x2 sr2 y
      refine ⟨W3, ρ2, L2, _, _, es2.ext sr2 x3, sr3, is3, turn _ _ ρ2 L2 f2, fun ρ4 L4 W4 H4 σ4 x4 es4 sr4 h4 => ?_⟩
      have nx : ∀ ρ' L' W' H' σ', Ext W4 L4 H4 W' L' H' → IsS X.K X.w H' W' ρ' σ' → SR X.K X.w G H' W' L' → F (ds.drop (i + 1)) ρ' L' → ∃ W' ρ' L', Ext W1 L1 H1 W' L' H' ∧ IsS X.K X.w H' W' ρ' σ' ∧ SR X.K X.w G H' W' L' ∧ F (ds.drop (i + 1)) ρ' L' :=
        fun ρ' L' W' H' σ' x5 es5 sr5 f5 => ⟨W', ρ', L', ((x2.trans x3).trans x4).trans x5, es5, sr5, f5⟩
      have kk := (((k.ext x1).ext x2).ext x3).ext x4
      exact ⟨W4, ρ4, L4, _, es4, sr4, h4, nx, kk.rt, kk.nx, nx⟩
    · have e : i = ds.length := by omega
      subst e
      rw [List.drop_length] at f2
      exact .inl ⟨it.stop W2 L2 H2 x2 sr2, k.nx ρ2 L2 W2 H2 σ2 (x1.trans x2) es2 sr2 (fin ρ2 L2 f2)⟩⟩⟩
end
end L2.DL

set_option Elab.async false
set_option linter.all false
set_option maxRecDepth 100000
/-! DG: list comprehensions; a def's promise over trees; calls. -/
namespace L2.DL
open PySem PySem.Spec PyProof.Rows

/-! ### a hidden list: tracked, neither own nor frozen -/
section
variable {K : PySem.W.Frag} {w : World} {G : Gam} {H H' : Hp} {W W' : Wd} {L L' : Sto} {q : Addr} {zs : List V} {ho : HO}
/-- q stands apart -/
structure Hid (W : Wd) (L : Sto) (H : Hp) (q : Addr) (zs : List V) : Prop where
  at_ : H q = some (.lst zs)
  nfz : ¬ W.fz q
  nlive : ∀ n, ¬ Live W L n q
theorem Hid.ext (h : Hid W L H q zs) (x : Ext W L H W' L' H') : Hid W' L' H' q zs where
  at_ := x.keep _ _ h.at_ h.nlive
  nfz := fun f => by
    rcases x.fzn q f with f | ⟨m, l⟩ | e
    · exact h.nfz f
    · exact h.nlive m l
    · rw [h.at_] at e; cases e
  nlive := fun n l => by
    rcases x.live n q l with ⟨m, l⟩ | e
    · exact h.nlive m l
    · rw [h.at_] at e; cases e
theorem Hid.new (r : SR K w G H W L) (hq : H q = none) : Hid W L (upd H q (.lst zs)) q zs where
  at_ := upd_same
  nfz := fun f => by obtain ⟨o, e⟩ := r.fzt q f; rw [hq] at e; cases e
  nlive := fun n l => by obtain ⟨o, e⟩ := r.there l; rw [hq] at e; cases e
theorem hid_sqt (h : Hid W L H q zs) {a : Addr} {xs : List V} (s : SqT K H a xs) : SqT K (upd H q ho) a xs := by
  rcases s with (s | ⟨o, s⟩) | s
  · exact .inl (.inl (by rw [upd_ne (ne_of s h.at_ (by intro z; cases z))]; exact s))
  · exact .inl (.inr ⟨o, by rw [upd_ne (ne_of s h.at_ (by intro z; cases z))]; exact s⟩)
  · exact .inr s
mutual
theorem Is.hid (h : Hid W L H q zs) : ∀ {v : V} {d : D}, Is K w H W v d → Is K w (upd H q ho) W v d
  | _, _, .non => .non
  | _, _, .bl b => .bl b
  | _, _, .int i => .int i
  | _, _, .str s => .str s
  | _, _, .tup s hs => .tup (hid_sqt h s) (Iss.hid h hs)
  | _, _, .lst (a := a) f s hs => .lst f (by
      have ne : a ≠ q := fun e => h.nfz (e ▸ f)
      rcases s with s | ⟨o, s⟩
      · exact .inl (by rw [upd_ne ne]; exact s)
      · exact .inr ⟨o, by rw [upd_ne ne]; exact s⟩) (Iss.hid h hs)
  | _, _, .lstK s hs => .lstK s (Iss.hid h hs)
  | _, _, .dct (a := a) f s hs => .dct f (by
      have ne : a ≠ q := fun e => h.nfz (e ▸ f)
      rw [upd_ne ne]; exact s) (IsE.hid h hs)
  | _, _, .ob s => .ob s
  | _, _, .adr a => .adr a
  | _, _, .ty n => .ty n
theorem Iss.hid (h : Hid W L H q zs) : ∀ {vs : List V} {ds : List D}, Iss K w H W vs ds → Iss K w (upd H q ho) W vs ds
  | _, _, .nil => .nil
  | _, _, .cons a t => .cons (Is.hid h a) (Iss.hid h t)
theorem IsE.hid (h : Hid W L H q zs) : ∀ {es : List DE3} {ks vs : List D}, IsE K w H W es ks vs → IsE K w (upd H q ho) W es ks vs
  | _, _, _, .nil => .nil
  | _, _, _, .cons a b c d e g => .cons a b (Is.hid h c) d (Is.hid h e) (IsE.hid h g)
end
theorem IsF.hid (h : Hid W L H q zs) : ∀ {vs : List (Str × V)} {ds : List (Str × D)}, IsF K w H W vs ds → IsF K w (upd H q ho) W vs ds
  | _, _, .nil => .nil
  | _, _, .cons a t => .cons (Is.hid h a) (IsF.hid h t)
theorem IsS.hidS' (h : Hid W L H q zs) : ∀ {ρ : En} {σ : L2.St}, IsS K w H W ρ σ → IsS K w (upd H q ho) W ρ σ
  | _, _, .nil => .nil
  | _, _, .nop t => .nop (IsS.hidS' h t)
  | _, _, .som a t => .som (Is.hid h a) (IsS.hidS' h t)
theorem IsS.hidS {ρ : En} {σ : L2.St} (i : IsS K w H W ρ σ) (h : Hid W L H q zs) : IsS K w (upd H q ho) W ρ σ := IsS.hidS' h i
theorem Hid.put {ys : List V} (h : Hid W L H q zs) : Hid W L (upd H q (.lst ys)) q ys := ⟨upd_same, h.nfz, h.nlive⟩
theorem SR.hid (h : Hid W L H q zs) (r : SR K w G H W L) (g : G.p W L (upd H q ho)) : SR K w G (upd H q ho) W L where
  len := r.len
  inj := r.inj
  nfz := r.nfz
  fzt := fun a f => by
    obtain ⟨o, e⟩ := r.fzt a f
    exact ⟨o, by rw [upd_ne (show a ≠ q from fun z => h.nfz (z ▸ f))]; exact e⟩
  ok := fun n a o e1 e2 => by
    have x := r.ok n a o e1 e2
    by_cases d : o = .dead
    · rw [d]; trivial
    · have ne : a ≠ q := fun z => h.nlive n (z ▸ ⟨e1, o, e2, d⟩)
      cases o with
      | lst ds => obtain ⟨xs, a1, a2⟩ := x; exact ⟨xs, by rw [upd_ne ne]; exact a1, by first | exact Iss.hid h a2 | exact IsE.hid h a2 | exact IsF.hid h a2⟩
      | dct ks vs => obtain ⟨es, a1, a2⟩ := x; exact ⟨es, by rw [upd_ne ne]; exact a1, by first | exact Iss.hid h a2 | exact IsE.hid h a2 | exact IsF.hid h a2⟩
      | ins C fs => obtain ⟨dx, vs, a1, a2⟩ := x; exact ⟨dx, vs, by rw [upd_ne ne]; exact a1, by first | exact Iss.hid h a2 | exact IsE.hid h a2 | exact IsF.hid h a2⟩
      | dead => trivial
  gam := g
theorem Ext.hid {H1 : Hp} {W1 : Wd} {L1 : Sto} (x : Ext W1 L1 H1 W L H) (hq : H1 q = none) : Ext W1 L1 H1 W L (upd H q ho) :=
  ⟨x.pre, x.fz, fun a o e n => by rw [upd_ne (ne_of_none e hq)]; exact x.keep a o e n, x.live, x.fzn⟩
/-- in the end it is frozen -/
theorem Ext.hidF {H1 : Hp} {W1 : Wd} {L1 : Sto} (x : Ext W1 L1 H1 W L H) (hq : H1 q = none) : Ext W1 L1 H1 (W.and q) L H :=
  ⟨x.pre, fun a f => .inr (x.fz a f), x.keep, x.live, fun a f => by
    rcases f with e | f
    · rw [e]; exact .inr (.inr hq)
    · exact x.fzn a f⟩
theorem Ext0.and : Ext0 W L H (W.and q) H := ⟨⟨[], (List.append_nil _).symm⟩, fun _ f => .inr f, fun _ _ e _ => e⟩
theorem SR.hidF (h : Hid W L H q zs) (r : SR K w G H W L) (g : G.p (W.and q) L H) : SR K w G H (W.and q) L where
  len := r.len
  inj := r.inj
  nfz := fun n a l f => by
    rcases f with e | f
    · exact h.nlive n (e ▸ l)
    · exact r.nfz n a l f
  fzt := fun a f => by
    rcases f with e | f
    · rw [e]; exact ⟨_, h.at_⟩
    · exact r.fzt a f
  ok := fun n a o e1 e2 => (r.ok n a o e1 e2).ext0 r Ext0.and fun _ e => e
  gam := g
end

/-! ### slots forgotten -/
def wipeD (ρ : En) : List Nat → En
  | [] => ρ
  | v :: vs => (wipeD ρ vs).set v none
theorem IsS.wipe {K w H W} {ρ : En} {σ : L2.St} (h : IsS K w H W ρ σ) : ∀ vs : List Nat, IsS K w H W (wipeD ρ vs) (wipe σ vs)
  | [] => h
  | v :: vs => (IsS.wipe h vs).unset v
theorem wipe_get {σ : L2.St} : ∀ (vs : List Nat) (j : Nat), (wipe σ vs)[j]? = if j ∈ vs then (σ[j]?).map (fun _ => none) else σ[j]?
  | [], j => by simp [wipe]
  | v :: vs, j => by
    have ih := wipe_get (σ := σ) vs j
    unfold wipe
    rw [List.getElem?_set]
    by_cases h : v = j
    · subst h
      rw [if_pos rfl, if_pos List.mem_cons_self, wipe_length]
      by_cases hl : v < σ.length
      · rw [if_pos hl, List.getElem?_eq_getElem hl]; rfl
      · rw [if_neg hl, List.getElem?_eq_none (Nat.le_of_not_lt hl)]; rfl
    · rw [if_neg h, ih]
      have : (j ∈ v :: vs) = (j ∈ vs) := by simp [List.mem_cons, Ne.symm h]
      by_cases hm : j ∈ vs
      · rw [if_pos hm, if_pos (List.mem_cons_of_mem _ hm)]
      · rw [if_neg hm, if_neg (by rw [this]; exact hm)]
theorem wipe_set {σ : L2.St} {i : Nat} {o : Option V} {vs : List Nat} (hi : i ∈ vs) : wipe (σ.set i o) vs = wipe σ vs := by
  apply List.ext_getElem?
  intro j
  rw [wipe_get, wipe_get]
  by_cases hj : j ∈ vs
  · rw [if_pos hj, if_pos hj, List.getElem?_set]
    by_cases h : i = j
    · subst h
      rw [if_pos rfl]
      by_cases hl : i < σ.length
      · rw [if_pos hl, List.getElem?_eq_getElem hl]; rfl
      · rw [if_neg hl, List.getElem?_eq_none (Nat.le_of_not_lt hl)]
    · rw [if_neg h]
  · rw [if_neg hj, if_neg hj, List.getElem?_set_ne (show i ≠ j from fun h => hj (h ▸ hi))]
theorem wipe_wipe {σ : L2.St} {vs : List Nat} : wipe (wipe σ vs) vs = wipe σ vs := by
  apply List.ext_getElem?
  intro j
  rw [wipe_get, wipe_get]
  by_cases hj : j ∈ vs
  · rw [if_pos hj, if_pos hj, Option.map_map]; rfl
  · rw [if_neg hj, if_neg hj]

/-! ### what a comprehension's target does -/
abbrev tC := D → En → (En → Prop) → Prop
/-- the H-side reading g keeps to the tree side's t -/
def TgC (K : PySem.W.Frag) (w : World) (g : TG) (t : tC) (vs : List Nat) : Prop :=
  ∀ (H : Hp) (W : Wd) (x : V) (d : D) (ρ : En) (σ : L2.St) (R : En → Prop), Is K w H W x d → IsS K w H W ρ σ → t d ρ R → ∃ σ2 ρ2, R ρ2 ∧ IsS K w H W ρ2 σ2 ∧ wipe σ2 vs = wipe σ vs ∧ ∀ Q, Q σ2 H → g x σ H Q
def c1 (i : Nat) : tC := fun d ρ R => R (ρ.set i (some d))
theorem tgc1 {K w} {i : Nat} {vs : List Nat} (hi : i ∈ vs) : TgC K w (gName i) (c1 i) vs := fun H W x d ρ σ R is es h => ⟨_, _, h, es.set is i, wipe_set hi, fun Q q => q⟩
def gNms : List Nat → TGs
  | [] => gNil
  | i :: r => gCons (gName i) (gNms r)
def setsD : List Nat → List D → En → En
  | i :: r, d :: ds, ρ => setsD r ds (ρ.set i (some d))
  | _, _, ρ => ρ
def sets : List Nat → List V → L2.St → L2.St
  | i :: r, d :: ds, ρ => sets r ds (ρ.set i (some d))
  | _, _, ρ => ρ
def cN (is : List Nat) : tC := fun d ρ R => match d with
  | .tup xs => xs.length = is.length ∧ R (setsD is xs ρ)
  | _ => False
theorem sets_is {K w H W} : ∀ (is : List Nat) {vs : List V} {ds : List D} {ρ : En} {σ : L2.St}, Iss K w H W vs ds → IsS K w H W ρ σ → IsS K w H W (setsD is ds ρ) (sets is vs σ)
  | [], _, _, _, _, _, es => es
  | _ :: _, _, _, _, _, .nil, es => es
  | i :: r, _, _, _, _, .cons a t, es => sets_is r t (es.set a i)
theorem sets_wipe {vs : List Nat} : ∀ (is : List Nat) (xs : List V) (σ : L2.St), (∀ i ∈ is, i ∈ vs) → wipe (sets is xs σ) vs = wipe σ vs
  | [], _, _, _ => rfl
  | _ :: _, [], _, _ => rfl
  | i :: r, x :: xs, σ, h => by
    show wipe (sets r xs (σ.set i (some x))) vs = _
    rw [sets_wipe r xs _ fun j hj => h j (List.mem_cons_of_mem _ hj), wipe_set (h i List.mem_cons_self)]
theorem gNms_ok : ∀ (is : List Nat) (xs : List V) (σ : L2.St) (H : Hp) (Q : L2.St → Hp → Prop), xs.length = is.length → Q (sets is xs σ) H → gNms is xs σ H Q
  | [], xs, σ, H, Q, e, q => by
    cases xs with
    | nil => exact ⟨rfl, q⟩
    | cons _ _ => cases e
  | i :: r, xs, σ, H, Q, e, q => by
    cases xs with
    | nil => cases e
    | cons x xs => exact ⟨x, xs, rfl, gNms_ok r xs _ H Q (by simpa using e) q⟩
theorem tgcN {K w} {n : Nat} {is vs : List Nat} (hn : is.length = n) (hi : ∀ i ∈ is, i ∈ vs) : TgC K w (gTup K n (gNms is)) (cN is) vs := fun H W x d ρ σ R iv es h => by
  cases d with
  | tup ds =>
    cases iv with
    | tup hs his =>
      rename_i a xs
      exact ⟨_, _, h.2, sets_is is his es, sets_wipe is xs σ hi, fun Q q => ⟨a, xs, rfl, hs, by rw [his.length, h.1, hn], gNms_ok is xs σ H Q (by rw [his.length]; exact h.1) q⟩⟩
  | _ => exact h.elim

/-! ### list comprehensions -/
section
variable {X : Cx} {G : Gam} {a b c e : Expr} {ta tb tc te : tE} {pos : Pos}
structure DTs (X : Cx) (G : Gam) (ifs : List Expr) (t : tT) : Prop where
  pts : PTs X ifs (liftT X.K X.w G t)
theorem PTs.imp {ifs : List Expr} {t t' : TT} (h : PTs X ifs t) (i : ∀ σ H Q, t' σ H Q → t σ H Q) : PTs X ifs t' := ⟨fun pins s σ H Q I hw => h.run pins s σ H Q I (i σ H Q hw)⟩
def tYesD : tT := fun _ L R => R true L
theorem dts_nil : DTs X G [] tYesD := ⟨PTs.imp pts_nil fun σ H Q ⟨W, ρ, L, R, es, sr, h, k⟩ => k true L W H (Ext.refl _ _ _) sr h⟩
theorem dts_one {t : tT} (h : DT X G c t) : DTs X G [c] t := ⟨pts_one h.pt⟩
def tLcD (wi : tI) (g : tC) (tt : tT) (te : tE) (vs : List Nat) : tE := fun ρ L R => wi ρ L fun ds L1 => ∃ F : List D → List D → Sto → Prop, F ds [] L1 ∧
  (∀ x r acc L, F (x :: r) acc L → g x (wipeD ρ vs) fun ρ2 => tt ρ2 L fun b L2 => if b = true then te ρ2 L2 fun y L3 => acc.length < sizeLine ∧ F r (acc ++ [y]) L3 else F r acc L2) ∧
  ∀ acc L, F [] acc L → R (.lst acc) L
theorem lc_imp {K w G} {wi : tI} {g : TG} {tg : tC} {tt : tT} {te : tE} {vs : List Nat} (hg : TgC K w g tg vs) {σ : L2.St} {H : Hp} {Q : VK} (h : lift K w G (tLcD wi tg tt te vs) σ H Q) : tLc (liftI K w G wi) g (liftT K w G tt) (lift K w G te) vs σ H Q := by
  obtain ⟨W, ρ, L, R, es, sr, h, k⟩ := h
  refine ⟨W, ρ, L, _, es, sr, h, fun ds L1 W1 H1 J x1 sr1 it h1 q hq => ?_⟩
  obtain ⟨F, f0, turn, fin⟩ := h1
  have es1 := es.ext sr x1
  let St : List D → Hp → Prop := fun r H' => ∃ W' L' acc accV, Ext W1 L1 H1 W' L' H' ∧ SR K w G H' W' L' ∧ IsS K w H' W' ρ σ ∧ Hid W' L' H' q accV ∧ Iss K w H' W' accV acc ∧ F r acc L'
  refine ⟨fun i m H' => m = ds.length - i ∧ i ≤ ds.length ∧ St (ds.drop i) H', ⟨ds.length, rfl, Nat.zero_le _, W1, L1, [], [], Ext.new hq, sr1.new hq, es1.ext sr1 (Ext.new hq), Hid.new sr1 hq, .nil, f0⟩, ?_⟩
  rintro i m H2 ⟨rfl, hi, W2, L2, acc, accV, x2, sr2, es2, hd2, ia2, f2⟩
  by_cases hlt : i < ds.length
  · have e := List.getElem?_eq_getElem hlt
    rw [drop_get e] at f2
    refine .inr ⟨it.go i _ W2 L2 H2 e x2 sr2, St (ds.drop (i + 1)), fun H' h => ⟨ds.length - (i + 1), by omega, rfl, hlt, h⟩, fun x H3 y => ?_⟩
    obtain ⟨W3, x3, sr3, is3⟩ := it.yld i _ W2 L2 H2 x H3 e x2 sr2 y
    have es3 := es2.ext sr2 x3
    obtain ⟨σ4, ρ4, h4, es4, hw4, go⟩ := hg H3 W3 x _ _ _ _ is3 (es3.wipe vs) (turn _ _ acc L2 f2)
    refine go _ ⟨hw4.trans wipe_wipe, W3, ρ4, L2, _, es4, sr3, h4, fun bb L5 W5 H5 x5 sr5 h5 => ?_⟩
    have x15 := (x2.trans x3).trans x5
    cases bb with
    | false =>
      refine iteF ?_
      have h5 := (if_neg Bool.false_ne_true).mp h5
      exact ⟨W5, L5, acc, accV, x15, sr5, es3.ext sr3 x5, (hd2.ext x3).ext x5, ((ia2.ext sr2 x3).ext sr3 x5), h5⟩
    | true =>
      refine iteT ?_
      have h5 := (if_pos rfl).mp h5
      refine ⟨W5, ρ4, L5, _, es4.ext sr3 x5, sr5, h5, fun z L6 W6 H6 zv x6 sr6 is6 h6 => ?_⟩
      have hd6 := ((hd2.ext x3).ext x5).ext x6
      have ia6 := ((ia2.ext sr2 x3).ext sr3 x5).ext sr5 x6
      exact ⟨accV, hd6.at_, by rw [ia6.length]; exact h6.1, W6, L6, acc ++ [z], accV ++ [zv], (x15.trans x6).hid hq, SR.hid hd6 sr6 (G.st sr1.gam ((x15.trans x6).hid hq)), ((es3.ext sr3 x5).ext sr5 x6).hidS hd6, hd6.put, Iss.hid hd6 (ia6.append (.cons is6 .nil)), h6.2⟩
  · have e : i = ds.length := by omega
    subst e
    rw [List.drop_length] at f2
    refine .inl ⟨it.stop W2 L2 H2 x2 sr2, ?_⟩
    exact (k.ext x1) _ L2 (W2.and q) H2 _ (x2.hidF hq) (SR.hidF hd2 sr2 (G.st sr1.gam (x2.hidF hq))) (.lst (.inl rfl) (.inl hd2.at_) (Iss.ext0 sr2 Ext0.and ia2)) (fin acc L2 f2)
theorem de_lc {elt tg iter : Expr} {ifs : List Expr} {scope : Scope} {own : List (Str × Nat)} {wi : tI} {g : TG} {gc : tC} {tt : tT} (hc : X.calm = true) (hN : X.N.Nodup) (hi : DI X G tg iter wi) (ok : BlkOk X.N X.env.scope scope own)
    (hg : ∀ (s : Shared) (H : Hp) (C : Addr) (cl : List (Str × Addr)) (fp : List Addr), PG (X.blk s H scope (compEnvC scope cl C X.env) fp) tg g) (hgc : TgC X.K X.w g gc (own.map (·.2)))
    (ht : ∀ (s : Shared) (H : Hp) (C : Addr) (cl : List (Str × Addr)) (fp : List Addr), DTs (X.blk s H scope (compEnvC scope cl C X.env) fp) G ifs tt)
    (he : ∀ (s : Shared) (H : Hp) (C : Addr) (cl : List (Str × Addr)) (fp : List Addr), DE (X.blk s H scope (compEnvC scope cl C X.env) fp) G elt te) (hs : ∀ x, foldedSetIterable iter X.env x = pure x := by intro _; rfl) :
    DE X G (.ListComp elt [⟨tg, iter, ifs, 0⟩] scope pos) (tLcD wi gc tt te (own.map (·.2))) :=
  ⟨PE.imp (pe_lc hc hN hi.pi ok hg (fun s H C cl fp => (ht s H C cl fp).pts) (fun s H C cl fp => (he s H C cl fp).pe) hs) fun _ _ _ h => lc_imp hgc h⟩
theorem ds_setLc {i : Nat} {y : Str} {py spos : Pos} {elt tg iter : Expr} {ifs : List Expr} {scope : Scope} {own : List (Str × Nat)} {wi : tI} {g : TG} {gc : tC} {tt : tT} (hc : X.calm = true) (hN : X.N.Nodup) (hy : X.N[i]? = some y) (hyl : X.env.scope.names.lookup y = some .local)
    (hsw : swapsWith (.ListComp elt [⟨tg, iter, ifs, 0⟩] scope pos) (some (.Name y py)) spos.line X.env = pure true) (hi : DI X G tg iter wi) (ok : BlkOk X.N X.env.scope scope own)
    (hg : ∀ (s : Shared) (H : Hp) (C : Addr) (cl : List (Str × Addr)) (fp : List Addr), PG (X.blk s H scope (compEnvC scope cl C X.env) fp) tg g) (hgc : TgC X.K X.w g gc (own.map (·.2)))
    (ht : ∀ (s : Shared) (H : Hp) (C : Addr) (cl : List (Str × Addr)) (fp : List Addr), DTs (X.blk s H scope (compEnvC scope cl C X.env) fp) G ifs tt)
    (he : ∀ (s : Shared) (H : Hp) (C : Addr) (cl : List (Str × Addr)) (fp : List Addr), DE (X.blk s H scope (compEnvC scope cl C X.env) fp) G elt te) (hs : ∀ x, foldedSetIterable iter X.env x = pure x := by intro _; rfl) :
    DS X G (.Assign [.Name y py] (.ListComp elt [⟨tg, iter, ifs, 0⟩] scope pos) spos) (tSt (tLcD wi gc tt te (own.map (·.2))) i) :=
  ⟨PS.imp (ps_setLc hc hN hy hyl hsw hi.pi ok hg (fun s H C cl fp => (ht s H C cl fp).pts) (fun s H C cl fp => (he s H C cl fp).pe) hs) fun D σ H ⟨W, ρ, L, DD, es, sr, h, k⟩ =>
    lc_imp hgc ⟨W, ρ, L, _, es, sr, h, fun d L1 W1 H1 v x1 sr1 is1 h1 => k.nx _ L1 W1 H1 _ x1 ((es.ext sr x1).set is1 i) sr1 h1⟩⟩
end

/-! ### no own object from m on -/
mutual
def lowD (m : Nat) : D → Prop
  | .tup xs => lowDs m xs
  | .lst xs => lowDs m xs
  | .dct ks vs => lowDs m ks ∧ lowDs m vs
  | .ob n => n < m
  | _ => True
def lowDs (m : Nat) : List D → Prop
  | [] => True
  | x :: xs => lowD m x ∧ lowDs m xs
end
def lowF (m : Nat) : List (Str × D) → Prop
  | [] => True
  | (_, d) :: r => lowD m d ∧ lowF m r
def lowO (m : Nat) : O → Prop
  | .lst xs => lowDs m xs
  | .dct ks vs => lowDs m ks ∧ lowDs m vs
  | .ins _ fs => lowF m fs
  | .dead => True
def lowL (m : Nat) : Sto → Prop
  | [] => True
  | o :: r => lowO m o ∧ lowL m r
theorem lowDs_of {m : Nat} : ∀ {xs : List D}, (∀ x ∈ xs, lowD m x) → lowDs m xs
  | [], _ => trivial
  | x :: xs, h => ⟨h x List.mem_cons_self, lowDs_of fun y hy => h y (List.mem_cons_of_mem _ hy)⟩
theorem lowDs_mem {m : Nat} : ∀ {xs : List D}, lowDs m xs → ∀ x ∈ xs, lowD m x
  | [], _, _, h => nomatch h
  | x :: xs, h, y, hy => by
    rcases List.mem_cons.mp hy with e | hy
    · rw [e]; exact h.1
    · exact lowDs_mem h.2 y hy
theorem lowDs_map {α : Type} {m : Nat} {f : α → D} {xs : List α} (h : ∀ x, lowD m (f x)) : lowDs m (xs.map f) := lowDs_of fun x hx => by
  obtain ⟨y, _, e⟩ := List.mem_map.mp hx
  rw [← e]; exact h y
theorem lowDs_append {m : Nat} : ∀ {xs ys : List D}, lowDs m xs → lowDs m ys → lowDs m (xs ++ ys)
  | [], _, _, h => h
  | _ :: _, _, h, h' => ⟨h.1, lowDs_append h.2 h'⟩

section
variable {K : PySem.W.Frag} {w : World} {G : Gam} {H H' : Hp} {W W' : Wd} {L L' : Sto} {m : Nat}
/-- the world that is left of the first m objects, the others frozen -/
def Wd.cut (W : Wd) (L : Sto) (m : Nat) : Wd := ⟨W.mu.take m, fun a => W.fz a ∨ ∃ n, m ≤ n ∧ Live W L n a⟩
mutual
theorem Is.low (f : ∀ a, W.fz a → W'.fz a) (hm : ∀ (n : Nat) (a : Addr), n < m → W.mu[n]? = some a → W'.mu[n]? = some a) : ∀ {v : V} {d : D}, Is K w H W v d → lowD m d → Is K w H W' v d
  | _, _, .non, _ => .non
  | _, _, .bl b, _ => .bl b
  | _, _, .int i, _ => .int i
  | _, _, .str s, _ => .str s
  | _, _, .tup s hs, l => .tup s (Iss.low f hm hs (by simpa only [lowD] using l))
  | _, _, .lst z s hs, l => .lst (f _ z) s (Iss.low f hm hs (by simpa only [lowD] using l))
  | _, _, .lstK s hs, l => .lstK s (Iss.low f hm hs (by simpa only [lowD] using l))
  | _, _, .dct z s hs, l => .dct (f _ z) s (IsE.low f hm hs (by simpa only [lowD] using l))
  | _, _, .ob s, l => .ob (hm _ _ (by simpa only [lowD] using l) s)
  | _, _, .adr a, _ => .adr a
  | _, _, .ty n, _ => .ty n
theorem Iss.low (f : ∀ a, W.fz a → W'.fz a) (hm : ∀ (n : Nat) (a : Addr), n < m → W.mu[n]? = some a → W'.mu[n]? = some a) : ∀ {vs : List V} {ds : List D}, Iss K w H W vs ds → lowDs m ds → Iss K w H W' vs ds
  | _, _, .nil, _ => .nil
  | _, _, .cons a t, l => .cons (Is.low f hm a (by simp only [lowDs] at l; exact l.1)) (Iss.low f hm t (by simp only [lowDs] at l; exact l.2))
theorem IsE.low (f : ∀ a, W.fz a → W'.fz a) (hm : ∀ (n : Nat) (a : Addr), n < m → W.mu[n]? = some a → W'.mu[n]? = some a) : ∀ {es : List DE3} {ks vs : List D}, IsE K w H W es ks vs → lowDs m ks ∧ lowDs m vs → IsE K w H W' es ks vs
  | _, _, _, .nil, _ => .nil
  | _, _, _, .cons a b c d e t, l => .cons a b (Is.low f hm c (by simp only [lowDs] at l; exact l.1.1)) d (Is.low f hm e (by simp only [lowDs] at l; exact l.2.1)) (IsE.low f hm t (by simp only [lowDs] at l; exact ⟨l.1.2, l.2.2⟩))
end
theorem IsF.low (f : ∀ a, W.fz a → W'.fz a) (hm : ∀ (n : Nat) (a : Addr), n < m → W.mu[n]? = some a → W'.mu[n]? = some a) : ∀ {vs : List (Str × V)} {ds : List (Str × D)}, IsF K w H W vs ds → lowF m ds → IsF K w H W' vs ds
  | _, _, .nil, _ => .nil
  | _, _, .cons a t, l => .cons (a.low f hm l.1) (IsF.low f hm t l.2)
theorem IsO.low (f : ∀ a, W.fz a → W'.fz a) (hm : ∀ (n : Nat) (a : Addr), n < m → W.mu[n]? = some a → W'.mu[n]? = some a) {a : Addr} {o : O} (h : IsO K w H W a o) (l : lowO m o) : IsO K w H W' a o := by
  cases o with
  | lst ds => obtain ⟨xs, h1, h2⟩ := h; exact ⟨xs, h1, h2.low f hm l⟩
  | dct ks vs => obtain ⟨es, h1, h2⟩ := h; exact ⟨es, h1, h2.low f hm l⟩
  | ins C fs => obtain ⟨dx, vs, h1, h2⟩ := h; exact ⟨dx, vs, h1, h2.low f hm l⟩
  | dead => trivial
end
mutual
/-- own objects from m on are frozen where they stand in a value -/
inductive Fr (L : Sto) (m : Nat) : D → D → Prop
  | same {d : D} : lowD m d → Fr L m d d
  | obl {n : Nat} {xs ys : List D} : m ≤ n → L[n]? = some (.lst xs) → Frs L m xs ys → Fr L m (.ob n) (.lst ys)
  | obd {n : Nat} {ks vs vs' : List D} : m ≤ n → L[n]? = some (.dct ks vs) → lowDs m ks → Frs L m vs vs' → Fr L m (.ob n) (.dct ks vs')
  | tup {xs ys : List D} : Frs L m xs ys → Fr L m (.tup xs) (.tup ys)
  | lst {xs ys : List D} : Frs L m xs ys → Fr L m (.lst xs) (.lst ys)
inductive Frs (L : Sto) (m : Nat) : List D → List D → Prop
  | same {ds : List D} : lowDs m ds → Frs L m ds ds
  | nil : Frs L m [] []
  | cons {d e : D} {ds es : List D} : Fr L m d e → Frs L m ds es → Frs L m (d :: ds) (e :: es)
end
section
variable {K : PySem.W.Frag} {w : World} {G : Gam} {H H' : Hp} {W W' : Wd} {L L' : Sto} {m : Nat}
mutual
theorem Fr.low : ∀ {d e : D}, Fr L m d e → lowD m e
  | _, _, .same l => l
  | _, _, .obl _ _ h => by simp only [lowD]; exact Frs.low h
  | _, _, .obd _ _ h h' => by simp only [lowD]; exact ⟨h, Frs.low h'⟩
  | _, _, .tup h => by simp only [lowD]; exact Frs.low h
  | _, _, .lst h => by simp only [lowD]; exact Frs.low h
theorem Frs.low : ∀ {d e : List D}, Frs L m d e → lowDs m e
  | _, _, .same l => l
  | _, _, .nil => by simp only [lowDs]
  | _, _, .cons h t => by simp only [lowDs]; exact ⟨Fr.low h, Frs.low t⟩
end
theorem cut_mu (n : Nat) (a : Addr) (hn : n < m) (h : W.mu[n]? = some a) : (W.cut L m).mu[n]? = some a := by
  show (W.mu.take m)[n]? = some a
  rw [List.getElem?_take_of_lt hn]; exact h
theorem cut_fz (a : Addr) (h : W.fz a) : (W.cut L m).fz a := .inl h
mutual
theorem Is.fr (sr : SR K w G H W L) : ∀ {d e : D}, Fr L m d e → ∀ {v : V}, Is K w H W v d → Is K w H (W.cut L m) v e
  | _, _, .same l, _, i => i.low cut_fz cut_mu l
  | _, _, .obl hn e h, _, .ob hm => by
    obtain ⟨xs, h1, h2⟩ := sr.ok _ _ _ hm e
    exact .lst (.inr ⟨_, hn, hm, _, e, by intro z; cases z⟩) (.inl h1) (Iss.fr sr h h2)
  | _, _, .obd hn e h h', _, .ob hm => by
    obtain ⟨es, h1, h2⟩ := sr.ok _ _ _ hm e
    exact .dct (.inr ⟨_, hn, hm, _, e, by intro z; cases z⟩) h1 (IsE.fr sr h' h h2)
  | _, _, .tup h, _, .tup s i => .tup s (Iss.fr sr h i)
  | _, _, .lst h, _, .lst z s i => .lst (cut_fz _ z) s (Iss.fr sr h i)
  | _, _, .lst h, _, .lstK s i => .lstK s (Iss.fr sr h i)
theorem Iss.fr (sr : SR K w G H W L) : ∀ {ds es : List D}, Frs L m ds es → ∀ {vs : List V}, Iss K w H W vs ds → Iss K w H (W.cut L m) vs es
  | _, _, .same l, _, i => i.low cut_fz cut_mu l
  | _, _, .nil, _, .nil => .nil
  | _, _, .cons h t, _, .cons i is => .cons (Is.fr sr h i) (Iss.fr sr t is)
theorem IsE.fr (sr : SR K w G H W L) : ∀ {vs vs' : List D}, Frs L m vs vs' → ∀ {ks : List D} {es : List DE3}, lowDs m ks → IsE K w H W es ks vs → IsE K w H (W.cut L m) es ks vs'
  | _, _, .same l, _, _, lk, i => i.low cut_fz cut_mu ⟨lk, l⟩
  | _, _, .nil, _, _, _, .nil => .nil
  | _, _, .cons h t, _, _, lk, .cons a b c d e i => .cons a b (c.low cut_fz cut_mu (by simp only [lowDs] at lk; exact lk.1)) d (Is.fr sr h e) (IsE.fr sr t (by simp only [lowDs] at lk; exact lk.2) i)
end
end
end L2.DL

set_option Elab.async false
set_option linter.all false
set_option maxRecDepth 100000
/-! DH: what a def promises over trees, its body, its calls. -/
namespace L2.DL
open PySem PySem.Spec PyProof.Rows

inductive FrF (L : Sto) (m : Nat) : List (Str × D) → List (Str × D) → Prop
  | nil : FrF L m [] []
  | cons {f : Str} {d e : D} {ds es : List (Str × D)} : Fr L m d e → FrF L m ds es → FrF L m ((f, d) :: ds) ((f, e) :: es)
inductive FrO (L : Sto) (m : Nat) : O → O → Prop
  | same {o : O} : lowO m o → FrO L m o o
  | lst {xs ys : List D} : Frs L m xs ys → FrO L m (.lst xs) (.lst ys)
  | dct {ks vs vs' : List D} : lowDs m ks → Frs L m vs vs' → FrO L m (.dct ks vs) (.dct ks vs')
  | ins {C : Addr} {fs fs' : List (Str × D)} : FrF L m fs fs' → FrO L m (.ins C fs) (.ins C fs')
inductive FrL (L : Sto) (m : Nat) : Sto → Sto → Prop
  | nil : FrL L m [] []
  | cons {o u : O} {os us : Sto} : FrO L m o u → FrL L m os us → FrL L m (o :: os) (u :: us)
section
variable {K : PySem.W.Frag} {w : World} {G : Gam} {H H' : Hp} {W W' : Wd} {L L' : Sto} {m : Nat}
theorem FrF.low : ∀ {fs fs' : List (Str × D)}, FrF L m fs fs' → lowF m fs'
  | _, _, .nil => trivial
  | _, _, .cons h t => ⟨h.low, FrF.low t⟩
theorem FrO.low {o u : O} (h : FrO L m o u) : lowO m u := by
  cases h with
  | same l => exact l
  | lst h => exact h.low
  | dct h h' => exact ⟨h, h'.low⟩
  | ins h => exact h.low
theorem FrL.low : ∀ {L1 L2 : Sto}, FrL L m L1 L2 → lowL m L2
  | _, _, .nil => trivial
  | _, _, .cons h t => ⟨h.low, FrL.low t⟩
theorem FrL.length : ∀ {L1 L2 : Sto}, FrL L m L1 L2 → L1.length = L2.length
  | _, _, .nil => rfl
  | _, _, .cons _ t => by rw [List.length_cons, List.length_cons, FrL.length t]
theorem FrL.get : ∀ {L1 L2 : Sto} {n : Nat} {u : O}, FrL L m L1 L2 → L2[n]? = some u → ∃ o, L1[n]? = some o ∧ FrO L m o u
  | _, _, _, _, .nil, e => by simp at e
  | _, _, 0, _, .cons h _, e => by simp at e; subst e; exact ⟨_, rfl, h⟩
  | _, _, n + 1, _, .cons _ t, e => by
    obtain ⟨o, h1, h2⟩ := FrL.get (n := n) t (by simpa using e)
    exact ⟨o, by simpa using h1, h2⟩
theorem FrL.same : ∀ {L1 : Sto}, lowL m L1 → FrL L m L1 L1
  | [], _ => .nil
  | _ :: _, h => .cons (.same h.1) (FrL.same h.2)
theorem FrO.dead {o u : O} (h : FrO L m o u) (hu : u ≠ .dead) : o ≠ .dead := by
  cases h with
  | same l => exact hu
  | _ => intro z; cases z
theorem IsF.fr (sr : SR K w G H W L) : ∀ {fs fs' : List (Str × D)}, FrF L m fs fs' → ∀ {vs : List (Str × V)}, IsF K w H W vs fs → IsF K w H (W.cut L m) vs fs'
  | _, _, .nil, _, .nil => .nil
  | _, _, .cons h t, _, .cons i is => .cons (i.fr sr h) (IsF.fr sr t is)
theorem IsO.fr (sr : SR K w G H W L) {o u : O} (h : FrO L m o u) {a : Addr} (i : IsO K w H W a o) : IsO K w H (W.cut L m) a u := by
  cases h with
  | same l => exact i.low cut_fz cut_mu l
  | lst h => obtain ⟨xs, h1, h2⟩ := i; exact ⟨xs, h1, h2.fr sr h⟩
  | dct h h' => obtain ⟨es, h1, h2⟩ := i; exact ⟨es, h1, h2.fr sr h' h⟩
  | ins h => obtain ⟨dx, vs, h1, h2⟩ := i; exact ⟨dx, vs, h1, h2.fr sr h⟩
theorem SR.forget (r : SR K w G H W L) : SR K w .none H W L := ⟨r.len, r.inj, r.nfz, r.fzt, r.ok, trivial⟩
theorem SR.with (r : SR K w .none H W L) (g : G.p W L H) : SR K w G H W L := ⟨r.len, r.inj, r.nfz, r.fzt, r.ok, g⟩
theorem live_cut {L0 : Sto} (fl : FrL L m (L.take m) L0) {n : Nat} {a : Addr} (l : Live (W.cut L m) L0 n a) : n < m ∧ Live W L n a := by
  obtain ⟨h1, u, h2, h3⟩ := l
  obtain ⟨o, h4, h5⟩ := fl.get h2
  have hn : n < m := by
    have := (List.getElem?_eq_some_iff.mp h4).1
    rw [List.length_take] at this
    omega
  refine ⟨hn, ?_, o, ?_, h5.dead h3⟩
  · have h1' : (W.mu.take m)[n]? = some a := h1
    rw [List.getElem?_take_of_lt hn] at h1'; exact h1'
  · rw [List.getElem?_take_of_lt hn] at h4; exact h4
theorem SR.cut {L0 : Sto} (r : SR K w G H W L) (fl : FrL L m (L.take m) L0) : SR K w .none H (W.cut L m) L0 where
  len := by
    show (W.mu.take m).length = _
    rw [← fl.length, List.length_take, List.length_take, r.len]
  inj := fun n k a l1 l2 => r.inj n k a (live_cut fl l1).2 (live_cut fl l2).2
  nfz := fun n a l f => by
    obtain ⟨hn, l'⟩ := live_cut fl l
    rcases f with f | ⟨k, hk, f⟩
    · exact r.nfz n a l' f
    · have := r.inj n k a l' f
      omega
  fzt := fun a f => by
    rcases f with f | ⟨k, hk, f⟩
    · exact r.fzt a f
    · exact r.there f
  ok := fun n a u h1 h2 => by
    obtain ⟨o, h4, h5⟩ := fl.get h2
    have hn : n < m := by
      have := (List.getElem?_eq_some_iff.mp h4).1
      rw [List.length_take] at this
      omega
    have h1' : (W.mu.take m)[n]? = some a := h1
    rw [List.getElem?_take_of_lt hn] at h1'
    rw [List.getElem?_take_of_lt hn] at h4
    exact (r.ok n a o h1' h4).fr r h5
  gam := trivial
theorem Ext.cut {We : Wd} {Le L0 : Sto} {He : Hp} (x : Ext We Le He W L H) (hl : We.mu.length = m) (fl : FrL L m (L.take m) L0) : Ext We Le He (W.cut L m) L0 H where
  pre := by
    obtain ⟨t, e⟩ := x.pre
    refine ⟨[], ?_⟩
    show W.mu.take m = _
    rw [e, ← hl, List.take_left, List.append_nil]
  fz := fun a f => .inl (x.fz a f)
  keep := x.keep
  live := fun n a l => x.live n a (live_cut fl l).2
  fzn := fun a f => by
    rcases f with f | ⟨k, hk, f⟩
    · exact x.fzn a f
    · exact .inr (x.live k a f)

/-! ### promises -/
/-- an exception: its class, its own fields where it has a dict -/
structure Exn where
  cls : Addr
  fs : Option (List (Str × D))
abbrev QX := Exn → Sto → Prop
abbrev FS := List D → Sto → QE → QX → Prop
def ExnAt (K : PySem.W.Frag) (w : World) (H : Hp) (W : Wd) (x : Exn) (od : Option Addr) : Prop := match x.fs with
  | none => od = none
  | some ds => ∃ d vs, od = some d ∧ H d = some (.xd vs) ∧ IsF K w H W vs ds
def KontE (K : PySem.W.Frag) (w : World) (W : Wd) (L : Sto) (H : Hp) (RE : QX) (E : XK) : Prop :=
  ∀ x L' W' H' od, Ext W L H W' L' H' → SR K w .none H' W' L' → ExnAt K w H' W' x od → RE x L' → E (.ref x.cls) od H'
theorem KontE.ext {RE : QX} {E : XK} (k : KontE K w W L H RE E) (x : Ext W L H W' L' H') : KontE K w W' L' H' RE E := fun y L2 W2 H2 od x2 sr e r => k y L2 W2 H2 od (x.trans x2) sr e r
def gamE (K : PySem.W.Frag) (w : World) (RE : QX) (E : XK) : Gam := ⟨fun W L H => KontE K w W L H RE E, fun k x => k.ext x⟩
/-- the answer is low, the objects are as many as before -/
def Lowly (n : Nat) (R : QE) : QE := fun d L => lowD n d ∧ lowL n L ∧ L.length = n ∧ R d L
def liftF (K : PySem.W.Frag) (w : World) (n : Nat) (f : FS) : Sp := fun vs H Q E => vs.length = n ∧ ∃ W ds L R RE, Iss K w H W vs ds ∧ SR K w .none H W L ∧ f ds L R RE ∧ Kont K w .none W L H (Lowly L.length R) Q ∧ KontE K w W L H RE E
/-- what a body is to come to: the objects beyond the first n are frozen, then R -/
def FinR (n : Nat) (R : QE) : QE := fun d L => ∃ d0 L0, Fr L n d d0 ∧ FrL L n (L.take n) L0 ∧ L0.length = n ∧ R d0 L0
theorem Kont.fin {R : QE} {Q : VK} (k : Kont K w .none W L H (Lowly L.length R) Q) (sr : SR K w .none H W L) : Kont K w G W L H (FinR L.length R) Q := fun d L1 W1 H1 v x sr1 is ⟨d0, L0, fr, fl, hl, r⟩ =>
  k d0 L0 (W1.cut L1 L.length) H1 v (x.cut sr.len fl) (sr1.cut fl) (is.fr sr1 fr) ⟨fr.low, fl.low, hl, r⟩
/-- no own object at all -/
theorem FinR.none {R : QE} {d : D} {L : Sto} (h : lowD 0 d) (r : R d []) : FinR 0 R d L := ⟨d, [], .same h, .nil, rfl, r⟩
def startD (n : Nat) (ds : List D) : En := ds.map some ++ List.replicate (n - ds.length) none
end

section
variable {P : Program} {w : World} {K : PySem.W.Frag} {mg : Str → Option Value} {base : Heap}
abbrev CXX (P : Program) (w : World) : CXT := L2.CX P w
/-- THE RULE for a def: its body as a term, and the term's reading -/
theorem fn_D {x qual : Str} {st : Stmt} {f : Addr} {fd : FuncData} {N ps : List Str} {k : Nat} {fs : FS} (F : Fun K x qual st f fd) (S : FnScope N ps (defScope st))
    (hbody : ∀ (cdv : Value) (A : Around) (outer : List Env) (s : Shared) (H : Hp) (E : XK) (ds : List D) (L : Sto) (R : QE) (RE : QX), Room k (A.deeper (envOfC qual (defScope st) s.heap.objs.size f cdv)) → ds.length = ps.length → fs ds L R RE →
      ∃ t, DSs (cxOf (L2.CX P w) P w K mg base N qual (defScope st) f cdv A outer s H E) (gamE K w RE E) (defBody st) t ∧ t { nx := fun _ L' => FinR L.length R .non L', rt := FinR L.length R } (startD N.length ds) L) :
    FnOk P w K mg base (L2.CX P w) (k + 1) f fd ps (liftF K w ps.length fs) :=
  F.okX S (fun vs H Q E h => h.1) fun cdv A outer s H vs Q E hr ⟨hlen, W, ds, L, R, RE, is, sr, hf, k1, k2⟩ => by
    obtain ⟨t, h1, h2⟩ := hbody cdv A outer s H E ds L R RE hr (by rw [← is.length]; exact hlen) hf
    refine ⟨_, h1.pss, W, startD N.length ds, L, _, ?_, sr.with (G := gamE K w RE E) k2, h2, ?_⟩
    · unfold L2.start startD
      rw [is.length]
      exact IsS.starts _ is
    · have kf := k1.fin (G := gamE K w RE E) sr
      exact ⟨fun ρ' L' W' H' σ' x _ sr' h => kf .non L' W' H' .non x sr' .non h, kf, fun _ _ _ _ _ _ _ _ h => h, fun _ _ _ _ _ _ _ _ h => h⟩
end

/-! ### calls -/
section
variable {X : Cx} {G : Gam} {e : Expr} {es : List Expr} {tt : tA} {k : Nat} {f : Addr} {fd : FuncData} {ps : List Str} {x : Str} {p pos : Pos} {fs : FS} {n : Nat}
/-- nothing of one's own is handed on -/
def tCaP (n : Nat) (fs : FS) (t : tA) : tE := fun ρ L R => t ρ L fun cs L1 => cs.length = n ∧ lowDs 0 cs ∧ fs cs [] (fun d _ => lowD 0 d → R d L1) fun _ _ => False
theorem call_imp {H : Hp} {Q : VK} {E : XK} {W : Wd} {L : Sto} {R : QE} {cs : List D} {vs : List V} (sr : SR X.K X.w G H W L) (is : Iss X.K X.w H W vs cs) (hn : cs.length = n) (low : lowDs 0 cs) (h : fs cs [] (fun d _ => lowD 0 d → R d L) fun _ _ => False) (k : Kont X.K X.w G W L H R Q) :
    liftF X.K X.w n fs vs H Q E := by
  have is0 : Iss X.K X.w H ⟨[], W.fz⟩ vs cs := Iss.low (m := 0) (W := W) (W' := ⟨[], W.fz⟩) (fun _ f => f) (fun _ _ h => absurd h (Nat.not_lt_zero _)) is low
  have sr0 : SR X.K X.w .none H ⟨[], W.fz⟩ [] := by
    refine ⟨rfl, ?_, ?_, sr.fzt, ?_, trivial⟩
    · rintro n m a ⟨_, o, e, _⟩; simp at e
    · rintro n a ⟨_, o, e, _⟩; simp at e
    · intro n a o _ e; simp at e
  refine ⟨by rw [is.length]; exact hn, ⟨[], W.fz⟩, cs, [], _, _, is0, sr0, h, ?_, fun x L' W' H' od _ _ _ h => h.elim⟩
  intro d L' W' H' v x0 sr' i ⟨l1, l2, l3, r⟩
  have l0 : L' = [] := List.length_eq_zero_iff.mp l3
  subst l0
  have nl : ∀ n a, ¬ Live ⟨[], W.fz⟩ ([] : Sto) n a := fun n a ⟨_, o, e, _⟩ => by simp at e
  have keep : ∀ a o, H a = some o → H' a = some o := fun a o e => x0.keep a o e fun n => nl n a
  have fzn : ∀ a, W'.fz a → W.fz a ∨ H a = none := fun a f => by
    rcases x0.fzn a f with f | ⟨m, l⟩ | e
    · exact .inl f
    · exact absurd l (nl m a)
    · exact .inr e
  have x1 : Ext W L H ⟨W.mu, W'.fz⟩ L H' := ⟨⟨[], (List.append_nil _).symm⟩, x0.fz, fun a o e _ => keep a o e, fun n a l => .inl ⟨n, l⟩, fun a f => (fzn a f).elim .inl fun e => .inr (.inr e)⟩
  have sr1 : SR X.K X.w G H' ⟨W.mu, W'.fz⟩ L := by
    refine ⟨sr.len, sr.inj, fun n a l f => ?_, sr'.fzt, fun n a o e1 e2 => (sr.ok n a o e1 e2).ext sr x1 fun u e => keep a u e, G.st sr.gam x1⟩
    have l' : Live W L n a := l
    rcases fzn a f with f | e
    · exact sr.nfz n a l' f
    · obtain ⟨o, e'⟩ := sr.there l'
      rw [e] at e'; cases e'
  have i1 : Is X.K X.w H' ⟨W.mu, W'.fz⟩ v d := Is.low (m := 0) (W := W') (W' := ⟨W.mu, W'.fz⟩) (fun _ f => f) (fun _ _ h => absurd h (Nat.not_lt_zero _)) i l1
  exact k d L _ H' v x1 sr1 i1 (r l1)
theorem de_call (F : FnOk X.prog X.w X.K X.mg X.base (L2.CX X.prog X.w) k f fd ps (liftF X.K X.w n fs)) (hr : Room k X.A) (hm : X.mg x = some (.ref f)) (hk : PySem.W.keepIn X.K (.ref f) = true) (hb : Binds X.K fd ps []) (ha : DA X G (e :: es) tt)
    (hg : Gl X x := by rfl) (hdb : (x == ("__debug__" : Str)) = false := by decide) (he : starEach (e :: es) X.env = (false, eval e X.env) :: starEach es X.env := by rfl) (hpl : (backTo pos (starEach es X.env)).any (·.1) = false := by rfl) :
    DE X G (.Call (.Name x p) (e :: es) [] pos) (tCaP n fs tt) :=
  ⟨PE.imp (pe_call (E := E0) F hr hg hm hk hb .nil passL ha.pa hdb he hpl) fun σ H Q ⟨W, ρ, L, R, es', sr, h, k⟩ => ⟨W, ρ, L, _, es', sr, h, fun cs L1 W1 H1 vs x1 sr1 is1 h1 => by
    show liftF X.K X.w n fs (vs ++ []) H1 Q E0
    rw [List.append_nil]
    exact call_imp sr1 is1 h1.1 h1.2.1 h1.2.2 (k.ext x1)⟩⟩
theorem de_call0 (F : FnOk X.prog X.w X.K X.mg X.base (L2.CX X.prog X.w) k f fd ps (liftF X.K X.w n fs)) (hr : Room k X.A) (hm : X.mg x = some (.ref f)) (hk : PySem.W.keepIn X.K (.ref f) = true) (hb : Binds X.K fd ps [])
    (hg : Gl X x := by rfl) (hdb : (x == ("__debug__" : Str)) = false := by decide) : DE X G (.Call (.Name x p) [] [] pos) (tCaP n fs tNilA) :=
  ⟨PE.imp (pe_call0 (E := E0) F hr hg hm hk hb .nil passL hdb) fun σ H Q ⟨W, ρ, L, R, es', sr, h, k⟩ => by
    show liftF X.K X.w n fs ([] ++ []) H Q E0
    exact call_imp sr .nil h.1 h.2.1 h.2.2 k⟩
/-- one own object is handed on, as the first argument -/
def tCaM (n : Nat) (fs : FS) (t : tA) : tE := fun ρ L R => t ρ L fun cs L1 => match cs with
  | .ob j :: r => r.length + 1 = n ∧ lowDs 0 r ∧ match L1[j]? with
    | some o => o ≠ .dead ∧ lowO 0 o ∧ fs (.ob 0 :: r) [o] (fun d L2 => lowD 0 d ∧ match L2 with
      | [o'] => lowO 0 o' ∧ R d (L1.set j o')
      | _ => False) fun _ _ => False
    | none => False
  | _ => False
theorem callM_imp {H : Hp} {Q : VK} {E : XK} {W : Wd} {L : Sto} {R : QE} {cs : List D} {vs : List V} (sr : SR X.K X.w G H W L) (is : Iss X.K X.w H W vs cs)
    (h : tCaM n fs (fun _ L R => R cs L) [] L R) (k : Kont X.K X.w G W L H R Q) : liftF X.K X.w n fs vs H Q E := by
  unfold tCaM at h
  dsimp only at h
  split at h
  · rename_i j r
    obtain ⟨hn, low, h⟩ := h
    split at h
    · rename_i o eo
      obtain ⟨od, ol, h⟩ := h
      cases is with
      | cons i is =>
        cases i with
        | ob hm =>
          rename_i vs a
          have lv : Live W L j a := ⟨hm, o, eo, od⟩
          have is0 : Iss X.K X.w H ⟨[a], W.fz⟩ vs r := Iss.low (m := 0) (W := W) (W' := ⟨[a], W.fz⟩) (fun _ f => f) (fun _ _ h => absurd h (Nat.not_lt_zero _)) is low
          have one : ∀ {n : Nat} {b : Addr}, ([a] : List Addr)[n]? = some b → n = 0 ∧ b = a := fun {n b} e => by
            cases n with
            | zero => exact ⟨rfl, by simpa using e.symm⟩
            | succ n => simp at e
          have sr0 : SR X.K X.w .none H ⟨[a], W.fz⟩ [o] := by
            refine ⟨rfl, ?_, ?_, sr.fzt, ?_, trivial⟩
            · rintro n m b ⟨h1, _⟩ ⟨h2, _⟩
              rw [(one h1).1, (one h2).1]
            · rintro n b ⟨h1, _⟩ f
              have e := (one h1).2
              subst e
              exact sr.nfz j _ lv f
            · intro n b u h1 h2
              obtain ⟨rfl, rfl⟩ := one h1
              have e : o = u := by simpa using h2
              subst e
              exact (sr.ok j _ _ hm eo).low (m := 0) (W := W) (W' := ⟨[b], W.fz⟩) (fun _ f => f) (fun _ _ h => absurd h (Nat.not_lt_zero _)) ol
          refine ⟨by rw [List.length_cons, is.length]; exact hn, ⟨[a], W.fz⟩, .ob 0 :: r, [o], _, _, .cons (.ob rfl) is0, sr0, h, ?_, fun x L' W' H' od _ _ _ h => h.elim⟩
          intro d L' W' H' v x0 sr' i ⟨_, _, l3, l1, rr⟩
          obtain ⟨o', rfl⟩ : ∃ o', L' = [o'] := by
            cases L' with
            | nil => cases l3
            | cons o' t =>
              cases t with
              | nil => exact ⟨o', rfl⟩
              | cons _ _ => simp at l3
          obtain ⟨l2, rr⟩ := rr
          have live0 : ∀ {n : Nat} {b : Addr}, Live ⟨[a], W.fz⟩ [o] n b → b = a := fun {n b} l => (one l.1).2
          have keep : ∀ b u, H b = some u → b ≠ a → H' b = some u := fun b u e ne => x0.keep b u e fun n l => ne (live0 l)
          have fzn : ∀ b, W'.fz b → W.fz b ∨ b = a ∨ H b = none := fun b f => by
            rcases x0.fzn b f with f | ⟨m, l⟩ | e
            · exact .inl f
            · exact .inr (.inl (live0 l))
            · exact .inr (.inr e)
          -- the object is still there
          obtain ⟨t, et⟩ := x0.pre
          have ma : W'.mu[0]? = some a := by rw [et]; rfl
          have x1 : Ext W L H ⟨W.mu, W'.fz⟩ (L.set j o') H' := ⟨⟨[], (List.append_nil _).symm⟩, x0.fz, fun b u e nl => keep b u e fun z => nl j (z ▸ lv), fun n b l => .inl ⟨n, live_set (W := W) eo od l⟩, fun b f => by
            rcases fzn b f with f | e | e
            · exact .inl f
            · exact .inr (.inl ⟨j, e ▸ lv⟩)
            · exact .inr (.inr e)⟩
          have sr1 : SR X.K X.w G H' ⟨W.mu, W'.fz⟩ (L.set j o') := by
            refine ⟨by rw [List.length_set]; exact sr.len, fun n m b p1 p2 => sr.inj n m b (live_set (W := W) eo od p1) (live_set (W := W) eo od p2), fun n b l f => ?_, sr'.fzt, fun n b u h1 h2 => ?_, G.st sr.gam x1⟩
            · have l' : Live W L n b := live_set (W := W) eo od l
              rcases fzn b f with f | e | e
              · exact sr.nfz n b l' f
              · subst e
                have en := sr.inj n j b l' lv
                subst en
                obtain ⟨_, u, h2, h3⟩ := l
                rw [List.getElem?_set_self (List.getElem?_eq_some_iff.mp eo).1] at h2
                cases h2
                exact sr'.nfz 0 b ⟨ma, _, rfl, h3⟩ f
              · obtain ⟨u, e'⟩ := sr.there l'
                rw [e] at e'; cases e'
            · by_cases en : j = n
              · subst en
                have eb : a = b := Option.some.inj (hm.symm.trans h1)
                subst eb
                rw [List.getElem?_set_self (List.getElem?_eq_some_iff.mp eo).1] at h2
                cases h2
                exact (sr'.ok 0 a _ ma rfl).low (m := 0) (W := W') (W' := ⟨W.mu, W'.fz⟩) (fun _ f => f) (fun _ _ h => absurd h (Nat.not_lt_zero _)) l2
              · rw [List.getElem?_set_ne en] at h2
                by_cases ud : u = .dead
                · rw [ud]; trivial
                · have ne : b ≠ a := fun z => en (sr.inj j n a lv (z ▸ ⟨h1, u, h2, ud⟩))
                  exact (sr.ok n b u h1 h2).ext sr x1 fun v e => keep b v e ne
          have i1 : Is X.K X.w H' ⟨W.mu, W'.fz⟩ v d := Is.low (m := 0) (W := W') (W' := ⟨W.mu, W'.fz⟩) (fun _ f => f) (fun _ _ h => absurd h (Nat.not_lt_zero _)) i l1
          exact k d _ _ H' v x1 sr1 i1 rr
    · exact h.elim
  · exact h.elim
theorem de_callM (F : FnOk X.prog X.w X.K X.mg X.base (L2.CX X.prog X.w) k f fd ps (liftF X.K X.w n fs)) (hr : Room k X.A) (hm : X.mg x = some (.ref f)) (hk : PySem.W.keepIn X.K (.ref f) = true) (hb : Binds X.K fd ps []) (ha : DA X G (e :: es) tt)
    (hg : Gl X x := by rfl) (hdb : (x == ("__debug__" : Str)) = false := by decide) (he : starEach (e :: es) X.env = (false, eval e X.env) :: starEach es X.env := by rfl) (hpl : (backTo pos (starEach es X.env)).any (·.1) = false := by rfl) :
    DE X G (.Call (.Name x p) (e :: es) [] pos) (tCaM n fs tt) :=
  ⟨PE.imp (pe_call (E := E0) F hr hg hm hk hb .nil passL ha.pa hdb he hpl) fun σ H Q ⟨W, ρ, L, R, es', sr, h, k⟩ => ⟨W, ρ, L, _, es', sr, h, fun cs L1 W1 H1 vs x1 sr1 is1 h1 => by
    show liftF X.K X.w n fs (vs ++ []) H1 Q E0
    rw [List.append_nil]
    exact callM_imp sr1 is1 h1 (k.ext x1)⟩⟩
end

/-! ### pure defs -/
/-- what a pure def promises: by the arguments, the answer -/
abbrev PS1 := List D → (D → Prop) → Prop
def pureF (P : PS1) : FS := fun ds L R _ => L = [] ∧ P ds fun d => R d []
theorem rtp {R : QE} {d : D} {L : Sto} (h : lowD 0 d) (r : R d []) : FinR 0 R d L := ⟨d, [], .same h, .nil, rfl, r⟩
theorem rtpF {R : QE} {d d0 : D} {L : Sto} (h : Fr L 0 d d0) (r : R d0 []) : FinR 0 R d L := ⟨d0, [], h, .nil, rfl, r⟩
abbrev endP (R : QE) : DEnds := { nx := fun _ L' => FinR 0 R .non L', rt := FinR 0 R }
section
variable {P : Program} {w : World} {K : PySem.W.Frag} {mg : Str → Option Value} {base : Heap}
/-- a derivation of a def's body, wherever it is called -/
abbrev DvOf (P : Program) (w : World) (K : PySem.W.Frag) (mg : Str → Option Value) (base : Heap) (N : List Str) (qual : Str) (st : Stmt) (f : Addr) (k : Nat) (t : tS) : Prop :=
  ∀ (cdv : Value) (A : Around) (outer : List Env) (s : Shared) (H : Hp) (E : XK) (RE : QX), Room k (A.deeper (envOfC qual (defScope st) s.heap.objs.size f cdv)) →
    DSs (cxOf (L2.CX P w) P w K mg base N qual (defScope st) f cdv A outer s H E) (gamE K w RE E) (defBody st) t
/-- THE RULE for a pure def -/
theorem fn_P {x qual : Str} {st : Stmt} {f : Addr} {fd : FuncData} {N ps : List Str} {k : Nat} {P1 : PS1} {t : tS} (F : Fun K x qual st f fd) (S : FnScope N ps (defScope st)) (dv : DvOf P w K mg base N qual st f k t)
    (rd : ∀ (ds : List D) (R : QE), ds.length = ps.length → P1 ds (fun d => R d []) → t (endP R) (startD N.length ds) []) :
    FnOk P w K mg base (L2.CX P w) (k + 1) f fd ps (liftF K w ps.length (pureF P1)) :=
  fn_D F S fun cdv A outer s H E ds L R RE hr hl ⟨e, h⟩ => by
    subst e
    exact ⟨t, dv cdv A outer s H E RE hr, rd ds R hl h⟩
/-- .. for one that changes its first argument's object -/
def mutF (P : D → O → List D → (D → O → Prop) → Prop) : FS := fun ds L R _ => match ds, L with
  | d :: r, [o] => P d o r fun x o' => R x [o']
  | _, _ => False
abbrev endM (R : QE) : DEnds := { nx := fun _ L' => FinR 1 R .non L', rt := FinR 1 R }
theorem rtm {R : QE} {d : D} {o : O} {L : Sto} (h : lowD 1 d) (h' : lowO 1 o) (r : R d [o]) : FinR 1 R d (o :: L) := ⟨d, [o], .same h, .cons (.same h') .nil, rfl, r⟩
theorem fn_M {x qual : Str} {st : Stmt} {f : Addr} {fd : FuncData} {N ps : List Str} {k : Nat} {P1 : D → O → List D → (D → O → Prop) → Prop} {t : tS} (F : Fun K x qual st f fd) (S : FnScope N ps (defScope st)) (dv : DvOf P w K mg base N qual st f k t)
    (rd : ∀ (d : D) (o : O) (r : List D) (R : QE), r.length + 1 = ps.length → P1 d o r (fun x o' => R x [o']) → t (endM R) (startD N.length (d :: r)) [o]) :
    FnOk P w K mg base (L2.CX P w) (k + 1) f fd ps (liftF K w ps.length (mutF P1)) :=
  fn_D F S fun cdv A outer s H E ds L R RE hr hl h => by
    unfold mutF at h
    split at h
    · exact ⟨t, dv cdv A outer s H E RE hr, rd _ _ _ R hl h⟩
    · exact h.elim
end
/-- a def as it stands behind the top -/
structure FunAt (K : PySem.W.Frag) (mg : Str → Option Value) (x : Str) (st : Stmt) (ps : List Str) where
  f : Addr
  fd : FuncData
  F : Fun K x x st f fd
  g : mg x = some (.ref f)
  b : Binds K fd ps []
/-- a written value of the module -/
def GlobV (K : PySem.W.Frag) (mg : Str → Option Value) (x : Str) (d : D) : Prop := ∃ u v, mg x = some u ∧ RelV v u ∧ ∀ w H W, Is K w H W v d
theorem de_cst {X : Cx} {G : Gam} {x : Str} {d : D} {pos : Pos} (h : GlobV X.K X.mg x d) (hg : Gl X x := by rfl) (hd : (x == ("__debug__" : Str)) = false := by decide) : DE X G (.Name x pos) (tK d) :=
  let ⟨_, _, h1, h2, h3⟩ := h; de_globV hg h1 h2 h3 hd
theorem iteB {b : Bool} {A B : Prop} (h1 : b = true → A) (h2 : b = false → B) : if b = true then A else B := by
  cases b with
  | true => rw [if_pos rfl]; exact h1 rfl
  | false => rw [if_neg Bool.false_ne_true]; exact h2 rfl
theorem iteY {b : Bool} {A B : Prop} (h : b = true) (ha : A) : if b = true then A else B := by subst h; rw [if_pos rfl]; exact ha
theorem iteN {b : Bool} {A B : Prop} (h : b = false) (hb : B) : if b = true then A else B := by subst h; rw [if_neg Bool.false_ne_true]; exact hb
theorem hu65 {k : Nat} {A : Around} (r : Room k A) : A.units + 65 < cLine := by have := r.un; omega
end L2.DL

set_option Elab.async false
set_option linter.all false
set_option maxRecDepth 100000
/-! DJ: lists by built-ins (any, all, sum, max, sorted, list, tuple), zip, reversing, append, a small written dict asked. -/
namespace L2.DL
open PySem PySem.Spec PyProof.Rows

/-! ### what lists hold -/
def blsOf : List D → Option (List Bool)
  | [] => some []
  | .bl b :: r => (blsOf r).map (b :: ·)
  | _ :: _ => none
def intsOf : List D → Option (List Int)
  | [] => some []
  | .int b :: r => (intsOf r).map (b :: ·)
  | _ :: _ => none
section
variable {K : PySem.W.Frag} {w : World} {H : Hp} {W : Wd}
theorem bls_is : ∀ {vs : List V} {ds : List D} {bs : List Bool}, Iss K w H W vs ds → blsOf ds = some bs → vs = bs.map V.bl
  | _, _, _, .nil, e => by simp [blsOf] at e; subst e; rfl
  | _, _, _, .cons (d := d) h t, e => by
    cases d with
    | bl b =>
      cases h
      simp only [blsOf, Option.map_eq_some_iff] at e
      obtain ⟨bs, e1, e2⟩ := e
      subst e2
      rw [bls_is t e1]; rfl
    | _ => simp [blsOf] at e
theorem ints_is : ∀ {vs : List V} {ds : List D} {bs : List Int}, Iss K w H W vs ds → intsOf ds = some bs → vs = bs.map V.int
  | _, _, _, .nil, e => by simp [intsOf] at e; subst e; rfl
  | _, _, _, .cons (d := d) h t, e => by
    cases d with
    | int b =>
      cases h
      simp only [intsOf, Option.map_eq_some_iff] at e
      obtain ⟨bs, e1, e2⟩ := e
      subst e2
      rw [ints_is t e1]; rfl
    | _ => simp [intsOf] at e
end
theorem blsOf_map (bs : List Bool) : blsOf (bs.map D.bl) = some bs := by
  induction bs with
  | nil => rfl
  | cons b r ih => simp [blsOf, ih]
theorem intsOf_map (bs : List Int) : intsOf (bs.map D.int) = some bs := by
  induction bs with
  | nil => rfl
  | cons b r ih => simp [intsOf, ih]

section
variable {X : Cx} {G : Gam} {a b c e : Expr} {ta tb tc te : tE} {pos : Pos} {es : List Expr} {tt : tA} {x : Str} {p : Pos}
/-! ### any, all, sum, max -/
def cBls (f : List Bool → Bool) : OA := fun xs L R => match xs with
  | [d] => match lstOf L d with
    | some ds => match blsOf ds with
      | some bs => R (.bl (f bs)) L
      | none => False
    | none => False
  | _ => False
abbrev cAny : OA := cBls (·.any id)
abbrev cAll : OA := cBls (·.all id)
theorem cb_any {K w} : CbD K w cAny (rAny K) := by
  intro G W H L xs vs R Q sr is h k
  unfold cAny cBls at h
  split at h
  · obtain ⟨v, rfl, i⟩ := iss1 is
    split at h
    · rename_i ds e
      split at h
      · rename_i bs e2
        obtain ⟨a, ys, rfl, h1, h2⟩ := lstOf_is sr i e
        exact ⟨a, bs, rfl, by rw [← bls_is h2 e2]; exact h1, k.here sr (.bl _) h⟩
      · exact h.elim
    · exact h.elim
  · exact h.elim
theorem cb_all {K w} : CbD K w cAll (rAll K) := by
  intro G W H L xs vs R Q sr is h k
  unfold cAll cBls at h
  split at h
  · obtain ⟨v, rfl, i⟩ := iss1 is
    split at h
    · rename_i ds e
      split at h
      · rename_i bs e2
        obtain ⟨a, ys, rfl, h1, h2⟩ := lstOf_is sr i e
        exact ⟨a, bs, rfl, by rw [← bls_is h2 e2]; exact h1, k.here sr (.bl _) h⟩
      · exact h.elim
    · exact h.elim
  · exact h.elim
def cSum : OA := fun xs L R => match xs with
  | [d] => match lstOf L d with
    | some ds => match intsOf ds with
      | some bs => R (.int bs.sum) L
      | none => False
    | none => False
  | _ => False
theorem cb_sum {K w} : CbD K w cSum (rSum K) := by
  intro G W H L xs vs R Q sr is h k
  unfold cSum at h
  split at h
  · obtain ⟨v, rfl, i⟩ := iss1 is
    split at h
    · rename_i ds e
      split at h
      · rename_i bs e2
        obtain ⟨a, ys, rfl, h1, h2⟩ := lstOf_is sr i e
        exact ⟨a, bs, rfl, by rw [← ints_is h2 e2]; exact h1, k.here sr (.int _) h⟩
      · exact h.elim
    · exact h.elim
  · exact h.elim
def maxI : List Int → Int
  | [] => 0
  | x :: r => r.foldl max x
theorem maxI_ge : ∀ (r : List Int) (x : Int), x ≤ r.foldl max x ∧ (∀ y ∈ r, y ≤ r.foldl max x) ∧ (r.foldl max x = x ∨ r.foldl max x ∈ r)
  | [], x => ⟨Int.le_refl _, by simp, .inl rfl⟩
  | y :: r, x => by
    obtain ⟨h1, h2, h3⟩ := maxI_ge r (max x y)
    refine ⟨by simp only [List.foldl_cons]; omega, ?_, ?_⟩
    · intro z hz
      simp only [List.foldl_cons]
      rcases List.mem_cons.mp hz with rfl | hz
      · omega
      · exact h2 z hz
    · simp only [List.foldl_cons]
      rcases h3 with e | e
      · by_cases hxy : x ≤ y
        · right; rw [e]; have : max x y = y := by omega
          rw [this]; exact List.mem_cons_self
        · left; rw [e]; omega
      · exact .inr (List.mem_cons_of_mem _ e)
theorem maxI_uniq {ns : List Int} {m : Int} (h0 : 0 < ns.length) (h1 : m ∈ ns) (h2 : ∀ y ∈ ns, y ≤ m) : m = maxI ns := by
  cases ns with
  | nil => cases h1
  | cons x r =>
    obtain ⟨a, b, c⟩ := maxI_ge r x
    show m = r.foldl max x
    have h3 : m ≤ r.foldl max x := by
      rcases List.mem_cons.mp h1 with rfl | h
      · exact a
      · exact b _ h
    have h4 : r.foldl max x ≤ m := by
      rcases c with e | e
      · rw [e]; exact h2 x List.mem_cons_self
      · exact h2 _ (List.mem_cons_of_mem _ e)
    omega
def cMaxL : OA := fun xs L R => match xs with
  | [d] => match lstOf L d with
    | some ds => match intsOf ds with
      | some bs => 0 < bs.length ∧ R (.int (maxI bs)) L
      | none => False
    | none => False
  | _ => False
theorem cb_maxL {K w} : CbD K w cMaxL (rMax K) := by
  intro G W H L xs vs R Q sr is h k
  unfold cMaxL at h
  split at h
  · obtain ⟨v, rfl, i⟩ := iss1 is
    split at h
    · rename_i ds e
      split at h
      · rename_i bs e2
        obtain ⟨a, ys, rfl, h1, h2⟩ := lstOf_is sr i e
        exact ⟨a, bs, rfl, by rw [← ints_is h2 e2]; exact h1, h.1, fun m m1 m2 => k.here sr (.int _) (by rw [maxI_uniq h.1 m1 m2]; exact h.2)⟩
      · exact h.elim
    · exact h.elim
  · exact h.elim
theorem de_any (hm : X.mg "any" = none) (ha : DA X G (e :: es) tt) (hc : X.calm = true := by rfl) (hg : Gl X "any" := by rfl) (he : starEach (e :: es) X.env = (false, eval e X.env) :: starEach es X.env := by rfl) (hpl : (backTo pos (starEach es X.env)).any (·.1) = false := by rfl) :
    DE X G (.Call (.Name "any" p) (e :: es) [] pos) (tCa cAny tt) := de_callB (cr_any hc) cb_any hg hm (by first | exact PyProof.Rows.boot_any | exact boot_any | decide +kernel) ha (by decide) (by decide) he hpl
theorem de_all (hm : X.mg "all" = none) (ha : DA X G (e :: es) tt) (hc : X.calm = true := by rfl) (hg : Gl X "all" := by rfl) (he : starEach (e :: es) X.env = (false, eval e X.env) :: starEach es X.env := by rfl) (hpl : (backTo pos (starEach es X.env)).any (·.1) = false := by rfl) :
    DE X G (.Call (.Name "all" p) (e :: es) [] pos) (tCa cAll tt) := de_callB (cr_all hc) cb_all hg hm (by first | exact PyProof.Rows.boot_all | exact boot_all | decide +kernel) ha (by decide) (by decide) he hpl
theorem de_sum (hm : X.mg "sum" = none) (ha : DA X G (e :: es) tt) (hc : X.calm = true := by rfl) (hg : Gl X "sum" := by rfl) (he : starEach (e :: es) X.env = (false, eval e X.env) :: starEach es X.env := by rfl) (hpl : (backTo pos (starEach es X.env)).any (·.1) = false := by rfl) :
    DE X G (.Call (.Name "sum" p) (e :: es) [] pos) (tCa cSum tt) := de_callB (cr_sum hc) cb_sum hg hm (by first | exact PyProof.Rows.boot_sum | exact boot_sum | decide +kernel) ha (by decide) (by decide) he hpl
theorem de_maxL (hm : X.mg "max" = none) (ha : DA X G (e :: es) tt) (hc : X.calm = true := by rfl) (hg : Gl X "max" := by rfl) (he : starEach (e :: es) X.env = (false, eval e X.env) :: starEach es X.env := by rfl) (hpl : (backTo pos (starEach es X.env)).any (·.1) = false := by rfl) :
    DE X G (.Call (.Name "max" p) (e :: es) [] pos) (tCa cMaxL tt) := de_callB (cr_max hc) cb_maxL hg hm boot_max ha (by decide) (by decide) he hpl

/-! ### list(x), tuple(x) -/
def cList : OA := fun xs L R => match xs with
  | [d] => match seqOf L d with
    | some ds => R (.lst ds) L
    | none => False
  | _ => False
def cListO : OA := fun xs L R => match xs with
  | [d] => match seqOf L d with
    | some ds => R (.ob L.length) (L ++ [.lst ds])
    | none => False
  | _ => False
def rListS (K : PySem.W.Frag) : List V → Hp → VK → Prop := fun xs H Q => ∃ p ys, xs = [.ref p] ∧ (SqL K H p ys ∨ SqT K H p ys) ∧ ∀ l, H l = none → Q (.ref l) (upd H l (.lst ys))
theorem cb_list {K w} : CbD K w cList (rListS K) := by
  intro G W H L xs vs R Q sr is h k
  unfold cList at h
  split at h
  · obtain ⟨v, rfl, i⟩ := iss1 is
    split at h
    · rename_i ds e
      obtain ⟨a, ys, rfl, h1, h2⟩ := seq_is sr i e
      exact ⟨a, ys, rfl, h1, fun l hl => k.lst sr hl h2 h⟩
    · exact h.elim
  · exact h.elim
theorem cb_listO {K w} : CbD K w cListO (rListS K) := by
  intro G W H L xs vs R Q sr is h k
  unfold cListO at h
  split at h
  · obtain ⟨v, rfl, i⟩ := iss1 is
    split at h
    · rename_i ds e
      obtain ⟨a, ys, rfl, h1, h2⟩ := seq_is sr i e
      exact ⟨a, ys, rfl, h1, fun l hl => k.own sr hl h2 h⟩
    · exact h.elim
  · exact h.elim
theorem de_listC (hm : X.mg "list" = none) (ha : DA X G (e :: es) tt) (hg : Gl X "list" := by rfl) (he : starEach (e :: es) X.env = (false, eval e X.env) :: starEach es X.env := by rfl) (hpl : (backTo pos (starEach es X.env)).any (·.1) = false := by rfl) :
    DE X G (.Call (.Name "list" p) (e :: es) [] pos) (tCa cList tt) := de_callTy call_list_of cb_list hg hm PyProof.Rows.boot_list ha (by decide) (by decide) he hpl
theorem de_listO (hm : X.mg "list" = none) (ha : DA X G (e :: es) tt) (hg : Gl X "list" := by rfl) (he : starEach (e :: es) X.env = (false, eval e X.env) :: starEach es X.env := by rfl) (hpl : (backTo pos (starEach es X.env)).any (·.1) = false := by rfl) :
    DE X G (.Call (.Name "list" p) (e :: es) [] pos) (tCa cListO tt) := de_callTy call_list_of cb_listO hg hm PyProof.Rows.boot_list ha (by decide) (by decide) he hpl
def cTuple : OA := fun xs L R => match xs with
  | [d] => match seqOf L d with
    | some ds => R (.tup ds) L
    | none => False
  | _ => False
theorem cb_tuple {K w} : CbD K w cTuple (fun xs H Q => ∃ p ys, xs = [.ref p] ∧ ((SqL K H p ys ∧ ∀ l, H l = none → Q (.ref l) (upd H l (.tup ys))) ∨ (SqT K H p ys ∧ Q (.ref p) H))) := by
  intro G W H L xs vs R Q sr is h k
  unfold cTuple at h
  split at h
  · obtain ⟨v, rfl, i⟩ := iss1 is
    split at h
    · rename_i ds e
      obtain ⟨a, ys, rfl, h1, h2⟩ := seq_is sr i e
      rcases h1 with h1 | h1
      · exact ⟨a, ys, rfl, .inl ⟨h1, fun l hl => k.tup sr hl h2 h⟩⟩
      · exact ⟨a, ys, rfl, .inr ⟨h1, k.here sr (.tup h1 h2) h⟩⟩
    · exact h.elim
  · exact h.elim
theorem de_tuple (hm : X.mg "tuple" = none) (ha : DA X G (e :: es) tt) (hg : Gl X "tuple" := by rfl) (he : starEach (e :: es) X.env = (false, eval e X.env) :: starEach es X.env := by rfl) (hpl : (backTo pos (starEach es X.env)).any (·.1) = false := by rfl) :
    DE X G (.Call (.Name "tuple" p) (e :: es) [] pos) (tCa cTuple tt) := de_callTy call_tuple_of cb_tuple hg hm PyProof.Rows.boot_tuple ha (by decide) (by decide) he hpl
/-! ### list(range(..)) -/
theorem rg_is {K w H W} (lo hi : Int) : Iss K w H W (rgV lo hi) (rangeD lo (hi - lo).toNat) := by
  unfold rgV rangeD
  generalize List.range (hi - lo).toNat = l
  induction l with
  | nil => exact .nil
  | cons x r ih => exact .cons (.int _) ih
def tLsR1 (t : tA) : tE := fun ρ L R => t ρ L fun ds L1 => match ds with
  | [.int j] => RgOk 0 j ∧ R (.lst (rangeD 0 j.toNat)) L1
  | _ => False
def tLsR2 (t : tA) : tE := fun ρ L R => t ρ L fun ds L1 => match ds with
  | [.int i, .int j] => RgOk i j ∧ R (.lst (rangeD i (j - i).toNat)) L1
  | _ => False
def t1A (t : tE) : tA := tConsA t tNilA
theorem de_listR1 {p2 pos2 : Pos} (hc : X.calm = true) (hm : X.mg "list" = none) (hm2 : X.mg "range" = none) (ha : DE X G a ta) (hg : Gl X "list" := by rfl) (hg2 : Gl X "range" := by rfl) (na2 : starEach [a] X.env = (false, eval a X.env) :: starEach [] X.env := by rfl)
    (na : starEach [.Call (.Name "range" p2) [a] [] pos2] X.env = (false, eval (.Call (.Name "range" p2) [a] [] pos2) X.env) :: starEach [] X.env := by rfl) :
    DE X G (.Call (.Name "list" p) [.Call (.Name "range" p2) [a] [] pos2] [] pos) (tLsR1 (tConsA ta tNilA)) :=
  ⟨PE.imp (pe_listRg hc hg hm (prg_1 hg2 hm2 ha.pe na2) na) fun σ H Q ⟨W, ρ, L, R, es, sr, h, k⟩ => ⟨W, ρ, L, _, es, sr, h, fun d L1 W1 H1 v x1 sr1 is1 h1 => by
    dsimp only [tNilA] at h1
    split at h1
    · rename_i j e
      cases e
      cases is1
      refine ⟨_, rfl, h1.1, fun q hq => (k.ext x1).lst sr1 hq (rg_is _ _) ?_⟩
      simpa using h1.2
    · exact h1.elim⟩⟩
theorem de_listR2 {p2 pos2 : Pos} (hc : X.calm = true) (hm : X.mg "list" = none) (hm2 : X.mg "range" = none) (ha : DE X G a ta) (hb : DE X G b tb) (hg : Gl X "list" := by rfl) (hg2 : Gl X "range" := by rfl) (na2 : starEach [a, b] X.env = (false, eval a X.env) :: starEach [b] X.env := by rfl)
    (nb2 : starEach [b] X.env = (false, eval b X.env) :: starEach [] X.env := by rfl) (hp : (backTo pos2 (starEach [b] X.env)).any (·.1) = false := by rfl)
    (na : starEach [.Call (.Name "range" p2) [a, b] [] pos2] X.env = (false, eval (.Call (.Name "range" p2) [a, b] [] pos2) X.env) :: starEach [] X.env := by rfl) :
    DE X G (.Call (.Name "list" p) [.Call (.Name "range" p2) [a, b] [] pos2] [] pos) (tLsR2 (tConsA ta (tConsA tb tNilA))) :=
  ⟨PE.imp (pe_listRg hc hg hm (prg_2 hg2 hm2 ha.pe hb.pe na2 nb2 hp) na) fun σ H Q ⟨W, ρ, L, R, es, sr, h, k⟩ => ⟨W, ρ, L, _, es, sr, h, fun d L1 W1 H1 v x1 sr1 is1 h1 => ⟨W1, ρ, L1, _, es.ext sr x1, sr1, h1, fun d2 L2 W2 H2 v2 x2 sr2 is2 h2 => by
    dsimp only [tNilA] at h2
    have is1 := is1.ext sr1 x2
    split at h2
    · rename_i i j e
      cases e
      cases is1; cases is2
      exact ⟨_, _, rfl, rfl, h2.1, fun q hq => ((k.ext x1).ext x2).lst sr2 hq (rg_is _ _) h2.2⟩
    · exact h2.elim⟩⟩⟩

/-! ### append -/
def appD (n : Nat) (R : QE) : QA := fun ds L2 => match ds with
  | [y] => match L2[n]? with
    | some (.lst xs) => xs.length < sizeLine ∧ R .non (L2.set n (.lst (xs ++ [y])))
    | _ => False
  | _ => False
def isLst : Option O → Bool
  | some (.lst _) => true
  | _ => false
def tAppend (to : tE) (t : tA) : tE := fun ρ L R => to ρ L fun d L1 => match d with
  | .ob n => isLst L1[n]? = true ∧ t ρ L1 (appD n R)
  | _ => False
theorem de_append {to : tE} {o : Expr} {apos cpos : Pos} (ho : DE X G o to) (ha : DA X G (e :: es) tt) (hbase : attributeBase o "append" X.env (eval o X.env) = eval o X.env := by rfl)
    (hfew : ((backTo cpos (starEach (e :: es) X.env)).all (fun x => !x.1) && (backToKw cpos (keywordEach [] X.env)).all (fun x => x.1.isSome)
      && decide ((e :: es).length + ([] : List Keyword).length + (if ([] : List Keyword).isEmpty then 0 else 1) < 30)) = true := by rfl)
    (hline : (apos.endLine == cpos.line) = true := by rfl) (hs : starEach (e :: es) X.env = (false, eval e X.env) :: starEach es X.env := by rfl) (hplain : (backTo cpos (starEach es X.env)).any (·.1) = false := by rfl) :
    DE X G (.Call (.Attribute o "append" apos) (e :: es) [] cpos) (tAppend to tt) :=
  ⟨PE.imp (pe_bm PySem.F.plainAttrs_list PySem.F.slot_list_append PySem.F.type_list_append mt_append ho.pe ha.pa hbase hfew hline hs hplain) fun σ H Q ⟨W, ρ, L, R, es, sr, h, k⟩ => ⟨W, ρ, L, _, es, sr, h, fun d L1 W1 H1 v x1 sr1 is1 h1 => by
    split at h1
    · rename_i n
      obtain ⟨hl, h1⟩ := h1
      cases is1 with
      | ob hm =>
        rename_i a
        obtain ⟨xs0, e0⟩ : ∃ xs : List D, L1[n]? = some (O.lst xs) := by
          unfold isLst at hl
          split at hl
          · exact ⟨_, by assumption⟩
          · cases hl
        obtain ⟨vs, h2, h3⟩ := sr1.ok _ _ _ hm e0
        refine ⟨.inl ⟨rfl, _, SqL.of h2⟩, W1, ρ, L1, _, es.ext sr x1, sr1, h1, fun ds L2 W2 H2 us x2 sr2 is2 h4 => ?_⟩
        unfold appD at h4
        split at h4
        · rename_i y
          obtain ⟨u, rfl, iu⟩ := iss1 is2
          split at h4
          · rename_i xs e2
            have hm2 := mu_ext x2 hm
            obtain ⟨ws, h5, h6⟩ := sr2.ok _ _ _ hm2 e2
            have ex := Ext.set (o := .lst (xs ++ [y])) (ho := .lst (ws ++ [u])) (H := H2) hm2 e2 (by intro z; cases z)
            refine ⟨a, ws, u, rfl, rfl, h5, by rw [h6.length]; exact h4.1, ?_⟩
            exact ((k.ext x1).ext x2) _ _ W2 _ _ ex (sr2.set hm2 e2 (by intro z; cases z) ⟨_, upd_same, (h6.append (.cons iu .nil)).ext sr2 ex⟩) .non h4.2
          · exact h4.elim
        · exact h4.elim
    · exact h1.elim⟩⟩

/-! ### xs[::-1] -/
theorem sliceApplied_rev {prog : Program} {w : World} {A : Around} {E : Value → Shared → Prop} {s : Shared} {sl : Addr} {vk : Value} {n : Nat} {Q : Int × Int × Nat → Shared → Prop} (hs : s.heap.IsSliceOf sl .none .none vk) (pk : IsPart vk (some (-1)))
    (h : Q ((n : Int) - 1, -1, n) s) : wpAny (model prog w) A (Builtin.Slice.sliceApplied (.ref sl) (pure (n : Int))) Q E s := by
  obtain ⟨os, hos, hcs, hds⟩ := id hs
  unfold Builtin.Slice.sliceApplied Builtin.Slice.sliceFields
  refine wpAny_bind (wpAny_bind (wpAny_field hos hds (x := .none) rfl (wpAny_bind (wpAny_field hos hds (x := .none) rfl (wpAny_bind (wpAny_field hos hds (x := vk) rfl (wpAny_pure ?_)))))))
  refine wpAny_bind (HT.slicePart_ pk ?_)
  show wpAny _ _ (if ((-1 : Int) == 0) = true then _ else _) _ _ s
  rw [if_neg (by decide)]
  refine wpAny_bind (slicePart_none (wpAny_bind (slicePart_none (wpAny_bind (wpAny_pure ?_)))))
  show wpAny _ _ (match Builtin.Slice.sliceAdjust none none (-1) (n : Int) with | (lo, hi) => pure (lo, (-1 : Int), Builtin.Slice.slicePlaces lo hi (-1))) _ _ s
  have e1 : Builtin.Slice.sliceAdjust none none (-1) (n : Int) = ((n : Int) - 1, -1) := by
    unfold Builtin.Slice.sliceAdjust
    simp
  have e2 : Builtin.Slice.slicePlaces ((n : Int) - 1) (-1) (-1) = n := by
    unfold Builtin.Slice.slicePlaces
    simp
    try omega
  rw [e1]
  show wpAny _ _ (pure ((n : Int) - 1, (-1 : Int), Builtin.Slice.slicePlaces ((n : Int) - 1) (-1) (-1))) _ _ s
  rw [e2]
  exact wpAny_pure h
theorem pick_rev (xs : Array Value) : ((List.range xs.size).filterMap fun (m : Nat) => xs[(((xs.size : Int) - 1) + (m : Int) * (-1)).toNat]?).toArray = xs.toList.reverse.toArray := by
  congr 1
  have h : ∀ k, k ≤ xs.size → ((List.range k).filterMap fun (m : Nat) => xs[(((xs.size : Int) - 1) + (m : Int) * (-1)).toNat]?) = xs.toList.reverse.take k := by
    intro k
    induction k with
    | zero => intro _; rfl
    | succ k ih =>
      intro hk
      have e : (((xs.size : Int) - 1) + (k : Int) * (-1)).toNat = xs.size - 1 - k := by omega
      rw [List.range_succ, List.filterMap_append, ih (by omega), List.take_succ]
      congr 1
      simp only [List.filterMap_cons, List.filterMap_nil, e]
      rw [List.getElem?_reverse (by simp; omega)]
      simp only [Array.length_toList, Array.getElem?_toList]
      have hlt : xs.size - 1 - k < xs.size := by omega
      rw [Array.getElem?_eq_getElem hlt]
      rfl
  rw [h xs.size (Nat.le_refl _), List.take_of_length_le (by simp)]
theorem getItem_tuple_rev {prog : Program} {w : World} {A : Around} {E : Value → Shared → Prop} {s : Shared} {t sl : Addr} {items : Array Value} {vk : Value} {Q : Value → Shared → Prop} (ht : IsTup s.heap t items) (hs : s.heap.IsSliceOf sl .none .none vk) (pk : IsPart vk (some (-1)))
    (h : Q (.ref s.heap.objs.size) { s with heap := s.heap.push { cls := .type "tuple", data := .seq items.toList.reverse.toArray } })
    (hsz : items.size ≤ sizeLine) : wpAny (model prog w) A (getItem (.ref t) (.ref sl)) Q E s := by
  have hrev : sizeOk (.seq items.toList.reverse.toArray) := by
    show items.toList.reverse.toArray.size ≤ sizeLine
    rw [List.size_toArray, List.length_reverse, Array.length_toList]
    exact hsz
  obtain ⟨os, hos, hcs, hds⟩ := id hs
  have hTs : s.TypeIs (.ref sl) "slice" := ⟨os, hos, hcs⟩
  unfold getItem
  try with_reducible refine wpAny_holding ?_
  first | refine wpAny_bind (wpAny_pure ?_) | skip
  refine wpAny_bind (wpAny_sequenceKey ht.typeIs (by decide) ?_)
  refine wpAny_bind (wpAny_callSpecial?_slot (name := Str.ofString "__getitem__") ht.typeIs PyProof.Rows.slot_tuple_getitem
    (wpAny_call_entry PyProof.Rows.slot_tuple_getitem ht.typeIs entry_tuple_getitem ?_ (args_tuple_getitem _ _)))
  show wpAny _ _ (Builtin.Tuple.tupleItemsOf (.ref t) >>= _) _ _ s
  refine wpAny_bind (tupleItemsOf_ ht ?_)
  refine wpAny_bind (wpAny_typeOf hTs ?_)
  rw [if_pos (by decide)]
  refine wpAny_bind (sliceApplied_rev hs pk ?_)
  have hno : ¬ ((((items.size : Int) - 1) == 0 && (-1 : Int) == 1 && items.size == items.size) = true) := by simp
  show wpAny _ _ (if (((items.size : Int) - 1) == 0 && (-1 : Int) == 1 && items.size == items.size) = true then _ else _) _ _ s
  rw [if_neg hno, pick_rev]
  first
    | exact wpAny_bind (m := Builtin.Tuple.tupleExact _) (wpAny_newObj_type (wpAny_pure ⟨_, rfl, wpAny_pure h⟩) hrev)
    | exact wpAny_bind (m := Builtin.Tuple.tupleExact _) (wpAny_newObj_type (wpAny_bind (wpAny_pure (wpAny_pure ⟨_, rfl, wpAny_pure h⟩))) hrev)
    | exact wpAny_bind (wpAny_bind (m := Builtin.Tuple.tupleExact _) (wpAny_newObj_type (wpAny_pure (wpAny_pure ⟨_, rfl, wpAny_pure h⟩)) hrev))
    | exact wpAny_bind (wpAny_bind (m := Builtin.Tuple.tupleExact _) (wpAny_newObj_type (wpAny_pure ⟨_, rfl, wpAny_pure h⟩) hrev))
def tRevA (K : PySem.W.Frag) (te : TE) : TE := fun σ H Q => te σ H fun x H1 => ∃ a xs, x = .ref a ∧ ((SqL K H1 a xs ∧ ∀ p, H1 p = none → Q (.ref p) (upd H1 p (.lst xs.reverse))) ∨ (SqT K H1 a xs ∧ ∀ p, H1 p = none → Q (.ref p) (upd H1 p (.tup xs.reverse))))
theorem pe_revA {te : TE} {k : Nat} {p1 p2 p3 pos : Pos} (he : PE X e te) : PE X (.Subscript e (.Slice none none (some (.UnaryOp .USub (.Constant (.int 1) k p1) p2)) p3) pos) (tRevA X.K te) := by
  refine ⟨fun pins s σ H Q I h => ?_⟩
  refine Subscript_ (thn (he.run pins s σ H _ I h) fun v s1 ⟨x, H1, I1, r1, q1⟩ => ?_)
  obtain ⟨a, xs, ex, q⟩ := q1
  subst ex
  cases r1
  have hst : PO X (some (.UnaryOp .USub (.Constant (.int 1) k p1) p2)) (tPart (tUn (rU fun i => .int (-i)) (L2.tC (.int 1)))) := po_some (pe_un un_neg pe_int)
  refine wpAny_Slice (thn (po_none.run pins s1 σ H1 (fun o H2 => o = none ∧ H2 = H1) I1 ⟨rfl, rfl⟩) fun vl s2 ⟨l, H2, I2, pl, el, e2⟩ => ?_)
  subst el e2
  refine thn (po_none.run pins s2 σ H2 (fun o H3 => o = none ∧ H3 = H2) I2 ⟨rfl, rfl⟩) fun vu s3 ⟨u, H3, I3, pu, eu, e3⟩ => ?_
  subst eu e3
  refine thn (hst.run pins s3 σ H3 (fun o H4 => o = some (-1) ∧ H4 = H3) I3 ⟨1, rfl, -1, rfl, rfl, rfl⟩) fun vs s4 ⟨o, H4, I4, ps, eo, e4⟩ => ?_
  subst eo e4
  have I5 : Inv X pins σ H4 { s4 with heap := s4.heap.push { cls := .type "slice", data := .fields #[vl, vu, vs] } } := I4.kept (t' := s4.toks) fun b ob q => Heap.get?_push_of_some _ q
  show wpAny (model X.prog X.w) X.A (subscriptTail e (.Slice none none (some (.UnaryOp .USub (.Constant (.int 1) k p1) p2)) p3) (.ref a) (.ref s4.heap.objs.size)) (EP X pins σ Q) X.xe { s4 with heap := s4.heap.push { cls := .type "slice", data := .fields #[vl, vu, vs] } }
  rcases q with ⟨hx, q⟩ | ⟨hx, q⟩
  · obtain ⟨its, r, ht, hz⟩ := I5.list hx
    have hlen := r.length
    refine tail_any (ops := [.ref a, .ref s4.heap.objs.size]) ht.isList.typeIs (PySem.slot_list_getitem.lookup) ?_ (by with_unfolding_all rfl)
    refine wpAny_getItem_list_slice ht.isList (Heap.IsSliceOf.new _ vl vu vs) pl pu ps (by decide) ?_ (by rw [List.size_toArray]; omega)
    rw [PySem.W.krv_pick]
    refine ⟨.ref _, _, I5.laid (t' := s4.toks) (o := .lst xs.reverse) (fun b ob q => Heap.get?_push_of_some _ q) (Nat.le_refl _) ?_, rfl, q _ (I5.hok.fresh (Nat.le_refl _))⟩
    exact ⟨by rw [List.length_reverse]; exact hz, _, 0, r.reverse, Heap.get?_push_size _ rfl⟩
  · obtain ⟨its, r, ht, hz⟩ := I5.tuple hx
    have hlen := r.length
    cases pl
    cases pu
    refine tail_any (ops := [.ref a, .ref s4.heap.objs.size]) ht.typeIs PyProof.Rows.slot_tuple_getitem.lookup ?_ (by with_unfolding_all rfl)
    refine getItem_tuple_rev ht (Heap.IsSliceOf.new _ .none .none vs) ps ?_ (by rw [List.size_toArray]; omega)
    refine ⟨.ref _, _, I5.laid (t' := s4.toks) (o := .tup xs.reverse) (fun b ob q => Heap.get?_push_of_some _ q) (Nat.le_refl _) ?_, rfl, q _ (I5.hok.fresh (Nat.le_refl _))⟩
    exact ⟨by rw [List.length_reverse]; exact hz, _, r.reverse, IsTup.new _ _⟩
def tRev (ta : tE) : tE := fun ρ L R => ta ρ L fun d L1 => match view L1 d with
  | .lst xs => R (.lst xs.reverse) L1
  | .tup xs => R (.tup xs.reverse) L1
  | _ => False
theorem de_rev {k : Nat} {p1 p2 p3 pos : Pos} (ha : DE X G a ta) : DE X G (.Subscript a (.Slice none none (some (.UnaryOp .USub (.Constant (.int 1) k p1) p2)) p3) pos) (tRev ta) :=
  ⟨PE.imp (pe_revA ha.pe) fun σ H Q ⟨W, ρ, L, R, es, sr, h, k⟩ => ⟨W, ρ, L, _, es, sr, h, fun d L1 W1 H1 v x1 sr1 is1 h1 => by
    split at h1
    · rename_i xs e
      obtain ⟨p, vs, rfl, h4, h5⟩ := view_lst sr1 is1 e
      exact ⟨p, vs, rfl, .inl ⟨h4, fun q hq => (k.ext x1).lst sr1 hq h5.reverse h1⟩⟩
    · rename_i xs e
      obtain ⟨p, vs, rfl, h4, h5⟩ := view_tup sr1 is1 e
      exact ⟨p, vs, rfl, .inr ⟨h4, fun q hq => (k.ext x1).tup sr1 hq h5.reverse h1⟩⟩
    · exact h1.elim⟩⟩

/-! ### zip -/
def zipD (xs ys : List D) : List D := List.zipWith (fun x y => .tup [x, y]) xs ys
def iZp (t : tA) : tI := fun ρ L R => t ρ L fun ds L1 => match ds with
  | [.lst xs, .lst ys] => R (zipD xs ys) L1
  | [.tup xs, .tup ys] => R (zipD xs ys) L1
  | _ => False
theorem zipD_get {xs ys : List D} {i : Nat} {d : D} (h : (zipD xs ys)[i]? = some d) : ∃ x y, xs[i]? = some x ∧ ys[i]? = some y ∧ d = .tup [x, y] := by
  unfold zipD at h
  rw [List.getElem?_zipWith] at h
  cases hx : xs[i]? with
  | none => rw [hx] at h; simp at h
  | some x =>
    cases hy : ys[i]? with
    | none => rw [hx, hy] at h; simp at h
    | some y => rw [hx, hy] at h; simp at h; exact ⟨x, y, rfl, rfl, h.symm⟩
/-- a list that stays: frozen or written -/
def Stays (K : PySem.W.Frag) (W : Wd) (H : Hp) (a : Addr) (xs : List V) : Prop := (W.fz a ∧ Rd H a (.lst xs)) ∨ KLst K a xs
theorem lst_stays {K w H W} {v : V} {ds : List D} (is : Is K w H W v (.lst ds)) : ∃ a xs, v = .ref a ∧ Stays K W H a xs ∧ Iss K w H W xs ds := by
  cases is with
  | lst f h hs => exact ⟨_, _, rfl, .inl ⟨f, h⟩, hs⟩
  | lstK h hs => exact ⟨_, _, rfl, .inr h, hs⟩
theorem Stays.keep {K w G} {W W' : Wd} {L L' : Sto} {H H' : Hp} {a : Addr} {xs : List V} (s : Stays K W H a xs) (sr : SR K w G H W L) (x : Ext W L H W' L' H') : SqL K H' a xs := by
  rcases s with ⟨f, h | ⟨o, h⟩⟩ | h
  · exact .inl (.inl (x.keep _ _ h (sr.notFz f)))
  · exact .inl (.inr ⟨o, x.keep _ _ h (sr.notFz f)⟩)
  · exact .inr h
theorem zip_len {xs ys : List D} {vs us : List V} {K w H W} (i1 : Iss K w H W vs xs) (i2 : Iss K w H W us ys) : vs.length ≤ (zipD xs ys).length ∨ us.length ≤ (zipD xs ys).length := by
  rw [i1.length, i2.length]; unfold zipD; rw [List.length_zipWith]; omega
theorem itD_zip {K w G} {W : Wd} {L : Sto} {H : Hp} {a b : Addr} {xs ys : List V} {ds es : List D} (sr : SR K w G H W L) (s1 : Stays K W H a xs) (s2 : Stays K W H b ys) (i1 : Iss K w H W xs ds) (i2 : Iss K w H W ys es) : ItD K w G W L H (Itz K a b) (zipD ds es) := by
  refine ⟨fun W' L' H' x _ => ⟨xs, ys, s1.keep sr x, s2.keep sr x, zip_len i1 i2⟩, fun i d W' L' H' e x _ => ?_, fun i d W' L' H' v H2 e x sr' y => ?_⟩
  · obtain ⟨p, q, e1, e2, _⟩ := zipD_get e
    obtain ⟨v, h1, _⟩ := i1.get e1
    obtain ⟨u, h2, _⟩ := i2.get e2
    exact ⟨xs, ys, v, u, s1.keep sr x, s2.keep sr x, h1, h2⟩
  · obtain ⟨p, q, e1, e2, rfl⟩ := zipD_get e
    obtain ⟨v0, h1, g1⟩ := i1.get e1
    obtain ⟨u0, h2, g2⟩ := i2.get e2
    obtain ⟨T, x', y', rfl, hT, rfl, f1, f2⟩ := y
    have e3 := f1 xs (s1.keep sr x)
    have e4 := f2 ys (s2.keep sr x)
    rw [h1] at e3; cases e3
    rw [h2] at e4; cases e4
    exact ⟨W', Ext.new hT, sr'.new hT, .tup (SqT.of upd_same) (.cons ((g1.ext sr x).ext sr' (Ext.new hT)) (.cons ((g2.ext sr x).ext sr' (Ext.new hT)) .nil))⟩
theorem itD_zipT {K w G} {W : Wd} {L : Sto} {H : Hp} {a b : Addr} {xs ys : List V} {ds es : List D} (sr : SR K w G H W L) (s1 : SqT K H a xs) (s2 : SqT K H b ys) (i1 : Iss K w H W xs ds) (i2 : Iss K w H W ys es) : ItD K w G W L H (RZ.ItzT K a b) (zipD ds es) := by
  refine ⟨fun W' L' H' x _ => ⟨xs, ys, SqT.ext sr x s1, SqT.ext sr x s2, zip_len i1 i2⟩, fun i d W' L' H' e x _ => ?_, fun i d W' L' H' v H2 e x sr' y => ?_⟩
  · obtain ⟨p, q, e1, e2, _⟩ := zipD_get e
    obtain ⟨v, h1, _⟩ := i1.get e1
    obtain ⟨u, h2, _⟩ := i2.get e2
    exact ⟨xs, ys, v, u, SqT.ext sr x s1, SqT.ext sr x s2, h1, h2⟩
  · obtain ⟨p, q, e1, e2, rfl⟩ := zipD_get e
    obtain ⟨v0, h1, g1⟩ := i1.get e1
    obtain ⟨u0, h2, g2⟩ := i2.get e2
    obtain ⟨T, x', y', rfl, hT, rfl, f1, f2⟩ := y
    have e3 := f1 xs (SqT.ext sr x s1)
    have e4 := f2 ys (SqT.ext sr x s2)
    rw [h1] at e3; cases e3
    rw [h2] at e4; cases e4
    exact ⟨W', Ext.new hT, sr'.new hT, .tup (SqT.of upd_same) (.cons ((g1.ext sr x).ext sr' (Ext.new hT)) (.cons ((g2.ext sr x).ext sr' (Ext.new hT)) .nil))⟩
theorem di_zip {tpos : Pos} {elts : List Expr} {kk : Nat} {t : tA} (hm : X.mg "zip" = none) (ha : DA X G [a, b] t) (hg : Gl X "zip" := by rfl)
    (hs : starEach [a, b] X.env = (false, eval a X.env) :: starEach [b] X.env := by rfl) (hpl : (backTo pos (starEach [b] X.env)).any (·.1) = false := by rfl) :
    DI X G (.Tuple elts kk tpos) (.Call (.Name "zip" p) [a, b] [] pos) (iZp t) :=
  ⟨PI.imp (RZ.pi_zipA hg hm ha.pa hs hpl) fun σ H R ⟨W, ρ, L, RR, es, sr, h, k⟩ => ⟨W, ρ, L, _, es, sr, h, fun ds L1 W1 H1 vs x1 sr1 is1 h1 => by
    split at h1
    · obtain ⟨v, u, rfl, i1, i2⟩ := iss2 is1
      obtain ⟨p, xs, rfl, s1, j1⟩ := lst_stays i1
      obtain ⟨q, ys, rfl, s2, j2⟩ := lst_stays i2
      exact ⟨p, q, xs, ys, rfl, .inl ⟨s1.keep sr1 (Ext.refl _ _ _), s2.keep sr1 (Ext.refl _ _ _), k _ L1 W1 H1 _ x1 sr1 (itD_zip sr1 s1 s2 j1 j2) h1⟩⟩
    · obtain ⟨v, u, rfl, i1, i2⟩ := iss2 is1
      cases i1 with
      | tup s1 j1 =>
        cases i2 with
        | tup s2 j2 => exact ⟨_, _, _, _, rfl, .inr ⟨s1, s2, k _ L1 W1 H1 _ x1 sr1 (itD_zipT sr1 s1 s2 j1 j2) h1⟩⟩
    · exact h1.elim⟩⟩
end
end L2.DL

set_option Elab.async false
set_option linter.all false
set_option maxRecDepth 100000
/-! DK: sorted, a small written dict asked, defs that give an own object. -/
namespace L2.DL
open PySem PySem.Spec PyProof.Rows

/-! ### sorted -/
open PySem.W in
def rSortD (K : PySem.W.Frag) : List V → Hp → VK → Prop := fun vs H Q => ∃ (a : Addr) (xs : List V) (bs : List D) (P : V → D → Prop), vs = [V.ref a] ∧ SqL K H a xs ∧ EachIs P xs bs ∧ (∀ x d, P x d → d ∈ bs → Dp K H x (pdOf d)) ∧
  AllAlike (bs.map pdOf) ∧ Sortable (bs.map pdOf) ∧ (∀ b ∈ bs, (pdOf b).depth ≤ 60) ∧ ∀ ys p, EachIs P ys (bs.mergeSort (dataLe false pdOf)) → H p = none → Q (.ref p) (upd H p (.lst ys))
section
open PySem.W
theorem each_mem' {α β : Type} {R : α → β → Prop} : ∀ {as : List α} {bs : List β}, EachIs R as bs → EachIs (fun a b => R a b ∧ b ∈ bs) as bs
  | _, _, .nil => .nil
  | _, _, .cons h t => .cons ⟨h, List.mem_cons_self⟩ ((each_mem' t).mono fun a b hh => ⟨hh.1, List.mem_cons_of_mem _ hh.2⟩)
theorem each_vals {P : V → D → Prop} : ∀ {xs : List V} {us : List Value} {bs : List D}, Vals xs us → EachIs P xs bs → EachIs (fun u b => ∃ x, RelV x u ∧ P x b) us bs
  | _, _, _, .nil, .nil => .nil
  | _, _, _, .cons r t, .cons h k => .cons ⟨_, r, h⟩ (each_vals t k)
theorem vals_each {P : V → D → Prop} : ∀ {us : List Value} {bs : List D}, EachIs (fun u b => ∃ x, RelV x u ∧ P x b) us bs → ∃ xs, Vals xs us ∧ EachIs P xs bs
  | _, _, .nil => ⟨[], .nil, .nil⟩
  | _, _, .cons ⟨x, r, h⟩ t => by
    obtain ⟨xs, h1, h2⟩ := vals_each t
    exact ⟨x :: xs, .cons r h1, .cons h h2⟩
theorem cr_sortD {X : Cx} (hu : X.A.units + 65 < cLine) : CallR X (.builtin "sorted") (rSortD X.K) := by
  intro pins s σ H vs us Q I r h
  obtain ⟨a, xs, bs, P, rfl, hs, hP, hD, hal, hso, hd, q⟩ := h
  obtain ⟨its, rv, hl, hz⟩ := I.list hs
  obtain ⟨u, rfl, ru⟩ := vals1 r
  obtain rfl : u = Value.ref a := ru
  have e1 : EachIs (fun u b => ∃ x, RelV x u ∧ (P x b ∧ b ∈ bs)) its bs := each_vals rv (each_mem' hP)
  have er : EachIs (fun v b => ∃ as, Reads s.heap v (pdOf b) as) its bs := e1.mono fun v b ⟨x, r, h, hm⟩ => Dp.reads I (pdOf b) x v (hD x b h hm) r
  have hlen : bs.length ≤ sizeLine := by rw [← hP.length]; exact hz
  refine sorted_data (R := fun u b => ∃ x, RelV x u ∧ P x b) hl.isList (e1.mono fun v b ⟨x, r, h, _⟩ => ⟨x, r, h⟩) er hal hso hlen (fun b hb => by have := hd b hb; omega) fun out ho eo => ?_
  obtain ⟨ys, h1, h2⟩ := vals_each eo
  obtain ⟨n, hn⟩ := sortedAll_at s.heap its out.toArray
  refine ⟨.ref (s.heap.objs.size + 1), upd H (s.heap.objs.size + 1) (.lst ys), I.laid (t' := s.toks) (fun b o e => sortedAll_old e) (Nat.le_succ _) ⟨?_, out, n, h1, hn⟩, rfl, q ys _ h2 (I.hok.fresh (Nat.le_succ _))⟩
  rw [h1.length, ho]; exact hlen
end
/-- alike, and fit to be sorted -/
def sortsB (xs : List D) : Bool := (xs.all fun x => xs.all fun y => PySem.W.alike (pdOf x) (pdOf y)) && ((xs.all fun x => match x with | .tup (_ :: _) => true | _ => false) || (xs.all fun x => match x with | .int _ => true | .str _ => true | _ => false)) && xs.all (fitD deepest)
def sortD (xs : List D) : List D := xs.mergeSort (PySem.W.dataLe false pdOf)
def cSorted : OA := fun xs L R => match xs with
  | [d] => match lstOf L d with
    | some ds => sortsB ds = true ∧ R (.lst (sortD ds)) L
    | none => False
  | _ => False
theorem iss_each {K w H W} : ∀ {vs : List V} {ds : List D}, Iss K w H W vs ds → PySem.W.EachIs (fun v d => Is K w H W v d) vs ds
  | _, _, .nil => .nil
  | _, _, .cons h t => .cons h (iss_each t)
theorem each_iss {K w H W} : ∀ {vs : List V} {ds : List D}, PySem.W.EachIs (fun v d => Is K w H W v d) vs ds → Iss K w H W vs ds
  | _, _, .nil => .nil
  | _, _, .cons h t => .cons h (each_iss t)
theorem cb_sorted {K w} : CbD K w cSorted (rSortD K) := by
  intro G W H L xs vs R Q sr is h k
  unfold cSorted at h
  split at h
  · obtain ⟨v, rfl, i⟩ := iss1 is
    split at h
    · rename_i ds e
      obtain ⟨a, ys, rfl, h1, h2⟩ := lstOf_is sr i e
      obtain ⟨hs, h⟩ := h
      unfold sortsB at hs
      rw [Bool.and_eq_true, Bool.and_eq_true] at hs
      obtain ⟨⟨s1, s2⟩, s3⟩ := hs
      rw [List.all_eq_true] at s1 s3
      refine ⟨a, ys, ds, fun v d => Is K w H W v d, rfl, h1, iss_each h2, fun x d i hm => i.dp (s3 d hm), ?_, ?_, fun b hb => ?_, fun zs p hz hp => k.lst sr hp (each_iss hz) h⟩
      · intro d hd d' hd'
        obtain ⟨b, hb, rfl⟩ := List.mem_map.mp hd
        obtain ⟨b', hb', rfl⟩ := List.mem_map.mp hd'
        exact List.all_eq_true.mp (s1 b hb) b' hb'
      · rw [Bool.or_eq_true] at s2
        rcases s2 with s2 | s2
        · left
          intro d hd
          obtain ⟨b, hb, rfl⟩ := List.mem_map.mp hd
          have := List.all_eq_true.mp s2 b hb
          split at this
          · exact ⟨_, _, by simp only [pdOf, pdOfs]; rfl⟩
          · cases this
        · right
          intro d hd
          obtain ⟨b, hb, rfl⟩ := List.mem_map.mp hd
          have := List.all_eq_true.mp s2 b hb
          split at this
          · exact ⟨by simp [pdOf], fun xs => by simp [pdOf]⟩
          · exact ⟨by simp [pdOf], fun xs => by simp [pdOf]⟩
          · cases this
      · have := (fit_lay b deepest (s3 b hb)).2
        exact Nat.le_trans this (by decide)
    · exact h.elim
  · exact h.elim
section
variable {X : Cx} {G : Gam} {a b c e : Expr} {ta tb tc te : tE} {pos : Pos} {es : List Expr} {tt : tA} {x : Str} {p : Pos}
theorem de_sorted (hu : X.A.units + 65 < cLine) (hm : X.mg "sorted" = none) (ha : DA X G (e :: es) tt) (hg : Gl X "sorted" := by rfl) (he : starEach (e :: es) X.env = (false, eval e X.env) :: starEach es X.env := by rfl) (hpl : (backTo pos (starEach es X.env)).any (·.1) = false := by rfl) :
    DE X G (.Call (.Name "sorted" p) (e :: es) [] pos) (tCa cSorted tt) := de_callB (cr_sortD hu) cb_sorted hg hm (by first | exact PyProof.Rows.boot_sorted | exact boot_sorted | decide +kernel) ha (by decide) (by decide) he hpl

/-! ### {"a": 0, ..}.get(x, y) -/
theorem pe_neg {k : Nat} {p1 p2 : Pos} {i : Int} : PE X (.UnaryOp .USub (.Constant (.int i) k p1) p2) (L2.tC (.int (-i))) := PE.imp (pe_un un_neg pe_int) fun σ H Q h => ⟨i, rfl, h⟩
theorem upd_upd {H : Hp} {p : Addr} {o u : HO} : upd (upd H p o) p u = upd H p u := by
  funext a
  by_cases h : a = p
  · rw [h, upd_same, upd_same]
  · rw [upd_ne h, upd_ne h, upd_ne h]
/-- the pairs of a written dict, all ints -/
def kvsOf (cs : List (Str × Int)) : List (Key × V) := cs.map fun c => (.inr c.1, .int c.2)
def tDgt (cs : List (Str × Int)) (ty tx : tE) : tE := fun ρ L R => ty ρ L fun y L1 => tx ρ L1 fun z L2 => match y with
  | .str s => match cs.lookup s with
    | some i => R (.int i) L2
    | none => R z L2
  | _ => False
theorem val_lookup {s : Str} : ∀ cs : List (Str × Int), valV (kvsOf cs) (.inr s) = (cs.lookup s).map V.int
  | [] => rfl
  | (c, i) :: r => by
    have ih := val_lookup (s := s) r
    unfold kvsOf at *
    rw [List.map_cons]
    by_cases h : c = s
    · subst h
      rw [valV_pos rfl]
      simp [List.lookup]
    · rw [valV_neg (fun e => h (Sum.inr.inj e)), ih]
      have : (s == c) = false := by
        rw [beq_eq_false_iff_ne]; exact fun e => h e.symm
      simp [List.lookup, this]
theorem de_dgt {keys : List (Option Expr)} {values : List Expr} {trs : List (TE × TE)} {apos cpos dpos : Pos} {f : Expr} {cs : List (Str × Int)} (hu : X.A.units + 1 < cLine) (hd : PPs X dpos keys values trs) (htr : ∀ σ H (Q : List (V × V) → Hp → Prop), Q ((kvsOf cs).map fun kv => (kV kv.1, kv.2)) H → tPairs trs σ H Q) (hn : mergeK [] (kvsOf cs) = kvsOf cs)
    (hall : keys.all (·.isSome) = true) (hl : keys.length = values.length) (h0 : keys ≠ []) (h15 : keys.length ≤ 15) (hc : (kvsOf cs).length ≤ 15) (ha : DE X G e ta) (hb : DE X G f tb) (m : M2 X (.Dict keys values dpos) "get" apos e f cpos := by exact ⟨rfl, rfl, rfl, rfl⟩) :
    DE X G (.Call (.Attribute (.Dict keys values dpos) "get" apos) [e, f] [] cpos) (tDgt cs ta tb) :=
  ⟨PE.imp (pe_dget2 hu (pe_disp hd hall hl h0 h15) ha.pe hb.pe m) fun σ H Q ⟨W, ρ, L, R, es, sr, h, k⟩ => by
    intro q hq
    refine htr σ _ _ ⟨upd_same, kvsOf cs, rfl, hc, ?_⟩
    rw [hn, upd_upd]
    refine ⟨q, rfl, .inl ⟨_, .inl upd_same⟩, ?_⟩
    have x0 : Ext W L H W L (upd H q (.dK (kvsOf cs))) := Ext.new hq
    have nl : ∀ n, ¬ Live W L n q := fun n l => by obtain ⟨u, e⟩ := sr.there l; rw [hq] at e; cases e
    refine ⟨W, ρ, L, _, es.ext sr x0, sr.new hq, h, fun y L1 W1 H1 v x1 sr1 is1 h1 => ⟨W1, ρ, L1, _, (es.ext sr x0).ext (sr.new hq) x1, sr1, h1, fun z L2 W2 H2 u x2 sr2 is2 h2 => ?_⟩⟩
    have is1 := is1.ext sr1 x2
    have hd : H2 q = some (.dK (kvsOf cs)) := (x1.trans x2).keep _ _ upd_same nl
    have k2 := ((k.ext x0).ext x1).ext x2
    split at h2
    · cases is1
      refine ⟨_, DGet.k (k := .inr _) hd, ?_⟩
      rw [val_lookup]
      split at h2
      · rename_i i e
        rw [e]
        exact k2.here sr2 (.int _) h2
      · rename_i e
        rw [e]
        exact k2.here sr2 is2 h2
    · exact h2.elim⟩
theorem de_dgt1 {n1 : Nat} {q1 apos cpos dpos : Pos} {f v1 : Expr} {k1 : Str} {i1 : Int} (hu : X.A.units + 65 < cLine) (hv1 : PE X v1 (L2.tC (.int i1))) (ha : DE X G e ta) (hb : DE X G f tb)
    (m : M2 X (.Dict [some (.Constant (.str k1) n1 q1)] [v1] dpos) "get" apos e f cpos := by exact ⟨rfl, rfl, rfl, rfl⟩) :
    DE X G (.Call (.Attribute (.Dict [some (.Constant (.str k1) n1 q1)] [v1] dpos) "get" apos) [e, f] [] cpos) (tDgt [(k1, i1)] ta tb) :=
  de_dgt (by omega) (pps_cons pe_str hv1 pps_nil) (fun σ H Q h => h) rfl rfl rfl (by simp) (by show 1 ≤ 15; decide) (by show 1 ≤ 15; decide) ha hb m
theorem de_dgt2 {n1 n2 : Nat} {q1 q2 apos cpos dpos : Pos} {f v1 v2 : Expr} {k1 k2 : Str} {i1 i2 : Int} (hu : X.A.units + 65 < cLine) (hne : k1 ≠ k2) (hv1 : PE X v1 (L2.tC (.int i1))) (hv2 : PE X v2 (L2.tC (.int i2))) (ha : DE X G e ta) (hb : DE X G f tb)
    (m : M2 X (.Dict [some (.Constant (.str k1) n1 q1), some (.Constant (.str k2) n2 q2)] [v1, v2] dpos) "get" apos e f cpos := by exact ⟨rfl, rfl, rfl, rfl⟩) :
    DE X G (.Call (.Attribute (.Dict [some (.Constant (.str k1) n1 q1), some (.Constant (.str k2) n2 q2)] [v1, v2] dpos) "get" apos) [e, f] [] cpos) (tDgt [(k1, i1), (k2, i2)] ta tb) :=
  de_dgt (by omega) (pps_cons pe_str hv1 (pps_cons pe_str hv2 pps_nil)) (fun σ H Q h => h) (by
    show mergeK [] [(.inr k1, V.int i1), (.inr k2, V.int i2)] = [(.inr k1, V.int i1), (.inr k2, V.int i2)]
    have h : ¬ (Sum.inr k1 : Key) = .inr k2 := fun e => hne (Sum.inr.inj e)
    simp [mergeK, putK, hne]) rfl rfl (by simp) (by show 2 ≤ 15; decide) (by show 2 ≤ 15; decide) ha hb m
end

/-! ### defs that give an own object -/
/-- no own object handed on; a new one comes back -/
abbrev PN := List D → (O → Prop) → Prop
def liftN (K : PySem.W.Frag) (w : World) (n : Nat) (f : PN) : Sp := fun vs H Q E => vs.length = n ∧ ∃ W ds R, Iss K w H W vs ds ∧ SR K w .none H W [] ∧ f ds R ∧ Kont K w .none W [] H (fun d L => ∃ o, d = .ob 0 ∧ L = [o] ∧ o ≠ .dead ∧ lowO 0 o ∧ R o) Q
abbrev endN (R : O → Prop) : DEnds := { nx := fun _ _ => False, rt := fun d L => ∃ o, d = .ob 0 ∧ L = [o] ∧ o ≠ .dead ∧ lowO 0 o ∧ R o }
section
variable {P : Program} {w : World} {K : PySem.W.Frag} {mg : Str → Option Value} {base : Heap}
theorem fn_N {x qual : Str} {st : Stmt} {f : Addr} {fd : FuncData} {N ps : List Str} {k : Nat} {P1 : PN} {t : tS} (F : Fun K x qual st f fd) (S : FnScope N ps (defScope st)) (dv : DvOf P w K mg base N qual st f k t)
    (rd : ∀ (ds : List D) (R : O → Prop), ds.length = ps.length → P1 ds R → t (endN R) (startD N.length ds) []) :
    FnOk P w K mg base (L2.CX P w) (k + 1) f fd ps (liftN K w ps.length P1) :=
  F.okX S (fun vs H Q E h => h.1) fun cdv A outer s H vs Q E hr ⟨hlen, W, ds, R, is, sr, hf, k1⟩ => by
    refine ⟨_, (dv cdv A outer s H E (fun _ _ => False) hr).pss, W, startD N.length ds, [], _, ?_, sr.with (G := gamE K w (fun _ _ => False) E) (fun _ _ _ _ _ _ _ _ r => r.elim), rd ds R (by rw [← is.length]; exact hlen) hf, ?_⟩
    · unfold L2.start startD
      rw [is.length]
      exact IsS.starts _ is
    · exact ⟨fun ρ' L' W' H' σ' x _ sr' h => h.elim, fun d L' W' H' v x sr' i r => k1 d L' W' H' v x sr'.forget i r, fun _ _ _ _ _ _ _ _ h => h, fun _ _ _ _ _ _ _ _ h => h⟩
end
section
variable {X : Cx} {G : Gam} {e : Expr} {es : List Expr} {tt : tA} {k : Nat} {f : Addr} {fd : FuncData} {ps : List Str} {x : Str} {p pos : Pos} {fs : PN} {n : Nat}
def tCaN (n : Nat) (fs : PN) (t : tA) : tE := fun ρ L R => t ρ L fun cs L1 => cs.length = n ∧ lowDs 0 cs ∧ fs cs fun o => R (.ob L1.length) (L1 ++ [o])
theorem callN_imp {H : Hp} {Q : VK} {E : XK} {W : Wd} {L : Sto} {R : QE} {cs : List D} {vs : List V} (sr : SR X.K X.w G H W L) (is : Iss X.K X.w H W vs cs) (hn : cs.length = n) (low : lowDs 0 cs) (h : fs cs fun o => R (.ob L.length) (L ++ [o])) (k : Kont X.K X.w G W L H R Q) :
    liftN X.K X.w n fs vs H Q E := by
  have is0 : Iss X.K X.w H ⟨[], W.fz⟩ vs cs := Iss.low (m := 0) (W := W) (W' := ⟨[], W.fz⟩) (fun _ f => f) (fun _ _ h => absurd h (Nat.not_lt_zero _)) is low
  have sr0 : SR X.K X.w .none H ⟨[], W.fz⟩ [] := by
    refine ⟨rfl, ?_, ?_, sr.fzt, ?_, trivial⟩
    · rintro n m a ⟨_, o, e, _⟩; simp at e
    · rintro n a ⟨_, o, e, _⟩; simp at e
    · intro n a o _ e; simp at e
  refine ⟨by rw [is.length]; exact hn, ⟨[], W.fz⟩, cs, _, is0, sr0, h, ?_⟩
  rintro d L' W' H' v x0 sr' i ⟨o, rfl, rfl, nd, lo, r⟩
  have nl : ∀ n a, ¬ Live ⟨[], W.fz⟩ ([] : Sto) n a := fun n a ⟨_, o, e, _⟩ => by simp at e
  have keep : ∀ a o, H a = some o → H' a = some o := fun a o e => x0.keep a o e fun n => nl n a
  have fzn : ∀ a, W'.fz a → W.fz a ∨ H a = none := fun a f => by
    rcases x0.fzn a f with f | ⟨m, l⟩ | e
    · exact .inl f
    · exact absurd l (nl m a)
    · exact .inr e
  cases i with
  | ob hm =>
    rename_i a
    have la : Live W' [o] 0 a := ⟨hm, o, rfl, nd⟩
    have fresh : H a = none := by
      rcases x0.live 0 a la with ⟨m, l⟩ | e
      · exact absurd l (nl m a)
      · exact e
    have mu1 : ∀ {b : Addr}, (W.mu ++ [a])[L.length]? = some b → b = a := fun {b} e => by
      rw [← sr.len, List.getElem?_concat_length] at e
      exact (Option.some.inj e).symm
    have lv : ∀ {n : Nat} {b : Addr}, Live ⟨W.mu ++ [a], W'.fz⟩ (L ++ [o]) n b → Live W L n b ∨ (n = L.length ∧ b = a) := fun {n b} ⟨h1, u, h2, h3⟩ => by
      by_cases hn : n < L.length
      · refine .inl ⟨?_, u, ?_, h3⟩
        · have h1' : (W.mu ++ [a])[n]? = some b := h1
          rw [List.getElem?_append_left (by rw [sr.len]; exact hn)] at h1'
          exact h1'
        · rw [List.getElem?_append_left hn] at h2; exact h2
      · have hl : n < (L ++ [o]).length := (List.getElem?_eq_some_iff.mp h2).1
        rw [List.length_append, List.length_singleton] at hl
        have e : n = L.length := by omega
        subst e
        exact .inr ⟨rfl, mu1 h1⟩
    have x1 : Ext W L H ⟨W.mu ++ [a], W'.fz⟩ (L ++ [o]) H' := ⟨⟨[a], rfl⟩, x0.fz, fun b u e _ => keep b u e, fun n b l => by
      rcases lv l with l | ⟨_, e⟩
      · exact .inl ⟨n, l⟩
      · rw [e]; exact .inr fresh, fun b f => (fzn b f).elim .inl fun e => .inr (.inr e)⟩
    have sr1 : SR X.K X.w G H' ⟨W.mu ++ [a], W'.fz⟩ (L ++ [o]) := by
      refine ⟨?_, fun n m b l1 l2 => ?_, fun n b l f => ?_, sr'.fzt, fun n b u e1 e2 => ?_, G.st sr.gam x1⟩
      · show (W.mu ++ [a]).length = _
        rw [List.length_append, List.length_append, sr.len, List.length_singleton, List.length_singleton]
      · rcases lv l1 with l1 | ⟨e1, e2⟩ <;> rcases lv l2 with l2 | ⟨e3, e4⟩
        · exact sr.inj n m b l1 l2
        · obtain ⟨u, h⟩ := sr.there l1; rw [e4, fresh] at h; cases h
        · obtain ⟨u, h⟩ := sr.there l2; rw [e2, fresh] at h; cases h
        · rw [e1, e3]
      · rcases lv l with l | ⟨_, e⟩
        · rcases fzn b f with f | e
          · exact sr.nfz n b l f
          · obtain ⟨u, h⟩ := sr.there l; rw [e] at h; cases h
        · subst e; exact sr'.nfz 0 b la f
      · by_cases hn : n < L.length
        · have e1' : (W.mu ++ [a])[n]? = some b := e1
          rw [List.getElem?_append_left (by rw [sr.len]; exact hn)] at e1'
          rw [List.getElem?_append_left hn] at e2
          exact (sr.ok n b u e1' e2).ext sr x1 fun v e => keep b v e
        · have hl : n < (L ++ [o]).length := (List.getElem?_eq_some_iff.mp e2).1
          rw [List.length_append, List.length_singleton] at hl
          have e : n = L.length := by omega
          subst e
          have := mu1 e1
          subst this
          rw [List.getElem?_concat_length] at e2
          cases e2
          exact (sr'.ok 0 _ _ hm rfl).low (m := 0) (W := W') (W' := ⟨W.mu ++ [_], W'.fz⟩) (fun _ f => f) (fun _ _ h => absurd h (Nat.not_lt_zero _)) lo
    exact k (.ob L.length) _ _ H' (.ref a) x1 sr1 (.ob (by show (W.mu ++ [a])[L.length]? = _; rw [← sr.len, List.getElem?_concat_length])) r
theorem de_callN (F : FnOk X.prog X.w X.K X.mg X.base (L2.CX X.prog X.w) k f fd ps (liftN X.K X.w n fs)) (hr : Room k X.A) (hm : X.mg x = some (.ref f)) (hk : PySem.W.keepIn X.K (.ref f) = true) (hb : Binds X.K fd ps []) (ha : DA X G (e :: es) tt)
    (hg : Gl X x := by rfl) (hdb : (x == ("__debug__" : Str)) = false := by decide) (he : starEach (e :: es) X.env = (false, eval e X.env) :: starEach es X.env := by rfl) (hpl : (backTo pos (starEach es X.env)).any (·.1) = false := by rfl) :
    DE X G (.Call (.Name x p) (e :: es) [] pos) (tCaN n fs tt) :=
  ⟨PE.imp (pe_call (E := E0) F hr hg hm hk hb .nil passL ha.pa hdb he hpl) fun σ H Q ⟨W, ρ, L, R, es', sr, h, k⟩ => ⟨W, ρ, L, _, es', sr, h, fun cs L1 W1 H1 vs x1 sr1 is1 h1 => by
    show liftN X.K X.w n fs (vs ++ []) H1 Q E0
    rw [List.append_nil]
    exact callN_imp sr1 is1 h1.1 h1.2.1 h1.2.2 (k.ext x1)⟩⟩
end
/-- a def's promise at no depth: never asked -/
def noF : FS := fun _ _ _ _ => False
theorem FnOk.no {P : Program} {w : World} {K : PySem.W.Frag} {mg : Str → Option Value} {base : Heap} {CX : CXT} {k n : Nat} {f : Addr} {fd : FuncData} {ps : List Str} : FnOk P w K mg base CX k f fd ps (liftF K w n noF) :=
  ⟨fun vs H Q E ⟨_, _, _, _, _, _, _, _, h, _⟩ => h.elim, fun A outer s H args us vs Q E hr he hb hv ⟨_, _, _, _, _, _, _, _, h, _⟩ => h.elim⟩
end L2.DL

set_option Elab.async false
set_option linter.all false
set_option maxRecDepth 100000
/-! DU: the readings, step by step: one rule for each word, met by its head alone. -/
namespace L2.DL
open PySem PySem.Spec PyProof.Rows

section
variable {DD : DEnds} {ρ : En} {L : Sto} {R : QE} {RT : QT} {RA : QA} {d x y : D} {i j l n : Nat} {ta tb tc te : tE} {t u : tT} {s s' : tS} {tt : tA}
/-! expressions -/
theorem i_tV (h : ρ[i]? = some (some d)) (r : R d L) : tV i ρ L R := by unfold tV; rw [h]; exact r
theorem i_tK (r : R d L) : tK d ρ L R := r
theorem i_tB2 {o : O2} (r : ta ρ L fun x L1 => tb ρ L1 fun y L2 => o x y L2 R) : tB2 o ta tb ρ L R := r
theorem i_tB1 {o : O1} (r : ta ρ L fun x L1 => o x L1 R) : tB1 o ta ρ L R := r
theorem i_tCa {o : OA} (r : tt ρ L fun xs L1 => o xs L1 R) : tCa o tt ρ L R := r
theorem i_nil (r : RA [] L) : tNilA ρ L RA := r
theorem i_cons (r : te ρ L fun x L1 => tt ρ L1 fun xs L2 => RA (x :: xs) L2) : tConsA te tt ρ L RA := r
theorem i_tup (r : tt ρ L fun xs L1 => xs.length ≤ sizeLine ∧ R (.tup xs) L1) : tTupD tt ρ L R := r
theorem i_lst (r : tt ρ L fun xs L1 => xs.length ≤ sizeLine ∧ R (.lst xs) L1) : tLstD tt ρ L R := r
theorem i_lstO (r : tt ρ L fun xs L1 => xs.length ≤ sizeLine ∧ R (.ob L1.length) (L1 ++ [.lst xs])) : tLstO tt ρ L R := r
theorem i_and (r : ta ρ L fun x L1 => truD L1 x fun b L2 => if b = true then tb ρ L2 R else R x L2) : tAnV ta tb ρ L R := r
theorem i_or (r : ta ρ L fun x L1 => truD L1 x fun b L2 => if b = true then R x L2 else tb ρ L2 R) : tOrV ta tb ρ L R := r
theorem i_not (r : ta ρ L fun x L1 => truD L1 x fun b L2 => R (.bl (!b)) L2) : tNtV ta ρ L R := r
theorem i_ifE (r : t ρ L fun b L1 => if b = true then ta ρ L1 R else tb ρ L1 R) : tIfE t ta tb ρ L R := r
/-- the second bound -/
def chQ (o' : O2) (tc : tE) (ρ : En) (y : D) (R : QE) : QE := fun z L3 => match z with
  | .bl k => if k = true then tc ρ L3 fun u L4 => o' y u L4 R else R (.bl false) L3
  | _ => False
theorem i_tCh {o o' : O2} (r : ta ρ L fun x L1 => tb ρ L1 fun y L2 => o x y L2 (chQ o' tc ρ y R)) : tCh o o' ta tb tc ρ L R := r
theorem i_chQ {o' : O2} {k : Bool} (r : if k = true then tc ρ L fun u L4 => o' y u L4 R else R (.bl false) L) : chQ o' tc ρ y R (.bl k) L := r
theorem i_call {fs : FS} (r : tt ρ L fun cs L1 => cs.length = n ∧ lowDs 0 cs ∧ fs cs [] (fun d _ => lowD 0 d → R d L1) fun _ _ => False) : tCaP n fs tt ρ L R := r
/-- the object handed on -/
def caM (n : Nat) (fs : FS) (R : QE) : QA := fun cs L1 => match cs with
  | .ob j :: r => r.length + 1 = n ∧ lowDs 0 r ∧ match L1[j]? with
    | some o => o ≠ .dead ∧ lowO 0 o ∧ fs (.ob 0 :: r) [o] (fun d L2 => lowD 0 d ∧ match L2 with
      | [o'] => lowO 0 o' ∧ R d (L1.set j o')
      | _ => False) fun _ _ => False
    | none => False
  | _ => False
theorem i_callM {fs : FS} (r : tt ρ L (caM n fs R)) : tCaM n fs tt ρ L R := r
theorem i_callN {fs : PN} (r : tt ρ L fun cs L1 => cs.length = n ∧ lowDs 0 cs ∧ fs cs fun o => R (.ob L1.length) (L1 ++ [o])) : tCaN n fs tt ρ L R := r
/-! tests -/
theorem i_TB (r : ta ρ L (asB RT)) : tTB ta ρ L RT := r
theorem i_asB {b : Bool} (r : RT b L) : asB RT (.bl b) L := r
theorem i_Tru (r : ta ρ L fun d L1 => truD L1 d RT) : tTru ta ρ L RT := r
theorem i_Nt (r : t ρ L fun b L1 => RT (!b) L1) : tNt t ρ L RT := r
theorem i_An (r : t ρ L fun b L1 => if b = true then u ρ L1 RT else RT false L1) : tAn t u ρ L RT := r
theorem i_Or (r : t ρ L fun b L1 => if b = true then RT true L1 else u ρ L1 RT) : tOr t u ρ L RT := r
/-! statements -/
theorem i_Nx (r : DD.nx ρ L) : tNx DD ρ L := r
theorem i_Sq (r : s { DD with nx := s' DD } ρ L) : tSq s s' DD ρ L := r
theorem i_Bk (r : DD.bk ρ L) : tBk DD ρ L := r
theorem i_Ct (r : DD.ct ρ L) : tCt DD ρ L := r
theorem i_Dp (r : te ρ L fun _ L1 => DD.nx ρ L1) : tDp te DD ρ L := r
theorem i_Rt (r : te ρ L DD.rt) : tRt te DD ρ L := r
theorem i_RtN (r : DD.rt .non L) : tRtN DD ρ L := r
theorem i_If (r : t ρ L fun b L1 => if b = true then s DD ρ L1 else s' DD ρ L1) : tIfD t s s' DD ρ L := r
def stQ (i : Nat) (ρ : En) (N : En → Sto → Prop) : QE := fun d L1 => N (ρ.set i (some d)) L1
theorem i_St (r : te ρ L (stQ i ρ DD.nx)) : tSt te i DD ρ L := r
theorem i_As {g : tG} (r : te ρ L fun d L1 => g d ρ L1 DD.nx) : tAs te g DD ρ L := r
def p2Q (i j : Nat) (ρ : En) (N : En → Sto → Prop) : QA := fun ds L1 => match ds with
  | [d, e] => N ((ρ.set i (some d)).set j (some e)) L1
  | _ => False
theorem i_P2 (r : tt ρ L (p2Q i j ρ DD.nx)) : tP2 i j tt DD ρ L := r
theorem i_p2 {N : En → Sto → Prop} (r : N ((ρ.set i (some d)).set j (some x)) L) : p2Q i j ρ N [d, x] L := r
def p3Q (i j l : Nat) (ρ : En) (N : En → Sto → Prop) : QA := fun ds L1 => match ds with
  | [d, e, f] => N (((ρ.set i (some d)).set j (some e)).set l (some f)) L1
  | _ => False
theorem i_P3 (r : tt ρ L (p3Q i j l ρ DD.nx)) : tP3 i j l tt DD ρ L := r
theorem i_p3 {N : En → Sto → Prop} (r : N (((ρ.set i (some d)).set j (some x)).set l (some y)) L) : p3Q i j l ρ N [d, x, y] L := r
/-! targets -/
variable {Q : En → Sto → Prop} {g : tG} {gs : tGs} {xs ys : List D}
theorem i_gNm (r : Q (ρ.set i (some d)) L) : gNm i d ρ L Q := r
theorem i_gTp (h : xs.length = n) (r : gs xs ρ L Q) : gTpD n gs (.tup xs) ρ L Q := ⟨h, r⟩
theorem i_gTp1 {a : D} (r : gs [a] ρ L Q) : gTpD 1 gs (.tup [a]) ρ L Q := ⟨by simp, r⟩
theorem i_gTp2 {a b : D} (r : gs [a, b] ρ L Q) : gTpD 2 gs (.tup [a, b]) ρ L Q := ⟨by simp, r⟩
theorem i_gTp3 {a b c : D} (r : gs [a, b, c] ρ L Q) : gTpD 3 gs (.tup [a, b, c]) ρ L Q := ⟨by simp, r⟩
theorem i_gTp4 {a b c d : D} (r : gs [a, b, c, d] ρ L Q) : gTpD 4 gs (.tup [a, b, c, d]) ρ L Q := ⟨by simp, r⟩
theorem i_gTp5 {a b c d e : D} (r : gs [a, b, c, d, e] ρ L Q) : gTpD 5 gs (.tup [a, b, c, d, e]) ρ L Q := ⟨by simp, r⟩
theorem i_gTp6 {a b c d e f : D} (r : gs [a, b, c, d, e, f] ρ L Q) : gTpD 6 gs (.tup [a, b, c, d, e, f]) ρ L Q := ⟨by simp, r⟩
theorem i_gNil (r : Q ρ L) : gNilD [] ρ L Q := r
theorem i_gCons (r : g d ρ L fun ρ1 L1 => gs xs ρ1 L1 Q) : gConsD g gs (d :: xs) ρ L Q := r
theorem i_gSb {o : O3} (r : ta ρ L fun x L1 => tb ρ L1 fun i L2 => o x i d L2 fun L3 => Q ρ L3) : gSb ta tb o d ρ L Q := r
theorem i_sLst {z : Int} {k m : Nat} {W : Sto → Prop} (h : L[k]? = some (.lst xs)) (e : posD xs.length z = some m) (r : W (L.set k (.lst (xs.set m d)))) : sLst (.ob k) (.int z) d L W := by simp only [sLst, h, e]; exact r
/-! operations -/
variable {p q : Int} {gg : Int → Int → D} {C : Int → Int → Prop}
theorem i_oI (r : R (gg p q) L) : oI gg (.int p) (.int q) L R := r
theorem i_oIC (c : C p q) (r : R (gg p q) L) : oIC C gg (.int p) (.int q) L R := ⟨c, r⟩
theorem i_neg (r : R (.int (-p)) L) : oNeg (.int p) L R := r
theorem i_addI (r : R (.int (p + q)) L) : oAdd (.int p) (.int q) L R := r
theorem i_addS {a b : Str} (h : a.length + b.length ≤ sizeLine) (r : R (.str (a ++ b)) L) : oAdd (.str a) (.str b) L R := ⟨h, r⟩
theorem i_addT (h : xs.length + ys.length ≤ sizeLine) (r : R (.tup (xs ++ ys)) L) : oAdd (.tup xs) (.tup ys) L R := ⟨h, r⟩
theorem i_addL (h : xs.length + ys.length ≤ sizeLine) (r : R (.lst (xs ++ ys)) L) : oAdd (.lst xs) (.lst ys) L R := ⟨h, r⟩
theorem i_ixT (h : atD xs p = some d) (r : R d L) : oIx (.tup xs) (.int p) L R := by
  show (match atD xs p with | some v => R v L | none => False)
  rw [h]; exact r
theorem i_ixL (h : atD xs p = some d) (r : R d L) : oIx (.lst xs) (.int p) L R := by
  show (match atD xs p with | some v => R v L | none => False)
  rw [h]; exact r
theorem i_ixO {k : Nat} (h0 : L[k]? = some (.lst xs)) (h : atD xs p = some d) (r : R d L) : oIx (.ob k) (.int p) L R := by
  have e : seqOf L (.ob k) = some xs := by simp only [seqOf, view, h0]
  unfold oIx; dsimp only; rw [e]; dsimp only; rw [h]; exact r
theorem fit_view {n : Nat} {d : D} {L : Sto} (h : fitD n d = true) : view L d = d := by
  cases d with
  | ob k => cases n <;> simp [fitD] at h
  | _ => rfl
theorem i_eq (f : fitD 40 x = true) (g : fitD 40 y = true) (r : R (.bl (eqD x y)) L) : oEq x y L R := by
  unfold oEq; rw [fit_view f, fit_view g]; exact ⟨f, g, r⟩
theorem i_ne (f : fitD 40 x = true) (g : fitD 40 y = true) (r : R (.bl (!eqD x y)) L) : oNe x y L R := by
  unfold oNe; rw [fit_view f, fit_view g]; exact ⟨f, g, r⟩
theorem i_inT (f : fitD 40 x = true) (g : xs.all (fitD 40) = true) (r : R (.bl (inD x xs)) L) : oIn x (.tup xs) L R := by
  unfold oIn; show fitD 40 (view L x) = true ∧ _ ∧ _; rw [fit_view f]; exact ⟨f, g, r⟩
theorem i_inL (f : fitD 40 x = true) (g : xs.all (fitD 40) = true) (r : R (.bl (inD x xs)) L) : oIn x (.lst xs) L R := by
  unfold oIn; show fitD 40 (view L x) = true ∧ _ ∧ _; rw [fit_view f]; exact ⟨f, g, r⟩
theorem i_ninT (f : fitD 40 x = true) (g : xs.all (fitD 40) = true) (r : R (.bl (!inD x xs)) L) : oNotIn x (.tup xs) L R := by
  unfold oNotIn; show fitD 40 (view L x) = true ∧ _ ∧ _; rw [fit_view f]; exact ⟨f, g, r⟩
theorem i_ninL (f : fitD 40 x = true) (g : xs.all (fitD 40) = true) (r : R (.bl (!inD x xs)) L) : oNotIn x (.lst xs) L R := by
  unfold oNotIn; show fitD 40 (view L x) = true ∧ _ ∧ _; rw [fit_view f]; exact ⟨f, g, r⟩
theorem i_isN (r : R (.bl (isN x)) L) : oIsN x .non L R := r
theorem i_notN (r : R (.bl (!isN x)) L) : oNotN x .non L R := r
theorem i_isB {a b : Bool} (r : R (.bl (decide (a = b))) L) : oIsB (.bl a) (.bl b) L R := r
/-! truth -/
theorem i_trB {b : Bool} (r : RT b L) : truD L (.bl b) RT := r
theorem i_trI (r : RT (p != 0) L) : truD L (.int p) RT := r
theorem i_trN (r : RT false L) : truD L .non RT := r
theorem i_trL (r : RT (!xs.isEmpty) L) : truD L (.lst xs) RT := r
theorem i_trT (r : RT (!xs.isEmpty) L) : truD L (.tup xs) RT := r
theorem i_trS {z : Str} (h : z.length ≤ sizeLine) (r : RT ((z.length : Int) != 0) L) : truD L (.str z) RT := ⟨h, r⟩
theorem i_trO {k : Nat} (h : L[k]? = some (.lst xs)) (r : RT (!xs.isEmpty) L) : truD L (.ob k) RT := by
  have e : view L (.ob k) = .lst xs := by simp only [view, h]
  unfold truD; rw [e]; exact r
/-! built-ins -/
theorem i_lenT (r : R (.int xs.length) L) : cLen [.tup xs] L R := r
theorem i_lenL (r : R (.int xs.length) L) : cLen [.lst xs] L R := r
theorem i_lenS {z : Str} (h : z.length ≤ sizeLine) (r : R (.int z.length) L) : cLen [.str z] L R := ⟨h, r⟩
theorem i_lenO {k : Nat} (h : L[k]? = some (.lst xs)) (r : R (.int xs.length) L) : cLen [.ob k] L R := by
  have e : view L (.ob k) = .lst xs := by simp only [view, h]
  unfold cLen lenD; dsimp only; rw [e]; exact r
theorem i_abs (r : R (.int (if p < 0 then -p else p)) L) : cAbs [.int p] L R := r
theorem i_int (r : R (.int p) L) : cInt [.int p] L R := r
theorem i_max (r : R (.int (if q > p then q else p)) L) : cMax [.int p, .int q] L R := r
theorem i_min (r : R (.int (if q < p then q else p)) L) : cMin [.int p, .int q] L R := r
theorem i_bls {f : List Bool → Bool} {bs : List Bool} (e : blsOf xs = some bs) (r : R (.bl (f bs)) L) : cBls f [.lst xs] L R := by
  unfold cBls
  show (match blsOf xs with | some bs => R (.bl (f bs)) L | none => False)
  rw [e]; exact r
theorem i_any {bs : List Bool} (e : blsOf xs = some bs) (r : R (.bl (bs.any id)) L) : cAny [.lst xs] L R := i_bls e r
theorem i_all {bs : List Bool} (e : blsOf xs = some bs) (r : R (.bl (bs.all id)) L) : cAll [.lst xs] L R := i_bls e r
theorem i_sum {bs : List Int} (e : intsOf xs = some bs) (r : R (.int bs.sum) L) : cSum [.lst xs] L R := by
  unfold cSum
  show (match intsOf xs with | some bs => R (.int bs.sum) L | none => False)
  rw [e]; exact r
theorem i_maxL {bs : List Int} (e : intsOf xs = some bs) (h : 0 < bs.length) (r : R (.int (maxI bs)) L) : cMaxL [.lst xs] L R := by
  unfold cMaxL
  show (match intsOf xs with | some bs => 0 < bs.length ∧ R (.int (maxI bs)) L | none => False)
  rw [e]; exact ⟨h, r⟩
theorem i_listT (r : R (.lst xs) L) : cList [.tup xs] L R := r
theorem i_listL (r : R (.lst xs) L) : cList [.lst xs] L R := r
theorem i_listO {k : Nat} (h : L[k]? = some (.lst xs)) (r : R (.lst xs) L) : cList [.ob k] L R := by
  have e : seqOf L (.ob k) = some xs := by simp only [seqOf, view, h]
  unfold cList; dsimp only; rw [e]; exact r
theorem i_tupT (r : R (.tup xs) L) : cTuple [.tup xs] L R := r
theorem i_tupL (r : R (.tup xs) L) : cTuple [.lst xs] L R := r
theorem i_sortL (h : sortsB xs = true) (r : R (.lst (sortD xs)) L) : cSorted [.lst xs] L R := ⟨h, r⟩
theorem i_sortO {k : Nat} (h0 : L[k]? = some (.lst xs)) (h : sortsB xs = true) (r : R (.lst (sortD xs)) L) : cSorted [.ob k] L R := by
  have e : lstOf L (.ob k) = some xs := by simp only [lstOf, view, h0]
  unfold cSorted; dsimp only; rw [e]; exact ⟨h, r⟩
theorem i_LsR1 (r : tt ρ L fun ds L1 => match ds with | [.int j] => RgOk 0 j ∧ R (.lst (rangeD 0 j.toNat)) L1 | _ => False) : tLsR1 tt ρ L R := r
def app1 (n : Nat) (tt : tA) (ρ : En) (R : QE) : QE := fun d L1 => match d with
  | .ob n => isLst L1[n]? = true ∧ tt ρ L1 (appD n R)
  | _ => False
theorem i_append (r : te ρ L (app1 0 tt ρ R)) : tAppend te tt ρ L R := r
theorem i_app1 {m k : Nat} (h : isLst L[k]? = true) (r : tt ρ L (appD k R)) : app1 m tt ρ R (.ob k) L := ⟨h, r⟩
theorem i_appD {k : Nat} (h : L[k]? = some (.lst xs)) (hl : xs.length < sizeLine) (r : R .non (L.set k (.lst (xs ++ [y])))) : appD k R [y] L := by
  unfold appD; rw [h]; exact ⟨hl, r⟩
def revQ (R : QE) : QE := fun d L1 => match view L1 d with
  | .lst xs => R (.lst xs.reverse) L1
  | .tup xs => R (.tup xs.reverse) L1
  | _ => False
theorem i_rev (r : te ρ L (revQ R)) : tRev te ρ L R := r
theorem i_revT (r : R (.tup xs.reverse) L) : revQ R (.tup xs) L := r
theorem i_revL (r : R (.lst xs.reverse) L) : revQ R (.lst xs) L := r
/-! slices -/
variable {tl th : tP} {RP : Option Int → Sto → Prop}
theorem i_sl (r : te ρ L fun x L1 => tl ρ L1 fun l L2 => th ρ L2 fun u L3 => oSl x l u L3 R) : tSlD te tl th ρ L R := r
theorem i_noP (r : RP none L) : tNoP ρ L RP := r
def someQ (RP : Option Int → Sto → Prop) : QE := fun d L1 => match d with
  | .int i => RP (some i) L1
  | _ => False
theorem i_someP (r : te ρ L (someQ RP)) : tSomeP te ρ L RP := r
theorem i_some (r : RP (some p) L) : someQ RP (.int p) L := r
variable {lo hi : Option Int}
theorem i_slT (r : R (.tup (cutD xs lo hi)) L) : oSl (.tup xs) lo hi L R := r
theorem i_slL (r : R (.lst (cutD xs lo hi)) L) : oSl (.lst xs) lo hi L R := r
theorem i_slS {z : Str} (h : z.length ≤ sizeLine) (r : R (.str (cutS z lo hi)) L) : oSl (.str z) lo hi L R := ⟨h, r⟩
/-! walks -/
variable {RI : List D → Sto → Prop}
def lsQ (RI : List D → Sto → Prop) : QE := fun d L1 => match d with
  | .lst xs => RI xs L1
  | _ => False
def tpQ (RI : List D → Sto → Prop) : QE := fun d L1 => match d with
  | .tup xs => RI xs L1
  | _ => False
theorem i_iLs (r : te ρ L (lsQ RI)) : iLs te ρ L RI := r
theorem i_lsQ (r : RI xs L) : lsQ RI (.lst xs) L := r
theorem i_iTp (r : te ρ L (tpQ RI)) : iTp te ρ L RI := r
theorem i_tpQ (r : RI xs L) : tpQ RI (.tup xs) L := r
def r1Q (RI : List D → Sto → Prop) : QA := fun ds L1 => match ds with
  | [.int j] => (-(2 ^ 62) ≤ j ∧ j < 2 ^ 62) ∧ RI (rangeD 0 j.toNat) L1
  | _ => False
theorem i_iRg1 (r : tt ρ L (r1Q RI)) : iRg1 tt ρ L RI := r
theorem i_r1Q (h : -(2 ^ 62) ≤ p ∧ p < 2 ^ 62) (r : RI (rangeD 0 p.toNat) L) : r1Q RI [.int p] L := ⟨h, r⟩
def r2Q (RI : List D → Sto → Prop) : QA := fun ds L1 => match ds with
  | [.int i, .int j] => (-(2 ^ 62) ≤ i ∧ i < 2 ^ 62 ∧ -(2 ^ 62) ≤ j ∧ j < 2 ^ 62) ∧ RI (rangeD i (j - i).toNat) L1
  | _ => False
theorem i_iRg2 (r : tt ρ L (r2Q RI)) : iRg2 tt ρ L RI := r
theorem i_r2Q (h : -(2 ^ 62) ≤ p ∧ p < 2 ^ 62 ∧ -(2 ^ 62) ≤ q ∧ q < 2 ^ 62) (r : RI (rangeD p (q - p).toNat) L) : r2Q RI [.int p, .int q] L := ⟨h, r⟩
def zpQ (RI : List D → Sto → Prop) : QA := fun ds L1 => match ds with
  | [.lst xs, .lst ys] => RI (zipD xs ys) L1
  | [.tup xs, .tup ys] => RI (zipD xs ys) L1
  | _ => False
theorem i_iZp (r : tt ρ L (zpQ RI)) : iZp tt ρ L RI := r
theorem i_zpL (r : RI (zipD xs ys) L) : zpQ RI [.lst xs, .lst ys] L := r
theorem i_zpT (r : RI (zipD xs ys) L) : zpQ RI [.tup xs, .tup ys] L := r
def lsR1Q (R : QE) : QA := fun ds L1 => match ds with
  | [.int j] => RgOk 0 j ∧ R (.lst (rangeD 0 j.toNat)) L1
  | _ => False
theorem i_lsR1 (r : tt ρ L (lsR1Q R)) : tLsR1 tt ρ L R := r
theorem i_lsR1Q (h : RgOk 0 p) (r : R (.lst (rangeD 0 p.toNat)) L) : lsR1Q R [.int p] L := ⟨h, r⟩
def lsR2Q (R : QE) : QA := fun ds L1 => match ds with
  | [.int i, .int j] => RgOk i j ∧ R (.lst (rangeD i (j - i).toNat)) L1
  | _ => False
theorem i_lsR2 (r : tt ρ L (lsR2Q R)) : tLsR2 tt ρ L R := r
theorem i_lsR2Q (h : RgOk p q) (r : R (.lst (rangeD p (q - p).toNat)) L) : lsR2Q R [.int p, .int q] L := ⟨h, r⟩
/-! a small written dict -/
def dgtQ (cs : List (Str × Int)) (y : D) (R : QE) : QE := fun z L2 => match y with
  | .str s => match cs.lookup s with
    | some i => R (.int i) L2
    | none => R z L2
  | _ => False
theorem i_dgt {cs : List (Str × Int)} (r : ta ρ L fun y L1 => tb ρ L1 (dgtQ cs y R)) : tDgt cs ta tb ρ L R := r
theorem i_dgtY {cs : List (Str × Int)} {z : Str} (h : cs.lookup z = some p) (r : R (.int p) L) : dgtQ cs (.str z) R d L := by unfold dgtQ; dsimp only; rw [h]; exact r
theorem i_dgtN {cs : List (Str × Int)} {z : Str} (h : cs.lookup z = none) (r : R d L) : dgtQ cs (.str z) R d L := by unfold dgtQ; dsimp only; rw [h]; exact r
/-! loops -/
/-- a loop over the items ds -/
def frD (g : tG) (s : tS) (DD : DEnds) (ρ : En) (ds : List D) (L1 : Sto) : Prop := ∃ F : List D → En → Sto → Prop, F ds ρ L1 ∧ (∀ x r ρ L, F (x :: r) ρ L → g x ρ L fun ρ2 L2 => s { DD with nx := F r, ct := F r, bk := DD.nx } ρ2 L2) ∧ ∀ ρ L, F [] ρ L → DD.nx ρ L
theorem i_Fr {wi : tI} (r : wi ρ L fun ds L1 => frD g s DD ρ ds L1) : tFr wi g s DD ρ L := r
theorem fr_by {ds : List D} (F : List D → En → Sto → Prop) (h0 : F ds ρ L) (h : ∀ x r ρ L, F (x :: r) ρ L → g x ρ L fun ρ2 L2 => s { DD with nx := F r, ct := F r, bk := DD.nx } ρ2 L2) (fin : ∀ ρ L, F [] ρ L → DD.nx ρ L) : frD g s DD ρ ds L := ⟨F, h0, h, fin⟩
/-- a comprehension over the items ds -/
def lcD (gc : tC) (t : tT) (te : tE) (vs : List Nat) (ρ : En) (R : QE) (ds : List D) (L1 : Sto) : Prop := ∃ F : List D → List D → Sto → Prop, F ds [] L1 ∧
  (∀ x r acc L, F (x :: r) acc L → gc x (wipeD ρ vs) fun ρ2 => t ρ2 L fun b L2 => if b = true then te ρ2 L2 fun y L3 => acc.length < sizeLine ∧ F r (acc ++ [y]) L3 else F r acc L2) ∧
  ∀ acc L, F [] acc L → R (.lst acc) L
theorem i_Lc {wi : tI} {gc : tC} {vs : List Nat} (r : wi ρ L fun ds L1 => lcD gc t te vs ρ R ds L1) : tLcD wi gc t te vs ρ L R := r
theorem i_c1 {N : En → Prop} (r : N (ρ.set i (some d))) : c1 i d ρ N := r
theorem i_cN {is : List Nat} {N : En → Prop} (h : xs.length = is.length) (r : N (setsD is xs ρ)) : cN is (.tup xs) ρ N := ⟨h, r⟩
theorem i_yes (r : RT true L) : tYesD ρ L RT := r
end
/-! the same, what is found told by an existence -/
theorem s_iteY {b : Bool} {A B : Prop} (h : b = true ∧ A) : if b = true then A else B := iteY h.1 h.2
theorem s_iteN {b : Bool} {A B : Prop} (h : b = false ∧ B) : if b = true then A else B := iteN h.1 h.2
section
variable {ρ : En} {L : Sto} {R : QE} {RT : QT} {tt : tA} {N : En → Prop} {i k m : Nat} {xs : List D} {p : Int} {cs : List (Str × Int)} {z : Str} {d : D} {is : List Nat}
theorem s_tV (h : ∃ d, ρ[i]? = some (some d) ∧ R d L) : tV i ρ L R := let ⟨_, h, r⟩ := h; i_tV h r
theorem s_ixT (h : ∃ d, atD xs p = some d ∧ R d L) : oIx (.tup xs) (.int p) L R := let ⟨_, h, r⟩ := h; i_ixT h r
theorem s_ixL (h : ∃ d, atD xs p = some d ∧ R d L) : oIx (.lst xs) (.int p) L R := let ⟨_, h, r⟩ := h; i_ixL h r
theorem s_ixO (h : ∃ xs, L[k]? = some (.lst xs) ∧ ∃ d, atD xs p = some d ∧ R d L) : oIx (.ob k) (.int p) L R := let ⟨_, h0, _, h, r⟩ := h; i_ixO h0 h r
theorem s_trO (h : ∃ xs, L[k]? = some (.lst xs) ∧ RT (!xs.isEmpty) L) : truD L (.ob k) RT := let ⟨_, h, r⟩ := h; i_trO h r
theorem s_lenO (h : ∃ xs, L[k]? = some (.lst xs) ∧ R (.int xs.length) L) : cLen [.ob k] L R := let ⟨_, h, r⟩ := h; i_lenO h r
theorem s_listO (h : ∃ xs, L[k]? = some (.lst xs) ∧ R (.lst xs) L) : cList [.ob k] L R := let ⟨_, h, r⟩ := h; i_listO h r
theorem s_app1 (h : isLst L[k]? = true ∧ tt ρ L (appD k R)) : app1 m tt ρ R (.ob k) L := h
theorem s_dgtY (h : ∃ p, cs.lookup z = some p ∧ R (.int p) L) : dgtQ cs (.str z) R d L := let ⟨_, h, r⟩ := h; i_dgtY h r
theorem s_stQ {N : En → Sto → Prop} (h : ∃ ρ', ρ.set i (some d) = ρ' ∧ N ρ' L) : stQ i ρ N d L := by obtain ⟨_, rfl, h⟩ := h; exact h
theorem s_gNm {N : En → Sto → Prop} (h : ∃ ρ', ρ.set i (some d) = ρ' ∧ N ρ' L) : gNm i d ρ L N := by obtain ⟨_, rfl, h⟩ := h; exact h
theorem s_c1 (h : ∃ ρ', ρ.set i (some d) = ρ' ∧ N ρ') : c1 i d ρ N := by obtain ⟨_, rfl, h⟩ := h; exact h
theorem s_p2 {j : Nat} {x : D} {N : En → Sto → Prop} (h : ∃ ρ', (ρ.set i (some d)).set j (some x) = ρ' ∧ N ρ' L) : p2Q i j ρ N [d, x] L := by obtain ⟨_, rfl, h⟩ := h; exact h
theorem s_p3 {j l : Nat} {x y : D} {N : En → Sto → Prop} (h : ∃ ρ', ((ρ.set i (some d)).set j (some x)).set l (some y) = ρ' ∧ N ρ' L) : p3Q i j l ρ N [d, x, y] L := by obtain ⟨_, rfl, h⟩ := h; exact h
theorem s_cN' (h : xs.length = is.length ∧ ∃ ρ', setsD is xs ρ = ρ' ∧ N ρ') : cN is (.tup xs) ρ N := by obtain ⟨h1, _, rfl, h⟩ := h; exact ⟨h1, h⟩
theorem s_start {t : tS} {DD : DEnds} {n : Nat} {ds : List D} (h : ∃ ρ', startD n ds = ρ' ∧ t DD ρ' L) : t DD (startD n ds) L := by obtain ⟨_, rfl, h⟩ := h; exact h
theorem s_cN (h : xs.length = is.length ∧ N (setsD is xs ρ)) : cN is (.tup xs) ρ N := h
end
section
variable {ρ : En} {L : Sto} {R : QE} {te : tE} {t : tT} {gc : tC} {vs : List Nat}
/-- a comprehension that leaves the state as it is: what each item comes to -/
theorem lc_pure (ds : List D) (f : D → Option D) (hl : ds.length ≤ sizeLine) (h : ∀ x ∈ ds, ∀ (Q : QE) (N : Sto → Prop), (∀ y, f x = some y → Q y L) → (f x = none → N L) → gc x (wipeD ρ vs) fun ρ2 => t ρ2 L fun b L2 => if b = true then te ρ2 L2 Q else N L2)
    (r : R (.lst (ds.filterMap f)) L) : lcD gc t te vs ρ R ds L := by
  refine ⟨fun r acc L' => L' = L ∧ ∃ done, done ++ r = ds ∧ acc = done.filterMap f, ⟨rfl, [], rfl, rfl⟩, ?_, ?_⟩
  · rintro x rest acc L1 ⟨e0, done, e, rfl⟩
    subst e0
    have hm : x ∈ ds := by rw [← e]; simp
    have hlt : (done.filterMap f).length < sizeLine := by
      have h1 := List.length_filterMap_le f done
      have h2 : done.length + (rest.length + 1) ≤ sizeLine := by rw [← e] at hl; simpa using hl
      omega
    refine h x hm _ _ (fun y hy => ⟨hlt, rfl, done ++ [x], by simpa using e, ?_⟩) fun hn => ⟨rfl, done ++ [x], by simpa using e, ?_⟩
    · simp [List.filterMap_append, hy]
    · simp [List.filterMap_append, hn]
  · rintro acc L1 ⟨e0, done, e, rfl⟩
    subst e0
    have : done = ds := by simpa using e
    rw [this]; exact r
/-- .. one that changes it under I, each item met by P -/
theorem lc_inv (ds : List D) (I : Sto → Prop) (P : D → Prop) (i0 : I L) (hl : ds.length ≤ sizeLine) (h : ∀ x ∈ ds, ∀ (L : Sto), I L → ∀ (Q : QE) (N : Sto → Prop), (∀ y L', P y → I L' → Q y L') → (∀ L', I L' → N L') → gc x (wipeD ρ vs) fun ρ2 => t ρ2 L fun b L2 => if b = true then te ρ2 L2 Q else N L2)
    (r : ∀ acc L', (∀ y ∈ acc, P y) → acc.length ≤ ds.length → I L' → R (.lst acc) L') : lcD gc t te vs ρ R ds L := by
  refine ⟨fun r acc L' => I L' ∧ (∀ y ∈ acc, P y) ∧ ∃ done, done ++ r = ds ∧ acc.length ≤ done.length, ⟨i0, by simp, [], rfl, by simp⟩, ?_, ?_⟩
  · rintro x rest acc L1 ⟨hi, hp, done, e, hlen⟩
    have hm : x ∈ ds := by rw [← e]; simp
    have hlt : acc.length < sizeLine := by
      have h2 : done.length + (rest.length + 1) ≤ sizeLine := by rw [← e] at hl; simpa using hl
      omega
    refine h x hm L1 hi _ _ (fun y L' hy hi' => ⟨hlt, hi', ?_, done ++ [x], by simpa using e, by simpa using hlen⟩) fun L' hi' => ⟨hi', hp, done ++ [x], by simpa using e, by simp; omega⟩
    intro z hz
    rcases List.mem_append.mp hz with hz | hz
    · exact hp z hz
    · rw [List.mem_singleton.mp hz]; exact hy
  · rintro acc L1 ⟨hi, hp, done, e, hlen⟩
    have : done = ds := by simpa using e
    rw [this] at hlen; exact r acc L1 hp hlen hi
end

/-! one's own objects -/
section
variable {ρ : En} {L : Sto} {R : QE} {fs : FS} {n j k : Nat} {r : List D} {o : O} {d x : D} {z : Int} {W : Sto → Prop}
/-- what comes back of an object handed on -/
def mQ (R : QE) (L : Sto) (j : Nat) : QE := fun d L2 => lowD 0 d ∧ match L2 with
  | [o'] => lowO 0 o' ∧ R d (L.set j o')
  | _ => False
theorem i_caM (hj : L[j]? = some o) (hn : r.length + 1 = n) (low : lowDs 0 r) (nd : o ≠ .dead) (lo : lowO 0 o) (h : fs (.ob 0 :: r) [o] (mQ R L j) fun _ _ => False) : caM n fs R (.ob j :: r) L := by
  unfold caM
  dsimp only
  rw [hj]
  exact ⟨hn, low, nd, lo, h⟩
theorem i_mQ (low : lowD 0 d) (lo : lowO 0 o) (h : R d (L.set j o)) : mQ R L j d [o] := ⟨low, lo, h⟩
theorem s_sLst (h : ∃ xs, L[k]? = some (.lst xs) ∧ ∃ m, posD xs.length z = some m ∧ ∃ L', L.set k (.lst (xs.set m d)) = L' ∧ W L') : sLst (.ob k) (.int z) d L W := by
  obtain ⟨xs, h1, m, h2, _, rfl, h3⟩ := h
  exact i_sLst h1 h2 h3
theorem rtm3 {o : O} {L : Sto} (h : lowD 1 d) (h' : lowO 1 o) (r : R d [o]) : FinR 1 R d (o :: L) := rtm h h' r
end
end L2.DL

set_option Elab.async false
set_option linter.all false
set_option maxRecDepth 100000
/-! DV: dicts whose keys are tuples, own and frozen. -/
namespace L2.DL
open PySem PySem.Spec PyProof.Rows

/-! ### keys in HandS's heap -/
mutual
inductive KeyV (K : PySem.W.Frag) (H : Hp) : NestedKey → V → Prop
  | none : KeyV K H .none .non
  | bl (b : Bool) : KeyV K H (.num (if b then 1 else 0)) (.bl b)
  | int (i : Int) : KeyV K H (.num i) (.int i)
  | str (x : Str) : KeyV K H (.text x) (.str x)
  | tup {a : Addr} {xs : List V} {ks : List NestedKey} : SqT K H a xs → KeysV K H ks xs → KeyV K H (.tup ks) (.ref a)
inductive KeysV (K : PySem.W.Frag) (H : Hp) : List NestedKey → List V → Prop
  | nil : KeysV K H [] []
  | cons {k : NestedKey} {ks : List NestedKey} {v : V} {vs : List V} : KeyV K H k v → KeysV K H ks vs → KeysV K H (k :: ks) (v :: vs)
end
theorem skOf_tup {xs : List D} {k : NestedKey} (h : skOf (.tup xs) = some k) : ∃ ks, skOfs xs = some ks ∧ k = .tup ks := by
  simp only [skOf, Option.map_eq_some_iff] at h
  obtain ⟨ks, h1, h2⟩ := h
  exact ⟨ks, h1, h2.symm⟩
theorem skOfs_cons {x : D} {xs : List D} {ks : List NestedKey} (h : skOfs (x :: xs) = some ks) : ∃ k r, skOf x = some k ∧ skOfs xs = some r ∧ ks = k :: r := by
  simp only [skOfs] at h
  split at h
  · rename_i k r h1 h2
    cases h
    exact ⟨k, r, h1, h2, rfl⟩
  · cases h
section
variable {K : PySem.W.Frag} {w : World} {H : Hp} {W : Wd}
mutual
theorem Is.key : ∀ {v : V} {d : D} {k : NestedKey}, Is K w H W v d → skOf d = some k → KeyV K H k v
  | _, _, _, .non, h => by simp only [skOf, Option.some.injEq] at h; subst h; exact .none
  | _, _, _, .bl b, h => by simp only [skOf, Option.some.injEq] at h; subst h; exact .bl b
  | _, _, _, .int i, h => by simp only [skOf, Option.some.injEq] at h; subst h; exact .int i
  | _, _, _, .str x, h => by simp only [skOf, Option.some.injEq] at h; subst h; exact .str x
  | _, _, _, .tup s hs, h => by
    obtain ⟨ks, h1, rfl⟩ := skOf_tup h
    exact .tup s (Iss.keys hs h1)
  | _, _, _, .lst _ _ _, h => by simp [skOf] at h
  | _, _, _, .lstK _ _, h => by simp [skOf] at h
  | _, _, _, .dct _ _ _, h => by simp [skOf] at h
  | _, _, _, .ob _, h => by simp [skOf] at h
  | _, _, _, .adr _, h => by simp [skOf] at h
  | _, _, _, .ty _, h => by simp [skOf] at h
theorem Iss.keys : ∀ {vs : List V} {ds : List D} {ks : List NestedKey}, Iss K w H W vs ds → skOfs ds = some ks → KeysV K H ks vs
  | _, _, _, .nil, h => by simp only [skOfs, Option.some.injEq] at h; subst h; exact .nil
  | _, _, _, .cons a t, h => by
    obtain ⟨k, r, h1, h2, rfl⟩ := skOfs_cons h
    exact .cons (Is.key a h1) (Iss.keys t h2)
end
variable {X : Cx} {pins : List (Addr × Obj)} {σ : L2.St} {s : Shared}
mutual
theorem KeyV.at : ∀ {k : NestedKey} {v : V} {u : Value}, KeyV X.K H k v → Inv X pins σ H s → RelV v u → NestedIs s.heap k u
  | _, _, u, .none, I, r => by cases (show u = Value.none from r); exact .none
  | _, _, u, .bl b, I, r => by cases (show u = Value.bool b from r); exact .bool rfl
  | _, _, u, .int i, I, r => by obtain ⟨t, e⟩ := (show ∃ t, u = Value.int i t from r); subst e; exact .int i t
  | _, _, u, .str x, I, r => by obtain ⟨t, e⟩ := (show ∃ t, u = Value.str x t from r); subst e; exact .text x t
  | _, _, u, .tup (a := a) sq ks, I, r => by
    cases (show u = Value.ref a from r)
    obtain ⟨its, rv, ⟨o, h1, h2, n, h3⟩, _⟩ := I.tuple sq
    exact .tup h1 h2 h3 (by simpa using KeysV.at ks I rv)
theorem KeysV.at : ∀ {ks : List NestedKey} {vs : List V} {us : List Value}, KeysV X.K H ks vs → Inv X pins σ H s → Vals vs us → NestedAll s.heap ks us
  | _, _, _, .nil, _, r => by cases r; exact .nil
  | _, _, _, .cons a t, I, r => by
    cases r with
    | cons r1 r2 => exact .cons (KeyV.at a I r1) (KeysV.at t I r2)
end
/-- a key that is a tuple -/
def KeyT (K : PySem.W.Frag) (H : Hp) (k : NestedKey) (v : V) : Prop := KeyV K H k v ∧ k.depth ≤ 8 ∧ ∃ b, v = .ref b
theorem KeyT.at {k : NestedKey} {v : V} {u : Value} (h : KeyT X.K H k v) (I : Inv X pins σ H s) (r : RelV v u) : ∃ b, v = .ref b ∧ u = .ref b ∧ (nestedKind X.prog X.w).is s.heap k b := by
  obtain ⟨h1, h2, b, rfl⟩ := h
  cases (show u = Value.ref b from r)
  exact ⟨b, rfl, rfl, KeyV.at h1 I r, h2⟩
/-- a dict by its entries -/
def DicV (K : PySem.W.Frag) (w : World) (H : Hp) (a : Addr) (es : List DE3 × Nat) : Prop := H a = some (dictHO w a es) ∧ ∀ e ∈ es.1, KeyT K H e.1 (.ref e.2.1)
theorem DicV.at {a : Addr} {es : List DE3 × Nat} (h : DicV X.K X.w H a es) (I : Inv X pins σ H s) : (a == sysModules) = false ∧ es.1.length ≤ sizeLine ∧ s.heap.DictOfH (nestedKind X.prog X.w) a es.1 ∧ s.heap.DictRaw a (es.1.map (ent3 X.w)).toArray es.2 := by
  obtain ⟨⟨h1, h2, h3, o, h4, h5, h6⟩, _, _⟩ := I.hok a _ h.1
  refine ⟨h1, h2, ⟨o, _, es.2, h4, h5, h6, by simp [ent3, entryOfKey, nestedKind], fun e he => ?_, h3⟩, o, h4, h5, h6⟩
  obtain ⟨b, e1, _, e3⟩ := (h.2 e he).at (u := .ref e.2.1) I rfl
  cases e1
  exact e3
theorem DicV.ok {P : Program} {a : Addr} {es : List DE3} {h : Heap} (h1 : (a == sysModules) = false) (h2 : es.length ≤ sizeLine) (h3 : h.DictOfH (nestedKind P w) a es) : ∃ ep, ObjOk P w H h a (dictHO w a (es, ep)) := by
  obtain ⟨o, es', ep, g1, g2, g3, g4, g5, g6⟩ := h3
  have e : es' = (es.map (ent3 w)).toArray := by
    rw [← Array.toArray_toList (xs := es'), g4]
    simp [ent3, entryOfKey, nestedKind]
  subst e
  exact ⟨ep, ⟨h1, h2, g6, o, g1, g2, g3⟩, ⟨o, g1⟩, fun k1 k2 ⟨p1, p2, p3, o', q1, q2, q3⟩ st => ⟨p1, p2, p3, o', st _ q1, q2, q3⟩⟩
end

/-! ### what a dict is asked -/
def lookD : List D → List D → NestedKey → Option D
  | k' :: ks, v :: vs, k => if skOf k' = some k then some v else lookD ks vs k
  | _, _, _ => none
def putD : List D → List D → NestedKey → D → D → List D × List D
  | k' :: ks, v' :: vs, k, key, v => if skOf k' = some k then (k' :: ks, v :: vs) else (k' :: (putD ks vs k key v).1, v' :: (putD ks vs k key v).2)
  | _, _, _, key, v => ([key], [v])
section
variable {K : PySem.W.Frag} {w : World} {H : Hp} {W : Wd}
theorem atKey_cons {e : DE3} {es : List DE3} {k : NestedKey} : atKey (e :: es) k = if e.1 = k then some e.2 else atKey es k := by
  by_cases h : e.1 = k
  · simp [atKey, h]
  · simp [atKey, h]
theorem IsE.look (k : NestedKey) : ∀ {es : List DE3} {ks vs : List D}, IsE K w H W es ks vs → (lookD ks vs k = none ∧ atKey es k = none) ∨ ∃ d p v, lookD ks vs k = some d ∧ atKey es k = some p ∧ RelV v p.2 ∧ Is K w H W v d
  | _, _, _, .nil => .inl ⟨rfl, rfl⟩
  | e :: _, _, _, .cons a b c d f g => by
    rw [atKey_cons, lookD, a]
    by_cases h : e.1 = k
    · subst h
      rw [if_pos rfl, if_pos rfl]
      exact .inr ⟨_, _, _, rfl, rfl, d, f⟩
    · rw [if_neg h, if_neg (fun z => h (Option.some.inj z))]
      exact IsE.look k g
theorem IsE.keyT : ∀ {es : List DE3} {ks vs : List D}, IsE K w H W es ks vs → ∀ e ∈ es, KeyT K H e.1 (.ref e.2.1)
  | _, _, _, .nil, _, h => nomatch h
  | _, _, _, .cons a b c _ _ g, x, h => by
    rcases List.mem_cons.mp h with rfl | h
    · exact ⟨c.key a, b, _, rfl⟩
    · exact IsE.keyT g x h
theorem IsE.length : ∀ {es : List DE3} {ks vs : List D}, IsE K w H W es ks vs → es.length = ks.length ∧ es.length = vs.length
  | _, _, _, .nil => ⟨rfl, rfl⟩
  | _, _, _, .cons _ _ _ _ _ g => ⟨by simp [(IsE.length g).1], by simp [(IsE.length g).2]⟩
theorem storedH_cons {e : DE3} {es : List DE3} {k : NestedKey} {b : Addr} {u : Value} (hn : ((e :: es).map (·.1)).Nodup) : storedH (e :: es) k b u = if e.1 = k then (e.1, e.2.1, u) :: es else e :: storedH es k b u := by
  rw [List.map_cons, List.nodup_cons] at hn
  by_cases h : e.1 = k
  · subst h
    rw [if_pos rfl, storedH_old (p := e.2) (by rw [atKey_cons, if_pos rfl])]
    rw [List.map_cons, putAt, if_pos rfl]
    congr 1
    have : ∀ l : List DE3, e.1 ∉ l.map (·.1) → l.map (putAt e.1 u) = l := by
      intro l
      induction l with
      | nil => intro _; rfl
      | cons x l ih =>
        intro hx
        rw [List.map_cons, List.mem_cons, not_or] at hx
        rw [List.map_cons, putAt, if_neg (fun z => hx.1 z.symm), ih hx.2]
    exact this es hn.1
  · rw [if_neg h]
    unfold storedH
    rw [atKey_cons, if_neg h]
    split
    · rw [List.map_cons, putAt, if_neg h]
    · rfl
theorem IsE.put {k : NestedKey} {b : Addr} {key v : D} {vv : V} {u : Value} (hk : skOf key = some k) (hd : k.depth ≤ 8) (ik : Is K w H W (.ref b) key) (r : RelV vv u) (iv : Is K w H W vv v) :
    ∀ {es : List DE3} {ks vs : List D}, (es.map (·.1)).Nodup → IsE K w H W es ks vs → IsE K w H W (storedH es k b u) (putD ks vs k key v).1 (putD ks vs k key v).2
  | _, _, _, _, .nil => by
    show IsE K w H W [(k, b, u)] [key] [v]
    exact .cons hk hd ik r iv .nil
  | e :: _, _, _, hn, .cons a b c d f g => by
    rw [storedH_cons hn, putD, a]
    by_cases h : e.1 = k
    · subst h
      rw [if_pos rfl, if_pos rfl]
      exact .cons a b c r iv g
    · rw [if_neg h, if_neg (fun z => h (Option.some.inj z))]
      rw [List.map_cons, List.nodup_cons] at hn
      exact .cons a b c d f (IsE.put hk hd ik r iv hn.2 g)
theorem storedH_len {es : List DE3} {k : NestedKey} {b : Addr} {u : Value} : (storedH es k b u).length ≤ es.length + 1 := by
  unfold storedH
  split
  · rw [List.length_map]; omega
  · rw [List.length_append]; simp
end
end L2.DL

set_option Elab.async false
set_option linter.all false
set_option maxRecDepth 100000
/-! DS: the readings' steps as a class: found by the head of what is to be shown, without a trial of each rule. -/
namespace L2.DL
open PySem PySem.Spec PyProof.Rows
class Stp (P : Prop) (Q : outParam Prop) : Prop where
  go : Q → P
class Nth (ρ : List (Option D)) (i : Nat) (d : outParam D) : Prop where
  at_ : ρ[i]? = some (some d)
instance {d : D} {ρ : List (Option D)} : Nth (some d :: ρ) 0 d := ⟨rfl⟩
instance {x : Option D} {ρ : List (Option D)} {i : Nat} {d : D} [h : Nth ρ i d] : Nth (x :: ρ) (i + 1) d := ⟨by rw [List.getElem?_cons_succ]; exact h.at_⟩
class NthD (xs : List D) (i : Nat) (d : outParam D) : Prop where
  at_ : xs[i]? = some d
instance {d : D} {ρ : List D} : NthD (d :: ρ) 0 d := ⟨rfl⟩
instance {x : D} {ρ : List D} {i : Nat} {d : D} [h : NthD ρ i d] : NthD (x :: ρ) (i + 1) d := ⟨by rw [List.getElem?_cons_succ]; exact h.at_⟩
class SetAt (ρ : List (Option D)) (i : Nat) (v : Option D) (ρ' : outParam (List (Option D))) : Prop where
  eq : ρ.set i v = ρ'
instance {x v : Option D} {ρ : List (Option D)} : SetAt (x :: ρ) 0 v (v :: ρ) := ⟨rfl⟩
instance {x v : Option D} {ρ ρ' : List (Option D)} {i : Nat} [h : SetAt ρ i v ρ'] : SetAt (x :: ρ) (i + 1) v (x :: ρ') := ⟨by rw [List.set_cons_succ, h.eq]⟩
class Wip (ρ : List (Option D)) (vs : List Nat) (ρ' : outParam (List (Option D))) : Prop where
  eq : wipeD ρ vs = ρ'
instance {ρ : List (Option D)} : Wip ρ [] ρ := ⟨rfl⟩
instance {ρ ρ' ρ'' : List (Option D)} {v : Nat} {vs : List Nat} [h : Wip ρ vs ρ'] [k : SetAt ρ' v none ρ''] : Wip ρ (v :: vs) ρ'' := ⟨by rw [wipeD, h.eq, k.eq]⟩
class Sts (is : List Nat) (ds : List D) (ρ : List (Option D)) (ρ' : outParam (List (Option D))) : Prop where
  eq : setsD is ds ρ = ρ'
instance {ρ : List (Option D)} : Sts [] [] ρ ρ := ⟨rfl⟩
instance {i : Nat} {is : List Nat} {d : D} {ds : List D} {ρ ρ' ρ'' : List (Option D)} [k : SetAt ρ i (some d) ρ'] [h : Sts is ds ρ' ρ''] : Sts (i :: is) (d :: ds) ρ ρ'' := ⟨by rw [setsD, k.eq, h.eq]⟩
section
variable {DD : DEnds} {ρ ρ' ρ'' ρ4 : En} {L : Sto} {R : QE} {RT : QT} {RA : QA} {d x y z : D} {i j l n : Nat} {ta tb tc te : tE} {t u : tT} {s s' : tS} {tt : tA} {Q : En → Sto → Prop} {g : tG} {gs : tGs} {xs ys : List D} {p q : Int} {gg : Int → Int → D} {C : Int → Int → Prop} {tl th : tP} {RP : Option Int → Sto → Prop} {lo hi : Option Int} {RI : List D → Sto → Prop} {A B : Prop} {N : En → Prop} {is vs : List Nat}
instance : Stp (tK d ρ L R) (R d L) := ⟨i_tK⟩
instance {o : O2} : Stp (tB2 o ta tb ρ L R) (ta ρ L fun x L1 => tb ρ L1 fun y L2 => o x y L2 R) := ⟨i_tB2⟩
instance {o : O1} : Stp (tB1 o ta ρ L R) (ta ρ L fun x L1 => o x L1 R) := ⟨i_tB1⟩
instance {o : OA} : Stp (tCa o tt ρ L R) (tt ρ L fun xs L1 => o xs L1 R) := ⟨i_tCa⟩
instance : Stp (tNilA ρ L RA) (RA [] L) := ⟨i_nil⟩
instance : Stp (tConsA te tt ρ L RA) (te ρ L fun x L1 => tt ρ L1 fun xs L2 => RA (x :: xs) L2) := ⟨i_cons⟩
instance : Stp (tTupD tt ρ L R) (tt ρ L fun xs L1 => xs.length ≤ sizeLine ∧ R (.tup xs) L1) := ⟨i_tup⟩
instance : Stp (tLstD tt ρ L R) (tt ρ L fun xs L1 => xs.length ≤ sizeLine ∧ R (.lst xs) L1) := ⟨i_lst⟩
instance : Stp (tLstO tt ρ L R) (tt ρ L fun xs L1 => xs.length ≤ sizeLine ∧ R (.ob L1.length) (L1 ++ [.lst xs])) := ⟨i_lstO⟩
instance : Stp (tAnV ta tb ρ L R) (ta ρ L fun x L1 => truD L1 x fun b L2 => if b = true then tb ρ L2 R else R x L2) := ⟨i_and⟩
instance : Stp (tOrV ta tb ρ L R) (ta ρ L fun x L1 => truD L1 x fun b L2 => if b = true then R x L2 else tb ρ L2 R) := ⟨i_or⟩
instance : Stp (tNtV ta ρ L R) (ta ρ L fun x L1 => truD L1 x fun b L2 => R (.bl (!b)) L2) := ⟨i_not⟩
instance : Stp (tIfE t ta tb ρ L R) (t ρ L fun b L1 => if b = true then ta ρ L1 R else tb ρ L1 R) := ⟨i_ifE⟩
instance {o o' : O2} : Stp (tCh o o' ta tb tc ρ L R) (ta ρ L fun x L1 => tb ρ L1 fun y L2 => o x y L2 (chQ o' tc ρ y R)) := ⟨i_tCh⟩
instance {o' : O2} {k : Bool} : Stp (chQ o' tc ρ y R (.bl k) L) (if k = true then tc ρ L fun u L4 => o' y u L4 R else R (.bl false) L) := ⟨i_chQ⟩
instance {fs : FS} : Stp (tCaP n fs tt ρ L R) (tt ρ L fun cs L1 => cs.length = n ∧ lowDs 0 cs ∧ fs cs [] (fun d _ => lowD 0 d → R d L1) fun _ _ => False) := ⟨i_call⟩
instance {fs : FS} : Stp (tCaM n fs tt ρ L R) (tt ρ L (caM n fs R)) := ⟨i_callM⟩
instance {fs : PN} : Stp (tCaN n fs tt ρ L R) (tt ρ L fun cs L1 => cs.length = n ∧ lowDs 0 cs ∧ fs cs fun o => R (.ob L1.length) (L1 ++ [o])) := ⟨i_callN⟩
instance : Stp (tTB ta ρ L RT) (ta ρ L (asB RT)) := ⟨i_TB⟩
instance {b : Bool} : Stp (asB RT (.bl b) L) (RT b L) := ⟨i_asB⟩
instance : Stp (tTru ta ρ L RT) (ta ρ L fun d L1 => truD L1 d RT) := ⟨i_Tru⟩
instance : Stp (tNt t ρ L RT) (t ρ L fun b L1 => RT (!b) L1) := ⟨i_Nt⟩
instance : Stp (tAn t u ρ L RT) (t ρ L fun b L1 => if b = true then u ρ L1 RT else RT false L1) := ⟨i_An⟩
instance : Stp (tOr t u ρ L RT) (t ρ L fun b L1 => if b = true then RT true L1 else u ρ L1 RT) := ⟨i_Or⟩
instance : Stp (tNx DD ρ L) (DD.nx ρ L) := ⟨i_Nx⟩
instance : Stp (tSq s s' DD ρ L) (s { DD with nx := s' DD } ρ L) := ⟨i_Sq⟩
instance : Stp (tBk DD ρ L) (DD.bk ρ L) := ⟨i_Bk⟩
instance : Stp (tCt DD ρ L) (DD.ct ρ L) := ⟨i_Ct⟩
instance : Stp (tDp te DD ρ L) (te ρ L fun _ L1 => DD.nx ρ L1) := ⟨i_Dp⟩
instance : Stp (tRt te DD ρ L) (te ρ L DD.rt) := ⟨i_Rt⟩
instance : Stp (tRtN DD ρ L) (DD.rt .non L) := ⟨i_RtN⟩
instance : Stp (tIfD t s s' DD ρ L) (t ρ L fun b L1 => if b = true then s DD ρ L1 else s' DD ρ L1) := ⟨i_If⟩
instance : Stp (tSt te i DD ρ L) (te ρ L (stQ i ρ DD.nx)) := ⟨i_St⟩
instance {g : tG} : Stp (tAs te g DD ρ L) (te ρ L fun d L1 => g d ρ L1 DD.nx) := ⟨i_As⟩
instance : Stp (tP2 i j tt DD ρ L) (tt ρ L (p2Q i j ρ DD.nx)) := ⟨i_P2⟩
instance : Stp (tP3 i j l tt DD ρ L) (tt ρ L (p3Q i j l ρ DD.nx)) := ⟨i_P3⟩
instance {a : D} : Stp (gTpD 1 gs (.tup [a]) ρ L Q) (gs [a] ρ L Q) := ⟨i_gTp1⟩
instance {a b : D} : Stp (gTpD 2 gs (.tup [a, b]) ρ L Q) (gs [a, b] ρ L Q) := ⟨i_gTp2⟩
instance {a b c : D} : Stp (gTpD 3 gs (.tup [a, b, c]) ρ L Q) (gs [a, b, c] ρ L Q) := ⟨i_gTp3⟩
instance {a b c d : D} : Stp (gTpD 4 gs (.tup [a, b, c, d]) ρ L Q) (gs [a, b, c, d] ρ L Q) := ⟨i_gTp4⟩
instance {a b c d e : D} : Stp (gTpD 5 gs (.tup [a, b, c, d, e]) ρ L Q) (gs [a, b, c, d, e] ρ L Q) := ⟨i_gTp5⟩
instance {a b c d e f : D} : Stp (gTpD 6 gs (.tup [a, b, c, d, e, f]) ρ L Q) (gs [a, b, c, d, e, f] ρ L Q) := ⟨i_gTp6⟩
instance : Stp (gNilD [] ρ L Q) (Q ρ L) := ⟨i_gNil⟩
instance : Stp (gConsD g gs (d :: xs) ρ L Q) (g d ρ L fun ρ1 L1 => gs xs ρ1 L1 Q) := ⟨i_gCons⟩
instance {o : O3} : Stp (gSb ta tb o d ρ L Q) (ta ρ L fun x L1 => tb ρ L1 fun i L2 => o x i d L2 fun L3 => Q ρ L3) := ⟨i_gSb⟩
instance : Stp (oI gg (.int p) (.int q) L R) (R (gg p q) L) := ⟨i_oI⟩
instance : Stp (oNeg (.int p) L R) (R (.int (-p)) L) := ⟨i_neg⟩
instance : Stp (oAdd (.int p) (.int q) L R) (R (.int (p + q)) L) := ⟨i_addI⟩
instance : Stp (oIsN x .non L R) (R (.bl (isN x)) L) := ⟨i_isN⟩
instance : Stp (oNotN x .non L R) (R (.bl (!isN x)) L) := ⟨i_notN⟩
instance {a b : Bool} : Stp (oIsB (.bl a) (.bl b) L R) (R (.bl (decide (a = b))) L) := ⟨i_isB⟩
instance {b : Bool} : Stp (truD L (.bl b) RT) (RT b L) := ⟨i_trB⟩
instance : Stp (truD L (.int p) RT) (RT (p != 0) L) := ⟨i_trI⟩
instance : Stp (truD L .non RT) (RT false L) := ⟨i_trN⟩
instance : Stp (truD L (.lst xs) RT) (RT (!xs.isEmpty) L) := ⟨i_trL⟩
instance : Stp (truD L (.tup xs) RT) (RT (!xs.isEmpty) L) := ⟨i_trT⟩
instance : Stp (cLen [.tup xs] L R) (R (.int xs.length) L) := ⟨i_lenT⟩
instance : Stp (cLen [.lst xs] L R) (R (.int xs.length) L) := ⟨i_lenL⟩
instance : Stp (cAbs [.int p] L R) (R (.int (if p < 0 then -p else p)) L) := ⟨i_abs⟩
instance : Stp (cInt [.int p] L R) (R (.int p) L) := ⟨i_int⟩
instance : Stp (cMax [.int p, .int q] L R) (R (.int (if q > p then q else p)) L) := ⟨i_max⟩
instance : Stp (cMin [.int p, .int q] L R) (R (.int (if q < p then q else p)) L) := ⟨i_min⟩
instance : Stp (cList [.tup xs] L R) (R (.lst xs) L) := ⟨i_listT⟩
instance : Stp (cList [.lst xs] L R) (R (.lst xs) L) := ⟨i_listL⟩
instance : Stp (cTuple [.tup xs] L R) (R (.tup xs) L) := ⟨i_tupT⟩
instance : Stp (cTuple [.lst xs] L R) (R (.tup xs) L) := ⟨i_tupL⟩
instance : Stp (tAppend te tt ρ L R) (te ρ L (app1 0 tt ρ R)) := ⟨i_append⟩
instance : Stp (tRev te ρ L R) (te ρ L (revQ R)) := ⟨i_rev⟩
instance : Stp (revQ R (.tup xs) L) (R (.tup xs.reverse) L) := ⟨i_revT⟩
instance : Stp (revQ R (.lst xs) L) (R (.lst xs.reverse) L) := ⟨i_revL⟩
instance : Stp (tSlD te tl th ρ L R) (te ρ L fun x L1 => tl ρ L1 fun l L2 => th ρ L2 fun u L3 => oSl x l u L3 R) := ⟨i_sl⟩
instance : Stp (tNoP ρ L RP) (RP none L) := ⟨i_noP⟩
instance : Stp (tSomeP te ρ L RP) (te ρ L (someQ RP)) := ⟨i_someP⟩
instance : Stp (someQ RP (.int p) L) (RP (some p) L) := ⟨i_some⟩
instance : Stp (oSl (.tup xs) lo hi L R) (R (.tup (cutD xs lo hi)) L) := ⟨i_slT⟩
instance : Stp (oSl (.lst xs) lo hi L R) (R (.lst (cutD xs lo hi)) L) := ⟨i_slL⟩
instance : Stp (iLs te ρ L RI) (te ρ L (lsQ RI)) := ⟨i_iLs⟩
instance : Stp (lsQ RI (.lst xs) L) (RI xs L) := ⟨i_lsQ⟩
instance : Stp (iTp te ρ L RI) (te ρ L (tpQ RI)) := ⟨i_iTp⟩
instance : Stp (tpQ RI (.tup xs) L) (RI xs L) := ⟨i_tpQ⟩
instance : Stp (iRg1 tt ρ L RI) (tt ρ L (r1Q RI)) := ⟨i_iRg1⟩
instance : Stp (iRg2 tt ρ L RI) (tt ρ L (r2Q RI)) := ⟨i_iRg2⟩
instance : Stp (iZp tt ρ L RI) (tt ρ L (zpQ RI)) := ⟨i_iZp⟩
instance : Stp (zpQ RI [.lst xs, .lst ys] L) (RI (zipD xs ys) L) := ⟨i_zpL⟩
instance : Stp (zpQ RI [.tup xs, .tup ys] L) (RI (zipD xs ys) L) := ⟨i_zpT⟩
instance : Stp (tLsR1 tt ρ L R) (tt ρ L (lsR1Q R)) := ⟨i_lsR1⟩
instance : Stp (tLsR2 tt ρ L R) (tt ρ L (lsR2Q R)) := ⟨i_lsR2⟩
instance {cs : List (Str × Int)} : Stp (tDgt cs ta tb ρ L R) (ta ρ L fun y L1 => tb ρ L1 (dgtQ cs y R)) := ⟨i_dgt⟩
instance {wi : tI} : Stp (tFr wi g s DD ρ L) (wi ρ L fun ds L1 => frD g s DD ρ ds L1) := ⟨i_Fr⟩
instance {wi : tI} {gc : tC} {vs : List Nat} : Stp (tLcD wi gc t te vs ρ L R) (wi ρ L fun ds L1 => lcD gc t te vs ρ R ds L1) := ⟨i_Lc⟩
instance : Stp (tYesD ρ L RT) (RT true L) := ⟨i_yes⟩
instance [h : Nth ρ i d] : Stp (tV i ρ L R) (R d L) := ⟨i_tV h.at_⟩
instance [h : SetAt ρ i (some d) ρ'] {N : En → Sto → Prop} : Stp (stQ i ρ N d L) (N ρ' L) := ⟨fun r => s_stQ ⟨ρ', h.eq, r⟩⟩
instance [h : SetAt ρ i (some d) ρ'] {N : En → Sto → Prop} : Stp (gNm i d ρ L N) (N ρ' L) := ⟨fun r => s_gNm ⟨ρ', h.eq, r⟩⟩
instance [h : SetAt ρ i (some d) ρ'] [k : SetAt ρ' j (some x) ρ''] {N : En → Sto → Prop} : Stp (p2Q i j ρ N [d, x] L) (N ρ'' L) := ⟨fun r => s_p2 ⟨ρ'', by rw [h.eq, k.eq], r⟩⟩
instance [h : SetAt ρ i (some d) ρ'] [k : SetAt ρ' j (some x) ρ''] [m : SetAt ρ'' l (some y) ρ4] {N : En → Sto → Prop} : Stp (p3Q i j l ρ N [d, x, y] L) (N ρ4 L) := ⟨fun r => s_p3 ⟨ρ4, by rw [h.eq, k.eq, m.eq], r⟩⟩
instance [k : Wip ρ vs ρ'] [h : SetAt ρ' i (some d) ρ''] : Stp (c1 i d (wipeD ρ vs) N) (N ρ'') := ⟨fun r => s_c1 ⟨ρ'', by rw [k.eq, h.eq], r⟩⟩
theorem cN_of (e : xs.length = is.length) (h : setsD is xs ρ = ρ') (r : N ρ') : cN is (.tup xs) ρ N := ⟨e, by rw [h]; exact r⟩
class SameLen {α β : Type} (xs : List α) (ys : List β) : Prop where
  eq : xs.length = ys.length
instance {α β : Type} : SameLen ([] : List α) ([] : List β) := ⟨rfl⟩
instance {α β : Type} {x : α} {y : β} {xs : List α} {ys : List β} [h : SameLen xs ys] : SameLen (x :: xs) (y :: ys) := ⟨by rw [List.length_cons, List.length_cons, h.eq]⟩
instance [e : SameLen xs is] [k : Wip ρ vs ρ'] [h : Sts is xs ρ' ρ''] : Stp (cN is (.tup xs) (wipeD ρ vs) N) (N ρ'') := ⟨fun r => cN_of e.eq (by rw [k.eq, h.eq]) r⟩
instance {k : Nat} [h : NthD xs k d] : Stp (oIx (.tup xs) (.int (OfNat.ofNat k)) L R) (R d L) := ⟨i_ixT (show xs[k]? = some d from h.at_)⟩
instance {k : Nat} [h : NthD xs k d] : Stp (oIx (.lst xs) (.int (OfNat.ofNat k)) L R) (R d L) := ⟨i_ixL (show xs[k]? = some d from h.at_)⟩
instance {c : Decidable (true = true)} : Stp (@ite Prop (true = true) c A B) A := ⟨fun a => by rw [if_pos rfl]; exact a⟩
instance {c : Decidable (false = true)} : Stp (@ite Prop (false = true) c A B) B := ⟨fun a => by rw [if_neg Bool.false_ne_true]; exact a⟩
end
end L2.DL

set_option Elab.async false
set_option linter.all false
set_option maxRecDepth 100000
/-! DW: what is done with dicts: {}, d[k], k in d, d[k] = v, d.get(k, x), len(d). -/
namespace L2.DL
open PySem PySem.Spec PyProof.Rows
section
variable {X : Cx} {G : Gam}
theorem room8 {P : Program} {w : World} {A : Around} (h : A.units + 65 < cLine) : (nestedKind P w).room A.in1 := by
  show A.in1.units + 8 < cLine
  rw [Around.in1_units]; omega
def rDix (K : PySem.W.Frag) (w : World) : R2 := fun x y H Q => ∃ a es k p v, x = .ref a ∧ DicV K w H a es ∧ KeyT K H k y ∧ atKey es.1 k = some p ∧ RelV v p.2 ∧ Q v H
theorem ix_dict (hu : X.A.units + 65 < cLine) : IxR X (rDix X.K X.w) := by
  intro value slice pins s σ H x y v u Q I rx ry h hs
  obtain ⟨a, es, k, p, z, rfl, hd, hk, hp, rp, q⟩ := h
  cases rx
  obtain ⟨b, rfl, rfl, hkey⟩ := hk.at I ry
  obtain ⟨h1, h2, h3, _⟩ := hd.at I
  exact subscriptTail_builtinR (x := p.2) h3.typeIs PySem.F.slot_dict_getitem.lookup (wpAny_getItem_heap (Q := fun r s' => r = p.2 ∧ EP X pins σ Q r s') (room8 hu) hkey h3 hp ⟨rfl, z, H, I.tok _, rp, q⟩) hs
def rInK (K : PySem.W.Frag) (w : World) (neg : Bool) : R2 := fun x y H Q => ∃ a es k, y = .ref a ∧ DicV K w H a es ∧ KeyT K H k x ∧ Q (.bl (if neg then !(atKey es.1 k).isSome else (atKey es.1 k).isSome)) H
theorem op_inK (hu : X.A.units + 65 < cLine) : OpR X (compareOp .In) (rInK X.K X.w false) := by
  intro pins s σ H x y v u Q I rx ry h
  obtain ⟨a, es, k, rfl, hd, hk, q⟩ := h
  cases ry
  obtain ⟨b, rfl, rfl, hkey⟩ := hk.at I rx
  obtain ⟨h1, h2, h3, _⟩ := hd.at I
  exact wpAny_in_heap (room8 hu) hkey h1 h3 ⟨.bl _, H, I.tok _, rfl, q⟩
theorem op_notInK (hu : X.A.units + 65 < cLine) : OpR X (compareOp .NotIn) (rInK X.K X.w true) := by
  intro pins s σ H x y v u Q I rx ry h
  obtain ⟨a, es, k, rfl, hd, hk, q⟩ := h
  cases ry
  obtain ⟨b, rfl, rfl, hkey⟩ := hk.at I rx
  obtain ⟨h1, h2, h3, _⟩ := hd.at I
  exact wpAny_notIn_heap (room8 hu) hkey h1 h3 ⟨.bl _, H, I.tok _, rfl, q⟩
def rPutK (K : PySem.W.Frag) (w : World) : V → V → V → Hp → (Hp → Prop) → Prop := fun o i v H Q => ∃ a es k b, o = .ref a ∧ DicV K w H a es ∧ i = .ref b ∧ KeyT K H k i ∧ es.1.length < sizeLine ∧ ∀ u ep, RelV v u → (es.1.map (·.1)).Nodup → Q (upd H a (dictHO w a (storedH es.1 k b u, ep)))
theorem set_dict (hu : X.A.units + 65 < cLine) : PSet X (rPutK X.K X.w) := by
  intro pins s σ H o i v ov iv u Q I ro ri rv h
  obtain ⟨a, es, k, b, rfl, hd, rfl, hk, hl, q⟩ := h
  cases ro
  cases ri
  obtain ⟨b', e1, _, hkey⟩ := hk.at (u := .ref b) I rfl
  cases e1
  obtain ⟨h1, h2, h3, _⟩ := hd.at I
  refine wpAny_setItem_heap (hsz := h2) (room8 hu) hkey h3 fun h' hm hs => ?_
  obtain ⟨ep, ok⟩ := DicV.ok (H := upd H a (dictHO X.w a (storedH es.1 k b u, 0))) (P := X.prog) (w := X.w) h1 (Nat.le_trans storedH_len (by omega)) hm
  have ok' : ObjOk X.prog X.w (upd H a (dictHO X.w a (storedH es.1 k b u, ep))) h' a (dictHO X.w a (storedH es.1 k b u, ep)) := ok
  exact ⟨_, d_write I (by rw [hd.1]; exact True.intro) hs (let ⟨o, _, _, g, _⟩ := hm; ⟨o, g⟩) ok', q u ep rv (let ⟨_, _, _, _, _, _, _, _, nd⟩ := h3; nd)⟩
/-- {} -/
def tDNew (w : World) : TE := fun _ H Q => ∀ p, H p = none → Q (.ref p) (upd H p (dictHO w p ([], 0)))
theorem pe_dnew {pos : Pos} : PE X (.Dict [] [] pos) (tDNew X.w) := ⟨fun pins s σ H Q I h => by
  refine wpAny_Dict_empty ⟨.ref s.heap.objs.size, _, I.laid (a := s.heap.objs.size) (o := dictHO X.w s.heap.objs.size ([], 0)) (t' := s.toks) (fun _ _ q => Heap.get?_push_of_some _ q) (Nat.le_refl _) ?_, rfl, h _ (I.hok.fresh (Nat.le_refl _))⟩
  exact ⟨⟨beq_eq_false_iff_ne.mpr (Ne.symm (Nat.ne_of_lt I.big)), Nat.zero_le _, List.nodup_nil, _, Heap.get?_push_size _ rfl, ⟨rfl, rfl, rfl⟩, rfl⟩, ⟨_, Heap.get?_push_size _ rfl⟩, fun k1 k2 ⟨p1, p2, p3, o', q1, q2, q3⟩ st => ⟨p1, p2, p3, o', st _ q1, q2, q3⟩⟩⟩
/-- d.get(y, z) -/
def tDGetK (K : PySem.W.Frag) (w : World) (td ty tx : TE) : TE := fun σ H Q => td σ H fun x H1 => ∃ a, x = .ref a ∧ (∃ es, DicV K w H1 a es) ∧ ty σ H1 fun y H2 => tx σ H2 fun z H3 => ∃ es k, DicV K w H3 a es ∧ KeyT K H3 k y ∧ (∀ p v, atKey es.1 k = some p → RelV v p.2 → Q v H3) ∧ (∀ p, atKey es.1 k = some p → ∃ v, RelV v p.2) ∧ (atKey es.1 k = none → Q z H3)
theorem pe_dgetK {o e f : Expr} {apos cpos : Pos} {td ty tx : TE} (hu : X.A.units + 65 < cLine) (ho : PE X o td) (he : PE X e ty) (hf : PE X f tx) (m : M2 X o "get" apos e f cpos) : PE X (.Call (.Attribute o "get" apos) [e, f] [] cpos) (tDGetK X.K X.w td ty tx) := by
  refine ⟨fun pins s σ H Q I h => ?_⟩
  refine wpAny_Call_method m.base m.few m.line PySem.F.plainAttrs_dict PySem.F.slot_dict_get PySem.F.type_dict_get (thn (ho.run pins s σ H _ I h) fun u s1 ⟨x, H1, I1, rx, a, ex, ⟨es, hd⟩, q1⟩ => ?_)
  subst ex
  obtain rfl : u = Value.ref a := rx
  obtain ⟨_, _, g3, g4⟩ := hd.at I1
  refine ⟨g3.typeIs, fun b q => ?_, ?_⟩
  · cases q
    obtain ⟨ob, h1, h2, _⟩ := g4
    exact ⟨ob, h1, h2.2.1⟩
  rw [m.trees]
  refine Calls.callWith_builtin rfl (Calls.evalArgs_plain (Calls.spliced_cons (thn (he.run pins s1 σ H1 _ I1 q1) fun iv s2 ⟨y, H2, I2, ry, q2⟩ =>
    Calls.spliced_cons (thn (hf.run pins s2 σ H2 _ I2 q2) fun fv s3 ⟨z, H3, I3, rz, es, k, hd, hk, q3, q4, q5⟩ => Calls.spliced_nil ?_))))
  obtain ⟨b, rfl, rfl, hkey⟩ := hk.at I3 ry
  obtain ⟨h1, h2, h3, _⟩ := hd.at I3
  refine call_meetsIn PySem.F.slot_dict_get h3.typeIs PySem.F.entry_dict_get (PySem.F.args_dict_get_3 _ _ _) (meetsH_dict_get_default (nestedKind X.prog X.w) a b h1 fv) ⟨room8 hu, k, es.1, hkey, h3, ?_⟩
  cases l : atKey es.1 k with
  | some p =>
    obtain ⟨v, rv⟩ := q4 p l
    exact ⟨v, H3, I3.tok _, rv, q3 p v l rv⟩
  | none => exact ⟨z, H3, I3.tok _, rz, q5 l⟩
/-- len(d) -/
def rLenK (K : PySem.W.Frag) (w : World) : List V → Hp → VK → Prop := fun xs H Q => ∃ a es, xs = [.ref a] ∧ DicV K w H a es ∧ Q (.int es.1.length) H
theorem call_lenK : CallR X (.builtin "len") (rLenK X.K X.w) := by
  intro pins s σ H xs us Q I r h
  obtain ⟨a, es, rfl, hd, q⟩ := h
  obtain ⟨u, rfl, ru⟩ := vals1 r
  obtain rfl : u = Value.ref a := ru
  obtain ⟨h1, h2, h3, _⟩ := hd.at I
  have hm : s.heap.DictKeyed (nestedKind X.prog X.w) a (pairsH es.1) := ⟨_, h3, rfl⟩
  refine PyProof.Rows.call_len_slot (n := (pairsH es.1).length) hm.typeIs PySem.F.slot_dict_len (fun Q' hq => len_keyed h1 hm hq) (by omega) (by rw [pairsH_length]; rw [sizeLine_eq] at h2; omega) ?_
  rw [pairsH_length]
  exact ⟨.int _, H, I.tok _, ⟨_, rfl⟩, q⟩
end
end L2.DL

set_option Elab.async false
set_option linter.all false
set_option maxRecDepth 100000
/-! DY: dicts over trees. -/
namespace L2.DL
open PySem PySem.Spec PyProof.Rows
/-- a dict's keys and values, own or frozen -/
def dctOf (L : Sto) : D → Option (List D × List D)
  | .dct ks vs => some (ks, vs)
  | .ob n => match L[n]? with
    | some (.dct ks vs) => some (ks, vs)
    | _ => none
  | _ => none
section
variable {K : PySem.W.Frag} {w : World} {G : Gam} {H : Hp} {W : Wd} {L : Sto}
theorem dct_is (sr : SR K w G H W L) {v : V} {d : D} {ks vs : List D} (is : Is K w H W v d) (e : dctOf L d = some (ks, vs)) : ∃ a es, v = .ref a ∧ DicV K w H a es ∧ IsE K w H W es.1 ks vs := by
  cases d with
  | dct ks' vs' =>
    simp only [dctOf, Option.some.injEq, Prod.mk.injEq] at e
    obtain ⟨rfl, rfl⟩ := e
    cases is with
    | dct f h hs => exact ⟨_, _, rfl, ⟨h, hs.keyT⟩, hs⟩
  | ob n =>
    simp only [dctOf] at e
    split at e
    · rename_i ks' vs' hL
      simp only [Option.some.injEq, Prod.mk.injEq] at e
      obtain ⟨rfl, rfl⟩ := e
      cases is with
      | ob hm =>
        obtain ⟨es, h1, h2⟩ := sr.ok _ _ _ hm hL
        exact ⟨_, es, rfl, ⟨h1, h2.keyT⟩, h2⟩
    · cases e
  | _ => simp [dctOf] at e
/-- a key: a tuple of keys -/
def keyT (d : D) (k : NestedKey) : Prop := skOf d = some k ∧ k.depth ≤ 8 ∧ ∃ xs, d = .tup xs
theorem keyT_is {v : V} {d : D} {k : NestedKey} (is : Is K w H W v d) (h : keyT d k) : KeyT K H k v := by
  obtain ⟨h1, h2, xs, rfl⟩ := h
  refine ⟨is.key h1, h2, ?_⟩
  cases is with
  | tup _ _ => exact ⟨_, rfl⟩
end
/-- d[k] of a dict -/
def oDix : O2 := fun x y L R => ∃ ks vs k d, dctOf L x = some (ks, vs) ∧ keyT y k ∧ lookD ks vs k = some d ∧ R d L
theorem od_dix {K w} : OpD K w oDix (rDix K w) := by
  intro G W H L x y v u R Q sr ix iy h k
  obtain ⟨ks, vs, key, d, e, hk, hl, r⟩ := h
  obtain ⟨a, es, rfl, hd, hes⟩ := dct_is sr ix e
  rcases IsE.look key hes with ⟨e1, _⟩ | ⟨d', p, z, e1, e2, e3, e4⟩
  · rw [hl] at e1; cases e1
  · rw [hl] at e1; cases e1
    exact ⟨a, es, key, p, z, rfl, hd, keyT_is iy hk, e2, e3, k.here sr e4 r⟩
def oDin (neg : Bool) : O2 := fun x y L R => ∃ ks vs k, dctOf L y = some (ks, vs) ∧ keyT x k ∧ R (.bl (if neg then !(lookD ks vs k).isSome else (lookD ks vs k).isSome)) L
theorem od_din {K w} (neg : Bool) : OpD K w (oDin neg) (rInK K w neg) := by
  intro G W H L x y v u R Q sr ix iy h k
  obtain ⟨ks, vs, key, e, hk, r⟩ := h
  obtain ⟨a, es, rfl, hd, hes⟩ := dct_is sr iy e
  refine ⟨a, es, key, rfl, hd, keyT_is ix hk, ?_⟩
  have q : (atKey es.1 key).isSome = (lookD ks vs key).isSome := by
    rcases IsE.look key hes with ⟨e1, e2⟩ | ⟨d', p, z, e1, e2, _⟩ <;> rw [e1, e2] <;> rfl
  rw [q]
  exact k.here sr (.bl _) r
def sPut : O3 := fun x i d L Q => ∃ n ks vs k, x = .ob n ∧ L[n]? = some (.dct ks vs) ∧ keyT i k ∧ ks.length < sizeLine ∧ Q (L.set n (.dct (putD ks vs k i d).1 (putD ks vs k i d).2))
theorem sd_put {K w} : SetD K w sPut (rPutK K w) := by
  intro G W H L x i d xv iv v R Q sr ix ii iv' h k
  obtain ⟨n, ks, vs, key, rfl, e, hk, hl, r⟩ := h
  cases ix with
  | ob hm =>
    rename_i a
    obtain ⟨es, h1, h2⟩ := sr.ok _ _ _ hm e
    obtain ⟨k1, k2, xs, rfl⟩ := hk
    cases ii with
    | tup sq hi =>
      rename_i b ys
      have ii' : Is K w H W (.ref b) (.tup xs) := .tup sq hi
      refine ⟨_, es, key, b, rfl, ⟨h1, h2.keyT⟩, rfl, keyT_is ii' ⟨k1, k2, xs, rfl⟩, by rw [h2.length.1]; exact hl, fun u ep ru nd => ?_⟩
      have ex := Ext.set (o := .dct (putD ks vs key (.tup xs) d).1 (putD ks vs key (.tup xs) d).2) (ho := dictHO w a (storedH es.1 key b u, ep)) (H := H) hm e (by intro z; cases z)
      exact k _ W _ ex (sr.set hm e (by intro z; cases z) ⟨(_, ep), upd_same, (IsE.put k1 k2 ii' ru iv' nd h2).ext sr ex⟩) r
section
variable {X : Cx} {G : Gam} {a b c e : Expr} {ta tb tc : tE} {pos : Pos} {es : List Expr} {tt : tA} {p : Pos}
theorem de_dix (hu : X.A.units + 65 < cLine) (ha : DE X G a ta) (hb : DE X G b tb) (hs : PlainIx b := by exact fun _ _ => rfl) : DE X G (.Subscript a b pos) (tB2 oDix ta tb) :=
  ⟨PE.imp (pe_ix (ix_dict hu) ha.pe hb.pe hs) fun _ _ _ h => two_imp od_dix h⟩
theorem de_din (hu : X.A.units + 65 < cLine) (ha : DE X G a ta) (hb : DE X G b tb) (hm : behindInMarks .In b = false := by with_unfolding_all rfl) : DE X G (.Compare a [.In] [b] pos) (tB2 (oDin false) ta tb) := de_cmp (op_inK hu) (od_din false) ha hb hm
theorem de_dnotin (hu : X.A.units + 65 < cLine) (ha : DE X G a ta) (hb : DE X G b tb) (hm : behindInMarks .NotIn b = false := by with_unfolding_all rfl) : DE X G (.Compare a [.NotIn] [b] pos) (tB2 (oDin true) ta tb) := de_cmp (op_notInK hu) (od_din true) ha hb hm
theorem dt_din (hu : X.A.units + 65 < cLine) (ha : DE X G a ta) (hb : DE X G b tb) (hm : behindInMarks .In b = false := by with_unfolding_all rfl) : DT X G (.Compare a [.In] [b] pos) (tTB (tB2 (oDin false) ta tb)) := dt_cmp (op_inK hu) (od_din false) ha hb hm
theorem dt_dnotin (hu : X.A.units + 65 < cLine) (ha : DE X G a ta) (hb : DE X G b tb) (hm : behindInMarks .NotIn b = false := by with_unfolding_all rfl) : DT X G (.Compare a [.NotIn] [b] pos) (tTB (tB2 (oDin true) ta tb)) := dt_cmp (op_notInK hu) (od_din true) ha hb hm
theorem dg_put {ti : tE} {i : Expr} (hu : X.A.units + 65 < cLine) (ha : DE X G a ta) (hi : DE X G i ti)
    (hz : ∀ v, assign (.Subscript a i pos) X.env v = (do
      let ov ← holding [v] (eval a X.env)
      let iv ← holding [v, ov] (eval i X.env)
      standAt pos
      holding [v, ov, iv] (setItem ov iv v)
      release [v, ov, iv] []) := by intro _; rfl) : DG X G (.Subscript a i pos) (gSb ta ti sPut) := dg_sub (set_dict hu) sd_put ha hi hz
/-- {} of one's own -/
def tDicO : tE := fun _ L R => R (.ob L.length) (L ++ [.dct [] []])
theorem de_dicO : DE X G (.Dict [] [] pos) tDicO :=
  ⟨PE.imp pe_dnew fun σ H Q ⟨W, ρ, L, R, es, sr, h, k⟩ => fun p hp =>
    k _ _ _ _ _ (Ext.newO sr hp) (sr.newO (o := .dct [] []) hp ⟨([], 0), upd_same, .nil⟩) (.ob (by show (W.mu ++ [p])[L.length]? = _; rw [← sr.len, List.getElem?_concat_length])) h⟩
/-- d.get(k, x) -/
def tGetK (td tk tx : tE) : tE := fun ρ L R => td ρ L fun x L1 => (∃ p, dctOf L1 x = some p) ∧ tk ρ L1 fun y L2 => tx ρ L2 fun z L3 => ∃ ks vs k, dctOf L3 x = some (ks, vs) ∧ keyT y k ∧ R ((lookD ks vs k).getD z) L3
theorem de_getK {td tk tx : tE} {o e f : Expr} {apos cpos : Pos} (hu : X.A.units + 65 < cLine) (ho : DE X G o td) (he : DE X G e tk) (hf : DE X G f tx) (m : M2 X o "get" apos e f cpos := by exact ⟨rfl, rfl, rfl, rfl⟩) : DE X G (.Call (.Attribute o "get" apos) [e, f] [] cpos) (tGetK td tk tx) :=
  ⟨PE.imp (pe_dgetK hu ho.pe he.pe hf.pe m) fun σ H Q ⟨W, ρ, L, R, es, sr, h, k⟩ => ⟨W, ρ, L, _, es, sr, h, fun x L1 W1 H1 v x1 sr1 is1 ⟨⟨⟨ks0, vs0⟩, e0⟩, h1⟩ => by
    obtain ⟨a, es0, rfl, hd0, _⟩ := dct_is sr1 is1 e0
    refine ⟨a, rfl, ⟨es0, hd0⟩, W1, ρ, L1, _, es.ext sr x1, sr1, h1, fun y L2 W2 H2 vy x2 sr2 is2 h2 => ⟨W2, ρ, L2, _, (es.ext sr x1).ext sr1 x2, sr2, h2, fun z L3 W3 H3 vz x3 sr3 is3 h3 => ?_⟩⟩
    obtain ⟨ks, vs, key, e3, hk, r⟩ := h3
    obtain ⟨a', es3, ea, hd3, hes⟩ := dct_is sr3 ((is1.ext sr1 x2).ext sr2 x3) e3
    cases ea
    have k3 := ((k.ext x1).ext x2).ext x3
    refine ⟨es3, key, hd3, keyT_is (is2.ext sr2 x3) hk, ?_⟩
    rcases IsE.look key hes with ⟨e1, e2⟩ | ⟨d', p, zv, e1, e2, e4, e5⟩
    · rw [e2]
      exact ⟨fun p v q => (nomatch q), fun p q => (nomatch q), fun _ => k3.here sr3 is3 (by rw [e1] at r; exact r)⟩
    · rw [e2]
      refine ⟨fun q v eq rv => ?_, fun q eq => ⟨zv, by cases eq; exact e4⟩, fun q => (nomatch q)⟩
      cases eq
      have ev : v = zv := RelV.inj rv e4
      subst ev
      exact k3.here sr3 e5 (by rw [e1] at r; exact r)⟩⟩
/-- len(d) -/
def cLenK : OA := fun xs L R => match xs with
  | [d] => ∃ ks vs, dctOf L d = some (ks, vs) ∧ R (.int ks.length) L
  | _ => False
theorem cb_lenK {K w} : CbD K w cLenK (rLenK K w) := by
  intro G W H L xs vs R Q sr is h k
  unfold cLenK at h
  split at h
  · obtain ⟨v, rfl, i⟩ := iss1 is
    obtain ⟨ks, vs, e, r⟩ := h
    obtain ⟨a, es, rfl, hd, hes⟩ := dct_is sr i e
    exact ⟨a, es, rfl, hd, k.here sr (.int _) (by rw [hes.length.1]; exact r)⟩
  · exact h.elim
theorem de_lenK (hm : X.mg "len" = none) (ha : DA X G (e :: es) tt) (hg : Gl X "len" := by rfl) (he : starEach (e :: es) X.env = (false, eval e X.env) :: starEach es X.env := by rfl) (hpl : (backTo pos (starEach es X.env)).any (·.1) = false := by rfl) :
    DE X G (.Call (.Name "len" p) (e :: es) [] pos) (tCa cLenK tt) := de_callB call_lenK cb_lenK hg hm PySem.boot_len ha (by decide) (by decide) he hpl
end
end L2.DL

set_option Elab.async false
set_option linter.all false
set_option maxRecDepth 100000
/-! DZ: walks of dicts: keys, items. -/
namespace L2.DL
open PySem PySem.Spec PyProof.Rows
/-- the keys of the dict at a -/
def Itk3 (K : PySem.W.Frag) (w : World) (a : Addr) (es : List DE3 × Nat) : It :=
  ⟨fun i H => DicV K w H a es ∧ i < es.1.length, fun i H x H' => H' = H ∧ ∃ e, es.1[i]? = some e ∧ x = .ref e.2.1, fun i H => DicV K w H a es ∧ es.1.length ≤ i⟩
/-- its items: each a new tuple -/
def Iti3 (K : PySem.W.Frag) (w : World) (a : Addr) (es : List DE3 × Nat) : It :=
  ⟨fun i H => (DicV K w H a es ∧ ∀ e ∈ es.1, ∃ v, RelV v e.2.2) ∧ i < es.1.length, fun i H x H' => ∃ T e v, es.1[i]? = some e ∧ RelV v e.2.2 ∧ x = .ref T ∧ H T = none ∧ H' = upd H T (.tup [.ref e.2.1, v]), fun i H => DicV K w H a es ∧ es.1.length ≤ i⟩
theorem ent_size {w : World} {es : List DE3} : (es.map (ent3 w)).toArray.size = es.length := by simp
section
variable {P : Program} {w : World} {K : PySem.W.Frag} {tg : Expr} {a : Addr} {es : List DE3 × Nat}
theorem turn_keys3 (it : Addr) : Turn P w K tg (Itk3 K w a es) [it] it (fun i h => h.IsKeyIter it a i es.1.length es.2) where
  mem := by simp
  obj := fun i h st b hb => by
    have e : b = it := by simpa using hb
    subst e
    obtain ⟨oi, e, c, dd⟩ := st
    exact ⟨oi, e, fun v z => by rw [dd] at z; cases z⟩
  keep := fun i h h' st k => st.at fun oi e => k it (by simp) oi e
  item := by
    intro X hP hw hK hc i pins s σ H E I hf st hg
    subst hP hw hK
    obtain ⟨hd, hi⟩ := hg
    obtain ⟨f0, f1, f2, f3, f4, f5⟩ := hf it (by simp)
    obtain ⟨h1, h2, h3, hm⟩ := hd.at I
    have st0 : s.heap.IsKeyIter it a i (es.1.map (ent3 X.w)).toArray.size es.2 := by rw [ent_size]; exact st
    refine wpAny_pyNext_keys_item_raw st0 hm (by rw [ent_size]; exact hi) fun h' st' sb => ?_
    have I1 : Inv X pins σ H { s with heap := h' } := I.turned (t' := s.toks) (fun b ob hb e => (sb.2 b hb).trans e) f0 f1 f3 f4 f5
    obtain ⟨oi, e, c, dd⟩ := id st'
    refine ⟨_, rfl, go_of (s := { s with heap := h' }) e c dd (by decide) ⟨.ref (es.1[i]).2.1, H, I1, ?_, ⟨rfl, es.1[i], List.getElem?_eq_getElem hi, rfl⟩, ?_, fun b hb => (hf b hb).1⟩⟩
    · show RelV (.ref _) _
      simp [ent3]
      rfl
    · rw [ent_size] at st'; exact st'
  done := by
    intro X hP hw hK hc i pins s σ H E I hf st hg
    subst hP hw hK
    obtain ⟨hd, hi⟩ := hg
    obtain ⟨f0, f1, f2, f3, f4, f5⟩ := hf it (by simp)
    obtain ⟨h1, h2, h3, hm⟩ := hd.at I
    have st0 : s.heap.IsKeyIter it a i (es.1.map (ent3 X.w)).toArray.size es.2 := by rw [ent_size]; exact st
    exact wpAny_pyNext_keys_end_raw (I.ok.hd hc) st0 hm (by rw [ent_size]; exact hi) fun h' eb => ⟨rfl, I.turned (t' := s.toks) (fun b ob hb e => eb b ob hb e) f0 f1 f3 f4 f5⟩
  self := fun A i s Q E st h => wpAny_pyIter_keyiter st h
theorem turn_items3 {elts : List Expr} {kk : Nat} {tpos : Pos} (it : Addr) : Turn P w K (.Tuple elts kk tpos) (Iti3 K w a es) [it] it (fun i h => ∃ ok ov, IsItemIter h it a i es.1.length es.2 ok ov) where
  mem := by simp
  obj := fun i h st b hb => by
    have e : b = it := by simpa using hb
    subst e
    obtain ⟨ok, ov, e⟩ := st
    exact ⟨_, e, fun v z => nomatch z⟩
  keep := fun i h h' st k => let ⟨ok, ov, e⟩ := st; ⟨ok, ov, k it (by simp) _ e⟩
  item := by
    intro X hP hw hK hc i pins s σ H E I hf st hg
    subst hP hw hK
    obtain ⟨⟨hd, hv⟩, hi⟩ := hg
    obtain ⟨h1, h2, h3, hm⟩ := hd.at I
    obtain ⟨v, ru⟩ := hv _ (List.getElem_mem hi)
    obtain ⟨ok, ov, he⟩ := st
    have he0 : IsItemIter s.heap it a i (es.1.map (ent3 X.w)).toArray.size es.2 ok ov := by rw [ent_size]; exact he
    have hlt : it < s.heap.objs.size := Heap.lt_size he
    have hi' : i < (es.1.map (ent3 X.w)).toArray.size := by rw [ent_size]; exact hi
    have ek : (es.1.map (ent3 X.w)).toArray[i].key = .ref (es.1[i]).2.1 := by simp [ent3]
    have ev : (es.1.map (ent3 X.w)).toArray[i].val = (es.1[i]).2.2 := by simp [ent3]
    refine wpAny_pyNext_items_item_raw he0 hm hi' fun h' ho hT hz hk => ?_
    rw [ek, ev] at ho hT
    refine ⟨_, rfl, wpAny_letOwnedTupleGo_items (s := { s with heap := h' }) ho fun h'' he' sb => ?_⟩
    have hT2 : h''.get? s.heap.objs.size = some { cls := .type "tuple", data := .seq #[.ref (es.1[i]).2.1, (es.1[i]).2.2] } := (sb.2 _ (Nat.ne_of_gt hlt)).trans hT
    have new : ObjOk X.prog X.w (upd H s.heap.objs.size (.tup [.ref (es.1[i]).2.1, v])) h'' s.heap.objs.size (.tup [.ref (es.1[i]).2.1, v]) :=
      ⟨by show 2 ≤ sizeLine; decide, [.ref (es.1[i]).2.1, (es.1[i]).2.2], .cons rfl (.cons ru .nil), ⟨_, hT2, rfl, _, rfl⟩⟩
    have I1 : Inv X pins σ (upd H s.heap.objs.size (.tup [.ref (es.1[i]).2.1, v])) { s with heap := h'' } :=
      I.turnedNew (t' := s.toks) (ch := [it]) (fun b ob hb e => (sb.2 b (by simpa using hb)).trans (hk b ob (by simpa using hb) e)) hf (Nat.le_refl _) new
    refine ⟨.ref s.heap.objs.size, _, I1, rfl, ⟨_, es.1[i], v, List.getElem?_eq_getElem hi, ru, rfl, I.hok.fresh (Nat.le_refl _), rfl⟩, ⟨.ref (es.1[i]).2.1, (es.1[i]).2.2, ?_⟩, fun b hb => ?_⟩
    · rw [ent_size] at he'; exact he'
    · have e : b = it := by simpa using hb
      rw [e, upd_ne (Nat.ne_of_lt hlt)]
      exact (hf it (by simp)).1
  done := by
    intro X hP hw hK hc i pins s σ H E I hf st hg
    subst hP hw hK
    obtain ⟨hd, hi⟩ := hg
    obtain ⟨f0, f1, f2, f3, f4, f5⟩ := hf it (by simp)
    obtain ⟨h1, h2, h3, hm⟩ := hd.at I
    obtain ⟨ok, ov, he⟩ := st
    have he0 : IsItemIter s.heap it a i (es.1.map (ent3 X.w)).toArray.size es.2 ok ov := by rw [ent_size]; exact he
    exact wpAny_pyNext_items_end_raw (I.ok.hd hc) he0 hm (by rw [ent_size]; exact hi) fun h' eb => ⟨rfl, I.turned (t' := s.toks) (fun b ob hb e => eb b ob hb e) f0 f1 f3 f4 f5⟩
  self := fun A i s Q E st h => let ⟨_, _, e⟩ := st; PySem.W.kcp_self e h
end
section
variable {X : Cx} {G : Gam} {tg e : Expr} {td : TE} {te : tE}
def iKeys3 (K : PySem.W.Frag) (w : World) (td : TE) : TI := fun σ H R => td σ H fun x H1 => ∃ a es, x = .ref a ∧ DicV K w H1 a es ∧ R (Itk3 K w a es) H1
theorem pi_keys3 (he : PE X e td) : PI X tg e (iKeys3 X.K X.w td) := by
  refine ⟨fun pins s σ H R I h => ?_⟩
  refine thn (he.run pins s σ H _ I h) fun u s1 ⟨x, H1, I1, rx, a, es, ex, hd, q⟩ => ?_
  subst ex
  obtain rfl : u = Value.ref a := rx
  obtain ⟨h1, h2, h3, hm⟩ := hd.at I1
  refine wpAny_pyIter_dict_raw h1 hm (pi_one (tk := s1.toks) I1 _ (turn_keys3 _) ⟨_, Heap.get?_push_size _ rfl, rfl, ?_⟩ q)
  rw [ent_size] <;> rfl
def iItems3 (K : PySem.W.Frag) (w : World) (td : TE) : TI := fun σ H R => td σ H fun x H1 => ∃ a es, x = .ref a ∧ DicV K w H1 a es ∧ R (Iti3 K w a es) H1
theorem pi_items3 {elts : List Expr} {kk : Nat} {tpos apos cpos : Pos} (he : PE X e td) (hbase : attributeBase e "items" X.env (eval e X.env) = eval e X.env := by rfl) (hline : (apos.endLine == cpos.line) = true := by rfl) :
    PI X (.Tuple elts kk tpos) (.Call (.Attribute e "items" apos) [] [] cpos) (iItems3 X.K X.w td) := by
  refine ⟨fun pins s σ H R I h => ?_⟩
  refine wpAny_Call_method (T := "dict") (id := "dict.items") hbase rfl hline F.plainAttrs_dict F.slot_dict_items F.type_dict_items (thn (he.run pins s σ H _ I h) fun u s1 ⟨x, H1, I1, rx, d, es, ex, hd, q⟩ => ?_)
  subst ex
  obtain rfl : u = Value.ref d := rx
  obtain ⟨h1, h2, h3, hm⟩ := hd.at I1
  refine ⟨h3.typeIs, fun b q => ?_, ?_⟩
  · cases q
    obtain ⟨ob, g1, g2, _⟩ := hm
    exact ⟨ob, g1, g2.2.1⟩
  have I2 : Inv X pins σ H1 { s1 with heap := s1.heap.push { cls := .type "dict_items", data := .fields #[.ref d] } } := I1.kept (t' := s1.toks) fun b ob q => Heap.get?_push_of_some _ q
  have hm2 : (s1.heap.push { cls := .type "dict_items", data := .fields #[.ref d] }).DictRaw d (es.1.map (ent3 X.w)).toArray es.2 := hm.at fun o e => Heap.get?_push_of_some _ e
  have fin : wpAny (model X.prog X.w) X.A (pyIter (.ref s1.heap.objs.size)) (PIE X pins σ (.Tuple elts kk tpos) R) X.xe { s1 with heap := s1.heap.push { cls := .type "dict_items", data := .fields #[.ref d] } } := by
    refine wpAny_pyIter_items_raw (d := d) ⟨_, Heap.get?_push_size _ rfl, rfl, rfl⟩ hm2 (pi_one (tk := s1.toks) I2 _ (turn_items3 _) ⟨.none, .none, ?_⟩ q)
    rw [ent_size]
    exact Heap.get?_push_size _ rfl
  show wpAny _ _ (callWith cpos (.builtin "dict.items") [.ref d] [] []) _ X.xe s1
  exact method_meetsIn F.slot_dict_items F.entry_dict_items rfl (PySem.evalArgs_none ⟨rfl, h3.typeIs, F.args_dict_items_1 _, _, meets_dict_items_raw d h1, ⟨⟨_, _, hm⟩, fin⟩⟩)
theorem IsE.get {K w H W} : ∀ {es : List DE3} {ks vs : List D} {i : Nat} {d : D}, IsE K w H W es ks vs → ks[i]? = some d → ∃ e v d2, es[i]? = some e ∧ vs[i]? = some d2 ∧ Is K w H W (.ref e.2.1) d ∧ RelV v e.2.2 ∧ Is K w H W v d2
  | _, _, _, _, _, .nil, e => by simp at e
  | _, _, _, 0, _, .cons a b c d f g, e => by simp at e; subst e; exact ⟨_, _, _, rfl, rfl, c, d, f⟩
  | _, _, _, i + 1, _, .cons a b c d f g, e => by
    obtain ⟨x, v, d2, h1, h2, h3⟩ := IsE.get (i := i) g (by simpa using e)
    exact ⟨x, v, d2, by simpa using h1, by simpa using h2, h3⟩
theorem IsE.vals {K w H W} : ∀ {es : List DE3} {ks vs : List D}, IsE K w H W es ks vs → ∀ e ∈ es, ∃ v, RelV v e.2.2
  | _, _, _, .nil, _, h => nomatch h
  | _, _, _, .cons a b c d f g, x, h => by
    rcases List.mem_cons.mp h with rfl | h
    · exact ⟨_, d⟩
    · exact IsE.vals g x h
theorem itD_keys {K w G} {W : Wd} {L : Sto} {H : Hp} {a : Addr} {es : List DE3 × Nat} {ks vs : List D} (sr : SR K w G H W L) (f : W.fz a) (h : H a = some (dictHO w a es)) (is : IsE K w H W es.1 ks vs) : ItD K w G W L H (Itk3 K w a es) ks := by
  have keep : ∀ W' L' H', Ext W L H W' L' H' → DicV K w H' a es := fun W' L' H' x => ⟨x.keep _ _ h (sr.notFz f), (is.ext sr x).keyT⟩
  refine ⟨fun W' L' H' x _ => ⟨keep _ _ _ x, by rw [is.length.1]; exact Nat.le_refl _⟩, fun i d W' L' H' e x _ => ⟨keep _ _ _ x, by rw [is.length.1]; exact (List.getElem?_eq_some_iff.mp e).1⟩, fun i d W' L' H' v H2 e x sr' y => ?_⟩
  obtain ⟨z, u, d2, h1, _, h3, _⟩ := is.get e
  obtain ⟨e1, z', h2, rfl⟩ := y
  rw [h1] at h2; cases h2
  subst e1
  exact ⟨W', Ext.refl _ _ _, sr', h3.ext sr x⟩
theorem itD_items {K w G} {W : Wd} {L : Sto} {H : Hp} {a : Addr} {es : List DE3 × Nat} {ks vs : List D} (sr : SR K w G H W L) (f : W.fz a) (h : H a = some (dictHO w a es)) (is : IsE K w H W es.1 ks vs) : ItD K w G W L H (Iti3 K w a es) (zipD ks vs) := by
  have keep : ∀ W' L' H', Ext W L H W' L' H' → DicV K w H' a es := fun W' L' H' x => ⟨x.keep _ _ h (sr.notFz f), (is.ext sr x).keyT⟩
  have hl : (zipD ks vs).length = es.1.length := by unfold zipD; rw [List.length_zipWith, ← is.length.1, ← is.length.2]; simp
  refine ⟨fun W' L' H' x _ => ⟨keep _ _ _ x, by rw [hl]; exact Nat.le_refl _⟩, fun i d W' L' H' e x _ => ⟨⟨keep _ _ _ x, is.vals⟩, by rw [← hl]; exact (List.getElem?_eq_some_iff.mp e).1⟩, fun i d W' L' H' v H2 e x sr' y => ?_⟩
  obtain ⟨p, q, e1, e2, rfl⟩ := zipD_get e
  obtain ⟨z, u, d2, h1, h2, h3, h4, h5⟩ := is.get e1
  rw [e2] at h2; cases h2
  obtain ⟨T, z', u', g1, g2, rfl, hT, rfl⟩ := y
  rw [h1] at g1; cases g1
  have eu : u' = u := RelV.inj g2 h4
  subst eu
  exact ⟨W', Ext.new hT, sr'.new hT, .tup (SqT.of upd_same) (.cons ((h3.ext sr x).ext sr' (Ext.new hT)) (.cons ((h5.ext sr x).ext sr' (Ext.new hT)) .nil))⟩
/-- a frozen dict is walked -/
def iDk (te : tE) : tI := fun ρ L R => te ρ L fun d L1 => match d with
  | .dct ks _ => R ks L1
  | _ => False
def iDi (te : tE) : tI := fun ρ L R => te ρ L fun d L1 => match d with
  | .dct ks vs => R (zipD ks vs) L1
  | _ => False
theorem di_dict (he : DE X G e te) : DI X G tg e (iDk te) :=
  ⟨PI.imp (pi_keys3 he.pe) fun σ H R ⟨W, ρ, L, RR, es, sr, h, k⟩ => ⟨W, ρ, L, _, es, sr, h, fun d L1 W1 H1 v x1 sr1 is1 h1 => by
    cases d with
    | dct ks vs =>
      cases is1 with
      | dct f h2 hs => exact ⟨_, _, rfl, ⟨h2, hs.keyT⟩, k ks L1 W1 H1 _ x1 sr1 (itD_keys sr1 f h2 hs) h1⟩
    | _ => exact h1.elim⟩⟩
theorem di_items {elts : List Expr} {kk : Nat} {tpos apos cpos : Pos} (he : DE X G e te) (hbase : attributeBase e "items" X.env (eval e X.env) = eval e X.env := by rfl) (hline : (apos.endLine == cpos.line) = true := by rfl) :
    DI X G (.Tuple elts kk tpos) (.Call (.Attribute e "items" apos) [] [] cpos) (iDi te) :=
  ⟨PI.imp (pi_items3 he.pe hbase hline) fun σ H R ⟨W, ρ, L, RR, es, sr, h, k⟩ => ⟨W, ρ, L, _, es, sr, h, fun d L1 W1 H1 v x1 sr1 is1 h1 => by
    cases d with
    | dct ks vs =>
      cases is1 with
      | dct f h2 hs => exact ⟨_, _, rfl, ⟨h2, hs.keyT⟩, k _ L1 W1 H1 _ x1 sr1 (itD_items sr1 f h2 hs) h1⟩
    | _ => exact h1.elim⟩⟩
end
end L2.DL

set_option Elab.async false
set_option linter.all false
set_option maxRecDepth 100000
/-! EB: {k: v}; a call that looks at own dicts. -/
namespace L2.DL
open PySem PySem.Spec PyProof.Rows
section
variable {K : PySem.W.Frag} {w : World} {G : Gam} {H H' H0 : Hp} {W W' W0 : Wd} {L L' L0 : Sto} {p : Addr} {ho ho' : HO} {o : O}
/-- p stands apart: tracked, neither own nor frozen -/
structure Apt (W : Wd) (L : Sto) (H : Hp) (p : Addr) (ho : HO) : Prop where
  at_ : H p = some ho
  nfz : ¬ W.fz p
  nlive : ∀ n, ¬ Live W L n p
theorem Apt.ext (h : Apt W L H p ho) (x : Ext W L H W' L' H') : Apt W' L' H' p ho where
  at_ := x.keep _ _ h.at_ h.nlive
  nfz := fun f => by
    rcases x.fzn p f with f | ⟨m, l⟩ | e
    · exact h.nfz f
    · exact h.nlive m l
    · rw [h.at_] at e; cases e
  nlive := fun n l => by
    rcases x.live n p l with ⟨m, l⟩ | e
    · exact h.nlive m l
    · rw [h.at_] at e; cases e
theorem Apt.new (r : SR K w G H W L) (hp : H p = none) : Apt W L (upd H p ho) p ho where
  at_ := upd_same
  nfz := fun f => by obtain ⟨o, e⟩ := r.fzt p f; rw [hp] at e; cases e
  nlive := fun n l => by obtain ⟨o, e⟩ := r.there l; rw [hp] at e; cases e
theorem live_moreA (r : SR K w G H W L) {n : Nat} {a : Addr} (l : Live (W.more p) (L ++ [o]) n a) : Live W L n a ∨ (n = L.length ∧ a = p) := live_more r l
/-- p becomes one's own -/
theorem Ext.adopt (x : Ext W0 L0 H0 W L H) (r : SR K w G H W L) (hp : H0 p = none) : Ext W0 L0 H0 (W.more p) (L ++ [o]) (upd H p ho') where
  pre := by
    obtain ⟨t, e⟩ := x.pre
    exact ⟨t ++ [p], by show W.mu ++ [p] = _; rw [e, List.append_assoc]⟩
  fz := x.fz
  keep := fun a u h n => by
    rw [upd_ne (ne_of_none h hp)]
    exact x.keep a u h n
  live := fun n a l => by
    rcases live_more r l with l | ⟨_, e⟩
    · exact x.live n a l
    · rw [e]; exact .inr hp
  fzn := x.fzn
theorem SqT.aptU (h : Apt W L H p ho) (nt : ∀ xs, ho ≠ .tup xs) (nf : ∀ u v, ho ≠ .frz u v) {a : Addr} {xs : List V} (s : SqT K H a xs) : SqT K (upd H p ho') a xs := by
  rcases s with (s | ⟨o, s⟩) | s
  · exact .inl (.inl (by rw [upd_ne (ne_of s h.at_ (Ne.symm (nt _)))]; exact s))
  · exact .inl (.inr ⟨o, by rw [upd_ne (ne_of s h.at_ (Ne.symm (nf _ _)))]; exact s⟩)
  · exact .inr s
mutual
theorem Is.aptU (h : Apt W L H p ho) (nt : ∀ xs, ho ≠ .tup xs) (nf : ∀ u v, ho ≠ .frz u v) : ∀ {v : V} {d : D}, Is K w H W v d → Is K w (upd H p ho') W v d
  | _, _, .non => .non
  | _, _, .bl b => .bl b
  | _, _, .int i => .int i
  | _, _, .str s => .str s
  | _, _, .tup s hs => .tup (SqT.aptU h nt nf s) (Iss.aptU h nt nf hs)
  | _, _, .lst (a := a) f s hs => .lst f (by
      have ne : a ≠ p := fun e => h.nfz (e ▸ f)
      rcases s with s | ⟨o, s⟩
      · exact .inl (by rw [upd_ne ne]; exact s)
      · exact .inr ⟨o, by rw [upd_ne ne]; exact s⟩) (Iss.aptU h nt nf hs)
  | _, _, .lstK s hs => .lstK s (Iss.aptU h nt nf hs)
  | _, _, .dct (a := a) f s hs => .dct f (by
      have ne : a ≠ p := fun e => h.nfz (e ▸ f)
      rw [upd_ne ne]; exact s) (IsE.aptU h nt nf hs)
  | _, _, .ob s => .ob s
  | _, _, .adr a => .adr a
  | _, _, .ty n => .ty n
theorem Iss.aptU (h : Apt W L H p ho) (nt : ∀ xs, ho ≠ .tup xs) (nf : ∀ u v, ho ≠ .frz u v) : ∀ {vs : List V} {ds : List D}, Iss K w H W vs ds → Iss K w (upd H p ho') W vs ds
  | _, _, .nil => .nil
  | _, _, .cons a t => .cons (Is.aptU h nt nf a) (Iss.aptU h nt nf t)
theorem IsE.aptU (h : Apt W L H p ho) (nt : ∀ xs, ho ≠ .tup xs) (nf : ∀ u v, ho ≠ .frz u v) : ∀ {es : List DE3} {ks vs : List D}, IsE K w H W es ks vs → IsE K w (upd H p ho') W es ks vs
  | _, _, _, .nil => .nil
  | _, _, _, .cons a b c d e g => .cons a b (Is.aptU h nt nf c) d (Is.aptU h nt nf e) (IsE.aptU h nt nf g)
end
theorem IsF.aptU (h : Apt W L H p ho) (nt : ∀ xs, ho ≠ .tup xs) (nf : ∀ u v, ho ≠ .frz u v) : ∀ {vs : List (Str × V)} {ds : List (Str × D)}, IsF K w H W vs ds → IsF K w (upd H p ho') W vs ds
  | _, _, .nil => .nil
  | _, _, .cons a t => .cons (Is.aptU h nt nf a) (IsF.aptU h nt nf t)
theorem Ext0.more : Ext0 W L H (W.more p) H := ⟨⟨[p], rfl⟩, fun _ f => f, fun _ _ e _ => e⟩
theorem IsO.aptM (r : SR K w G H W L) (h : Apt W L H p ho) (nt : ∀ xs, ho ≠ .tup xs) (nf : ∀ u v, ho ≠ .frz u v) {a : Addr} {u : O} (ne : a ≠ p) (x : IsO K w H W a u) : IsO K w (upd H p ho') (W.more p) a u := by
  have up : ∀ {v : V} {d : D}, Is K w H W v d → Is K w (upd H p ho') (W.more p) v d := fun i => (i.aptU h nt nf).ext0 (L := L) (G := .none) (by
    refine ⟨r.len, r.inj, r.nfz, fun b f => ?_, fun n b q e1 e2 => ?_, trivial⟩
    · obtain ⟨z, e⟩ := r.fzt b f
      exact ⟨z, by rw [upd_ne (show b ≠ p from fun z => h.nfz (z ▸ f))]; exact e⟩
    · have y := r.ok n b q e1 e2
      by_cases dq : q = .dead
      · rw [dq]; trivial
      · have nb : b ≠ p := fun z => h.nlive n (z ▸ ⟨e1, q, e2, dq⟩)
        cases q with
        | lst ds => obtain ⟨xs, a1, a2⟩ := y; exact ⟨xs, by rw [upd_ne nb]; exact a1, a2.aptU h nt nf⟩
        | dct ks vs => obtain ⟨es, a1, a2⟩ := y; exact ⟨es, by rw [upd_ne nb]; exact a1, a2.aptU h nt nf⟩
        | ins C fs => obtain ⟨dx, vs, a1, a2⟩ := y; exact ⟨dx, vs, by rw [upd_ne nb]; exact a1, a2.aptU h nt nf⟩
        | dead => trivial) Ext0.more
  have sr' : SR K w .none (upd H p ho') W L := by
    refine ⟨r.len, r.inj, r.nfz, fun b f => ?_, fun n b q e1 e2 => ?_, trivial⟩
    · obtain ⟨z, e⟩ := r.fzt b f
      exact ⟨z, by rw [upd_ne (show b ≠ p from fun z => h.nfz (z ▸ f))]; exact e⟩
    · have y := r.ok n b q e1 e2
      by_cases dq : q = .dead
      · rw [dq]; trivial
      · have nb : b ≠ p := fun z => h.nlive n (z ▸ ⟨e1, q, e2, dq⟩)
        cases q with
        | lst ds => obtain ⟨xs, a1, a2⟩ := y; exact ⟨xs, by rw [upd_ne nb]; exact a1, a2.aptU h nt nf⟩
        | dct ks vs => obtain ⟨es, a1, a2⟩ := y; exact ⟨es, by rw [upd_ne nb]; exact a1, a2.aptU h nt nf⟩
        | ins C fs => obtain ⟨dx, vs, a1, a2⟩ := y; exact ⟨dx, vs, by rw [upd_ne nb]; exact a1, a2.aptU h nt nf⟩
        | dead => trivial
  cases u with
  | lst ds => obtain ⟨xs, h1, h2⟩ := x; exact ⟨xs, by rw [upd_ne ne]; exact h1, Iss.ext0 sr' Ext0.more (h2.aptU h nt nf)⟩
  | dct ks vs => obtain ⟨es, h1, h2⟩ := x; exact ⟨es, by rw [upd_ne ne]; exact h1, IsE.ext0 sr' Ext0.more (h2.aptU h nt nf)⟩
  | ins C fs => obtain ⟨dx, vs, h1, h2⟩ := x; exact ⟨dx, vs, by rw [upd_ne ne]; exact h1, (h2.aptU h nt nf).ext0 sr' Ext0.more⟩
  | dead => trivial
theorem SR.adopt {G' : Gam} (r : SR K w G H W L) (h : Apt W L H p ho) (nt : ∀ xs, ho ≠ .tup xs) (nf : ∀ u v, ho ≠ .frz u v) (iso : IsO K w (upd H p ho') (W.more p) p o) (g : G'.p (W.more p) (L ++ [o]) (upd H p ho')) : SR K w G' (upd H p ho') (W.more p) (L ++ [o]) where
  len := by show (W.mu ++ [p]).length = _; rw [List.length_append, List.length_append, r.len, List.length_singleton, List.length_singleton]
  inj := fun n m a l1 l2 => by
    rcases live_more r l1 with l1 | ⟨e1, e2⟩ <;> rcases live_more r l2 with l2 | ⟨e3, e4⟩
    · exact r.inj n m a l1 l2
    · rw [e4] at l1; exact absurd l1 (h.nlive n)
    · rw [e2] at l2; exact absurd l2 (h.nlive m)
    · rw [e1, e3]
  nfz := fun n a l f => by
    rcases live_more r l with l | ⟨_, e⟩
    · exact r.nfz n a l f
    · rw [e] at f; exact h.nfz f
  fzt := fun a f => by
    obtain ⟨u, e⟩ := r.fzt a f
    exact ⟨u, by rw [upd_ne (show a ≠ p from fun z => h.nfz (z ▸ f))]; exact e⟩
  ok := fun n a u h1 h2 => by
    by_cases hn : n < L.length
    · have h1' : (W.mu ++ [p])[n]? = some a := h1
      rw [List.getElem?_append_left (by rw [r.len]; exact hn)] at h1'
      rw [List.getElem?_append_left hn] at h2
      by_cases du : u = .dead
      · rw [du]; trivial
      · exact (r.ok n a u h1' h2).aptM r h nt nf (fun z => h.nlive n (z ▸ ⟨h1', u, h2, du⟩))
    · have hl : n < (L ++ [o]).length := (List.getElem?_eq_some_iff.mp h2).1
      rw [List.length_append, List.length_singleton] at hl
      have e : n = L.length := by omega
      subst e
      have h1' : (W.mu ++ [p])[L.length]? = some a := h1
      rw [← r.len, List.getElem?_concat_length] at h1'
      rw [List.getElem?_concat_length] at h2
      cases h1'; cases h2
      exact iso
  gam := g
theorem Is.adopt (r : SR K w G H W L) (h : Apt W L H p ho) (nt : ∀ xs, ho ≠ .tup xs) (nf : ∀ u v, ho ≠ .frz u v) {v : V} {d : D} (i : Is K w H W v d) : Is K w (upd H p ho') (W.more p) v d := by
  have i1 : Is K w H (W.more p) v d := i.ext0 r Ext0.more
  have h1 : Apt (W.more p) (L ++ [.dead]) H p ho := ⟨h.at_, h.nfz, fun n l => by
    obtain ⟨e1, u, e2, e3⟩ := l
    by_cases hn : n < L.length
    · have e1' : (W.mu ++ [p])[n]? = some p := e1
      rw [List.getElem?_append_left (by rw [r.len]; exact hn)] at e1'
      rw [List.getElem?_append_left hn] at e2
      exact h.nlive n ⟨e1', u, e2, e3⟩
    · have hl : n < (L ++ [O.dead]).length := (List.getElem?_eq_some_iff.mp e2).1
      rw [List.length_append, List.length_singleton] at hl
      have e : n = L.length := by omega
      subst e
      rw [List.getElem?_concat_length] at e2
      cases e2; exact e3 rfl⟩
  exact i1.aptU h1 nt nf
end
/-! ### {k: v} -/
section
variable {X : Cx} {G : Gam} {pos : Pos} {tk tv : TE} {a b : Expr} {ta tb : tE}
def tDisp1 (K : PySem.W.Frag) (w : World) (tk tv : TE) : TE := fun σ H Q => ∀ p, H p = none → tk σ (upd H p (dictHO w p ([], 0))) fun x H1 => tv σ H1 fun y H2 => H2 p = some (dictHO w p ([], 0)) ∧ ∃ b k, x = .ref b ∧ KeyT K H2 k x ∧ ∀ u ep, RelV y u → Q (.ref p) (upd H2 p (dictHO w p ([(k, b, u)], ep)))
theorem wpAny_Dict_pairsO {prog : Program} {w : World} {knd : HeapKind prog w NestedKey} {A : Around} {E : Value → Shared → Prop} {s : Shared} {env : Env} {keys : List (Option Expr)} {values : List Expr} {pos : Pos} {pairs : List (Sem Value × Sem Value)} {Q : Value → Shared → Prop} (hu : knd.room A)
    (hshape : (evalEachOpt keys env).zip ((evalEach values env).map fun v => do let x ← v; standAt pos; pure x) = pairs.map fun p => (some p.1, p.2)) (h0 : pairs ≠ []) (hlen : pairs.length ≤ 15)
    (h : wpAny (model prog w) A (evalPairs pairs) (fun vs s₁ => ∃ ps, CarriesH knd s₁.heap vs ps ∧ s₁.heap.DictOfH knd s.heap.objs.size [] ∧
      ∀ h' tk, h'.DictOfH knd s.heap.objs.size (storedAllH [] ps) → Heap.SameBut s.heap.objs.size s₁.heap h' → Q (.ref s.heap.objs.size) { s₁ with heap := h', toks := tk }) E
      { s with heap := s.heap.push { cls := .type "dict", data := .dict #[] } }) :
    wpAny (model prog w) A (eval (.Dict keys values pos) env) Q E s := by
  rw [arm_eval_Dict, hshape, dictDisplay_pairs pairs h0 (by omega)]
  exact wpAny_bind (wpAny_standAt (wpAny_bind (wpAny_subDictH (knd := knd) (Q := fun d s' => wpAny (model prog w) A (pure (Value.ref d)) Q E s') hu hlen
    (wpAny_mono h (fun vs s₁ h₁ => by obtain ⟨ps, hc, hm, hq⟩ := h₁; exact ⟨ps, hc, hm, fun h' tk a b => wpAny_pure (hq h' tk a b)⟩) fun _ _ e => e))))
theorem pe_disp1 (hu : X.A.units + 65 < cLine) (hk : PE X a tk) (hv : PE X b tv) : PE X (.Dict [some a] [b] pos) (tDisp1 X.K X.w tk tv) := by
  refine ⟨fun pins s σ H Q I h => ?_⟩
  have hp : PPs X pos [some a] [b] [(tk, tv)] := pps_cons hk hv pps_nil
  have I0 : Inv X pins σ (upd H s.heap.objs.size (dictHO X.w s.heap.objs.size ([], 0))) { s with heap := s.heap.push { cls := .type "dict", data := .dict #[] } } := by
    refine I.laid (a := s.heap.objs.size) (o := dictHO X.w s.heap.objs.size ([], 0)) (t' := s.toks) (fun _ _ q => Heap.get?_push_of_some _ q) (Nat.le_refl _) ?_
    exact ⟨⟨beq_eq_false_iff_ne.mpr (Ne.symm (Nat.ne_of_lt I.big)), Nat.zero_le _, List.nodup_nil, _, Heap.get?_push_size _ rfl, ⟨rfl, rfl, rfl⟩, rfl⟩, ⟨_, Heap.get?_push_size _ rfl⟩, fun k1 k2 ⟨p1, p2, p3, o', q1, q2, q3⟩ st => ⟨p1, p2, p3, o', st _ q1, q2, q3⟩⟩
  have h0 := h s.heap.objs.size (I.hok.fresh (Nat.le_refl _))
  refine wpAny_Dict_pairsO (knd := nestedKind X.prog X.w) (pairs := pairTrees [some a] [b] X.env pos) (by show X.A.units + 8 < cLine; omega) rfl (by simp [pairTrees]) (by simp [pairTrees]) ?_
  refine wpAny_mono (hp.run pins _ σ _ (fun ps H2 => match ps with
    | [(x, y)] => H2 s.heap.objs.size = some (dictHO X.w s.heap.objs.size ([], 0)) ∧ ∃ b k, x = .ref b ∧ KeyT X.K H2 k x ∧ ∀ u ep, RelV y u → Q (.ref s.heap.objs.size) (upd H2 s.heap.objs.size (dictHO X.w s.heap.objs.size ([(k, b, u)], ep)))
    | _ => False) I0 h0) ?_ fun _ _ e => e
  rintro vs s2 ⟨ps, H2, I2, rel, q⟩
  split at q
  · rename_i x y
    obtain ⟨e, c, k, rfl, hkey, q⟩ := q
    cases rel with
    | cons r rs =>
      cases rs
      rename_i uv
      obtain ⟨ux, uy⟩ := uv
      obtain ⟨r1, r2⟩ := r
      obtain ⟨c', e1, e2, hk3⟩ := hkey.at I2 r1
      cases e1
      have e2 : ux = .ref c := e2
      subst e2
      have hd0 : DicV X.K X.w H2 s.heap.objs.size ([], 0) := ⟨e, fun _ h => nomatch h⟩
      obtain ⟨h1, h2, h3, _⟩ := hd0.at I2
      refine ⟨[(k, c, uy)], ⟨rfl, rfl, hk3, trivial⟩, h3, fun h' tk hm hs => ?_⟩
      have hm' : h'.DictOfH (nestedKind X.prog X.w) s.heap.objs.size [(k, c, uy)] := hm
      obtain ⟨ep, ok⟩ := DicV.ok (H := upd H2 s.heap.objs.size (dictHO X.w s.heap.objs.size ([(k, c, uy)], 0))) (P := X.prog) (w := X.w) h1 (by show 1 ≤ sizeLine; decide) hm'
      have ok' : ObjOk X.prog X.w (upd H2 s.heap.objs.size (dictHO X.w s.heap.objs.size ([(k, c, uy)], ep))) h' s.heap.objs.size (dictHO X.w s.heap.objs.size ([(k, c, uy)], ep)) := ok
      exact ⟨.ref s.heap.objs.size, _, d_write I2 (by rw [e]; exact True.intro) hs (let ⟨o, _, _, g, _⟩ := hm'; ⟨o, g⟩) ok', rfl, q uy ep r2⟩
  · exact q.elim
/-- {k: v} of one's own -/
def tDic1O (tk tv : tE) : tE := fun ρ L R => tk ρ L fun x L1 => tv ρ L1 fun y L2 => (∃ k, keyT x k) ∧ R (.ob L2.length) (L2 ++ [.dct [x] [y]])
theorem de_dic1O (hu : X.A.units + 65 < cLine) (ha : DE X G a ta) (hb : DE X G b tb) : DE X G (.Dict [some a] [b] pos) (tDic1O ta tb) :=
  ⟨PE.imp (pe_disp1 hu ha.pe hb.pe) fun σ H Q ⟨W, ρ, L, R, es, sr, h, k⟩ => fun p hp => by
    have x0 : Ext W L H W L (upd H p (dictHO X.w p ([], 0))) := Ext.new hp
    have sr0 := sr.new (ho := dictHO X.w p ([], 0)) hp
    have ap : Apt W L (upd H p (dictHO X.w p ([], 0))) p (dictHO X.w p ([], 0)) := Apt.new sr hp
    refine ⟨W, ρ, L, _, es.ext sr x0, sr0, h, fun x L1 W1 H1 v x1 sr1 is1 h1 => ⟨W1, ρ, L1, _, (es.ext sr x0).ext sr0 x1, sr1, h1, fun y L2 W2 H2 u x2 sr2 is2 ⟨⟨key, hk⟩, r⟩ => ?_⟩⟩
    have ap2 := (ap.ext x1).ext x2
    have is1' := is1.ext sr1 x2
    obtain ⟨kv, kd, b, rfl⟩ := keyT_is is1' hk
    have nt : ∀ xs, dictHO X.w p ([], 0) ≠ .tup xs := fun xs z => by cases z
    have nf : ∀ u v, dictHO X.w p ([], 0) ≠ .frz u v := fun u v z => by cases z
    refine ⟨ap2.at_, b, key, rfl, ⟨kv, kd, b, rfl⟩, fun u' ep ru => ?_⟩
    have xx := ((x0.trans x1).trans x2).adopt (o := .dct [x] [y]) (ho' := dictHO X.w p ([(key, b, u')], ep)) sr2 hp
    have iso : IsO X.K X.w (upd H2 p (dictHO X.w p ([(key, b, u')], ep))) (W2.more p) p (.dct [x] [y]) := ⟨([(key, b, u')], ep), upd_same, .cons hk.1 hk.2.1 (Is.adopt sr2 ap2 nt nf is1') ru (Is.adopt sr2 ap2 nt nf is2) .nil⟩
    exact k _ _ _ _ _ xx (sr2.adopt ap2 nt nf iso (G.st sr.gam xx)) (.ob (by show (W2.mu ++ [p])[L2.length]? = _; rw [← sr2.len, List.getElem?_concat_length])) r⟩
end
end L2.DL

set_option Elab.async false
set_option linter.all false
set_option maxRecDepth 100000
/-! ED: dict(d), a new dict of one's own. -/
namespace PySem
section
variable {prog : Program} {w : World} {K : Type} [DecidableEq K] {knd : HeapKind prog w K} {A : Around} {E : Value → Shared → Prop} {s : Shared}
theorem kt_call_dictH {o : Addr} {more : List (K × Addr × Value)} {Q : Value → Shared → Prop} (hu : knd.room A.in1.in1) (hoS : (o == sysModules) = false) (ho : s.heap.DictOfH knd o more) (hty : ∀ x ∈ more, s.TypeIs (.ref x.2.1) "tuple") (hap : (more.map fun x => knd.hash x.1).Nodup) (hsz : more.length ≤ sizeLine)
    (hk : ∀ h', (∀ b ob, s.heap.get? b = some ob → h'.get? b = some ob) → ∀ x ∈ more, knd.is h' x.1 x.2.1)
    (h : ∀ h', h'.DictOfH knd s.heap.objs.size more → Heap.SameBut s.heap.objs.size (s.heap.push { cls := .type "dict", data := .dict #[] }) h' → Q (.ref s.heap.objs.size) { s with heap := h' }) :
    wpAny (model prog w) A (call (.type "dict") [.ref o]) Q E s := by
  refine callType_codes (Q₁ := fun obj s₁ => obj = .ref s.heap.objs.size ∧ s₁ = { s with heap := s.heap.push { cls := .type "dict", data := .dict #[] } }) F.kt_called_dict (F.kt_typeCall_dict_1 _) F.entry_dict_init (kt_code_dict_new _ ⟨rfl, rfl⟩) ?_
  rintro obj s₁ ⟨rfl, rfl⟩
  have hnew : (s.heap.push { cls := .type "dict", data := .dict #[] }).DictOfH knd s.heap.objs.size [] := Heap.DictOfH.new s.heap
  have keep : ∀ b ob, s.heap.get? b = some ob → (s.heap.push { cls := .type "dict", data := .dict #[] }).get? b = some ob := fun b ob e => Heap.get?_push_of_some _ e
  have ho' : (s.heap.push { cls := .type "dict", data := .dict #[] }).DictOfH knd o more := by
    obtain ⟨ob, es, ep, h1, h2, h3, h4, h5, h6⟩ := ho
    exact ⟨ob, es, ep, keep _ _ h1, h2, h3, h4, hk _ keep, h6⟩
  have hn : (more.map (·.1)).Nodup := ho.nodup
  have hdo : s.heap.objs.size ≠ o := by
    obtain ⟨_, _, _, hg, _⟩ := ho
    exact fun e => absurd (Heap.lt_size hg) (by rw [e]; exact Nat.lt_irrefl _)
  have hty' : ∀ x ∈ more, Shared.TypeIs { s with heap := s.heap.push { cls := .type "dict", data := .dict #[] } } (.ref x.2.1) "tuple" := fun x hx => by
    have := hty x hx
    obtain ⟨ob, g1, g2⟩ := this
    exact ⟨ob, keep _ _ g1, g2⟩
  refine ⟨hnew.typeIs, F.args_dict_init_2 _ _, ?_⟩
  unfold Builtin.«dict.__init__»
  refine wpAny_bind ?_
  unfold Builtin.Dict.selfAndRest
  refine wpAny_bind (wpAny_notOrdered_dict hnew.typeIs ?_)
  show wpAny _ _ (pure (s.heap.objs.size, [Value.ref o])) _ _ _
  refine wpAny_pure ?_
  show wpAny _ _ (Builtin.Dict.updateFrom "dict.__init__" s.heap.objs.size (.ref o) [] .none) _ _ _
  refine updateFrom_dictH (R := _) .none hu hdo hoS hnew ho' (.inr ⟨hty', hap⟩) (by simpa using hsz) fun h' hd' _ hs' => ?_
  rw [storedAllH_nil_of_nodup more hn] at hd'
  exact ⟨rfl, h h' hd' hs'⟩
end
end PySem

namespace L2.DL
open PySem PySem.Spec PyProof.Rows
section
variable {X : Cx} {G : Gam}
/-- dict(d) -/
def rDictK (K : PySem.W.Frag) (w : World) : List V → Hp → VK → Prop := fun xs H Q => ∃ a es, xs = [.ref a] ∧ DicV K w H a es ∧ (es.1.map fun x => x.1.hash w).Nodup ∧ ∀ l ep, H l = none → Q (.ref l) (upd H l (dictHO w l (es.1, ep)))
theorem call_dictK (hu : X.A.units + 65 < cLine) : CallR X (.type "dict") (rDictK X.K X.w) := by
  intro pins s σ H xs us Q I r h
  obtain ⟨a, es, rfl, hd, nd, q⟩ := h
  obtain ⟨u, rfl, ru⟩ := vals1 r
  obtain rfl : u = Value.ref a := ru
  obtain ⟨h1, h2, h3, _⟩ := hd.at I
  have his : ∀ x ∈ es.1, (nestedKind X.prog X.w).is s.heap x.1 x.2.1 := by
    obtain ⟨_, _, _, _, _, _, _, his, _⟩ := h3
    exact his
  refine kt_call_dictH (knd := nestedKind X.prog X.w) (by show X.A.in1.in1.units + 8 < cLine; rw [Around.in1_units, Around.in1_units]; omega) h1 h3 (fun x hx => nestedKind_stays.tuple (his x hx)) nd h2 (fun h' kp x hx => nestedKind_stays.stays (fun b o _ _ e _ => kp b o e) (his x hx)) fun h' hm hs => ?_
  have big : (s.heap.objs.size == sysModules) = false := beq_eq_false_iff_ne.mpr (Ne.symm (Nat.ne_of_lt I.big))
  have fr : H s.heap.objs.size = none := I.hok.fresh (Nat.le_refl _)
  obtain ⟨ep, ok⟩ := DicV.ok (H := upd H s.heap.objs.size (dictHO X.w s.heap.objs.size (es.1, 0))) (P := X.prog) (w := X.w) big h2 hm
  have ok' : ObjOk X.prog X.w (upd H s.heap.objs.size (dictHO X.w s.heap.objs.size (es.1, ep))) h' s.heap.objs.size (dictHO X.w s.heap.objs.size (es.1, ep)) := ok
  exact ⟨.ref s.heap.objs.size, _, I.laid (t' := s.toks) (fun b o e => (hs.2 b (Nat.ne_of_lt (Heap.lt_size e))).trans (Heap.get?_push_of_some _ e)) (Nat.le_refl _) ok', rfl, q _ ep fr⟩
end
end L2.DL

set_option Elab.async false
set_option linter.all false
set_option maxRecDepth 100000
/-! EK: freezing a slot's object; a call that looks at own dicts; dict(d); {k: v}, frozen. -/
namespace L2.DL
open PySem PySem.Spec PyProof.Rows
section
variable {K : PySem.W.Frag} {w : World} {G : Gam} {H H' : Hp} {W W' : Wd} {L L' : Sto} {p : Addr}
/-! ### freezing -/
def frOf : Option O → Option D
  | some (.lst xs) => some (.lst xs)
  | some (.dct ks vs) => some (.dct ks vs)
  | _ => none
theorem IsS.put : ∀ {i : Nat} {ρ : En} {σ : L2.St} {n : Nat} {d : D}, IsS K w H W ρ σ → ρ[i]? = some (some (.ob n)) → (∀ v, Is K w H W v (.ob n) → Is K w H W v d) → IsS K w H W (ρ.set i (some d)) σ
  | _, _, _, _, _, .nil, e, _ => by simp at e
  | 0, _, _, _, _, .nop _, e, _ => by simp at e
  | 0, _, _, _, _, .som a t, e, f => by
    simp at e
    subst e
    exact .som (f _ a) t
  | i + 1, _, _, _, _, .nop t, e, f => .nop (IsS.put (i := i) t (by simpa using e) f)
  | i + 1, _, _, _, _, .som a t, e, f => .som a (IsS.put (i := i) t (by simpa using e) f)
/-- the object in slot i is frozen -/
def tFz (i : Nat) : tS := fun DD ρ L => ∃ n d, ρ[i]? = some (some (.ob n)) ∧ frOf L[n]? = some d ∧ DD.nx (ρ.set i (some d)) (L.set n .dead)
theorem dss_fz {X : Cx} {sts : List Stmt} {t : tS} (i : Nat) (h : DSs X G sts t) : DSs X G sts (tSq (tFz i) t) :=
  ⟨PSs.imp h.pss fun D σ H ⟨W, ρ, L, DD, es, sr, ⟨n, d, e1, e2, h1⟩, k⟩ => by
    obtain ⟨v, hv, is⟩ := es.get e1
    cases is with
    | ob hm =>
      rename_i a
      cases eo : L[n]? with
      | none => rw [eo] at e2; cases e2
      | some o =>
        rw [eo] at e2
        have od : o ≠ .dead := fun z => by rw [z] at e2; cases e2
        have x := Ext.frz (H := H) hm eo od
        have sr' := sr.frz hm eo od
        have iso := sr.ok n a o hm eo
        have put : ∀ v, Is X.K X.w H (W.and a) v (.ob n) → Is X.K X.w H (W.and a) v d := fun v i => by
          cases i with
          | ob hm' =>
            have ea : W.mu[n]? = some _ := hm'
            rw [hm] at ea
            cases ea
            cases o with
            | lst xs =>
              cases e2
              obtain ⟨ys, h2, h3⟩ := iso
              exact .lst (.inl rfl) (.inl h2) (h3.ext sr x)
            | dct ks vs =>
              cases e2
              obtain ⟨es', h2, h3⟩ := iso
              exact .dct (.inl rfl) h2 (h3.ext sr x)
            | _ => cases e2
        exact ⟨W.and a, _, _, DD, (es.ext sr x).put e1 put, sr', h1, k.ext x⟩⟩
/-! ### a call that looks at own dicts -/
mutual
def noDct : D → Prop
  | .tup xs => noDcts xs
  | .lst xs => noDcts xs
  | .dct _ _ => False
  | _ => True
def noDcts : List D → Prop
  | [] => True
  | x :: xs => noDct x ∧ noDcts xs
end
mutual
theorem Is.fzl (f : ∀ a xs, W.fz a → Rd H a (.lst xs) → W'.fz a) : ∀ {v : V} {d : D}, Is K w H W v d → lowD 0 d → noDct d → Is K w H W' v d
  | _, _, .non, _, _ => .non
  | _, _, .bl b, _, _ => .bl b
  | _, _, .int i, _, _ => .int i
  | _, _, .str s, _, _ => .str s
  | _, _, .tup s hs, l, n => .tup s (Iss.fzl f hs (by simpa only [lowD] using l) (by simpa only [noDct] using n))
  | _, _, .lst z s hs, l, n => .lst (f _ _ z s) s (Iss.fzl f hs (by simpa only [lowD] using l) (by simpa only [noDct] using n))
  | _, _, .lstK s hs, l, n => .lstK s (Iss.fzl f hs (by simpa only [lowD] using l) (by simpa only [noDct] using n))
  | _, _, .dct z s hs, l, n => by simp only [noDct] at n
  | _, _, .ob s, l, _ => by simp only [lowD] at l; exact absurd l (Nat.not_lt_zero _)
  | _, _, .adr a, _, _ => .adr a
  | _, _, .ty n, _, _ => .ty n
theorem Iss.fzl (f : ∀ a xs, W.fz a → Rd H a (.lst xs) → W'.fz a) : ∀ {vs : List V} {ds : List D}, Iss K w H W vs ds → lowDs 0 ds → noDcts ds → Iss K w H W' vs ds
  | _, _, .nil, _, _ => .nil
  | _, _, .cons a t, l, n => .cons (Is.fzl f a (by simp only [lowDs] at l; exact l.1) (by simp only [noDcts] at n; exact n.1)) (Iss.fzl f t (by simp only [lowDs] at l; exact l.2) (by simp only [noDcts] at n; exact n.2))
end
/-- an argument as the callee sees it -/
inductive Seen (L : Sto) : D → D → Prop
  | low {d : D} : lowD 0 d → Seen L d d
  | own {n : Nat} {ks vs : List D} : L[n]? = some (.dct ks vs) → lowDs 0 ks → lowDs 0 vs → Seen L (.ob n) (.dct ks vs)
inductive Seens (L : Sto) : List D → List D → Prop
  | nil : Seens L [] []
  | cons {d e : D} {ds es : List D} : Seen L d e → Seens L ds es → Seens L (d :: ds) (e :: es)
def ownD (W : Wd) (L : Sto) (a : Addr) : Prop := ∃ n ks vs, Live W L n a ∧ L[n]? = some (.dct ks vs)
def Wd.seen (W : Wd) (L : Sto) : Wd := ⟨[], fun a => W.fz a ∨ ownD W L a⟩
theorem Is.seen (sr : SR K w G H W L) {v : V} {d e : D} (s : Seen L d e) (i : Is K w H W v d) : Is K w H (W.seen L) v e := by
  cases s with
  | low l => exact i.low (W' := W.seen L) (m := 0) (fun _ f => Or.inl f) (fun _ _ h => absurd h (Nat.not_lt_zero _)) l
  | own e1 l1 l2 =>
    cases i with
    | ob hm =>
      obtain ⟨es, h1, h2⟩ := sr.ok _ _ _ hm e1
      exact .dct (.inr ⟨_, _, _, ⟨hm, _, e1, by intro z; cases z⟩, e1⟩) h1 (h2.low (W' := W.seen L) (m := 0) (fun _ f => Or.inl f) (fun _ _ h => absurd h (Nat.not_lt_zero _)) ⟨l1, l2⟩)
theorem Iss.seen (sr : SR K w G H W L) : ∀ {vs : List V} {ds es : List D}, Seens L ds es → Iss K w H W vs ds → Iss K w H (W.seen L) vs es
  | _, _, _, .nil, .nil => .nil
  | _, _, _, .cons s t, .cons i is => .cons (i.seen sr s) (Iss.seen sr t is)
theorem Seens.length {L : Sto} : ∀ {ds es : List D}, Seens L ds es → ds.length = es.length
  | _, _, .nil => rfl
  | _, _, .cons _ t => by rw [List.length_cons, List.length_cons, Seens.length t]
def tCaW (n : Nat) (fs : FS) (t : tA) : tE := fun ρ L R => t ρ L fun cs L1 => cs.length = n ∧ ∃ cs', Seens L1 cs cs' ∧ fs cs' [] (fun d _ => lowD 0 d → noDct d ∧ R d L1) fun _ _ => False
end
section
variable {X : Cx} {G : Gam} {e : Expr} {es : List Expr} {tt : tA} {k : Nat} {f : Addr} {fd : FuncData} {ps : List Str} {x : Str} {p pos : Pos} {fs : FS} {n : Nat}
theorem callW_imp {H : Hp} {Q : VK} {E : XK} {W : Wd} {L : Sto} {R : QE} {cs cs' : List D} {vs : List V} (sr : SR X.K X.w G H W L) (is : Iss X.K X.w H W vs cs) (hn : cs.length = n) (seen : Seens L cs cs') (h : fs cs' [] (fun d _ => lowD 0 d → noDct d ∧ R d L) fun _ _ => False) (k : Kont X.K X.w G W L H R Q) :
    liftF X.K X.w n fs vs H Q E := by
  have is0 := is.seen sr seen
  have sr0 : SR X.K X.w .none H (W.seen L) [] := by
    refine ⟨rfl, ?_, ?_, ?_, ?_, trivial⟩
    · rintro n m a ⟨_, o, e, _⟩; simp at e
    · rintro n a ⟨_, o, e, _⟩; simp at e
    · rintro a (f | ⟨n, ks, vs, l, _⟩)
      · exact sr.fzt a f
      · exact sr.there l
    · intro n a o _ e; simp at e
  refine ⟨by rw [is.length]; exact hn, W.seen L, cs', [], _, _, is0, sr0, h, ?_, fun x L' W' H' od _ _ _ h => h.elim⟩
  intro d L' W' H' v x0 sr' i ⟨l1, l2, l3, r⟩
  have l0 : L' = [] := List.length_eq_zero_iff.mp l3
  subst l0
  have nl : ∀ n a, ¬ Live (W.seen L) ([] : Sto) n a := fun n a ⟨_, o, e, _⟩ => by simp at e
  have keep : ∀ a o, H a = some o → H' a = some o := fun a o e => x0.keep a o e fun n => nl n a
  have fzn : ∀ a, W'.fz a → W.fz a ∨ ownD W L a ∨ H a = none := fun a f => by
    rcases x0.fzn a f with (f | f) | ⟨m, l⟩ | e
    · exact .inl f
    · exact .inr (.inl f)
    · exact absurd l (nl m a)
    · exact .inr (.inr e)
  let W1 : Wd := ⟨W.mu, fun a => W'.fz a ∧ ¬ ownD W L a⟩
  have fz1 : ∀ a, W1.fz a → W.fz a ∨ H a = none := fun a ⟨f, no⟩ => by
    rcases fzn a f with f | f | e
    · exact .inl f
    · exact absurd f no
    · exact .inr e
  have x1 : Ext W L H W1 L H' := ⟨⟨[], (List.append_nil _).symm⟩, fun a f => ⟨x0.fz a (.inl f), fun ⟨n, _, _, l, _⟩ => sr.nfz n a l f⟩, fun a o e _ => keep a o e, fun n a l => .inl ⟨n, l⟩, fun a f => (fz1 a f).elim .inl fun e => .inr (.inr e)⟩
  have sr1 : SR X.K X.w G H' W1 L := by
    refine ⟨sr.len, sr.inj, fun n a l f => ?_, fun a f => sr'.fzt a f.1, fun n a o e1 e2 => (sr.ok n a o e1 e2).ext sr x1 fun u e => keep a u e, G.st sr.gam x1⟩
    have l' : Live W L n a := l
    rcases fz1 a f with f | e
    · exact sr.nfz n a l' f
    · obtain ⟨o, e'⟩ := sr.there l'
      rw [e] at e'; cases e'
  obtain ⟨nd, rr⟩ := r l1
  have i1 : Is X.K X.w H' W1 v d := i.fzl (W' := W1) (fun a xs f rd => ⟨f, fun ⟨n, ks, vs, l, eo⟩ => by
    obtain ⟨es, h1, _⟩ := sr.ok n a _ l.1 eo
    have h2 := keep a _ h1
    rcases rd with q | ⟨o, q⟩ <;> (rw [h2] at q; cases q)⟩) l1 nd
  exact k d L _ H' v x1 sr1 i1 rr
theorem de_callW (F : FnOk X.prog X.w X.K X.mg X.base (L2.CX X.prog X.w) k f fd ps (liftF X.K X.w n fs)) (hr : Room k X.A) (hm : X.mg x = some (.ref f)) (hk : PySem.W.keepIn X.K (.ref f) = true) (hb : Binds X.K fd ps []) (ha : DA X G (e :: es) tt)
    (hg : Gl X x := by rfl) (hdb : (x == ("__debug__" : Str)) = false := by decide) (he : starEach (e :: es) X.env = (false, eval e X.env) :: starEach es X.env := by rfl) (hpl : (backTo pos (starEach es X.env)).any (·.1) = false := by rfl) :
    DE X G (.Call (.Name x p) (e :: es) [] pos) (tCaW n fs tt) :=
  ⟨PE.imp (pe_call (E := E0) F hr hg hm hk hb .nil passL ha.pa hdb he hpl) fun σ H Q ⟨W, ρ, L, R, es', sr, h, k⟩ => ⟨W, ρ, L, _, es', sr, h, fun cs L1 W1 H1 vs x1 sr1 is1 ⟨h1, cs', h2, h3⟩ => by
    show liftF X.K X.w n fs (vs ++ []) H1 Q E0
    rw [List.append_nil]
    exact callW_imp sr1 is1 h1 h2 h3 (k.ext x1)⟩⟩
/-- an expression's own object is frozen -/
def tFzE (te : tE) : tE := fun ρ L R => te ρ L fun d L1 => ∃ n d', d = .ob n ∧ frOf L1[n]? = some d' ∧ R d' (L1.set n .dead)
theorem de_frz {te : tE} (h : DE X G e te) : DE X G e (tFzE te) :=
  ⟨PE.imp h.pe fun σ H Q ⟨W, ρ, L, R, es, sr, h, k⟩ => ⟨W, ρ, L, _, es, sr, h, fun d L1 W1 H1 v x1 sr1 is1 ⟨n, d', e1, e2, r⟩ => by
    subst e1
    cases is1 with
    | ob hm =>
      rename_i a
      cases eo : L1[n]? with
      | none => rw [eo] at e2; cases e2
      | some o =>
        rw [eo] at e2
        have od : o ≠ .dead := fun z => by rw [z] at e2; cases e2
        have x := Ext.frz (H := H1) hm eo od
        have sr' := sr1.frz hm eo od
        have iso := sr1.ok n a o hm eo
        refine (k.ext x1) d' _ (W1.and a) H1 _ x sr' ?_ r
        cases o with
        | lst xs =>
          cases e2
          obtain ⟨ys, h2, h3⟩ := iso
          exact .lst (.inl rfl) (.inl h2) (h3.ext sr1 x)
        | dct ks vs =>
          cases e2
          obtain ⟨es', h2, h3⟩ := iso
          exact .dct (.inl rfl) h2 (h3.ext sr1 x)
        | _ => cases e2⟩⟩
/-! ### dict(d) -/
def cDictO : OA := fun xs L R => match xs with
  | [d] => ∃ ks vs, dctOf L d = some (ks, vs) ∧ (∀ w : World, ((ks.filterMap skOf).map (NestedKey.hash w)).Nodup) ∧ R (.ob L.length) (L ++ [.dct ks vs])
  | _ => False
theorem IsE.keys {K w H W} : ∀ {es : List DE3} {ks vs : List D}, IsE K w H W es ks vs → ks.filterMap skOf = es.map (·.1)
  | _, _, _, .nil => rfl
  | _, _, _, .cons a _ _ _ _ t => by rw [List.filterMap_cons, a, List.map_cons, IsE.keys t]
theorem cb_dictO {K w} : CbD K w cDictO (rDictK K w) := by
  intro G W H L xs vs R Q sr is h k
  unfold cDictO at h
  split at h
  · obtain ⟨v, rfl, i⟩ := iss1 is
    obtain ⟨ks, vs', e, hn, r⟩ := h
    obtain ⟨a, es, rfl, hd, hes⟩ := dct_is sr i e
    refine ⟨a, es, rfl, hd, ?_, fun l ep hl => ?_⟩
    · have := hn w
      rw [hes.keys, List.map_map] at this
      exact this
    · exact k _ _ _ _ _ (Ext.newO sr hl) (sr.newO (o := .dct ks vs') hl ⟨(es.1, ep), upd_same, hes.ext sr (Ext.newO (o := .dct ks vs') sr hl)⟩) (.ob (by show (W.mu ++ [l])[L.length]? = _; rw [← sr.len, List.getElem?_concat_length])) r
  · exact h.elim
theorem de_dictO (hu : X.A.units + 65 < cLine) (hm : X.mg "dict" = none) (ha : DA X G (e :: es) tt) (hg : Gl X "dict" := by rfl) (he : starEach (e :: es) X.env = (false, eval e X.env) :: starEach es X.env := by rfl) (hpl : (backTo pos (starEach es X.env)).any (·.1) = false := by rfl) :
    DE X G (.Call (.Name "dict" p) (e :: es) [] pos) (tCa cDictO tt) := de_callTy (call_dictK hu) cb_dictO hg hm (by rfl) ha (by decide) (by decide) he hpl
end
end L2.DL

set_option Elab.async false
set_option linter.all false
set_option maxRecDepth 100000
/-! EM: list(d). -/
namespace L2.DL
open PySem PySem.Spec PyProof.Rows
section
variable {X : Cx} {G : Gam} {e : Expr} {es : List Expr} {tt : tA} {p pos : Pos}
def rListK (K : PySem.W.Frag) (w : World) : List V → Hp → VK → Prop := fun xs H Q => ∃ a es, xs = [V.ref a] ∧ DicV K w H a es ∧ ∀ l, H l = none → Q (.ref l) (upd H l (.lst ((es.1.map fun x => x.2.1).map V.ref)))
theorem call_listK (hc : X.calm = true) : CallR X (.type "list") (rListK X.K X.w) := by
  intro pins s σ H xs us Q I r h
  obtain ⟨a, es, rfl, hd, q⟩ := h
  obtain ⟨u, rfl, ru⟩ := vals1 r
  obtain rfl : u = Value.ref a := ru
  obtain ⟨h1, h2, h3, o, g1, g2, g3⟩ := hd.at I
  have he : (es.1.map (ent3 X.w)).toArray.toList = es.1.map (ent3 X.w) := List.toList_toArray
  have l1 : (es.1.map (ent3 X.w)).toArray.size = es.1.length := by simp
  refine PySem.W.kdl_call (kdl_raw h1 g2 g3) (I.ok.hd hc) g1 (by omega) fun h' tk acc' c' kp e it => ?_
  have ea : acc'.toList = es.1.map fun x => Value.ref x.2.1 := by
    have hl : acc'.toList.length = es.1.length := by rw [Array.length_toList, it.1]; exact l1
    apply List.ext_getElem?
    intro j
    rw [List.getElem?_map]
    cases hj : acc'.toList[j]? with
    | none =>
      have h1 := List.getElem?_eq_none_iff.mp hj
      rw [List.getElem?_eq_none (by omega)]
      all_goals rfl
    | some v =>
      obtain ⟨en, hen, hv⟩ := it.2 j v (by rw [← Array.getElem?_toList]; exact hj)
      rw [List.getElem?_toArray, List.getElem?_map] at hen
      cases hb : es.1[j]? with
      | none =>
        rw [hb] at hen
        exact nomatch (show none = some en from hen)
      | some b =>
        rw [hb] at hen
        have e2 : ent3 X.w b = en := Option.some.inj hen
        rw [hv, ← e2]
        all_goals rfl
  have eb : acc'.toList = (es.1.map fun x => x.2.1).map Value.ref := by rw [ea, List.map_map]; all_goals rfl
  have rv : Vals ((es.1.map fun x => x.2.1).map V.ref) acc'.toList := by rw [eb]; exact vals_refs _
  have hz : ((es.1.map fun x => x.2.1).map V.ref).length ≤ sizeLine := by rw [List.length_map, List.length_map]; omega
  refine ⟨.ref s.heap.objs.size, _, I.laid (t' := tk) (o := .lst ((es.1.map fun x => x.2.1).map V.ref)) kp (Nat.le_refl _) ?_, rfl, q _ (I.hok.fresh (Nat.le_refl _))⟩
  exact ⟨hz, acc'.toList, c', rv, by rw [Array.toArray_toList]; exact e⟩
theorem IsE.isK {K w H W} : ∀ {es : List DE3} {ks vs : List D}, IsE K w H W es ks vs → Iss K w H W ((es.map fun x => x.2.1).map V.ref) ks
  | _, _, _, .nil => .nil
  | _, _, _, .cons _ _ c _ _ t => .cons c (IsE.isK t)
def cListK : OA := fun xs L R => match xs with
  | [d] => ∃ ks vs, dctOf L d = some (ks, vs) ∧ R (.lst ks) L
  | _ => False
def cListKO : OA := fun xs L R => match xs with
  | [d] => ∃ ks vs, dctOf L d = some (ks, vs) ∧ R (.ob L.length) (L ++ [.lst ks])
  | _ => False
theorem cb_listK {K w} : CbD K w cListK (rListK K w) := by
  intro G W H L xs vs R Q sr is h k
  unfold cListK at h
  split at h
  · obtain ⟨v, rfl, i⟩ := iss1 is
    obtain ⟨ks, vs', e, r⟩ := h
    obtain ⟨a, es, rfl, hd, hes⟩ := dct_is sr i e
    exact ⟨a, es, rfl, hd, fun l hl => k.lst sr hl hes.isK r⟩
  · exact h.elim
theorem cb_listKO {K w} : CbD K w cListKO (rListK K w) := by
  intro G W H L xs vs R Q sr is h k
  unfold cListKO at h
  split at h
  · obtain ⟨v, rfl, i⟩ := iss1 is
    obtain ⟨ks, vs', e, r⟩ := h
    obtain ⟨a, es, rfl, hd, hes⟩ := dct_is sr i e
    exact ⟨a, es, rfl, hd, fun l hl => k.own sr hl hes.isK r⟩
  · exact h.elim
theorem de_listK (hc : X.calm = true) (hm : X.mg "list" = none) (ha : DA X G (e :: es) tt) (hg : Gl X "list" := by rfl) (he : starEach (e :: es) X.env = (false, eval e X.env) :: starEach es X.env := by rfl) (hpl : (backTo pos (starEach es X.env)).any (·.1) = false := by rfl) :
    DE X G (.Call (.Name "list" p) (e :: es) [] pos) (tCa cListK tt) := de_callTy (call_listK hc) cb_listK hg hm PyProof.Rows.boot_list ha (by decide) (by decide) he hpl
theorem de_listKO (hc : X.calm = true) (hm : X.mg "list" = none) (ha : DA X G (e :: es) tt) (hg : Gl X "list" := by rfl) (he : starEach (e :: es) X.env = (false, eval e X.env) :: starEach es X.env := by rfl) (hpl : (backTo pos (starEach es X.env)).any (·.1) = false := by rfl) :
    DE X G (.Call (.Name "list" p) (e :: es) [] pos) (tCa cListKO tt) := de_callTy (call_listK hc) cb_listKO hg hm PyProof.Rows.boot_list ha (by decide) (by decide) he hpl
/-- a test by cases -/
def tIfTH (t : TT) (ta tb : TT) : TT := fun σ H Q => t σ H fun c H1 => if c = true then ta σ H1 Q else tb σ H1 Q
theorem pt_ifT {a b c : Expr} {tA tB tC : TT} {pos : Pos} (hc : PT X c tA) (ha : PT X a tB) (hb : PT X b tC) : PT X (.IfExp c a b pos) (tIfTH tA tB tC) := by
  refine ⟨fun pins s σ H Q I h => ?_⟩
  rw [arm_isTrue_IfExp]
  refine wpAny_bind (wpAny_mono (hc.run pins s σ H _ I h) (fun d s1 ⟨H1, I1, q1⟩ => ?_) fun _ _ e => e)
  cases d with
  | true => exact ha.run pins s1 σ H1 Q I1 q1
  | false => exact hb.run pins s1 σ H1 Q I1 q1
def tIfT (t u v : tT) : tT := fun ρ L R => t ρ L fun b L1 => if b = true then u ρ L1 R else v ρ L1 R
theorem dt_ifE {a b c : Expr} {t u v : tT} {pos : Pos} (hc : DT X G c t) (ha : DT X G a u) (hb : DT X G b v) : DT X G (.IfExp c a b pos) (tIfT t u v) :=
  ⟨PT.imp (pt_ifT hc.pt ha.pt hb.pt) fun σ H Q ⟨W, ρ, L, R, es, sr, h, k⟩ => ⟨W, ρ, L, _, es, sr, h, fun c L1 W1 H1 x1 sr1 h1 => by
    cases c with
    | true => rw [if_pos rfl]; exact ⟨W1, ρ, L1, R, es.ext sr x1, sr1, (if_pos rfl).mp h1, k.ext x1⟩
    | false => rw [if_neg Bool.false_ne_true]; exact ⟨W1, ρ, L1, R, es.ext sr x1, sr1, (if_neg Bool.false_ne_true).mp h1, k.ext x1⟩⟩⟩
end
end L2.DL

set_option Elab.async false
set_option linter.all false
set_option maxRecDepth 100000
set_option maxHeartbeats 4000000
/-! SB: programs, plans, stands, deeds: what the defs answer. -/
namespace L2.DL
open PySem PySem.Spec PyProof.Rows

/-! ### the things -/
structure Pl where
  tol : Int
  wait : Int
  each : Bool
  most : Int
  spread : Int
  lean : Bool
abbrev wayD (b : Bool) : D := .str (if b then "each" else "sum")
abbrev Pl.prog (P : Pl) : D := .tup [.int P.tol, .int P.wait, wayD P.each]
abbrev Pl.world (P : Pl) : D := .tup [.int P.most, .int P.spread, .bl P.lean]
abbrev Pl.d (P : Pl) : D := .tup [P.prog, P.world]
structure Pl.ok (P : Pl) : Prop where
  t0 : 0 ≤ P.tol
  t1 : P.tol ≤ 3
  w0 : 1 ≤ P.wait
  w1 : P.wait ≤ 3
  m0 : 1 ≤ P.most
  m1 : P.most ≤ 3
  s0 : 0 ≤ P.spread
  s1 : P.spread ≤ 2
structure Sd where
  off : Int
  want : Int
  left : Int
  hand : Int
  leans : Bool
  locked : Bool
abbrev Sd.d (S : Sd) : D := .tup [.int S.off, .int S.want, .int S.left, .int S.hand, .bl S.leans, .bl S.locked]
abbrev beginS : Sd := ⟨0, 0, 0, 0, false, false⟩
abbrev lockedS : Sd := ⟨0, 0, 0, 0, false, true⟩
inductive Dd where
  | wait | hide (n : Int) | read (n : Int) | lay (n : Int) | lean | off | free
abbrev Dd.d : Dd → D
  | .wait => .tup [.str "wait"]
  | .hide n => .tup [.str "hide", .int n]
  | .read n => .tup [.str "read", .int n]
  | .lay n => .tup [.str "lay", .int n]
  | .lean => .tup [.str "lean"]
  | .off => .tup [.str "off"]
  | .free => .tup [.str "free"]
/-- a source of numbers -/
abbrev spr (a m : Int) : O := .lst [.int a, .int m]

/-! ### the consts -/
abbrev c_WAYS : D := .tup [.str "each", .str "sum"]
abbrev c_BEGIN : D := .tup [.int 0, .int 0, .int 0, .int 0, .bl false, .bl false]
abbrev c_LOCKED : D := .tup [.int 0, .int 0, .int 0, .int 0, .bl false, .bl true]
abbrev c_FAR : D := .int 20

/-! ### what is answered -/
def isWithinB : D → Int → Int → Bool
  | .int i, lo, hi => decide (lo ≤ i) && decide (i ≤ hi)
  | _, _, _ => false
def isRowB : D → Int → Bool
  | .tup xs, n => decide ((xs.length : Int) = n)
  | _, _ => false
def isBoolB : D → Bool
  | .bl _ => true
  | _ => false
def isWayB : D → Bool
  | .str s => decide (s = "each") || decide (s = "sum")
  | _ => false
def isProgramB : D → Bool
  | .tup [t, w, y] => isWithinB t 0 3 && isWithinB w 1 3 && isWayB y
  | _ => false
def isPlanB : D → Bool
  | .tup [p, .tup [m, s, l]] => isProgramB p && isWithinB m 1 3 && isWithinB s 0 2 && isBoolB l
  | _ => false
def allProgs : List D := ([0, 1, 2, 3] : List Int).flatMap fun t => ([1, 2, 3] : List Int).flatMap fun w => [.tup [.int t, .int w, .str "each"], .tup [.int t, .int w, .str "sum"]]
def fitsI (P : Pl) (off want left hand : Int) (leans locked : Bool) : Bool :=
  if locked then decide (off = 0 ∧ want = 0 ∧ left = 0 ∧ hand = 0) && !leans
  else decide (0 ≤ want ∧ want ≤ P.most) && decide (hand = 0 ∨ hand = want) && !(leans && !P.lean) && (if want = 0 then decide (left = 0 ∧ -P.tol ≤ off ∧ off ≤ P.tol) else decide (1 ≤ left ∧ left ≤ P.wait))
def fitsB (P : Pl) : D → Bool
  | .tup [.int off, .int want, .int left, .int hand, .bl leans, .bl locked] =>
    decide (-20 ≤ off ∧ off ≤ 20) && decide (-20 ≤ want ∧ want ≤ 20) && decide (-20 ≤ left ∧ left ≤ 20) && decide (-20 ≤ hand ∧ hand ≤ 20) && fitsI P off want left hand leans locked
  | _ => false
def kindD : D → Int
  | .non => 0
  | .bl _ => 1
  | .lst _ => 2
  | .tup _ => 3
  | .int _ => 4
  | .str _ => 5
  | _ => 6
mutual
def twD : D → D → Bool
  | .non, .non => true
  | .bl a, .bl b => a == b
  | .int a, .int b => decide (a = b)
  | .str a, .str b => decide (a = b)
  | .lst xs, .lst ys => twDs xs ys
  | .tup xs, .tup ys => twDs xs ys
  | _, _ => false
def twDs : List D → List D → Bool
  | [], [] => true
  | x :: xs, y :: ys => twD x y && twDs xs ys
  | _, _ => false
end
/-- the deeds at a stand, as they are found -/
def deedsRaw (P : Pl) (S : Sd) : List Dd :=
  .wait :: ((List.range P.most.toNat).flatMap fun (i : Nat) => Dd.hide (1 + (i : Int)) :: (if S.want = 0 then [Dd.read (1 + (i : Int))] else [])) ++
    ((List.range (P.spread + 1 - -P.spread).toNat).flatMap fun (i : Nat) => if S.hand ≠ 0 ∧ 0 < S.hand + (-P.spread + (i : Int)) then [Dd.lay (-P.spread + (i : Int))] else []) ++ (if P.lean then [if S.leans then .off else .lean] else [])
def deedsL (P : Pl) (S : Sd) : List D := if S.locked then [Dd.free.d] else sortD ((deedsRaw P S).map Dd.d)
def behind (P : Pl) (S : Sd) (off hand : Int) (leans : Bool) (weight : Int) : Sd × Str × Int :=
  if S.want ≠ 0 then
    (if S.off < off ∧ (if off - S.want < 0 then -(off - S.want) else off - S.want) ≤ P.tol then (⟨if P.each then 0 else off - S.want, 0, 0, 0, leans, false⟩, "accepts", weight - hand)
    else if S.left ≠ 1 then (⟨off, S.want, S.left - 1, hand, leans, false⟩, "", weight) else (lockedS, "calls", weight))
  else if (if off < 0 then -off else off) ≤ P.tol then (⟨off, 0, 0, 0, leans, false⟩, "", weight) else (lockedS, "calls", weight)
def doneS (P : Pl) (S : Sd) : Dd → Sd × Str × Int
  | .free => (beginS, "", 0)
  | .read n => (⟨S.off, n, P.wait, n, S.leans, false⟩, "", 0)
  | .wait => behind P S S.off S.hand S.leans 0
  | .hide n => behind P S (S.off + n) S.hand S.leans n
  | .lay n => behind P S (S.off + S.hand + n) 0 S.leans 0
  | .lean => behind P S (S.off + 1) S.hand true 0
  | .off => behind P S (S.off - 1) S.hand false 0
abbrev tellD (x : Sd × Str × Int) : D := .tup [x.1.d, .str x.2.1, .int x.2.2]

/-! ### promises -/
def F_is_within : FS := pureF fun ds R => ∃ v lo hi, ds = [v, .int lo, .int hi] ∧ fitD 30 v = true ∧ R (.bl (isWithinB v lo hi))
def F_is_row : FS := pureF fun ds R => ∃ v n, ds = [v, .int n] ∧ fitD 30 v = true ∧ R (.bl (isRowB v n))
def F_is_program : FS := pureF fun ds R => ∃ v, ds = [v] ∧ fitD 30 v = true ∧ R (.bl (isProgramB v))
def F_is_plan : FS := pureF fun ds R => ∃ v, ds = [v] ∧ fitD 30 v = true ∧ R (.bl (isPlanB v))
def F_programs_of : FS := pureF fun ds R => ds = [] ∧ R (.lst allProgs)
def F_all_programs : FS := pureF fun ds R => ds = [] ∧ R (.lst allProgs)
def F_look_at_plan : FS := pureF fun ds R => ∃ P : Pl, ds = [P.d] ∧ P.ok ∧ R .non
def F_first_stand : FS := pureF fun ds R => ∃ P : Pl, ds = [P.d] ∧ P.ok ∧ R beginS.d
def F_fits : FS := pureF fun ds R => ∃ (P : Pl) (x : D), ds = [P.d, x] ∧ P.ok ∧ fitD 30 x = true ∧ R (.bl (fitsB P x))
def F_is_stand : FS := pureF fun ds R => ∃ (P : Pl) (x : D), ds = [P.d, x] ∧ P.ok ∧ fitD 30 x = true ∧ R (.bl (fitsB P x))
def F_law_spring : PN := fun ds R => ∃ (ns : List Int) (at_ : Int), ds = [.lst (ns.map .int), .int at_] ∧ 0 ≤ at_ ∧ ∀ a m, R (spr a m)
def F_law_pick : FS := mutF fun d o r R => d = .ob 0 ∧ (∃ a m, o = spr a m) ∧ ∃ k : Int, r = [.int k] ∧ 0 < k ∧ k < 2 ^ 64 ∧ ∀ i a m, 0 ≤ i → i < k → R (.int i) (spr a m)
def F_law_kind : FS := pureF fun ds R => ∃ v, ds = [v] ∧ fitD 30 v = true ∧ R (.int (kindD v))
mutual
/-- no sequence is too long -/
def wideD : D → Prop
  | .tup xs => xs.length ≤ 100000 ∧ wideDs xs
  | .lst xs => xs.length ≤ 100000 ∧ wideDs xs
  | _ => True
def wideDs : List D → Prop
  | [] => True
  | x :: xs => wideD x ∧ wideDs xs
end
def P_law_twins (m : Nat) : PS1 := fun ds R => ∃ a b, ds = [a, b] ∧ fitD m a = true ∧ fitD m b = true ∧ wideD a ∧ m ≤ 20 ∧ R (.bl (twD a b))
def F_law_twins : Nat → FS
  | 0 => noF
  | m + 1 => pureF (P_law_twins m)
def F_law_program : FS := mutF fun d o r R => d = .ob 0 ∧ (∃ a m, o = spr a m) ∧ r = [] ∧ ∀ (t w : Int) (e : Bool) a m, 0 ≤ t → t ≤ 3 → 1 ≤ w → w ≤ 3 → R (.tup [.int t, .int w, wayD e]) (spr a m)
def F_law_plan : FS := mutF fun d o r R => d = .ob 0 ∧ (∃ a m, o = spr a m) ∧ r = [] ∧ ∀ (P : Pl) a m, P.ok → R P.d (spr a m)
def F_law_small : FS := mutF fun d o r R => d = .ob 0 ∧ (∃ a m, o = spr a m) ∧ r = [] ∧ ∀ (P : Pl) a m, P.ok → P.tol ≤ 2 → P.wait ≤ 2 → P.most ≤ 2 → P.spread ≤ 1 → R P.d (spr a m)
def F_law_begin : FS := pureF fun ds R => ds = [] ∧ R beginS.d
def F_law_deeds : FS := pureF fun ds R => ∃ (P : Pl) (S : Sd), ds = [P.d, S.d] ∧ P.ok ∧ R (.lst (deedsL P S))
def F_law_done : FS := pureF fun ds R => ∃ (P : Pl) (S : Sd) (e : Dd), ds = [P.d, S.d, e.d] ∧ P.ok ∧ R (tellD (doneS P S e))
def F_law_int : FS := pureF fun ds R => ∃ v lo hi, ds = [v, .int lo, .int hi] ∧ fitD 30 v = true ∧ R (.bl (isWithinB v lo hi))
def F_law_made : FS := pureF fun ds R => ∃ v n, ds = [v, .int n] ∧ fitD 30 v = true ∧ R (.bl (isRowB v n))
def F_law_good_program : FS := pureF fun ds R => ∃ v, ds = [v] ∧ fitD 30 v = true ∧ R (.bl (isProgramB v))
def F_law_good_plan : FS := pureF fun ds R => ∃ v, ds = [v] ∧ fitD 30 v = true ∧ R (.bl (isPlanB v))
def F_law_good_stand : FS := pureF fun ds R => ∃ (P : Pl) (x : D), ds = [P.d, x] ∧ P.ok ∧ fitD 30 x = true ∧ R (.bl (fitsB P x))
def P_law_bent (n : Nat) : D → O → List D → (D → O → Prop) → Prop := fun d o r R => d = .ob 0 ∧ (∃ a m, o = spr a m) ∧ ∃ v, r = [v] ∧ fitD n v = true ∧ wideD v ∧ n ≤ 20 ∧ ∀ x a m, fitD (n + 2) x = true → R x (spr a m)
def F_law_bent : Nat → FS
  | 0 => noF
  | n + 1 => mutF (P_law_bent n)

/-! ### readings -/
/-- is_within: 0 value, 1 low, 2 high -/
def t_is_within : tS := (tRt (tAnV (tCa cIsi (tConsA (tV 0) (tConsA (tK (.ty "int")) tNilA))) (tAnV (tNtV (tCa cIsi (tConsA (tV 0) (tConsA (tK (.ty "bool")) tNilA)))) (tCh oLe oLe (tV 1) (tV 0) (tV 2)))))
abbrev n_is_within : Nat := 3
/-- is_row: 0 value, 1 many -/
def t_is_row : tS := (tRt (tAnV (tCa cIsi (tConsA (tV 0) (tConsA (tK (.ty "tuple")) tNilA))) (tB2 oEq (tCa cLen (tConsA (tV 0) tNilA)) (tV 1))))
abbrev n_is_row : Nat := 2
/-- is_program: 0 value -/
def t_is_program : tS := (tSq (tIfD (tOr (tNt (tTru (tCaP 2 F_is_row (tConsA (tV 0) (tConsA (tK (.int 3)) tNilA))))) (tOr (tNt (tTru (tCaP 3 F_is_within (tConsA (tB2 oIx (tV 0) (tK (.int 0))) (tConsA (tK (.int 0)) (tConsA (tK (.int 3)) tNilA)))))) (tNt (tTru (tCaP 3 F_is_within (tConsA (tB2 oIx (tV 0) (tK (.int 1))) (tConsA (tK (.int 1)) (tConsA (tK (.int 3)) tNilA)))))))) (tRt (tK (.bl false))) tNx) (tRt (tAnV (tCa cIsi (tConsA (tB2 oIx (tV 0) (tK (.int 2))) (tConsA (tK (.ty "str")) tNilA))) (tB2 oIn (tB2 oIx (tV 0) (tK (.int 2))) (tK c_WAYS)))))
abbrev n_is_program : Nat := 1
/-- is_plan: 0 value, 1 most, 2 spread, 3 leaning -/
def t_is_plan : tS := (tSq (tIfD (tOr (tNt (tTru (tCaP 2 F_is_row (tConsA (tV 0) (tConsA (tK (.int 2)) tNilA))))) (tOr (tNt (tTru (tCaP 1 F_is_program (tConsA (tB2 oIx (tV 0) (tK (.int 0))) tNilA)))) (tNt (tTru (tCaP 2 F_is_row (tConsA (tB2 oIx (tV 0) (tK (.int 1))) (tConsA (tK (.int 3)) tNilA))))))) (tRt (tK (.bl false))) tNx) (tSq (tAs (tB2 oIx (tV 0) (tK (.int 1))) (gTpD 3 (gConsD (gNm 1) (gConsD (gNm 2) (gConsD (gNm 3) gNilD))))) (tRt (tAnV (tCaP 3 F_is_within (tConsA (tV 1) (tConsA (tK (.int 1)) (tConsA (tK (.int 3)) tNilA)))) (tAnV (tCaP 3 F_is_within (tConsA (tV 2) (tConsA (tK (.int 0)) (tConsA (tK (.int 2)) tNilA)))) (tCa cIsi (tConsA (tV 3) (tConsA (tK (.ty "bool")) tNilA))))))))
abbrev n_is_plan : Nat := 4
/-- programs_of: 0 found, 1 tolerance, 2 wait, 3 way -/
def t_programs_of : tS := (tSq (tSt (tLstD tNilA) 0) (tSq (tFr (iRg1 (tConsA (tK (.int 4)) tNilA)) (gNm 1) (tFr (iRg2 (tConsA (tK (.int 1)) (tConsA (tK (.int 4)) tNilA))) (gNm 2) (tSt (tB2 oAdd (tV 0) (tLcD (iTp (tK c_WAYS)) (c1 3) tYesD (tTupD (tConsA (tV 1) (tConsA (tV 2) (tConsA (tV 3) tNilA)))) [3])) 0))) (tRt (tV 0))))
abbrev n_programs_of : Nat := 4
/-- all_programs:  -/
def t_all_programs : tS := (tRt (tCaP 0 F_programs_of tNilA))
abbrev n_all_programs : Nat := 0
/-- look_at_plan: 0 plan -/
def t_look_at_plan : tS := (tIfD (tNt (tTru (tCaP 1 F_is_plan (tConsA (tV 0) tNilA)))) tNo tNx)
abbrev n_look_at_plan : Nat := 1
/-- first_stand: 0 plan -/
def t_first_stand : tS := (tSq (tDp (tCaP 1 F_look_at_plan (tConsA (tV 0) tNilA))) (tRt (tK c_BEGIN)))
abbrev n_first_stand : Nat := 1
/-- fits: 0 plan, 1 value, 2 tolerance, 3 wait, 4 way, 5 most, 6 spread, 7 leaning, 8 off, 9 want, 10 left, 11 hand, 12 leans, 13 locked, 14 number -/
def t_fits : tS := (tSq (tAs (tV 0) (gTpD 2 (gConsD (gTpD 3 (gConsD (gNm 2) (gConsD (gNm 3) (gConsD (gNm 4) gNilD)))) (gConsD (gTpD 3 (gConsD (gNm 5) (gConsD (gNm 6) (gConsD (gNm 7) gNilD)))) gNilD)))) (tSq (tIfD (tOr (tNt (tTru (tCaP 2 F_is_row (tConsA (tV 1) (tConsA (tK (.int 6)) tNilA))))) (tOr (tNt (tTru (tCa cIsi (tConsA (tB2 oIx (tV 1) (tK (.int 4))) (tConsA (tK (.ty "bool")) tNilA))))) (tNt (tTru (tCa cIsi (tConsA (tB2 oIx (tV 1) (tK (.int 5))) (tConsA (tK (.ty "bool")) tNilA))))))) (tRt (tK (.bl false))) tNx) (tSq (tIfD (tNt (tTru (tCa cAll (tConsA (tLcD (iTp (tSlD (tV 1) tNoP (tSomeP (tK (.int 4))))) (c1 14) tYesD (tCaP 3 F_is_within (tConsA (tV 14) (tConsA (tB1 oNeg (tK c_FAR)) (tConsA (tK c_FAR) tNilA)))) [14]) tNilA)))) (tRt (tK (.bl false))) tNx) (tSq (tAs (tV 1) (gTpD 6 (gConsD (gNm 8) (gConsD (gNm 9) (gConsD (gNm 10) (gConsD (gNm 11) (gConsD (gNm 12) (gConsD (gNm 13) gNilD)))))))) (tSq (tIfD (tTru (tV 13)) (tRt (tB2 oEq (tV 1) (tK c_LOCKED))) tNx) (tSq (tIfD (tOr (tNt (tTB (tCh oLe oLe (tK (.int 0)) (tV 9) (tV 5)))) (tOr (tTB (tB2 oNotIn (tV 11) (tTupD (tConsA (tK (.int 0)) (tConsA (tV 9) tNilA))))) (tAn (tTru (tV 12)) (tNt (tTru (tV 7)))))) (tRt (tK (.bl false))) tNx) (tSq (tIfD (tTB (tB2 oEq (tV 9) (tK (.int 0)))) (tRt (tAnV (tB2 oEq (tV 10) (tK (.int 0))) (tCh oLe oLe (tB1 oNeg (tV 2)) (tV 8) (tV 2)))) tNx) (tRt (tCh oLe oLe (tK (.int 1)) (tV 10) (tV 3))))))))))
abbrev n_fits : Nat := 15
/-- is_stand: 0 plan, 1 value -/
def t_is_stand : tS := (tSq (tDp (tCaP 1 F_look_at_plan (tConsA (tV 0) tNilA))) (tRt (tCaP 2 F_fits (tConsA (tV 0) (tConsA (tV 1) tNilA)))))
abbrev n_is_stand : Nat := 2
/-- _law_spring: 0 script, 1 at, 2 cell, 3 mixed -/
def t_law_spring : tS := (tSq (tSt (tK (.int 7)) 2) (tSq (tIfD (tTB (tB2 oLt (tV 1) (tCa cLen (tConsA (tV 0) tNilA)))) (tSt (tCa cAbs (tConsA (tB2 oIx (tV 0) (tV 1)) tNilA)) 2) tNx) (tSq (tSt (tB2 oMod (tCa cInt (tConsA (tB2 oAdd (tB2 oAdd (tB2 oMul (tV 2) (tK (.int 863))) (tB2 oMul (tK (.int 524287)) (tV 1))) (tK (.int 1))) tNilA)) (tK (.int 999999999989))) 3) (tRt (tLstO (tConsA (tIfE (tTB (tB2 oGe (tV 2) (tB2 oPow (tK (.int 10)) (tK (.int 18))))) (tV 2) (tK (.int 0))) (tConsA (tV 3) tNilA)))))))
abbrev n_law_spring : Nat := 4
/-- _law_pick: 0 spring, 1 many, 2 digit -/
def t_law_pick : tS := (tSq (tIfD (tTB (tB2 oGt (tB2 oIx (tV 0) (tK (.int 0))) (tK (.int 0)))) (tSq (tSt (tB2 oMod (tCa cInt (tConsA (tB2 oIx (tV 0) (tK (.int 0))) tNilA)) (tV 1)) 2) (tSq (tAs (tB2 oDiv (tB2 oIx (tV 0) (tK (.int 0))) (tV 1)) (gSb (tV 0) (tK (.int 0)) sLst)) (tRt (tV 2)))) tNx) (tSq (tAs (tB2 oMod (tCa cInt (tConsA (tB2 oAdd (tB2 oMul (tB2 oIx (tV 0) (tK (.int 1))) (tK (.int 393555900739))) (tK (.int 8191))) tNilA)) (tK (.int 999999999989))) (gSb (tV 0) (tK (.int 1)) sLst)) (tRt (tB2 oMod (tCa cInt (tConsA (tB2 oDiv (tB2 oIx (tV 0) (tK (.int 1))) (tK (.int 4093))) tNilA)) (tV 1)))))
abbrev n_law_pick : Nat := 3
/-- _law_kind: 0 value -/
def t_law_kind : tS := (tSq (tIfD (tOr (tTB (tB2 oIsN (tV 0) (tK .non))) (tTru (tCa cIsi (tConsA (tV 0) (tConsA (tK (.ty "bool")) tNilA))))) (tRt (tIfE (tTB (tB2 oIsN (tV 0) (tK .non))) (tK (.int 0)) (tK (.int 1)))) tNx) (tSq (tIfD (tTru (tCa cIsi2 (tConsA (tV 0) (tConsA (tTupD (tConsA (tK (.ty "list")) (tConsA (tK (.ty "tuple")) tNilA))) tNilA)))) (tRt (tIfE (tTru (tCa cIsi (tConsA (tV 0) (tConsA (tK (.ty "list")) tNilA)))) (tK (.int 2)) (tK (.int 3)))) tNx) (tRt (tIfE (tTru (tCa cIsi (tConsA (tV 0) (tConsA (tK (.ty "int")) tNilA)))) (tK (.int 4)) (tIfE (tTru (tCa cIsi (tConsA (tV 0) (tConsA (tK (.ty "str")) tNilA)))) (tK (.int 5)) (tK (.int 6)))))))
abbrev n_law_kind : Nat := 1
/-- _law_twins: 0 one, 1 other, 2 a, 3 b -/
def t_law_twins (m : Nat) : tS := (tSq (tIfD (tTB (tB2 oNe (tCaP 1 F_law_kind (tConsA (tV 0) tNilA)) (tCaP 1 F_law_kind (tConsA (tV 1) tNilA)))) (tRt (tK (.bl false))) tNx) (tSq (tIfD (tTB (tB2 oIn (tCaP 1 F_law_kind (tConsA (tV 0) tNilA)) (tLstD (tConsA (tK (.int 2)) (tConsA (tK (.int 3)) tNilA))))) (tRt (tAnV (tB2 oEq (tCa cLen (tConsA (tV 0) tNilA)) (tCa cLen (tConsA (tV 1) tNilA))) (tB2 oEq (tLcD (iZp (tConsA (tV 0) (tConsA (tV 1) tNilA))) (cN [2, 3]) (tNt (tTru (tCaP 2 (F_law_twins m) (tConsA (tV 2) (tConsA (tV 3) tNilA))))) (tK (.int 1)) [2, 3]) (tLstD tNilA)))) tNx) (tRt (tB2 oEq (tV 0) (tV 1)))))
abbrev n_law_twins : Nat := 4
/-- _law_program: 0 spring -/
def t_law_program : tS := (tRt (tTupD (tConsA (tCaM 2 F_law_pick (tConsA (tV 0) (tConsA (tK (.int 4)) tNilA))) (tConsA (tB2 oAdd (tK (.int 1)) (tCaM 2 F_law_pick (tConsA (tV 0) (tConsA (tK (.int 3)) tNilA)))) (tConsA (tB2 oIx (tLstD (tConsA (tK (.str "each")) (tConsA (tK (.str "sum")) tNilA))) (tCaM 2 F_law_pick (tConsA (tV 0) (tConsA (tK (.int 2)) tNilA)))) tNilA)))))
abbrev n_law_program : Nat := 1
/-- _law_plan: 0 spring, 1 world -/
def t_law_plan : tS := (tSq (tSt (tTupD (tConsA (tB2 oAdd (tK (.int 1)) (tCaM 2 F_law_pick (tConsA (tV 0) (tConsA (tK (.int 3)) tNilA)))) (tConsA (tB2 oIx (tLstD (tConsA (tK (.int 0)) (tConsA (tK (.int 1)) (tConsA (tK (.int 1)) (tConsA (tK (.int 2)) tNilA))))) (tCaM 2 F_law_pick (tConsA (tV 0) (tConsA (tK (.int 4)) tNilA)))) (tConsA (tB2 oEq (tCaM 2 F_law_pick (tConsA (tV 0) (tConsA (tK (.int 3)) tNilA))) (tK (.int 0))) tNilA)))) 1) (tRt (tTupD (tConsA (tCaM 1 F_law_program (tConsA (tV 0) tNilA)) (tConsA (tV 1) tNilA)))))
abbrev n_law_plan : Nat := 2
/-- _law_small: 0 spring, 1 tolerance, 2 wait, 3 way, 4 most, 5 spread, 6 leaning -/
def t_law_small : tS := (tSq (tAs (tCaM 1 F_law_plan (tConsA (tV 0) tNilA)) (gTpD 2 (gConsD (gTpD 3 (gConsD (gNm 1) (gConsD (gNm 2) (gConsD (gNm 3) gNilD)))) (gConsD (gTpD 3 (gConsD (gNm 4) (gConsD (gNm 5) (gConsD (gNm 6) gNilD)))) gNilD)))) (tRt (tTupD (tConsA (tTupD (tConsA (tCa cMin (tConsA (tK (.int 2)) (tConsA (tV 1) tNilA))) (tConsA (tCa cMin (tConsA (tK (.int 2)) (tConsA (tV 2) tNilA))) (tConsA (tV 3) tNilA)))) (tConsA (tTupD (tConsA (tCa cMin (tConsA (tK (.int 2)) (tConsA (tV 4) tNilA))) (tConsA (tCa cMin (tConsA (tK (.int 1)) (tConsA (tV 5) tNilA))) (tConsA (tV 6) tNilA)))) tNilA)))))
abbrev n_law_small : Nat := 7
/-- _law_begin:  -/
def t_law_begin : tS := (tRt (tTupD (tConsA (tK (.int 0)) (tConsA (tK (.int 0)) (tConsA (tK (.int 0)) (tConsA (tK (.int 0)) (tConsA (tK (.bl false)) (tConsA (tK (.bl false)) tNilA))))))))
abbrev n_law_begin : Nat := 0
/-- _law_deeds: 0 plan, 1 stand, 2 most, 3 spread, 4 leaning, 5 found, 6 weight, 7 more -/
def t_law_deeds : tS := (tSq (tAs (tB2 oIx (tV 0) (tK (.int 1))) (gTpD 3 (gConsD (gNm 2) (gConsD (gNm 3) (gConsD (gNm 4) gNilD))))) (tSq (tIfD (tTru (tB2 oIx (tV 1) (tK (.int 5)))) (tRt (tLstD (tConsA (tTupD (tConsA (tK (.str "free")) tNilA)) tNilA))) tNx) (tSq (tSt (tLstO (tConsA (tTupD (tConsA (tK (.str "wait")) tNilA)) tNilA)) 5) (tSq (tFr (iRg2 (tConsA (tK (.int 1)) (tConsA (tB2 oAdd (tV 2) (tK (.int 1))) tNilA))) (gNm 6) (tSq (tDp (tAppend (tV 5) (tConsA (tTupD (tConsA (tK (.str "hide")) (tConsA (tV 6) tNilA))) tNilA))) (tIfD (tTB (tB2 oEq (tB2 oIx (tV 1) (tK (.int 1))) (tK (.int 0)))) (tDp (tAppend (tV 5) (tConsA (tTupD (tConsA (tK (.str "read")) (tConsA (tV 6) tNilA))) tNilA))) tNx))) (tSq (tFr (iRg2 (tConsA (tB1 oNeg (tV 3)) (tConsA (tB2 oAdd (tV 3) (tK (.int 1))) tNilA))) (gNm 7) (tIfD (tAn (tTB (tB2 oNe (tB2 oIx (tV 1) (tK (.int 3))) (tK (.int 0)))) (tTB (tB2 oGt (tB2 oAdd (tB2 oIx (tV 1) (tK (.int 3))) (tV 7)) (tK (.int 0))))) (tDp (tAppend (tV 5) (tConsA (tTupD (tConsA (tK (.str "lay")) (tConsA (tV 7) tNilA))) tNilA))) tNx)) (tSq (tIfD (tTru (tV 4)) (tDp (tAppend (tV 5) (tConsA (tIfE (tTru (tB2 oIx (tV 1) (tK (.int 4)))) (tTupD (tConsA (tK (.str "off")) tNilA)) (tTupD (tConsA (tK (.str "lean")) tNilA))) tNilA))) tNx) (tRt (tCa cSorted (tConsA (tV 5) tNilA)))))))))
abbrev n_law_deeds : Nat := 8
/-- _law_done: 0 plan, 1 stand, 2 deed, 3 tolerance, 4 wait, 5 way, 6 off, 7 want, 8 left, 9 hand, 10 leans, 11 locked, 12 word, 13 number, 14 before, 15 weight -/
def t_law_done : tS := (tSq (tAs (tB2 oIx (tV 0) (tK (.int 0))) (gTpD 3 (gConsD (gNm 3) (gConsD (gNm 4) (gConsD (gNm 5) gNilD))))) (tSq (tAs (tV 1) (gTpD 6 (gConsD (gNm 6) (gConsD (gNm 7) (gConsD (gNm 8) (gConsD (gNm 9) (gConsD (gNm 10) (gConsD (gNm 11) gNilD)))))))) (tSq (tAs (tSlD (tB2 oAdd (tV 2) (tTupD (tConsA (tK (.int 0)) tNilA))) tNoP (tSomeP (tK (.int 2)))) (gTpD 2 (gConsD (gNm 12) (gConsD (gNm 13) gNilD)))) (tSq (tIfD (tTB (tB2 oEq (tV 12) (tK (.str "free")))) (tRt (tTupD (tConsA (tCaP 0 F_law_begin tNilA) (tConsA (tK (.str "")) (tConsA (tK (.int 0)) tNilA))))) tNx) (tSq (tIfD (tTB (tB2 oEq (tV 12) (tK (.str "read")))) (tRt (tTupD (tConsA (tTupD (tConsA (tV 6) (tConsA (tV 13) (tConsA (tV 4) (tConsA (tV 13) (tConsA (tV 10) (tConsA (tK (.bl false)) tNilA))))))) (tConsA (tK (.str "")) (tConsA (tK (.int 0)) tNilA))))) tNx) (tSq (tP2 14 15 (tConsA (tV 6) (tConsA (tK (.int 0)) tNilA))) (tSq (tIfD (tTB (tB2 oEq (tV 12) (tK (.str "hide")))) (tP2 6 15 (tConsA (tB2 oAdd (tV 6) (tV 13)) (tConsA (tV 13) tNilA))) (tIfD (tTB (tB2 oEq (tV 12) (tK (.str "lay")))) (tP2 6 9 (tConsA (tB2 oAdd (tB2 oAdd (tV 6) (tV 9)) (tV 13)) (tConsA (tK (.int 0)) tNilA))) (tIfD (tTB (tB2 oEq (tV 12) (tK (.str "lean")))) (tP2 6 10 (tConsA (tB2 oAdd (tV 6) (tK (.int 1))) (tConsA (tK (.bl true)) tNilA))) (tIfD (tTB (tB2 oEq (tV 12) (tK (.str "off")))) (tP2 6 10 (tConsA (tB2 oSub (tV 6) (tK (.int 1))) (tConsA (tK (.bl false)) tNilA))) tNx)))) (tSq (tIfD (tTB (tB2 oNe (tV 7) (tK (.int 0)))) (tSq (tIfD (tAn (tTB (tB2 oGt (tV 6) (tV 14))) (tTB (tB2 oLe (tCa cAbs (tConsA (tB2 oSub (tV 6) (tV 7)) tNilA)) (tV 3)))) (tRt (tTupD (tConsA (tTupD (tConsA (tDgt [("each", 0)] (tV 5) (tB2 oSub (tV 6) (tV 7))) (tConsA (tK (.int 0)) (tConsA (tK (.int 0)) (tConsA (tK (.int 0)) (tConsA (tV 10) (tConsA (tK (.bl false)) tNilA))))))) (tConsA (tK (.str "accepts")) (tConsA (tB2 oSub (tV 15) (tV 9)) tNilA))))) tNx) (tIfD (tTB (tB2 oNe (tV 8) (tK (.int 1)))) (tRt (tTupD (tConsA (tTupD (tConsA (tV 6) (tConsA (tV 7) (tConsA (tB2 oSub (tV 8) (tK (.int 1))) (tConsA (tV 9) (tConsA (tV 10) (tConsA (tK (.bl false)) tNilA))))))) (tConsA (tK (.str "")) (tConsA (tV 15) tNilA))))) tNx)) (tIfD (tTB (tB2 oLe (tCa cAbs (tConsA (tV 6) tNilA)) (tV 3))) (tRt (tTupD (tConsA (tTupD (tConsA (tV 6) (tConsA (tK (.int 0)) (tConsA (tK (.int 0)) (tConsA (tK (.int 0)) (tConsA (tV 10) (tConsA (tK (.bl false)) tNilA))))))) (tConsA (tK (.str "")) (tConsA (tV 15) tNilA))))) tNx)) (tRt (tTupD (tConsA (tTupD (tConsA (tK (.int 0)) (tConsA (tK (.int 0)) (tConsA (tK (.int 0)) (tConsA (tK (.int 0)) (tConsA (tK (.bl false)) (tConsA (tK (.bl true)) tNilA))))))) (tConsA (tK (.str "calls")) (tConsA (tV 15) tNilA)))))))))))))
abbrev n_law_done : Nat := 16
/-- _law_int: 0 value, 1 low, 2 high -/
def t_law_int : tS := (tRt (tAnV (tCa cIsi (tConsA (tV 0) (tConsA (tK (.ty "int")) tNilA))) (tAnV (tNtV (tCa cIsi (tConsA (tV 0) (tConsA (tK (.ty "bool")) tNilA)))) (tCh oLe oLe (tV 1) (tV 0) (tV 2)))))
abbrev n_law_int : Nat := 3
/-- _law_made: 0 value, 1 many -/
def t_law_made : tS := (tRt (tAnV (tCa cIsi (tConsA (tV 0) (tConsA (tK (.ty "tuple")) tNilA))) (tB2 oEq (tCa cLen (tConsA (tV 0) tNilA)) (tV 1))))
abbrev n_law_made : Nat := 2
/-- _law_good_program: 0 value -/
def t_law_good_program : tS := (tSq (tIfD (tOr (tNt (tTru (tCaP 2 F_law_made (tConsA (tV 0) (tConsA (tK (.int 3)) tNilA))))) (tOr (tNt (tTru (tCa cIsi (tConsA (tB2 oIx (tV 0) (tK (.int 2))) (tConsA (tK (.ty "str")) tNilA))))) (tTB (tB2 oNotIn (tB2 oIx (tV 0) (tK (.int 2))) (tLstD (tConsA (tK (.str "each")) (tConsA (tK (.str "sum")) tNilA))))))) (tRt (tK (.bl false))) tNx) (tRt (tAnV (tCaP 3 F_law_int (tConsA (tB2 oIx (tV 0) (tK (.int 0))) (tConsA (tK (.int 0)) (tConsA (tK (.int 3)) tNilA)))) (tCaP 3 F_law_int (tConsA (tB2 oIx (tV 0) (tK (.int 1))) (tConsA (tK (.int 1)) (tConsA (tK (.int 3)) tNilA)))))))
abbrev n_law_good_program : Nat := 1
/-- _law_good_plan: 0 value -/
def t_law_good_plan : tS := (tSq (tIfD (tOr (tNt (tTru (tCaP 2 F_law_made (tConsA (tV 0) (tConsA (tK (.int 2)) tNilA))))) (tOr (tNt (tTru (tCaP 1 F_law_good_program (tConsA (tB2 oIx (tV 0) (tK (.int 0))) tNilA)))) (tNt (tTru (tCaP 2 F_law_made (tConsA (tB2 oIx (tV 0) (tK (.int 1))) (tConsA (tK (.int 3)) tNilA))))))) (tRt (tK (.bl false))) tNx) (tRt (tAnV (tCaP 3 F_law_int (tConsA (tB2 oIx (tB2 oIx (tV 0) (tK (.int 1))) (tK (.int 0))) (tConsA (tK (.int 1)) (tConsA (tK (.int 3)) tNilA)))) (tAnV (tCaP 3 F_law_int (tConsA (tB2 oIx (tB2 oIx (tV 0) (tK (.int 1))) (tK (.int 1))) (tConsA (tK (.int 0)) (tConsA (tK (.int 2)) tNilA)))) (tCa cIsi (tConsA (tB2 oIx (tB2 oIx (tV 0) (tK (.int 1))) (tK (.int 2))) (tConsA (tK (.ty "bool")) tNilA)))))))
abbrev n_law_good_plan : Nat := 1
/-- _law_good_stand: 0 plan, 1 value, 2 tolerance, 3 wait, 4 way, 5 off, 6 want, 7 left, 8 hand, 9 leans, 10 locked, 11 one -/
def t_law_good_stand : tS := (tSq (tAs (tB2 oIx (tV 0) (tK (.int 0))) (gTpD 3 (gConsD (gNm 2) (gConsD (gNm 3) (gConsD (gNm 4) gNilD))))) (tSq (tIfD (tOr (tNt (tTru (tCaP 2 F_law_made (tConsA (tV 1) (tConsA (tK (.int 6)) tNilA))))) (tTB (tB2 oNe (tLcD (iTp (tSlD (tV 1) tNoP (tSomeP (tK (.int 4))))) (c1 11) (tNt (tTru (tCaP 3 F_law_int (tConsA (tV 11) (tConsA (tB1 oNeg (tK (.int 20))) (tConsA (tK (.int 20)) tNilA)))))) (tV 11) [11]) (tLstD tNilA)))) (tRt (tK (.bl false))) tNx) (tSq (tIfD (tTB (tB2 oNe (tLcD (iTp (tSlD (tV 1) (tSomeP (tK (.int 4))) tNoP)) (c1 11) (tNt (tTru (tCa cIsi (tConsA (tV 11) (tConsA (tK (.ty "bool")) tNilA))))) (tV 11) [11]) (tLstD tNilA))) (tRt (tK (.bl false))) tNx) (tSq (tAs (tV 1) (gTpD 6 (gConsD (gNm 5) (gConsD (gNm 6) (gConsD (gNm 7) (gConsD (gNm 8) (gConsD (gNm 9) (gConsD (gNm 10) gNilD)))))))) (tSq (tIfD (tTru (tV 10)) (tRt (tB2 oEq (tLstD (tConsA (tV 5) (tConsA (tV 6) (tConsA (tV 7) (tConsA (tV 8) (tConsA (tV 9) tNilA)))))) (tLstD (tConsA (tK (.int 0)) (tConsA (tK (.int 0)) (tConsA (tK (.int 0)) (tConsA (tK (.int 0)) (tConsA (tK (.bl false)) tNilA)))))))) tNx) (tSq (tIfD (tOr (tAn (tTru (tV 9)) (tNt (tTru (tB2 oIx (tB2 oIx (tV 0) (tK (.int 1))) (tK (.int 2)))))) (tTB (tB2 oNotIn (tV 6) (tLsR1 (tConsA (tB2 oAdd (tB2 oIx (tB2 oIx (tV 0) (tK (.int 1))) (tK (.int 0))) (tK (.int 1))) tNilA))))) (tRt (tK (.bl false))) tNx) (tSq (tIfD (tTB (tB2 oEq (tV 6) (tK (.int 0)))) (tRt (tAnV (tB2 oEq (tV 7) (tK (.int 0))) (tAnV (tB2 oEq (tV 8) (tK (.int 0))) (tB2 oLe (tCa cAbs (tConsA (tV 5) tNilA)) (tV 2))))) tNx) (tRt (tAnV (tB2 oIn (tV 8) (tLstD (tConsA (tK (.int 0)) (tConsA (tV 6) tNilA)))) (tB2 oIn (tV 7) (tLsR2 (tConsA (tK (.int 1)) (tConsA (tB2 oAdd (tV 3) (tK (.int 1))) tNilA)))))))))))))
abbrev n_law_good_stand : Nat := 12
/-- _law_bent: 0 spring, 1 value, 2 at, 3 way, 4 some -/
def t_law_bent (m : Nat) : tS := (tSq (tIfD (tAn (tTru (tCa cIsi (tConsA (tV 1) (tConsA (tK (.ty "tuple")) tNilA)))) (tAn (tTB (tB2 oNe (tV 1) (tTupD tNilA))) (tTB (tB2 oGt (tCaM 2 F_law_pick (tConsA (tV 0) (tConsA (tK (.int 6)) tNilA))) (tK (.int 0)))))) (tSq (tP2 2 3 (tConsA (tCaM 2 F_law_pick (tConsA (tV 0) (tConsA (tCa cLen (tConsA (tV 1) tNilA)) tNilA))) (tConsA (tCaM 2 F_law_pick (tConsA (tV 0) (tConsA (tK (.int 8)) tNilA))) tNilA))) (tSq (tIfD (tTB (tB2 oEq (tV 3) (tK (.int 0)))) (tRt (tB2 oAdd (tSlD (tV 1) tNoP (tSomeP (tV 2))) (tSlD (tV 1) (tSomeP (tB2 oAdd (tV 2) (tK (.int 1)))) tNoP))) tNx) (tSq (tIfD (tTB (tB2 oEq (tV 3) (tK (.int 1)))) (tRt (tB2 oAdd (tB2 oAdd (tSlD (tV 1) tNoP (tSomeP (tV 2))) (tSlD (tV 1) (tSomeP (tV 2)) (tSomeP (tB2 oAdd (tV 2) (tK (.int 1)))))) (tSlD (tV 1) (tSomeP (tV 2)) tNoP))) tNx) (tSq (tIfD (tTB (tB2 oEq (tV 3) (tK (.int 2)))) (tRt (tRev (tV 1))) tNx) (tRt (tB2 oAdd (tB2 oAdd (tSlD (tV 1) tNoP (tSomeP (tV 2))) (tTupD (tConsA (tCaM 2 (F_law_bent m) (tConsA (tV 0) (tConsA (tB2 oIx (tV 1) (tV 2)) tNilA))) tNilA))) (tSlD (tV 1) (tSomeP (tB2 oAdd (tV 2) (tK (.int 1)))) tNoP))))))) tNx) (tSq (tSt (tLstD (tConsA (tK .non) (tConsA (tK (.bl true)) (tConsA (tK (.bl false)) (tConsA (tK (.int 0)) (tConsA (tK (.int 1)) (tConsA (tK (.int 2)) (tConsA (tK (.int 3)) (tConsA (tK (.int 4)) (tConsA (tB1 oNeg (tK (.int 1))) (tConsA (tB1 oNeg (tK (.int 2))) (tConsA (tK (.int 20)) (tConsA (tK (.int 21)) (tConsA (tB1 oNeg (tK (.int 20))) (tConsA (tB1 oNeg (tK (.int 21))) (tConsA (tB2 oPow (tK (.int 10)) (tK (.int 30))) (tConsA (tK (.str "")) (tConsA (tK (.str "each")) (tConsA (tK (.str "sum")) tNilA))))))))))))))))))) 4) (tSq (tSt (tB2 oAdd (tV 4) (tLstD (tConsA (tTupD tNilA) (tConsA (tLstD tNilA) (tConsA (tTupD (tConsA (tK (.int 0)) (tConsA (tK (.int 1)) (tConsA (tK (.str "each")) tNilA)))) (tConsA (tTupD (tConsA (tK (.int 1)) (tConsA (tK (.int 0)) (tConsA (tK (.bl false)) tNilA)))) (tConsA (tTupD (tConsA (tK (.int 0)) (tConsA (tK (.int 0)) (tConsA (tK (.int 0)) (tConsA (tK (.int 0)) (tConsA (tK (.bl false)) (tConsA (tK (.bl true)) tNilA))))))) tNilA))))))) 4) (tRt (tB2 oIx (tV 4) (tCaM 2 F_law_pick (tConsA (tV 0) (tConsA (tCa cLen (tConsA (tV 4) tNilA)) tNilA))))))))
abbrev n_law_bent : Nat := 5

/-! ### small facts -/
mutual
theorem fit_low : ∀ (d : D) (n m : Nat), fitD n d = true → lowD m d
  | .non, _, _, _ => by simp only [lowD]
  | .bl _, _, _, _ => by simp only [lowD]
  | .int _, _, _, _ => by simp only [lowD]
  | .str _, _, _, _ => by simp only [lowD]
  | .tup xs, n, m, h => by
    obtain ⟨k, rfl, h'⟩ := fitD_tup h
    simp only [lowD]; exact fit_lows xs k m h'
  | .lst xs, n, m, h => by
    obtain ⟨k, rfl, h'⟩ := fitD_lst h
    simp only [lowD]; exact fit_lows xs k m h'
  | .dct _ _, n, _, h => by cases n <;> simp [fitD] at h
  | .ob _, n, _, h => by cases n <;> simp [fitD] at h
  | .adr _, _, _, _ => by simp only [lowD]
  | .ty _, _, _, _ => by simp only [lowD]
theorem fit_lows : ∀ (xs : List D) (n m : Nat), (∀ x ∈ xs, fitD n x = true) → lowDs m xs
  | [], _, _, _ => by simp only [lowDs]
  | x :: xs, n, m, h => by
    simp only [lowDs]
    exact ⟨fit_low x n m (h x List.mem_cons_self), fit_lows xs n m fun y hy => h y (List.mem_cons_of_mem _ hy)⟩
end
mutual
theorem fit_mono : ∀ (d : D) (n m : Nat), n ≤ m → fitD n d = true → fitD m d = true
  | .non, _, _, _, _ => by simp [fitD]
  | .bl _, _, _, _, _ => by simp [fitD]
  | .int _, _, _, _, _ => by simp [fitD]
  | .str x, n, m, _, h => by
    have h' : PyData.strOk x = true := by cases n <;> simpa [fitD] using h
    cases m <;> simpa [fitD] using h'
  | .tup xs, n, m, hl, h => by
    obtain ⟨k, rfl, h'⟩ := fitD_tup h
    cases m with
    | zero => omega
    | succ m => simp only [fitD, List.all_eq_true]; exact fit_monos xs k m (by omega) h'
  | .lst xs, n, m, hl, h => by
    obtain ⟨k, rfl, h'⟩ := fitD_lst h
    cases m with
    | zero => omega
    | succ m => simp only [fitD, List.all_eq_true]; exact fit_monos xs k m (by omega) h'
  | .dct _ _, n, _, _, h => by cases n <;> simp [fitD] at h
  | .ob _, n, _, _, h => by cases n <;> simp [fitD] at h
  | .adr _, n, _, _, h => by cases n <;> simp [fitD] at h
  | .ty _, n, _, _, h => by cases n <;> simp [fitD] at h
theorem fit_monos : ∀ (xs : List D) (n m : Nat), n ≤ m → (∀ x ∈ xs, fitD n x = true) → ∀ x ∈ xs, fitD m x = true
  | [], _, _, _, _ => fun _ h => nomatch h
  | x :: xs, n, m, hl, h => fun y hy => by
    rcases List.mem_cons.mp hy with e | hy
    · rw [e]; exact fit_mono x n m hl (h x List.mem_cons_self)
    · exact fit_monos xs n m hl (fun z hz => h z (List.mem_cons_of_mem _ hz)) y hy
end
theorem fit_nodct {n : Nat} {ks vs : List D} : fitD n (.dct ks vs) = true → False := by cases n <;> simp [fitD]
theorem fit_noob {n k : Nat} : fitD n (.ob k) = true → False := by cases n <;> simp [fitD]
theorem fit_noadr {n : Nat} {a : Addr} : fitD n (.adr a) = true → False := by cases n <;> simp [fitD]
theorem fit_noty {n : Nat} {a : String} : fitD n (.ty a) = true → False := by cases n <;> simp [fitD]
theorem fit_tup {n : Nat} {xs : List D} (h : fitD (n + 1) (.tup xs) = true) : ∀ x ∈ xs, fitD n x = true := by simpa [fitD] using h
/-- the built-in type of data -/
def tyF : D → String
  | .non => "NoneType"
  | .bl _ => "bool"
  | .int _ => "int"
  | .str _ => "str"
  | .lst _ => "list"
  | .tup _ => "tuple"
  | _ => "?"
def isIntB : D → Bool
  | .int _ => true
  | .bl _ => true
  | _ => false
def isTupB : D → Bool
  | .tup _ => true
  | _ => false
def isLstB : D → Bool
  | .lst _ => true
  | _ => false
def isStrB : D → Bool
  | .str _ => true
  | _ => false
theorem tyD_fit {n : Nat} {d : D} {L : Sto} (h : fitD n d = true) : tyD L d = some (tyF d) := by
  unfold tyD
  rw [fit_view h]
  cases d with
  | dct _ _ => exact (fit_nodct h).elim
  | ob _ => exact (fit_noob h).elim
  | adr _ => exact (fit_noadr h).elim
  | ty _ => exact (fit_noty h).elim
  | _ => rfl
theorem u_isi {d : D} {c : String} {L : Sto} {R : QE} (f : fitD 40 d = true) (hc : c ∈ (["bool", "int", "str", "list", "tuple"] : List String)) (r : R (.bl (isTy (tyF d) c)) L) : cIsi [d, .ty c] L R := by
  show isiD L d (.ty c) R
  unfold isiD
  rw [tyD_fit f]
  exact ⟨hc, r⟩
theorem u_isB {d : D} {L : Sto} {R : QE} (f : fitD 40 d = true) (r : R (.bl (isBoolB d)) L) : cIsi [d, .ty "bool"] L R := u_isi f (by decide) (by
  have e : isTy (tyF d) "bool" = isBoolB d := by cases d <;> rfl
  rw [e]; exact r)
theorem u_isI {d : D} {L : Sto} {R : QE} (f : fitD 40 d = true) (r : R (.bl (isIntB d)) L) : cIsi [d, .ty "int"] L R := u_isi f (by decide) (by
  have e : isTy (tyF d) "int" = isIntB d := by cases d <;> rfl
  rw [e]; exact r)
theorem u_isT {d : D} {L : Sto} {R : QE} (f : fitD 40 d = true) (r : R (.bl (isTupB d)) L) : cIsi [d, .ty "tuple"] L R := u_isi f (by decide) (by
  have e : isTy (tyF d) "tuple" = isTupB d := by cases d <;> rfl
  rw [e]; exact r)
theorem u_isS {d : D} {L : Sto} {R : QE} (f : fitD 40 d = true) (r : R (.bl (isStrB d)) L) : cIsi [d, .ty "str"] L R := u_isi f (by decide) (by
  have e : isTy (tyF d) "str" = isStrB d := by cases d <;> rfl
  rw [e]; exact r)
theorem u_isL {d : D} {L : Sto} {R : QE} (f : fitD 40 d = true) (r : R (.bl (isLstB d)) L) : cIsi [d, .ty "list"] L R := u_isi f (by decide) (by
  have e : isTy (tyF d) "list" = isLstB d := by cases d <;> rfl
  rw [e]; exact r)
theorem u_isLT {d : D} {L : Sto} {R : QE} (f : fitD 40 d = true) (r : R (.bl (isLstB d || isTupB d)) L) : cIsi2 [d, .tup [.ty "list", .ty "tuple"]] L R := by
  show isiD2 L d (.tup [.ty "list", .ty "tuple"]) R
  unfold isiD2
  rw [tyD_fit f]
  refine ⟨⟨by decide, by decide⟩, ?_⟩
  have e : (isTy (tyF d) "list" || isTy (tyF d) "tuple") = (isLstB d || isTupB d) := by cases d <;> rfl
  rw [e]; exact r
theorem rB {R : QE} {L : Sto} {a b : Bool} (r : R (.bl a) L) (e : b = a) : R (.bl b) L := by rw [e]; exact r
theorem within_fit {v : D} {lo hi : Int} (h : isWithinB v lo hi = true) : ∃ i, v = .int i ∧ lo ≤ i ∧ i ≤ hi := by
  cases v with
  | int i => simp [isWithinB] at h; exact ⟨i, rfl, h⟩
  | _ => simp [isWithinB] at h
theorem bool_fit {v : D} (h : isBoolB v = true) : ∃ i, v = .bl i := by
  cases v with
  | bl i => exact ⟨i, rfl⟩
  | _ => simp [isBoolB] at h
theorem row_fit {v : D} {n : Int} (h : isRowB v n = true) : ∃ xs, v = .tup xs ∧ (xs.length : Int) = n := by
  cases v with
  | tup xs => simp [isRowB] at h; exact ⟨xs, rfl, h⟩
  | _ => simp [isRowB] at h
theorem str_fit {v : D} (h : isStrB v = true) : ∃ s, v = .str s := by
  cases v with
  | str s => exact ⟨s, rfl⟩
  | _ => simp [isStrB] at h

/-! ### promises used -/
section
variable {R : QE} {RE : QX} {v x a b : D} {lo hi n : Int} {P : Pl} {S : Sd} {m : Nat}
theorem u_is_within (f : fitD 30 v = true) (r : R (.bl (isWithinB v lo hi)) []) : F_is_within [v, .int lo, .int hi] [] R RE := ⟨rfl, v, lo, hi, rfl, f, r⟩
theorem u_law_int (f : fitD 30 v = true) (r : R (.bl (isWithinB v lo hi)) []) : F_law_int [v, .int lo, .int hi] [] R RE := ⟨rfl, v, lo, hi, rfl, f, r⟩
theorem u_is_row (f : fitD 30 v = true) (r : R (.bl (isRowB v n)) []) : F_is_row [v, .int n] [] R RE := ⟨rfl, v, n, rfl, f, r⟩
theorem u_law_made (f : fitD 30 v = true) (r : R (.bl (isRowB v n)) []) : F_law_made [v, .int n] [] R RE := ⟨rfl, v, n, rfl, f, r⟩
theorem u_is_program (f : fitD 30 v = true) (r : R (.bl (isProgramB v)) []) : F_is_program [v] [] R RE := ⟨rfl, v, rfl, f, r⟩
theorem u_law_good_program (f : fitD 30 v = true) (r : R (.bl (isProgramB v)) []) : F_law_good_program [v] [] R RE := ⟨rfl, v, rfl, f, r⟩
theorem u_is_plan (f : fitD 30 v = true) (r : R (.bl (isPlanB v)) []) : F_is_plan [v] [] R RE := ⟨rfl, v, rfl, f, r⟩
theorem u_law_good_plan (f : fitD 30 v = true) (r : R (.bl (isPlanB v)) []) : F_law_good_plan [v] [] R RE := ⟨rfl, v, rfl, f, r⟩
theorem u_law_kind (f : fitD 30 v = true) (r : R (.int (kindD v)) []) : F_law_kind [v] [] R RE := ⟨rfl, v, rfl, f, r⟩
end

/-! springs -/
section
variable {a m k : Int} {R : QE} {L pre : Sto} {j : Nat}
theorem u_pickM (o : O) (hs : ∃ a m, o = spr a m) (hj : L[j]? = some o) (h1 : 0 < k) (h2 : k < 2 ^ 64) (h : ∀ (i a m : Int), 0 ≤ i → i < k → R (.int i) (L.set j (spr a m))) : caM 2 F_law_pick R [.ob j, .int k] L := by
  obtain ⟨a, m, rfl⟩ := hs
  exact i_caM hj rfl ⟨trivial, trivial⟩ (by intro z; cases z) ⟨trivial, trivial, trivial⟩ ⟨rfl, ⟨a, m, rfl⟩, k, rfl, h1, h2, fun i a m h3 h4 => ⟨trivial, ⟨trivial, trivial, trivial⟩, h i a m h3 h4⟩⟩
theorem u_pick0 (h1 : 0 < k) (h2 : k < 2 ^ 64) (h : ∀ (i a m : Int), 0 ≤ i → i < k → R (.int i) [spr a m]) : caM 2 F_law_pick R [.ob 0, .int k] [spr a m] := u_pickM _ ⟨a, m, rfl⟩ rfl h1 h2 h
theorem u_pickG (hj : j = pre.length) (h1 : 0 < k) (h2 : k < 2 ^ 64) (h : ∀ (i a m : Int), 0 ≤ i → i < k → R (.int i) (pre ++ [spr a m])) : caM 2 F_law_pick R [.ob j, .int k] (pre ++ [spr a m]) := by
  subst hj
  refine u_pickM (spr a m) ⟨a, m, rfl⟩ (by rw [List.getElem?_concat_length]) h1 h2 fun i a' m' h3 h4 => ?_
  have e : (pre ++ [spr a m]).set pre.length (spr a' m') = pre ++ [spr a' m'] := by simp
  rw [e]; exact h i a' m' h3 h4
end
section
local macro_rules | `(tactic| walk_at "d") => `(tactic| (first
  | with_reducible refine Stp.go ?_
  | with_reducible refine And.intro ?_ ?_
  | with_reducible refine fun _ => ?_
  | ((with_reducible refine s_iteY ?_); refine And.intro rfl ?_)
  | ((with_reducible refine s_iteN ?_); refine And.intro rfl ?_)
  | with_reducible refine iteB (fun _ => ?_) (fun _ => ?_)
  | with_reducible refine i_eq ?_ ?_ ?_
  | with_reducible refine i_ne ?_ ?_ ?_
  | with_reducible refine rtp ?_ ?_
  | with_reducible refine u_isB ?_ ?_
  | with_reducible refine u_isI ?_ ?_
  | with_reducible refine u_isT ?_ ?_
  | with_reducible refine u_isS ?_ ?_
  | with_reducible refine u_isL ?_ ?_
  | with_reducible refine u_isLT ?_ ?_
  | with_reducible refine u_is_within ?_ ?_
  | with_reducible refine u_law_int ?_ ?_
  | with_reducible refine u_is_row ?_ ?_
  | with_reducible refine u_law_made ?_ ?_
  | with_reducible refine u_is_program ?_ ?_
  | with_reducible refine u_law_good_program ?_ ?_
  | with_reducible refine u_is_plan ?_ ?_
  | with_reducible refine u_law_good_plan ?_ ?_
  | with_reducible refine u_law_kind ?_ ?_
  | with_reducible refine u_pick0 ?_ ?_ ?_
  | with_reducible refine u_pickG ?_ ?_ ?_ ?_
  | with_reducible refine rtm3 ?_ ?_ ?_
  | ((with_reducible refine s_sLst ?_); refine Exists.intro _ (And.intro rfl (Exists.intro _ (And.intro rfl (Exists.intro _ (And.intro (by simp only [List.set_cons_zero, List.set_cons_succ]; rfl) ?_))))))
  | with_reducible refine i_oIC ?_ ?_
  | with_reducible refine i_addS ?_ ?_
  | with_reducible refine i_addT ?_ ?_
  | with_reducible refine i_addL ?_ ?_
  | with_reducible refine i_trS ?_ ?_
  | with_reducible refine i_lenS ?_ ?_
  | with_reducible refine i_slS ?_ ?_
  | with_reducible refine i_r1Q ?_ ?_
  | with_reducible refine i_r2Q ?_ ?_
  | with_reducible refine i_lsR1Q ?_ ?_
  | with_reducible refine i_lsR2Q ?_ ?_
  | with_reducible refine i_inT ?_ ?_ ?_
  | with_reducible refine i_inL ?_ ?_ ?_
  | with_reducible refine i_ninT ?_ ?_ ?_
  | with_reducible refine i_ninL ?_ ?_ ?_
  | ((with_reducible refine s_tV ?_); refine Exists.intro _ (And.intro rfl ?_))
  | ((with_reducible refine s_ixT ?_); refine Exists.intro _ (And.intro rfl ?_))
  | ((with_reducible refine s_gNm ?_); refine Exists.intro _ (And.intro (by simp only [wipeD, setsD, List.set_cons_zero, List.set_cons_succ]; rfl) ?_))
  | ((with_reducible refine s_stQ ?_); refine Exists.intro _ (And.intro (by simp only [wipeD, setsD, List.set_cons_zero, List.set_cons_succ]; rfl) ?_))
  | ((with_reducible refine s_c1 ?_); refine Exists.intro _ (And.intro (by simp only [wipeD, setsD, List.set_cons_zero, List.set_cons_succ]; rfl) ?_))
  | ((with_reducible refine s_p2 ?_); refine Exists.intro _ (And.intro (by simp only [wipeD, setsD, List.set_cons_zero, List.set_cons_succ]; rfl) ?_))
  | ((with_reducible refine s_p3 ?_); refine Exists.intro _ (And.intro (by simp only [wipeD, setsD, List.set_cons_zero, List.set_cons_succ]; rfl) ?_))
  | ((with_reducible refine s_cN' ?_); refine And.intro rfl (Exists.intro _ (And.intro (by simp only [wipeD, setsD, List.set_cons_zero, List.set_cons_succ]; rfl) ?_)))
  | ((with_reducible refine s_ixL ?_); refine Exists.intro _ (And.intro rfl ?_))
  | ((with_reducible refine s_trO ?_); refine Exists.intro _ (And.intro rfl ?_))
  | ((with_reducible refine s_lenO ?_); refine Exists.intro _ (And.intro rfl ?_))
  | ((with_reducible refine s_listO ?_); refine Exists.intro _ (And.intro rfl ?_))
  | ((with_reducible refine s_ixO ?_); refine Exists.intro _ (And.intro rfl (Exists.intro _ (And.intro rfl ?_))))
  | ((with_reducible refine s_app1 ?_); refine And.intro rfl ?_)
  | ((with_reducible refine s_cN ?_); refine And.intro rfl ?_)
  | ((with_reducible refine s_dgtY ?_); refine Exists.intro _ (And.intro rfl ?_))
  | ((with_reducible refine i_dgtN ?_ ?_); exact rfl)))
local macro_rules | `(tactic| walk_at "ds") => `(tactic| ((try simp only [startD, List.map_cons, List.map_nil, List.length_cons, List.length_nil, List.replicate, Nat.reduceAdd, Nat.reduceSub, List.cons_append, List.nil_append]); repeat' walk_at "d"))
/-- side conditions -/
local macro_rules | `(tactic| walk_at "e") => `(tactic| (first
  | with_reducible assumption
  | ((with_reducible show fitD _ _ = true); (first | rfl | decide +kernel | (exact fit_mono _ 30 _ (by decide) (by assumption))))
  | ((with_reducible show lowDs _ _); (repeat' first | trivial | (exact fit_low _ 30 _ (by assumption)) | refine And.intro ?_ ?_); done)
  | ((with_reducible show lowO _ _); (show lowDs _ _); (repeat' first | trivial | (exact fit_low _ 30 _ (by assumption)) | refine And.intro ?_ ?_); done)
  | ((with_reducible show (_ : Int) < _); (first | decide | omega))
  | ((with_reducible show (_ : Int) ≤ _); (first | decide | omega))
  | ((with_reducible show lowD _ _); (first | trivial | (exact fit_low _ 30 _ (by assumption))))
  | ((with_reducible show List.length _ = _); simp; done)
  | ((with_reducible show _ ≤ sizeLine); rw [sizeLine_eq]; simp; done)
  | ((with_reducible show List.all _ _ = true); (first | rfl | decide +kernel | (simp [fitD]; done)))
  | skip))
local macro_rules | `(tactic| walk_at "de") => `(tactic| (walk_at "ds" <;> walk_at "e"))

theorem rd_is_within (ds : List D) (R : QE) (h : ∃ v lo hi, ds = [v, .int lo, .int hi] ∧ fitD 30 v = true ∧ R (.bl (isWithinB v lo hi)) []) : t_is_within (endP R) (startD 3 ds) [] := by
  obtain ⟨v, lo, hi, rfl, f, r⟩ := h
  unfold t_is_within
  cases v <;> walk_at "de"
  all_goals (refine rB r ?_; clear r; simp_all [isWithinB, isIntB, isBoolB] <;> omega)
theorem rd_law_int (ds : List D) (R : QE) (h : ∃ v lo hi, ds = [v, .int lo, .int hi] ∧ fitD 30 v = true ∧ R (.bl (isWithinB v lo hi)) []) : t_law_int (endP R) (startD 3 ds) [] := rd_is_within ds R h
theorem rd_is_row (ds : List D) (R : QE) (h : ∃ v n, ds = [v, .int n] ∧ fitD 30 v = true ∧ R (.bl (isRowB v n)) []) : t_is_row (endP R) (startD 2 ds) [] := by
  obtain ⟨v, n, rfl, f, r⟩ := h
  unfold t_is_row
  cases v <;> walk_at "de"
  all_goals (refine rB r ?_; clear r; simp_all [isRowB, isTupB, eqD]; done)
theorem rd_law_made (ds : List D) (R : QE) (h : ∃ v n, ds = [v, .int n] ∧ fitD 30 v = true ∧ R (.bl (isRowB v n)) []) : t_law_made (endP R) (startD 2 ds) [] := rd_is_row ds R h
theorem row2 (v : D) : (∃ a b, v = .tup [a, b]) ∨ isRowB v 2 = false := by
  cases v with
  | tup xs =>
    match xs with
    | [a, b] => exact .inl ⟨a, b, rfl⟩
    | [] => exact .inr rfl
    | [_] => exact .inr rfl
    | _ :: _ :: _ :: r => right; unfold isRowB; simp; omega
  | _ => exact .inr rfl
theorem row3 (v : D) : (∃ a b c, v = .tup [a, b, c]) ∨ isRowB v 3 = false := by
  cases v with
  | tup xs =>
    match xs with
    | [a, b, c] => exact .inl ⟨a, b, c, rfl⟩
    | [] => exact .inr rfl
    | [_] => exact .inr rfl
    | [_, _] => exact .inr rfl
    | _ :: _ :: _ :: _ :: r => right; unfold isRowB; simp; omega
  | _ => exact .inr rfl
theorem row6 (v : D) : (∃ a b c d e f, v = .tup [a, b, c, d, e, f]) ∨ isRowB v 6 = false := by
  cases v with
  | tup xs =>
    match xs with
    | [a, b, c, d, e, f] => exact .inl ⟨a, b, c, d, e, f, rfl⟩
    | [] => exact .inr rfl
    | [_] => exact .inr rfl
    | [_, _] => exact .inr rfl
    | [_, _, _] => exact .inr rfl
    | [_, _, _, _] => exact .inr rfl
    | [_, _, _, _, _] => exact .inr rfl
    | _ :: _ :: _ :: _ :: _ :: _ :: _ :: r => right; unfold isRowB; simp; omega
  | _ => exact .inr rfl
theorem fit_tup3 {n : Nat} {a b c : D} (h : fitD (n + 1) (.tup [a, b, c]) = true) : fitD n a = true ∧ fitD n b = true ∧ fitD n c = true := by simpa [fitD] using h
theorem fit_tup2 {n : Nat} {a b : D} (h : fitD (n + 1) (.tup [a, b]) = true) : fitD n a = true ∧ fitD n b = true := by simpa [fitD] using h
theorem prog_row {v : D} (h : isRowB v 3 = false) : isProgramB v = false := by
  unfold isProgramB
  split
  · cases h
  · rfl
theorem plan_row {v : D} (h : isRowB v 2 = false) : isPlanB v = false := by
  unfold isPlanB
  split
  · cases h
  · rfl
theorem way_str {v : D} (h : isStrB v = false) : isWayB v = false := by
  cases v with
  | str s => cases h
  | _ => rfl
theorem way_in {v : D} : inD v [.str "each", .str "sum"] = isWayB v := by
  cases v with
  | str s => simp [inD, isWayB, eqD, eq_comm]
  | _ => simp [inD, isWayB, eqD]
theorem rd_is_program (ds : List D) (R : QE) (h : ∃ v, ds = [v] ∧ fitD 30 v = true ∧ R (.bl (isProgramB v)) []) : t_is_program (endP R) (startD 1 ds) [] := by
  obtain ⟨v, rfl, f, r⟩ := h
  unfold t_is_program
  rcases row3 v with ⟨a, b, c, rfl⟩ | hr
  · obtain ⟨fa, fb, fc⟩ := fit_tup3 f
    have fa := fit_mono _ _ 30 (by decide) fa
    have fb := fit_mono _ _ 30 (by decide) fb
    have fc := fit_mono _ _ 30 (by decide) fc
    walk_at "de"
    all_goals (first
      | (refine rB r ?_; clear r; rw [way_in]; simp_all [isProgramB]; done)
      | (refine rB r ?_; clear r; simp_all [isProgramB, way_str]; done))
  · walk_at "de"
    all_goals (first | (refine rB r ?_; rw [prog_row hr]; done) | (exfalso; clear r; simp_all; done))
end
end L2.DL

set_option Elab.async false
set_option linter.all false
set_option maxRecDepth 100000
set_option maxHeartbeats 4000000
/-! SC: programs, plans, stands: the readings proved. -/
namespace L2.DL
open PySem PySem.Spec PyProof.Rows

section
local macro_rules | `(tactic| walk_at "d") => `(tactic| (first
  | with_reducible refine Stp.go ?_
  | with_reducible refine And.intro ?_ ?_
  | with_reducible refine fun _ => ?_
  | ((with_reducible refine s_iteY ?_); refine And.intro rfl ?_)
  | ((with_reducible refine s_iteN ?_); refine And.intro rfl ?_)
  | with_reducible refine iteB (fun _ => ?_) (fun _ => ?_)
  | with_reducible refine i_eq ?_ ?_ ?_
  | with_reducible refine i_ne ?_ ?_ ?_
  | with_reducible refine rtp ?_ ?_
  | with_reducible refine u_isB ?_ ?_
  | with_reducible refine u_isI ?_ ?_
  | with_reducible refine u_isT ?_ ?_
  | with_reducible refine u_isS ?_ ?_
  | with_reducible refine u_isL ?_ ?_
  | with_reducible refine u_isLT ?_ ?_
  | with_reducible refine u_is_within ?_ ?_
  | with_reducible refine u_law_int ?_ ?_
  | with_reducible refine u_is_row ?_ ?_
  | with_reducible refine u_law_made ?_ ?_
  | with_reducible refine u_is_program ?_ ?_
  | with_reducible refine u_law_good_program ?_ ?_
  | with_reducible refine u_is_plan ?_ ?_
  | with_reducible refine u_law_good_plan ?_ ?_
  | with_reducible refine u_law_kind ?_ ?_
  | with_reducible refine u_pick0 ?_ ?_ ?_
  | with_reducible refine u_pickG ?_ ?_ ?_ ?_
  | with_reducible refine rtm3 ?_ ?_ ?_
  | ((with_reducible refine s_sLst ?_); refine Exists.intro _ (And.intro rfl (Exists.intro _ (And.intro rfl (Exists.intro _ (And.intro (by simp only [List.set_cons_zero, List.set_cons_succ]; rfl) ?_))))))
  | with_reducible refine i_oIC ?_ ?_
  | with_reducible refine i_addS ?_ ?_
  | with_reducible refine i_addT ?_ ?_
  | with_reducible refine i_addL ?_ ?_
  | with_reducible refine i_trS ?_ ?_
  | with_reducible refine i_lenS ?_ ?_
  | with_reducible refine i_slS ?_ ?_
  | with_reducible refine i_r1Q ?_ ?_
  | with_reducible refine i_r2Q ?_ ?_
  | with_reducible refine i_lsR1Q ?_ ?_
  | with_reducible refine i_lsR2Q ?_ ?_
  | with_reducible refine i_inT ?_ ?_ ?_
  | with_reducible refine i_inL ?_ ?_ ?_
  | with_reducible refine i_ninT ?_ ?_ ?_
  | with_reducible refine i_ninL ?_ ?_ ?_
  | ((with_reducible refine s_tV ?_); refine Exists.intro _ (And.intro rfl ?_))
  | ((with_reducible refine s_ixT ?_); refine Exists.intro _ (And.intro rfl ?_))
  | ((with_reducible refine s_gNm ?_); refine Exists.intro _ (And.intro (by simp only [wipeD, setsD, List.set_cons_zero, List.set_cons_succ]; rfl) ?_))
  | ((with_reducible refine s_stQ ?_); refine Exists.intro _ (And.intro (by simp only [wipeD, setsD, List.set_cons_zero, List.set_cons_succ]; rfl) ?_))
  | ((with_reducible refine s_c1 ?_); refine Exists.intro _ (And.intro (by simp only [wipeD, setsD, List.set_cons_zero, List.set_cons_succ]; rfl) ?_))
  | ((with_reducible refine s_p2 ?_); refine Exists.intro _ (And.intro (by simp only [wipeD, setsD, List.set_cons_zero, List.set_cons_succ]; rfl) ?_))
  | ((with_reducible refine s_p3 ?_); refine Exists.intro _ (And.intro (by simp only [wipeD, setsD, List.set_cons_zero, List.set_cons_succ]; rfl) ?_))
  | ((with_reducible refine s_cN' ?_); refine And.intro rfl (Exists.intro _ (And.intro (by simp only [wipeD, setsD, List.set_cons_zero, List.set_cons_succ]; rfl) ?_)))
  | ((with_reducible refine s_ixL ?_); refine Exists.intro _ (And.intro rfl ?_))
  | ((with_reducible refine s_trO ?_); refine Exists.intro _ (And.intro rfl ?_))
  | ((with_reducible refine s_lenO ?_); refine Exists.intro _ (And.intro rfl ?_))
  | ((with_reducible refine s_listO ?_); refine Exists.intro _ (And.intro rfl ?_))
  | ((with_reducible refine s_ixO ?_); refine Exists.intro _ (And.intro rfl (Exists.intro _ (And.intro rfl ?_))))
  | ((with_reducible refine s_app1 ?_); refine And.intro rfl ?_)
  | ((with_reducible refine s_cN ?_); refine And.intro rfl ?_)
  | ((with_reducible refine s_dgtY ?_); refine Exists.intro _ (And.intro rfl ?_))
  | ((with_reducible refine i_dgtN ?_ ?_); exact rfl)))
local macro_rules | `(tactic| walk_at "ds") => `(tactic| ((try simp only [startD, List.map_cons, List.map_nil, List.length_cons, List.length_nil, List.replicate, Nat.reduceAdd, Nat.reduceSub, List.cons_append, List.nil_append]); repeat' walk_at "d"))
/-- side conditions -/
local macro_rules | `(tactic| walk_at "e") => `(tactic| (first
  | with_reducible assumption
  | ((with_reducible show fitD _ _ = true); (first | rfl | decide +kernel | (exact fit_mono _ 30 _ (by decide) (by assumption))))
  | ((with_reducible show lowDs _ _); (repeat' first | trivial | (exact fit_low _ 30 _ (by assumption)) | refine And.intro ?_ ?_); done)
  | ((with_reducible show lowO _ _); (show lowDs _ _); (repeat' first | trivial | (exact fit_low _ 30 _ (by assumption)) | refine And.intro ?_ ?_); done)
  | ((with_reducible show (_ : Int) < _); (first | decide | omega))
  | ((with_reducible show (_ : Int) ≤ _); (first | decide | omega))
  | ((with_reducible show lowD _ _); (first | trivial | (exact fit_low _ 30 _ (by assumption))))
  | ((with_reducible show List.length _ = _); simp; done)
  | ((with_reducible show _ ≤ sizeLine); rw [sizeLine_eq]; simp; done)
  | ((with_reducible show List.all _ _ = true); (first | rfl | decide +kernel | (simp [fitD]; done)))
  | skip))
local macro_rules | `(tactic| walk_at "de") => `(tactic| (walk_at "ds" <;> walk_at "e"))


theorem rd_is_plan (ds : List D) (R : QE) (h : ∃ v, ds = [v] ∧ fitD 30 v = true ∧ R (.bl (isPlanB v)) []) : t_is_plan (endP R) (startD 4 ds) [] := by
  obtain ⟨v, rfl, f, r⟩ := h
  unfold t_is_plan
  rcases row2 v with ⟨a, b, rfl⟩ | hr
  · obtain ⟨fa, fb⟩ := fit_tup2 f
    have fa := fit_mono _ _ 30 (by decide) fa
    rcases row3 b with ⟨b1, b2, b3, rfl⟩ | hr
    · obtain ⟨f1, f2, f3⟩ := fit_tup3 fb
      have fb := fit_mono _ _ 30 (by decide) fb
      have f1 := fit_mono _ _ 30 (by decide) f1
      have f2 := fit_mono _ _ 30 (by decide) f2
      have f3 := fit_mono _ _ 30 (by decide) f3
      walk_at "de"
      all_goals (first
        | (refine rB r ?_; clear r; simp_all [isPlanB]; done))
    · have fb := fit_mono _ _ 30 (by decide) fb
      have e : isPlanB (.tup [a, b]) = false := by
        unfold isPlanB
        split
        · rename_i h; cases h; cases hr
        · rfl
      walk_at "de"
      all_goals (first
        | (refine rB r ?_; rw [e]; done)
        | (exfalso; clear r; simp_all; done))
  · walk_at "de"
    all_goals (first | (refine rB r ?_; rw [plan_row hr]; done) | (exfalso; clear r; simp_all; done))
theorem rd_law_good_program (ds : List D) (R : QE) (h : ∃ v, ds = [v] ∧ fitD 30 v = true ∧ R (.bl (isProgramB v)) []) : t_law_good_program (endP R) (startD 1 ds) [] := by
  obtain ⟨v, rfl, f, r⟩ := h
  unfold t_law_good_program
  rcases row3 v with ⟨a, b, c, rfl⟩ | hr
  · obtain ⟨fa, fb, fc⟩ := fit_tup3 f
    have fa := fit_mono _ _ 30 (by decide) fa
    have fb := fit_mono _ _ 30 (by decide) fb
    have fc := fit_mono _ _ 30 (by decide) fc
    walk_at "de"
    all_goals (first
      | (refine rB r ?_; clear r; simp_all [isProgramB, way_str, way_in]; done))
  · walk_at "de"
    all_goals (first | (refine rB r ?_; rw [prog_row hr]; done) | (exfalso; clear r; simp_all; done))
theorem rd_law_good_plan (ds : List D) (R : QE) (h : ∃ v, ds = [v] ∧ fitD 30 v = true ∧ R (.bl (isPlanB v)) []) : t_law_good_plan (endP R) (startD 1 ds) [] := by
  obtain ⟨v, rfl, f, r⟩ := h
  unfold t_law_good_plan
  rcases row2 v with ⟨a, b, rfl⟩ | hr
  · obtain ⟨fa, fb⟩ := fit_tup2 f
    have fa := fit_mono _ _ 30 (by decide) fa
    rcases row3 b with ⟨b1, b2, b3, rfl⟩ | hr
    · obtain ⟨f1, f2, f3⟩ := fit_tup3 fb
      have fb := fit_mono _ _ 30 (by decide) fb
      have f1 := fit_mono _ _ 30 (by decide) f1
      have f2 := fit_mono _ _ 30 (by decide) f2
      have f3 := fit_mono _ _ 30 (by decide) f3
      walk_at "de"
      all_goals (first
        | (refine rB r ?_; clear r; simp_all [isPlanB]; done))
    · have fb := fit_mono _ _ 30 (by decide) fb
      have e : isPlanB (.tup [a, b]) = false := by
        unfold isPlanB
        split
        · rename_i h; cases h; cases hr
        · rfl
      walk_at "de"
      all_goals (first
        | (refine rB r ?_; rw [e]; done)
        | (exfalso; clear r; simp_all; done))
  · walk_at "de"
    all_goals (first | (refine rB r ?_; rw [plan_row hr]; done) | (exfalso; clear r; simp_all; done))
theorem Pl.prog_ok {P : Pl} (h : P.ok) : isProgramB P.prog = true := by
  obtain ⟨h1, h2, h3, h4, _⟩ := h
  unfold Pl.prog isProgramB
  cases P.each <;> simp [isWithinB, wayD, isWayB, h1, h2, h3, h4]
theorem Pl.plan_ok {P : Pl} (h : P.ok) : isPlanB P.d = true := by
  have h0 := Pl.prog_ok h
  obtain ⟨_, _, _, _, h1, h2, h3, h4⟩ := h
  unfold Pl.d Pl.world isPlanB
  simp [h0, isWithinB, isBoolB, h1, h2, h3, h4]
theorem Pl.fit {P : Pl} : fitD 30 P.d = true := by
  unfold Pl.d Pl.world Pl.prog
  cases P.each <;> simp [fitD, wayD, PyData.strOk] <;> decide +kernel
theorem u_look {P : Pl} {R : QE} {RE : QX} (h : P.ok) (r : R .non []) : F_look_at_plan [P.d] [] R RE := ⟨rfl, P, rfl, h, r⟩
theorem rd_look_at_plan (ds : List D) (R : QE) (h : ∃ P : Pl, ds = [P.d] ∧ P.ok ∧ R .non []) : t_look_at_plan (endP R) (startD 1 ds) [] := by
  obtain ⟨P, rfl, hP, r⟩ := h
  have f := P.fit
  have e := Pl.plan_ok hP
  unfold t_look_at_plan
  walk_at "de"
  all_goals (exfalso; clear r; simp_all; done)
theorem Sd.fit {S : Sd} : fitD 30 S.d = true := by simp [fitD]
theorem u_first_stand {P : Pl} {R : QE} {RE : QX} (h : P.ok) (r : R beginS.d []) : F_first_stand [P.d] [] R RE := ⟨rfl, P, rfl, h, r⟩
theorem u_fits {P : Pl} {x : D} {R : QE} {RE : QX} (h : P.ok) (f : fitD 30 x = true) (r : R (.bl (fitsB P x)) []) : F_fits [P.d, x] [] R RE := ⟨rfl, P, x, rfl, h, f, r⟩
theorem low_of {d : D} (f : fitD 30 d = true) : lowD 0 d := fit_low _ 30 _ f
end
section
local macro_rules | `(tactic| walk_at "d") => `(tactic| (first
  | with_reducible refine Stp.go ?_
  | with_reducible refine And.intro ?_ ?_
  | with_reducible refine fun _ => ?_
  | ((with_reducible refine s_iteY ?_); refine And.intro rfl ?_)
  | ((with_reducible refine s_iteN ?_); refine And.intro rfl ?_)
  | with_reducible refine iteB (fun _ => ?_) (fun _ => ?_)
  | with_reducible refine i_eq ?_ ?_ ?_
  | with_reducible refine i_ne ?_ ?_ ?_
  | with_reducible refine rtp ?_ ?_
  | with_reducible refine u_isB ?_ ?_
  | with_reducible refine u_isI ?_ ?_
  | with_reducible refine u_isT ?_ ?_
  | with_reducible refine u_isS ?_ ?_
  | with_reducible refine u_isL ?_ ?_
  | with_reducible refine u_isLT ?_ ?_
  | with_reducible refine u_is_within ?_ ?_
  | with_reducible refine u_law_int ?_ ?_
  | with_reducible refine u_is_row ?_ ?_
  | with_reducible refine u_law_made ?_ ?_
  | with_reducible refine u_is_program ?_ ?_
  | with_reducible refine u_law_good_program ?_ ?_
  | with_reducible refine u_is_plan ?_ ?_
  | with_reducible refine u_law_good_plan ?_ ?_
  | with_reducible refine u_law_kind ?_ ?_
  | with_reducible refine u_pick0 ?_ ?_ ?_
  | with_reducible refine u_pickG ?_ ?_ ?_ ?_
  | with_reducible refine u_look ?_ ?_
  | with_reducible refine u_fits ?_ ?_ ?_
  | with_reducible refine rtm3 ?_ ?_ ?_
  | ((with_reducible refine s_sLst ?_); refine Exists.intro _ (And.intro rfl (Exists.intro _ (And.intro rfl (Exists.intro _ (And.intro (by simp only [List.set_cons_zero, List.set_cons_succ]; rfl) ?_))))))
  | with_reducible refine i_oIC ?_ ?_
  | with_reducible refine i_addS ?_ ?_
  | with_reducible refine i_addT ?_ ?_
  | with_reducible refine i_addL ?_ ?_
  | with_reducible refine i_trS ?_ ?_
  | with_reducible refine i_lenS ?_ ?_
  | with_reducible refine i_slS ?_ ?_
  | with_reducible refine i_r1Q ?_ ?_
  | with_reducible refine i_r2Q ?_ ?_
  | with_reducible refine i_lsR1Q ?_ ?_
  | with_reducible refine i_lsR2Q ?_ ?_
  | with_reducible refine i_inT ?_ ?_ ?_
  | with_reducible refine i_inL ?_ ?_ ?_
  | with_reducible refine i_ninT ?_ ?_ ?_
  | with_reducible refine i_ninL ?_ ?_ ?_
  | ((with_reducible refine s_tV ?_); refine Exists.intro _ (And.intro rfl ?_))
  | ((with_reducible refine s_ixT ?_); refine Exists.intro _ (And.intro rfl ?_))
  | ((with_reducible refine s_gNm ?_); refine Exists.intro _ (And.intro (by simp only [wipeD, setsD, List.set_cons_zero, List.set_cons_succ]; rfl) ?_))
  | ((with_reducible refine s_stQ ?_); refine Exists.intro _ (And.intro (by simp only [wipeD, setsD, List.set_cons_zero, List.set_cons_succ]; rfl) ?_))
  | ((with_reducible refine s_c1 ?_); refine Exists.intro _ (And.intro (by simp only [wipeD, setsD, List.set_cons_zero, List.set_cons_succ]; rfl) ?_))
  | ((with_reducible refine s_p2 ?_); refine Exists.intro _ (And.intro (by simp only [wipeD, setsD, List.set_cons_zero, List.set_cons_succ]; rfl) ?_))
  | ((with_reducible refine s_p3 ?_); refine Exists.intro _ (And.intro (by simp only [wipeD, setsD, List.set_cons_zero, List.set_cons_succ]; rfl) ?_))
  | ((with_reducible refine s_cN' ?_); refine And.intro rfl (Exists.intro _ (And.intro (by simp only [wipeD, setsD, List.set_cons_zero, List.set_cons_succ]; rfl) ?_)))
  | ((with_reducible refine s_ixL ?_); refine Exists.intro _ (And.intro rfl ?_))
  | ((with_reducible refine s_trO ?_); refine Exists.intro _ (And.intro rfl ?_))
  | ((with_reducible refine s_lenO ?_); refine Exists.intro _ (And.intro rfl ?_))
  | ((with_reducible refine s_listO ?_); refine Exists.intro _ (And.intro rfl ?_))
  | ((with_reducible refine s_ixO ?_); refine Exists.intro _ (And.intro rfl (Exists.intro _ (And.intro rfl ?_))))
  | ((with_reducible refine s_app1 ?_); refine And.intro rfl ?_)
  | ((with_reducible refine s_cN ?_); refine And.intro rfl ?_)
  | ((with_reducible refine s_dgtY ?_); refine Exists.intro _ (And.intro rfl ?_))
  | ((with_reducible refine i_dgtN ?_ ?_); exact rfl)))
local macro_rules | `(tactic| walk_at "ds") => `(tactic| ((try simp only [startD, List.map_cons, List.map_nil, List.length_cons, List.length_nil, List.replicate, Nat.reduceAdd, Nat.reduceSub, List.cons_append, List.nil_append]); repeat' walk_at "d"))
/-- side conditions -/
local macro_rules | `(tactic| walk_at "e") => `(tactic| (first
  | with_reducible assumption
  | ((with_reducible show fitD _ _ = true); (first | rfl | decide +kernel | (exact fit_mono _ 30 _ (by decide) (by assumption))))
  | ((with_reducible show lowDs _ _); (repeat' first | trivial | (exact fit_low _ 30 _ (by assumption)) | refine And.intro ?_ ?_); done)
  | ((with_reducible show lowO _ _); (show lowDs _ _); (repeat' first | trivial | (exact fit_low _ 30 _ (by assumption)) | refine And.intro ?_ ?_); done)
  | ((with_reducible show (_ : Int) < _); (first | decide | omega))
  | ((with_reducible show (_ : Int) ≤ _); (first | decide | omega))
  | ((with_reducible show lowD _ _); (first | trivial | (exact fit_low _ 30 _ (by assumption))))
  | ((with_reducible show List.length _ = _); simp; done)
  | ((with_reducible show _ ≤ sizeLine); rw [sizeLine_eq]; simp; done)
  | ((with_reducible show List.all _ _ = true); (first | rfl | decide +kernel | (simp [fitD]; done)))
  | skip))
local macro_rules | `(tactic| walk_at "de") => `(tactic| (walk_at "ds" <;> walk_at "e"))


theorem rd_first_stand (ds : List D) (R : QE) (h : ∃ P : Pl, ds = [P.d] ∧ P.ok ∧ R beginS.d []) : t_first_stand (endP R) (startD 1 ds) [] := by
  obtain ⟨P, rfl, hP, r⟩ := h
  have f := P.fit
  unfold t_first_stand
  walk_at "de"
theorem rd_is_stand (ds : List D) (R : QE) (h : ∃ (P : Pl) (x : D), ds = [P.d, x] ∧ P.ok ∧ fitD 30 x = true ∧ R (.bl (fitsB P x)) []) : t_is_stand (endP R) (startD 2 ds) [] := by
  obtain ⟨P, x, rfl, hP, fx, r⟩ := h
  have f := P.fit
  unfold t_is_stand
  walk_at "de"
/-- a stand by its parts -/
theorem stand_cases (x : D) : (∃ off want left hand : Int, ∃ leans locked : Bool, x = .tup [.int off, .int want, .int left, .int hand, .bl leans, .bl locked] ∧ (-20 ≤ off ∧ off ≤ 20) ∧ (-20 ≤ want ∧ want ≤ 20) ∧ (-20 ≤ left ∧ left ≤ 20) ∧ (-20 ≤ hand ∧ hand ≤ 20)) ∨
    (∃ a b c d e f, x = .tup [a, b, c, d, e, f] ∧ (isWithinB a (-20) 20 && isWithinB b (-20) 20 && isWithinB c (-20) 20 && isWithinB d (-20) 20 && isBoolB e && isBoolB f) = false ∧ ∀ P, fitsB P x = false) ∨ (isRowB x 6 = false ∧ ∀ P, fitsB P x = false) := by
  rcases row6 x with ⟨a, b, c, d, e, f, rfl⟩ | hr
  · by_cases h : (isWithinB a (-20) 20 && isWithinB b (-20) 20 && isWithinB c (-20) 20 && isWithinB d (-20) 20 && isBoolB e && isBoolB f) = true
    · simp only [Bool.and_eq_true] at h
      obtain ⟨⟨⟨⟨⟨h1, h2⟩, h3⟩, h4⟩, h5⟩, h6⟩ := h
      obtain ⟨i1, rfl, b1⟩ := within_fit h1
      obtain ⟨i2, rfl, b2⟩ := within_fit h2
      obtain ⟨i3, rfl, b3⟩ := within_fit h3
      obtain ⟨i4, rfl, b4⟩ := within_fit h4
      obtain ⟨k1, rfl⟩ := bool_fit h5
      obtain ⟨k2, rfl⟩ := bool_fit h6
      exact .inl ⟨i1, i2, i3, i4, k1, k2, rfl, b1, b2, b3, b4⟩
    · rw [Bool.not_eq_true] at h
      refine .inr (.inl ⟨a, b, c, d, e, f, rfl, h, fun P => ?_⟩)
      unfold fitsB
      split
      · rename_i q
        cases q
        simp [isWithinB, isBoolB] at h
        simp
        intro h1 h2 h3 h4 h5 h6 h7 h8
        exact absurd h (by simp [h1, h2, h3, h4, h5, h6, h7, h8])
      · rfl
  · refine .inr (.inr ⟨hr, fun P => ?_⟩)
    unfold fitsB
    split
    · cases hr
    · rfl
theorem fit_tup6 {n : Nat} {a b c d e f : D} (h : fitD (n + 1) (.tup [a, b, c, d, e, f]) = true) : fitD n a = true ∧ fitD n b = true ∧ fitD n c = true ∧ fitD n d = true ∧ fitD n e = true ∧ fitD n f = true := by simpa [fitD] using h
theorem cut4 (a b c d e f : D) : cutD [a, b, c, d, e, f] none (some 4) = [a, b, c, d] := by rfl
end
end L2.DL

set_option Elab.async false
set_option linter.all false
set_option maxRecDepth 100000
set_option maxHeartbeats 400000
/-! SD: stands that fit. -/
namespace L2.DL
open PySem PySem.Spec PyProof.Rows
section
local macro_rules | `(tactic| walk_at "d") => `(tactic| (first
  | with_reducible refine Stp.go ?_
  | with_reducible refine And.intro ?_ ?_
  | with_reducible refine fun _ => ?_
  | ((with_reducible refine s_iteY ?_); refine And.intro rfl ?_)
  | ((with_reducible refine s_iteN ?_); refine And.intro rfl ?_)
  | with_reducible refine iteB (fun _ => ?_) (fun _ => ?_)
  | with_reducible refine i_eq ?_ ?_ ?_
  | with_reducible refine i_ne ?_ ?_ ?_
  | with_reducible refine rtp ?_ ?_
  | with_reducible refine u_isB ?_ ?_
  | with_reducible refine u_isI ?_ ?_
  | with_reducible refine u_isT ?_ ?_
  | with_reducible refine u_isS ?_ ?_
  | with_reducible refine u_isL ?_ ?_
  | with_reducible refine u_isLT ?_ ?_
  | with_reducible refine u_is_within ?_ ?_
  | with_reducible refine u_law_int ?_ ?_
  | with_reducible refine u_is_row ?_ ?_
  | with_reducible refine u_law_made ?_ ?_
  | with_reducible refine u_is_program ?_ ?_
  | with_reducible refine u_law_good_program ?_ ?_
  | with_reducible refine u_is_plan ?_ ?_
  | with_reducible refine u_law_good_plan ?_ ?_
  | with_reducible refine u_law_kind ?_ ?_
  | with_reducible refine u_pick0 ?_ ?_ ?_
  | with_reducible refine u_pickG ?_ ?_ ?_ ?_
  | with_reducible refine u_look ?_ ?_
  | with_reducible refine u_fits ?_ ?_ ?_
  | with_reducible refine rtm3 ?_ ?_ ?_
  | ((with_reducible refine s_sLst ?_); refine Exists.intro _ (And.intro rfl (Exists.intro _ (And.intro rfl (Exists.intro _ (And.intro (by simp only [List.set_cons_zero, List.set_cons_succ]; rfl) ?_))))))
  | with_reducible refine i_oIC ?_ ?_
  | with_reducible refine i_addS ?_ ?_
  | with_reducible refine i_addT ?_ ?_
  | with_reducible refine i_addL ?_ ?_
  | with_reducible refine i_trS ?_ ?_
  | with_reducible refine i_lenS ?_ ?_
  | with_reducible refine i_slS ?_ ?_
  | with_reducible refine i_r1Q ?_ ?_
  | with_reducible refine i_r2Q ?_ ?_
  | with_reducible refine i_lsR1Q ?_ ?_
  | with_reducible refine i_lsR2Q ?_ ?_
  | with_reducible refine i_inT ?_ ?_ ?_
  | with_reducible refine i_inL ?_ ?_ ?_
  | with_reducible refine i_ninT ?_ ?_ ?_
  | with_reducible refine i_ninL ?_ ?_ ?_
  | ((with_reducible refine s_tV ?_); refine Exists.intro _ (And.intro rfl ?_))
  | ((with_reducible refine s_ixT ?_); refine Exists.intro _ (And.intro rfl ?_))
  | ((with_reducible refine s_gNm ?_); refine Exists.intro _ (And.intro (by simp only [wipeD, setsD, List.set_cons_zero, List.set_cons_succ]; rfl) ?_))
  | ((with_reducible refine s_stQ ?_); refine Exists.intro _ (And.intro (by simp only [wipeD, setsD, List.set_cons_zero, List.set_cons_succ]; rfl) ?_))
  | ((with_reducible refine s_c1 ?_); refine Exists.intro _ (And.intro (by simp only [wipeD, setsD, List.set_cons_zero, List.set_cons_succ]; rfl) ?_))
  | ((with_reducible refine s_p2 ?_); refine Exists.intro _ (And.intro (by simp only [wipeD, setsD, List.set_cons_zero, List.set_cons_succ]; rfl) ?_))
  | ((with_reducible refine s_p3 ?_); refine Exists.intro _ (And.intro (by simp only [wipeD, setsD, List.set_cons_zero, List.set_cons_succ]; rfl) ?_))
  | ((with_reducible refine s_cN' ?_); refine And.intro rfl (Exists.intro _ (And.intro (by simp only [wipeD, setsD, List.set_cons_zero, List.set_cons_succ]; rfl) ?_)))
  | ((with_reducible refine s_ixL ?_); refine Exists.intro _ (And.intro rfl ?_))
  | ((with_reducible refine s_trO ?_); refine Exists.intro _ (And.intro rfl ?_))
  | ((with_reducible refine s_lenO ?_); refine Exists.intro _ (And.intro rfl ?_))
  | ((with_reducible refine s_listO ?_); refine Exists.intro _ (And.intro rfl ?_))
  | ((with_reducible refine s_ixO ?_); refine Exists.intro _ (And.intro rfl (Exists.intro _ (And.intro rfl ?_))))
  | ((with_reducible refine s_app1 ?_); refine And.intro rfl ?_)
  | ((with_reducible refine s_cN ?_); refine And.intro rfl ?_)
  | ((with_reducible refine s_dgtY ?_); refine Exists.intro _ (And.intro rfl ?_))
  | ((with_reducible refine i_dgtN ?_ ?_); exact rfl)))
local macro_rules | `(tactic| walk_at "ds") => `(tactic| ((try simp only [startD, List.map_cons, List.map_nil, List.length_cons, List.length_nil, List.replicate, Nat.reduceAdd, Nat.reduceSub, List.cons_append, List.nil_append]); repeat' walk_at "d"))
/-- side conditions -/
local macro_rules | `(tactic| walk_at "e") => `(tactic| (first
  | with_reducible assumption
  | ((with_reducible show fitD _ _ = true); (first | rfl | decide +kernel | (exact fit_mono _ 30 _ (by decide) (by assumption))))
  | ((with_reducible show lowDs _ _); (repeat' first | trivial | (exact fit_low _ 30 _ (by assumption)) | refine And.intro ?_ ?_); done)
  | ((with_reducible show lowO _ _); (show lowDs _ _); (repeat' first | trivial | (exact fit_low _ 30 _ (by assumption)) | refine And.intro ?_ ?_); done)
  | ((with_reducible show (_ : Int) < _); (first | decide | omega))
  | ((with_reducible show (_ : Int) ≤ _); (first | decide | omega))
  | ((with_reducible show lowD _ _); (first | trivial | (exact fit_low _ 30 _ (by assumption))))
  | ((with_reducible show List.length _ = _); simp; done)
  | ((with_reducible show _ ≤ sizeLine); rw [sizeLine_eq]; simp; done)
  | ((with_reducible show List.all _ _ = true); (first | rfl | decide +kernel | (simp [fitD]; done)))
  | skip))
local macro_rules | `(tactic| walk_at "de") => `(tactic| (walk_at "ds" <;> walk_at "e"))


theorem rd_fits (ds : List D) (R : QE) (h : ∃ (P : Pl) (x : D), ds = [P.d, x] ∧ P.ok ∧ fitD 30 x = true ∧ R (.bl (fitsB P x)) []) : t_fits (endP R) (startD 15 ds) [] := by
  obtain ⟨P, x, rfl, hP, fx, r⟩ := h
  have f := P.fit
  unfold t_fits
  rcases stand_cases x with ⟨off, want, left, hand, leans, locked, rfl, b1, b2, b3, b4⟩ | ⟨a, b, c, d, e, g, rfl, h, hn⟩ | ⟨hr, hn⟩
  · walk_at "de"
    rw [cut4]
    refine lc_pure [.int off, .int want, .int left, .int hand] (fun x => some (.bl (isWithinB x (-20) 20))) (by rw [sizeLine_eq]; simp) (fun x hx Q N hQ hN => ?_) ?_
    · have fx : fitD 30 x = true := by
        simp at hx
        rcases hx with rfl | rfl | rfl | rfl <;> simp [fitD]
      walk_at "de"
      all_goals exact hQ _ rfl
    · walk_at "de"
      refine i_all (bs := [isWithinB (.int off) (-20) 20, isWithinB (.int want) (-20) 20, isWithinB (.int left) (-20) 20, isWithinB (.int hand) (-20) 20]) rfl ?_
      have e : ([isWithinB (.int off) (-20) 20, isWithinB (.int want) (-20) 20, isWithinB (.int left) (-20) 20, isWithinB (.int hand) (-20) 20] : List Bool).all id = true := by simp [isWithinB, b1, b2, b3, b4]
      rw [e]
      cases locked <;> cases leans <;> walk_at "de"
      all_goals clear e
      all_goals (refine rB r ?_; clear r f fx; by_cases hw : want = 0 <;> by_cases hh : hand = 0 <;> simp_all [fitsB, fitsI, inD, eqD, eqDs] <;> omega)
  · obtain ⟨f1, f2, f3, f4, f5, f6⟩ := fit_tup6 fx
    have f1 := fit_mono _ _ 30 (by decide) f1
    have f2 := fit_mono _ _ 30 (by decide) f2
    have f3 := fit_mono _ _ 30 (by decide) f3
    have f4 := fit_mono _ _ 30 (by decide) f4
    have f5 := fit_mono _ _ 30 (by decide) f5
    have f6 := fit_mono _ _ 30 (by decide) f6
    walk_at "de"
    all_goals first
      | (refine rB r ?_; rw [hn P]; done)
      | skip
    rw [cut4]
    refine lc_pure [a, b, c, d] (fun x => some (.bl (isWithinB x (-20) 20))) (by rw [sizeLine_eq]; simp) (fun x hx Q N hQ hN => ?_) ?_
    · have fx : fitD 30 x = true := by
        simp at hx
        rcases hx with rfl | rfl | rfl | rfl <;> assumption
      walk_at "de"
      all_goals exact hQ _ rfl
    · walk_at "de"
      refine i_all (bs := [isWithinB a (-20) 20, isWithinB b (-20) 20, isWithinB c (-20) 20, isWithinB d (-20) 20]) rfl ?_
      walk_at "de"
      all_goals first
        | (refine rB r ?_; rw [hn P]; done)
        | (exfalso; clear r; simp_all; done)
  · walk_at "de"
    all_goals first
      | (refine rB r ?_; rw [hn P]; done)
      | (exfalso; clear r; simp_all; done)
end
end L2.DL

set_option Elab.async false
set_option linter.all false
set_option maxRecDepth 100000
set_option maxHeartbeats 400000
/-! SE: springs, kinds, likeness, deeds. -/
namespace L2.DL
open PySem PySem.Spec PyProof.Rows
/-! what is handed on -/
section
variable {a m : Int} {R : QE} {L pre : Sto} {j : Nat}
theorem low_spr {a m : Int} {k : Nat} : lowO k (spr a m) := ⟨trivial, trivial, trivial⟩
theorem nd_spr {a m : Int} : spr a m ≠ .dead := by intro z; cases z
theorem at_pre {o : O} (hj : j = pre.length) : (pre ++ [o])[j]? = some o := by subst hj; rw [List.getElem?_concat_length]
theorem set_pre {o o' : O} (hj : j = pre.length) : (pre ++ [o]).set j o' = pre ++ [o'] := by subst hj; simp
theorem u_program0 (h : ∀ (t w : Int) (e : Bool) (a m : Int), 0 ≤ t → t ≤ 3 → 1 ≤ w → w ≤ 3 → R (.tup [.int t, .int w, wayD e]) [spr a m]) : caM 1 F_law_program R [.ob 0] [spr a m] :=
  i_caM (o := spr a m) rfl rfl trivial nd_spr low_spr ⟨rfl, ⟨a, m, rfl⟩, rfl, fun t w e a m h1 h2 h3 h4 => ⟨⟨trivial, trivial, trivial, trivial⟩, low_spr, h t w e a m h1 h2 h3 h4⟩⟩
theorem low_pl {P : Pl} {k : Nat} : lowD k P.d := ⟨⟨trivial, trivial, trivial, trivial⟩, ⟨trivial, trivial, trivial, trivial⟩, trivial⟩
theorem u_plan0 (h : ∀ (P : Pl) (a m : Int), P.ok → R P.d [spr a m]) : caM 1 F_law_plan R [.ob 0] [spr a m] :=
  i_caM (o := spr a m) rfl rfl trivial nd_spr low_spr ⟨rfl, ⟨a, m, rfl⟩, rfl, fun P a m h1 => ⟨low_pl, low_spr, h P a m h1⟩⟩
theorem u_planG (hj : j = pre.length) (h : ∀ (P : Pl) (a m : Int), P.ok → R P.d (pre ++ [spr a m])) : caM 1 F_law_plan R [.ob j] (pre ++ [spr a m]) :=
  i_caM (o := spr a m) (at_pre hj) rfl trivial nd_spr low_spr ⟨rfl, ⟨a, m, rfl⟩, rfl, fun P a m h1 => ⟨low_pl, low_spr, by rw [set_pre hj]; exact h P a m h1⟩⟩
theorem u_smallG (hj : j = pre.length) (h : ∀ (P : Pl) (a m : Int), P.ok → P.tol ≤ 2 → P.wait ≤ 2 → P.most ≤ 2 → P.spread ≤ 1 → R P.d (pre ++ [spr a m])) : caM 1 F_law_small R [.ob j] (pre ++ [spr a m]) :=
  i_caM (o := spr a m) (at_pre hj) rfl trivial nd_spr low_spr ⟨rfl, ⟨a, m, rfl⟩, rfl, fun P a m h1 h2 h3 h4 h5 => ⟨low_pl, low_spr, by rw [set_pre hj]; exact h P a m h1 h2 h3 h4 h5⟩⟩
theorem u_bent0 {n : Nat} {v : D} (hf : fitD n v = true) (hw : wideD v) (hn : n ≤ 20) (h : ∀ (x : D) (a m : Int), fitD (n + 2) x = true → R x [spr a m]) : caM 2 (F_law_bent (n + 1)) R [.ob 0, v] [spr a m] :=
  i_caM (o := spr a m) rfl rfl ⟨fit_low _ _ _ hf, trivial⟩ nd_spr low_spr ⟨rfl, ⟨a, m, rfl⟩, v, rfl, hf, hw, hn, fun x a m h1 => ⟨fit_low _ _ _ h1, low_spr, h x a m h1⟩⟩
theorem u_bentG {n : Nat} {v : D} (hj : j = pre.length) (hf : fitD n v = true) (hw : wideD v) (hn : n ≤ 20) (h : ∀ (x : D) (a m : Int), fitD (n + 2) x = true → R x (pre ++ [spr a m])) : caM 2 (F_law_bent (n + 1)) R [.ob j, v] (pre ++ [spr a m]) :=
  i_caM (o := spr a m) (at_pre hj) rfl ⟨fit_low _ _ _ hf, trivial⟩ nd_spr low_spr ⟨rfl, ⟨a, m, rfl⟩, v, rfl, hf, hw, hn, fun x a m h1 => ⟨fit_low _ _ _ h1, low_spr, by rw [set_pre hj]; exact h x a m h1⟩⟩
theorem u_begin {R : QE} {RE : QX} (r : R beginS.d []) : F_law_begin [] [] R RE := ⟨rfl, rfl, r⟩
end
section
local macro_rules | `(tactic| walk_at "d") => `(tactic| (first
  | with_reducible refine Stp.go ?_
  | with_reducible refine And.intro ?_ ?_
  | with_reducible refine fun _ => ?_
  | ((with_reducible refine s_iteY ?_); refine And.intro rfl ?_)
  | ((with_reducible refine s_iteN ?_); refine And.intro rfl ?_)
  | with_reducible refine iteB (fun _ => ?_) (fun _ => ?_)
  | with_reducible refine i_eq ?_ ?_ ?_
  | with_reducible refine i_ne ?_ ?_ ?_
  | with_reducible refine rtp ?_ ?_
  | with_reducible refine u_isB ?_ ?_
  | with_reducible refine u_isI ?_ ?_
  | with_reducible refine u_isT ?_ ?_
  | with_reducible refine u_isS ?_ ?_
  | with_reducible refine u_isL ?_ ?_
  | with_reducible refine u_isLT ?_ ?_
  | with_reducible refine u_is_within ?_ ?_
  | with_reducible refine u_law_int ?_ ?_
  | with_reducible refine u_is_row ?_ ?_
  | with_reducible refine u_law_made ?_ ?_
  | with_reducible refine u_is_program ?_ ?_
  | with_reducible refine u_law_good_program ?_ ?_
  | with_reducible refine u_is_plan ?_ ?_
  | with_reducible refine u_law_good_plan ?_ ?_
  | with_reducible refine u_law_kind ?_ ?_
  | with_reducible refine u_pick0 ?_ ?_ ?_
  | with_reducible refine u_pickG ?_ ?_ ?_ ?_
  | with_reducible refine u_look ?_ ?_
  | with_reducible refine u_fits ?_ ?_ ?_
  | with_reducible refine u_program0 ?_
  | with_reducible refine u_plan0 ?_
  | with_reducible refine u_begin ?_
  | with_reducible refine rtm3 ?_ ?_ ?_
  | ((with_reducible refine s_sLst ?_); refine Exists.intro _ (And.intro rfl (Exists.intro _ (And.intro rfl (Exists.intro _ (And.intro (by simp only [List.set_cons_zero, List.set_cons_succ]; rfl) ?_))))))
  | with_reducible refine i_oIC ?_ ?_
  | with_reducible refine i_addS ?_ ?_
  | with_reducible refine i_addT ?_ ?_
  | with_reducible refine i_addL ?_ ?_
  | with_reducible refine i_trS ?_ ?_
  | with_reducible refine i_lenS ?_ ?_
  | with_reducible refine i_slS ?_ ?_
  | with_reducible refine i_r1Q ?_ ?_
  | with_reducible refine i_r2Q ?_ ?_
  | with_reducible refine i_lsR1Q ?_ ?_
  | with_reducible refine i_lsR2Q ?_ ?_
  | with_reducible refine i_inT ?_ ?_ ?_
  | with_reducible refine i_inL ?_ ?_ ?_
  | with_reducible refine i_ninT ?_ ?_ ?_
  | with_reducible refine i_ninL ?_ ?_ ?_
  | ((with_reducible refine s_tV ?_); refine Exists.intro _ (And.intro rfl ?_))
  | ((with_reducible refine s_ixT ?_); refine Exists.intro _ (And.intro rfl ?_))
  | ((with_reducible refine s_gNm ?_); refine Exists.intro _ (And.intro (by simp only [wipeD, setsD, List.set_cons_zero, List.set_cons_succ]; rfl) ?_))
  | ((with_reducible refine s_stQ ?_); refine Exists.intro _ (And.intro (by simp only [wipeD, setsD, List.set_cons_zero, List.set_cons_succ]; rfl) ?_))
  | ((with_reducible refine s_c1 ?_); refine Exists.intro _ (And.intro (by simp only [wipeD, setsD, List.set_cons_zero, List.set_cons_succ]; rfl) ?_))
  | ((with_reducible refine s_p2 ?_); refine Exists.intro _ (And.intro (by simp only [wipeD, setsD, List.set_cons_zero, List.set_cons_succ]; rfl) ?_))
  | ((with_reducible refine s_p3 ?_); refine Exists.intro _ (And.intro (by simp only [wipeD, setsD, List.set_cons_zero, List.set_cons_succ]; rfl) ?_))
  | ((with_reducible refine s_cN' ?_); refine And.intro rfl (Exists.intro _ (And.intro (by simp only [wipeD, setsD, List.set_cons_zero, List.set_cons_succ]; rfl) ?_)))
  | ((with_reducible refine s_ixL ?_); refine Exists.intro _ (And.intro rfl ?_))
  | ((with_reducible refine s_trO ?_); refine Exists.intro _ (And.intro rfl ?_))
  | ((with_reducible refine s_lenO ?_); refine Exists.intro _ (And.intro rfl ?_))
  | ((with_reducible refine s_listO ?_); refine Exists.intro _ (And.intro rfl ?_))
  | ((with_reducible refine s_ixO ?_); refine Exists.intro _ (And.intro rfl (Exists.intro _ (And.intro rfl ?_))))
  | ((with_reducible refine s_app1 ?_); refine And.intro rfl ?_)
  | ((with_reducible refine s_cN ?_); refine And.intro rfl ?_)
  | ((with_reducible refine s_dgtY ?_); refine Exists.intro _ (And.intro rfl ?_))
  | ((with_reducible refine i_dgtN ?_ ?_); exact rfl)))
local macro_rules | `(tactic| walk_at "ds") => `(tactic| ((try simp only [startD, List.map_cons, List.map_nil, List.length_cons, List.length_nil, List.replicate, Nat.reduceAdd, Nat.reduceSub, List.cons_append, List.nil_append]); repeat' walk_at "d"))
/-- side conditions -/
local macro_rules | `(tactic| walk_at "e") => `(tactic| (first
  | with_reducible assumption
  | ((with_reducible show fitD _ _ = true); (first | rfl | decide +kernel | (exact fit_mono _ 30 _ (by decide) (by assumption))))
  | ((with_reducible show lowDs _ _); (repeat' first | trivial | (exact fit_low _ 30 _ (by assumption)) | refine And.intro ?_ ?_); done)
  | ((with_reducible show lowO _ _); (show lowDs _ _); (repeat' first | trivial | (exact fit_low _ 30 _ (by assumption)) | refine And.intro ?_ ?_); done)
  | ((with_reducible show (_ : Int) < _); (first | decide | omega))
  | ((with_reducible show (_ : Int) ≤ _); (first | decide | omega))
  | ((with_reducible show lowD _ _); (first | trivial | (exact fit_low _ 30 _ (by assumption))))
  | ((with_reducible show List.length _ = _); simp; done)
  | ((with_reducible show _ ≤ sizeLine); rw [sizeLine_eq]; simp; done)
  | ((with_reducible show List.all _ _ = true); (first | rfl | decide +kernel | (simp [fitD]; done)))
  | skip))
local macro_rules | `(tactic| walk_at "de") => `(tactic| (walk_at "ds" <;> walk_at "e"))


theorem cmulL {i j : Int} (h1 : -(2 ^ 64) < i) (h2 : i < 2 ^ 64) : CMul i j := .inl ⟨h1, h2⟩
theorem cmulR {i j : Int} (h1 : -(2 ^ 64) < j) (h2 : j < 2 ^ 64) : CMul i j := .inr ⟨h1, h2⟩
theorem at_map {ns : List Int} {k : Int} (h0 : 0 ≤ k) (h : k < ns.length) : ∃ i, atD (ns.map .int) k = some (.int i) := by
  obtain ⟨n, rfl⟩ := Int.eq_ofNat_of_zero_le h0
  have hn : n < ns.length := by omega
  refine ⟨ns[n], ?_⟩
  show (ns.map D.int)[n]? = _
  rw [List.getElem?_map, List.getElem?_eq_getElem hn]; rfl
theorem rd_law_spring (ds : List D) (R : O → Prop) (h : ∃ (ns : List Int) (at_ : Int), ds = [.lst (ns.map .int), .int at_] ∧ 0 ≤ at_ ∧ ∀ a m, R (spr a m)) : t_law_spring (endN R) (startD 4 ds) [] := by
  obtain ⟨ns, at_, rfl, h0, r⟩ := h
  unfold t_law_spring
  walk_at "de"
  · rename_i hlt
    simp only [List.length_map, decide_eq_true_eq] at hlt
    obtain ⟨i, hi⟩ := at_map h0 hlt
    refine i_ixL hi ?_
    walk_at "de"
    all_goals first
      | exact ⟨_, rfl, rfl, nd_spr, low_spr, r _ _⟩
      | (refine cmulL ?_ ?_ <;> decide)
      | (refine cmulR ?_ ?_ <;> decide)
      | (exact ⟨by decide, by decide, by decide⟩)
  all_goals first
    | exact ⟨_, rfl, rfl, nd_spr, low_spr, r _ _⟩
    | (refine cmulL ?_ ?_ <;> decide)
    | (refine cmulR ?_ ?_ <;> decide)
    | (exact ⟨by decide, by decide, by decide⟩)
theorem cdiv_of {i k : Int} (h0 : 0 < k) (h : k < 2 ^ 64) : CDivW i k := by
  refine ⟨h0, ?_⟩
  have h1 : k.natAbs < 2 ^ 64 := by omega
  have h2 := (Nat.log2_lt (n := k.natAbs) (k := 64) (by omega)).mpr h1
  omega
theorem rd_law_pick (d : D) (o : O) (r : List D) (R : QE) (h : d = .ob 0 ∧ (∃ a m, o = spr a m) ∧ ∃ k : Int, r = [.int k] ∧ 0 < k ∧ k < 2 ^ 64 ∧ ∀ i a m, 0 ≤ i → i < k → R (.int i) [spr a m]) : t_law_pick (endM R) (startD 3 (d :: r)) [o] := by
  obtain ⟨rfl, ⟨a, m, rfl⟩, k, rfl, h1, h2, r⟩ := h
  unfold t_law_pick
  walk_at "de"
  all_goals first
    | exact r _ _ _ (Int.emod_nonneg _ (by omega)) (Int.emod_lt_of_pos _ h1)
    | exact cdiv_of h1 h2
    | exact cdiv_of (by decide) (by decide)
    | (refine cmulR ?_ ?_ <;> decide)
theorem rd_law_kind (ds : List D) (R : QE) (h : ∃ v, ds = [v] ∧ fitD 30 v = true ∧ R (.int (kindD v)) []) : t_law_kind (endP R) (startD 1 ds) [] := by
  obtain ⟨v, rfl, f, r⟩ := h
  unfold t_law_kind
  cases v <;> walk_at "de"
  all_goals exact r
theorem rd_law_begin (ds : List D) (R : QE) (h : ds = [] ∧ R beginS.d []) : t_law_begin (endP R) (startD 0 ds) [] := by
  obtain ⟨rfl, r⟩ := h
  unfold t_law_begin
  walk_at "de"
theorem rd_law_program (d : D) (o : O) (r : List D) (R : QE) (h : d = .ob 0 ∧ (∃ a m, o = spr a m) ∧ r = [] ∧ ∀ (t w : Int) (e : Bool) a m, 0 ≤ t → t ≤ 3 → 1 ≤ w → w ≤ 3 → R (.tup [.int t, .int w, wayD e]) [spr a m]) : t_law_program (endM R) (startD 1 (d :: r)) [o] := by
  obtain ⟨rfl, ⟨a, m, rfl⟩, rfl, r⟩ := h
  unfold t_law_program
  walk_at "de"
  rename_i i1 _ _ h1 h2 i2 _ _ h3 h4 i3 _ _ h5 h6
  have h7 : i3 = 0 ∨ i3 = 1 := by omega
  rcases h7 with rfl | rfl
  · refine i_ixL rfl ?_
    walk_at "de"
    exact r i1 (1 + i2) true _ _ h1 (by omega) (by omega) (by omega)
  · refine i_ixL rfl ?_
    walk_at "de"
    exact r i1 (1 + i2) false _ _ h1 (by omega) (by omega) (by omega)
theorem rd_law_plan (d : D) (o : O) (r : List D) (R : QE) (h : d = .ob 0 ∧ (∃ a m, o = spr a m) ∧ r = [] ∧ ∀ (P : Pl) a m, P.ok → R P.d [spr a m]) : t_law_plan (endM R) (startD 2 (d :: r)) [o] := by
  obtain ⟨rfl, ⟨a, m, rfl⟩, rfl, r⟩ := h
  unfold t_law_plan
  walk_at "de"
  rename_i i1 _ _ h1 h2 i3 _ _ h5 h6
  have h7 : ∃ z : Int, (0 ≤ z ∧ z ≤ 2) ∧ atD [.int 0, .int 1, .int 1, .int 2] i3 = some (.int z) := by
    have h8 : i3 = 0 ∨ i3 = 1 ∨ i3 = 2 ∨ i3 = 3 := by omega
    rcases h8 with rfl | rfl | rfl | rfl
    · exact ⟨0, by decide, rfl⟩
    · exact ⟨1, by decide, rfl⟩
    · exact ⟨1, by decide, rfl⟩
    · exact ⟨2, by decide, rfl⟩
  obtain ⟨z, hz, he⟩ := h7
  refine i_ixL he ?_
  walk_at "de"
  rename_i i4 _ _ _ _ t w e _ _ h9 h10 h11 h12
  exact r ⟨t, w, e, 1 + i1, z, eqD (.int i4) (.int 0)⟩ _ _ ⟨h9, h10, h11, h12, by show 1 ≤ 1 + i1; omega, by show 1 + i1 ≤ 3; omega, hz.1, hz.2⟩
theorem rd_law_small (d : D) (o : O) (r : List D) (R : QE) (h : d = .ob 0 ∧ (∃ a m, o = spr a m) ∧ r = [] ∧ ∀ (P : Pl) a m, P.ok → P.tol ≤ 2 → P.wait ≤ 2 → P.most ≤ 2 → P.spread ≤ 1 → R P.d [spr a m]) : t_law_small (endM R) (startD 7 (d :: r)) [o] := by
  obtain ⟨rfl, ⟨a, m, rfl⟩, rfl, r⟩ := h
  unfold t_law_small
  walk_at "de"
  rename_i P _ _ hP
  obtain ⟨h1, h2, h3, h4, h5, h6, h7, h8⟩ := hP
  exact r ⟨if P.tol < 2 then P.tol else 2, if P.wait < 2 then P.wait else 2, P.each, if P.most < 2 then P.most else 2, if P.spread < 1 then P.spread else 1, P.lean⟩ _ _
    ⟨by dsimp only; omega, by dsimp only; omega, by dsimp only; omega, by dsimp only; omega, by dsimp only; omega, by dsimp only; omega, by dsimp only; omega, by dsimp only; omega⟩ (by dsimp only; omega) (by dsimp only; omega) (by dsimp only; omega) (by dsimp only; omega)
end
end L2.DL

set_option Elab.async false
set_option linter.all false
set_option maxRecDepth 100000
set_option maxHeartbeats 1000000
/-! SG: bent values, all programs, good stands. -/
namespace L2.DL
open PySem PySem.Spec PyProof.Rows
section
local macro_rules | `(tactic| walk_at "d") => `(tactic| (first
  | with_reducible refine Stp.go ?_
  | with_reducible refine And.intro ?_ ?_
  | with_reducible refine fun _ => ?_
  | ((with_reducible refine s_iteY ?_); refine And.intro rfl ?_)
  | ((with_reducible refine s_iteN ?_); refine And.intro rfl ?_)
  | with_reducible refine iteB (fun _ => ?_) (fun _ => ?_)
  | with_reducible refine i_eq ?_ ?_ ?_
  | with_reducible refine i_ne ?_ ?_ ?_
  | with_reducible refine rtp ?_ ?_
  | with_reducible refine u_isB ?_ ?_
  | with_reducible refine u_isI ?_ ?_
  | with_reducible refine u_isT ?_ ?_
  | with_reducible refine u_isS ?_ ?_
  | with_reducible refine u_isL ?_ ?_
  | with_reducible refine u_isLT ?_ ?_
  | with_reducible refine u_is_within ?_ ?_
  | with_reducible refine u_law_int ?_ ?_
  | with_reducible refine u_is_row ?_ ?_
  | with_reducible refine u_law_made ?_ ?_
  | with_reducible refine u_is_program ?_ ?_
  | with_reducible refine u_law_good_program ?_ ?_
  | with_reducible refine u_is_plan ?_ ?_
  | with_reducible refine u_law_good_plan ?_ ?_
  | with_reducible refine u_law_kind ?_ ?_
  | with_reducible refine u_pick0 ?_ ?_ ?_
  | with_reducible refine u_pickG ?_ ?_ ?_ ?_
  | with_reducible refine u_look ?_ ?_
  | with_reducible refine u_fits ?_ ?_ ?_
  | with_reducible refine u_program0 ?_
  | with_reducible refine u_plan0 ?_
  | with_reducible refine u_begin ?_
  | with_reducible refine rtm3 ?_ ?_ ?_
  | ((with_reducible refine s_sLst ?_); refine Exists.intro _ (And.intro rfl (Exists.intro _ (And.intro rfl (Exists.intro _ (And.intro (by simp only [List.set_cons_zero, List.set_cons_succ]; rfl) ?_))))))
  | with_reducible refine i_oIC ?_ ?_
  | with_reducible refine i_addS ?_ ?_
  | with_reducible refine i_addT ?_ ?_
  | with_reducible refine i_addL ?_ ?_
  | with_reducible refine i_trS ?_ ?_
  | with_reducible refine i_lenS ?_ ?_
  | with_reducible refine i_slS ?_ ?_
  | with_reducible refine i_r1Q ?_ ?_
  | with_reducible refine i_r2Q ?_ ?_
  | with_reducible refine i_lsR1Q ?_ ?_
  | with_reducible refine i_lsR2Q ?_ ?_
  | with_reducible refine i_inT ?_ ?_ ?_
  | with_reducible refine i_inL ?_ ?_ ?_
  | with_reducible refine i_ninT ?_ ?_ ?_
  | with_reducible refine i_ninL ?_ ?_ ?_
  | ((with_reducible refine s_tV ?_); refine Exists.intro _ (And.intro rfl ?_))
  | ((with_reducible refine s_ixT ?_); refine Exists.intro _ (And.intro rfl ?_))
  | ((with_reducible refine s_gNm ?_); refine Exists.intro _ (And.intro (by simp only [wipeD, setsD, List.set_cons_zero, List.set_cons_succ]; rfl) ?_))
  | ((with_reducible refine s_stQ ?_); refine Exists.intro _ (And.intro (by simp only [wipeD, setsD, List.set_cons_zero, List.set_cons_succ]; rfl) ?_))
  | ((with_reducible refine s_c1 ?_); refine Exists.intro _ (And.intro (by simp only [wipeD, setsD, List.set_cons_zero, List.set_cons_succ]; rfl) ?_))
  | ((with_reducible refine s_p2 ?_); refine Exists.intro _ (And.intro (by simp only [wipeD, setsD, List.set_cons_zero, List.set_cons_succ]; rfl) ?_))
  | ((with_reducible refine s_p3 ?_); refine Exists.intro _ (And.intro (by simp only [wipeD, setsD, List.set_cons_zero, List.set_cons_succ]; rfl) ?_))
  | ((with_reducible refine s_cN' ?_); refine And.intro rfl (Exists.intro _ (And.intro (by simp only [wipeD, setsD, List.set_cons_zero, List.set_cons_succ]; rfl) ?_)))
  | ((with_reducible refine s_ixL ?_); refine Exists.intro _ (And.intro rfl ?_))
  | ((with_reducible refine s_trO ?_); refine Exists.intro _ (And.intro rfl ?_))
  | ((with_reducible refine s_lenO ?_); refine Exists.intro _ (And.intro rfl ?_))
  | ((with_reducible refine s_listO ?_); refine Exists.intro _ (And.intro rfl ?_))
  | ((with_reducible refine s_ixO ?_); refine Exists.intro _ (And.intro rfl (Exists.intro _ (And.intro rfl ?_))))
  | ((with_reducible refine s_app1 ?_); refine And.intro rfl ?_)
  | ((with_reducible refine s_cN ?_); refine And.intro rfl ?_)
  | ((with_reducible refine s_dgtY ?_); refine Exists.intro _ (And.intro rfl ?_))
  | ((with_reducible refine i_dgtN ?_ ?_); exact rfl)))
local macro_rules | `(tactic| walk_at "ds") => `(tactic| ((try simp only [startD, List.map_cons, List.map_nil, List.length_cons, List.length_nil, List.replicate, Nat.reduceAdd, Nat.reduceSub, List.cons_append, List.nil_append]); repeat' walk_at "d"))
/-- side conditions -/
local macro_rules | `(tactic| walk_at "e") => `(tactic| (first
  | with_reducible assumption
  | ((with_reducible show fitD _ _ = true); (first | rfl | decide +kernel | (exact fit_mono _ 30 _ (by decide) (by assumption))))
  | ((with_reducible show lowDs _ _); (repeat' first | trivial | (exact fit_low _ 30 _ (by assumption)) | refine And.intro ?_ ?_); done)
  | ((with_reducible show lowO _ _); (show lowDs _ _); (repeat' first | trivial | (exact fit_low _ 30 _ (by assumption)) | refine And.intro ?_ ?_); done)
  | ((with_reducible show (_ : Int) < _); (first | decide | omega))
  | ((with_reducible show (_ : Int) ≤ _); (first | decide | omega))
  | ((with_reducible show lowD _ _); (first | trivial | (exact fit_low _ 30 _ (by assumption))))
  | ((with_reducible show List.length _ = _); simp; done)
  | ((with_reducible show _ ≤ sizeLine); rw [sizeLine_eq]; simp; done)
  | ((with_reducible show List.all _ _ = true); (first | rfl | decide +kernel | (simp [fitD]; done)))
  | skip))
local macro_rules | `(tactic| walk_at "de") => `(tactic| (walk_at "ds" <;> walk_at "e"))


theorem in_range {z lo : Int} {n : Nat} : inD (.int z) (rangeD lo n) = decide (lo ≤ z ∧ z < lo + n) := by
  rw [Bool.eq_iff_iff]
  simp only [inD, rangeD, List.any_map, List.any_eq_true, List.mem_range, Function.comp_apply, eqD, decide_eq_true_eq]
  constructor
  · rintro ⟨i, h1, h2⟩; omega
  · rintro ⟨h1, h2⟩; exact ⟨(z - lo).toNat, by omega, by omega⟩
theorem range_fit {lo : Int} {n k : Nat} : (rangeD lo n).all (fitD k) = true := by
  simp [rangeD, List.all_map, fitD]
theorem nil_eq (ys : List D) : eqD (.lst ys) (.lst []) = ys.isEmpty := by cases ys <;> simp [eqD, eqDs]
theorem flt_fit {p : D → Bool} {xs : List D} (h : ∀ x ∈ xs, fitD 30 x = true) : fitD 40 (.lst (xs.filterMap fun x => if p x = true then none else some x)) = true := by
  simp only [fitD, List.all_eq_true]
  intro x hx
  obtain ⟨y, hy, e⟩ := List.mem_filterMap.mp hx
  split at e
  · cases e
  · cases e; exact fit_mono _ 30 _ (by decide) (h _ hy)
theorem flt_nil {p : D → Bool} {xs : List D} : (xs.filterMap fun x => if p x = true then none else some x).isEmpty = xs.all p := by
  induction xs with
  | nil => rfl
  | cons x r ih =>
    cases e : p x
    · simp [List.filterMap_cons, e]
    · simp [List.filterMap_cons, e, ih]
theorem abs_le {z t : Int} : ((if z < 0 then -z else z) ≤ t) ↔ (-t ≤ z ∧ z ≤ t) := by split <;> omega
theorem cut46 (a b c d e f : D) : cutD [a, b, c, d, e, f] (some 4) none = [e, f] := rfl
theorem rd_law_good_stand (ds : List D) (R : QE) (h : ∃ (P : Pl) (x : D), ds = [P.d, x] ∧ P.ok ∧ fitD 30 x = true ∧ R (.bl (fitsB P x)) []) : t_law_good_stand (endP R) (startD 12 ds) [] := by
  obtain ⟨P, x, rfl, hP, fx, r⟩ := h
  have f := P.fit
  unfold t_law_good_stand
  rcases stand_cases x with ⟨off, want, left, hand, leans, locked, rfl, b1, b2, b3, b4⟩ | ⟨a, b, c, d, e, g, rfl, h, hn⟩ | ⟨hr, hn⟩
  · walk_at "de"
    rw [cut4]
    refine lc_pure [.int off, .int want, .int left, .int hand] (fun x => if isWithinB x (-20) 20 = true then none else some x) (by rw [sizeLine_eq]; simp) (fun x hx Q N hQ hN => ?_) ?_
    · have fx : fitD 30 x = true := by
        simp at hx
        rcases hx with rfl | rfl | rfl | rfl <;> simp [fitD]
      walk_at "de"
      · rename_i hh
        exact hQ _ (by simp_all)
      · rename_i hh
        exact hN (by simp_all)
    · have e : ([.int off, .int want, .int left, .int hand] : List D).filterMap (fun x => if isWithinB x (-20) 20 = true then none else some x) = [] := by simp [isWithinB, b1, b2, b3, b4]
      rw [e]
      walk_at "de"
      rw [cut46]
      refine lc_pure [.bl leans, .bl locked] (fun x => if isBoolB x = true then none else some x) (by rw [sizeLine_eq]; simp) (fun x hx Q N hQ hN => ?_) ?_
      · have fx : fitD 30 x = true := by
          simp at hx
          rcases hx with rfl | rfl <;> simp [fitD]
        walk_at "de"
        · rename_i hh
          exact hQ _ (by simp_all)
        · rename_i hh
          exact hN (by simp_all)
      · have e : ([.bl leans, .bl locked] : List D).filterMap (fun x => if isBoolB x = true then none else some x) = [] := by simp [isBoolB]
        rw [e]
        clear e
        have hr : RgOk 0 (P.most + 1) := by have := hP.m0; have := hP.m1; unfold RgOk; omega
        have hr2 : RgOk 1 (P.wait + 1) := by have := hP.w0; have := hP.w1; unfold RgOk; omega
        have hm0 := hP.m0
        have hm1 := hP.m1
        have hw0 := hP.w0
        have hw1 := hP.w1
        cases locked <;> cases leans <;> walk_at "de"
        all_goals first
          | exact range_fit
          | skip
        all_goals (refine rB r ?_; clear r f fx hr hr2; rw [Bool.eq_iff_iff]; try simp only [in_range, decide_eq_true_eq, decide_eq_false_iff_not, Bool.not_eq_true', Bool.not_eq_false', abs_le] at *)
        all_goals (by_cases hw : want = 0 <;> by_cases hh : hand = 0 <;> simp_all [fitsB, fitsI, inD, eqD, eqDs] <;> omega)
  · obtain ⟨f1, f2, f3, f4, f5, f6⟩ := fit_tup6 fx
    have f1 := fit_mono _ _ 30 (by decide) f1
    have f2 := fit_mono _ _ 30 (by decide) f2
    have f3 := fit_mono _ _ 30 (by decide) f3
    have f4 := fit_mono _ _ 30 (by decide) f4
    have f5 := fit_mono _ _ 30 (by decide) f5
    have f6 := fit_mono _ _ 30 (by decide) f6
    have g1 : ∀ x ∈ [a, b, c, d], fitD 30 x = true := by
      intro x hx
      simp at hx
      rcases hx with rfl | rfl | rfl | rfl <;> assumption
    have g2 : ∀ x ∈ [e, g], fitD 30 x = true := by
      intro x hx
      simp at hx
      rcases hx with rfl | rfl <;> assumption
    have k1 := flt_fit (p := fun x => isWithinB x (-20) 20) g1
    have k2 := flt_fit (p := isBoolB) g2
    walk_at "de"
    rw [cut4]
    refine lc_pure [a, b, c, d] (fun x => if isWithinB x (-20) 20 = true then none else some x) (by rw [sizeLine_eq]; simp) (fun x hx Q N hQ hN => ?_) ?_
    · have fx := g1 x hx
      walk_at "de"
      · rename_i hh
        exact hQ _ (by simp_all)
      · rename_i hh
        exact hN (by simp_all)
    · walk_at "de"
      · refine rB r ?_; rw [hn P]
      · rename_i h1
        rw [nil_eq, flt_nil] at h1
        rw [cut46]
        refine lc_pure [e, g] (fun x => if isBoolB x = true then none else some x) (by rw [sizeLine_eq]; simp) (fun x hx Q N hQ hN => ?_) ?_
        · have fx := g2 x hx
          walk_at "de"
          · rename_i hh
            exact hQ _ (by simp_all)
          · rename_i hh
            exact hN (by simp_all)
        · walk_at "de"
          · refine rB r ?_; rw [hn P]
          all_goals (rename_i h2; rw [nil_eq, flt_nil] at h2; exfalso; clear r; simp_all; done)
  · walk_at "de"
    all_goals first
      | (refine rB r ?_; rw [hn P]; done)
      | (exfalso; clear r; simp_all; done)
/-- the programs with these bounds -/
def progsW (t w : Int) : List D := [.tup [.int t, .int w, .str "each"], .tup [.int t, .int w, .str "sum"]]
def progsT (t : Int) : List D := progsW t 1 ++ progsW t 2 ++ progsW t 3
theorem allProgs_eq : allProgs = progsT 0 ++ progsT 1 ++ progsT 2 ++ progsT 3 := rfl
def isI : D → Int
  | .int i => i
  | _ => 0
theorem rd_programs_of (ds : List D) (R : QE) (h : ds = [] ∧ R (.lst allProgs) []) : t_programs_of (endP R) (startD 4 ds) [] := by
  obtain ⟨rfl, r⟩ := h
  unfold t_programs_of
  walk_at "de"
  refine fr_by (fun rest ρ L => L = [] ∧ ∃ done acc a b c, done ++ rest = rangeD 0 4 ∧ acc = done.flatMap (fun x => progsT (isI x)) ∧ ρ = [some (.lst acc), a, b, c]) ⟨rfl, [], [], none, none, none, rfl, rfl, rfl⟩ ?_ ?_
  · rintro x rest ρ L ⟨rfl, done, acc, a, b, c, hd, hacc, rfl⟩
    obtain ⟨t, rfl⟩ : ∃ t, x = .int t := by
      have : x ∈ rangeD 0 4 := by rw [← hd]; simp
      obtain ⟨i, _, e⟩ := List.mem_map.mp this
      exact ⟨_, e.symm⟩
    have hlen : acc.length ≤ 24 := by
      have h1 : done.length ≤ 4 := by
        have := congrArg List.length hd
        simp [rangeD] at this; omega
      have h2 : ∀ l : List D, (l.flatMap fun x => progsT (isI x)).length = 6 * l.length := by
        intro l
        induction l with
        | nil => rfl
        | cons y l ih => rw [List.flatMap_cons, List.length_append, ih]; simp [progsT, progsW]; omega
      rw [hacc, h2]; omega
    walk_at "de"
    refine fr_by (fun rest' ρ L => L = [] ∧ ∃ done' acc' b c, done' ++ rest' = rangeD 1 3 ∧ acc' = acc ++ done'.flatMap (fun x => progsW t (isI x)) ∧ ρ = [some (.lst acc'), some (.int t), b, c]) ⟨rfl, [], acc, b, c, rfl, by simp, rfl⟩ ?_ ?_
    · rintro x' rest' ρ L ⟨rfl, done', acc', b', c', hd', hacc', rfl⟩
      obtain ⟨w, rfl⟩ : ∃ w, x' = .int w := by
        have : x' ∈ rangeD 1 3 := by rw [← hd']; simp
        obtain ⟨i, _, e⟩ := List.mem_map.mp this
        exact ⟨_, e.symm⟩
      have hlen' : acc'.length ≤ 30 := by
        have h1 : done'.length ≤ 3 := by
          have := congrArg List.length hd'
          simp [rangeD] at this; omega
        have h2 : ∀ l : List D, (l.flatMap fun x => progsW t (isI x)).length = 2 * l.length := by
          intro l
          induction l with
          | nil => rfl
          | cons y l ih => rw [List.flatMap_cons, List.length_append, ih]; simp [progsW]; omega
        rw [hacc', List.length_append, h2]; omega
      walk_at "de"
      refine lc_pure [.str "each", .str "sum"] (fun x => some (.tup [.int t, .int w, x])) (by rw [sizeLine_eq]; simp) (fun y hy Q N hQ hN => ?_) ?_
      · walk_at "de"
        exact hQ _ rfl
      · refine i_addL (by rw [sizeLine_eq]; simp; omega) ?_
        walk_at "de"
        all_goals first
          | rfl
          | exact ⟨done' ++ [.int w], _, _, _, by simpa using hd', by rw [hacc']; simp [progsW, isI], rfl⟩
    · rintro ρ L ⟨rfl, done', acc', b', c', hd', hacc', rfl⟩
      have hd' : done' = rangeD 1 3 := by simpa using hd'
      subst hd'
      walk_at "de"
      all_goals first
        | rfl
        | trivial
        | exact ⟨done ++ [.int t], _, _, _, _, by simpa using hd, by rw [hacc', hacc]; simp [progsT, isI, rangeD, List.range, List.range.loop], rfl⟩
  · rintro ρ L ⟨rfl, done, acc, a, b, c, hd, hacc, rfl⟩
    have hd : done = rangeD 0 4 := by simpa using hd
    subst hd
    walk_at "de"
    · exact fit_low _ 30 _ (by rw [hacc]; decide +kernel)
    · rw [hacc]; exact r
theorem u_programs_of {R : QE} {RE : QX} (r : R (.lst allProgs) []) : F_programs_of [] [] R RE := ⟨rfl, rfl, r⟩
theorem rd_all_programs (ds : List D) (R : QE) (h : ds = [] ∧ R (.lst allProgs) []) : t_all_programs (endP R) (startD 0 ds) [] := by
  obtain ⟨rfl, r⟩ := h
  unfold t_all_programs
  walk_at "de"
  refine u_programs_of ?_
  walk_at "de"
/-- the values that stand written -/
def bentL : List D := [.non, .bl true, .bl false, .int 0, .int 1, .int 2, .int 3, .int 4, .int (-1), .int (-2), .int 20, .int 21, .int (-20), .int (-21), .int (10 ^ Int.toNat 30), .str "", .str "each", .str "sum"] ++
  [.tup [], .lst [], .tup [.int 0, .int 1, .str "each"], .tup [.int 1, .int 0, .bl false], .tup [.int 0, .int 0, .int 0, .int 0, .bl false, .bl true]]
theorem bentL_fit : ∀ x ∈ bentL, fitD 2 x = true := by
  have h : bentL.all (fitD 2) = true := by decide +kernel
  exact List.all_eq_true.mp h
theorem at_mem {xs : List D} {i : Int} (h0 : 0 ≤ i) (h : i < xs.length) : ∃ x, atD xs i = some x ∧ x ∈ xs := by
  obtain ⟨n, rfl⟩ := Int.eq_ofNat_of_zero_le h0
  have hn : n < xs.length := by omega
  exact ⟨xs[n], List.getElem?_eq_getElem hn, List.getElem_mem hn⟩
theorem bent_end {R : QE} {n : Nat} {i a m : Int} (r : ∀ (x : D) (a m : Int), fitD (n + 2) x = true → R x [spr a m]) (h0 : 0 ≤ i) (h : i < bentL.length) : oIx (.lst bentL) (.int i) [spr a m] (FinR 1 R) := by
  obtain ⟨x, h1, h2⟩ := at_mem h0 h
  have f := bentL_fit x h2
  exact i_ixL h1 (rtm3 (fit_low _ 2 _ f) low_spr (r x a m (fit_mono _ 2 _ (by omega) f)))
theorem cut_fit {n : Nat} {xs : List D} {lo hi : Option Int} (h : ∀ x ∈ xs, fitD n x = true) : ∀ x ∈ cutD xs lo hi, fitD n x = true := fun x hx => h x (List.mem_of_mem_drop (List.mem_of_mem_take hx))
theorem cut_len {xs : List D} {lo hi : Option Int} : (cutD xs lo hi).length ≤ xs.length := by
  unfold cutD; rw [List.length_take, List.length_drop]; omega
theorem tup_fit {n : Nat} {xs : List D} (h : ∀ x ∈ xs, fitD n x = true) : fitD (n + 1) (.tup xs) = true := by simpa [fitD] using h
theorem cat_fit {n : Nat} {xs ys : List D} (h : ∀ x ∈ xs, fitD n x = true) (g : ∀ x ∈ ys, fitD n x = true) : ∀ x ∈ xs ++ ys, fitD n x = true := fun x hx => (List.mem_append.mp hx).elim (h x) (g x)
theorem wideDs_mem : ∀ {xs : List D}, wideDs xs → ∀ x ∈ xs, wideD x
  | [], _, _, h => nomatch h
  | x :: xs, h, y, hy => by
    simp only [wideDs] at h
    rcases List.mem_cons.mp hy with e | hy
    · rw [e]; exact h.1
    · exact wideDs_mem h.2 y hy
theorem rd_law_bent (n : Nat) (d : D) (o : O) (r : List D) (R : QE) (h : P_law_bent n d o r fun x o' => R x [o']) : t_law_bent n (endM R) (startD 5 (d :: r)) [o] := by
  obtain ⟨rfl, ⟨a, m, rfl⟩, v, rfl, fv, hw, hn, r⟩ := h
  have fv30 := fit_mono _ _ 30 (by omega) fv
  unfold t_law_bent
  walk_at "de"
  all_goals first
    | (exact ⟨by decide, by decide, by decide⟩)
    | (refine bent_end r (by assumption) (by assumption))
    | skip
  rename_i ht _ i0 _ _ _ _ _
  obtain ⟨xs, rfl⟩ : ∃ xs, v = .tup xs := by
    cases v with
    | tup xs => exact ⟨xs, rfl⟩
    | _ => simp [isTupB] at ht
  obtain ⟨k, rfl, gx⟩ := fitD_tup fv
  simp only [wideD] at hw
  have hpos : (0 : Int) < xs.length := by
    cases xs with
    | nil => simp_all [eqD, eqDs]
    | cons x r => simp only [List.length_cons]; omega
  have hw1 := hw.1
  have gx' : ∀ x ∈ xs, fitD (k + 2) x = true := fun x hx => fit_mono _ _ _ (by omega) (gx x hx)
  have g2 : ∀ lo hi, ∀ x ∈ cutD xs lo hi, fitD (k + 2) x = true := fun lo hi => cut_fit gx'
  walk_at "de"
  all_goals first
    | exact Nat.le_trans (Nat.add_le_add cut_len cut_len) (by rw [sizeLine_eq]; omega)
    | (rw [List.length_append]; exact Nat.le_trans (Nat.add_le_add (Nat.add_le_add cut_len cut_len) cut_len) (by rw [sizeLine_eq]; omega))
    | exact fit_low _ (k + 1 + 2) _ (tup_fit (cat_fit (g2 _ _) (g2 _ _)))
    | exact fit_low _ (k + 1 + 2) _ (tup_fit (cat_fit (cat_fit (g2 _ _) (g2 _ _)) (g2 _ _)))
    | exact fit_low _ (k + 1 + 2) _ (tup_fit fun x hx => gx' x (List.mem_reverse.mp hx))
    | exact r _ _ _ (tup_fit (cat_fit (g2 _ _) (g2 _ _)))
    | exact r _ _ _ (tup_fit (cat_fit (cat_fit (g2 _ _) (g2 _ _)) (g2 _ _)))
    | exact r _ _ _ (tup_fit fun x hx => gx' x (List.mem_reverse.mp hx))
    | skip
  rename_i at_ _ _ ha0 ha1 _ _ _ _ _ _ _ _
  obtain ⟨x, hx1, hx2⟩ := at_mem ha0 ha1
  refine i_ixT hx1 ?_
  walk_at "de"
  refine u_bent0 (gx x hx2) (wideDs_mem hw.2 x hx2) (by omega) fun y a m fy => ?_
  have fy : ∀ z ∈ [y], fitD (k + 2) z = true := fun z hz => by rw [List.mem_singleton.mp hz]; exact fy
  walk_at "de"
  all_goals first
    | exact Nat.le_trans (Nat.add_le_add cut_len (Nat.le_refl _)) (by rw [sizeLine_eq]; simp; omega)
    | (rw [List.length_append]; exact Nat.le_trans (Nat.add_le_add (Nat.add_le_add cut_len (Nat.le_refl _)) cut_len) (by rw [sizeLine_eq]; simp; omega))
    | exact fit_low _ (k + 1 + 2) _ (tup_fit (cat_fit (cat_fit (g2 _ _) fy) (g2 _ _)))
    | exact r _ _ _ (tup_fit (cat_fit (cat_fit (g2 _ _) fy) (g2 _ _)))
end
end L2.DL

set_option Elab.async false
set_option linter.all false
set_option maxRecDepth 100000
set_option maxHeartbeats 4000000
/-! SF: likeness, deeds, what is done. -/
namespace L2.DL
open PySem PySem.Spec PyProof.Rows
theorem u_twins {R : QE} {RE : QX} {a b : D} {m : Nat} (f : fitD m a = true) (g : fitD m b = true) (w : wideD a) (hm : m ≤ 20) (r : R (.bl (twD a b)) []) : F_law_twins (m + 1) [a, b] [] R RE := ⟨rfl, a, b, rfl, f, g, w, hm, r⟩
section
local macro_rules | `(tactic| walk_at "d") => `(tactic| (first
  | with_reducible refine Stp.go ?_
  | with_reducible refine And.intro ?_ ?_
  | with_reducible refine fun _ => ?_
  | ((with_reducible refine s_iteY ?_); refine And.intro rfl ?_)
  | ((with_reducible refine s_iteN ?_); refine And.intro rfl ?_)
  | with_reducible refine iteB (fun _ => ?_) (fun _ => ?_)
  | with_reducible refine i_eq ?_ ?_ ?_
  | with_reducible refine i_ne ?_ ?_ ?_
  | with_reducible refine rtp ?_ ?_
  | with_reducible refine u_isB ?_ ?_
  | with_reducible refine u_isI ?_ ?_
  | with_reducible refine u_isT ?_ ?_
  | with_reducible refine u_isS ?_ ?_
  | with_reducible refine u_isL ?_ ?_
  | with_reducible refine u_isLT ?_ ?_
  | with_reducible refine u_is_within ?_ ?_
  | with_reducible refine u_law_int ?_ ?_
  | with_reducible refine u_is_row ?_ ?_
  | with_reducible refine u_law_made ?_ ?_
  | with_reducible refine u_is_program ?_ ?_
  | with_reducible refine u_law_good_program ?_ ?_
  | with_reducible refine u_is_plan ?_ ?_
  | with_reducible refine u_law_good_plan ?_ ?_
  | with_reducible refine u_law_kind ?_ ?_
  | with_reducible refine u_pick0 ?_ ?_ ?_
  | with_reducible refine u_pickG ?_ ?_ ?_ ?_
  | with_reducible refine u_begin ?_
  | with_reducible refine rtm3 ?_ ?_ ?_
  | ((with_reducible refine s_sLst ?_); refine Exists.intro _ (And.intro rfl (Exists.intro _ (And.intro rfl (Exists.intro _ (And.intro (by simp only [List.set_cons_zero, List.set_cons_succ]; rfl) ?_))))))
  | with_reducible refine i_oIC ?_ ?_
  | with_reducible refine i_addS ?_ ?_
  | with_reducible refine i_addT ?_ ?_
  | with_reducible refine i_addL ?_ ?_
  | with_reducible refine i_trS ?_ ?_
  | with_reducible refine i_lenS ?_ ?_
  | with_reducible refine i_slS ?_ ?_
  | with_reducible refine i_r1Q ?_ ?_
  | with_reducible refine i_r2Q ?_ ?_
  | with_reducible refine i_lsR1Q ?_ ?_
  | with_reducible refine i_lsR2Q ?_ ?_
  | with_reducible refine i_inT ?_ ?_ ?_
  | with_reducible refine i_inL ?_ ?_ ?_
  | with_reducible refine i_ninT ?_ ?_ ?_
  | with_reducible refine i_ninL ?_ ?_ ?_
  | ((with_reducible refine s_tV ?_); refine Exists.intro _ (And.intro rfl ?_))
  | ((with_reducible refine s_ixT ?_); refine Exists.intro _ (And.intro rfl ?_))
  | ((with_reducible refine s_gNm ?_); refine Exists.intro _ (And.intro (by simp only [wipeD, setsD, List.set_cons_zero, List.set_cons_succ]; rfl) ?_))
  | ((with_reducible refine s_stQ ?_); refine Exists.intro _ (And.intro (by simp only [wipeD, setsD, List.set_cons_zero, List.set_cons_succ]; rfl) ?_))
  | ((with_reducible refine s_c1 ?_); refine Exists.intro _ (And.intro (by simp only [wipeD, setsD, List.set_cons_zero, List.set_cons_succ]; rfl) ?_))
  | ((with_reducible refine s_p2 ?_); refine Exists.intro _ (And.intro (by simp only [wipeD, setsD, List.set_cons_zero, List.set_cons_succ]; rfl) ?_))
  | ((with_reducible refine s_p3 ?_); refine Exists.intro _ (And.intro (by simp only [wipeD, setsD, List.set_cons_zero, List.set_cons_succ]; rfl) ?_))
  | ((with_reducible refine s_cN' ?_); refine And.intro rfl (Exists.intro _ (And.intro (by simp only [wipeD, setsD, List.set_cons_zero, List.set_cons_succ]; rfl) ?_)))
  | ((with_reducible refine s_ixL ?_); refine Exists.intro _ (And.intro rfl ?_))
  | ((with_reducible refine s_trO ?_); refine Exists.intro _ (And.intro rfl ?_))
  | ((with_reducible refine s_lenO ?_); refine Exists.intro _ (And.intro rfl ?_))
  | ((with_reducible refine s_listO ?_); refine Exists.intro _ (And.intro rfl ?_))
  | ((with_reducible refine s_ixO ?_); refine Exists.intro _ (And.intro rfl (Exists.intro _ (And.intro rfl ?_))))
  | ((with_reducible refine s_app1 ?_); refine And.intro rfl ?_)
  | ((with_reducible refine s_cN ?_); refine And.intro rfl ?_)
  | ((with_reducible refine s_dgtY ?_); refine Exists.intro _ (And.intro rfl ?_))
  | ((with_reducible refine i_dgtN ?_ ?_); exact rfl)))
local macro_rules | `(tactic| walk_at "ds") => `(tactic| ((try simp only [startD, List.map_cons, List.map_nil, List.length_cons, List.length_nil, List.replicate, Nat.reduceAdd, Nat.reduceSub, List.cons_append, List.nil_append]); repeat' walk_at "d"))
/-- side conditions -/
local macro_rules | `(tactic| walk_at "e") => `(tactic| (first
  | with_reducible assumption
  | ((with_reducible show fitD _ _ = true); (first | rfl | decide +kernel | (exact fit_mono _ 30 _ (by decide) (by assumption))))
  | ((with_reducible show lowDs _ _); (repeat' first | trivial | (exact fit_low _ 30 _ (by assumption)) | refine And.intro ?_ ?_); done)
  | ((with_reducible show lowO _ _); (show lowDs _ _); (repeat' first | trivial | (exact fit_low _ 30 _ (by assumption)) | refine And.intro ?_ ?_); done)
  | ((with_reducible show (_ : Int) < _); (first | decide | omega))
  | ((with_reducible show (_ : Int) ≤ _); (first | decide | omega))
  | ((with_reducible show lowD _ _); (first | trivial | (exact fit_low _ 30 _ (by assumption))))
  | ((with_reducible show List.length _ = _); simp; done)
  | ((with_reducible show _ ≤ sizeLine); rw [sizeLine_eq]; simp; done)
  | ((with_reducible show List.all _ _ = true); (first | rfl | decide +kernel | (simp [fitD]; done)))
  | skip))
local macro_rules | `(tactic| walk_at "de") => `(tactic| (walk_at "ds" <;> walk_at "e"))


theorem twDs_len : ∀ {xs ys : List D}, twDs xs ys = true → xs.length = ys.length
  | [], [], _ => rfl
  | [], _ :: _, h => by simp [twDs] at h
  | _ :: _, [], h => by simp [twDs] at h
  | x :: xs, y :: ys, h => by
    simp only [twDs, Bool.and_eq_true] at h
    rw [List.length_cons, List.length_cons, twDs_len h.2]
def unlike (p : D) : Option D := match p with
  | .tup [a, b] => if twD a b then none else some (.int 1)
  | _ => none
theorem twDs_zip : ∀ {xs ys : List D}, xs.length = ys.length → (twDs xs ys = ((zipD xs ys).filterMap unlike).isEmpty)
  | [], [], _ => by simp [twDs, zipD]
  | [], _ :: _, h => by simp at h
  | _ :: _, [], h => by simp at h
  | x :: xs, y :: ys, h => by
    have ih := twDs_zip (xs := xs) (ys := ys) (by simpa using h)
    simp only [zipD] at ih
    simp only [twDs, zipD, List.zipWith_cons_cons, List.filterMap_cons, unlike]
    rw [ih]
    cases e : twD x y <;> simp
theorem unl_eq (xs : List D) : eqD (.lst (xs.filterMap unlike)) (.lst []) = (xs.filterMap unlike).isEmpty := by
  cases xs.filterMap unlike <;> simp [eqD, eqDs]
theorem unl_fit (xs : List D) : fitD 40 (.lst (xs.filterMap unlike)) = true := by
  simp only [fitD, List.all_eq_true]
  intro x hx
  obtain ⟨p, _, h⟩ := List.mem_filterMap.mp hx
  unfold unlike at h
  split at h
  · split at h
    · cases h
    · cases h; rfl
  · cases h
theorem kind_seq {a : D} (h : inD (.int (kindD a)) [.int 2, .int 3] = true) : (∃ xs, a = .lst xs) ∨ ∃ xs, a = .tup xs := by
  cases a with
  | lst xs => exact .inl ⟨xs, rfl⟩
  | tup xs => exact .inr ⟨xs, rfl⟩
  | _ => simp [inD, eqD, kindD] at h
theorem kind_lst {b : D} (h : kindD b = 2) : ∃ xs, b = .lst xs := by
  cases b with
  | lst xs => exact ⟨xs, rfl⟩
  | _ => simp [kindD] at h
theorem kind_tup {b : D} (h : kindD b = 3) : ∃ xs, b = .tup xs := by
  cases b with
  | tup xs => exact ⟨xs, rfl⟩
  | _ => simp [kindD] at h
theorem zipD_mem {xs ys : List D} {p : D} (h : p ∈ zipD xs ys) : ∃ x y, x ∈ xs ∧ y ∈ ys ∧ p = .tup [x, y] := by
  obtain ⟨i, hi, e⟩ := List.getElem_of_mem h
  obtain ⟨x, y, h1, h2, h3⟩ := zipD_get (i := i) (d := p) (by rw [List.getElem?_eq_getElem hi, e])
  exact ⟨x, y, List.mem_of_getElem? h1, List.mem_of_getElem? h2, h3⟩
theorem twD_kind {a b : D} (h : kindD a ≠ kindD b) : twD a b = false := by
  cases a <;> cases b <;> simp [kindD] at h <;> simp [twD]
theorem twD_eq {a b : D} {m : Nat} (f : fitD m a = true) (g : fitD m b = true) (hk : kindD a = kindD b) (h : inD (.int (kindD a)) [.int 2, .int 3] = false) : eqD a b = twD a b := by
  cases a <;> cases b <;> simp [kindD] at hk <;> first
    | (simp [eqD, twD]; done)
    | (simp [inD, eqD, kindD] at h; done)
    | exact (fit_nodct f).elim
    | exact (fit_noob f).elim
    | exact (fit_noadr f).elim
    | exact (fit_noty f).elim
theorem lc_twins {n : Nat} {xs ys : List D} {R : QE} {ρ : En} (hx : ∀ x ∈ xs, fitD n x = true) (hy : ∀ x ∈ ys, fitD n x = true) (hw : wideDs xs) (hl : xs.length ≤ 100000) (hn : n ≤ 20) (h4 : ρ.length = 4) (r : R (.lst ((zipD xs ys).filterMap unlike)) []) :
    lcD (cN [2, 3]) (tNt (tTru (tCaP 2 (F_law_twins (n + 1)) (tConsA (tV 2) (tConsA (tV 3) tNilA))))) (tK (.int 1)) [2, 3] ρ R (zipD xs ys) [] := by
  obtain ⟨r0, r1, r2, r3, rfl⟩ : ∃ a b c d, ρ = [a, b, c, d] := by
    match ρ, h4 with
    | [a, b, c, d], _ => exact ⟨a, b, c, d, rfl⟩
  refine lc_pure (zipD xs ys) unlike (by unfold zipD; rw [List.length_zipWith, sizeLine_eq]; omega) (fun p hp Q N hQ hN => ?_) r
  obtain ⟨x, y, h1, h2, rfl⟩ := zipD_mem hp
  have fx := hx x h1
  have fy := hy y h2
  have wx := wideDs_mem hw x h1
  have fx30 := fit_mono _ _ 30 (by omega) fx
  have fy30 := fit_mono _ _ 30 (by omega) fy
  walk_at "de"
  refine u_twins fx fy wx hn ?_
  walk_at "de"
  · exact hQ _ (by unfold unlike; simp_all)
  · exact hN (by unfold unlike; simp_all)
theorem rd_law_twins (m : Nat) (ds : List D) (R : QE) (h : P_law_twins m ds fun d => R d []) : t_law_twins m (endP R) (startD 4 ds) [] := by
  obtain ⟨a, b, rfl, fa, fb, hw, hm, r⟩ := h
  have fa30 := fit_mono _ _ 30 (by omega) fa
  have fb30 := fit_mono _ _ 30 (by omega) fb
  unfold t_law_twins
  walk_at "de"
  · rename_i h
    refine rB r ?_
    rw [twD_kind]
    simp only [eqD, Bool.not_eq_true', decide_eq_false_iff_not] at h
    exact h
  · rename_i hk _ hs
    have hk : kindD a = kindD b := by simpa [eqD] using hk
    rcases kind_seq hs with ⟨xs, rfl⟩ | ⟨xs, rfl⟩
    · obtain ⟨ys, rfl⟩ := kind_lst hk.symm
      obtain ⟨n, rfl, gx⟩ := fitD_lst fa
      obtain ⟨n', e, gy⟩ := fitD_lst fb
      cases e
      simp only [wideD] at hw
      walk_at "de"
      · rename_i hl
        have hl : xs.length = ys.length := by simp only [eqD, decide_eq_true_eq] at hl; omega
        refine lc_twins gx gy hw.2 hw.1 (by omega) rfl ?_
        have hu := unl_fit (zipD xs ys)
        walk_at "de"
        refine rB r ?_
        rw [unl_eq, ← twDs_zip hl]
        simp [twD]
      · rename_i hl
        refine rB r ?_
        rw [hl]
        cases e : twD (.lst xs) (.lst ys) with
        | false => rfl
        | true =>
          simp only [twD] at e
          simp [eqD, twDs_len e] at hl
    · obtain ⟨ys, rfl⟩ := kind_tup hk.symm
      obtain ⟨n, rfl, gx⟩ := fitD_tup fa
      obtain ⟨n', e, gy⟩ := fitD_tup fb
      cases e
      simp only [wideD] at hw
      walk_at "de"
      · rename_i hl
        have hl : xs.length = ys.length := by simp only [eqD, decide_eq_true_eq] at hl; omega
        refine lc_twins gx gy hw.2 hw.1 (by omega) rfl ?_
        have hu := unl_fit (zipD xs ys)
        walk_at "de"
        refine rB r ?_
        rw [unl_eq, ← twDs_zip hl]
        simp [twD]
      · rename_i hl
        refine rB r ?_
        rw [hl]
        cases e : twD (.tup xs) (.tup ys) with
        | false => rfl
        | true =>
          simp only [twD] at e
          simp [eqD, twDs_len e] at hl
  · rename_i hk _ hs
    have hk : kindD a = kindD b := by simpa [eqD] using hk
    exact rB r (twD_eq fa fb hk hs)
theorem rD {R : QE} {L : Sto} {a b : D} (r : R a L) (e : b = a) : R b L := by rw [e]; exact r
theorem cut_one (w : Str) : cutD ([.str w] ++ [.int 0]) none (some 2) = [.str w, .int 0] := rfl
theorem cut_two (w : Str) (n : Int) : cutD ([.str w, .int n] ++ [.int 0]) none (some 2) = [.str w, .int n] := rfl
theorem rd_law_done (ds : List D) (R : QE) (h : ∃ (P : Pl) (S : Sd) (e : Dd), ds = [P.d, S.d, e.d] ∧ P.ok ∧ R (tellD (doneS P S e)) []) : t_law_done (endP R) (startD 16 ds) [] := by
  obtain ⟨⟨tol, wait, each, most, spread, lean⟩, ⟨off, want, left, hand, leans, locked⟩, e, rfl, hP, r⟩ := h
  unfold t_law_done
  cases e <;> (walk_at "de"; (first | rw [cut_one] | rw [cut_two]); walk_at "de")
  all_goals (try ((with_reducible show dgtQ _ _ _ _ _); cases each <;> walk_at "de"))
  all_goals (refine rD r ?_; clear r hP; simp only [eqD, decide_eq_true_eq, decide_eq_false_iff_not, Bool.not_eq_true', Bool.not_eq_false', doneS, behind] at *)
  all_goals ((repeat' split) <;> first | rfl | (exfalso; omega) | (simp_all; done))
end
end L2.DL

set_option Elab.async false
set_option linter.all false
set_option maxRecDepth 100000
set_option maxHeartbeats 1000000
/-! SH: the deeds at a stand. -/
namespace L2.DL
open PySem PySem.Spec PyProof.Rows
theorem s_appD0 {R : QE} {xs : List D} {y : D} (hl : xs.length < sizeLine) (r : R .non [.lst (xs ++ [y])]) : appD 0 R [y] [.lst xs] := i_appD rfl hl r
section
local macro_rules | `(tactic| walk_at "d") => `(tactic| (first
  | with_reducible refine Stp.go ?_
  | with_reducible refine And.intro ?_ ?_
  | with_reducible refine fun _ => ?_
  | ((with_reducible refine s_iteY ?_); refine And.intro rfl ?_)
  | ((with_reducible refine s_iteN ?_); refine And.intro rfl ?_)
  | with_reducible refine iteB (fun _ => ?_) (fun _ => ?_)
  | with_reducible refine i_eq ?_ ?_ ?_
  | with_reducible refine i_ne ?_ ?_ ?_
  | with_reducible refine rtp ?_ ?_
  | with_reducible refine u_isB ?_ ?_
  | with_reducible refine u_isI ?_ ?_
  | with_reducible refine u_isT ?_ ?_
  | with_reducible refine u_isS ?_ ?_
  | with_reducible refine u_isL ?_ ?_
  | with_reducible refine u_isLT ?_ ?_
  | with_reducible refine u_is_within ?_ ?_
  | with_reducible refine u_law_int ?_ ?_
  | with_reducible refine u_is_row ?_ ?_
  | with_reducible refine u_law_made ?_ ?_
  | with_reducible refine u_is_program ?_ ?_
  | with_reducible refine u_law_good_program ?_ ?_
  | with_reducible refine u_is_plan ?_ ?_
  | with_reducible refine u_law_good_plan ?_ ?_
  | with_reducible refine u_law_kind ?_ ?_
  | with_reducible refine u_pick0 ?_ ?_ ?_
  | with_reducible refine u_pickG ?_ ?_ ?_ ?_
  | with_reducible refine u_look ?_ ?_
  | with_reducible refine u_fits ?_ ?_ ?_
  | with_reducible refine u_program0 ?_
  | with_reducible refine u_plan0 ?_
  | with_reducible refine u_begin ?_
  | with_reducible refine s_appD0 ?_ ?_
  | with_reducible refine rtm3 ?_ ?_ ?_
  | ((with_reducible refine s_sLst ?_); refine Exists.intro _ (And.intro rfl (Exists.intro _ (And.intro rfl (Exists.intro _ (And.intro (by simp only [List.set_cons_zero, List.set_cons_succ]; rfl) ?_))))))
  | with_reducible refine i_oIC ?_ ?_
  | with_reducible refine i_addS ?_ ?_
  | with_reducible refine i_addT ?_ ?_
  | with_reducible refine i_addL ?_ ?_
  | with_reducible refine i_trS ?_ ?_
  | with_reducible refine i_lenS ?_ ?_
  | with_reducible refine i_slS ?_ ?_
  | with_reducible refine i_r1Q ?_ ?_
  | with_reducible refine i_r2Q ?_ ?_
  | with_reducible refine i_lsR1Q ?_ ?_
  | with_reducible refine i_lsR2Q ?_ ?_
  | with_reducible refine i_inT ?_ ?_ ?_
  | with_reducible refine i_inL ?_ ?_ ?_
  | with_reducible refine i_ninT ?_ ?_ ?_
  | with_reducible refine i_ninL ?_ ?_ ?_
  | ((with_reducible refine s_tV ?_); refine Exists.intro _ (And.intro rfl ?_))
  | ((with_reducible refine s_ixT ?_); refine Exists.intro _ (And.intro rfl ?_))
  | ((with_reducible refine s_gNm ?_); refine Exists.intro _ (And.intro (by simp only [wipeD, setsD, List.set_cons_zero, List.set_cons_succ]; rfl) ?_))
  | ((with_reducible refine s_stQ ?_); refine Exists.intro _ (And.intro (by simp only [wipeD, setsD, List.set_cons_zero, List.set_cons_succ]; rfl) ?_))
  | ((with_reducible refine s_c1 ?_); refine Exists.intro _ (And.intro (by simp only [wipeD, setsD, List.set_cons_zero, List.set_cons_succ]; rfl) ?_))
  | ((with_reducible refine s_p2 ?_); refine Exists.intro _ (And.intro (by simp only [wipeD, setsD, List.set_cons_zero, List.set_cons_succ]; rfl) ?_))
  | ((with_reducible refine s_p3 ?_); refine Exists.intro _ (And.intro (by simp only [wipeD, setsD, List.set_cons_zero, List.set_cons_succ]; rfl) ?_))
  | ((with_reducible refine s_cN' ?_); refine And.intro rfl (Exists.intro _ (And.intro (by simp only [wipeD, setsD, List.set_cons_zero, List.set_cons_succ]; rfl) ?_)))
  | ((with_reducible refine s_ixL ?_); refine Exists.intro _ (And.intro rfl ?_))
  | ((with_reducible refine s_trO ?_); refine Exists.intro _ (And.intro rfl ?_))
  | ((with_reducible refine s_lenO ?_); refine Exists.intro _ (And.intro rfl ?_))
  | ((with_reducible refine s_listO ?_); refine Exists.intro _ (And.intro rfl ?_))
  | ((with_reducible refine s_ixO ?_); refine Exists.intro _ (And.intro rfl (Exists.intro _ (And.intro rfl ?_))))
  | ((with_reducible refine s_app1 ?_); refine And.intro rfl ?_)
  | ((with_reducible refine s_cN ?_); refine And.intro rfl ?_)
  | ((with_reducible refine s_dgtY ?_); refine Exists.intro _ (And.intro rfl ?_))
  | ((with_reducible refine i_dgtN ?_ ?_); exact rfl)))
local macro_rules | `(tactic| walk_at "ds") => `(tactic| ((try simp only [startD, List.map_cons, List.map_nil, List.length_cons, List.length_nil, List.replicate, Nat.reduceAdd, Nat.reduceSub, List.cons_append, List.nil_append]); repeat' walk_at "d"))
/-- side conditions -/
local macro_rules | `(tactic| walk_at "e") => `(tactic| (first
  | with_reducible assumption
  | ((with_reducible show fitD _ _ = true); (first | rfl | decide +kernel | (exact fit_mono _ 30 _ (by decide) (by assumption))))
  | ((with_reducible show lowDs _ _); (repeat' first | trivial | (exact fit_low _ 30 _ (by assumption)) | refine And.intro ?_ ?_); done)
  | ((with_reducible show lowO _ _); (show lowDs _ _); (repeat' first | trivial | (exact fit_low _ 30 _ (by assumption)) | refine And.intro ?_ ?_); done)
  | ((with_reducible show (_ : Int) < _); (first | decide | omega))
  | ((with_reducible show (_ : Int) ≤ _); (first | decide | omega))
  | ((with_reducible show lowD _ _); (first | trivial | (exact fit_low _ 30 _ (by assumption))))
  | ((with_reducible show List.length _ = _); simp; done)
  | ((with_reducible show _ ≤ sizeLine); rw [sizeLine_eq]; simp; done)
  | ((with_reducible show List.all _ _ = true); (first | rfl | decide +kernel | (simp [fitD]; done)))
  | skip))
local macro_rules | `(tactic| walk_at "de") => `(tactic| (walk_at "ds" <;> walk_at "e"))


theorem dd_alike (a b : Dd) : PySem.W.alike (pdOf a.d) (pdOf b.d) = true := by
  cases a <;> cases b <;> simp [Dd.d, pdOf, pdOfs, PySem.W.alike, PySem.W.alikeAll]
theorem dd_fit (a : Dd) : fitD 2 a.d = true := by cases a <;> first
    | decide +kernel
    | (simp only [fitD, List.all_cons, List.all_nil, Bool.and_true]; decide +kernel)
theorem dd_sorts (ds : List Dd) : sortsB (ds.map Dd.d) = true := by
  unfold sortsB
  rw [Bool.and_eq_true, Bool.and_eq_true, Bool.or_eq_true]
  refine ⟨⟨?_, .inl ?_⟩, ?_⟩
  · simp only [List.all_map, List.all_eq_true, Function.comp_apply]
    intro a _ b _
    exact dd_alike a b
  · simp only [List.all_map, List.all_eq_true, Function.comp_apply]
    intro a _
    cases a <;> rfl
  · simp only [List.all_map, List.all_eq_true, Function.comp_apply]
    intro a _
    exact fit_mono _ 2 _ (by decide) (dd_fit a)
def f1 (S : Sd) (x : D) : List D := (Dd.hide (isI x)).d :: (if S.want = 0 then [(Dd.read (isI x)).d] else [])
def f2 (S : Sd) (x : D) : List D := if S.hand ≠ 0 ∧ 0 < S.hand + isI x then [(Dd.lay (isI x)).d] else []
theorem deeds_eq (P : Pl) (S : Sd) : (deedsRaw P S).map Dd.d = [Dd.wait.d] ++ (rangeD 1 P.most.toNat).flatMap (f1 S) ++ (rangeD (-P.spread) (P.spread + 1 - -P.spread).toNat).flatMap (f2 S) ++ (if P.lean then [if S.leans then Dd.off.d else Dd.lean.d] else []) := by
  unfold deedsRaw rangeD
  simp only [List.map_append, List.map_cons, List.flatMap_map, List.map_flatMap, List.cons_append, List.nil_append]
  congr 1
  congr 1
  · congr 1
    · congr 1
      funext i
      unfold f1 isI
      split <;> rfl
    · congr 1
      funext i
      unfold f2 isI
      split <;> rfl
  · split
    · split <;> rfl
    · rfl
theorem len_f1 (S : Sd) : ∀ l : List D, (l.flatMap (f1 S)).length ≤ 2 * l.length
  | [] => by simp
  | x :: l => by
    have := len_f1 S l
    rw [List.flatMap_cons, List.length_append, List.length_cons]
    have h : (f1 S x).length ≤ 2 := by unfold f1; split <;> simp
    omega
theorem len_f2 (S : Sd) : ∀ l : List D, (l.flatMap (f2 S)).length ≤ l.length
  | [] => by simp
  | x :: l => by
    have := len_f2 S l
    rw [List.flatMap_cons, List.length_append, List.length_cons]
    have h : (f2 S x).length ≤ 1 := by unfold f2; split <;> simp
    omega
theorem range_int {lo : Int} {n : Nat} {x : D} (h : x ∈ rangeD lo n) : ∃ t, x = .int t := by
  obtain ⟨i, _, e⟩ := List.mem_map.mp h
  exact ⟨_, e.symm⟩
theorem low_sort (ds : List Dd) : lowD 0 (.lst (sortD (ds.map Dd.d))) := by
  show lowDs 0 (sortD (ds.map Dd.d))
  refine lowDs_of fun x hx => ?_
  have h := (List.mergeSort_perm (ds.map Dd.d) (PySem.W.dataLe false pdOf)).mem_iff.mp hx
  obtain ⟨a, _, rfl⟩ := List.mem_map.mp h
  exact fit_low _ 2 _ (dd_fit a)
theorem rd_law_deeds (ds : List D) (R : QE) (h : ∃ (P : Pl) (S : Sd), ds = [P.d, S.d] ∧ P.ok ∧ R (.lst (deedsL P S)) []) : t_law_deeds (endP R) (startD 8 ds) [] := by
  obtain ⟨P, S, rfl, hP, r⟩ := h
  obtain ⟨t0, t1, w0, w1, m0, m1, s0, s1⟩ := hP
  unfold t_law_deeds
  walk_at "de"
  · rename_i hl
    unfold deedsL at r
    rw [if_pos hl] at r
    exact r
  rename_i hl
  unfold deedsL at r
  rw [if_neg (by rw [hl]; decide), deeds_eq] at r
  rw [show (P.most + 1 - 1).toNat = P.most.toNat by omega]
  refine fr_by (fun rest ρ L => ∃ done x6, done ++ rest = rangeD 1 P.most.toNat ∧ L = [.lst ([Dd.wait.d] ++ done.flatMap (f1 S))] ∧ ρ = [some P.d, some S.d, some (.int P.most), some (.int P.spread), some (.bl P.lean), some (.ob 0), x6, none]) ⟨[], none, rfl, rfl, rfl⟩ ?_ ?_
  · rintro x rest ρ L ⟨done, x6, hd, rfl, rfl⟩
    obtain ⟨t, rfl⟩ := range_int (show x ∈ rangeD 1 P.most.toNat by rw [← hd]; simp)
    have hlen : ([Dd.wait.d] ++ done.flatMap (f1 S)).length ≤ 10 := by
      have h1 := congrArg List.length hd
      simp [rangeD] at h1
      have h2 := len_f1 S done
      simp only [List.length_append, List.length_cons, List.length_nil]
      omega
    walk_at "de"
    all_goals first
      | (rw [sizeLine_eq]; simp only [List.length_append, List.length_cons, List.length_nil] at *; omega)
      | (rename_i hw; exact ⟨done ++ [.int t], _, by simpa using hd, by simp_all [f1, eqD, isI], rfl⟩)
  · rintro ρ L ⟨done, x6, hd, rfl, rfl⟩
    have hd : done = rangeD 1 P.most.toNat := by simpa using hd
    subst hd
    have hlen0 : ([Dd.wait.d] ++ (rangeD 1 P.most.toNat).flatMap (f1 S)).length ≤ 10 := by
      have h2 := len_f1 S (rangeD 1 P.most.toNat)
      rw [rangeD_length] at h2
      simp only [List.length_append, List.length_cons, List.length_nil]
      omega
    generalize hA : [Dd.wait.d] ++ (rangeD 1 P.most.toNat).flatMap (f1 S) = A at *
    walk_at "de"
    refine fr_by (fun rest ρ L => ∃ done x7, done ++ rest = rangeD (-P.spread) (P.spread + 1 - -P.spread).toNat ∧ L = [.lst (A ++ done.flatMap (f2 S))] ∧ ρ = [some P.d, some S.d, some (.int P.most), some (.int P.spread), some (.bl P.lean), some (.ob 0), x6, x7]) ⟨[], none, rfl, by simp, rfl⟩ ?_ ?_
    · rintro x rest ρ L ⟨done, x7, hd, rfl, rfl⟩
      obtain ⟨t, rfl⟩ := range_int (show x ∈ rangeD (-P.spread) (P.spread + 1 - -P.spread).toNat by rw [← hd]; simp)
      have hlen : (A ++ done.flatMap (f2 S)).length ≤ 20 := by
        have h1 := congrArg List.length hd
        simp [rangeD] at h1
        have h2 := len_f2 S done
        rw [List.length_append]
        omega
      walk_at "de"
      all_goals first
        | (rw [sizeLine_eq]; omega)
        | (exact ⟨done ++ [.int t], _, by simpa using hd, by simp_all [f2, eqD, isI], rfl⟩)
        | (exact ⟨done ++ [.int t], _, by simpa using hd, by simp_all [f2, eqD, isI]; omega, rfl⟩)
    · rintro ρ L ⟨done, x7, hd, rfl, rfl⟩
      have hd : done = rangeD (-P.spread) (P.spread + 1 - -P.spread).toNat := by simpa using hd
      subst hd
      have hlen1 : (A ++ (rangeD (-P.spread) (P.spread + 1 - -P.spread).toNat).flatMap (f2 S)).length ≤ 20 := by
        have h2 := len_f2 S (rangeD (-P.spread) (P.spread + 1 - -P.spread).toNat)
        rw [rangeD_length] at h2
        rw [List.length_append]
        omega
      have hs : ∀ B : List D, A ++ (rangeD (-P.spread) (P.spread + 1 - -P.spread).toNat).flatMap (f2 S) ++ (if P.lean then [if S.leans then Dd.off.d else Dd.lean.d] else []) = B → sortsB B = true := by
        rintro B rfl
        rw [← hA, ← deeds_eq]
        exact dd_sorts _
      have hw : ∀ B : List D, A ++ (rangeD (-P.spread) (P.spread + 1 - -P.spread).toNat).flatMap (f2 S) ++ (if P.lean then [if S.leans then Dd.off.d else Dd.lean.d] else []) = B → lowD 0 (.lst (sortD B)) := by
        rintro B rfl
        rw [← hA, ← deeds_eq]
        exact low_sort _
      generalize hB : A ++ (rangeD (-P.spread) (P.spread + 1 - -P.spread).toNat).flatMap (f2 S) = B at *
      walk_at "de"
      all_goals first
        | (rw [sizeLine_eq]; omega)
        | (rename_i h1 h2; simp only [h1, h2, if_true, if_false, Bool.false_eq_true] at r hs hw; refine i_sortO rfl (hs _ rfl) ?_; exact rtp (hw _ rfl) r)
        | (rename_i h1; simp only [h1, if_false, Bool.false_eq_true, List.append_nil] at r hs hw; refine i_sortO rfl (hs _ rfl) ?_; exact rtp (hw _ rfl) r)
end
end L2.DL

set_option Elab.async false
set_option linter.all false
set_option maxRecDepth 100000
set_option maxHeartbeats 1000000
/-! SI: the program's own deeds: stands that come up, deeds, steps. -/
namespace L2.DL
open PySem PySem.Spec PyProof.Rows
abbrev c_MOST_DEEDS : D := .int 60
abbrev c_GROWING : D := .tup [.str "hide", .str "lay", .str "lean"]

/-! ### values alike -/
mutual
def sameD : D → D → Bool
  | .non, .non => true
  | .bl a, .bl b => a == b
  | .int a, .int b => decide (a = b)
  | .str a, .str b => decide (a = b)
  | .lst xs, .lst ys => sameDs xs ys
  | .tup xs, .tup ys => sameDs xs ys
  | .dct xs ys, .dct us vs => sameDs xs us && sameDs ys vs
  | .ob n, .ob m => n == m
  | .adr n, .adr m => decide (n = m)
  | .ty n, .ty m => decide (n = m)
  | _, _ => false
def sameDs : List D → List D → Bool
  | [], [] => true
  | x :: xs, y :: ys => sameD x y && sameDs xs ys
  | _, _ => false
end
mutual
theorem sameD_eq : ∀ a b : D, sameD a b = true → a = b
  | .non, b, h => by cases b <;> simp [sameD] at h ⊢
  | .bl a, b, h => by cases b <;> simp [sameD] at h ⊢; exact h
  | .int a, b, h => by cases b <;> simp [sameD] at h ⊢; exact h
  | .str a, b, h => by cases b <;> simp [sameD] at h ⊢; exact h
  | .ob a, b, h => by cases b <;> simp [sameD] at h ⊢; exact h
  | .adr a, b, h => by cases b <;> simp [sameD] at h ⊢; exact h
  | .ty a, b, h => by cases b <;> simp [sameD] at h ⊢; exact h
  | .tup xs, b, h => by
    cases b <;> simp [sameD] at h ⊢
    exact sameDs_eq xs _ h
  | .lst xs, b, h => by
    cases b <;> simp [sameD] at h ⊢
    exact sameDs_eq xs _ h
  | .dct xs ys, b, h => by
    cases b <;> simp [sameD] at h ⊢
    exact ⟨sameDs_eq xs _ h.1, sameDs_eq ys _ h.2⟩
theorem sameDs_eq : ∀ a b : List D, sameDs a b = true → a = b
  | [], b, h => by cases b <;> simp [sameDs] at h ⊢
  | x :: xs, [], h => by simp [sameDs] at h
  | x :: xs, y :: ys, h => by
    simp only [sameDs, Bool.and_eq_true] at h
    rw [sameD_eq x y h.1, sameDs_eq xs ys h.2]
end

/-! ### what is possible -/
def Poss (P : Pl) (S : Sd) : Dd → Prop
  | .free => S.locked = true
  | .wait => S.locked = false
  | .hide n => S.locked = false ∧ 1 ≤ n ∧ n ≤ P.most
  | .read n => S.locked = false ∧ S.want = 0 ∧ 1 ≤ n ∧ n ≤ P.most
  | .lay n => S.locked = false ∧ S.hand ≠ 0 ∧ -P.spread ≤ n ∧ n ≤ P.spread ∧ 0 < S.hand + n
  | .lean => S.locked = false ∧ P.lean = true ∧ S.leans = false
  | .off => S.locked = false ∧ P.lean = true ∧ S.leans = true
theorem mem_raw {P : Pl} {S : Sd} {e : Dd} (hl : S.locked = false) : e ∈ deedsRaw P S ↔ Poss P S e ∧ e ≠ .free := by
  unfold deedsRaw
  simp only [List.mem_append, List.mem_cons, List.mem_flatMap, List.mem_range]
  constructor
  · rintro (((rfl | ⟨i, hi, h⟩) | ⟨i, hi, h⟩) | h)
    · exact ⟨hl, by simp⟩
    · rcases h with rfl | h
      · exact ⟨⟨hl, by omega, by omega⟩, by simp⟩
      · split at h
        · rename_i h0
          rw [List.mem_singleton.mp h]
          exact ⟨⟨hl, h0, by omega, by omega⟩, by simp⟩
        · cases h
    · split at h
      · rename_i h0
        rw [List.mem_singleton.mp h]
        exact ⟨⟨hl, h0.1, by omega, by omega, h0.2⟩, by simp⟩
      · cases h
    · split at h
      · rename_i h0
        rw [List.mem_singleton.mp h]
        cases hs : S.leans
        · exact ⟨⟨hl, h0, hs⟩, by simp⟩
        · exact ⟨⟨hl, h0, hs⟩, by simp⟩
      · cases h
  · rintro ⟨h, hf⟩
    cases e with
    | free => exact absurd rfl hf
    | wait => exact .inl (.inl (.inl rfl))
    | hide n => exact .inl (.inl (.inr ⟨(n - 1).toNat, by have := h.2; omega, .inl (by have := h.2; congr 1; omega)⟩))
    | read n => exact .inl (.inl (.inr ⟨(n - 1).toNat, by have := h.2; omega, .inr (by
        rw [if_pos h.2.1]
        have := h.2
        exact List.mem_singleton.mpr (by congr 1; omega))⟩))
    | lay n => exact .inl (.inr ⟨(n + P.spread).toNat, by have := h.2; omega, by
        have e : -P.spread + ((n + P.spread).toNat : Int) = n := by have := h.2; omega
        rw [e, if_pos ⟨h.2.1, h.2.2.2.2⟩]
        exact List.mem_singleton.mpr rfl⟩)
    | lean => exact .inr (by rw [if_pos h.2.1, h.2.2]; exact List.mem_singleton.mpr rfl)
    | off => exact .inr (by rw [if_pos h.2.1, h.2.2]; exact List.mem_singleton.mpr rfl)
theorem mem_deedsL {P : Pl} {S : Sd} {x : D} : x ∈ deedsL P S ↔ ∃ e : Dd, x = e.d ∧ Poss P S e := by
  unfold deedsL
  split
  · rename_i hl
    constructor
    · intro h; exact ⟨.free, List.mem_singleton.mp h, hl⟩
    · rintro ⟨e, rfl, h⟩
      cases e with
      | free => exact List.mem_singleton.mpr rfl
      | _ => first | (have h := h.1; rw [hl] at h; cases h) | (have h : S.locked = false := h; rw [hl] at h; cases h)
  · rename_i hl
    have hl : S.locked = false := by simpa using hl
    unfold sortD
    rw [List.mem_mergeSort, List.mem_map]
    constructor
    · rintro ⟨e, h, rfl⟩; exact ⟨e, rfl, ((mem_raw hl).mp h).1⟩
    · rintro ⟨e, rfl, h⟩
      refine ⟨e, (mem_raw hl).mpr ⟨h, ?_⟩, rfl⟩
      rintro rfl
      have h : S.locked = true := h
      rw [hl] at h; cases h

/-! ### stands that come up -/
structure Up (P : Pl) (S : Sd) : Prop where
  lock : S.locked = true → S = lockedS
  w0 : 0 ≤ S.want
  w1 : S.want ≤ P.most
  hd : S.hand = 0 ∨ S.hand = S.want
  ln : S.leans = true → P.lean = true
  rd : S.want = 0 → S.left = 0 ∧ -P.tol ≤ S.off ∧ S.off ≤ P.tol
  wt : S.want ≠ 0 → 1 ≤ S.left ∧ S.left ≤ P.wait ∧ -P.tol - (P.wait - S.left) ≤ S.off ∧ S.off ≤ P.tol + 5 * (P.wait - S.left)
theorem Up.begin {P : Pl} (h : P.ok) : Up P beginS := by
  refine ⟨by simp, by simp, ?_, by simp, by simp, fun _ => ⟨rfl, ?_, ?_⟩, by simp⟩
  · have := h.m0; simp; omega
  · have := h.t0; simp; omega
  · have := h.t0; simp; omega
theorem Up.lk {P : Pl} (h : P.ok) : Up P lockedS := by
  refine ⟨by simp, by simp, ?_, by simp, by simp, fun _ => ⟨rfl, ?_, ?_⟩, by simp⟩
  · have := h.m0; simp; omega
  · have := h.t0; simp; omega
  · have := h.t0; simp; omega
theorem Up.fits {P : Pl} {S : Sd} (h : P.ok) (u : Up P S) : fitsB P S.d = true := by
  obtain ⟨off, want, left, hand, leans, locked⟩ := S
  obtain ⟨lock, w0, w1, hd, ln, rd, wt⟩ := u
  obtain ⟨h1, h2, h3, h4, h5, h6, h7, h8⟩ := h
  dsimp only at *
  unfold fitsB Sd.d fitsI
  dsimp only
  cases locked with
  | true =>
    have e := lock rfl
    cases e
    rfl
  | false =>
    have hl : (leans && !P.lean) = false := by
      cases leans
      · rfl
      · rw [ln rfl]; rfl
    by_cases hw : want = 0
    · obtain ⟨a, b, c⟩ := rd hw
      simp only [Bool.and_eq_true, decide_eq_true_eq, if_neg Bool.false_ne_true, hl, Bool.not_false, if_pos hw]
      refine ⟨⟨⟨⟨?_, ?_⟩, ?_⟩, ?_⟩, ⟨⟨?_, ?_⟩, trivial⟩, ?_⟩ <;> omega
    · obtain ⟨a, b, c, d⟩ := wt hw
      simp only [Bool.and_eq_true, decide_eq_true_eq, if_neg Bool.false_ne_true, hl, Bool.not_false, if_neg hw]
      refine ⟨⟨⟨⟨?_, ?_⟩, ?_⟩, ?_⟩, ⟨⟨?_, ?_⟩, trivial⟩, ?_⟩ <;> omega
/-- what fits, by its parts -/
structure Fits (P : Pl) (S : Sd) : Prop where
  lock : S.locked = true → S = lockedS
  w0 : 0 ≤ S.want
  w1 : S.want ≤ P.most
  hd : S.hand = 0 ∨ S.hand = S.want
  wt : S.want ≠ 0 → 1 ≤ S.left
theorem fits_of {P : Pl} {S : Sd} (hP : P.ok) (h : fitsB P S.d = true) : Fits P S := by
  obtain ⟨off, want, left, hand, leans, locked⟩ := S
  unfold fitsB Sd.d fitsI at h
  dsimp only at h
  have := hP.m0
  cases locked with
  | true =>
    simp only [Bool.and_eq_true, decide_eq_true_eq, if_pos] at h
    obtain ⟨_, ⟨rfl, rfl, rfl, rfl⟩, hl⟩ := h
    have hl : leans = false := by simpa using hl
    subst hl
    exact ⟨fun _ => rfl, by simp, by simp; omega, by simp, by simp⟩
  | false =>
    simp only [Bool.and_eq_true, decide_eq_true_eq, if_neg Bool.false_ne_true] at h
    obtain ⟨_, ⟨⟨⟨a, b⟩, c⟩, d⟩, e⟩ := h
    refine ⟨fun z => absurd (show false = true from z) Bool.false_ne_true, a, b, c, fun hw => ?_⟩
    dsimp only at hw ⊢
    rw [if_neg hw] at e
    simp only [decide_eq_true_eq] at e
    exact e.1
theorem Up.step {P : Pl} {S : Sd} {e : Dd} (h : P.ok) (u : Up P S) (p : Poss P S e) : Up P (doneS P S e).1 := by
  obtain ⟨off, want, left, hand, leans, locked⟩ := S
  obtain ⟨lock, w0, w1, hd, ln, rd, wt⟩ := u
  obtain ⟨h1, h2, h3, h4, h5, h6, h7, h8⟩ := h
  have lk := Up.lk ⟨h1, h2, h3, h4, h5, h6, h7, h8⟩
  have bg := Up.begin ⟨h1, h2, h3, h4, h5, h6, h7, h8⟩
  dsimp only at *
  have key : ∀ (off' hand' : Int) (leans' : Bool) (weight : Int), locked = false → (leans' = true → P.lean = true) → (hand' = 0 ∨ hand' = want) → off - 1 ≤ off' → off' ≤ off + 5 →
      Up P (behind P ⟨off, want, left, hand, leans, locked⟩ off' hand' leans' weight).1 := by
    intro off' hand' leans' weight hlk hl hh o1 o2
    unfold behind
    dsimp only
    by_cases hw : want = 0
    · rw [if_neg (by simp [hw])]
      by_cases ha : (if off' < 0 then -off' else off') ≤ P.tol
      · rw [if_pos ha]
        rw [abs_le] at ha
        exact ⟨fun z => absurd (show false = true from z) Bool.false_ne_true, by simp, by simp; omega, .inl rfl, hl, fun _ => ⟨rfl, ha⟩, fun z => absurd rfl z⟩
      · rw [if_neg ha]; exact lk
    · rw [if_pos hw]
      obtain ⟨a, b, c, d⟩ := wt hw
      by_cases ha : off < off' ∧ (if off' - want < 0 then -(off' - want) else off' - want) ≤ P.tol
      · rw [if_pos ha]
        obtain ⟨ha1, ha2⟩ := ha
        rw [abs_le] at ha2
        refine ⟨fun z => absurd (show false = true from z) Bool.false_ne_true, by simp, by simp; omega, .inl rfl, hl, fun _ => ⟨rfl, ?_, ?_⟩, fun z => absurd rfl z⟩
        · dsimp only
          split <;> omega
        · dsimp only
          split <;> omega
      · rw [if_neg ha]
        by_cases hn : left ≠ 1
        · rw [if_pos hn]
          exact ⟨fun z => absurd (show false = true from z) Bool.false_ne_true, w0, w1, hh, hl, fun z => absurd z hw, fun _ => ⟨by dsimp only; omega, by dsimp only; omega, by dsimp only; omega, by dsimp only; omega⟩⟩
        · rw [if_neg hn]; exact lk
  cases e with
  | free => exact bg
  | read n =>
    obtain ⟨p1, p2, p3, p4⟩ := p
    obtain ⟨a, b, c⟩ := rd p2
    dsimp only at p1
    refine ⟨fun z => absurd (show false = true from z) Bool.false_ne_true, by show 0 ≤ n; omega, p4, .inr rfl, ln, fun z => ?_, fun _ => ⟨?_, ?_, ?_, ?_⟩⟩
    · have z : n = 0 := z
      omega
    all_goals (simp only [doneS]; omega)
  | wait => exact key _ _ _ _ p ln hd (by dsimp only; omega) (by dsimp only; omega)
  | hide n => exact key _ _ _ _ p.1 ln hd (by have := p.2; dsimp only; omega) (by have := p.2; dsimp only; omega)
  | lay n =>
    obtain ⟨p1, p2, p3, p4, p5⟩ := p
    dsimp only at p2 p5
    exact key _ _ _ _ p1 ln (.inl rfl) (by dsimp only; omega) (by dsimp only; omega)
  | lean => exact key _ _ _ _ p.1 (fun _ => p.2.1) hd (by dsimp only; omega) (by dsimp only; omega)
  | off => exact key _ _ _ _ p.1 (fun z => absurd (show false = true from z) Bool.false_ne_true) hd (by dsimp only; omega) (by dsimp only; omega)

/-! ### deeds in order -/
/-- as the program finds them -/
def deedsQ (most spread hand want : Int) (lean leans : Bool) : List D :=
  (rangeD 1 (most + 1 - 1).toNat).filterMap (fun x => some (.tup [.str "hide", x])) ++
    (if hand > 0 then (rangeD (-spread) (spread + 1 - -spread).toNat).filterMap (fun x => if 0 < hand + isI x then some (.tup [.str "lay", x]) else none) else []) ++
    (if lean then [.tup [.str (if leans then "off" else "lean")]] else []) ++
    (if want = 0 then (rangeD 1 (most + 1 - 1).toNat).filterMap (fun x => some (.tup [.str "read", x])) else []) ++ [.tup [.str "wait"]]
/-- sorting by insertion: what is reckoned with -/
def insX {α : Type} (le : α → α → Bool) (a : α) : List α → List α
  | [] => [a]
  | b :: r => if le a b = true then a :: b :: r else b :: insX le a r
def sortX {α : Type} (le : α → α → Bool) : List α → List α
  | [] => []
  | a :: r => insX le a (sortX le r)
theorem insX_split {α : Type} {le : α → α → Bool} (a : α) : ∀ (l1 l2 : List α), (∀ b ∈ l1, (!le a b) = true) → (∀ b ∈ l2, le a b = true) → insX le a (l1 ++ l2) = l1 ++ a :: l2
  | [], [], _, _ => rfl
  | [], b :: r, _, h => by
    show (if le a b = true then a :: b :: r else b :: insX le a r) = _
    rw [if_pos (h b List.mem_cons_self)]; rfl
  | b :: l1, l2, h, h' => by
    have hb : le a b = false := by simpa using h b List.mem_cons_self
    show (if le a b = true then a :: b :: (l1 ++ l2) else b :: insX le a (l1 ++ l2)) = _
    rw [hb, if_neg Bool.false_ne_true, insX_split a l1 l2 (fun c hc => h c (List.mem_cons_of_mem _ hc)) h']; rfl
theorem sort_sortX {α : Type} {le : α → α → Bool} (h : PySem.W.TotalLe le) : ∀ l : List α, l.mergeSort le = sortX le l
  | [] => by simp [sortX]
  | a :: l => by
    have tot : ∀ (a b : α), (le a b || le b a) = true := fun a b => by
      rcases h.total a b with e | e <;> simp [e]
    obtain ⟨l1, l2, e1, e2, h1⟩ := List.mergeSort_cons h.trans tot a l
    have hp := List.pairwise_mergeSort h.trans tot (a :: l)
    rw [e1] at hp ⊢
    have h2 : ∀ b ∈ l2, le a b = true := by
      have := (List.pairwise_append.mp hp).2.1
      exact (List.pairwise_cons.mp this).1
    show _ = insX le a (sortX le l)
    rw [← sort_sortX h l, e2, insX_split a l1 l2 h1 h2]
theorem sortD_X (l : List D) : sortD l = sortX (PySem.W.dataLe false pdOf) l := sort_sortX (PySem.W.sortLe_total _ _ _) l
def chkQ (most spread hand : Int) (w0 lean leans : Bool) : Bool :=
  sameDs (deedsQ most spread hand (if w0 then 0 else 1) lean leans) (sortX (PySem.W.dataLe false pdOf) ((deedsRaw ⟨0, 1, true, most, spread, lean⟩ ⟨0, if w0 then 0 else 1, 0, hand, leans, false⟩).map Dd.d))
theorem chk_all : (([1, 2, 3] : List Int).all fun m => ([0, 1, 2] : List Int).all fun s => ([0, 1, 2, 3] : List Int).all fun h => [true, false].all fun w0 => [true, false].all fun l => [true, false].all fun l2 => chkQ m s h w0 l l2) = true := by decide +kernel
theorem deedsQ_eq {P : Pl} {S : Sd} (hP : P.ok) (hS : Fits P S) (hl : S.locked = false) : deedsQ P.most P.spread S.hand S.want P.lean S.leans = deedsL P S := by
  obtain ⟨off, want, left, hand, leans, locked⟩ := S
  obtain ⟨tol, wait, each, most, spread, lean⟩ := P
  obtain ⟨_, _, _, _, m0, m1, s0, s1⟩ := hP
  obtain ⟨_, w0, w1, hd, _⟩ := hS
  dsimp only at *
  subst hl
  have hm : most = 1 ∨ most = 2 ∨ most = 3 := by omega
  have hs : spread = 0 ∨ spread = 1 ∨ spread = 2 := by omega
  have hh : hand = 0 ∨ hand = 1 ∨ hand = 2 ∨ hand = 3 := by omega
  have e1 : deedsQ most spread hand want lean leans = deedsQ most spread hand (if want = 0 then 0 else 1) lean leans := by
    unfold deedsQ
    by_cases hw : want = 0 <;> simp [hw]
  have e2 : deedsRaw ⟨tol, wait, each, most, spread, lean⟩ ⟨off, want, left, hand, leans, false⟩ = deedsRaw ⟨0, 1, true, most, spread, lean⟩ ⟨0, if want = 0 then 0 else 1, 0, hand, leans, false⟩ := by
    unfold deedsRaw
    by_cases hw : want = 0 <;> simp [hw]
  have h : chkQ most spread hand (decide (want = 0)) lean leans = true := by
    have h := List.all_eq_true.mp chk_all most (by simp; omega)
    have h := List.all_eq_true.mp h spread (by simp; omega)
    have h := List.all_eq_true.mp h hand (by simp; omega)
    have h := List.all_eq_true.mp h (decide (want = 0)) (by cases decide (want = 0) <;> simp)
    have h := List.all_eq_true.mp h lean (by cases lean <;> simp)
    exact List.all_eq_true.mp h leans (by cases leans <;> simp)
  unfold chkQ at h
  have h := sameDs_eq _ _ h
  unfold deedsL
  rw [if_neg (by simp), e2, e1, sortD_X]
  simpa using h
end L2.DL

set_option Elab.async false
set_option linter.all false
set_option maxRecDepth 100000
/-! EA: readings that run: what the kernel reckons with. Continuations over a small machine; each piece is sound for the reading it stands for. -/
namespace L2.DL
open PySem PySem.Spec PyProof.Rows
noncomputable section
abbrev An := Option D
/-- sixteen slots -/
structure E4 where
  a : Option D
  b : Option D
  c : Option D
  d : Option D
structure E16 where
  a : E4
  b : E4
  c : E4
  d : E4
def e4 : E4 := ⟨none, none, none, none⟩
def e16 : E16 := ⟨e4, e4, e4, e4⟩
/-- own objects by number -/
inductive Tr where
  | e
  | nd (o : Option O) (l r : Tr)
structure Xs where
  n : Nat
  t : Tr
abbrev KX := D → Xs → An
abbrev xE := E16 → Xs → KX → An
abbrev xT := E16 → Xs → (Bool → Xs → An) → An
abbrev xA := E16 → Xs → (List D → Xs → An) → An
abbrev xP := E16 → Xs → (Option Int → Xs → An) → An
abbrev xG := D → E16 → Xs → (E16 → Xs → An) → An
abbrev xGs := List D → E16 → Xs → (E16 → Xs → An) → An
abbrev xO2 := D → D → Xs → KX → An
abbrev xOA := List D → Xs → KX → An
abbrev xI := E16 → Xs → (List D → Xs → An) → An
abbrev xC := D → E16 → (E16 → An) → An
structure Fi where
  nx : E16 → Xs → An
  rt : D → Xs → An
  bk : E16 → Xs → An
  ct : E16 → Xs → An
abbrev xS := Fi → E16 → Xs → An

def getE (r : E16) : Nat → Option D
  | 0 => r.a.a
  | 1 => r.a.b
  | 2 => r.a.c
  | 3 => r.a.d
  | 4 => r.b.a
  | 5 => r.b.b
  | 6 => r.b.c
  | 7 => r.b.d
  | 8 => r.c.a
  | 9 => r.c.b
  | 10 => r.c.c
  | 11 => r.c.d
  | 12 => r.d.a
  | 13 => r.d.b
  | 14 => r.d.c
  | 15 => r.d.d
  | _ => none
def setE (r : E16) (v : Option D) : Nat → E16
  | 0 => { r with a := { r.a with a := v } }
  | 1 => { r with a := { r.a with b := v } }
  | 2 => { r with a := { r.a with c := v } }
  | 3 => { r with a := { r.a with d := v } }
  | 4 => { r with b := { r.b with a := v } }
  | 5 => { r with b := { r.b with b := v } }
  | 6 => { r with b := { r.b with c := v } }
  | 7 => { r with b := { r.b with d := v } }
  | 8 => { r with c := { r.c with a := v } }
  | 9 => { r with c := { r.c with b := v } }
  | 10 => { r with c := { r.c with c := v } }
  | 11 => { r with c := { r.c with d := v } }
  | 12 => { r with d := { r.d with a := v } }
  | 13 => { r with d := { r.d with b := v } }
  | 14 => { r with d := { r.d with c := v } }
  | 15 => { r with d := { r.d with d := v } }
  | _ => r
def eV0 : xE := fun r s k => E16.rec (motive := fun _ => An) (fun a b c d => E4.rec (motive := fun _ => An) (fun a b c d => Option.rec (motive := fun _ => An) none (fun v => k v s) a) a) r
def eW0 (v : Option D) (r : E16) (k : E16 → An) : An := E16.rec (motive := fun _ => An) (fun A B C D => E4.rec (motive := fun _ => An) (fun a b c d => k ⟨⟨v, b, c, d⟩, B, C, D⟩) A) r
def eV1 : xE := fun r s k => E16.rec (motive := fun _ => An) (fun a b c d => E4.rec (motive := fun _ => An) (fun a b c d => Option.rec (motive := fun _ => An) none (fun v => k v s) b) a) r
def eW1 (v : Option D) (r : E16) (k : E16 → An) : An := E16.rec (motive := fun _ => An) (fun A B C D => E4.rec (motive := fun _ => An) (fun a b c d => k ⟨⟨a, v, c, d⟩, B, C, D⟩) A) r
def eV2 : xE := fun r s k => E16.rec (motive := fun _ => An) (fun a b c d => E4.rec (motive := fun _ => An) (fun a b c d => Option.rec (motive := fun _ => An) none (fun v => k v s) c) a) r
def eW2 (v : Option D) (r : E16) (k : E16 → An) : An := E16.rec (motive := fun _ => An) (fun A B C D => E4.rec (motive := fun _ => An) (fun a b c d => k ⟨⟨a, b, v, d⟩, B, C, D⟩) A) r
def eV3 : xE := fun r s k => E16.rec (motive := fun _ => An) (fun a b c d => E4.rec (motive := fun _ => An) (fun a b c d => Option.rec (motive := fun _ => An) none (fun v => k v s) d) a) r
def eW3 (v : Option D) (r : E16) (k : E16 → An) : An := E16.rec (motive := fun _ => An) (fun A B C D => E4.rec (motive := fun _ => An) (fun a b c d => k ⟨⟨a, b, c, v⟩, B, C, D⟩) A) r
def eV4 : xE := fun r s k => E16.rec (motive := fun _ => An) (fun a b c d => E4.rec (motive := fun _ => An) (fun a b c d => Option.rec (motive := fun _ => An) none (fun v => k v s) a) b) r
def eW4 (v : Option D) (r : E16) (k : E16 → An) : An := E16.rec (motive := fun _ => An) (fun A B C D => E4.rec (motive := fun _ => An) (fun a b c d => k ⟨A, ⟨v, b, c, d⟩, C, D⟩) B) r
def eV5 : xE := fun r s k => E16.rec (motive := fun _ => An) (fun a b c d => E4.rec (motive := fun _ => An) (fun a b c d => Option.rec (motive := fun _ => An) none (fun v => k v s) b) b) r
def eW5 (v : Option D) (r : E16) (k : E16 → An) : An := E16.rec (motive := fun _ => An) (fun A B C D => E4.rec (motive := fun _ => An) (fun a b c d => k ⟨A, ⟨a, v, c, d⟩, C, D⟩) B) r
def eV6 : xE := fun r s k => E16.rec (motive := fun _ => An) (fun a b c d => E4.rec (motive := fun _ => An) (fun a b c d => Option.rec (motive := fun _ => An) none (fun v => k v s) c) b) r
def eW6 (v : Option D) (r : E16) (k : E16 → An) : An := E16.rec (motive := fun _ => An) (fun A B C D => E4.rec (motive := fun _ => An) (fun a b c d => k ⟨A, ⟨a, b, v, d⟩, C, D⟩) B) r
def eV7 : xE := fun r s k => E16.rec (motive := fun _ => An) (fun a b c d => E4.rec (motive := fun _ => An) (fun a b c d => Option.rec (motive := fun _ => An) none (fun v => k v s) d) b) r
def eW7 (v : Option D) (r : E16) (k : E16 → An) : An := E16.rec (motive := fun _ => An) (fun A B C D => E4.rec (motive := fun _ => An) (fun a b c d => k ⟨A, ⟨a, b, c, v⟩, C, D⟩) B) r
def eV8 : xE := fun r s k => E16.rec (motive := fun _ => An) (fun a b c d => E4.rec (motive := fun _ => An) (fun a b c d => Option.rec (motive := fun _ => An) none (fun v => k v s) a) c) r
def eW8 (v : Option D) (r : E16) (k : E16 → An) : An := E16.rec (motive := fun _ => An) (fun A B C D => E4.rec (motive := fun _ => An) (fun a b c d => k ⟨A, B, ⟨v, b, c, d⟩, D⟩) C) r
def eV9 : xE := fun r s k => E16.rec (motive := fun _ => An) (fun a b c d => E4.rec (motive := fun _ => An) (fun a b c d => Option.rec (motive := fun _ => An) none (fun v => k v s) b) c) r
def eW9 (v : Option D) (r : E16) (k : E16 → An) : An := E16.rec (motive := fun _ => An) (fun A B C D => E4.rec (motive := fun _ => An) (fun a b c d => k ⟨A, B, ⟨a, v, c, d⟩, D⟩) C) r
def eV10 : xE := fun r s k => E16.rec (motive := fun _ => An) (fun a b c d => E4.rec (motive := fun _ => An) (fun a b c d => Option.rec (motive := fun _ => An) none (fun v => k v s) c) c) r
def eW10 (v : Option D) (r : E16) (k : E16 → An) : An := E16.rec (motive := fun _ => An) (fun A B C D => E4.rec (motive := fun _ => An) (fun a b c d => k ⟨A, B, ⟨a, b, v, d⟩, D⟩) C) r
def eV11 : xE := fun r s k => E16.rec (motive := fun _ => An) (fun a b c d => E4.rec (motive := fun _ => An) (fun a b c d => Option.rec (motive := fun _ => An) none (fun v => k v s) d) c) r
def eW11 (v : Option D) (r : E16) (k : E16 → An) : An := E16.rec (motive := fun _ => An) (fun A B C D => E4.rec (motive := fun _ => An) (fun a b c d => k ⟨A, B, ⟨a, b, c, v⟩, D⟩) C) r
def eV12 : xE := fun r s k => E16.rec (motive := fun _ => An) (fun a b c d => E4.rec (motive := fun _ => An) (fun a b c d => Option.rec (motive := fun _ => An) none (fun v => k v s) a) d) r
def eW12 (v : Option D) (r : E16) (k : E16 → An) : An := E16.rec (motive := fun _ => An) (fun A B C D => E4.rec (motive := fun _ => An) (fun a b c d => k ⟨A, B, C, ⟨v, b, c, d⟩⟩) D) r
def eV13 : xE := fun r s k => E16.rec (motive := fun _ => An) (fun a b c d => E4.rec (motive := fun _ => An) (fun a b c d => Option.rec (motive := fun _ => An) none (fun v => k v s) b) d) r
def eW13 (v : Option D) (r : E16) (k : E16 → An) : An := E16.rec (motive := fun _ => An) (fun A B C D => E4.rec (motive := fun _ => An) (fun a b c d => k ⟨A, B, C, ⟨a, v, c, d⟩⟩) D) r
def eV14 : xE := fun r s k => E16.rec (motive := fun _ => An) (fun a b c d => E4.rec (motive := fun _ => An) (fun a b c d => Option.rec (motive := fun _ => An) none (fun v => k v s) c) d) r
def eW14 (v : Option D) (r : E16) (k : E16 → An) : An := E16.rec (motive := fun _ => An) (fun A B C D => E4.rec (motive := fun _ => An) (fun a b c d => k ⟨A, B, C, ⟨a, b, v, d⟩⟩) D) r
def eV15 : xE := fun r s k => E16.rec (motive := fun _ => An) (fun a b c d => E4.rec (motive := fun _ => An) (fun a b c d => Option.rec (motive := fun _ => An) none (fun v => k v s) d) d) r
def eW15 (v : Option D) (r : E16) (k : E16 → An) : An := E16.rec (motive := fun _ => An) (fun A B C D => E4.rec (motive := fun _ => An) (fun a b c d => k ⟨A, B, C, ⟨a, b, c, v⟩⟩) D) r
/-! ### agreement -/
def AgE (N : Nat) (ρ : En) (r : E16) : Prop := ρ.length = N ∧ ∀ i d, getE r i = some d → ρ[i]? = some (some d)
def getT (t : Tr) (i : Nat) : Option O := Tr.rec (motive := fun _ => Nat → Option O) (fun _ => none) (fun o _ _ gl gr i => Bool.rec (motive := fun _ => Option O) (Bool.rec (motive := fun _ => Option O) (gr (Nat.sub (Nat.div i 2) 1)) (gl (Nat.div i 2)) (Nat.beq (Nat.mod i 2) 1)) o (Nat.beq i 0)) t i
def setT (v : O) (n : Nat) (t : Tr) (i : Nat) (k : Tr → An) : An :=
  Nat.rec (motive := fun _ => Tr → Nat → (Tr → An) → An) (fun _ _ _ => none) (fun _ ih t i k => Tr.rec (motive := fun _ => An)
    (Bool.rec (motive := fun _ => An) (Bool.rec (motive := fun _ => An) (ih .e (Nat.sub (Nat.div i 2) 1) fun r => k (.nd none .e r)) (ih .e (Nat.div i 2) fun l => k (.nd none l .e)) (Nat.beq (Nat.mod i 2) 1)) (k (.nd (some v) .e .e)) (Nat.beq i 0))
    (fun o l r _ _ => Bool.rec (motive := fun _ => An) (Bool.rec (motive := fun _ => An) (ih r (Nat.sub (Nat.div i 2) 1) fun r => k (.nd o l r)) (ih l (Nat.div i 2) fun l => k (.nd o l r)) (Nat.beq (Nat.mod i 2) 1)) (k (.nd (some v) l r)) (Nat.beq i 0)) t) n t i k
def AgL (L : Sto) (s : Xs) : Prop := s.n = L.length ∧ ∀ i o, getT s.t i = some o → L[i]? = some o
theorem beq_def (a b : Nat) : Nat.beq a b = decide (a = b) := by
  cases e : Nat.beq a b with
  | true => exact (decide_eq_true (Nat.eq_of_beq_eq_true e)).symm
  | false => exact (decide_eq_false (Nat.ne_of_beq_eq_false e)).symm
theorem getT_e (i : Nat) : getT .e i = none := rfl
theorem getT_nd (o : Option O) (l r : Tr) (i : Nat) : getT (.nd o l r) i = if i = 0 then o else if i % 2 = 1 then getT l (i / 2) else getT r (i / 2 - 1) := by
  show (Bool.rec (motive := fun _ => Option O) (Bool.rec (motive := fun _ => Option O) (getT r (i / 2 - 1)) (getT l (i / 2)) (Nat.beq (i % 2) 1)) o (Nat.beq i 0)) = _
  rw [beq_def, beq_def]
  by_cases h : i = 0
  · simp [h]
  · by_cases h2 : i % 2 = 1
    · simp [h, h2]
    · simp [h, h2]
theorem setT_s (v : O) (n : Nat) (t : Tr) (i : Nat) (k : Tr → An) : setT v (n + 1) t i k = match t with
    | .e => if i = 0 then k (.nd (some v) .e .e) else if i % 2 = 1 then setT v n .e (i / 2) fun l => k (.nd none l .e) else setT v n .e (i / 2 - 1) fun r => k (.nd none .e r)
    | .nd o l r => if i = 0 then k (.nd (some v) l r) else if i % 2 = 1 then setT v n l (i / 2) fun l => k (.nd o l r) else setT v n r (i / 2 - 1) fun r => k (.nd o l r) := by
  cases t with
  | e =>
    show (Bool.rec (motive := fun _ => An) (Bool.rec (motive := fun _ => An) (setT v n .e (i / 2 - 1) fun r => k (.nd none .e r)) (setT v n .e (i / 2) fun l => k (.nd none l .e)) (Nat.beq (i % 2) 1)) (k (.nd (some v) .e .e)) (Nat.beq i 0)) = _
    rw [beq_def, beq_def]
    by_cases h : i = 0 <;> by_cases h2 : i % 2 = 1 <;> simp [h, h2]
  | nd o l r =>
    show (Bool.rec (motive := fun _ => An) (Bool.rec (motive := fun _ => An) (setT v n r (i / 2 - 1) fun r => k (.nd o l r)) (setT v n l (i / 2) fun l => k (.nd o l r)) (Nat.beq (i % 2) 1)) (k (.nd (some v) l r)) (Nat.beq i 0)) = _
    rw [beq_def, beq_def]
    by_cases h : i = 0 <;> by_cases h2 : i % 2 = 1 <;> simp [h, h2]
theorem setT_ok (v : O) : ∀ (n : Nat) (t : Tr) (i : Nat) (k : Tr → An) (a : D), setT v n t i k = some a → ∃ t', k t' = some a ∧ ∀ j, getT t' j = if j = i then some v else getT t j
  | 0, _, _, _, _, h => nomatch h
  | n + 1, t, i, k, a, h => by
    rw [setT_s] at h
    have odd : ∀ j, i % 2 = 1 → j ≠ 0 → j % 2 = 1 → (j / 2 = i / 2 ↔ j = i) := fun j a b c => by omega
    have even : ∀ j, ¬ i % 2 = 1 → i ≠ 0 → j ≠ 0 → ¬ j % 2 = 1 → (j / 2 - 1 = i / 2 - 1 ↔ j = i) := fun j a b c d => by omega
    cases t with
    | e =>
      dsimp only at h
      split at h
      · rename_i hi
        refine ⟨_, h, fun j => ?_⟩
        rw [getT_nd]
        by_cases hj : j = 0
        · simp [hj, hi, getT_e]
        · simp [hj, getT_e, show ¬ j = i by omega]
      · rename_i hi
        split at h
        · rename_i h2
          obtain ⟨t', e, g⟩ := setT_ok v n _ _ _ _ h
          refine ⟨_, e, fun j => ?_⟩
          rw [getT_nd, g]
          by_cases hj : j = 0
          · simp [hj, getT_e, show ¬ 0 = i by omega]
          · by_cases h3 : j % 2 = 1
            · simp [hj, h3, odd j h2 hj h3, getT_e]
            · simp [hj, h3, getT_e, show ¬ j = i by intro z; rw [z] at h3; exact h3 h2]
        · rename_i h2
          obtain ⟨t', e, g⟩ := setT_ok v n _ _ _ _ h
          refine ⟨_, e, fun j => ?_⟩
          rw [getT_nd, g]
          by_cases hj : j = 0
          · simp [hj, getT_e, show ¬ 0 = i by omega]
          · by_cases h3 : j % 2 = 1
            · simp [hj, h3, getT_e, show ¬ j = i by intro z; rw [z] at h3; exact h2 h3]
            · simp [hj, h3, even j h2 hi hj h3, getT_e]
    | nd o l r =>
      dsimp only at h
      split at h
      · rename_i hi
        refine ⟨_, h, fun j => ?_⟩
        rw [getT_nd, getT_nd]
        by_cases hj : j = 0
        · simp [hj, hi]
        · simp [hj, show ¬ j = i by omega]
      · rename_i hi
        split at h
        · rename_i h2
          obtain ⟨t', e, g⟩ := setT_ok v n _ _ _ _ h
          refine ⟨_, e, fun j => ?_⟩
          rw [getT_nd, getT_nd, g]
          by_cases hj : j = 0
          · simp [hj, show ¬ 0 = i by omega]
          · by_cases h3 : j % 2 = 1
            · simp [hj, h3, odd j h2 hj h3]
            · simp [hj, h3, show ¬ j = i by intro z; rw [z] at h3; exact h3 h2]
        · rename_i h2
          obtain ⟨t', e, g⟩ := setT_ok v n _ _ _ _ h
          refine ⟨_, e, fun j => ?_⟩
          rw [getT_nd, getT_nd, g]
          by_cases hj : j = 0
          · simp [hj, show ¬ 0 = i by omega]
          · by_cases h3 : j % 2 = 1
            · simp [hj, h3, show ¬ j = i by intro z; rw [z] at h3; exact h2 h3]
            · simp [hj, h3, even j h2 hi hj h3]
theorem getE_lt {r : E16} {i : Nat} {d : D} (h : getE r i = some d) : i < 16 := by
  by_cases hi : i < 16
  · exact hi
  · exfalso
    have : getE r i = none := by
      match i, hi with
      | n + 16, _ => rfl
    rw [this] at h; cases h
theorem getE_set (r : E16) (v : Option D) (i j : Nat) (hi : i < 16) : getE (setE r v i) j = if j = i then v else getE r j := by
  by_cases hj : j < 16
  · match i, hi, j, hj with
    | n + 16, h, _, _ => exact absurd h (by omega)
    | 0, _, 0, _ => rfl
    | 0, _, 1, _ => rfl
    | 0, _, 2, _ => rfl
    | 0, _, 3, _ => rfl
    | 0, _, 4, _ => rfl
    | 0, _, 5, _ => rfl
    | 0, _, 6, _ => rfl
    | 0, _, 7, _ => rfl
    | 0, _, 8, _ => rfl
    | 0, _, 9, _ => rfl
    | 0, _, 10, _ => rfl
    | 0, _, 11, _ => rfl
    | 0, _, 12, _ => rfl
    | 0, _, 13, _ => rfl
    | 0, _, 14, _ => rfl
    | 0, _, 15, _ => rfl
    | 0, _, n + 16, h => exact absurd h (by omega)
    | 1, _, 0, _ => rfl
    | 1, _, 1, _ => rfl
    | 1, _, 2, _ => rfl
    | 1, _, 3, _ => rfl
    | 1, _, 4, _ => rfl
    | 1, _, 5, _ => rfl
    | 1, _, 6, _ => rfl
    | 1, _, 7, _ => rfl
    | 1, _, 8, _ => rfl
    | 1, _, 9, _ => rfl
    | 1, _, 10, _ => rfl
    | 1, _, 11, _ => rfl
    | 1, _, 12, _ => rfl
    | 1, _, 13, _ => rfl
    | 1, _, 14, _ => rfl
    | 1, _, 15, _ => rfl
    | 1, _, n + 16, h => exact absurd h (by omega)
    | 2, _, 0, _ => rfl
    | 2, _, 1, _ => rfl
    | 2, _, 2, _ => rfl
    | 2, _, 3, _ => rfl
    | 2, _, 4, _ => rfl
    | 2, _, 5, _ => rfl
    | 2, _, 6, _ => rfl
    | 2, _, 7, _ => rfl
    | 2, _, 8, _ => rfl
    | 2, _, 9, _ => rfl
    | 2, _, 10, _ => rfl
    | 2, _, 11, _ => rfl
    | 2, _, 12, _ => rfl
    | 2, _, 13, _ => rfl
    | 2, _, 14, _ => rfl
    | 2, _, 15, _ => rfl
    | 2, _, n + 16, h => exact absurd h (by omega)
    | 3, _, 0, _ => rfl
    | 3, _, 1, _ => rfl
    | 3, _, 2, _ => rfl
    | 3, _, 3, _ => rfl
    | 3, _, 4, _ => rfl
    | 3, _, 5, _ => rfl
    | 3, _, 6, _ => rfl
    | 3, _, 7, _ => rfl
    | 3, _, 8, _ => rfl
    | 3, _, 9, _ => rfl
    | 3, _, 10, _ => rfl
    | 3, _, 11, _ => rfl
    | 3, _, 12, _ => rfl
    | 3, _, 13, _ => rfl
    | 3, _, 14, _ => rfl
    | 3, _, 15, _ => rfl
    | 3, _, n + 16, h => exact absurd h (by omega)
    | 4, _, 0, _ => rfl
    | 4, _, 1, _ => rfl
    | 4, _, 2, _ => rfl
    | 4, _, 3, _ => rfl
    | 4, _, 4, _ => rfl
    | 4, _, 5, _ => rfl
    | 4, _, 6, _ => rfl
    | 4, _, 7, _ => rfl
    | 4, _, 8, _ => rfl
    | 4, _, 9, _ => rfl
    | 4, _, 10, _ => rfl
    | 4, _, 11, _ => rfl
    | 4, _, 12, _ => rfl
    | 4, _, 13, _ => rfl
    | 4, _, 14, _ => rfl
    | 4, _, 15, _ => rfl
    | 4, _, n + 16, h => exact absurd h (by omega)
    | 5, _, 0, _ => rfl
    | 5, _, 1, _ => rfl
    | 5, _, 2, _ => rfl
    | 5, _, 3, _ => rfl
    | 5, _, 4, _ => rfl
    | 5, _, 5, _ => rfl
    | 5, _, 6, _ => rfl
    | 5, _, 7, _ => rfl
    | 5, _, 8, _ => rfl
    | 5, _, 9, _ => rfl
    | 5, _, 10, _ => rfl
    | 5, _, 11, _ => rfl
    | 5, _, 12, _ => rfl
    | 5, _, 13, _ => rfl
    | 5, _, 14, _ => rfl
    | 5, _, 15, _ => rfl
    | 5, _, n + 16, h => exact absurd h (by omega)
    | 6, _, 0, _ => rfl
    | 6, _, 1, _ => rfl
    | 6, _, 2, _ => rfl
    | 6, _, 3, _ => rfl
    | 6, _, 4, _ => rfl
    | 6, _, 5, _ => rfl
    | 6, _, 6, _ => rfl
    | 6, _, 7, _ => rfl
    | 6, _, 8, _ => rfl
    | 6, _, 9, _ => rfl
    | 6, _, 10, _ => rfl
    | 6, _, 11, _ => rfl
    | 6, _, 12, _ => rfl
    | 6, _, 13, _ => rfl
    | 6, _, 14, _ => rfl
    | 6, _, 15, _ => rfl
    | 6, _, n + 16, h => exact absurd h (by omega)
    | 7, _, 0, _ => rfl
    | 7, _, 1, _ => rfl
    | 7, _, 2, _ => rfl
    | 7, _, 3, _ => rfl
    | 7, _, 4, _ => rfl
    | 7, _, 5, _ => rfl
    | 7, _, 6, _ => rfl
    | 7, _, 7, _ => rfl
    | 7, _, 8, _ => rfl
    | 7, _, 9, _ => rfl
    | 7, _, 10, _ => rfl
    | 7, _, 11, _ => rfl
    | 7, _, 12, _ => rfl
    | 7, _, 13, _ => rfl
    | 7, _, 14, _ => rfl
    | 7, _, 15, _ => rfl
    | 7, _, n + 16, h => exact absurd h (by omega)
    | 8, _, 0, _ => rfl
    | 8, _, 1, _ => rfl
    | 8, _, 2, _ => rfl
    | 8, _, 3, _ => rfl
    | 8, _, 4, _ => rfl
    | 8, _, 5, _ => rfl
    | 8, _, 6, _ => rfl
    | 8, _, 7, _ => rfl
    | 8, _, 8, _ => rfl
    | 8, _, 9, _ => rfl
    | 8, _, 10, _ => rfl
    | 8, _, 11, _ => rfl
    | 8, _, 12, _ => rfl
    | 8, _, 13, _ => rfl
    | 8, _, 14, _ => rfl
    | 8, _, 15, _ => rfl
    | 8, _, n + 16, h => exact absurd h (by omega)
    | 9, _, 0, _ => rfl
    | 9, _, 1, _ => rfl
    | 9, _, 2, _ => rfl
    | 9, _, 3, _ => rfl
    | 9, _, 4, _ => rfl
    | 9, _, 5, _ => rfl
    | 9, _, 6, _ => rfl
    | 9, _, 7, _ => rfl
    | 9, _, 8, _ => rfl
    | 9, _, 9, _ => rfl
    | 9, _, 10, _ => rfl
    | 9, _, 11, _ => rfl
    | 9, _, 12, _ => rfl
    | 9, _, 13, _ => rfl
    | 9, _, 14, _ => rfl
    | 9, _, 15, _ => rfl
    | 9, _, n + 16, h => exact absurd h (by omega)
    | 10, _, 0, _ => rfl
    | 10, _, 1, _ => rfl
    | 10, _, 2, _ => rfl
    | 10, _, 3, _ => rfl
    | 10, _, 4, _ => rfl
    | 10, _, 5, _ => rfl
    | 10, _, 6, _ => rfl
    | 10, _, 7, _ => rfl
    | 10, _, 8, _ => rfl
    | 10, _, 9, _ => rfl
    | 10, _, 10, _ => rfl
    | 10, _, 11, _ => rfl
    | 10, _, 12, _ => rfl
    | 10, _, 13, _ => rfl
    | 10, _, 14, _ => rfl
    | 10, _, 15, _ => rfl
    | 10, _, n + 16, h => exact absurd h (by omega)
    | 11, _, 0, _ => rfl
    | 11, _, 1, _ => rfl
    | 11, _, 2, _ => rfl
    | 11, _, 3, _ => rfl
    | 11, _, 4, _ => rfl
    | 11, _, 5, _ => rfl
    | 11, _, 6, _ => rfl
    | 11, _, 7, _ => rfl
    | 11, _, 8, _ => rfl
    | 11, _, 9, _ => rfl
    | 11, _, 10, _ => rfl
    | 11, _, 11, _ => rfl
    | 11, _, 12, _ => rfl
    | 11, _, 13, _ => rfl
    | 11, _, 14, _ => rfl
    | 11, _, 15, _ => rfl
    | 11, _, n + 16, h => exact absurd h (by omega)
    | 12, _, 0, _ => rfl
    | 12, _, 1, _ => rfl
    | 12, _, 2, _ => rfl
    | 12, _, 3, _ => rfl
    | 12, _, 4, _ => rfl
    | 12, _, 5, _ => rfl
    | 12, _, 6, _ => rfl
    | 12, _, 7, _ => rfl
    | 12, _, 8, _ => rfl
    | 12, _, 9, _ => rfl
    | 12, _, 10, _ => rfl
    | 12, _, 11, _ => rfl
    | 12, _, 12, _ => rfl
    | 12, _, 13, _ => rfl
    | 12, _, 14, _ => rfl
    | 12, _, 15, _ => rfl
    | 12, _, n + 16, h => exact absurd h (by omega)
    | 13, _, 0, _ => rfl
    | 13, _, 1, _ => rfl
    | 13, _, 2, _ => rfl
    | 13, _, 3, _ => rfl
    | 13, _, 4, _ => rfl
    | 13, _, 5, _ => rfl
    | 13, _, 6, _ => rfl
    | 13, _, 7, _ => rfl
    | 13, _, 8, _ => rfl
    | 13, _, 9, _ => rfl
    | 13, _, 10, _ => rfl
    | 13, _, 11, _ => rfl
    | 13, _, 12, _ => rfl
    | 13, _, 13, _ => rfl
    | 13, _, 14, _ => rfl
    | 13, _, 15, _ => rfl
    | 13, _, n + 16, h => exact absurd h (by omega)
    | 14, _, 0, _ => rfl
    | 14, _, 1, _ => rfl
    | 14, _, 2, _ => rfl
    | 14, _, 3, _ => rfl
    | 14, _, 4, _ => rfl
    | 14, _, 5, _ => rfl
    | 14, _, 6, _ => rfl
    | 14, _, 7, _ => rfl
    | 14, _, 8, _ => rfl
    | 14, _, 9, _ => rfl
    | 14, _, 10, _ => rfl
    | 14, _, 11, _ => rfl
    | 14, _, 12, _ => rfl
    | 14, _, 13, _ => rfl
    | 14, _, 14, _ => rfl
    | 14, _, 15, _ => rfl
    | 14, _, n + 16, h => exact absurd h (by omega)
    | 15, _, 0, _ => rfl
    | 15, _, 1, _ => rfl
    | 15, _, 2, _ => rfl
    | 15, _, 3, _ => rfl
    | 15, _, 4, _ => rfl
    | 15, _, 5, _ => rfl
    | 15, _, 6, _ => rfl
    | 15, _, 7, _ => rfl
    | 15, _, 8, _ => rfl
    | 15, _, 9, _ => rfl
    | 15, _, 10, _ => rfl
    | 15, _, 11, _ => rfl
    | 15, _, 12, _ => rfl
    | 15, _, 13, _ => rfl
    | 15, _, 14, _ => rfl
    | 15, _, 15, _ => rfl
    | 15, _, n + 16, h => exact absurd h (by omega)
  · have e : ∀ q : E16, getE q j = none := fun q => by
      match j, hj with
      | n + 16, _ => rfl
    rw [e, e, if_neg (by omega)]
theorem AgE.set {N : Nat} {ρ : En} {r : E16} (h : AgE N ρ r) {i : Nat} (hi : i < N) (h16 : i < 16) (d : D) : AgE N (ρ.set i (some d)) (setE r (some d) i) := by
  refine ⟨by rw [List.length_set]; exact h.1, fun j e he => ?_⟩
  rw [getE_set _ _ _ _ h16] at he
  by_cases hj : j = i
  · subst hj
    rw [if_pos rfl] at he
    rw [List.getElem?_set_self (by rw [h.1]; exact hi), he]
  · rw [if_neg hj] at he
    rw [List.getElem?_set_ne (Ne.symm hj)]
    exact h.2 j e he
theorem eW0_is (v : Option D) (r : E16) (k : E16 → An) : eW0 v r k = k (setE r v 0) := rfl
theorem eW1_is (v : Option D) (r : E16) (k : E16 → An) : eW1 v r k = k (setE r v 1) := rfl
theorem eW2_is (v : Option D) (r : E16) (k : E16 → An) : eW2 v r k = k (setE r v 2) := rfl
theorem eW3_is (v : Option D) (r : E16) (k : E16 → An) : eW3 v r k = k (setE r v 3) := rfl
theorem eW4_is (v : Option D) (r : E16) (k : E16 → An) : eW4 v r k = k (setE r v 4) := rfl
theorem eW5_is (v : Option D) (r : E16) (k : E16 → An) : eW5 v r k = k (setE r v 5) := rfl
theorem eW6_is (v : Option D) (r : E16) (k : E16 → An) : eW6 v r k = k (setE r v 6) := rfl
theorem eW7_is (v : Option D) (r : E16) (k : E16 → An) : eW7 v r k = k (setE r v 7) := rfl
theorem eW8_is (v : Option D) (r : E16) (k : E16 → An) : eW8 v r k = k (setE r v 8) := rfl
theorem eW9_is (v : Option D) (r : E16) (k : E16 → An) : eW9 v r k = k (setE r v 9) := rfl
theorem eW10_is (v : Option D) (r : E16) (k : E16 → An) : eW10 v r k = k (setE r v 10) := rfl
theorem eW11_is (v : Option D) (r : E16) (k : E16 → An) : eW11 v r k = k (setE r v 11) := rfl
theorem eW12_is (v : Option D) (r : E16) (k : E16 → An) : eW12 v r k = k (setE r v 12) := rfl
theorem eW13_is (v : Option D) (r : E16) (k : E16 → An) : eW13 v r k = k (setE r v 13) := rfl
theorem eW14_is (v : Option D) (r : E16) (k : E16 → An) : eW14 v r k = k (setE r v 14) := rfl
theorem eW15_is (v : Option D) (r : E16) (k : E16 → An) : eW15 v r k = k (setE r v 15) := rfl
theorem AgL.set {L : Sto} {s : Xs} (h : AgL L s) {i : Nat} {o : O} (hi : getT s.t i = some o) {v : O} {f : Nat} {k : Tr → An} {a : D} (e : setT v f s.t i k = some a) : ∃ t', k t' = some a ∧ AgL (L.set i v) ⟨s.n, t'⟩ := by
  obtain ⟨t', e1, g⟩ := setT_ok v _ _ _ _ _ e
  refine ⟨t', e1, by rw [List.length_set]; exact h.1, fun j u hj => ?_⟩
  have hj : getT t' j = some u := hj
  rw [g] at hj
  have hl : i < L.length := (List.getElem?_eq_some_iff.mp (h.2 i o hi)).1
  by_cases e : j = i
  · subst e
    rw [if_pos rfl] at hj
    rw [List.getElem?_set_self hl, hj]
  · rw [if_neg e] at hj
    rw [List.getElem?_set_ne (Ne.symm e)]
    exact h.2 j u hj
def fN {α : Type} (n : Nat) (k : Nat → Option α) : Option α := Nat.rec (motive := fun _ => Option α) (k 0) (fun m _ => k (Nat.succ m)) n
theorem fN_is {α : Type} (n : Nat) (k : Nat → Option α) : fN n k = k n := by cases n <;> rfl
def fI (i : Int) (k : D → An) : An := Int.rec (motive := fun _ => An) (fun n => fN n fun n => k (.int (.ofNat n))) (fun n => fN n fun n => k (.int (.negSucc n))) i
theorem fI_is (i : Int) (k : D → An) : fI i k = k (.int i) := by
  cases i with
  | ofNat n => exact fN_is n fun n => k (.int (.ofNat n))
  | negSucc n => exact fN_is n fun n => k (.int (.negSucc n))
def fB (b : Bool) (k : D → An) : An := Bool.rec (motive := fun _ => An) (k (.bl false)) (k (.bl true)) b
theorem fB_is (b : Bool) (k : D → An) : fB b k = k (.bl b) := by cases b <;> rfl
def newX (v : O) (s : Xs) (k : D → Xs → An) : An := Xs.rec (motive := fun _ => An) (fun n t => setT v 12 t n fun t => fN (Nat.succ n) fun m => k (.ob n) ⟨m, t⟩) s
theorem newX_ok {v : O} {s : Xs} {k : D → Xs → An} {a : D} {L : Sto} (h : newX v s k = some a) (ag : AgL L s) : ∃ s', k (.ob L.length) s' = some a ∧ AgL (L ++ [v]) s' := by
  obtain ⟨n, t⟩ := s
  have h : setT v 12 t n (fun t => fN (Nat.succ n) fun m => k (.ob n) ⟨m, t⟩) = some a := h
  obtain ⟨t', e1, g⟩ := setT_ok v _ _ _ _ _ h
  rw [fN_is] at e1
  obtain ⟨h1, h2⟩ := ag
  have h1 : n = L.length := h1
  subst h1
  refine ⟨_, e1, by rw [List.length_append]; rfl, fun j u hj => ?_⟩
  have hj : getT t' j = some u := hj
  rw [g] at hj
  by_cases e : j = L.length
  · subst e
    rw [if_pos rfl] at hj
    rw [List.getElem?_concat_length, hj]
  · rw [if_neg e] at hj
    have q := h2 j u hj
    rw [List.getElem?_append_left (List.getElem?_eq_some_iff.mp q).1]
    exact q

def dInt (d : D) (k : Int → An) : An := D.rec (motive_1 := fun _ => An) (motive_2 := fun _ => Unit) none (fun _ => none) k (fun _ => none) (fun _ _ => none) (fun _ _ => none) (fun _ _ _ _ => none) (fun _ => none) (fun _ => none) (fun _ => none) () (fun _ _ _ _ => ()) d
def dBl (d : D) (k : Bool → An) : An := D.rec (motive_1 := fun _ => An) (motive_2 := fun _ => Unit) none k (fun _ => none) (fun _ => none) (fun _ _ => none) (fun _ _ => none) (fun _ _ _ _ => none) (fun _ => none) (fun _ => none) (fun _ => none) () (fun _ _ _ _ => ()) d
def dStr (d : D) (k : Str → An) : An := D.rec (motive_1 := fun _ => An) (motive_2 := fun _ => Unit) none (fun _ => none) (fun _ => none) k (fun _ _ => none) (fun _ _ => none) (fun _ _ _ _ => none) (fun _ => none) (fun _ => none) (fun _ => none) () (fun _ _ _ _ => ()) d
def dTup (d : D) (k : List D → An) : An := D.rec (motive_1 := fun _ => An) (motive_2 := fun _ => Unit) none (fun _ => none) (fun _ => none) (fun _ => none) (fun xs _ => k xs) (fun _ _ => none) (fun _ _ _ _ => none) (fun _ => none) (fun _ => none) (fun _ => none) () (fun _ _ _ _ => ()) d
def dLst (d : D) (k : List D → An) : An := D.rec (motive_1 := fun _ => An) (motive_2 := fun _ => Unit) none (fun _ => none) (fun _ => none) (fun _ => none) (fun _ _ => none) (fun xs _ => k xs) (fun _ _ _ _ => none) (fun _ => none) (fun _ => none) (fun _ => none) () (fun _ _ _ _ => ()) d
def dDct (d : D) (k : List D → List D → An) : An := D.rec (motive_1 := fun _ => An) (motive_2 := fun _ => Unit) none (fun _ => none) (fun _ => none) (fun _ => none) (fun _ _ => none) (fun _ _ => none) (fun ks vs _ _ => k ks vs) (fun _ => none) (fun _ => none) (fun _ => none) () (fun _ _ _ _ => ()) d
def dOb (d : D) (k : Nat → An) : An := D.rec (motive_1 := fun _ => An) (motive_2 := fun _ => Unit) none (fun _ => none) (fun _ => none) (fun _ => none) (fun _ _ => none) (fun _ _ => none) (fun _ _ _ _ => none) k (fun _ => none) (fun _ => none) () (fun _ _ _ _ => ()) d
def dNon (d : D) (k : An) : An := D.rec (motive_1 := fun _ => An) (motive_2 := fun _ => Unit) k (fun _ => none) (fun _ => none) (fun _ => none) (fun _ _ => none) (fun _ _ => none) (fun _ _ _ _ => none) (fun _ => none) (fun _ => none) (fun _ => none) () (fun _ _ _ _ => ()) d
theorem dInt_ok {d : D} {k} {a : D} (h : dInt d k = some a) : ∃ i, d = .int i ∧ k i = some a := by cases d <;> first | exact ⟨_, rfl, h⟩ | exact nomatch h
theorem dBl_ok {d : D} {k} {a : D} (h : dBl d k = some a) : ∃ i, d = .bl i ∧ k i = some a := by cases d <;> first | exact ⟨_, rfl, h⟩ | exact nomatch h
theorem dStr_ok {d : D} {k} {a : D} (h : dStr d k = some a) : ∃ i, d = .str i ∧ k i = some a := by cases d <;> first | exact ⟨_, rfl, h⟩ | exact nomatch h
theorem dTup_ok {d : D} {k} {a : D} (h : dTup d k = some a) : ∃ i, d = .tup i ∧ k i = some a := by cases d <;> first | exact ⟨_, rfl, h⟩ | exact nomatch h
theorem dLst_ok {d : D} {k} {a : D} (h : dLst d k = some a) : ∃ i, d = .lst i ∧ k i = some a := by cases d <;> first | exact ⟨_, rfl, h⟩ | exact nomatch h
theorem dOb_ok {d : D} {k} {a : D} (h : dOb d k = some a) : ∃ i, d = .ob i ∧ k i = some a := by cases d <;> first | exact ⟨_, rfl, h⟩ | exact nomatch h
theorem dDct_ok {d : D} {k} {a : D} (h : dDct d k = some a) : ∃ i j, d = .dct i j ∧ k i j = some a := by cases d <;> first | exact ⟨_, _, rfl, h⟩ | exact nomatch h
theorem dNon_ok {d : D} {k} {a : D} (h : dNon d k = some a) : d = .non ∧ k = some a := by cases d <;> first | exact ⟨rfl, h⟩ | exact nomatch h
def oLstK (o : Option O) (k : List D → An) : An := Option.rec (motive := fun _ => An) none (fun o => O.rec (motive := fun _ => An) k (fun _ _ => none) (fun _ _ => none) none o) o
def oDctK (o : Option O) (k : List D → List D → An) : An := Option.rec (motive := fun _ => An) none (fun o => O.rec (motive := fun _ => An) (fun _ => none) k (fun _ _ => none) none o) o
theorem oLstK_ok {o : Option O} {k} {a : D} (h : oLstK o k = some a) : ∃ xs, o = some (.lst xs) ∧ k xs = some a := by
  cases o with
  | none => exact nomatch h
  | some o => cases o <;> first | exact ⟨_, rfl, h⟩ | exact nomatch h
theorem oDctK_ok {o : Option O} {k} {a : D} (h : oDctK o k = some a) : ∃ xs ys, o = some (.dct xs ys) ∧ k xs ys = some a := by
  cases o with
  | none => exact nomatch h
  | some o => cases o <;> first | exact ⟨_, _, rfl, h⟩ | exact nomatch h
def seqX (d : D) (s : Xs) (k : List D → An) : An := D.rec (motive_1 := fun _ => An) (motive_2 := fun _ => Unit) none (fun _ => none) (fun _ => none) (fun _ => none) (fun xs _ => k xs) (fun xs _ => k xs) (fun _ _ _ _ => none) (fun n => oLstK (getT s.t n) k) (fun _ => none) (fun _ => none) () (fun _ _ _ _ => ()) d
def lstX (d : D) (s : Xs) (k : List D → An) : An := D.rec (motive_1 := fun _ => An) (motive_2 := fun _ => Unit) none (fun _ => none) (fun _ => none) (fun _ => none) (fun _ _ => none) (fun xs _ => k xs) (fun _ _ _ _ => none) (fun n => oLstK (getT s.t n) k) (fun _ => none) (fun _ => none) () (fun _ _ _ _ => ()) d
def dctX (d : D) (s : Xs) (k : List D → List D → An) : An := D.rec (motive_1 := fun _ => An) (motive_2 := fun _ => Unit) none (fun _ => none) (fun _ => none) (fun _ => none) (fun _ _ => none) (fun _ _ => none) (fun ks vs _ _ => k ks vs) (fun n => oDctK (getT s.t n) k) (fun _ => none) (fun _ => none) () (fun _ _ _ _ => ()) d
theorem seqX_ok {d : D} {s : Xs} {k} {a : D} {L : Sto} (ag : AgL L s) (h : seqX d s k = some a) : ∃ xs, seqOf L d = some xs ∧ k xs = some a := by
  cases d with
  | tup xs => exact ⟨xs, rfl, h⟩
  | lst xs => exact ⟨xs, rfl, h⟩
  | ob n =>
    obtain ⟨xs, e, h⟩ := oLstK_ok h
    exact ⟨xs, by simp [seqOf, view, ag.2 _ _ e], h⟩
  | _ => exact nomatch h
theorem lstX_ok {d : D} {s : Xs} {k} {a : D} {L : Sto} (ag : AgL L s) (h : lstX d s k = some a) : ∃ xs, lstOf L d = some xs ∧ k xs = some a := by
  cases d with
  | lst xs => exact ⟨xs, rfl, h⟩
  | ob n =>
    obtain ⟨xs, e, h⟩ := oLstK_ok h
    exact ⟨xs, by simp [lstOf, view, ag.2 _ _ e], h⟩
  | _ => exact nomatch h
theorem dctX_ok {d : D} {s : Xs} {k} {a : D} {L : Sto} (ag : AgL L s) (h : dctX d s k = some a) : ∃ ks vs, dctOf L d = some (ks, vs) ∧ k ks vs = some a := by
  cases d with
  | dct ks vs => exact ⟨ks, vs, rfl, h⟩
  | ob n =>
    obtain ⟨xs, ys, e, h⟩ := oDctK_ok h
    exact ⟨xs, ys, by simp [dctOf, ag.2 _ _ e], h⟩
  | _ => exact nomatch h
end
end L2.DL

set_option Elab.async false
set_option linter.all false
set_option maxRecDepth 100000
/-! EC: expressions that run, and that they are sound. -/
namespace L2.DL
open PySem PySem.Spec PyProof.Rows
noncomputable section
/-! ### what is sound -/
structure SE (N : Nat) (t : tE) (e : xE) : Prop where
  ok : ∀ {ρ L r s k a R}, AgE N ρ r → AgL L s → (∀ d L' s', AgL L' s' → k d s' = some a → R d L') → e r s k = some a → t ρ L R
structure ST (N : Nat) (t : tT) (e : xT) : Prop where
  ok : ∀ {ρ L r s k a R}, AgE N ρ r → AgL L s → (∀ d L' s', AgL L' s' → k d s' = some a → R d L') → e r s k = some a → t ρ L R
structure SA (N m : Nat) (t : tA) (e : xA) : Prop where
  ok : ∀ {ρ L r s k a R}, AgE N ρ r → AgL L s → (∀ ds L' s', ds.length = m → AgL L' s' → k ds s' = some a → R ds L') → e r s k = some a → t ρ L R
structure SP (N : Nat) (t : tP) (e : xP) : Prop where
  ok : ∀ {ρ L r s k a R}, AgE N ρ r → AgL L s → (∀ d L' s', AgL L' s' → k d s' = some a → R d L') → e r s k = some a → t ρ L R
structure SO2 (o : O2) (x : xO2) : Prop where
  ok : ∀ {p q L s k a R}, AgL L s → (∀ d L' s', AgL L' s' → k d s' = some a → R d L') → x p q s k = some a → o p q L R
structure SOA (o : OA) (x : xOA) : Prop where
  ok : ∀ {ds L s k a R}, AgL L s → (∀ d L' s', AgL L' s' → k d s' = some a → R d L') → x ds s k = some a → o ds L R
/-! ### names, constants -/
theorem AgE.get {N : Nat} {ρ : En} {r : E16} (h : AgE N ρ r) {i : Nat} {d : D} (e : getE r i = some d) : ρ[i]? = some (some d) := h.2 i d e
theorem se_var {N i : Nat} {e : xE} (h : ∀ r s k, e r s k = Option.rec (motive := fun _ => An) none (fun v => k v s) (getE r i)) : SE N (tV i) e := by
  refine ⟨fun {ρ L r s k a R} ag al hk he => ?_⟩
  rw [h] at he
  cases g : getE r i with
  | none => rw [g] at he; cases he
  | some d =>
    rw [g] at he
    show match ρ[i]? with | some (some d) => R d L | _ => False
    rw [ag.get g]
    exact hk d L s al he
theorem se_v0 {N} : SE N (tV 0) eV0 := se_var fun _ _ _ => rfl
theorem se_v1 {N} : SE N (tV 1) eV1 := se_var fun _ _ _ => rfl
theorem se_v2 {N} : SE N (tV 2) eV2 := se_var fun _ _ _ => rfl
theorem se_v3 {N} : SE N (tV 3) eV3 := se_var fun _ _ _ => rfl
theorem se_v4 {N} : SE N (tV 4) eV4 := se_var fun _ _ _ => rfl
theorem se_v5 {N} : SE N (tV 5) eV5 := se_var fun _ _ _ => rfl
theorem se_v6 {N} : SE N (tV 6) eV6 := se_var fun _ _ _ => rfl
theorem se_v7 {N} : SE N (tV 7) eV7 := se_var fun _ _ _ => rfl
theorem se_v8 {N} : SE N (tV 8) eV8 := se_var fun _ _ _ => rfl
theorem se_v9 {N} : SE N (tV 9) eV9 := se_var fun _ _ _ => rfl
theorem se_v10 {N} : SE N (tV 10) eV10 := se_var fun _ _ _ => rfl
theorem se_v11 {N} : SE N (tV 11) eV11 := se_var fun _ _ _ => rfl
theorem se_v12 {N} : SE N (tV 12) eV12 := se_var fun _ _ _ => rfl
theorem se_v13 {N} : SE N (tV 13) eV13 := se_var fun _ _ _ => rfl
theorem se_v14 {N} : SE N (tV 14) eV14 := se_var fun _ _ _ => rfl
theorem se_v15 {N} : SE N (tV 15) eV15 := se_var fun _ _ _ => rfl
def eK (d : D) : xE := fun _ s k => k d s
theorem se_k {N : Nat} {d d' : D} (h : d = d') : SE N (tK d) (eK d') := by
  subst h
  refine ⟨fun {ρ L r s k a R} ag al hk he => ?_⟩
  exact hk d L s al he
/-! ### operations -/
def eB2 (o : xO2) (a b : xE) : xE := fun r s k => a r s fun x s1 => b r s1 fun y s2 => o x y s2 k
theorem se_b2 {N : Nat} {o : O2} {x : xO2} {ta tb : tE} {a b : xE} (ho : SO2 o x) (ha : SE N ta a) (hb : SE N tb b) : SE N (tB2 o ta tb) (eB2 x a b) := by
  refine ⟨fun {ρ L r s k z R} ag al hk he => ?_⟩
  exact ha.ok ag al (fun d L1 s1 al1 h1 => hb.ok ag al1 (fun d2 L2 s2 al2 h2 => ho.ok al2 hk h2) h1) he
abbrev xO1 := D → Xs → KX → An
def eB1 (o : xO1) (a : xE) : xE := fun r s k => a r s fun x s1 => o x s1 k
structure SO1 (o : O1) (x : xO1) : Prop where
  ok : ∀ {p L s k a R}, AgL L s → (∀ d L' s', AgL L' s' → k d s' = some a → R d L') → x p s k = some a → o p L R
theorem se_b1 {N : Nat} {o : O1} {x : xO1} {ta : tE} {a : xE} (ho : SO1 o x) (ha : SE N ta a) : SE N (tB1 o ta) (eB1 x a) := by
  refine ⟨fun {ρ L r s k z R} ag al hk he => ?_⟩
  exact ha.ok ag al (fun d L1 s1 al1 h1 => ho.ok al1 hk h1) he
/-! ints, fit for the kernel -/
def subNN (m n : Nat) : Int := Bool.rec (motive := fun _ => Int) (.negSucc (Nat.sub (Nat.sub n m) 1)) (.ofNat (Nat.sub m n)) (Nat.ble n m)
def negI (i : Int) : Int := Int.rec (motive := fun _ => Int) (fun n => subNN 0 n) (fun n => .ofNat (Nat.succ n)) i
def addI (i j : Int) : Int := Int.rec (motive := fun _ => Int) (fun m => Int.rec (motive := fun _ => Int) (fun n => .ofNat (Nat.add m n)) (fun n => subNN m (Nat.succ n)) j) (fun m => Int.rec (motive := fun _ => Int) (fun n => subNN n (Nat.succ m)) (fun n => .negSucc (Nat.succ (Nat.add m n))) j) i
def leI (i j : Int) : Bool := Int.rec (motive := fun _ => Bool) (fun m => Int.rec (motive := fun _ => Bool) (fun n => Nat.ble m n) (fun _ => false) j) (fun m => Int.rec (motive := fun _ => Bool) (fun _ => true) (fun n => Nat.ble n m) j) i
def eqI (i j : Int) : Bool := Int.rec (motive := fun _ => Bool) (fun m => Int.rec (motive := fun _ => Bool) (fun n => Nat.beq m n) (fun _ => false) j) (fun m => Int.rec (motive := fun _ => Bool) (fun _ => false) (fun n => Nat.beq m n) j) i
theorem ble_def (a b : Nat) : Nat.ble a b = decide (a ≤ b) := by
  cases e : Nat.ble a b with
  | true => exact (decide_eq_true (Nat.le_of_ble_eq_true e)).symm
  | false => exact (decide_eq_false (fun h => by rw [Nat.ble_eq_true_of_le h] at e; cases e)).symm
theorem subNN_is (m n : Nat) : subNN m n = (m : Int) - (n : Int) := by
  unfold subNN
  rw [ble_def]
  by_cases h : n ≤ m
  · rw [decide_eq_true h]
    show ((m - n : Nat) : Int) = _
    omega
  · rw [decide_eq_false h]
    show Int.negSucc (n - m - 1) = _
    omega
theorem addI_is (i j : Int) : addI i j = i + j := by
  cases i with
  | ofNat m =>
    cases j with
    | ofNat n => rfl
    | negSucc n => show subNN m (n + 1) = _; rw [subNN_is]; simp only [Int.ofNat_eq_natCast]; omega
  | negSucc m =>
    cases j with
    | ofNat n => show subNN n (m + 1) = _; rw [subNN_is]; simp only [Int.ofNat_eq_natCast]; omega
    | negSucc n => rfl
theorem negI_is (i : Int) : negI i = -i := by
  cases i with
  | ofNat n => show subNN 0 n = _; rw [subNN_is]; simp only [Int.ofNat_eq_natCast]; omega
  | negSucc n => rfl
theorem leI_is (i j : Int) : leI i j = decide (i ≤ j) := by
  cases i with
  | ofNat m =>
    cases j with
    | ofNat n => show Nat.ble m n = _; rw [ble_def]; congr 1; apply propext; simp only [Int.ofNat_eq_natCast]; constructor <;> intro h <;> omega
    | negSucc n => exact (decide_eq_false (by simp only [Int.ofNat_eq_natCast]; omega)).symm
  | negSucc m =>
    cases j with
    | ofNat n => exact (decide_eq_true (by simp only [Int.ofNat_eq_natCast]; omega)).symm
    | negSucc n => show Nat.ble n m = _; rw [ble_def]; congr 1; apply propext; constructor <;> intro h <;> omega
theorem eqI_is (i j : Int) : eqI i j = decide (i = j) := by
  cases i with
  | ofNat m =>
    cases j with
    | ofNat n => show Nat.beq m n = _; rw [beq_def]; congr 1; apply propext; simp only [Int.ofNat_eq_natCast]; constructor <;> intro h <;> omega
    | negSucc n => exact (decide_eq_false (by simp only [Int.ofNat_eq_natCast]; omega)).symm
  | negSucc m =>
    cases j with
    | ofNat n => exact (decide_eq_false (by simp only [Int.ofNat_eq_natCast]; omega)).symm
    | negSucc n => show Nat.beq m n = _; rw [beq_def]; congr 1; apply propext; constructor <;> intro h <;> omega
def xII (g : Int → Int → Int) : xO2 := fun x y s k => dInt x fun i => dInt y fun j => fI (g i j) fun d => k d s
def xIB (g : Int → Int → Bool) : xO2 := fun x y s k => dInt x fun i => dInt y fun j => fB (g i j) fun d => k d s
theorem so_II {g : Int → Int → Int} {f : Int → Int → Int} (hg : ∀ i j, g i j = f i j) : SO2 (oI fun i j => .int (f i j)) (xII g) := by
  refine ⟨fun {p q L s k a R} al hk he => ?_⟩
  obtain ⟨i, rfl, h0⟩ := dInt_ok he
  clear he
  obtain ⟨j, rfl, he⟩ := dInt_ok h0
  rw [fI_is, hg] at he
  exact hk _ L s al he
theorem so_IB {g : Int → Int → Bool} {f : Int → Int → Bool} (hg : ∀ i j, g i j = f i j) : SO2 (oI fun i j => .bl (f i j)) (xIB g) := by
  refine ⟨fun {p q L s k a R} al hk he => ?_⟩
  obtain ⟨i, rfl, h0⟩ := dInt_ok he
  clear he
  obtain ⟨j, rfl, he⟩ := dInt_ok h0
  rw [fB_is, hg] at he
  exact hk _ L s al he
def xSub : xO2 := xII fun i j => addI i (negI j)
theorem so_sub : SO2 oSub xSub := so_II fun i j => by rw [addI_is, negI_is]; omega
def xLt : xO2 := xIB fun i j => Bool.not (leI j i)
theorem so_lt : SO2 oLt xLt := so_IB fun i j => by rw [leI_is]; by_cases h : j ≤ i <;> simp [h] <;> omega
def xLe : xO2 := xIB leI
theorem so_le : SO2 oLe xLe := so_IB leI_is
def xGt : xO2 := xIB fun i j => Bool.not (leI i j)
theorem so_gt : SO2 oGt xGt := so_IB fun i j => by rw [leI_is]; by_cases h : i ≤ j <;> simp [h] <;> omega
def xGe : xO2 := xIB fun i j => leI j i
theorem so_ge : SO2 oGe xGe := so_IB fun i j => leI_is j i
/-- products, quotients: small ones -/
def smallI (i : Int) : Bool := Int.rec (motive := fun _ => Bool) (fun n => Nat.ble n 1000000) (fun n => Nat.ble n 1000000) i
theorem smallI_ok {i : Int} (h : smallI i = true) : -1000001 ≤ i ∧ i ≤ 1000000 := by
  cases i with
  | ofNat n => have := Nat.le_of_ble_eq_true (show Nat.ble n 1000000 = true from h); simp only [Int.ofNat_eq_natCast]; omega
  | negSucc n => have := Nat.le_of_ble_eq_true (show Nat.ble n 1000000 = true from h); omega
def ifB (b : Bool) (k : An) : An := Bool.rec (motive := fun _ => An) none k b
theorem ifB_ok {b : Bool} {k : An} {a : D} (h : ifB b k = some a) : b = true ∧ k = some a := by
  cases b with
  | false => exact nomatch h
  | true => exact ⟨rfl, h⟩
def xMul : xO2 := fun x y s k => dInt x fun i => dInt y fun j => ifB (smallI i) (ifB (smallI j) (fI (i * j) fun d => k d s))
def xMod : xO2 := fun x y s k => dInt x fun i => dInt y fun j => ifB (Bool.not (leI j 0)) (fI (i % j) fun d => k d s)
def xDiv : xO2 := fun x y s k => dInt x fun i => dInt y fun j => ifB (smallI i) (ifB (smallI j) (ifB (Bool.not (leI j 0)) (fI (i / j) fun d => k d s)))
theorem so_mod : SO2 oMod xMod := by
  refine ⟨fun {p q L s k a R} al hk he => ?_⟩
  obtain ⟨i, rfl, h0⟩ := dInt_ok he
  clear he
  obtain ⟨j, rfl, he⟩ := dInt_ok h0
  obtain ⟨h1, he⟩ := ifB_ok he
  rw [fI_is] at he
  rw [leI_is] at h1
  exact ⟨by simpa using h1, hk _ L s al he⟩
/-! lists -/
def lenN {α : Type} (xs : List α) : Nat := List.rec (motive := fun _ => Nat) 0 (fun _ _ ih => Nat.succ ih) xs
theorem lenN_is {α : Type} (xs : List α) : lenN xs = xs.length := by
  induction xs with
  | nil => rfl
  | cons x r ih => show Nat.succ (lenN r) = _; rw [ih]; rfl
def nthX {α : Type} (xs : List α) (i : Nat) : Option α := List.rec (motive := fun _ => Nat → Option α) (fun _ => none) (fun x _ ih i => Nat.rec (motive := fun _ => Option α) (some x) (fun j _ => ih j) i) xs i
theorem nthX_is {α : Type} : ∀ (xs : List α) (i : Nat), nthX xs i = xs[i]?
  | [], _ => rfl
  | _ :: _, 0 => rfl
  | x :: r, i + 1 => by show nthX r i = _; rw [nthX_is r i]; rfl
def snocK {α : Type} (L : List α) (o : α) (k : List α → An) : An := List.rec (motive := fun _ => (List α → An) → An) (fun k => k [o]) (fun x _ ih k => ih fun r => k (x :: r)) L k
theorem snocK_is {α : Type} (o : α) : ∀ (L : List α) (k : List α → An), snocK L o k = k (L ++ [o])
  | [], _ => rfl
  | x :: r, k => by show snocK r o (fun r => k (x :: r)) = _; rw [snocK_is o r]; rfl
def appK {α : Type} (L M : List α) (k : List α → An) : An := List.rec (motive := fun _ => (List α → An) → An) (fun k => k M) (fun x _ ih k => ih fun r => k (x :: r)) L k
theorem appK_is {α : Type} (M : List α) : ∀ (L : List α) (k : List α → An), appK L M k = k (L ++ M)
  | [], _ => rfl
  | x :: r, k => by show appK r M (fun r => k (x :: r)) = _; rw [appK_is M r]; rfl
def fewX {α : Type} (xs : List α) : Bool := Nat.ble (lenN xs) 1000000
theorem few_ok {α : Type} {xs : List α} (h : fewX xs = true) : xs.length ≤ 1000000 := by
  have := Nat.le_of_ble_eq_true h
  rwa [lenN_is] at this
theorem sizeL : sizeLine = 16777216 := rfl
def addX (x y : D) (s : Xs) (k : KX) : An := D.rec (motive_1 := fun _ => An) (motive_2 := fun _ => Unit) none (fun _ => none) (fun i => dInt y fun j => fI (addI i j) fun d => k d s) (fun _ => none)
  (fun xs _ => dTup y fun ys => ifB (fewX xs) (ifB (fewX ys) (appK xs ys fun zs => k (.tup zs) s))) (fun xs _ => lstX y s fun ys => ifB (fewX xs) (ifB (fewX ys) (appK xs ys fun zs => k (.lst zs) s))) (fun _ _ _ _ => none)
  (fun n => oLstK (getT s.t n) fun xs => lstX y s fun ys => ifB (fewX xs) (ifB (fewX ys) (appK xs ys fun zs => k (.lst zs) s))) (fun _ => none) (fun _ => none) () (fun _ _ _ _ => ()) x
theorem so_add : SO2 oAdd addX := by
  refine ⟨fun {p q L s k a R} al hk he => ?_⟩
  cases p with
  | int i =>
    obtain ⟨j, e, hz⟩ := dInt_ok (show dInt q (fun j => fI (addI i j) fun d => k d s) = some a from he)
    subst e
    rw [fI_is, addI_is] at hz
    exact hk _ L s al hz
  | tup xs =>
    obtain ⟨ys, ee, hz⟩ := dTup_ok (show dTup q (fun ys => ifB (fewX xs) (ifB (fewX ys) (appK xs ys fun zs => k (.tup zs) s))) = some a from he)
    obtain ⟨h1, hz⟩ := ifB_ok hz
    obtain ⟨h2, hz⟩ := ifB_ok hz
    rw [appK_is] at hz
    have := few_ok h1
    have := few_ok h2
    subst ee
    exact ⟨by rw [sizeL]; omega, hk _ L s al hz⟩
  | lst xs =>
    obtain ⟨ys, e, he⟩ := lstX_ok al (show lstX q s (fun ys => ifB (fewX xs) (ifB (fewX ys) (appK xs ys fun zs => k (.lst zs) s))) = some a from he)
    obtain ⟨h1, he⟩ := ifB_ok he
    obtain ⟨h2, he⟩ := ifB_ok he
    rw [appK_is] at he
    have := few_ok h1
    have := few_ok h2
    have g : xs.length + ys.length ≤ sizeLine ∧ R (.lst (xs ++ ys)) L := ⟨by rw [sizeL]; omega, hk _ L s al he⟩
    cases q <;> first | (cases e; done) | (simp only [oAdd, e, show lstOf L (.lst xs) = some xs from rfl]; exact g)
  | ob n =>
    obtain ⟨xs, e0, he⟩ := oLstK_ok (show oLstK (getT s.t n) (fun xs => lstX q s fun ys => ifB (fewX xs) (ifB (fewX ys) (appK xs ys fun zs => k (.lst zs) s))) = some a from he)
    obtain ⟨ys, e, he⟩ := lstX_ok al he
    obtain ⟨h1, he⟩ := ifB_ok he
    obtain ⟨h2, he⟩ := ifB_ok he
    rw [appK_is] at he
    have := few_ok h1
    have := few_ok h2
    have g : xs.length + ys.length ≤ sizeLine ∧ R (.lst (xs ++ ys)) L := ⟨by rw [sizeL]; omega, hk _ L s al he⟩
    have e1 : lstOf L (.ob n) = some xs := by simp [lstOf, view, al.2 _ _ e0]
    cases q <;> first | (cases e; done) | (simp only [oAdd, e, e1]; exact g)
  | _ => exact nomatch he
end
end L2.DL

set_option Elab.async false
set_option linter.all false
set_option maxRecDepth 100000
/-! EF: ==, keys, looking up, storing; tests. -/
namespace L2.DL
open PySem PySem.Spec PyProof.Rows
noncomputable section
/-! ### strings -/
def eqNs (xs ys : List Nat) : Bool := List.rec (motive := fun _ => List Nat → Bool) (fun ys => List.rec (motive := fun _ => Bool) true (fun _ _ _ => false) ys) (fun x _ ih ys => List.rec (motive := fun _ => Bool) false (fun y r _ => Bool.rec (motive := fun _ => Bool) false (ih r) (Nat.beq x y)) ys) xs ys
theorem eqNs_is : ∀ xs ys : List Nat, eqNs xs ys = decide (xs = ys)
  | [], [] => rfl
  | [], _ :: _ => rfl
  | _ :: _, [] => rfl
  | x :: xs, y :: ys => by
    show Bool.rec (motive := fun _ => Bool) false (eqNs xs ys) (Nat.beq x y) = _
    rw [beq_def, eqNs_is xs ys]
    by_cases h : x = y <;> simp [h]
def cpsL (x : Str) : List Nat := x.cps.toList
def eqS (x y : Str) : Bool := Str.rec (motive := fun _ => Bool) (fun p => Array.rec (motive := fun _ => Bool) (fun p => Str.rec (motive := fun _ => Bool) (fun q => Array.rec (motive := fun _ => Bool) (fun q => eqNs p q) q) y) p) x
theorem eqS_is (x y : Str) : eqS x y = decide (x = y) := by
  obtain ⟨⟨p⟩⟩ := x
  obtain ⟨⟨q⟩⟩ := y
  show eqNs p q = _
  rw [eqNs_is]
  by_cases h : p = q <;> simp [h]
def okS (x : Str) : Bool := Str.rec (motive := fun _ => Bool) (fun p => Array.rec (motive := fun _ => Bool) (fun p => List.rec (motive := fun _ => Bool) true (fun c _ ih => Bool.rec (motive := fun _ => Bool) false ih (Nat.ble c 1114111)) p) p) x
theorem okS_ok {x : Str} (h : okS x = true) : PyData.strOk x = true := by
  obtain ⟨⟨p⟩⟩ := x
  replace h : List.rec (motive := fun _ => Bool) true (fun c _ ih => Bool.rec (motive := fun _ => Bool) false ih (Nat.ble c 1114111)) p = true := h
  show (Array.mk p).all (· < 0x110000) = true
  rw [← Array.all_toList]
  show p.all (fun c => decide (c < 0x110000)) = true
  induction p with
  | nil => rfl
  | cons c r ih =>
    replace h : Bool.rec (motive := fun _ => Bool) false (List.rec (motive := fun _ => Bool) true (fun c _ ih => Bool.rec (motive := fun _ => Bool) false ih (Nat.ble c 1114111)) r) (Nat.ble c 1114111) = true := h
    rw [ble_def] at h
    by_cases hc : c ≤ 1114111
    · rw [decide_eq_true hc] at h
      rw [List.all_cons, ih h, Bool.and_true]
      exact decide_eq_true (by omega)
    · rw [decide_eq_false hc] at h; cases h
/-! ### == of data -/
def eqsX (f : List (D → Bool)) (ys : List D) : Bool := List.rec (motive := fun _ => List D → Bool) (fun ys => List.rec (motive := fun _ => Bool) true (fun _ _ _ => false) ys) (fun g _ ih ys => List.rec (motive := fun _ => Bool) false (fun y r _ => Bool.rec (motive := fun _ => Bool) false (ih r) (g y)) ys) f ys
def cI (d : D) (k : Int → Bool) : Bool := D.rec (motive_1 := fun _ => Bool) (motive_2 := fun _ => Unit) false (fun b => k (Bool.rec (motive := fun _ => Int) (.ofNat 0) (.ofNat 1) b)) k (fun _ => false) (fun _ _ => false) (fun _ _ => false) (fun _ _ _ _ => false) (fun _ => false) (fun _ => false) (fun _ => false) () (fun _ _ _ _ => ()) d
def cS (d : D) (k : Str → Bool) : Bool := D.rec (motive_1 := fun _ => Bool) (motive_2 := fun _ => Unit) false (fun _ => false) (fun _ => false) k (fun _ _ => false) (fun _ _ => false) (fun _ _ _ _ => false) (fun _ => false) (fun _ => false) (fun _ => false) () (fun _ _ _ _ => ()) d
def cTu (d : D) (k : List D → Bool) : Bool := D.rec (motive_1 := fun _ => Bool) (motive_2 := fun _ => Unit) false (fun _ => false) (fun _ => false) (fun _ => false) (fun xs _ => k xs) (fun _ _ => false) (fun _ _ _ _ => false) (fun _ => false) (fun _ => false) (fun _ => false) () (fun _ _ _ _ => ()) d
def cLs (d : D) (k : List D → Bool) : Bool := D.rec (motive_1 := fun _ => Bool) (motive_2 := fun _ => Unit) false (fun _ => false) (fun _ => false) (fun _ => false) (fun _ _ => false) (fun xs _ => k xs) (fun _ _ _ _ => false) (fun _ => false) (fun _ => false) (fun _ => false) () (fun _ _ _ _ => ()) d
def cNo (d : D) : Bool := D.rec (motive_1 := fun _ => Bool) (motive_2 := fun _ => Unit) true (fun _ => false) (fun _ => false) (fun _ => false) (fun _ _ => false) (fun _ _ => false) (fun _ _ _ _ => false) (fun _ => false) (fun _ => false) (fun _ => false) () (fun _ _ _ _ => ()) d
def eqX (x : D) : D → Bool := D.rec (motive_1 := fun _ => D → Bool) (motive_2 := fun _ => List D → Bool) cNo (fun b y => cI y (eqI (Bool.rec (motive := fun _ => Int) (.ofNat 0) (.ofNat 1) b))) (fun i y => cI y (eqI i)) (fun s y => cS y (eqS s))
  (fun _ ih y => cTu y ih) (fun _ ih y => cLs y ih) (fun _ _ _ _ _ => false) (fun _ _ => false) (fun _ _ => false) (fun _ _ => false)
  (fun ys => List.rec (motive := fun _ => Bool) true (fun _ _ _ => false) ys) (fun _ _ ih1 ih2 ys => List.rec (motive := fun _ => Bool) false (fun y r _ => Bool.rec (motive := fun _ => Bool) false (ih2 r) (ih1 y)) ys) x
def eqXs (xs : List D) : List D → Bool := List.rec (motive := fun _ => List D → Bool) (fun ys => List.rec (motive := fun _ => Bool) true (fun _ _ _ => false) ys) (fun x _ ih2 ys => List.rec (motive := fun _ => Bool) false (fun y r _ => Bool.rec (motive := fun _ => Bool) false (ih2 r) (eqX x y)) ys) xs
theorem eqX_l (xs : List D) : D.rec_1 (motive_1 := fun _ => D → Bool) (motive_2 := fun _ => List D → Bool) cNo (fun b y => cI y (eqI (Bool.rec (motive := fun _ => Int) (.ofNat 0) (.ofNat 1) b))) (fun i y => cI y (eqI i)) (fun s y => cS y (eqS s))
  (fun _ ih y => cTu y ih) (fun _ ih y => cLs y ih) (fun _ _ _ _ _ => false) (fun _ _ => false) (fun _ _ => false) (fun _ _ => false)
  (fun ys => List.rec (motive := fun _ => Bool) true (fun _ _ _ => false) ys) (fun _ _ ih1 ih2 ys => List.rec (motive := fun _ => Bool) false (fun y r _ => Bool.rec (motive := fun _ => Bool) false (ih2 r) (ih1 y)) ys) xs = eqXs xs := by
  induction xs with
  | nil => rfl
  | cons x r ih =>
    show (fun ys => List.rec (motive := fun _ => Bool) false (fun y r' _ => Bool.rec (motive := fun _ => Bool) false (D.rec_1 (motive_1 := fun _ => D → Bool) (motive_2 := fun _ => List D → Bool) cNo (fun b y => cI y (eqI (Bool.rec (motive := fun _ => Int) (.ofNat 0) (.ofNat 1) b))) (fun i y => cI y (eqI i)) (fun s y => cS y (eqS s))
  (fun _ ih y => cTu y ih) (fun _ ih y => cLs y ih) (fun _ _ _ _ _ => false) (fun _ _ => false) (fun _ _ => false) (fun _ _ => false)
  (fun ys => List.rec (motive := fun _ => Bool) true (fun _ _ _ => false) ys) (fun _ _ ih1 ih2 ys => List.rec (motive := fun _ => Bool) false (fun y r _ => Bool.rec (motive := fun _ => Bool) false (ih2 r) (ih1 y)) ys) r r') (eqX x y)) ys) = _
    rw [ih]; rfl
theorem eqX_tup (xs : List D) (y : D) : eqX (.tup xs) y = cTu y (eqXs xs) := by
  show cTu y (D.rec_1 (motive_1 := fun _ => D → Bool) (motive_2 := fun _ => List D → Bool) _ _ _ _ _ _ _ _ _ _ _ _ xs) = _
  rw [eqX_l]
theorem eqX_lst (xs : List D) (y : D) : eqX (.lst xs) y = cLs y (eqXs xs) := by
  show cLs y (D.rec_1 (motive_1 := fun _ => D → Bool) (motive_2 := fun _ => List D → Bool) _ _ _ _ _ _ _ _ _ _ _ _ xs) = _
  rw [eqX_l]
mutual
theorem eqX_is : ∀ x y : D, eqX x y = eqD x y
  | .non, y => by cases y <;> rfl
  | .bl a, y => by cases y with
    | bl b => cases a <;> cases b <;> rfl
    | int j =>
      show eqI (Bool.rec (motive := fun _ => Int) (.ofNat 0) (.ofNat 1) a) j = _
      rw [eqI_is, eqD]
      cases a <;> rfl
    | _ => rfl
  | .int i, y => by cases y with
    | bl b =>
      show eqI i (Bool.rec (motive := fun _ => Int) (.ofNat 0) (.ofNat 1) b) = _
      rw [eqI_is, eqD]
      cases b <;> rfl
    | int j =>
      show eqI i j = _
      rw [eqI_is, eqD]
    | _ => rfl
  | .str x, y => by cases y with
    | str z =>
      show eqS x z = _
      rw [eqS_is, eqD]
    | _ => rfl
  | .tup xs, y => by
    rw [eqX_tup]
    cases y with
    | tup ys => rw [eqD]; exact eqXs_is xs ys
    | _ => rfl
  | .lst xs, y => by
    rw [eqX_lst]
    cases y with
    | lst ys => rw [eqD]; exact eqXs_is xs ys
    | _ => rfl
  | .dct _ _, y => by cases y <;> rfl
  | .ob _, y => by cases y <;> rfl
  | .adr _, y => by cases y <;> rfl
  | .ty _, y => by cases y <;> rfl
theorem eqXs_is : ∀ x y : List D, eqXs x y = eqDs x y
  | [], [] => by rw [eqDs]; rfl
  | [], _ :: _ => rfl
  | _ :: _, [] => rfl
  | x :: xs, y :: ys => by
    show Bool.rec (motive := fun _ => Bool) false (eqXs xs ys) (eqX x y) = _
    rw [eqDs, eqX_is x y, eqXs_is xs ys]
    cases eqD x y <;> rfl
end
/-! ### how deep -/
def fitX (d : D) : Nat → Bool := D.rec (motive_1 := fun _ => Nat → Bool) (motive_2 := fun _ => Nat → Bool) (fun _ => true) (fun _ _ => true) (fun _ _ => true) (fun x _ => okS x)
  (fun _ ih n => Nat.rec (motive := fun _ => Bool) false (fun m _ => ih m) n) (fun _ ih n => Nat.rec (motive := fun _ => Bool) false (fun m _ => ih m) n) (fun _ _ _ _ _ => false) (fun _ _ => false) (fun _ _ => false) (fun _ _ => false)
  (fun _ => true) (fun _ _ ih1 ih2 n => Bool.rec (motive := fun _ => Bool) false (ih2 n) (ih1 n)) d
def fitXs (xs : List D) (n : Nat) : Bool := List.rec (motive := fun _ => Bool) true (fun x _ ih => Bool.rec (motive := fun _ => Bool) false ih (fitX x n)) xs
theorem fitX_l (xs : List D) (n : Nat) : D.rec_1 (motive_1 := fun _ => Nat → Bool) (motive_2 := fun _ => Nat → Bool) (fun _ => true) (fun _ _ => true) (fun _ _ => true) (fun x _ => okS x)
  (fun _ ih n => Nat.rec (motive := fun _ => Bool) false (fun m _ => ih m) n) (fun _ ih n => Nat.rec (motive := fun _ => Bool) false (fun m _ => ih m) n) (fun _ _ _ _ _ => false) (fun _ _ => false) (fun _ _ => false) (fun _ _ => false)
  (fun _ => true) (fun _ _ ih1 ih2 n => Bool.rec (motive := fun _ => Bool) false (ih2 n) (ih1 n)) xs n = fitXs xs n := by
  induction xs with
  | nil => rfl
  | cons x r ih =>
    show Bool.rec (motive := fun _ => Bool) false (D.rec_1 (motive_1 := fun _ => Nat → Bool) (motive_2 := fun _ => Nat → Bool) _ _ _ _ _ _ _ _ _ _ _ _ r n) (fitX x n) = _
    rw [ih]; rfl
mutual
theorem fitX_ok : ∀ (x : D) (n : Nat), fitX x n = true → fitD n x = true
  | .non, n, _ => by simp [fitD]
  | .bl _, n, _ => by simp [fitD]
  | .int _, n, _ => by simp [fitD]
  | .str x, n, h => by simpa [fitD] using okS_ok h
  | .tup xs, 0, h => nomatch h
  | .lst xs, 0, h => nomatch h
  | .tup xs, n + 1, h => by
    have h : fitXs xs n = true := (fitX_l xs n).symm.trans h
    rw [fitD]; exact fitXs_ok xs n h
  | .lst xs, n + 1, h => by
    have h : fitXs xs n = true := (fitX_l xs n).symm.trans h
    rw [fitD]; exact fitXs_ok xs n h
  | .dct _ _, _, h => nomatch h
  | .ob _, _, h => nomatch h
  | .adr _, _, h => nomatch h
  | .ty _, _, h => nomatch h
theorem fitXs_ok : ∀ (xs : List D) (n : Nat), fitXs xs n = true → xs.all (fitD n) = true
  | [], _, _ => rfl
  | x :: xs, n, h => by
    have h : Bool.rec (motive := fun _ => Bool) false (fitXs xs n) (fitX x n) = true := h
    cases e : fitX x n with
    | false => rw [e] at h; cases h
    | true =>
      rw [e] at h
      rw [List.all_cons, fitX_ok x n e, fitXs_ok xs n h]; rfl
end
end
end L2.DL

set_option Elab.async false
set_option linter.all false
set_option maxRecDepth 100000
/-! EG: keys, dicts. -/
namespace L2.DL
open PySem PySem.Spec PyProof.Rows
noncomputable section
mutual
theorem eqD_key : ∀ (x y : D) (b : NestedKey), skOf y = some b → (eqD x y = true ↔ skOf x = some b)
  | .non, y, b, h => by cases y <;> simp [skOf, eqD] at h ⊢ <;> first | exact h | (subst h; simp) | (obtain ⟨_, _, e⟩ := h; rw [← e]; simp)
  | .bl a, y, b, h => by cases y <;> simp [skOf, eqD] at h ⊢ <;> first | (subst h; cases a <;> simp) | (obtain ⟨_, _, e⟩ := h; rw [← e]; simp)
  | .int a, y, b, h => by cases y <;> simp [skOf, eqD] at h ⊢ <;> first | (subst h; simp) | (obtain ⟨_, _, e⟩ := h; rw [← e]; simp)
  | .str a, y, b, h => by cases y <;> simp [skOf, eqD] at h ⊢ <;> first | (subst h; simp) | (obtain ⟨_, _, e⟩ := h; rw [← e]; simp)
  | .tup xs, y, b, h => by
    cases y with
    | tup ys =>
      simp only [skOf, Option.map_eq_some_iff] at h ⊢
      obtain ⟨ks, e, rfl⟩ := h
      rw [eqD, eqDs_key xs ys ks e]
      simp
    | _ => simp [skOf, eqD] at h ⊢ <;> (try subst h) <;> simp
  | .lst xs, y, b, h => by cases y <;> simp [skOf, eqD] at h ⊢
  | .dct _ _, y, b, h => by cases y <;> simp [skOf, eqD] at h ⊢
  | .ob _, y, b, h => by cases y <;> simp [skOf, eqD] at h ⊢
  | .adr _, y, b, h => by cases y <;> simp [skOf, eqD] at h ⊢
  | .ty _, y, b, h => by cases y <;> simp [skOf, eqD] at h ⊢
theorem eqDs_key : ∀ (x y : List D) (b : List NestedKey), skOfs y = some b → (eqDs x y = true ↔ skOfs x = some b)
  | [], [], b, h => by simp [skOfs, eqDs] at h ⊢; exact h
  | [], y :: ys, b, h => by
    simp only [skOfs] at h
    simp only [eqDs, skOfs]
    split at h
    · cases h; simp
    · cases h
  | x :: xs, [], b, h => by
    simp only [skOfs, Option.some.injEq] at h
    subst h
    simp only [eqDs, skOfs]
    cases skOf x <;> cases skOfs xs <;> simp
  | x :: xs, y :: ys, b, h => by
    simp only [skOfs] at h
    split at h
    · rename_i k ks e1 e2
      cases h
      rw [eqDs, Bool.and_eq_true, eqD_key x y k e1, eqDs_key xs ys ks e2, skOfs]
      cases skOf x <;> cases skOfs xs <;> simp
    · cases h
end
/-! ### a number for each key -/
def hI (i : Int) : Nat := Int.rec (motive := fun _ => Nat) (fun n => Nat.add (Nat.mul 2 n) 3) (fun n => Nat.add (Nat.mul 2 n) 4) i
def hD (d : D) : Nat := D.rec (motive_1 := fun _ => Nat) (motive_2 := fun _ => Nat) 0 (fun b => hI (Bool.rec (motive := fun _ => Int) (.ofNat 0) (.ofNat 1) b)) hI (fun _ => 1) (fun _ h => h) (fun _ _ => 2) (fun _ _ _ _ => 2) (fun _ => 2) (fun _ => 2) (fun _ => 2) 7 (fun _ _ a b => Nat.add (Nat.mul b 101) a) d
def hDs (xs : List D) : Nat := List.rec (motive := fun _ => Nat) 7 (fun x _ b => Nat.add (Nat.mul b 101) (hD x)) xs
mutual
def hK : NestedKey → Nat
  | .none => 0
  | .num i => hI i
  | .text _ => 1
  | .tup ks => hKs ks
def hKs : List NestedKey → Nat
  | [] => 7
  | k :: ks => Nat.add (Nat.mul (hKs ks) 101) (hK k)
end
theorem hD_l (xs : List D) : D.rec_1 (motive_1 := fun _ => Nat) (motive_2 := fun _ => Nat) 0 (fun b => hI (Bool.rec (motive := fun _ => Int) (.ofNat 0) (.ofNat 1) b)) hI (fun _ => 1) (fun _ h => h) (fun _ _ => 2) (fun _ _ _ _ => 2) (fun _ => 2) (fun _ => 2) (fun _ => 2) 7 (fun _ _ a b => Nat.add (Nat.mul b 101) a) xs = hDs xs := by
  induction xs with
  | nil => rfl
  | cons x r ih =>
    show Nat.add (Nat.mul (D.rec_1 (motive_1 := fun _ => Nat) (motive_2 := fun _ => Nat) _ _ _ _ _ _ _ _ _ _ _ _ r) 101) (hD x) = _
    rw [ih]; rfl
mutual
theorem hD_is : ∀ (x : D) (k : NestedKey), skOf x = some k → hD x = hK k
  | .non, k, h => by simp [skOf] at h; subst h; rw [hK]; rfl
  | .bl b, k, h => by simp [skOf] at h; subst h; rw [hK]; cases b <;> rfl
  | .int i, k, h => by simp [skOf] at h; subst h; rw [hK]; rfl
  | .str i, k, h => by simp [skOf] at h; subst h; rw [hK]; rfl
  | .tup xs, k, h => by
    simp only [skOf, Option.map_eq_some_iff] at h
    obtain ⟨ks, e, rfl⟩ := h
    rw [hK]
    exact (hD_l xs).trans (hDs_is xs ks e)
  | .lst _, k, h => by simp [skOf] at h
  | .dct _ _, k, h => by simp [skOf] at h
  | .ob _, k, h => by simp [skOf] at h
  | .adr _, k, h => by simp [skOf] at h
  | .ty _, k, h => by simp [skOf] at h
theorem hDs_is : ∀ (x : List D) (k : List NestedKey), skOfs x = some k → hDs x = hKs k
  | [], k, h => by simp [skOfs] at h; subst h; rw [hKs]; rfl
  | x :: xs, k, h => by
    simp only [skOfs] at h
    split at h
    · rename_i k1 ks e1 e2
      cases h
      rw [hKs, ← hD_is x k1 e1, ← hDs_is xs ks e2]; rfl
    · cases h
end
def sameX (x y : D) : Bool := Bool.rec (motive := fun _ => Bool) false (eqX x y) (Nat.beq (hD x) (hD y))
theorem sameX_is {x y : D} {k : NestedKey} (h : skOf y = some k) : sameX x y = decide (skOf x = some k) := by
  unfold sameX
  rw [beq_def, eqX_is]
  have q := eqD_key x y k h
  by_cases e : skOf x = some k
  · rw [decide_eq_true e, hD_is x k e, hD_is y k h, decide_eq_true rfl]
    exact q.mpr e
  · rw [decide_eq_false e]
    cases decide (hD x = hD y) with
    | false => rfl
    | true =>
      show eqD x y = false
      cases e' : eqD x y with
      | false => rfl
      | true => exact absurd (q.mp e') e
/-! ### fit to be a key -/
def keyX (d : D) : Nat → Bool := D.rec (motive_1 := fun _ => Nat → Bool) (motive_2 := fun _ => Nat → Bool) (fun _ => true) (fun _ _ => true) (fun _ _ => true) (fun _ _ => true)
  (fun _ ih n => Nat.rec (motive := fun _ => Bool) false (fun m _ => ih m) n) (fun _ _ _ => false) (fun _ _ _ _ _ => false) (fun _ _ => false) (fun _ _ => false) (fun _ _ => false)
  (fun _ => true) (fun _ _ ih1 ih2 n => Bool.rec (motive := fun _ => Bool) false (ih2 n) (ih1 n)) d
def keyXs (xs : List D) (n : Nat) : Bool := List.rec (motive := fun _ => Bool) true (fun x _ ih => Bool.rec (motive := fun _ => Bool) false ih (keyX x n)) xs
theorem keyX_l (xs : List D) (n : Nat) : D.rec_1 (motive_1 := fun _ => Nat → Bool) (motive_2 := fun _ => Nat → Bool) (fun _ => true) (fun _ _ => true) (fun _ _ => true) (fun _ _ => true)
  (fun _ ih n => Nat.rec (motive := fun _ => Bool) false (fun m _ => ih m) n) (fun _ _ _ => false) (fun _ _ _ _ _ => false) (fun _ _ => false) (fun _ _ => false) (fun _ _ => false)
  (fun _ => true) (fun _ _ ih1 ih2 n => Bool.rec (motive := fun _ => Bool) false (ih2 n) (ih1 n)) xs n = keyXs xs n := by
  induction xs with
  | nil => rfl
  | cons x r ih =>
    show Bool.rec (motive := fun _ => Bool) false (D.rec_1 (motive_1 := fun _ => Nat → Bool) (motive_2 := fun _ => Nat → Bool) _ _ _ _ _ _ _ _ _ _ _ _ r n) (keyX x n) = _
    rw [ih]; rfl
mutual
theorem keyX_ok : ∀ (x : D) (n : Nat), keyX x n = true → ∃ k, skOf x = some k ∧ k.depth ≤ n
  | .non, n, _ => ⟨_, rfl, Nat.zero_le _⟩
  | .bl _, n, _ => ⟨_, rfl, Nat.zero_le _⟩
  | .int _, n, _ => ⟨_, rfl, Nat.zero_le _⟩
  | .str x, n, h => ⟨_, rfl, Nat.zero_le _⟩
  | .tup xs, 0, h => nomatch h
  | .tup xs, n + 1, h => by
    have h : keyXs xs n = true := (keyX_l xs n).symm.trans h
    obtain ⟨ks, e, d⟩ := keyXs_ok xs n h
    refine ⟨.tup ks, by simp [skOf, e], ?_⟩
    rw [NestedKey.depth]; omega
  | .lst xs, _, h => nomatch h
  | .dct _ _, _, h => nomatch h
  | .ob _, _, h => nomatch h
  | .adr _, _, h => nomatch h
  | .ty _, _, h => nomatch h
theorem keyXs_ok : ∀ (xs : List D) (n : Nat), keyXs xs n = true → ∃ ks, skOfs xs = some ks ∧ NestedKey.depthAll ks ≤ n
  | [], _, _ => ⟨[], rfl, by rw [NestedKey.depthAll]; exact Nat.zero_le _⟩
  | x :: xs, n, h => by
    have h : Bool.rec (motive := fun _ => Bool) false (keyXs xs n) (keyX x n) = true := h
    cases e : keyX x n with
    | false => rw [e] at h; cases h
    | true =>
      rw [e] at h
      obtain ⟨k, e1, d1⟩ := keyX_ok x n e
      obtain ⟨ks, e2, d2⟩ := keyXs_ok xs n h
      refine ⟨k :: ks, by simp [skOfs, e1, e2], ?_⟩
      rw [NestedKey.depthAll]; omega
end
/-- a tuple that is a key -/
def isKey (d : D) : Bool := cTu d fun xs => keyXs xs 7
theorem isKey_ok {d : D} (h : isKey d = true) : ∃ k, keyT d k := by
  cases d with
  | tup xs =>
    obtain ⟨ks, e, dp⟩ := keyXs_ok xs 7 (show keyXs xs 7 = true from h)
    exact ⟨.tup ks, by simp [skOf, e], by rw [NestedKey.depth]; omega, xs, rfl⟩
  | _ => exact nomatch h
/-! ### looking up, storing -/
def lookX (ks vs : List D) (y : D) : Option D := List.rec (motive := fun _ => List D → Option D) (fun _ => none) (fun k _ ih vs => List.rec (motive := fun _ => Option D) none (fun v r _ => Bool.rec (motive := fun _ => Option D) (ih r) (some v) (sameX k y)) vs) ks vs
theorem lookX_is {y : D} {k : NestedKey} (h : skOf y = some k) : ∀ ks vs, lookX ks vs y = lookD ks vs k
  | [], _ => by show (none : Option D) = _; simp [lookD]
  | _ :: _, [] => by show (none : Option D) = _; simp [lookD]
  | k' :: ks, v :: vs => by
    show Bool.rec (motive := fun _ => Option D) (lookX ks vs y) (some v) (sameX k' y) = _
    rw [lookD, sameX_is h, lookX_is h ks vs]
    by_cases e : skOf k' = some k
    · rw [decide_eq_true e, if_pos e]
    · rw [decide_eq_false e, if_neg e]
def putX (ks vs : List D) (y v : D) (k : List D → List D → An) : An :=
  List.rec (motive := fun _ => List D → (List D → List D → An) → An) (fun _ k => k [y] [v]) (fun k0 kr ih vs k => List.rec (motive := fun _ => An) (k [y] [v]) (fun v0 vr _ => Bool.rec (motive := fun _ => An) (ih vr fun ks' vs' => k (k0 :: ks') (v0 :: vs')) (k (k0 :: kr) (v :: vr)) (sameX k0 y)) vs) ks vs k
theorem putX_is {y v : D} {k : NestedKey} (h : skOf y = some k) : ∀ ks vs c, putX ks vs y v c = c (putD ks vs k y v).1 (putD ks vs k y v).2
  | [], _, c => by show c [y] [v] = _; simp [putD]
  | _ :: _, [], c => by show c [y] [v] = _; simp [putD]
  | k' :: ks, v' :: vs, c => by
    show Bool.rec (motive := fun _ => An) (putX ks vs y v fun ks' vs' => c (k' :: ks') (v' :: vs')) (c (k' :: ks) (v :: vs)) (sameX k' y) = _
    rw [putD, sameX_is h, putX_is h ks vs]
    by_cases e : skOf k' = some k
    · rw [decide_eq_true e, if_pos e]
    · rw [decide_eq_false e, if_neg e]
/-! ### operations -/
def isSm {α : Type} (o : Option α) : Bool := Option.rec (motive := fun _ => Bool) false (fun _ => true) o
theorem isSm_is {α : Type} (o : Option α) : isSm o = o.isSome := by cases o <;> rfl
def opK {α : Type} (o : Option α) (k : α → An) : An := Option.rec (motive := fun _ => An) none k o
theorem opK_ok {α : Type} {o : Option α} {k : α → An} {a : D} (h : opK o k = some a) : ∃ x, o = some x ∧ k x = some a := by
  cases o with
  | none => exact nomatch h
  | some x => exact ⟨x, rfl, h⟩
def xDix : xO2 := fun x y s k => dctX x s fun ks vs => ifB (isKey y) (opK (lookX ks vs y) fun d => k d s)
theorem so_dix : SO2 oDix xDix := by
  refine ⟨fun {p q L s k a R} al hk he => ?_⟩
  obtain ⟨ks, vs, e1, he⟩ := dctX_ok al he
  obtain ⟨h1, he⟩ := ifB_ok he
  obtain ⟨kk, hkk⟩ := isKey_ok h1
  obtain ⟨d, e2, he⟩ := opK_ok he
  rw [lookX_is hkk.1] at e2
  exact ⟨ks, vs, kk, d, e1, hkk, e2, hk _ L s al he⟩
def xDin (neg : Bool) : xO2 := fun x y s k => dctX y s fun ks vs => ifB (isKey x) (fB (Bool.rec (motive := fun _ => Bool) (isSm (lookX ks vs x)) (Bool.not (isSm (lookX ks vs x))) neg) fun d => k d s)
theorem so_din (neg : Bool) : SO2 (oDin neg) (xDin neg) := by
  refine ⟨fun {p q L s k a R} al hk he => ?_⟩
  obtain ⟨ks, vs, e1, he⟩ := dctX_ok al he
  obtain ⟨h1, he⟩ := ifB_ok he
  obtain ⟨kk, hkk⟩ := isKey_ok h1
  rw [fB_is, lookX_is hkk.1, isSm_is] at he
  refine ⟨ks, vs, kk, e1, hkk, ?_⟩
  cases neg <;> exact hk _ L s al he
def viewX (d : D) (s : Xs) (k : D → An) : An := D.rec (motive_1 := fun _ => An) (motive_2 := fun _ => Unit) (k .non) (fun b => k (.bl b)) (fun i => k (.int i)) (fun x => k (.str x)) (fun xs _ => k (.tup xs)) (fun xs _ => k (.lst xs)) (fun ks vs _ _ => k (.dct ks vs)) (fun n => oLstK (getT s.t n) fun xs => k (.lst xs)) (fun _ => none) (fun _ => none) () (fun _ _ _ _ => ()) d
theorem viewX_ok {d : D} {s : Xs} {k} {a : D} {L : Sto} (ag : AgL L s) (h : viewX d s k = some a) : k (view L d) = some a := by
  cases d with
  | ob n =>
    obtain ⟨xs, e, h⟩ := oLstK_ok h
    simpa [view, ag.2 _ _ e] using h
  | adr _ => exact nomatch h
  | ty _ => exact nomatch h
  | _ => exact h
def xEq : xO2 := fun x y s k => viewX x s fun x => viewX y s fun y => ifB (fitX x 30) (ifB (fitX y 30) (fB (eqX x y) fun d => k d s))
def xNe : xO2 := fun x y s k => viewX x s fun x => viewX y s fun y => ifB (fitX x 30) (ifB (fitX y 30) (fB (Bool.not (eqX x y)) fun d => k d s))
theorem fitD_up {n m : Nat} (h : n ≤ m) : ∀ {d : D}, fitD n d = true → fitD m d = true := by
  intro d
  induction m generalizing n d with
  | zero =>
    have e : n = 0 := by omega
    subst e
    exact id
  | succ m ih =>
    intro f
    cases d with
    | tup xs =>
      obtain ⟨j, rfl, g⟩ := fitD_tup f
      rw [fitD, List.all_eq_true]
      exact fun x hx => ih (by omega) (g x hx)
    | lst xs =>
      obtain ⟨j, rfl, g⟩ := fitD_lst f
      rw [fitD, List.all_eq_true]
      exact fun x hx => ih (by omega) (g x hx)
    | str x => cases n <;> simpa [fitD] using f
    | _ => cases n <;> simp [fitD] at f ⊢
theorem fit40 {d : D} (h : fitX d 30 = true) : fitD deepest d = true := fitD_up (by decide) (fitX_ok d 30 h)
theorem so_eq : SO2 oEq xEq := by
  refine ⟨fun {p q L s k a R} al hk he => ?_⟩
  replace he := viewX_ok al he
  replace he := viewX_ok al he
  obtain ⟨h1, he⟩ := ifB_ok he
  obtain ⟨h2, he⟩ := ifB_ok he
  rw [fB_is, eqX_is] at he
  exact ⟨fit40 h1, fit40 h2, hk _ L s al he⟩
theorem so_ne : SO2 oNe xNe := by
  refine ⟨fun {p q L s k a R} al hk he => ?_⟩
  replace he := viewX_ok al he
  replace he := viewX_ok al he
  obtain ⟨h1, he⟩ := ifB_ok he
  obtain ⟨h2, he⟩ := ifB_ok he
  rw [fB_is, eqX_is] at he
  exact ⟨fit40 h1, fit40 h2, hk _ L s al he⟩
/-- in a sequence -/
def inX (x : D) (ys : List D) : Bool := List.rec (motive := fun _ => Bool) false (fun y _ ih => Bool.rec (motive := fun _ => Bool) ih true (eqX y x)) ys
theorem inX_is (x : D) (ys : List D) : inX x ys = inD x ys := by
  induction ys with
  | nil => rfl
  | cons y r ih =>
    show Bool.rec (motive := fun _ => Bool) (inX x r) true (eqX y x) = _
    rw [ih, eqX_is]
    show _ = (eqD y x || inD x r)
    cases eqD y x <;> rfl
theorem fitXs40 {xs : List D} (h : fitXs xs 30 = true) : xs.all (fitD deepest) = true := by
  have := fitXs_ok xs 30 h
  rw [List.all_eq_true] at this ⊢
  exact fun x hx => fitD_up (by decide) (this x hx)
def xIn : xO2 := fun x y s k => seqX y s fun ys => viewX x s fun x => ifB (fitX x 30) (ifB (fitXs ys 30) (fB (inX x ys) fun d => k d s))
def xNotIn : xO2 := fun x y s k => seqX y s fun ys => viewX x s fun x => ifB (fitX x 30) (ifB (fitXs ys 30) (fB (Bool.not (inX x ys)) fun d => k d s))
theorem so_in : SO2 oIn xIn := by
  refine ⟨fun {p q L s k a R} al hk he => ?_⟩
  obtain ⟨ys, e, he⟩ := seqX_ok al he
  replace he := viewX_ok al he
  obtain ⟨h1, he⟩ := ifB_ok he
  obtain ⟨h2, he⟩ := ifB_ok he
  rw [fB_is, inX_is] at he
  unfold oIn
  rw [e]
  exact ⟨fit40 h1, fitXs40 h2, hk _ L s al he⟩
theorem so_notIn : SO2 oNotIn xNotIn := by
  refine ⟨fun {p q L s k a R} al hk he => ?_⟩
  obtain ⟨ys, e, he⟩ := seqX_ok al he
  replace he := viewX_ok al he
  obtain ⟨h1, he⟩ := ifB_ok he
  obtain ⟨h2, he⟩ := ifB_ok he
  rw [fB_is, inX_is] at he
  unfold oNotIn
  rw [e]
  exact ⟨fit40 h1, fitXs40 h2, hk _ L s al he⟩
/-- subscripts -/
def atX (xs : List D) (i : Int) : Option D := Int.rec (motive := fun _ => Option D) (fun n => nthX xs n) (fun n => Bool.rec (motive := fun _ => Option D) none (nthX xs (Nat.sub (Nat.sub (lenN xs) 1) n)) (Nat.ble (Nat.succ n) (lenN xs))) i
theorem atX_is (xs : List D) (i : Int) : atX xs i = atD xs i := by
  cases i with
  | ofNat n => exact nthX_is xs n
  | negSucc n =>
    show Bool.rec (motive := fun _ => Option D) none (nthX xs (lenN xs - 1 - n)) (Nat.ble (n + 1) (lenN xs)) = _
    rw [ble_def, nthX_is, lenN_is, atD]
    by_cases h : n < xs.length
    · rw [decide_eq_true (show n + 1 ≤ xs.length from h), if_pos h]
    · rw [decide_eq_false (show ¬ n + 1 ≤ xs.length from h), if_neg h]
def xIx : xO2 := fun x y s k => seqX x s fun xs => dInt y fun i => opK (atX xs i) fun d => k d s
theorem so_ix : SO2 oIx xIx := by
  refine ⟨fun {p q L s k a R} al hk he => ?_⟩
  obtain ⟨xs, e, h1⟩ := seqX_ok al he
  obtain ⟨i, rfl, h2⟩ := dInt_ok h1
  obtain ⟨d, e2, h3⟩ := opK_ok h2
  rw [atX_is] at e2
  show match seqOf L p with | some xs => (match atD xs i with | some v => R v L | none => False) | none => False
  rw [e]
  show match atD xs i with | some v => R v L | none => False
  rw [e2]
  exact hk _ L s al h3
/-- is None -/
def isNX (d : D) : Bool := cNo d
theorem isNX_is (d : D) : isNX d = isN d := by cases d <;> rfl
def xIsN : xO2 := fun x y s k => dNon y (fB (isNX x) fun d => k d s)
def xNotN : xO2 := fun x y s k => dNon y (fB (Bool.not (isNX x)) fun d => k d s)
theorem so_isN : SO2 oIsN xIsN := by
  refine ⟨fun {p q L s k a R} al hk he => ?_⟩
  obtain ⟨rfl, h1⟩ := dNon_ok he
  rw [fB_is, isNX_is] at h1
  exact hk _ L s al h1
theorem so_notN : SO2 oNotN xNotN := by
  refine ⟨fun {p q L s k a R} al hk he => ?_⟩
  obtain ⟨rfl, h1⟩ := dNon_ok he
  rw [fB_is, isNX_is] at h1
  exact hk _ L s al h1
def xNeg : xO1 := fun x s k => dInt x fun i => fI (negI i) fun d => k d s
theorem so_neg : SO1 oNeg xNeg := by
  refine ⟨fun {p L s k a R} al hk he => ?_⟩
  obtain ⟨i, rfl, h1⟩ := dInt_ok he
  rw [fI_is, negI_is] at h1
  exact hk _ L s al h1
end
end L2.DL

set_option Elab.async false
set_option linter.all false
set_option maxRecDepth 100000
/-! EH: tests, argument lists, displays, built-ins, calls that run. -/
namespace L2.DL
open PySem PySem.Spec PyProof.Rows
noncomputable section
def br {α : Type} (b : Bool) (x y : Option α) : Option α := Bool.rec (motive := fun _ => Option α) y x b
theorem br_ok {α : Type} {b : Bool} {x y : Option α} {a : α} (h : br b x y = some a) : (b = true ∧ x = some a) ∨ (b = false ∧ y = some a) := by
  cases b with
  | true => exact .inl ⟨rfl, h⟩
  | false => exact .inr ⟨rfl, h⟩
/-! ### tests -/
def tbX (e : xE) : xT := fun r s k => e r s fun d s1 => dBl d fun b => k b s1
theorem st_b {N : Nat} {t : tE} {e : xE} (h : SE N t e) : ST N (tTB t) (tbX e) := by
  refine ⟨fun {ρ L r s k a R} ag al hk he => ?_⟩
  refine h.ok ag al (fun d L1 s1 al1 h1 => ?_) he
  obtain ⟨b, rfl, h2⟩ := dBl_ok h1
  exact hk b L1 s1 al1 h2
def nilX (xs : List D) : Bool := List.rec (motive := fun _ => Bool) true (fun _ _ _ => false) xs
theorem nilX_is (xs : List D) : nilX xs = xs.isEmpty := by cases xs <;> rfl
def truX (d : D) (s : Xs) (k : Bool → An) : An := D.rec (motive_1 := fun _ => An) (motive_2 := fun _ => Unit) (k false) k (fun i => k (Bool.not (eqI i (.ofNat 0)))) (fun _ => none) (fun xs _ => k (Bool.not (nilX xs))) (fun xs _ => k (Bool.not (nilX xs))) (fun _ _ _ _ => none) (fun n => oLstK (getT s.t n) fun xs => k (Bool.not (nilX xs))) (fun _ => none) (fun _ => none) () (fun _ _ _ _ => ()) d
theorem truX_ok {d : D} {s : Xs} {k : Bool → An} {a : D} {L : Sto} {R : QT} (al : AgL L s) (h : truX d s k = some a) (hk : ∀ b, k b = some a → R b L) : truD L d R := by
  cases d with
  | non => exact hk _ h
  | bl b => exact hk _ h
  | int i =>
    have h : k (!eqI i 0) = some a := h
    rw [eqI_is] at h
    have e : (!decide (i = 0)) = (i != 0) := by by_cases z : i = 0 <;> simp [z]
    rw [e] at h
    exact hk _ h
  | tup xs => exact hk _ (by rw [← nilX_is]; exact h)
  | lst xs => exact hk _ (by rw [← nilX_is]; exact h)
  | ob n =>
    obtain ⟨xs, e, h1⟩ := oLstK_ok (show oLstK (getT s.t n) (fun xs => k (Bool.not (nilX xs))) = some a from h)
    have g := hk _ h1
    rw [nilX_is] at g
    simpa [truD, view, al.2 _ _ e] using g
  | _ => exact nomatch h
def ttX (e : xE) : xT := fun r s k => e r s fun d s1 => truX d s1 fun b => k b s1
theorem st_tru {N : Nat} {t : tE} {e : xE} (h : SE N t e) : ST N (tTru t) (ttX e) := by
  refine ⟨fun {ρ L r s k a R} ag al hk he => ?_⟩
  exact h.ok ag al (fun d L1 s1 al1 h1 => truX_ok al1 h1 fun b h2 => hk b L1 s1 al1 h2) he
def tnX (t : xT) : xT := fun r s k => t r s fun b s1 => k (Bool.not b) s1
theorem st_not {N : Nat} {t : tT} {e : xT} (h : ST N t e) : ST N (tNt t) (tnX e) :=
  ⟨fun ag al hk he => h.ok ag al (fun d L1 s1 al1 h1 => hk _ L1 s1 al1 h1) he⟩
def taX (t u : xT) : xT := fun r s k => t r s fun b s1 => br b (u r s1 k) (k false s1)
def toX (t u : xT) : xT := fun r s k => t r s fun b s1 => br b (k true s1) (u r s1 k)
theorem st_and {N : Nat} {t u : tT} {e f : xT} (h : ST N t e) (g : ST N u f) : ST N (tAn t u) (taX e f) := by
  refine ⟨fun {ρ L r s k a R} ag al hk he => h.ok ag al (fun b L1 s1 al1 h1 => ?_) he⟩
  rcases br_ok h1 with ⟨rfl, h1⟩ | ⟨rfl, h1⟩
  · rw [if_pos rfl]; exact g.ok ag al1 hk h1
  · rw [if_neg Bool.false_ne_true]; exact hk false L1 s1 al1 h1
theorem st_or {N : Nat} {t u : tT} {e f : xT} (h : ST N t e) (g : ST N u f) : ST N (tOr t u) (toX e f) := by
  refine ⟨fun {ρ L r s k a R} ag al hk he => h.ok ag al (fun b L1 s1 al1 h1 => ?_) he⟩
  rcases br_ok h1 with ⟨rfl, h1⟩ | ⟨rfl, h1⟩
  · rw [if_pos rfl]; exact hk true L1 s1 al1 h1
  · rw [if_neg Bool.false_ne_true]; exact g.ok ag al1 hk h1
def nvX (e : xE) : xE := fun r s k => e r s fun d s1 => truX d s1 fun b => fB (Bool.not b) fun d => k d s1
theorem se_not {N : Nat} {t : tE} {e : xE} (h : SE N t e) : SE N (tNtV t) (nvX e) := by
  refine ⟨fun {ρ L r s k a R} ag al hk he => ?_⟩
  exact h.ok ag al (fun d L1 s1 al1 h1 => truX_ok al1 h1 fun b h2 => hk _ L1 s1 al1 (by rw [fB_is] at h2; exact h2)) he
def avX (t u : xE) : xE := fun r s k => t r s fun x s1 => truX x s1 fun b => br b (u r s1 k) (k x s1)
def ovX (t u : xE) : xE := fun r s k => t r s fun x s1 => truX x s1 fun b => br b (k x s1) (u r s1 k)
theorem se_and {N : Nat} {t u : tE} {e f : xE} (h : SE N t e) (g : SE N u f) : SE N (tAnV t u) (avX e f) := by
  refine ⟨fun {ρ L r s k a R} ag al hk he => h.ok ag al (fun x L1 s1 al1 h1 => truX_ok al1 h1 fun b h2 => ?_) he⟩
  rcases br_ok h2 with ⟨rfl, h2⟩ | ⟨rfl, h2⟩
  · rw [if_pos rfl]; exact g.ok ag al1 hk h2
  · rw [if_neg Bool.false_ne_true]; exact hk x L1 s1 al1 h2
theorem se_or {N : Nat} {t u : tE} {e f : xE} (h : SE N t e) (g : SE N u f) : SE N (tOrV t u) (ovX e f) := by
  refine ⟨fun {ρ L r s k a R} ag al hk he => h.ok ag al (fun x L1 s1 al1 h1 => truX_ok al1 h1 fun b h2 => ?_) he⟩
  rcases br_ok h2 with ⟨rfl, h2⟩ | ⟨rfl, h2⟩
  · rw [if_pos rfl]; exact hk x L1 s1 al1 h2
  · rw [if_neg Bool.false_ne_true]; exact g.ok ag al1 hk h2
def ifX (t : xT) (u v : xE) : xE := fun r s k => t r s fun b s1 => br b (u r s1 k) (v r s1 k)
theorem se_if {N : Nat} {t : tT} {u v : tE} {e : xT} {f g : xE} (h : ST N t e) (hf : SE N u f) (hg : SE N v g) : SE N (tIfE t u v) (ifX e f g) := by
  refine ⟨fun {ρ L r s k a R} ag al hk he => h.ok ag al (fun b L1 s1 al1 h1 => ?_) he⟩
  rcases br_ok h1 with ⟨rfl, h1⟩ | ⟨rfl, h1⟩
  · rw [if_pos rfl]; exact hf.ok ag al1 hk h1
  · rw [if_neg Bool.false_ne_true]; exact hg.ok ag al1 hk h1
def chX (o o' : xO2) (a b c : xE) : xE := fun r s k => a r s fun x s1 => b r s1 fun y s2 => o x y s2 fun z s3 => dBl z fun w => br w (c r s3 fun z s4 => o' y z s4 k) (k (.bl false) s3)
theorem tCh_def (o o' : O2) (ta tb tc : tE) (ρ : En) (L : Sto) (R : QE) : tCh o o' ta tb tc ρ L R = ta ρ L fun x L1 => tb ρ L1 fun y L2 => o x y L2 (chQ o' tc ρ y R) := rfl
theorem se_ch {N : Nat} {o o' : O2} {x x' : xO2} {ta tb tc : tE} {a b c : xE} (ho : SO2 o x) (ho' : SO2 o' x') (ha : SE N ta a) (hb : SE N tb b) (hc : SE N tc c) : SE N (tCh o o' ta tb tc) (chX x x' a b c) := by
  refine ⟨fun {ρ L r s k z R} ag al hk he => ?_⟩
  rw [tCh_def]
  refine ha.ok ag al (fun p L1 s1 al1 h1 => hb.ok ag al1 (fun q L2 s2 al2 h2 => ho.ok al2 (fun w L3 s3 al3 h3 => ?_) h2) h1) he
  obtain ⟨bb, rfl, h4⟩ := dBl_ok h3
  rcases br_ok h4 with ⟨rfl, h4⟩ | ⟨rfl, h4⟩
  · exact hc.ok ag al3 (fun v L4 s4 al4 h5 => ho'.ok al4 hk h5) h4
  · exact hk _ L3 s3 al3 h4
/-! ### argument lists -/
def nilA : xA := fun _ s k => k [] s
def consA (e : xE) (t : xA) : xA := fun r s k => e r s fun x s1 => t r s1 fun xs s2 => k (x :: xs) s2
theorem sa_nil {N : Nat} : SA N 0 tNilA nilA := ⟨fun ag al hk he => hk [] _ _ rfl al he⟩
theorem sa_cons {N m : Nat} {t : tE} {u : tA} {e : xE} {f : xA} (h : SE N t e) (g : SA N m u f) : SA N (m + 1) (tConsA t u) (consA e f) :=
  ⟨fun ag al hk he => h.ok ag al (fun x L1 s1 al1 h1 => g.ok ag al1 (fun xs L2 s2 hl al2 h2 => hk (x :: xs) L2 s2 (by rw [List.length_cons, hl]) al2 h2) h1) he⟩
def tupX (t : xA) : xE := fun r s k => t r s fun xs s1 => k (.tup xs) s1
def lstX' (t : xA) : xE := fun r s k => t r s fun xs s1 => k (.lst xs) s1
def lstOX (t : xA) : xE := fun r s k => t r s fun xs s1 => newX (.lst xs) s1 k
theorem se_tup {N m : Nat} {t : tA} {e : xA} (h : SA N m t e) (hm : m ≤ sizeLine := by decide) : SE N (tTupD t) (tupX e) :=
  ⟨fun ag al hk he => h.ok ag al (fun xs L1 s1 hl al1 h1 => ⟨by rw [hl]; exact hm, hk _ L1 s1 al1 h1⟩) he⟩
theorem se_lst {N m : Nat} {t : tA} {e : xA} (h : SA N m t e) (hm : m ≤ sizeLine := by decide) : SE N (tLstD t) (lstX' e) :=
  ⟨fun ag al hk he => h.ok ag al (fun xs L1 s1 hl al1 h1 => ⟨by rw [hl]; exact hm, hk _ L1 s1 al1 h1⟩) he⟩
theorem se_lstO {N m : Nat} {t : tA} {e : xA} (h : SA N m t e) (hm : m ≤ sizeLine := by decide) : SE N (tLstO t) (lstOX e) :=
  ⟨fun ag al hk he => h.ok ag al (fun xs L1 s1 hl al1 h1 => ⟨by rw [hl]; exact hm, by
    obtain ⟨s2, h2, al2⟩ := newX_ok h1 al1
    exact hk _ _ s2 al2 h2⟩) he⟩
def dicOX : xE := fun r s k => newX (.dct [] []) s k
theorem se_dicO {N : Nat} : SE N tDicO dicOX :=
  ⟨fun ag al hk he => by
    obtain ⟨s2, h2, al2⟩ := newX_ok he al
    exact hk _ _ s2 al2 h2⟩
/-! ### built-ins -/
def caX (o : xOA) (t : xA) : xE := fun r s k => t r s fun xs s1 => o xs s1 k
theorem se_ca {N m : Nat} {o : OA} {x : xOA} {t : tA} {e : xA} (ho : SOA o x) (h : SA N m t e) : SE N (tCa o t) (caX x e) :=
  ⟨fun ag al hk he => h.ok ag al (fun xs L1 s1 hl al1 h1 => ho.ok al1 hk h1) he⟩
def oneA (ds : List D) (k : D → An) : An := List.rec (motive := fun _ => An) none (fun d r _ => List.rec (motive := fun _ => An) (k d) (fun _ _ _ => none) r) ds
theorem oneA_ok {ds : List D} {k : D → An} {a : D} (h : oneA ds k = some a) : ∃ d, ds = [d] ∧ k d = some a := by
  cases ds with
  | nil => exact nomatch h
  | cons d r =>
    cases r with
    | nil => exact ⟨d, rfl, h⟩
    | cons _ _ => exact nomatch h
def twoA (ds : List D) (k : D → D → An) : An := List.rec (motive := fun _ => An) none (fun d r _ => List.rec (motive := fun _ => An) none (fun e r _ => List.rec (motive := fun _ => An) (k d e) (fun _ _ _ => none) r) r) ds
theorem twoA_ok {ds : List D} {k : D → D → An} {a : D} (h : twoA ds k = some a) : ∃ d e, ds = [d, e] ∧ k d e = some a := by
  cases ds with
  | nil => exact nomatch h
  | cons d r =>
    cases r with
    | nil => exact nomatch h
    | cons e r =>
      cases r with
      | nil => exact ⟨d, e, rfl, h⟩
      | cons _ _ => exact nomatch h
def threeA (ds : List D) (k : D → D → D → An) : An := List.rec (motive := fun _ => An) none (fun d r _ => List.rec (motive := fun _ => An) none (fun e r _ => List.rec (motive := fun _ => An) none (fun f r _ => List.rec (motive := fun _ => An) (k d e f) (fun _ _ _ => none) r) r) r) ds
theorem threeA_ok {ds : List D} {k : D → D → D → An} {a : D} (h : threeA ds k = some a) : ∃ d e f, ds = [d, e, f] ∧ k d e f = some a := by
  cases ds with
  | nil => exact nomatch h
  | cons d r =>
    cases r with
    | nil => exact nomatch h
    | cons e r =>
      cases r with
      | nil => exact nomatch h
      | cons f r =>
        cases r with
        | nil => exact ⟨d, e, f, rfl, h⟩
        | cons _ _ => exact nomatch h
def xLen : xOA := fun ds s k => oneA ds fun d => seqX d s fun xs => fI (.ofNat (lenN xs)) fun d => k d s
theorem so_len : SOA cLen xLen := by
  refine ⟨fun {ds L s k a R} al hk he => ?_⟩
  obtain ⟨d, rfl, h1⟩ := oneA_ok he
  obtain ⟨xs, e, h2⟩ := seqX_ok al h1
  rw [fI_is, lenN_is] at h2
  have g := hk _ L s al h2
  unfold seqOf at e
  show lenD L d R
  unfold lenD
  split at e
  · rename_i q; cases e; rw [q]; exact g
  · rename_i q; cases e; rw [q]; exact g
  · cases e
def xLenK : xOA := fun ds s k => oneA ds fun d => dctX d s fun ks vs => fI (.ofNat (lenN ks)) fun d => k d s
theorem so_lenK : SOA cLenK xLenK := by
  refine ⟨fun {ds L s k a R} al hk he => ?_⟩
  obtain ⟨d, rfl, h1⟩ := oneA_ok he
  obtain ⟨ks, vs, e, h2⟩ := dctX_ok al h1
  rw [fI_is, lenN_is] at h2
  exact ⟨ks, vs, e, hk _ L s al h2⟩
def xInt : xOA := fun ds s k => oneA ds fun d => D.rec (motive_1 := fun _ => An) (motive_2 := fun _ => Unit) none (fun b => br b (k (.int (.ofNat 1)) s) (k (.int (.ofNat 0)) s)) (fun i => k (.int i) s) (fun _ => none) (fun _ _ => none) (fun _ _ => none) (fun _ _ _ _ => none) (fun _ => none) (fun _ => none) (fun _ => none) () (fun _ _ _ _ => ()) d
theorem so_int : SOA cInt xInt := by
  refine ⟨fun {ds L s k a R} al hk he => ?_⟩
  obtain ⟨d, rfl, h1⟩ := oneA_ok he
  cases d with
  | bl b =>
    rcases br_ok (show br b (k (.int (.ofNat 1)) s) (k (.int (.ofNat 0)) s) = some a from h1) with ⟨rfl, h2⟩ | ⟨rfl, h2⟩
    · exact hk _ L s al h2
    · exact hk _ L s al h2
  | int i => exact hk _ L s al h1
  | _ => exact nomatch h1
def xAbs : xOA := fun ds s k => oneA ds fun d => dInt d fun i => fI (Bool.rec (motive := fun _ => Int) (negI i) i (leI (.ofNat 0) i)) fun d => k d s
theorem so_abs : SOA cAbs xAbs := by
  refine ⟨fun {ds L s k a R} al hk he => ?_⟩
  obtain ⟨d, rfl, h1⟩ := oneA_ok he
  obtain ⟨i, rfl, h2⟩ := dInt_ok h1
  rw [fI_is, leI_is, negI_is] at h2
  refine hk _ L s al ?_
  by_cases h : i < 0
  · rw [decide_eq_false (show ¬ (Int.ofNat 0 ≤ i) by simpa using h)] at h2
    rw [if_pos h]; exact h2
  · rw [decide_eq_true (show Int.ofNat 0 ≤ i by simpa using h)] at h2
    rw [if_neg h]; exact h2
def xMaxL : xOA := fun ds s k => oneA ds fun d => lstX d s fun xs => opK (intsOf xs) fun is => ifB (Nat.ble 1 (lenN is)) (fI (maxI is) fun d => k d s)
theorem so_maxL : SOA cMaxL xMaxL := by
  refine ⟨fun {ds L s k a R} al hk he => ?_⟩
  obtain ⟨d, rfl, h1⟩ := oneA_ok he
  obtain ⟨xs, e, h2⟩ := lstX_ok al h1
  obtain ⟨is, e2, h3⟩ := opK_ok h2
  obtain ⟨h4, h5⟩ := ifB_ok h3
  rw [fI_is] at h5
  rw [ble_def, lenN_is] at h4
  unfold cMaxL
  dsimp only
  rw [e]
  dsimp only
  rw [e2]
  exact ⟨of_decide_eq_true h4, hk _ L s al h5⟩
def xSum : xOA := fun ds s k => oneA ds fun d => lstX d s fun xs => opK (intsOf xs) fun is => fI is.sum fun d => k d s
theorem so_sum : SOA cSum xSum := by
  refine ⟨fun {ds L s k a R} al hk he => ?_⟩
  obtain ⟨d, rfl, h1⟩ := oneA_ok he
  obtain ⟨xs, e, h2⟩ := lstX_ok al h1
  obtain ⟨is, e2, h3⟩ := opK_ok h2
  rw [fI_is] at h3
  unfold cSum
  dsimp only
  rw [e]
  dsimp only
  rw [e2]
  exact hk _ L s al h3
def xBls (f : List Bool → Bool) : xOA := fun ds s k => oneA ds fun d => lstX d s fun xs => opK (blsOf xs) fun is => fB (f is) fun d => k d s
theorem so_bls (f : List Bool → Bool) : SOA (cBls f) (xBls f) := by
  refine ⟨fun {ds L s k a R} al hk he => ?_⟩
  obtain ⟨d, rfl, h1⟩ := oneA_ok he
  obtain ⟨xs, e, h2⟩ := lstX_ok al h1
  obtain ⟨is, e2, h3⟩ := opK_ok h2
  rw [fB_is] at h3
  unfold cBls
  dsimp only
  rw [e]
  dsimp only
  rw [e2]
  exact hk _ L s al h3
abbrev xAny : xOA := xBls (·.any id)
abbrev xAll : xOA := xBls (·.all id)
theorem so_any : SOA cAny xAny := so_bls _
theorem so_all : SOA cAll xAll := so_bls _
def xTuple : xOA := fun ds s k => oneA ds fun d => seqX d s fun xs => k (.tup xs) s
theorem so_tuple : SOA cTuple xTuple := by
  refine ⟨fun {ds L s k a R} al hk he => ?_⟩
  obtain ⟨d, rfl, h1⟩ := oneA_ok he
  obtain ⟨xs, e, h2⟩ := seqX_ok al h1
  unfold cTuple
  dsimp only
  rw [e]
  exact hk _ L s al h2
def xList : xOA := fun ds s k => oneA ds fun d => seqX d s fun xs => k (.lst xs) s
theorem so_list : SOA cList xList := by
  refine ⟨fun {ds L s k a R} al hk he => ?_⟩
  obtain ⟨d, rfl, h1⟩ := oneA_ok he
  obtain ⟨xs, e, h2⟩ := seqX_ok al h1
  unfold cList
  dsimp only
  rw [e]
  exact hk _ L s al h2
def xListO : xOA := fun ds s k => oneA ds fun d => seqX d s fun xs => newX (.lst xs) s k
theorem so_listO : SOA cListO xListO := by
  refine ⟨fun {ds L s k a R} al hk he => ?_⟩
  obtain ⟨d, rfl, h1⟩ := oneA_ok he
  obtain ⟨xs, e, h2⟩ := seqX_ok al h1
  obtain ⟨s2, h3, al2⟩ := newX_ok h2 al
  unfold cListO
  dsimp only
  rw [e]
  exact hk _ _ s2 al2 h3
/-! ### append -/
def appX (o : xE) (t : xA) : xE := fun r s k => o r s fun d s1 => dOb d fun n => oLstK (getT s1.t n) fun _ => t r s1 fun xs s2 => oneA xs fun y => oLstK (getT s2.t n) fun ys => ifB (fewX ys) (snocK ys y fun zs => setT (.lst zs) 12 s2.t n fun t' => k .non ⟨s2.n, t'⟩)
theorem se_append {N m : Nat} {t : tE} {u : tA} {e : xE} {f : xA} (h : SE N t e) (g : SA N m u f) : SE N (tAppend t u) (appX e f) := by
  refine ⟨fun {ρ L r s k a R} ag al hk he => h.ok ag al (fun d L1 s1 al1 h1 => ?_) he⟩
  obtain ⟨n, rfl, h2⟩ := dOb_ok h1
  obtain ⟨x0, e0, h3⟩ := oLstK_ok h2
  refine ⟨by rw [al1.2 _ _ e0]; rfl, g.ok ag al1 (fun xs L2 s2 _ al2 h4 => ?_) h3⟩
  obtain ⟨y, rfl, h5⟩ := oneA_ok h4
  obtain ⟨ys, e1, h6⟩ := oLstK_ok h5
  obtain ⟨h7, h8⟩ := ifB_ok h6
  rw [snocK_is] at h8
  obtain ⟨t', h9, al3⟩ := al2.set e1 h8
  show match L2[n]? with | some (.lst xs) => xs.length < sizeLine ∧ R .non (L2.set n (.lst (xs ++ [y]))) | _ => False
  rw [al2.2 _ _ e1]
  have := few_ok h7
  exact ⟨by rw [sizeL]; omega, hk _ _ _ al3 h9⟩
/-! ### slices, the other way round -/
def noP : xP := fun _ s k => k none s
def someP (e : xE) : xP := fun r s k => e r s fun d s1 => dInt d fun i => k (some i) s1
theorem sp_no {N : Nat} : SP N tNoP noP := ⟨fun ag al hk he => hk none _ _ al he⟩
theorem sp_some {N : Nat} {t : tE} {e : xE} (h : SE N t e) : SP N (tSomeP t) (someP e) :=
  ⟨fun ag al hk he => h.ok ag al (fun d L1 s1 al1 h1 => by
    obtain ⟨i, rfl, h2⟩ := dInt_ok h1
    exact hk _ L1 s1 al1 h2) he⟩
def forceL (xs : List D) (k : List D → An) : An := List.rec (motive := fun _ => (List D → An) → An) (fun k => k []) (fun x _ ih k => ih fun r => k (x :: r)) xs k
theorem forceL_is : ∀ (xs : List D) (k : List D → An), forceL xs k = k xs
  | [], _ => rfl
  | x :: r, k => by show forceL r (fun r => k (x :: r)) = _; rw [forceL_is r]
def slX (e : xE) (l h : xP) : xE := fun r s k => e r s fun x s1 => l r s1 fun lo s2 => h r s2 fun hi s3 => viewX x s3 fun y => D.rec (motive_1 := fun _ => An) (motive_2 := fun _ => Unit) none (fun _ => none) (fun _ => none) (fun _ => none) (fun xs _ => forceL (cutD xs lo hi) fun ys => k (.tup ys) s3) (fun xs _ => forceL (cutD xs lo hi) fun ys => k (.lst ys) s3) (fun _ _ _ _ => none) (fun _ => none) (fun _ => none) (fun _ => none) () (fun _ _ _ _ => ()) y
theorem se_slice {N : Nat} {t : tE} {tl th : tP} {e : xE} {l h : xP} (he : SE N t e) (hl : SP N tl l) (hh : SP N th h) : SE N (tSlD t tl th) (slX e l h) := by
  refine ⟨fun {ρ L r s k a R} ag al hk h0 => he.ok ag al (fun x L1 s1 al1 h1 => hl.ok ag al1 (fun lo L2 s2 al2 h2 => hh.ok ag al2 (fun hi L3 s3 al3 h3 => ?_) h2) h1) h0⟩
  have h4 := viewX_ok al3 h3
  show match view L3 x with | .lst xs => R (.lst (cutD xs lo hi)) L3 | .tup xs => R (.tup (cutD xs lo hi)) L3 | .str z => z.length ≤ sizeLine ∧ R (.str (cutS z lo hi)) L3 | _ => False
  cases q : view L3 x with
  | tup xs =>
    rw [q] at h4
    exact hk _ L3 s3 al3 (by rw [← forceL_is (cutD xs lo hi) fun ys => k (.tup ys) s3]; exact h4)
  | lst xs =>
    rw [q] at h4
    exact hk _ L3 s3 al3 (by rw [← forceL_is (cutD xs lo hi) fun ys => k (.lst ys) s3]; exact h4)
  | _ => rw [q] at h4; exact nomatch h4
def revK (xs : List D) (k : List D → An) : An := List.rec (motive := fun _ => List D → An) (fun acc => k acc) (fun x _ ih acc => ih (x :: acc)) xs []
theorem revK_is (k : List D → An) : ∀ (xs acc : List D), (List.rec (motive := fun _ => List D → An) (fun acc => k acc) (fun x _ ih acc => ih (x :: acc)) xs acc : An) = k (xs.reverse ++ acc)
  | [], acc => rfl
  | x :: r, acc => by
    show (List.rec (motive := fun _ => List D → An) (fun acc => k acc) (fun x _ ih acc => ih (x :: acc)) r (x :: acc) : An) = _
    rw [revK_is k r, List.reverse_cons, List.append_assoc]; rfl
def revX (e : xE) : xE := fun r s k => e r s fun x s1 => viewX x s1 fun y => D.rec (motive_1 := fun _ => An) (motive_2 := fun _ => Unit) none (fun _ => none) (fun _ => none) (fun _ => none) (fun xs _ => revK xs fun ys => k (.tup ys) s1) (fun xs _ => revK xs fun ys => k (.lst ys) s1) (fun _ _ _ _ => none) (fun _ => none) (fun _ => none) (fun _ => none) () (fun _ _ _ _ => ()) y
theorem se_rev {N : Nat} {t : tE} {e : xE} (he : SE N t e) : SE N (tRev t) (revX e) := by
  refine ⟨fun {ρ L r s k a R} ag al hk h0 => he.ok ag al (fun x L1 s1 al1 h1 => ?_) h0⟩
  have h4 := viewX_ok al1 h1
  show match view L1 x with | .lst xs => R (.lst xs.reverse) L1 | .tup xs => R (.tup xs.reverse) L1 | _ => False
  cases q : view L1 x with
  | tup xs =>
    rw [q] at h4
    have h5 := (revK_is (fun ys => k (.tup ys) s1) xs []).symm.trans h4
    rw [List.append_nil] at h5
    exact hk _ L1 s1 al1 h5
  | lst xs =>
    rw [q] at h4
    have h5 := (revK_is (fun ys => k (.lst ys) s1) xs []).symm.trans h4
    rw [List.append_nil] at h5
    exact hk _ L1 s1 al1 h5
  | _ => rw [q] at h4; exact nomatch h4
/-! ### a small written dict -/
def pickX (cs : List (Str × Int)) (s : Str) : Option Int := List.rec (motive := fun _ => Option Int) none (fun c _ ih => Prod.rec (motive := fun _ => Option Int) (fun a b => Bool.rec (motive := fun _ => Option Int) ih (some b) (eqS s a)) c) cs
theorem pickX_is (s : Str) : ∀ cs, pickX cs s = cs.lookup s
  | [] => rfl
  | (a, b) :: r => by
    show Bool.rec (motive := fun _ => Option Int) (pickX r s) (some b) (eqS s a) = _
    rw [eqS_is, pickX_is s r, List.lookup_cons]
    by_cases h : s = a
    · subst h; simp
    · have : (s == a) = false := by simpa using h
      rw [decide_eq_false h, this]
def dgtX (cs : List (Str × Int)) (ty tx : xE) : xE := fun r s k => ty r s fun y s1 => tx r s1 fun z s2 => dStr y fun x => Option.rec (motive := fun _ => An) (k z s2) (fun i => k (.int i) s2) (pickX cs x)
theorem se_dgt {N : Nat} {cs cs' : List (Str × Int)} {ty tx : tE} {e f : xE} (hc : cs = cs') (h : SE N ty e) (g : SE N tx f) : SE N (tDgt cs ty tx) (dgtX cs' e f) := by
  subst hc
  refine ⟨fun {ρ L r s k a R} ag al hk he => h.ok ag al (fun y L1 s1 al1 h1 => g.ok ag al1 (fun z L2 s2 al2 h2 => ?_) h1) he⟩
  obtain ⟨x, rfl, h3⟩ := dStr_ok h2
  rw [pickX_is] at h3
  show match cs.lookup x with | some i => R (.int i) L2 | none => R z L2
  cases q : cs.lookup x with
  | none => rw [q] at h3; exact hk _ L2 s2 al2 h3
  | some i => rw [q] at h3; exact hk _ L2 s2 al2 h3
end
end L2.DL

set_option Elab.async false
set_option linter.all false
set_option maxRecDepth 100000
/-! EI: calls, targets, statements, loops, comprehensions that run. -/
namespace L2.DL
open PySem PySem.Spec PyProof.Rows
noncomputable section
/-! ### nothing of one's own -/
def lowX (d : D) : Bool := D.rec (motive_1 := fun _ => Bool) (motive_2 := fun _ => Bool) true (fun _ => true) (fun _ => true) (fun _ => true) (fun _ h => h) (fun _ h => h) (fun _ _ h g => Bool.rec (motive := fun _ => Bool) false g h) (fun _ => false) (fun _ => true) (fun _ => true) true (fun _ _ a b => Bool.rec (motive := fun _ => Bool) false b a) d
def lowXs (xs : List D) : Bool := List.rec (motive := fun _ => Bool) true (fun x _ b => Bool.rec (motive := fun _ => Bool) false b (lowX x)) xs
theorem lowX_l (xs : List D) : D.rec_1 (motive_1 := fun _ => Bool) (motive_2 := fun _ => Bool) true (fun _ => true) (fun _ => true) (fun _ => true) (fun _ h => h) (fun _ h => h) (fun _ _ h g => Bool.rec (motive := fun _ => Bool) false g h) (fun _ => false) (fun _ => true) (fun _ => true) true (fun _ _ a b => Bool.rec (motive := fun _ => Bool) false b a) xs = lowXs xs := by
  induction xs with
  | nil => rfl
  | cons x r ih =>
    show Bool.rec (motive := fun _ => Bool) false (D.rec_1 (motive_1 := fun _ => Bool) (motive_2 := fun _ => Bool) _ _ _ _ _ _ _ _ _ _ _ _ r) (lowX x) = _
    rw [ih]; rfl
theorem bAnd {a b : Bool} (h : Bool.rec (motive := fun _ => Bool) false b a = true) : a = true ∧ b = true := by
  cases a with
  | false => cases h
  | true => exact ⟨rfl, h⟩
mutual
theorem lowX_ok : ∀ d : D, lowX d = true → lowD 0 d
  | .non, _ => by simp [lowD]
  | .bl _, _ => by simp [lowD]
  | .int _, _ => by simp [lowD]
  | .str _, _ => by simp [lowD]
  | .tup xs, h => by rw [lowD]; exact lowXs_ok xs ((lowX_l xs).symm.trans h)
  | .lst xs, h => by rw [lowD]; exact lowXs_ok xs ((lowX_l xs).symm.trans h)
  | .dct ks vs, h => by
    obtain ⟨h1, h2⟩ := bAnd (b := D.rec_1 (motive_1 := fun _ => Bool) (motive_2 := fun _ => Bool) true (fun _ => true) (fun _ => true) (fun _ => true) (fun _ h => h) (fun _ h => h) (fun _ _ h g => Bool.rec (motive := fun _ => Bool) false g h) (fun _ => false) (fun _ => true) (fun _ => true) true (fun _ _ a b => Bool.rec (motive := fun _ => Bool) false b a) vs) h
    rw [lowD]; exact ⟨lowXs_ok ks ((lowX_l ks).symm.trans h1), lowXs_ok vs ((lowX_l vs).symm.trans h2)⟩
  | .ob _, h => nomatch h
  | .adr _, _ => by simp [lowD]
  | .ty _, _ => by simp [lowD]
theorem lowXs_ok : ∀ d : List D, lowXs d = true → lowDs 0 d
  | [], _ => by simp [lowDs]
  | x :: xs, h => by
    obtain ⟨h1, h2⟩ := bAnd (b := lowXs xs) h
    rw [lowDs]; exact ⟨lowX_ok x h1, lowXs_ok xs h2⟩
end
/-! ### freezing -/
def frzs (f : D → (D → An) → An) (xs : List D) (k : List D → An) : An := List.rec (motive := fun _ => (List D → An) → An) (fun k => k []) (fun x _ ih k => f x fun y => ih fun ys => k (y :: ys)) xs k
def frz (s : Xs) (n : Nat) : D → (D → An) → An := Nat.rec (motive := fun _ => D → (D → An) → An) (fun _ _ => none) (fun _ ih d k => br (lowX d) (k d)
  (D.rec (motive_1 := fun _ => An) (motive_2 := fun _ => Unit) none (fun _ => none) (fun _ => none) (fun _ => none) (fun xs _ => frzs ih xs fun ys => k (.tup ys)) (fun xs _ => frzs ih xs fun ys => k (.lst ys)) (fun _ _ _ _ => none)
    (fun n => Option.rec (motive := fun _ => An) none (fun o => O.rec (motive := fun _ => An) (fun xs => frzs ih xs fun ys => k (.lst ys)) (fun ks vs => ifB (lowXs ks) (frzs ih vs fun ys => k (.dct ks ys))) (fun _ _ => none) none o) (getT s.t n)) (fun _ => none) (fun _ => none) () (fun _ _ _ _ => ()) d)) n
theorem frzs_ok {L : Sto} {f : D → (D → An) → An} (hf : ∀ d k a, f d k = some a → ∃ d0, Fr L 0 d d0 ∧ k d0 = some a) : ∀ (xs : List D) (k : List D → An) (a : D), frzs f xs k = some a → ∃ ys, Frs L 0 xs ys ∧ k ys = some a
  | [], k, a, h => ⟨[], .nil, h⟩
  | x :: xs, k, a, h => by
    obtain ⟨y, h1, h2⟩ := hf x _ a (show f x (fun y => frzs f xs fun ys => k (y :: ys)) = some a from h)
    obtain ⟨ys, h3, h4⟩ := frzs_ok hf xs _ a h2
    exact ⟨y :: ys, .cons h1 h3, h4⟩
theorem frz_ok {L : Sto} {s : Xs} (al : AgL L s) : ∀ (n : Nat) (d : D) (k : D → An) (a : D), frz s n d k = some a → ∃ d0, Fr L 0 d d0 ∧ k d0 = some a
  | 0, _, _, _, h => nomatch h
  | n + 1, d, k, a, h => by
    rcases br_ok h with ⟨e, h⟩ | ⟨_, h⟩
    · exact ⟨d, .same (lowX_ok d e), h⟩
    · cases d with
      | tup xs =>
        obtain ⟨ys, h1, h2⟩ := frzs_ok (frz_ok al n) xs _ a h
        exact ⟨_, .tup h1, h2⟩
      | lst xs =>
        obtain ⟨ys, h1, h2⟩ := frzs_ok (frz_ok al n) xs _ a h
        exact ⟨_, .lst h1, h2⟩
      | ob m =>
        have h : Option.rec (motive := fun _ => An) none (fun o => O.rec (motive := fun _ => An) (fun xs => frzs (frz s n) xs fun ys => k (.lst ys)) (fun ks vs => ifB (lowXs ks) (frzs (frz s n) vs fun ys => k (.dct ks ys))) (fun _ _ => none) none o) (getT s.t m) = some a := h
        cases e : getT s.t m with
        | none => rw [e] at h; cases h
        | some o =>
          rw [e] at h
          cases o with
          | lst xs =>
            obtain ⟨ys, h1, h2⟩ := frzs_ok (frz_ok al n) xs _ a h
            exact ⟨_, .obl (Nat.zero_le _) (al.2 _ _ e) h1, h2⟩
          | dct ks vs =>
            obtain ⟨h0, h⟩ := ifB_ok h
            obtain ⟨ys, h1, h2⟩ := frzs_ok (frz_ok al n) vs _ a h
            exact ⟨_, .obd (Nat.zero_le _) (al.2 _ _ e) (lowXs_ok ks h0) h1, h2⟩
          | _ => exact nomatch h
      | _ => exact nomatch h
/-! ### calls -/
structure SFn (P : PS1) (f : List D → An) : Prop where
  ok : ∀ {ds d}, f ds = some d → ∀ R : D → Prop, R d → P ds R
def cpX (f : List D → An) (t : xA) : xE := fun r s k => t r s fun cs s1 => ifB (lowXs cs) (opK (f cs) fun d => k d s1)
theorem se_call {N n : Nat} {P : PS1} {f : List D → An} {t : tA} {e : xA} (hf : SFn P f) (h : SA N n t e) : SE N (tCaP n (pureF P) t) (cpX f e) :=
  ⟨fun ag al hk he => h.ok ag al (fun cs L1 s1 hl al1 h1 => by
    obtain ⟨h2, h3⟩ := ifB_ok h1
    obtain ⟨d, e1, h4⟩ := opK_ok h3
    exact ⟨hl, lowXs_ok cs h2, rfl, hf.ok e1 _ fun _ => hk d L1 s1 al1 h4⟩) he⟩
/-! ### targets -/
structure SG (N : Nat) (t : tG) (g : xG) : Prop where
  ok : ∀ {d ρ L r s k a R}, AgE N ρ r → AgL L s → (∀ ρ' L' r' s', AgE N ρ' r' → AgL L' s' → k r' s' = some a → R ρ' L') → g d r s k = some a → t d ρ L R
structure SGs (N : Nat) (t : tGs) (g : xGs) : Prop where
  ok : ∀ {d ρ L r s k a R}, AgE N ρ r → AgL L s → (∀ ρ' L' r' s', AgE N ρ' r' → AgL L' s' → k r' s' = some a → R ρ' L') → g d r s k = some a → t d ρ L R
def gnX (w : Option D → E16 → (E16 → An) → An) : xG := fun d r s k => w (some d) r fun r' => k r' s
theorem sg_nm {N i : Nat} {w : Option D → E16 → (E16 → An) → An} (hw : ∀ v r k, w v r k = k (setE r v i)) (hi : i < N) (h16 : i < 16) : SG N (gNm i) (gnX w) :=
  ⟨fun {d ρ L r s k a R} ag al hk he => by
    have h : w (some d) r (fun r' => k r' s) = some a := he
    rw [hw] at h
    exact hk _ L _ s (ag.set hi h16 d) al h⟩
def gnilX : xGs := fun ds r s k => List.rec (motive := fun _ => An) (k r s) (fun _ _ _ => none) ds
def gconsX (g : xG) (u : xGs) : xGs := fun ds r s k => List.rec (motive := fun _ => An) none (fun d t _ => g d r s fun r1 s1 => u t r1 s1 k) ds
theorem sgs_nil {N : Nat} : SGs N gNilD gnilX :=
  ⟨fun {d ρ L r s k a R} ag al hk he => by
    cases d with
    | nil => exact hk ρ L r s ag al he
    | cons _ _ => exact nomatch he⟩
theorem sgs_cons {N : Nat} {t : tG} {u : tGs} {g : xG} {v : xGs} (h1 : SG N t g) (h2 : SGs N u v) : SGs N (gConsD t u) (gconsX g v) :=
  ⟨fun {d ρ L r s k a R} ag al hk he => by
    cases d with
    | nil => exact nomatch he
    | cons x xs => exact h1.ok ag al (fun ρ1 L1 r1 s1 ag1 al1 h => h2.ok ag1 al1 hk h) he⟩
def gtpX (n : Nat) (u : xGs) : xG := fun d r s k => dTup d fun xs => ifB (Nat.beq (lenN xs) n) (u xs r s k)
theorem sg_tup {N n : Nat} {u : tGs} {v : xGs} (h : SGs N u v) : SG N (gTpD n u) (gtpX n v) :=
  ⟨fun {d ρ L r s k a R} ag al hk he => by
    obtain ⟨xs, rfl, h1⟩ := dTup_ok he
    obtain ⟨h2, h3⟩ := ifB_ok h1
    rw [beq_def, lenN_is] at h2
    exact ⟨of_decide_eq_true h2, h.ok ag al hk h3⟩⟩
abbrev xO3 := D → D → D → Xs → (Xs → An) → An
structure SO3 (o : O3) (x : xO3) : Prop where
  ok : ∀ {p q d L s k a R}, AgL L s → (∀ L' s', AgL L' s' → k s' = some a → R L') → x p q d s k = some a → o p q d L R
def gsX (a i : xE) (o : xO3) : xG := fun d r s k => a r s fun x s1 => i r s1 fun y s2 => o x y d s2 fun s3 => k r s3
theorem sg_sub {N : Nat} {o : O3} {x : xO3} {ta ti : tE} {a i : xE} (ho : SO3 o x) (ha : SE N ta a) (hi : SE N ti i) : SG N (gSb ta ti o) (gsX a i x) :=
  ⟨fun {d ρ L r s k z R} ag al hk he => ha.ok ag al (fun p L1 s1 al1 h1 => hi.ok ag al1 (fun q L2 s2 al2 h2 => ho.ok al2 (fun L3 s3 al3 h3 => hk ρ L3 r s3 ag al3 h3) h2) h1) he⟩
def xPut : xO3 := fun x i d s k => dOb x fun n => oDctK (getT s.t n) fun ks vs => ifB (isKey i) (ifB (fewX ks) (putX ks vs i d fun ks' vs' => setT (.dct ks' vs') 12 s.t n fun t => k ⟨s.n, t⟩))
theorem so_put : SO3 sPut xPut :=
  ⟨fun {p q d L s k a R} al hk he => by
    obtain ⟨n, rfl, h1⟩ := dOb_ok he
    obtain ⟨ks, vs, e, h2⟩ := oDctK_ok h1
    obtain ⟨h3, h4⟩ := ifB_ok h2
    obtain ⟨h5, h6⟩ := ifB_ok h4
    obtain ⟨kk, hkk⟩ := isKey_ok h3
    rw [putX_is hkk.1] at h6
    obtain ⟨t', h7, al2⟩ := al.set e h6
    have := few_ok h5
    exact ⟨n, ks, vs, kk, rfl, al.2 _ _ e, hkk, by rw [sizeL]; omega, hk _ _ al2 h7⟩⟩
/-! ### statements -/
structure Ag (N : Nat) (a : D) (F : Fi) (DD : DEnds) : Prop where
  nx : ∀ ρ L r s, AgE N ρ r → AgL L s → F.nx r s = some a → DD.nx ρ L
  rt : ∀ d L s, AgL L s → F.rt d s = some a → DD.rt d L
  bk : ∀ ρ L r s, AgE N ρ r → AgL L s → F.bk r s = some a → DD.bk ρ L
  ct : ∀ ρ L r s, AgE N ρ r → AgL L s → F.ct r s = some a → DD.ct ρ L
structure SS (N : Nat) (t : tS) (e : xS) : Prop where
  ok : ∀ {ρ L r s F a DD}, AgE N ρ r → AgL L s → Ag N a F DD → e F r s = some a → t DD ρ L
def fnx (F : Fi) (n : E16 → Xs → An) : Fi := ⟨n, F.rt, F.bk, F.ct⟩
def nxX : xS := fun F r s => F.nx r s
def sqX (t u : xS) : xS := fun F r s => t ⟨u F, F.rt, F.bk, F.ct⟩ r s
theorem ss_nx {N : Nat} : SS N tNx nxX := ⟨fun ag al h he => h.nx _ _ _ _ ag al he⟩
theorem ss_sq {N : Nat} {t u : tS} {e f : xS} (h1 : SS N t e) (h2 : SS N u f) : SS N (tSq t u) (sqX e f) :=
  ⟨fun {ρ L r s F a DD} ag al h he => h1.ok (F := ⟨f F, F.rt, F.bk, F.ct⟩) ag al ⟨fun ρ L r s ag1 al1 h3 => h2.ok ag1 al1 h h3, h.rt, h.bk, h.ct⟩ he⟩
def bkX : xS := fun F r s => F.bk r s
def ctX : xS := fun F r s => F.ct r s
theorem ss_bk {N : Nat} : SS N tBk bkX := ⟨fun ag al h he => h.bk _ _ _ _ ag al he⟩
theorem ss_ct {N : Nat} : SS N tCt ctX := ⟨fun ag al h he => h.ct _ _ _ _ ag al he⟩
def dpX (e : xE) : xS := fun F r s => e r s fun _ s1 => F.nx r s1
theorem ss_dp {N : Nat} {t : tE} {e : xE} (h1 : SE N t e) : SS N (tDp t) (dpX e) :=
  ⟨fun ag al h he => h1.ok ag al (fun d L1 s1 al1 h2 => h.nx _ _ _ _ ag al1 h2) he⟩
def rtX (e : xE) : xS := fun F r s => e r s F.rt
theorem ss_rt {N : Nat} {t : tE} {e : xE} (h1 : SE N t e) : SS N (tRt t) (rtX e) :=
  ⟨fun ag al h he => h1.ok ag al (fun d L1 s1 al1 h2 => h.rt _ _ _ al1 h2) he⟩
def rnX : xS := fun F _ s => F.rt .non s
theorem ss_rn {N : Nat} : SS N tRtN rnX := ⟨fun ag al h he => h.rt _ _ _ al he⟩
def ifS (c : xT) (t u : xS) : xS := fun F r s => c r s fun b s1 => br b (t F r s1) (u F r s1)
theorem ss_if {N : Nat} {c : tT} {t u : tS} {e : xT} {f g : xS} (hc : ST N c e) (h1 : SS N t f) (h2 : SS N u g) : SS N (tIfD c t u) (ifS e f g) :=
  ⟨fun ag al h he => hc.ok ag al (fun b L1 s1 al1 h3 => by
    rcases br_ok h3 with ⟨rfl, h4⟩ | ⟨rfl, h4⟩
    · rw [if_pos rfl]; exact h1.ok ag al1 h h4
    · rw [if_neg Bool.false_ne_true]; exact h2.ok ag al1 h h4) he⟩
def noX : xS := fun _ _ _ => none
theorem ss_no {N : Nat} : SS N tNo noX := ⟨fun ag al h he => nomatch he⟩
def stX (e : xE) (w : Option D → E16 → (E16 → An) → An) : xS := fun F r s => e r s fun d s1 => w (some d) r fun r' => F.nx r' s1
theorem ss_st {N i : Nat} {t : tE} {e : xE} {w : Option D → E16 → (E16 → An) → An} (h1 : SE N t e) (hw : ∀ v r k, w v r k = k (setE r v i)) (hi : i < N) (h16 : i < 16) : SS N (tSt t i) (stX e w) :=
  ⟨fun ag al h he => h1.ok ag al (fun d L1 s1 al1 h2 => by
    rw [hw] at h2
    exact h.nx _ _ _ _ (ag.set hi h16 d) al1 h2) he⟩
def asX (e : xE) (g : xG) : xS := fun F r s => e r s fun d s1 => g d r s1 F.nx
theorem ss_as {N : Nat} {t : tE} {e : xE} {u : tG} {g : xG} (h1 : SE N t e) (h2 : SG N u g) : SS N (tAs t u) (asX e g) :=
  ⟨fun ag al h he => h1.ok ag al (fun d L1 s1 al1 h3 => h2.ok ag al1 (fun ρ' L' r' s' ag' al' h4 => h.nx _ _ _ _ ag' al' h4) h3) he⟩
def p2X (w v : Option D → E16 → (E16 → An) → An) (t : xA) : xS := fun F r s => t r s fun ds s1 => twoA ds fun d e => w (some d) r fun r1 => v (some e) r1 fun r2 => F.nx r2 s1
theorem ss_p2 {N i j m : Nat} {t : tA} {e : xA} {w v : Option D → E16 → (E16 → An) → An} (hw : ∀ x r k, w x r k = k (setE r x i)) (hv : ∀ x r k, v x r k = k (setE r x j)) (hi : i < N) (hi' : i < 16) (hj : j < N) (hj' : j < 16) (h1 : SA N m t e) : SS N (tP2 i j t) (p2X w v e) :=
  ⟨fun ag al h he => h1.ok ag al (fun ds L1 s1 _ al1 h2 => by
    obtain ⟨d, e, rfl, h3⟩ := twoA_ok h2
    rw [hw, hv] at h3
    exact h.nx _ _ _ _ ((ag.set hi hi' d).set hj hj' e) al1 h3) he⟩
def p3X (w v u : Option D → E16 → (E16 → An) → An) (t : xA) : xS := fun F r s => t r s fun ds s1 => threeA ds fun d e f => w (some d) r fun r1 => v (some e) r1 fun r2 => u (some f) r2 fun r3 => F.nx r3 s1
theorem ss_p3 {N i j l m : Nat} {t : tA} {e : xA} {w v u : Option D → E16 → (E16 → An) → An} (hw : ∀ x r k, w x r k = k (setE r x i)) (hv : ∀ x r k, v x r k = k (setE r x j)) (hu : ∀ x r k, u x r k = k (setE r x l)) (hi : i < N) (hi' : i < 16) (hj : j < N) (hj' : j < 16) (hl : l < N) (hl' : l < 16) (h1 : SA N m t e) : SS N (tP3 i j l t) (p3X w v u e) :=
  ⟨fun ag al h he => h1.ok ag al (fun ds L1 s1 _ al1 h2 => by
    obtain ⟨d, e, f, rfl, h3⟩ := threeA_ok h2
    rw [hw, hv, hu] at h3
    exact h.nx _ _ _ _ (((ag.set hi hi' d).set hj hj' e).set hl hl' f) al1 h3) he⟩
/-! ### while -/
def whG (c : xT) (t : xS) (F : Fi) (n : Nat) : E16 → Xs → An := Nat.rec (motive := fun _ => E16 → Xs → An) (fun _ _ => none) (fun _ ih r s => c r s fun b s1 => br b (t ⟨ih, F.rt, F.nx, ih⟩ r s1) (F.nx r s1)) n
def whX (c : xT) (t : xS) : xS := fun F r s => whG c t F 10000 r s
theorem ss_wh {N : Nat} {c : tT} {t : tS} {e : xT} {f : xS} (hc : ST N c e) (h1 : SS N t f) : SS N (tWh c t) (whX e f) :=
  ⟨fun {ρ L r s F a DD} ag al h he => by
    refine ⟨fun m ρ L => ∃ r s, AgE N ρ r ∧ AgL L s ∧ whG e f F m r s = some a, ⟨10000, r, s, ag, al, he⟩, ?_⟩
    rintro m ρ L ⟨r, s, ag, al, he⟩
    cases m with
    | zero => exact nomatch he
    | succ m =>
      refine hc.ok ag al (fun b L1 s1 al1 h2 => ?_) (show e r s (fun b s1 => br b (f ⟨whG e f F m, F.rt, F.nx, whG e f F m⟩ r s1) (F.nx r s1)) = some a from he)
      rcases br_ok h2 with ⟨rfl, h3⟩ | ⟨rfl, h3⟩
      · rw [if_pos rfl]
        exact h1.ok (F := ⟨whG e f F m, F.rt, F.nx, whG e f F m⟩) ag al1 ⟨fun ρ L r s ag al h => ⟨m, Nat.lt_succ_self m, r, s, ag, al, h⟩, h.rt, h.nx, fun ρ L r s ag al h => ⟨m, Nat.lt_succ_self m, r, s, ag, al, h⟩⟩ h3
      · rw [if_neg Bool.false_ne_true]
        exact h.nx _ _ _ _ ag al1 h3⟩
/-! ### what is walked -/
structure SI (N : Nat) (t : tI) (e : xI) : Prop where
  ok : ∀ {ρ L r s k a R}, AgE N ρ r → AgL L s → (∀ ds L' s', AgL L' s' → k ds s' = some a → R ds L') → e r s k = some a → t ρ L R
def lsX (e : xE) : xI := fun r s k => e r s fun d s1 => dLst d fun xs => k xs s1
def tpX (e : xE) : xI := fun r s k => e r s fun d s1 => dTup d fun xs => k xs s1
def dkX (e : xE) : xI := fun r s k => e r s fun d s1 => dDct d fun ks _ => k ks s1
theorem si_ls {N : Nat} {t : tE} {e : xE} (h : SE N t e) : SI N (iLs t) (lsX e) :=
  ⟨fun ag al hk he => h.ok ag al (fun d L1 s1 al1 h1 => by
    obtain ⟨xs, rfl, h2⟩ := dLst_ok h1
    exact hk xs L1 s1 al1 h2) he⟩
theorem si_tp {N : Nat} {t : tE} {e : xE} (h : SE N t e) : SI N (iTp t) (tpX e) :=
  ⟨fun ag al hk he => h.ok ag al (fun d L1 s1 al1 h1 => by
    obtain ⟨xs, rfl, h2⟩ := dTup_ok h1
    exact hk xs L1 s1 al1 h2) he⟩
theorem si_dk {N : Nat} {t : tE} {e : xE} (h : SE N t e) : SI N (iDk t) (dkX e) :=
  ⟨fun ag al hk he => h.ok ag al (fun d L1 s1 al1 h1 => by
    obtain ⟨xs, ys, rfl, h2⟩ := dDct_ok h1
    exact hk xs L1 s1 al1 h2) he⟩
def zipK (xs ys : List D) (k : List D → An) : An := List.rec (motive := fun _ => List D → (List D → An) → An) (fun _ k => k []) (fun x _ ih ys k => List.rec (motive := fun _ => An) (k []) (fun y r _ => ih r fun zs => k (.tup [x, y] :: zs)) ys) xs ys k
theorem zipK_is : ∀ (xs ys : List D) (k : List D → An), zipK xs ys k = k (zipD xs ys)
  | [], _, _ => rfl
  | _ :: _, [], _ => rfl
  | x :: xs, y :: ys, k => by show zipK xs ys (fun zs => k (.tup [x, y] :: zs)) = _; rw [zipK_is xs ys]; rfl
def diX (e : xE) : xI := fun r s k => e r s fun d s1 => dDct d fun ks vs => zipK ks vs fun ps => k ps s1
theorem si_di {N : Nat} {t : tE} {e : xE} (h : SE N t e) : SI N (iDi t) (diX e) :=
  ⟨fun ag al hk he => h.ok ag al (fun d L1 s1 al1 h1 => by
    obtain ⟨xs, ys, rfl, h2⟩ := dDct_ok h1
    rw [zipK_is] at h2
    exact hk _ L1 s1 al1 h2) he⟩
def rgX (n : Nat) (lo : Int) (k : List D → An) : An := Nat.rec (motive := fun _ => Int → (List D → An) → An) (fun _ k => k []) (fun _ ih lo k => fI lo fun d => ih (addI lo (.ofNat 1)) fun r => k (d :: r)) n lo k
theorem rgX_is : ∀ (n : Nat) (lo : Int) (k : List D → An), rgX n lo k = k (rangeD lo n)
  | 0, lo, k => rfl
  | n + 1, lo, k => by
    show (fI lo fun d => rgX n (addI lo (.ofNat 1)) fun r => k (d :: r)) = _
    rw [fI_is, rgX_is n, addI_is]
    congr 1
    unfold rangeD
    rw [List.range_succ_eq_map, List.map_cons, List.map_map]
    congr 1
    · simp
    · apply List.map_congr_left
      intro i _
      show D.int _ = D.int _
      congr 1
      simp only [Int.ofNat_eq_natCast]
      omega
def toN (i : Int) : Nat := Int.rec (motive := fun _ => Nat) (fun n => n) (fun _ => 0) i
theorem toN_is (i : Int) : toN i = i.toNat := by cases i <;> rfl
def rg1X (t : xA) : xI := fun r s k => t r s fun ds s1 => oneA ds fun d => dInt d fun j => ifB (smallI j) (rgX (toN j) (.ofNat 0) fun xs => k xs s1)
def rg2X (t : xA) : xI := fun r s k => t r s fun ds s1 => twoA ds fun d e => dInt d fun i => dInt e fun j => ifB (smallI i) (ifB (smallI j) (rgX (toN (addI j (negI i))) i fun xs => k xs s1))
theorem si_rg1 {N m : Nat} {t : tA} {e : xA} (h : SA N m t e) : SI N (iRg1 t) (rg1X e) :=
  ⟨fun ag al hk he => h.ok ag al (fun ds L1 s1 _ al1 h1 => by
    obtain ⟨d, rfl, h2⟩ := oneA_ok h1
    obtain ⟨j, rfl, h3⟩ := dInt_ok h2
    obtain ⟨h4, h5⟩ := ifB_ok h3
    have := smallI_ok h4
    rw [rgX_is, toN_is] at h5
    exact ⟨⟨by omega, by omega⟩, hk _ L1 s1 al1 h5⟩) he⟩
theorem si_rg2 {N m : Nat} {t : tA} {e : xA} (h : SA N m t e) : SI N (iRg2 t) (rg2X e) :=
  ⟨fun ag al hk he => h.ok ag al (fun ds L1 s1 _ al1 h1 => by
    obtain ⟨d, q, rfl, h2⟩ := twoA_ok h1
    obtain ⟨i, rfl, h3⟩ := dInt_ok h2
    obtain ⟨j, rfl, h4⟩ := dInt_ok h3
    obtain ⟨h5, h6⟩ := ifB_ok h4
    obtain ⟨h7, h8⟩ := ifB_ok h6
    have := smallI_ok h5
    have := smallI_ok h7
    rw [rgX_is, toN_is, addI_is, negI_is] at h8
    refine ⟨⟨by omega, by omega, by omega, by omega⟩, hk _ L1 s1 al1 ?_⟩
    rw [show j - i = j + -i by omega]
    exact h8) he⟩
/-! ### for -/
def frG (g : xG) (t : xS) (F : Fi) (ds : List D) : E16 → Xs → An := List.rec (motive := fun _ => E16 → Xs → An) F.nx (fun x _ ih r s => g x r s fun r2 s2 => t ⟨ih, F.rt, F.nx, ih⟩ r2 s2) ds
def frX (wi : xI) (g : xG) (t : xS) : xS := fun F r s => wi r s fun ds s1 => frG g t F ds r s1
theorem ss_fr {N : Nat} {wi : tI} {g : tG} {t : tS} {e : xI} {f : xG} {u : xS} (hw : SI N wi e) (hg : SG N g f) (h1 : SS N t u) : SS N (tFr wi g t) (frX e f u) :=
  ⟨fun {ρ L r s F a DD} ag al h he => hw.ok ag al (fun ds L1 s1 al1 h2 => by
    refine ⟨fun ds ρ L => ∃ r s, AgE N ρ r ∧ AgL L s ∧ frG f u F ds r s = some a, ⟨r, s1, ag, al1, h2⟩, ?_, ?_⟩
    · rintro x xs ρ L ⟨r, s, ag, al, he⟩
      exact hg.ok ag al (fun ρ2 L2 r2 s2 ag2 al2 h3 => h1.ok (F := ⟨frG f u F xs, F.rt, F.nx, frG f u F xs⟩) ag2 al2 ⟨fun ρ L r s ag al h => ⟨r, s, ag, al, h⟩, h.rt, h.nx, fun ρ L r s ag al h => ⟨r, s, ag, al, h⟩⟩ h3) (show f x r s (fun r2 s2 => u ⟨frG f u F xs, F.rt, F.nx, frG f u F xs⟩ r2 s2) = some a from he)
    · rintro ρ L ⟨r, s, ag, al, he⟩
      exact h.nx _ _ _ _ ag al he) he⟩
/-! ### comprehensions -/
structure SC (N : Nat) (t : tC) (g : xC) : Prop where
  ok : ∀ {d ρ r k a R}, AgE N ρ r → (∀ ρ' r', AgE N ρ' r' → k r' = some a → R ρ') → g d r k = some a → t d ρ R
def c1X (w : Option D → E16 → (E16 → An) → An) : xC := fun d r k => w (some d) r k
theorem sc_1 {N i : Nat} {w : Option D → E16 → (E16 → An) → An} (hw : ∀ v r k, w v r k = k (setE r v i)) (hi : i < N) (h16 : i < 16) : SC N (c1 i) (c1X w) :=
  ⟨fun {d ρ r k a R} ag hk he => by
    have h : w (some d) r k = some a := he
    rw [hw] at h
    exact hk _ _ (ag.set hi h16 d) h⟩
structure SCs (N : Nat) (is : List Nat) (g : List D → E16 → (E16 → An) → An) : Prop where
  ok : ∀ {ds ρ r k a}, AgE N ρ r → g ds r k = some a → ds.length = is.length ∧ ∃ r', AgE N (setsD is ds ρ) r' ∧ k r' = some a
def cnilX : List D → E16 → (E16 → An) → An := fun ds r k => List.rec (motive := fun _ => An) (k r) (fun _ _ _ => none) ds
def cconsX (w : Option D → E16 → (E16 → An) → An) (u : List D → E16 → (E16 → An) → An) : List D → E16 → (E16 → An) → An := fun ds r k => List.rec (motive := fun _ => An) none (fun d t _ => w (some d) r fun r1 => u t r1 k) ds
theorem scs_nil {N : Nat} : SCs N [] cnilX :=
  ⟨fun {ds ρ r k a} ag he => by
    cases ds with
    | nil => exact ⟨rfl, r, ag, he⟩
    | cons _ _ => exact nomatch he⟩
theorem scs_cons {N i : Nat} {is : List Nat} {w : Option D → E16 → (E16 → An) → An} {u} (hw : ∀ v r k, w v r k = k (setE r v i)) (hi : i < N) (h16 : i < 16) (h : SCs N is u) : SCs N (i :: is) (cconsX w u) :=
  ⟨fun {ds ρ r k a} ag he => by
    cases ds with
    | nil => exact nomatch he
    | cons d t =>
      have h1 : w (some d) r (fun r1 => u t r1 k) = some a := he
      rw [hw] at h1
      obtain ⟨e, r', h2, h3⟩ := h.ok (ag.set hi h16 d) h1
      exact ⟨by rw [List.length_cons, List.length_cons, e], r', h2, h3⟩⟩
def cNX (u : List D → E16 → (E16 → An) → An) : xC := fun d r k => dTup d fun xs => u xs r k
theorem sc_N {N : Nat} {is : List Nat} {u} (h : SCs N is u) : SC N (cN is) (cNX u) :=
  ⟨fun {d ρ r k a R} ag hk he => by
    obtain ⟨xs, rfl, h1⟩ := dTup_ok he
    obtain ⟨e, r', h2, h3⟩ := h.ok ag h1
    exact ⟨e, hk _ _ h2 h3⟩⟩
def yesX : xT := fun _ s k => k true s
theorem st_yes {N : Nat} : ST N tYesD yesX := ⟨fun ag al hk he => hk true _ _ al he⟩
/-- the slots of a comprehension's own names are forgotten: it may read none of them before it sets them; the machine keeps them, so they must not be there -/
def wipeX : List (Option D → E16 → (E16 → An) → An) → E16 → (E16 → An) → An := fun ws r k => List.rec (motive := fun _ => (E16 → An) → An) (fun k => k r) (fun w _ ih k => ih fun r' => w none r' k) ws k
theorem AgE.unset {N : Nat} {ρ : En} {r : E16} (h : AgE N ρ r) {i : Nat} (h16 : i < 16) : AgE N (ρ.set i none) (setE r none i) := by
  refine ⟨by rw [List.length_set]; exact h.1, fun j e he => ?_⟩
  rw [getE_set _ _ _ _ h16] at he
  by_cases hj : j = i
  · subst hj
    rw [if_pos rfl] at he; cases he
  · rw [if_neg hj] at he
    rw [List.getElem?_set_ne (Ne.symm hj)]
    exact h.2 j e he
structure SW (vs : List Nat) (ws : List (Option D → E16 → (E16 → An) → An)) : Prop where
  ok : ∀ {N ρ r k a}, AgE N ρ r → wipeX ws r k = some a → ∃ r', AgE N (wipeD ρ vs) r' ∧ k r' = some a
theorem sw_nil : SW [] [] := ⟨fun {N ρ r k a} ag he => ⟨r, ag, he⟩⟩
theorem sw_cons {i : Nat} {vs : List Nat} {w} {ws} (hw : ∀ v r k, w v r k = k (setE r v i)) (h16 : i < 16) (h : SW vs ws) : SW (i :: vs) (w :: ws) :=
  ⟨fun {N ρ r k a} ag he => by
    obtain ⟨r', ag', h1⟩ := h.ok (k := fun r' => w none r' k) ag he
    rw [hw] at h1
    exact ⟨_, ag'.unset h16, h1⟩⟩
def lcG (g : xC) (tt : xT) (te : xE) (r : E16) (ds : List D) : Xs → (List D → Xs → An) → An := List.rec (motive := fun _ => Xs → (List D → Xs → An) → An) (fun s k => k [] s) (fun x _ ih s k => g x r fun r2 => tt r2 s fun b s1 => br b (te r2 s1 fun y s2 => ih s2 fun ys s3 => k (y :: ys) s3) (ih s1 k)) ds
def lcX (wi : xI) (g : xC) (tt : xT) (te : xE) (ws : List (Option D → E16 → (E16 → An) → An)) : xE := fun r s k => wi r s fun ds s1 => ifB (fewX ds) (wipeX ws r fun r1 => lcG g tt te r1 ds s1 fun ys s2 => k (.lst ys) s2)
theorem se_lc {N : Nat} {wi : tI} {g : tC} {tt : tT} {te : tE} {vs : List Nat} {e : xI} {f : xC} {u : xT} {v : xE} {ws} (hi : SI N wi e) (hg : SC N g f) (ht : ST N tt u) (hv : SE N te v) (hw : SW vs ws) : SE N (tLcD wi g tt te vs) (lcX e f u v ws) :=
  ⟨fun {ρ L r s k a R} ag al hk he => hi.ok ag al (fun ds L1 s1 al1 h1 => by
    obtain ⟨h0, h2⟩ := ifB_ok h1
    obtain ⟨r1, ag1, h3⟩ := hw.ok ag h2
    have few := few_ok h0
    refine ⟨fun xs acc L => acc.length + xs.length ≤ ds.length ∧ ∃ s, AgL L s ∧ lcG f u v r1 xs s (fun ys s2 => k (.lst (acc ++ ys)) s2) = some a, ⟨by simp, s1, al1, h3⟩, ?_, ?_⟩
    · rintro x xs acc L ⟨hl, s, al, h4⟩
      rw [List.length_cons] at hl
      refine hg.ok ag1 (fun ρ2 r2 ag2 h5 => ht.ok ag2 al (fun b L2 s2 al2 h6 => ?_) h5) (show f x r1 (fun r2 => u r2 s fun b s1 => br b (v r2 s1 fun y s2 => lcG f u v r1 xs s2 fun ys s3 => k (.lst (acc ++ (y :: ys))) s3) (lcG f u v r1 xs s1 fun ys s2 => k (.lst (acc ++ ys)) s2)) = some a from h4)
      rcases br_ok h6 with ⟨rfl, h7⟩ | ⟨rfl, h7⟩
      · rw [if_pos rfl]
        refine hv.ok ag2 al2 (fun y L3 s3 al3 h8 => ⟨by rw [sizeL]; omega, by rw [List.length_append, List.length_singleton]; omega, s3, al3, ?_⟩) h7
        have e : ∀ ys : List D, acc ++ [y] ++ ys = acc ++ y :: ys := fun ys => by rw [List.append_assoc]; rfl
        simp only [e]
        exact h8
      · rw [if_neg Bool.false_ne_true]
        exact ⟨by omega, s2, al2, h7⟩
    · rintro acc L ⟨_, s, al, h4⟩
      have h4 : k (.lst (acc ++ [])) s = some a := h4
      rw [List.append_nil] at h4
      exact hk _ L s al h4) he⟩
/-! ### a def runs -/
def evOf (ds : List D) (k : E16 → An) : An := List.rec (motive := fun _ => An) (k e16) (fun a r _ => List.rec (motive := fun _ => An) (k ⟨⟨some a, none, none, none⟩, e4, e4, e4⟩) (fun b r _ => List.rec (motive := fun _ => An) (k ⟨⟨some a, some b, none, none⟩, e4, e4, e4⟩)
  (fun c r _ => List.rec (motive := fun _ => An) (k ⟨⟨some a, some b, some c, none⟩, e4, e4, e4⟩) (fun _ _ _ => none) r) r) r) ds
theorem evOf_ok {ds : List D} {k : E16 → An} {a : D} {N : Nat} (h : evOf ds k = some a) (hn : ds.length ≤ N) : ∃ r, AgE N (startD N ds) r ∧ k r = some a := by
  have nn : ∀ j, getE e16 j = none := fun j => by
    by_cases hj : j < 16
    · match j, hj with
      | 0, _ | 1, _ | 2, _ | 3, _ | 4, _ | 5, _ | 6, _ | 7, _ | 8, _ | 9, _ | 10, _ | 11, _ | 12, _ | 13, _ | 14, _ | 15, _ => rfl
      | n + 16, h => exact absurd h (by omega)
    · match j, hj with
      | n + 16, _ => rfl
  have base : ∀ ds : List D, ds.length ≤ N → (startD N ds).length = N := fun ds h => by
    unfold startD
    rw [List.length_append, List.length_map, List.length_replicate]
    omega
  have gt : ∀ (ds : List D) i d, ds[i]? = some d → (startD N ds)[i]? = some (some d) := fun ds i d e => by
    unfold startD
    rw [List.getElem?_append_left (by rw [List.length_map]; exact (List.getElem?_eq_some_iff.mp e).1), List.getElem?_map, e]; rfl
  have s0 : ∀ (r : E16) (v : D) (i : Nat), i < 16 → ∀ j d, getE (setE r (some v) i) j = some d → (j = i ∧ d = v) ∨ getE r j = some d := fun r v i hi j d h => by
    rw [getE_set _ _ _ _ hi] at h
    by_cases e : j = i
    · rw [if_pos e] at h; cases h; exact .inl ⟨e, rfl⟩
    · rw [if_neg e] at h; exact .inr h
  cases ds with
  | nil => exact ⟨e16, ⟨base _ hn, fun i d h => by rw [nn] at h; cases h⟩, h⟩
  | cons x r =>
    cases r with
    | nil =>
      refine ⟨_, ⟨base _ hn, fun i d h => ?_⟩, h⟩
      rcases s0 e16 x 0 (by decide) i d h with ⟨rfl, rfl⟩ | h
      · exact gt _ _ _ rfl
      · rw [nn] at h; cases h
    | cons y r =>
      cases r with
      | nil =>
        refine ⟨_, ⟨base _ hn, fun i d h => ?_⟩, h⟩
        rcases s0 (setE e16 (some x) 0) y 1 (by decide) i d h with ⟨rfl, rfl⟩ | h
        · exact gt _ _ _ rfl
        rcases s0 e16 x 0 (by decide) i d h with ⟨rfl, rfl⟩ | h
        · exact gt _ _ _ rfl
        · rw [nn] at h; cases h
      | cons z r =>
        cases r with
        | nil =>
          refine ⟨_, ⟨base _ hn, fun i d h => ?_⟩, h⟩
          rcases s0 (setE (setE e16 (some x) 0) (some y) 1) z 2 (by decide) i d h with ⟨rfl, rfl⟩ | h
          · exact gt _ _ _ rfl
          rcases s0 (setE e16 (some x) 0) y 1 (by decide) i d h with ⟨rfl, rfl⟩ | h
          · exact gt _ _ _ rfl
          rcases s0 e16 x 0 (by decide) i d h with ⟨rfl, rfl⟩ | h
          · exact gt _ _ _ rfl
          · rw [nn] at h; cases h
        | cons _ _ => exact nomatch h
def s0X : Xs := ⟨0, .e⟩
def runX (t : xS) (ds : List D) : An := evOf ds fun r => t ⟨fun _ _ => some .non, fun d s => frz s 9 d some, fun _ _ => none, fun _ _ => none⟩ r s0X
theorem run_ok {N : Nat} {t : tS} {e : xS} (h : SS N t e) {ds : List D} {d : D} (hd : runX e ds = some d) (hn : ds.length ≤ N) {R : QE} (r : R d []) : t (endP R) (startD N ds) [] := by
  obtain ⟨r0, ag, h1⟩ := evOf_ok (N := N) hd hn
  refine h.ok ag (show AgL [] s0X from ⟨rfl, fun i o h => nomatch h⟩) ⟨fun ρ L r s _ _ h2 => ?_, fun d' L s al h2 => ?_, fun _ _ _ _ _ _ h => (by cases h), fun _ _ _ _ _ _ h => (by cases h)⟩ h1
  · cases h2
    exact FinR.none (by simp [lowD]) r
  · obtain ⟨d0, fr, h3⟩ := frz_ok al 9 d' some d h2
    cases h3
    exact rtpF fr r
end
end L2.DL

set_option Elab.async false
set_option linter.all false
set_option maxRecDepth 100000
/-! EL: what runs for EB, EK; products; sums of parts. -/
namespace L2.DL
open PySem PySem.Spec PyProof.Rows
noncomputable section
/-! ### {k: v} -/
def dic1X (e f : xE) : xE := fun r s k => e r s fun x s1 => f r s1 fun y s2 => ifB (isKey x) (newX (.dct [x] [y]) s2 k)
theorem se_dic1O {N : Nat} {t u : tE} {e f : xE} (h : SE N t e) (g : SE N u f) : SE N (tDic1O t u) (dic1X e f) :=
  ⟨fun ag al hk he => h.ok ag al (fun x L1 s1 al1 h1 => g.ok ag al1 (fun y L2 s2 al2 h2 => by
    obtain ⟨h3, h4⟩ := ifB_ok h2
    obtain ⟨s3, h5, al3⟩ := newX_ok h4 al2
    exact ⟨isKey_ok h3, hk _ _ s3 al3 h5⟩) h1) he⟩
/-! ### freezing -/
def frK (o : Option O) (k : D → An) : An := Option.rec (motive := fun _ => An) none (fun o => O.rec (motive := fun _ => An) (fun xs => k (.lst xs)) (fun ks vs => k (.dct ks vs)) (fun _ _ => none) none o) o
theorem frK_ok {o : Option O} {k : D → An} {a : D} (h : frK o k = some a) : ∃ d, frOf o = some d ∧ (∃ u, o = some u) ∧ k d = some a := by
  cases o with
  | none => exact nomatch h
  | some o => cases o <;> first | exact ⟨_, rfl, ⟨_, rfl⟩, h⟩ | exact nomatch h
def fzEX (e : xE) : xE := fun r s k => e r s fun d s1 => dOb d fun n => frK (getT s1.t n) fun d' => setT .dead 12 s1.t n fun t => k d' ⟨s1.n, t⟩
theorem se_frz {N : Nat} {t : tE} {e : xE} (h : SE N t e) : SE N (tFzE t) (fzEX e) :=
  ⟨fun ag al hk he => h.ok ag al (fun d L1 s1 al1 h1 => by
    obtain ⟨n, rfl, h2⟩ := dOb_ok h1
    obtain ⟨d', e1, ⟨u, eu⟩, h3⟩ := frK_ok h2
    obtain ⟨t', h4, al2⟩ := al1.set eu h3
    refine ⟨n, d', rfl, ?_, hk _ _ _ al2 h4⟩
    rw [al1.2 _ _ eu, ← eu]
    exact e1) he⟩
/-! ### calls that look -/
def noDcX (d : D) : Bool := D.rec (motive_1 := fun _ => Bool) (motive_2 := fun _ => Bool) true (fun _ => true) (fun _ => true) (fun _ => true) (fun _ h => h) (fun _ h => h) (fun _ _ _ _ => false) (fun _ => true) (fun _ => true) (fun _ => true) true (fun _ _ a b => Bool.rec (motive := fun _ => Bool) false b a) d
def noDcXs (xs : List D) : Bool := List.rec (motive := fun _ => Bool) true (fun x _ b => Bool.rec (motive := fun _ => Bool) false b (noDcX x)) xs
theorem noDcX_l (xs : List D) : D.rec_1 (motive_1 := fun _ => Bool) (motive_2 := fun _ => Bool) true (fun _ => true) (fun _ => true) (fun _ => true) (fun _ h => h) (fun _ h => h) (fun _ _ _ _ => false) (fun _ => true) (fun _ => true) (fun _ => true) true (fun _ _ a b => Bool.rec (motive := fun _ => Bool) false b a) xs = noDcXs xs := by
  induction xs with
  | nil => rfl
  | cons x r ih =>
    show Bool.rec (motive := fun _ => Bool) false (D.rec_1 (motive_1 := fun _ => Bool) (motive_2 := fun _ => Bool) _ _ _ _ _ _ _ _ _ _ _ _ r) (noDcX x) = _
    rw [ih]; rfl
mutual
theorem noDcX_ok : ∀ d : D, noDcX d = true → noDct d
  | .non, _ => by simp [noDct]
  | .bl _, _ => by simp [noDct]
  | .int _, _ => by simp [noDct]
  | .str _, _ => by simp [noDct]
  | .tup xs, h => by rw [noDct]; exact noDcXs_ok xs ((noDcX_l xs).symm.trans h)
  | .lst xs, h => by rw [noDct]; exact noDcXs_ok xs ((noDcX_l xs).symm.trans h)
  | .dct ks vs, h => nomatch h
  | .ob _, _ => by simp [noDct]
  | .adr _, _ => by simp [noDct]
  | .ty _, _ => by simp [noDct]
theorem noDcXs_ok : ∀ d : List D, noDcXs d = true → noDcts d
  | [], _ => by simp [noDcts]
  | x :: xs, h => by
    obtain ⟨h1, h2⟩ := bAnd (b := noDcXs xs) h
    rw [noDcts]; exact ⟨noDcX_ok x h1, noDcXs_ok xs h2⟩
end
def seenX (d : D) (s : Xs) (k : D → An) : An := br (lowX d) (k d) (dOb d fun n => oDctK (getT s.t n) fun ks vs => ifB (lowXs ks) (ifB (lowXs vs) (k (.dct ks vs))))
def seensX (ds : List D) (s : Xs) (k : List D → An) : An := List.rec (motive := fun _ => (List D → An) → An) (fun k => k []) (fun d _ ih k => seenX d s fun e => ih fun es => k (e :: es)) ds k
theorem seenX_ok {d : D} {s : Xs} {k : D → An} {a : D} {L : Sto} (al : AgL L s) (h : seenX d s k = some a) : ∃ e, Seen L d e ∧ k e = some a := by
  rcases br_ok h with ⟨e, h⟩ | ⟨_, h⟩
  · exact ⟨d, .low (lowX_ok d e), h⟩
  · obtain ⟨n, rfl, h⟩ := dOb_ok h
    rename_i h0
    obtain ⟨ks, vs, e, h1⟩ := oDctK_ok h
    obtain ⟨l1, h2⟩ := ifB_ok h1
    obtain ⟨l2, h3⟩ := ifB_ok h2
    exact ⟨_, .own (al.2 _ _ e) (lowXs_ok ks l1) (lowXs_ok vs l2), h3⟩
theorem seensX_ok {s : Xs} {L : Sto} (al : AgL L s) : ∀ (ds : List D) (k : List D → An) (a : D), seensX ds s k = some a → ∃ es, Seens L ds es ∧ k es = some a
  | [], k, a, h => ⟨[], .nil, h⟩
  | d :: ds, k, a, h => by
    obtain ⟨e, h1, h2⟩ := seenX_ok al (show seenX d s (fun e => seensX ds s fun es => k (e :: es)) = some a from h)
    obtain ⟨es, h3, h4⟩ := seensX_ok al ds _ a h2
    exact ⟨e :: es, .cons h1 h3, h4⟩
def cwX (f : List D → An) (t : xA) : xE := fun r s k => t r s fun cs s1 => seensX cs s1 fun es => opK (f es) fun d => ifB (noDcX d) (k d s1)
theorem se_callW {N n : Nat} {P : PS1} {f : List D → An} {t : tA} {e : xA} (hf : SFn P f) (h : SA N n t e) : SE N (tCaW n (pureF P) t) (cwX f e) :=
  ⟨fun ag al hk he => h.ok ag al (fun cs L1 s1 hl al1 h1 => by
    obtain ⟨es, h2, h3⟩ := seensX_ok al1 cs _ _ h1
    obtain ⟨d, e1, h4⟩ := opK_ok h3
    obtain ⟨h5, h6⟩ := ifB_ok h4
    exact ⟨hl, es, h2, rfl, hf.ok e1 _ fun _ => ⟨noDcX_ok d h5, hk d L1 s1 al1 h6⟩⟩) he⟩
/-! ### dict(d) -/
def textless (d : D) : Bool := D.rec (motive_1 := fun _ => Bool) (motive_2 := fun _ => Bool) true (fun _ => true) (fun _ => true) (fun _ => false) (fun _ h => h) (fun _ _ => false) (fun _ _ _ _ => false) (fun _ => false) (fun _ => false) (fun _ => false) true (fun _ _ a b => Bool.rec (motive := fun _ => Bool) false b a) d
def textlesss (xs : List D) : Bool := List.rec (motive := fun _ => Bool) true (fun x _ b => Bool.rec (motive := fun _ => Bool) false b (textless x)) xs
theorem textless_l (xs : List D) : D.rec_1 (motive_1 := fun _ => Bool) (motive_2 := fun _ => Bool) true (fun _ => true) (fun _ => true) (fun _ => false) (fun _ h => h) (fun _ _ => false) (fun _ _ _ _ => false) (fun _ => false) (fun _ => false) (fun _ => false) true (fun _ _ a b => Bool.rec (motive := fun _ => Bool) false b a) xs = textlesss xs := by
  induction xs with
  | nil => rfl
  | cons x r ih =>
    show Bool.rec (motive := fun _ => Bool) false (D.rec_1 (motive_1 := fun _ => Bool) (motive_2 := fun _ => Bool) _ _ _ _ _ _ _ _ _ _ _ _ r) (textless x) = _
    rw [ih]; rfl
def hashX (d : D) : Int := D.rec (motive_1 := fun _ => Int) (motive_2 := fun _ => List Int) (reduceHash 0xFCA86420) (fun b => hashInt (Bool.rec (motive := fun _ => Int) 0 1 b)) (fun i => hashInt i) (fun _ => 0) (fun _ h => reduceHash (Builtin.Tuple.tupleHashOf h)) (fun _ _ => 0) (fun _ _ _ _ => 0) (fun _ => 0) (fun _ => 0) (fun _ => 0) [] (fun _ _ a b => a :: b) d
theorem hashX_l (xs : List D) : D.rec_1 (motive_1 := fun _ => Int) (motive_2 := fun _ => List Int) (reduceHash 0xFCA86420) (fun b => hashInt (Bool.rec (motive := fun _ => Int) 0 1 b)) (fun i => hashInt i) (fun _ => 0) (fun _ h => reduceHash (Builtin.Tuple.tupleHashOf h)) (fun _ _ => 0) (fun _ _ _ _ => 0) (fun _ => 0) (fun _ => 0) (fun _ => 0) [] (fun _ _ a b => a :: b) xs = xs.map hashX := by
  induction xs with
  | nil => rfl
  | cons x r ih =>
    show hashX x :: (D.rec_1 (motive_1 := fun _ => Int) (motive_2 := fun _ => List Int) _ _ _ _ _ _ _ _ _ _ _ _ r) = _
    rw [ih]; rfl
mutual
theorem hashX_is (w : World) : ∀ (d : D) (k : NestedKey), textless d = true → skOf d = some k → k.hash w = hashX d
  | .non, k, _, h => by simp [skOf] at h; subst h; rw [NestedKey.hash]; rfl
  | .bl b, k, _, h => by simp [skOf] at h; subst h; rw [NestedKey.hash]; cases b <;> rfl
  | .int i, k, _, h => by simp [skOf] at h; subst h; rw [NestedKey.hash]; rfl
  | .str _, _, h, _ => nomatch h
  | .tup xs, k, t, h => by
    simp only [skOf, Option.map_eq_some_iff] at h
    obtain ⟨ks, e, rfl⟩ := h
    rw [NestedKey.hash, hashesX_is w xs ks ((textless_l xs).symm.trans t) e, ← hashX_l xs]; rfl
  | .lst _, _, h, _ => nomatch h
  | .dct _ _, _, h, _ => nomatch h
  | .ob _, _, h, _ => nomatch h
  | .adr _, _, h, _ => nomatch h
  | .ty _, _, h, _ => nomatch h
theorem hashesX_is (w : World) : ∀ (d : List D) (k : List NestedKey), textlesss d = true → skOfs d = some k → NestedKey.hashes w k = d.map hashX
  | [], k, _, h => by simp [skOfs] at h; subst h; rw [NestedKey.hashes]; rfl
  | x :: xs, k, t, h => by
    obtain ⟨t1, t2⟩ := bAnd (b := textlesss xs) t
    simp only [skOfs] at h
    split at h
    · rename_i k1 ks e1 e2
      cases h
      rw [NestedKey.hashes, hashX_is w x k1 t1 e1, hashesX_is w xs ks t2 e2]; rfl
    · cases h
end
def fII (i : Int) (k : Int → Bool) : Bool := Int.rec (motive := fun _ => Bool) (fun n => Nat.rec (motive := fun _ => Bool) (k (.ofNat 0)) (fun m _ => k (.ofNat (Nat.succ m))) n) (fun n => Nat.rec (motive := fun _ => Bool) (k (.negSucc 0)) (fun m _ => k (.negSucc (Nat.succ m))) n) i
theorem fII_is (i : Int) (k : Int → Bool) : fII i k = k i := by
  cases i with
  | ofNat n => cases n <;> rfl
  | negSucc n => cases n <;> rfl
def freshI (h : Int) (acc : List Int) : Bool := List.rec (motive := fun _ => Bool) true (fun x _ ih => Bool.rec (motive := fun _ => Bool) ih false (eqI x h)) acc
theorem freshI_ok {h : Int} : ∀ {acc : List Int}, freshI h acc = true → h ∉ acc
  | [], _ => List.not_mem_nil
  | x :: r, f => by
    have f : Bool.rec (motive := fun _ => Bool) (freshI h r) false (eqI x h) = true := f
    rw [eqI_is] at f
    by_cases e : x = h
    · rw [decide_eq_true e] at f; cases f
    · rw [decide_eq_false e] at f
      rw [List.mem_cons, not_or]
      exact ⟨fun z => e z.symm, freshI_ok f⟩
def nodX (ks : List D) : List Int → Bool := List.rec (motive := fun _ => List Int → Bool) (fun _ => true) (fun d _ ih acc => Bool.rec (motive := fun _ => Bool) false (Bool.rec (motive := fun _ => Bool) false (fII (hashX d) fun h => Bool.rec (motive := fun _ => Bool) false (ih (h :: acc)) (freshI h acc)) (textless d)) (isKey d)) ks
theorem nodX_ok : ∀ (ks : List D) (acc : List Int), nodX ks acc = true → (∀ w : World, (ks.filterMap skOf).map (NestedKey.hash w) = ks.map hashX) ∧ (ks.map hashX).Nodup ∧ ∀ x ∈ acc, x ∉ ks.map hashX
  | [], _, _ => ⟨fun _ => rfl, List.nodup_nil, fun _ _ => List.not_mem_nil⟩
  | d :: r, acc, h => by
    obtain ⟨h1, h2⟩ := bAnd h
    obtain ⟨h3, h4⟩ := bAnd h2
    rw [fII_is] at h4
    obtain ⟨h5, h6⟩ := bAnd h4
    obtain ⟨g1, g2, g3⟩ := nodX_ok r _ h6
    obtain ⟨k, hk⟩ := isKey_ok h1
    refine ⟨fun w => ?_, ?_, fun x hx => ?_⟩
    · rw [List.filterMap_cons, hk.1, List.map_cons, List.map_cons, g1 w, hashX_is w d k h3 hk.1]
    · rw [List.map_cons, List.nodup_cons]
      exact ⟨g3 _ List.mem_cons_self, g2⟩
    · rw [List.map_cons, List.mem_cons, not_or]
      exact ⟨fun z => freshI_ok h5 (z ▸ hx), g3 x (List.mem_cons_of_mem _ hx)⟩
def xDictO : xOA := fun ds s k => oneA ds fun d => dctX d s fun ks vs => ifB (nodX ks []) (newX (.dct ks vs) s k)
theorem so_dictO : SOA cDictO xDictO := by
  refine ⟨fun {ds L s k a R} al hk he => ?_⟩
  obtain ⟨d, rfl, h1⟩ := oneA_ok he
  obtain ⟨ks, vs, e, h2⟩ := dctX_ok al h1
  obtain ⟨h3, h4⟩ := ifB_ok h2
  obtain ⟨s2, h5, al2⟩ := newX_ok h4 al
  obtain ⟨g1, g2, _⟩ := nodX_ok ks [] h3
  exact ⟨ks, vs, e, fun w => by rw [g1 w]; exact g2, hk _ _ s2 al2 h5⟩
/-! ### products -/
theorem so_mul : SO2 oMul xMul := by
  refine ⟨fun {p q L s k a R} al hk he => ?_⟩
  obtain ⟨i, rfl, h0⟩ := dInt_ok he
  obtain ⟨j, rfl, h1⟩ := dInt_ok h0
  obtain ⟨h2, h3⟩ := ifB_ok h1
  obtain ⟨h4, h5⟩ := ifB_ok h3
  rw [fI_is] at h5
  have := smallI_ok h2
  have := smallI_ok h4
  exact ⟨.inl ⟨by omega, by omega⟩, hk _ L s al h5⟩
def iftX (t u v : xT) : xT := fun r s k => t r s fun b s1 => br b (u r s1 k) (v r s1 k)
theorem st_ifT {N : Nat} {t u v : tT} {e f g : xT} (h : ST N t e) (hf : ST N u f) (hg : ST N v g) : ST N (tIfT t u v) (iftX e f g) := by
  refine ⟨fun {ρ L r s k a R} ag al hk he => h.ok ag al (fun b L1 s1 al1 h1 => ?_) he⟩
  rcases br_ok h1 with ⟨rfl, h1⟩ | ⟨rfl, h1⟩
  · rw [if_pos rfl]; exact hf.ok ag al1 hk h1
  · rw [if_neg Bool.false_ne_true]; exact hg.ok ag al1 hk h1
end
end L2.DL

set_option Elab.async false
set_option linter.all false
set_option maxRecDepth 100000
set_option maxHeartbeats 1000000
/-! SM: deeds, read: deeds_of growth passed is_like look_at_stand look_at_deed deeds_at after told. -/
namespace L2.DL
open PySem PySem.Spec PyProof.Rows
/-- a value that is one of some deeds -/
def likeB (v : D) (some : List D) : Bool := match v with
  | .tup [.str _] => inD v some
  | .tup [.str _, n] => isWithinB n (-2) 3 && inD v some
  | _ => false
def F_deeds_of : FS := pureF fun ds R => ∃ (P : Pl) (S : Sd), ds = [P.d, S.d] ∧ P.ok ∧ Fits P S ∧ R (.lst (deedsL P S))
def F_growth : FS := pureF fun ds R => ∃ (S : Sd) (e : Dd), ds = [S.d, e.d] ∧ R (.int (match e with | .hide n => n | .lay n => S.hand + n | .lean => 1 | .off => -1 | _ => 0))
def F_passed : FS := pureF fun ds R => ∃ (P : Pl) (S : Sd) (e : Dd), ds = [P.d, S.d, e.d] ∧ P.ok ∧ Fits P S ∧ Poss P S e ∧ R (tellD (doneS P S e))
def F_is_like : FS := pureF fun ds R => ∃ (v : D) (xs : List Dd), ds = [v, .lst (xs.map Dd.d)] ∧ fitD 30 v = true ∧ R (.bl (likeB v (xs.map Dd.d)))
def F_look_at_stand : FS := pureF fun ds R => ∃ (P : Pl) (x : D), ds = [P.d, x] ∧ P.ok ∧ fitD 30 x = true ∧ fitsB P x = true ∧ R .non
def F_look_at_deed : FS := pureF fun ds R => ∃ (P : Pl) (S : Sd) (e : Dd), ds = [P.d, S.d, e.d] ∧ P.ok ∧ fitsB P S.d = true ∧ Poss P S e ∧ R .non
def F_deeds_at : FS := pureF fun ds R => ∃ (P : Pl) (S : Sd), ds = [P.d, S.d] ∧ P.ok ∧ fitsB P S.d = true ∧ R (.lst (deedsL P S))
def F_after : FS := pureF fun ds R => ∃ (P : Pl) (S : Sd) (e : Dd), ds = [P.d, S.d, e.d] ∧ P.ok ∧ fitsB P S.d = true ∧ Poss P S e ∧ R (doneS P S e).1.d
def F_told : FS := pureF fun ds R => ∃ (P : Pl) (S : Sd) (e : Dd), ds = [P.d, S.d, e.d] ∧ P.ok ∧ fitsB P S.d = true ∧ Poss P S e ∧ R (.str (doneS P S e).2.1)
/-- deeds_of: 0 plan, 1 stand, 2 off, 3 want, 4 left, 5 hand, 6 leans, 7 locked, 8 most, 9 spread, 10 leaning, 11 found, 12 weight, 13 more -/
def t_deeds_of : tS := (tSq (tAs (tV 1) (gTpD 6 (gConsD (gNm 2) (gConsD (gNm 3) (gConsD (gNm 4) (gConsD (gNm 5) (gConsD (gNm 6) (gConsD (gNm 7) gNilD)))))))) (tSq (tAs (tB2 oIx (tV 0) (tK (.int 1))) (gTpD 3 (gConsD (gNm 8) (gConsD (gNm 9) (gConsD (gNm 10) gNilD))))) (tSq (tIfD (tTru (tV 7)) (tRt (tLstD (tConsA (tTupD (tConsA (tK (.str "free")) tNilA)) tNilA))) tNx) (tSq (tSt (tLcD (iRg2 (tConsA (tK (.int 1)) (tConsA (tB2 oAdd (tV 8) (tK (.int 1))) tNilA))) (c1 12) tYesD (tTupD (tConsA (tK (.str "hide")) (tConsA (tV 12) tNilA))) [12]) 11) (tSq (tIfD (tTB (tB2 oGt (tV 5) (tK (.int 0)))) (tSt (tB2 oAdd (tV 11) (tLcD (iRg2 (tConsA (tB1 oNeg (tV 9)) (tConsA (tB2 oAdd (tV 9) (tK (.int 1))) tNilA))) (c1 13) (tTB (tB2 oGt (tB2 oAdd (tV 5) (tV 13)) (tK (.int 0)))) (tTupD (tConsA (tK (.str "lay")) (tConsA (tV 13) tNilA))) [13])) 11) tNx) (tSq (tIfD (tTru (tV 10)) (tSt (tB2 oAdd (tV 11) (tLstD (tConsA (tIfE (tTru (tV 6)) (tTupD (tConsA (tK (.str "off")) tNilA)) (tTupD (tConsA (tK (.str "lean")) tNilA))) tNilA))) 11) tNx) (tSq (tIfD (tTB (tB2 oEq (tV 3) (tK (.int 0)))) (tSt (tB2 oAdd (tV 11) (tLcD (iRg2 (tConsA (tK (.int 1)) (tConsA (tB2 oAdd (tV 8) (tK (.int 1))) tNilA))) (c1 12) tYesD (tTupD (tConsA (tK (.str "read")) (tConsA (tV 12) tNilA))) [12])) 11) tNx) (tRt (tB2 oAdd (tV 11) (tLstD (tConsA (tTupD (tConsA (tK (.str "wait")) tNilA)) tNilA)))))))))))
abbrev n_deeds_of : Nat := 14
/-- growth: 0 stand, 1 deed -/
def t_growth : tS := (tSq (tIfD (tTB (tB2 oEq (tB2 oIx (tV 1) (tK (.int 0))) (tK (.str "hide")))) (tRt (tB2 oIx (tV 1) (tK (.int 1)))) tNx) (tSq (tIfD (tTB (tB2 oEq (tB2 oIx (tV 1) (tK (.int 0))) (tK (.str "lay")))) (tRt (tB2 oAdd (tB2 oIx (tV 0) (tK (.int 3))) (tB2 oIx (tV 1) (tK (.int 1))))) tNx) (tRt (tDgt [("lean", 1), ("off", (-1))] (tB2 oIx (tV 1) (tK (.int 0))) (tK (.int 0))))))
abbrev n_growth : Nat := 2
/-- passed: 0 plan, 1 stand, 2 deed, 3 tolerance, 4 wait, 5 way, 6 off, 7 want, 8 left, 9 hand, 10 leans, 11 locked, 12 unpaid_so -/
def t_passed : tS := (tSq (tAs (tB2 oIx (tV 0) (tK (.int 0))) (gTpD 3 (gConsD (gNm 3) (gConsD (gNm 4) (gConsD (gNm 5) gNilD))))) (tSq (tAs (tV 1) (gTpD 6 (gConsD (gNm 6) (gConsD (gNm 7) (gConsD (gNm 8) (gConsD (gNm 9) (gConsD (gNm 10) (gConsD (gNm 11) gNilD)))))))) (tSq (tIfD (tTB (tB2 oEq (tB2 oIx (tV 2) (tK (.int 0))) (tK (.str "free")))) (tRt (tTupD (tConsA (tK c_BEGIN) (tConsA (tK (.str "")) (tConsA (tK (.int 0)) tNilA))))) tNx) (tSq (tIfD (tTB (tB2 oEq (tB2 oIx (tV 2) (tK (.int 0))) (tK (.str "read")))) (tRt (tTupD (tConsA (tTupD (tConsA (tV 6) (tConsA (tB2 oIx (tV 2) (tK (.int 1))) (tConsA (tV 4) (tConsA (tB2 oIx (tV 2) (tK (.int 1))) (tConsA (tV 10) (tConsA (tK (.bl false)) tNilA))))))) (tConsA (tK (.str "")) (tConsA (tK (.int 0)) tNilA))))) tNx) (tSq (tSt (tB2 oAdd (tV 6) (tCaP 2 F_growth (tConsA (tV 1) (tConsA (tV 2) tNilA)))) 6) (tSq (tSt (tIfE (tTB (tB2 oEq (tB2 oIx (tV 2) (tK (.int 0))) (tK (.str "lay")))) (tK (.int 0)) (tV 9)) 9) (tSq (tIfD (tTB (tB2 oIn (tB2 oIx (tV 2) (tK (.int 0))) (tTupD (tConsA (tK (.str "lean")) (tConsA (tK (.str "off")) tNilA))))) (tSt (tNtV (tV 10)) 10) tNx) (tSq (tSt (tIfE (tTB (tB2 oEq (tB2 oIx (tV 2) (tK (.int 0))) (tK (.str "hide")))) (tB2 oIx (tV 2) (tK (.int 1))) (tK (.int 0))) 12) (tSq (tIfD (tAn (tTB (tB2 oGt (tV 7) (tK (.int 0)))) (tAn (tTB (tB2 oIn (tB2 oIx (tV 2) (tK (.int 0))) (tK c_GROWING))) (tTB (tCh oLe oLe (tB2 oSub (tV 7) (tV 3)) (tV 6) (tB2 oAdd (tV 7) (tV 3)))))) (tSq (tSt (tIfE (tTB (tB2 oEq (tV 5) (tK (.str "each")))) (tK (.int 0)) (tB2 oSub (tV 6) (tV 7))) 6) (tRt (tTupD (tConsA (tTupD (tConsA (tV 6) (tConsA (tK (.int 0)) (tConsA (tK (.int 0)) (tConsA (tK (.int 0)) (tConsA (tV 10) (tConsA (tK (.bl false)) tNilA))))))) (tConsA (tK (.str "accepts")) (tConsA (tB2 oSub (tV 12) (tV 9)) tNilA)))))) tNx) (tSq (tIfD (tAn (tTB (tB2 oGt (tV 7) (tK (.int 0)))) (tTB (tB2 oGt (tV 8) (tK (.int 1))))) (tRt (tTupD (tConsA (tTupD (tConsA (tV 6) (tConsA (tV 7) (tConsA (tB2 oSub (tV 8) (tK (.int 1))) (tConsA (tV 9) (tConsA (tV 10) (tConsA (tK (.bl false)) tNilA))))))) (tConsA (tK (.str "")) (tConsA (tV 12) tNilA))))) tNx) (tSq (tIfD (tOr (tTB (tB2 oGt (tV 7) (tK (.int 0)))) (tNt (tTB (tCh oLe oLe (tB1 oNeg (tV 3)) (tV 6) (tV 3))))) (tRt (tTupD (tConsA (tK c_LOCKED) (tConsA (tK (.str "calls")) (tConsA (tV 12) tNilA))))) tNx) (tRt (tTupD (tConsA (tTupD (tConsA (tV 6) (tConsA (tK (.int 0)) (tConsA (tK (.int 0)) (tConsA (tK (.int 0)) (tConsA (tV 10) (tConsA (tK (.bl false)) tNilA))))))) (tConsA (tK (.str "")) (tConsA (tV 12) tNilA))))))))))))))))
abbrev n_passed : Nat := 13
/-- is_like: 0 value, 1 some -/
def t_is_like : tS := (tSq (tIfD (tOr (tNt (tTru (tCa cIsi (tConsA (tV 0) (tConsA (tK (.ty "tuple")) tNilA))))) (tOr (tTB (tB2 oNotIn (tCa cLen (tConsA (tV 0) tNilA)) (tTupD (tConsA (tK (.int 1)) (tConsA (tK (.int 2)) tNilA))))) (tNt (tTru (tCa cIsi (tConsA (tB2 oIx (tV 0) (tK (.int 0))) (tConsA (tK (.ty "str")) tNilA))))))) (tRt (tK (.bl false))) tNx) (tRt (tAnV (tOrV (tB2 oEq (tCa cLen (tConsA (tV 0) tNilA)) (tK (.int 1))) (tCaP 3 F_is_within (tConsA (tB2 oIx (tV 0) (tK (.int 1))) (tConsA (tB1 oNeg (tK (.int 2))) (tConsA (tK (.int 3)) tNilA))))) (tB2 oIn (tV 0) (tV 1)))))
abbrev n_is_like : Nat := 2
/-- look_at_stand: 0 plan, 1 stand -/
def t_look_at_stand : tS := (tIfD (tNt (tTru (tCaP 2 F_fits (tConsA (tV 0) (tConsA (tV 1) tNilA))))) tNo tNx)
abbrev n_look_at_stand : Nat := 2
/-- look_at_deed: 0 plan, 1 stand, 2 deed -/
def t_look_at_deed : tS := (tSq (tDp (tCaP 1 F_look_at_plan (tConsA (tV 0) tNilA))) (tSq (tDp (tCaP 2 F_look_at_stand (tConsA (tV 0) (tConsA (tV 1) tNilA)))) (tIfD (tNt (tTru (tCaP 2 F_is_like (tConsA (tV 2) (tConsA (tCaP 2 F_deeds_of (tConsA (tV 0) (tConsA (tV 1) tNilA))) tNilA))))) tNo tNx)))
abbrev n_look_at_deed : Nat := 3
/-- deeds_at: 0 plan, 1 stand -/
def t_deeds_at : tS := (tSq (tDp (tCaP 1 F_look_at_plan (tConsA (tV 0) tNilA))) (tSq (tDp (tCaP 2 F_look_at_stand (tConsA (tV 0) (tConsA (tV 1) tNilA)))) (tRt (tCaP 2 F_deeds_of (tConsA (tV 0) (tConsA (tV 1) tNilA))))))
abbrev n_deeds_at : Nat := 2
/-- after: 0 plan, 1 stand, 2 deed -/
def t_after : tS := (tSq (tDp (tCaP 3 F_look_at_deed (tConsA (tV 0) (tConsA (tV 1) (tConsA (tV 2) tNilA))))) (tRt (tB2 oIx (tCaP 3 F_passed (tConsA (tV 0) (tConsA (tV 1) (tConsA (tV 2) tNilA)))) (tK (.int 0)))))
abbrev n_after : Nat := 3
/-- told: 0 plan, 1 stand, 2 deed -/
def t_told : tS := (tSq (tDp (tCaP 3 F_look_at_deed (tConsA (tV 0) (tConsA (tV 1) (tConsA (tV 2) tNilA))))) (tRt (tB2 oIx (tCaP 3 F_passed (tConsA (tV 0) (tConsA (tV 1) (tConsA (tV 2) tNilA)))) (tK (.int 1)))))
abbrev n_told : Nat := 3
section
variable {R : QE} {RE : QX} {v x : D} {P : Pl} {S : Sd} {e : Dd}
theorem u_deeds_of (h : P.ok) (f : Fits P S) (r : R (.lst (deedsL P S)) []) : F_deeds_of [P.d, S.d] [] R RE := ⟨rfl, P, S, rfl, h, f, r⟩
theorem u_growth (r : R (.int (match e with | .hide n => n | .lay n => S.hand + n | .lean => 1 | .off => -1 | _ => 0)) []) : F_growth [S.d, e.d] [] R RE := ⟨rfl, S, e, rfl, r⟩
theorem u_passed (h : P.ok) (f : Fits P S) (p : Poss P S e) (r : R (tellD (doneS P S e)) []) : F_passed [P.d, S.d, e.d] [] R RE := ⟨rfl, P, S, e, rfl, h, f, p, r⟩
theorem u_look_stand (h : P.ok) (f : fitD 30 x = true) (g : fitsB P x = true) (r : R .non []) : F_look_at_stand [P.d, x] [] R RE := ⟨rfl, P, x, rfl, h, f, g, r⟩
theorem u_look_deed (h : P.ok) (g : fitsB P S.d = true) (p : Poss P S e) (r : R .non []) : F_look_at_deed [P.d, S.d, e.d] [] R RE := ⟨rfl, P, S, e, rfl, h, g, p, r⟩
theorem u_deeds_at (h : P.ok) (f : fitsB P S.d = true) (r : R (.lst (deedsL P S)) []) : F_deeds_at [P.d, S.d] [] R RE := ⟨rfl, P, S, rfl, h, f, r⟩
theorem u_after (h : P.ok) (g : fitsB P S.d = true) (p : Poss P S e) (r : R (doneS P S e).1.d []) : F_after [P.d, S.d, e.d] [] R RE := ⟨rfl, P, S, e, rfl, h, g, p, r⟩
theorem u_told (h : P.ok) (g : fitsB P S.d = true) (p : Poss P S e) (r : R (.str (doneS P S e).2.1) []) : F_told [P.d, S.d, e.d] [] R RE := ⟨rfl, P, S, e, rfl, h, g, p, r⟩
theorem deedsL_dds : ∃ xs : List Dd, deedsL P S = xs.map Dd.d := by
  have h : ∀ l : List D, (∀ x ∈ l, ∃ e : Dd, x = e.d) → ∃ xs : List Dd, l = xs.map Dd.d := by
    intro l
    induction l with
    | nil => exact fun _ => ⟨[], rfl⟩
    | cons y l ih =>
      intro hl
      obtain ⟨e, rfl⟩ := hl y List.mem_cons_self
      obtain ⟨xs, rfl⟩ := ih fun z hz => hl z (List.mem_cons_of_mem _ hz)
      exact ⟨e :: xs, rfl⟩
  exact h _ fun x hx => let ⟨e, h, _⟩ := mem_deedsL.mp hx; ⟨e, h⟩
theorem u_is_like (f : fitD 30 v = true) (r : R (.bl (likeB v (deedsL P S))) []) : F_is_like [v, .lst (deedsL P S)] [] R RE := by
  obtain ⟨xs, e⟩ := deedsL_dds (P := P) (S := S)
  rw [e] at r ⊢
  exact ⟨rfl, v, xs, rfl, f, r⟩
theorem low_deeds {k : Nat} : lowD k (.lst (deedsL P S)) := by
  obtain ⟨xs, e⟩ := deedsL_dds (P := P) (S := S)
  rw [e]
  show lowDs k _
  exact lowDs_map fun x => fit_low _ 2 _ (dd_fit x)
theorem low_sd {k : Nat} : lowD k S.d := fit_low _ 30 _ Sd.fit
theorem low_dd {k : Nat} : lowD k e.d := fit_low _ 2 _ (dd_fit e)
end
section
local macro_rules | `(tactic| walk_at "d") => `(tactic| (first
  | with_reducible refine Stp.go ?_
  | with_reducible refine And.intro ?_ ?_
  | with_reducible refine fun _ => ?_
  | ((with_reducible refine s_iteY ?_); refine And.intro rfl ?_)
  | ((with_reducible refine s_iteN ?_); refine And.intro rfl ?_)
  | with_reducible refine iteB (fun _ => ?_) (fun _ => ?_)
  | with_reducible refine i_eq ?_ ?_ ?_
  | with_reducible refine i_ne ?_ ?_ ?_
  | with_reducible refine rtp ?_ ?_
  | with_reducible refine u_isB ?_ ?_
  | with_reducible refine u_isI ?_ ?_
  | with_reducible refine u_isT ?_ ?_
  | with_reducible refine u_isS ?_ ?_
  | with_reducible refine u_isL ?_ ?_
  | with_reducible refine u_isLT ?_ ?_
  | with_reducible refine u_is_within ?_ ?_
  | with_reducible refine u_law_int ?_ ?_
  | with_reducible refine u_is_row ?_ ?_
  | with_reducible refine u_law_made ?_ ?_
  | with_reducible refine u_is_program ?_ ?_
  | with_reducible refine u_law_good_program ?_ ?_
  | with_reducible refine u_is_plan ?_ ?_
  | with_reducible refine u_law_good_plan ?_ ?_
  | with_reducible refine u_law_kind ?_ ?_
  | with_reducible refine u_pick0 ?_ ?_ ?_
  | with_reducible refine u_pickG ?_ ?_ ?_ ?_
  | with_reducible refine u_look ?_ ?_
  | with_reducible refine u_fits ?_ ?_ ?_
  | with_reducible refine u_deeds_of ?_ ?_ ?_
  | with_reducible refine u_growth ?_
  | with_reducible refine u_passed ?_ ?_ ?_ ?_
  | with_reducible refine u_look_stand ?_ ?_ ?_ ?_
  | with_reducible refine u_look_deed ?_ ?_ ?_ ?_
  | with_reducible refine u_is_like ?_ ?_
  | with_reducible refine rtm3 ?_ ?_ ?_
  | ((with_reducible refine s_sLst ?_); refine Exists.intro _ (And.intro rfl (Exists.intro _ (And.intro rfl (Exists.intro _ (And.intro (by simp only [List.set_cons_zero, List.set_cons_succ]; rfl) ?_))))))
  | with_reducible refine i_oIC ?_ ?_
  | with_reducible refine i_addS ?_ ?_
  | with_reducible refine i_addT ?_ ?_
  | with_reducible refine i_addL ?_ ?_
  | with_reducible refine i_trS ?_ ?_
  | with_reducible refine i_lenS ?_ ?_
  | with_reducible refine i_slS ?_ ?_
  | with_reducible refine i_r1Q ?_ ?_
  | with_reducible refine i_r2Q ?_ ?_
  | with_reducible refine i_lsR1Q ?_ ?_
  | with_reducible refine i_lsR2Q ?_ ?_
  | with_reducible refine i_inT ?_ ?_ ?_
  | with_reducible refine i_inL ?_ ?_ ?_
  | with_reducible refine i_ninT ?_ ?_ ?_
  | with_reducible refine i_ninL ?_ ?_ ?_
  | ((with_reducible refine s_tV ?_); refine Exists.intro _ (And.intro rfl ?_))
  | ((with_reducible refine s_ixT ?_); refine Exists.intro _ (And.intro rfl ?_))
  | ((with_reducible refine s_gNm ?_); refine Exists.intro _ (And.intro (by simp only [wipeD, setsD, List.set_cons_zero, List.set_cons_succ]; rfl) ?_))
  | ((with_reducible refine s_stQ ?_); refine Exists.intro _ (And.intro (by simp only [wipeD, setsD, List.set_cons_zero, List.set_cons_succ]; rfl) ?_))
  | ((with_reducible refine s_c1 ?_); refine Exists.intro _ (And.intro (by simp only [wipeD, setsD, List.set_cons_zero, List.set_cons_succ]; rfl) ?_))
  | ((with_reducible refine s_p2 ?_); refine Exists.intro _ (And.intro (by simp only [wipeD, setsD, List.set_cons_zero, List.set_cons_succ]; rfl) ?_))
  | ((with_reducible refine s_p3 ?_); refine Exists.intro _ (And.intro (by simp only [wipeD, setsD, List.set_cons_zero, List.set_cons_succ]; rfl) ?_))
  | ((with_reducible refine s_cN' ?_); refine And.intro rfl (Exists.intro _ (And.intro (by simp only [wipeD, setsD, List.set_cons_zero, List.set_cons_succ]; rfl) ?_)))
  | ((with_reducible refine s_ixL ?_); refine Exists.intro _ (And.intro rfl ?_))
  | ((with_reducible refine s_trO ?_); refine Exists.intro _ (And.intro rfl ?_))
  | ((with_reducible refine s_lenO ?_); refine Exists.intro _ (And.intro rfl ?_))
  | ((with_reducible refine s_listO ?_); refine Exists.intro _ (And.intro rfl ?_))
  | ((with_reducible refine s_ixO ?_); refine Exists.intro _ (And.intro rfl (Exists.intro _ (And.intro rfl ?_))))
  | ((with_reducible refine s_app1 ?_); refine And.intro rfl ?_)
  | ((with_reducible refine s_cN ?_); refine And.intro rfl ?_)
  | ((with_reducible refine s_dgtY ?_); refine Exists.intro _ (And.intro rfl ?_))
  | ((with_reducible refine i_dgtN ?_ ?_); exact rfl)))
local macro_rules | `(tactic| walk_at "ds") => `(tactic| ((try simp only [startD, List.map_cons, List.map_nil, List.length_cons, List.length_nil, List.replicate, Nat.reduceAdd, Nat.reduceSub, List.cons_append, List.nil_append]); repeat' walk_at "d"))
/-- side conditions -/
local macro_rules | `(tactic| walk_at "e") => `(tactic| (first
  | with_reducible assumption
  | ((with_reducible show fitD _ _ = true); (first | rfl | decide +kernel | (exact fit_mono _ 30 _ (by decide) (by assumption))))
  | ((with_reducible show lowDs _ _); (repeat' first | trivial | (exact fit_low _ 30 _ (by assumption)) | refine And.intro ?_ ?_); done)
  | ((with_reducible show lowO _ _); (show lowDs _ _); (repeat' first | trivial | (exact fit_low _ 30 _ (by assumption)) | refine And.intro ?_ ?_); done)
  | ((with_reducible show (_ : Int) < _); (first | decide | omega))
  | ((with_reducible show (_ : Int) ≤ _); (first | decide | omega))
  | ((with_reducible show lowD _ _); (first | trivial | (exact fit_low _ 30 _ (by assumption))))
  | ((with_reducible show List.length _ = _); simp; done)
  | ((with_reducible show _ ≤ sizeLine); rw [sizeLine_eq]; simp; done)
  | ((with_reducible show List.all _ _ = true); (first | rfl | decide +kernel | (simp [fitD]; done)))
  | skip))
local macro_rules | `(tactic| walk_at "de") => `(tactic| (walk_at "ds" <;> walk_at "e"))


theorem rd_look_at_stand (ds : List D) (R : QE) (h : ∃ (P : Pl) (x : D), ds = [P.d, x] ∧ P.ok ∧ fitD 30 x = true ∧ fitsB P x = true ∧ R .non []) : t_look_at_stand (endP R) (startD 2 ds) [] := by
  obtain ⟨P, x, rfl, hP, fx, hf, r⟩ := h
  have f := P.fit
  unfold t_look_at_stand
  walk_at "de"
  all_goals (exfalso; clear r; simp_all; done)
theorem rd_growth (ds : List D) (R : QE) (h : ∃ (S : Sd) (e : Dd), ds = [S.d, e.d] ∧ R (.int (match e with | .hide n => n | .lay n => S.hand + n | .lean => 1 | .off => -1 | _ => 0)) []) : t_growth (endP R) (startD 2 ds) [] := by
  obtain ⟨S, e, rfl, r⟩ := h
  unfold t_growth
  cases e <;> walk_at "de"
  all_goals first | exact r | (exfalso; rename_i h; revert h; decide +kernel) | skip
theorem fm_low {f : D → Option D} {xs : List D} {k : Nat} (h : ∀ x ∈ xs, ∀ y, f x = some y → lowD k y) : lowDs k (xs.filterMap f) := lowDs_of fun y hy => by
  obtain ⟨x, hx, e⟩ := List.mem_filterMap.mp hy
  exact h x hx y e
theorem rangeD_low {lo : Int} {n k : Nat} {x : D} (h : x ∈ rangeD lo n) : lowD k x := by obtain ⟨t, rfl⟩ := range_int h; trivial
theorem rd_deeds_of (ds : List D) (R : QE) (h : ∃ (P : Pl) (S : Sd), ds = [P.d, S.d] ∧ P.ok ∧ Fits P S ∧ R (.lst (deedsL P S)) []) : t_deeds_of (endP R) (startD 14 ds) [] := by
  obtain ⟨P, S, rfl, hP, hS, r⟩ := h
  have e := fun hl => deedsQ_eq hP hS hl
  have m0 := hP.m0
  have m1 := hP.m1
  have s0 := hP.s0
  have s1 := hP.s1
  have lw := low_deeds (P := P) (S := S) (k := 0)
  unfold t_deeds_of
  generalize hU : (tSq (tIfD (tTru (tV 10)) (tSt (tB2 oAdd (tV 11) (tLstD (tConsA (tIfE (tTru (tV 6)) (tTupD (tConsA (tK (.str "off")) tNilA)) (tTupD (tConsA (tK (.str "lean")) tNilA))) tNilA))) 11) tNx) (tSq (tIfD (tTB (tB2 oEq (tV 3) (tK (.int 0)))) (tSt (tB2 oAdd (tV 11) (tLcD (iRg2 (tConsA (tK (.int 1)) (tConsA (tB2 oAdd (tV 8) (tK (.int 1))) tNilA))) (c1 12) tYesD (tTupD (tConsA (tK (.str "read")) (tConsA (tV 12) tNilA))) [12])) 11) tNx) (tRt (tB2 oAdd (tV 11) (tLstD (tConsA (tTupD (tConsA (tK (.str "wait")) tNilA)) tNilA)))))) = U
  walk_at "de"
  · rename_i hl
    unfold deedsL at r
    rw [if_pos hl] at r
    exact r
  rename_i hl
  have e := e hl
  rw [← e] at r lw
  clear e
  unfold deedsQ at r lw
  have hA : ((rangeD 1 (P.most + 1 - 1).toNat).filterMap (fun x => some (D.tup [.str "hide", x]))).length ≤ 3 := Nat.le_trans (List.length_filterMap_le _ _) (by rw [rangeD_length]; omega)
  have hC : ((rangeD 1 (P.most + 1 - 1).toNat).filterMap (fun x => some (D.tup [.str "read", x]))).length ≤ 3 := Nat.le_trans (List.length_filterMap_le _ _) (by rw [rangeD_length]; omega)
  have hB : ((rangeD (-P.spread) (P.spread + 1 - -P.spread).toNat).filterMap (fun x => if 0 < S.hand + isI x then some (D.tup [.str "lay", x]) else none)).length ≤ 5 := Nat.le_trans (List.length_filterMap_le _ _) (by rw [rangeD_length]; omega)
  refine lc_pure (rangeD 1 (P.most + 1 - 1).toNat) (fun x => some (.tup [.str "hide", x])) (by rw [rangeD_length, sizeLine_eq]; omega) (fun x hx Q N hQ hN => ?_) ?_
  · walk_at "de"
    exact hQ _ rfl
  generalize (rangeD 1 (P.most + 1 - 1).toNat).filterMap (fun x => some (D.tup [.str "hide", x])) = A at r lw hA ⊢
  have step : ∀ (B : List D) (x13 : Option D), B = (if S.hand > 0 then (rangeD (-P.spread) (P.spread + 1 - -P.spread).toNat).filterMap (fun x => if 0 < S.hand + isI x then some (D.tup [.str "lay", x]) else none) else []) → B.length ≤ 5 →
      U (endP R) [some P.d, some S.d, some (.int S.off), some (.int S.want), some (.int S.left), some (.int S.hand), some (.bl S.leans), some (.bl S.locked), some (.int P.most), some (.int P.spread), some (.bl P.lean), some (.lst (A ++ B)), none, x13] [] := by
    intro B x13 eB hB
    subst hU
    rw [← eB] at r lw
    clear eB
    walk_at "de"
    all_goals first
      | (rw [sizeLine_eq]; simp only [List.length_append, List.length_cons, List.length_nil]; omega)
      | skip
    all_goals first
      | (with_reducible show lcD _ _ _ _ _ _ _ _)
        refine lc_pure (rangeD 1 (P.most + 1 - 1).toNat) (fun x => some (.tup [.str "read", x])) (by rw [rangeD_length, sizeLine_eq]; omega) (fun x hx Q N hQ hN => ?_) ?_
        · walk_at "de"
          exact hQ _ rfl
        walk_at "de"
      | skip
    all_goals first
      | (rw [sizeLine_eq]; simp only [List.length_append, List.length_cons, List.length_nil]; omega)
      | skip
    all_goals simp_all [eqD]
  clear hU
  walk_at "de"
  · refine lc_pure (rangeD (-P.spread) (P.spread + 1 - -P.spread).toNat) (fun x => if 0 < S.hand + isI x then some (D.tup [.str "lay", x]) else none) (by rw [rangeD_length, sizeLine_eq]; omega) (fun x hx Q N hQ hN => ?_) ?_
    · obtain ⟨t, rfl⟩ := range_int hx
      walk_at "de"
      · rename_i hh
        have hh : 0 < S.hand + t := by simpa using hh
        exact hQ _ (by simp [isI, hh])
      · rename_i hh
        have hh : ¬ 0 < S.hand + t := by simpa using hh
        exact hN (by simp [isI, hh])
    · rename_i hh
      walk_at "de"
      · rw [sizeLine_eq]; omega
      · exact step _ _ (by rw [if_pos (by simpa using hh)]) hB
  · rename_i hh
    have h := step [] none (by rw [if_neg (by simpa using hh)]) (by simp)
    rw [List.append_nil] at h
    exact h
end
end L2.DL

set_option Elab.async false
set_option linter.all false
set_option maxRecDepth 100000
set_option maxHeartbeats 4000000
/-! SN: what a deed does, read. -/
namespace L2.DL
open PySem PySem.Spec PyProof.Rows
section
local macro_rules | `(tactic| walk_at "d") => `(tactic| (first
  | with_reducible refine Stp.go ?_
  | with_reducible refine And.intro ?_ ?_
  | with_reducible refine fun _ => ?_
  | ((with_reducible refine s_iteY ?_); refine And.intro rfl ?_)
  | ((with_reducible refine s_iteN ?_); refine And.intro rfl ?_)
  | with_reducible refine iteB (fun _ => ?_) (fun _ => ?_)
  | with_reducible refine i_eq ?_ ?_ ?_
  | with_reducible refine i_ne ?_ ?_ ?_
  | with_reducible refine rtp ?_ ?_
  | with_reducible refine u_isB ?_ ?_
  | with_reducible refine u_isI ?_ ?_
  | with_reducible refine u_isT ?_ ?_
  | with_reducible refine u_isS ?_ ?_
  | with_reducible refine u_isL ?_ ?_
  | with_reducible refine u_isLT ?_ ?_
  | with_reducible refine u_is_within ?_ ?_
  | with_reducible refine u_law_int ?_ ?_
  | with_reducible refine u_is_row ?_ ?_
  | with_reducible refine u_law_made ?_ ?_
  | with_reducible refine u_is_program ?_ ?_
  | with_reducible refine u_law_good_program ?_ ?_
  | with_reducible refine u_is_plan ?_ ?_
  | with_reducible refine u_law_good_plan ?_ ?_
  | with_reducible refine u_law_kind ?_ ?_
  | with_reducible refine u_pick0 ?_ ?_ ?_
  | with_reducible refine u_pickG ?_ ?_ ?_ ?_
  | with_reducible refine u_look ?_ ?_
  | with_reducible refine u_fits ?_ ?_ ?_
  | with_reducible refine u_deeds_of ?_ ?_ ?_
  | with_reducible refine u_growth ?_
  | with_reducible refine u_passed ?_ ?_ ?_ ?_
  | with_reducible refine u_look_stand ?_ ?_ ?_ ?_
  | with_reducible refine u_look_deed ?_ ?_ ?_ ?_
  | with_reducible refine u_is_like ?_ ?_
  | with_reducible refine rtm3 ?_ ?_ ?_
  | ((with_reducible refine s_sLst ?_); refine Exists.intro _ (And.intro rfl (Exists.intro _ (And.intro rfl (Exists.intro _ (And.intro (by simp only [List.set_cons_zero, List.set_cons_succ]; rfl) ?_))))))
  | with_reducible refine i_oIC ?_ ?_
  | with_reducible refine i_addS ?_ ?_
  | with_reducible refine i_addT ?_ ?_
  | with_reducible refine i_addL ?_ ?_
  | with_reducible refine i_trS ?_ ?_
  | with_reducible refine i_lenS ?_ ?_
  | with_reducible refine i_slS ?_ ?_
  | with_reducible refine i_r1Q ?_ ?_
  | with_reducible refine i_r2Q ?_ ?_
  | with_reducible refine i_lsR1Q ?_ ?_
  | with_reducible refine i_lsR2Q ?_ ?_
  | with_reducible refine i_inT ?_ ?_ ?_
  | with_reducible refine i_inL ?_ ?_ ?_
  | with_reducible refine i_ninT ?_ ?_ ?_
  | with_reducible refine i_ninL ?_ ?_ ?_
  | ((with_reducible refine s_tV ?_); refine Exists.intro _ (And.intro rfl ?_))
  | ((with_reducible refine s_ixT ?_); refine Exists.intro _ (And.intro rfl ?_))
  | ((with_reducible refine s_gNm ?_); refine Exists.intro _ (And.intro (by simp only [wipeD, setsD, List.set_cons_zero, List.set_cons_succ]; rfl) ?_))
  | ((with_reducible refine s_stQ ?_); refine Exists.intro _ (And.intro (by simp only [wipeD, setsD, List.set_cons_zero, List.set_cons_succ]; rfl) ?_))
  | ((with_reducible refine s_c1 ?_); refine Exists.intro _ (And.intro (by simp only [wipeD, setsD, List.set_cons_zero, List.set_cons_succ]; rfl) ?_))
  | ((with_reducible refine s_p2 ?_); refine Exists.intro _ (And.intro (by simp only [wipeD, setsD, List.set_cons_zero, List.set_cons_succ]; rfl) ?_))
  | ((with_reducible refine s_p3 ?_); refine Exists.intro _ (And.intro (by simp only [wipeD, setsD, List.set_cons_zero, List.set_cons_succ]; rfl) ?_))
  | ((with_reducible refine s_cN' ?_); refine And.intro rfl (Exists.intro _ (And.intro (by simp only [wipeD, setsD, List.set_cons_zero, List.set_cons_succ]; rfl) ?_)))
  | ((with_reducible refine s_ixL ?_); refine Exists.intro _ (And.intro rfl ?_))
  | ((with_reducible refine s_trO ?_); refine Exists.intro _ (And.intro rfl ?_))
  | ((with_reducible refine s_lenO ?_); refine Exists.intro _ (And.intro rfl ?_))
  | ((with_reducible refine s_listO ?_); refine Exists.intro _ (And.intro rfl ?_))
  | ((with_reducible refine s_ixO ?_); refine Exists.intro _ (And.intro rfl (Exists.intro _ (And.intro rfl ?_))))
  | ((with_reducible refine s_app1 ?_); refine And.intro rfl ?_)
  | ((with_reducible refine s_cN ?_); refine And.intro rfl ?_)
  | ((with_reducible refine s_dgtY ?_); refine Exists.intro _ (And.intro rfl ?_))
  | ((with_reducible refine i_dgtN ?_ ?_); exact rfl)))
local macro_rules | `(tactic| walk_at "ds") => `(tactic| ((try simp only [startD, List.map_cons, List.map_nil, List.length_cons, List.length_nil, List.replicate, Nat.reduceAdd, Nat.reduceSub, List.cons_append, List.nil_append]); repeat' walk_at "d"))
/-- side conditions -/
local macro_rules | `(tactic| walk_at "e") => `(tactic| (first
  | with_reducible assumption
  | ((with_reducible show fitD _ _ = true); (first | rfl | decide +kernel | (exact fit_mono _ 30 _ (by decide) (by assumption))))
  | ((with_reducible show lowDs _ _); (repeat' first | trivial | (exact fit_low _ 30 _ (by assumption)) | refine And.intro ?_ ?_); done)
  | ((with_reducible show lowO _ _); (show lowDs _ _); (repeat' first | trivial | (exact fit_low _ 30 _ (by assumption)) | refine And.intro ?_ ?_); done)
  | ((with_reducible show (_ : Int) < _); (first | decide | omega))
  | ((with_reducible show (_ : Int) ≤ _); (first | decide | omega))
  | ((with_reducible show lowD _ _); (first | trivial | (exact fit_low _ 30 _ (by assumption))))
  | ((with_reducible show List.length _ = _); simp; done)
  | ((with_reducible show _ ≤ sizeLine); rw [sizeLine_eq]; simp; done)
  | ((with_reducible show List.all _ _ = true); (first | rfl | decide +kernel | (simp [fitD]; done)))
  | skip))
local macro_rules | `(tactic| walk_at "de") => `(tactic| (walk_at "ds" <;> walk_at "e"))


theorem way_each (b : Bool) : eqD (wayD b) (.str "each") = b := by cases b <;> decide +kernel
theorem bh1 {P : Pl} {S : Sd} {off hand w : Int} {leans : Bool} (hw : 0 < S.want) (h1 : S.off < off) (h2 : S.want - P.tol ≤ off) (h3 : off ≤ S.want + P.tol) : behind P S off hand leans w = ((⟨if P.each then 0 else off - S.want, 0, 0, 0, leans, false⟩ : Sd), ("accepts" : Str), w - hand) := by
  unfold behind
  rw [if_pos (by omega), if_pos ⟨h1, by rw [abs_le]; omega⟩]
theorem bh2 {P : Pl} {S : Sd} {off hand w : Int} {leans : Bool} (hw : 0 < S.want) (hn : ¬ (S.off < off ∧ S.want - P.tol ≤ off ∧ off ≤ S.want + P.tol)) (hl : 1 < S.left) : behind P S off hand leans w = ((⟨off, S.want, S.left - 1, hand, leans, false⟩ : Sd), ("" : Str), w) := by
  unfold behind
  rw [if_pos (by omega), if_neg (by rw [abs_le]; omega), if_pos (by omega)]
theorem bh3 {P : Pl} {S : Sd} {off hand w : Int} {leans : Bool} (hw : 0 < S.want) (hn : ¬ (S.off < off ∧ S.want - P.tol ≤ off ∧ off ≤ S.want + P.tol)) (hl : S.left ≤ 1) (h1 : 1 ≤ S.left) : behind P S off hand leans w = (lockedS, ("calls" : Str), w) := by
  unfold behind
  rw [if_pos (by omega), if_neg (by rw [abs_le]; omega), if_neg (by omega)]
theorem bh4 {P : Pl} {S : Sd} {off hand w : Int} {leans : Bool} (hw : S.want = 0) (h1 : -P.tol ≤ off) (h2 : off ≤ P.tol) : behind P S off hand leans w = ((⟨off, 0, 0, 0, leans, false⟩ : Sd), ("" : Str), w) := by
  unfold behind
  rw [if_neg (by omega), if_pos (by rw [abs_le]; omega)]
theorem bh5 {P : Pl} {S : Sd} {off hand w : Int} {leans : Bool} (hw : S.want = 0) (h1 : ¬ (-P.tol ≤ off ∧ off ≤ P.tol)) : behind P S off hand leans w = (lockedS, ("calls" : Str), w) := by
  unfold behind
  rw [if_neg (by omega), if_neg (by rw [abs_le]; omega)]
theorem rd_passed_free (P : Pl) (S : Sd) (R : QE) (hP : P.ok) (w0 : 0 ≤ S.want) (wt : S.want ≠ 0 → 1 ≤ S.left) (t0 : 0 ≤ P.tol) (hp : Poss P S .free) (r : R (tellD (doneS P S .free)) []) (l1 : lowD 0 P.d) (l2 : lowD 0 S.d) (l3 : lowD 0 (Dd.d .free)) (wf : fitD 40 (wayD P.each) = true) : t_passed (endP R) (startD 13 [P.d, S.d, Dd.d .free]) [] := by
  unfold t_passed
  walk_at "de"
  all_goals (try (exact ⟨l2, l3, trivial⟩))
  all_goals (clear l1 l2 l3 wf)
  all_goals (refine rD r ?_; clear r)
  all_goals (simp only [way_each, decide_eq_true_eq, decide_eq_false_iff_not, Bool.not_eq_true', Bool.not_eq_false', doneS, Poss, Int.zero_add, Int.add_zero] at *)
  all_goals (first
    | rfl
    | (exfalso; omega)
    | (rw [bh1] <;> first | rfl | omega | (simp_all; done) | (simp_all [Int.add_assoc, Int.sub_eq_add_neg]; done))
    | (rw [bh2] <;> first | rfl | omega | (simp_all; done) | (simp_all [Int.add_assoc, Int.sub_eq_add_neg]; done))
    | (rw [bh3] <;> first | rfl | omega | (simp_all; done) | (simp_all [Int.add_assoc, Int.sub_eq_add_neg]; done))
    | (rw [bh4] <;> first | rfl | omega | (simp_all; done) | (simp_all [Int.add_assoc, Int.sub_eq_add_neg]; done))
    | (rw [bh5] <;> first | rfl | omega | (simp_all; done) | (simp_all [Int.add_assoc, Int.sub_eq_add_neg]; done)))
theorem rd_passed_wait (P : Pl) (S : Sd) (R : QE) (hP : P.ok) (w0 : 0 ≤ S.want) (wt : S.want ≠ 0 → 1 ≤ S.left) (t0 : 0 ≤ P.tol) (hp : Poss P S .wait) (r : R (tellD (doneS P S .wait)) []) (l1 : lowD 0 P.d) (l2 : lowD 0 S.d) (l3 : lowD 0 (Dd.d .wait)) (wf : fitD 40 (wayD P.each) = true) : t_passed (endP R) (startD 13 [P.d, S.d, Dd.d .wait]) [] := by
  unfold t_passed
  walk_at "de"
  all_goals (try (exact ⟨l2, l3, trivial⟩))
  all_goals (clear l1 l2 l3 wf)
  all_goals (refine rD r ?_; clear r)
  all_goals (simp only [way_each, decide_eq_true_eq, decide_eq_false_iff_not, Bool.not_eq_true', Bool.not_eq_false', doneS, Poss, Int.zero_add, Int.add_zero] at *)
  all_goals (first
    | rfl
    | (exfalso; omega)
    | (rw [bh1] <;> first | rfl | omega | (simp_all; done) | (simp_all [Int.add_assoc, Int.sub_eq_add_neg]; done))
    | (rw [bh2] <;> first | rfl | omega | (simp_all; done) | (simp_all [Int.add_assoc, Int.sub_eq_add_neg]; done))
    | (rw [bh3] <;> first | rfl | omega | (simp_all; done) | (simp_all [Int.add_assoc, Int.sub_eq_add_neg]; done))
    | (rw [bh4] <;> first | rfl | omega | (simp_all; done) | (simp_all [Int.add_assoc, Int.sub_eq_add_neg]; done))
    | (rw [bh5] <;> first | rfl | omega | (simp_all; done) | (simp_all [Int.add_assoc, Int.sub_eq_add_neg]; done)))
theorem rd_passed_hide (n : Int) (P : Pl) (S : Sd) (R : QE) (hP : P.ok) (w0 : 0 ≤ S.want) (wt : S.want ≠ 0 → 1 ≤ S.left) (t0 : 0 ≤ P.tol) (hp : Poss P S (.hide n)) (r : R (tellD (doneS P S (.hide n))) []) (l1 : lowD 0 P.d) (l2 : lowD 0 S.d) (l3 : lowD 0 (Dd.d (.hide n))) (wf : fitD 40 (wayD P.each) = true) : t_passed (endP R) (startD 13 [P.d, S.d, Dd.d (.hide n)]) [] := by
  unfold t_passed
  walk_at "de"
  all_goals (try (exact ⟨l2, l3, trivial⟩))
  all_goals (clear l1 l2 l3 wf)
  all_goals (refine rD r ?_; clear r)
  all_goals (simp only [way_each, decide_eq_true_eq, decide_eq_false_iff_not, Bool.not_eq_true', Bool.not_eq_false', doneS, Poss, Int.zero_add, Int.add_zero] at *)
  all_goals (first
    | rfl
    | (exfalso; omega)
    | (rw [bh1] <;> first | rfl | omega | (simp_all; done) | (simp_all [Int.add_assoc, Int.sub_eq_add_neg]; done))
    | (rw [bh2] <;> first | rfl | omega | (simp_all; done) | (simp_all [Int.add_assoc, Int.sub_eq_add_neg]; done))
    | (rw [bh3] <;> first | rfl | omega | (simp_all; done) | (simp_all [Int.add_assoc, Int.sub_eq_add_neg]; done))
    | (rw [bh4] <;> first | rfl | omega | (simp_all; done) | (simp_all [Int.add_assoc, Int.sub_eq_add_neg]; done))
    | (rw [bh5] <;> first | rfl | omega | (simp_all; done) | (simp_all [Int.add_assoc, Int.sub_eq_add_neg]; done)))
theorem rd_passed_read (n : Int) (P : Pl) (S : Sd) (R : QE) (hP : P.ok) (w0 : 0 ≤ S.want) (wt : S.want ≠ 0 → 1 ≤ S.left) (t0 : 0 ≤ P.tol) (hp : Poss P S (.read n)) (r : R (tellD (doneS P S (.read n))) []) (l1 : lowD 0 P.d) (l2 : lowD 0 S.d) (l3 : lowD 0 (Dd.d (.read n))) (wf : fitD 40 (wayD P.each) = true) : t_passed (endP R) (startD 13 [P.d, S.d, Dd.d (.read n)]) [] := by
  unfold t_passed
  walk_at "de"
  all_goals (try (exact ⟨l2, l3, trivial⟩))
  all_goals (clear l1 l2 l3 wf)
  all_goals (refine rD r ?_; clear r)
  all_goals (simp only [way_each, decide_eq_true_eq, decide_eq_false_iff_not, Bool.not_eq_true', Bool.not_eq_false', doneS, Poss, Int.zero_add, Int.add_zero] at *)
  all_goals (first
    | rfl
    | (exfalso; omega)
    | (rw [bh1] <;> first | rfl | omega | (simp_all; done) | (simp_all [Int.add_assoc, Int.sub_eq_add_neg]; done))
    | (rw [bh2] <;> first | rfl | omega | (simp_all; done) | (simp_all [Int.add_assoc, Int.sub_eq_add_neg]; done))
    | (rw [bh3] <;> first | rfl | omega | (simp_all; done) | (simp_all [Int.add_assoc, Int.sub_eq_add_neg]; done))
    | (rw [bh4] <;> first | rfl | omega | (simp_all; done) | (simp_all [Int.add_assoc, Int.sub_eq_add_neg]; done))
    | (rw [bh5] <;> first | rfl | omega | (simp_all; done) | (simp_all [Int.add_assoc, Int.sub_eq_add_neg]; done)))
theorem rd_passed_lay (n : Int) (P : Pl) (S : Sd) (R : QE) (hP : P.ok) (w0 : 0 ≤ S.want) (wt : S.want ≠ 0 → 1 ≤ S.left) (t0 : 0 ≤ P.tol) (hp : Poss P S (.lay n)) (r : R (tellD (doneS P S (.lay n))) []) (l1 : lowD 0 P.d) (l2 : lowD 0 S.d) (l3 : lowD 0 (Dd.d (.lay n))) (wf : fitD 40 (wayD P.each) = true) : t_passed (endP R) (startD 13 [P.d, S.d, Dd.d (.lay n)]) [] := by
  unfold t_passed
  walk_at "de"
  all_goals (try (exact ⟨l2, l3, trivial⟩))
  all_goals (clear l1 l2 l3 wf)
  all_goals (refine rD r ?_; clear r)
  all_goals (simp only [way_each, decide_eq_true_eq, decide_eq_false_iff_not, Bool.not_eq_true', Bool.not_eq_false', doneS, Poss, Int.zero_add, Int.add_zero] at *)
  all_goals (first
    | rfl
    | (exfalso; omega)
    | (rw [bh1] <;> first | rfl | omega | (simp_all; done) | (simp_all [Int.add_assoc, Int.sub_eq_add_neg]; done))
    | (rw [bh2] <;> first | rfl | omega | (simp_all; done) | (simp_all [Int.add_assoc, Int.sub_eq_add_neg]; done))
    | (rw [bh3] <;> first | rfl | omega | (simp_all; done) | (simp_all [Int.add_assoc, Int.sub_eq_add_neg]; done))
    | (rw [bh4] <;> first | rfl | omega | (simp_all; done) | (simp_all [Int.add_assoc, Int.sub_eq_add_neg]; done))
    | (rw [bh5] <;> first | rfl | omega | (simp_all; done) | (simp_all [Int.add_assoc, Int.sub_eq_add_neg]; done)))
theorem rd_passed_lean (P : Pl) (S : Sd) (R : QE) (hP : P.ok) (w0 : 0 ≤ S.want) (wt : S.want ≠ 0 → 1 ≤ S.left) (t0 : 0 ≤ P.tol) (hp : Poss P S .lean) (r : R (tellD (doneS P S .lean)) []) (l1 : lowD 0 P.d) (l2 : lowD 0 S.d) (l3 : lowD 0 (Dd.d .lean)) (wf : fitD 40 (wayD P.each) = true) : t_passed (endP R) (startD 13 [P.d, S.d, Dd.d .lean]) [] := by
  unfold t_passed
  walk_at "de"
  all_goals (try (exact ⟨l2, l3, trivial⟩))
  all_goals (clear l1 l2 l3 wf)
  all_goals (refine rD r ?_; clear r)
  all_goals (simp only [way_each, decide_eq_true_eq, decide_eq_false_iff_not, Bool.not_eq_true', Bool.not_eq_false', doneS, Poss, Int.zero_add, Int.add_zero] at *)
  all_goals (first
    | rfl
    | (exfalso; omega)
    | (rw [bh1] <;> first | rfl | omega | (simp_all; done) | (simp_all [Int.add_assoc, Int.sub_eq_add_neg]; done))
    | (rw [bh2] <;> first | rfl | omega | (simp_all; done) | (simp_all [Int.add_assoc, Int.sub_eq_add_neg]; done))
    | (rw [bh3] <;> first | rfl | omega | (simp_all; done) | (simp_all [Int.add_assoc, Int.sub_eq_add_neg]; done))
    | (rw [bh4] <;> first | rfl | omega | (simp_all; done) | (simp_all [Int.add_assoc, Int.sub_eq_add_neg]; done))
    | (rw [bh5] <;> first | rfl | omega | (simp_all; done) | (simp_all [Int.add_assoc, Int.sub_eq_add_neg]; done)))
theorem rd_passed_off (P : Pl) (S : Sd) (R : QE) (hP : P.ok) (w0 : 0 ≤ S.want) (wt : S.want ≠ 0 → 1 ≤ S.left) (t0 : 0 ≤ P.tol) (hp : Poss P S .off) (r : R (tellD (doneS P S .off)) []) (l1 : lowD 0 P.d) (l2 : lowD 0 S.d) (l3 : lowD 0 (Dd.d .off)) (wf : fitD 40 (wayD P.each) = true) : t_passed (endP R) (startD 13 [P.d, S.d, Dd.d .off]) [] := by
  unfold t_passed
  walk_at "de"
  all_goals (try (exact ⟨l2, l3, trivial⟩))
  all_goals (clear l1 l2 l3 wf)
  all_goals (refine rD r ?_; clear r)
  all_goals (simp only [way_each, decide_eq_true_eq, decide_eq_false_iff_not, Bool.not_eq_true', Bool.not_eq_false', doneS, Poss, Int.zero_add, Int.add_zero] at *)
  all_goals (first
    | rfl
    | (exfalso; omega)
    | (rw [bh1] <;> first | rfl | omega | (simp_all; done) | (simp_all [Int.add_assoc, Int.sub_eq_add_neg]; done))
    | (rw [bh2] <;> first | rfl | omega | (simp_all; done) | (simp_all [Int.add_assoc, Int.sub_eq_add_neg]; done))
    | (rw [bh3] <;> first | rfl | omega | (simp_all; done) | (simp_all [Int.add_assoc, Int.sub_eq_add_neg]; done))
    | (rw [bh4] <;> first | rfl | omega | (simp_all; done) | (simp_all [Int.add_assoc, Int.sub_eq_add_neg]; done))
    | (rw [bh5] <;> first | rfl | omega | (simp_all; done) | (simp_all [Int.add_assoc, Int.sub_eq_add_neg]; done)))
theorem rd_passed (ds : List D) (R : QE) (h : ∃ (P : Pl) (S : Sd) (e : Dd), ds = [P.d, S.d, e.d] ∧ P.ok ∧ Fits P S ∧ Poss P S e ∧ R (tellD (doneS P S e)) []) : t_passed (endP R) (startD 13 ds) [] := by
  obtain ⟨P, S, e, rfl, hP, hS, hp, r⟩ := h
  have l1 := low_pl (P := P) (k := 0)
  have l2 := low_sd (S := S) (k := 0)
  have l3 := low_dd (e := e) (k := 0)
  have wf : fitD 40 (wayD P.each) = true := by cases P.each <;> decide +kernel
  cases e with
  | free => exact rd_passed_free P S R hP hS.w0 hS.wt hP.t0 hp r l1 l2 l3 wf
  | wait => exact rd_passed_wait P S R hP hS.w0 hS.wt hP.t0 hp r l1 l2 l3 wf
  | hide n => exact rd_passed_hide n P S R hP hS.w0 hS.wt hP.t0 hp r l1 l2 l3 wf
  | read n => exact rd_passed_read n P S R hP hS.w0 hS.wt hP.t0 hp r l1 l2 l3 wf
  | lay n => exact rd_passed_lay n P S R hP hS.w0 hS.wt hP.t0 hp r l1 l2 l3 wf
  | lean => exact rd_passed_lean P S R hP hS.w0 hS.wt hP.t0 hp r l1 l2 l3 wf
  | off => exact rd_passed_off P S R hP hS.w0 hS.wt hP.t0 hp r l1 l2 l3 wf
end
end L2.DL

set_option Elab.async false
set_option linter.all false
set_option maxRecDepth 100000
/-! EN: texts that come up; plans, stands, deeds read; the deeds at a stand and what a deed leads to, as they run. -/
namespace L2.DL
open PySem PySem.Spec PyProof.Rows
noncomputable section
def yw_free : Str := ⟨⟨[nat_lit 102, nat_lit 114, nat_lit 101, nat_lit 101]⟩⟩
theorem hw_free : (("free" : String) : Str) = yw_free := by decide +kernel
def xw_free : D := .str yw_free
theorem kw_free : D.str "free" = xw_free := congrArg D.str hw_free
def yw_hide : Str := ⟨⟨[nat_lit 104, nat_lit 105, nat_lit 100, nat_lit 101]⟩⟩
theorem hw_hide : (("hide" : String) : Str) = yw_hide := by decide +kernel
def xw_hide : D := .str yw_hide
theorem kw_hide : D.str "hide" = xw_hide := congrArg D.str hw_hide
def yw_read : Str := ⟨⟨[nat_lit 114, nat_lit 101, nat_lit 97, nat_lit 100]⟩⟩
theorem hw_read : (("read" : String) : Str) = yw_read := by decide +kernel
def xw_read : D := .str yw_read
theorem kw_read : D.str "read" = xw_read := congrArg D.str hw_read
def yw_lay : Str := ⟨⟨[nat_lit 108, nat_lit 97, nat_lit 121]⟩⟩
theorem hw_lay : (("lay" : String) : Str) = yw_lay := by decide +kernel
def xw_lay : D := .str yw_lay
theorem kw_lay : D.str "lay" = xw_lay := congrArg D.str hw_lay
def yw_lean : Str := ⟨⟨[nat_lit 108, nat_lit 101, nat_lit 97, nat_lit 110]⟩⟩
theorem hw_lean : (("lean" : String) : Str) = yw_lean := by decide +kernel
def xw_lean : D := .str yw_lean
theorem kw_lean : D.str "lean" = xw_lean := congrArg D.str hw_lean
def yw_off : Str := ⟨⟨[nat_lit 111, nat_lit 102, nat_lit 102]⟩⟩
theorem hw_off : (("off" : String) : Str) = yw_off := by decide +kernel
def xw_off : D := .str yw_off
theorem kw_off : D.str "off" = xw_off := congrArg D.str hw_off
def yw_wait : Str := ⟨⟨[nat_lit 119, nat_lit 97, nat_lit 105, nat_lit 116]⟩⟩
theorem hw_wait : (("wait" : String) : Str) = yw_wait := by decide +kernel
def xw_wait : D := .str yw_wait
theorem kw_wait : D.str "wait" = xw_wait := congrArg D.str hw_wait
def yw_calls : Str := ⟨⟨[nat_lit 99, nat_lit 97, nat_lit 108, nat_lit 108, nat_lit 115]⟩⟩
theorem hw_calls : (("calls" : String) : Str) = yw_calls := by decide +kernel
def xw_calls : D := .str yw_calls
theorem kw_calls : D.str "calls" = xw_calls := congrArg D.str hw_calls
def yw_accepts : Str := ⟨⟨[nat_lit 97, nat_lit 99, nat_lit 99, nat_lit 101, nat_lit 112, nat_lit 116, nat_lit 115]⟩⟩
theorem hw_accepts : (("accepts" : String) : Str) = yw_accepts := by decide +kernel
def xw_accepts : D := .str yw_accepts
theorem kw_accepts : D.str "accepts" = xw_accepts := congrArg D.str hw_accepts
def yw_empty : Str := ⟨⟨[]⟩⟩
theorem hw_empty : (("" : String) : Str) = yw_empty := by decide +kernel
def xw_empty : D := .str yw_empty
theorem kw_empty : D.str "" = xw_empty := congrArg D.str hw_empty
def yw_each : Str := ⟨⟨[nat_lit 101, nat_lit 97, nat_lit 99, nat_lit 104]⟩⟩
theorem hw_each : (("each" : String) : Str) = yw_each := by decide +kernel
def xw_each : D := .str yw_each
theorem kw_each : D.str "each" = xw_each := congrArg D.str hw_each
def yw_sum : Str := ⟨⟨[nat_lit 115, nat_lit 117, nat_lit 109]⟩⟩
theorem hw_sum : (("sum" : String) : Str) = yw_sum := by decide +kernel
def xw_sum : D := .str yw_sum
theorem kw_sum : D.str "sum" = xw_sum := congrArg D.str hw_sum
def yw_stopped : Str := ⟨⟨[nat_lit 115, nat_lit 116, nat_lit 111, nat_lit 112, nat_lit 112, nat_lit 101, nat_lit 100]⟩⟩
theorem hw_stopped : (("stopped" : String) : Str) = yw_stopped := by decide +kernel
def xw_stopped : D := .str yw_stopped
theorem kw_stopped : D.str "stopped" = xw_stopped := congrArg D.str hw_stopped
def yw_unseen : Str := ⟨⟨[nat_lit 117, nat_lit 110, nat_lit 115, nat_lit 101, nat_lit 101, nat_lit 110]⟩⟩
theorem hw_unseen : (("unseen" : String) : Str) = yw_unseen := by decide +kernel
def xw_unseen : D := .str yw_unseen
theorem kw_unseen : D.str "unseen" = xw_unseen := congrArg D.str hw_unseen
def i0 : Int := .ofNat (nat_lit 0)
def i1 : Int := .ofNat (nat_lit 1)
def xc_BEGIN : D := .tup [.int (.ofNat (nat_lit 0)), .int (.ofNat (nat_lit 0)), .int (.ofNat (nat_lit 0)), .int (.ofNat (nat_lit 0)), .bl false, .bl false]
theorem kc_BEGIN : c_BEGIN = xc_BEGIN := rfl
def xc_LOCKED : D := .tup [.int (.ofNat (nat_lit 0)), .int (.ofNat (nat_lit 0)), .int (.ofNat (nat_lit 0)), .int (.ofNat (nat_lit 0)), .bl false, .bl true]
theorem kc_LOCKED : c_LOCKED = xc_LOCKED := rfl
/-! ### reading -/
def sixA (ds : List D) (k : D → D → D → D → D → D → An) : An := List.rec (motive := fun _ => An) none (fun a r _ => List.rec (motive := fun _ => An) none (fun b r _ => List.rec (motive := fun _ => An) none (fun c r _ =>
  List.rec (motive := fun _ => An) none (fun d r _ => List.rec (motive := fun _ => An) none (fun e r _ => List.rec (motive := fun _ => An) none (fun f r _ => List.rec (motive := fun _ => An) (k a b c d e f) (fun _ _ _ => none) r) r) r) r) r) r) ds
theorem sixA_ok {ds : List D} {k : D → D → D → D → D → D → An} {a : D} (h : sixA ds k = some a) : ∃ d1 d2 d3 d4 d5 d6, ds = [d1, d2, d3, d4, d5, d6] ∧ k d1 d2 d3 d4 d5 d6 = some a := by
  match ds, h with
  | [], h => exact nomatch h
  | [_], h => exact nomatch h
  | [_, _], h => exact nomatch h
  | [_, _, _], h => exact nomatch h
  | [_, _, _, _], h => exact nomatch h
  | [_, _, _, _, _], h => exact nomatch h
  | [d1, d2, d3, d4, d5, d6], h => exact ⟨d1, d2, d3, d4, d5, d6, rfl, h⟩
  | _ :: _ :: _ :: _ :: _ :: _ :: _ :: _, h => exact nomatch h
def decS (d : D) (k : Sd → An) : An := dTup d fun xs => sixA xs fun a b c e l m => dInt a fun off => dInt b fun want => dInt c fun left => dInt e fun hand => dBl l fun leans => dBl m fun locked => k ⟨off, want, left, hand, leans, locked⟩
theorem decS_ok {d : D} {k : Sd → An} {a : D} (h : decS d k = some a) : ∃ S : Sd, d = S.d ∧ k S = some a := by
  obtain ⟨xs, e1, h⟩ := dTup_ok h
  obtain ⟨d1, d2, d3, d4, d5, d6, e2, h⟩ := sixA_ok h
  obtain ⟨off, e3, h⟩ := dInt_ok h
  obtain ⟨want, e4, h⟩ := dInt_ok h
  obtain ⟨left, e5, h⟩ := dInt_ok h
  obtain ⟨hand, e6, h⟩ := dInt_ok h
  obtain ⟨leans, e7, h⟩ := dBl_ok h
  obtain ⟨locked, e8, h⟩ := dBl_ok h
  exact ⟨⟨off, want, left, hand, leans, locked⟩, by rw [e1, e2, e3, e4, e5, e6, e7, e8], h⟩
def decW (d : D) (k : Bool → An) : An := dStr d fun s => br (eqS s yw_each) (k true) (br (eqS s yw_sum) (k false) none)
theorem decW_ok {d : D} {k : Bool → An} {a : D} (h : decW d k = some a) : ∃ b, d = wayD b ∧ k b = some a := by
  obtain ⟨s, e, h⟩ := dStr_ok h
  subst e
  rcases br_ok h with ⟨e, h⟩ | ⟨_, h⟩
  · rw [eqS_is] at e
    exact ⟨true, by rw [of_decide_eq_true e, ← hw_each]; rfl, h⟩
  · rcases br_ok h with ⟨e, h⟩ | ⟨_, h⟩
    · rw [eqS_is] at e
      exact ⟨false, by rw [of_decide_eq_true e, ← hw_sum]; rfl, h⟩
    · exact nomatch h
def decP (d : D) (k : Pl → An) : An := dTup d fun xs => twoA xs fun p q => dTup p fun ps => threeA ps fun t w y => dInt t fun tol => dInt w fun wait => decW y fun each => dTup q fun qs => threeA qs fun m s l => dInt m fun most => dInt s fun spread => dBl l fun lean => k ⟨tol, wait, each, most, spread, lean⟩
theorem decP_ok {d : D} {k : Pl → An} {a : D} (h : decP d k = some a) : ∃ P : Pl, d = P.d ∧ k P = some a := by
  obtain ⟨xs, e1, h⟩ := dTup_ok h
  obtain ⟨p, q, e2, h⟩ := twoA_ok h
  obtain ⟨ps, e3, h⟩ := dTup_ok h
  obtain ⟨t, w, y, e4, h⟩ := threeA_ok h
  obtain ⟨tol, e5, h⟩ := dInt_ok h
  obtain ⟨wait, e6, h⟩ := dInt_ok h
  obtain ⟨each, e7, h⟩ := decW_ok h
  obtain ⟨qs, e8, h⟩ := dTup_ok h
  obtain ⟨m, s, l, e9, h⟩ := threeA_ok h
  obtain ⟨most, e10, h⟩ := dInt_ok h
  obtain ⟨spread, e11, h⟩ := dInt_ok h
  obtain ⟨lean, e12, h⟩ := dBl_ok h
  exact ⟨⟨tol, wait, each, most, spread, lean⟩, by rw [e1, e2, e3, e4, e5, e6, e7, e8, e9, e10, e11, e12], h⟩
def decE1 (w : Str) (k : Dd → An) : An := br (eqS w yw_wait) (k .wait) (br (eqS w yw_lean) (k .lean) (br (eqS w yw_off) (k .off) (br (eqS w yw_free) (k .free) none)))
def decE2 (w : Str) (n : Int) (k : Dd → An) : An := br (eqS w yw_hide) (k (.hide n)) (br (eqS w yw_read) (k (.read n)) (br (eqS w yw_lay) (k (.lay n)) none))
def decE (d : D) (k : Dd → An) : An := dTup d fun xs => List.rec (motive := fun _ => An) none (fun x r _ => dStr x fun w => List.rec (motive := fun _ => An) (decE1 w k) (fun y r _ => List.rec (motive := fun _ => An) (dInt y fun n => decE2 w n k) (fun _ _ _ => none) r) r) xs
theorem decE_ok {d : D} {k : Dd → An} {a : D} (h : decE d k = some a) : ∃ e : Dd, d = e.d ∧ k e = some a := by
  obtain ⟨xs, e1, h⟩ := dTup_ok h
  subst e1
  cases xs with
  | nil => exact nomatch h
  | cons x r =>
    rename_i h0
    obtain ⟨w, e2, h⟩ := dStr_ok (show dStr x (fun w => List.rec (motive := fun _ => An) (decE1 w k) (fun y r _ => List.rec (motive := fun _ => An) (dInt y fun n => decE2 w n k) (fun _ _ _ => none) r) r) = some a from h)
    subst e2
    cases r with
    | nil =>
      have h : decE1 w k = some a := h
      rcases br_ok h with ⟨e, h⟩ | ⟨_, h⟩
      · rw [eqS_is] at e; exact ⟨.wait, by rw [of_decide_eq_true e, ← hw_wait], h⟩
      rcases br_ok h with ⟨e, h⟩ | ⟨_, h⟩
      · rw [eqS_is] at e; exact ⟨.lean, by rw [of_decide_eq_true e, ← hw_lean], h⟩
      rcases br_ok h with ⟨e, h⟩ | ⟨_, h⟩
      · rw [eqS_is] at e; exact ⟨.off, by rw [of_decide_eq_true e, ← hw_off], h⟩
      rcases br_ok h with ⟨e, h⟩ | ⟨_, h⟩
      · rw [eqS_is] at e; exact ⟨.free, by rw [of_decide_eq_true e, ← hw_free], h⟩
      exact nomatch h
    | cons y r =>
      cases r with
      | cons _ _ => exact nomatch h
      | nil =>
        obtain ⟨n, e3, h⟩ := dInt_ok (show dInt y (fun n => decE2 w n k) = some a from h)
        subst e3
        rcases br_ok h with ⟨e, h⟩ | ⟨_, h⟩
        · rw [eqS_is] at e; exact ⟨.hide n, by rw [of_decide_eq_true e, ← hw_hide], h⟩
        rcases br_ok h with ⟨e, h⟩ | ⟨_, h⟩
        · rw [eqS_is] at e; exact ⟨.read n, by rw [of_decide_eq_true e, ← hw_read], h⟩
        rcases br_ok h with ⟨e, h⟩ | ⟨_, h⟩
        · rw [eqS_is] at e; exact ⟨.lay n, by rw [of_decide_eq_true e, ← hw_lay], h⟩
        exact nomatch h
/-! ### what is asked of them -/
def andX (a b : Bool) : Bool := Bool.rec (motive := fun _ => Bool) false b a
def orX (a b : Bool) : Bool := Bool.rec (motive := fun _ => Bool) b true a
theorem andX_is (a b : Bool) : andX a b = (a && b) := by cases a <;> rfl
theorem orX_is (a b : Bool) : orX a b = (a || b) := by cases a <;> rfl
def okPX (P : Pl) : Bool := andX (leI i0 P.tol) (andX (leI P.tol (.ofNat (nat_lit 3))) (andX (leI i1 P.wait) (andX (leI P.wait (.ofNat (nat_lit 3))) (andX (leI i1 P.most) (andX (leI P.most (.ofNat (nat_lit 3))) (andX (leI i0 P.spread) (leI P.spread (.ofNat (nat_lit 2)))))))))
theorem okPX_ok {P : Pl} (h : okPX P = true) : P.ok := by
  unfold okPX at h
  simp only [andX_is, leI_is, Bool.and_eq_true, decide_eq_true_eq, i0, i1, Int.ofNat_eq_natCast] at h
  obtain ⟨h1, h2, h3, h4, h5, h6, h7, h8⟩ := h
  exact ⟨by omega, by omega, by omega, by omega, by omega, by omega, by omega, by omega⟩
def fitsX (P : Pl) (S : Sd) : Bool := Bool.rec (motive := fun _ => Bool) (andX (leI i0 S.want) (andX (leI S.want P.most) (andX (orX (eqI S.hand i0) (eqI S.hand S.want)) (orX (eqI S.want i0) (leI i1 S.left)))))
  (andX (eqI S.off i0) (andX (eqI S.want i0) (andX (eqI S.left i0) (andX (eqI S.hand i0) (Bool.not S.leans))))) S.locked
theorem fitsX_ok {P : Pl} {S : Sd} (hP : P.ok) (h : fitsX P S = true) : Fits P S := by
  obtain ⟨off, want, left, hand, leans, locked⟩ := S
  have := hP.m0
  cases locked with
  | false =>
    have h : andX (leI i0 want) (andX (leI want P.most) (andX (orX (eqI hand i0) (eqI hand want)) (orX (eqI want i0) (leI i1 left)))) = true := h
    simp only [andX_is, orX_is, leI_is, eqI_is, Bool.and_eq_true, Bool.or_eq_true, decide_eq_true_eq, i0, i1, Int.ofNat_eq_natCast] at h
    obtain ⟨h1, h2, h3, h4⟩ := h
    refine ⟨fun z => absurd (show false = true from z) Bool.false_ne_true, by dsimp only; omega, h2, by dsimp only; omega, by dsimp only; omega⟩
  | true =>
    have h : andX (eqI off i0) (andX (eqI want i0) (andX (eqI left i0) (andX (eqI hand i0) (Bool.not leans)))) = true := h
    simp only [andX_is, eqI_is, Bool.and_eq_true, decide_eq_true_eq, i0, Int.ofNat_eq_natCast] at h
    obtain ⟨h1, h2, h3, h4, h5⟩ := h
    have h5 : leans = false := by simpa using h5
    subst h1; subst h2; subst h3; subst h4; subst h5
    exact ⟨fun _ => rfl, by simp, by simp; omega, by simp, by simp⟩
def possX (P : Pl) (S : Sd) (e : Dd) : Bool := Dd.rec (motive := fun _ => Bool) (Bool.not S.locked) (fun n => andX (Bool.not S.locked) (andX (leI i1 n) (leI n P.most))) (fun n => andX (Bool.not S.locked) (andX (eqI S.want i0) (andX (leI i1 n) (leI n P.most))))
  (fun n => andX (Bool.not S.locked) (andX (Bool.not (eqI S.hand i0)) (andX (leI (negI P.spread) n) (andX (leI n P.spread) (leI i1 (addI S.hand n)))))) (andX (Bool.not S.locked) (andX P.lean (Bool.not S.leans))) (andX (Bool.not S.locked) (andX P.lean S.leans)) S.locked e
theorem possX_ok {P : Pl} {S : Sd} {e : Dd} (h : possX P S e = true) : Poss P S e := by
  cases e with
  | wait => have h : Bool.not S.locked = true := h; simpa [Poss] using h
  | free => exact h
  | hide n =>
    have h : andX (Bool.not S.locked) (andX (leI i1 n) (leI n P.most)) = true := h
    simp only [andX_is, leI_is, Bool.and_eq_true, decide_eq_true_eq, i1, Int.ofNat_eq_natCast] at h
    exact ⟨by simpa using h.1, by omega, h.2.2⟩
  | read n =>
    have h : andX (Bool.not S.locked) (andX (eqI S.want i0) (andX (leI i1 n) (leI n P.most))) = true := h
    simp only [andX_is, leI_is, eqI_is, Bool.and_eq_true, decide_eq_true_eq, i0, i1, Int.ofNat_eq_natCast] at h
    exact ⟨by simpa using h.1, by omega, by omega, h.2.2.2⟩
  | lay n =>
    have h : andX (Bool.not S.locked) (andX (Bool.not (eqI S.hand i0)) (andX (leI (negI P.spread) n) (andX (leI n P.spread) (leI i1 (addI S.hand n))))) = true := h
    simp only [andX_is, leI_is, eqI_is, negI_is, addI_is, Bool.and_eq_true, decide_eq_true_eq, i0, i1, Int.ofNat_eq_natCast] at h
    obtain ⟨h1, h2, h3, h4, h5⟩ := h
    exact ⟨by simpa using h1, by simpa using h2, by omega, by omega, by omega⟩
  | lean =>
    have h : andX (Bool.not S.locked) (andX P.lean (Bool.not S.leans)) = true := h
    simp only [andX_is, Bool.and_eq_true] at h
    exact ⟨by simpa using h.1, h.2.1, by simpa using h.2.2⟩
  | off =>
    have h : andX (Bool.not S.locked) (andX P.lean S.leans) = true := h
    simp only [andX_is, Bool.and_eq_true] at h
    exact ⟨by simpa using h.1, h.2.1, h.2.2⟩
/-! ### what a deed leads to -/
def absI (i : Int) : Int := Bool.rec (motive := fun _ => Int) (negI i) i (leI i0 i)
theorem absI_is (i : Int) : absI i = if i < 0 then -i else i := by
  unfold absI
  rw [leI_is, negI_is]
  by_cases h : i < 0
  · rw [decide_eq_false (show ¬ i0 ≤ i by simp only [i0, Int.ofNat_eq_natCast]; omega), if_pos h]
  · rw [decide_eq_true (show i0 ≤ i by simp only [i0, Int.ofNat_eq_natCast]; omega), if_neg h]
def subI (i j : Int) : Int := addI i (negI j)
theorem subI_is (i j : Int) : subI i j = i - j := by unfold subI; rw [addI_is, negI_is]; omega
abbrev KD := Sd → Str → Int → An
def lockX : Sd := ⟨.ofNat (nat_lit 0), .ofNat (nat_lit 0), .ofNat (nat_lit 0), .ofNat (nat_lit 0), false, true⟩
def beginX : Sd := ⟨.ofNat (nat_lit 0), .ofNat (nat_lit 0), .ofNat (nat_lit 0), .ofNat (nat_lit 0), false, false⟩
def behindX (P : Pl) (S : Sd) (off hand : Int) (leans : Bool) (weight : Int) (k : KD) : An :=
  br (eqI S.want i0) (br (leI (absI off) P.tol) (k ⟨off, i0, i0, i0, leans, false⟩ yw_empty weight) (k lockX yw_calls weight))
    (br (andX (Bool.not (leI off S.off)) (leI (absI (subI off S.want)) P.tol)) (k ⟨Bool.rec (motive := fun _ => Int) (subI off S.want) i0 P.each, i0, i0, i0, leans, false⟩ yw_accepts (subI weight hand))
      (br (eqI S.left i1) (k lockX yw_calls weight) (k ⟨off, S.want, subI S.left i1, hand, leans, false⟩ yw_empty weight)))
def tellK (k : KD) (x : Sd × Str × Int) : An := k x.1 x.2.1 x.2.2
theorem behindX_is (P : Pl) (S : Sd) (off hand : Int) (leans : Bool) (weight : Int) (k : KD) : behindX P S off hand leans weight k = tellK k (behind P S off hand leans weight) := by
  unfold behindX behind
  have z0 : i0 = 0 := rfl
  have z1 : i1 = 1 := rfl
  rw [eqI_is, eqI_is, leI_is, leI_is, leI_is, absI_is, absI_is, subI_is, subI_is, subI_is, z0, z1, andX_is]
  generalize (if off < 0 then -off else off) = ab
  generalize (if off - S.want < 0 then -(off - S.want) else off - S.want) = ac
  by_cases hw : S.want = 0
  · rw [decide_eq_true hw, if_neg (show ¬ S.want ≠ 0 from fun h => h hw)]
    show br _ _ _ = _
    by_cases ht : ab ≤ P.tol
    · rw [decide_eq_true ht, if_pos ht]
      show k _ yw_empty weight = _
      rw [← hw_empty]; rfl
    · rw [decide_eq_false ht, if_neg ht]
      show k _ yw_calls weight = _
      rw [← hw_calls]; rfl
  · rw [decide_eq_false hw, if_pos hw]
    show br _ _ _ = _
    by_cases hc : S.off < off ∧ ac ≤ P.tol
    · have e : (!decide (off ≤ S.off) && decide (ac ≤ P.tol)) = true := by
        rw [Bool.and_eq_true]
        exact ⟨by simpa using hc.1, decide_eq_true hc.2⟩
      rw [e, if_pos hc]
      show k _ yw_accepts (weight - hand) = _
      rw [← hw_accepts]
      cases P.each <;> rfl
    · have e : (!decide (off ≤ S.off) && decide (ac ≤ P.tol)) = false := by
        rw [Bool.eq_false_iff]
        intro z
        rw [Bool.and_eq_true] at z
        exact hc ⟨by simpa using z.1, of_decide_eq_true z.2⟩
      rw [e, if_neg hc]
      show br _ _ _ = _
      by_cases hl : S.left = 1
      · rw [decide_eq_true hl, if_neg (show ¬ S.left ≠ 1 from fun h => h hl)]
        show k _ yw_calls weight = _
        rw [← hw_calls]; rfl
      · rw [decide_eq_false hl, if_pos hl]
        show k _ yw_empty weight = _
        rw [← hw_empty]; rfl
def doneX (P : Pl) (S : Sd) (e : Dd) (k : KD) : An := Dd.rec (motive := fun _ => An) (behindX P S S.off S.hand S.leans i0 k) (fun n => behindX P S (addI S.off n) S.hand S.leans n k) (fun n => k ⟨S.off, n, P.wait, n, S.leans, false⟩ yw_empty i0)
  (fun n => behindX P S (addI (addI S.off S.hand) n) i0 S.leans i0 k) (behindX P S (addI S.off i1) S.hand true i0 k) (behindX P S (subI S.off i1) S.hand false i0 k) (k beginX yw_empty i0) e
theorem doneX_is (P : Pl) (S : Sd) (e : Dd) (k : KD) : doneX P S e k = tellK k (doneS P S e) := by
  cases e with
  | wait => exact behindX_is _ _ _ _ _ _ _
  | hide n => show behindX P S (addI S.off n) S.hand S.leans n k = _; rw [addI_is, behindX_is]; rfl
  | read n => show k _ yw_empty i0 = _; rw [← hw_empty]; rfl
  | lay n => show behindX P S (addI (addI S.off S.hand) n) i0 S.leans i0 k = _; rw [addI_is, addI_is, behindX_is]; rfl
  | lean => show behindX P S (addI S.off i1) S.hand true i0 k = _; rw [addI_is, behindX_is]; rfl
  | off => show behindX P S (subI S.off i1) S.hand false i0 k = _; rw [subI_is, behindX_is]; rfl
  | free => show k beginX yw_empty i0 = _; rw [← hw_empty]; rfl
def tellX : KD := fun S w n => fI S.off fun a => fI S.want fun b => fI S.left fun c => fI S.hand fun d => fB S.leans fun e => fB S.locked fun f => fI n fun g => some (.tup [.tup [a, b, c, d, e, f], .str w, g])
theorem tellX_is (x : Sd × Str × Int) : tellK tellX x = some (tellD x) := by
  unfold tellK tellX
  rw [fI_is, fI_is, fI_is, fI_is, fB_is, fB_is, fI_is]
/-- may P, S be asked at all -/
def fitPS (P : Pl) (S : Sd) : Bool := andX (okPX P) (fitsX P S)
def f_done (ds : List D) : An := threeA ds fun p s e => decP p fun P => decS s fun S => decE e fun E => ifB (fitPS P S) (ifB (possX P S E) (doneX P S E tellX))
theorem done_ok {ds : List D} {d : D} (h : f_done ds = some d) : ∃ (P : Pl) (S : Sd) (e : Dd), ds = [P.d, S.d, e.d] ∧ P.ok ∧ Fits P S ∧ Poss P S e ∧ d = tellD (doneS P S e) := by
  obtain ⟨p, s, e, e0, h⟩ := threeA_ok h
  obtain ⟨P, e1, h⟩ := decP_ok h
  obtain ⟨S, e2, h⟩ := decS_ok h
  obtain ⟨E, e3, h⟩ := decE_ok h
  obtain ⟨h1, h⟩ := ifB_ok h
  obtain ⟨h2, h⟩ := ifB_ok h
  unfold fitPS at h1
  rw [andX_is, Bool.and_eq_true] at h1
  rw [doneX_is, tellX_is] at h
  have hP := okPX_ok h1.1
  exact ⟨P, S, E, by rw [e0, e1, e2, e3], hP, fitsX_ok hP h1.2, possX_ok h2, (Option.some.inj h).symm⟩
/-! ### the deeds -/
def tagK (w : Str) (xs tail : List D) (k : List D → An) : An := List.rec (motive := fun _ => (List D → An) → An) (fun k => k tail) (fun x _ ih k => ih fun r => k (.tup [.str w, x] :: r)) xs k
theorem tagK_is (w : Str) (tail : List D) : ∀ (xs : List D) (k : List D → An), tagK w xs tail k = k (xs.filterMap (fun x => some (.tup [.str w, x])) ++ tail)
  | [], k => rfl
  | x :: r, k => by show tagK w r tail (fun r => k (.tup [.str w, x] :: r)) = _; rw [tagK_is w tail r]; rfl
def isIX (d : D) (k : Int → Bool) : Bool := cI d k
def tagIfK (w : Str) (hand : Int) (xs tail : List D) (k : List D → An) : An := List.rec (motive := fun _ => (List D → An) → An) (fun k => k tail) (fun x _ ih k => dInt x fun n => br (leI i1 (addI hand n)) (ih fun r => k (.tup [.str w, x] :: r)) (ih k)) xs k
theorem tagIfK_ok {w : Str} {hand : Int} {tail : List D} {a : D} : ∀ (xs : List D) (k : List D → An), tagIfK w hand xs tail k = some a → k (xs.filterMap (fun x => if 0 < hand + isI x then some (.tup [.str w, x]) else none) ++ tail) = some a
  | [], k, h => h
  | x :: r, k, h => by
    obtain ⟨n, e, h⟩ := dInt_ok (show dInt x (fun n => br (leI i1 (addI hand n)) (tagIfK w hand r tail fun r => k (.tup [.str w, x] :: r)) (tagIfK w hand r tail k)) = some a from h)
    subst e
    rw [List.filterMap_cons]
    rw [leI_is, addI_is] at h
    have z : (i1 ≤ hand + n) ↔ 0 < hand + isI (.int n) := by simp only [i1, Int.ofNat_eq_natCast]; show _ ↔ 0 < hand + n; omega
    rcases br_ok h with ⟨e, h⟩ | ⟨e, h⟩
    · rw [if_pos (z.mp (of_decide_eq_true e))]
      exact tagIfK_ok r _ h
    · rw [if_neg (fun q => of_decide_eq_false e (z.mpr q))]
      exact tagIfK_ok r k h
def deedsK (P : Pl) (S : Sd) (k : List D → An) : An :=
  rgX (toN P.most) i1 fun ms =>
  (fun (k2 : List D → An) => br (eqI S.want i0) (tagK yw_read ms [.tup [.str yw_wait]] k2) (k2 [.tup [.str yw_wait]])) fun r1 =>
  (fun (k2 : List D → An) => br P.lean (br S.leans (k2 (.tup [.str yw_off] :: r1)) (k2 (.tup [.str yw_lean] :: r1))) (k2 r1)) fun r2 =>
  (fun (k2 : List D → An) => br (leI S.hand i0) (k2 r2) (rgX (toN (addI P.spread (addI P.spread i1))) (negI P.spread) fun ls => tagIfK yw_lay S.hand ls r2 k2)) fun r3 =>
  tagK yw_hide ms r3 k
theorem deedsK_ok {P : Pl} {S : Sd} {k : List D → An} {a : D} (h : deedsK P S k = some a) : k (deedsQ P.most P.spread S.hand S.want P.lean S.leans) = some a := by
  unfold deedsK at h
  rw [rgX_is, toN_is] at h
  have z0 : i0 = 0 := rfl
  have z1 : i1 = 1 := rfl
  rw [eqI_is, z0, z1, leI_is] at h
  have fin : ∀ r3, tagK yw_hide (rangeD 1 P.most.toNat) r3 k = some a → k ((rangeD 1 (P.most + 1 - 1).toNat).filterMap (fun x => some (.tup [.str "hide", x])) ++ r3) = some a := fun r3 q => by
    rw [tagK_is, ← hw_hide] at q
    rw [show P.most + 1 - 1 = P.most by omega]
    exact q
  have lay : ∀ r2, br (decide (S.hand ≤ 0)) (tagK yw_hide (rangeD 1 P.most.toNat) r2 k) (rgX (toN (addI P.spread (addI P.spread 1))) (negI P.spread) fun ls => tagIfK yw_lay S.hand ls r2 fun r3 => tagK yw_hide (rangeD 1 P.most.toNat) r3 k) = some a →
      k ((rangeD 1 (P.most + 1 - 1).toNat).filterMap (fun x => some (.tup [.str "hide", x])) ++ ((if S.hand > 0 then (rangeD (-P.spread) (P.spread + 1 - -P.spread).toNat).filterMap (fun x => if 0 < S.hand + isI x then some (.tup [.str "lay", x]) else none) else []) ++ r2)) = some a := fun r2 q => by
    rcases br_ok q with ⟨e, q⟩ | ⟨e, q⟩
    · have e := of_decide_eq_true e
      rw [if_neg (by omega)]
      exact fin _ q
    · have e := of_decide_eq_false e
      rw [rgX_is, toN_is, addI_is, addI_is, negI_is] at q
      have q := tagIfK_ok _ _ q
      rw [if_pos (by omega), show P.spread + 1 - -P.spread = P.spread + (P.spread + 1) by omega]
      rw [← hw_lay] at q
      exact fin _ q
  have lean : ∀ r1, br P.lean (br S.leans (br (decide (S.hand ≤ 0)) (tagK yw_hide (rangeD 1 P.most.toNat) (.tup [.str yw_off] :: r1) k) (rgX (toN (addI P.spread (addI P.spread 1))) (negI P.spread) fun ls => tagIfK yw_lay S.hand ls (.tup [.str yw_off] :: r1) fun r3 => tagK yw_hide (rangeD 1 P.most.toNat) r3 k))
        (br (decide (S.hand ≤ 0)) (tagK yw_hide (rangeD 1 P.most.toNat) (.tup [.str yw_lean] :: r1) k) (rgX (toN (addI P.spread (addI P.spread 1))) (negI P.spread) fun ls => tagIfK yw_lay S.hand ls (.tup [.str yw_lean] :: r1) fun r3 => tagK yw_hide (rangeD 1 P.most.toNat) r3 k)))
      (br (decide (S.hand ≤ 0)) (tagK yw_hide (rangeD 1 P.most.toNat) r1 k) (rgX (toN (addI P.spread (addI P.spread 1))) (negI P.spread) fun ls => tagIfK yw_lay S.hand ls r1 fun r3 => tagK yw_hide (rangeD 1 P.most.toNat) r3 k)) = some a →
      k ((rangeD 1 (P.most + 1 - 1).toNat).filterMap (fun x => some (.tup [.str "hide", x])) ++ ((if S.hand > 0 then (rangeD (-P.spread) (P.spread + 1 - -P.spread).toNat).filterMap (fun x => if 0 < S.hand + isI x then some (.tup [.str "lay", x]) else none) else []) ++ ((if P.lean then [.tup [.str (if S.leans then "off" else "lean")]] else []) ++ r1))) = some a := fun r1 q => by
    rcases br_ok q with ⟨e, q⟩ | ⟨e, q⟩
    · rw [e, if_pos rfl]
      rcases br_ok q with ⟨e, q⟩ | ⟨e, q⟩
      · rw [e, if_pos rfl]
        rw [← hw_off] at q
        exact lay _ q
      · rw [e, if_neg Bool.false_ne_true]
        rw [← hw_lean] at q
        exact lay _ q
    · rw [e, if_neg Bool.false_ne_true]
      exact lay _ q
  unfold deedsQ
  simp only [List.append_assoc]
  rcases br_ok h with ⟨e, q⟩ | ⟨e, q⟩
  · rw [if_pos (of_decide_eq_true e)]
    rw [tagK_is] at q
    rw [← hw_read, ← hw_wait] at q
    rw [show P.most + 1 - 1 = P.most by omega]
    have q := lean _ q
    rw [show P.most + 1 - 1 = P.most by omega] at q
    exact q
  · rw [if_neg (of_decide_eq_false e)]
    rw [← hw_wait] at q
    exact lean _ q
def f_deeds (ds : List D) : An := twoA ds fun p s => decP p fun P => decS s fun S => ifB (fitPS P S) (br S.locked (some (.lst [.tup [.str yw_free]])) (deedsK P S fun xs => some (.lst xs)))
theorem deeds_ok {ds : List D} {d : D} (h : f_deeds ds = some d) : ∃ (P : Pl) (S : Sd), ds = [P.d, S.d] ∧ P.ok ∧ Fits P S ∧ d = .lst (deedsL P S) := by
  obtain ⟨p, s, e0, h⟩ := twoA_ok h
  obtain ⟨P, e1, h⟩ := decP_ok h
  obtain ⟨S, e2, h⟩ := decS_ok h
  obtain ⟨h1, h⟩ := ifB_ok h
  unfold fitPS at h1
  rw [andX_is, Bool.and_eq_true] at h1
  have hP := okPX_ok h1.1
  have hF := fitsX_ok hP h1.2
  refine ⟨P, S, by rw [e0, e1, e2], hP, hF, ?_⟩
  rcases br_ok h with ⟨e, h⟩ | ⟨e, h⟩
  · unfold deedsL
    rw [if_pos e]
    have h := (Option.some.inj h).symm
    rw [h, ← hw_free]
  · have h := deedsK_ok h
    rw [deedsQ_eq hP hF e] at h
    exact (Option.some.inj h).symm
theorem sf_deeds_of : SFn (fun ds R => ∃ (P : Pl) (S : Sd), ds = [P.d, S.d] ∧ P.ok ∧ Fits P S ∧ R (.lst (deedsL P S))) f_deeds := ⟨fun {ds d} h R r => by
  obtain ⟨P, S, e, h1, h2, rfl⟩ := deeds_ok h
  exact ⟨P, S, e, h1, h2, r⟩⟩
theorem sf_law_deeds : SFn (fun ds R => ∃ (P : Pl) (S : Sd), ds = [P.d, S.d] ∧ P.ok ∧ R (.lst (deedsL P S))) f_deeds := ⟨fun {ds d} h R r => by
  obtain ⟨P, S, e, h1, h2, rfl⟩ := deeds_ok h
  exact ⟨P, S, e, h1, r⟩⟩
theorem sf_passed : SFn (fun ds R => ∃ (P : Pl) (S : Sd) (e : Dd), ds = [P.d, S.d, e.d] ∧ P.ok ∧ Fits P S ∧ Poss P S e ∧ R (tellD (doneS P S e))) f_done := ⟨fun {ds d} h R r => by
  obtain ⟨P, S, E, e, h1, h2, h3, rfl⟩ := done_ok h
  exact ⟨P, S, E, e, h1, h2, h3, r⟩⟩
theorem sf_law_done : SFn (fun ds R => ∃ (P : Pl) (S : Sd) (e : Dd), ds = [P.d, S.d, e.d] ∧ P.ok ∧ R (tellD (doneS P S e))) f_done := ⟨fun {ds d} h R r => by
  obtain ⟨P, S, E, e, h1, h2, h3, rfl⟩ := done_ok h
  exact ⟨P, S, E, e, h1, r⟩⟩
def f_law_begin (ds : List D) : An := List.rec (motive := fun _ => An) (some xc_BEGIN) (fun _ _ _ => none) ds
theorem sf_law_begin : SFn (fun ds R => ds = [] ∧ R beginS.d) f_law_begin := ⟨fun {ds d} h R r => by
  cases ds with
  | nil =>
    have e : xc_BEGIN = d := Option.some.inj h
    rw [← e] at r
    exact ⟨rfl, r⟩
  | cons _ _ => exact nomatch h⟩
end
end L2.DL

set_option Elab.async false
set_option linter.all false
set_option maxRecDepth 100000
/-! EO: what a def promises by its run. -/
namespace L2.DL
open PySem PySem.Spec PyProof.Rows
abbrev PX (f : List D → An) : PS1 := fun ds R => ∃ d, f ds = some d ∧ R d
theorem sfPX {f : List D → An} : SFn (PX f) f := ⟨fun {ds d} h R r => ⟨d, h, r⟩⟩
theorem rdPX {N k : Nat} {t : tS} {e : xS} (h : SS N t e) (hk : k ≤ N) {ds : List D} {R : QE} (hl : ds.length = k) (p : PX (runX e) ds fun d => R d []) : t (endP R) (startD N ds) [] := by
  obtain ⟨d, h1, r⟩ := p
  exact run_ok h h1 (by omega) r
theorem u_run {f : List D → An} {ds : List D} {d : D} {R : QE} {RE : QX} (h : f ds = some d) (r : R d []) : pureF (PX f) ds [] R RE := ⟨rfl, d, h, r⟩
theorem sd_key (S : Sd) : ∃ k, keyT S.d k := isKey_ok rfl
end L2.DL


set_option Elab.async false
set_option linter.all false
set_option maxRecDepth 100000
set_option maxHeartbeats 1000000
/-! SX: defs about harms, as they run. -/
namespace L2.DL
open PySem PySem.Spec PyProof.Rows
abbrev c_HARMS : D := .tup [.str "stopped", .str "unseen"]
noncomputable section
def xc_HARMS : D := .tup [xw_stopped, xw_unseen]
theorem kc_HARMS : c_HARMS = xc_HARMS := by
  show D.tup [.str "stopped", .str "unseen"] = _
  rw [kw_stopped, kw_unseen]; rfl

/-- net_of: 0 plan, 1 found, 2 waiting, 3 at, 4 stand, 5 run, 6 rows, 7 deed, 8 there, 9 word, 10 weight -/
def t_net_of : tS := (tSq (tP3 1 2 3 (tConsA (tDic1O (tK c_BEGIN) (tTupD (tConsA (tTupD tNilA) (tConsA (tLstO tNilA) tNilA)))) (tConsA (tLstO (tConsA (tK c_BEGIN) tNilA)) (tConsA (tK (.int 0)) tNilA)))) (tSq (tWh (tTB (tB2 oLt (tV 3) (tCa cLen (tConsA (tV 2) tNilA)))) (tSq (tSt (tB2 oIx (tV 2) (tV 3)) 4) (tSq (tSt (tB2 oAdd (tV 3) (tK (.int 1))) 3) (tSq (tAs (tB2 oDix (tV 1) (tV 4)) (gTpD 2 (gConsD (gNm 5) (gConsD (gNm 6) gNilD)))) (tFr (iLs (tCaP 2 F_deeds_of (tConsA (tV 0) (tConsA (tV 4) tNilA)))) (gNm 7) (tSq (tAs (tCaP 3 F_passed (tConsA (tV 0) (tConsA (tV 4) (tConsA (tV 7) tNilA)))) (gTpD 3 (gConsD (gNm 8) (gConsD (gNm 9) (gConsD (gNm 10) gNilD))))) (tSq (tDp (tAppend (tV 6) (tConsA (tTupD (tConsA (tV 7) (tConsA (tV 8) (tConsA (tV 9) (tConsA (tV 10) tNilA))))) tNilA))) (tIfD (tTB (tB2 (oDin true) (tV 8) (tV 1))) (tSq (tAs (tTupD (tConsA (tB2 oAdd (tV 5) (tTupD (tConsA (tV 7) tNilA))) (tConsA (tLstO tNilA) tNilA))) (gSb (tV 1) (tV 8) sPut)) (tDp (tAppend (tV 2) (tConsA (tV 8) tNilA)))) tNx)))))))) (tRt (tV 1))))
def x_net_of : xS := (sqX (p3X eW1 eW2 eW3 (consA (dic1X (eK xc_BEGIN) (tupX (consA (tupX nilA) (consA (lstOX nilA) nilA)))) (consA (lstOX (consA (eK xc_BEGIN) nilA)) (consA (eK (.int (.ofNat (nat_lit 0)))) nilA)))) (sqX (whX (tbX (eB2 xLt eV3 (caX xLen (consA eV2 nilA)))) (sqX (stX (eB2 xIx eV2 eV3) eW4) (sqX (stX (eB2 addX eV3 (eK (.int (.ofNat (nat_lit 1))))) eW3) (sqX (asX (eB2 xDix eV1 eV4) (gtpX 2 (gconsX (gnX eW5) (gconsX (gnX eW6) gnilX)))) (frX (lsX (cpX f_deeds (consA eV0 (consA eV4 nilA)))) (gnX eW7) (sqX (asX (cpX f_done (consA eV0 (consA eV4 (consA eV7 nilA)))) (gtpX 3 (gconsX (gnX eW8) (gconsX (gnX eW9) (gconsX (gnX eW10) gnilX))))) (sqX (dpX (appX eV6 (consA (tupX (consA eV7 (consA eV8 (consA eV9 (consA eV10 nilA))))) nilA))) (ifS (tbX (eB2 (xDin true) eV8 eV1)) (sqX (asX (tupX (consA (eB2 addX eV5 (tupX (consA eV7 nilA))) (consA (lstOX nilA) nilA))) (gsX eV1 eV8 xPut)) (dpX (appX eV2 (consA eV8 nilA)))) nxX)))))))) (rtX eV1)))
theorem ss_net_of : SS 11 t_net_of x_net_of := (ss_sq (ss_p3 eW1_is eW2_is eW3_is (by decide) (by decide) (by decide) (by decide) (by decide) (by decide) (sa_cons (se_dic1O (se_k kc_BEGIN) (se_tup (sa_cons (se_tup sa_nil) (sa_cons (se_lstO sa_nil) sa_nil)))) (sa_cons (se_lstO (sa_cons (se_k kc_BEGIN) sa_nil)) (sa_cons (se_k rfl) sa_nil)))) (ss_sq (ss_wh (st_b (se_b2 so_lt se_v3 (se_ca so_len (sa_cons se_v2 sa_nil)))) (ss_sq (ss_st (se_b2 so_ix se_v2 se_v3) eW4_is (by decide) (by decide)) (ss_sq (ss_st (se_b2 so_add se_v3 (se_k rfl)) eW3_is (by decide) (by decide)) (ss_sq (ss_as (se_b2 so_dix se_v1 se_v4) (sg_tup (sgs_cons (sg_nm eW5_is (by decide) (by decide)) (sgs_cons (sg_nm eW6_is (by decide) (by decide)) sgs_nil)))) (ss_fr (si_ls (se_call sf_deeds_of (sa_cons se_v0 (sa_cons se_v4 sa_nil)))) (sg_nm eW7_is (by decide) (by decide)) (ss_sq (ss_as (se_call sf_passed (sa_cons se_v0 (sa_cons se_v4 (sa_cons se_v7 sa_nil)))) (sg_tup (sgs_cons (sg_nm eW8_is (by decide) (by decide)) (sgs_cons (sg_nm eW9_is (by decide) (by decide)) (sgs_cons (sg_nm eW10_is (by decide) (by decide)) sgs_nil))))) (ss_sq (ss_dp (se_append se_v6 (sa_cons (se_tup (sa_cons se_v7 (sa_cons se_v8 (sa_cons se_v9 (sa_cons se_v10 sa_nil))))) sa_nil))) (ss_if (st_b (se_b2 (so_din true) se_v8 se_v1)) (ss_sq (ss_as (se_tup (sa_cons (se_b2 so_add se_v5 (se_tup (sa_cons se_v7 sa_nil))) (sa_cons (se_lstO sa_nil) sa_nil))) (sg_sub so_put se_v1 se_v8)) (ss_dp (se_append se_v2 (sa_cons se_v8 sa_nil)))) ss_nx)))))))) (ss_rt se_v1)))
abbrev n_net_of : Nat := 11
def f_net_of : List D → An := runX x_net_of
def F_net_of : FS := pureF (PX f_net_of)
theorem sf_net_of : SFn (PX f_net_of) f_net_of := sfPX
theorem rd_net_of (ds : List D) (R : QE) (hl : ds.length = 1) (h : PX f_net_of ds fun d => R d []) : t_net_of (endP R) (startD 11 ds) [] := rdPX ss_net_of (by decide) hl h
/-- stopped_by: 0 plan, 1 first, 2 found, 3 waiting, 4 at, 5 stand, 6 has_read, 7 run, 8 deed, 9 there, 10 word, 11 weight, 12 later -/
def t_stopped_by : tS := (tSq (tSt (tTupD (tConsA (tK c_BEGIN) (tConsA (tK (.bl false)) tNilA))) 1) (tSq (tP3 2 3 4 (tConsA (tDic1O (tV 1) (tTupD tNilA)) (tConsA (tLstO (tConsA (tV 1) tNilA)) (tConsA (tK (.int 0)) tNilA)))) (tSq (tWh (tTB (tB2 oLt (tV 4) (tCa cLen (tConsA (tV 3) tNilA)))) (tSq (tAs (tB2 oIx (tV 3) (tV 4)) (gTpD 2 (gConsD (gNm 5) (gConsD (gNm 6) gNilD)))) (tSq (tSt (tB2 oDix (tV 2) (tB2 oIx (tV 3) (tV 4))) 7) (tSq (tSt (tB2 oAdd (tV 4) (tK (.int 1))) 4) (tFr (iLs (tCaP 2 F_deeds_of (tConsA (tV 0) (tConsA (tV 5) tNilA)))) (gNm 8) (tIfD (tAn (tTB (tB2 oNe (tB2 oIx (tV 8) (tK (.int 0))) (tK (.str "hide")))) (tOr (tNt (tTru (tV 6))) (tTB (tB2 oEq (tB2 oIx (tV 8) (tK (.int 0))) (tK (.str "lay")))))) (tSq (tAs (tCaP 3 F_passed (tConsA (tV 0) (tConsA (tV 5) (tConsA (tV 8) tNilA)))) (gTpD 3 (gConsD (gNm 9) (gConsD (gNm 10) (gConsD (gNm 11) gNilD))))) (tSq (tIfD (tTB (tB2 oEq (tV 10) (tK (.str "calls")))) (tRt (tB2 oAdd (tV 7) (tTupD (tConsA (tV 8) tNilA)))) tNx) (tSq (tSt (tTupD (tConsA (tV 9) (tConsA (tB2 oEq (tB2 oIx (tV 8) (tK (.int 0))) (tK (.str "read"))) tNilA))) 12) (tIfD (tTB (tB2 (oDin true) (tV 12) (tV 2))) (tSq (tAs (tB2 oAdd (tV 7) (tTupD (tConsA (tV 8) tNilA))) (gSb (tV 2) (tV 12) sPut)) (tDp (tAppend (tV 3) (tConsA (tV 12) tNilA)))) tNx)))) tNx)))))) (tRt (tK .non)))))
def x_stopped_by : xS := (sqX (stX (tupX (consA (eK xc_BEGIN) (consA (eK (.bl false)) nilA))) eW1) (sqX (p3X eW2 eW3 eW4 (consA (dic1X eV1 (tupX nilA)) (consA (lstOX (consA eV1 nilA)) (consA (eK (.int (.ofNat (nat_lit 0)))) nilA)))) (sqX (whX (tbX (eB2 xLt eV4 (caX xLen (consA eV3 nilA)))) (sqX (asX (eB2 xIx eV3 eV4) (gtpX 2 (gconsX (gnX eW5) (gconsX (gnX eW6) gnilX)))) (sqX (stX (eB2 xDix eV2 (eB2 xIx eV3 eV4)) eW7) (sqX (stX (eB2 addX eV4 (eK (.int (.ofNat (nat_lit 1))))) eW4) (frX (lsX (cpX f_deeds (consA eV0 (consA eV5 nilA)))) (gnX eW8) (ifS (taX (tbX (eB2 xNe (eB2 xIx eV8 (eK (.int (.ofNat (nat_lit 0))))) (eK xw_hide))) (toX (tnX (ttX eV6)) (tbX (eB2 xEq (eB2 xIx eV8 (eK (.int (.ofNat (nat_lit 0))))) (eK xw_lay))))) (sqX (asX (cpX f_done (consA eV0 (consA eV5 (consA eV8 nilA)))) (gtpX 3 (gconsX (gnX eW9) (gconsX (gnX eW10) (gconsX (gnX eW11) gnilX))))) (sqX (ifS (tbX (eB2 xEq eV10 (eK xw_calls))) (rtX (eB2 addX eV7 (tupX (consA eV8 nilA)))) nxX) (sqX (stX (tupX (consA eV9 (consA (eB2 xEq (eB2 xIx eV8 (eK (.int (.ofNat (nat_lit 0))))) (eK xw_read)) nilA))) eW12) (ifS (tbX (eB2 (xDin true) eV12 eV2)) (sqX (asX (eB2 addX eV7 (tupX (consA eV8 nilA))) (gsX eV2 eV12 xPut)) (dpX (appX eV3 (consA eV12 nilA)))) nxX)))) nxX)))))) (rtX (eK .non)))))
theorem ss_stopped_by : SS 13 t_stopped_by x_stopped_by := (ss_sq (ss_st (se_tup (sa_cons (se_k kc_BEGIN) (sa_cons (se_k rfl) sa_nil))) eW1_is (by decide) (by decide)) (ss_sq (ss_p3 eW2_is eW3_is eW4_is (by decide) (by decide) (by decide) (by decide) (by decide) (by decide) (sa_cons (se_dic1O se_v1 (se_tup sa_nil)) (sa_cons (se_lstO (sa_cons se_v1 sa_nil)) (sa_cons (se_k rfl) sa_nil)))) (ss_sq (ss_wh (st_b (se_b2 so_lt se_v4 (se_ca so_len (sa_cons se_v3 sa_nil)))) (ss_sq (ss_as (se_b2 so_ix se_v3 se_v4) (sg_tup (sgs_cons (sg_nm eW5_is (by decide) (by decide)) (sgs_cons (sg_nm eW6_is (by decide) (by decide)) sgs_nil)))) (ss_sq (ss_st (se_b2 so_dix se_v2 (se_b2 so_ix se_v3 se_v4)) eW7_is (by decide) (by decide)) (ss_sq (ss_st (se_b2 so_add se_v4 (se_k rfl)) eW4_is (by decide) (by decide)) (ss_fr (si_ls (se_call sf_deeds_of (sa_cons se_v0 (sa_cons se_v5 sa_nil)))) (sg_nm eW8_is (by decide) (by decide)) (ss_if (st_and (st_b (se_b2 so_ne (se_b2 so_ix se_v8 (se_k rfl)) (se_k kw_hide))) (st_or (st_not (st_tru se_v6)) (st_b (se_b2 so_eq (se_b2 so_ix se_v8 (se_k rfl)) (se_k kw_lay))))) (ss_sq (ss_as (se_call sf_passed (sa_cons se_v0 (sa_cons se_v5 (sa_cons se_v8 sa_nil)))) (sg_tup (sgs_cons (sg_nm eW9_is (by decide) (by decide)) (sgs_cons (sg_nm eW10_is (by decide) (by decide)) (sgs_cons (sg_nm eW11_is (by decide) (by decide)) sgs_nil))))) (ss_sq (ss_if (st_b (se_b2 so_eq se_v10 (se_k kw_calls))) (ss_rt (se_b2 so_add se_v7 (se_tup (sa_cons se_v8 sa_nil)))) ss_nx) (ss_sq (ss_st (se_tup (sa_cons se_v9 (sa_cons (se_b2 so_eq (se_b2 so_ix se_v8 (se_k rfl)) (se_k kw_read)) sa_nil))) eW12_is (by decide) (by decide)) (ss_if (st_b (se_b2 (so_din true) se_v12 se_v2)) (ss_sq (ss_as (se_b2 so_add se_v7 (se_tup (sa_cons se_v8 sa_nil))) (sg_sub so_put se_v2 se_v12)) (ss_dp (se_append se_v3 (sa_cons se_v12 sa_nil)))) ss_nx)))) ss_nx)))))) (ss_rt (se_k rfl)))))
abbrev n_stopped_by : Nat := 13
def f_stopped_by : List D → An := runX x_stopped_by
def F_stopped_by : FS := pureF (PX f_stopped_by)
theorem sf_stopped_by : SFn (PX f_stopped_by) f_stopped_by := sfPX
theorem rd_stopped_by (ds : List D) (R : QE) (hl : ds.length = 1) (h : PX f_stopped_by ds fun d => R d []) : t_stopped_by (endP R) (startD 13 ds) [] := rdPX ss_stopped_by (by decide) hl h
/-- ring_along: 0 ahead, 1 stand, 2 line, 3 seen -/
def t_ring_along : tS := (tSq (tP2 2 3 (tConsA (tLstO tNilA) (tConsA tDicO tNilA))) (tSq (tWh (tAn (tTB (tB2 (oDin false) (tV 1) (tV 0))) (tTB (tB2 (oDin true) (tV 1) (tV 3)))) (tSq (tAs (tCa cLen (tConsA (tV 2) tNilA)) (gSb (tV 3) (tV 1) sPut)) (tSq (tDp (tAppend (tV 2) (tConsA (tB2 oDix (tV 0) (tV 1)) tNilA))) (tSt (tB2 oIx (tB2 oDix (tV 0) (tV 1)) (tK (.int 0))) 1)))) (tRt (tIfE (tTB (tB2 (oDin false) (tV 1) (tV 3))) (tRev (tSlD (tV 2) (tSomeP (tB2 oDix (tV 3) (tV 1))) tNoP)) (tK .non)))))
def x_ring_along : xS := (sqX (p2X eW2 eW3 (consA (lstOX nilA) (consA dicOX nilA))) (sqX (whX (taX (tbX (eB2 (xDin false) eV1 eV0)) (tbX (eB2 (xDin true) eV1 eV3))) (sqX (asX (caX xLen (consA eV2 nilA)) (gsX eV3 eV1 xPut)) (sqX (dpX (appX eV2 (consA (eB2 xDix eV0 eV1) nilA))) (stX (eB2 xIx (eB2 xDix eV0 eV1) (eK (.int (.ofNat (nat_lit 0))))) eW1)))) (rtX (ifX (tbX (eB2 (xDin false) eV1 eV3)) (revX (slX eV2 (someP (eB2 xDix eV3 eV1)) noP)) (eK .non)))))
theorem ss_ring_along : SS 4 t_ring_along x_ring_along := (ss_sq (ss_p2 eW2_is eW3_is (by decide) (by decide) (by decide) (by decide) (sa_cons (se_lstO sa_nil) (sa_cons se_dicO sa_nil))) (ss_sq (ss_wh (st_and (st_b (se_b2 (so_din false) se_v1 se_v0)) (st_b (se_b2 (so_din true) se_v1 se_v3))) (ss_sq (ss_as (se_ca so_len (sa_cons se_v2 sa_nil)) (sg_sub so_put se_v3 se_v1)) (ss_sq (ss_dp (se_append se_v2 (sa_cons (se_b2 so_dix se_v0 se_v1) sa_nil))) (ss_st (se_b2 so_ix (se_b2 so_dix se_v0 se_v1) (se_k rfl)) eW1_is (by decide) (by decide))))) (ss_rt (se_if (st_b (se_b2 (so_din false) se_v1 se_v3)) (se_rev (se_slice se_v2 (sp_some (se_b2 so_dix se_v3 se_v1)) sp_no)) (se_k rfl)))))
abbrev n_ring_along : Nat := 4
def f_ring_along : List D → An := runX x_ring_along
def F_ring_along : FS := pureF (PX f_ring_along)
theorem sf_ring_along : SFn (PX f_ring_along) f_ring_along := sfPX
theorem rd_ring_along (ds : List D) (R : QE) (hl : ds.length = 2) (h : PX f_ring_along ds fun d => R d []) : t_ring_along (endP R) (startD 4 ds) [] := rdPX ss_ring_along (by decide) hl h
/-- grown: 0 rows, 1 high, 2 ahead, 3 changed, 4 stand, 5 deed, 6 there, 7 number, 8 more, 9 now, 10 ring -/
def t_grown : tS := (tSq (tP3 1 2 3 (tConsA (tCa cDictO (tConsA (tV 1) tNilA)) (tConsA tDicO (tConsA (tK (.bl true)) tNilA)))) (tSq (tWh (tTru (tV 3)) (tSq (tSt (tK (.bl false)) 3) (tFr (iDk (tV 0)) (gNm 4) (tFr (iLs (tIfE (tTB (tB2 (oDin false) (tV 4) (tV 1))) (tB2 oDix (tV 0) (tV 4)) (tLstD tNilA))) (gTpD 4 (gConsD (gNm 5) (gConsD (gNm 6) (gConsD (gNm 7) (gConsD (gNm 8) gNilD))))) (tSq (tSt (tB2 oAdd (tB2 oDix (tV 1) (tV 4)) (tV 7)) 9) (tIfD (tOr (tTB (tB2 (oDin true) (tV 6) (tV 1))) (tTB (tB2 oGt (tV 9) (tB2 oDix (tV 1) (tV 6))))) (tSq (tAs (tTupD (tConsA (tV 9) (tConsA (tTupD (tConsA (tV 4) (tConsA (tV 5) (tConsA (tV 8) tNilA)))) (tConsA (tK (.bl true)) tNilA)))) (gTpD 3 (gConsD (gSb (tV 1) (tV 6) sPut) (gConsD (gSb (tV 2) (tV 6) sPut) (gConsD (gNm 3) gNilD))))) (tSq (tSt (tCaW 2 F_ring_along (tConsA (tV 2) (tConsA (tV 6) tNilA))) 10) (tIfD (tTB (tB2 oNotN (tV 10) (tK .non))) (tRt (tTupD (tConsA (tK .non) (tConsA (tV 10) tNilA)))) tNx))) tNx)))))) (tRt (tTupD (tConsA (tV 1) (tConsA (tK .non) tNilA))))))
def x_grown : xS := (sqX (p3X eW1 eW2 eW3 (consA (caX xDictO (consA eV1 nilA)) (consA dicOX (consA (eK (.bl true)) nilA)))) (sqX (whX (ttX eV3) (sqX (stX (eK (.bl false)) eW3) (frX (dkX eV0) (gnX eW4) (frX (lsX (ifX (tbX (eB2 (xDin false) eV4 eV1)) (eB2 xDix eV0 eV4) (lstX' nilA))) (gtpX 4 (gconsX (gnX eW5) (gconsX (gnX eW6) (gconsX (gnX eW7) (gconsX (gnX eW8) gnilX))))) (sqX (stX (eB2 addX (eB2 xDix eV1 eV4) eV7) eW9) (ifS (toX (tbX (eB2 (xDin true) eV6 eV1)) (tbX (eB2 xGt eV9 (eB2 xDix eV1 eV6)))) (sqX (asX (tupX (consA eV9 (consA (tupX (consA eV4 (consA eV5 (consA eV8 nilA)))) (consA (eK (.bl true)) nilA)))) (gtpX 3 (gconsX (gsX eV1 eV6 xPut) (gconsX (gsX eV2 eV6 xPut) (gconsX (gnX eW3) gnilX))))) (sqX (stX (cwX f_ring_along (consA eV2 (consA eV6 nilA))) eW10) (ifS (tbX (eB2 xNotN eV10 (eK .non))) (rtX (tupX (consA (eK .non) (consA eV10 nilA)))) nxX))) nxX)))))) (rtX (tupX (consA eV1 (consA (eK .non) nilA))))))
theorem ss_grown : SS 11 t_grown x_grown := (ss_sq (ss_p3 eW1_is eW2_is eW3_is (by decide) (by decide) (by decide) (by decide) (by decide) (by decide) (sa_cons (se_ca so_dictO (sa_cons se_v1 sa_nil)) (sa_cons se_dicO (sa_cons (se_k rfl) sa_nil)))) (ss_sq (ss_wh (st_tru se_v3) (ss_sq (ss_st (se_k rfl) eW3_is (by decide) (by decide)) (ss_fr (si_dk se_v0) (sg_nm eW4_is (by decide) (by decide)) (ss_fr (si_ls (se_if (st_b (se_b2 (so_din false) se_v4 se_v1)) (se_b2 so_dix se_v0 se_v4) (se_lst sa_nil))) (sg_tup (sgs_cons (sg_nm eW5_is (by decide) (by decide)) (sgs_cons (sg_nm eW6_is (by decide) (by decide)) (sgs_cons (sg_nm eW7_is (by decide) (by decide)) (sgs_cons (sg_nm eW8_is (by decide) (by decide)) sgs_nil))))) (ss_sq (ss_st (se_b2 so_add (se_b2 so_dix se_v1 se_v4) se_v7) eW9_is (by decide) (by decide)) (ss_if (st_or (st_b (se_b2 (so_din true) se_v6 se_v1)) (st_b (se_b2 so_gt se_v9 (se_b2 so_dix se_v1 se_v6)))) (ss_sq (ss_as (se_tup (sa_cons se_v9 (sa_cons (se_tup (sa_cons se_v4 (sa_cons se_v5 (sa_cons se_v8 sa_nil)))) (sa_cons (se_k rfl) sa_nil)))) (sg_tup (sgs_cons (sg_sub so_put se_v1 se_v6) (sgs_cons (sg_sub so_put se_v2 se_v6) (sgs_cons (sg_nm eW3_is (by decide) (by decide)) sgs_nil))))) (ss_sq (ss_st (se_callW sf_ring_along (sa_cons se_v2 (sa_cons se_v6 sa_nil))) eW10_is (by decide) (by decide)) (ss_if (st_b (se_b2 so_notN se_v10 (se_k rfl))) (ss_rt (se_tup (sa_cons (se_k rfl) (sa_cons se_v10 sa_nil)))) ss_nx))) ss_nx)))))) (ss_rt (se_tup (sa_cons se_v1 (sa_cons (se_k rfl) sa_nil))))))
abbrev n_grown : Nat := 11
def f_grown : List D → An := runX x_grown
def F_grown : FS := pureF (PX f_grown)
theorem sf_grown : SFn (PX f_grown) f_grown := sfPX
theorem rd_grown (ds : List D) (R : QE) (hl : ds.length = 2) (h : PX f_grown ds fun d => R d []) : t_grown (endP R) (startD 11 ds) [] := rdPX ss_grown (by decide) hl h
/-- calm_rows: 0 net, 1 gain, 2 cost, 3 found, 4 stand, 5 run, 6 rows, 7 some, 8 deed, 9 there, 10 word, 11 weight, 12 accepts, 13 row -/
def t_calm_rows : tS := (tSq (tSt tDicO 3) (tSq (tFr (iDi (tV 0)) (gTpD 2 (gConsD (gNm 4) (gConsD (gTpD 2 (gConsD (gNm 5) (gConsD (gNm 6) gNilD))) gNilD))) (tSq (tSt (tLcD (iLs (tV 6)) (c1 13) (tTB (tB2 oNe (tB2 oIx (tV 13) (tK (.int 2))) (tK (.str "calls")))) (tV 13) [13]) 7) (tSq (tAs (tLstO tNilA) (gSb (tV 3) (tV 4) sPut)) (tFr (iLs (tV 7)) (gTpD 4 (gConsD (gNm 8) (gConsD (gNm 9) (gConsD (gNm 10) (gConsD (gNm 11) gNilD))))) (tSq (tSt (tCa cInt (tConsA (tB2 oEq (tV 10) (tK (.str "accepts"))) tNilA)) 12) (tDp (tAppend (tB2 oDix (tV 3) (tV 4)) (tConsA (tTupD (tConsA (tV 8) (tConsA (tV 9) (tConsA (tB2 oSub (tB2 oMul (tV 1) (tV 11)) (tB2 oMul (tV 2) (tV 12))) (tConsA (tTupD (tConsA (tV 11) (tConsA (tV 12) tNilA))) tNilA))))) tNilA)))))))) (tRt (tV 3))))
def x_calm_rows : xS := (sqX (stX dicOX eW3) (sqX (frX (diX eV0) (gtpX 2 (gconsX (gnX eW4) (gconsX (gtpX 2 (gconsX (gnX eW5) (gconsX (gnX eW6) gnilX))) gnilX))) (sqX (stX (lcX (lsX eV6) (c1X eW13) (tbX (eB2 xNe (eB2 xIx eV13 (eK (.int (.ofNat (nat_lit 2))))) (eK xw_calls))) eV13 [eW13]) eW7) (sqX (asX (lstOX nilA) (gsX eV3 eV4 xPut)) (frX (lsX eV7) (gtpX 4 (gconsX (gnX eW8) (gconsX (gnX eW9) (gconsX (gnX eW10) (gconsX (gnX eW11) gnilX))))) (sqX (stX (caX xInt (consA (eB2 xEq eV10 (eK xw_accepts)) nilA)) eW12) (dpX (appX (eB2 xDix eV3 eV4) (consA (tupX (consA eV8 (consA eV9 (consA (eB2 xSub (eB2 xMul eV1 eV11) (eB2 xMul eV2 eV12)) (consA (tupX (consA eV11 (consA eV12 nilA))) nilA))))) nilA)))))))) (rtX eV3)))
theorem ss_calm_rows : SS 14 t_calm_rows x_calm_rows := (ss_sq (ss_st se_dicO eW3_is (by decide) (by decide)) (ss_sq (ss_fr (si_di se_v0) (sg_tup (sgs_cons (sg_nm eW4_is (by decide) (by decide)) (sgs_cons (sg_tup (sgs_cons (sg_nm eW5_is (by decide) (by decide)) (sgs_cons (sg_nm eW6_is (by decide) (by decide)) sgs_nil))) sgs_nil))) (ss_sq (ss_st (se_lc (si_ls se_v6) (sc_1 eW13_is (by decide) (by decide)) (st_b (se_b2 so_ne (se_b2 so_ix se_v13 (se_k rfl)) (se_k kw_calls))) se_v13 (sw_cons eW13_is (by decide) sw_nil)) eW7_is (by decide) (by decide)) (ss_sq (ss_as (se_lstO sa_nil) (sg_sub so_put se_v3 se_v4)) (ss_fr (si_ls se_v7) (sg_tup (sgs_cons (sg_nm eW8_is (by decide) (by decide)) (sgs_cons (sg_nm eW9_is (by decide) (by decide)) (sgs_cons (sg_nm eW10_is (by decide) (by decide)) (sgs_cons (sg_nm eW11_is (by decide) (by decide)) sgs_nil))))) (ss_sq (ss_st (se_ca so_int (sa_cons (se_b2 so_eq se_v10 (se_k kw_accepts)) sa_nil)) eW12_is (by decide) (by decide)) (ss_dp (se_append (se_b2 so_dix se_v3 se_v4) (sa_cons (se_tup (sa_cons se_v8 (sa_cons se_v9 (sa_cons (se_b2 so_sub (se_b2 so_mul se_v1 se_v11) (se_b2 so_mul se_v2 se_v12)) (sa_cons (se_tup (sa_cons se_v11 (sa_cons se_v12 sa_nil))) sa_nil))))) sa_nil)))))))) (ss_rt se_v3)))
abbrev n_calm_rows : Nat := 14
def f_calm_rows : List D → An := runX x_calm_rows
def F_calm_rows : FS := pureF (PX f_calm_rows)
theorem sf_calm_rows : SFn (PX f_calm_rows) f_calm_rows := sfPX
theorem rd_calm_rows (ds : List D) (R : QE) (hl : ds.length = 3) (h : PX f_calm_rows ds fun d => R d []) : t_calm_rows (endP R) (startD 14 ds) [] := rdPX ss_calm_rows (by decide) hl h
/-- is_ready: 0 stand -/
def t_is_ready : tS := (tRt (tAnV (tB2 oEq (tB2 oIx (tV 0) (tK (.int 1))) (tK (.int 0))) (tNtV (tB2 oIx (tV 0) (tK (.int 5))))))
def x_is_ready : xS := (rtX (avX (eB2 xEq (eB2 xIx eV0 (eK (.int (.ofNat (nat_lit 1))))) (eK (.int (.ofNat (nat_lit 0))))) (nvX (eB2 xIx eV0 (eK (.int (.ofNat (nat_lit 5))))))))
theorem ss_is_ready : SS 1 t_is_ready x_is_ready := (ss_rt (se_and (se_b2 so_eq (se_b2 so_ix se_v0 (se_k rfl)) (se_k rfl)) (se_not (se_b2 so_ix se_v0 (se_k rfl)))))
abbrev n_is_ready : Nat := 1
def f_is_ready : List D → An := runX x_is_ready
def F_is_ready : FS := pureF (PX f_is_ready)
theorem sf_is_ready : SFn (PX f_is_ready) f_is_ready := sfPX
theorem rd_is_ready (ds : List D) (R : QE) (hl : ds.length = 1) (h : PX f_is_ready ds fun d => R d []) : t_is_ready (endP R) (startD 1 ds) [] := rdPX ss_is_ready (by decide) hl h
/-- can_go_unseen: 0 plan, 1 high, 2 ring, 3 stand -/
def t_can_go_unseen : tS := (tSq (tAs (tCaP 2 F_grown (tConsA (tCaP 3 F_calm_rows (tConsA (tCaP 1 F_net_of (tConsA (tV 0) tNilA)) (tConsA (tK (.int 1)) (tConsA (tK (.int 0)) tNilA)))) (tConsA (tFzE (tDic1O (tK c_BEGIN) (tK (.int 0)))) tNilA))) (gTpD 2 (gConsD (gNm 1) (gConsD (gNm 2) gNilD)))) (tRt (tOrV (tB2 oNotN (tV 2) (tK .non)) (tB2 oGt (tCa cMaxL (tConsA (tLcD (iDk (tV 1)) (c1 3) (tTru (tCaP 1 F_is_ready (tConsA (tV 3) tNilA))) (tB2 oDix (tV 1) (tV 3)) [3]) tNilA)) (tK (.int 0))))))
def x_can_go_unseen : xS := (sqX (asX (cpX f_grown (consA (cpX f_calm_rows (consA (cpX f_net_of (consA eV0 nilA)) (consA (eK (.int (.ofNat (nat_lit 1)))) (consA (eK (.int (.ofNat (nat_lit 0)))) nilA)))) (consA (fzEX (dic1X (eK xc_BEGIN) (eK (.int (.ofNat (nat_lit 0)))))) nilA))) (gtpX 2 (gconsX (gnX eW1) (gconsX (gnX eW2) gnilX)))) (rtX (ovX (eB2 xNotN eV2 (eK .non)) (eB2 xGt (caX xMaxL (consA (lcX (dkX eV1) (c1X eW3) (ttX (cpX f_is_ready (consA eV3 nilA))) (eB2 xDix eV1 eV3) [eW3]) nilA)) (eK (.int (.ofNat (nat_lit 0))))))))
theorem ss_can_go_unseen : SS 4 t_can_go_unseen x_can_go_unseen := (ss_sq (ss_as (se_call sf_grown (sa_cons (se_call sf_calm_rows (sa_cons (se_call sf_net_of (sa_cons se_v0 sa_nil)) (sa_cons (se_k rfl) (sa_cons (se_k rfl) sa_nil)))) (sa_cons (se_frz (se_dic1O (se_k kc_BEGIN) (se_k rfl))) sa_nil))) (sg_tup (sgs_cons (sg_nm eW1_is (by decide) (by decide)) (sgs_cons (sg_nm eW2_is (by decide) (by decide)) sgs_nil)))) (ss_rt (se_or (se_b2 so_notN se_v2 (se_k rfl)) (se_b2 so_gt (se_ca so_maxL (sa_cons (se_lc (si_dk se_v1) (sc_1 eW3_is (by decide) (by decide)) (st_tru (se_call sf_is_ready (sa_cons se_v3 sa_nil))) (se_b2 so_dix se_v1 se_v3) (sw_cons eW3_is (by decide) sw_nil)) sa_nil)) (se_k rfl)))))
abbrev n_can_go_unseen : Nat := 4
def f_can_go_unseen : List D → An := runX x_can_go_unseen
def F_can_go_unseen : FS := pureF (PX f_can_go_unseen)
theorem sf_can_go_unseen : SFn (PX f_can_go_unseen) f_can_go_unseen := sfPX
theorem rd_can_go_unseen (ds : List D) (R : QE) (hl : ds.length = 1) (h : PX f_can_go_unseen ds fun d => R d []) : t_can_go_unseen (endP R) (startD 4 ds) [] := rdPX ss_can_go_unseen (by decide) hl h
/-- unseen_by: 0 plan, 1 first, 2 found, 3 waiting, 4 at, 5 stand, 6 weight, 7 run, 8 deed, 9 there, 10 word, 11 more, 12 later -/
def t_unseen_by : tS := (tSq (tIfD (tNt (tTru (tCaP 1 F_can_go_unseen (tConsA (tV 0) tNilA)))) (tRt (tK .non)) tNx) (tSq (tSt (tTupD (tConsA (tK c_BEGIN) (tConsA (tK (.int 0)) tNilA))) 1) (tSq (tP3 2 3 4 (tConsA (tDic1O (tV 1) (tTupD tNilA)) (tConsA (tLstO (tConsA (tV 1) tNilA)) (tConsA (tK (.int 0)) tNilA)))) (tWh (tTru (tK (.bl true))) (tSq (tAs (tB2 oIx (tV 3) (tV 4)) (gTpD 2 (gConsD (gNm 5) (gConsD (gNm 6) gNilD)))) (tSq (tSt (tB2 oDix (tV 2) (tB2 oIx (tV 3) (tV 4))) 7) (tSq (tSt (tB2 oAdd (tV 4) (tK (.int 1))) 4) (tFr (iLs (tCaP 2 F_deeds_of (tConsA (tV 0) (tConsA (tV 5) tNilA)))) (gNm 8) (tSq (tAs (tCaP 3 F_passed (tConsA (tV 0) (tConsA (tV 5) (tConsA (tV 8) tNilA)))) (gTpD 3 (gConsD (gNm 9) (gConsD (gNm 10) (gConsD (gNm 11) gNilD))))) (tSq (tIfD (tAn (tTru (tCaP 1 F_is_ready (tConsA (tV 9) tNilA))) (tAn (tTB (tB2 oNe (tV 10) (tK (.str "calls")))) (tTB (tB2 oGt (tB2 oAdd (tV 6) (tV 11)) (tK (.int 0)))))) (tRt (tB2 oAdd (tV 7) (tTupD (tConsA (tV 8) tNilA)))) tNx) (tSq (tSt (tTupD (tConsA (tV 9) (tConsA (tB2 oAdd (tV 6) (tV 11)) tNilA))) 12) (tIfD (tAn (tTB (tB2 oNe (tV 10) (tK (.str "calls")))) (tTB (tB2 (oDin true) (tV 12) (tV 2)))) (tSq (tAs (tB2 oAdd (tV 7) (tTupD (tConsA (tV 8) tNilA))) (gSb (tV 2) (tV 12) sPut)) (tDp (tAppend (tV 3) (tConsA (tV 12) tNilA)))) tNx))))))))))))
def x_unseen_by : xS := (sqX (ifS (tnX (ttX (cpX f_can_go_unseen (consA eV0 nilA)))) (rtX (eK .non)) nxX) (sqX (stX (tupX (consA (eK xc_BEGIN) (consA (eK (.int (.ofNat (nat_lit 0)))) nilA))) eW1) (sqX (p3X eW2 eW3 eW4 (consA (dic1X eV1 (tupX nilA)) (consA (lstOX (consA eV1 nilA)) (consA (eK (.int (.ofNat (nat_lit 0)))) nilA)))) (whX (ttX (eK (.bl true))) (sqX (asX (eB2 xIx eV3 eV4) (gtpX 2 (gconsX (gnX eW5) (gconsX (gnX eW6) gnilX)))) (sqX (stX (eB2 xDix eV2 (eB2 xIx eV3 eV4)) eW7) (sqX (stX (eB2 addX eV4 (eK (.int (.ofNat (nat_lit 1))))) eW4) (frX (lsX (cpX f_deeds (consA eV0 (consA eV5 nilA)))) (gnX eW8) (sqX (asX (cpX f_done (consA eV0 (consA eV5 (consA eV8 nilA)))) (gtpX 3 (gconsX (gnX eW9) (gconsX (gnX eW10) (gconsX (gnX eW11) gnilX))))) (sqX (ifS (taX (ttX (cpX f_is_ready (consA eV9 nilA))) (taX (tbX (eB2 xNe eV10 (eK xw_calls))) (tbX (eB2 xGt (eB2 addX eV6 eV11) (eK (.int (.ofNat (nat_lit 0)))))))) (rtX (eB2 addX eV7 (tupX (consA eV8 nilA)))) nxX) (sqX (stX (tupX (consA eV9 (consA (eB2 addX eV6 eV11) nilA))) eW12) (ifS (taX (tbX (eB2 xNe eV10 (eK xw_calls))) (tbX (eB2 (xDin true) eV12 eV2))) (sqX (asX (eB2 addX eV7 (tupX (consA eV8 nilA))) (gsX eV2 eV12 xPut)) (dpX (appX eV3 (consA eV12 nilA)))) nxX))))))))))))
theorem ss_unseen_by : SS 13 t_unseen_by x_unseen_by := (ss_sq (ss_if (st_not (st_tru (se_call sf_can_go_unseen (sa_cons se_v0 sa_nil)))) (ss_rt (se_k rfl)) ss_nx) (ss_sq (ss_st (se_tup (sa_cons (se_k kc_BEGIN) (sa_cons (se_k rfl) sa_nil))) eW1_is (by decide) (by decide)) (ss_sq (ss_p3 eW2_is eW3_is eW4_is (by decide) (by decide) (by decide) (by decide) (by decide) (by decide) (sa_cons (se_dic1O se_v1 (se_tup sa_nil)) (sa_cons (se_lstO (sa_cons se_v1 sa_nil)) (sa_cons (se_k rfl) sa_nil)))) (ss_wh (st_tru (se_k rfl)) (ss_sq (ss_as (se_b2 so_ix se_v3 se_v4) (sg_tup (sgs_cons (sg_nm eW5_is (by decide) (by decide)) (sgs_cons (sg_nm eW6_is (by decide) (by decide)) sgs_nil)))) (ss_sq (ss_st (se_b2 so_dix se_v2 (se_b2 so_ix se_v3 se_v4)) eW7_is (by decide) (by decide)) (ss_sq (ss_st (se_b2 so_add se_v4 (se_k rfl)) eW4_is (by decide) (by decide)) (ss_fr (si_ls (se_call sf_deeds_of (sa_cons se_v0 (sa_cons se_v5 sa_nil)))) (sg_nm eW8_is (by decide) (by decide)) (ss_sq (ss_as (se_call sf_passed (sa_cons se_v0 (sa_cons se_v5 (sa_cons se_v8 sa_nil)))) (sg_tup (sgs_cons (sg_nm eW9_is (by decide) (by decide)) (sgs_cons (sg_nm eW10_is (by decide) (by decide)) (sgs_cons (sg_nm eW11_is (by decide) (by decide)) sgs_nil))))) (ss_sq (ss_if (st_and (st_tru (se_call sf_is_ready (sa_cons se_v9 sa_nil))) (st_and (st_b (se_b2 so_ne se_v10 (se_k kw_calls))) (st_b (se_b2 so_gt (se_b2 so_add se_v6 se_v11) (se_k rfl))))) (ss_rt (se_b2 so_add se_v7 (se_tup (sa_cons se_v8 sa_nil)))) ss_nx) (ss_sq (ss_st (se_tup (sa_cons se_v9 (sa_cons (se_b2 so_add se_v6 se_v11) sa_nil))) eW12_is (by decide) (by decide)) (ss_if (st_and (st_b (se_b2 so_ne se_v10 (se_k kw_calls))) (st_b (se_b2 (so_din true) se_v12 se_v2))) (ss_sq (ss_as (se_b2 so_add se_v7 (se_tup (sa_cons se_v8 sa_nil))) (sg_sub so_put se_v2 se_v12)) (ss_dp (se_append se_v3 (sa_cons se_v12 sa_nil)))) ss_nx))))))))))))
abbrev n_unseen_by : Nat := 13
def f_unseen_by : List D → An := runX x_unseen_by
def F_unseen_by : FS := pureF (PX f_unseen_by)
theorem sf_unseen_by : SFn (PX f_unseen_by) f_unseen_by := sfPX
theorem rd_unseen_by (ds : List D) (R : QE) (hl : ds.length = 1) (h : PX f_unseen_by ds fun d => R d []) : t_unseen_by (endP R) (startD 13 ds) [] := rdPX ss_unseen_by (by decide) hl h
/-- harms_by: 0 plan, 1 harm -/
def t_harms_by : tS := (tRt (tLcD (iTp (tK c_HARMS)) (c1 1) (tIfT (tTB (tB2 oEq (tV 1) (tK (.str "unseen")))) (tTru (tCaP 1 F_can_go_unseen (tConsA (tV 0) tNilA))) (tTB (tB2 oNotN (tCaP 1 F_stopped_by (tConsA (tV 0) tNilA)) (tK .non)))) (tV 1) [1]))
def x_harms_by : xS := (rtX (lcX (tpX (eK xc_HARMS)) (c1X eW1) (iftX (tbX (eB2 xEq eV1 (eK xw_unseen))) (ttX (cpX f_can_go_unseen (consA eV0 nilA))) (tbX (eB2 xNotN (cpX f_stopped_by (consA eV0 nilA)) (eK .non)))) eV1 [eW1]))
theorem ss_harms_by : SS 2 t_harms_by x_harms_by := (ss_rt (se_lc (si_tp (se_k kc_HARMS)) (sc_1 eW1_is (by decide) (by decide)) (st_ifT (st_b (se_b2 so_eq se_v1 (se_k kw_unseen))) (st_tru (se_call sf_can_go_unseen (sa_cons se_v0 sa_nil))) (st_b (se_b2 so_notN (se_call sf_stopped_by (sa_cons se_v0 sa_nil)) (se_k rfl)))) se_v1 (sw_cons eW1_is (by decide) sw_nil)))
abbrev n_harms_by : Nat := 2
def f_harms_by : List D → An := runX x_harms_by
def F_harms_by : FS := pureF (PX f_harms_by)
theorem sf_harms_by : SFn (PX f_harms_by) f_harms_by := sfPX
theorem rd_harms_by (ds : List D) (R : QE) (hl : ds.length = 1) (h : PX f_harms_by ds fun d => R d []) : t_harms_by (endP R) (startD 2 ds) [] := rdPX ss_harms_by (by decide) hl h
/-- _law_ways: 0 plan, 1 calm, 2 found, 3 queue, 4 at, 5 stand, 6 deed, 7 there, 8 word, 9 weight -/
def t_law_ways : tS := (tSq (tP3 2 3 4 (tConsA (tDic1O (tCaP 0 F_law_begin tNilA) (tTupD (tConsA (tTupD tNilA) (tConsA (tLstO tNilA) tNilA)))) (tConsA (tLstO (tConsA (tCaP 0 F_law_begin tNilA) tNilA)) (tConsA (tK (.int 0)) tNilA)))) (tSq (tWh (tTB (tB2 oLt (tV 4) (tCa cLen (tConsA (tV 3) tNilA)))) (tSq (tSt (tB2 oIx (tV 3) (tV 4)) 5) (tSq (tSt (tB2 oAdd (tV 4) (tK (.int 1))) 4) (tFr (iLs (tCaP 2 F_law_deeds (tConsA (tV 0) (tConsA (tV 5) tNilA)))) (gNm 6) (tSq (tAs (tCaP 3 F_law_done (tConsA (tV 0) (tConsA (tV 5) (tConsA (tV 6) tNilA)))) (gTpD 3 (gConsD (gNm 7) (gConsD (gNm 8) (gConsD (gNm 9) gNilD))))) (tIfD (tOr (tTB (tB2 oNe (tV 8) (tK (.str "calls")))) (tNt (tTru (tV 1)))) (tSq (tDp (tAppend (tB2 oIx (tB2 oDix (tV 2) (tV 5)) (tK (.int 1))) (tConsA (tTupD (tConsA (tV 6) (tConsA (tV 7) (tConsA (tV 8) (tConsA (tV 9) tNilA))))) tNilA))) (tIfD (tTB (tB2 (oDin true) (tV 7) (tV 2))) (tSq (tAs (tTupD (tConsA (tB2 oAdd (tB2 oIx (tB2 oDix (tV 2) (tV 5)) (tK (.int 0))) (tTupD (tConsA (tV 6) tNilA))) (tConsA (tLstO tNilA) tNilA))) (gSb (tV 2) (tV 7) sPut)) (tDp (tAppend (tV 3) (tConsA (tV 7) tNilA)))) tNx)) tNx)))))) (tRt (tV 2))))
def x_law_ways : xS := (sqX (p3X eW2 eW3 eW4 (consA (dic1X (cpX f_law_begin nilA) (tupX (consA (tupX nilA) (consA (lstOX nilA) nilA)))) (consA (lstOX (consA (cpX f_law_begin nilA) nilA)) (consA (eK (.int (.ofNat (nat_lit 0)))) nilA)))) (sqX (whX (tbX (eB2 xLt eV4 (caX xLen (consA eV3 nilA)))) (sqX (stX (eB2 xIx eV3 eV4) eW5) (sqX (stX (eB2 addX eV4 (eK (.int (.ofNat (nat_lit 1))))) eW4) (frX (lsX (cpX f_deeds (consA eV0 (consA eV5 nilA)))) (gnX eW6) (sqX (asX (cpX f_done (consA eV0 (consA eV5 (consA eV6 nilA)))) (gtpX 3 (gconsX (gnX eW7) (gconsX (gnX eW8) (gconsX (gnX eW9) gnilX))))) (ifS (toX (tbX (eB2 xNe eV8 (eK xw_calls))) (tnX (ttX eV1))) (sqX (dpX (appX (eB2 xIx (eB2 xDix eV2 eV5) (eK (.int (.ofNat (nat_lit 1))))) (consA (tupX (consA eV6 (consA eV7 (consA eV8 (consA eV9 nilA))))) nilA))) (ifS (tbX (eB2 (xDin true) eV7 eV2)) (sqX (asX (tupX (consA (eB2 addX (eB2 xIx (eB2 xDix eV2 eV5) (eK (.int (.ofNat (nat_lit 0))))) (tupX (consA eV6 nilA))) (consA (lstOX nilA) nilA))) (gsX eV2 eV7 xPut)) (dpX (appX eV3 (consA eV7 nilA)))) nxX)) nxX)))))) (rtX eV2)))
theorem ss_law_ways : SS 10 t_law_ways x_law_ways := (ss_sq (ss_p3 eW2_is eW3_is eW4_is (by decide) (by decide) (by decide) (by decide) (by decide) (by decide) (sa_cons (se_dic1O (se_call sf_law_begin sa_nil) (se_tup (sa_cons (se_tup sa_nil) (sa_cons (se_lstO sa_nil) sa_nil)))) (sa_cons (se_lstO (sa_cons (se_call sf_law_begin sa_nil) sa_nil)) (sa_cons (se_k rfl) sa_nil)))) (ss_sq (ss_wh (st_b (se_b2 so_lt se_v4 (se_ca so_len (sa_cons se_v3 sa_nil)))) (ss_sq (ss_st (se_b2 so_ix se_v3 se_v4) eW5_is (by decide) (by decide)) (ss_sq (ss_st (se_b2 so_add se_v4 (se_k rfl)) eW4_is (by decide) (by decide)) (ss_fr (si_ls (se_call sf_law_deeds (sa_cons se_v0 (sa_cons se_v5 sa_nil)))) (sg_nm eW6_is (by decide) (by decide)) (ss_sq (ss_as (se_call sf_law_done (sa_cons se_v0 (sa_cons se_v5 (sa_cons se_v6 sa_nil)))) (sg_tup (sgs_cons (sg_nm eW7_is (by decide) (by decide)) (sgs_cons (sg_nm eW8_is (by decide) (by decide)) (sgs_cons (sg_nm eW9_is (by decide) (by decide)) sgs_nil))))) (ss_if (st_or (st_b (se_b2 so_ne se_v8 (se_k kw_calls))) (st_not (st_tru se_v1))) (ss_sq (ss_dp (se_append (se_b2 so_ix (se_b2 so_dix se_v2 se_v5) (se_k rfl)) (sa_cons (se_tup (sa_cons se_v6 (sa_cons se_v7 (sa_cons se_v8 (sa_cons se_v9 sa_nil))))) sa_nil))) (ss_if (st_b (se_b2 (so_din true) se_v7 se_v2)) (ss_sq (ss_as (se_tup (sa_cons (se_b2 so_add (se_b2 so_ix (se_b2 so_dix se_v2 se_v5) (se_k rfl)) (se_tup (sa_cons se_v6 sa_nil))) (sa_cons (se_lstO sa_nil) sa_nil))) (sg_sub so_put se_v2 se_v7)) (ss_dp (se_append se_v3 (sa_cons se_v7 sa_nil)))) ss_nx)) ss_nx)))))) (ss_rt se_v2)))
abbrev n_law_ways : Nat := 10
def f_law_ways : List D → An := runX x_law_ways
def F_law_ways : FS := pureF (PX f_law_ways)
theorem sf_law_ways : SFn (PX f_law_ways) f_law_ways := sfPX
theorem rd_law_ways (ds : List D) (R : QE) (hl : ds.length = 2) (h : PX f_law_ways ds fun d => R d []) : t_law_ways (endP R) (startD 10 ds) [] := rdPX ss_law_ways (by decide) hl h
/-- _law_first_stopped: 0 plan, 1 line, 2 met, 3 later, 4 stand, 5 past, 6 busy, 7 deed, 8 there, 9 word, 10 weight -/
def t_law_first_stopped : tS := (tSq (tP2 1 2 (tConsA (tLstD (tConsA (tTupD (tConsA (tCaP 0 F_law_begin tNilA) (tConsA (tTupD tNilA) (tConsA (tK (.bl false)) tNilA)))) tNilA)) (tConsA tDicO tNilA))) (tSq (tWh (tTB (tB2 oNe (tV 1) (tLstD tNilA))) (tSq (tSt (tLstO tNilA) 3) (tSq (tFr (iLs (tV 1)) (gTpD 3 (gConsD (gNm 4) (gConsD (gNm 5) (gConsD (gNm 6) gNilD)))) (tIfD (tTB (tB2 (oDin true) (tTupD (tConsA (tV 4) (tConsA (tV 6) tNilA))) (tV 2))) (tSq (tAs (tK (.bl true)) (gSb (tV 2) (tTupD (tConsA (tV 4) (tConsA (tV 6) tNilA))) sPut)) (tFr (iLs (tCaP 2 F_law_deeds (tConsA (tV 0) (tConsA (tV 4) tNilA)))) (gNm 7) (tIfD (tIfT (tTru (tV 6)) (tTB (tB2 oEq (tB2 oIx (tV 7) (tK (.int 0))) (tK (.str "lay")))) (tTB (tB2 oNe (tB2 oIx (tV 7) (tK (.int 0))) (tK (.str "hide"))))) (tSq (tAs (tCaP 3 F_law_done (tConsA (tV 0) (tConsA (tV 4) (tConsA (tV 7) tNilA)))) (gTpD 3 (gConsD (gNm 8) (gConsD (gNm 9) (gConsD (gNm 10) gNilD))))) (tSq (tIfD (tTB (tB2 oEq (tV 9) (tK (.str "calls")))) (tRt (tB2 oAdd (tV 5) (tTupD (tConsA (tV 7) tNilA)))) tNx) (tDp (tAppend (tV 3) (tConsA (tTupD (tConsA (tV 8) (tConsA (tB2 oAdd (tV 5) (tTupD (tConsA (tV 7) tNilA))) (tConsA (tB2 oEq (tB2 oIx (tV 7) (tK (.int 0))) (tK (.str "read"))) tNilA)))) tNilA))))) tNx))) tNx)) (tSt (tFzE (tV 3)) 1)))) (tRt (tK .non))))
def x_law_first_stopped : xS := (sqX (p2X eW1 eW2 (consA (lstX' (consA (tupX (consA (cpX f_law_begin nilA) (consA (tupX nilA) (consA (eK (.bl false)) nilA)))) nilA)) (consA dicOX nilA))) (sqX (whX (tbX (eB2 xNe eV1 (lstX' nilA))) (sqX (stX (lstOX nilA) eW3) (sqX (frX (lsX eV1) (gtpX 3 (gconsX (gnX eW4) (gconsX (gnX eW5) (gconsX (gnX eW6) gnilX)))) (ifS (tbX (eB2 (xDin true) (tupX (consA eV4 (consA eV6 nilA))) eV2)) (sqX (asX (eK (.bl true)) (gsX eV2 (tupX (consA eV4 (consA eV6 nilA))) xPut)) (frX (lsX (cpX f_deeds (consA eV0 (consA eV4 nilA)))) (gnX eW7) (ifS (iftX (ttX eV6) (tbX (eB2 xEq (eB2 xIx eV7 (eK (.int (.ofNat (nat_lit 0))))) (eK xw_lay))) (tbX (eB2 xNe (eB2 xIx eV7 (eK (.int (.ofNat (nat_lit 0))))) (eK xw_hide)))) (sqX (asX (cpX f_done (consA eV0 (consA eV4 (consA eV7 nilA)))) (gtpX 3 (gconsX (gnX eW8) (gconsX (gnX eW9) (gconsX (gnX eW10) gnilX))))) (sqX (ifS (tbX (eB2 xEq eV9 (eK xw_calls))) (rtX (eB2 addX eV5 (tupX (consA eV7 nilA)))) nxX) (dpX (appX eV3 (consA (tupX (consA eV8 (consA (eB2 addX eV5 (tupX (consA eV7 nilA))) (consA (eB2 xEq (eB2 xIx eV7 (eK (.int (.ofNat (nat_lit 0))))) (eK xw_read)) nilA)))) nilA))))) nxX))) nxX)) (stX (fzEX eV3) eW1)))) (rtX (eK .non))))
theorem ss_law_first_stopped : SS 11 t_law_first_stopped x_law_first_stopped := (ss_sq (ss_p2 eW1_is eW2_is (by decide) (by decide) (by decide) (by decide) (sa_cons (se_lst (sa_cons (se_tup (sa_cons (se_call sf_law_begin sa_nil) (sa_cons (se_tup sa_nil) (sa_cons (se_k rfl) sa_nil)))) sa_nil)) (sa_cons se_dicO sa_nil))) (ss_sq (ss_wh (st_b (se_b2 so_ne se_v1 (se_lst sa_nil))) (ss_sq (ss_st (se_lstO sa_nil) eW3_is (by decide) (by decide)) (ss_sq (ss_fr (si_ls se_v1) (sg_tup (sgs_cons (sg_nm eW4_is (by decide) (by decide)) (sgs_cons (sg_nm eW5_is (by decide) (by decide)) (sgs_cons (sg_nm eW6_is (by decide) (by decide)) sgs_nil)))) (ss_if (st_b (se_b2 (so_din true) (se_tup (sa_cons se_v4 (sa_cons se_v6 sa_nil))) se_v2)) (ss_sq (ss_as (se_k rfl) (sg_sub so_put se_v2 (se_tup (sa_cons se_v4 (sa_cons se_v6 sa_nil))))) (ss_fr (si_ls (se_call sf_law_deeds (sa_cons se_v0 (sa_cons se_v4 sa_nil)))) (sg_nm eW7_is (by decide) (by decide)) (ss_if (st_ifT (st_tru se_v6) (st_b (se_b2 so_eq (se_b2 so_ix se_v7 (se_k rfl)) (se_k kw_lay))) (st_b (se_b2 so_ne (se_b2 so_ix se_v7 (se_k rfl)) (se_k kw_hide)))) (ss_sq (ss_as (se_call sf_law_done (sa_cons se_v0 (sa_cons se_v4 (sa_cons se_v7 sa_nil)))) (sg_tup (sgs_cons (sg_nm eW8_is (by decide) (by decide)) (sgs_cons (sg_nm eW9_is (by decide) (by decide)) (sgs_cons (sg_nm eW10_is (by decide) (by decide)) sgs_nil))))) (ss_sq (ss_if (st_b (se_b2 so_eq se_v9 (se_k kw_calls))) (ss_rt (se_b2 so_add se_v5 (se_tup (sa_cons se_v7 sa_nil)))) ss_nx) (ss_dp (se_append se_v3 (sa_cons (se_tup (sa_cons se_v8 (sa_cons (se_b2 so_add se_v5 (se_tup (sa_cons se_v7 sa_nil))) (sa_cons (se_b2 so_eq (se_b2 so_ix se_v7 (se_k rfl)) (se_k kw_read)) sa_nil)))) sa_nil))))) ss_nx))) ss_nx)) (ss_st (se_frz se_v3) eW1_is (by decide) (by decide))))) (ss_rt (se_k rfl))))
abbrev n_law_first_stopped : Nat := 11
def f_law_first_stopped : List D → An := runX x_law_first_stopped
def F_law_first_stopped : FS := pureF (PX f_law_first_stopped)
theorem sf_law_first_stopped : SFn (PX f_law_first_stopped) f_law_first_stopped := sfPX
theorem rd_law_first_stopped (ds : List D) (R : QE) (hl : ds.length = 1) (h : PX f_law_first_stopped ds fun d => R d []) : t_law_first_stopped (endP R) (startD 11 ds) [] := rdPX ss_law_first_stopped (by decide) hl h
/-- _law_highs: 0 plan, 1 ways, 2 high, 3 turn, 4 changed, 5 stand, 6 deed, 7 there, 8 word, 9 weight -/
def t_law_highs : tS := (tSq (tP2 1 2 (tConsA (tCaP 2 F_law_ways (tConsA (tV 0) (tConsA (tK (.bl true)) tNilA))) (tConsA (tDic1O (tCaP 0 F_law_begin tNilA) (tK (.int 0))) tNilA))) (tSq (tFr (iRg1 (tConsA (tB2 oAdd (tCa cLenK (tConsA (tV 1) tNilA)) (tK (.int 2))) tNilA)) (gNm 3) (tSq (tSt (tK (.bl false)) 4) (tSq (tFr (iDk (tV 1)) (gNm 5) (tIfD (tTB (tB2 (oDin false) (tV 5) (tV 2))) (tFr (iLs (tB2 oIx (tB2 oDix (tV 1) (tV 5)) (tK (.int 1)))) (gTpD 4 (gConsD (gNm 6) (gConsD (gNm 7) (gConsD (gNm 8) (gConsD (gNm 9) gNilD))))) (tIfD (tOr (tTB (tB2 (oDin true) (tV 7) (tV 2))) (tTB (tB2 oLt (tB2 oDix (tV 2) (tV 7)) (tB2 oAdd (tB2 oDix (tV 2) (tV 5)) (tV 9))))) (tAs (tTupD (tConsA (tB2 oAdd (tB2 oDix (tV 2) (tV 5)) (tV 9)) (tConsA (tK (.bl true)) tNilA))) (gTpD 2 (gConsD (gSb (tV 2) (tV 7) sPut) (gConsD (gNm 4) gNilD)))) tNx)) tNx)) (tIfD (tNt (tTru (tV 4))) (tRt (tV 2)) tNx)))) (tRt (tK .non))))
def x_law_highs : xS := (sqX (p2X eW1 eW2 (consA (cpX f_law_ways (consA eV0 (consA (eK (.bl true)) nilA))) (consA (dic1X (cpX f_law_begin nilA) (eK (.int (.ofNat (nat_lit 0))))) nilA))) (sqX (frX (rg1X (consA (eB2 addX (caX xLenK (consA eV1 nilA)) (eK (.int (.ofNat (nat_lit 2))))) nilA)) (gnX eW3) (sqX (stX (eK (.bl false)) eW4) (sqX (frX (dkX eV1) (gnX eW5) (ifS (tbX (eB2 (xDin false) eV5 eV2)) (frX (lsX (eB2 xIx (eB2 xDix eV1 eV5) (eK (.int (.ofNat (nat_lit 1)))))) (gtpX 4 (gconsX (gnX eW6) (gconsX (gnX eW7) (gconsX (gnX eW8) (gconsX (gnX eW9) gnilX))))) (ifS (toX (tbX (eB2 (xDin true) eV7 eV2)) (tbX (eB2 xLt (eB2 xDix eV2 eV7) (eB2 addX (eB2 xDix eV2 eV5) eV9)))) (asX (tupX (consA (eB2 addX (eB2 xDix eV2 eV5) eV9) (consA (eK (.bl true)) nilA))) (gtpX 2 (gconsX (gsX eV2 eV7 xPut) (gconsX (gnX eW4) gnilX)))) nxX)) nxX)) (ifS (tnX (ttX eV4)) (rtX eV2) nxX)))) (rtX (eK .non))))
theorem ss_law_highs : SS 10 t_law_highs x_law_highs := (ss_sq (ss_p2 eW1_is eW2_is (by decide) (by decide) (by decide) (by decide) (sa_cons (se_call sf_law_ways (sa_cons se_v0 (sa_cons (se_k rfl) sa_nil))) (sa_cons (se_dic1O (se_call sf_law_begin sa_nil) (se_k rfl)) sa_nil))) (ss_sq (ss_fr (si_rg1 (sa_cons (se_b2 so_add (se_ca so_lenK (sa_cons se_v1 sa_nil)) (se_k rfl)) sa_nil)) (sg_nm eW3_is (by decide) (by decide)) (ss_sq (ss_st (se_k rfl) eW4_is (by decide) (by decide)) (ss_sq (ss_fr (si_dk se_v1) (sg_nm eW5_is (by decide) (by decide)) (ss_if (st_b (se_b2 (so_din false) se_v5 se_v2)) (ss_fr (si_ls (se_b2 so_ix (se_b2 so_dix se_v1 se_v5) (se_k rfl))) (sg_tup (sgs_cons (sg_nm eW6_is (by decide) (by decide)) (sgs_cons (sg_nm eW7_is (by decide) (by decide)) (sgs_cons (sg_nm eW8_is (by decide) (by decide)) (sgs_cons (sg_nm eW9_is (by decide) (by decide)) sgs_nil))))) (ss_if (st_or (st_b (se_b2 (so_din true) se_v7 se_v2)) (st_b (se_b2 so_lt (se_b2 so_dix se_v2 se_v7) (se_b2 so_add (se_b2 so_dix se_v2 se_v5) se_v9)))) (ss_as (se_tup (sa_cons (se_b2 so_add (se_b2 so_dix se_v2 se_v5) se_v9) (sa_cons (se_k rfl) sa_nil))) (sg_tup (sgs_cons (sg_sub so_put se_v2 se_v7) (sgs_cons (sg_nm eW4_is (by decide) (by decide)) sgs_nil)))) ss_nx)) ss_nx)) (ss_if (st_not (st_tru se_v4)) (ss_rt se_v2) ss_nx)))) (ss_rt (se_k rfl))))
abbrev n_law_highs : Nat := 10
def f_law_highs : List D → An := runX x_law_highs
end
end L2.DL

set_option Elab.async false
set_option linter.all false
set_option maxRecDepth 100000
set_option maxHeartbeats 1000000
/-! SV: where a ring gains, no heights can stand still. -/
namespace L2.DL
open PySem PySem.Spec PyProof.Rows
noncomputable section
def opB {α : Type} (o : Option α) (k : α → Bool) : Bool := Option.rec (motive := fun _ => Bool) false k o
theorem opB_ok {α : Type} {o : Option α} {k : α → Bool} (h : opB o k = true) : ∃ x, o = some x ∧ k x = true := by
  cases o with
  | none => exact nomatch h
  | some x => exact ⟨x, rfl, h⟩
def bDct (d : D) (k : List D → List D → Bool) : Bool := D.rec (motive_1 := fun _ => Bool) (motive_2 := fun _ => Unit) false (fun _ => false) (fun _ => false) (fun _ => false) (fun _ _ => false) (fun _ _ => false) (fun ks vs _ _ => k ks vs) (fun _ => false) (fun _ => false) (fun _ => false) () (fun _ _ _ _ => ()) d
theorem bDct_ok {d : D} {k} (h : bDct d k = true) : ∃ ks vs, d = .dct ks vs ∧ k ks vs = true := by
  cases d <;> first | exact ⟨_, _, rfl, h⟩ | exact nomatch h
theorem andX_ok {a b : Bool} (h : andX a b = true) : a = true ∧ b = true := by rw [andX_is, Bool.and_eq_true] at h; exact h
end
/-- an edge of the ways -/
def EdgeW (wk wv : List D) (k kt : NestedKey) (n : Int) : Prop := ∃ (x run : D) (rows : List D) (deed there w : D), x ∈ wk ∧ skOf x = some k ∧ lookD wk wv k = some (.tup [run, .lst rows]) ∧ D.tup [deed, there, w, .int n] ∈ rows ∧ skOf there = some kt
inductive WkW (wk wv : List D) : NestedKey → Int → NestedKey → Prop
  | nil (k : NestedKey) : WkW wk wv k 0 k
  | cons {k k1 k2 : NestedKey} {n s : Int} : EdgeW wk wv k k1 n → WkW wk wv k1 s k2 → WkW wk wv k (n + s) k2
def ClosedW (wk wv hk hv : List D) : Prop := ∀ k i, lookD hk hv k = some (.int i) → ∀ kt n, EdgeW wk wv k kt n → ∃ j, lookD hk hv kt = some (.int j) ∧ i + n ≤ j
theorem WkW.up {wk wv hk hv : List D} (c : ClosedW wk wv hk hv) {k k' : NestedKey} {s : Int} (w : WkW wk wv k s k') : ∀ i, lookD hk hv k = some (.int i) → ∃ j, lookD hk hv k' = some (.int j) ∧ i + s ≤ j := by
  induction w with
  | nil k => exact fun i h => ⟨i, h, by omega⟩
  | cons e _ ih =>
    intro i h
    obtain ⟨j, h1, h2⟩ := c _ _ h _ _ e
    obtain ⟨j', h3, h4⟩ := ih j h1
    exact ⟨j', h3, by omega⟩
theorem no_closed {wk wv hk hv : List D} {kb k0 : NestedKey} {s t b : Int} (hb : lookD hk hv kb = some (.int b)) (p : WkW wk wv kb s k0) (c : WkW wk wv k0 t k0) (ht : 0 < t) (cl : ClosedW wk wv hk hv) : False := by
  obtain ⟨i, h1, _⟩ := p.up cl b hb
  obtain ⟨j, h2, h3⟩ := c.up cl i h1
  rw [h1] at h2
  cases h2
  omega
noncomputable section
/-! ### following deeds -/
def fourB (d : D) (k : D → D → D → D → Bool) : Bool := cTu d fun xs => List.rec (motive := fun _ => Bool) false (fun a r _ => List.rec (motive := fun _ => Bool) false (fun b r _ => List.rec (motive := fun _ => Bool) false (fun c r _ => List.rec (motive := fun _ => Bool) false (fun e r _ => List.rec (motive := fun _ => Bool) (k a b c e) (fun _ _ _ => false) r) r) r) r) xs
theorem fourB_ok {d : D} {k} (h : fourB d k = true) : ∃ a b c e, d = .tup [a, b, c, e] ∧ k a b c e = true := by
  cases d with
  | tup xs =>
    match xs, h with
    | [], h => exact nomatch h
    | [_], h => exact nomatch h
    | [_, _], h => exact nomatch h
    | [_, _, _], h => exact nomatch h
    | [a, b, c, e], h => exact ⟨a, b, c, e, rfl, h⟩
    | _ :: _ :: _ :: _ :: _ :: _, h => exact nomatch h
  | _ => exact nomatch h
/-- some row of this deed, then k of its end and weight -/
def rowB (deed : D) (rows : List D) (k : D → Int → Bool) : Bool := List.rec (motive := fun _ => Bool) false (fun r _ ih => orX (fourB r fun d there w n => andX (eqX d deed) (intB n fun i => andX (isKey there) (k there i))) ih) rows
where intB (d : D) (k : Int → Bool) : Bool := D.rec (motive_1 := fun _ => Bool) (motive_2 := fun _ => Unit) false (fun _ => false) k (fun _ => false) (fun _ _ => false) (fun _ _ => false) (fun _ _ _ _ => false) (fun _ => false) (fun _ => false) (fun _ => false) () (fun _ _ _ _ => ()) d
theorem rowB_ok {deed : D} {k} : ∀ {rows : List D}, rowB deed rows k = true → ∃ (d there w : D) (i : Int), D.tup [d, there, w, .int i] ∈ rows ∧ isKey there = true ∧ k there i = true
  | [], h => nomatch h
  | r :: rows, h => by
    have h : orX (fourB r fun d there w n => andX (eqX d deed) (rowB.intB n fun i => andX (isKey there) (k there i))) (rowB deed rows k) = true := h
    rw [orX_is, Bool.or_eq_true] at h
    rcases h with h | h
    · obtain ⟨d, there, w, n, rfl, h⟩ := fourB_ok h
      obtain ⟨_, h⟩ := andX_ok h
      cases n with
      | int i =>
        obtain ⟨h1, h2⟩ := andX_ok (show andX (isKey there) (k there i) = true from h)
        exact ⟨d, there, w, i, List.mem_cons_self, h1, h2⟩
      | _ => exact nomatch h
    · obtain ⟨d, there, w, i, h1, h2, h3⟩ := rowB_ok h
      exact ⟨d, there, w, i, List.mem_cons_of_mem _ h1, h2, h3⟩
def rowsB (v : D) (k : List D → Bool) : Bool := cTu v fun xs => List.rec (motive := fun _ => Bool) false (fun r t _ => List.rec (motive := fun _ => Bool) false (fun q t _ => List.rec (motive := fun _ => Bool) (cLs q k) (fun _ _ _ => false) t) t) xs
theorem rowsB_ok {v : D} {k} (h : rowsB v k = true) : ∃ run rows, v = .tup [run, .lst rows] ∧ k rows = true := by
  cases v with
  | tup xs =>
    match xs, h with
    | [], h => exact nomatch h
    | [_], h => exact nomatch h
    | [r, q], h =>
      cases q with
      | lst rows => exact ⟨r, rows, rfl, h⟩
      | _ => exact nomatch h
    | _ :: _ :: _ :: _, h => exact nomatch h
  | _ => exact nomatch h
def followB (wk wv : List D) (deeds : List D) : D → Int → (D → Int → Bool) → Bool := List.rec (motive := fun _ => D → Int → (D → Int → Bool) → Bool) (fun x s k => k x s) (fun deed _ ih x s k => andX (inX x wk) (opB (lookX wk wv x) fun v => rowsB v fun rows => rowB deed rows fun there n => ih there (addI n s) k)) deeds
theorem followB_ok {wk wv : List D} {k} : ∀ {deeds : List D} {x : D} {s : Int} {kx : NestedKey}, skOf x = some kx → followB wk wv deeds x s k = true → ∃ (y : D) (ky : NestedKey) (t : Int), skOf y = some ky ∧ WkW wk wv kx t ky ∧ k y (t + s) = true
  | [], x, s, kx, hx, h => ⟨x, kx, 0, hx, .nil _, by rw [Int.zero_add]; exact h⟩
  | deed :: deeds, x, s, kx, hx, h => by
    obtain ⟨h0, h⟩ := andX_ok (show andX (inX x wk) (opB (lookX wk wv x) fun v => rowsB v fun rows => rowB deed rows fun there n => followB wk wv deeds there (addI n s) k) = true from h)
    obtain ⟨v, e1, h⟩ := opB_ok h
    obtain ⟨run, rows, rfl, h⟩ := rowsB_ok h
    obtain ⟨d, there, w, i, h1, h2, h3⟩ := rowB_ok h
    obtain ⟨kt, hkt⟩ := isKey_ok h2
    obtain ⟨y, ky, t, g1, g2, g3⟩ := followB_ok hkt.1 h3
    rw [lookX_is hx] at e1
    rw [inX_is] at h0
    obtain ⟨x', hm, he⟩ := List.any_eq_true.mp h0
    rw [addI_is] at g3
    refine ⟨y, ky, i + t, g1, .cons ⟨x', run, rows, d, there, w, hm, (eqD_key x' x kx hx).mp he, e1, h1, hkt.1⟩ g2, ?_⟩
    rw [show i + t + s = t + (i + s) by omega]
    exact g3
/-- the deeds of a ring's rows, its first stand -/
def ringB (rs : List D) (k : D → List D → Bool) : Bool := List.rec (motive := fun _ => Option D → List D → Bool) (fun f acc => opB f fun x => k x acc) (fun r _ ih f acc => cTu r fun xs => List.rec (motive := fun _ => Bool) false (fun x t _ => List.rec (motive := fun _ => Bool) false (fun d _ _ => ih (Option.rec (motive := fun _ => Option D) (some x) some f) (acc ++ [d])) t) xs) rs none []
def pairB (d : D) (k : D → D → Bool) : Bool := cTu d fun xs => List.rec (motive := fun _ => Bool) false (fun a r _ => List.rec (motive := fun _ => Bool) false (fun b r _ => k a b) r) xs
/-- a ring that gains, found by the program's own search, gone through in the ways -/
def cycB (wk wv : List D) (x0 : D) (run deeds : List D) : Bool := andX (isKey x0) (followB wk wv run xc_BEGIN i0 fun y _ => andX (eqX y x0) (followB wk wv deeds x0 i0 fun z t => andX (eqX z x0) (leI i1 t)))
theorem cycB_ok {wk wv : List D} {x0 : D} {run deeds : List D} (h : cycB wk wv x0 run deeds = true) : ∃ (kb k0 : NestedKey) (s t : Int), skOf xc_BEGIN = some kb ∧ WkW wk wv kb s k0 ∧ WkW wk wv k0 t k0 ∧ 0 < t := by
  obtain ⟨h0, h⟩ := andX_ok h
  obtain ⟨k0, hk0⟩ := isKey_ok h0
  obtain ⟨kb, hkb⟩ := isKey_ok (show isKey xc_BEGIN = true from rfl)
  obtain ⟨y, ky, s, e1, w1, h⟩ := followB_ok hkb.1 h
  obtain ⟨h1, h⟩ := andX_ok h
  obtain ⟨z, kz, t, e2, w2, h⟩ := followB_ok hk0.1 h
  obtain ⟨h2, h3⟩ := andX_ok h
  rw [eqX_is] at h1 h2
  have q1 := (eqD_key y x0 k0 hk0.1).mp h1
  have q2 := (eqD_key z x0 k0 hk0.1).mp h2
  rw [e1] at q1
  rw [e2] at q2
  cases q1
  cases q2
  rw [leI_is] at h3
  have h3 := of_decide_eq_true h3
  have z0 : i0 = 0 := rfl
  have z1 : i1 = 1 := rfl
  rw [z0, z1] at h3
  exact ⟨kb, _, s, t, hkb.1, w1, w2, by omega⟩
def gainB (p : D) (wk wv : List D) : Bool := opB (f_net_of [p]) fun net => opB (f_calm_rows [net, .int i1, .int i0]) fun rows => opB (f_grown [rows, .dct [xc_BEGIN] [.int i0]]) fun g => pairB g fun _ ring => cLs ring fun rs => ringB rs fun x0 deeds => opB (lookX wk wv x0) fun v => pairB v fun run _ => cTu run fun rd => cycB wk wv x0 rd deeds
theorem gainB_ok {p : D} {wk wv : List D} (h : gainB p wk wv = true) : ∃ (kb k0 : NestedKey) (s t : Int), skOf xc_BEGIN = some kb ∧ WkW wk wv kb s k0 ∧ WkW wk wv k0 t k0 ∧ 0 < t := by
  have key : ∃ x0 rd deeds, cycB wk wv x0 rd deeds = true := by
    unfold gainB at h
    obtain ⟨net, _, h⟩ := opB_ok h
    obtain ⟨rows, _, h⟩ := opB_ok h
    obtain ⟨g, _, h⟩ := opB_ok h
    have pr : ∀ {d : D} {k : D → D → Bool}, pairB d k = true → ∃ a b, k a b = true := fun {d k} h => by
      cases d with
      | tup xs =>
        match xs, h with
        | [], h => exact nomatch h
        | [_], h => exact nomatch h
        | a :: b :: _, h => exact ⟨a, b, h⟩
      | _ => exact nomatch h
    obtain ⟨_, ring, h⟩ := pr h
    cases ring with
    | lst rs =>
      have h : ringB rs (fun x0 deeds => opB (lookX wk wv x0) fun v => pairB v fun run _ => cTu run fun rd => cycB wk wv x0 rd deeds) = true := h
      have rg : ∀ {k : D → List D → Bool} (rs : List D) (f : Option D) (acc : List D), (List.rec (motive := fun _ => Option D → List D → Bool) (fun f acc => opB f fun x => k x acc) (fun r _ ih f acc => cTu r fun xs => List.rec (motive := fun _ => Bool) false (fun x t _ => List.rec (motive := fun _ => Bool) false (fun d _ _ => ih (Option.rec (motive := fun _ => Option D) (some x) some f) (acc ++ [d])) t) xs) rs f acc : Bool) = true → ∃ x ds, k x ds = true := by
        intro k rs
        induction rs with
        | nil =>
          intro f acc h
          obtain ⟨x, _, h⟩ := opB_ok (show opB f (fun x => k x acc) = true from h)
          exact ⟨x, acc, h⟩
        | cons r rs ih =>
          intro f acc h
          cases r with
          | tup xs =>
            match xs, h with
            | [], h => exact nomatch h
            | [_], h => exact nomatch h
            | a :: b :: _, h => exact ih _ _ h
          | _ => exact nomatch h
      obtain ⟨x0, deeds, h⟩ := rg rs _ _ h
      obtain ⟨v, _, h⟩ := opB_ok h
      obtain ⟨run, _, h⟩ := pr h
      cases run with
      | tup rd => exact ⟨x0, rd, deeds, h⟩
      | _ => exact nomatch h
    | _ => exact nomatch h
  obtain ⟨x0, rd, deeds, h⟩ := key
  exact cycB_ok h
end
end L2.DL

set_option Elab.async false
set_option linter.all false
set_option maxRecDepth 100000
set_option maxHeartbeats 1000000
/-! SL: likeness to oneself. -/
namespace L2.DL
open PySem PySem.Spec PyProof.Rows
mutual
theorem tw_refl : ∀ (a : D) (n : Nat), fitD n a = true → twD a a = true
  | .non, _, _ => by simp [twD]
  | .bl _, _, _ => by simp [twD]
  | .int _, _, _ => by simp [twD]
  | .str _, _, _ => by simp [twD]
  | .tup xs, n, h => by
    obtain ⟨k, rfl, h'⟩ := fitD_tup h
    simp only [twD]; exact tw_refls xs k h'
  | .lst xs, n, h => by
    obtain ⟨k, rfl, h'⟩ := fitD_lst h
    simp only [twD]; exact tw_refls xs k h'
  | .dct _ _, n, h => (fit_nodct h).elim
  | .ob _, n, h => (fit_noob h).elim
  | .adr _, n, h => (fit_noadr h).elim
  | .ty _, n, h => (fit_noty h).elim
theorem tw_refls : ∀ (xs : List D) (n : Nat), (∀ x ∈ xs, fitD n x = true) → twDs xs xs = true
  | [], _, _ => by simp [twDs]
  | x :: xs, n, h => by
    simp only [twDs, Bool.and_eq_true]
    exact ⟨tw_refl x n (h x List.mem_cons_self), tw_refls xs n fun y hy => h y (List.mem_cons_of_mem _ hy)⟩
end
end L2.DL

set_option Elab.async false
set_option linter.all false
set_option maxRecDepth 100000
set_option maxHeartbeats 1000000
/-! SQ: what the laws' own texts share: springs and plans handed on, likeness, the law's start and end. (Holds what SK1 holds for k01.) -/
namespace L2.DL
open PySem PySem.Spec PyProof.Rows
def F_law : FS := pureF fun ds R => ∃ ns : List Int, ds = [.lst (ns.map .int)] ∧ R (.bl true)
section
variable {R : QE} {RE : QX} {a b x : D} {P : Pl} {S : Sd} {e : Dd} {pre : Sto} {j : Nat} {p m : Int}
theorem k_spring {ns : List Int} {z : Int} {W : O → Prop} (h0 : 0 ≤ z) (h : ∀ a m, W (spr a m)) : F_law_spring [.lst (ns.map .int), .int z] W := ⟨ns, z, rfl, h0, h⟩
theorem k_is_stand (h : P.ok) (f : fitD 30 x = true) (r : R (.bl (fitsB P x)) []) : F_is_stand [P.d, x] [] R RE := ⟨rfl, P, x, rfl, h, f, r⟩
theorem k_deeds (h : P.ok) (r : R (.lst (deedsL P S)) []) : F_law_deeds [P.d, S.d] [] R RE := ⟨rfl, P, S, rfl, h, r⟩
theorem k_done (h : P.ok) (r : R (tellD (doneS P S e)) []) : F_law_done [P.d, S.d, e.d] [] R RE := ⟨rfl, P, S, e, rfl, h, r⟩
theorem k_twins (f : fitD 9 a = true) (g : fitD 9 b = true) (w : wideD a) (r : R (.bl (twD a b)) []) : F_law_twins 10 [a, b] [] R RE := u_twins (m := 9) f g w (by decide) r
/-- two that are the same -/
theorem k_same (f : fitD 9 a = true) (w : wideD a) (r : R (.bl true) []) : F_law_twins 10 [a, a] [] R RE := k_twins f f w (by rw [tw_refl a 9 f]; exact r)
end
theorem pr_wide {P : Pl} : wideD P.prog := ⟨by simp, trivial, trivial, trivial, trivial⟩
theorem pl_wide {P : Pl} : wideD P.d := ⟨by simp, pr_wide, ⟨by simp, trivial, trivial, trivial, trivial⟩, trivial⟩
theorem sd_wide {S : Sd} : wideD S.d := ⟨by simp, trivial, trivial, trivial, trivial, trivial, trivial, trivial⟩
theorem dd_wide {e : Dd} : wideD e.d := by cases e <;> exact ⟨by simp, by first | exact ⟨trivial, trivial⟩ | exact ⟨trivial, trivial, trivial⟩⟩
theorem pr_fit9 {P : Pl} : fitD 9 P.prog = true := by
  unfold Pl.prog
  cases P.each <;> simp [fitD, wayD, PyData.strOk] <;> decide +kernel
theorem sd_fit9 {S : Sd} {n : Nat} : fitD (n + 1) S.d = true := by simp [fitD]
theorem lst_low {ns : List Int} {z : Int} : lowDs 0 [.lst (ns.map .int), .int z] := ⟨lowDs_map fun _ => trivial, trivial, trivial⟩
theorem pl_fit9 {P : Pl} : fitD 9 P.d = true := by
  unfold Pl.d Pl.world Pl.prog
  cases P.each <;> simp [fitD, wayD, PyData.strOk] <;> decide +kernel
theorem deeds_mem {P : Pl} {S : Sd} {x : D} (h : x ∈ deedsL P S) : ∃ e : Dd, x = e.d ∧ Poss P S e := mem_deedsL.mp h
theorem wideDs_of : ∀ {xs : List D}, (∀ x ∈ xs, wideD x) → wideDs xs
  | [], _ => trivial
  | x :: xs, h => ⟨h x List.mem_cons_self, wideDs_of fun y hy => h y (List.mem_cons_of_mem _ hy)⟩
theorem deeds_len {P : Pl} {S : Sd} (hP : P.ok) : 0 < (deedsL P S).length ∧ (deedsL P S).length ≤ 100 := by
  unfold deedsL
  split
  · simp
  · unfold sortD
    rw [List.length_mergeSort]
    refine ⟨by simp [deedsRaw], ?_⟩
    rw [deeds_eq]
    have h1 := len_f1 S (rangeD 1 P.most.toNat)
    have h2 := len_f2 S (rangeD (-P.spread) (P.spread + 1 - -P.spread).toNat)
    rw [rangeD_length] at h1 h2
    have := hP.m0; have := hP.m1; have := hP.s0; have := hP.s1
    simp only [List.length_append, List.length_cons, List.length_nil]
    split <;> simp only [List.length_cons, List.length_nil] <;> omega
theorem deeds_wide {P : Pl} {S : Sd} (hP : P.ok) : wideD (.lst (deedsL P S)) := ⟨by have := (deeds_len (S := S) hP).2; omega, wideDs_of fun x hx => by
  obtain ⟨e, rfl, _⟩ := deeds_mem hx
  exact dd_wide⟩
theorem deeds_fit {P : Pl} {S : Sd} {n : Nat} : fitD (n + 3) (.lst (deedsL P S)) = true := by
  simp only [fitD, List.all_eq_true]
  intro x hx
  obtain ⟨e, rfl, _⟩ := deeds_mem hx
  exact fit_mono _ 2 _ (by omega) (dd_fit e)
theorem word_fit {P : Pl} {S : Sd} {e : Dd} {n : Nat} : fitD n (.str (doneS P S e).2.1) = true := by
  have h : ∀ n, fitD n (.str "") = true ∧ fitD n (.str "accepts") = true ∧ fitD n (.str "calls") = true := by
    intro n
    have h1 : PyData.strOk ("" : Str) = true := by decide +kernel
    have h2 : PyData.strOk ("accepts" : Str) = true := by decide +kernel
    have h3 : PyData.strOk ("calls" : Str) = true := by decide +kernel
    cases n <;> simp only [fitD] <;> exact ⟨h1, h2, h3⟩
  have hb : ∀ off hand leans w, fitD n (.str (behind P S off hand leans w).2.1) = true := by
    intro off hand leans w
    have key : ∀ (c : Prop) [Decidable c] (a b : Sd × Str × Int), fitD n (.str a.2.1) = true → fitD n (.str b.2.1) = true → fitD n (.str (if c then a else b).2.1) = true := by
      intro c _ a b h1 h2
      by_cases hc : c
      · rw [if_pos hc]; exact h1
      · rw [if_neg hc]; exact h2
    unfold behind
    exact key _ _ _ (key _ _ _ (h n).2.1 (key _ _ _ (h n).1 (h n).2.2)) (key _ _ _ (h n).1 (h n).2.2)
  cases e with
  | free => exact (h n).1
  | read n => exact (h _).1
  | _ => exact hb _ _ _ _
/-- the law's own start -/
theorem law_in {K : PySem.W.Frag} {w : World} {H : Hp} {a : Addr} {ns : List Int} (hO : Only H) (hS : SqL K H a (ns.map V.int)) : liftF K w 1 F_law [.ref a] H (fun v _ => v = .bl true) fun _ _ _ => False := by
  refine ⟨rfl, ⟨[], fun b => b = a ∧ ∃ u, H b = some u⟩, [.lst (ns.map .int)], [], fun d _ => d = .bl true, fun _ _ => False, ?_, ?_, ⟨rfl, ns, rfl, rfl⟩, ?_, fun _ _ _ _ _ _ _ _ h => h.elim⟩
  · have hi : ∀ W, Iss K w H W (ns.map V.int) (ns.map .int) := fun W => by
      clear hS
      induction ns with
      | nil => exact .nil
      | cons x r ih => exact .cons (.int x) ih
    refine .cons ?_ .nil
    rcases hS with hS | ⟨o, its, n, h1, h2⟩
    · refine .lst ⟨rfl, ?_⟩ hS (hi _)
      rcases hS with hS | ⟨o, hS⟩
      · exact ⟨_, hS⟩
      · exact ⟨_, hS⟩
    · exact .lstK ⟨o, its, n, h1, h2⟩ (hi _)
  · refine ⟨rfl, ?_, ?_, fun b h => h.2, ?_, trivial⟩
    · rintro n m b ⟨_, o, e, _⟩; simp at e
    · rintro n b ⟨_, o, e, _⟩; simp at e
    · intro n b o _ e; simp at e
  · rintro d L' W' H' v _ _ i ⟨_, _, _, rfl⟩
    cases i
    rfl
theorem law_out {P : Program} {w : World} {H : Hp} {s : Shared} {e : Value} {s' : Shared} (h : L2.CX P w [] H s (fun _ _ _ => False) e s') : False := by
  obtain ⟨_, _, _, _, _, _, _, _, _, _, _, _, z⟩ := h
  exact z.elim
end L2.DL


set_option Elab.async false
set_option linter.all false
set_option maxRecDepth 100000
set_option maxHeartbeats 1000000
/-! SW: _law_highs where a ring gains. -/
namespace L2.DL
open PySem PySem.Spec PyProof.Rows
structure WfW (wk wv : List D) : Prop where
  few : wk.length ≤ 100
  row : ∀ x ∈ wk, ∃ (k : NestedKey) (run : D) (rows : List D), keyT x k ∧ lookD wk wv k = some (.tup [run, .lst rows]) ∧ rows.length ≤ 20 ∧
    ∀ r ∈ rows, ∃ (deed there w : D) (n : Int) (kt : NestedKey), r = .tup [deed, there, w, .int n] ∧ keyT there kt
/-- heights: whole numbers, the first stand among them -/
structure HtW (kb : NestedKey) (hk hv : List D) (b : Nat) : Prop where
  int : ∀ k v, lookD hk hv k = some v → ∃ i, v = .int i
  has : (lookD hk hv kb).isSome = true
  few : hk.length ≤ b
theorem putD_look {k k' : NestedKey} {key v : D} (hk : skOf key = some k) : ∀ (ks vs : List D), ks.length = vs.length → lookD (putD ks vs k key v).1 (putD ks vs k key v).2 k' = if k' = k then some v else lookD ks vs k'
  | [], [], _ => by
    simp only [putD, lookD, hk]
    by_cases h : k' = k
    · simp [h]
    · simp [h, show ¬ k = k' from fun z => h z.symm]
  | [], _ :: _, h => by cases h
  | _ :: _, [], h => by cases h
  | x :: ks, y :: vs, h => by
    have ih := putD_look (k' := k') (v := v) hk ks vs (by simpa using h)
    rw [putD]
    by_cases e : skOf x = some k
    · rw [if_pos e]
      simp only [lookD, e]
      by_cases h : k' = k
      · simp [h]
      · simp [h, show ¬ k = k' from fun z => h z.symm]
    · rw [if_neg e]
      simp only [lookD]
      rw [ih]
      by_cases h : k' = k
      · subst h; simp [e]
      · simp [h]
theorem putD_len {k : NestedKey} {key v : D} : ∀ (ks vs : List D), ks.length = vs.length → (putD ks vs k key v).1.length = (putD ks vs k key v).2.length ∧ (putD ks vs k key v).1.length ≤ ks.length + 1
  | [], [], _ => by simp [putD]
  | [], _ :: _, h => by cases h
  | _ :: _, [], h => by cases h
  | x :: ks, y :: vs, h => by
    have ih := putD_len (k := k) (key := key) (v := v) ks vs (by simpa using h)
    rw [putD]
    split
    · simp; simpa using h
    · simp only [List.length_cons]; omega
theorem i_dic1 {tk tv : tE} {ρ : En} {L : Sto} {R : QE} (h : tk ρ L fun x L1 => tv ρ L1 fun y L2 => (∃ k, keyT x k) ∧ R (.ob L2.length) (L2 ++ [.dct [x] [y]])) : tDic1O tk tv ρ L R := h
def ClosOn (wk wv xs hk hv : List D) : Prop := ∀ x ∈ xs, ∀ k, skOf x = some k → ∀ run rows, lookD wk wv k = some (.tup [run, .lst rows]) → ∀ i, lookD hk hv k = some (.int i) → ∀ deed there w n, D.tup [deed, there, w, .int n] ∈ rows → ∀ kt, skOf there = some kt → ∃ j, lookD hk hv kt = some (.int j) ∧ i + n ≤ j
theorem closed_of {wk wv hk hv : List D} (h : ClosOn wk wv wk hk hv) : ClosedW wk wv hk hv := fun k i e kt n ⟨x, run, rows, deed, there, w, hx, h1, h2, h3, h4⟩ => h x hx k h1 run rows h2 i e deed there w n h3 kt h4
section
local macro_rules | `(tactic| walk_at "d") => `(tactic| (first
  | with_reducible refine Stp.go ?_
  | with_reducible refine And.intro ?_ ?_
  | with_reducible refine fun _ => ?_
  | ((with_reducible refine s_iteY ?_); refine And.intro rfl ?_)
  | ((with_reducible refine s_iteN ?_); refine And.intro rfl ?_)
  | with_reducible refine iteB (fun _ => ?_) (fun _ => ?_)
  | with_reducible refine i_eq ?_ ?_ ?_
  | with_reducible refine i_ne ?_ ?_ ?_
  | with_reducible refine rtp ?_ ?_
  | with_reducible refine u_isB ?_ ?_
  | with_reducible refine u_isI ?_ ?_
  | with_reducible refine u_isT ?_ ?_
  | with_reducible refine u_isS ?_ ?_
  | with_reducible refine u_isL ?_ ?_
  | with_reducible refine u_isLT ?_ ?_
  | with_reducible refine u_is_within ?_ ?_
  | with_reducible refine u_law_int ?_ ?_
  | with_reducible refine u_is_row ?_ ?_
  | with_reducible refine u_law_made ?_ ?_
  | with_reducible refine u_is_program ?_ ?_
  | with_reducible refine u_law_good_program ?_ ?_
  | with_reducible refine u_is_plan ?_ ?_
  | with_reducible refine u_law_good_plan ?_ ?_
  | with_reducible refine u_law_kind ?_ ?_
  | with_reducible refine u_pick0 ?_ ?_ ?_
  | with_reducible refine u_pickG ?_ ?_ ?_ ?_
  | with_reducible refine u_begin ?_
  | with_reducible refine i_dic1 ?_
  | with_reducible refine rtm3 ?_ ?_ ?_
  | ((with_reducible refine s_sLst ?_); refine Exists.intro _ (And.intro rfl (Exists.intro _ (And.intro rfl (Exists.intro _ (And.intro (by simp only [List.set_cons_zero, List.set_cons_succ]; rfl) ?_))))))
  | with_reducible refine i_oIC ?_ ?_
  | with_reducible refine i_addS ?_ ?_
  | with_reducible refine i_addT ?_ ?_
  | with_reducible refine i_addL ?_ ?_
  | with_reducible refine i_trS ?_ ?_
  | with_reducible refine i_lenS ?_ ?_
  | with_reducible refine i_slS ?_ ?_
  | with_reducible refine i_r1Q ?_ ?_
  | with_reducible refine i_r2Q ?_ ?_
  | with_reducible refine i_lsR1Q ?_ ?_
  | with_reducible refine i_lsR2Q ?_ ?_
  | with_reducible refine i_inT ?_ ?_ ?_
  | with_reducible refine i_inL ?_ ?_ ?_
  | with_reducible refine i_ninT ?_ ?_ ?_
  | with_reducible refine i_ninL ?_ ?_ ?_
  | ((with_reducible refine s_tV ?_); refine Exists.intro _ (And.intro rfl ?_))
  | ((with_reducible refine s_ixT ?_); refine Exists.intro _ (And.intro rfl ?_))
  | ((with_reducible refine s_gNm ?_); refine Exists.intro _ (And.intro (by simp only [wipeD, setsD, List.set_cons_zero, List.set_cons_succ]; rfl) ?_))
  | ((with_reducible refine s_stQ ?_); refine Exists.intro _ (And.intro (by simp only [wipeD, setsD, List.set_cons_zero, List.set_cons_succ]; rfl) ?_))
  | ((with_reducible refine s_c1 ?_); refine Exists.intro _ (And.intro (by simp only [wipeD, setsD, List.set_cons_zero, List.set_cons_succ]; rfl) ?_))
  | ((with_reducible refine s_p2 ?_); refine Exists.intro _ (And.intro (by simp only [wipeD, setsD, List.set_cons_zero, List.set_cons_succ]; rfl) ?_))
  | ((with_reducible refine s_p3 ?_); refine Exists.intro _ (And.intro (by simp only [wipeD, setsD, List.set_cons_zero, List.set_cons_succ]; rfl) ?_))
  | ((with_reducible refine s_cN' ?_); refine And.intro rfl (Exists.intro _ (And.intro (by simp only [wipeD, setsD, List.set_cons_zero, List.set_cons_succ]; rfl) ?_)))
  | ((with_reducible refine s_ixL ?_); refine Exists.intro _ (And.intro rfl ?_))
  | ((with_reducible refine s_trO ?_); refine Exists.intro _ (And.intro rfl ?_))
  | ((with_reducible refine s_lenO ?_); refine Exists.intro _ (And.intro rfl ?_))
  | ((with_reducible refine s_listO ?_); refine Exists.intro _ (And.intro rfl ?_))
  | ((with_reducible refine s_ixO ?_); refine Exists.intro _ (And.intro rfl (Exists.intro _ (And.intro rfl ?_))))
  | ((with_reducible refine s_app1 ?_); refine And.intro rfl ?_)
  | ((with_reducible refine s_cN ?_); refine And.intro rfl ?_)
  | ((with_reducible refine s_dgtY ?_); refine Exists.intro _ (And.intro rfl ?_))
  | ((with_reducible refine i_dgtN ?_ ?_); exact rfl)))
local macro_rules | `(tactic| walk_at "ds") => `(tactic| ((try simp only [startD, List.map_cons, List.map_nil, List.length_cons, List.length_nil, List.replicate, Nat.reduceAdd, Nat.reduceSub, List.cons_append, List.nil_append]); repeat' walk_at "d"))
/-- side conditions -/
local macro_rules | `(tactic| walk_at "e") => `(tactic| (first
  | with_reducible assumption
  | ((with_reducible show fitD _ _ = true); (first | rfl | decide +kernel | (exact fit_mono _ 30 _ (by decide) (by assumption))))
  | ((with_reducible show lowDs _ _); (repeat' first | trivial | (exact fit_low _ 30 _ (by assumption)) | refine And.intro ?_ ?_); done)
  | ((with_reducible show lowO _ _); (show lowDs _ _); (repeat' first | trivial | (exact fit_low _ 30 _ (by assumption)) | refine And.intro ?_ ?_); done)
  | ((with_reducible show (_ : Int) < _); (first | decide | omega))
  | ((with_reducible show (_ : Int) ≤ _); (first | decide | omega))
  | ((with_reducible show lowD _ _); (first | trivial | (exact fit_low _ 30 _ (by assumption))))
  | ((with_reducible show List.length _ = _); simp; done)
  | ((with_reducible show _ ≤ sizeLine); rw [sizeLine_eq]; simp; done)
  | ((with_reducible show List.all _ _ = true); (first | rfl | decide +kernel | (simp [fitD]; done)))
  | skip))
local macro_rules | `(tactic| walk_at "de") => `(tactic| (walk_at "ds" <;> walk_at "e"))


theorem highs_none {p : D} {wk wv : List D} {R : QE} {kb k0 : NestedKey} {s t : Int} (hw : f_law_ways [p, .bl true] = some (.dct wk wv)) (wf : WfW wk wv) (hb : skOf beginS.d = some kb) (w1 : WkW wk wv kb s k0) (w2 : WkW wk wv k0 t k0) (ht : 0 < t) (lp : lowD 0 p) (r : R .non []) : t_law_highs (endP R) (startD 10 [p]) [] := by
  unfold t_law_highs
  walk_at "de"
  refine u_run hw fun lw => ?_
  walk_at "de"
  · exact sd_key beginS
  refine ⟨wk, wv, rfl, ?_⟩
  walk_at "de"
  · have := wf.few; omega
  refine fr_by (fun rest ρ L => ∃ hk hv done x3 x4 x5 x6 x7 x8 x9, done + rest.length = wk.length + 2 ∧ L = [.dct hk hv] ∧ hk.length = hv.length ∧ HtW kb hk hv (1 + done * 2000) ∧ ρ = [some p, some (.dct wk wv), some (.ob 0), x3, x4, x5, x6, x7, x8, x9]) ?_ ?_ ?_
  · refine ⟨[beginS.d], [.int 0], 0, none, none, none, none, none, none, none, ?_, rfl, rfl, ⟨?_, ?_, by simp⟩, rfl⟩
    · rw [rangeD_length]; omega
    · intro k v h
      simp only [lookD] at h
      split at h
      · cases h; exact ⟨0, rfl⟩
      · cases h
    · simp [lookD, hb]
  · rintro x rest ρ L ⟨hk, hv, done, x3, x4, x5, x6, x7, x8, x9, hd, rfl, hl, ht', rfl⟩
    rw [List.length_cons] at hd
    walk_at "de"
    refine fr_by (fun rest2 ρ L => ∃ hk hv done2 c x5 x6 x7 x8 x9, done2 ++ rest2 = wk ∧ L = [.dct hk hv] ∧ hk.length = hv.length ∧ HtW kb hk hv (1 + done * 2000 + done2.length * 20) ∧ (c = false → ClosOn wk wv done2 hk hv) ∧ ρ = [some p, some (.dct wk wv), some (.ob 0), some x, some (.bl c), x5, x6, x7, x8, x9]) ?_ ?_ ?_
    · exact ⟨hk, hv, [], false, _, _, _, _, _, rfl, rfl, hl, ⟨ht'.int, ht'.has, by simpa using ht'.few⟩, fun _ y hy => (by cases hy), rfl⟩
    · rintro y rest2 ρ L ⟨hk, hv, done2, c, x5, x6, x7, x8, x9, hd2, rfl, hl, ht2, cl, rfl⟩
      obtain ⟨ky, run, rows, hy1, hy2, hy3, hy4⟩ := wf.row y (by rw [← hd2]; simp)
      have snoc : ∀ {hk hv : List D}, ClosOn wk wv done2 hk hv → (∀ run rows, lookD wk wv ky = some (.tup [run, .lst rows]) → ∀ i, lookD hk hv ky = some (.int i) → ∀ deed there w n, D.tup [deed, there, w, .int n] ∈ rows → ∀ kt, skOf there = some kt → ∃ j, lookD hk hv kt = some (.int j) ∧ i + n ≤ j) → ClosOn wk wv (done2 ++ [y]) hk hv := fun {hk hv} h1 h2 z hz k hk' => by
        rcases List.mem_append.mp hz with hz | hz
        · exact h1 z hz k hk'
        · rw [List.mem_singleton.mp hz, hy1.1] at hk'
          cases hk'
          exact h2
      walk_at "de"
      refine ⟨hk, hv, ky, rfl, hy1, ?_⟩
      cases hlk : lookD hk hv ky with
      | none =>
        walk_at "de"
        exact ⟨hk, hv, done2 ++ [y], c, _, _, _, _, _, by rw [← hd2]; simp, rfl, hl, ⟨ht2.int, ht2.has, by have := ht2.few; simp only [List.length_append, List.length_singleton]; omega⟩, fun e => snoc (cl e) fun run rows _ i h => (by rw [hlk] at h; cases h), rfl⟩
      | some v =>
        obtain ⟨i0, rfl⟩ := ht2.int _ _ hlk
        walk_at "de"
        refine ⟨wk, wv, ky, _, rfl, hy1, hy2, ?_⟩
        walk_at "de"
        refine fr_by (fun rest3 ρ L => ∃ hk hv done3 c x6 x7 x8 x9 i, done3 ++ rest3 = rows ∧ L = [.dct hk hv] ∧ hk.length = hv.length ∧ HtW kb hk hv (1 + done * 2000 + done2.length * 20 + done3.length) ∧ lookD hk hv ky = some (.int i) ∧ (c = false → ClosOn wk wv done2 hk hv ∧ ∀ deed there w n, D.tup [deed, there, w, .int n] ∈ done3 → ∀ kt, skOf there = some kt → ∃ j, lookD hk hv kt = some (.int j) ∧ i + n ≤ j) ∧ ρ = [some p, some (.dct wk wv), some (.ob 0), some x, some (.bl c), some y, x6, x7, x8, x9]) ?_ ?_ ?_
        · exact ⟨hk, hv, [], c, _, _, _, _, i0, rfl, rfl, hl, ⟨ht2.int, ht2.has, by simpa using ht2.few⟩, hlk, fun e => ⟨cl e, fun _ _ _ _ h => (by cases h)⟩, rfl⟩
        · rintro z rest3 ρ L ⟨hk, hv, done3, c, x6, x7, x8, x9, i, hd3, rfl, hl, ht3, hlk, cl3, rfl⟩
          obtain ⟨deed, there, w, n, kt, rfl, hkt⟩ := hy4 z (by rw [← hd3]; simp)
          have hrl : done3.length + rest3.length + 1 ≤ 20 := by
            have := congrArg List.length hd3
            simp only [List.length_append, List.length_cons] at this
            omega
          have few3 : hk.length < sizeLine := by
            have h1 := ht3.few
            have h2 := wf.few
            have h3 := congrArg List.length hd2
            simp only [List.length_append, List.length_cons] at h3
            rw [sizeLine_eq]
            omega
          have put : ∀ m : Int, ∃ hk' hv' i', putD hk hv kt there (.int m) = (hk', hv') ∧ hk'.length = hv'.length ∧ HtW kb hk' hv' (1 + done * 2000 + done2.length * 20 + (done3 ++ [D.tup [deed, there, w, .int n]]).length) ∧ lookD hk' hv' ky = some (.int i') := fun m => by
            have hl2 := putD_len (k := kt) (key := there) (v := .int m) hk hv hl
            have hlook := fun k' => putD_look (k := kt) (k' := k') (v := .int m) hkt.1 hk hv hl
            have hky : ∃ i', lookD (putD hk hv kt there (.int m)).1 (putD hk hv kt there (.int m)).2 ky = some (.int i') := by
              rw [hlook]
              by_cases e : ky = kt
              · rw [if_pos e]; exact ⟨m, rfl⟩
              · rw [if_neg e]; exact ⟨i, hlk⟩
            obtain ⟨i', hi'⟩ := hky
            refine ⟨_, _, i', rfl, hl2.1, ⟨fun k v h => ?_, ?_, ?_⟩, hi'⟩
            · rw [hlook] at h
              by_cases e : k = kt
              · rw [if_pos e] at h; cases h; exact ⟨m, rfl⟩
              · rw [if_neg e] at h; exact ht3.int k v h
            · rw [hlook]
              by_cases e : kb = kt
              · rw [if_pos e]; rfl
              · rw [if_neg e]; exact ht3.has
            · have := ht3.few
              have := hl2.2
              simp only [List.length_append, List.length_singleton]
              omega
          obtain ⟨hk', hv', i', e0, e1, e2, e3⟩ := put (i + n)
          walk_at "de"
          refine ⟨hk, hv, kt, rfl, hkt, ?_⟩
          cases hth : lookD hk hv kt with
          | none =>
            walk_at "de"
            refine ⟨hk, hv, ky, _, rfl, hy1, hlk, ?_⟩
            walk_at "de"
            refine ⟨0, hk, hv, kt, rfl, rfl, hkt, few3, ?_⟩
            rw [e0]
            walk_at "de"
            exact ⟨hk', hv', done3 ++ [D.tup [deed, there, w, .int n]], true, _, _, _, _, i', by rw [← hd3]; simp, rfl, e1, e2, e3, fun e => (by cases e), rfl⟩
          | some v =>
            obtain ⟨j, rfl⟩ := ht3.int _ _ hth
            walk_at "de"
            refine ⟨hk, hv, kt, _, rfl, hkt, hth, ?_⟩
            walk_at "de"
            refine ⟨hk, hv, ky, _, rfl, hy1, hlk, ?_⟩
            walk_at "de"
            · refine ⟨hk, hv, ky, _, rfl, hy1, hlk, ?_⟩
              walk_at "de"
              refine ⟨0, hk, hv, kt, rfl, rfl, hkt, few3, ?_⟩
              rw [e0]
              walk_at "de"
              exact ⟨hk', hv', done3 ++ [D.tup [deed, there, w, .int n]], true, _, _, _, _, i', by rw [← hd3]; simp, rfl, e1, e2, e3, fun e => (by cases e), rfl⟩
            · rename_i hlt
              have hlt := of_decide_eq_false hlt
              refine ⟨hk, hv, done3 ++ [D.tup [deed, there, w, .int n]], c, _, _, _, _, i, by rw [← hd3]; simp, rfl, hl, ⟨ht3.int, ht3.has, by have := ht3.few; simp only [List.length_append, List.length_singleton]; omega⟩, hlk, fun e => ⟨(cl3 e).1, fun deed' there' w' n' hm kt' hkt' => ?_⟩, rfl⟩
              rcases List.mem_append.mp hm with hm | hm
              · exact (cl3 e).2 _ _ _ _ hm _ hkt'
              · have e := List.mem_singleton.mp hm
                simp only [D.tup.injEq, List.cons.injEq, D.int.injEq, and_true] at e
                obtain ⟨rfl, rfl, rfl, rfl⟩ := e
                rw [hkt.1] at hkt'
                cases hkt'
                exact ⟨j, hth, by omega⟩
        · rintro ρ L ⟨hk, hv, done3, c, x6, x7, x8, x9, i, hd3, rfl, hl, ht3, hlk, cl3, rfl⟩
          rw [List.append_nil] at hd3
          subst hd3
          exact ⟨hk, hv, done2 ++ [y], c, _, _, _, _, _, by rw [← hd2]; simp, rfl, hl, ⟨ht3.int, ht3.has, by have := ht3.few; simp only [List.length_append, List.length_singleton]; omega⟩, fun e => snoc (cl3 e).1 fun run' rows' e' i' h' => (by rw [hy2] at e'; cases e'; rw [hlk] at h'; cases h'; exact (cl3 e).2), rfl⟩
    · rintro ρ L ⟨hk, hv, done2, c, x5, x6, x7, x8, x9, hd2, rfl, hl, ht2, cl, rfl⟩
      rw [List.append_nil] at hd2
      subst hd2
      cases c with
      | false =>
        exfalso
        obtain ⟨v, hv'⟩ := Option.isSome_iff_exists.mp ht2.has
        obtain ⟨b, rfl⟩ := ht2.int _ _ hv'
        exact no_closed hv' w1 w2 ht (closed_of (cl rfl))
      | true =>
        walk_at "de"
        exact ⟨hk, hv, done + 1, _, _, _, _, _, _, _, by omega, rfl, hl, ⟨ht2.int, ht2.has, by have := ht2.few; have := wf.few; omega⟩, rfl⟩
  · rintro ρ L ⟨hk, hv, done, x3, x4, x5, x6, x7, x8, x9, hd, rfl, hl, ht', rfl⟩
    walk_at "de"
end
end L2.DL

set_option Elab.async false
set_option linter.all false
set_option maxRecDepth 100000
set_option maxHeartbeats 1000000
/-! SY: _law_highs by its run, or by a ring that gains; what calls it. -/
namespace L2.DL
open PySem PySem.Spec PyProof.Rows
noncomputable section
/-- rows are rows: a deed, where it leads, a word, a number -/
def rowsWf (rows : List D) : Bool := andX (Nat.ble (lenN rows) 20) (List.rec (motive := fun _ => Bool) true (fun r _ ih => andX (fourB r fun _ there _ n => andX (isKey there) (rowB.intB n fun _ => true)) ih) rows)
theorem rowsWf_ok {rows : List D} (h : rowsWf rows = true) : rows.length ≤ 20 ∧ ∀ r ∈ rows, ∃ (deed there w : D) (n : Int) (kt : NestedKey), r = .tup [deed, there, w, .int n] ∧ keyT there kt := by
  obtain ⟨h1, h2⟩ := andX_ok h
  rw [ble_def, lenN_is] at h1
  refine ⟨of_decide_eq_true h1, ?_⟩
  clear h1 h
  induction rows with
  | nil => intro r hr; cases hr
  | cons r rows ih =>
    obtain ⟨h3, h4⟩ := andX_ok (show andX (fourB r fun _ there _ n => andX (isKey there) (rowB.intB n fun _ => true)) (List.rec (motive := fun _ => Bool) true (fun r _ ih => andX (fourB r fun _ there _ n => andX (isKey there) (rowB.intB n fun _ => true)) ih) rows) = true from h2)
    intro z hz
    rcases List.mem_cons.mp hz with rfl | hz
    · obtain ⟨d, there, w, n, rfl, h5⟩ := fourB_ok h3
      obtain ⟨h6, h7⟩ := andX_ok h5
      obtain ⟨kt, hkt⟩ := isKey_ok h6
      cases n with
      | int i => exact ⟨d, there, w, i, kt, rfl, hkt⟩
      | _ => exact nomatch h7
    · exact ih h4 z hz
def wfB (wk wv : List D) : Bool := andX (Nat.ble (lenN wk) 100) (List.rec (motive := fun _ => Bool) true (fun x _ ih => andX (andX (isKey x) (opB (lookX wk wv x) fun v => rowsB v rowsWf)) ih) wk)
theorem wfB_ok {wk wv : List D} (h : wfB wk wv = true) : WfW wk wv := by
  obtain ⟨h1, h2⟩ := andX_ok h
  rw [ble_def, lenN_is] at h1
  refine ⟨of_decide_eq_true h1, ?_⟩
  have key : ∀ xs : List D, (List.rec (motive := fun _ => Bool) true (fun x _ ih => andX (andX (isKey x) (opB (lookX wk wv x) fun v => rowsB v rowsWf)) ih) xs : Bool) = true → ∀ x ∈ xs, ∃ (k : NestedKey) (run : D) (rows : List D), keyT x k ∧ lookD wk wv k = some (.tup [run, .lst rows]) ∧ rows.length ≤ 20 ∧ ∀ r ∈ rows, ∃ (deed there w : D) (n : Int) (kt : NestedKey), r = .tup [deed, there, w, .int n] ∧ keyT there kt := by
    intro xs
    induction xs with
    | nil => intro _ x hx; cases hx
    | cons y ys ih =>
      intro h x hx
      obtain ⟨h3, h4⟩ := andX_ok (show andX (andX (isKey y) (opB (lookX wk wv y) fun v => rowsB v rowsWf)) (List.rec (motive := fun _ => Bool) true (fun x _ ih => andX (andX (isKey x) (opB (lookX wk wv x) fun v => rowsB v rowsWf)) ih) ys) = true from h)
      rcases List.mem_cons.mp hx with rfl | hx
      · obtain ⟨h5, h6⟩ := andX_ok h3
        obtain ⟨k, hk⟩ := isKey_ok h5
        obtain ⟨v, e, h7⟩ := opB_ok h6
        obtain ⟨run, rows, rfl, h8⟩ := rowsB_ok h7
        rw [lookX_is hk.1] at e
        exact ⟨k, run, rows, hk, e, rowsWf_ok h8⟩
      · exact ih h4 x hx
  exact key wk h2
/-- a plan whose ways hold a ring that gains -/
def certH (ds : List D) : Bool := List.rec (motive := fun _ => Bool) false (fun p r _ => List.rec (motive := fun _ => Bool) (andX (lowX p) (opB (f_law_ways [p, .bl true]) fun w => bDct w fun wk wv => andX (gainB p wk wv) (wfB wk wv))) (fun _ _ _ => false) r) ds
def g_law_highs (ds : List D) : An := br (certH ds) (some .non) (f_law_highs ds)
def F_law_highs : FS := pureF (PX g_law_highs)
theorem sf_law_highs : SFn (PX g_law_highs) g_law_highs := sfPX
theorem rd_law_highs (ds : List D) (R : QE) (hl : ds.length = 1) (h : PX g_law_highs ds fun d => R d []) : t_law_highs (endP R) (startD 10 ds) [] := by
  obtain ⟨d, h, r⟩ := h
  rcases br_ok h with ⟨hc, h⟩ | ⟨_, h⟩
  · cases h
    match ds, hl, hc with
    | [p], _, hc =>
      obtain ⟨h1, h2⟩ := andX_ok (show andX (lowX p) (opB (f_law_ways [p, .bl true]) fun w => bDct w fun wk wv => andX (gainB p wk wv) (wfB wk wv)) = true from hc)
      obtain ⟨w, e, h2⟩ := opB_ok h2
      obtain ⟨wk, wv, rfl, h2⟩ := bDct_ok h2
      obtain ⟨h3, h4⟩ := andX_ok h2
      obtain ⟨kb, k0, s, t, g1, g2, g3, g4⟩ := gainB_ok h3
      exact highs_none e (wfB_ok h4) g1 g2 g3 g4 (lowX_ok p h1) r
  · exact rdPX ss_law_highs (by decide) hl ⟨d, h, r⟩

/-- _law_first_unseen: 0 plan, 1 high, 2 line, 3 met, 4 turn, 5 later, 6 stand, 7 weight, 8 past, 9 deed, 10 there, 11 word, 12 more -/
def t_law_first_unseen : tS := (tSq (tSt (tCaP 1 F_law_highs (tConsA (tV 0) tNilA)) 1) (tSq (tIfD (tAn (tTB (tB2 oNotN (tV 1) (tK .non))) (tTB (tB2 oEq (tLcD (iDk (tV 1)) (c1 6) (tAn (tTB (tB2 oEq (tB2 oIx (tV 6) (tK (.int 1))) (tK (.int 0)))) (tTB (tB2 oGt (tB2 oDix (tV 1) (tV 6)) (tK (.int 0))))) (tV 6) [6]) (tLstD tNilA)))) (tRt (tK .non)) tNx) (tSq (tP2 2 3 (tConsA (tLstD (tConsA (tTupD (tConsA (tCaP 0 F_law_begin tNilA) (tConsA (tK (.int 0)) (tConsA (tTupD tNilA) tNilA)))) tNilA)) (tConsA tDicO tNilA))) (tSq (tFr (iRg1 (tConsA (tK (.int 200)) tNilA)) (gNm 4) (tSq (tSt (tLstO tNilA) 5) (tSq (tFr (iLs (tV 2)) (gTpD 3 (gConsD (gNm 6) (gConsD (gNm 7) (gConsD (gNm 8) gNilD)))) (tIfD (tTB (tB2 (oDin true) (tTupD (tConsA (tV 6) (tConsA (tV 7) tNilA))) (tV 3))) (tSq (tAs (tK (.bl true)) (gSb (tV 3) (tTupD (tConsA (tV 6) (tConsA (tV 7) tNilA))) sPut)) (tFr (iLs (tCaP 2 F_law_deeds (tConsA (tV 0) (tConsA (tV 6) tNilA)))) (gNm 9) (tSq (tAs (tCaP 3 F_law_done (tConsA (tV 0) (tConsA (tV 6) (tConsA (tV 9) tNilA)))) (gTpD 3 (gConsD (gNm 10) (gConsD (gNm 11) (gConsD (gNm 12) gNilD))))) (tSq (tIfD (tAn (tTB (tB2 oNe (tV 11) (tK (.str "calls")))) (tAn (tTB (tB2 oEq (tB2 oIx (tV 10) (tK (.int 1))) (tK (.int 0)))) (tTB (tB2 oGt (tB2 oAdd (tV 7) (tV 12)) (tK (.int 0)))))) (tRt (tB2 oAdd (tV 8) (tTupD (tConsA (tV 9) tNilA)))) tNx) (tIfD (tTB (tB2 oNe (tV 11) (tK (.str "calls")))) (tDp (tAppend (tV 5) (tConsA (tTupD (tConsA (tV 10) (tConsA (tB2 oAdd (tV 7) (tV 12)) (tConsA (tB2 oAdd (tV 8) (tTupD (tConsA (tV 9) tNilA))) tNilA)))) tNilA))) tNx))))) tNx)) (tSt (tFzE (tV 5)) 2)))) (tRt (tK .non))))))
def x_law_first_unseen : xS := (sqX (stX (cpX g_law_highs (consA eV0 nilA)) eW1) (sqX (ifS (taX (tbX (eB2 xNotN eV1 (eK .non))) (tbX (eB2 xEq (lcX (dkX eV1) (c1X eW6) (taX (tbX (eB2 xEq (eB2 xIx eV6 (eK (.int (.ofNat (nat_lit 1))))) (eK (.int (.ofNat (nat_lit 0)))))) (tbX (eB2 xGt (eB2 xDix eV1 eV6) (eK (.int (.ofNat (nat_lit 0))))))) eV6 [eW6]) (lstX' nilA)))) (rtX (eK .non)) nxX) (sqX (p2X eW2 eW3 (consA (lstX' (consA (tupX (consA (cpX f_law_begin nilA) (consA (eK (.int (.ofNat (nat_lit 0)))) (consA (tupX nilA) nilA)))) nilA)) (consA dicOX nilA))) (sqX (frX (rg1X (consA (eK (.int (.ofNat (nat_lit 200)))) nilA)) (gnX eW4) (sqX (stX (lstOX nilA) eW5) (sqX (frX (lsX eV2) (gtpX 3 (gconsX (gnX eW6) (gconsX (gnX eW7) (gconsX (gnX eW8) gnilX)))) (ifS (tbX (eB2 (xDin true) (tupX (consA eV6 (consA eV7 nilA))) eV3)) (sqX (asX (eK (.bl true)) (gsX eV3 (tupX (consA eV6 (consA eV7 nilA))) xPut)) (frX (lsX (cpX f_deeds (consA eV0 (consA eV6 nilA)))) (gnX eW9) (sqX (asX (cpX f_done (consA eV0 (consA eV6 (consA eV9 nilA)))) (gtpX 3 (gconsX (gnX eW10) (gconsX (gnX eW11) (gconsX (gnX eW12) gnilX))))) (sqX (ifS (taX (tbX (eB2 xNe eV11 (eK xw_calls))) (taX (tbX (eB2 xEq (eB2 xIx eV10 (eK (.int (.ofNat (nat_lit 1))))) (eK (.int (.ofNat (nat_lit 0)))))) (tbX (eB2 xGt (eB2 addX eV7 eV12) (eK (.int (.ofNat (nat_lit 0)))))))) (rtX (eB2 addX eV8 (tupX (consA eV9 nilA)))) nxX) (ifS (tbX (eB2 xNe eV11 (eK xw_calls))) (dpX (appX eV5 (consA (tupX (consA eV10 (consA (eB2 addX eV7 eV12) (consA (eB2 addX eV8 (tupX (consA eV9 nilA))) nilA)))) nilA))) nxX))))) nxX)) (stX (fzEX eV5) eW2)))) (rtX (eK .non))))))
theorem ss_law_first_unseen : SS 13 t_law_first_unseen x_law_first_unseen := (ss_sq (ss_st (se_call sf_law_highs (sa_cons se_v0 sa_nil)) eW1_is (by decide) (by decide)) (ss_sq (ss_if (st_and (st_b (se_b2 so_notN se_v1 (se_k rfl))) (st_b (se_b2 so_eq (se_lc (si_dk se_v1) (sc_1 eW6_is (by decide) (by decide)) (st_and (st_b (se_b2 so_eq (se_b2 so_ix se_v6 (se_k rfl)) (se_k rfl))) (st_b (se_b2 so_gt (se_b2 so_dix se_v1 se_v6) (se_k rfl)))) se_v6 (sw_cons eW6_is (by decide) sw_nil)) (se_lst sa_nil)))) (ss_rt (se_k rfl)) ss_nx) (ss_sq (ss_p2 eW2_is eW3_is (by decide) (by decide) (by decide) (by decide) (sa_cons (se_lst (sa_cons (se_tup (sa_cons (se_call sf_law_begin sa_nil) (sa_cons (se_k rfl) (sa_cons (se_tup sa_nil) sa_nil)))) sa_nil)) (sa_cons se_dicO sa_nil))) (ss_sq (ss_fr (si_rg1 (sa_cons (se_k rfl) sa_nil)) (sg_nm eW4_is (by decide) (by decide)) (ss_sq (ss_st (se_lstO sa_nil) eW5_is (by decide) (by decide)) (ss_sq (ss_fr (si_ls se_v2) (sg_tup (sgs_cons (sg_nm eW6_is (by decide) (by decide)) (sgs_cons (sg_nm eW7_is (by decide) (by decide)) (sgs_cons (sg_nm eW8_is (by decide) (by decide)) sgs_nil)))) (ss_if (st_b (se_b2 (so_din true) (se_tup (sa_cons se_v6 (sa_cons se_v7 sa_nil))) se_v3)) (ss_sq (ss_as (se_k rfl) (sg_sub so_put se_v3 (se_tup (sa_cons se_v6 (sa_cons se_v7 sa_nil))))) (ss_fr (si_ls (se_call sf_law_deeds (sa_cons se_v0 (sa_cons se_v6 sa_nil)))) (sg_nm eW9_is (by decide) (by decide)) (ss_sq (ss_as (se_call sf_law_done (sa_cons se_v0 (sa_cons se_v6 (sa_cons se_v9 sa_nil)))) (sg_tup (sgs_cons (sg_nm eW10_is (by decide) (by decide)) (sgs_cons (sg_nm eW11_is (by decide) (by decide)) (sgs_cons (sg_nm eW12_is (by decide) (by decide)) sgs_nil))))) (ss_sq (ss_if (st_and (st_b (se_b2 so_ne se_v11 (se_k kw_calls))) (st_and (st_b (se_b2 so_eq (se_b2 so_ix se_v10 (se_k rfl)) (se_k rfl))) (st_b (se_b2 so_gt (se_b2 so_add se_v7 se_v12) (se_k rfl))))) (ss_rt (se_b2 so_add se_v8 (se_tup (sa_cons se_v9 sa_nil)))) ss_nx) (ss_if (st_b (se_b2 so_ne se_v11 (se_k kw_calls))) (ss_dp (se_append se_v5 (sa_cons (se_tup (sa_cons se_v10 (sa_cons (se_b2 so_add se_v7 se_v12) (sa_cons (se_b2 so_add se_v8 (se_tup (sa_cons se_v9 sa_nil))) sa_nil)))) sa_nil))) ss_nx))))) ss_nx)) (ss_st (se_frz se_v5) eW2_is (by decide) (by decide))))) (ss_rt (se_k rfl))))))
abbrev n_law_first_unseen : Nat := 13
def f_law_first_unseen : List D → An := runX x_law_first_unseen
def F_law_first_unseen : FS := pureF (PX f_law_first_unseen)
theorem sf_law_first_unseen : SFn (PX f_law_first_unseen) f_law_first_unseen := sfPX
theorem rd_law_first_unseen (ds : List D) (R : QE) (hl : ds.length = 1) (h : PX f_law_first_unseen ds fun d => R d []) : t_law_first_unseen (endP R) (startD 13 ds) [] := rdPX ss_law_first_unseen (by decide) hl h
/-- _law_harms: 0 plan, 1 found, 2 high, 3 stand -/
def t_law_harms : tS := (tSq (tSt (tIfE (tTB (tB2 oNotN (tCaP 1 F_law_first_stopped (tConsA (tV 0) tNilA)) (tK .non))) (tLstD (tConsA (tK (.str "stopped")) tNilA)) (tLstD tNilA)) 1) (tSq (tSt (tCaP 1 F_law_highs (tConsA (tV 0) tNilA)) 2) (tSq (tIfD (tOr (tTB (tB2 oIsN (tV 2) (tK .non))) (tTB (tB2 oNe (tLcD (iDk (tV 2)) (c1 3) (tAn (tTB (tB2 oEq (tB2 oIx (tV 3) (tK (.int 1))) (tK (.int 0)))) (tTB (tB2 oGt (tB2 oDix (tV 2) (tV 3)) (tK (.int 0))))) (tV 3) [3]) (tLstD tNilA)))) (tSt (tB2 oAdd (tV 1) (tLstD (tConsA (tK (.str "unseen")) tNilA))) 1) tNx) (tRt (tV 1)))))
def x_law_harms : xS := (sqX (stX (ifX (tbX (eB2 xNotN (cpX f_law_first_stopped (consA eV0 nilA)) (eK .non))) (lstX' (consA (eK xw_stopped) nilA)) (lstX' nilA)) eW1) (sqX (stX (cpX g_law_highs (consA eV0 nilA)) eW2) (sqX (ifS (toX (tbX (eB2 xIsN eV2 (eK .non))) (tbX (eB2 xNe (lcX (dkX eV2) (c1X eW3) (taX (tbX (eB2 xEq (eB2 xIx eV3 (eK (.int (.ofNat (nat_lit 1))))) (eK (.int (.ofNat (nat_lit 0)))))) (tbX (eB2 xGt (eB2 xDix eV2 eV3) (eK (.int (.ofNat (nat_lit 0))))))) eV3 [eW3]) (lstX' nilA)))) (stX (eB2 addX eV1 (lstX' (consA (eK xw_unseen) nilA))) eW1) nxX) (rtX eV1))))
theorem ss_law_harms : SS 4 t_law_harms x_law_harms := (ss_sq (ss_st (se_if (st_b (se_b2 so_notN (se_call sf_law_first_stopped (sa_cons se_v0 sa_nil)) (se_k rfl))) (se_lst (sa_cons (se_k kw_stopped) sa_nil)) (se_lst sa_nil)) eW1_is (by decide) (by decide)) (ss_sq (ss_st (se_call sf_law_highs (sa_cons se_v0 sa_nil)) eW2_is (by decide) (by decide)) (ss_sq (ss_if (st_or (st_b (se_b2 so_isN se_v2 (se_k rfl))) (st_b (se_b2 so_ne (se_lc (si_dk se_v2) (sc_1 eW3_is (by decide) (by decide)) (st_and (st_b (se_b2 so_eq (se_b2 so_ix se_v3 (se_k rfl)) (se_k rfl))) (st_b (se_b2 so_gt (se_b2 so_dix se_v2 se_v3) (se_k rfl)))) se_v3 (sw_cons eW3_is (by decide) sw_nil)) (se_lst sa_nil)))) (ss_st (se_b2 so_add se_v1 (se_lst (sa_cons (se_k kw_unseen) sa_nil))) eW1_is (by decide) (by decide)) ss_nx) (ss_rt se_v1))))
abbrev n_law_harms : Nat := 4
def f_law_harms : List D → An := runX x_law_harms
def F_law_harms : FS := pureF (PX f_law_harms)
theorem sf_law_harms : SFn (PX f_law_harms) f_law_harms := sfPX
theorem rd_law_harms (ds : List D) (R : QE) (hl : ds.length = 1) (h : PX f_law_harms ds fun d => R d []) : t_law_harms (endP R) (startD 4 ds) [] := rdPX ss_law_harms (by decide) hl h
end
end L2.DL


set_option Elab.async false
set_option linter.all false
set_option maxRecDepth 100000
set_option maxHeartbeats 1000000
/-! SR: count_stands run_to harms first_harm, read; what is checked of a plan for k04. -/
namespace L2.DL
open PySem PySem.Spec PyProof.Rows
def F_look_at_harm : FS := pureF fun ds R => (ds = [.str "stopped"] ∨ ds = [.str "unseen"]) ∧ R .non
def F_count_stands : FS := pureF fun ds R => ∃ (P : Pl) (ks vs : List D), ds = [P.d] ∧ P.ok ∧ f_net_of [P.d] = some (.dct ks vs) ∧ R (.int ks.length)
/-- the run that a net holds for a stand -/
def runAt (ks vs : List D) (k : NestedKey) : D := match lookD ks vs k with
  | some (.tup (r :: _)) => r
  | _ => .non
def Rowed (vs : List D) : Prop := ∀ v ∈ vs, ∃ r q, v = .tup [r, q]
def F_run_to : FS := pureF fun ds R => ∃ (P : Pl) (S : Sd) (ks vs : List D) (k : NestedKey), ds = [P.d, S.d] ∧ P.ok ∧ fitsB P S.d = true ∧ f_net_of [P.d] = some (.dct ks vs) ∧ Rowed vs ∧ skOf S.d = some k ∧ R (runAt ks vs k)
def F_harms : FS := pureF fun ds R => ∃ (P : Pl) (d : D), ds = [P.d] ∧ P.ok ∧ f_harms_by [P.d] = some d ∧ R d
def F_first_harm : FS := pureF fun ds R => ∃ (P : Pl) (d : D), ((ds = [P.d, .str "stopped"] ∧ f_stopped_by [P.d] = some d) ∨ (ds = [P.d, .str "unseen"] ∧ f_unseen_by [P.d] = some d)) ∧ P.ok ∧ R d
/-- look_at_harm: 0 harm -/
def t_look_at_harm : tS := (tIfD (tOr (tNt (tTru (tCa cIsi (tConsA (tV 0) (tConsA (tK (.ty "str")) tNilA))))) (tTB (tB2 oNotIn (tV 0) (tK c_HARMS)))) tNo tNx)
abbrev n_look_at_harm : Nat := 1
/-- count_stands: 0 plan -/
def t_count_stands : tS := (tSq (tDp (tCaP 1 F_look_at_plan (tConsA (tV 0) tNilA))) (tRt (tCa cLenK (tConsA (tCaP 1 F_net_of (tConsA (tV 0) tNilA)) tNilA))))
abbrev n_count_stands : Nat := 1
/-- run_to: 0 plan, 1 stand, 2 net -/
def t_run_to : tS := (tSq (tDp (tCaP 1 F_look_at_plan (tConsA (tV 0) tNilA))) (tSq (tDp (tCaP 2 F_look_at_stand (tConsA (tV 0) (tConsA (tV 1) tNilA)))) (tSq (tSt (tCaP 1 F_net_of (tConsA (tV 0) tNilA)) 2) (tRt (tIfE (tTB (tB2 (oDin false) (tV 1) (tV 2))) (tB2 oIx (tB2 oDix (tV 2) (tV 1)) (tK (.int 0))) (tK .non))))))
abbrev n_run_to : Nat := 3
/-- harms: 0 plan -/
def t_harms : tS := (tSq (tDp (tCaP 1 F_look_at_plan (tConsA (tV 0) tNilA))) (tRt (tCaP 1 F_harms_by (tConsA (tV 0) tNilA))))
abbrev n_harms : Nat := 1
/-- first_harm: 0 plan, 1 harm -/
def t_first_harm : tS := (tSq (tDp (tCaP 1 F_look_at_plan (tConsA (tV 0) tNilA))) (tSq (tDp (tCaP 1 F_look_at_harm (tConsA (tV 1) tNilA))) (tRt (tIfE (tTB (tB2 oEq (tV 1) (tK (.str "unseen")))) (tCaP 1 F_unseen_by (tConsA (tV 0) tNilA)) (tCaP 1 F_stopped_by (tConsA (tV 0) tNilA))))))
abbrev n_first_harm : Nat := 2
theorem lookD_mem {ks vs : List D} {k : NestedKey} {d : D} (h : lookD ks vs k = some d) : ∃ (i : Nat) (x : D), ks[i]? = some x ∧ skOf x = some k ∧ vs[i]? = some d := by
  induction ks generalizing vs with
  | nil => simp [lookD] at h
  | cons x ks ih =>
    cases vs with
    | nil => simp [lookD] at h
    | cons v vs =>
      rw [lookD] at h
      split at h
      · rename_i e
        cases h
        exact ⟨0, x, rfl, e, rfl⟩
      · obtain ⟨i, y, h1, h2, h3⟩ := ih h
        exact ⟨i + 1, y, by simpa using h1, h2, by simpa using h3⟩
theorem harm_ok : PyData.strOk ("stopped" : Str) = true ∧ PyData.strOk ("unseen" : Str) = true := by decide +kernel
theorem harm_fit {n : Nat} : fitD n (.str "stopped") = true ∧ fitD n (.str "unseen") = true := by cases n <;> exact harm_ok
theorem harm_in : inD (.str "stopped") [.str "stopped", .str "unseen"] = true ∧ inD (.str "unseen") [.str "stopped", .str "unseen"] = true := by decide +kernel
theorem harm_ne : eqD (.str "stopped") (.str "unseen") = false ∧ eqD (.str "unseen") (.str "unseen") = true := by decide +kernel
section
variable {P : Pl} {S : Sd} {R : QE} {RE : QX} {ks vs : List D} {d x : D}
theorem u_harm1 (r : R .non []) : F_look_at_harm [.str "stopped"] [] R RE := ⟨rfl, .inl rfl, r⟩
theorem u_harm2 (r : R .non []) : F_look_at_harm [.str "unseen"] [] R RE := ⟨rfl, .inr rfl, r⟩
end
section
local macro_rules | `(tactic| walk_at "d") => `(tactic| (first
  | with_reducible refine Stp.go ?_
  | with_reducible refine And.intro ?_ ?_
  | with_reducible refine fun _ => ?_
  | ((with_reducible refine s_iteY ?_); refine And.intro rfl ?_)
  | ((with_reducible refine s_iteN ?_); refine And.intro rfl ?_)
  | with_reducible refine iteB (fun _ => ?_) (fun _ => ?_)
  | with_reducible refine i_eq ?_ ?_ ?_
  | with_reducible refine i_ne ?_ ?_ ?_
  | with_reducible refine rtp ?_ ?_
  | with_reducible refine u_isB ?_ ?_
  | with_reducible refine u_isI ?_ ?_
  | with_reducible refine u_isT ?_ ?_
  | with_reducible refine u_isS ?_ ?_
  | with_reducible refine u_isL ?_ ?_
  | with_reducible refine u_isLT ?_ ?_
  | with_reducible refine u_is_within ?_ ?_
  | with_reducible refine u_law_int ?_ ?_
  | with_reducible refine u_is_row ?_ ?_
  | with_reducible refine u_law_made ?_ ?_
  | with_reducible refine u_is_program ?_ ?_
  | with_reducible refine u_law_good_program ?_ ?_
  | with_reducible refine u_is_plan ?_ ?_
  | with_reducible refine u_law_good_plan ?_ ?_
  | with_reducible refine u_law_kind ?_ ?_
  | with_reducible refine u_pick0 ?_ ?_ ?_
  | with_reducible refine u_pickG ?_ ?_ ?_ ?_
  | with_reducible refine u_look ?_ ?_
  | with_reducible refine u_look_stand ?_ ?_ ?_ ?_
  | with_reducible refine rtm3 ?_ ?_ ?_
  | ((with_reducible refine s_sLst ?_); refine Exists.intro _ (And.intro rfl (Exists.intro _ (And.intro rfl (Exists.intro _ (And.intro (by simp only [List.set_cons_zero, List.set_cons_succ]; rfl) ?_))))))
  | with_reducible refine i_oIC ?_ ?_
  | with_reducible refine i_addS ?_ ?_
  | with_reducible refine i_addT ?_ ?_
  | with_reducible refine i_addL ?_ ?_
  | with_reducible refine i_trS ?_ ?_
  | with_reducible refine i_lenS ?_ ?_
  | with_reducible refine i_slS ?_ ?_
  | with_reducible refine i_r1Q ?_ ?_
  | with_reducible refine i_r2Q ?_ ?_
  | with_reducible refine i_lsR1Q ?_ ?_
  | with_reducible refine i_lsR2Q ?_ ?_
  | with_reducible refine i_inT ?_ ?_ ?_
  | with_reducible refine i_inL ?_ ?_ ?_
  | with_reducible refine i_ninT ?_ ?_ ?_
  | with_reducible refine i_ninL ?_ ?_ ?_
  | ((with_reducible refine s_tV ?_); refine Exists.intro _ (And.intro rfl ?_))
  | ((with_reducible refine s_ixT ?_); refine Exists.intro _ (And.intro rfl ?_))
  | ((with_reducible refine s_gNm ?_); refine Exists.intro _ (And.intro (by simp only [wipeD, setsD, List.set_cons_zero, List.set_cons_succ]; rfl) ?_))
  | ((with_reducible refine s_stQ ?_); refine Exists.intro _ (And.intro (by simp only [wipeD, setsD, List.set_cons_zero, List.set_cons_succ]; rfl) ?_))
  | ((with_reducible refine s_c1 ?_); refine Exists.intro _ (And.intro (by simp only [wipeD, setsD, List.set_cons_zero, List.set_cons_succ]; rfl) ?_))
  | ((with_reducible refine s_p2 ?_); refine Exists.intro _ (And.intro (by simp only [wipeD, setsD, List.set_cons_zero, List.set_cons_succ]; rfl) ?_))
  | ((with_reducible refine s_p3 ?_); refine Exists.intro _ (And.intro (by simp only [wipeD, setsD, List.set_cons_zero, List.set_cons_succ]; rfl) ?_))
  | ((with_reducible refine s_cN' ?_); refine And.intro rfl (Exists.intro _ (And.intro (by simp only [wipeD, setsD, List.set_cons_zero, List.set_cons_succ]; rfl) ?_)))
  | ((with_reducible refine s_ixL ?_); refine Exists.intro _ (And.intro rfl ?_))
  | ((with_reducible refine s_trO ?_); refine Exists.intro _ (And.intro rfl ?_))
  | ((with_reducible refine s_lenO ?_); refine Exists.intro _ (And.intro rfl ?_))
  | ((with_reducible refine s_listO ?_); refine Exists.intro _ (And.intro rfl ?_))
  | ((with_reducible refine s_ixO ?_); refine Exists.intro _ (And.intro rfl (Exists.intro _ (And.intro rfl ?_))))
  | ((with_reducible refine s_app1 ?_); refine And.intro rfl ?_)
  | ((with_reducible refine s_cN ?_); refine And.intro rfl ?_)
  | ((with_reducible refine s_dgtY ?_); refine Exists.intro _ (And.intro rfl ?_))
  | ((with_reducible refine i_dgtN ?_ ?_); exact rfl)))
local macro_rules | `(tactic| walk_at "ds") => `(tactic| ((try simp only [startD, List.map_cons, List.map_nil, List.length_cons, List.length_nil, List.replicate, Nat.reduceAdd, Nat.reduceSub, List.cons_append, List.nil_append]); repeat' walk_at "d"))
/-- side conditions -/
local macro_rules | `(tactic| walk_at "e") => `(tactic| (first
  | with_reducible assumption
  | ((with_reducible show fitD _ _ = true); (first | rfl | decide +kernel | (exact fit_mono _ 30 _ (by decide) (by assumption))))
  | ((with_reducible show lowDs _ _); (repeat' first | trivial | (exact fit_low _ 30 _ (by assumption)) | refine And.intro ?_ ?_); done)
  | ((with_reducible show lowO _ _); (show lowDs _ _); (repeat' first | trivial | (exact fit_low _ 30 _ (by assumption)) | refine And.intro ?_ ?_); done)
  | ((with_reducible show (_ : Int) < _); (first | decide | omega))
  | ((with_reducible show (_ : Int) ≤ _); (first | decide | omega))
  | ((with_reducible show lowD _ _); (first | trivial | (exact fit_low _ 30 _ (by assumption))))
  | ((with_reducible show List.length _ = _); simp; done)
  | ((with_reducible show _ ≤ sizeLine); rw [sizeLine_eq]; simp; done)
  | ((with_reducible show List.all _ _ = true); (first | rfl | decide +kernel | (simp [fitD]; done)))
  | skip))
local macro_rules | `(tactic| walk_at "de") => `(tactic| (walk_at "ds" <;> walk_at "e"))


theorem rd_look_at_harm (ds : List D) (R : QE) (h : (ds = [.str "stopped"] ∨ ds = [.str "unseen"]) ∧ R .non []) : t_look_at_harm (endP R) (startD 1 ds) [] := by
  obtain ⟨h, r⟩ := h
  unfold t_look_at_harm
  have key : ∀ s : Str, PyData.strOk s = true → inD (.str s) [.str "stopped", .str "unseen"] = true → tIfD (tOr (tNt (tTru (tCa cIsi (tConsA (tV 0) (tConsA (tK (.ty "str")) tNilA))))) (tTB (tB2 oNotIn (tV 0) (tK c_HARMS)))) tNo tNx (endP R) (startD 1 [.str s]) [] := fun s hs hi => by
    have f40 : fitD 40 (.str s) = true := by simpa [fitD] using hs
    have fh : ([.str "stopped", .str "unseen"] : List D).all (fitD 40) = true := by simp [fitD, harm_ok]
    walk_at "de"
    all_goals first
      | exact f40
      | exact fh
      | skip
    all_goals (rename_i h; first | (exfalso; revert h; simp [isStrB]; done) | (exfalso; rw [hi] at h; exact absurd h (by decide)) | skip)
    all_goals exact FinR.none trivial r
  rcases h with rfl | rfl
  · exact key _ harm_ok.1 harm_in.1
  · exact key _ harm_ok.2 harm_in.2
theorem rd_count_stands (ds : List D) (R : QE) (h : ∃ (P : Pl) (ks vs : List D), ds = [P.d] ∧ P.ok ∧ f_net_of [P.d] = some (.dct ks vs) ∧ R (.int ks.length) []) : t_count_stands (endP R) (startD 1 ds) [] := by
  obtain ⟨P, ks, vs, rfl, hP, hn, r⟩ := h
  unfold t_count_stands
  walk_at "de"
  refine u_run hn fun _ => ?_
  exact ⟨ks, vs, rfl, FinR.none trivial r⟩
theorem rd_harms (ds : List D) (R : QE) (h : ∃ (P : Pl) (d : D), ds = [P.d] ∧ P.ok ∧ f_harms_by [P.d] = some d ∧ R d []) : t_harms (endP R) (startD 1 ds) [] := by
  obtain ⟨P, d, rfl, hP, hn, r⟩ := h
  unfold t_harms
  walk_at "de"
  refine u_run hn fun l => ?_
  exact FinR.none l r
theorem rd_first_harm (ds : List D) (R : QE) (h : ∃ (P : Pl) (d : D), ((ds = [P.d, .str "stopped"] ∧ f_stopped_by [P.d] = some d) ∨ (ds = [P.d, .str "unseen"] ∧ f_unseen_by [P.d] = some d)) ∧ P.ok ∧ R d []) : t_first_harm (endP R) (startD 2 ds) [] := by
  obtain ⟨P, d, h, hP, r⟩ := h
  unfold t_first_harm
  rcases h with ⟨rfl, hf⟩ | ⟨rfl, hf⟩
  · walk_at "de"
    refine u_harm1 fun _ => ?_
    walk_at "de"
    all_goals first
      | exact harm_fit.1
      | exact harm_fit.2
      | skip
    refine u_run hf fun l => ?_
    exact FinR.none l r
  · walk_at "de"
    refine u_harm2 fun _ => ?_
    walk_at "de"
    all_goals first
      | exact harm_fit.1
      | exact harm_fit.2
      | skip
    refine u_run hf fun l => ?_
    exact FinR.none l r
theorem rd_run_to (ds : List D) (R : QE) (h : ∃ (P : Pl) (S : Sd) (ks vs : List D) (k : NestedKey), ds = [P.d, S.d] ∧ P.ok ∧ fitsB P S.d = true ∧ f_net_of [P.d] = some (.dct ks vs) ∧ Rowed vs ∧ skOf S.d = some k ∧ R (runAt ks vs k) []) : t_run_to (endP R) (startD 3 ds) [] := by
  obtain ⟨P, S, ks, vs, k, rfl, hP, hS, hn, hr, hk, r⟩ := h
  obtain ⟨k', hk'⟩ := sd_key S
  have ek : k' = k := Option.some.inj (hk'.1.symm.trans hk)
  subst ek
  unfold t_run_to
  walk_at "de"
  all_goals first
    | exact hS
    | skip
  refine u_run hn fun l => ?_
  walk_at "de"
  refine ⟨ks, vs, k', rfl, hk', ?_⟩
  unfold runAt at r
  cases hl : lookD ks vs k' with
  | none =>
    rw [hl] at r
    walk_at "de"
  | some d =>
    rw [hl] at r
    obtain ⟨i, x, _, _, h3⟩ := lookD_mem hl
    obtain ⟨a, q, rfl⟩ := hr d (List.mem_of_getElem? h3)
    walk_at "de"
    refine ⟨ks, vs, k', _, rfl, hk', hl, ?_⟩
    walk_at "de"
    have lv := lowDs_mem (by simp only [lowD] at l; exact l.2) _ (List.mem_of_getElem? h3)
    simp only [lowD, lowDs] at lv
    exact lv.1
end
end L2.DL

set_option Elab.async false
set_option linter.all false
set_option maxRecDepth 100000
set_option maxHeartbeats 1000000
/-! SS4: what is checked of a plan for k04, and what follows. -/
namespace L2.DL
open PySem PySem.Spec PyProof.Rows
noncomputable section
def allPX (f : D → D → Bool) (ks vs : List D) : Bool := List.rec (motive := fun _ => List D → Bool) (fun vs => nilX vs) (fun x _ ih vs => List.rec (motive := fun _ => Bool) false (fun v r _ => andX (f x v) (ih r)) vs) ks vs
theorem allPX_ok {f : D → D → Bool} : ∀ {ks vs : List D}, allPX f ks vs = true → ks.length = vs.length ∧ ∀ (i : Nat) (x v : D), ks[i]? = some x → vs[i]? = some v → f x v = true
  | [], vs, h => by
    have h : nilX vs = true := h
    rw [nilX_is] at h
    cases vs with
    | nil => exact ⟨rfl, fun i x v h => by simp at h⟩
    | cons _ _ => cases h
  | _ :: _, [], h => nomatch h
  | x :: ks, v :: vs, h => by
    obtain ⟨h1, h2⟩ := andX_ok (show andX (f x v) (allPX f ks vs) = true from h)
    obtain ⟨h3, h4⟩ := allPX_ok h2
    refine ⟨by rw [List.length_cons, List.length_cons, h3], fun i y u e1 e2 => ?_⟩
    cases i with
    | zero => simp at e1 e2; subst e1; subst e2; exact h1
    | succ i => exact h4 i y u (by simpa using e1) (by simpa using e2)
def rowX (v : D) (k : D → Bool) : Bool := cTu v fun xs => List.rec (motive := fun _ => Bool) false (fun r t _ => List.rec (motive := fun _ => Bool) false (fun q t _ => List.rec (motive := fun _ => Bool) (k r) (fun _ _ _ => false) t) t) xs
theorem rowX_ok {v : D} {k : D → Bool} (h : rowX v k = true) : ∃ r q, v = .tup [r, q] ∧ k r = true := by
  cases v with
  | tup xs =>
    match xs, h with
    | [], h => exact nomatch h
    | [_], h => exact nomatch h
    | [r, q], h => exact ⟨r, q, rfl, h⟩
    | _ :: _ :: _ :: _, h => exact nomatch h
  | _ => exact nomatch h
mutual
def wideB : D → Bool
  | .tup xs => Nat.ble (lenN xs) 100000 && wideBs xs
  | .lst xs => Nat.ble (lenN xs) 100000 && wideBs xs
  | _ => true
def wideBs : List D → Bool
  | [] => true
  | x :: xs => wideB x && wideBs xs
end
mutual
theorem wideB_ok : ∀ d : D, wideB d = true → wideD d
  | .tup xs, h => by
    rw [wideB, Bool.and_eq_true, ble_def, lenN_is] at h
    exact ⟨of_decide_eq_true h.1, wideBs_ok xs h.2⟩
  | .lst xs, h => by
    rw [wideB, Bool.and_eq_true, ble_def, lenN_is] at h
    exact ⟨of_decide_eq_true h.1, wideBs_ok xs h.2⟩
  | .non, _ | .bl _, _ | .int _, _ | .str _, _ | .dct _ _, _ | .ob _, _ | .adr _, _ | .ty _, _ => trivial
theorem wideBs_ok : ∀ d : List D, wideBs d = true → wideDs d
  | [], _ => trivial
  | x :: xs, h => by
    rw [wideBs, Bool.and_eq_true] at h
    exact ⟨wideB_ok x h.1, wideBs_ok xs h.2⟩
end
/-- fitsB, for the kernel -/
def i20 : Int := .ofNat (nat_lit 20)
def n20 : Int := .negSucc (nat_lit 19)
def fitsBX (P : Pl) (S : Sd) : Bool := andX (leI n20 S.off) (andX (leI S.off i20) (andX (leI n20 S.left) (andX (leI S.left i20) (Bool.rec (motive := fun _ => Bool)
  (andX (leI i0 S.want) (andX (leI S.want P.most) (andX (orX (eqI S.hand i0) (eqI S.hand S.want)) (andX (orX (Bool.not S.leans) P.lean) (Bool.rec (motive := fun _ => Bool) (andX (leI i1 S.left) (leI S.left P.wait)) (andX (eqI S.left i0) (andX (leI (negI P.tol) S.off) (leI S.off P.tol))) (eqI S.want i0))))))
  (andX (eqI S.off i0) (andX (eqI S.want i0) (andX (eqI S.left i0) (andX (eqI S.hand i0) (Bool.not S.leans))))) S.locked))))
theorem fitsBX_ok {P : Pl} {S : Sd} (hP : P.ok) (h : fitsBX P S = true) : fitsB P S.d = true := by
  obtain ⟨off, want, left, hand, leans, locked⟩ := S
  have := hP.m1
  have z20 : i20 = 20 := rfl
  have y20 : n20 = -20 := rfl
  have z0 : i0 = 0 := rfl
  have z1 : i1 = 1 := rfl
  obtain ⟨h1, h⟩ := andX_ok h
  obtain ⟨h2, h⟩ := andX_ok h
  obtain ⟨h3, h⟩ := andX_ok h
  obtain ⟨h4, h⟩ := andX_ok h
  rw [leI_is] at h1 h2 h3 h4
  rw [z20] at h2 h4
  rw [y20] at h1 h3
  have h1 := of_decide_eq_true h1
  have h2 := of_decide_eq_true h2
  have h3 := of_decide_eq_true h3
  have h4 := of_decide_eq_true h4
  dsimp only at h1 h2 h3 h4
  unfold fitsB Sd.d fitsI
  dsimp only
  cases locked with
  | true =>
    have h : andX (eqI off i0) (andX (eqI want i0) (andX (eqI left i0) (andX (eqI hand i0) (Bool.not leans)))) = true := h
    simp only [andX_is, eqI_is, Bool.and_eq_true, decide_eq_true_eq, z0] at h
    obtain ⟨rfl, rfl, rfl, rfl, h5⟩ := h
    simp only [Bool.and_eq_true, decide_eq_true_eq, if_pos]
    refine ⟨⟨⟨⟨by decide, by decide⟩, by decide⟩, by decide⟩, ?_, h5⟩
    simp
  | false =>
    have h : andX (leI i0 want) (andX (leI want P.most) (andX (orX (eqI hand i0) (eqI hand want)) (andX (orX (Bool.not leans) P.lean) (Bool.rec (motive := fun _ => Bool) (andX (leI i1 left) (leI left P.wait)) (andX (eqI left i0) (andX (leI (negI P.tol) off) (leI off P.tol))) (eqI want i0))))) = true := h
    simp only [andX_is, orX_is, leI_is, eqI_is, negI_is, Bool.and_eq_true, Bool.or_eq_true, decide_eq_true_eq, z0, z1] at h
    obtain ⟨h5, h6, h7, h8, h9⟩ := h
    have hl : (leans && !P.lean) = false := by
      cases leans
      · rfl
      · rcases h8 with h8 | h8
        · cases h8
        · rw [h8]; rfl
    simp only [Bool.and_eq_true, decide_eq_true_eq, if_neg Bool.false_ne_true, hl, Bool.not_false]
    refine ⟨⟨⟨⟨⟨by omega, by omega⟩, by omega, by omega⟩, by omega, by omega⟩, by omega, by omega⟩, ⟨⟨⟨h5, h6⟩, h7⟩, trivial⟩, ?_⟩
    by_cases hw : want = 0
    · rw [decide_eq_true hw] at h9
      have h9 : (decide (left = 0) && (decide (-P.tol ≤ off) && decide (off ≤ P.tol))) = true := h9
      simp only [Bool.and_eq_true, decide_eq_true_eq] at h9
      rw [if_pos hw, decide_eq_true_eq]
      exact h9
    · rw [decide_eq_false hw] at h9
      have h9 : (decide (1 ≤ left) && decide (left ≤ P.wait)) = true := h9
      simp only [Bool.and_eq_true, decide_eq_true_eq] at h9
      rw [if_neg hw, decide_eq_true_eq]
      exact h9
def standX (p x : D) : Bool := isSm (decP p fun P => decS x fun S => ifB (okPX P) (ifB (fitsBX P S) (some .non)))
theorem standX_ok {p x : D} (h : standX p x = true) : ∃ (P : Pl) (S : Sd), p = P.d ∧ x = S.d ∧ fitsB P S.d = true := by
  unfold standX at h
  rw [isSm_is, Option.isSome_iff_exists] at h
  obtain ⟨a, h⟩ := h
  obtain ⟨P, e1, h⟩ := decP_ok h
  obtain ⟨S, e2, h⟩ := decS_ok h
  obtain ⟨h1, h⟩ := ifB_ok h
  obtain ⟨h2, h⟩ := ifB_ok h
  exact ⟨P, S, e1, e2, fitsBX_ok (okPX_ok h1) h2⟩
/-- two answers that are the same, fit to be compared -/
def same2 (a b : Option D) : Bool := opB a fun x => opB b fun y => andX (sameD x y) (andX (fitX x 7) (wideB x))
theorem same2_ok {a b : Option D} (h : same2 a b = true) : ∃ d, a = some d ∧ b = some d ∧ fitD 7 d = true ∧ wideD d := by
  obtain ⟨x, e1, h⟩ := opB_ok h
  obtain ⟨y, e2, h⟩ := opB_ok h
  obtain ⟨h1, h⟩ := andX_ok h
  obtain ⟨h2, h3⟩ := andX_ok h
  have e := sameD_eq _ _ h1
  subst e
  exact ⟨x, e1, e2, fitX_ok _ _ h2, wideB_ok _ h3⟩
def agreeX (p : D) (nk nv wk wv : List D) : Bool := andX (Nat.beq (lenN nk) (lenN wk)) (andX (Bool.not (nilX wk)) (andX (fewX wk)
  (andX (allPX (fun x v => rowX v fun r => andX (isKey x) (opB (lookX wk wv x) fun v' => rowX v' fun r' => sameD r r')) nk nv)
    (allPX (fun x v => rowX v fun r => andX (isSm (lookX nk nv x)) (andX (isKey x) (andX (fitX r 7) (andX (wideB r) (standX p x))))) wk wv))))
structure Agree (p : D) (nk nv wk wv : List D) : Prop where
  len : nk.length = wk.length
  pos : 0 < wk.length
  few : wk.length ≤ 1000000
  rn : Rowed nv
  ro : Rowed wv
  same : ∀ k, runAt nk nv k = runAt wk wv k
  st : ∀ x ∈ wk, ∃ (P : Pl) (S : Sd) (k : NestedKey) (r q : D), p = P.d ∧ x = S.d ∧ fitsB P S.d = true ∧ skOf x = some k ∧ lookD wk wv k = some (.tup [r, q])
  data : ∀ k, fitD 7 (runAt wk wv k) = true ∧ wideD (runAt wk wv k)
theorem agreeX_ok {p : D} {nk nv wk wv : List D} (h : agreeX p nk nv wk wv = true) : Agree p nk nv wk wv := by
  obtain ⟨h1, h⟩ := andX_ok h
  obtain ⟨h2, h⟩ := andX_ok h
  obtain ⟨h3, h⟩ := andX_ok h
  obtain ⟨h4, h5⟩ := andX_ok h
  rw [beq_def, lenN_is, lenN_is] at h1
  rw [nilX_is] at h2
  obtain ⟨ln, hn⟩ := allPX_ok h4
  obtain ⟨lw, hw⟩ := allPX_ok h5
  have at_ : ∀ {ks vs : List D}, ks.length = vs.length → ∀ {v : D}, v ∈ vs → ∃ (i : Nat) (x : D), ks[i]? = some x ∧ vs[i]? = some v := fun {ks vs} e v hv => by
    obtain ⟨i, hi, e1⟩ := List.getElem_of_mem hv
    exact ⟨i, ks[i], List.getElem?_eq_getElem (by omega), by rw [List.getElem?_eq_getElem hi, e1]⟩
  have at2 : ∀ {ks vs : List D}, ks.length = vs.length → ∀ {x : D}, x ∈ ks → ∃ (i : Nat) (v : D), ks[i]? = some x ∧ vs[i]? = some v := fun {ks vs} e x hx => by
    obtain ⟨i, hi, e1⟩ := List.getElem_of_mem hx
    exact ⟨i, vs[i], by rw [List.getElem?_eq_getElem hi, e1], List.getElem?_eq_getElem (by omega)⟩
  have wlook : ∀ k v, lookD wk wv k = some v → ∃ x r q, v = .tup [r, q] ∧ skOf x = some k ∧ (lookD nk nv k).isSome = true ∧ fitD 7 r = true ∧ wideD r := fun k v e => by
    obtain ⟨i, x, e1, e2, e3⟩ := lookD_mem e
    obtain ⟨r, q, rfl, g⟩ := rowX_ok (hw i x v e1 e3)
    obtain ⟨g1, g⟩ := andX_ok g
    obtain ⟨g2, g⟩ := andX_ok g
    obtain ⟨g3, g⟩ := andX_ok g
    obtain ⟨g4, g5⟩ := andX_ok g
    rw [isSm_is, lookX_is e2] at g1
    exact ⟨x, r, q, rfl, e2, g1, fitX_ok _ _ g3, wideB_ok _ g4⟩
  have nlook : ∀ k v, lookD nk nv k = some v → ∃ r q q', v = .tup [r, q] ∧ lookD wk wv k = some (.tup [r, q']) := fun k v e => by
    obtain ⟨i, x, e1, e2, e3⟩ := lookD_mem e
    obtain ⟨r, q, rfl, g⟩ := rowX_ok (hn i x v e1 e3)
    obtain ⟨g1, g⟩ := andX_ok g
    obtain ⟨v', e4, g⟩ := opB_ok g
    obtain ⟨r', q', rfl, g⟩ := rowX_ok g
    have er := sameD_eq _ _ g
    subst er
    rw [lookX_is e2] at e4
    exact ⟨r, q, q', rfl, e4⟩
  refine ⟨of_decide_eq_true h1, ?_, few_ok h3, fun v hv => ?_, fun v hv => ?_, fun k => ?_, fun x hx => ?_, fun k => ?_⟩
  · cases wk with
    | nil => cases h2
    | cons _ _ => simp
  · obtain ⟨i, x, e1, e2⟩ := at_ ln hv
    obtain ⟨r, q, e, _⟩ := rowX_ok (hn i x v e1 e2)
    exact ⟨r, q, e⟩
  · obtain ⟨i, x, e1, e2⟩ := at_ lw hv
    obtain ⟨r, q, e, _⟩ := rowX_ok (hw i x v e1 e2)
    exact ⟨r, q, e⟩
  · unfold runAt
    cases e : lookD nk nv k with
    | some v =>
      obtain ⟨r, q, q', rfl, e2⟩ := nlook k v e
      rw [e2]
    | none =>
      cases e2 : lookD wk wv k with
      | none => rfl
      | some v =>
        obtain ⟨_, _, _, _, _, g, _⟩ := wlook k v e2
        rw [e] at g; cases g
  · obtain ⟨i, v, e1, e2⟩ := at2 lw hx
    obtain ⟨r, q, rfl, g⟩ := rowX_ok (hw i x v e1 e2)
    obtain ⟨g1, g⟩ := andX_ok g
    obtain ⟨g2, g⟩ := andX_ok g
    obtain ⟨g3, g⟩ := andX_ok g
    obtain ⟨g4, g5⟩ := andX_ok g
    obtain ⟨P, S, e3, e4, e5⟩ := standX_ok g5
    obtain ⟨k, hk⟩ := isKey_ok g2
    rw [isSm_is, lookX_is hk.1] at g1
    obtain ⟨v', ev⟩ := Option.isSome_iff_exists.mp g1
    obtain ⟨r', q', q'', _, e6⟩ := nlook k v' ev
    exact ⟨P, S, k, r', q'', e3, e4, e5, hk.1, e6⟩
  · unfold runAt
    cases e : lookD wk wv k with
    | none => exact ⟨by simp [fitD], trivial⟩
    | some v =>
      obtain ⟨x, r, q, rfl, _, _, f, g⟩ := wlook k v e
      exact ⟨f, g⟩
/-- what is checked of a plan -/
def chk4 (p : D) : Bool := andX (opB (f_net_of [p]) fun net => bDct net fun nk nv => opB (f_law_ways [p, .bl false]) fun ways => bDct ways fun wk wv => agreeX p nk nv wk wv)
  (andX (same2 (f_harms_by [p]) (f_law_harms [p])) (andX (same2 (f_stopped_by [p]) (f_law_first_stopped [p])) (same2 (f_unseen_by [p]) (f_law_first_unseen [p]))))
structure Good4 (p : D) (nk nv wk wv : List D) (h st un : D) : Prop where
  net : f_net_of [p] = some (.dct nk nv)
  ways : f_law_ways [p, .bl false] = some (.dct wk wv)
  ag : Agree p nk nv wk wv
  h1 : f_harms_by [p] = some h
  h2 : f_law_harms [p] = some h
  hd : fitD 7 h = true ∧ wideD h
  s1 : f_stopped_by [p] = some st
  s2 : f_law_first_stopped [p] = some st
  sd : fitD 7 st = true ∧ wideD st
  u1 : f_unseen_by [p] = some un
  u2 : f_law_first_unseen [p] = some un
  ud : fitD 7 un = true ∧ wideD un
theorem chk4_ok {p : D} (h : chk4 p = true) : ∃ nk nv wk wv h st un, Good4 p nk nv wk wv h st un := by
  obtain ⟨h1, h⟩ := andX_ok h
  obtain ⟨h2, h⟩ := andX_ok h
  obtain ⟨h3, h4⟩ := andX_ok h
  obtain ⟨net, e1, h1⟩ := opB_ok h1
  obtain ⟨nk, nv, rfl, h1⟩ := bDct_ok h1
  obtain ⟨ways, e2, h1⟩ := opB_ok h1
  obtain ⟨wk, wv, rfl, h1⟩ := bDct_ok h1
  obtain ⟨hh, a1, a2, a3, a4⟩ := same2_ok h2
  obtain ⟨st, b1, b2, b3, b4⟩ := same2_ok h3
  obtain ⟨un, c1, c2, c3, c4⟩ := same2_ok h4
  exact ⟨nk, nv, wk, wv, hh, st, un, e1, e2, agreeX_ok h1, a1, a2, ⟨a3, a4⟩, b1, b2, ⟨b3, b4⟩, c1, c2, ⟨c3, c4⟩⟩
end
end L2.DL

set_option Elab.async false
set_option linter.all false
set_option maxRecDepth 100000
set_option maxHeartbeats 4000000
/-! C4: each small plan is checked. (printed by mkC4.py) -/
namespace L2.DL
open PySem PySem.Spec PyProof.Rows
noncomputable section
def plX (t w : Nat) (e : D) (m s : Nat) (l : Bool) : D := .tup [.tup [.int (.ofNat t), .int (.ofNat w), e], .tup [.int (.ofNat m), .int (.ofNat s), .bl l]]
theorem c4_011101 : chk4 (.tup [.tup [.int (.ofNat (nat_lit 0)), .int (.ofNat (nat_lit 1)), xw_each], .tup [.int (.ofNat (nat_lit 1)), .int (.ofNat (nat_lit 0)), .bl true]]) = true := by decide +kernel
theorem c4_011100 : chk4 (.tup [.tup [.int (.ofNat (nat_lit 0)), .int (.ofNat (nat_lit 1)), xw_each], .tup [.int (.ofNat (nat_lit 1)), .int (.ofNat (nat_lit 0)), .bl false]]) = true := by decide +kernel
theorem c4_011111 : chk4 (.tup [.tup [.int (.ofNat (nat_lit 0)), .int (.ofNat (nat_lit 1)), xw_each], .tup [.int (.ofNat (nat_lit 1)), .int (.ofNat (nat_lit 1)), .bl true]]) = true := by decide +kernel
theorem c4_011110 : chk4 (.tup [.tup [.int (.ofNat (nat_lit 0)), .int (.ofNat (nat_lit 1)), xw_each], .tup [.int (.ofNat (nat_lit 1)), .int (.ofNat (nat_lit 1)), .bl false]]) = true := by decide +kernel
theorem c4_011201 : chk4 (.tup [.tup [.int (.ofNat (nat_lit 0)), .int (.ofNat (nat_lit 1)), xw_each], .tup [.int (.ofNat (nat_lit 2)), .int (.ofNat (nat_lit 0)), .bl true]]) = true := by decide +kernel
theorem c4_011200 : chk4 (.tup [.tup [.int (.ofNat (nat_lit 0)), .int (.ofNat (nat_lit 1)), xw_each], .tup [.int (.ofNat (nat_lit 2)), .int (.ofNat (nat_lit 0)), .bl false]]) = true := by decide +kernel
theorem c4_011211 : chk4 (.tup [.tup [.int (.ofNat (nat_lit 0)), .int (.ofNat (nat_lit 1)), xw_each], .tup [.int (.ofNat (nat_lit 2)), .int (.ofNat (nat_lit 1)), .bl true]]) = true := by decide +kernel
theorem c4_011210 : chk4 (.tup [.tup [.int (.ofNat (nat_lit 0)), .int (.ofNat (nat_lit 1)), xw_each], .tup [.int (.ofNat (nat_lit 2)), .int (.ofNat (nat_lit 1)), .bl false]]) = true := by decide +kernel
theorem c4_010101 : chk4 (.tup [.tup [.int (.ofNat (nat_lit 0)), .int (.ofNat (nat_lit 1)), xw_sum], .tup [.int (.ofNat (nat_lit 1)), .int (.ofNat (nat_lit 0)), .bl true]]) = true := by decide +kernel
theorem c4_010100 : chk4 (.tup [.tup [.int (.ofNat (nat_lit 0)), .int (.ofNat (nat_lit 1)), xw_sum], .tup [.int (.ofNat (nat_lit 1)), .int (.ofNat (nat_lit 0)), .bl false]]) = true := by decide +kernel
theorem c4_010111 : chk4 (.tup [.tup [.int (.ofNat (nat_lit 0)), .int (.ofNat (nat_lit 1)), xw_sum], .tup [.int (.ofNat (nat_lit 1)), .int (.ofNat (nat_lit 1)), .bl true]]) = true := by decide +kernel
theorem c4_010110 : chk4 (.tup [.tup [.int (.ofNat (nat_lit 0)), .int (.ofNat (nat_lit 1)), xw_sum], .tup [.int (.ofNat (nat_lit 1)), .int (.ofNat (nat_lit 1)), .bl false]]) = true := by decide +kernel
theorem c4_010201 : chk4 (.tup [.tup [.int (.ofNat (nat_lit 0)), .int (.ofNat (nat_lit 1)), xw_sum], .tup [.int (.ofNat (nat_lit 2)), .int (.ofNat (nat_lit 0)), .bl true]]) = true := by decide +kernel
theorem c4_010200 : chk4 (.tup [.tup [.int (.ofNat (nat_lit 0)), .int (.ofNat (nat_lit 1)), xw_sum], .tup [.int (.ofNat (nat_lit 2)), .int (.ofNat (nat_lit 0)), .bl false]]) = true := by decide +kernel
theorem c4_010211 : chk4 (.tup [.tup [.int (.ofNat (nat_lit 0)), .int (.ofNat (nat_lit 1)), xw_sum], .tup [.int (.ofNat (nat_lit 2)), .int (.ofNat (nat_lit 1)), .bl true]]) = true := by decide +kernel
theorem c4_010210 : chk4 (.tup [.tup [.int (.ofNat (nat_lit 0)), .int (.ofNat (nat_lit 1)), xw_sum], .tup [.int (.ofNat (nat_lit 2)), .int (.ofNat (nat_lit 1)), .bl false]]) = true := by decide +kernel
theorem c4_021101 : chk4 (.tup [.tup [.int (.ofNat (nat_lit 0)), .int (.ofNat (nat_lit 2)), xw_each], .tup [.int (.ofNat (nat_lit 1)), .int (.ofNat (nat_lit 0)), .bl true]]) = true := by decide +kernel
theorem c4_021100 : chk4 (.tup [.tup [.int (.ofNat (nat_lit 0)), .int (.ofNat (nat_lit 2)), xw_each], .tup [.int (.ofNat (nat_lit 1)), .int (.ofNat (nat_lit 0)), .bl false]]) = true := by decide +kernel
theorem c4_021111 : chk4 (.tup [.tup [.int (.ofNat (nat_lit 0)), .int (.ofNat (nat_lit 2)), xw_each], .tup [.int (.ofNat (nat_lit 1)), .int (.ofNat (nat_lit 1)), .bl true]]) = true := by decide +kernel
theorem c4_021110 : chk4 (.tup [.tup [.int (.ofNat (nat_lit 0)), .int (.ofNat (nat_lit 2)), xw_each], .tup [.int (.ofNat (nat_lit 1)), .int (.ofNat (nat_lit 1)), .bl false]]) = true := by decide +kernel
theorem c4_021201 : chk4 (.tup [.tup [.int (.ofNat (nat_lit 0)), .int (.ofNat (nat_lit 2)), xw_each], .tup [.int (.ofNat (nat_lit 2)), .int (.ofNat (nat_lit 0)), .bl true]]) = true := by decide +kernel
theorem c4_021200 : chk4 (.tup [.tup [.int (.ofNat (nat_lit 0)), .int (.ofNat (nat_lit 2)), xw_each], .tup [.int (.ofNat (nat_lit 2)), .int (.ofNat (nat_lit 0)), .bl false]]) = true := by decide +kernel
theorem c4_021211 : chk4 (.tup [.tup [.int (.ofNat (nat_lit 0)), .int (.ofNat (nat_lit 2)), xw_each], .tup [.int (.ofNat (nat_lit 2)), .int (.ofNat (nat_lit 1)), .bl true]]) = true := by decide +kernel
theorem c4_021210 : chk4 (.tup [.tup [.int (.ofNat (nat_lit 0)), .int (.ofNat (nat_lit 2)), xw_each], .tup [.int (.ofNat (nat_lit 2)), .int (.ofNat (nat_lit 1)), .bl false]]) = true := by decide +kernel
theorem c4_020101 : chk4 (.tup [.tup [.int (.ofNat (nat_lit 0)), .int (.ofNat (nat_lit 2)), xw_sum], .tup [.int (.ofNat (nat_lit 1)), .int (.ofNat (nat_lit 0)), .bl true]]) = true := by decide +kernel
theorem c4_020100 : chk4 (.tup [.tup [.int (.ofNat (nat_lit 0)), .int (.ofNat (nat_lit 2)), xw_sum], .tup [.int (.ofNat (nat_lit 1)), .int (.ofNat (nat_lit 0)), .bl false]]) = true := by decide +kernel
theorem c4_020111 : chk4 (.tup [.tup [.int (.ofNat (nat_lit 0)), .int (.ofNat (nat_lit 2)), xw_sum], .tup [.int (.ofNat (nat_lit 1)), .int (.ofNat (nat_lit 1)), .bl true]]) = true := by decide +kernel
theorem c4_020110 : chk4 (.tup [.tup [.int (.ofNat (nat_lit 0)), .int (.ofNat (nat_lit 2)), xw_sum], .tup [.int (.ofNat (nat_lit 1)), .int (.ofNat (nat_lit 1)), .bl false]]) = true := by decide +kernel
theorem c4_020201 : chk4 (.tup [.tup [.int (.ofNat (nat_lit 0)), .int (.ofNat (nat_lit 2)), xw_sum], .tup [.int (.ofNat (nat_lit 2)), .int (.ofNat (nat_lit 0)), .bl true]]) = true := by decide +kernel
theorem c4_020200 : chk4 (.tup [.tup [.int (.ofNat (nat_lit 0)), .int (.ofNat (nat_lit 2)), xw_sum], .tup [.int (.ofNat (nat_lit 2)), .int (.ofNat (nat_lit 0)), .bl false]]) = true := by decide +kernel
theorem c4_020211 : chk4 (.tup [.tup [.int (.ofNat (nat_lit 0)), .int (.ofNat (nat_lit 2)), xw_sum], .tup [.int (.ofNat (nat_lit 2)), .int (.ofNat (nat_lit 1)), .bl true]]) = true := by decide +kernel
theorem c4_020210 : chk4 (.tup [.tup [.int (.ofNat (nat_lit 0)), .int (.ofNat (nat_lit 2)), xw_sum], .tup [.int (.ofNat (nat_lit 2)), .int (.ofNat (nat_lit 1)), .bl false]]) = true := by decide +kernel
theorem c4_111101 : chk4 (.tup [.tup [.int (.ofNat (nat_lit 1)), .int (.ofNat (nat_lit 1)), xw_each], .tup [.int (.ofNat (nat_lit 1)), .int (.ofNat (nat_lit 0)), .bl true]]) = true := by decide +kernel
theorem c4_111100 : chk4 (.tup [.tup [.int (.ofNat (nat_lit 1)), .int (.ofNat (nat_lit 1)), xw_each], .tup [.int (.ofNat (nat_lit 1)), .int (.ofNat (nat_lit 0)), .bl false]]) = true := by decide +kernel
theorem c4_111111 : chk4 (.tup [.tup [.int (.ofNat (nat_lit 1)), .int (.ofNat (nat_lit 1)), xw_each], .tup [.int (.ofNat (nat_lit 1)), .int (.ofNat (nat_lit 1)), .bl true]]) = true := by decide +kernel
theorem c4_111110 : chk4 (.tup [.tup [.int (.ofNat (nat_lit 1)), .int (.ofNat (nat_lit 1)), xw_each], .tup [.int (.ofNat (nat_lit 1)), .int (.ofNat (nat_lit 1)), .bl false]]) = true := by decide +kernel
theorem c4_111201 : chk4 (.tup [.tup [.int (.ofNat (nat_lit 1)), .int (.ofNat (nat_lit 1)), xw_each], .tup [.int (.ofNat (nat_lit 2)), .int (.ofNat (nat_lit 0)), .bl true]]) = true := by decide +kernel
theorem c4_111200 : chk4 (.tup [.tup [.int (.ofNat (nat_lit 1)), .int (.ofNat (nat_lit 1)), xw_each], .tup [.int (.ofNat (nat_lit 2)), .int (.ofNat (nat_lit 0)), .bl false]]) = true := by decide +kernel
theorem c4_111211 : chk4 (.tup [.tup [.int (.ofNat (nat_lit 1)), .int (.ofNat (nat_lit 1)), xw_each], .tup [.int (.ofNat (nat_lit 2)), .int (.ofNat (nat_lit 1)), .bl true]]) = true := by decide +kernel
theorem c4_111210 : chk4 (.tup [.tup [.int (.ofNat (nat_lit 1)), .int (.ofNat (nat_lit 1)), xw_each], .tup [.int (.ofNat (nat_lit 2)), .int (.ofNat (nat_lit 1)), .bl false]]) = true := by decide +kernel
theorem c4_110101 : chk4 (.tup [.tup [.int (.ofNat (nat_lit 1)), .int (.ofNat (nat_lit 1)), xw_sum], .tup [.int (.ofNat (nat_lit 1)), .int (.ofNat (nat_lit 0)), .bl true]]) = true := by decide +kernel
theorem c4_110100 : chk4 (.tup [.tup [.int (.ofNat (nat_lit 1)), .int (.ofNat (nat_lit 1)), xw_sum], .tup [.int (.ofNat (nat_lit 1)), .int (.ofNat (nat_lit 0)), .bl false]]) = true := by decide +kernel
theorem c4_110111 : chk4 (.tup [.tup [.int (.ofNat (nat_lit 1)), .int (.ofNat (nat_lit 1)), xw_sum], .tup [.int (.ofNat (nat_lit 1)), .int (.ofNat (nat_lit 1)), .bl true]]) = true := by decide +kernel
theorem c4_110110 : chk4 (.tup [.tup [.int (.ofNat (nat_lit 1)), .int (.ofNat (nat_lit 1)), xw_sum], .tup [.int (.ofNat (nat_lit 1)), .int (.ofNat (nat_lit 1)), .bl false]]) = true := by decide +kernel
theorem c4_110201 : chk4 (.tup [.tup [.int (.ofNat (nat_lit 1)), .int (.ofNat (nat_lit 1)), xw_sum], .tup [.int (.ofNat (nat_lit 2)), .int (.ofNat (nat_lit 0)), .bl true]]) = true := by decide +kernel
theorem c4_110200 : chk4 (.tup [.tup [.int (.ofNat (nat_lit 1)), .int (.ofNat (nat_lit 1)), xw_sum], .tup [.int (.ofNat (nat_lit 2)), .int (.ofNat (nat_lit 0)), .bl false]]) = true := by decide +kernel
theorem c4_110211 : chk4 (.tup [.tup [.int (.ofNat (nat_lit 1)), .int (.ofNat (nat_lit 1)), xw_sum], .tup [.int (.ofNat (nat_lit 2)), .int (.ofNat (nat_lit 1)), .bl true]]) = true := by decide +kernel
theorem c4_110210 : chk4 (.tup [.tup [.int (.ofNat (nat_lit 1)), .int (.ofNat (nat_lit 1)), xw_sum], .tup [.int (.ofNat (nat_lit 2)), .int (.ofNat (nat_lit 1)), .bl false]]) = true := by decide +kernel
theorem c4_121101 : chk4 (.tup [.tup [.int (.ofNat (nat_lit 1)), .int (.ofNat (nat_lit 2)), xw_each], .tup [.int (.ofNat (nat_lit 1)), .int (.ofNat (nat_lit 0)), .bl true]]) = true := by decide +kernel
theorem c4_121100 : chk4 (.tup [.tup [.int (.ofNat (nat_lit 1)), .int (.ofNat (nat_lit 2)), xw_each], .tup [.int (.ofNat (nat_lit 1)), .int (.ofNat (nat_lit 0)), .bl false]]) = true := by decide +kernel
theorem c4_121111 : chk4 (.tup [.tup [.int (.ofNat (nat_lit 1)), .int (.ofNat (nat_lit 2)), xw_each], .tup [.int (.ofNat (nat_lit 1)), .int (.ofNat (nat_lit 1)), .bl true]]) = true := by decide +kernel
theorem c4_121110 : chk4 (.tup [.tup [.int (.ofNat (nat_lit 1)), .int (.ofNat (nat_lit 2)), xw_each], .tup [.int (.ofNat (nat_lit 1)), .int (.ofNat (nat_lit 1)), .bl false]]) = true := by decide +kernel
theorem c4_121201 : chk4 (.tup [.tup [.int (.ofNat (nat_lit 1)), .int (.ofNat (nat_lit 2)), xw_each], .tup [.int (.ofNat (nat_lit 2)), .int (.ofNat (nat_lit 0)), .bl true]]) = true := by decide +kernel
theorem c4_121200 : chk4 (.tup [.tup [.int (.ofNat (nat_lit 1)), .int (.ofNat (nat_lit 2)), xw_each], .tup [.int (.ofNat (nat_lit 2)), .int (.ofNat (nat_lit 0)), .bl false]]) = true := by decide +kernel
theorem c4_121211 : chk4 (.tup [.tup [.int (.ofNat (nat_lit 1)), .int (.ofNat (nat_lit 2)), xw_each], .tup [.int (.ofNat (nat_lit 2)), .int (.ofNat (nat_lit 1)), .bl true]]) = true := by decide +kernel
theorem c4_121210 : chk4 (.tup [.tup [.int (.ofNat (nat_lit 1)), .int (.ofNat (nat_lit 2)), xw_each], .tup [.int (.ofNat (nat_lit 2)), .int (.ofNat (nat_lit 1)), .bl false]]) = true := by decide +kernel
theorem c4_120101 : chk4 (.tup [.tup [.int (.ofNat (nat_lit 1)), .int (.ofNat (nat_lit 2)), xw_sum], .tup [.int (.ofNat (nat_lit 1)), .int (.ofNat (nat_lit 0)), .bl true]]) = true := by decide +kernel
theorem c4_120100 : chk4 (.tup [.tup [.int (.ofNat (nat_lit 1)), .int (.ofNat (nat_lit 2)), xw_sum], .tup [.int (.ofNat (nat_lit 1)), .int (.ofNat (nat_lit 0)), .bl false]]) = true := by decide +kernel
theorem c4_120111 : chk4 (.tup [.tup [.int (.ofNat (nat_lit 1)), .int (.ofNat (nat_lit 2)), xw_sum], .tup [.int (.ofNat (nat_lit 1)), .int (.ofNat (nat_lit 1)), .bl true]]) = true := by decide +kernel
theorem c4_120110 : chk4 (.tup [.tup [.int (.ofNat (nat_lit 1)), .int (.ofNat (nat_lit 2)), xw_sum], .tup [.int (.ofNat (nat_lit 1)), .int (.ofNat (nat_lit 1)), .bl false]]) = true := by decide +kernel
theorem c4_120201 : chk4 (.tup [.tup [.int (.ofNat (nat_lit 1)), .int (.ofNat (nat_lit 2)), xw_sum], .tup [.int (.ofNat (nat_lit 2)), .int (.ofNat (nat_lit 0)), .bl true]]) = true := by decide +kernel
theorem c4_120200 : chk4 (.tup [.tup [.int (.ofNat (nat_lit 1)), .int (.ofNat (nat_lit 2)), xw_sum], .tup [.int (.ofNat (nat_lit 2)), .int (.ofNat (nat_lit 0)), .bl false]]) = true := by decide +kernel
theorem c4_120211 : chk4 (.tup [.tup [.int (.ofNat (nat_lit 1)), .int (.ofNat (nat_lit 2)), xw_sum], .tup [.int (.ofNat (nat_lit 2)), .int (.ofNat (nat_lit 1)), .bl true]]) = true := by decide +kernel
theorem c4_120210 : chk4 (.tup [.tup [.int (.ofNat (nat_lit 1)), .int (.ofNat (nat_lit 2)), xw_sum], .tup [.int (.ofNat (nat_lit 2)), .int (.ofNat (nat_lit 1)), .bl false]]) = true := by decide +kernel
theorem c4_211101 : chk4 (.tup [.tup [.int (.ofNat (nat_lit 2)), .int (.ofNat (nat_lit 1)), xw_each], .tup [.int (.ofNat (nat_lit 1)), .int (.ofNat (nat_lit 0)), .bl true]]) = true := by decide +kernel
theorem c4_211100 : chk4 (.tup [.tup [.int (.ofNat (nat_lit 2)), .int (.ofNat (nat_lit 1)), xw_each], .tup [.int (.ofNat (nat_lit 1)), .int (.ofNat (nat_lit 0)), .bl false]]) = true := by decide +kernel
theorem c4_211111 : chk4 (.tup [.tup [.int (.ofNat (nat_lit 2)), .int (.ofNat (nat_lit 1)), xw_each], .tup [.int (.ofNat (nat_lit 1)), .int (.ofNat (nat_lit 1)), .bl true]]) = true := by decide +kernel
theorem c4_211110 : chk4 (.tup [.tup [.int (.ofNat (nat_lit 2)), .int (.ofNat (nat_lit 1)), xw_each], .tup [.int (.ofNat (nat_lit 1)), .int (.ofNat (nat_lit 1)), .bl false]]) = true := by decide +kernel
theorem c4_211201 : chk4 (.tup [.tup [.int (.ofNat (nat_lit 2)), .int (.ofNat (nat_lit 1)), xw_each], .tup [.int (.ofNat (nat_lit 2)), .int (.ofNat (nat_lit 0)), .bl true]]) = true := by decide +kernel
theorem c4_211200 : chk4 (.tup [.tup [.int (.ofNat (nat_lit 2)), .int (.ofNat (nat_lit 1)), xw_each], .tup [.int (.ofNat (nat_lit 2)), .int (.ofNat (nat_lit 0)), .bl false]]) = true := by decide +kernel
theorem c4_211211 : chk4 (.tup [.tup [.int (.ofNat (nat_lit 2)), .int (.ofNat (nat_lit 1)), xw_each], .tup [.int (.ofNat (nat_lit 2)), .int (.ofNat (nat_lit 1)), .bl true]]) = true := by decide +kernel
theorem c4_211210 : chk4 (.tup [.tup [.int (.ofNat (nat_lit 2)), .int (.ofNat (nat_lit 1)), xw_each], .tup [.int (.ofNat (nat_lit 2)), .int (.ofNat (nat_lit 1)), .bl false]]) = true := by decide +kernel
theorem c4_210101 : chk4 (.tup [.tup [.int (.ofNat (nat_lit 2)), .int (.ofNat (nat_lit 1)), xw_sum], .tup [.int (.ofNat (nat_lit 1)), .int (.ofNat (nat_lit 0)), .bl true]]) = true := by decide +kernel
theorem c4_210100 : chk4 (.tup [.tup [.int (.ofNat (nat_lit 2)), .int (.ofNat (nat_lit 1)), xw_sum], .tup [.int (.ofNat (nat_lit 1)), .int (.ofNat (nat_lit 0)), .bl false]]) = true := by decide +kernel
theorem c4_210111 : chk4 (.tup [.tup [.int (.ofNat (nat_lit 2)), .int (.ofNat (nat_lit 1)), xw_sum], .tup [.int (.ofNat (nat_lit 1)), .int (.ofNat (nat_lit 1)), .bl true]]) = true := by decide +kernel
theorem c4_210110 : chk4 (.tup [.tup [.int (.ofNat (nat_lit 2)), .int (.ofNat (nat_lit 1)), xw_sum], .tup [.int (.ofNat (nat_lit 1)), .int (.ofNat (nat_lit 1)), .bl false]]) = true := by decide +kernel
theorem c4_210201 : chk4 (.tup [.tup [.int (.ofNat (nat_lit 2)), .int (.ofNat (nat_lit 1)), xw_sum], .tup [.int (.ofNat (nat_lit 2)), .int (.ofNat (nat_lit 0)), .bl true]]) = true := by decide +kernel
theorem c4_210200 : chk4 (.tup [.tup [.int (.ofNat (nat_lit 2)), .int (.ofNat (nat_lit 1)), xw_sum], .tup [.int (.ofNat (nat_lit 2)), .int (.ofNat (nat_lit 0)), .bl false]]) = true := by decide +kernel
theorem c4_210211 : chk4 (.tup [.tup [.int (.ofNat (nat_lit 2)), .int (.ofNat (nat_lit 1)), xw_sum], .tup [.int (.ofNat (nat_lit 2)), .int (.ofNat (nat_lit 1)), .bl true]]) = true := by decide +kernel
theorem c4_210210 : chk4 (.tup [.tup [.int (.ofNat (nat_lit 2)), .int (.ofNat (nat_lit 1)), xw_sum], .tup [.int (.ofNat (nat_lit 2)), .int (.ofNat (nat_lit 1)), .bl false]]) = true := by decide +kernel
theorem c4_221101 : chk4 (.tup [.tup [.int (.ofNat (nat_lit 2)), .int (.ofNat (nat_lit 2)), xw_each], .tup [.int (.ofNat (nat_lit 1)), .int (.ofNat (nat_lit 0)), .bl true]]) = true := by decide +kernel
theorem c4_221100 : chk4 (.tup [.tup [.int (.ofNat (nat_lit 2)), .int (.ofNat (nat_lit 2)), xw_each], .tup [.int (.ofNat (nat_lit 1)), .int (.ofNat (nat_lit 0)), .bl false]]) = true := by decide +kernel
theorem c4_221111 : chk4 (.tup [.tup [.int (.ofNat (nat_lit 2)), .int (.ofNat (nat_lit 2)), xw_each], .tup [.int (.ofNat (nat_lit 1)), .int (.ofNat (nat_lit 1)), .bl true]]) = true := by decide +kernel
theorem c4_221110 : chk4 (.tup [.tup [.int (.ofNat (nat_lit 2)), .int (.ofNat (nat_lit 2)), xw_each], .tup [.int (.ofNat (nat_lit 1)), .int (.ofNat (nat_lit 1)), .bl false]]) = true := by decide +kernel
theorem c4_221201 : chk4 (.tup [.tup [.int (.ofNat (nat_lit 2)), .int (.ofNat (nat_lit 2)), xw_each], .tup [.int (.ofNat (nat_lit 2)), .int (.ofNat (nat_lit 0)), .bl true]]) = true := by decide +kernel
theorem c4_221200 : chk4 (.tup [.tup [.int (.ofNat (nat_lit 2)), .int (.ofNat (nat_lit 2)), xw_each], .tup [.int (.ofNat (nat_lit 2)), .int (.ofNat (nat_lit 0)), .bl false]]) = true := by decide +kernel
theorem c4_221211 : chk4 (.tup [.tup [.int (.ofNat (nat_lit 2)), .int (.ofNat (nat_lit 2)), xw_each], .tup [.int (.ofNat (nat_lit 2)), .int (.ofNat (nat_lit 1)), .bl true]]) = true := by decide +kernel
theorem c4_221210 : chk4 (.tup [.tup [.int (.ofNat (nat_lit 2)), .int (.ofNat (nat_lit 2)), xw_each], .tup [.int (.ofNat (nat_lit 2)), .int (.ofNat (nat_lit 1)), .bl false]]) = true := by decide +kernel
theorem c4_220101 : chk4 (.tup [.tup [.int (.ofNat (nat_lit 2)), .int (.ofNat (nat_lit 2)), xw_sum], .tup [.int (.ofNat (nat_lit 1)), .int (.ofNat (nat_lit 0)), .bl true]]) = true := by decide +kernel
theorem c4_220100 : chk4 (.tup [.tup [.int (.ofNat (nat_lit 2)), .int (.ofNat (nat_lit 2)), xw_sum], .tup [.int (.ofNat (nat_lit 1)), .int (.ofNat (nat_lit 0)), .bl false]]) = true := by decide +kernel
theorem c4_220111 : chk4 (.tup [.tup [.int (.ofNat (nat_lit 2)), .int (.ofNat (nat_lit 2)), xw_sum], .tup [.int (.ofNat (nat_lit 1)), .int (.ofNat (nat_lit 1)), .bl true]]) = true := by decide +kernel
theorem c4_220110 : chk4 (.tup [.tup [.int (.ofNat (nat_lit 2)), .int (.ofNat (nat_lit 2)), xw_sum], .tup [.int (.ofNat (nat_lit 1)), .int (.ofNat (nat_lit 1)), .bl false]]) = true := by decide +kernel
theorem c4_220201 : chk4 (.tup [.tup [.int (.ofNat (nat_lit 2)), .int (.ofNat (nat_lit 2)), xw_sum], .tup [.int (.ofNat (nat_lit 2)), .int (.ofNat (nat_lit 0)), .bl true]]) = true := by decide +kernel
theorem c4_220200 : chk4 (.tup [.tup [.int (.ofNat (nat_lit 2)), .int (.ofNat (nat_lit 2)), xw_sum], .tup [.int (.ofNat (nat_lit 2)), .int (.ofNat (nat_lit 0)), .bl false]]) = true := by decide +kernel
theorem c4_220211 : chk4 (.tup [.tup [.int (.ofNat (nat_lit 2)), .int (.ofNat (nat_lit 2)), xw_sum], .tup [.int (.ofNat (nat_lit 2)), .int (.ofNat (nat_lit 1)), .bl true]]) = true := by decide +kernel
theorem c4_220210 : chk4 (.tup [.tup [.int (.ofNat (nat_lit 2)), .int (.ofNat (nat_lit 2)), xw_sum], .tup [.int (.ofNat (nat_lit 2)), .int (.ofNat (nat_lit 1)), .bl false]]) = true := by decide +kernel
theorem chk4_all {P : Pl} (hP : P.ok) (h1 : P.tol ≤ 2) (h2 : P.wait ≤ 2) (h3 : P.most ≤ 2) (h4 : P.spread ≤ 1) : chk4 P.d = true := by
  obtain ⟨tol, wait, each, most, spread, lean⟩ := P
  obtain ⟨t0, _, w0, _, m0, _, s0, _⟩ := hP
  dsimp only at *
  have ht : tol = 0 ∨ tol = 1 ∨ tol = 2 := by omega
  have hw : wait = 1 ∨ wait = 2 := by omega
  have hm : most = 1 ∨ most = 2 := by omega
  have hs : spread = 0 ∨ spread = 1 := by omega
  have ke : wayD true = xw_each := kw_each
  have ks : wayD false = xw_sum := kw_sum
  rcases ht with rfl | rfl | rfl <;> rcases hw with rfl | rfl <;> cases each <;> rcases hm with rfl | rfl <;> rcases hs with rfl | rfl <;> cases lean
  · show chk4 (.tup [.tup [.int 0, .int 1, wayD false], .tup [.int 1, .int 0, .bl false]]) = true
    rw [ks]
    exact c4_010100
  · show chk4 (.tup [.tup [.int 0, .int 1, wayD false], .tup [.int 1, .int 0, .bl true]]) = true
    rw [ks]
    exact c4_010101
  · show chk4 (.tup [.tup [.int 0, .int 1, wayD false], .tup [.int 1, .int 1, .bl false]]) = true
    rw [ks]
    exact c4_010110
  · show chk4 (.tup [.tup [.int 0, .int 1, wayD false], .tup [.int 1, .int 1, .bl true]]) = true
    rw [ks]
    exact c4_010111
  · show chk4 (.tup [.tup [.int 0, .int 1, wayD false], .tup [.int 2, .int 0, .bl false]]) = true
    rw [ks]
    exact c4_010200
  · show chk4 (.tup [.tup [.int 0, .int 1, wayD false], .tup [.int 2, .int 0, .bl true]]) = true
    rw [ks]
    exact c4_010201
  · show chk4 (.tup [.tup [.int 0, .int 1, wayD false], .tup [.int 2, .int 1, .bl false]]) = true
    rw [ks]
    exact c4_010210
  · show chk4 (.tup [.tup [.int 0, .int 1, wayD false], .tup [.int 2, .int 1, .bl true]]) = true
    rw [ks]
    exact c4_010211
  · show chk4 (.tup [.tup [.int 0, .int 1, wayD true], .tup [.int 1, .int 0, .bl false]]) = true
    rw [ke]
    exact c4_011100
  · show chk4 (.tup [.tup [.int 0, .int 1, wayD true], .tup [.int 1, .int 0, .bl true]]) = true
    rw [ke]
    exact c4_011101
  · show chk4 (.tup [.tup [.int 0, .int 1, wayD true], .tup [.int 1, .int 1, .bl false]]) = true
    rw [ke]
    exact c4_011110
  · show chk4 (.tup [.tup [.int 0, .int 1, wayD true], .tup [.int 1, .int 1, .bl true]]) = true
    rw [ke]
    exact c4_011111
  · show chk4 (.tup [.tup [.int 0, .int 1, wayD true], .tup [.int 2, .int 0, .bl false]]) = true
    rw [ke]
    exact c4_011200
  · show chk4 (.tup [.tup [.int 0, .int 1, wayD true], .tup [.int 2, .int 0, .bl true]]) = true
    rw [ke]
    exact c4_011201
  · show chk4 (.tup [.tup [.int 0, .int 1, wayD true], .tup [.int 2, .int 1, .bl false]]) = true
    rw [ke]
    exact c4_011210
  · show chk4 (.tup [.tup [.int 0, .int 1, wayD true], .tup [.int 2, .int 1, .bl true]]) = true
    rw [ke]
    exact c4_011211
  · show chk4 (.tup [.tup [.int 0, .int 2, wayD false], .tup [.int 1, .int 0, .bl false]]) = true
    rw [ks]
    exact c4_020100
  · show chk4 (.tup [.tup [.int 0, .int 2, wayD false], .tup [.int 1, .int 0, .bl true]]) = true
    rw [ks]
    exact c4_020101
  · show chk4 (.tup [.tup [.int 0, .int 2, wayD false], .tup [.int 1, .int 1, .bl false]]) = true
    rw [ks]
    exact c4_020110
  · show chk4 (.tup [.tup [.int 0, .int 2, wayD false], .tup [.int 1, .int 1, .bl true]]) = true
    rw [ks]
    exact c4_020111
  · show chk4 (.tup [.tup [.int 0, .int 2, wayD false], .tup [.int 2, .int 0, .bl false]]) = true
    rw [ks]
    exact c4_020200
  · show chk4 (.tup [.tup [.int 0, .int 2, wayD false], .tup [.int 2, .int 0, .bl true]]) = true
    rw [ks]
    exact c4_020201
  · show chk4 (.tup [.tup [.int 0, .int 2, wayD false], .tup [.int 2, .int 1, .bl false]]) = true
    rw [ks]
    exact c4_020210
  · show chk4 (.tup [.tup [.int 0, .int 2, wayD false], .tup [.int 2, .int 1, .bl true]]) = true
    rw [ks]
    exact c4_020211
  · show chk4 (.tup [.tup [.int 0, .int 2, wayD true], .tup [.int 1, .int 0, .bl false]]) = true
    rw [ke]
    exact c4_021100
  · show chk4 (.tup [.tup [.int 0, .int 2, wayD true], .tup [.int 1, .int 0, .bl true]]) = true
    rw [ke]
    exact c4_021101
  · show chk4 (.tup [.tup [.int 0, .int 2, wayD true], .tup [.int 1, .int 1, .bl false]]) = true
    rw [ke]
    exact c4_021110
  · show chk4 (.tup [.tup [.int 0, .int 2, wayD true], .tup [.int 1, .int 1, .bl true]]) = true
    rw [ke]
    exact c4_021111
  · show chk4 (.tup [.tup [.int 0, .int 2, wayD true], .tup [.int 2, .int 0, .bl false]]) = true
    rw [ke]
    exact c4_021200
  · show chk4 (.tup [.tup [.int 0, .int 2, wayD true], .tup [.int 2, .int 0, .bl true]]) = true
    rw [ke]
    exact c4_021201
  · show chk4 (.tup [.tup [.int 0, .int 2, wayD true], .tup [.int 2, .int 1, .bl false]]) = true
    rw [ke]
    exact c4_021210
  · show chk4 (.tup [.tup [.int 0, .int 2, wayD true], .tup [.int 2, .int 1, .bl true]]) = true
    rw [ke]
    exact c4_021211
  · show chk4 (.tup [.tup [.int 1, .int 1, wayD false], .tup [.int 1, .int 0, .bl false]]) = true
    rw [ks]
    exact c4_110100
  · show chk4 (.tup [.tup [.int 1, .int 1, wayD false], .tup [.int 1, .int 0, .bl true]]) = true
    rw [ks]
    exact c4_110101
  · show chk4 (.tup [.tup [.int 1, .int 1, wayD false], .tup [.int 1, .int 1, .bl false]]) = true
    rw [ks]
    exact c4_110110
  · show chk4 (.tup [.tup [.int 1, .int 1, wayD false], .tup [.int 1, .int 1, .bl true]]) = true
    rw [ks]
    exact c4_110111
  · show chk4 (.tup [.tup [.int 1, .int 1, wayD false], .tup [.int 2, .int 0, .bl false]]) = true
    rw [ks]
    exact c4_110200
  · show chk4 (.tup [.tup [.int 1, .int 1, wayD false], .tup [.int 2, .int 0, .bl true]]) = true
    rw [ks]
    exact c4_110201
  · show chk4 (.tup [.tup [.int 1, .int 1, wayD false], .tup [.int 2, .int 1, .bl false]]) = true
    rw [ks]
    exact c4_110210
  · show chk4 (.tup [.tup [.int 1, .int 1, wayD false], .tup [.int 2, .int 1, .bl true]]) = true
    rw [ks]
    exact c4_110211
  · show chk4 (.tup [.tup [.int 1, .int 1, wayD true], .tup [.int 1, .int 0, .bl false]]) = true
    rw [ke]
    exact c4_111100
  · show chk4 (.tup [.tup [.int 1, .int 1, wayD true], .tup [.int 1, .int 0, .bl true]]) = true
    rw [ke]
    exact c4_111101
  · show chk4 (.tup [.tup [.int 1, .int 1, wayD true], .tup [.int 1, .int 1, .bl false]]) = true
    rw [ke]
    exact c4_111110
  · show chk4 (.tup [.tup [.int 1, .int 1, wayD true], .tup [.int 1, .int 1, .bl true]]) = true
    rw [ke]
    exact c4_111111
  · show chk4 (.tup [.tup [.int 1, .int 1, wayD true], .tup [.int 2, .int 0, .bl false]]) = true
    rw [ke]
    exact c4_111200
  · show chk4 (.tup [.tup [.int 1, .int 1, wayD true], .tup [.int 2, .int 0, .bl true]]) = true
    rw [ke]
    exact c4_111201
  · show chk4 (.tup [.tup [.int 1, .int 1, wayD true], .tup [.int 2, .int 1, .bl false]]) = true
    rw [ke]
    exact c4_111210
  · show chk4 (.tup [.tup [.int 1, .int 1, wayD true], .tup [.int 2, .int 1, .bl true]]) = true
    rw [ke]
    exact c4_111211
  · show chk4 (.tup [.tup [.int 1, .int 2, wayD false], .tup [.int 1, .int 0, .bl false]]) = true
    rw [ks]
    exact c4_120100
  · show chk4 (.tup [.tup [.int 1, .int 2, wayD false], .tup [.int 1, .int 0, .bl true]]) = true
    rw [ks]
    exact c4_120101
  · show chk4 (.tup [.tup [.int 1, .int 2, wayD false], .tup [.int 1, .int 1, .bl false]]) = true
    rw [ks]
    exact c4_120110
  · show chk4 (.tup [.tup [.int 1, .int 2, wayD false], .tup [.int 1, .int 1, .bl true]]) = true
    rw [ks]
    exact c4_120111
  · show chk4 (.tup [.tup [.int 1, .int 2, wayD false], .tup [.int 2, .int 0, .bl false]]) = true
    rw [ks]
    exact c4_120200
  · show chk4 (.tup [.tup [.int 1, .int 2, wayD false], .tup [.int 2, .int 0, .bl true]]) = true
    rw [ks]
    exact c4_120201
  · show chk4 (.tup [.tup [.int 1, .int 2, wayD false], .tup [.int 2, .int 1, .bl false]]) = true
    rw [ks]
    exact c4_120210
  · show chk4 (.tup [.tup [.int 1, .int 2, wayD false], .tup [.int 2, .int 1, .bl true]]) = true
    rw [ks]
    exact c4_120211
  · show chk4 (.tup [.tup [.int 1, .int 2, wayD true], .tup [.int 1, .int 0, .bl false]]) = true
    rw [ke]
    exact c4_121100
  · show chk4 (.tup [.tup [.int 1, .int 2, wayD true], .tup [.int 1, .int 0, .bl true]]) = true
    rw [ke]
    exact c4_121101
  · show chk4 (.tup [.tup [.int 1, .int 2, wayD true], .tup [.int 1, .int 1, .bl false]]) = true
    rw [ke]
    exact c4_121110
  · show chk4 (.tup [.tup [.int 1, .int 2, wayD true], .tup [.int 1, .int 1, .bl true]]) = true
    rw [ke]
    exact c4_121111
  · show chk4 (.tup [.tup [.int 1, .int 2, wayD true], .tup [.int 2, .int 0, .bl false]]) = true
    rw [ke]
    exact c4_121200
  · show chk4 (.tup [.tup [.int 1, .int 2, wayD true], .tup [.int 2, .int 0, .bl true]]) = true
    rw [ke]
    exact c4_121201
  · show chk4 (.tup [.tup [.int 1, .int 2, wayD true], .tup [.int 2, .int 1, .bl false]]) = true
    rw [ke]
    exact c4_121210
  · show chk4 (.tup [.tup [.int 1, .int 2, wayD true], .tup [.int 2, .int 1, .bl true]]) = true
    rw [ke]
    exact c4_121211
  · show chk4 (.tup [.tup [.int 2, .int 1, wayD false], .tup [.int 1, .int 0, .bl false]]) = true
    rw [ks]
    exact c4_210100
  · show chk4 (.tup [.tup [.int 2, .int 1, wayD false], .tup [.int 1, .int 0, .bl true]]) = true
    rw [ks]
    exact c4_210101
  · show chk4 (.tup [.tup [.int 2, .int 1, wayD false], .tup [.int 1, .int 1, .bl false]]) = true
    rw [ks]
    exact c4_210110
  · show chk4 (.tup [.tup [.int 2, .int 1, wayD false], .tup [.int 1, .int 1, .bl true]]) = true
    rw [ks]
    exact c4_210111
  · show chk4 (.tup [.tup [.int 2, .int 1, wayD false], .tup [.int 2, .int 0, .bl false]]) = true
    rw [ks]
    exact c4_210200
  · show chk4 (.tup [.tup [.int 2, .int 1, wayD false], .tup [.int 2, .int 0, .bl true]]) = true
    rw [ks]
    exact c4_210201
  · show chk4 (.tup [.tup [.int 2, .int 1, wayD false], .tup [.int 2, .int 1, .bl false]]) = true
    rw [ks]
    exact c4_210210
  · show chk4 (.tup [.tup [.int 2, .int 1, wayD false], .tup [.int 2, .int 1, .bl true]]) = true
    rw [ks]
    exact c4_210211
  · show chk4 (.tup [.tup [.int 2, .int 1, wayD true], .tup [.int 1, .int 0, .bl false]]) = true
    rw [ke]
    exact c4_211100
  · show chk4 (.tup [.tup [.int 2, .int 1, wayD true], .tup [.int 1, .int 0, .bl true]]) = true
    rw [ke]
    exact c4_211101
  · show chk4 (.tup [.tup [.int 2, .int 1, wayD true], .tup [.int 1, .int 1, .bl false]]) = true
    rw [ke]
    exact c4_211110
  · show chk4 (.tup [.tup [.int 2, .int 1, wayD true], .tup [.int 1, .int 1, .bl true]]) = true
    rw [ke]
    exact c4_211111
  · show chk4 (.tup [.tup [.int 2, .int 1, wayD true], .tup [.int 2, .int 0, .bl false]]) = true
    rw [ke]
    exact c4_211200
  · show chk4 (.tup [.tup [.int 2, .int 1, wayD true], .tup [.int 2, .int 0, .bl true]]) = true
    rw [ke]
    exact c4_211201
  · show chk4 (.tup [.tup [.int 2, .int 1, wayD true], .tup [.int 2, .int 1, .bl false]]) = true
    rw [ke]
    exact c4_211210
  · show chk4 (.tup [.tup [.int 2, .int 1, wayD true], .tup [.int 2, .int 1, .bl true]]) = true
    rw [ke]
    exact c4_211211
  · show chk4 (.tup [.tup [.int 2, .int 2, wayD false], .tup [.int 1, .int 0, .bl false]]) = true
    rw [ks]
    exact c4_220100
  · show chk4 (.tup [.tup [.int 2, .int 2, wayD false], .tup [.int 1, .int 0, .bl true]]) = true
    rw [ks]
    exact c4_220101
  · show chk4 (.tup [.tup [.int 2, .int 2, wayD false], .tup [.int 1, .int 1, .bl false]]) = true
    rw [ks]
    exact c4_220110
  · show chk4 (.tup [.tup [.int 2, .int 2, wayD false], .tup [.int 1, .int 1, .bl true]]) = true
    rw [ks]
    exact c4_220111
  · show chk4 (.tup [.tup [.int 2, .int 2, wayD false], .tup [.int 2, .int 0, .bl false]]) = true
    rw [ks]
    exact c4_220200
  · show chk4 (.tup [.tup [.int 2, .int 2, wayD false], .tup [.int 2, .int 0, .bl true]]) = true
    rw [ks]
    exact c4_220201
  · show chk4 (.tup [.tup [.int 2, .int 2, wayD false], .tup [.int 2, .int 1, .bl false]]) = true
    rw [ks]
    exact c4_220210
  · show chk4 (.tup [.tup [.int 2, .int 2, wayD false], .tup [.int 2, .int 1, .bl true]]) = true
    rw [ks]
    exact c4_220211
  · show chk4 (.tup [.tup [.int 2, .int 2, wayD true], .tup [.int 1, .int 0, .bl false]]) = true
    rw [ke]
    exact c4_221100
  · show chk4 (.tup [.tup [.int 2, .int 2, wayD true], .tup [.int 1, .int 0, .bl true]]) = true
    rw [ke]
    exact c4_221101
  · show chk4 (.tup [.tup [.int 2, .int 2, wayD true], .tup [.int 1, .int 1, .bl false]]) = true
    rw [ke]
    exact c4_221110
  · show chk4 (.tup [.tup [.int 2, .int 2, wayD true], .tup [.int 1, .int 1, .bl true]]) = true
    rw [ke]
    exact c4_221111
  · show chk4 (.tup [.tup [.int 2, .int 2, wayD true], .tup [.int 2, .int 0, .bl false]]) = true
    rw [ke]
    exact c4_221200
  · show chk4 (.tup [.tup [.int 2, .int 2, wayD true], .tup [.int 2, .int 0, .bl true]]) = true
    rw [ke]
    exact c4_221201
  · show chk4 (.tup [.tup [.int 2, .int 2, wayD true], .tup [.int 2, .int 1, .bl false]]) = true
    rw [ke]
    exact c4_221210
  · show chk4 (.tup [.tup [.int 2, .int 2, wayD true], .tup [.int 2, .int 1, .bl true]]) = true
    rw [ke]
    exact c4_221211
end
end L2.DL

set_option Elab.async false
set_option linter.all false
set_option maxRecDepth 100000
set_option maxHeartbeats 1000000
/-! SK4: the law of k04, read. -/
namespace L2.DL
open PySem PySem.Spec PyProof.Rows
/-- law: 0 script, 1 at, 2 spring, 3 plan, 4 ways, 5 due, 6 some, 7 stand, 8 other, 9 mixed -/
def t_law : tS := (tSq (tFr (iRg1 (tConsA (tB2 oAdd (tCa cMin (tConsA (tCa cLen (tConsA (tV 0) tNilA)) (tConsA (tK (.int 4)) tNilA))) (tK (.int 1))) tNilA)) (gNm 1) (tSq (tSt (tCaN 2 F_law_spring (tConsA (tV 0) (tConsA (tV 1) tNilA))) 2) (tSq (tSt (tCaM 1 F_law_small (tConsA (tV 2) tNilA)) 3) (tSq (tSt (tCaP 2 F_law_ways (tConsA (tV 3) (tConsA (tK (.bl false)) tNilA))) 4) (tSq (tIfD (tNt (tTru (tCaP 2 (F_law_twins 10) (tConsA (tLstD (tConsA (tCaP 1 F_count_stands (tConsA (tV 3) tNilA)) (tConsA (tCaP 1 F_harms (tConsA (tV 3) tNilA)) tNilA))) (tConsA (tLstD (tConsA (tCa cLenK (tConsA (tV 4) tNilA)) (tConsA (tCaP 1 F_law_harms (tConsA (tV 3) tNilA)) tNilA))) tNilA))))) (tRt (tK (.bl false))) tNx) (tSq (tSt (tLstD (tConsA (tCaP 1 F_law_first_stopped (tConsA (tV 3) tNilA)) (tConsA (tCaP 1 F_law_first_unseen (tConsA (tV 3) tNilA)) tNilA))) 5) (tSq (tIfD (tNt (tTru (tCaP 2 (F_law_twins 10) (tConsA (tLstD (tConsA (tCaP 2 F_first_harm (tConsA (tV 3) (tConsA (tK (.str "stopped")) tNilA))) (tConsA (tCaP 2 F_first_harm (tConsA (tV 3) (tConsA (tK (.str "unseen")) tNilA))) tNilA))) (tConsA (tV 5) tNilA))))) (tRt (tK (.bl false))) tNx) (tSq (tSt (tCa cListK (tConsA (tV 4) tNilA)) 6) (tSq (tP2 7 8 (tConsA (tB2 oIx (tV 6) (tCaM 2 F_law_pick (tConsA (tV 2) (tConsA (tCa cLen (tConsA (tV 6) tNilA)) tNilA)))) (tConsA (tB2 oIx (tV 6) (tCaM 2 F_law_pick (tConsA (tV 2) (tConsA (tCa cLen (tConsA (tV 6) tNilA)) tNilA)))) tNilA))) (tSq (tIfD (tNt (tTru (tCaP 2 (F_law_twins 10) (tConsA (tCaP 2 F_run_to (tConsA (tV 3) (tConsA (tV 7) tNilA))) (tConsA (tB2 oIx (tB2 oDix (tV 4) (tV 7)) (tK (.int 0))) tNilA))))) (tRt (tK (.bl false))) tNx) (tSq (tSt (tB2 oAdd (tTupD (tConsA (tB2 oIx (tV 8) (tK (.int 0))) tNilA)) (tSlD (tV 7) (tSomeP (tK (.int 1))) tNoP)) 9) (tIfD (tAn (tNt (tTru (tB2 oIx (tV 9) (tK (.int 5))))) (tOr (tTB (tB2 oGt (tB2 oIx (tV 9) (tK (.int 1))) (tK (.int 0)))) (tTB (tB2 oLe (tCa cAbs (tConsA (tB2 oIx (tV 9) (tK (.int 0))) tNilA)) (tB2 oIx (tB2 oIx (tV 3) (tK (.int 0))) (tK (.int 0))))))) (tSq (tSt (tIfE (tTB (tB2 (oDin false) (tV 9) (tV 4))) (tB2 oIx (tB2 oDix (tV 4) (tV 9)) (tK (.int 0))) (tK .non)) 5) (tIfD (tNt (tTru (tCaP 2 (F_law_twins 10) (tConsA (tCaP 2 F_run_to (tConsA (tV 3) (tConsA (tV 9) tNilA))) (tConsA (tV 5) tNilA))))) (tRt (tK (.bl false))) tNx)) tNx)))))))))))) (tRt (tK (.bl true))))
abbrev n_law : Nat := 10
section
variable {P : Pl} {S : Sd} {R : QE} {RE : QX} {ks vs : List D} {d : D} {k : NestedKey}
theorem k_count (hP : P.ok) (h : f_net_of [P.d] = some (.dct ks vs)) (r : R (.int ks.length) []) : F_count_stands [P.d] [] R RE := ⟨rfl, P, ks, vs, rfl, hP, h, r⟩
theorem k_harms (hP : P.ok) (h : f_harms_by [P.d] = some d) (r : R d []) : F_harms [P.d] [] R RE := ⟨rfl, P, d, rfl, hP, h, r⟩
theorem k_first1 (hP : P.ok) (h : f_stopped_by [P.d] = some d) (r : R d []) : F_first_harm [P.d, .str "stopped"] [] R RE := ⟨rfl, P, d, .inl ⟨rfl, h⟩, hP, r⟩
theorem k_first2 (hP : P.ok) (h : f_unseen_by [P.d] = some d) (r : R d []) : F_first_harm [P.d, .str "unseen"] [] R RE := ⟨rfl, P, d, .inr ⟨rfl, h⟩, hP, r⟩
theorem k_run (hP : P.ok) (hS : fitsB P S.d = true) (h : f_net_of [P.d] = some (.dct ks vs)) (hr : Rowed vs) (hk : skOf S.d = some k) (r : R (runAt ks vs k) []) : F_run_to [P.d, S.d] [] R RE := ⟨rfl, P, S, ks, vs, k, rfl, hP, hS, h, hr, hk, r⟩
end
theorem way_inj {a b : Bool} (h : wayD a = wayD b) : a = b := by
  have e : eqD (wayD a) (wayD b) = true := by rw [h]; cases b <;> decide +kernel
  revert e
  cases a <;> cases b <;> first | (intro _; rfl) | decide +kernel
theorem pd_inj {P P' : Pl} (h : P.d = P'.d) : P = P' := by
  obtain ⟨a, b, c, d, e, f⟩ := P
  obtain ⟨a', b', c', d', e', f'⟩ := P'
  simp only [Pl.d, Pl.prog, Pl.world, D.tup.injEq, List.cons.injEq, D.int.injEq, D.bl.injEq, and_true] at h
  obtain ⟨⟨rfl, rfl, h⟩, rfl, rfl, rfl⟩ := h
  rw [way_inj h]
theorem sd_keyT {S : Sd} {k : NestedKey} (h : skOf S.d = some k) : keyT S.d k := by
  obtain ⟨k', hk⟩ := sd_key S
  have e : k' = k := Option.some.inj (hk.1.symm.trans h)
  rw [← e]; exact hk
theorem mix_fit {P : Pl} {S S' : Sd} (hP : P.ok) (h1 : fitsB P S.d = true) (h2 : fitsB P S'.d = true) (hl : S.locked = false) (hc : 0 < S.want ∨ (if S'.off < 0 then -S'.off else S'.off) ≤ P.tol) : fitsB P (Sd.mk S'.off S.want S.left S.hand S.leans S.locked).d = true := by
  obtain ⟨off, want, left, hand, leans, locked⟩ := S
  obtain ⟨off', want', left', hand', leans', locked'⟩ := S'
  dsimp only at hl hc
  subst hl
  have hm := hP.m1
  simp only [fitsB, Sd.d, fitsI, Bool.and_eq_true, decide_eq_true_eq, if_neg Bool.false_ne_true] at h1 h2 ⊢
  obtain ⟨⟨⟨⟨a1, a2⟩, a3⟩, a4⟩, ⟨⟨⟨a5, a6⟩, a7⟩, a8⟩⟩ := h1
  refine ⟨⟨⟨⟨h2.1.1.1.1, a2⟩, a3⟩, a4⟩, ⟨⟨⟨a5, a6⟩, a7⟩, ?_⟩⟩
  by_cases hw : want = 0
  · rw [if_pos hw] at a8 ⊢
    rw [decide_eq_true_eq] at a8 ⊢
    refine ⟨a8.1, ?_⟩
    rcases hc with hc | hc
    · omega
    · split at hc <;> omega
  · rw [if_neg hw] at a8 ⊢
    exact a8
theorem fit2 {a b : D} (ha : fitD 7 a = true) (hb : fitD 7 b = true) : fitD 9 (.lst [a, b]) = true := by
  simp [fitD, fit_mono _ 7 8 (by decide) ha, fit_mono _ 7 8 (by decide) hb]
section
local macro_rules | `(tactic| walk_at "d") => `(tactic| (first
  | with_reducible refine Stp.go ?_
  | with_reducible refine And.intro ?_ ?_
  | with_reducible refine fun _ => ?_
  | ((with_reducible refine s_iteY ?_); refine And.intro rfl ?_)
  | ((with_reducible refine s_iteN ?_); refine And.intro rfl ?_)
  | with_reducible refine iteB (fun _ => ?_) (fun _ => ?_)
  | with_reducible refine i_eq ?_ ?_ ?_
  | with_reducible refine i_ne ?_ ?_ ?_
  | with_reducible refine rtp ?_ ?_
  | with_reducible refine u_isB ?_ ?_
  | with_reducible refine u_isI ?_ ?_
  | with_reducible refine u_isT ?_ ?_
  | with_reducible refine u_isS ?_ ?_
  | with_reducible refine u_isL ?_ ?_
  | with_reducible refine u_isLT ?_ ?_
  | with_reducible refine u_is_within ?_ ?_
  | with_reducible refine u_law_int ?_ ?_
  | with_reducible refine u_is_row ?_ ?_
  | with_reducible refine u_law_made ?_ ?_
  | with_reducible refine u_is_program ?_ ?_
  | with_reducible refine u_law_good_program ?_ ?_
  | with_reducible refine u_is_plan ?_ ?_
  | with_reducible refine u_law_good_plan ?_ ?_
  | with_reducible refine u_law_kind ?_ ?_
  | with_reducible refine u_pick0 ?_ ?_ ?_
  | with_reducible refine u_pickG ?_ ?_ ?_ ?_
  | with_reducible refine u_smallG ?_ ?_
  | with_reducible refine k_spring ?_ ?_
  | with_reducible refine rtm3 ?_ ?_ ?_
  | ((with_reducible refine s_sLst ?_); refine Exists.intro _ (And.intro rfl (Exists.intro _ (And.intro rfl (Exists.intro _ (And.intro (by simp only [List.set_cons_zero, List.set_cons_succ]; rfl) ?_))))))
  | with_reducible refine i_oIC ?_ ?_
  | with_reducible refine i_addS ?_ ?_
  | with_reducible refine i_addT ?_ ?_
  | with_reducible refine i_addL ?_ ?_
  | with_reducible refine i_trS ?_ ?_
  | with_reducible refine i_lenS ?_ ?_
  | with_reducible refine i_slS ?_ ?_
  | with_reducible refine i_r1Q ?_ ?_
  | with_reducible refine i_r2Q ?_ ?_
  | with_reducible refine i_lsR1Q ?_ ?_
  | with_reducible refine i_lsR2Q ?_ ?_
  | with_reducible refine i_inT ?_ ?_ ?_
  | with_reducible refine i_inL ?_ ?_ ?_
  | with_reducible refine i_ninT ?_ ?_ ?_
  | with_reducible refine i_ninL ?_ ?_ ?_
  | ((with_reducible refine s_tV ?_); refine Exists.intro _ (And.intro rfl ?_))
  | ((with_reducible refine s_ixT ?_); refine Exists.intro _ (And.intro rfl ?_))
  | ((with_reducible refine s_gNm ?_); refine Exists.intro _ (And.intro (by simp only [wipeD, setsD, List.set_cons_zero, List.set_cons_succ]; rfl) ?_))
  | ((with_reducible refine s_stQ ?_); refine Exists.intro _ (And.intro (by simp only [wipeD, setsD, List.set_cons_zero, List.set_cons_succ]; rfl) ?_))
  | ((with_reducible refine s_c1 ?_); refine Exists.intro _ (And.intro (by simp only [wipeD, setsD, List.set_cons_zero, List.set_cons_succ]; rfl) ?_))
  | ((with_reducible refine s_p2 ?_); refine Exists.intro _ (And.intro (by simp only [wipeD, setsD, List.set_cons_zero, List.set_cons_succ]; rfl) ?_))
  | ((with_reducible refine s_p3 ?_); refine Exists.intro _ (And.intro (by simp only [wipeD, setsD, List.set_cons_zero, List.set_cons_succ]; rfl) ?_))
  | ((with_reducible refine s_cN' ?_); refine And.intro rfl (Exists.intro _ (And.intro (by simp only [wipeD, setsD, List.set_cons_zero, List.set_cons_succ]; rfl) ?_)))
  | ((with_reducible refine s_ixL ?_); refine Exists.intro _ (And.intro rfl ?_))
  | ((with_reducible refine s_trO ?_); refine Exists.intro _ (And.intro rfl ?_))
  | ((with_reducible refine s_lenO ?_); refine Exists.intro _ (And.intro rfl ?_))
  | ((with_reducible refine s_listO ?_); refine Exists.intro _ (And.intro rfl ?_))
  | ((with_reducible refine s_ixO ?_); refine Exists.intro _ (And.intro rfl (Exists.intro _ (And.intro rfl ?_))))
  | ((with_reducible refine s_app1 ?_); refine And.intro rfl ?_)
  | ((with_reducible refine s_cN ?_); refine And.intro rfl ?_)
  | ((with_reducible refine s_dgtY ?_); refine Exists.intro _ (And.intro rfl ?_))
  | ((with_reducible refine i_dgtN ?_ ?_); exact rfl)))
local macro_rules | `(tactic| walk_at "ds") => `(tactic| ((try simp only [startD, List.map_cons, List.map_nil, List.length_cons, List.length_nil, List.replicate, Nat.reduceAdd, Nat.reduceSub, List.cons_append, List.nil_append]); repeat' walk_at "d"))
/-- side conditions -/
local macro_rules | `(tactic| walk_at "e") => `(tactic| (first
  | with_reducible assumption
  | ((with_reducible show fitD _ _ = true); (first | rfl | decide +kernel | (exact fit_mono _ 30 _ (by decide) (by assumption))))
  | ((with_reducible show lowDs _ _); (repeat' first | trivial | (exact fit_low _ 30 _ (by assumption)) | refine And.intro ?_ ?_); done)
  | ((with_reducible show lowO _ _); (show lowDs _ _); (repeat' first | trivial | (exact fit_low _ 30 _ (by assumption)) | refine And.intro ?_ ?_); done)
  | ((with_reducible show (_ : Int) < _); (first | decide | omega))
  | ((with_reducible show (_ : Int) ≤ _); (first | decide | omega))
  | ((with_reducible show lowD _ _); (first | trivial | (exact fit_low _ 30 _ (by assumption))))
  | ((with_reducible show List.length _ = _); simp; done)
  | ((with_reducible show _ ≤ sizeLine); rw [sizeLine_eq]; simp; done)
  | ((with_reducible show List.all _ _ = true); (first | rfl | decide +kernel | (simp [fitD]; done)))
  | skip))
local macro_rules | `(tactic| walk_at "de") => `(tactic| (walk_at "ds" <;> walk_at "e"))


theorem rd_law_k04 (ds : List D) (R : QE) (h : ∃ ns : List Int, ds = [.lst (ns.map .int)] ∧ R (.bl true) []) : t_law (endP R) (startD 10 ds) [] := by
  obtain ⟨ns, rfl, r⟩ := h
  unfold t_law
  walk_at "de"
  all_goals first
    | (split <;> simp <;> omega)
    | skip
  refine fr_by (fun rest ρ L => (∀ x ∈ rest, ∃ z : Int, x = .int z ∧ 0 ≤ z) ∧ ∃ x1 x2 x3 x4 x5 x6 x7 x8 x9, ρ = [some (.lst (ns.map .int)), x1, x2, x3, x4, x5, x6, x7, x8, x9]) ?_ ?_ ?_
  · refine ⟨fun x hx => ?_, _, _, _, _, _, _, _, _, _, rfl⟩
    obtain ⟨i, _, e⟩ := List.mem_map.mp hx
    exact ⟨_, e.symm, by omega⟩
  · rintro x rest ρ L ⟨hz, x1, x2, x3, x4, x5, x6, x7, x8, x9, rfl⟩
    obtain ⟨z, rfl, hz0⟩ := hz x List.mem_cons_self
    have hl0 := lst_low (ns := ns) (z := z)
    walk_at "de"
    rename_i a1 m1 P a2 m2 hP h2 h3 h4 h5
    obtain ⟨nk, nv, wk, wv, hh, st, un, g⟩ := chk4_ok (chk4_all hP h2 h3 h4 h5)
    have hpos := g.ag.pos
    have hfew := g.ag.few
    refine u_run g.ways fun lw => ?_
    walk_at "de"
    refine k_count hP g.net fun _ => ?_
    walk_at "de"
    refine k_harms hP g.h1 fun lh => ?_
    walk_at "de"
    refine ⟨wk, wv, rfl, ?_⟩
    walk_at "de"
    refine u_run g.h2 fun lh => ?_
    walk_at "de"
    · rfl
    rw [g.ag.len]
    refine k_same (fit2 rfl g.hd.1) ⟨by simp, trivial, g.hd.2, trivial⟩ ?_
    walk_at "de"
    refine u_run g.s2 fun l1 => ?_
    walk_at "de"
    refine u_run g.u2 fun l2 => ?_
    walk_at "de"
    refine k_first1 hP g.s1 fun _ => ?_
    walk_at "de"
    refine k_first2 hP g.u1 fun _ => ?_
    walk_at "de"
    all_goals first
      | (show _ = 2; rfl)
      | skip
    refine k_same (fit2 g.sd.1 g.ud.1) ⟨by simp, g.sd.2, g.ud.2, trivial⟩ ?_
    walk_at "de"
    refine ⟨wk, wv, rfl, ?_⟩
    walk_at "de"
    all_goals first
      | omega
      | skip
    have pick : ∀ i : Int, 0 ≤ i → i < (wk.length : Int) → ∃ (S : Sd) (k : NestedKey) (r q : D), atD wk i = some S.d ∧ fitsB P S.d = true ∧ skOf S.d = some k ∧ lookD wk wv k = some (.tup [r, q]) := fun i i0 i1 => by
      obtain ⟨n, rfl⟩ := Int.eq_ofNat_of_zero_le i0
      have hn : n < wk.length := by omega
      obtain ⟨P', S, k, r, q, e1, e2, e3, e4, e5⟩ := g.ag.st _ (List.getElem_mem hn)
      have ep := pd_inj e1
      subst ep
      exact ⟨S, k, r, q, by show wk[n]? = _; rw [List.getElem?_eq_getElem hn, e2], e3, by rw [← e2]; exact e4, e5⟩
    rename_i i1 a3 m3 i10 i11
    obtain ⟨S1, k1, r1, q1, p1, p2, p3, p4⟩ := pick i1 i10 i11
    refine i_ixL p1 ?_
    walk_at "de"
    all_goals first
      | omega
      | skip
    rename_i i2 a4 m4 i20 i21
    obtain ⟨S2, k2, r2, q2, o1, o2, o3, o4⟩ := pick i2 i20 i21
    refine i_ixL o1 ?_
    walk_at "de"
    have run1 : ∀ {k : NestedKey} {r q : D}, lookD wk wv k = some (.tup [r, q]) → runAt nk nv k = r ∧ fitD 9 r = true ∧ wideD r := fun {k r q} e => by
      have e2 : runAt wk wv k = r := by unfold runAt; rw [e]
      have := g.ag.data k
      rw [e2] at this
      exact ⟨(g.ag.same k).trans e2, fit_mono _ 7 9 (by decide) this.1, this.2⟩
    obtain ⟨hr1, hf1, hw1⟩ := run1 p4
    refine k_run hP p2 g.net g.ag.rn p3 ?_
    rw [hr1]
    intro l3
    walk_at "de"
    refine ⟨wk, wv, k1, _, rfl, sd_keyT p3, p4, ?_⟩
    walk_at "de"
    all_goals first
      | exact ⟨l3, l3, trivial⟩
      | (show _ = 2; rfl)
      | skip
    refine k_same hf1 hw1 ?_
    walk_at "de"
    all_goals first
      | (show (6 : Nat) ≤ sizeLine; decide)
      | exact hz _ (List.mem_cons_of_mem _ (by assumption))
      | exact ⟨_, _, _, _, _, _, _, _, _, rfl⟩
      | skip
    all_goals
      have hS3 : fitsB P (Sd.mk S2.off S1.want S1.left S1.hand S1.leans S1.locked).d = true := mix_fit hP p2 o2 (by simpa using (by assumption : (!S1.locked) = true)) (by first | exact .inl (of_decide_eq_true (by assumption)) | exact .inr (of_decide_eq_true (by assumption)))
      obtain ⟨k3, hk3⟩ := sd_key (Sd.mk S2.off S1.want S1.left S1.hand S1.leans S1.locked)
      refine ⟨wk, wv, k3, rfl, hk3, ?_⟩
      cases hlk : lookD wk wv k3
      · walk_at "de"
        refine k_run (S := Sd.mk S2.off S1.want S1.left S1.hand S1.leans S1.locked) hP hS3 g.net g.ag.rn hk3.1 ?_
        rw [show runAt nk nv k3 = .non from (g.ag.same k3).trans (by unfold runAt; rw [hlk])]
        intro l4
        walk_at "de"
        all_goals first
          | (show _ = 2; rfl)
          | skip
        refine k_same (a := .non) (by simp [fitD]) trivial ?_
        walk_at "de"
        all_goals first
          | exact hz _ (List.mem_cons_of_mem _ (by assumption))
          | exact ⟨_, _, _, _, _, _, _, _, _, rfl⟩
      · rename_i v
        obtain ⟨r3, q3, rfl⟩ := g.ag.ro v (by obtain ⟨_, _, _, _, e⟩ := lookD_mem hlk; exact List.mem_of_getElem? e)
        obtain ⟨hr3, hf3, hw3⟩ := run1 hlk
        walk_at "de"
        refine ⟨wk, wv, k3, _, rfl, hk3, hlk, ?_⟩
        walk_at "de"
        refine k_run (S := Sd.mk S2.off S1.want S1.left S1.hand S1.leans S1.locked) hP hS3 g.net g.ag.rn hk3.1 ?_
        rw [hr3]
        intro l4
        walk_at "de"
        all_goals first
          | exact ⟨l4, l4, trivial⟩
          | (show _ = 2; rfl)
          | skip
        refine k_same hf3 hw3 ?_
        walk_at "de"
        all_goals first
          | exact hz _ (List.mem_cons_of_mem _ (by assumption))
          | exact ⟨_, _, _, _, _, _, _, _, _, rfl⟩
  · rintro ρ L ⟨_, x1, x2, x3, x4, x5, x6, x7, x8, x9, rfl⟩
    walk_at "de"
end
end L2.DL

set_option Elab.async false
set_option linter.all false
set_option maxRecDepth 100000
set_option maxHeartbeats 4000000
namespace L2.DL
open PySem PySem.Spec PyProof.Rows
def topS (i : Nat) : Stmt := PySem.Challenge.pw_tillscales_k04_whole_harms_of_plans.main.body.getD i (.Pass ⟨0, 0, 0, 0⟩)
abbrev s_law_begin : Stmt := topS 46
abbrev N_law_begin : List Str := []
theorem sc_law_begin : FnScope N_law_begin [] (defScope s_law_begin) := ⟨rfl, rfl, rfl, by decide +kernel, rfl, by decide +kernel, by decide +kernel⟩
abbrev s_law_deeds : Stmt := topS 47
abbrev N_law_deeds : List Str := ["plan", "stand", "most", "spread", "leaning", "found", "weight", "more"]
theorem sc_law_deeds : FnScope N_law_deeds ["plan", "stand"] (defScope s_law_deeds) := ⟨rfl, rfl, rfl, by decide +kernel, rfl, by decide +kernel, by decide +kernel⟩
abbrev s_law_done : Stmt := topS 48
abbrev N_law_done : List Str := ["plan", "stand", "deed", "tolerance", "wait", "way", "off", "want", "left", "hand", "leans", "locked", "word", "number", "before", "weight"]
theorem sc_law_done : FnScope N_law_done ["plan", "stand", "deed"] (defScope s_law_done) := ⟨rfl, rfl, rfl, by decide +kernel, rfl, by decide +kernel, by decide +kernel⟩
abbrev s_law_first_stopped : Stmt := topS 50
abbrev N_law_first_stopped : List Str := ["plan", "line", "met", "later", "stand", "past", "busy", "deed", "there", "word", "weight"]
theorem sc_law_first_stopped : FnScope N_law_first_stopped ["plan"] (defScope s_law_first_stopped) := ⟨rfl, rfl, rfl, by decide +kernel, rfl, by decide +kernel, by decide +kernel⟩
abbrev s_law_ways : Stmt := topS 49
abbrev N_law_ways : List Str := ["plan", "calm", "found", "queue", "at", "stand", "deed", "there", "word", "weight"]
theorem sc_law_ways : FnScope N_law_ways ["plan", "calm"] (defScope s_law_ways) := ⟨rfl, rfl, rfl, by decide +kernel, rfl, by decide +kernel, by decide +kernel⟩
abbrev s_law_highs : Stmt := topS 51
abbrev N_law_highs : List Str := ["plan", "ways", "high", "turn", "changed", "stand", "deed", "there", "word", "weight"]
theorem sc_law_highs : FnScope N_law_highs ["plan"] (defScope s_law_highs) := ⟨rfl, rfl, rfl, by decide +kernel, rfl, by decide +kernel, by decide +kernel⟩
abbrev s_law_first_unseen : Stmt := topS 52
abbrev N_law_first_unseen : List Str := ["plan", "high", "line", "met", "turn", "later", "stand", "weight", "past", "deed", "there", "word", "more"]
theorem sc_law_first_unseen : FnScope N_law_first_unseen ["plan"] (defScope s_law_first_unseen) := ⟨rfl, rfl, rfl, by decide +kernel, rfl, by decide +kernel, by decide +kernel⟩
abbrev s_law_harms : Stmt := topS 53
abbrev N_law_harms : List Str := ["plan", "found", "high", "stand"]
theorem sc_law_harms : FnScope N_law_harms ["plan"] (defScope s_law_harms) := ⟨rfl, rfl, rfl, by decide +kernel, rfl, by decide +kernel, by decide +kernel⟩
abbrev s_law_pick : Stmt := topS 40
abbrev N_law_pick : List Str := ["spring", "many", "digit"]
theorem sc_law_pick : FnScope N_law_pick ["spring", "many"] (defScope s_law_pick) := ⟨rfl, rfl, rfl, by decide +kernel, rfl, by decide +kernel, by decide +kernel⟩
abbrev s_law_program : Stmt := topS 43
abbrev N_law_program : List Str := ["spring"]
theorem sc_law_program : FnScope N_law_program ["spring"] (defScope s_law_program) := ⟨rfl, rfl, rfl, by decide +kernel, rfl, by decide +kernel, by decide +kernel⟩
abbrev s_law_plan : Stmt := topS 44
abbrev N_law_plan : List Str := ["spring", "world"]
theorem sc_law_plan : FnScope N_law_plan ["spring"] (defScope s_law_plan) := ⟨rfl, rfl, rfl, by decide +kernel, rfl, by decide +kernel, by decide +kernel⟩
abbrev s_law_small : Stmt := topS 45
abbrev N_law_small : List Str := ["spring", "tolerance", "wait", "way", "most", "spread", "leaning"]
theorem sc_law_small : FnScope N_law_small ["spring"] (defScope s_law_small) := ⟨rfl, rfl, rfl, by decide +kernel, rfl, by decide +kernel, by decide +kernel⟩
abbrev s_law_spring : Stmt := topS 39
abbrev N_law_spring : List Str := ["script", "at", "cell", "mixed"]
theorem sc_law_spring : FnScope N_law_spring ["script", "at"] (defScope s_law_spring) := ⟨rfl, rfl, rfl, by decide +kernel, rfl, by decide +kernel, by decide +kernel⟩
abbrev s_law_kind : Stmt := topS 41
abbrev N_law_kind : List Str := ["value"]
theorem sc_law_kind : FnScope N_law_kind ["value"] (defScope s_law_kind) := ⟨rfl, rfl, rfl, by decide +kernel, rfl, by decide +kernel, by decide +kernel⟩
abbrev s_law_twins : Stmt := topS 42
abbrev N_law_twins : List Str := ["one", "other", "a", "b"]
theorem sc_law_twins : FnScope N_law_twins ["one", "other"] (defScope s_law_twins) := ⟨rfl, rfl, rfl, by decide +kernel, rfl, by decide +kernel, by decide +kernel⟩
abbrev s_is_row : Stmt := topS 12
abbrev N_is_row : List Str := ["value", "many"]
theorem sc_is_row : FnScope N_is_row ["value", "many"] (defScope s_is_row) := ⟨rfl, rfl, rfl, by decide +kernel, rfl, by decide +kernel, by decide +kernel⟩
abbrev s_is_within : Stmt := topS 11
abbrev N_is_within : List Str := ["value", "low", "high"]
theorem sc_is_within : FnScope N_is_within ["value", "low", "high"] (defScope s_is_within) := ⟨rfl, rfl, rfl, by decide +kernel, rfl, by decide +kernel, by decide +kernel⟩
abbrev s_is_program : Stmt := topS 13
abbrev N_is_program : List Str := ["value"]
theorem sc_is_program : FnScope N_is_program ["value"] (defScope s_is_program) := ⟨rfl, rfl, rfl, by decide +kernel, rfl, by decide +kernel, by decide +kernel⟩
abbrev s_is_plan : Stmt := topS 14
abbrev N_is_plan : List Str := ["value", "most", "spread", "leaning"]
theorem sc_is_plan : FnScope N_is_plan ["value"] (defScope s_is_plan) := ⟨rfl, rfl, rfl, by decide +kernel, rfl, by decide +kernel, by decide +kernel⟩
abbrev s_look_at_plan : Stmt := topS 15
abbrev N_look_at_plan : List Str := ["plan"]
theorem sc_look_at_plan : FnScope N_look_at_plan ["plan"] (defScope s_look_at_plan) := ⟨rfl, rfl, rfl, by decide +kernel, rfl, by decide +kernel, by decide +kernel⟩
abbrev s_deeds_of : Stmt := topS 21
abbrev N_deeds_of : List Str := ["plan", "stand", "off", "want", "left", "hand", "leans", "locked", "most", "spread", "leaning", "found", "weight", "more"]
theorem sc_deeds_of : FnScope N_deeds_of ["plan", "stand"] (defScope s_deeds_of) := ⟨rfl, rfl, rfl, by decide +kernel, rfl, by decide +kernel, by decide +kernel⟩
abbrev s_growth : Stmt := topS 22
abbrev N_growth : List Str := ["stand", "deed"]
theorem sc_growth : FnScope N_growth ["stand", "deed"] (defScope s_growth) := ⟨rfl, rfl, rfl, by decide +kernel, rfl, by decide +kernel, by decide +kernel⟩
abbrev s_passed : Stmt := topS 23
abbrev N_passed : List Str := ["plan", "stand", "deed", "tolerance", "wait", "way", "off", "want", "left", "hand", "leans", "locked", "unpaid_so"]
theorem sc_passed : FnScope N_passed ["plan", "stand", "deed"] (defScope s_passed) := ⟨rfl, rfl, rfl, by decide +kernel, rfl, by decide +kernel, by decide +kernel⟩
abbrev s_net_of : Stmt := topS 25
abbrev N_net_of : List Str := ["plan", "found", "waiting", "at", "stand", "run", "rows", "deed", "there", "word", "weight"]
theorem sc_net_of : FnScope N_net_of ["plan"] (defScope s_net_of) := ⟨rfl, rfl, rfl, by decide +kernel, rfl, by decide +kernel, by decide +kernel⟩
abbrev s_count_stands : Stmt := topS 34
abbrev N_count_stands : List Str := ["plan"]
theorem sc_count_stands : FnScope N_count_stands ["plan"] (defScope s_count_stands) := ⟨rfl, rfl, rfl, by decide +kernel, rfl, by decide +kernel, by decide +kernel⟩
abbrev s_look_at_harm : Stmt := topS 16
abbrev N_look_at_harm : List Str := ["harm"]
theorem sc_look_at_harm : FnScope N_look_at_harm ["harm"] (defScope s_look_at_harm) := ⟨rfl, rfl, rfl, by decide +kernel, rfl, by decide +kernel, by decide +kernel⟩
abbrev s_stopped_by : Stmt := topS 26
abbrev N_stopped_by : List Str := ["plan", "first", "found", "waiting", "at", "stand", "has_read", "run", "deed", "there", "word", "weight", "later"]
theorem sc_stopped_by : FnScope N_stopped_by ["plan"] (defScope s_stopped_by) := ⟨rfl, rfl, rfl, by decide +kernel, rfl, by decide +kernel, by decide +kernel⟩
abbrev s_calm_rows : Stmt := topS 29
abbrev N_calm_rows : List Str := ["net", "gain", "cost", "found", "stand", "run", "rows", "some", "deed", "there", "word", "weight", "accepts", "row"]
theorem sc_calm_rows : FnScope N_calm_rows ["net", "gain", "cost"] (defScope s_calm_rows) := ⟨rfl, rfl, rfl, by decide +kernel, rfl, by decide +kernel, by decide +kernel⟩
abbrev s_ring_along : Stmt := topS 27
abbrev N_ring_along : List Str := ["ahead", "stand", "line", "seen"]
theorem sc_ring_along : FnScope N_ring_along ["ahead", "stand"] (defScope s_ring_along) := ⟨rfl, rfl, rfl, by decide +kernel, rfl, by decide +kernel, by decide +kernel⟩
abbrev s_grown : Stmt := topS 28
abbrev N_grown : List Str := ["rows", "high", "ahead", "changed", "stand", "deed", "there", "number", "more", "now", "ring"]
theorem sc_grown : FnScope N_grown ["rows", "high"] (defScope s_grown) := ⟨rfl, rfl, rfl, by decide +kernel, rfl, by decide +kernel, by decide +kernel⟩
abbrev s_is_ready : Stmt := topS 30
abbrev N_is_ready : List Str := ["stand"]
theorem sc_is_ready : FnScope N_is_ready ["stand"] (defScope s_is_ready) := ⟨rfl, rfl, rfl, by decide +kernel, rfl, by decide +kernel, by decide +kernel⟩
abbrev s_can_go_unseen : Stmt := topS 31
abbrev N_can_go_unseen : List Str := ["plan", "high", "ring", "stand"]
theorem sc_can_go_unseen : FnScope N_can_go_unseen ["plan"] (defScope s_can_go_unseen) := ⟨rfl, rfl, rfl, by decide +kernel, rfl, by decide +kernel, by decide +kernel⟩
abbrev s_unseen_by : Stmt := topS 32
abbrev N_unseen_by : List Str := ["plan", "first", "found", "waiting", "at", "stand", "weight", "run", "deed", "there", "word", "more", "later"]
theorem sc_unseen_by : FnScope N_unseen_by ["plan"] (defScope s_unseen_by) := ⟨rfl, rfl, rfl, by decide +kernel, rfl, by decide +kernel, by decide +kernel⟩
abbrev s_first_harm : Stmt := topS 37
abbrev N_first_harm : List Str := ["plan", "harm"]
theorem sc_first_harm : FnScope N_first_harm ["plan", "harm"] (defScope s_first_harm) := ⟨rfl, rfl, rfl, by decide +kernel, rfl, by decide +kernel, by decide +kernel⟩
abbrev s_harms_by : Stmt := topS 33
abbrev N_harms_by : List Str := ["plan", "harm"]
theorem sc_harms_by : FnScope N_harms_by ["plan"] (defScope s_harms_by) := ⟨rfl, rfl, rfl, by decide +kernel, rfl, by decide +kernel, by decide +kernel⟩
abbrev s_harms : Stmt := topS 36
abbrev N_harms : List Str := ["plan"]
theorem sc_harms : FnScope N_harms ["plan"] (defScope s_harms) := ⟨rfl, rfl, rfl, by decide +kernel, rfl, by decide +kernel, by decide +kernel⟩
abbrev s_fits : Stmt := topS 17
abbrev N_fits : List Str := ["plan", "value", "tolerance", "wait", "way", "most", "spread", "leaning", "off", "want", "left", "hand", "leans", "locked", "number"]
theorem sc_fits : FnScope N_fits ["plan", "value"] (defScope s_fits) := ⟨rfl, rfl, rfl, by decide +kernel, rfl, by decide +kernel, by decide +kernel⟩
abbrev s_look_at_stand : Stmt := topS 18
abbrev N_look_at_stand : List Str := ["plan", "stand"]
theorem sc_look_at_stand : FnScope N_look_at_stand ["plan", "stand"] (defScope s_look_at_stand) := ⟨rfl, rfl, rfl, by decide +kernel, rfl, by decide +kernel, by decide +kernel⟩
abbrev s_run_to : Stmt := topS 35
abbrev N_run_to : List Str := ["plan", "stand", "net"]
theorem sc_run_to : FnScope N_run_to ["plan", "stand"] (defScope s_run_to) := ⟨rfl, rfl, rfl, by decide +kernel, rfl, by decide +kernel, by decide +kernel⟩
abbrev s_law : Stmt := topS 54
abbrev N_law : List Str := ["script", "at", "spring", "plan", "ways", "due", "some", "stand", "other", "mixed"]
theorem sc_law : FnScope N_law ["script"] (defScope s_law) := ⟨rfl, rfl, rfl, by decide +kernel, rfl, by decide +kernel, by decide +kernel⟩
/-- what stands behind the top -/
structure Txt (K : PySem.W.Frag) (mg : Str → Option Value) where
  law_begin : FunAt K mg "_law_begin" s_law_begin []
  law_deeds : FunAt K mg "_law_deeds" s_law_deeds ["plan", "stand"]
  law_done : FunAt K mg "_law_done" s_law_done ["plan", "stand", "deed"]
  law_first_stopped : FunAt K mg "_law_first_stopped" s_law_first_stopped ["plan"]
  law_ways : FunAt K mg "_law_ways" s_law_ways ["plan", "calm"]
  law_highs : FunAt K mg "_law_highs" s_law_highs ["plan"]
  law_first_unseen : FunAt K mg "_law_first_unseen" s_law_first_unseen ["plan"]
  law_harms : FunAt K mg "_law_harms" s_law_harms ["plan"]
  law_pick : FunAt K mg "_law_pick" s_law_pick ["spring", "many"]
  law_program : FunAt K mg "_law_program" s_law_program ["spring"]
  law_plan : FunAt K mg "_law_plan" s_law_plan ["spring"]
  law_small : FunAt K mg "_law_small" s_law_small ["spring"]
  law_spring : FunAt K mg "_law_spring" s_law_spring ["script", "at"]
  law_kind : FunAt K mg "_law_kind" s_law_kind ["value"]
  law_twins : FunAt K mg "_law_twins" s_law_twins ["one", "other"]
  is_row : FunAt K mg "is_row" s_is_row ["value", "many"]
  is_within : FunAt K mg "is_within" s_is_within ["value", "low", "high"]
  is_program : FunAt K mg "is_program" s_is_program ["value"]
  is_plan : FunAt K mg "is_plan" s_is_plan ["value"]
  look_at_plan : FunAt K mg "look_at_plan" s_look_at_plan ["plan"]
  deeds_of : FunAt K mg "deeds_of" s_deeds_of ["plan", "stand"]
  growth : FunAt K mg "growth" s_growth ["stand", "deed"]
  passed : FunAt K mg "passed" s_passed ["plan", "stand", "deed"]
  net_of : FunAt K mg "net_of" s_net_of ["plan"]
  count_stands : FunAt K mg "count_stands" s_count_stands ["plan"]
  look_at_harm : FunAt K mg "look_at_harm" s_look_at_harm ["harm"]
  stopped_by : FunAt K mg "stopped_by" s_stopped_by ["plan"]
  calm_rows : FunAt K mg "calm_rows" s_calm_rows ["net", "gain", "cost"]
  ring_along : FunAt K mg "ring_along" s_ring_along ["ahead", "stand"]
  grown : FunAt K mg "grown" s_grown ["rows", "high"]
  is_ready : FunAt K mg "is_ready" s_is_ready ["stand"]
  can_go_unseen : FunAt K mg "can_go_unseen" s_can_go_unseen ["plan"]
  unseen_by : FunAt K mg "unseen_by" s_unseen_by ["plan"]
  first_harm : FunAt K mg "first_harm" s_first_harm ["plan", "harm"]
  harms_by : FunAt K mg "harms_by" s_harms_by ["plan"]
  harms : FunAt K mg "harms" s_harms ["plan"]
  fits : FunAt K mg "fits" s_fits ["plan", "value"]
  look_at_stand : FunAt K mg "look_at_stand" s_look_at_stand ["plan", "stand"]
  run_to : FunAt K mg "run_to" s_run_to ["plan", "stand"]
  law : FunAt K mg "law" s_law ["script"]
  n_abs : mg "abs" = none
  n_all : mg "all" = none
  n_bool : mg "bool" = none
  n_dict : mg "dict" = none
  n_int : mg "int" = none
  n_isinstance : mg "isinstance" = none
  n_len : mg "len" = none
  n_list : mg "list" = none
  n_max : mg "max" = none
  n_min : mg "min" = none
  n_range : mg "range" = none
  n_sorted : mg "sorted" = none
  n_str : mg "str" = none
  n_tuple : mg "tuple" = none
  n_zip : mg "zip" = none
  g_BEGIN : GlobV K mg "BEGIN" c_BEGIN
  g_FAR : GlobV K mg "FAR" c_FAR
  g_GROWING : GlobV K mg "GROWING" c_GROWING
  g_HARMS : GlobV K mg "HARMS" c_HARMS
  g_LOCKED : GlobV K mg "LOCKED" c_LOCKED
  g_WAYS : GlobV K mg "WAYS" c_WAYS
section
variable {P : Program} {w : World} {K : PySem.W.Frag} {mg : Str → Option Value} {base : Heap}
theorem ok_law_begin (T : Txt K mg) : FnOk P w K mg base (L2.CX P w) 1 T.law_begin.f T.law_begin.fd [] (liftF K w 0 F_law_begin) :=
  fn_P (t := t_law_begin) T.law_begin.F sc_law_begin (fun cdv A outer s H E RE hr => (dss_one (ds_ret (de_tup (da_cons de_int (da_cons de_int (da_cons de_int (da_cons de_int (da_cons de_bl (da_cons de_bl da_nil)))))))))) (fun ds R hl h => rd_law_begin ds R h)
theorem ok_law_deeds (T : Txt K mg) : FnOk P w K mg base (L2.CX P w) 1 T.law_deeds.f T.law_deeds.fd ["plan", "stand"] (liftF K w 2 F_law_deeds) :=
  fn_P (t := t_law_deeds) T.law_deeds.F sc_law_deeds (fun cdv A outer s H E RE hr => (dss_cons (ds_asg (de_ix (de_var 0) de_int) (dg_tup rfl (dgs_cons (dg_name (i := 2) sc_law_deeds.nd rfl) (dgs_cons (dg_name (i := 3) sc_law_deeds.nd rfl) (dgs_cons (dg_name (i := 4) sc_law_deeds.nd rfl) dgs_nil))))) (dss_cons (ds_if (dt_tru (de_ix (de_var 1) de_int)) (dss_one (ds_ret (de_lst (da_cons (de_tup (da_cons de_str da_nil)) da_nil)))) dss_nil) (dss_cons (ds_set (i := 5) sc_law_deeds.nd rfl (de_lstO (da_cons (de_tup (da_cons de_str da_nil)) da_nil))) (dss_cons (ds_for (passes_of rfl) rfl (di_range2 T.n_range (da_cons de_int (da_cons (de_add (de_var 2) de_int) da_nil))) (dg_name (i := 6) sc_law_deeds.nd rfl) (dss_cons (ds_expr (de_append (de_var 5) (da_cons (de_tup (da_cons de_str (da_cons (de_var 6) da_nil))) da_nil))) (dss_one (ds_if (dt_eq (hu65 hr) (de_ix (de_var 1) de_int) de_int) (dss_one (ds_expr (de_append (de_var 5) (da_cons (de_tup (da_cons de_str (da_cons (de_var 6) da_nil))) da_nil)))) dss_nil)))) (dss_cons (ds_for (passes_of rfl) rfl (di_range2 T.n_range (da_cons (de_neg (de_var 3)) (da_cons (de_add (de_var 3) de_int) da_nil))) (dg_name (i := 7) sc_law_deeds.nd rfl) (dss_one (ds_if (dt_w (dw_and (dt_ne (hu65 hr) (de_ix (de_var 1) de_int) de_int) (dw_and1 (dt_gt (de_add (de_ix (de_var 1) de_int) (de_var 7)) de_int)))) (dss_one (ds_expr (de_append (de_var 5) (da_cons (de_tup (da_cons de_str (da_cons (de_var 7) da_nil))) da_nil)))) dss_nil))) (dss_cons (ds_if (dt_tru (de_var 4)) (dss_one (ds_expr (de_append (de_var 5) (da_cons (de_if (dt_tru (de_ix (de_var 1) de_int)) (de_tup (da_cons de_str da_nil)) (de_tup (da_cons de_str da_nil))) da_nil)))) dss_nil) (dss_one (ds_ret (de_sorted (hu65 hr) T.n_sorted (da_cons (de_var 5) da_nil))))))))))) (fun ds R hl h => rd_law_deeds ds R h)
theorem ok_law_done (T : Txt K mg) : FnOk P w K mg base (L2.CX P w) 2 T.law_done.f T.law_done.fd ["plan", "stand", "deed"] (liftF K w 3 F_law_done) :=
  fn_P (t := t_law_done) T.law_done.F sc_law_done (fun cdv A outer s H E RE hr => (dss_cons (ds_asg (de_ix (de_var 0) de_int) (dg_tup rfl (dgs_cons (dg_name (i := 3) sc_law_done.nd rfl) (dgs_cons (dg_name (i := 4) sc_law_done.nd rfl) (dgs_cons (dg_name (i := 5) sc_law_done.nd rfl) dgs_nil))))) (dss_cons (ds_asg (de_var 1) (dg_tup rfl (dgs_cons (dg_name (i := 6) sc_law_done.nd rfl) (dgs_cons (dg_name (i := 7) sc_law_done.nd rfl) (dgs_cons (dg_name (i := 8) sc_law_done.nd rfl) (dgs_cons (dg_name (i := 9) sc_law_done.nd rfl) (dgs_cons (dg_name (i := 10) sc_law_done.nd rfl) (dgs_cons (dg_name (i := 11) sc_law_done.nd rfl) dgs_nil)))))))) (dss_cons (ds_asg (de_slice (de_add (de_var 2) (de_tup (da_cons de_int da_nil))) do_none (do_some de_int)) (dg_tup rfl (dgs_cons (dg_name (i := 12) sc_law_done.nd rfl) (dgs_cons (dg_name (i := 13) sc_law_done.nd rfl) dgs_nil)))) (dss_cons (ds_if (dt_eq (hu65 hr) (de_var 12) de_str) (dss_one (ds_ret (de_tup (da_cons (de_call0 (ok_law_begin T) (hr.mono (by first | decide | (simp only [Nat.add_eq]; omega) | omega)) T.law_begin.g T.law_begin.F.kp T.law_begin.b) (da_cons de_str (da_cons de_int da_nil)))))) dss_nil) (dss_cons (ds_if (dt_eq (hu65 hr) (de_var 12) de_str) (dss_one (ds_ret (de_tup (da_cons (de_tup (da_cons (de_var 6) (da_cons (de_var 13) (da_cons (de_var 4) (da_cons (de_var 13) (da_cons (de_var 10) (da_cons de_bl da_nil))))))) (da_cons de_str (da_cons de_int da_nil)))))) dss_nil) (dss_cons (ds_par (i := 14) (j := 15) rfl sc_law_done.nd rfl rfl (by decide) rfl rfl (da_cons (de_var 6) (da_cons de_int da_nil)) (by rfl)) (dss_cons (ds_if (dt_eq (hu65 hr) (de_var 12) de_str) (dss_one (ds_par (i := 6) (j := 15) rfl sc_law_done.nd rfl rfl (by decide) rfl rfl (da_cons (de_add (de_var 6) (de_var 13)) (da_cons (de_var 13) da_nil)) (by rfl))) (dss_one (ds_if (dt_eq (hu65 hr) (de_var 12) de_str) (dss_one (ds_par (i := 6) (j := 9) rfl sc_law_done.nd rfl rfl (by decide) rfl rfl (da_cons (de_add (de_add (de_var 6) (de_var 9)) (de_var 13)) (da_cons de_int da_nil)) (by rfl))) (dss_one (ds_if (dt_eq (hu65 hr) (de_var 12) de_str) (dss_one (ds_par (i := 6) (j := 10) rfl sc_law_done.nd rfl rfl (by decide) rfl rfl (da_cons (de_add (de_var 6) de_int) (da_cons de_bl da_nil)) (by rfl))) (dss_one (ds_if (dt_eq (hu65 hr) (de_var 12) de_str) (dss_one (ds_par (i := 6) (j := 10) rfl sc_law_done.nd rfl rfl (by decide) rfl rfl (da_cons (de_sub (de_var 6) de_int) (da_cons de_bl da_nil)) (by rfl))) dss_nil))))))) (dss_cons (ds_if (dt_ne (hu65 hr) (de_var 7) de_int) (dss_cons (ds_if (dt_w (dw_and (dt_gt (de_var 6) (de_var 14)) (dw_and1 (dt_le (de_abs T.n_abs (da_cons (de_sub (de_var 6) (de_var 7)) da_nil)) (de_var 3))))) (dss_one (ds_ret (de_tup (da_cons (de_tup (da_cons (de_dgt1 (hu65 hr) pe_int (de_var 5) (de_sub (de_var 6) (de_var 7))) (da_cons de_int (da_cons de_int (da_cons de_int (da_cons (de_var 10) (da_cons de_bl da_nil))))))) (da_cons de_str (da_cons (de_sub (de_var 15) (de_var 9)) da_nil)))))) dss_nil) (dss_one (ds_if (dt_ne (hu65 hr) (de_var 8) de_int) (dss_one (ds_ret (de_tup (da_cons (de_tup (da_cons (de_var 6) (da_cons (de_var 7) (da_cons (de_sub (de_var 8) de_int) (da_cons (de_var 9) (da_cons (de_var 10) (da_cons de_bl da_nil))))))) (da_cons de_str (da_cons (de_var 15) da_nil)))))) dss_nil))) (dss_one (ds_if (dt_le (de_abs T.n_abs (da_cons (de_var 6) da_nil)) (de_var 3)) (dss_one (ds_ret (de_tup (da_cons (de_tup (da_cons (de_var 6) (da_cons de_int (da_cons de_int (da_cons de_int (da_cons (de_var 10) (da_cons de_bl da_nil))))))) (da_cons de_str (da_cons (de_var 15) da_nil)))))) dss_nil))) (dss_one (ds_ret (de_tup (da_cons (de_tup (da_cons de_int (da_cons de_int (da_cons de_int (da_cons de_int (da_cons de_bl (da_cons de_bl da_nil))))))) (da_cons de_str (da_cons (de_var 15) da_nil))))))))))))))) (fun ds R hl h => rd_law_done ds R h)
theorem ok_law_first_stopped (T : Txt K mg) : FnOk P w K mg base (L2.CX P w) 3 T.law_first_stopped.f T.law_first_stopped.fd ["plan"] (liftF K w 1 F_law_first_stopped) :=
  fn_P (t := t_law_first_stopped) T.law_first_stopped.F sc_law_first_stopped (fun cdv A outer s H E RE hr => (dss_cons (ds_par (i := 1) (j := 2) rfl sc_law_first_stopped.nd rfl rfl (by decide) rfl rfl (da_cons (de_lst (da_cons (de_tup (da_cons (de_call0 (ok_law_begin T) (hr.mono (by first | decide | (simp only [Nat.add_eq]; omega) | omega)) T.law_begin.g T.law_begin.F.kp T.law_begin.b) (da_cons (de_tup da_nil) (da_cons de_bl da_nil)))) da_nil)) (da_cons de_dicO da_nil)) (by rfl)) (dss_cons (ds_while (passes_of rfl) (dt_ne (hu65 hr) (de_var 1) (de_lst da_nil)) (dss_cons (ds_set (i := 3) sc_law_first_stopped.nd rfl (de_lstO da_nil)) (dss_cons (ds_for (passes_of rfl) rfl (di_list (de_var 1)) (dg_tup rfl (dgs_cons (dg_name (i := 4) sc_law_first_stopped.nd rfl) (dgs_cons (dg_name (i := 5) sc_law_first_stopped.nd rfl) (dgs_cons (dg_name (i := 6) sc_law_first_stopped.nd rfl) dgs_nil)))) (dss_one (ds_if (dt_dnotin (hu65 hr) (de_tup (da_cons (de_var 4) (da_cons (de_var 6) da_nil))) (de_var 2)) (dss_cons (ds_asg de_bl (dg_put (hu65 hr) (de_var 2) (de_tup (da_cons (de_var 4) (da_cons (de_var 6) da_nil))))) (dss_one (ds_for (passes_of rfl) rfl (di_list (de_call (ok_law_deeds T) (hr.mono (by first | decide | (simp only [Nat.add_eq]; omega) | omega)) T.law_deeds.g T.law_deeds.F.kp T.law_deeds.b (da_cons (de_var 0) (da_cons (de_var 4) da_nil)))) (dg_name (i := 7) sc_law_first_stopped.nd rfl) (dss_one (ds_if (dt_ifE (dt_tru (de_var 6)) (dt_eq (hu65 hr) (de_ix (de_var 7) de_int) de_str) (dt_ne (hu65 hr) (de_ix (de_var 7) de_int) de_str)) (dss_cons (ds_asg (de_call (ok_law_done T) (hr.mono (by first | decide | (simp only [Nat.add_eq]; omega) | omega)) T.law_done.g T.law_done.F.kp T.law_done.b (da_cons (de_var 0) (da_cons (de_var 4) (da_cons (de_var 7) da_nil)))) (dg_tup rfl (dgs_cons (dg_name (i := 8) sc_law_first_stopped.nd rfl) (dgs_cons (dg_name (i := 9) sc_law_first_stopped.nd rfl) (dgs_cons (dg_name (i := 10) sc_law_first_stopped.nd rfl) dgs_nil))))) (dss_cons (ds_if (dt_eq (hu65 hr) (de_var 9) de_str) (dss_one (ds_ret (de_add (de_var 5) (de_tup (da_cons (de_var 7) da_nil))))) dss_nil) (dss_one (ds_expr (de_append (de_var 3) (da_cons (de_tup (da_cons (de_var 8) (da_cons (de_add (de_var 5) (de_tup (da_cons (de_var 7) da_nil))) (da_cons (de_eq (hu65 hr) (de_ix (de_var 7) de_int) de_str) da_nil)))) da_nil)))))) dss_nil))))) dss_nil))) (dss_one (ds_set (i := 1) sc_law_first_stopped.nd rfl (de_frz (de_var 3))))))) (dss_one (ds_ret de_non))))) (fun ds R hl h => rd_law_first_stopped ds R hl h)
theorem ok_law_ways (T : Txt K mg) : FnOk P w K mg base (L2.CX P w) 3 T.law_ways.f T.law_ways.fd ["plan", "calm"] (liftF K w 2 F_law_ways) :=
  fn_P (t := t_law_ways) T.law_ways.F sc_law_ways (fun cdv A outer s H E RE hr => (dss_cons (ds_par3 (i := 2) (j := 3) (l := 4) rfl sc_law_ways.nd rfl rfl rfl (by decide) (by decide) (by decide) rfl rfl rfl (da_cons (de_dic1O (hu65 hr) (de_call0 (ok_law_begin T) (hr.mono (by first | decide | (simp only [Nat.add_eq]; omega) | omega)) T.law_begin.g T.law_begin.F.kp T.law_begin.b) (de_tup (da_cons (de_tup da_nil) (da_cons (de_lstO da_nil) da_nil)))) (da_cons (de_lstO (da_cons (de_call0 (ok_law_begin T) (hr.mono (by first | decide | (simp only [Nat.add_eq]; omega) | omega)) T.law_begin.g T.law_begin.F.kp T.law_begin.b) da_nil)) (da_cons de_int da_nil))) (by rfl)) (dss_cons (ds_while (passes_of rfl) (dt_lt (de_var 4) (de_len T.n_len (da_cons (de_var 3) da_nil))) (dss_cons (ds_set (i := 5) sc_law_ways.nd rfl (de_ix (de_var 3) (de_var 4))) (dss_cons (ds_set (i := 4) sc_law_ways.nd rfl (de_add (de_var 4) de_int)) (dss_one (ds_for (passes_of rfl) rfl (di_list (de_call (ok_law_deeds T) (hr.mono (by first | decide | (simp only [Nat.add_eq]; omega) | omega)) T.law_deeds.g T.law_deeds.F.kp T.law_deeds.b (da_cons (de_var 0) (da_cons (de_var 5) da_nil)))) (dg_name (i := 6) sc_law_ways.nd rfl) (dss_cons (ds_asg (de_call (ok_law_done T) (hr.mono (by first | decide | (simp only [Nat.add_eq]; omega) | omega)) T.law_done.g T.law_done.F.kp T.law_done.b (da_cons (de_var 0) (da_cons (de_var 5) (da_cons (de_var 6) da_nil)))) (dg_tup rfl (dgs_cons (dg_name (i := 7) sc_law_ways.nd rfl) (dgs_cons (dg_name (i := 8) sc_law_ways.nd rfl) (dgs_cons (dg_name (i := 9) sc_law_ways.nd rfl) dgs_nil))))) (dss_one (ds_if (dt_w (dw_or (dt_ne (hu65 hr) (de_var 8) de_str) (dw_or1 (dt_not (dt_tru (de_var 1)))))) (dss_cons (ds_expr (de_append (de_ix (de_dix (hu65 hr) (de_var 2) (de_var 5)) de_int) (da_cons (de_tup (da_cons (de_var 6) (da_cons (de_var 7) (da_cons (de_var 8) (da_cons (de_var 9) da_nil))))) da_nil))) (dss_one (ds_if (dt_dnotin (hu65 hr) (de_var 7) (de_var 2)) (dss_cons (ds_asg (de_tup (da_cons (de_add (de_ix (de_dix (hu65 hr) (de_var 2) (de_var 5)) de_int) (de_tup (da_cons (de_var 6) da_nil))) (da_cons (de_lstO da_nil) da_nil))) (dg_put (hu65 hr) (de_var 2) (de_var 7))) (dss_one (ds_expr (de_append (de_var 3) (da_cons (de_var 7) da_nil))))) dss_nil))) dss_nil)))))))) (dss_one (ds_ret (de_var 2)))))) (fun ds R hl h => rd_law_ways ds R hl h)
theorem ok_law_highs (T : Txt K mg) : FnOk P w K mg base (L2.CX P w) 4 T.law_highs.f T.law_highs.fd ["plan"] (liftF K w 1 F_law_highs) :=
  fn_P (t := t_law_highs) T.law_highs.F sc_law_highs (fun cdv A outer s H E RE hr => (dss_cons (ds_par (i := 1) (j := 2) rfl sc_law_highs.nd rfl rfl (by decide) rfl rfl (da_cons (de_call (ok_law_ways T) (hr.mono (by first | decide | (simp only [Nat.add_eq]; omega) | omega)) T.law_ways.g T.law_ways.F.kp T.law_ways.b (da_cons (de_var 0) (da_cons de_bl da_nil))) (da_cons (de_dic1O (hu65 hr) (de_call0 (ok_law_begin T) (hr.mono (by first | decide | (simp only [Nat.add_eq]; omega) | omega)) T.law_begin.g T.law_begin.F.kp T.law_begin.b) de_int) da_nil)) (by rfl)) (dss_cons (ds_for (passes_of rfl) rfl (di_range1 T.n_range (da_cons (de_add (de_lenK T.n_len (da_cons (de_var 1) da_nil)) de_int) da_nil)) (dg_name (i := 3) sc_law_highs.nd rfl) (dss_cons (ds_set (i := 4) sc_law_highs.nd rfl de_bl) (dss_cons (ds_for (passes_of rfl) rfl (di_dict (de_var 1)) (dg_name (i := 5) sc_law_highs.nd rfl) (dss_one (ds_if (dt_din (hu65 hr) (de_var 5) (de_var 2)) (dss_one (ds_for (passes_of rfl) rfl (di_list (de_ix (de_dix (hu65 hr) (de_var 1) (de_var 5)) de_int)) (dg_tup rfl (dgs_cons (dg_name (i := 6) sc_law_highs.nd rfl) (dgs_cons (dg_name (i := 7) sc_law_highs.nd rfl) (dgs_cons (dg_name (i := 8) sc_law_highs.nd rfl) (dgs_cons (dg_name (i := 9) sc_law_highs.nd rfl) dgs_nil))))) (dss_one (ds_if (dt_w (dw_or (dt_dnotin (hu65 hr) (de_var 7) (de_var 2)) (dw_or1 (dt_lt (de_dix (hu65 hr) (de_var 2) (de_var 7)) (de_add (de_dix (hu65 hr) (de_var 2) (de_var 5)) (de_var 9)))))) (dss_one (ds_asg (de_tup (da_cons (de_add (de_dix (hu65 hr) (de_var 2) (de_var 5)) (de_var 9)) (da_cons de_bl da_nil))) (dg_tup rfl (dgs_cons (dg_put (hu65 hr) (de_var 2) (de_var 7)) (dgs_cons (dg_name (i := 4) sc_law_highs.nd rfl) dgs_nil))))) dss_nil)))) dss_nil))) (dss_one (ds_if (dt_not (dt_tru (de_var 4))) (dss_one (ds_ret (de_var 2))) dss_nil))))) (dss_one (ds_ret de_non))))) (fun ds R hl h => rd_law_highs ds R hl h)
theorem ok_law_first_unseen (T : Txt K mg) : FnOk P w K mg base (L2.CX P w) 5 T.law_first_unseen.f T.law_first_unseen.fd ["plan"] (liftF K w 1 F_law_first_unseen) :=
  fn_P (t := t_law_first_unseen) T.law_first_unseen.F sc_law_first_unseen (fun cdv A outer s H E RE hr => (dss_cons (ds_set (i := 1) sc_law_first_unseen.nd rfl (de_call (ok_law_highs T) (hr.mono (by first | decide | (simp only [Nat.add_eq]; omega) | omega)) T.law_highs.g T.law_highs.F.kp T.law_highs.b (da_cons (de_var 0) da_nil))) (dss_cons (ds_if (dt_w (dw_and (dt_notN (de_var 1) de_non) (dw_and1 (dt_eq (hu65 hr) (de_lc (own := [("stand", 6)]) rfl sc_law_first_unseen.nd (di_dict (de_var 1)) (blkOk_by (N := N_law_first_unseen) (sc := defScope s_law_first_unseen) (by decide +kernel)) (fun _ _ _ _ _ => pg_name (i := 6) sc_law_first_unseen.nd rfl (Or.inl rfl)) (tgc1 (by decide)) (fun _ _ _ _ _ => dts_one (dt_w (dw_and (dt_eq (hu65 hr) (de_ix (de_var 6) de_int) de_int) (dw_and1 (dt_gt (de_dix (hu65 hr) (de_var 1) (de_var 6)) de_int))))) (fun _ _ _ _ _ => (de_var 6))) (de_lst da_nil))))) (dss_one (ds_ret de_non)) dss_nil) (dss_cons (ds_par (i := 2) (j := 3) rfl sc_law_first_unseen.nd rfl rfl (by decide) rfl rfl (da_cons (de_lst (da_cons (de_tup (da_cons (de_call0 (ok_law_begin T) (hr.mono (by first | decide | (simp only [Nat.add_eq]; omega) | omega)) T.law_begin.g T.law_begin.F.kp T.law_begin.b) (da_cons de_int (da_cons (de_tup da_nil) da_nil)))) da_nil)) (da_cons de_dicO da_nil)) (by rfl)) (dss_cons (ds_for (passes_of rfl) rfl (di_range1 T.n_range (da_cons de_int da_nil)) (dg_name (i := 4) sc_law_first_unseen.nd rfl) (dss_cons (ds_set (i := 5) sc_law_first_unseen.nd rfl (de_lstO da_nil)) (dss_cons (ds_for (passes_of rfl) rfl (di_list (de_var 2)) (dg_tup rfl (dgs_cons (dg_name (i := 6) sc_law_first_unseen.nd rfl) (dgs_cons (dg_name (i := 7) sc_law_first_unseen.nd rfl) (dgs_cons (dg_name (i := 8) sc_law_first_unseen.nd rfl) dgs_nil)))) (dss_one (ds_if (dt_dnotin (hu65 hr) (de_tup (da_cons (de_var 6) (da_cons (de_var 7) da_nil))) (de_var 3)) (dss_cons (ds_asg de_bl (dg_put (hu65 hr) (de_var 3) (de_tup (da_cons (de_var 6) (da_cons (de_var 7) da_nil))))) (dss_one (ds_for (passes_of rfl) rfl (di_list (de_call (ok_law_deeds T) (hr.mono (by first | decide | (simp only [Nat.add_eq]; omega) | omega)) T.law_deeds.g T.law_deeds.F.kp T.law_deeds.b (da_cons (de_var 0) (da_cons (de_var 6) da_nil)))) (dg_name (i := 9) sc_law_first_unseen.nd rfl) (dss_cons (ds_asg (de_call (ok_law_done T) (hr.mono (by first | decide | (simp only [Nat.add_eq]; omega) | omega)) T.law_done.g T.law_done.F.kp T.law_done.b (da_cons (de_var 0) (da_cons (de_var 6) (da_cons (de_var 9) da_nil)))) (dg_tup rfl (dgs_cons (dg_name (i := 10) sc_law_first_unseen.nd rfl) (dgs_cons (dg_name (i := 11) sc_law_first_unseen.nd rfl) (dgs_cons (dg_name (i := 12) sc_law_first_unseen.nd rfl) dgs_nil))))) (dss_cons (ds_if (dt_w (dw_and (dt_ne (hu65 hr) (de_var 11) de_str) (dw_and (dt_eq (hu65 hr) (de_ix (de_var 10) de_int) de_int) (dw_and1 (dt_gt (de_add (de_var 7) (de_var 12)) de_int))))) (dss_one (ds_ret (de_add (de_var 8) (de_tup (da_cons (de_var 9) da_nil))))) dss_nil) (dss_one (ds_if (dt_ne (hu65 hr) (de_var 11) de_str) (dss_one (ds_expr (de_append (de_var 5) (da_cons (de_tup (da_cons (de_var 10) (da_cons (de_add (de_var 7) (de_var 12)) (da_cons (de_add (de_var 8) (de_tup (da_cons (de_var 9) da_nil))) da_nil)))) da_nil)))) dss_nil))))))) dss_nil))) (dss_one (ds_set (i := 2) sc_law_first_unseen.nd rfl (de_frz (de_var 5))))))) (dss_one (ds_ret de_non))))))) (fun ds R hl h => rd_law_first_unseen ds R hl h)
theorem ok_law_harms (T : Txt K mg) : FnOk P w K mg base (L2.CX P w) 5 T.law_harms.f T.law_harms.fd ["plan"] (liftF K w 1 F_law_harms) :=
  fn_P (t := t_law_harms) T.law_harms.F sc_law_harms (fun cdv A outer s H E RE hr => (dss_cons (ds_set (i := 1) sc_law_harms.nd rfl (de_if (dt_notN (de_call (ok_law_first_stopped T) (hr.mono (by first | decide | (simp only [Nat.add_eq]; omega) | omega)) T.law_first_stopped.g T.law_first_stopped.F.kp T.law_first_stopped.b (da_cons (de_var 0) da_nil)) de_non) (de_lst (da_cons de_str da_nil)) (de_lst da_nil))) (dss_cons (ds_set (i := 2) sc_law_harms.nd rfl (de_call (ok_law_highs T) (hr.mono (by first | decide | (simp only [Nat.add_eq]; omega) | omega)) T.law_highs.g T.law_highs.F.kp T.law_highs.b (da_cons (de_var 0) da_nil))) (dss_cons (ds_if (dt_w (dw_or (dt_isN (de_var 2) de_non) (dw_or1 (dt_ne (hu65 hr) (de_lc (own := [("stand", 3)]) rfl sc_law_harms.nd (di_dict (de_var 2)) (blkOk_by (N := N_law_harms) (sc := defScope s_law_harms) (by decide +kernel)) (fun _ _ _ _ _ => pg_name (i := 3) sc_law_harms.nd rfl (Or.inl rfl)) (tgc1 (by decide)) (fun _ _ _ _ _ => dts_one (dt_w (dw_and (dt_eq (hu65 hr) (de_ix (de_var 3) de_int) de_int) (dw_and1 (dt_gt (de_dix (hu65 hr) (de_var 2) (de_var 3)) de_int))))) (fun _ _ _ _ _ => (de_var 3))) (de_lst da_nil))))) (dss_one (ds_set (i := 1) sc_law_harms.nd rfl (de_add (de_var 1) (de_lst (da_cons de_str da_nil))))) dss_nil) (dss_one (ds_ret (de_var 1))))))) (fun ds R hl h => rd_law_harms ds R hl h)
theorem ok_law_pick (T : Txt K mg) : FnOk P w K mg base (L2.CX P w) 1 T.law_pick.f T.law_pick.fd ["spring", "many"] (liftF K w 2 F_law_pick) :=
  fn_M (t := t_law_pick) T.law_pick.F sc_law_pick (fun cdv A outer s H E RE hr => (dss_cons (ds_if (dt_gt (de_ix (de_var 0) de_int) de_int) (dss_cons (ds_set (i := 2) sc_law_pick.nd rfl (de_mod (de_intC T.n_int (da_cons (de_ix (de_var 0) de_int) da_nil)) (de_var 1))) (dss_cons (ds_asg (de_div (de_ix (de_var 0) de_int) (de_var 1)) (dg_subL (de_var 0) de_int)) (dss_one (ds_ret (de_var 2))))) dss_nil) (dss_cons (ds_asg (de_mod (de_intC T.n_int (da_cons (de_add (de_mul (de_ix (de_var 0) de_int) de_int) de_int) da_nil)) de_int) (dg_subL (de_var 0) de_int)) (dss_one (ds_ret (de_mod (de_intC T.n_int (da_cons (de_div (de_ix (de_var 0) de_int) de_int) da_nil)) (de_var 1))))))) (fun d o r R hl h => rd_law_pick d o r R h)
theorem ok_law_program (T : Txt K mg) : FnOk P w K mg base (L2.CX P w) 2 T.law_program.f T.law_program.fd ["spring"] (liftF K w 1 F_law_program) :=
  fn_M (t := t_law_program) T.law_program.F sc_law_program (fun cdv A outer s H E RE hr => (dss_one (ds_ret (de_tup (da_cons (de_callM (ok_law_pick T) (hr.mono (by first | decide | (simp only [Nat.add_eq]; omega) | omega)) T.law_pick.g T.law_pick.F.kp T.law_pick.b (da_cons (de_var 0) (da_cons de_int da_nil))) (da_cons (de_add de_int (de_callM (ok_law_pick T) (hr.mono (by first | decide | (simp only [Nat.add_eq]; omega) | omega)) T.law_pick.g T.law_pick.F.kp T.law_pick.b (da_cons (de_var 0) (da_cons de_int da_nil)))) (da_cons (de_ix (de_lst (da_cons de_str (da_cons de_str da_nil))) (de_callM (ok_law_pick T) (hr.mono (by first | decide | (simp only [Nat.add_eq]; omega) | omega)) T.law_pick.g T.law_pick.F.kp T.law_pick.b (da_cons (de_var 0) (da_cons de_int da_nil)))) da_nil))))))) (fun d o r R hl h => rd_law_program d o r R h)
theorem ok_law_plan (T : Txt K mg) : FnOk P w K mg base (L2.CX P w) 3 T.law_plan.f T.law_plan.fd ["spring"] (liftF K w 1 F_law_plan) :=
  fn_M (t := t_law_plan) T.law_plan.F sc_law_plan (fun cdv A outer s H E RE hr => (dss_cons (ds_set (i := 1) sc_law_plan.nd rfl (de_tup (da_cons (de_add de_int (de_callM (ok_law_pick T) (hr.mono (by first | decide | (simp only [Nat.add_eq]; omega) | omega)) T.law_pick.g T.law_pick.F.kp T.law_pick.b (da_cons (de_var 0) (da_cons de_int da_nil)))) (da_cons (de_ix (de_lst (da_cons de_int (da_cons de_int (da_cons de_int (da_cons de_int da_nil))))) (de_callM (ok_law_pick T) (hr.mono (by first | decide | (simp only [Nat.add_eq]; omega) | omega)) T.law_pick.g T.law_pick.F.kp T.law_pick.b (da_cons (de_var 0) (da_cons de_int da_nil)))) (da_cons (de_eq (hu65 hr) (de_callM (ok_law_pick T) (hr.mono (by first | decide | (simp only [Nat.add_eq]; omega) | omega)) T.law_pick.g T.law_pick.F.kp T.law_pick.b (da_cons (de_var 0) (da_cons de_int da_nil))) de_int) da_nil))))) (dss_one (ds_ret (de_tup (da_cons (de_callM (ok_law_program T) (hr.mono (by first | decide | (simp only [Nat.add_eq]; omega) | omega)) T.law_program.g T.law_program.F.kp T.law_program.b (da_cons (de_var 0) da_nil)) (da_cons (de_var 1) da_nil))))))) (fun d o r R hl h => rd_law_plan d o r R h)
theorem ok_law_small (T : Txt K mg) : FnOk P w K mg base (L2.CX P w) 4 T.law_small.f T.law_small.fd ["spring"] (liftF K w 1 F_law_small) :=
  fn_M (t := t_law_small) T.law_small.F sc_law_small (fun cdv A outer s H E RE hr => (dss_cons (ds_asg (de_callM (ok_law_plan T) (hr.mono (by first | decide | (simp only [Nat.add_eq]; omega) | omega)) T.law_plan.g T.law_plan.F.kp T.law_plan.b (da_cons (de_var 0) da_nil)) (dg_tup rfl (dgs_cons (dg_tup rfl (dgs_cons (dg_name (i := 1) sc_law_small.nd rfl) (dgs_cons (dg_name (i := 2) sc_law_small.nd rfl) (dgs_cons (dg_name (i := 3) sc_law_small.nd rfl) dgs_nil)))) (dgs_cons (dg_tup rfl (dgs_cons (dg_name (i := 4) sc_law_small.nd rfl) (dgs_cons (dg_name (i := 5) sc_law_small.nd rfl) (dgs_cons (dg_name (i := 6) sc_law_small.nd rfl) dgs_nil)))) dgs_nil)))) (dss_one (ds_ret (de_tup (da_cons (de_tup (da_cons (de_min2 rfl T.n_min (da_cons de_int (da_cons (de_var 1) da_nil))) (da_cons (de_min2 rfl T.n_min (da_cons de_int (da_cons (de_var 2) da_nil))) (da_cons (de_var 3) da_nil)))) (da_cons (de_tup (da_cons (de_min2 rfl T.n_min (da_cons de_int (da_cons (de_var 4) da_nil))) (da_cons (de_min2 rfl T.n_min (da_cons de_int (da_cons (de_var 5) da_nil))) (da_cons (de_var 6) da_nil)))) da_nil))))))) (fun d o r R hl h => rd_law_small d o r R h)
theorem ok_law_spring (T : Txt K mg) : FnOk P w K mg base (L2.CX P w) 1 T.law_spring.f T.law_spring.fd ["script", "at"] (liftN K w 2 F_law_spring) :=
  fn_N (t := t_law_spring) T.law_spring.F sc_law_spring (fun cdv A outer s H E RE hr => (dss_cons (ds_set (i := 2) sc_law_spring.nd rfl de_int) (dss_cons (ds_if (dt_lt (de_var 1) (de_len T.n_len (da_cons (de_var 0) da_nil))) (dss_one (ds_set (i := 2) sc_law_spring.nd rfl (de_abs T.n_abs (da_cons (de_ix (de_var 0) (de_var 1)) da_nil)))) dss_nil) (dss_cons (ds_set (i := 3) sc_law_spring.nd rfl (de_mod (de_intC T.n_int (da_cons (de_add (de_add (de_mul (de_var 2) de_int) (de_mul de_int (de_var 1))) de_int) da_nil)) de_int)) (dss_one (ds_ret (de_lstO (da_cons (de_if (dt_ge (de_var 2) (de_pow de_int de_int)) (de_var 2) de_int) (da_cons (de_var 3) da_nil))))))))) (fun ds R hl h => rd_law_spring ds R h)
theorem ok_law_kind (T : Txt K mg) : FnOk P w K mg base (L2.CX P w) 1 T.law_kind.f T.law_kind.fd ["value"] (liftF K w 1 F_law_kind) :=
  fn_P (t := t_law_kind) T.law_kind.F sc_law_kind (fun cdv A outer s H E RE hr => (dss_cons (ds_if (dt_w (dw_or (dt_isN (de_var 0) de_non) (dw_or1 (dt_tru (de_isi T.n_isinstance (da_cons (de_var 0) (da_cons (de_type (by rfl) T.n_bool boot_bool) da_nil))))))) (dss_one (ds_ret (de_if (dt_isN (de_var 0) de_non) de_int de_int))) dss_nil) (dss_cons (ds_if (dt_tru (de_isi2 T.n_isinstance (da_cons (de_var 0) (da_cons (de_tup (da_cons (de_type (by rfl) T.n_list boot_list) (da_cons (de_type (by rfl) T.n_tuple boot_tuple) da_nil))) da_nil)))) (dss_one (ds_ret (de_if (dt_tru (de_isi T.n_isinstance (da_cons (de_var 0) (da_cons (de_type (by rfl) T.n_list boot_list) da_nil)))) de_int de_int))) dss_nil) (dss_one (ds_ret (de_if (dt_tru (de_isi T.n_isinstance (da_cons (de_var 0) (da_cons (de_type (by rfl) T.n_int boot_int) da_nil)))) de_int (de_if (dt_tru (de_isi T.n_isinstance (da_cons (de_var 0) (da_cons (de_type (by rfl) T.n_str boot_str) da_nil)))) de_int de_int))))))) (fun ds R hl h => rd_law_kind ds R h)
theorem ok_law_twins (T : Txt K mg) : ∀ m : Nat, FnOk P w K mg base (L2.CX P w) (1 + m) T.law_twins.f T.law_twins.fd ["one", "other"] (liftF K w 2 (F_law_twins m))
  | 0 => FnOk.no
  | m + 1 => fn_P (k := 1 + m) (P1 := P_law_twins m) (t := t_law_twins m) T.law_twins.F sc_law_twins (fun cdv A outer s H E RE hr => (dss_cons (ds_if (dt_ne (hu65 hr) (de_call (ok_law_kind T) (hr.mono (by first | decide | (simp only [Nat.add_eq]; omega) | omega)) T.law_kind.g T.law_kind.F.kp T.law_kind.b (da_cons (de_var 0) da_nil)) (de_call (ok_law_kind T) (hr.mono (by first | decide | (simp only [Nat.add_eq]; omega) | omega)) T.law_kind.g T.law_kind.F.kp T.law_kind.b (da_cons (de_var 1) da_nil))) (dss_one (ds_ret de_bl)) dss_nil) (dss_cons (ds_if (dt_in (hu65 hr) (de_call (ok_law_kind T) (hr.mono (by first | decide | (simp only [Nat.add_eq]; omega) | omega)) T.law_kind.g T.law_kind.F.kp T.law_kind.b (da_cons (de_var 0) da_nil)) (de_lst (da_cons de_int (da_cons de_int da_nil)))) (dss_one (ds_ret (de_and (de_eq (hu65 hr) (de_len T.n_len (da_cons (de_var 0) da_nil)) (de_len T.n_len (da_cons (de_var 1) da_nil))) (de_and1 (de_eq (hu65 hr) (de_lc (own := [("a", 2), ("b", 3)]) rfl sc_law_twins.nd (di_zip T.n_zip (da_cons (de_var 0) (da_cons (de_var 1) da_nil))) (blkOk_by (N := N_law_twins) (sc := defScope s_law_twins) (by decide +kernel)) (fun _ _ _ _ _ => pg_tup rfl (pgs_cons (pg_name (i := 2) sc_law_twins.nd rfl (Or.inl rfl)) (pgs_cons (pg_name (i := 3) sc_law_twins.nd rfl (Or.inl rfl)) pgs_nil))) (tgcN (is := [2, 3]) rfl (by decide)) (fun _ _ _ _ _ => dts_one (dt_not (dt_tru (de_call (ok_law_twins T m) (hr.mono (by first | decide | (simp only [Nat.add_eq]; omega) | omega)) T.law_twins.g T.law_twins.F.kp T.law_twins.b (da_cons (de_var 2) (da_cons (de_var 3) da_nil)))))) (fun _ _ _ _ _ => de_int)) (de_lst da_nil)))))) dss_nil) (dss_one (ds_ret (de_eq (hu65 hr) (de_var 0) (de_var 1))))))) (fun ds R hl h => rd_law_twins m ds R h)
theorem ok_is_row (T : Txt K mg) : FnOk P w K mg base (L2.CX P w) 1 T.is_row.f T.is_row.fd ["value", "many"] (liftF K w 2 F_is_row) :=
  fn_P (t := t_is_row) T.is_row.F sc_is_row (fun cdv A outer s H E RE hr => (dss_one (ds_ret (de_and (de_isi T.n_isinstance (da_cons (de_var 0) (da_cons (de_type (by rfl) T.n_tuple boot_tuple) da_nil))) (de_and1 (de_eq (hu65 hr) (de_len T.n_len (da_cons (de_var 0) da_nil)) (de_var 1))))))) (fun ds R hl h => rd_is_row ds R h)
theorem ok_is_within (T : Txt K mg) : FnOk P w K mg base (L2.CX P w) 1 T.is_within.f T.is_within.fd ["value", "low", "high"] (liftF K w 3 F_is_within) :=
  fn_P (t := t_is_within) T.is_within.F sc_is_within (fun cdv A outer s H E RE hr => (dss_one (ds_ret (de_and (de_isi T.n_isinstance (da_cons (de_var 0) (da_cons (de_type (by rfl) T.n_int boot_int) da_nil))) (de_and (de_not (de_isi T.n_isinstance (da_cons (de_var 0) (da_cons (de_type (by rfl) T.n_bool boot_bool) da_nil)))) (de_and1 (de_lele (de_var 1) (de_var 0) (de_var 2)))))))) (fun ds R hl h => rd_is_within ds R h)
theorem ok_is_program (T : Txt K mg) : FnOk P w K mg base (L2.CX P w) 2 T.is_program.f T.is_program.fd ["value"] (liftF K w 1 F_is_program) :=
  fn_P (t := t_is_program) T.is_program.F sc_is_program (fun cdv A outer s H E RE hr => (dss_cons (ds_if (dt_w (dw_or (dt_not (dt_tru (de_call (ok_is_row T) (hr.mono (by first | decide | (simp only [Nat.add_eq]; omega) | omega)) T.is_row.g T.is_row.F.kp T.is_row.b (da_cons (de_var 0) (da_cons de_int da_nil))))) (dw_or (dt_not (dt_tru (de_call (ok_is_within T) (hr.mono (by first | decide | (simp only [Nat.add_eq]; omega) | omega)) T.is_within.g T.is_within.F.kp T.is_within.b (da_cons (de_ix (de_var 0) de_int) (da_cons de_int (da_cons de_int da_nil)))))) (dw_or1 (dt_not (dt_tru (de_call (ok_is_within T) (hr.mono (by first | decide | (simp only [Nat.add_eq]; omega) | omega)) T.is_within.g T.is_within.F.kp T.is_within.b (da_cons (de_ix (de_var 0) de_int) (da_cons de_int (da_cons de_int da_nil)))))))))) (dss_one (ds_ret de_bl)) dss_nil) (dss_one (ds_ret (de_and (de_isi T.n_isinstance (da_cons (de_ix (de_var 0) de_int) (da_cons (de_type (by rfl) T.n_str boot_str) da_nil))) (de_and1 (de_in (hu65 hr) (de_ix (de_var 0) de_int) (de_cst T.g_WAYS)))))))) (fun ds R hl h => rd_is_program ds R h)
theorem ok_is_plan (T : Txt K mg) : FnOk P w K mg base (L2.CX P w) 3 T.is_plan.f T.is_plan.fd ["value"] (liftF K w 1 F_is_plan) :=
  fn_P (t := t_is_plan) T.is_plan.F sc_is_plan (fun cdv A outer s H E RE hr => (dss_cons (ds_if (dt_w (dw_or (dt_not (dt_tru (de_call (ok_is_row T) (hr.mono (by first | decide | (simp only [Nat.add_eq]; omega) | omega)) T.is_row.g T.is_row.F.kp T.is_row.b (da_cons (de_var 0) (da_cons de_int da_nil))))) (dw_or (dt_not (dt_tru (de_call (ok_is_program T) (hr.mono (by first | decide | (simp only [Nat.add_eq]; omega) | omega)) T.is_program.g T.is_program.F.kp T.is_program.b (da_cons (de_ix (de_var 0) de_int) da_nil)))) (dw_or1 (dt_not (dt_tru (de_call (ok_is_row T) (hr.mono (by first | decide | (simp only [Nat.add_eq]; omega) | omega)) T.is_row.g T.is_row.F.kp T.is_row.b (da_cons (de_ix (de_var 0) de_int) (da_cons de_int da_nil))))))))) (dss_one (ds_ret de_bl)) dss_nil) (dss_cons (ds_asg (de_ix (de_var 0) de_int) (dg_tup rfl (dgs_cons (dg_name (i := 1) sc_is_plan.nd rfl) (dgs_cons (dg_name (i := 2) sc_is_plan.nd rfl) (dgs_cons (dg_name (i := 3) sc_is_plan.nd rfl) dgs_nil))))) (dss_one (ds_ret (de_and (de_call (ok_is_within T) (hr.mono (by first | decide | (simp only [Nat.add_eq]; omega) | omega)) T.is_within.g T.is_within.F.kp T.is_within.b (da_cons (de_var 1) (da_cons de_int (da_cons de_int da_nil)))) (de_and (de_call (ok_is_within T) (hr.mono (by first | decide | (simp only [Nat.add_eq]; omega) | omega)) T.is_within.g T.is_within.F.kp T.is_within.b (da_cons (de_var 2) (da_cons de_int (da_cons de_int da_nil)))) (de_and1 (de_isi T.n_isinstance (da_cons (de_var 3) (da_cons (de_type (by rfl) T.n_bool boot_bool) da_nil))))))))))) (fun ds R hl h => rd_is_plan ds R h)
theorem ok_look_at_plan (T : Txt K mg) : FnOk P w K mg base (L2.CX P w) 4 T.look_at_plan.f T.look_at_plan.fd ["plan"] (liftF K w 1 F_look_at_plan) :=
  fn_P (t := t_look_at_plan) T.look_at_plan.F sc_look_at_plan (fun cdv A outer s H E RE hr => (dss_one (ds_if (dt_not (dt_tru (de_call (ok_is_plan T) (hr.mono (by first | decide | (simp only [Nat.add_eq]; omega) | omega)) T.is_plan.g T.is_plan.F.kp T.is_plan.b (da_cons (de_var 0) da_nil)))) (dss_one ds_never) dss_nil))) (fun ds R hl h => rd_look_at_plan ds R h)
theorem ok_deeds_of (T : Txt K mg) : FnOk P w K mg base (L2.CX P w) 1 T.deeds_of.f T.deeds_of.fd ["plan", "stand"] (liftF K w 2 F_deeds_of) :=
  fn_P (t := t_deeds_of) T.deeds_of.F sc_deeds_of (fun cdv A outer s H E RE hr => (dss_cons (ds_asg (de_var 1) (dg_tup rfl (dgs_cons (dg_name (i := 2) sc_deeds_of.nd rfl) (dgs_cons (dg_name (i := 3) sc_deeds_of.nd rfl) (dgs_cons (dg_name (i := 4) sc_deeds_of.nd rfl) (dgs_cons (dg_name (i := 5) sc_deeds_of.nd rfl) (dgs_cons (dg_name (i := 6) sc_deeds_of.nd rfl) (dgs_cons (dg_name (i := 7) sc_deeds_of.nd rfl) dgs_nil)))))))) (dss_cons (ds_asg (de_ix (de_var 0) de_int) (dg_tup rfl (dgs_cons (dg_name (i := 8) sc_deeds_of.nd rfl) (dgs_cons (dg_name (i := 9) sc_deeds_of.nd rfl) (dgs_cons (dg_name (i := 10) sc_deeds_of.nd rfl) dgs_nil))))) (dss_cons (ds_if (dt_tru (de_var 7)) (dss_one (ds_ret (de_lst (da_cons (de_tup (da_cons de_str da_nil)) da_nil)))) dss_nil) (dss_cons (ds_setLc (i := 11) (own := [("weight", 12)]) rfl sc_deeds_of.nd rfl rfl (sw_true rfl rfl rfl (by decide +kernel)) (di_range2 T.n_range (da_cons de_int (da_cons (de_add (de_var 8) de_int) da_nil))) (blkOk_by (N := N_deeds_of) (sc := defScope s_deeds_of) (by decide +kernel)) (fun _ _ _ _ _ => pg_name (i := 12) sc_deeds_of.nd rfl (Or.inl rfl)) (tgc1 (by decide)) (fun _ _ _ _ _ => dts_nil) (fun _ _ _ _ _ => (de_tup (da_cons de_str (da_cons (de_var 12) da_nil))))) (dss_cons (ds_if (dt_gt (de_var 5) de_int) (dss_one (ds_set (i := 11) sc_deeds_of.nd rfl (de_add (de_var 11) (de_lc (own := [("more", 13)]) rfl sc_deeds_of.nd (di_range2 T.n_range (da_cons (de_neg (de_var 9)) (da_cons (de_add (de_var 9) de_int) da_nil))) (blkOk_by (N := N_deeds_of) (sc := defScope s_deeds_of) (by decide +kernel)) (fun _ _ _ _ _ => pg_name (i := 13) sc_deeds_of.nd rfl (Or.inl rfl)) (tgc1 (by decide)) (fun _ _ _ _ _ => dts_one (dt_gt (de_add (de_var 5) (de_var 13)) de_int)) (fun _ _ _ _ _ => (de_tup (da_cons de_str (da_cons (de_var 13) da_nil)))))))) dss_nil) (dss_cons (ds_if (dt_tru (de_var 10)) (dss_one (ds_set (i := 11) sc_deeds_of.nd rfl (de_add (de_var 11) (de_lst (da_cons (de_if (dt_tru (de_var 6)) (de_tup (da_cons de_str da_nil)) (de_tup (da_cons de_str da_nil))) da_nil))))) dss_nil) (dss_cons (ds_if (dt_eq (hu65 hr) (de_var 3) de_int) (dss_one (ds_set (i := 11) sc_deeds_of.nd rfl (de_add (de_var 11) (de_lc (own := [("weight", 12)]) rfl sc_deeds_of.nd (di_range2 T.n_range (da_cons de_int (da_cons (de_add (de_var 8) de_int) da_nil))) (blkOk_by (N := N_deeds_of) (sc := defScope s_deeds_of) (by decide +kernel)) (fun _ _ _ _ _ => pg_name (i := 12) sc_deeds_of.nd rfl (Or.inl rfl)) (tgc1 (by decide)) (fun _ _ _ _ _ => dts_nil) (fun _ _ _ _ _ => (de_tup (da_cons de_str (da_cons (de_var 12) da_nil)))))))) dss_nil) (dss_one (ds_ret (de_add (de_var 11) (de_lst (da_cons (de_tup (da_cons de_str da_nil)) da_nil))))))))))))) (fun ds R hl h => rd_deeds_of ds R h)
theorem ok_growth (T : Txt K mg) : FnOk P w K mg base (L2.CX P w) 1 T.growth.f T.growth.fd ["stand", "deed"] (liftF K w 2 F_growth) :=
  fn_P (t := t_growth) T.growth.F sc_growth (fun cdv A outer s H E RE hr => (dss_cons (ds_if (dt_eq (hu65 hr) (de_ix (de_var 1) de_int) de_str) (dss_one (ds_ret (de_ix (de_var 1) de_int))) dss_nil) (dss_cons (ds_if (dt_eq (hu65 hr) (de_ix (de_var 1) de_int) de_str) (dss_one (ds_ret (de_add (de_ix (de_var 0) de_int) (de_ix (de_var 1) de_int)))) dss_nil) (dss_one (ds_ret (de_dgt2 (hu65 hr) (by decide) pe_int pe_neg (de_ix (de_var 1) de_int) de_int)))))) (fun ds R hl h => rd_growth ds R h)
theorem ok_passed (T : Txt K mg) : FnOk P w K mg base (L2.CX P w) 2 T.passed.f T.passed.fd ["plan", "stand", "deed"] (liftF K w 3 F_passed) :=
  fn_P (t := t_passed) T.passed.F sc_passed (fun cdv A outer s H E RE hr => (dss_cons (ds_asg (de_ix (de_var 0) de_int) (dg_tup rfl (dgs_cons (dg_name (i := 3) sc_passed.nd rfl) (dgs_cons (dg_name (i := 4) sc_passed.nd rfl) (dgs_cons (dg_name (i := 5) sc_passed.nd rfl) dgs_nil))))) (dss_cons (ds_asg (de_var 1) (dg_tup rfl (dgs_cons (dg_name (i := 6) sc_passed.nd rfl) (dgs_cons (dg_name (i := 7) sc_passed.nd rfl) (dgs_cons (dg_name (i := 8) sc_passed.nd rfl) (dgs_cons (dg_name (i := 9) sc_passed.nd rfl) (dgs_cons (dg_name (i := 10) sc_passed.nd rfl) (dgs_cons (dg_name (i := 11) sc_passed.nd rfl) dgs_nil)))))))) (dss_cons (ds_if (dt_eq (hu65 hr) (de_ix (de_var 2) de_int) de_str) (dss_one (ds_ret (de_tup (da_cons (de_cst T.g_BEGIN) (da_cons de_str (da_cons de_int da_nil)))))) dss_nil) (dss_cons (ds_if (dt_eq (hu65 hr) (de_ix (de_var 2) de_int) de_str) (dss_one (ds_ret (de_tup (da_cons (de_tup (da_cons (de_var 6) (da_cons (de_ix (de_var 2) de_int) (da_cons (de_var 4) (da_cons (de_ix (de_var 2) de_int) (da_cons (de_var 10) (da_cons de_bl da_nil))))))) (da_cons de_str (da_cons de_int da_nil)))))) dss_nil) (dss_cons (ds_set (i := 6) sc_passed.nd rfl (de_add (de_var 6) (de_call (ok_growth T) (hr.mono (by first | decide | (simp only [Nat.add_eq]; omega) | omega)) T.growth.g T.growth.F.kp T.growth.b (da_cons (de_var 1) (da_cons (de_var 2) da_nil))))) (dss_cons (ds_set (i := 9) sc_passed.nd rfl (de_if (dt_eq (hu65 hr) (de_ix (de_var 2) de_int) de_str) de_int (de_var 9))) (dss_cons (ds_if (dt_in (hu65 hr) (de_ix (de_var 2) de_int) (de_tup (da_cons de_str (da_cons de_str da_nil)))) (dss_one (ds_set (i := 10) sc_passed.nd rfl (de_not (de_var 10)))) dss_nil) (dss_cons (ds_set (i := 12) sc_passed.nd rfl (de_if (dt_eq (hu65 hr) (de_ix (de_var 2) de_int) de_str) (de_ix (de_var 2) de_int) de_int)) (dss_cons (ds_if (dt_w (dw_and (dt_gt (de_var 7) de_int) (dw_and (dt_in (hu65 hr) (de_ix (de_var 2) de_int) (de_cst T.g_GROWING)) (dw_and1 (dt_lele (de_sub (de_var 7) (de_var 3)) (de_var 6) (de_add (de_var 7) (de_var 3))))))) (dss_cons (ds_set (i := 6) sc_passed.nd rfl (de_if (dt_eq (hu65 hr) (de_var 5) de_str) de_int (de_sub (de_var 6) (de_var 7)))) (dss_one (ds_ret (de_tup (da_cons (de_tup (da_cons (de_var 6) (da_cons de_int (da_cons de_int (da_cons de_int (da_cons (de_var 10) (da_cons de_bl da_nil))))))) (da_cons de_str (da_cons (de_sub (de_var 12) (de_var 9)) da_nil))))))) dss_nil) (dss_cons (ds_if (dt_w (dw_and (dt_gt (de_var 7) de_int) (dw_and1 (dt_gt (de_var 8) de_int)))) (dss_one (ds_ret (de_tup (da_cons (de_tup (da_cons (de_var 6) (da_cons (de_var 7) (da_cons (de_sub (de_var 8) de_int) (da_cons (de_var 9) (da_cons (de_var 10) (da_cons de_bl da_nil))))))) (da_cons de_str (da_cons (de_var 12) da_nil)))))) dss_nil) (dss_cons (ds_if (dt_w (dw_or (dt_gt (de_var 7) de_int) (dw_or1 (dt_not (dt_lele (de_neg (de_var 3)) (de_var 6) (de_var 3)))))) (dss_one (ds_ret (de_tup (da_cons (de_cst T.g_LOCKED) (da_cons de_str (da_cons (de_var 12) da_nil)))))) dss_nil) (dss_one (ds_ret (de_tup (da_cons (de_tup (da_cons (de_var 6) (da_cons de_int (da_cons de_int (da_cons de_int (da_cons (de_var 10) (da_cons de_bl da_nil))))))) (da_cons de_str (da_cons (de_var 12) da_nil)))))))))))))))))) (fun ds R hl h => rd_passed ds R h)
theorem ok_net_of (T : Txt K mg) : FnOk P w K mg base (L2.CX P w) 3 T.net_of.f T.net_of.fd ["plan"] (liftF K w 1 F_net_of) :=
  fn_P (t := t_net_of) T.net_of.F sc_net_of (fun cdv A outer s H E RE hr => (dss_cons (ds_par3 (i := 1) (j := 2) (l := 3) rfl sc_net_of.nd rfl rfl rfl (by decide) (by decide) (by decide) rfl rfl rfl (da_cons (de_dic1O (hu65 hr) (de_cst T.g_BEGIN) (de_tup (da_cons (de_tup da_nil) (da_cons (de_lstO da_nil) da_nil)))) (da_cons (de_lstO (da_cons (de_cst T.g_BEGIN) da_nil)) (da_cons de_int da_nil))) (by rfl)) (dss_cons (ds_while (passes_of rfl) (dt_lt (de_var 3) (de_len T.n_len (da_cons (de_var 2) da_nil))) (dss_cons (ds_set (i := 4) sc_net_of.nd rfl (de_ix (de_var 2) (de_var 3))) (dss_cons (ds_set (i := 3) sc_net_of.nd rfl (de_add (de_var 3) de_int)) (dss_cons (ds_asg (de_dix (hu65 hr) (de_var 1) (de_var 4)) (dg_tup rfl (dgs_cons (dg_name (i := 5) sc_net_of.nd rfl) (dgs_cons (dg_name (i := 6) sc_net_of.nd rfl) dgs_nil)))) (dss_one (ds_for (passes_of rfl) rfl (di_list (de_call (ok_deeds_of T) (hr.mono (by first | decide | (simp only [Nat.add_eq]; omega) | omega)) T.deeds_of.g T.deeds_of.F.kp T.deeds_of.b (da_cons (de_var 0) (da_cons (de_var 4) da_nil)))) (dg_name (i := 7) sc_net_of.nd rfl) (dss_cons (ds_asg (de_call (ok_passed T) (hr.mono (by first | decide | (simp only [Nat.add_eq]; omega) | omega)) T.passed.g T.passed.F.kp T.passed.b (da_cons (de_var 0) (da_cons (de_var 4) (da_cons (de_var 7) da_nil)))) (dg_tup rfl (dgs_cons (dg_name (i := 8) sc_net_of.nd rfl) (dgs_cons (dg_name (i := 9) sc_net_of.nd rfl) (dgs_cons (dg_name (i := 10) sc_net_of.nd rfl) dgs_nil))))) (dss_cons (ds_expr (de_append (de_var 6) (da_cons (de_tup (da_cons (de_var 7) (da_cons (de_var 8) (da_cons (de_var 9) (da_cons (de_var 10) da_nil))))) da_nil))) (dss_one (ds_if (dt_dnotin (hu65 hr) (de_var 8) (de_var 1)) (dss_cons (ds_asg (de_tup (da_cons (de_add (de_var 5) (de_tup (da_cons (de_var 7) da_nil))) (da_cons (de_lstO da_nil) da_nil))) (dg_put (hu65 hr) (de_var 1) (de_var 8))) (dss_one (ds_expr (de_append (de_var 2) (da_cons (de_var 8) da_nil))))) dss_nil)))))))))) (dss_one (ds_ret (de_var 1)))))) (fun ds R hl h => rd_net_of ds R hl h)
theorem ok_count_stands (T : Txt K mg) : FnOk P w K mg base (L2.CX P w) 5 T.count_stands.f T.count_stands.fd ["plan"] (liftF K w 1 F_count_stands) :=
  fn_P (t := t_count_stands) T.count_stands.F sc_count_stands (fun cdv A outer s H E RE hr => (dss_cons (ds_expr (de_call (ok_look_at_plan T) (hr.mono (by first | decide | (simp only [Nat.add_eq]; omega) | omega)) T.look_at_plan.g T.look_at_plan.F.kp T.look_at_plan.b (da_cons (de_var 0) da_nil))) (dss_one (ds_ret (de_lenK T.n_len (da_cons (de_call (ok_net_of T) (hr.mono (by first | decide | (simp only [Nat.add_eq]; omega) | omega)) T.net_of.g T.net_of.F.kp T.net_of.b (da_cons (de_var 0) da_nil)) da_nil)))))) (fun ds R hl h => rd_count_stands ds R h)
theorem ok_look_at_harm (T : Txt K mg) : FnOk P w K mg base (L2.CX P w) 1 T.look_at_harm.f T.look_at_harm.fd ["harm"] (liftF K w 1 F_look_at_harm) :=
  fn_P (t := t_look_at_harm) T.look_at_harm.F sc_look_at_harm (fun cdv A outer s H E RE hr => (dss_one (ds_if (dt_w (dw_or (dt_not (dt_tru (de_isi T.n_isinstance (da_cons (de_var 0) (da_cons (de_type (by rfl) T.n_str boot_str) da_nil))))) (dw_or1 (dt_notIn (hu65 hr) (de_var 0) (de_cst T.g_HARMS))))) (dss_one ds_never) dss_nil))) (fun ds R hl h => rd_look_at_harm ds R h)
theorem ok_stopped_by (T : Txt K mg) : FnOk P w K mg base (L2.CX P w) 3 T.stopped_by.f T.stopped_by.fd ["plan"] (liftF K w 1 F_stopped_by) :=
  fn_P (t := t_stopped_by) T.stopped_by.F sc_stopped_by (fun cdv A outer s H E RE hr => (dss_cons (ds_set (i := 1) sc_stopped_by.nd rfl (de_tup (da_cons (de_cst T.g_BEGIN) (da_cons de_bl da_nil)))) (dss_cons (ds_par3 (i := 2) (j := 3) (l := 4) rfl sc_stopped_by.nd rfl rfl rfl (by decide) (by decide) (by decide) rfl rfl rfl (da_cons (de_dic1O (hu65 hr) (de_var 1) (de_tup da_nil)) (da_cons (de_lstO (da_cons (de_var 1) da_nil)) (da_cons de_int da_nil))) (by rfl)) (dss_cons (ds_while (passes_of rfl) (dt_lt (de_var 4) (de_len T.n_len (da_cons (de_var 3) da_nil))) (dss_cons (ds_asg (de_ix (de_var 3) (de_var 4)) (dg_tup rfl (dgs_cons (dg_name (i := 5) sc_stopped_by.nd rfl) (dgs_cons (dg_name (i := 6) sc_stopped_by.nd rfl) dgs_nil)))) (dss_cons (ds_set (i := 7) sc_stopped_by.nd rfl (de_dix (hu65 hr) (de_var 2) (de_ix (de_var 3) (de_var 4)))) (dss_cons (ds_set (i := 4) sc_stopped_by.nd rfl (de_add (de_var 4) de_int)) (dss_one (ds_for (passes_of rfl) rfl (di_list (de_call (ok_deeds_of T) (hr.mono (by first | decide | (simp only [Nat.add_eq]; omega) | omega)) T.deeds_of.g T.deeds_of.F.kp T.deeds_of.b (da_cons (de_var 0) (da_cons (de_var 5) da_nil)))) (dg_name (i := 8) sc_stopped_by.nd rfl) (dss_one (ds_if (dt_w (dw_and (dt_ne (hu65 hr) (de_ix (de_var 8) de_int) de_str) (dw_and1 (dt_w (dw_or (dt_not (dt_tru (de_var 6))) (dw_or1 (dt_eq (hu65 hr) (de_ix (de_var 8) de_int) de_str))))))) (dss_cons (ds_asg (de_call (ok_passed T) (hr.mono (by first | decide | (simp only [Nat.add_eq]; omega) | omega)) T.passed.g T.passed.F.kp T.passed.b (da_cons (de_var 0) (da_cons (de_var 5) (da_cons (de_var 8) da_nil)))) (dg_tup rfl (dgs_cons (dg_name (i := 9) sc_stopped_by.nd rfl) (dgs_cons (dg_name (i := 10) sc_stopped_by.nd rfl) (dgs_cons (dg_name (i := 11) sc_stopped_by.nd rfl) dgs_nil))))) (dss_cons (ds_if (dt_eq (hu65 hr) (de_var 10) de_str) (dss_one (ds_ret (de_add (de_var 7) (de_tup (da_cons (de_var 8) da_nil))))) dss_nil) (dss_cons (ds_set (i := 12) sc_stopped_by.nd rfl (de_tup (da_cons (de_var 9) (da_cons (de_eq (hu65 hr) (de_ix (de_var 8) de_int) de_str) da_nil)))) (dss_one (ds_if (dt_dnotin (hu65 hr) (de_var 12) (de_var 2)) (dss_cons (ds_asg (de_add (de_var 7) (de_tup (da_cons (de_var 8) da_nil))) (dg_put (hu65 hr) (de_var 2) (de_var 12))) (dss_one (ds_expr (de_append (de_var 3) (da_cons (de_var 12) da_nil))))) dss_nil))))) dss_nil)))))))) (dss_one (ds_ret de_non)))))) (fun ds R hl h => rd_stopped_by ds R hl h)
theorem ok_calm_rows (T : Txt K mg) : FnOk P w K mg base (L2.CX P w) 1 T.calm_rows.f T.calm_rows.fd ["net", "gain", "cost"] (liftF K w 3 F_calm_rows) :=
  fn_P (t := t_calm_rows) T.calm_rows.F sc_calm_rows (fun cdv A outer s H E RE hr => (dss_cons (ds_set (i := 3) sc_calm_rows.nd rfl de_dicO) (dss_cons (ds_for (passes_of rfl) rfl (di_items (de_var 0)) (dg_tup rfl (dgs_cons (dg_name (i := 4) sc_calm_rows.nd rfl) (dgs_cons (dg_tup rfl (dgs_cons (dg_name (i := 5) sc_calm_rows.nd rfl) (dgs_cons (dg_name (i := 6) sc_calm_rows.nd rfl) dgs_nil))) dgs_nil))) (dss_cons (ds_setLc (i := 7) (own := [("row", 13)]) rfl sc_calm_rows.nd rfl rfl (sw_true rfl rfl rfl (by decide +kernel)) (di_list (de_var 6)) (blkOk_by (N := N_calm_rows) (sc := defScope s_calm_rows) (by decide +kernel)) (fun _ _ _ _ _ => pg_name (i := 13) sc_calm_rows.nd rfl (Or.inl rfl)) (tgc1 (by decide)) (fun _ _ _ _ _ => dts_one (dt_ne (hu65 hr) (de_ix (de_var 13) de_int) de_str)) (fun _ _ _ _ _ => (de_var 13))) (dss_cons (ds_asg (de_lstO da_nil) (dg_put (hu65 hr) (de_var 3) (de_var 4))) (dss_one (ds_for (passes_of rfl) rfl (di_list (de_var 7)) (dg_tup rfl (dgs_cons (dg_name (i := 8) sc_calm_rows.nd rfl) (dgs_cons (dg_name (i := 9) sc_calm_rows.nd rfl) (dgs_cons (dg_name (i := 10) sc_calm_rows.nd rfl) (dgs_cons (dg_name (i := 11) sc_calm_rows.nd rfl) dgs_nil))))) (dss_cons (ds_set (i := 12) sc_calm_rows.nd rfl (de_intC T.n_int (da_cons (de_eq (hu65 hr) (de_var 10) de_str) da_nil))) (dss_one (ds_expr (de_append (de_dix (hu65 hr) (de_var 3) (de_var 4)) (da_cons (de_tup (da_cons (de_var 8) (da_cons (de_var 9) (da_cons (de_sub (de_mul (de_var 1) (de_var 11)) (de_mul (de_var 2) (de_var 12))) (da_cons (de_tup (da_cons (de_var 11) (da_cons (de_var 12) da_nil))) da_nil))))) da_nil)))))))))) (dss_one (ds_ret (de_var 3)))))) (fun ds R hl h => rd_calm_rows ds R hl h)
theorem ok_ring_along (T : Txt K mg) : FnOk P w K mg base (L2.CX P w) 1 T.ring_along.f T.ring_along.fd ["ahead", "stand"] (liftF K w 2 F_ring_along) :=
  fn_P (t := t_ring_along) T.ring_along.F sc_ring_along (fun cdv A outer s H E RE hr => (dss_cons (ds_par (i := 2) (j := 3) rfl sc_ring_along.nd rfl rfl (by decide) rfl rfl (da_cons (de_lstO da_nil) (da_cons de_dicO da_nil)) (by rfl)) (dss_cons (ds_while (passes_of rfl) (dt_w (dw_and (dt_din (hu65 hr) (de_var 1) (de_var 0)) (dw_and1 (dt_dnotin (hu65 hr) (de_var 1) (de_var 3))))) (dss_cons (ds_asg (de_len T.n_len (da_cons (de_var 2) da_nil)) (dg_put (hu65 hr) (de_var 3) (de_var 1))) (dss_cons (ds_expr (de_append (de_var 2) (da_cons (de_dix (hu65 hr) (de_var 0) (de_var 1)) da_nil))) (dss_one (ds_set (i := 1) sc_ring_along.nd rfl (de_ix (de_dix (hu65 hr) (de_var 0) (de_var 1)) de_int)))))) (dss_one (ds_ret (de_if (dt_din (hu65 hr) (de_var 1) (de_var 3)) (de_rev (de_slice (de_var 2) (do_some (de_dix (hu65 hr) (de_var 3) (de_var 1))) do_none)) de_non)))))) (fun ds R hl h => rd_ring_along ds R hl h)
theorem ok_grown (T : Txt K mg) : FnOk P w K mg base (L2.CX P w) 2 T.grown.f T.grown.fd ["rows", "high"] (liftF K w 2 F_grown) :=
  fn_P (t := t_grown) T.grown.F sc_grown (fun cdv A outer s H E RE hr => (dss_cons (ds_par3 (i := 1) (j := 2) (l := 3) rfl sc_grown.nd rfl rfl rfl (by decide) (by decide) (by decide) rfl rfl rfl (da_cons (de_dictO (hu65 hr) T.n_dict (da_cons (de_var 1) da_nil)) (da_cons de_dicO (da_cons de_bl da_nil))) (by rfl)) (dss_cons (ds_while (passes_of rfl) (dt_tru (de_var 3)) (dss_cons (ds_set (i := 3) sc_grown.nd rfl de_bl) (dss_one (ds_for (passes_of rfl) rfl (di_dict (de_var 0)) (dg_name (i := 4) sc_grown.nd rfl) (dss_one (ds_for (passes_of rfl) rfl (di_list (de_if (dt_din (hu65 hr) (de_var 4) (de_var 1)) (de_dix (hu65 hr) (de_var 0) (de_var 4)) (de_lst da_nil))) (dg_tup rfl (dgs_cons (dg_name (i := 5) sc_grown.nd rfl) (dgs_cons (dg_name (i := 6) sc_grown.nd rfl) (dgs_cons (dg_name (i := 7) sc_grown.nd rfl) (dgs_cons (dg_name (i := 8) sc_grown.nd rfl) dgs_nil))))) (dss_cons (ds_set (i := 9) sc_grown.nd rfl (de_add (de_dix (hu65 hr) (de_var 1) (de_var 4)) (de_var 7))) (dss_one (ds_if (dt_w (dw_or (dt_dnotin (hu65 hr) (de_var 6) (de_var 1)) (dw_or1 (dt_gt (de_var 9) (de_dix (hu65 hr) (de_var 1) (de_var 6)))))) (dss_cons (ds_asg (de_tup (da_cons (de_var 9) (da_cons (de_tup (da_cons (de_var 4) (da_cons (de_var 5) (da_cons (de_var 8) da_nil)))) (da_cons de_bl da_nil)))) (dg_tup rfl (dgs_cons (dg_put (hu65 hr) (de_var 1) (de_var 6)) (dgs_cons (dg_put (hu65 hr) (de_var 2) (de_var 6)) (dgs_cons (dg_name (i := 3) sc_grown.nd rfl) dgs_nil))))) (dss_cons (ds_set (i := 10) sc_grown.nd rfl (de_callW (ok_ring_along T) (hr.mono (by first | decide | (simp only [Nat.add_eq]; omega) | omega)) T.ring_along.g T.ring_along.F.kp T.ring_along.b (da_cons (de_var 2) (da_cons (de_var 6) da_nil)))) (dss_one (ds_if (dt_notN (de_var 10) de_non) (dss_one (ds_ret (de_tup (da_cons de_non (da_cons (de_var 10) da_nil))))) dss_nil)))) dss_nil))))))))) (dss_one (ds_ret (de_tup (da_cons (de_var 1) (da_cons de_non da_nil)))))))) (fun ds R hl h => rd_grown ds R hl h)
theorem ok_is_ready (T : Txt K mg) : FnOk P w K mg base (L2.CX P w) 1 T.is_ready.f T.is_ready.fd ["stand"] (liftF K w 1 F_is_ready) :=
  fn_P (t := t_is_ready) T.is_ready.F sc_is_ready (fun cdv A outer s H E RE hr => (dss_one (ds_ret (de_and (de_eq (hu65 hr) (de_ix (de_var 0) de_int) de_int) (de_and1 (de_not (de_ix (de_var 0) de_int))))))) (fun ds R hl h => rd_is_ready ds R hl h)
theorem ok_can_go_unseen (T : Txt K mg) : FnOk P w K mg base (L2.CX P w) 4 T.can_go_unseen.f T.can_go_unseen.fd ["plan"] (liftF K w 1 F_can_go_unseen) :=
  fn_P (t := t_can_go_unseen) T.can_go_unseen.F sc_can_go_unseen (fun cdv A outer s H E RE hr => (dss_cons (ds_asg (de_call (ok_grown T) (hr.mono (by first | decide | (simp only [Nat.add_eq]; omega) | omega)) T.grown.g T.grown.F.kp T.grown.b (da_cons (de_call (ok_calm_rows T) (hr.mono (by first | decide | (simp only [Nat.add_eq]; omega) | omega)) T.calm_rows.g T.calm_rows.F.kp T.calm_rows.b (da_cons (de_call (ok_net_of T) (hr.mono (by first | decide | (simp only [Nat.add_eq]; omega) | omega)) T.net_of.g T.net_of.F.kp T.net_of.b (da_cons (de_var 0) da_nil)) (da_cons de_int (da_cons de_int da_nil)))) (da_cons (de_frz (de_dic1O (hu65 hr) (de_cst T.g_BEGIN) de_int)) da_nil))) (dg_tup rfl (dgs_cons (dg_name (i := 1) sc_can_go_unseen.nd rfl) (dgs_cons (dg_name (i := 2) sc_can_go_unseen.nd rfl) dgs_nil)))) (dss_one (ds_ret (de_or (de_notN (de_var 2) de_non) (de_and1 (de_gt (de_maxL T.n_max (da_cons (de_lc (own := [("stand", 3)]) rfl sc_can_go_unseen.nd (di_dict (de_var 1)) (blkOk_by (N := N_can_go_unseen) (sc := defScope s_can_go_unseen) (by decide +kernel)) (fun _ _ _ _ _ => pg_name (i := 3) sc_can_go_unseen.nd rfl (Or.inl rfl)) (tgc1 (by decide)) (fun _ _ _ _ _ => dts_one (dt_tru (de_call (ok_is_ready T) (hr.mono (by first | decide | (simp only [Nat.add_eq]; omega) | omega)) T.is_ready.g T.is_ready.F.kp T.is_ready.b (da_cons (de_var 3) da_nil)))) (fun _ _ _ _ _ => (de_dix (hu65 hr) (de_var 1) (de_var 3)))) da_nil)) de_int))))))) (fun ds R hl h => rd_can_go_unseen ds R hl h)
theorem ok_unseen_by (T : Txt K mg) : FnOk P w K mg base (L2.CX P w) 5 T.unseen_by.f T.unseen_by.fd ["plan"] (liftF K w 1 F_unseen_by) :=
  fn_P (t := t_unseen_by) T.unseen_by.F sc_unseen_by (fun cdv A outer s H E RE hr => (dss_cons (ds_if (dt_not (dt_tru (de_call (ok_can_go_unseen T) (hr.mono (by first | decide | (simp only [Nat.add_eq]; omega) | omega)) T.can_go_unseen.g T.can_go_unseen.F.kp T.can_go_unseen.b (da_cons (de_var 0) da_nil)))) (dss_one (ds_ret de_non)) dss_nil) (dss_cons (ds_set (i := 1) sc_unseen_by.nd rfl (de_tup (da_cons (de_cst T.g_BEGIN) (da_cons de_int da_nil)))) (dss_cons (ds_par3 (i := 2) (j := 3) (l := 4) rfl sc_unseen_by.nd rfl rfl rfl (by decide) (by decide) (by decide) rfl rfl rfl (da_cons (de_dic1O (hu65 hr) (de_var 1) (de_tup da_nil)) (da_cons (de_lstO (da_cons (de_var 1) da_nil)) (da_cons de_int da_nil))) (by rfl)) (dss_one (ds_while (passes_of rfl) (dt_tru de_bl) (dss_cons (ds_asg (de_ix (de_var 3) (de_var 4)) (dg_tup rfl (dgs_cons (dg_name (i := 5) sc_unseen_by.nd rfl) (dgs_cons (dg_name (i := 6) sc_unseen_by.nd rfl) dgs_nil)))) (dss_cons (ds_set (i := 7) sc_unseen_by.nd rfl (de_dix (hu65 hr) (de_var 2) (de_ix (de_var 3) (de_var 4)))) (dss_cons (ds_set (i := 4) sc_unseen_by.nd rfl (de_add (de_var 4) de_int)) (dss_one (ds_for (passes_of rfl) rfl (di_list (de_call (ok_deeds_of T) (hr.mono (by first | decide | (simp only [Nat.add_eq]; omega) | omega)) T.deeds_of.g T.deeds_of.F.kp T.deeds_of.b (da_cons (de_var 0) (da_cons (de_var 5) da_nil)))) (dg_name (i := 8) sc_unseen_by.nd rfl) (dss_cons (ds_asg (de_call (ok_passed T) (hr.mono (by first | decide | (simp only [Nat.add_eq]; omega) | omega)) T.passed.g T.passed.F.kp T.passed.b (da_cons (de_var 0) (da_cons (de_var 5) (da_cons (de_var 8) da_nil)))) (dg_tup rfl (dgs_cons (dg_name (i := 9) sc_unseen_by.nd rfl) (dgs_cons (dg_name (i := 10) sc_unseen_by.nd rfl) (dgs_cons (dg_name (i := 11) sc_unseen_by.nd rfl) dgs_nil))))) (dss_cons (ds_if (dt_w (dw_and (dt_tru (de_call (ok_is_ready T) (hr.mono (by first | decide | (simp only [Nat.add_eq]; omega) | omega)) T.is_ready.g T.is_ready.F.kp T.is_ready.b (da_cons (de_var 9) da_nil))) (dw_and (dt_ne (hu65 hr) (de_var 10) de_str) (dw_and1 (dt_gt (de_add (de_var 6) (de_var 11)) de_int))))) (dss_one (ds_ret (de_add (de_var 7) (de_tup (da_cons (de_var 8) da_nil))))) dss_nil) (dss_cons (ds_set (i := 12) sc_unseen_by.nd rfl (de_tup (da_cons (de_var 9) (da_cons (de_add (de_var 6) (de_var 11)) da_nil)))) (dss_one (ds_if (dt_w (dw_and (dt_ne (hu65 hr) (de_var 10) de_str) (dw_and1 (dt_dnotin (hu65 hr) (de_var 12) (de_var 2))))) (dss_cons (ds_asg (de_add (de_var 7) (de_tup (da_cons (de_var 8) da_nil))) (dg_put (hu65 hr) (de_var 2) (de_var 12))) (dss_one (ds_expr (de_append (de_var 3) (da_cons (de_var 12) da_nil))))) dss_nil)))))))))))))))) (fun ds R hl h => rd_unseen_by ds R hl h)
theorem ok_first_harm (T : Txt K mg) : FnOk P w K mg base (L2.CX P w) 6 T.first_harm.f T.first_harm.fd ["plan", "harm"] (liftF K w 2 F_first_harm) :=
  fn_P (t := t_first_harm) T.first_harm.F sc_first_harm (fun cdv A outer s H E RE hr => (dss_cons (ds_expr (de_call (ok_look_at_plan T) (hr.mono (by first | decide | (simp only [Nat.add_eq]; omega) | omega)) T.look_at_plan.g T.look_at_plan.F.kp T.look_at_plan.b (da_cons (de_var 0) da_nil))) (dss_cons (ds_expr (de_call (ok_look_at_harm T) (hr.mono (by first | decide | (simp only [Nat.add_eq]; omega) | omega)) T.look_at_harm.g T.look_at_harm.F.kp T.look_at_harm.b (da_cons (de_var 1) da_nil))) (dss_one (ds_ret (de_if (dt_eq (hu65 hr) (de_var 1) de_str) (de_call (ok_unseen_by T) (hr.mono (by first | decide | (simp only [Nat.add_eq]; omega) | omega)) T.unseen_by.g T.unseen_by.F.kp T.unseen_by.b (da_cons (de_var 0) da_nil)) (de_call (ok_stopped_by T) (hr.mono (by first | decide | (simp only [Nat.add_eq]; omega) | omega)) T.stopped_by.g T.stopped_by.F.kp T.stopped_by.b (da_cons (de_var 0) da_nil)))))))) (fun ds R hl h => rd_first_harm ds R h)
theorem ok_harms_by (T : Txt K mg) : FnOk P w K mg base (L2.CX P w) 5 T.harms_by.f T.harms_by.fd ["plan"] (liftF K w 1 F_harms_by) :=
  fn_P (t := t_harms_by) T.harms_by.F sc_harms_by (fun cdv A outer s H E RE hr => (dss_one (ds_ret (de_lc (own := [("harm", 1)]) rfl sc_harms_by.nd (di_tup (de_cst T.g_HARMS)) (blkOk_by (N := N_harms_by) (sc := defScope s_harms_by) (by decide +kernel)) (fun _ _ _ _ _ => pg_name (i := 1) sc_harms_by.nd rfl (Or.inl rfl)) (tgc1 (by decide)) (fun _ _ _ _ _ => dts_one (dt_ifE (dt_eq (hu65 hr) (de_var 1) de_str) (dt_tru (de_call (ok_can_go_unseen T) (hr.mono (by first | decide | (simp only [Nat.add_eq]; omega) | omega)) T.can_go_unseen.g T.can_go_unseen.F.kp T.can_go_unseen.b (da_cons (de_var 0) da_nil))) (dt_notN (de_call (ok_stopped_by T) (hr.mono (by first | decide | (simp only [Nat.add_eq]; omega) | omega)) T.stopped_by.g T.stopped_by.F.kp T.stopped_by.b (da_cons (de_var 0) da_nil)) de_non))) (fun _ _ _ _ _ => (de_var 1)))))) (fun ds R hl h => rd_harms_by ds R hl h)
theorem ok_harms (T : Txt K mg) : FnOk P w K mg base (L2.CX P w) 6 T.harms.f T.harms.fd ["plan"] (liftF K w 1 F_harms) :=
  fn_P (t := t_harms) T.harms.F sc_harms (fun cdv A outer s H E RE hr => (dss_cons (ds_expr (de_call (ok_look_at_plan T) (hr.mono (by first | decide | (simp only [Nat.add_eq]; omega) | omega)) T.look_at_plan.g T.look_at_plan.F.kp T.look_at_plan.b (da_cons (de_var 0) da_nil))) (dss_one (ds_ret (de_call (ok_harms_by T) (hr.mono (by first | decide | (simp only [Nat.add_eq]; omega) | omega)) T.harms_by.g T.harms_by.F.kp T.harms_by.b (da_cons (de_var 0) da_nil)))))) (fun ds R hl h => rd_harms ds R h)
theorem ok_fits (T : Txt K mg) : FnOk P w K mg base (L2.CX P w) 2 T.fits.f T.fits.fd ["plan", "value"] (liftF K w 2 F_fits) :=
  fn_P (t := t_fits) T.fits.F sc_fits (fun cdv A outer s H E RE hr => (dss_cons (ds_asg (de_var 0) (dg_tup rfl (dgs_cons (dg_tup rfl (dgs_cons (dg_name (i := 2) sc_fits.nd rfl) (dgs_cons (dg_name (i := 3) sc_fits.nd rfl) (dgs_cons (dg_name (i := 4) sc_fits.nd rfl) dgs_nil)))) (dgs_cons (dg_tup rfl (dgs_cons (dg_name (i := 5) sc_fits.nd rfl) (dgs_cons (dg_name (i := 6) sc_fits.nd rfl) (dgs_cons (dg_name (i := 7) sc_fits.nd rfl) dgs_nil)))) dgs_nil)))) (dss_cons (ds_if (dt_w (dw_or (dt_not (dt_tru (de_call (ok_is_row T) (hr.mono (by first | decide | (simp only [Nat.add_eq]; omega) | omega)) T.is_row.g T.is_row.F.kp T.is_row.b (da_cons (de_var 1) (da_cons de_int da_nil))))) (dw_or (dt_not (dt_tru (de_isi T.n_isinstance (da_cons (de_ix (de_var 1) de_int) (da_cons (de_type (by rfl) T.n_bool boot_bool) da_nil))))) (dw_or1 (dt_not (dt_tru (de_isi T.n_isinstance (da_cons (de_ix (de_var 1) de_int) (da_cons (de_type (by rfl) T.n_bool boot_bool) da_nil))))))))) (dss_one (ds_ret de_bl)) dss_nil) (dss_cons (ds_if (dt_not (dt_tru (de_all T.n_all (da_cons (de_lc (own := [("number", 14)]) rfl sc_fits.nd (di_tup (de_slice (de_var 1) do_none (do_some de_int))) (blkOk_by (N := N_fits) (sc := defScope s_fits) (by decide +kernel)) (fun _ _ _ _ _ => pg_name (i := 14) sc_fits.nd rfl (Or.inl rfl)) (tgc1 (by decide)) (fun _ _ _ _ _ => dts_nil) (fun _ _ _ _ _ => (de_call (ok_is_within T) (hr.mono (by first | decide | (simp only [Nat.add_eq]; omega) | omega)) T.is_within.g T.is_within.F.kp T.is_within.b (da_cons (de_var 14) (da_cons (de_neg (de_cst T.g_FAR)) (da_cons (de_cst T.g_FAR) da_nil)))))) da_nil)))) (dss_one (ds_ret de_bl)) dss_nil) (dss_cons (ds_asg (de_var 1) (dg_tup rfl (dgs_cons (dg_name (i := 8) sc_fits.nd rfl) (dgs_cons (dg_name (i := 9) sc_fits.nd rfl) (dgs_cons (dg_name (i := 10) sc_fits.nd rfl) (dgs_cons (dg_name (i := 11) sc_fits.nd rfl) (dgs_cons (dg_name (i := 12) sc_fits.nd rfl) (dgs_cons (dg_name (i := 13) sc_fits.nd rfl) dgs_nil)))))))) (dss_cons (ds_if (dt_tru (de_var 13)) (dss_one (ds_ret (de_eq (hu65 hr) (de_var 1) (de_cst T.g_LOCKED)))) dss_nil) (dss_cons (ds_if (dt_w (dw_or (dt_not (dt_lele de_int (de_var 9) (de_var 5))) (dw_or (dt_notIn (hu65 hr) (de_var 11) (de_tup (da_cons de_int (da_cons (de_var 9) da_nil)))) (dw_or1 (dt_w (dw_and (dt_tru (de_var 12)) (dw_and1 (dt_not (dt_tru (de_var 7)))))))))) (dss_one (ds_ret de_bl)) dss_nil) (dss_cons (ds_if (dt_eq (hu65 hr) (de_var 9) de_int) (dss_one (ds_ret (de_and (de_eq (hu65 hr) (de_var 10) de_int) (de_and1 (de_lele (de_neg (de_var 2)) (de_var 8) (de_var 2)))))) dss_nil) (dss_one (ds_ret (de_lele de_int (de_var 10) (de_var 3)))))))))))) (fun ds R hl h => rd_fits ds R h)
theorem ok_look_at_stand (T : Txt K mg) : FnOk P w K mg base (L2.CX P w) 3 T.look_at_stand.f T.look_at_stand.fd ["plan", "stand"] (liftF K w 2 F_look_at_stand) :=
  fn_P (t := t_look_at_stand) T.look_at_stand.F sc_look_at_stand (fun cdv A outer s H E RE hr => (dss_one (ds_if (dt_not (dt_tru (de_call (ok_fits T) (hr.mono (by first | decide | (simp only [Nat.add_eq]; omega) | omega)) T.fits.g T.fits.F.kp T.fits.b (da_cons (de_var 0) (da_cons (de_var 1) da_nil))))) (dss_one ds_never) dss_nil))) (fun ds R hl h => rd_look_at_stand ds R h)
theorem ok_run_to (T : Txt K mg) : FnOk P w K mg base (L2.CX P w) 5 T.run_to.f T.run_to.fd ["plan", "stand"] (liftF K w 2 F_run_to) :=
  fn_P (t := t_run_to) T.run_to.F sc_run_to (fun cdv A outer s H E RE hr => (dss_cons (ds_expr (de_call (ok_look_at_plan T) (hr.mono (by first | decide | (simp only [Nat.add_eq]; omega) | omega)) T.look_at_plan.g T.look_at_plan.F.kp T.look_at_plan.b (da_cons (de_var 0) da_nil))) (dss_cons (ds_expr (de_call (ok_look_at_stand T) (hr.mono (by first | decide | (simp only [Nat.add_eq]; omega) | omega)) T.look_at_stand.g T.look_at_stand.F.kp T.look_at_stand.b (da_cons (de_var 0) (da_cons (de_var 1) da_nil)))) (dss_cons (ds_set (i := 2) sc_run_to.nd rfl (de_call (ok_net_of T) (hr.mono (by first | decide | (simp only [Nat.add_eq]; omega) | omega)) T.net_of.g T.net_of.F.kp T.net_of.b (da_cons (de_var 0) da_nil))) (dss_one (ds_ret (de_if (dt_din (hu65 hr) (de_var 1) (de_var 2)) (de_ix (de_dix (hu65 hr) (de_var 2) (de_var 1)) de_int) de_non))))))) (fun ds R hl h => rd_run_to ds R h)
theorem ok_law (T : Txt K mg) : FnOk P w K mg base (L2.CX P w) 12 T.law.f T.law.fd ["script"] (liftF K w 1 F_law) :=
  fn_P (t := t_law) T.law.F sc_law (fun cdv A outer s H E RE hr => (dss_cons (ds_for (passes_of rfl) rfl (di_range1 T.n_range (da_cons (de_add (de_min2 rfl T.n_min (da_cons (de_len T.n_len (da_cons (de_var 0) da_nil)) (da_cons de_int da_nil))) de_int) da_nil)) (dg_name (i := 1) sc_law.nd rfl) (dss_cons (ds_set (i := 2) sc_law.nd rfl (de_callN (ok_law_spring T) (hr.mono (by first | decide | (simp only [Nat.add_eq]; omega) | omega)) T.law_spring.g T.law_spring.F.kp T.law_spring.b (da_cons (de_var 0) (da_cons (de_var 1) da_nil)))) (dss_cons (ds_set (i := 3) sc_law.nd rfl (de_callM (ok_law_small T) (hr.mono (by first | decide | (simp only [Nat.add_eq]; omega) | omega)) T.law_small.g T.law_small.F.kp T.law_small.b (da_cons (de_var 2) da_nil))) (dss_cons (ds_set (i := 4) sc_law.nd rfl (de_call (ok_law_ways T) (hr.mono (by first | decide | (simp only [Nat.add_eq]; omega) | omega)) T.law_ways.g T.law_ways.F.kp T.law_ways.b (da_cons (de_var 3) (da_cons de_bl da_nil)))) (dss_cons (ds_if (dt_not (dt_tru (de_call (ok_law_twins T 10) (hr.mono (by first | decide | (simp only [Nat.add_eq]; omega) | omega)) T.law_twins.g T.law_twins.F.kp T.law_twins.b (da_cons (de_lst (da_cons (de_call (ok_count_stands T) (hr.mono (by first | decide | (simp only [Nat.add_eq]; omega) | omega)) T.count_stands.g T.count_stands.F.kp T.count_stands.b (da_cons (de_var 3) da_nil)) (da_cons (de_call (ok_harms T) (hr.mono (by first | decide | (simp only [Nat.add_eq]; omega) | omega)) T.harms.g T.harms.F.kp T.harms.b (da_cons (de_var 3) da_nil)) da_nil))) (da_cons (de_lst (da_cons (de_lenK T.n_len (da_cons (de_var 4) da_nil)) (da_cons (de_call (ok_law_harms T) (hr.mono (by first | decide | (simp only [Nat.add_eq]; omega) | omega)) T.law_harms.g T.law_harms.F.kp T.law_harms.b (da_cons (de_var 3) da_nil)) da_nil))) da_nil))))) (dss_one (ds_ret de_bl)) dss_nil) (dss_cons (ds_set (i := 5) sc_law.nd rfl (de_lst (da_cons (de_call (ok_law_first_stopped T) (hr.mono (by first | decide | (simp only [Nat.add_eq]; omega) | omega)) T.law_first_stopped.g T.law_first_stopped.F.kp T.law_first_stopped.b (da_cons (de_var 3) da_nil)) (da_cons (de_call (ok_law_first_unseen T) (hr.mono (by first | decide | (simp only [Nat.add_eq]; omega) | omega)) T.law_first_unseen.g T.law_first_unseen.F.kp T.law_first_unseen.b (da_cons (de_var 3) da_nil)) da_nil)))) (dss_cons (ds_if (dt_not (dt_tru (de_call (ok_law_twins T 10) (hr.mono (by first | decide | (simp only [Nat.add_eq]; omega) | omega)) T.law_twins.g T.law_twins.F.kp T.law_twins.b (da_cons (de_lst (da_cons (de_call (ok_first_harm T) (hr.mono (by first | decide | (simp only [Nat.add_eq]; omega) | omega)) T.first_harm.g T.first_harm.F.kp T.first_harm.b (da_cons (de_var 3) (da_cons de_str da_nil))) (da_cons (de_call (ok_first_harm T) (hr.mono (by first | decide | (simp only [Nat.add_eq]; omega) | omega)) T.first_harm.g T.first_harm.F.kp T.first_harm.b (da_cons (de_var 3) (da_cons de_str da_nil))) da_nil))) (da_cons (de_var 5) da_nil))))) (dss_one (ds_ret de_bl)) dss_nil) (dss_cons (ds_set (i := 6) sc_law.nd rfl (de_listK rfl T.n_list (da_cons (de_var 4) da_nil))) (dss_cons (ds_par (i := 7) (j := 8) rfl sc_law.nd rfl rfl (by decide) rfl rfl (da_cons (de_ix (de_var 6) (de_callM (ok_law_pick T) (hr.mono (by first | decide | (simp only [Nat.add_eq]; omega) | omega)) T.law_pick.g T.law_pick.F.kp T.law_pick.b (da_cons (de_var 2) (da_cons (de_len T.n_len (da_cons (de_var 6) da_nil)) da_nil)))) (da_cons (de_ix (de_var 6) (de_callM (ok_law_pick T) (hr.mono (by first | decide | (simp only [Nat.add_eq]; omega) | omega)) T.law_pick.g T.law_pick.F.kp T.law_pick.b (da_cons (de_var 2) (da_cons (de_len T.n_len (da_cons (de_var 6) da_nil)) da_nil)))) da_nil)) (by rfl)) (dss_cons (ds_if (dt_not (dt_tru (de_call (ok_law_twins T 10) (hr.mono (by first | decide | (simp only [Nat.add_eq]; omega) | omega)) T.law_twins.g T.law_twins.F.kp T.law_twins.b (da_cons (de_call (ok_run_to T) (hr.mono (by first | decide | (simp only [Nat.add_eq]; omega) | omega)) T.run_to.g T.run_to.F.kp T.run_to.b (da_cons (de_var 3) (da_cons (de_var 7) da_nil))) (da_cons (de_ix (de_dix (hu65 hr) (de_var 4) (de_var 7)) de_int) da_nil))))) (dss_one (ds_ret de_bl)) dss_nil) (dss_cons (ds_set (i := 9) sc_law.nd rfl (de_add (de_tup (da_cons (de_ix (de_var 8) de_int) da_nil)) (de_slice (de_var 7) (do_some de_int) do_none))) (dss_one (ds_if (dt_w (dw_and (dt_not (dt_tru (de_ix (de_var 9) de_int))) (dw_and1 (dt_w (dw_or (dt_gt (de_ix (de_var 9) de_int) de_int) (dw_or1 (dt_le (de_abs T.n_abs (da_cons (de_ix (de_var 9) de_int) da_nil)) (de_ix (de_ix (de_var 3) de_int) de_int)))))))) (dss_cons (ds_set (i := 5) sc_law.nd rfl (de_if (dt_din (hu65 hr) (de_var 9) (de_var 4)) (de_ix (de_dix (hu65 hr) (de_var 4) (de_var 9)) de_int) de_non)) (dss_one (ds_if (dt_not (dt_tru (de_call (ok_law_twins T 10) (hr.mono (by first | decide | (simp only [Nat.add_eq]; omega) | omega)) T.law_twins.g T.law_twins.F.kp T.law_twins.b (da_cons (de_call (ok_run_to T) (hr.mono (by first | decide | (simp only [Nat.add_eq]; omega) | omega)) T.run_to.g T.run_to.F.kp T.run_to.b (da_cons (de_var 3) (da_cons (de_var 9) da_nil))) (da_cons (de_var 5) da_nil))))) (dss_one (ds_ret de_bl)) dss_nil))) dss_nil))))))))))))) (dss_one (ds_ret de_bl)))) (fun ds R hl h => rd_law_k04 ds R h)
end

end L2.DL

set_option Elab.async false
set_option linter.all false
set_option maxRecDepth 100000
set_option maxHeartbeats 4000000
namespace L2.DL
open PySem PySem.Spec PyProof.Rows
section
/-- a def as the top has written it -/
theorem funAt_of {K : PySem.W.Frag} {h : Heap} {mg : Str → Option Value} (X : K.In h) (Gn : h.Ns mainGlobals mg) {x : Str} {st : Stmt} {ps : List Str} {f : Addr} {oc : Value} {od an : Option Addr} {osl : Array (Option Value)} {kV doc pm cdv ct : Value} (a : PySem.W.nsIn K mainGlobals x = some (some (.ref f)))
    (l : K.lookup f = some ⟨oc, od, .func (PySem.W.fnOf x x (defArgs st) (defBody st) (defScope st) .none kV doc pm an cdv ct), osl⟩) (c : PySem.W.codeIn K cdv x = true) (k : PySem.W.keepIn K (.ref f) = true)
    (hb : ∀ (kV doc pm : Value) (an : Option Addr) (cdv ct : Value) (us : List Value), us.length = ps.length → bindArgs (PySem.W.fnOf x x (defArgs st) (defBody st) (defScope st) .none kV doc pm an cdv ct) ⟨us, []⟩ = pure (ps.zip us)) :
    ∃ F : FunAt K mg x st ps, F.f = f ∧ F.fd = PySem.W.fnOf x x (defArgs st) (defBody st) (defScope st) .none kV doc pm an cdv ct :=
  ⟨⟨f, _, fun_mk l c k, PySem.W.mg_of X Gn a, (fun_mk l c k).binds hb⟩, rfl, rfl⟩
theorem all_mk {l : PySem.W.OpenLaw} {w : World} {K : PySem.W.Frag} {h : Heap} {mg : Str → Option Value} {fa : Addr} (X : K.In h) (Gn : h.Ns mainGlobals mg) (hfa : mg "law" = some (.ref fa))
    {f0 f1 f2 f3 f4 f5 f6 f7 f8 f9 f10 f11 f12 f13 f14 f15 f16 f17 f18 f19 f20 f21 f22 f23 f24 f25 f26 f27 f28 f29 f30 f31 f32 f33 f34 f35 f36 f37 f38 f39 : Addr} {od0 an0 od1 an1 od2 an2 od3 an3 od4 an4 od5 an5 od6 an6 od7 an7 od8 an8 od9 an9 od10 an10 od11 an11 od12 an12 od13 an13 od14 an14 od15 an15 od16 an16 od17 an17 od18 an18 od19 an19 od20 an20 od21 an21 od22 an22 od23 an23 od24 an24 od25 an25 od26 an26 od27 an27 od28 an28 od29 an29 od30 an30 od31 an31 od32 an32 od33 an33 od34 an34 od35 an35 od36 an36 od37 an37 od38 an38 od39 an39 : Option Addr} {sl0 sl1 sl2 sl3 sl4 sl5 sl6 sl7 sl8 sl9 sl10 sl11 sl12 sl13 sl14 sl15 sl16 sl17 sl18 sl19 sl20 sl21 sl22 sl23 sl24 sl25 sl26 sl27 sl28 sl29 sl30 sl31 sl32 sl33 sl34 sl35 sl36 sl37 sl38 sl39 : Array (Option Value)} {oc0 kV0 dc0 pm0 cd0 ct0 oc1 kV1 dc1 pm1 cd1 ct1 oc2 kV2 dc2 pm2 cd2 ct2 oc3 kV3 dc3 pm3 cd3 ct3 oc4 kV4 dc4 pm4 cd4 ct4 oc5 kV5 dc5 pm5 cd5 ct5 oc6 kV6 dc6 pm6 cd6 ct6 oc7 kV7 dc7 pm7 cd7 ct7 oc8 kV8 dc8 pm8 cd8 ct8 oc9 kV9 dc9 pm9 cd9 ct9 oc10 kV10 dc10 pm10 cd10 ct10 oc11 kV11 dc11 pm11 cd11 ct11 oc12 kV12 dc12 pm12 cd12 ct12 oc13 kV13 dc13 pm13 cd13 ct13 oc14 kV14 dc14 pm14 cd14 ct14 oc15 kV15 dc15 pm15 cd15 ct15 oc16 kV16 dc16 pm16 cd16 ct16 oc17 kV17 dc17 pm17 cd17 ct17 oc18 kV18 dc18 pm18 cd18 ct18 oc19 kV19 dc19 pm19 cd19 ct19 oc20 kV20 dc20 pm20 cd20 ct20 oc21 kV21 dc21 pm21 cd21 ct21 oc22 kV22 dc22 pm22 cd22 ct22 oc23 kV23 dc23 pm23 cd23 ct23 oc24 kV24 dc24 pm24 cd24 ct24 oc25 kV25 dc25 pm25 cd25 ct25 oc26 kV26 dc26 pm26 cd26 ct26 oc27 kV27 dc27 pm27 cd27 ct27 oc28 kV28 dc28 pm28 cd28 ct28 oc29 kV29 dc29 pm29 cd29 ct29 oc30 kV30 dc30 pm30 cd30 ct30 oc31 kV31 dc31 pm31 cd31 ct31 oc32 kV32 dc32 pm32 cd32 ct32 oc33 kV33 dc33 pm33 cd33 ct33 oc34 kV34 dc34 pm34 cd34 ct34 oc35 kV35 dc35 pm35 cd35 ct35 oc36 kV36 dc36 pm36 cd36 ct36 oc37 kV37 dc37 pm37 cd37 ct37 oc38 kV38 dc38 pm38 cd38 ct38 oc39 kV39 dc39 pm39 cd39 ct39 : Value}
    {pB : Addr} {odB : Option Addr} {tB1 tB2 tB3 tB4 : Tok} {nB : Nat} {slB : Array (Option Value)}
    {tF : Tok}
    {pG : Addr} {odG : Option Addr} {tG1 tG2 tG3 : Tok} {nG : Nat} {slG : Array (Option Value)}
    {pH : Addr} {odH : Option Addr} {tH1 tH2 : Tok} {nH : Nat} {slH : Array (Option Value)}
    {pL : Addr} {odL : Option Addr} {tL1 tL2 tL3 tL4 : Tok} {nL : Nat} {slL : Array (Option Value)}
    {pW : Addr} {odW : Option Addr} {tW1 tW2 : Tok} {nW : Nat} {slW : Array (Option Value)}
    (a0 : PySem.W.nsIn K mainGlobals "_law_begin" = some (some (.ref f0))) (l0 : K.lookup f0 = some ⟨oc0, od0, .func (PySem.W.fnOf "_law_begin" "_law_begin" (defArgs s_law_begin) (defBody s_law_begin) (defScope s_law_begin) .none kV0 dc0 pm0 an0 cd0 ct0), sl0⟩) (c0 : PySem.W.codeIn K cd0 "_law_begin" = true) (k0 : PySem.W.keepIn K (.ref f0) = true)
    (a1 : PySem.W.nsIn K mainGlobals "_law_deeds" = some (some (.ref f1))) (l1 : K.lookup f1 = some ⟨oc1, od1, .func (PySem.W.fnOf "_law_deeds" "_law_deeds" (defArgs s_law_deeds) (defBody s_law_deeds) (defScope s_law_deeds) .none kV1 dc1 pm1 an1 cd1 ct1), sl1⟩) (c1 : PySem.W.codeIn K cd1 "_law_deeds" = true) (k1 : PySem.W.keepIn K (.ref f1) = true)
    (a2 : PySem.W.nsIn K mainGlobals "_law_done" = some (some (.ref f2))) (l2 : K.lookup f2 = some ⟨oc2, od2, .func (PySem.W.fnOf "_law_done" "_law_done" (defArgs s_law_done) (defBody s_law_done) (defScope s_law_done) .none kV2 dc2 pm2 an2 cd2 ct2), sl2⟩) (c2 : PySem.W.codeIn K cd2 "_law_done" = true) (k2 : PySem.W.keepIn K (.ref f2) = true)
    (a3 : PySem.W.nsIn K mainGlobals "_law_first_stopped" = some (some (.ref f3))) (l3 : K.lookup f3 = some ⟨oc3, od3, .func (PySem.W.fnOf "_law_first_stopped" "_law_first_stopped" (defArgs s_law_first_stopped) (defBody s_law_first_stopped) (defScope s_law_first_stopped) .none kV3 dc3 pm3 an3 cd3 ct3), sl3⟩) (c3 : PySem.W.codeIn K cd3 "_law_first_stopped" = true) (k3 : PySem.W.keepIn K (.ref f3) = true)
    (a4 : PySem.W.nsIn K mainGlobals "_law_ways" = some (some (.ref f4))) (l4 : K.lookup f4 = some ⟨oc4, od4, .func (PySem.W.fnOf "_law_ways" "_law_ways" (defArgs s_law_ways) (defBody s_law_ways) (defScope s_law_ways) .none kV4 dc4 pm4 an4 cd4 ct4), sl4⟩) (c4 : PySem.W.codeIn K cd4 "_law_ways" = true) (k4 : PySem.W.keepIn K (.ref f4) = true)
    (a5 : PySem.W.nsIn K mainGlobals "_law_highs" = some (some (.ref f5))) (l5 : K.lookup f5 = some ⟨oc5, od5, .func (PySem.W.fnOf "_law_highs" "_law_highs" (defArgs s_law_highs) (defBody s_law_highs) (defScope s_law_highs) .none kV5 dc5 pm5 an5 cd5 ct5), sl5⟩) (c5 : PySem.W.codeIn K cd5 "_law_highs" = true) (k5 : PySem.W.keepIn K (.ref f5) = true)
    (a6 : PySem.W.nsIn K mainGlobals "_law_first_unseen" = some (some (.ref f6))) (l6 : K.lookup f6 = some ⟨oc6, od6, .func (PySem.W.fnOf "_law_first_unseen" "_law_first_unseen" (defArgs s_law_first_unseen) (defBody s_law_first_unseen) (defScope s_law_first_unseen) .none kV6 dc6 pm6 an6 cd6 ct6), sl6⟩) (c6 : PySem.W.codeIn K cd6 "_law_first_unseen" = true) (k6 : PySem.W.keepIn K (.ref f6) = true)
    (a7 : PySem.W.nsIn K mainGlobals "_law_harms" = some (some (.ref f7))) (l7 : K.lookup f7 = some ⟨oc7, od7, .func (PySem.W.fnOf "_law_harms" "_law_harms" (defArgs s_law_harms) (defBody s_law_harms) (defScope s_law_harms) .none kV7 dc7 pm7 an7 cd7 ct7), sl7⟩) (c7 : PySem.W.codeIn K cd7 "_law_harms" = true) (k7 : PySem.W.keepIn K (.ref f7) = true)
    (a8 : PySem.W.nsIn K mainGlobals "_law_pick" = some (some (.ref f8))) (l8 : K.lookup f8 = some ⟨oc8, od8, .func (PySem.W.fnOf "_law_pick" "_law_pick" (defArgs s_law_pick) (defBody s_law_pick) (defScope s_law_pick) .none kV8 dc8 pm8 an8 cd8 ct8), sl8⟩) (c8 : PySem.W.codeIn K cd8 "_law_pick" = true) (k8 : PySem.W.keepIn K (.ref f8) = true)
    (a9 : PySem.W.nsIn K mainGlobals "_law_program" = some (some (.ref f9))) (l9 : K.lookup f9 = some ⟨oc9, od9, .func (PySem.W.fnOf "_law_program" "_law_program" (defArgs s_law_program) (defBody s_law_program) (defScope s_law_program) .none kV9 dc9 pm9 an9 cd9 ct9), sl9⟩) (c9 : PySem.W.codeIn K cd9 "_law_program" = true) (k9 : PySem.W.keepIn K (.ref f9) = true)
    (a10 : PySem.W.nsIn K mainGlobals "_law_plan" = some (some (.ref f10))) (l10 : K.lookup f10 = some ⟨oc10, od10, .func (PySem.W.fnOf "_law_plan" "_law_plan" (defArgs s_law_plan) (defBody s_law_plan) (defScope s_law_plan) .none kV10 dc10 pm10 an10 cd10 ct10), sl10⟩) (c10 : PySem.W.codeIn K cd10 "_law_plan" = true) (k10 : PySem.W.keepIn K (.ref f10) = true)
    (a11 : PySem.W.nsIn K mainGlobals "_law_small" = some (some (.ref f11))) (l11 : K.lookup f11 = some ⟨oc11, od11, .func (PySem.W.fnOf "_law_small" "_law_small" (defArgs s_law_small) (defBody s_law_small) (defScope s_law_small) .none kV11 dc11 pm11 an11 cd11 ct11), sl11⟩) (c11 : PySem.W.codeIn K cd11 "_law_small" = true) (k11 : PySem.W.keepIn K (.ref f11) = true)
    (a12 : PySem.W.nsIn K mainGlobals "_law_spring" = some (some (.ref f12))) (l12 : K.lookup f12 = some ⟨oc12, od12, .func (PySem.W.fnOf "_law_spring" "_law_spring" (defArgs s_law_spring) (defBody s_law_spring) (defScope s_law_spring) .none kV12 dc12 pm12 an12 cd12 ct12), sl12⟩) (c12 : PySem.W.codeIn K cd12 "_law_spring" = true) (k12 : PySem.W.keepIn K (.ref f12) = true)
    (a13 : PySem.W.nsIn K mainGlobals "_law_kind" = some (some (.ref f13))) (l13 : K.lookup f13 = some ⟨oc13, od13, .func (PySem.W.fnOf "_law_kind" "_law_kind" (defArgs s_law_kind) (defBody s_law_kind) (defScope s_law_kind) .none kV13 dc13 pm13 an13 cd13 ct13), sl13⟩) (c13 : PySem.W.codeIn K cd13 "_law_kind" = true) (k13 : PySem.W.keepIn K (.ref f13) = true)
    (a14 : PySem.W.nsIn K mainGlobals "_law_twins" = some (some (.ref f14))) (l14 : K.lookup f14 = some ⟨oc14, od14, .func (PySem.W.fnOf "_law_twins" "_law_twins" (defArgs s_law_twins) (defBody s_law_twins) (defScope s_law_twins) .none kV14 dc14 pm14 an14 cd14 ct14), sl14⟩) (c14 : PySem.W.codeIn K cd14 "_law_twins" = true) (k14 : PySem.W.keepIn K (.ref f14) = true)
    (a15 : PySem.W.nsIn K mainGlobals "is_row" = some (some (.ref f15))) (l15 : K.lookup f15 = some ⟨oc15, od15, .func (PySem.W.fnOf "is_row" "is_row" (defArgs s_is_row) (defBody s_is_row) (defScope s_is_row) .none kV15 dc15 pm15 an15 cd15 ct15), sl15⟩) (c15 : PySem.W.codeIn K cd15 "is_row" = true) (k15 : PySem.W.keepIn K (.ref f15) = true)
    (a16 : PySem.W.nsIn K mainGlobals "is_within" = some (some (.ref f16))) (l16 : K.lookup f16 = some ⟨oc16, od16, .func (PySem.W.fnOf "is_within" "is_within" (defArgs s_is_within) (defBody s_is_within) (defScope s_is_within) .none kV16 dc16 pm16 an16 cd16 ct16), sl16⟩) (c16 : PySem.W.codeIn K cd16 "is_within" = true) (k16 : PySem.W.keepIn K (.ref f16) = true)
    (a17 : PySem.W.nsIn K mainGlobals "is_program" = some (some (.ref f17))) (l17 : K.lookup f17 = some ⟨oc17, od17, .func (PySem.W.fnOf "is_program" "is_program" (defArgs s_is_program) (defBody s_is_program) (defScope s_is_program) .none kV17 dc17 pm17 an17 cd17 ct17), sl17⟩) (c17 : PySem.W.codeIn K cd17 "is_program" = true) (k17 : PySem.W.keepIn K (.ref f17) = true)
    (a18 : PySem.W.nsIn K mainGlobals "is_plan" = some (some (.ref f18))) (l18 : K.lookup f18 = some ⟨oc18, od18, .func (PySem.W.fnOf "is_plan" "is_plan" (defArgs s_is_plan) (defBody s_is_plan) (defScope s_is_plan) .none kV18 dc18 pm18 an18 cd18 ct18), sl18⟩) (c18 : PySem.W.codeIn K cd18 "is_plan" = true) (k18 : PySem.W.keepIn K (.ref f18) = true)
    (a19 : PySem.W.nsIn K mainGlobals "look_at_plan" = some (some (.ref f19))) (l19 : K.lookup f19 = some ⟨oc19, od19, .func (PySem.W.fnOf "look_at_plan" "look_at_plan" (defArgs s_look_at_plan) (defBody s_look_at_plan) (defScope s_look_at_plan) .none kV19 dc19 pm19 an19 cd19 ct19), sl19⟩) (c19 : PySem.W.codeIn K cd19 "look_at_plan" = true) (k19 : PySem.W.keepIn K (.ref f19) = true)
    (a20 : PySem.W.nsIn K mainGlobals "deeds_of" = some (some (.ref f20))) (l20 : K.lookup f20 = some ⟨oc20, od20, .func (PySem.W.fnOf "deeds_of" "deeds_of" (defArgs s_deeds_of) (defBody s_deeds_of) (defScope s_deeds_of) .none kV20 dc20 pm20 an20 cd20 ct20), sl20⟩) (c20 : PySem.W.codeIn K cd20 "deeds_of" = true) (k20 : PySem.W.keepIn K (.ref f20) = true)
    (a21 : PySem.W.nsIn K mainGlobals "growth" = some (some (.ref f21))) (l21 : K.lookup f21 = some ⟨oc21, od21, .func (PySem.W.fnOf "growth" "growth" (defArgs s_growth) (defBody s_growth) (defScope s_growth) .none kV21 dc21 pm21 an21 cd21 ct21), sl21⟩) (c21 : PySem.W.codeIn K cd21 "growth" = true) (k21 : PySem.W.keepIn K (.ref f21) = true)
    (a22 : PySem.W.nsIn K mainGlobals "passed" = some (some (.ref f22))) (l22 : K.lookup f22 = some ⟨oc22, od22, .func (PySem.W.fnOf "passed" "passed" (defArgs s_passed) (defBody s_passed) (defScope s_passed) .none kV22 dc22 pm22 an22 cd22 ct22), sl22⟩) (c22 : PySem.W.codeIn K cd22 "passed" = true) (k22 : PySem.W.keepIn K (.ref f22) = true)
    (a23 : PySem.W.nsIn K mainGlobals "net_of" = some (some (.ref f23))) (l23 : K.lookup f23 = some ⟨oc23, od23, .func (PySem.W.fnOf "net_of" "net_of" (defArgs s_net_of) (defBody s_net_of) (defScope s_net_of) .none kV23 dc23 pm23 an23 cd23 ct23), sl23⟩) (c23 : PySem.W.codeIn K cd23 "net_of" = true) (k23 : PySem.W.keepIn K (.ref f23) = true)
    (a24 : PySem.W.nsIn K mainGlobals "count_stands" = some (some (.ref f24))) (l24 : K.lookup f24 = some ⟨oc24, od24, .func (PySem.W.fnOf "count_stands" "count_stands" (defArgs s_count_stands) (defBody s_count_stands) (defScope s_count_stands) .none kV24 dc24 pm24 an24 cd24 ct24), sl24⟩) (c24 : PySem.W.codeIn K cd24 "count_stands" = true) (k24 : PySem.W.keepIn K (.ref f24) = true)
    (a25 : PySem.W.nsIn K mainGlobals "look_at_harm" = some (some (.ref f25))) (l25 : K.lookup f25 = some ⟨oc25, od25, .func (PySem.W.fnOf "look_at_harm" "look_at_harm" (defArgs s_look_at_harm) (defBody s_look_at_harm) (defScope s_look_at_harm) .none kV25 dc25 pm25 an25 cd25 ct25), sl25⟩) (c25 : PySem.W.codeIn K cd25 "look_at_harm" = true) (k25 : PySem.W.keepIn K (.ref f25) = true)
    (a26 : PySem.W.nsIn K mainGlobals "stopped_by" = some (some (.ref f26))) (l26 : K.lookup f26 = some ⟨oc26, od26, .func (PySem.W.fnOf "stopped_by" "stopped_by" (defArgs s_stopped_by) (defBody s_stopped_by) (defScope s_stopped_by) .none kV26 dc26 pm26 an26 cd26 ct26), sl26⟩) (c26 : PySem.W.codeIn K cd26 "stopped_by" = true) (k26 : PySem.W.keepIn K (.ref f26) = true)
    (a27 : PySem.W.nsIn K mainGlobals "calm_rows" = some (some (.ref f27))) (l27 : K.lookup f27 = some ⟨oc27, od27, .func (PySem.W.fnOf "calm_rows" "calm_rows" (defArgs s_calm_rows) (defBody s_calm_rows) (defScope s_calm_rows) .none kV27 dc27 pm27 an27 cd27 ct27), sl27⟩) (c27 : PySem.W.codeIn K cd27 "calm_rows" = true) (k27 : PySem.W.keepIn K (.ref f27) = true)
    (a28 : PySem.W.nsIn K mainGlobals "ring_along" = some (some (.ref f28))) (l28 : K.lookup f28 = some ⟨oc28, od28, .func (PySem.W.fnOf "ring_along" "ring_along" (defArgs s_ring_along) (defBody s_ring_along) (defScope s_ring_along) .none kV28 dc28 pm28 an28 cd28 ct28), sl28⟩) (c28 : PySem.W.codeIn K cd28 "ring_along" = true) (k28 : PySem.W.keepIn K (.ref f28) = true)
    (a29 : PySem.W.nsIn K mainGlobals "grown" = some (some (.ref f29))) (l29 : K.lookup f29 = some ⟨oc29, od29, .func (PySem.W.fnOf "grown" "grown" (defArgs s_grown) (defBody s_grown) (defScope s_grown) .none kV29 dc29 pm29 an29 cd29 ct29), sl29⟩) (c29 : PySem.W.codeIn K cd29 "grown" = true) (k29 : PySem.W.keepIn K (.ref f29) = true)
    (a30 : PySem.W.nsIn K mainGlobals "is_ready" = some (some (.ref f30))) (l30 : K.lookup f30 = some ⟨oc30, od30, .func (PySem.W.fnOf "is_ready" "is_ready" (defArgs s_is_ready) (defBody s_is_ready) (defScope s_is_ready) .none kV30 dc30 pm30 an30 cd30 ct30), sl30⟩) (c30 : PySem.W.codeIn K cd30 "is_ready" = true) (k30 : PySem.W.keepIn K (.ref f30) = true)
    (a31 : PySem.W.nsIn K mainGlobals "can_go_unseen" = some (some (.ref f31))) (l31 : K.lookup f31 = some ⟨oc31, od31, .func (PySem.W.fnOf "can_go_unseen" "can_go_unseen" (defArgs s_can_go_unseen) (defBody s_can_go_unseen) (defScope s_can_go_unseen) .none kV31 dc31 pm31 an31 cd31 ct31), sl31⟩) (c31 : PySem.W.codeIn K cd31 "can_go_unseen" = true) (k31 : PySem.W.keepIn K (.ref f31) = true)
    (a32 : PySem.W.nsIn K mainGlobals "unseen_by" = some (some (.ref f32))) (l32 : K.lookup f32 = some ⟨oc32, od32, .func (PySem.W.fnOf "unseen_by" "unseen_by" (defArgs s_unseen_by) (defBody s_unseen_by) (defScope s_unseen_by) .none kV32 dc32 pm32 an32 cd32 ct32), sl32⟩) (c32 : PySem.W.codeIn K cd32 "unseen_by" = true) (k32 : PySem.W.keepIn K (.ref f32) = true)
    (a33 : PySem.W.nsIn K mainGlobals "first_harm" = some (some (.ref f33))) (l33 : K.lookup f33 = some ⟨oc33, od33, .func (PySem.W.fnOf "first_harm" "first_harm" (defArgs s_first_harm) (defBody s_first_harm) (defScope s_first_harm) .none kV33 dc33 pm33 an33 cd33 ct33), sl33⟩) (c33 : PySem.W.codeIn K cd33 "first_harm" = true) (k33 : PySem.W.keepIn K (.ref f33) = true)
    (a34 : PySem.W.nsIn K mainGlobals "harms_by" = some (some (.ref f34))) (l34 : K.lookup f34 = some ⟨oc34, od34, .func (PySem.W.fnOf "harms_by" "harms_by" (defArgs s_harms_by) (defBody s_harms_by) (defScope s_harms_by) .none kV34 dc34 pm34 an34 cd34 ct34), sl34⟩) (c34 : PySem.W.codeIn K cd34 "harms_by" = true) (k34 : PySem.W.keepIn K (.ref f34) = true)
    (a35 : PySem.W.nsIn K mainGlobals "harms" = some (some (.ref f35))) (l35 : K.lookup f35 = some ⟨oc35, od35, .func (PySem.W.fnOf "harms" "harms" (defArgs s_harms) (defBody s_harms) (defScope s_harms) .none kV35 dc35 pm35 an35 cd35 ct35), sl35⟩) (c35 : PySem.W.codeIn K cd35 "harms" = true) (k35 : PySem.W.keepIn K (.ref f35) = true)
    (a36 : PySem.W.nsIn K mainGlobals "fits" = some (some (.ref f36))) (l36 : K.lookup f36 = some ⟨oc36, od36, .func (PySem.W.fnOf "fits" "fits" (defArgs s_fits) (defBody s_fits) (defScope s_fits) .none kV36 dc36 pm36 an36 cd36 ct36), sl36⟩) (c36 : PySem.W.codeIn K cd36 "fits" = true) (k36 : PySem.W.keepIn K (.ref f36) = true)
    (a37 : PySem.W.nsIn K mainGlobals "look_at_stand" = some (some (.ref f37))) (l37 : K.lookup f37 = some ⟨oc37, od37, .func (PySem.W.fnOf "look_at_stand" "look_at_stand" (defArgs s_look_at_stand) (defBody s_look_at_stand) (defScope s_look_at_stand) .none kV37 dc37 pm37 an37 cd37 ct37), sl37⟩) (c37 : PySem.W.codeIn K cd37 "look_at_stand" = true) (k37 : PySem.W.keepIn K (.ref f37) = true)
    (a38 : PySem.W.nsIn K mainGlobals "run_to" = some (some (.ref f38))) (l38 : K.lookup f38 = some ⟨oc38, od38, .func (PySem.W.fnOf "run_to" "run_to" (defArgs s_run_to) (defBody s_run_to) (defScope s_run_to) .none kV38 dc38 pm38 an38 cd38 ct38), sl38⟩) (c38 : PySem.W.codeIn K cd38 "run_to" = true) (k38 : PySem.W.keepIn K (.ref f38) = true)
    (a39 : PySem.W.nsIn K mainGlobals "law" = some (some (.ref f39))) (l39 : K.lookup f39 = some ⟨oc39, od39, .func (PySem.W.fnOf "law" "law" (defArgs s_law) (defBody s_law) (defScope s_law) .none kV39 dc39 pm39 an39 cd39 ct39), sl39⟩) (c39 : PySem.W.codeIn K cd39 "law" = true) (k39 : PySem.W.keepIn K (.ref f39) = true)
    (z_abs : PySem.W.nsIn K mainGlobals "abs" = some none)
    (z_all : PySem.W.nsIn K mainGlobals "all" = some none)
    (z_bool : PySem.W.nsIn K mainGlobals "bool" = some none)
    (z_dict : PySem.W.nsIn K mainGlobals "dict" = some none)
    (z_int : PySem.W.nsIn K mainGlobals "int" = some none)
    (z_isinstance : PySem.W.nsIn K mainGlobals "isinstance" = some none)
    (z_len : PySem.W.nsIn K mainGlobals "len" = some none)
    (z_list : PySem.W.nsIn K mainGlobals "list" = some none)
    (z_max : PySem.W.nsIn K mainGlobals "max" = some none)
    (z_min : PySem.W.nsIn K mainGlobals "min" = some none)
    (z_range : PySem.W.nsIn K mainGlobals "range" = some none)
    (z_sorted : PySem.W.nsIn K mainGlobals "sorted" = some none)
    (z_str : PySem.W.nsIn K mainGlobals "str" = some none)
    (z_tuple : PySem.W.nsIn K mainGlobals "tuple" = some none)
    (z_zip : PySem.W.nsIn K mainGlobals "zip" = some none)
    (gB : PySem.W.nsIn K mainGlobals "BEGIN" = some (some (.ref pB))) (lB : K.lookup pB = some ⟨.type "tuple", odB, .seq #[.int 0 tB1, .int 0 tB2, .int 0 tB3, .int 0 tB4, .bool false, .bool false] nB, slB⟩)
    (gF : PySem.W.nsIn K mainGlobals "FAR" = some (some (.int 20 tF)))
    (gG : PySem.W.nsIn K mainGlobals "GROWING" = some (some (.ref pG))) (lG : K.lookup pG = some ⟨.type "tuple", odG, .seq #[.str "hide" tG1, .str "lay" tG2, .str "lean" tG3] nG, slG⟩)
    (gH : PySem.W.nsIn K mainGlobals "HARMS" = some (some (.ref pH))) (lH : K.lookup pH = some ⟨.type "tuple", odH, .seq #[.str "stopped" tH1, .str "unseen" tH2] nH, slH⟩)
    (gL : PySem.W.nsIn K mainGlobals "LOCKED" = some (some (.ref pL))) (lL : K.lookup pL = some ⟨.type "tuple", odL, .seq #[.int 0 tL1, .int 0 tL2, .int 0 tL3, .int 0 tL4, .bool false, .bool true] nL, slL⟩)
    (gW : PySem.W.nsIn K mainGlobals "WAYS" = some (some (.ref pW))) (lW : K.lookup pW = some ⟨.type "tuple", odW, .seq #[.str "each" tW1, .str "sum" tW2] nW, slW⟩) :
    ∃ fd : FuncData, (∀ (s : Shared) (v : Value), BindsTo s fd ⟨[v], []⟩ [("script", v)]) ∧ ∀ base : Heap, K.In base → base.Ns mainGlobals mg → FnOk l.prog w K mg base (L2.CX l.prog w) 12 fa fd ["script"] (liftF K w 1 F_law) := by
  obtain ⟨F0, e0, d0⟩ := funAt_of (ps := []) X Gn a0 l0 c0 k0 fun _ _ _ _ _ _ us hl => match us, hl with | [], _ => rfl
  obtain ⟨F1, e1, d1⟩ := funAt_of (ps := ["plan", "stand"]) X Gn a1 l1 c1 k1 fun _ _ _ _ _ _ us hl => match us, hl with | [_, _], _ => rfl
  obtain ⟨F2, e2, d2⟩ := funAt_of (ps := ["plan", "stand", "deed"]) X Gn a2 l2 c2 k2 fun _ _ _ _ _ _ us hl => match us, hl with | [_, _, _], _ => rfl
  obtain ⟨F3, e3, d3⟩ := funAt_of (ps := ["plan"]) X Gn a3 l3 c3 k3 fun _ _ _ _ _ _ us hl => match us, hl with | [_], _ => rfl
  obtain ⟨F4, e4, d4⟩ := funAt_of (ps := ["plan", "calm"]) X Gn a4 l4 c4 k4 fun _ _ _ _ _ _ us hl => match us, hl with | [_, _], _ => rfl
  obtain ⟨F5, e5, d5⟩ := funAt_of (ps := ["plan"]) X Gn a5 l5 c5 k5 fun _ _ _ _ _ _ us hl => match us, hl with | [_], _ => rfl
  obtain ⟨F6, e6, d6⟩ := funAt_of (ps := ["plan"]) X Gn a6 l6 c6 k6 fun _ _ _ _ _ _ us hl => match us, hl with | [_], _ => rfl
  obtain ⟨F7, e7, d7⟩ := funAt_of (ps := ["plan"]) X Gn a7 l7 c7 k7 fun _ _ _ _ _ _ us hl => match us, hl with | [_], _ => rfl
  obtain ⟨F8, e8, d8⟩ := funAt_of (ps := ["spring", "many"]) X Gn a8 l8 c8 k8 fun _ _ _ _ _ _ us hl => match us, hl with | [_, _], _ => rfl
  obtain ⟨F9, e9, d9⟩ := funAt_of (ps := ["spring"]) X Gn a9 l9 c9 k9 fun _ _ _ _ _ _ us hl => match us, hl with | [_], _ => rfl
  obtain ⟨F10, e10, d10⟩ := funAt_of (ps := ["spring"]) X Gn a10 l10 c10 k10 fun _ _ _ _ _ _ us hl => match us, hl with | [_], _ => rfl
  obtain ⟨F11, e11, d11⟩ := funAt_of (ps := ["spring"]) X Gn a11 l11 c11 k11 fun _ _ _ _ _ _ us hl => match us, hl with | [_], _ => rfl
  obtain ⟨F12, e12, d12⟩ := funAt_of (ps := ["script", "at"]) X Gn a12 l12 c12 k12 fun _ _ _ _ _ _ us hl => match us, hl with | [_, _], _ => rfl
  obtain ⟨F13, e13, d13⟩ := funAt_of (ps := ["value"]) X Gn a13 l13 c13 k13 fun _ _ _ _ _ _ us hl => match us, hl with | [_], _ => rfl
  obtain ⟨F14, e14, d14⟩ := funAt_of (ps := ["one", "other"]) X Gn a14 l14 c14 k14 fun _ _ _ _ _ _ us hl => match us, hl with | [_, _], _ => rfl
  obtain ⟨F15, e15, d15⟩ := funAt_of (ps := ["value", "many"]) X Gn a15 l15 c15 k15 fun _ _ _ _ _ _ us hl => match us, hl with | [_, _], _ => rfl
  obtain ⟨F16, e16, d16⟩ := funAt_of (ps := ["value", "low", "high"]) X Gn a16 l16 c16 k16 fun _ _ _ _ _ _ us hl => match us, hl with | [_, _, _], _ => rfl
  obtain ⟨F17, e17, d17⟩ := funAt_of (ps := ["value"]) X Gn a17 l17 c17 k17 fun _ _ _ _ _ _ us hl => match us, hl with | [_], _ => rfl
  obtain ⟨F18, e18, d18⟩ := funAt_of (ps := ["value"]) X Gn a18 l18 c18 k18 fun _ _ _ _ _ _ us hl => match us, hl with | [_], _ => rfl
  obtain ⟨F19, e19, d19⟩ := funAt_of (ps := ["plan"]) X Gn a19 l19 c19 k19 fun _ _ _ _ _ _ us hl => match us, hl with | [_], _ => rfl
  obtain ⟨F20, e20, d20⟩ := funAt_of (ps := ["plan", "stand"]) X Gn a20 l20 c20 k20 fun _ _ _ _ _ _ us hl => match us, hl with | [_, _], _ => rfl
  obtain ⟨F21, e21, d21⟩ := funAt_of (ps := ["stand", "deed"]) X Gn a21 l21 c21 k21 fun _ _ _ _ _ _ us hl => match us, hl with | [_, _], _ => rfl
  obtain ⟨F22, e22, d22⟩ := funAt_of (ps := ["plan", "stand", "deed"]) X Gn a22 l22 c22 k22 fun _ _ _ _ _ _ us hl => match us, hl with | [_, _, _], _ => rfl
  obtain ⟨F23, e23, d23⟩ := funAt_of (ps := ["plan"]) X Gn a23 l23 c23 k23 fun _ _ _ _ _ _ us hl => match us, hl with | [_], _ => rfl
  obtain ⟨F24, e24, d24⟩ := funAt_of (ps := ["plan"]) X Gn a24 l24 c24 k24 fun _ _ _ _ _ _ us hl => match us, hl with | [_], _ => rfl
  obtain ⟨F25, e25, d25⟩ := funAt_of (ps := ["harm"]) X Gn a25 l25 c25 k25 fun _ _ _ _ _ _ us hl => match us, hl with | [_], _ => rfl
  obtain ⟨F26, e26, d26⟩ := funAt_of (ps := ["plan"]) X Gn a26 l26 c26 k26 fun _ _ _ _ _ _ us hl => match us, hl with | [_], _ => rfl
  obtain ⟨F27, e27, d27⟩ := funAt_of (ps := ["net", "gain", "cost"]) X Gn a27 l27 c27 k27 fun _ _ _ _ _ _ us hl => match us, hl with | [_, _, _], _ => rfl
  obtain ⟨F28, e28, d28⟩ := funAt_of (ps := ["ahead", "stand"]) X Gn a28 l28 c28 k28 fun _ _ _ _ _ _ us hl => match us, hl with | [_, _], _ => rfl
  obtain ⟨F29, e29, d29⟩ := funAt_of (ps := ["rows", "high"]) X Gn a29 l29 c29 k29 fun _ _ _ _ _ _ us hl => match us, hl with | [_, _], _ => rfl
  obtain ⟨F30, e30, d30⟩ := funAt_of (ps := ["stand"]) X Gn a30 l30 c30 k30 fun _ _ _ _ _ _ us hl => match us, hl with | [_], _ => rfl
  obtain ⟨F31, e31, d31⟩ := funAt_of (ps := ["plan"]) X Gn a31 l31 c31 k31 fun _ _ _ _ _ _ us hl => match us, hl with | [_], _ => rfl
  obtain ⟨F32, e32, d32⟩ := funAt_of (ps := ["plan"]) X Gn a32 l32 c32 k32 fun _ _ _ _ _ _ us hl => match us, hl with | [_], _ => rfl
  obtain ⟨F33, e33, d33⟩ := funAt_of (ps := ["plan", "harm"]) X Gn a33 l33 c33 k33 fun _ _ _ _ _ _ us hl => match us, hl with | [_, _], _ => rfl
  obtain ⟨F34, e34, d34⟩ := funAt_of (ps := ["plan"]) X Gn a34 l34 c34 k34 fun _ _ _ _ _ _ us hl => match us, hl with | [_], _ => rfl
  obtain ⟨F35, e35, d35⟩ := funAt_of (ps := ["plan"]) X Gn a35 l35 c35 k35 fun _ _ _ _ _ _ us hl => match us, hl with | [_], _ => rfl
  obtain ⟨F36, e36, d36⟩ := funAt_of (ps := ["plan", "value"]) X Gn a36 l36 c36 k36 fun _ _ _ _ _ _ us hl => match us, hl with | [_, _], _ => rfl
  obtain ⟨F37, e37, d37⟩ := funAt_of (ps := ["plan", "stand"]) X Gn a37 l37 c37 k37 fun _ _ _ _ _ _ us hl => match us, hl with | [_, _], _ => rfl
  obtain ⟨F38, e38, d38⟩ := funAt_of (ps := ["plan", "stand"]) X Gn a38 l38 c38 k38 fun _ _ _ _ _ _ us hl => match us, hl with | [_, _], _ => rfl
  obtain ⟨F39, e39, d39⟩ := funAt_of (ps := ["script"]) X Gn a39 l39 c39 k39 fun _ _ _ _ _ _ us hl => match us, hl with | [_], _ => rfl
  have g_BEGIN : GlobV K mg "BEGIN" c_BEGIN := ⟨_, .ref pB, PySem.W.mg_of X Gn gB, rfl, fun w H W => .tup (xs := [.int 0, .int 0, .int 0, .int 0, .bl false, .bl false]) (.inr ⟨_, _, _, lB, rfl, rfl, (by show 6 ≤ sizeLine; decide), .cons ⟨_, rfl⟩ (.cons ⟨_, rfl⟩ (.cons ⟨_, rfl⟩ (.cons ⟨_, rfl⟩ (.cons rfl (.cons rfl .nil)))))⟩) (.cons (.int _) (.cons (.int _) (.cons (.int _) (.cons (.int _) (.cons (.bl _) (.cons (.bl _) .nil))))))⟩
  have g_FAR : GlobV K mg "FAR" c_FAR := ⟨_, .int 20, PySem.W.mg_of X Gn gF, ⟨_, rfl⟩, fun w H W => .int _⟩
  have g_GROWING : GlobV K mg "GROWING" c_GROWING := ⟨_, .ref pG, PySem.W.mg_of X Gn gG, rfl, fun w H W => .tup (xs := [.str "hide", .str "lay", .str "lean"]) (.inr ⟨_, _, _, lG, rfl, rfl, (by show 3 ≤ sizeLine; decide), .cons ⟨_, rfl⟩ (.cons ⟨_, rfl⟩ (.cons ⟨_, rfl⟩ .nil))⟩) (.cons (.str _) (.cons (.str _) (.cons (.str _) .nil)))⟩
  have g_HARMS : GlobV K mg "HARMS" c_HARMS := ⟨_, .ref pH, PySem.W.mg_of X Gn gH, rfl, fun w H W => .tup (xs := [.str "stopped", .str "unseen"]) (.inr ⟨_, _, _, lH, rfl, rfl, (by show 2 ≤ sizeLine; decide), .cons ⟨_, rfl⟩ (.cons ⟨_, rfl⟩ .nil)⟩) (.cons (.str _) (.cons (.str _) .nil))⟩
  have g_LOCKED : GlobV K mg "LOCKED" c_LOCKED := ⟨_, .ref pL, PySem.W.mg_of X Gn gL, rfl, fun w H W => .tup (xs := [.int 0, .int 0, .int 0, .int 0, .bl false, .bl true]) (.inr ⟨_, _, _, lL, rfl, rfl, (by show 6 ≤ sizeLine; decide), .cons ⟨_, rfl⟩ (.cons ⟨_, rfl⟩ (.cons ⟨_, rfl⟩ (.cons ⟨_, rfl⟩ (.cons rfl (.cons rfl .nil)))))⟩) (.cons (.int _) (.cons (.int _) (.cons (.int _) (.cons (.int _) (.cons (.bl _) (.cons (.bl _) .nil))))))⟩
  have g_WAYS : GlobV K mg "WAYS" c_WAYS := ⟨_, .ref pW, PySem.W.mg_of X Gn gW, rfl, fun w H W => .tup (xs := [.str "each", .str "sum"]) (.inr ⟨_, _, _, lW, rfl, rfl, (by show 2 ≤ sizeLine; decide), .cons ⟨_, rfl⟩ (.cons ⟨_, rfl⟩ .nil)⟩) (.cons (.str _) (.cons (.str _) .nil))⟩
  let T : Txt K mg := ⟨F0, F1, F2, F3, F4, F5, F6, F7, F8, F9, F10, F11, F12, F13, F14, F15, F16, F17, F18, F19, F20, F21, F22, F23, F24, F25, F26, F27, F28, F29, F30, F31, F32, F33, F34, F35, F36, F37, F38, F39, PySem.W.mg_none_of X Gn z_abs, PySem.W.mg_none_of X Gn z_all, PySem.W.mg_none_of X Gn z_bool, PySem.W.mg_none_of X Gn z_dict, PySem.W.mg_none_of X Gn z_int, PySem.W.mg_none_of X Gn z_isinstance, PySem.W.mg_none_of X Gn z_len, PySem.W.mg_none_of X Gn z_list, PySem.W.mg_none_of X Gn z_max, PySem.W.mg_none_of X Gn z_min, PySem.W.mg_none_of X Gn z_range, PySem.W.mg_none_of X Gn z_sorted, PySem.W.mg_none_of X Gn z_str, PySem.W.mg_none_of X Gn z_tuple, PySem.W.mg_none_of X Gn z_zip, g_BEGIN, g_FAR, g_GROWING, g_HARMS, g_LOCKED, g_WAYS⟩
  have e := hfa.symm.trans (PySem.W.mg_of X Gn a39)
  cases e
  refine ⟨PySem.W.fnOf "law" "law" (defArgs s_law) (defBody s_law) (defScope s_law) .none kV39 dc39 pm39 an39 cd39 ct39, fun s v => .of_eq rfl, fun base _ _ => ?_⟩
  have h := ok_law (P := l.prog) (w := w) (base := base) T
  rw [show T.law = F39 from rfl, e39, d39] at h
  exact h
end
end L2.DL
open PySem PySem.W PyProof.Rows
set_option maxHeartbeats 0 in
theorem PySem.Challenge.cw_tillscales_k04_whole_harms_of_plans_holds : PySem.Challenge.rw_tillscales_k04_whole_harms_of_plans.Holds := by
  w_on; o_law; k_head; (case hw => w_witness2)
  k_fill
  refine L2.walk_of (l := PySem.Challenge.rw_tillscales_k04_whole_harms_of_plans) (n := 63) (k := 12) (x := "script") (CX := fun w => L2.CX PySem.Challenge.rw_tillscales_k04_whole_harms_of_plans.prog w) (sp := fun w => L2.DL.liftF _ w 1 L2.DL.F_law) rfl (by decide) rfl ⟨rfl, by decide, by decide⟩ (fun w h Y => PySem.W.kIn_of Y) ?F (fun w H a ns hl hO hS => L2.DL.law_in hO hS) (fun w H s e s2 h => L2.DL.law_out h)
  case F =>
    intro w mg fa h KX G hmg
    refine' L2.DL.all_mk KX G hmg ?a0 ?l0 ?c0 ?k0 ?a1 ?l1 ?c1 ?k1 ?a2 ?l2 ?c2 ?k2 ?a3 ?l3 ?c3 ?k3 ?a4 ?l4 ?c4 ?k4 ?a5 ?l5 ?c5 ?k5 ?a6 ?l6 ?c6 ?k6 ?a7 ?l7 ?c7 ?k7 ?a8 ?l8 ?c8 ?k8 ?a9 ?l9 ?c9 ?k9 ?a10 ?l10 ?c10 ?k10 ?a11 ?l11 ?c11 ?k11 ?a12 ?l12 ?c12 ?k12 ?a13 ?l13 ?c13 ?k13 ?a14 ?l14 ?c14 ?k14 ?a15 ?l15 ?c15 ?k15 ?a16 ?l16 ?c16 ?k16 ?a17 ?l17 ?c17 ?k17 ?a18 ?l18 ?c18 ?k18 ?a19 ?l19 ?c19 ?k19 ?a20 ?l20 ?c20 ?k20 ?a21 ?l21 ?c21 ?k21 ?a22 ?l22 ?c22 ?k22 ?a23 ?l23 ?c23 ?k23 ?a24 ?l24 ?c24 ?k24 ?a25 ?l25 ?c25 ?k25 ?a26 ?l26 ?c26 ?k26 ?a27 ?l27 ?c27 ?k27 ?a28 ?l28 ?c28 ?k28 ?a29 ?l29 ?c29 ?k29 ?a30 ?l30 ?c30 ?k30 ?a31 ?l31 ?c31 ?k31 ?a32 ?l32 ?c32 ?k32 ?a33 ?l33 ?c33 ?k33 ?a34 ?l34 ?c34 ?k34 ?a35 ?l35 ?c35 ?k35 ?a36 ?l36 ?c36 ?k36 ?a37 ?l37 ?c37 ?k37 ?a38 ?l38 ?c38 ?k38 ?a39 ?l39 ?c39 ?k39 ?z_abs ?z_all ?z_bool ?z_dict ?z_int ?z_isinstance ?z_len ?z_list ?z_max ?z_min ?z_range ?z_sorted ?z_str ?z_tuple ?z_zip ?gB ?lB ?gF ?gG ?lG ?gH ?lH ?gL ?lL ?gW ?lW
    (case a0 => k_is); (case l0 => k_is); (case c0 => k_is); (case k0 => k_is); (case a1 => k_is); (case l1 => k_is); (case c1 => k_is); (case k1 => k_is); (case a2 => k_is); (case l2 => k_is); (case c2 => k_is); (case k2 => k_is); (case a3 => k_is); (case l3 => k_is); (case c3 => k_is); (case k3 => k_is); (case a4 => k_is); (case l4 => k_is); (case c4 => k_is); (case k4 => k_is); (case a5 => k_is); (case l5 => k_is); (case c5 => k_is); (case k5 => k_is); (case a6 => k_is); (case l6 => k_is); (case c6 => k_is); (case k6 => k_is); (case a7 => k_is); (case l7 => k_is); (case c7 => k_is); (case k7 => k_is); (case a8 => k_is); (case l8 => k_is); (case c8 => k_is); (case k8 => k_is); (case a9 => k_is); (case l9 => k_is); (case c9 => k_is); (case k9 => k_is); (case a10 => k_is); (case l10 => k_is); (case c10 => k_is); (case k10 => k_is); (case a11 => k_is); (case l11 => k_is); (case c11 => k_is); (case k11 => k_is); (case a12 => k_is); (case l12 => k_is); (case c12 => k_is); (case k12 => k_is); (case a13 => k_is); (case l13 => k_is); (case c13 => k_is); (case k13 => k_is); (case a14 => k_is); (case l14 => k_is); (case c14 => k_is); (case k14 => k_is); (case a15 => k_is); (case l15 => k_is); (case c15 => k_is); (case k15 => k_is); (case a16 => k_is); (case l16 => k_is); (case c16 => k_is); (case k16 => k_is); (case a17 => k_is); (case l17 => k_is); (case c17 => k_is); (case k17 => k_is); (case a18 => k_is); (case l18 => k_is); (case c18 => k_is); (case k18 => k_is); (case a19 => k_is); (case l19 => k_is); (case c19 => k_is); (case k19 => k_is); (case a20 => k_is); (case l20 => k_is); (case c20 => k_is); (case k20 => k_is); (case a21 => k_is); (case l21 => k_is); (case c21 => k_is); (case k21 => k_is); (case a22 => k_is); (case l22 => k_is); (case c22 => k_is); (case k22 => k_is); (case a23 => k_is); (case l23 => k_is); (case c23 => k_is); (case k23 => k_is); (case a24 => k_is); (case l24 => k_is); (case c24 => k_is); (case k24 => k_is); (case a25 => k_is); (case l25 => k_is); (case c25 => k_is); (case k25 => k_is); (case a26 => k_is); (case l26 => k_is); (case c26 => k_is); (case k26 => k_is); (case a27 => k_is); (case l27 => k_is); (case c27 => k_is); (case k27 => k_is); (case a28 => k_is); (case l28 => k_is); (case c28 => k_is); (case k28 => k_is); (case a29 => k_is); (case l29 => k_is); (case c29 => k_is); (case k29 => k_is); (case a30 => k_is); (case l30 => k_is); (case c30 => k_is); (case k30 => k_is); (case a31 => k_is); (case l31 => k_is); (case c31 => k_is); (case k31 => k_is); (case a32 => k_is); (case l32 => k_is); (case c32 => k_is); (case k32 => k_is); (case a33 => k_is); (case l33 => k_is); (case c33 => k_is); (case k33 => k_is); (case a34 => k_is); (case l34 => k_is); (case c34 => k_is); (case k34 => k_is); (case a35 => k_is); (case l35 => k_is); (case c35 => k_is); (case k35 => k_is); (case a36 => k_is); (case l36 => k_is); (case c36 => k_is); (case k36 => k_is); (case a37 => k_is); (case l37 => k_is); (case c37 => k_is); (case k37 => k_is); (case a38 => k_is); (case l38 => k_is); (case c38 => k_is); (case k38 => k_is); (case a39 => k_is); (case l39 => k_is); (case c39 => k_is); (case k39 => k_is); (case z_abs => k_is); (case z_all => k_is); (case z_bool => k_is); (case z_dict => k_is); (case z_int => k_is); (case z_isinstance => k_is); (case z_len => k_is); (case z_list => k_is); (case z_max => k_is); (case z_min => k_is); (case z_range => k_is); (case z_sorted => k_is); (case z_str => k_is); (case z_tuple => k_is); (case z_zip => k_is); (case gB => k_is); (case lB => k_is); (case gF => k_is); (case gG => k_is); (case lG => k_is); (case gH => k_is); (case lH => k_is); (case gL => k_is); (case lL => k_is); (case gW => k_is); (case lW => k_is)

