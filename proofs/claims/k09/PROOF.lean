import PyProof.Rows.All
import Wide.All
import OpenK.AllK
import Wide.FinOn
import HandS.ForMost
import HandS.ForExc
import HandS.SortInts
import HandS.SortRule
import HandS.Zip
import HandS.TupAny
import HandS.SetFor
import HandS.Wide
import HandS.Strs
import PyProof.SeqIndex
import KE.KTupSum
import KE.DataMinMax
import KE.SortData
import PyProof.TupleOfSeq
import KE.KDictSum
import HandS.IsInst
import HandS.Steps
import HandS.Style
import KE.KDictPairs
import HandS.Lambda
import HandS.EndTab
import HandS.ExcIs
import HandS.WordsExc
import KE.KNestM
import PyProof.ReprRoads
import HandS.Text
import KE.GoesMore
import PyProof.Rows.StrRev
import HandS.Nested
import KE.KIntText
import KE.IntTextText
import PyProof.StrLawsTight
import PySem.Challenge.RW_ringgaps_k09_lists_anywhere
set_option Elab.async false
set_option linter.all false
set_option maxRecDepth 100000
set_option autoImplicit false
namespace Z
open PySem PySem.Spec PyProof.Rows L2

abbrev D := PyData
/-- a key of a dict as data -/
def kD : Key → D
  | .inl i => .int i
  | .inr s => .str s
def dictD (kvs : List (Key × D)) : D := .dict (kvs.map fun p => (kD p.1, p.2))
abbrev Ex (H H' : Hp) : Prop := ∀ a o, H a = some o → H' a = some o
theorem ex_refl (H : Hp) : Ex H H := fun _ _ h => h
theorem ex_trans {H H1 H2 : Hp} (a : Ex H H1) (b : Ex H1 H2) : Ex H H2 := fun x o h => b x o (a x o h)
theorem ex_new {H : Hp} {p : Addr} {o : HO} (h : H p = none) : Ex H (upd H p o) := fun a u e => by
  rw [upd_ne (ne_of_none e h)]
  exact e
/-- a list at a that none of M is -/
def SqM (K : PySem.W.Frag) (M : List Addr) (H : Hp) (a : Addr) (xs : List V) : Prop :=
  (Rd H a (.lst xs) ∧ a ∉ M) ∨ SqL K (fun _ => none) a xs
theorem sqL_none {K : PySem.W.Frag} {H : Hp} {a : Addr} {xs : List V} (h : SqL K (fun _ => none) a xs) : SqL K H a xs := by
  rcases h with (h | ⟨o, h⟩) | h
  · cases h
  · cases h
  · exact .inr h
theorem SqM.sq {K : PySem.W.Frag} {M : List Addr} {H : Hp} {a : Addr} {xs : List V} (h : SqM K M H a xs) : SqL K H a xs := by
  rcases h with h | h
  · exact .inl h.1
  · exact sqL_none h
/-- a tuple at a: as such, or known to its object, which has no dict -/
def TupAt (H : Hp) (a : Addr) (xs : List V) : Prop := H a = some (.tup xs) ∨ ∃ o : Obj, o.dict = none ∧ H a = some (.frz o (.tup xs))
theorem TupAt.rd {H : Hp} {a : Addr} {xs : List V} (h : TupAt H a xs) : Rd H a (.tup xs) := by
  rcases h with h | ⟨o, _, h⟩
  · exact .inl h
  · exact .inr ⟨o, h⟩
theorem TupAt.sq {K : PySem.W.Frag} {H : Hp} {a : Addr} {xs : List V} (h : TupAt H a xs) : SqT K H a xs := .inl h.rd
mutual
/-- v is the data d; its lists and dicts are none of M -/
inductive Rep (K : PySem.W.Frag) (M : List Addr) (H : Hp) : V → D → Prop
  | non : Rep K M H .non .none
  | bl (b : Bool) : Rep K M H (.bl b) (.bool b)
  | int (i : Int) : Rep K M H (.int i) (.int i)
  | str (x : Str) : Rep K M H (.str x) (.str x)
  | lst {a : Addr} {xs : List V} {ds : List D} : SqM K M H a xs → RepA K M H xs ds → Rep K M H (.ref a) (.list ds)
  | tup {a : Addr} {xs : List V} {ds : List D} : TupAt H a xs → RepA K M H xs ds → Rep K M H (.ref a) (.tuple ds)
  | dct {a : Addr} {kv : List (Key × V)} {kvs : List (Key × D)} {ds : List (D × D)} : Rd H a (.dK kv) → a ∉ M → RepK K M H kv kvs → ds = kvs.map (fun p => (kD p.1, p.2)) → Rep K M H (.ref a) (.dict ds)
inductive RepA (K : PySem.W.Frag) (M : List Addr) (H : Hp) : List V → List D → Prop
  | nil : RepA K M H [] []
  | cons {v : V} {vs : List V} {d : D} {ds : List D} : Rep K M H v d → RepA K M H vs ds → RepA K M H (v :: vs) (d :: ds)
inductive RepK (K : PySem.W.Frag) (M : List Addr) (H : Hp) : List (Key × V) → List (Key × D) → Prop
  | nil : RepK K M H [] []
  | cons {k : Key} {v : V} {vs : List (Key × V)} {d : D} {ds : List (Key × D)} : Rep K M H v d → RepK K M H vs ds → RepK K M H ((k, v) :: vs) ((k, d) :: ds)
end
/-- what carries data from one heap to another -/
structure Go (M M' : List Addr) (H H' : Hp) : Prop where
  l : ∀ a xs, Rd H a (.lst xs) → a ∉ M → Rd H' a (.lst xs) ∧ a ∉ M'
  t : ∀ a xs, H a = some (.tup xs) → H' a = some (.tup xs)
  z : ∀ a o u, H a = some (.frz o u) → H' a = some (.frz o u)
  d : ∀ a kv, Rd H a (.dK kv) → a ∉ M → Rd H' a (.dK kv) ∧ a ∉ M'
section
variable {K : PySem.W.Frag} {M M' : List Addr} {H H' : Hp}
theorem Go.sqm (g : Go M M' H H') {a : Addr} {xs : List V} (h : SqM K M H a xs) : SqM K M' H' a xs := by
  rcases h with h | h
  · exact .inl (g.l a xs h.1 h.2)
  · exact .inr h
theorem Go.tup (g : Go M M' H H') {a : Addr} {xs : List V} (h : TupAt H a xs) : TupAt H' a xs := by
  rcases h with h | ⟨o, n, h⟩
  · exact .inl (g.t _ _ h)
  · exact .inr ⟨o, n, g.z _ _ _ h⟩
mutual
theorem Rep.go (g : Go M M' H H') : ∀ {v : V} {d : D}, Rep K M H v d → Rep K M' H' v d
  | _, _, .non => .non
  | _, _, .bl b => .bl b
  | _, _, .int i => .int i
  | _, _, .str x => .str x
  | _, _, .lst h r => .lst (g.sqm h) (RepA.go g r)
  | _, _, .tup h r => .tup (g.tup h) (RepA.go g r)
  | _, _, .dct h m r e => .dct (g.d _ _ h m).1 (g.d _ _ h m).2 (RepK.go g r) e
theorem RepA.go (g : Go M M' H H') : ∀ {vs : List V} {ds : List D}, RepA K M H vs ds → RepA K M' H' vs ds
  | _, _, .nil => .nil
  | _, _, .cons r t => .cons (Rep.go g r) (RepA.go g t)
theorem RepK.go (g : Go M M' H H') : ∀ {vs : List (Key × V)} {ds : List (Key × D)}, RepK K M H vs ds → RepK K M' H' vs ds
  | _, _, .nil => .nil
  | _, _, .cons r t => .cons (Rep.go g r) (RepK.go g t)
end
theorem rd_ex {a : Addr} {u : HO} (e : Ex H H') (h : Rd H a u) : Rd H' a u := by
  rcases h with h | ⟨o, h⟩
  · exact .inl (e _ _ h)
  · exact .inr ⟨o, e _ _ h⟩
theorem Go.ex (e : Ex H H') : Go M M H H' := ⟨fun _ _ h m => ⟨rd_ex e h, m⟩, fun _ _ h => e _ _ h, fun _ _ _ h => e _ _ h, fun _ _ h m => ⟨rd_ex e h, m⟩⟩
theorem Go.sub (e : ∀ a, a ∈ M' → a ∈ M) : Go M M' H H := ⟨fun _ _ h m => ⟨h, fun z => m (e _ z)⟩, fun _ _ h => h, fun _ _ _ h => h, fun _ _ h m => ⟨h, fun z => m (e _ z)⟩⟩
theorem rd_some {a : Addr} {u : HO} (h : Rd H a u) : H a ≠ none := by
  rcases h with h | ⟨o, h⟩ <;> (rw [h]; intro z; cases z)
/-- a new object that is owned -/
theorem Go.own {p : Addr} {o : HO} (hp : H p = none) : Go M (p :: M) H (upd H p o) where
  l := fun a xs h m => ⟨rd_ex (ex_new hp) h, fun z => by
    rcases List.mem_cons.mp z with z | z
    · subst z
      exact rd_some h hp
    · exact m z⟩
  t := fun a xs h => ex_new hp _ _ h
  z := fun a o u h => ex_new hp _ _ h
  d := fun a kv h m => ⟨rd_ex (ex_new hp) h, fun z => by
    rcases List.mem_cons.mp z with z | z
    · subst z
      exact rd_some h hp
    · exact m z⟩
def Own : Option HO → Prop
  | some (.lst _) => True
  | some (.dK _) => True
  | some (.ins _ _ _) => True
  | some (.ext _) => True
  | _ => False
/-- an owned object is changed -/
theorem Go.mut {p : Addr} {o : HO} (hp : p ∈ M) (ho : Own (H p)) : Go M M H (upd H p o) where
  l := fun a xs h m => by
    have n : a ≠ p := fun z => m (z ▸ hp)
    refine ⟨?_, m⟩
    rcases h with h | ⟨u, h⟩
    · exact .inl (by rw [upd_ne n]; exact h)
    · exact .inr ⟨u, by rw [upd_ne n]; exact h⟩
  t := fun a xs h => by
    have n : a ≠ p := fun z => by
      subst z
      rw [h] at ho
      exact ho
    rw [upd_ne n]
    exact h
  z := fun a ob u h => by
    have n : a ≠ p := fun q => by
      subst q
      rw [h] at ho
      exact ho
    rw [upd_ne n]
    exact h
  d := fun a kv h m => by
    have n : a ≠ p := fun z => m (z ▸ hp)
    refine ⟨?_, m⟩
    rcases h with h | ⟨u, h⟩
    · exact .inl (by rw [upd_ne n]; exact h)
    · exact .inr ⟨u, by rw [upd_ne n]; exact h⟩
theorem Rep.ex {v : V} {d : D} (r : Rep K M H v d) (e : Ex H H') : Rep K M H' v d := r.go (Go.ex e)
theorem RepA.ex {v : List V} {d : List D} (r : RepA K M H v d) (e : Ex H H') : RepA K M H' v d := r.go (Go.ex e)
theorem RepK.ex {v : List (Key × V)} {d : List (Key × D)} (r : RepK K M H v d) (e : Ex H H') : RepK K M H' v d := r.go (Go.ex e)
theorem RepA.length : ∀ {vs : List V} {ds : List D}, RepA K M H vs ds → vs.length = ds.length
  | _, _, .nil => rfl
  | _, _, .cons _ t => by simp [RepA.length t]
theorem RepA.get : ∀ {vs : List V} {ds : List D} {i : Nat} {v : V}, RepA K M H vs ds → vs[i]? = some v → ∃ d, ds[i]? = some d ∧ Rep K M H v d
  | _, _, _, _, .nil, e => by simp at e
  | _, _, 0, _, .cons r _, e => by
    simp at e
    subst e
    exact ⟨_, rfl, r⟩
  | _, _, i + 1, v, .cons _ t, e => by
    obtain ⟨d, h1, h2⟩ := RepA.get (i := i) (v := v) t (by simpa using e)
    exact ⟨d, by simpa using h1, h2⟩
theorem RepA.get' {vs : List V} {ds : List D} {i : Nat} {d : D} (r : RepA K M H vs ds) (e : ds[i]? = some d) : ∃ v, vs[i]? = some v ∧ Rep K M H v d := by
  have h1 : i < vs.length := by rw [r.length]; exact (List.getElem?_eq_some_iff.mp e).1
  obtain ⟨d', e', r'⟩ := r.get (List.getElem?_eq_getElem h1)
  rw [e] at e'
  cases e'
  exact ⟨_, List.getElem?_eq_getElem h1, r'⟩
theorem RepA.append : ∀ {vs ws : List V} {ds es : List D}, RepA K M H vs ds → RepA K M H ws es → RepA K M H (vs ++ ws) (ds ++ es)
  | _, _, _, _, .nil, s => s
  | _, _, _, _, .cons r t, s => .cons r (RepA.append t s)
theorem RepA.take : ∀ {vs : List V} {ds : List D} (n : Nat), RepA K M H vs ds → RepA K M H (vs.take n) (ds.take n)
  | _, _, 0, _ => .nil
  | _, _, _ + 1, .nil => .nil
  | _, _, n + 1, .cons r t => .cons r (RepA.take n t)
theorem RepA.drop : ∀ {vs : List V} {ds : List D} (n : Nat), RepA K M H vs ds → RepA K M H (vs.drop n) (ds.drop n)
  | _, _, 0, r => r
  | _, _, _ + 1, .nil => .nil
  | _, _, n + 1, .cons _ t => RepA.drop n t
theorem RepA.rev {vs : List V} {ds : List D} (r : RepA K M H vs ds) : RepA K M H vs.reverse ds.reverse := by
  induction r using RepA.rec (motive_1 := fun _ _ _ => True) (motive_3 := fun _ _ _ => True) with
  | nil => exact .nil
  | cons r t _ ih =>
    rw [List.reverse_cons, List.reverse_cons]
    exact RepA.append ih (.cons r .nil)
  | _ => trivial
theorem RepA.ints : ∀ {vs : List V} {ns : List Int}, RepA K M H vs (ns.map PyData.int) → vs = ns.map V.int
  | _, [], .nil => rfl
  | _, n :: ns, .cons r t => by
    cases r
    rw [RepA.ints t]
    rfl
theorem RepA.of_ints : ∀ (ns : List Int), RepA K M H (ns.map V.int) (ns.map PyData.int)
  | [] => .nil
  | n :: ns => .cons (.int n) (RepA.of_ints ns)
theorem RepA.strs : ∀ {vs : List V} {ns : List Str}, RepA K M H vs (ns.map PyData.str) → vs = ns.map V.str
  | _, [], .nil => rfl
  | _, n :: ns, .cons r t => by
    cases r
    rw [RepA.strs t]
    rfl
theorem RepA.of_strs : ∀ (ns : List Str), RepA K M H (ns.map V.str) (ns.map PyData.str)
  | [] => .nil
  | n :: ns => .cons (.str n) (RepA.of_strs ns)
theorem RepA.bools : ∀ {vs : List V} {ns : List Bool}, RepA K M H vs (ns.map PyData.bool) → vs = ns.map V.bl
  | _, [], .nil => rfl
  | _, n :: ns, .cons r t => by
    cases r
    rw [RepA.bools t]
    rfl
mutual
theorem Rep.dp : ∀ {v : V} {d : D}, Rep K M H v d → d.canLay0 = true → Dp K H v d
  | _, _, .non, _ => .non
  | _, _, .bl b, _ => .bl b
  | _, _, .int i, _ => .int i
  | _, _, .str x, _ => .str x
  | _, _, .lst h r, s => .lst h.sq (RepA.dp r s)
  | _, _, .tup h r, s => .tup h.sq (RepA.dp r s)
  | _, _, .dct _ _ _ _, n => nomatch n
theorem RepA.dp : ∀ {vs : List V} {ds : List D}, RepA K M H vs ds → PyData.canLayAll0 ds = true → DpAll K H vs ds
  | _, _, .nil, _ => .nil
  | _, _, .cons r t, s => .cons (Rep.dp r (Bool.and_eq_true_iff.mp s).1) (RepA.dp t (Bool.and_eq_true_iff.mp s).2)
end
end

/-! ### the abstract state of a def: its slots and the objects it owns -/
inductive Sl where
  | no
  | dat (d : D)
  | datF (d : D)
  | obj (j : Nat)
inductive MO where
  | no
  | lst (ds : List D)
  | dK (kvs : List (Key × D))
  | ins (C : Addr) (fs : List (Str × D))
structure AS where
  ρ : List Sl
  μ : List MO
/-- a tuple that is known to its object -/
def RepF (K : PySem.W.Frag) (M : List Addr) (H : Hp) (v : V) (d : D) : Prop := Rep K M H v d ∧ ∃ a o u, v = .ref a ∧ H a = some (.frz o (.tup u)) ∧ o.dict = none
abbrev Mx (ps : List (Option Addr)) : List Addr := ps.filterMap id
def SlOk (K : PySem.W.Frag) (ps : List (Option Addr)) (M : List Addr) (H : Hp) (x : Option (Option V)) : Sl → Prop
  | .no => True
  | .dat d => ∃ v, x = some (some v) ∧ Rep K M H v d
  | .datF d => ∃ v, x = some (some v) ∧ RepF K M H v d
  | .obj j => ∃ p, x = some (some (.ref p)) ∧ ps[j]? = some (some p)
def MOk (K : PySem.W.Frag) (M : List Addr) (H : Hp) (p : Option Addr) : MO → Prop
  | .no => p = none
  | .lst ds => ∃ a xs, p = some a ∧ H a = some (.lst xs) ∧ RepA K M H xs ds
  | .dK kvs => ∃ a kv, p = some a ∧ H a = some (.dK kv) ∧ RepK K M H kv kvs
  | .ins C fs => ∃ a dx vs, p = some a ∧ H a = some (.ins C dx vs) ∧ Paired (fun (x : Str × V) (y : Str × D) => x.1 = y.1 ∧ Rep K M H x.2 y.2) vs fs
/-- the frame's slots σ and the heap H are as A says; since H0 nothing has changed but what is new, owned, or of W; F: what callers own -/
structure Has (K : PySem.W.Frag) (W : List Addr) (H0 : Hp) (F : List Addr) (ps : List (Option Addr)) (A : AS) (σ : L2.St) (H : Hp) : Prop where
  ex : ∀ a o, a ∉ W → H0 a = some o → H a = some o
  len : σ.length = A.ρ.length
  sl : ∀ (i : Nat) (s : Sl), A.ρ[i]? = some s → SlOk K ps (Mx ps ++ F) H (σ[i]?) s
  ml : ps.length = A.μ.length
  mo : ∀ (j : Nat) (o : MO), A.μ[j]? = some o → ∃ p, ps[j]? = some p ∧ MOk K (Mx ps ++ F) H p o
  fr : ∀ p ∈ Mx ps, H0 p = none ∨ p ∈ W
  nd : (Mx ps).Nodup
  wf : ∀ a ∈ W, a ∈ F
  wo : ∀ a ∈ W, Own (H a)
  ff : ∀ a ∈ F, H a ≠ none
section
variable {K : PySem.W.Frag} {M M' : List Addr} {H H' : Hp} {ps ps' : List (Option Addr)} {W F : List Addr} {H0 : Hp} {A A' : AS} {σ σ' : L2.St}
theorem RepF.go {v : V} {d : D} (g : Go M M' H H') (h : RepF K M H v d) : RepF K M' H' v d := by
  obtain ⟨r, a, o, u, e, e1, e2⟩ := h
  exact ⟨r.go g, a, o, u, e, g.z _ _ _ e1, e2⟩
theorem RepF.ex {v : V} {d : D} (h : RepF K M H v d) (e : Ex H H') : RepF K M H' v d := h.go (Go.ex e)
theorem SlOk.go {x : Option (Option V)} {s : Sl} (g : Go M M' H H') (h : SlOk K ps M H x s) : SlOk K ps M' H' x s := by
  cases s with
  | no => trivial
  | dat d =>
    obtain ⟨v, e, r⟩ := h
    exact ⟨v, e, r.go g⟩
  | datF d =>
    obtain ⟨v, e, r⟩ := h
    exact ⟨v, e, r.go g⟩
  | obj j => exact h
theorem MOk.own {p : Option Addr} {o : MO} (h : MOk K M H p o) : ∀ a, p = some a → Own (H a) := by
  intro a e
  cases o with
  | no => rw [e] at h; cases h
  | lst ds =>
    obtain ⟨b, xs, e1, e2, _⟩ := h
    rw [e] at e1
    cases e1
    rw [e2]
    trivial
  | dK ds =>
    obtain ⟨b, xs, e1, e2, _⟩ := h
    rw [e] at e1
    cases e1
    rw [e2]
    trivial
  | ins C fs =>
    obtain ⟨b, dx, xs, e1, e2, _⟩ := h
    rw [e] at e1
    cases e1
    rw [e2]
    trivial
theorem MOk.go {p : Option Addr} {o : MO} (g : Go M M' H H') (k : ∀ a u, p = some a → H a = some u → H' a = some u) (h : MOk K M H p o) : MOk K M' H' p o := by
  cases o with
  | no => exact h
  | lst ds =>
    obtain ⟨a, xs, e1, e2, r⟩ := h
    exact ⟨a, xs, e1, k a _ e1 e2, r.go g⟩
  | dK ds =>
    obtain ⟨a, xs, e1, e2, r⟩ := h
    exact ⟨a, xs, e1, k a _ e1 e2, r.go g⟩
  | ins C fs =>
    obtain ⟨a, dx, xs, e1, e2, r⟩ := h
    exact ⟨a, dx, xs, e1, k a _ e1 e2, Paired.mapP r fun p q z => ⟨z.1, z.2.go g⟩⟩
theorem mem_mx {p : Addr} : p ∈ Mx ps ↔ some p ∈ ps := by
  unfold Mx
  rw [List.mem_filterMap]
  constructor
  · rintro ⟨a, h1, h2⟩
    cases h2
    exact h1
  · intro h
    exact ⟨_, h, rfl⟩
/-- what is owned stands in H -/
theorem Has.mx (h : Has K W H0 F ps A σ H) {p : Addr} (hp : p ∈ Mx ps) : Own (H p) := by
  obtain ⟨j, hj, e⟩ := List.getElem_of_mem (mem_mx.mp hp)
  have hj' : j < A.μ.length := by rw [← h.ml]; exact hj
  obtain ⟨q, e1, e2⟩ := h.mo j _ (List.getElem?_eq_getElem hj')
  rw [List.getElem?_eq_getElem hj, e] at e1
  cases e1
  exact e2.own p rfl
theorem own_some {o : Option HO} (h : Own o) : o ≠ none := by
  intro e
  rw [e] at h
  exact h
theorem Has.avoid (h : Has K W H0 F ps A σ H) {p : Addr} (hp : p ∈ Mx ps ++ F) : H p ≠ none := by
  rcases List.mem_append.mp hp with z | z
  · exact own_some (h.mx z)
  · exact h.ff p z
theorem Own.ex {a : Addr} (h : Own (H a)) (e : Ex H H') : Own (H' a) := by
  cases q : H a with
  | none => rw [q] at h; exact h.elim
  | some o =>
    rw [e a o q]
    rw [q] at h
    exact h
theorem Has.ext (h : Has K W H0 F ps A σ H) (e : Ex H H') : Has K W H0 F ps A σ H' where
  ex := fun a o w q => e a o (h.ex a o w q)
  len := h.len
  sl := fun i s q => (h.sl i s q).go (Go.ex e)
  ml := h.ml
  mo := fun j o q => let ⟨p, e1, e2⟩ := h.mo j o q; ⟨p, e1, e2.go (Go.ex e) fun a u _ z => e a u z⟩
  fr := h.fr
  nd := h.nd
  wf := h.wf
  wo := fun a w => (h.wo a w).ex e
  ff := fun a f => by
    cases q : H a with
    | none => exact absurd q (h.ff a f)
    | some o => rw [e a o q]; intro z; cases z
/-- one more foreign object, fresh at H -/
theorem Go.foreign {Dd : Addr} (e : Ex H H') (n : H Dd = none) : Go M (Dd :: M) H H' where
  l := fun a xs h m => ⟨rd_ex e h, fun z => by
    rcases List.mem_cons.mp z with z | z
    · subst z; exact rd_some h n
    · exact m z⟩
  t := fun a xs h => e _ _ h
  z := fun a o u h => e _ _ h
  d := fun a kv h m => ⟨rd_ex e h, fun z => by
    rcases List.mem_cons.mp z with z | z
    · subst z; exact rd_some h n
    · exact m z⟩
theorem Go.perm {M0 : List Addr} (e : ∀ a, a ∈ M' → a ∈ M) (g : Go M0 M H H') : Go M0 M' H H' where
  l := fun a xs h m => ⟨(g.l a xs h m).1, fun z => (g.l a xs h m).2 (e a z)⟩
  t := g.t
  z := g.z
  d := fun a kv h m => ⟨(g.d a kv h m).1, fun z => (g.d a kv h m).2 (e a z)⟩
theorem Go.foreign' {Dd : Addr} (e : Ex H H') (n : H Dd = none) : Go (M ++ F) (M ++ Dd :: F) H H' :=
  Go.perm (M := Dd :: (M ++ F)) (fun a z => by
    rcases List.mem_append.mp z with z | z
    · exact List.mem_cons_of_mem _ (List.mem_append_left _ z)
    · rcases List.mem_cons.mp z with z | z
      · rw [z]; exact List.mem_cons_self
      · exact List.mem_cons_of_mem _ (List.mem_append_right _ z)) (Go.foreign e n)
theorem Has.foreign {Dd : Addr} (h : Has K W H0 F ps A σ H) (e : Ex H H') (n : H Dd = none) (n' : H' Dd ≠ none) : Has K W H0 (Dd :: F) ps A σ H' where
  ex := fun a o w q => e a o (h.ex a o w q)
  len := h.len
  sl := fun i s q => (h.sl i s q).go (Go.foreign' e n)
  ml := h.ml
  mo := fun j o q => let ⟨p, e1, e2⟩ := h.mo j o q; ⟨p, e1, e2.go (Go.foreign' e n) fun a u _ z => e a u z⟩
  fr := h.fr
  nd := h.nd
  wf := fun a w => List.mem_cons_of_mem _ (h.wf a w)
  wo := fun a w => (h.wo a w).ex e
  ff := fun a f => by
    rcases List.mem_cons.mp f with z | z
    · rw [z]; exact n'
    · exact (h.ext e).ff a z
/-- a slot is stored -/
theorem Has.set (h : Has K W H0 F ps A σ H) {i : Nat} {v : V} {s : Sl} (r : SlOk K ps (Mx ps ++ F) H (some (some v)) s) : Has K W H0 F ps { A with ρ := A.ρ.set i s } (σ.set i (some v)) H where
  ex := h.ex
  len := by simp [h.len]
  sl := fun j s' q => by
    by_cases hj : i = j
    · subst hj
      by_cases hl : i < A.ρ.length
      · have q' : (A.ρ.set i s)[i]? = some s' := q
        rw [List.getElem?_set_self hl] at q'
        cases q'
        rw [List.getElem?_set_self (by rw [h.len]; exact hl)]
        exact r
      · have q' : (A.ρ.set i s)[i]? = some s' := q
        rw [List.getElem?_eq_none (by simpa using hl)] at q'
        cases q'
    · have q' : (A.ρ.set i s)[j]? = some s' := q
      rw [List.getElem?_set_ne hj] at q'
      rw [List.getElem?_set_ne hj]
      exact h.sl j s' q'
  ml := h.ml
  mo := h.mo
  fr := h.fr
  nd := h.nd
  wf := h.wf
  wo := h.wo
  ff := h.ff
/-- .. forgotten -/
theorem Has.unset (h : Has K W H0 F ps A σ H) (i : Nat) : Has K W H0 F ps { A with ρ := A.ρ.set i .no } (σ.set i none) H where
  ex := h.ex
  len := by simp [h.len]
  sl := fun j s' q => by
    have q' : (A.ρ.set i .no)[j]? = some s' := q
    by_cases hj : i = j
    · subst hj
      by_cases hl : i < A.ρ.length
      · rw [List.getElem?_set_self hl] at q'
        cases q'
        trivial
      · rw [List.getElem?_eq_none (by simpa using hl)] at q'
        cases q'
    · rw [List.getElem?_set_ne hj] at q'
      rw [List.getElem?_set_ne hj]
      exact h.sl j s' q'
  ml := h.ml
  mo := h.mo
  fr := h.fr
  nd := h.nd
  wf := h.wf
  wo := h.wo
  ff := h.ff
end

/-! ### expressions -/
def tD (K : PySem.W.Frag) (A : AS) (d : D) : TE := fun σ H Q => ∃ W H0 F ps, Has K W H0 F ps A σ H ∧ ∀ v H', Ex H H' → Rep K (Mx ps ++ F) H' v d → Q v H'
def tDs (K : PySem.W.Frag) (A : AS) (ds : List D) : TA := fun σ H Q => ∃ W H0 F ps, Has K W H0 F ps A σ H ∧ ∀ vs H', Ex H H' → RepA K (Mx ps ++ F) H' vs ds → Q vs H'
def tT (K : PySem.W.Frag) (A : AS) (b : Bool) : TT := fun σ H Q => ∃ W H0 F ps, Has K W H0 F ps A σ H ∧ ∀ H', Ex H H' → Q b H'
/-- e is the data d where the state is A -/
def PD (X : Cx) (A : AS) (e : Expr) (d : D) : Prop := PE X e (tD X.K A d)
def PDs (X : Cx) (A : AS) (es : List Expr) (ds : List D) : Prop := PA X es (tDs X.K A ds)
def PTD (X : Cx) (A : AS) (e : Expr) (b : Bool) : Prop := PT X e (tT X.K A b)
def PWD (X : Cx) (A : AS) (e : Expr) (b : Bool) : Prop := PW X e (tT X.K A b)
section
variable {X : Cx} {A : AS} {e a b c : Expr} {es : List Expr} {d x y z : D} {ds : List D} {pos : Pos}
theorem pd_of {t : TE} (h : PE X e t) (r : ∀ σ H Q, tD X.K A d σ H Q → t σ H Q) : PD X A e d := ⟨fun pins s σ H Q I hq => h.run pins s σ H Q I (r σ H Q hq)⟩
theorem ptd_of {t : TT} {k : Bool} (h : PT X e t) (r : ∀ σ H Q, tT X.K A k σ H Q → t σ H Q) : PTD X A e k := ⟨fun pins s σ H Q I hq => h.run pins s σ H Q I (r σ H Q hq)⟩
theorem pwd_of {t : TT} {k : Bool} (h : PW X e t) (r : ∀ σ H Q, tT X.K A k σ H Q → t σ H Q) : PWD X A e k := ⟨fun wh pins s σ H Q I hq => h.run wh pins s σ H Q I (r σ H Q hq)⟩
theorem pds_of {t : TA} (h : PA X es t) (r : ∀ σ H Q, tDs X.K A ds σ H Q → t σ H Q) : PDs X A es ds := ⟨fun ps pins s σ H Q I hq => h.run ps pins s σ H Q I (r σ H Q hq)⟩
theorem PD.eq (h : PD X A e x) (q : x = y) : PD X A e y := q ▸ h
theorem pd_as (h : PD X A e x) (q : x = y := by rfl) : PD X A e y := q ▸ h
theorem pd_var (i : Nat) {n : Str} (h : A.ρ[i]? = some (.dat d) := by rfl) (hN : X.N[i]? = some n := by rfl) (hv : Vis X.env.scope n := by first | exact Or.inl rfl | exact Or.inr (Or.inl rfl) | exact Or.inr (Or.inr rfl))
    (hd : (n == ("__debug__" : Str)) = false := by decide) (hcd : (n == ("__classdict__" : Str)) = false := by decide) : PD X A (.Name n pos) d :=
  pd_of (pe_var hN hv hd hcd) fun σ H Q ⟨W, H0, F, ps, hs, q⟩ => by
    obtain ⟨v, e, r⟩ := hs.sl i _ h
    exact ⟨v, e, q v H (ex_refl H) r⟩
theorem pd_int {i j} : PD X A (.Constant (.int i) j pos) (.int i) := pd_of pe_int fun σ H Q ⟨W, H0, F, ps, hs, q⟩ => q _ H (ex_refl H) (.int i)
theorem pd_bl {i j} : PD X A (.Constant (.bool i) j pos) (.bool i) := pd_of pe_bl fun σ H Q ⟨W, H0, F, ps, hs, q⟩ => q _ H (ex_refl H) (.bl i)
theorem pd_non {j} : PD X A (.Constant .none j pos) .none := pd_of pe_non fun σ H Q ⟨W, H0, F, ps, hs, q⟩ => q _ H (ex_refl H) .non
theorem pd_str {i j} : PD X A (.Constant (.str i) j pos) (.str i) := pd_of pe_str fun σ H Q ⟨W, H0, F, ps, hs, q⟩ => q _ H (ex_refl H) (.str i)
/-- a module's constant -/
theorem pd_globS {n : Str} {s : Str} {u : Value} (hg : Gl X n) (hm : X.mg n = some u) (r : RelV (.str s) u) (hd : (n == ("__debug__" : Str)) = false := by decide) : PD X A (.Name n pos) (.str s) :=
  pd_of (pe_glob hg hm r hd) fun σ H Q ⟨W, H0, F, ps, hs, q⟩ => q _ H (ex_refl H) (.str s)
theorem pd_globI {n : Str} {s : Int} {u : Value} (hg : Gl X n) (hm : X.mg n = some u) (r : RelV (.int s) u) (hd : (n == ("__debug__" : Str)) = false := by decide) : PD X A (.Name n pos) (.int s) :=
  pd_of (pe_glob hg hm r hd) fun σ H Q ⟨W, H0, F, ps, hs, q⟩ => q _ H (ex_refl H) (.int s)

/-- a two-place operation by values, told by data -/
def RD2 (K : PySem.W.Frag) (r : R2) (x y d : D) : Prop := ∀ (M : List Addr) (H : Hp) (vx vy : V) (Q : VK), (∀ a ∈ M, H a ≠ none) → Rep K M H vx x → Rep K M H vy y → (∀ v H', Ex H H' → Rep K M H' v d → Q v H') → r vx vy H Q
def RD1 (K : PySem.W.Frag) (r : V → Hp → VK → Prop) (x d : D) : Prop := ∀ (M : List Addr) (H : Hp) (vx : V) (Q : VK), (∀ a ∈ M, H a ≠ none) → Rep K M H vx x → (∀ v H', Ex H H' → Rep K M H' v d → Q v H') → r vx H Q
def RDn (K : PySem.W.Frag) (r : List V → Hp → VK → Prop) (xs : List D) (d : D) : Prop := ∀ (M : List Addr) (H : Hp) (vs : List V) (Q : VK), (∀ a ∈ M, H a ≠ none) → RepA K M H vs xs → (∀ v H', Ex H H' → Rep K M H' v d → Q v H') → r vs H Q
theorem tD_bin {ta tb : TE} (ha : ∀ σ H Q, tD X.K A x σ H Q → ta σ H Q) (hb : ∀ σ H Q, tD X.K A y σ H Q → tb σ H Q) {r : R2} (hr : RD2 X.K r x y d) {σ : L2.St} {H : Hp} {Q : VK} (h : tD X.K A d σ H Q) : tOp r ta tb σ H Q := by
  obtain ⟨W, H0, F, ps, hs, q⟩ := h
  refine ha _ _ _ ⟨W, H0, F, ps, hs, fun vx H1 e1 r1 => hb _ _ _ ⟨W, H0, F, ps, hs.ext e1, fun vy H2 e2 r2 => ?_⟩⟩
  exact hr (Mx ps ++ F) H2 vx vy Q (fun a m => ((hs.ext e1).ext e2).avoid m) (r1.ex e2) r2 fun v H3 e3 r3 => q v H3 (ex_trans e1 (ex_trans e2 e3)) r3
theorem pd_op {op : Operator} {r : R2} (ho : OpR X (binaryOp op) r) (hr : RD2 X.K r x y d) (ha : PD X A a x) (hb : PD X A b y) : PD X A (.BinOp a op b pos) d :=
  pd_of (pe_op ho ha hb) fun σ H Q h => tD_bin (fun _ _ _ h => h) (fun _ _ _ h => h) hr h
theorem pd_cmp {op : CmpOp} {r : R2} (ho : OpR X (compareOp op) r) (hr : RD2 X.K r x y d) (ha : PD X A a x) (hb : PD X A b y) (hm : behindInMarks op b = false) : PD X A (.Compare a [op] [b] pos) d :=
  pd_of (pe_cmpR ho ha hb hm) fun σ H Q h => tD_bin (fun _ _ _ h => h) (fun _ _ _ h => h) hr h
theorem ptd_cmp {op : CmpOp} {r : R2} {k : Bool} (ho : OpR X (compareOp op) r) (hr : RD2 X.K r x y (.bool k)) (ha : PD X A a x) (hb : PD X A b y) (hm : behindInMarks op b = false) : PTD X A (.Compare a [op] [b] pos) k :=
  ptd_of (pt_cmpR ho ha hb hm) fun σ H Q ⟨W, H0, F, ps, hs, q⟩ => tD_bin (d := .bool k) (fun _ _ _ h => h) (fun _ _ _ h => h) hr ⟨W, H0, F, ps, hs, fun v H' e r => by
    cases r
    exact ⟨k, rfl, q H' e⟩⟩
theorem pd_ix {r : R2} (hi : IxR X r) (hr : RD2 X.K r x y d) (ha : PD X A a x) (hb : PD X A b y) (hs : PlainIx b := by intro _ _; rfl) : PD X A (.Subscript a b pos) d :=
  pd_of (pe_ix hi ha hb hs) fun σ H Q h => tD_bin (fun _ _ _ h => h) (fun _ _ _ h => h) hr h
theorem pd_un {op : UnaryOp} {r : V → Hp → VK → Prop} (ho : UnR X (unaryOp op) r) (hr : RD1 X.K r x d) (ha : PD X A a x) : PD X A (.UnaryOp op a pos) d :=
  pd_of (pe_un ho ha) fun σ H Q ⟨W, H0, F, ps, hs, q⟩ => ⟨W, H0, F, ps, hs, fun vx H1 e1 r1 => hr (Mx ps ++ F) H1 vx Q (fun a m => (hs.ext e1).avoid m) r1 fun v H2 e2 r2 => q v H2 (ex_trans e1 e2) r2⟩
/-- a test by the value -/
theorem ptd_val {k : Bool} (h : PD X A e (.bool k)) (he : ∀ whole, isTrue e X.env whole = (do let v ← whole; standAt e.pos; holding [v] (truthy v)) := by intro _; rfl) : PTD X A e k :=
  ptd_of (pt_val h he) fun σ H Q ⟨W, H0, F, ps, hs, q⟩ => ⟨W, H0, F, ps, hs, fun v H' ex r => by
    cases r
    exact ⟨k, rfl, q H' ex⟩⟩
theorem PTD.eq {k k' : Bool} (h : PTD X A e k) (q : k = k') : PTD X A e k' := q ▸ h
/-! arguments, displays -/
theorem pds_nil : PDs X A [] [] := pds_of pa_nil fun σ H Q ⟨W, H0, F, ps, hs, q⟩ => q [] H (ex_refl H) .nil
theorem pds_cons (ha : PD X A e d) (hr : PDs X A es ds) (hs : starEach (e :: es) X.env = (false, eval e X.env) :: starEach es X.env := by rfl) : PDs X A (e :: es) (d :: ds) :=
  pds_of (pa_cons ha hr hs) fun σ H Q ⟨W, H0, F, ps, hs, q⟩ => ⟨W, H0, F, ps, hs, fun v H1 e1 r1 => ⟨W, H0, F, ps, hs.ext e1, fun vs H2 e2 r2 => q (v :: vs) H2 (ex_trans e1 e2) (.cons (r1.ex e2) r2)⟩⟩
theorem pd_tup {x1} (h : PDs X A es ds) (hl : ds.length ≤ 1000 := by exact Nat.le_of_ble_eq_true rfl) : PD X A (.Tuple es x1 pos) (.tuple ds) :=
  pd_of (pe_tup h) fun σ H Q ⟨W, H0, F, ps, hs, q⟩ => ⟨W, H0, F, ps, hs, fun vs H1 e1 r1 => ⟨by rw [r1.length]; exact Nat.le_trans hl (by decide), fun p hp =>
    q (.ref p) _ (ex_trans e1 (ex_new hp)) (.tup (.inl upd_same) (r1.ex (ex_new hp)))⟩⟩
theorem pd_lst (h : PDs X A es ds) (hl : ds.length ≤ 1000 := by exact Nat.le_of_ble_eq_true rfl) : PD X A (.List es pos) (.list ds) :=
  pd_of (pe_lst h) fun σ H Q ⟨W, H0, F, ps, hs, q⟩ => ⟨W, H0, F, ps, hs, fun vs H1 e1 r1 => ⟨by rw [r1.length]; exact Nat.le_trans hl (by decide), fun p hp =>
    q (.ref p) _ (ex_trans e1 (ex_new hp)) (.lst (.inl ⟨.inl upd_same, fun m => (hs.ext e1).avoid m hp⟩) (r1.ex (ex_new hp)))⟩⟩
/-! calls of built-ins -/
theorem pd_callB {n id : Str} {i : String} {p : Pos} {r : List V → Hp → VK → Prop} (hc : CallR X (.builtin i) r) (hr : RDn X.K r (x :: ds) d) (hm : X.mg n = none) (hv : bootBuiltins n = some (.builtin i)) (ha : PDs X A (e :: es) (x :: ds)) (hg : Gl X n := by rfl) (hn : n ≠ "__name__" := by decide) (hdb : (n == ("__debug__" : Str)) = false := by decide)
    (he : starEach (e :: es) X.env = (false, eval e X.env) :: starEach es X.env := by rfl) (hpl : (backTo pos (starEach es X.env)).any (·.1) = false := by rfl) : PD X A (.Call (.Name n p) (e :: es) [] pos) d :=
  pd_of (pe_callB hc hg hm hv ha hn hdb he hpl) fun σ H Q ⟨W, H0, F, ps, hs, q⟩ => ⟨W, H0, F, ps, hs, fun vs H1 e1 r1 => hr (Mx ps ++ F) H1 vs Q (fun a m => (hs.ext e1).avoid m) r1 fun v H2 e2 r2 => q v H2 (ex_trans e1 e2) r2⟩
theorem pd_callT {n : Str} {T : String} {p : Pos} {r : List V → Hp → VK → Prop} (hc : CallR X (.type T) r) (hr : RDn X.K r (x :: ds) d) (hm : X.mg n = none) (hv : bootBuiltins n = some (.type T)) (ha : PDs X A (e :: es) (x :: ds)) (hg : Gl X n := by rfl) (hn : n ≠ "__name__" := by decide) (hdb : (n == ("__debug__" : Str)) = false := by decide)
    (he : starEach (e :: es) X.env = (false, eval e X.env) :: starEach es X.env := by rfl) (hpl : (backTo pos (starEach es X.env)).any (·.1) = false := by rfl) : PD X A (.Call (.Name n p) (e :: es) [] pos) d :=
  pd_of (pe_callTy hc hg hm hv ha hn hdb he hpl) fun σ H Q ⟨W, H0, F, ps, hs, q⟩ => ⟨W, H0, F, ps, hs, fun vs H1 e1 r1 => hr (Mx ps ++ F) H1 vs Q (fun a m => (hs.ext e1).avoid m) r1 fun v H2 e2 r2 => q v H2 (ex_trans e1 e2) r2⟩
/-! ints -/
theorem rd_I0 {g : Int → Int → Int} {i j : Int} {K : PySem.W.Frag} : RD2 K (rI0 fun i j => .int (g i j)) (.int i) (.int j) (.int (g i j)) := fun M H vx vy Q _ r1 r2 q => by
  cases r1
  cases r2
  exact ⟨i, j, rfl, rfl, q _ H (ex_refl H) (.int _)⟩
theorem rd_I {C : Int → Int → Prop} {g : Int → Int → Int} {i j : Int} {K : PySem.W.Frag} (hc : C i j) : RD2 K (rI C fun i j => .int (g i j)) (.int i) (.int j) (.int (g i j)) := fun M H vx vy Q _ r1 r2 q => by
  cases r1
  cases r2
  exact ⟨i, j, rfl, rfl, hc, q _ H (ex_refl H) (.int _)⟩
theorem rd_B0 {g : Int → Int → Bool} {i j : Int} {K : PySem.W.Frag} : RD2 K (rI0 fun i j => .bl (g i j)) (.int i) (.int j) (.bool (g i j)) := fun M H vx vy Q _ r1 r2 q => by
  cases r1
  cases r2
  exact ⟨i, j, rfl, rfl, q _ H (ex_refl H) (.bl _)⟩
variable {i j : Int}
theorem pd_add (ha : PD X A a (.int i)) (hb : PD X A b (.int j)) : PD X A (.BinOp a .Add b pos) (.int (i + j)) := pd_op op_add rd_I0 ha hb
theorem pd_sub (ha : PD X A a (.int i)) (hb : PD X A b (.int j)) : PD X A (.BinOp a .Sub b pos) (.int (i - j)) := pd_op op_sub rd_I0 ha hb
theorem pd_mul (ha : PD X A a (.int i)) (hb : PD X A b (.int j)) (hc : CMul i j) : PD X A (.BinOp a .Mult b pos) (.int (i * j)) := pd_op op_mul (rd_I hc) ha hb
theorem pd_mod (ha : PD X A a (.int i)) (hb : PD X A b (.int j)) (hc : 0 < j) : PD X A (.BinOp a .Mod b pos) (.int (i % j)) := pd_op op_mod (rd_I (C := fun _ j => 0 < j) hc) ha hb
theorem pd_fdiv (ha : PD X A a (.int i)) (hb : PD X A b (.int j)) (hc : 0 < j ∧ j < 1073741824) : PD X A (.BinOp a .FloorDiv b pos) (.int (i / j)) := pd_op op_fdiv (rd_I (C := CDiv) hc) ha hb
theorem pd_neg (ha : PD X A a (.int i)) : PD X A (.UnaryOp .USub a pos) (.int (-i)) := pd_un un_neg (fun M H vx Q _ r1 q => by
  cases r1
  exact ⟨i, rfl, q _ H (ex_refl H) (.int _)⟩) ha
theorem pd_lt (ha : PD X A a (.int i)) (hb : PD X A b (.int j)) : PD X A (.Compare a [.Lt] [b] pos) (.bool (decide (i < j))) := pd_cmp op_lt rd_B0 ha hb (nomark _)
theorem pd_le (ha : PD X A a (.int i)) (hb : PD X A b (.int j)) : PD X A (.Compare a [.LtE] [b] pos) (.bool (decide (i ≤ j))) := pd_cmp op_le rd_B0 ha hb (nomark _)
theorem pd_gt (ha : PD X A a (.int i)) (hb : PD X A b (.int j)) : PD X A (.Compare a [.Gt] [b] pos) (.bool (decide (j < i))) := pd_cmp op_gt rd_B0 ha hb (nomark _)
theorem pd_ge (ha : PD X A a (.int i)) (hb : PD X A b (.int j)) : PD X A (.Compare a [.GtE] [b] pos) (.bool (decide (j ≤ i))) := pd_cmp op_ge rd_B0 ha hb (nomark _)
theorem rd_eqI {K : PySem.W.Frag} : RD2 K rEq (.int i) (.int j) (.bool (decide (i = j))) := fun M H vx vy Q _ r1 r2 q => by
  cases r1
  cases r2
  refine ⟨rfl, ?_⟩
  have e : decide (V.int i = V.int j) = decide (i = j) := by
    by_cases h : i = j
    · rw [h]; simp
    · rw [decide_eq_false h, decide_eq_false (fun z => h (V.int.inj z))]
  rw [e]
  exact q _ H (ex_refl H) (.bl _)
theorem rd_neI {K : PySem.W.Frag} : RD2 K rNe (.int i) (.int j) (.bool (!decide (i = j))) := fun M H vx vy Q _ r1 r2 q => by
  cases r1
  cases r2
  refine ⟨rfl, ?_⟩
  have e : decide (V.int i = V.int j) = decide (i = j) := by
    by_cases h : i = j
    · rw [h]; simp
    · rw [decide_eq_false h, decide_eq_false (fun z => h (V.int.inj z))]
  rw [e]
  exact q _ H (ex_refl H) (.bl _)
theorem pd_eq (ha : PD X A a (.int i)) (hb : PD X A b (.int j)) : PD X A (.Compare a [.Eq] [b] pos) (.bool (decide (i = j))) := pd_cmp op_eq rd_eqI ha hb (nomark _)
theorem pd_ne (ha : PD X A a (.int i)) (hb : PD X A b (.int j)) : PD X A (.Compare a [.NotEq] [b] pos) (.bool (!decide (i = j))) := pd_cmp op_ne rd_neI ha hb (nomark _)
theorem pt_lt (ha : PD X A a (.int i)) (hb : PD X A b (.int j)) : PTD X A (.Compare a [.Lt] [b] pos) (decide (i < j)) := ptd_cmp op_lt rd_B0 ha hb (nomark _)
theorem pt_le (ha : PD X A a (.int i)) (hb : PD X A b (.int j)) : PTD X A (.Compare a [.LtE] [b] pos) (decide (i ≤ j)) := ptd_cmp op_le rd_B0 ha hb (nomark _)
theorem pt_gt (ha : PD X A a (.int i)) (hb : PD X A b (.int j)) : PTD X A (.Compare a [.Gt] [b] pos) (decide (j < i)) := ptd_cmp op_gt rd_B0 ha hb (nomark _)
theorem pt_ge (ha : PD X A a (.int i)) (hb : PD X A b (.int j)) : PTD X A (.Compare a [.GtE] [b] pos) (decide (j ≤ i)) := ptd_cmp op_ge rd_B0 ha hb (nomark _)
theorem pt_eq (ha : PD X A a (.int i)) (hb : PD X A b (.int j)) : PTD X A (.Compare a [.Eq] [b] pos) (decide (i = j)) := ptd_cmp op_eq rd_eqI ha hb (nomark _)
theorem pt_ne (ha : PD X A a (.int i)) (hb : PD X A b (.int j)) : PTD X A (.Compare a [.NotEq] [b] pos) (!decide (i = j)) := ptd_cmp op_ne rd_neI ha hb (nomark _)
/-! == of data -/
theorem rd_eqD {K : PySem.W.Frag} (hx : SeqAt.shaped x = true) (hy : SeqAt.shaped y = true) : RD2 K (rEqD K) x y (.bool (PyData.eqv x y)) := fun M H vx vy Q _ r1 r2 q =>
  ⟨x, y, r1.dp (SeqAt.canLay_of_shaped hx), r2.dp (SeqAt.canLay_of_shaped hy), hx, hy, q _ H (ex_refl H) (.bl _)⟩
theorem rd_neD {K : PySem.W.Frag} (hx : SeqAt.shaped x = true) (hy : SeqAt.shaped y = true) : RD2 K (rNeD K) x y (.bool (!PyData.eqv x y)) := fun M H vx vy Q _ r1 r2 q =>
  ⟨x, y, r1.dp (SeqAt.canLay_of_shaped hx), r2.dp (SeqAt.canLay_of_shaped hy), hx, hy, q _ H (ex_refl H) (.bl _)⟩
theorem pd_eqD (hu : X.A.units + 64 < cLine) (hx : SeqAt.shaped x = true) (hy : SeqAt.shaped y = true) (ha : PD X A a x) (hb : PD X A b y) : PD X A (.Compare a [.Eq] [b] pos) (.bool (PyData.eqv x y)) := pd_cmp (op_eqD hu) (rd_eqD hx hy) ha hb (nomark _)
theorem pt_eqD (hu : X.A.units + 64 < cLine) (hx : SeqAt.shaped x = true) (hy : SeqAt.shaped y = true) (ha : PD X A a x) (hb : PD X A b y) : PTD X A (.Compare a [.Eq] [b] pos) (PyData.eqv x y) := ptd_cmp (op_eqD hu) (rd_eqD hx hy) ha hb (nomark _)
theorem pd_neD (hu : X.A.units + 64 < cLine) (hx : SeqAt.shaped x = true) (hy : SeqAt.shaped y = true) (ha : PD X A a x) (hb : PD X A b y) : PD X A (.Compare a [.NotEq] [b] pos) (.bool (!PyData.eqv x y)) := pd_cmp (op_neD hu) (rd_neD hx hy) ha hb (nomark _)
theorem pt_neD (hu : X.A.units + 64 < cLine) (hx : SeqAt.shaped x = true) (hy : SeqAt.shaped y = true) (ha : PD X A a x) (hb : PD X A b y) : PTD X A (.Compare a [.NotEq] [b] pos) (!PyData.eqv x y) := ptd_cmp (op_neD hu) (rd_neD hx hy) ha hb (nomark _)
/-! subscripts -/
theorem at_rep {K : PySem.W.Frag} {M : List Addr} {H : Hp} {xs : List V} (r : RepA K M H xs ds) (h : atI ds i = some d) : ∃ v, atI xs i = some v ∧ Rep K M H v d := by
  unfold atI at h ⊢
  rw [r.length]
  cases e : ixN ds.length i with
  | none => rw [e] at h; cases h
  | some k =>
    rw [e] at h
    exact r.get' (show ds[k]? = some d from h)
theorem pd_ixT (ha : PD X A a (.tuple ds)) (hb : PD X A b (.int i)) (h : atI ds i = some d := by rfl) (hs : PlainIx b := by intro _ _; rfl) : PD X A (.Subscript a b pos) d :=
  pd_ix ix_tup (fun M H vx vy Q _ r1 r2 q => by
    cases r2
    cases r1 with
    | tup h1 r =>
      obtain ⟨v, e, rv⟩ := at_rep r h
      exact ⟨_, _, i, v, rfl, rfl, h1.sq, e, q v H (ex_refl H) rv⟩) ha hb hs
theorem pd_ixL (ha : PD X A a (.list ds)) (hb : PD X A b (.int i)) (h : atI ds i = some d := by rfl) (hs : PlainIx b := by intro _ _; rfl) : PD X A (.Subscript a b pos) d :=
  pd_ix ix_list (fun M H vx vy Q _ r1 r2 q => by
    cases r2
    cases r1 with
    | lst h1 r =>
      obtain ⟨v, e, rv⟩ := at_rep r h
      exact ⟨_, _, i, v, rfl, rfl, h1.sq, e, q v H (ex_refl H) rv⟩) ha hb hs
/-! expressions whose value is a tuple known to its object -/
end
def tDF (K : PySem.W.Frag) (A : AS) (d : D) : TE := fun σ H Q => ∃ W H0 F ps, Has K W H0 F ps A σ H ∧ ∀ v H', Ex H H' → RepF K (Mx ps ++ F) H' v d → Q v H'
def PDF (X : Cx) (A : AS) (e : Expr) (d : D) : Prop := PE X e (tDF X.K A d)
section
variable {X : Cx} {A : AS} {e a b c : Expr} {es : List Expr} {d x y z : D} {ds : List D} {pos : Pos}
theorem PDF.pd (h : PDF X A e d) : PD X A e d := ⟨fun pins s σ H Q I ⟨W, H0, F, ps, hs, q⟩ => h.run pins s σ H Q I ⟨W, H0, F, ps, hs, fun v H' x r => q v H' x r.1⟩⟩
theorem pdf_of {t : TE} (h : PE X e t) (r : ∀ σ H Q, tDF X.K A d σ H Q → t σ H Q) : PDF X A e d := ⟨fun pins s σ H Q I hq => h.run pins s σ H Q I (r σ H Q hq)⟩
theorem PDF.eq (h : PDF X A e x) (q : x = y) : PDF X A e y := q ▸ h
theorem pdf_var (i : Nat) {n : Str} (h : A.ρ[i]? = some (.datF d) := by rfl) (hN : X.N[i]? = some n := by rfl) (hv : Vis X.env.scope n := by first | exact Or.inl rfl | exact Or.inr (Or.inl rfl) | exact Or.inr (Or.inr rfl))
    (hd : (n == ("__debug__" : Str)) = false := by decide) (hcd : (n == ("__classdict__" : Str)) = false := by decide) : PDF X A (.Name n pos) d :=
  pdf_of (pe_var hN hv hd hcd) fun σ H Q ⟨W, H0, F, ps, hs, q⟩ => by
    obtain ⟨v, e, r⟩ := hs.sl i _ h
    exact ⟨v, e, q v H (ex_refl H) r⟩
end
end Z

namespace Z
open PySem PySem.Spec PyProof.Rows L2

/-! ### statements -/
structure AE where
  nx : AS → Prop
  rt : AS → D → Prop
  rtF : AS → D → Prop := fun _ _ => False
  bk : AS → Prop := fun _ => False
  ct : AS → Prop := fun _ => False
structure Rz (K : PySem.W.Frag) (W : List Addr) (H0 : Hp) (F : List Addr) (Φ : AE) (Dn : Ends) : Prop where
  nx : ∀ ps A σ H, Has K W H0 F ps A σ H → Φ.nx A → Dn.nx σ H
  bk : ∀ ps A σ H, Has K W H0 F ps A σ H → Φ.bk A → Dn.bk σ H
  ct : ∀ ps A σ H, Has K W H0 F ps A σ H → Φ.ct A → Dn.ct σ H
  rt : ∀ ps A σ H v d, Has K W H0 F ps A σ H → Rep K (Mx ps ++ F) H v d → Φ.rt A d → Dn.rt v H
  rtF : ∀ ps A σ H v d, Has K W H0 F ps A σ H → RepF K (Mx ps ++ F) H v d → Φ.rtF A d → Dn.rt v H
def tS (K : PySem.W.Frag) (A : AS) (Φ : AE) : TS := fun Dn σ H => ∃ W H0 F ps, Has K W H0 F ps A σ H ∧ Rz K W H0 F Φ Dn
def SD (X : Cx) (A : AS) (st : Stmt) (Φ : AE) : Prop := PS X st (tS X.K A Φ)
def SDs (X : Cx) (A : AS) (st : List Stmt) (Φ : AE) : Prop := PSs X st (tS X.K A Φ)
section
variable {X : Cx} {A : AS} {Φ : AE} {st : Stmt} {rest sts : List Stmt} {e a b c : Expr} {es : List Expr} {d x y z : D} {ds : List D} {pos : Pos}
theorem sd_of {t : TS} (h : PS X st t) (r : ∀ Dn σ H, tS X.K A Φ Dn σ H → t Dn σ H) : SD X A st Φ := ⟨fun pins s σ H Dn I hq => h.run pins s σ H Dn I (r Dn σ H hq)⟩
theorem sds_of {t : TS} (h : PSs X sts t) (r : ∀ Dn σ H, tS X.K A Φ Dn σ H → t Dn σ H) : SDs X A sts Φ := ⟨fun pins s σ H Dn I hq => h.run pins s σ H Dn I (r Dn σ H hq)⟩
theorem sds_nil (h : Φ.nx A) : SDs X A [] Φ := sds_of pss_nil fun Dn σ H ⟨W, H0, F, ps, hs, rz⟩ => rz.nx ps A σ H hs h
theorem sds_cons (h : SD X A st { Φ with nx := fun A' => SDs X A' rest Φ }) : SDs X A (st :: rest) Φ := by
  have h2 : PSs X rest (fun Dn σ H => ∃ A', SDs X A' rest Φ ∧ tS X.K A' Φ Dn σ H) := ⟨fun pins s σ H Dn I ⟨A', hs, q⟩ => hs.run pins s σ H Dn I q⟩
  exact sds_of (pss_cons h h2) fun Dn σ H ⟨W, H0, F, ps, hs, rz⟩ => ⟨W, H0, F, ps, hs,
    { nx := fun ps' A' σ' H' h' q => ⟨A', q, W, H0, F, ps', h', rz⟩
      bk := rz.bk
      ct := rz.ct
      rt := rz.rt
      rtF := rz.rtF }⟩
theorem sds_one (h : SD X A st Φ) : SDs X A [st] Φ := sds_of (pss_one h) fun _ _ _ h => h
/-- the state told otherwise -/
theorem SDs.has {A' : AS} (h : SDs X A' sts Φ) (w : ∀ W H0 F ps σ H, Has X.K W H0 F ps A σ H → ∃ ps', Has X.K W H0 F ps' A' σ H) : SDs X A sts Φ :=
  sds_of h fun Dn σ H ⟨W, H0, F, ps, hs, rz⟩ => let ⟨ps', h'⟩ := w W H0 F ps σ H hs; ⟨W, H0, F, ps', h', rz⟩
theorem sd_retF (he : PDF X A e d) (h : Φ.rtF A d) : SD X A (.Return (some e) pos) Φ :=
  sd_of (ps_ret he) fun Dn σ H ⟨W, H0, F, ps, hs, rz⟩ => ⟨W, H0, F, ps, hs, fun v H1 e1 r1 => rz.rtF ps A σ H1 v d (hs.ext e1) r1 h⟩
theorem sd_setF (i : Nat) {n : Str} {pos' : Pos} (hN : X.N.Nodup) (he : PDF X A e d) (h : Φ.nx ⟨A.ρ.set i (.datF d), A.μ⟩) (hi : X.N[i]? = some n := by rfl) (hx : Loc X.env.scope n := by first | exact Or.inl rfl | exact Or.inr rfl)
    (hs : swapsWith e (some (.Name n pos')) pos.line X.env = pure false := by rfl) (hf : X.fn n = true ∨ X.env.scope.names.lookup n = some .local := by first | exact .inl rfl | exact .inr rfl) : SD X A (.Assign [.Name n pos'] e pos) Φ :=
  sd_of (ps_set hN hi hx he hs hf) fun Dn σ H ⟨W, H0, F, ps, hs, rz⟩ => ⟨W, H0, F, ps, hs, fun v H1 e1 r1 => rz.nx ps _ _ H1 ((hs.ext e1).set (s := .datF d) ⟨v, rfl, r1⟩) h⟩
theorem sd_set (i : Nat) {n : Str} {pos' : Pos} (hN : X.N.Nodup) (he : PD X A e d) (h : Φ.nx ⟨A.ρ.set i (.dat d), A.μ⟩) (hi : X.N[i]? = some n := by rfl) (hx : Loc X.env.scope n := by first | exact Or.inl rfl | exact Or.inr rfl)
    (hs : swapsWith e (some (.Name n pos')) pos.line X.env = pure false := by rfl) (hf : X.fn n = true ∨ X.env.scope.names.lookup n = some .local := by first | exact .inl rfl | exact .inr rfl) : SD X A (.Assign [.Name n pos'] e pos) Φ :=
  sd_of (ps_set hN hi hx he hs hf) fun Dn σ H ⟨W, H0, F, ps, hs, rz⟩ => ⟨W, H0, F, ps, hs, fun v H1 e1 r1 => rz.nx ps _ _ H1 ((hs.ext e1).set (s := .dat d) ⟨v, rfl, r1⟩) h⟩
theorem sd_ret (he : PD X A e d) (h : Φ.rt A d) : SD X A (.Return (some e) pos) Φ :=
  sd_of (ps_ret he) fun Dn σ H ⟨W, H0, F, ps, hs, rz⟩ => ⟨W, H0, F, ps, hs, fun v H1 e1 r1 => rz.rt ps A σ H1 v d (hs.ext e1) r1 h⟩
theorem sd_retN (h : Φ.rt A .none) : SD X A (.Return none pos) Φ :=
  sd_of ps_retN fun Dn σ H ⟨W, H0, F, ps, hs, rz⟩ => rz.rt ps A σ H _ _ hs .non h
theorem sd_expr (he : PD X A e d) (h : Φ.nx A) (hs : swapsWith e none pos.line X.env = pure false := by rfl) : SD X A (.Expr e pos) Φ :=
  sd_of (ps_expr he hs) fun Dn σ H ⟨W, H0, F, ps, hs, rz⟩ => ⟨W, H0, F, ps, hs, fun v H1 e1 r1 => rz.nx ps A σ H1 (hs.ext e1) h⟩
theorem sd_pass (h : Φ.nx A) : SD X A (.Pass pos) Φ := sd_of ps_pass fun Dn σ H ⟨W, H0, F, ps, hs, rz⟩ => rz.nx ps A σ H hs h
theorem sd_if {k : Bool} (hc : PTD X A c k) (h1 : k = true → SDs X A sts Φ) (h2 : k = false → SDs X A rest Φ) : SD X A (.If c sts rest pos) Φ := by
  have p1 : PSs X sts (fun Dn σ H => k = true ∧ tS X.K A Φ Dn σ H) := ⟨fun pins s σ H Dn I q => (h1 q.1).run pins s σ H Dn I q.2⟩
  have p2 : PSs X rest (fun Dn σ H => k = false ∧ tS X.K A Φ Dn σ H) := ⟨fun pins s σ H Dn I q => (h2 q.1).run pins s σ H Dn I q.2⟩
  refine sd_of (ps_if hc p1 p2) fun Dn σ H ⟨W, H0, F, ps, hs, rz⟩ => ⟨W, H0, F, ps, hs, fun H1 e1 => ?_⟩
  cases k with
  | true => exact iteT ⟨rfl, W, H0, F, ps, hs.ext e1, rz⟩
  | false => exact iteF ⟨rfl, W, H0, F, ps, hs.ext e1, rz⟩
theorem sd_par (i j : Nat) {n m : Str} {px py pt : Pos} {kt k2 pt2} (hc : X.calm = true) (hN : X.N.Nodup) (ha : PDs X A [a, b] [x, y]) (h : Φ.nx ⟨(A.ρ.set i (.dat x)).set j (.dat y), A.μ⟩)
    (hi : X.N[i]? = some n := by rfl) (hj : X.N[j]? = some m := by rfl) (hij : i ≠ j := by decide)
    (hx : X.env.scope.names.lookup n = some .local := by rfl) (hy : X.env.scope.names.lookup m = some .local := by rfl)
    (hw : swappedStores [.Tuple [.Name n px, .Name m py] kt pt] (.Tuple [a, b] k2 pt2) X.env = pure (some [n, m]) := by rfl)
    (hs : swapsWithSole [.Tuple [.Name n px, .Name m py] kt pt] (.Tuple [a, b] k2 pt2) pos.line X.env = pure false := by rfl) :
    SD X A (.Assign [.Tuple [.Name n px, .Name m py] kt pt] (.Tuple [a, b] k2 pt2) pos) Φ :=
  sd_of (ps_par hc hN hi hj hij hx hy ha hw hs) fun Dn σ H ⟨W, H0, F, ps, hs, rz⟩ => ⟨W, H0, F, ps, hs, fun vs H1 e1 r1 => by
    cases r1 with
    | cons rx r2 =>
      cases r2 with
      | cons ry r3 =>
        cases r3
        exact ⟨_, _, rfl, rz.nx ps _ _ H1 (((hs.ext e1).set (s := .dat x) ⟨_, rfl, rx⟩).set (s := .dat y) ⟨_, rfl, ry⟩) h⟩⟩

/-! ### targets -/
def Off (vs : List Nat) (σ σ' : L2.St) : Prop := σ'.length = σ.length ∧ ∀ j : Nat, j ∉ vs → σ'[j]? = σ[j]?
theorem Off.refl {vs : List Nat} {σ : L2.St} : Off vs σ σ := ⟨rfl, fun _ _ => rfl⟩
theorem Off.trans {vs : List Nat} {σ σ' σ'' : L2.St} (a : Off vs σ σ') (b : Off vs σ' σ'') : Off vs σ σ'' := ⟨b.1.trans a.1, fun j h => (b.2 j h).trans (a.2 j h)⟩
theorem wipe_get {σ : L2.St} : ∀ {vs : List Nat} {j : Nat}, (wipe σ vs)[j]? = if j ∈ vs then (if j < σ.length then some none else none) else σ[j]?
  | [], j => by simp [wipe]
  | v :: vs, j => by
    unfold wipe
    by_cases h : v = j
    · subst h
      rw [if_pos List.mem_cons_self]
      by_cases hl : v < σ.length
      · rw [if_pos hl, List.getElem?_set_self (by rw [wipe_length]; exact hl)]
      · rw [if_neg hl, List.getElem?_eq_none (by rw [List.length_set, wipe_length]; omega)]
    · rw [List.getElem?_set_ne h, wipe_get (vs := vs)]
      have e : (j ∈ v :: vs) ↔ j ∈ vs := by
        rw [List.mem_cons]
        exact ⟨fun z => z.elim (fun q => absurd q.symm h) id, .inr⟩
      by_cases hm : j ∈ vs
      · rw [if_pos hm, if_pos (e.mpr hm)]
      · rw [if_neg hm, if_neg (fun z => hm (e.mp z))]
theorem Off.wipe {vs : List Nat} {σ σ' : L2.St} (h : Off vs σ σ') : wipe σ' vs = wipe σ vs := by
  apply List.ext_getElem?
  intro j
  rw [wipe_get, wipe_get, h.1]
  by_cases hm : j ∈ vs
  · rw [if_pos hm, if_pos hm]
  · rw [if_neg hm, if_neg hm, h.2 j hm]
theorem wipe_wipe {vs : List Nat} {σ : L2.St} : wipe (wipe σ vs) vs = wipe σ vs := by
  apply List.ext_getElem?
  intro j
  rw [wipe_get, wipe_length, wipe_get]
  by_cases hm : j ∈ vs
  · rw [if_pos hm, if_pos hm]
  · rw [if_neg hm, if_neg hm]
def tG (K : PySem.W.Frag) (vs : List Nat) (A : AS) (d : D) (A' : AS) : TG := fun v σ H Q => ∃ W H0 F ps, Has K W H0 F ps A σ H ∧ Rep K (Mx ps ++ F) H v d ∧ ∀ σ', Has K W H0 F ps A' σ' H → Off vs σ σ' → Q σ' H
def tGs (K : PySem.W.Frag) (vs : List Nat) (A : AS) (ds : List D) (A' : AS) : TGs := fun us σ H Q => ∃ W H0 F ps, Has K W H0 F ps A σ H ∧ RepA K (Mx ps ++ F) H us ds ∧ ∀ σ', Has K W H0 F ps A' σ' H → Off vs σ σ' → Q σ' H
def PGD (X : Cx) (vs : List Nat) (tg : Expr) (A : AS) (d : D) (A' : AS) : Prop := PG X tg (tG X.K vs A d A')
def PGDs (X : Cx) (vs : List Nat) (tg : List Expr) (A : AS) (ds : List D) (A' : AS) : Prop := PGs X tg (tGs X.K vs A ds A')
theorem pgd_name (i : Nat) {n : Str} {vs : List Nat} (hN : X.N.Nodup) (hi : X.N[i]? = some n := by rfl) (hx : Loc X.env.scope n := by first | exact Or.inl rfl | exact Or.inr rfl) (hf : X.fn n = true ∨ X.env.scope.names.lookup n = some .local := by first | exact .inl rfl | exact .inr rfl)
    (hm : i ∈ vs := by decide) : PGD X vs (.Name n pos) A d ⟨A.ρ.set i (.dat d), A.μ⟩ :=
  ⟨fun pins s σ H v u Q I r ⟨W, H0, F, ps, hs, rv, q⟩ => (pg_name (X := X) (pos := pos) hN hi hx hf).run pins s σ H v u Q I r (q _ (hs.set (s := .dat d) ⟨v, rfl, rv⟩) ⟨by simp, fun j hj => List.getElem?_set_ne (fun z => hj (by rw [← z]; exact hm))⟩)⟩
theorem pgds_nil {vs : List Nat} : PGDs X vs [] A [] A :=
  ⟨fun pins s σ H v u Q I r ⟨W, H0, F, ps, hs, rv, q⟩ => pgs_nil.run pins s σ H v u Q I r ⟨by cases rv; rfl, q σ hs Off.refl⟩⟩
theorem pgds_cons {vs : List Nat} {A1 A2 : AS} (h1 : PGD X vs e A d A1) (h2 : PGDs X vs es A1 ds A2)
    (hs : (assignEach (e :: es) X.env).map (·.2) = assign e X.env :: (assignEach es X.env).map (·.2) := by rfl) : PGDs X vs (e :: es) A (d :: ds) A2 :=
  ⟨fun pins s σ H v u Q I r ⟨W, H0, F, ps, hs', rv, q⟩ => (pgs_cons h1 h2 hs).run pins s σ H v u Q I r (by
    cases rv with
    | cons r1 r2 => exact ⟨_, _, rfl, W, H0, F, ps, hs', r1, fun σ1 h1 o1 => ⟨W, H0, F, ps, h1, r2, fun σ2 h2 o2 => q σ2 h2 (o1.trans o2)⟩⟩)⟩
theorem pgd_tup {vs : List Nat} {A' : AS} {k : Nat} {n : Nat} (hc : X.calm = true) (h : PGDs X vs es A ds A') (hl : ds.length = n := by rfl)
    (hn : (assignEach es X.env).length = n := by rfl) (hst : (assignEach es X.env).findIdx? (·.1) = none := by rfl) : PGD X vs (.Tuple es k pos) A (.tuple ds) A' :=
  ⟨fun pins s σ H v u Q I r ⟨W, H0, F, ps, hs', rv, q⟩ => (pg_tup (pos := pos) (k := k) hc h hn hst).run pins s σ H v u Q I r (by
    cases rv with
    | tup h1 r1 => exact ⟨_, _, rfl, h1.sq, r1.length.trans hl, W, H0, F, ps, hs', r1, q⟩)⟩
/-- a, b = e -/
theorem sd_asg {tg : Expr} {vs : List Nat} {A' : AS} (he : PD X A e d) (hg : PGD X vs tg A d A') (h : Φ.nx A') (hs : swapsWithSole [tg] e pos.line X.env = pure false := by rfl) (hw : swappedStores [tg] e X.env = pure none := by rfl)
    (h1 : (assignEach [tg] X.env).map (·.2) = [assign tg X.env] := by rfl) : SD X A (.Assign [tg] e pos) Φ :=
  sd_of (ps_asg he hg hs hw h1) fun Dn σ H ⟨W, H0, F, ps, hs, rz⟩ => ⟨W, H0, F, ps, hs, fun v H1 e1 r1 => ⟨W, H0, F, ps, hs.ext e1, r1, fun σ' h' _ => rz.nx ps A' σ' H1 h' h⟩⟩

/-! ### while -/
theorem sd_while {t : Expr} (I : AS → Prop) (m : AS → Nat) (hp : PassesOwn (model X.prog X.w) X.A X.env X.xe) (h0 : I A)
    (hs : ∀ A', I A' → ∃ k, PTD X A' t k ∧ (k = true → SDs X A' sts { nx := fun B => I B ∧ m B < m A', rt := Φ.rt, rtF := Φ.rtF, bk := Φ.nx, ct := fun B => I B ∧ m B < m A' }) ∧ (k = false → Φ.nx A')) : SD X A (.While t sts [] pos) Φ := by
  have pc : PT X t (fun σ H Q => ∃ A' k, PTD X A' t k ∧ tT X.K A' k σ H Q) := ⟨fun pins s σ H Q I ⟨A', k, h, q⟩ => h.run pins s σ H Q I q⟩
  have pb : PSs X sts (fun Dn σ H => ∃ A' Φ', SDs X A' sts Φ' ∧ tS X.K A' Φ' Dn σ H) := ⟨fun pins s σ H Dn I ⟨A', Φ', h, q⟩ => h.run pins s σ H Dn I q⟩
  refine sd_of (ps_while hp pc pb) fun Dn σ H ⟨W, H0, F, ps, hs', rz⟩ => ?_
  refine ⟨fun k σ H => ∃ ps A', Has X.K W H0 F ps A' σ H ∧ I A' ∧ k = m A', ⟨m A, ps, A, hs', h0, rfl⟩, ?_⟩
  rintro k σ1 H1 ⟨ps1, A1, h1, i1, rfl⟩
  obtain ⟨q, t1, t2, t3⟩ := hs A1 i1
  refine ⟨A1, q, t1, W, H0, F, ps1, h1, fun H2 e2 => ?_⟩
  cases q with
  | true =>
    refine iteT ⟨fun σ H => ∃ ps A', Has X.K W H0 F ps A' σ H ∧ I A' ∧ m A' < m A1, ?_, A1, _, t2 rfl, W, H0, F, ps1, h1.ext e2, ?_⟩
    · rintro σ3 H3 ⟨ps3, A3, h3, i3, l3⟩
      exact ⟨m A3, l3, ps3, A3, h3, i3, rfl⟩
    · exact ⟨fun ps A σ H h q => ⟨ps, A, h, q⟩, rz.nx, fun ps A σ H h q => ⟨ps, A, h, q⟩, rz.rt, rz.rtF⟩
  | false => exact iteF (rz.nx ps1 A1 σ1 H2 (h1.ext e2) (t3 rfl))

/-! ### what is walked -/
structure ItD (K : PySem.W.Frag) (M : List Addr) (H1 : Hp) (J : It) (ds : List D) : Prop where
  go : ∀ i H M', Go M M' H1 H → i < ds.length → J.go i H
  yld : ∀ i H M' x H', i < ds.length → Go M M' H1 H → J.yld i H x H' → Ex H H' ∧ ∃ d, ds[i]? = some d ∧ Rep K M' H' x d
  stop : ∀ i H M', Go M M' H1 H → ds.length ≤ i → J.stop i H
def tI (K : PySem.W.Frag) (A : AS) (ds : List D) : TI := fun σ H R => ∃ W H0 F ps, Has K W H0 F ps A σ H ∧ ∀ J H1, Ex H H1 → ItD K (Mx ps ++ F) H1 J ds → R J H1
def PID (X : Cx) (A : AS) (tg iter : Expr) (ds : List D) : Prop := PI X tg iter (tI X.K A ds)
theorem pid_of {tg : Expr} {wi : TI} (h : PI X tg e wi) (r : ∀ σ H R, tI X.K A ds σ H R → wi σ H R) : PID X A tg e ds := ⟨fun pins s σ H R I hq => h.run pins s σ H R I (r σ H R hq)⟩
theorem itd_list {K : PySem.W.Frag} {M : List Addr} {H : Hp} {p : Addr} {xs : List V} (h : SqM K M H p xs) (r : RepA K M H xs ds) : ItD K M H (Itl K p) ds where
  go := fun i H' M' g hi => by
    obtain ⟨v, e, _⟩ := r.get' (List.getElem?_eq_getElem hi)
    exact ⟨xs, v, (g.sqm h).sq, e⟩
  yld := fun i H' M' x H'' _ g ⟨e1, e2⟩ => by
    subst e1
    obtain ⟨d, e, rd⟩ := r.get (e2 xs (g.sqm h).sq)
    exact ⟨ex_refl _, d, e, rd.go g⟩
  stop := fun i H' M' g hi => ⟨xs, (g.sqm h).sq, by rw [r.length]; exact hi⟩
theorem itd_tup {K : PySem.W.Frag} {M : List Addr} {H : Hp} {p : Addr} {xs : List V} (h : TupAt H p xs) (r : RepA K M H xs ds) : ItD K M H (Itt K p) ds where
  go := fun i H' M' g hi => by
    obtain ⟨v, e, _⟩ := r.get' (List.getElem?_eq_getElem hi)
    exact ⟨xs, v, (g.tup h).sq, e⟩
  yld := fun i H' M' x H'' _ g ⟨e1, e2⟩ => by
    subst e1
    obtain ⟨d, e, rd⟩ := r.get (e2 xs ((g.tup h).sq))
    exact ⟨ex_refl _, d, e, rd.go g⟩
  stop := fun i H' M' g hi => ⟨xs, (g.tup h).sq, by rw [r.length]; exact hi⟩
/-- lo, lo + 1, .. -/
def ups (lo : Int) (n : Nat) : List D := (List.range n).map fun (i : Nat) => PyData.int (lo + (i : Int))
theorem ups_get {lo : Int} {n i : Nat} : (ups lo n)[i]? = if i < n then some (.int (lo + (i : Int))) else none := by
  unfold ups
  rw [List.getElem?_map]
  by_cases h : i < n
  · rw [if_pos h, List.getElem?_range h]; rfl
  · rw [if_neg h, List.getElem?_eq_none (by simpa using h)]; rfl
theorem ups_len {lo : Int} {n : Nat} : (ups lo n).length = n := by simp [ups]
theorem itd_range {K : PySem.W.Frag} {M : List Addr} {H : Hp} {lo : Int} {n : Nat} : ItD K M H (Itr lo n) (ups lo n) where
  go := fun i H' M' g hi => by rw [ups_len] at hi; exact hi
  yld := fun i H' M' x H'' hi g ⟨e1, e2⟩ => by
    rw [ups_len] at hi
    subst e1 e2
    exact ⟨ex_refl _, _, by rw [ups_get, if_pos hi], .int _⟩
  stop := fun i H' M' g hi => by rw [ups_len] at hi; exact hi
theorem pid_list {tg : Expr} (h : PD X A e (.list ds)) : PID X A tg e ds :=
  pid_of (pi_list h) fun σ H R ⟨W, H0, F, ps, hs, q⟩ => ⟨W, H0, F, ps, hs, fun v H1 e1 r1 => by
    cases r1 with
    | lst h1 r => exact ⟨_, rfl, ⟨_, h1.sq⟩, q _ H1 e1 (itd_list h1 r)⟩⟩
theorem pid_tup {tg : Expr} (h : PD X A e (.tuple ds)) : PID X A tg e ds :=
  pid_of (pi_tup h) fun σ H R ⟨W, H0, F, ps, hs, q⟩ => ⟨W, H0, F, ps, hs, fun v H1 e1 r1 => by
    cases r1 with
    | tup h1 r => exact ⟨_, rfl, ⟨_, h1.sq⟩, q _ H1 e1 (itd_tup h1 r)⟩⟩
abbrev iD (n : Nat) : D := .int (n : Int)
theorem ups_zero {n : Nat} : ups 0 n = (List.range n).map iD := by
  unfold ups
  congr 1
  funext i
  rw [Int.zero_add]
theorem ups_nat {lo n : Nat} : ups (lo : Int) n = (List.range n).map fun i => iD (lo + i) := rfl
theorem pid_range1 {tg : Expr} {n : Nat} {j : Int} {p : Pos} (hm : X.mg "range" = none) (ha : PDs X A [a] [.int j]) (hj : j = (n : Int)) (hn : n ≤ 1000000) (hg : Gl X "range" := by rfl) (hs : starEach [a] X.env = [(false, eval a X.env)] := by rfl) :
    PID X A tg (.Call (.Name "range" p) [a] [] pos) ((List.range n).map iD) := by
  rw [← ups_zero]
  exact pid_of (pi_range1 hg hm ha hs) fun σ H R ⟨W, H0, F, ps, hs, q⟩ => ⟨W, H0, F, ps, hs, fun vs H1 e1 r1 => by
    cases r1 with
    | cons rx r2 =>
      cases r2
      cases rx
      subst hj
      exact ⟨_, rfl, by omega, by omega, q _ H1 e1 (by rw [Int.toNat_natCast]; exact itd_range)⟩⟩
theorem pid_range2 {tg : Expr} {lo hi : Nat} {i j : Int} {p : Pos} (hm : X.mg "range" = none) (ha : PDs X A [a, b] [.int i, .int j]) (hi' : i = (lo : Int)) (hj : j = (hi : Int)) (hb : lo ≤ 1000000 ∧ hi ≤ 1000000) (hg : Gl X "range" := by rfl)
    (hs : starEach [a, b] X.env = [(false, eval a X.env), (false, eval b X.env)] := by rfl) (hs2 : starEach [b] X.env = [(false, eval b X.env)] := by rfl) :
    PID X A tg (.Call (.Name "range" p) [a, b] [] pos) ((List.range (hi - lo)).map fun k => iD (lo + k)) := by
  rw [← ups_nat]
  exact pid_of (pi_range2 hg hm ha hs hs2) fun σ H R ⟨W, H0, F, ps, hs, q⟩ => ⟨W, H0, F, ps, hs, fun vs H1 e1 r1 => by
    cases r1 with
    | cons rx r2 =>
      cases r2 with
      | cons ry r3 =>
        cases r3
        cases rx
        cases ry
        subst hi' hj
        refine ⟨_, _, rfl, ⟨by omega, by omega, by omega, by omega⟩, q _ H1 e1 ?_⟩
        have e : ((hi : Int) - (lo : Int)).toNat = hi - lo := by omega
        rw [e]
        exact itd_range⟩
/-- 0, 1, .. with the items -/
def enumD (ds : List D) : List D := ds.zipIdx.map fun p => PyData.tuple [.int (p.2 : Int), p.1]
theorem enumD_len : (enumD ds).length = ds.length := by simp [enumD]
theorem enumD_get {i : Nat} : (enumD ds)[i]? = ds[i]?.map fun d => PyData.tuple [.int (i : Int), d] := by
  unfold enumD
  rw [List.getElem?_map, List.getElem?_zipIdx]
  cases ds[i]? <;> simp
theorem itd_enum {K : PySem.W.Frag} {M : List Addr} {H : Hp} {p : Addr} {xs : List V} (h : SqM K M H p xs) (r : RepA K M H xs ds) : ItD K M H (Ite K p) (enumD ds) where
  go := fun i H' M' g hi => by
    rw [enumD_len] at hi
    obtain ⟨v, e, _⟩ := r.get' (List.getElem?_eq_getElem hi)
    exact ⟨xs, v, (g.sqm h).sq, e⟩
  yld := fun i H' M' x H'' _ g ⟨T, y, e0, e1, e2, e3⟩ => by
    obtain ⟨d, e, rd⟩ := r.get (e3 xs (g.sqm h).sq)
    subst e2 e0
    refine ⟨ex_new e1, _, by rw [enumD_get, e]; rfl, .tup (.inl upd_same) (.cons (.int _) (.cons ?_ .nil))⟩
    exact (rd.go g).ex (ex_new e1)
  stop := fun i H' M' g hi => by
    rw [enumD_len] at hi
    exact ⟨xs, (g.sqm h).sq, by rw [r.length]; exact hi⟩
theorem pid_enum {elts : List Expr} {kk : Nat} {tpos p : Pos} (hm : X.mg "enumerate" = none) (ha : PDs X A [e] [.list ds]) (hg : Gl X "enumerate" := by rfl) (hs : starEach [e] X.env = [(false, eval e X.env)] := by rfl) :
    PID X A (.Tuple elts kk tpos) (.Call (.Name "enumerate" p) [e] [] pos) (enumD ds) :=
  pid_of (pi_enum hg hm ha hs) fun σ H R ⟨W, H0, F, ps, hs, q⟩ => ⟨W, H0, F, ps, hs, fun vs H1 e1 r1 => by
    cases r1 with
    | cons rx r2 =>
      cases r2
      cases rx with
      | lst h1 r => exact ⟨_, _, rfl, h1.sq, q _ H1 e1 (itd_enum h1 r)⟩⟩

end
/-! ### for -/
section
variable {K : PySem.W.Frag} {ps ps' : List (Option Addr)} {W F : List Addr} {H0 H H1 : Hp} {A A' : AS} {σ σ' : L2.St}
/-- seen from a loop's start -/
theorem Has.start (h : Has K W H0 F ps A σ H) : Has K (Mx ps ++ W) H (Mx ps ++ F) ps A σ H := by
  have g : Go (Mx ps ++ F) (Mx ps ++ (Mx ps ++ F)) H H := Go.sub fun a z => (List.mem_append.mp z).elim (List.mem_append_left _) id
  exact {
    ex := fun a o _ e => e
    len := h.len
    sl := fun i s q => (h.sl i s q).go g
    ml := h.ml
    mo := fun j o q => let ⟨p, e1, e2⟩ := h.mo j o q; ⟨p, e1, e2.go g fun _ _ _ z => z⟩
    fr := fun p hp => .inr (List.mem_append_left _ hp)
    nd := h.nd
    wf := fun a w => (List.mem_append.mp w).elim (List.mem_append_left _) fun z => List.mem_append_right _ (h.wf a z)
    wo := fun a w => (List.mem_append.mp w).elim h.mx (h.wo a)
    ff := fun a w => h.avoid w }
theorem Has.back {σ0 : L2.St} (h0 : Has K W H0 F ps A σ0 H1) (h : Has K (Mx ps ++ W) H1 (Mx ps ++ F) ps' A' σ' H) : Has K W H0 F ps' A' σ' H := by
  have g : Go (Mx ps' ++ (Mx ps ++ F)) (Mx ps' ++ F) H H := Go.sub fun a z => (List.mem_append.mp z).elim (List.mem_append_left _) fun q => List.mem_append_right _ (List.mem_append_right _ q)
  exact {
    ex := fun a o w e => by
      refine h.ex a o (fun z => ?_) (h0.ex a o w e)
      rcases List.mem_append.mp z with z | z
      · rcases h0.fr a z with q | q
        · rw [q] at e; cases e
        · exact w q
      · exact w z
    len := h.len
    sl := fun i s q => (h.sl i s q).go g
    ml := h.ml
    mo := fun j o q => let ⟨p, e1, e2⟩ := h.mo j o q; ⟨p, e1, e2.go g fun _ _ _ z => z⟩
    fr := fun p hp => by
      by_cases w : p ∈ W
      · exact .inr w
      · refine .inl ?_
        rcases h.fr p hp with q | q
        · cases e : H0 p with
          | none => rfl
          | some o => rw [h0.ex p o w e] at q; cases q
        · rcases List.mem_append.mp q with q | q
          · exact (h0.fr p q).elim id fun z => absurd z w
          · exact absurd q w
    nd := h.nd
    wf := h0.wf
    wo := fun a w => h.wo a (List.mem_append_right _ w)
    ff := fun a f => h.ff a (List.mem_append_right _ f) }
theorem own_tup {o : Option HO} (h : Own o) : (∀ xs, o ≠ some (.tup xs)) ∧ ∀ u v, o ≠ some (.frz u v) := by
  refine ⟨fun xs e => ?_, fun u v e => ?_⟩ <;> (rw [e] at h; exact h)
theorem Has.goes {σ0 : L2.St} (h0 : Has K W H0 F ps A σ0 H1) (h : Has K (Mx ps ++ W) H1 (Mx ps ++ F) ps' A' σ' H) : Go (Mx ps ++ F) (Mx ps' ++ (Mx ps ++ F)) H1 H := by
  have nw : ∀ a, a ∉ Mx ps ++ F → a ∉ Mx ps ++ W := fun a m z => m ((List.mem_append.mp z).elim (List.mem_append_left _) fun q => List.mem_append_right _ (h0.wf a q))
  have no : ∀ a, a ∉ Mx ps ++ F → H1 a ≠ none → a ∉ Mx ps' ++ (Mx ps ++ F) := fun a m t z => by
    rcases List.mem_append.mp z with z | z
    · rcases h.fr a z with q | q
      · exact t q
      · exact nw a m q
    · exact m z
  have ow : ∀ a, a ∈ Mx ps ++ W → Own (H1 a) := fun a z => (List.mem_append.mp z).elim h0.mx (h0.wo a)
  refine ⟨fun a xs r m => ⟨?_, no a m (rd_some r)⟩, fun a xs r => ?_, fun a o u r => h.ex a _ (fun z => (own_tup (ow a z)).2 o u r) r, fun a kv r m => ⟨r.elim (fun r => .inl (h.ex a _ (nw a m) r)) (fun ⟨u, r⟩ => .inr ⟨u, h.ex a _ (nw a m) r⟩), no a m (rd_some r)⟩⟩
  · rcases r with r | ⟨u, r⟩
    · exact .inl (h.ex a _ (nw a m) r)
    · exact .inr ⟨u, h.ex a _ (nw a m) r⟩
  · refine h.ex a _ (fun z => ?_) r
    exact (own_tup (ow a z)).1 xs r
end
section
variable {X : Cx} {A : AS} {Φ : AE} {sts : List Stmt} {ds : List D} {pos : Pos}
theorem Rz.start {K : PySem.W.Frag} {W F : List Addr} {H0 H1 : Hp} {ps : List (Option Addr)} {σ : L2.St} {Φ : AE} {Dn : Ends} (rz : Rz K W H0 F Φ Dn) (h0 : Has K W H0 F ps A σ H1) : Rz K (Mx ps ++ W) H1 (Mx ps ++ F) Φ Dn where
  nx := fun ps A σ H h q => rz.nx ps A σ H (h0.back h) q
  bk := fun ps A σ H h q => rz.bk ps A σ H (h0.back h) q
  ct := fun ps A σ H h q => rz.ct ps A σ H (h0.back h) q
  rt := fun ps A σ H v d h r q => rz.rt ps A σ H v d (h0.back h) (r.go (Go.sub fun a z => (List.mem_append.mp z).elim (List.mem_append_left _) fun q => List.mem_append_right _ (List.mem_append_right _ q))) q
  rtF := fun ps A σ H v d h r q => rz.rtF ps A σ H v d (h0.back h) (r.go (Go.sub fun a z => (List.mem_append.mp z).elim (List.mem_append_left _) fun q => List.mem_append_right _ (List.mem_append_right _ q))) q
theorem sd_for {tg iter : Expr} (vs : List Nat) (I : Nat → AS → Prop) (hp : PassesOwn (model X.prog X.w) X.A X.env X.xe) (hc : X.calm = true) (hi : PID X A tg iter ds) (h0 : I 0 A)
    (step : ∀ (i : Nat) (d : D) (A' : AS), ds[i]? = some d → I i A' → ∃ A'', PGD X vs tg A' d A'' ∧ SDs X A'' sts { nx := I (i + 1), ct := I (i + 1), bk := Φ.nx, rt := Φ.rt, rtF := Φ.rtF })
    (hd : ∀ A', I ds.length A' → Φ.nx A') (hs : ∀ x, foldedSetIterable iter X.env x = pure x := by intro _; rfl) : SD X A (.For tg iter sts [] pos) Φ := by
  have pg : PG X tg (fun v σ H Q => ∃ A' d A'', PGD X vs tg A' d A'' ∧ tG X.K vs A' d A'' v σ H Q) := ⟨fun pins s σ H v u Q I r ⟨A', d, A'', h, q⟩ => h.run pins s σ H v u Q I r q⟩
  have pb : PSs X sts (fun Dn σ H => ∃ A' Φ', SDs X A' sts Φ' ∧ tS X.K A' Φ' Dn σ H) := ⟨fun pins s σ H Dn I ⟨A', Φ', h, q⟩ => h.run pins s σ H Dn I q⟩
  refine sd_of (ps_for hp hc hi pg pb hs) fun Dn σ H ⟨W, H0, F, ps, hs', rz⟩ => ?_
  refine ⟨W, H0, F, ps, hs', fun J H1 e1 itd => ?_⟩
  have h1 := hs'.ext e1
  refine ⟨fun i m σ H => m = ds.length - i ∧ i ≤ ds.length ∧ ∃ ps' A', Has X.K (Mx ps ++ W) H1 (Mx ps ++ F) ps' A' σ H ∧ I i A', ⟨ds.length, rfl, Nat.zero_le _, ps, A, h1.start, h0⟩, ?_⟩
  rintro i m σ2 H2 ⟨rfl, hi2, ps2, A2, h2, i2⟩
  have g := h1.goes h2
  by_cases hlt : i < ds.length
  · refine .inr ⟨itd.go i H2 _ g hlt, fun σ H => ∃ ps' A', Has X.K (Mx ps ++ W) H1 (Mx ps ++ F) ps' A' σ H ∧ I (i + 1) A', fun σ' H' ⟨ps', A', h', i'⟩ => ⟨ds.length - (i + 1), by omega, rfl, hlt, ps', A', h', i'⟩, fun x H3 y => ?_⟩
    obtain ⟨e3, d, ed, rd⟩ := itd.yld i H2 _ x H3 hlt g y
    obtain ⟨A3, pg3, sd3⟩ := step i d A2 ed i2
    refine ⟨A2, d, A3, pg3, Mx ps ++ W, H1, Mx ps ++ F, ps2, h2.ext e3, rd, fun σ' h' _ => ?_⟩
    refine ⟨A3, _, sd3, Mx ps ++ W, H1, Mx ps ++ F, ps2, h', ?_⟩
    have rz' := rz.start h1
    exact ⟨fun ps A σ H h q => ⟨ps, A, h, q⟩, rz'.nx, fun ps A σ H h q => ⟨ps, A, h, q⟩, rz'.rt, rz'.rtF⟩
  · have e : i = ds.length := by omega
    subst e
    exact .inl ⟨itd.stop _ H2 _ g (Nat.le_refl _), rz.nx ps2 A2 σ2 H2 (h1.back h2) (hd A2 i2)⟩

/-! ### comprehensions -/
def wipeS (ρ : List Sl) : List Nat → List Sl
  | [] => ρ
  | v :: vs => (wipeS ρ vs).set v .no
def AS.wipe (A : AS) (vs : List Nat) : AS := ⟨wipeS A.ρ vs, A.μ⟩
theorem Has.wipe {K : PySem.W.Frag} {W F : List Addr} {H0 H : Hp} {ps : List (Option Addr)} {σ : L2.St} (h : Has K W H0 F ps A σ H) : ∀ vs, Has K W H0 F ps (A.wipe vs) (L2.wipe σ vs) H
  | [] => h
  | v :: vs => (Has.wipe h vs).unset v
def PTsD (X : Cx) (A : AS) (ifs : List Expr) (k : Bool) : Prop := PTs X ifs (tT X.K A k)
theorem ptsd_nil : PTsD X A [] true := ⟨fun pins s σ H Q I ⟨W, H0, F, ps, hs, q⟩ => pts_nil.run pins s σ H Q I (q H (ex_refl H))⟩
theorem ptsd_one {c : Expr} {k : Bool} (h : PTD X A c k) : PTsD X A [c] k := ⟨fun pins s σ H Q I q => (pts_one h).run pins s σ H Q I q⟩
/-- the block of a comprehension -/
abbrev Bk (X : Cx) (scope : Scope) (s : Shared) (H : Hp) (C : Addr) (cl : List (Str × Addr)) (fp : List Addr) : Cx := X.blk s H scope (compEnvC scope cl C X.env) fp
/-- a comprehension's turn: the item d gives y, or nothing -/
def LcT (X : Cx) (A : AS) (scope : Scope) (vs : List Nat) (tg elt : Expr) (ifs : List Expr) (d : D) (o : Option D) : Prop :=
  ∃ A'' k, (∀ s H C cl fp, PGD (Bk X scope s H C cl fp) vs tg (A.wipe vs) d A'') ∧ (∀ s H C cl fp, PTsD (Bk X scope s H C cl fp) A'' ifs k) ∧
    (k = true → ∃ y, o = some y ∧ ∀ s H C cl fp, PD (Bk X scope s H C cl fp) A'' elt y) ∧ (k = false → o = none)
def gLc (X : Cx) (scope : Scope) (vs : List Nat) (tg : Expr) : TG := fun v σ H Q => ∃ A' d A'', (∀ s H C cl fp, PGD (Bk X scope s H C cl fp) vs tg A' d A'') ∧ tG X.K vs A' d A'' v σ H Q
def tLcT (X : Cx) (scope : Scope) (ifs : List Expr) : TT := fun σ H Q => ∃ A' k, (∀ s H C cl fp, PTsD (Bk X scope s H C cl fp) A' ifs k) ∧ tT X.K A' k σ H Q
def tLcE (X : Cx) (scope : Scope) (elt : Expr) : TE := fun σ H Q => ∃ A' y, (∀ s H C cl fp, PD (Bk X scope s H C cl fp) A' elt y) ∧ tD X.K A' y σ H Q
/-- a list laid just so, which nothing but this value tells -/
def tDL (K : PySem.W.Frag) (A : AS) (ds : List D) : TE := fun σ H Q => ∃ W H0 F ps, Has K W H0 F ps A σ H ∧ ∀ p H' zs, Ex H H' → H p = none → H' p = some (.lst zs) → RepA K (Mx ps ++ (p :: F)) H' zs ds → Q (.ref p) H'
theorem repA_back {K : PySem.W.Frag} {M F : List Addr} {H : Hp} {p : Addr} {vs : List V} {ds : List D} (r : RepA K (M ++ (p :: F)) H vs ds) : RepA K (M ++ F) H vs ds :=
  r.go (Go.sub fun a z => (List.mem_append.mp z).elim (List.mem_append_left _) fun q => List.mem_append_right _ (List.mem_cons_of_mem _ q))
theorem none_of {H H' : Hp} {p : Addr} (e : Ex H H') (h : H' p = none) : H p = none := by
  cases q : H p with
  | none => rfl
  | some o => rw [e p o q] at h; cases h
def PDL (X : Cx) (A : AS) (e : Expr) (ds : List D) : Prop := PE X e (tDL X.K A ds)
theorem PDL.pd {X : Cx} {A : AS} {e : Expr} {ds : List D} (h : PDL X A e ds) : PD X A e (.list ds) := ⟨fun pins s σ H Q I ⟨W, H0, F, ps, hs, q⟩ => h.run pins s σ H Q I ⟨W, H0, F, ps, hs, fun p H' zs x h0 h1 r1 => q (.ref p) H' x (.lst (.inl ⟨.inl h1, fun z => hs.avoid z h0⟩) (repA_back r1))⟩⟩
theorem lc_read {tg elt : Expr} {ifs : List Expr} {scope : Scope} {vs : List Nat} (os : List (Option D)) (ho : os.length = ds.length) (hl : ds.length ≤ 100000) (ht : ∀ (i : Nat) (d : D) (o : Option D), ds[i]? = some d → os[i]? = some o → LcT X A scope vs tg elt ifs d o) {σ : L2.St} {H : Hp} {Q : VK}
    (h : tDL X.K A (os.filterMap id) σ H Q) : tLc (tI X.K A ds) (gLc X scope vs tg) (tLcT X scope ifs) (tLcE X scope elt) vs σ H Q := by
  obtain ⟨W, H0, F, ps, hs, q⟩ := h
  refine ⟨W, H0, F, ps, hs, fun J H1 e1 itd Dd hD => ?_⟩
  have h1 := hs.ext e1
  refine ⟨fun i m H => m = ds.length - i ∧ i ≤ ds.length ∧ Ex H1 H ∧ ∃ acc, H Dd = some (.lst acc) ∧ acc.length ≤ i ∧ RepA X.K (Mx ps ++ (Dd :: F)) H acc ((os.take i).filterMap id),
    ⟨ds.length, rfl, Nat.zero_le _, ex_new hD, [], upd_same, Nat.le_refl _, .nil⟩, ?_⟩
  rintro i m H2 ⟨rfl, hi, e2, acc, hacc, hlen, racc⟩
  have g : Go (Mx ps ++ F) (Mx ps ++ (Dd :: F)) H1 H2 := Go.foreign' e2 hD
  by_cases hlt : i < ds.length
  · refine .inr ⟨itd.go i H2 _ g hlt, fun H' => i + 1 ≤ ds.length ∧ Ex H1 H' ∧ ∃ acc, H' Dd = some (.lst acc) ∧ acc.length ≤ i + 1 ∧ RepA X.K (Mx ps ++ (Dd :: F)) H' acc ((os.take (i + 1)).filterMap id),
      fun H' q' => ⟨ds.length - (i + 1), by omega, rfl, q'⟩, fun x H3 y => ?_⟩
    obtain ⟨e3, d, ed, rd⟩ := itd.yld i H2 _ x H3 hlt g y
    obtain ⟨o, eo⟩ : ∃ o, os[i]? = some o := ⟨_, List.getElem?_eq_getElem (by rw [ho]; exact hlt)⟩
    obtain ⟨A2, k, p1, p2, p3, p4⟩ := ht i d o ed eo
    have hf : Has X.K W H0 (Dd :: F) ps A σ H3 := h1.foreign (ex_trans e2 e3) hD (by rw [e3 _ _ hacc]; intro z; cases z)
    have tk : os.take (i + 1) = os.take i ++ [o] := by rw [List.take_add_one, eo]; rfl
    refine ⟨A.wipe vs, d, A2, p1, W, H0, Dd :: F, ps, hf.wipe vs, rd, fun σ2 h2 o2 => ⟨by rw [o2.wipe, wipe_wipe], ?_⟩⟩
    refine ⟨A2, k, p2, W, H0, Dd :: F, ps, h2, fun H4 e4 => ?_⟩
    cases k with
    | false =>
      refine iteF ⟨hlt, ex_trans (ex_trans e2 e3) e4, acc, e4 _ _ (e3 _ _ hacc), Nat.le_succ_of_le hlen, ?_⟩
      rw [tk, List.filterMap_append]
      have e0 : [o].filterMap id = [] := by simp [p4 rfl]
      rw [e0, List.append_nil]
      exact racc.ex (ex_trans e3 e4)
    | true =>
      obtain ⟨y, fy, py⟩ := p3 rfl
      refine iteT ⟨A2, y, py, W, H0, Dd :: F, ps, h2.ext e4, fun v H5 e5 rv => ⟨acc, e5 _ _ (e4 _ _ (e3 _ _ hacc)), Nat.lt_of_lt_of_le (Nat.lt_of_le_of_lt (Nat.le_trans hlen (Nat.le_of_lt hlt)) (Nat.lt_succ_of_le hl)) (by decide), hlt, ?_, _, upd_same, by rw [List.length_append]; exact Nat.succ_le_succ hlen, ?_⟩⟩
      · intro a o ha
        rw [upd_ne (ne_of_none ha hD)]
        exact e5 _ _ (e4 _ _ (e3 _ _ (e2 _ _ ha)))
      · have own : Own (H5 Dd) := by
          rw [e5 _ _ (e4 _ _ (e3 _ _ hacc))]
          trivial
        have mm : Dd ∈ Mx ps ++ (Dd :: F) := List.mem_append_right _ List.mem_cons_self
        rw [tk, List.filterMap_append]
        have e0 : [o].filterMap id = [y] := by simp [fy]
        rw [e0]
        exact RepA.append ((racc.ex (ex_trans e3 (ex_trans e4 e5))).go (Go.mut mm own)) (.cons (rv.go (Go.mut mm own)) .nil)
  · have e : i = ds.length := by omega
    subst e
    rw [← ho, List.take_length] at racc
    exact .inl ⟨itd.stop _ H2 _ g (Nat.le_refl _), q _ H2 acc (ex_trans e1 e2) (none_of e1 hD) hacc racc⟩
theorem pdl_of {t : TE} {e : Expr} (h : PE X e t) (r : ∀ σ H Q, tDL X.K A ds σ H Q → t σ H Q) : PDL X A e ds := ⟨fun pins s σ H Q I hq => h.run pins s σ H Q I (r σ H Q hq)⟩
theorem pdl_lc {tg elt iter : Expr} {ifs : List Expr} {scope : Scope} (own : List (Str × Nat)) (os : List (Option D)) (ho : os.length = ds.length) (hc : X.calm = true) (hN : X.N.Nodup) (hi : PID X A tg iter ds) (ok : BlkOk X.N X.env.scope scope own) (hl : ds.length ≤ 100000)
    (ht : ∀ (i : Nat) (d : D) (o : Option D), ds[i]? = some d → os[i]? = some o → LcT X A scope (own.map (·.2)) tg elt ifs d o) (hs : ∀ x, foldedSetIterable iter X.env x = pure x := by intro _; rfl) : PDL X A (.ListComp elt [⟨tg, iter, ifs, 0⟩] scope pos) (os.filterMap id) :=
  pdl_of (pe_lc hc hN hi ok (g := gLc X scope (own.map (·.2)) tg) (tt := tLcT X scope ifs) (te := tLcE X scope elt)
    (fun s H C cl fp => ⟨fun pins s' σ H v u Q I r ⟨A', d, A'', h, q⟩ => (h s _ C cl fp).run pins s' σ H v u Q I r q⟩)
    (fun s H C cl fp => ⟨fun pins s' σ H Q I ⟨A', k, h, q⟩ => (h s _ C cl fp).run pins s' σ H Q I q⟩)
    (fun s H C cl fp => ⟨fun pins s' σ H Q I ⟨A', y, h, q⟩ => (h s _ C cl fp).run pins s' σ H Q I q⟩) hs) fun σ H Q h => lc_read os ho hl ht h
theorem pd_lc {tg elt iter : Expr} {ifs : List Expr} {scope : Scope} (own : List (Str × Nat)) (os : List (Option D)) (ho : os.length = ds.length) (hc : X.calm = true) (hN : X.N.Nodup) (hi : PID X A tg iter ds) (ok : BlkOk X.N X.env.scope scope own) (hl : ds.length ≤ 100000)
    (ht : ∀ (i : Nat) (d : D) (o : Option D), ds[i]? = some d → os[i]? = some o → LcT X A scope (own.map (·.2)) tg elt ifs d o) (hs : ∀ x, foldedSetIterable iter X.env x = pure x := by intro _; rfl) : PD X A (.ListComp elt [⟨tg, iter, ifs, 0⟩] scope pos) (.list (os.filterMap id)) :=
  (pdl_lc own os ho hc hN hi ok hl ht hs).pd
/-- y = [..], on one line -/
theorem sd_setLc {tg elt iter : Expr} {ifs : List Expr} {scope : Scope} {n : Str} {py spos : Pos} (i : Nat) (own : List (Str × Nat)) (os : List (Option D)) (ho : os.length = ds.length) (hc : X.calm = true) (hN : X.N.Nodup) (hi : PID X A tg iter ds) (ok : BlkOk X.N X.env.scope scope own) (hl : ds.length ≤ 100000)
    (hsw : swapsWith (.ListComp elt [⟨tg, iter, ifs, 0⟩] scope pos) (some (.Name n py)) spos.line X.env = pure true)
    (ht : ∀ (i : Nat) (d : D) (o : Option D), ds[i]? = some d → os[i]? = some o → LcT X A scope (own.map (·.2)) tg elt ifs d o) (h : Φ.nx ⟨A.ρ.set i (.dat (.list (os.filterMap id))), A.μ⟩) (hy : X.N[i]? = some n := by rfl) (hyl : X.env.scope.names.lookup n = some .local := by rfl)
    (hs : ∀ x, foldedSetIterable iter X.env x = pure x := by intro _; rfl) : SD X A (.Assign [.Name n py] (.ListComp elt [⟨tg, iter, ifs, 0⟩] scope pos) spos) Φ :=
  sd_of (ps_setLc hc hN hy hyl hsw hi ok (g := gLc X scope (own.map (·.2)) tg) (tt := tLcT X scope ifs) (te := tLcE X scope elt)
    (fun s H C cl fp => ⟨fun pins s' σ H v u Q I r ⟨A', d, A'', h, q⟩ => (h s _ C cl fp).run pins s' σ H v u Q I r q⟩)
    (fun s H C cl fp => ⟨fun pins s' σ H Q I ⟨A', k, h, q⟩ => (h s _ C cl fp).run pins s' σ H Q I q⟩)
    (fun s H C cl fp => ⟨fun pins s' σ H Q I ⟨A', y, h, q⟩ => (h s _ C cl fp).run pins s' σ H Q I q⟩) hs) fun Dn σ H ⟨W, H0, F, ps, hs', rz⟩ =>
    lc_read os ho hl ht (Q := fun x H1 => gName i x σ H1 Dn.nx) ⟨W, H0, F, ps, hs', fun p H' zs e h0 h1 r1 => rz.nx ps _ _ H' ((hs'.ext e).set (s := .dat (.list (os.filterMap id))) ⟨.ref p, rfl, .lst (.inl ⟨.inl h1, fun z => hs'.avoid z h0⟩) (repA_back r1)⟩) h⟩
theorem lct_all {scope : Scope} {vs : List Nat} {tg elt : Expr} {d y : D} {A'' : AS} (h1 : ∀ s H C cl fp, PGD (Bk X scope s H C cl fp) vs tg (A.wipe vs) d A'') (h2 : ∀ s H C cl fp, PD (Bk X scope s H C cl fp) A'' elt y) : LcT X A scope vs tg elt [] d (some y) :=
  ⟨A'', true, h1, fun _ _ _ _ _ => ptsd_nil, fun _ => ⟨y, rfl, h2⟩, fun h => nomatch h⟩
theorem lct_if {scope : Scope} {vs : List Nat} {tg elt c : Expr} {d y : D} {A'' : AS} (k : Bool) (h1 : ∀ s H C cl fp, PGD (Bk X scope s H C cl fp) vs tg (A.wipe vs) d A'') (hc : ∀ s H C cl fp, PTD (Bk X scope s H C cl fp) A'' c k) (h2 : k = true → ∀ s H C cl fp, PD (Bk X scope s H C cl fp) A'' elt y) :
    LcT X A scope vs tg elt [c] d (if k = true then some y else none) :=
  ⟨A'', k, h1, fun s H C cl fp => ptsd_one (hc s H C cl fp), fun e => ⟨y, by rw [if_pos e], h2 e⟩, fun e => by rw [e]; rfl⟩
theorem turns_map {α : Type} {xs : List α} {enc g : α → D} {scope : Scope} {vs : List Nat} {tg elt : Expr} {ifs : List Expr} (ht : ∀ x ∈ xs, LcT X A scope vs tg elt ifs (enc x) (some (g x))) :
    ∀ (i : Nat) (d : D) (o : Option D), (xs.map enc)[i]? = some d → (xs.map fun x => some (g x))[i]? = some o → LcT X A scope vs tg elt ifs d o := fun i d o h1 h2 => by
  rw [List.getElem?_map] at h1 h2
  cases e : xs[i]? with
  | none => rw [e] at h1; cases h1
  | some x =>
    rw [e] at h1 h2
    cases h1
    cases h2
    exact ht x (List.mem_of_getElem? e)
theorem turns_if {α : Type} {xs : List α} {enc g : α → D} {p : α → Bool} {scope : Scope} {vs : List Nat} {tg elt : Expr} {ifs : List Expr} (ht : ∀ x ∈ xs, LcT X A scope vs tg elt ifs (enc x) (if p x = true then some (g x) else none)) :
    ∀ (i : Nat) (d : D) (o : Option D), (xs.map enc)[i]? = some d → (xs.map fun x => if p x = true then some (g x) else none)[i]? = some o → LcT X A scope vs tg elt ifs d o := fun i d o h1 h2 => by
  rw [List.getElem?_map] at h1 h2
  cases e : xs[i]? with
  | none => rw [e] at h1; cases h1
  | some x =>
    rw [e] at h1 h2
    cases h1
    cases h2
    exact ht x (List.mem_of_getElem? e)
theorem fm_map {α : Type} {g : α → D} : ∀ (xs : List α), (xs.map fun x => some (g x)).filterMap id = xs.map g
  | [] => rfl
  | x :: xs => by simp [List.map_cons, fm_map xs]
theorem fm_if {α : Type} {g : α → D} {p : α → Bool} : ∀ (xs : List α), (xs.map fun x => if p x = true then some (g x) else none).filterMap id = (xs.filter p).map g
  | [] => rfl
  | x :: xs => by
    rw [List.map_cons]
    cases h : p x with
    | true => rw [List.filter_cons_of_pos h, List.map_cons, ← fm_if xs]; simp
    | false => rw [List.filter_cons_of_neg (by simp [h]), ← fm_if xs]; simp
/-- [g x for x in xs] -/
theorem pd_lcm {α : Type} {tg elt iter : Expr} {ifs : List Expr} {scope : Scope} (own : List (Str × Nat)) (xs : List α) (enc g : α → D) (hc : X.calm = true) (hN : X.N.Nodup) (hi : PID X A tg iter (xs.map enc)) (ok : BlkOk X.N X.env.scope scope own) (hl : xs.length ≤ 100000)
    (ht : ∀ x ∈ xs, LcT X A scope (own.map (·.2)) tg elt ifs (enc x) (some (g x))) (hs : ∀ x, foldedSetIterable iter X.env x = pure x := by intro _; rfl) : PD X A (.ListComp elt [⟨tg, iter, ifs, 0⟩] scope pos) (.list (xs.map g)) := by
  rw [← fm_map xs]
  exact pd_lc own _ (by simp) hc hN hi ok (by simpa using hl) (turns_map ht) hs
/-- [g x for x in xs if p x] -/
theorem pd_lcf {α : Type} {tg elt iter : Expr} {ifs : List Expr} {scope : Scope} (own : List (Str × Nat)) (xs : List α) (enc g : α → D) (p : α → Bool) (hc : X.calm = true) (hN : X.N.Nodup) (hi : PID X A tg iter (xs.map enc)) (ok : BlkOk X.N X.env.scope scope own) (hl : xs.length ≤ 100000)
    (ht : ∀ x ∈ xs, LcT X A scope (own.map (·.2)) tg elt ifs (enc x) (if p x = true then some (g x) else none)) (hs : ∀ x, foldedSetIterable iter X.env x = pure x := by intro _; rfl) : PD X A (.ListComp elt [⟨tg, iter, ifs, 0⟩] scope pos) (.list ((xs.filter p).map g)) := by
  rw [← fm_if xs]
  exact pd_lc own _ (by simp) hc hN hi ok (by simpa using hl) (turns_if ht) hs
theorem pdl_lcf {α : Type} {tg elt iter : Expr} {ifs : List Expr} {scope : Scope} (own : List (Str × Nat)) (xs : List α) (enc g : α → D) (p : α → Bool) (hc : X.calm = true) (hN : X.N.Nodup) (hi : PID X A tg iter (xs.map enc)) (ok : BlkOk X.N X.env.scope scope own) (hl : xs.length ≤ 100000)
    (ht : ∀ x ∈ xs, LcT X A scope (own.map (·.2)) tg elt ifs (enc x) (if p x = true then some (g x) else none)) (hs : ∀ x, foldedSetIterable iter X.env x = pure x := by intro _; rfl) : PDL X A (.ListComp elt [⟨tg, iter, ifs, 0⟩] scope pos) ((xs.filter p).map g) := by
  rw [← fm_if xs]
  exact pdl_lc own _ (by simp) hc hN hi ok (by simpa using hl) (turns_if ht) hs
theorem sd_setLcm {α : Type} {tg elt iter : Expr} {ifs : List Expr} {scope : Scope} {n : Str} {py spos : Pos} (i : Nat) (own : List (Str × Nat)) (xs : List α) (enc g : α → D) (hc : X.calm = true) (hN : X.N.Nodup) (hi : PID X A tg iter (xs.map enc)) (ok : BlkOk X.N X.env.scope scope own) (hl : xs.length ≤ 100000)
    (hsw : swapsWith (.ListComp elt [⟨tg, iter, ifs, 0⟩] scope pos) (some (.Name n py)) spos.line X.env = pure true)
    (ht : ∀ x ∈ xs, LcT X A scope (own.map (·.2)) tg elt ifs (enc x) (some (g x))) (h : Φ.nx ⟨A.ρ.set i (.dat (.list (xs.map g))), A.μ⟩) (hy : X.N[i]? = some n := by rfl) (hyl : X.env.scope.names.lookup n = some .local := by rfl)
    (hs : ∀ x, foldedSetIterable iter X.env x = pure x := by intro _; rfl) : SD X A (.Assign [.Name n py] (.ListComp elt [⟨tg, iter, ifs, 0⟩] scope pos) spos) Φ :=
  sd_setLc i own _ (by simp) hc hN hi ok (by simpa using hl) hsw (turns_map ht) (by rw [fm_map]; exact h) hy hyl hs
theorem sd_setLcf {α : Type} {tg elt iter : Expr} {ifs : List Expr} {scope : Scope} {n : Str} {py spos : Pos} (i : Nat) (own : List (Str × Nat)) (xs : List α) (enc g : α → D) (p : α → Bool) (hc : X.calm = true) (hN : X.N.Nodup) (hi : PID X A tg iter (xs.map enc)) (ok : BlkOk X.N X.env.scope scope own) (hl : xs.length ≤ 100000)
    (hsw : swapsWith (.ListComp elt [⟨tg, iter, ifs, 0⟩] scope pos) (some (.Name n py)) spos.line X.env = pure true)
    (ht : ∀ x ∈ xs, LcT X A scope (own.map (·.2)) tg elt ifs (enc x) (if p x = true then some (g x) else none)) (h : Φ.nx ⟨A.ρ.set i (.dat (.list ((xs.filter p).map g))), A.μ⟩) (hy : X.N[i]? = some n := by rfl) (hyl : X.env.scope.names.lookup n = some .local := by rfl)
    (hs : ∀ x, foldedSetIterable iter X.env x = pure x := by intro _; rfl) : SD X A (.Assign [.Name n py] (.ListComp elt [⟨tg, iter, ifs, 0⟩] scope pos) spos) Φ :=
  sd_setLc i own _ (by simp) hc hN hi ok (by simpa using hl) hsw (turns_if ht) (by rw [fm_if]; exact h) hy hyl hs
end

/-! ### defs -/
/-- a def's promise by data: φ args answer -/
def spD (K : PySem.W.Frag) (φ : List D → D → Prop) : Sp := fun vs H Q _ => ∃ M ds d, φ ds d ∧ (∀ a ∈ M, H a ≠ none) ∧ RepA K M H vs ds ∧ ∀ v H', Ex H H' → Rep K M H' v d → Q v H'
/-- .. the answer a tuple known to its object -/
def spDF (K : PySem.W.Frag) (φ : List D → D → Prop) : Sp := fun vs H Q _ => ∃ M ds d, φ ds d ∧ (∀ a ∈ M, H a ≠ none) ∧ RepA K M H vs ds ∧ ∀ v H', Ex H H' → RepF K M H' v d → Q v H'
structure DFnF (P : Program) (w : World) (K : PySem.W.Frag) (mg : Str → Option Value) (base : Heap) (k : Nat) (n : Str) (φ : List D → D → Prop) : Prop where
  ok : ∃ f fd ps, FnOk P w K mg base CX0 k f fd ps (spDF K φ) ∧ mg n = some (.ref f) ∧ PySem.W.keepIn K (.ref f) = true ∧ Binds K fd ps []
structure DFn (P : Program) (w : World) (K : PySem.W.Frag) (mg : Str → Option Value) (base : Heap) (k : Nat) (n : Str) (φ : List D → D → Prop) : Prop where
  ok : ∃ f fd ps, FnOk P w K mg base CX0 k f fd ps (spD K φ) ∧ mg n = some (.ref f) ∧ PySem.W.keepIn K (.ref f) = true ∧ Binds K fd ps []
theorem DFn.mono {P : Program} {w : World} {K : PySem.W.Frag} {mg : Str → Option Value} {base : Heap} {k j : Nat} {n : Str} {φ : List D → D → Prop} (G : DFn P w K mg base k n φ) (h : k ≤ j) : DFn P w K mg base j n φ :=
  let ⟨f, fd, ps, a, b, c, d⟩ := G.ok; ⟨f, fd, ps, a.mono h, b, c, d⟩
section
variable {X : Cx} {A : AS} {e : Expr} {es : List Expr} {ds : List D} {x d : D} {pos p : Pos}
theorem pd_call {n : Str} {k : Nat} {φ : List D → D → Prop} (G : DFn X.prog X.w X.K X.mg X.base k n φ) (hr : Room k X.A) (ha : PDs X A (e :: es) ds) (h : φ ds d) (hg : Gl X n := by rfl) (hdb : (n == ("__debug__" : Str)) = false := by decide)
    (he : starEach (e :: es) X.env = (false, eval e X.env) :: starEach es X.env := by rfl) (hpl : (backTo pos (starEach es X.env)).any (·.1) = false := by rfl) : PD X A (.Call (.Name n p) (e :: es) [] pos) d := by
  obtain ⟨f, fd, ps, G1, G2, G3, G4⟩ := G.ok
  refine pd_of (pe_call G1 hr hg G2 G3 G4 .nil (E := E0) pass0 ha hdb he hpl) fun σ H Q ⟨W, H0, F, ps, hs, q⟩ => ⟨W, H0, F, ps, hs, fun vs H1 e1 r1 => ?_⟩
  refine ⟨Mx ps ++ F, ds, d, h, fun a m => (hs.ext e1).avoid m, by rw [List.append_nil]; exact r1, fun v H2 e2 r2 => q v H2 (ex_trans e1 e2) r2⟩
theorem DFnF.dfn {P : Program} {w : World} {K : PySem.W.Frag} {mg : Str → Option Value} {base : Heap} {k : Nat} {n : Str} {φ : List D → D → Prop} (G : DFnF P w K mg base k n φ) : DFn P w K mg base k n φ :=
  let ⟨f, fd, ps, a, b, c, d⟩ := G.ok
  ⟨f, fd, ps, a.imp fun vs H Q E ⟨M, ds, d, h, hm, r, q⟩ => ⟨M, ds, d, h, hm, r, fun v H' e r' => q v H' e r'.1⟩, b, c, d⟩
theorem pdf_call {n : Str} {k : Nat} {φ : List D → D → Prop} (G : DFnF X.prog X.w X.K X.mg X.base k n φ) (hr : Room k X.A) (ha : PDs X A (e :: es) ds) (h : φ ds d) (hg : Gl X n := by rfl) (hdb : (n == ("__debug__" : Str)) = false := by decide)
    (he : starEach (e :: es) X.env = (false, eval e X.env) :: starEach es X.env := by rfl) (hpl : (backTo pos (starEach es X.env)).any (·.1) = false := by rfl) : PDF X A (.Call (.Name n p) (e :: es) [] pos) d := by
  obtain ⟨f, fd, ps, G1, G2, G3, G4⟩ := G.ok
  refine pdf_of (pe_call G1 hr hg G2 G3 G4 .nil (E := E0) pass0 ha hdb he hpl) fun σ H Q ⟨W, H0, F, ps, hs, q⟩ => ⟨W, H0, F, ps, hs, fun vs H1 e1 r1 => ?_⟩
  refine ⟨Mx ps ++ F, ds, d, h, fun a m => (hs.ext e1).avoid m, by rw [List.append_nil]; exact r1, fun v H2 e2 r2 => q v H2 (ex_trans e1 e2) r2⟩
end
/-- the slots at a def's start -/
def startA (N : List Str) (ds : List D) : AS := ⟨ds.map .dat ++ List.replicate (N.length - ds.length) .no, []⟩
theorem has_start {K : PySem.W.Frag} {M : List Addr} {H : Hp} {N : List Str} {vs : List V} {ds : List D} (r : RepA K M H vs ds) (hm : ∀ a ∈ M, H a ≠ none) : Has K [] H M [] (startA N ds) (L2.start N vs) H where
  ex := fun a o _ e => e
  len := by simp [startA, L2.start, r.length]
  sl := fun i s q => by
    have q' : (ds.map Sl.dat ++ List.replicate (N.length - ds.length) Sl.no)[i]? = some s := q
    by_cases hi : i < ds.length
    · rw [List.getElem?_append_left (by simpa using hi), List.getElem?_map, List.getElem?_eq_getElem hi] at q'
      cases q'
      obtain ⟨v, e, rv⟩ := r.get' (List.getElem?_eq_getElem hi)
      refine ⟨v, ?_, rv⟩
      unfold L2.start
      rw [List.getElem?_append_left (by simpa [r.length] using hi), List.getElem?_map, e]
      rfl
    · rw [List.getElem?_append_right (by simpa using hi)] at q'
      have e := (List.getElem?_replicate.symm.trans q')
      split at e
      · cases e; trivial
      · cases e
  ml := rfl
  mo := fun j o q => by simp [startA] at q
  fr := fun p hp => by simp at hp
  nd := by simp
  wf := fun a w => by simp at w
  wo := fun a w => by simp at w
  ff := hm
section
variable {P : Program} {w : World} {K : PySem.W.Frag} {mg : Str → Option Value} {base : Heap}
/-- the context of a def's body that lets no exception out -/
abbrev Bd (P : Program) (w : World) (K : PySem.W.Frag) (mg : Str → Option Value) (base : Heap) (N : List Str) (qual : Str) (scope : Scope) (f : Addr) (cdv : Value) (A : Around) (outer : List Env) (s : Shared) (H : Hp) (E : XK) : Cx := (cxOf CX0 P w K mg base N qual scope f cdv A outer s H E).nox
theorem fnD {x qual : Str} {st : Stmt} {f : Addr} {fd : FuncData} {N ps : List Str} {k : Nat} {φ : List D → D → Prop} (F : Fun K x qual st f fd) (S : FnScope N ps (defScope st)) (hl : ∀ ds d, φ ds d → ds.length = ps.length)
    (body : ∀ (cdv : Value) (A : Around) (outer : List Env) (s : Shared) (H : Hp) (E : XK) (ds : List D) (d : D), Room k (A.deeper (envOfC qual (defScope st) s.heap.objs.size f cdv)) → φ ds d →
      SDs (Bd P w K mg base N qual (defScope st) f cdv A outer s H E) (startA N ds) (defBody st) { nx := fun _ => d = .none, rt := fun _ r => r = d }) : FnOk P w K mg base CX0 (k + 1) f fd ps (spD K φ) := by
  refine F.ok S (fun vs H Q E ⟨M, ds, d, h, _, r, _⟩ => by rw [r.length]; exact hl ds d h) fun cdv A outer s H vs Q E hr ⟨M, ds, d, h, hm, r, q⟩ => ?_
  refine ⟨_, body cdv A outer s H E ds d hr h, [], H, M, [], has_start r hm, ?_⟩
  exact ⟨fun ps A σ H' h' e => q .non H' (fun a o z => h'.ex a o (by simp) z) (by rw [e]; exact .non), fun _ _ _ _ _ z => z.elim, fun _ _ _ _ _ z => z.elim,
    fun ps A σ H' v d' h' r' e => q v H' (fun a o z => h'.ex a o (by simp) z) (by rw [← e]; exact r'.go (Go.sub fun a z => List.mem_append_right _ z)), fun _ _ _ _ _ _ _ _ z => z.elim⟩
theorem fnDF {x qual : Str} {st : Stmt} {f : Addr} {fd : FuncData} {N ps : List Str} {k : Nat} {φ : List D → D → Prop} (F : Fun K x qual st f fd) (S : FnScope N ps (defScope st)) (hl : ∀ ds d, φ ds d → ds.length = ps.length)
    (body : ∀ (cdv : Value) (A : Around) (outer : List Env) (s : Shared) (H : Hp) (E : XK) (ds : List D) (d : D), Room k (A.deeper (envOfC qual (defScope st) s.heap.objs.size f cdv)) → φ ds d →
      SDs (Bd P w K mg base N qual (defScope st) f cdv A outer s H E) (startA N ds) (defBody st) { nx := fun _ => False, rt := fun _ _ => False, rtF := fun _ r => r = d }) : FnOk P w K mg base CX0 (k + 1) f fd ps (spDF K φ) := by
  refine F.ok S (fun vs H Q E ⟨M, ds, d, h, _, r, _⟩ => by rw [r.length]; exact hl ds d h) fun cdv A outer s H vs Q E hr ⟨M, ds, d, h, hm, r, q⟩ => ?_
  refine ⟨_, body cdv A outer s H E ds d hr h, [], H, M, [], has_start r hm, ?_⟩
  exact ⟨fun _ _ _ _ _ z => z.elim, fun _ _ _ _ _ z => z.elim, fun _ _ _ _ _ z => z.elim, fun _ _ _ _ _ _ _ _ z => z.elim,
    fun ps A σ H' v d' h' r' e => q v H' (fun a o z => h'.ex a o (by simp) z) (by rw [← e]; exact r'.go (Go.sub fun a z => List.mem_append_right _ z))⟩
end
end Z

namespace Z
open PySem PySem.Spec PyProof.Rows L2

/-! ### and, or, not, chains -/
section
variable {X : Cx} {A : AS} {a b c e : Expr} {rest : List Expr} {x y z d : D} {k l : Bool} {pos : Pos}
theorem pwd_and1 (ha : PTD X A a k) : PWD X A (.BoolOp .And [a] pos) k := pwd_of (pw_and1 ha) fun _ _ _ h => h
theorem pwd_or1 (ha : PTD X A a k) : PWD X A (.BoolOp .Or [a] pos) k := pwd_of (pw_or1 ha) fun _ _ _ h => h
theorem pwd_and (ha : PTD X A a k) (hb : k = true → PWD X A (.BoolOp .And (b :: rest) pos) l) : PWD X A (.BoolOp .And (a :: b :: rest) pos) (k && l) := by
  have p : PW X (.BoolOp .And (b :: rest) pos) (fun σ H Q => k = true ∧ tT X.K A l σ H Q) := ⟨fun wh pins s σ H Q I q => (hb q.1).run wh pins s σ H Q I q.2⟩
  refine pwd_of (pw_and ha p) fun σ H Q ⟨W, H0, F, ps, hs, q⟩ => ⟨W, H0, F, ps, hs, fun H1 e1 => ?_⟩
  cases k with
  | true => exact iteT ⟨rfl, W, H0, F, ps, hs.ext e1, fun H2 e2 => q H2 (ex_trans e1 e2)⟩
  | false => exact iteF (q H1 e1)
theorem pwd_or (ha : PTD X A a k) (hb : k = false → PWD X A (.BoolOp .Or (b :: rest) pos) l) : PWD X A (.BoolOp .Or (a :: b :: rest) pos) (k || l) := by
  have p : PW X (.BoolOp .Or (b :: rest) pos) (fun σ H Q => k = false ∧ tT X.K A l σ H Q) := ⟨fun wh pins s σ H Q I q => (hb q.1).run wh pins s σ H Q I q.2⟩
  refine pwd_of (pw_or ha p) fun σ H Q ⟨W, H0, F, ps, hs, q⟩ => ⟨W, H0, F, ps, hs, fun H1 e1 => ?_⟩
  cases k with
  | true => exact iteT (q H1 e1)
  | false => exact iteF ⟨rfl, W, H0, F, ps, hs.ext e1, fun H2 e2 => q H2 (ex_trans e1 e2)⟩
theorem ptd_w (h : PWD X A e k) : PTD X A e k := h.pt
theorem ptd_not (h : PTD X A a k) : PTD X A (.UnaryOp .Not a pos) (!k) := ptd_of (pt_not h) fun _ _ _ h => h
theorem pd_one {op} (h : PD X A a d) : PD X A (.BoolOp op [a] pos) d := pd_of (pe_one h) fun _ _ _ h => h
theorem pd_and (ha : PD X A a (.bool k)) (hb : k = true → PD X A (.BoolOp .And (b :: rest) pos) (.bool l)) : PD X A (.BoolOp .And (a :: b :: rest) pos) (.bool (k && l)) := by
  have p : PE X (.BoolOp .And (b :: rest) pos) (fun σ H Q => k = true ∧ tD X.K A (.bool l) σ H Q) := ⟨fun pins s σ H Q I q => (hb q.1).run pins s σ H Q I q.2⟩
  refine pd_of (pe_and ha p) fun σ H Q ⟨W, H0, F, ps, hs, q⟩ => ⟨W, H0, F, ps, hs, fun v H1 e1 r1 => ?_⟩
  cases r1
  refine ⟨k, rfl, ?_⟩
  cases k with
  | true => exact iteT ⟨rfl, W, H0, F, ps, hs.ext e1, fun v H2 e2 r2 => q v H2 (ex_trans e1 e2) r2⟩
  | false => exact iteF (q _ H1 e1 (.bl false))
theorem pd_or (ha : PD X A a (.bool k)) (hb : k = false → PD X A (.BoolOp .Or (b :: rest) pos) (.bool l)) : PD X A (.BoolOp .Or (a :: b :: rest) pos) (.bool (k || l)) := by
  have p : PE X (.BoolOp .Or (b :: rest) pos) (fun σ H Q => k = false ∧ tD X.K A (.bool l) σ H Q) := ⟨fun pins s σ H Q I q => (hb q.1).run pins s σ H Q I q.2⟩
  refine pd_of (pe_or ha p) fun σ H Q ⟨W, H0, F, ps, hs, q⟩ => ⟨W, H0, F, ps, hs, fun v H1 e1 r1 => ?_⟩
  cases r1
  refine ⟨k, rfl, ?_⟩
  cases k with
  | true => exact iteT (q _ H1 e1 (.bl true))
  | false => exact iteF ⟨rfl, W, H0, F, ps, hs.ext e1, fun v H2 e2 r2 => q v H2 (ex_trans e1 e2) r2⟩
theorem pd_not (ha : PD X A a (.bool k)) : PD X A (.UnaryOp .Not a pos) (.bool (!k)) :=
  pd_of (pe_not ha) fun σ H Q ⟨W, H0, F, ps, hs, q⟩ => ⟨W, H0, F, ps, hs, fun v H1 e1 r1 => by
    cases r1
    exact ⟨k, rfl, q _ H1 e1 (.bl _)⟩⟩
/-- a op b op' c -/
theorem tD_chain {op op' : CmpOp} {r r' : R2} {σ : L2.St} {H : Hp} {Q : VK} (hr : RD2 X.K r x y (.bool k)) (hr' : RD2 X.K r' y z (.bool l)) (h : tD X.K A (.bool (k && l)) σ H Q) : tChain r r' (tD X.K A x) (tD X.K A y) (tD X.K A z) σ H Q := by
  obtain ⟨W, H0, F, ps, hs, q⟩ := h
  refine ⟨W, H0, F, ps, hs, fun vx H1 e1 r1 => ⟨W, H0, F, ps, hs.ext e1, fun vy H2 e2 r2 => ?_⟩⟩
  refine hr (Mx ps ++ F) H2 vx vy _ (fun a m => ((hs.ext e1).ext e2).avoid m) (r1.ex e2) r2 fun v H3 e3 r3 => ?_
  cases r3
  refine ⟨k, rfl, ?_⟩
  cases k with
  | false => exact iteF (q _ H3 (ex_trans e1 (ex_trans e2 e3)) (.bl _))
  | true => exact iteT ⟨W, H0, F, ps, ((hs.ext e1).ext e2).ext e3, fun vz H4 e4 r4 => hr' (Mx ps ++ F) H4 vy vz Q (fun a m => ((((hs.ext e1).ext e2).ext e3).ext e4).avoid m) (r2.ex (ex_trans e3 e4)) r4 fun v H5 e5 r5 =>
      q v H5 (ex_trans e1 (ex_trans e2 (ex_trans e3 (ex_trans e4 e5)))) r5⟩
theorem pd_chain {op op' : CmpOp} {r r' : R2} (ho : OpR X (compareOp op) r) (ho' : OpR X (compareOp op') r') (hr : RD2 X.K r x y (.bool k)) (hr' : RD2 X.K r' y z (.bool l)) (ha : PD X A a x) (hb : PD X A b y) (hc : PD X A c z)
    (hm : lastMarks [op, op'] [b, c] = false := by with_unfolding_all rfl) : PD X A (.Compare a [op, op'] [b, c] pos) (.bool (k && l)) :=
  pd_of (pe_chain ho ho' ha hb hc hm) fun σ H Q h => tD_chain (op := op) (op' := op') hr hr' h
theorem ptd_chain {op op' : CmpOp} {r r' : R2} (ho : OpR X (compareOp op) r) (ho' : OpR X (compareOp op') r') (hr : RD2 X.K r x y (.bool k)) (hr' : RD2 X.K r' y z (.bool l)) (ha : PD X A a x) (hb : PD X A b y) (hc : PD X A c z)
    (hm : lastMarks [op, op'] [b, c] = false := by with_unfolding_all rfl) : PTD X A (.Compare a [op, op'] [b, c] pos) (k && l) :=
  ptd_of (pt_chain ho ho' ha hb hc hm) fun σ H Q ⟨W, H0, F, ps, hs, q⟩ => tD_chain (op := op) (op' := op') hr hr' ⟨W, H0, F, ps, hs, fun v H' e r => by
    cases r
    exact ⟨_, rfl, q H' e⟩⟩
end

/-! ### objects that the frame owns -/
section
variable {K : PySem.W.Frag} {ps : List (Option Addr)} {W F : List Addr} {H0 H : Hp} {A : AS} {σ : L2.St}
theorem mx_app {p : Addr} : Mx (ps ++ [some p]) = Mx ps ++ [p] := by unfold Mx; rw [List.filterMap_append]; rfl
theorem Go.new {p : Addr} {o : HO} (hp : H p = none) : Go (Mx ps ++ F) (Mx (ps ++ [some p]) ++ F) H (upd H p o) :=
  Go.perm (M := p :: (Mx ps ++ F)) (fun a z => by
    rw [mx_app] at z
    rcases List.mem_append.mp z with z | z
    · rcases List.mem_append.mp z with z | z
      · exact List.mem_cons_of_mem _ (List.mem_append_left _ z)
      · have e : a = p := by simpa using z
        rw [e]
        exact List.mem_cons_self
    · exact List.mem_cons_of_mem _ (List.mem_append_right _ z)) (Go.own hp)
theorem mx_own {p a : Addr} (z : a ∈ Mx (ps ++ [some p]) ++ F) : a ∈ Mx ps ++ (p :: F) := by
  rw [mx_app] at z
  rcases List.mem_append.mp z with z | z
  · rcases List.mem_append.mp z with z | z
    · exact List.mem_append_left _ z
    · have e : a = p := by simpa using z
      rw [e]
      exact List.mem_append_right _ List.mem_cons_self
  · exact List.mem_append_right _ (List.mem_cons_of_mem _ z)
theorem go_own {H' : Hp} {p : Addr} (xt : Ex H H') (hp : H p = none) : Go (Mx ps ++ F) (Mx (ps ++ [some p]) ++ F) H H' := Go.perm (fun a z => mx_own z) (Go.foreign' xt hp)
/-- an object that came to be is one's own from here on -/
theorem Has.adopt {H' : Hp} (h : Has K W H0 F ps A σ H) {p : Addr} {m : MO} (hp : H p = none) (xt : Ex H H') (hq : H' p ≠ none) (hm : MOk K (Mx (ps ++ [some p]) ++ F) H' (some p) m) : Has K W H0 F (ps ++ [some p]) ⟨A.ρ, A.μ ++ [m]⟩ σ H' where
  ex := fun a u w e => xt _ _ (h.ex a u w e)
  len := h.len
  sl := fun i s q => by
    have r := (h.sl i s q).go (go_own xt hp)
    cases s with
    | no => trivial
    | dat d => exact r
    | datF d => exact r
    | obj j =>
      obtain ⟨a, e1, e2⟩ := r
      exact ⟨a, e1, by rw [List.getElem?_append_left (List.getElem?_eq_some_iff.mp e2).1]; exact e2⟩
  ml := by simp [h.ml]
  mo := fun j u q => by
    have q' : (A.μ ++ [m])[j]? = some u := q
    by_cases hj : j < A.μ.length
    · rw [List.getElem?_append_left hj] at q'
      obtain ⟨a, e1, e2⟩ := h.mo j u q'
      exact ⟨a, by rw [List.getElem?_append_left (by rw [h.ml]; exact hj)]; exact e1, e2.go (go_own xt hp) fun b v _ z => xt _ _ z⟩
    · rw [List.getElem?_append_right (by omega)] at q'
      have e : j - A.μ.length = 0 := by
        cases t : j - A.μ.length with
        | zero => rfl
        | succ n => rw [t] at q'; simp at q'
      rw [e] at q'
      cases q'
      exact ⟨some p, by rw [List.getElem?_append_right (by rw [h.ml]; omega), h.ml, e]; rfl, hm⟩
  fr := fun q hq => by
    rw [mx_app] at hq
    rcases List.mem_append.mp hq with z | z
    · exact h.fr q z
    · have e : q = p := by simpa using z
      subst e
      by_cases w : q ∈ W
      · exact .inr w
      · cases t : H0 q with
        | none => exact .inl rfl
        | some u => rw [h.ex q u w t] at hp; cases hp
  nd := by
    rw [mx_app]
    refine List.nodup_append.mpr ⟨h.nd, by simp, fun a ha b hb e => ?_⟩
    have e' : b = p := by simpa using hb
    rw [e, e'] at ha
    exact own_some (h.mx ha) hp
  wf := h.wf
  wo := fun a w => (h.wo a w).ex xt
  ff := fun a f => by
    intro z
    exact h.ff a f (none_of xt z)
/-- a new object of one's own -/
theorem Has.new (h : Has K W H0 F ps A σ H) {p : Addr} {o : HO} {m : MO} (hp : H p = none) (ho : Own (some o)) (hm : MOk K (Mx (ps ++ [some p]) ++ F) (upd H p o) (some p) m) : Has K W H0 F (ps ++ [some p]) ⟨A.ρ, A.μ ++ [m]⟩ σ (upd H p o) :=
  h.adopt hp (ex_new hp) (by rw [upd_same]; intro z; cases z) hm
theorem nd_pos : ∀ {ps : List (Option Addr)} {i j : Nat} {p : Addr}, (Mx ps).Nodup → ps[i]? = some (some p) → ps[j]? = some (some p) → i = j
  | [], i, _, _, _, h, _ => by simp at h
  | none :: r, 0, _, _, _, h, _ => by simp at h
  | none :: r, _ + 1, 0, _, _, _, h => by simp at h
  | none :: r, i + 1, j + 1, p, n, h1, h2 => by
    have n' : (Mx r).Nodup := n
    rw [nd_pos (i := i) (j := j) n' (by simpa using h1) (by simpa using h2)]
  | some q :: r, 0, 0, _, _, _, _ => rfl
  | some q :: r, 0, j + 1, p, n, h1, h2 => by
    have n' : (q :: Mx r).Nodup := n
    have e : q = p := by simpa using h1
    subst e
    exact absurd (mem_mx.mpr (List.mem_of_getElem? (show r[j]? = some (some q) by simpa using h2))) (List.nodup_cons.mp n').1
  | some q :: r, i + 1, 0, p, n, h1, h2 => by
    have n' : (q :: Mx r).Nodup := n
    have e : q = p := by simpa using h2
    subst e
    exact absurd (mem_mx.mpr (List.mem_of_getElem? (show r[i]? = some (some q) by simpa using h1))) (List.nodup_cons.mp n').1
  | some q :: r, i + 1, j + 1, p, n, h1, h2 => by
    have n' : (q :: Mx r).Nodup := n
    rw [nd_pos (i := i) (j := j) (List.nodup_cons.mp n').2 (by simpa using h1) (by simpa using h2)]
/-- an owned object changes -/
theorem Has.mut (h : Has K W H0 F ps A σ H) {j : Nat} {p : Addr} {o : HO} {m : MO} (hj : ps[j]? = some (some p)) (hn : H0 p = none ∨ p ∈ W) (ho : Own (some o)) (hm : MOk K (Mx ps ++ F) (upd H p o) (some p) m) : Has K W H0 F ps ⟨A.ρ, A.μ.set j m⟩ σ (upd H p o) := by
  have mp : p ∈ Mx ps := mem_mx.mpr (List.mem_of_getElem? hj)
  have g : Go (Mx ps ++ F) (Mx ps ++ F) H (upd H p o) := Go.mut (List.mem_append_left _ mp) (h.mx mp)
  exact {
    ex := fun a u w e => by
      have n : a ≠ p := fun z => by
        rcases hn with q | q
        · rw [z, q] at e; cases e
        · exact w (z ▸ q)
      rw [upd_ne n]
      exact h.ex a u w e
    len := h.len
    sl := fun i s q => (h.sl i s q).go g
    ml := by simp [h.ml]
    mo := fun i u q => by
      have q' : (A.μ.set j m)[i]? = some u := q
      by_cases e : j = i
      · subst e
        have hl : j < A.μ.length := by rw [← h.ml]; exact (List.getElem?_eq_some_iff.mp hj).1
        rw [List.getElem?_set_self hl] at q'
        cases q'
        exact ⟨some p, hj, hm⟩
      · rw [List.getElem?_set_ne e] at q'
        obtain ⟨a, e1, e2⟩ := h.mo i u q'
        refine ⟨a, e1, e2.go g fun b v eb z => ?_⟩
        have n : b ≠ p := fun t => by
          rw [eb, t] at e1
          exact e (nd_pos h.nd hj e1)
        rw [upd_ne n]
        exact z
    fr := h.fr
    nd := h.nd
    wf := h.wf
    wo := fun a w => by
      by_cases n : a = p
      · rw [n, upd_same]; exact ho
      · rw [upd_ne n]; exact h.wo a w
    ff := fun a f => by
      by_cases n : a = p
      · rw [n, upd_same]; intro z; cases z
      · rw [upd_ne n]; exact h.ff a f }
theorem Has.mut' (h : Has K W H0 F ps A σ H) {j : Nat} {p : Addr} {o : HO} {m : MO} (hj : ps[j]? = some (some p)) (ho : Own (some o)) (hm : MOk K (Mx ps ++ F) (upd H p o) (some p) m) : Has K W H0 F ps ⟨A.ρ, A.μ.set j m⟩ σ (upd H p o) :=
  h.mut hj (h.fr p (mem_mx.mpr (List.mem_of_getElem? hj))) ho hm
end
section
variable {X : Cx} {A : AS} {Φ : AE} {a b c e : Expr} {x y z d : D} {ds : List D} {kvs : List (Key × D)} {pos : Pos}
/-- x = [] -/
theorem sd_newL (i : Nat) {n : Str} {pos' lp : Pos} (hN : X.N.Nodup) (h : Φ.nx ⟨A.ρ.set i (.obj A.μ.length), A.μ ++ [.lst []]⟩) (hi : X.N[i]? = some n := by rfl) (hx : Loc X.env.scope n := by first | exact Or.inl rfl | exact Or.inr rfl)
    (hs : swapsWith (.List [] lp) (some (.Name n pos')) pos.line X.env = pure false := by rfl) (hf : X.fn n = true ∨ X.env.scope.names.lookup n = some .local := by first | exact .inl rfl | exact .inr rfl) : SD X A (.Assign [.Name n pos'] (.List [] lp) pos) Φ :=
  sd_of (ps_set hN hi hx (pe_lst pa_nil) hs hf) fun Dn σ H ⟨W, H0, F, ps, hs, rz⟩ => ⟨Nat.zero_le _, fun p hp => rz.nx _ _ _ _ ((hs.new (o := .lst []) (m := .lst []) hp trivial ⟨p, [], rfl, upd_same, .nil⟩).set (s := .obj A.μ.length) ⟨p, rfl, by rw [← hs.ml]; simp⟩) h⟩
/-- x = a list made for it -/
theorem sd_ownL (i : Nat) {n : Str} {pos' : Pos} (hN : X.N.Nodup) (ha : PDL X A a ds) (h : Φ.nx ⟨A.ρ.set i (.obj A.μ.length), A.μ ++ [.lst ds]⟩) (hi : X.N[i]? = some n := by rfl) (hx : Loc X.env.scope n := by first | exact Or.inl rfl | exact Or.inr rfl)
    (hs : swapsWith a (some (.Name n pos')) pos.line X.env = pure false := by rfl) (hf : X.fn n = true ∨ X.env.scope.names.lookup n = some .local := by first | exact .inl rfl | exact .inr rfl) : SD X A (.Assign [.Name n pos'] a pos) Φ :=
  sd_of (ps_set hN hi hx ha hs hf) fun Dn σ H ⟨W, H0, F, ps, hs, rz⟩ => ⟨W, H0, F, ps, hs, fun p H1 zs xt hp hq r => rz.nx _ _ _ _ ((hs.adopt (m := .lst ds) hp xt (by rw [hq]; intro z; cases z) ⟨p, zs, rfl, hq, RepA.go (Go.sub fun a z => mx_own z) r⟩).set (s := .obj A.μ.length) ⟨p, rfl, by rw [← hs.ml]; simp⟩) h⟩
theorem pdl_lst {es : List Expr} (h : PDs X A es ds) (hl : ds.length ≤ 1000 := by exact Nat.le_of_ble_eq_true rfl) : PDL X A (.List es pos) ds :=
  pdl_of (pe_lst h) fun σ H Q ⟨W, H0, F, ps, hs, q⟩ => ⟨W, H0, F, ps, hs, fun vs H1 e1 r1 => ⟨by rw [r1.length]; exact Nat.le_trans hl (by decide), fun p hp =>
    q p _ vs (ex_trans e1 (ex_new hp)) (none_of e1 hp) upd_same (r1.go (Go.foreign' (ex_new hp) hp))⟩⟩
/-- x = {} -/
theorem sd_newD (i : Nat) {n : Str} {pos' lp : Pos} (hN : X.N.Nodup) (h : Φ.nx ⟨A.ρ.set i (.obj A.μ.length), A.μ ++ [.dK []]⟩) (hi : X.N[i]? = some n := by rfl) (hx : Loc X.env.scope n := by first | exact Or.inl rfl | exact Or.inr rfl)
    (hs : swapsWith (.Dict [] [] lp) (some (.Name n pos')) pos.line X.env = pure false := by rfl) (hf : X.fn n = true ∨ X.env.scope.names.lookup n = some .local := by first | exact .inl rfl | exact .inr rfl) : SD X A (.Assign [.Name n pos'] (.Dict [] [] lp) pos) Φ :=
  sd_of (ps_set hN hi hx pe_dnewK hs hf) fun Dn σ H ⟨W, H0, F, ps, hs, rz⟩ => fun p hp => rz.nx _ _ _ _ ((hs.new (o := .dK []) (m := .dK []) hp trivial ⟨p, [], rfl, upd_same, .nil⟩).set (s := .obj A.μ.length) ⟨p, rfl, by rw [← hs.ml]; simp⟩) h
/-- the object that a name holds -/
theorem Has.obj {K : PySem.W.Frag} {ps : List (Option Addr)} {W F : List Addr} {H0 H : Hp} {σ : L2.St} (h : Has K W H0 F ps A σ H) {i j : Nat} {m : MO} (hi : A.ρ[i]? = some (.obj j)) (hj : A.μ[j]? = some m) :
    ∃ p, σ[i]? = some (some (.ref p)) ∧ ps[j]? = some (some p) ∧ MOk K (Mx ps ++ F) H (some p) m := by
  obtain ⟨p, e1, e2⟩ := h.sl i _ hi
  obtain ⟨q, e3, e4⟩ := h.mo j m hj
  rw [e2] at e3
  cases e3
  exact ⟨p, e1, e2, e4⟩
theorem mok_lst {K : PySem.W.Frag} {M : List Addr} {H : Hp} {p : Addr} (h : MOk K M H (some p) (.lst ds)) : ∃ xs, H p = some (.lst xs) ∧ RepA K M H xs ds := by
  obtain ⟨a, xs, e, h1, h2⟩ := h
  cases e
  exact ⟨xs, h1, h2⟩
theorem mok_dK {K : PySem.W.Frag} {M : List Addr} {H : Hp} {p : Addr} (h : MOk K M H (some p) (.dK kvs)) : ∃ xs, H p = some (.dK xs) ∧ RepK K M H xs kvs := by
  obtain ⟨a, xs, e, h1, h2⟩ := h
  cases e
  exact ⟨xs, h1, h2⟩
/-- x.append(e) -/
theorem sd_append (i j : Nat) {n : Str} {np apos cpos : Pos} (he : PD X A e d) (hl : ds.length < 100000) (h : Φ.nx ⟨A.ρ, A.μ.set j (.lst (ds ++ [d]))⟩) (hi : A.ρ[i]? = some (.obj j) := by rfl) (hj : A.μ[j]? = some (.lst ds) := by rfl)
    (hN : X.N[i]? = some n := by rfl) (hv : Vis X.env.scope n := by first | exact Or.inl rfl | exact Or.inr (Or.inl rfl) | exact Or.inr (Or.inr rfl)) (hd : (n == ("__debug__" : Str)) = false := by decide) (hcd : (n == ("__classdict__" : Str)) = false := by decide)
    (hbase : attributeBase (.Name n np) "append" X.env (eval (.Name n np) X.env) = eval (.Name n np) X.env := by rfl)
    (hfew : ((backTo cpos (starEach [e] X.env)).all (fun x => !x.1) && (backToKw cpos (keywordEach [] X.env)).all (fun x => x.1.isSome)
      && decide ([e].length + ([] : List Keyword).length + (if ([] : List Keyword).isEmpty then 0 else 1) < 30)) = true := by rfl)
    (hline : (apos.endLine == cpos.line) = true := by rfl) (hs : starEach (e :: []) X.env = (false, eval e X.env) :: starEach [] X.env := by rfl) (hplain : (backTo cpos (starEach [] X.env)).any (·.1) = false := by rfl)
    (hsw : swapsWith (.Call (.Attribute (.Name n np) "append" apos) [e] [] cpos) none pos.line X.env = pure false := by rfl) : SD X A (.Expr (.Call (.Attribute (.Name n np) "append" apos) [e] [] cpos) pos) Φ := by
  refine sd_of (ps_expr (pe_bm PySem.F.plainAttrs_list PySem.F.slot_list_append PySem.F.type_list_append mt_append (pe_var hN hv hd hcd) (pa_cons he pa_nil hs) hbase hfew hline hs hplain) hsw) fun Dn σ H ⟨W, H0, F, ps, hs, rz⟩ => ?_
  obtain ⟨p, e1, e2, e3⟩ := hs.obj hi hj
  obtain ⟨xs, hp, rx⟩ := mok_lst e3
  refine ⟨.ref p, e1, .inl ⟨rfl, xs, .of hp⟩, W, H0, F, ps, hs, fun v H1 x1 r1 => ⟨p, xs, v, rfl, rfl, x1 _ _ hp, ?_, ?_⟩⟩
  · rw [rx.length]
    exact Nat.lt_of_lt_of_le hl (by decide)
  · have hs1 := hs.ext x1
    have mp : p ∈ Mx ps ++ F := List.mem_append_left _ (mem_mx.mpr (List.mem_of_getElem? e2))
    have g : Go (Mx ps ++ F) (Mx ps ++ F) H1 (upd H1 p (.lst (xs ++ [v]))) := Go.mut mp (by rw [x1 _ _ hp]; trivial)
    exact rz.nx _ _ _ _ (hs1.mut' (o := .lst (xs ++ [v])) (m := .lst (ds ++ [d])) e2 trivial ⟨p, _, rfl, upd_same, RepA.append ((rx.ex x1).go g) (.cons (r1.go g) .nil)⟩) h
/-- x[i], x an own list -/
theorem pd_ixO (i j : Nat) {n : Str} {np : Pos} {k : Int} (hk : atI ds k = some d) (hb : PD X A b (.int k)) (hi : A.ρ[i]? = some (.obj j) := by rfl) (hj : A.μ[j]? = some (.lst ds) := by rfl)
    (hN : X.N[i]? = some n := by rfl) (hv : Vis X.env.scope n := by first | exact Or.inl rfl | exact Or.inr (Or.inl rfl) | exact Or.inr (Or.inr rfl)) (hd : (n == ("__debug__" : Str)) = false := by decide) (hcd : (n == ("__classdict__" : Str)) = false := by decide)
    (hs : PlainIx b := by intro _ _; rfl) : PD X A (.Subscript (.Name n np) b pos) d :=
  pd_of (pe_ix ix_list (pe_var hN hv hd hcd) hb hs) fun σ H Q ⟨W, H0, F, ps, hs, q⟩ => by
    obtain ⟨p, e1, e2, e3⟩ := hs.obj hi hj
    obtain ⟨xs, hp, rx⟩ := mok_lst e3
    refine ⟨.ref p, e1, W, H0, F, ps, hs, fun v H1 x1 r1 => ?_⟩
    cases r1
    obtain ⟨v, e, rv⟩ := at_rep rx hk
    exact ⟨p, xs, k, v, rfl, rfl, .of (x1 _ _ hp), e, q v H1 x1 (rv.ex x1)⟩

/-! ### dicts -/
def getD' (kvs : List (Key × D)) (k : Key) : Option D := (kvs.find? fun kv => decide (kv.1 = k)).map (·.2)
def putD (kvs : List (Key × D)) (k : Key) (v : D) : List (Key × D) :=
  if (kvs.any fun kv => decide (kv.1 = k)) = true then kvs.map (fun kv => if kv.1 = k then (kv.1, v) else kv) else kvs ++ [(k, v)]
theorem repK_get {K : PySem.W.Frag} {M : List Addr} {H : Hp} {k : Key} : ∀ {kv : List (Key × V)} {kvs : List (Key × D)}, RepK K M H kv kvs → (∀ d, getD' kvs k = some d → ∃ v, valV kv k = some v ∧ Rep K M H v d) ∧ (getD' kvs k = none → valV kv k = none)
  | _, _, .nil => ⟨fun d h => by simp [getD'] at h, fun _ => rfl⟩
  | _, _, .cons (k := k') (v := v) (d := d') (vs := vs) (ds := ds) r t => by
    have ih := repK_get (k := k) t
    unfold getD' valV at ih ⊢
    by_cases e : k' = k
    · rw [List.find?_cons_of_pos (by simpa using e), List.find?_cons_of_pos (by simpa using e)]
      exact ⟨fun d h => by cases h; exact ⟨v, rfl, r⟩, fun h => by cases h⟩
    · rw [List.find?_cons_of_neg (by simpa using e), List.find?_cons_of_neg (by simpa using e)]
      exact ih
theorem repK_any {K : PySem.W.Frag} {M : List Addr} {H : Hp} {k : Key} : ∀ {kv : List (Key × V)} {kvs : List (Key × D)}, RepK K M H kv kvs → (kv.any fun q => decide (q.1 = k)) = (kvs.any fun q => decide (q.1 = k))
  | _, _, .nil => rfl
  | _, _, .cons r t => by rw [List.any_cons, List.any_cons, repK_any t]
theorem repK_map {K : PySem.W.Frag} {M : List Addr} {H : Hp} {k : Key} {v : V} {d : D} (rv : Rep K M H v d) : ∀ {kv : List (Key × V)} {kvs : List (Key × D)}, RepK K M H kv kvs → RepK K M H (kv.map fun q => if q.1 = k then (q.1, v) else q) (kvs.map fun q => if q.1 = k then (q.1, d) else q)
  | _, _, .nil => .nil
  | _, _, .cons (k := k') r t => by
    rw [List.map_cons, List.map_cons]
    by_cases e : k' = k
    · rw [if_pos e, if_pos e]
      exact .cons rv (repK_map rv t)
    · rw [if_neg e, if_neg e]
      exact .cons r (repK_map rv t)
theorem repK_app {K : PySem.W.Frag} {M : List Addr} {H : Hp} {k : Key} {v : V} {d : D} (rv : Rep K M H v d) : ∀ {kv : List (Key × V)} {kvs : List (Key × D)}, RepK K M H kv kvs → RepK K M H (kv ++ [(k, v)]) (kvs ++ [(k, d)])
  | _, _, .nil => .cons rv .nil
  | _, _, .cons r t => .cons r (repK_app rv t)
theorem repK_put {K : PySem.W.Frag} {M : List Addr} {H : Hp} {k : Key} {v : V} {d : D} (rv : Rep K M H v d) {kv : List (Key × V)} {kvs : List (Key × D)} (r : RepK K M H kv kvs) : RepK K M H (putK kv k v) (putD kvs k d) := by
  unfold putK putD
  rw [repK_any r]
  split
  · exact repK_map rv r
  · exact repK_app rv r
theorem repK_len {K : PySem.W.Frag} {M : List Addr} {H : Hp} : ∀ {kv : List (Key × V)} {kvs : List (Key × D)}, RepK K M H kv kvs → kv.length = kvs.length
  | _, _, .nil => rfl
  | _, _, .cons _ t => by simp [repK_len t]
theorem rep_kD {K : PySem.W.Frag} {M : List Addr} {H : Hp} {v : V} {k : Key} (r : Rep K M H v (kD k)) : v = kV k := by
  cases k with
  | inl i => cases r; rfl
  | inr s => cases r; rfl
variable {k : Key}
/-- x[k] = e, x an own dict -/
theorem sd_dput (i j : Nat) {n : Str} {np pos' : Pos} (hu : X.A.units + 1 < cLine) (he : PD X A e d) (hk : PD X A b (kD k)) (hl : kvs.length < 100000) (h : Φ.nx ⟨A.ρ, A.μ.set j (.dK (putD kvs k d))⟩) (hi : A.ρ[i]? = some (.obj j) := by rfl) (hj : A.μ[j]? = some (.dK kvs) := by rfl)
    (hN : X.N[i]? = some n := by rfl) (hv : Vis X.env.scope n := by first | exact Or.inl rfl | exact Or.inr (Or.inl rfl) | exact Or.inr (Or.inr rfl)) (hd : (n == ("__debug__" : Str)) = false := by decide) (hcd : (n == ("__classdict__" : Str)) = false := by decide)
    (hs : swapsWith e (some (.Subscript (.Name n np) b pos')) pos.line X.env = pure false := by rfl) : SD X A (.Assign [.Subscript (.Name n np) b pos'] e pos) Φ := by
  refine sd_of (ps_dput hu (pe_var hN hv hd hcd) hk he hs) fun Dn σ H ⟨W, H0, F, ps, hs, rz⟩ => ⟨W, H0, F, ps, hs, fun v H1 x1 r1 => ?_⟩
  have hs1 := hs.ext x1
  obtain ⟨p, e1, e2, e3⟩ := hs1.obj hi hj
  obtain ⟨kv, hp, rx⟩ := mok_dK e3
  refine ⟨.ref p, e1, W, H0, F, ps, hs1, fun vk H2 x2 r2 => ?_⟩
  rw [rep_kD r2]
  have hs2 := hs1.ext x2
  refine ⟨p, _, rfl, DPut.k (x2 _ _ hp) (by rw [repK_len rx]; exact Nat.lt_of_lt_of_le hl (by decide)), ?_⟩
  have mp : p ∈ Mx ps ++ F := List.mem_append_left _ (mem_mx.mpr (List.mem_of_getElem? e2))
  have g : Go (Mx ps ++ F) (Mx ps ++ F) H2 (upd H2 p (.dK (putK kv k v))) := Go.mut mp (by rw [x2 _ _ hp]; trivial)
  exact rz.nx _ _ _ _ (hs2.mut' (m := .dK (putD kvs k d)) e2 trivial ⟨p, _, rfl, upd_same, RepK.go g (repK_put (r1.ex x2) (rx.ex x2))⟩) h
/-- x[k] -/
theorem pd_dget (i j : Nat) {n : Str} {np : Pos} (hu : X.A.units + 1 < cLine) (hg : getD' kvs k = some d) (hk : PD X A b (kD k)) (hi : A.ρ[i]? = some (.obj j) := by rfl) (hj : A.μ[j]? = some (.dK kvs) := by rfl)
    (hN : X.N[i]? = some n := by rfl) (hv : Vis X.env.scope n := by first | exact Or.inl rfl | exact Or.inr (Or.inl rfl) | exact Or.inr (Or.inr rfl)) (hd : (n == ("__debug__" : Str)) = false := by decide) (hcd : (n == ("__classdict__" : Str)) = false := by decide)
    (hs : NoSl b := by intro _ _; rfl) : PD X A (.Subscript (.Name n np) b pos) d :=
  pd_of (pe_dget hu (pe_var hN hv hd hcd) hk hs) fun σ H Q ⟨W, H0, F, ps, hs, q⟩ => by
    obtain ⟨p, e1, e2, e3⟩ := hs.obj hi hj
    obtain ⟨kv, hp, rx⟩ := mok_dK e3
    obtain ⟨v, e4, rv⟩ := (repK_get rx).1 d hg
    refine ⟨.ref p, e1, W, H0, F, ps, hs, fun vk H1 x1 r1 => ?_⟩
    rw [rep_kD r1]
    exact ⟨p, v, rfl, by rw [← e4]; exact DGet.k (x1 _ _ hp), q v H1 x1 (rv.ex x1)⟩
/-- k in x -/
theorem din_read (i j : Nat) (hi : A.ρ[i]? = some (.obj j)) (hj : A.μ[j]? = some (.dK kvs)) {σ : L2.St} {H : Hp} {Q : VK} (h : tD X.K A (.bool (getD' kvs k).isSome) σ H Q) : tDIn (tD X.K A (kD k)) (tVar i) σ H Q := by
  obtain ⟨W, H0, F, ps, hs, q⟩ := h
  refine ⟨W, H0, F, ps, hs, fun vk H1 x1 r1 => ?_⟩
  rw [rep_kD r1]
  obtain ⟨p, e1, e2, e3⟩ := (hs.ext x1).obj hi hj
  obtain ⟨kv, hp, rx⟩ := mok_dK e3
  refine ⟨.ref p, e1, p, valV kv k, rfl, DGet.k hp, ?_⟩
  have e : (valV kv k).isSome = (getD' kvs k).isSome := by
    cases t : getD' kvs k with
    | none => rw [(repK_get rx).2 t]; rfl
    | some d =>
      obtain ⟨v, e4, _⟩ := (repK_get rx).1 d t
      rw [e4]
      rfl
  rw [e]
  exact q _ H1 x1 (.bl _)
theorem ptd_din (i j : Nat) {n : Str} {np : Pos} (hu : X.A.units + 1 < cLine) (hk : PD X A b (kD k)) (hi : A.ρ[i]? = some (.obj j) := by rfl) (hj : A.μ[j]? = some (.dK kvs) := by rfl)
    (hN : X.N[i]? = some n := by rfl) (hv : Vis X.env.scope n := by first | exact Or.inl rfl | exact Or.inr (Or.inl rfl) | exact Or.inr (Or.inr rfl)) (hd : (n == ("__debug__" : Str)) = false := by decide) (hcd : (n == ("__classdict__" : Str)) = false := by decide)
    (hm : behindInMarks .In (.Name n np) = false := by rfl) : PTD X A (.Compare b [.In] [.Name n np] pos) (getD' kvs k).isSome :=
  ptd_of (L2.pt_cmp (pc_din hu hk (pe_var hN hv hd hcd)) hm) fun σ H Q ⟨W, H0, F, ps, hs, q⟩ => din_read i j hi hj (Q := fun x H1 => ∃ c, x = .bl c ∧ Q c H1) ⟨W, H0, F, ps, hs, fun v H' e r => by
    cases r
    exact ⟨_, rfl, q H' e⟩⟩
/-- x.get(k, e) -/
theorem pd_dget2 (i j : Nat) {n : Str} {np apos cpos : Pos} (hu : X.A.units + 1 < cLine) (hk : PD X A b (kD k)) (he : PD X A c d) (m : M2 X (.Name n np) "get" apos b c cpos := by exact ⟨rfl, rfl, rfl, rfl⟩) (hi : A.ρ[i]? = some (.obj j) := by rfl) (hj : A.μ[j]? = some (.dK kvs) := by rfl)
    (hN : X.N[i]? = some n := by rfl) (hv : Vis X.env.scope n := by first | exact Or.inl rfl | exact Or.inr (Or.inl rfl) | exact Or.inr (Or.inr rfl)) (hd : (n == ("__debug__" : Str)) = false := by decide) (hcd : (n == ("__classdict__" : Str)) = false := by decide) :
    PD X A (.Call (.Attribute (.Name n np) "get" apos) [b, c] [] cpos) ((getD' kvs k).getD d) :=
  pd_of (pe_dget2 hu (pe_var hN hv hd hcd) hk he m) fun σ H Q ⟨W, H0, F, ps, hs, q⟩ => by
    obtain ⟨p, e1, e2, e3⟩ := hs.obj hi hj
    obtain ⟨kv, hp, rx⟩ := mok_dK e3
    refine ⟨.ref p, e1, p, rfl, .inl ⟨_, .inl hp⟩, W, H0, F, ps, hs, fun vk H1 x1 r1 => ⟨W, H0, F, ps, hs.ext x1, fun vd H2 x2 r2 => ?_⟩⟩
    rw [rep_kD r1]
    refine ⟨valV kv k, DGet.k (x2 _ _ (x1 _ _ hp)), ?_⟩
    cases t : getD' kvs k with
    | none =>
      rw [t] at q
      rw [(repK_get rx).2 t]
      exact q vd H2 (ex_trans x1 x2) r2
    | some d =>
      rw [t] at q
      obtain ⟨v, e4, rv⟩ := (repK_get rx).1 d t
      rw [e4]
      exact q v H2 (ex_trans x1 x2) (rv.ex (ex_trans x1 x2))
end
end Z

namespace Z
open PySem PySem.Spec PyProof.Rows L2

/-! ### built-ins -/
/-- the call of a known value with such data gives d -/
def CallD (X : Cx) (f : Value) (xs : List D) (d : D) : Prop := ∃ r, CallR X f r ∧ RDn X.K r xs d
section
variable {X : Cx} {A : AS} {a b c e : Expr} {es : List Expr} {x y z d : D} {ds ds' : List D} {ns ms : List Int} {pos p : Pos}
theorem pd_b {n : Str} {i : String} (hc : CallD X (.builtin i) (x :: ds) d) (hm : X.mg n = none) (hv : bootBuiltins n = some (.builtin i)) (ha : PDs X A (e :: es) (x :: ds)) (hg : Gl X n := by rfl) (hn : n ≠ "__name__" := by decide) (hdb : (n == ("__debug__" : Str)) = false := by decide)
    (he : starEach (e :: es) X.env = (false, eval e X.env) :: starEach es X.env := by rfl) (hpl : (backTo pos (starEach es X.env)).any (·.1) = false := by rfl) : PD X A (.Call (.Name n p) (e :: es) [] pos) d :=
  let ⟨_, h1, h2⟩ := hc
  pd_callB (id := n) h1 h2 hm hv ha hg hn hdb he hpl
theorem pd_ty {n : Str} {T : String} (hc : CallD X (.type T) (x :: ds) d) (hm : X.mg n = none) (hv : bootBuiltins n = some (.type T)) (ha : PDs X A (e :: es) (x :: ds)) (hg : Gl X n := by rfl) (hn : n ≠ "__name__" := by decide) (hdb : (n == ("__debug__" : Str)) = false := by decide)
    (he : starEach (e :: es) X.env = (false, eval e X.env) :: starEach es X.env := by rfl) (hpl : (backTo pos (starEach es X.env)).any (·.1) = false := by rfl) : PD X A (.Call (.Name n p) (e :: es) [] pos) d :=
  let ⟨_, h1, h2⟩ := hc
  pd_callT h1 h2 hm hv ha hg hn hdb he hpl
theorem pd_a1 (h : PD X A a x) (hs : starEach (a :: []) X.env = (false, eval a X.env) :: starEach [] X.env := by rfl) : PDs X A [a] [x] := pds_cons h pds_nil hs
theorem pd_a2 (h : PD X A a x) (h2 : PD X A b y) (hs : starEach (a :: [b]) X.env = (false, eval a X.env) :: starEach [b] X.env := by rfl) (hs2 : starEach (b :: []) X.env = (false, eval b X.env) :: starEach [] X.env := by rfl) : PDs X A [a, b] [x, y] := pds_cons h (pds_cons h2 pds_nil hs2) hs
theorem bb_len : bootBuiltins "len" = some (.builtin "len") := by decide +kernel
theorem bb_sum : bootBuiltins "sum" = some (.builtin "sum") := by decide +kernel
theorem bb_min : bootBuiltins "min" = some (.builtin "min") := by decide +kernel
theorem bb_max : bootBuiltins "max" = some (.builtin "max") := by decide +kernel
theorem bb_sorted : bootBuiltins "sorted" = some (.builtin "sorted") := by decide +kernel
theorem bb_abs : bootBuiltins "abs" = some (.builtin "abs") := by decide +kernel
theorem bb_all : bootBuiltins "all" = some (.builtin "all") := by decide +kernel
theorem bb_isi : bootBuiltins "isinstance" = some (.builtin "isinstance") := by decide +kernel
theorem bb_repr : bootBuiltins "repr" = some (.builtin "repr") := by decide +kernel
theorem bb_tuple : bootBuiltins "tuple" = some (.type "tuple") := by decide +kernel
theorem bb_list : bootBuiltins "list" = some (.type "list") := by decide +kernel
theorem bb_dict : bootBuiltins "dict" = some (.type "dict") := by decide +kernel
theorem bb_set : bootBuiltins "set" = some (.type "set") := by decide +kernel
theorem bb_str : bootBuiltins "str" = some (.type "str") := by decide +kernel
theorem bb_int : bootBuiltins "int" = some (.type "int") := by decide +kernel
theorem bb_bool : bootBuiltins "bool" = some (.type "bool") := by decide +kernel

theorem repA1 {K : PySem.W.Frag} {M : List Addr} {H : Hp} {vs : List V} (h : RepA K M H vs [x]) : ∃ v, vs = [v] ∧ Rep K M H v x := by
  cases h with
  | cons r t =>
    cases t
    exact ⟨_, rfl, r⟩
theorem repA2 {K : PySem.W.Frag} {M : List Addr} {H : Hp} {vs : List V} (h : RepA K M H vs [x, y]) : ∃ v w, vs = [v, w] ∧ Rep K M H v x ∧ Rep K M H w y := by
  cases h with
  | cons r t =>
    cases t with
    | cons r2 t =>
      cases t
      exact ⟨_, _, rfl, r, r2⟩
theorem cd_lenL : CallD X (.builtin "len") [.list ds] (.int (ds.length : Int)) := ⟨_, call_len_seq, fun M H vs Q _ r q => by
  obtain ⟨v, rfl, rv⟩ := repA1 r
  cases rv with
  | lst h1 r1 => exact ⟨_, _, rfl, .inl h1.sq, by rw [r1.length]; exact q _ H (ex_refl H) (.int _)⟩⟩
theorem cd_lenT : CallD X (.builtin "len") [.tuple ds] (.int (ds.length : Int)) := ⟨_, call_len_seq, fun M H vs Q _ r q => by
  obtain ⟨v, rfl, rv⟩ := repA1 r
  cases rv with
  | tup h1 r1 => exact ⟨_, _, rfl, .inr h1.sq, by rw [r1.length]; exact q _ H (ex_refl H) (.int _)⟩⟩
theorem cd_tupleL : CallD X (.type "tuple") [.list ds] (.tuple ds) := ⟨_, call_tuple_of, fun M H vs Q _ r q => by
  obtain ⟨v, rfl, rv⟩ := repA1 r
  cases rv with
  | lst h1 r1 => exact ⟨_, _, rfl, .inl ⟨h1.sq, fun l hl => q _ _ (ex_new hl) (.tup (.inl upd_same) (r1.ex (ex_new hl)))⟩⟩⟩
theorem cd_tupleT : CallD X (.type "tuple") [.tuple ds] (.tuple ds) := ⟨_, call_tuple_of, fun M H vs Q _ r q => by
  obtain ⟨v, rfl, rv⟩ := repA1 r
  cases rv with
  | tup h1 r1 => exact ⟨_, _, rfl, .inr ⟨h1.sq, q _ _ (ex_refl H) (.tup h1 r1)⟩⟩⟩
theorem cd_listL : CallD X (.type "list") [.list ds] (.list ds) := ⟨_, call_list_of, fun M H vs Q m r q => by
  obtain ⟨v, rfl, rv⟩ := repA1 r
  cases rv with
  | lst h1 r1 => exact ⟨_, _, rfl, .inl h1.sq, fun l hl => q _ _ (ex_new hl) (.lst (.inl ⟨.inl upd_same, fun z => m l z hl⟩) (r1.ex (ex_new hl)))⟩⟩
theorem cd_listT : CallD X (.type "list") [.tuple ds] (.list ds) := ⟨_, call_list_of, fun M H vs Q m r q => by
  obtain ⟨v, rfl, rv⟩ := repA1 r
  cases rv with
  | tup h1 r1 => exact ⟨_, _, rfl, .inr h1.sq, fun l hl => q _ _ (ex_new hl) (.lst (.inl ⟨.inl upd_same, fun z => m l z hl⟩) (r1.ex (ex_new hl)))⟩⟩
theorem cd_sumL (hc : X.calm = true) : CallD X (.builtin "sum") [.list (ns.map .int)] (.int ns.sum) := ⟨_, cr_sum hc, fun M H vs Q _ r q => by
  obtain ⟨v, rfl, rv⟩ := repA1 r
  cases rv with
  | lst h1 r1 =>
    rw [r1.ints] at h1
    exact ⟨_, _, rfl, h1.sq, q _ H (ex_refl H) (.int _)⟩⟩
theorem cd_minL (hc : X.calm = true) {m : Int} (hm : m ∈ ns) (hl : ∀ y ∈ ns, m ≤ y) : CallD X (.builtin "min") [.list (ns.map .int)] (.int m) := ⟨_, cr_min hc, fun M H vs Q _ r q => by
  obtain ⟨v, rfl, rv⟩ := repA1 r
  cases rv with
  | lst h1 r1 =>
    rw [r1.ints] at h1
    refine ⟨_, _, rfl, h1.sq, List.length_pos_of_mem hm, fun k hk hkl => ?_⟩
    have e : k = m := Int.le_antisymm (hkl m hm) (hl k hk)
    rw [e]
    exact q _ H (ex_refl H) (.int _)⟩
theorem cd_maxL (hc : X.calm = true) {m : Int} (hm : m ∈ ns) (hl : ∀ y ∈ ns, y ≤ m) : CallD X (.builtin "max") [.list (ns.map .int)] (.int m) := ⟨_, cr_max hc, fun M H vs Q _ r q => by
  obtain ⟨v, rfl, rv⟩ := repA1 r
  cases rv with
  | lst h1 r1 =>
    rw [r1.ints] at h1
    refine ⟨_, _, rfl, h1.sq, List.length_pos_of_mem hm, fun k hk hkl => ?_⟩
    have e : k = m := Int.le_antisymm (hl k hk) (hkl m hm)
    rw [e]
    exact q _ H (ex_refl H) (.int _)⟩
theorem cd_max2 (hc : X.calm = true) {i j : Int} : CallD X (.builtin "max") [.int i, .int j] (.int (if j > i then j else i)) := ⟨_, call_max2 hc, fun M H vs Q _ r q => by
  obtain ⟨v, w, rfl, r1, r2⟩ := repA2 r
  cases r1
  cases r2
  exact ⟨i, j, rfl, q _ H (ex_refl H) (.int _)⟩⟩
theorem cd_min2 (hc : X.calm = true) {i j : Int} : CallD X (.builtin "min") [.int i, .int j] (.int (if j < i then j else i)) := ⟨_, call_min2 hc, fun M H vs Q _ r q => by
  obtain ⟨v, w, rfl, r1, r2⟩ := repA2 r
  cases r1
  cases r2
  exact ⟨i, j, rfl, q _ H (ex_refl H) (.int _)⟩⟩
theorem pairwise_le_eq {l m : List Int} (h : l.Perm m) (hl : l.Pairwise (· ≤ ·)) (hm : m.Pairwise (· ≤ ·)) : l = m := h.eq_of_pairwise (fun _ _ _ _ h1 h2 => Int.le_antisymm h1 h2) hl hm
theorem cd_sortedI (hp : ms.Perm ns) (hs : ms.Pairwise (· ≤ ·)) : CallD X (.builtin "sorted") [.list (ns.map .int)] (.list (ms.map .int)) := ⟨_, cr_sortedI, fun M H vs Q m r q => by
  obtain ⟨v, rfl, rv⟩ := repA1 r
  cases rv with
  | lst h1 r1 =>
    rw [r1.ints] at h1
    refine ⟨_, _, rfl, h1.sq, fun ns' p h2 h3 hn => ?_⟩
    rw [pairwise_le_eq (h2.trans hp.symm) h3 hs]
    exact q _ _ (ex_new hn) (.lst (.inl ⟨.inl upd_same, fun z => m p z hn⟩) (RepA.of_ints _))⟩
def pairD (p : Int × Int) : D := .tuple [.int p.1, .int p.2]
def lexLe (p q : Int × Int) : Prop := p.1 < q.1 ∨ (p.1 = q.1 ∧ p.2 ≤ q.2)
theorem lexLe_antisymm {p q : Int × Int} (h1 : lexLe p q) (h2 : lexLe q p) : p = q := by
  unfold lexLe at h1 h2
  have a : p.1 = q.1 := by omega
  have b : p.2 = q.2 := by omega
  exact Prod.ext a b
/-- the ints of a pair in the heap -/
def keyOf (H : Hp) (v : V) : Int × Int := match v with
  | .ref t => match H t with
    | some (.tup [.int i, .int j]) => (i, j)
    | some (.frz _ (.tup [.int i, .int j])) => (i, j)
    | _ => (0, 0)
  | _ => (0, 0)
theorem rep_pair {K : PySem.W.Frag} {M : List Addr} {H : Hp} {v : V} {p : Int × Int} (r : Rep K M H v (pairD p)) : ∃ t, v = .ref t ∧ TupAt H t [.int p.1, .int p.2] := by
  cases r with
  | tup h1 r1 =>
    obtain ⟨v, w, rfl, r2, r3⟩ := repA2 r1
    cases r2
    cases r3
    exact ⟨_, rfl, h1⟩
theorem keyOf_pair {K : PySem.W.Frag} {M : List Addr} {H : Hp} {v : V} {p : Int × Int} (r : Rep K M H v (pairD p)) : keyOf H v = p := by
  obtain ⟨t, rfl, h⟩ := rep_pair r
  unfold keyOf
  rcases h with h | ⟨o, _, h⟩ <;> simp only [h]
theorem repA_keys {K : PySem.W.Frag} {M : List Addr} {H : Hp} : ∀ {vs : List V} {ps : List (Int × Int)}, RepA K M H vs (ps.map pairD) → vs.map (keyOf H) = ps
  | _, [], .nil => rfl
  | _, p :: ps, .cons r t => by rw [List.map_cons, keyOf_pair r, repA_keys t]
theorem repA_mem {K : PySem.W.Frag} {M : List Addr} {H : Hp} : ∀ {vs : List V} {ps : List (Int × Int)}, RepA K M H vs (ps.map pairD) → ∀ v ∈ vs, Rep K M H v (pairD (keyOf H v))
  | _, [], .nil => fun v h => by cases h
  | _, p :: ps, .cons r t => fun v h => by
    rcases List.mem_cons.mp h with e | e
    · rw [e, keyOf_pair r]
      exact r
    · exact repA_mem t v e
theorem repA_of {K : PySem.W.Frag} {M : List Addr} {H : Hp} : ∀ {vs : List V}, (∀ v ∈ vs, Rep K M H v (pairD (keyOf H v))) → RepA K M H vs ((vs.map (keyOf H)).map pairD)
  | [], _ => .nil
  | v :: vs, h => .cons (h v List.mem_cons_self) (repA_of fun w hw => h w (List.mem_cons_of_mem _ hw))
/-- sorted of a list of pairs of ints, by values -/
def rSortQ (K : PySem.W.Frag) : List V → Hp → VK → Prop := fun vs H Q => ∃ (a : Addr) (xs : List V), vs = [V.ref a] ∧ SqL K H a xs ∧ (∀ x ∈ xs, ∃ t, x = V.ref t ∧ TupAt H t [.int (keyOf H x).1, .int (keyOf H x).2]) ∧
  ∀ zs p, SrtO.Srtd (ltP (keyOf H)) zs → zs.Perm xs → H p = none → Q (.ref p) (upd H p (.lst zs))
theorem cr_sortQ : CallR X (.builtin "sorted") (rSortQ X.K) := fun pins s σ H vs us Q I r ⟨a, xs, ev, hsq, hx, q⟩ => by
  subst ev
  have hl := I.list hsq
  obtain ⟨its, rv, pl, hz⟩ := hl
  cases r with
  | cons ra rn =>
    cases rn
    obtain rfl := ra
    have bk := refs_back rv fun x m => (hx x m).imp fun t h => h.1
    refine SrtO.sorted_pairsO (k := fun u => keyOf H (backV u)) pl.isList (by have := rv.length; omega) (fun v hv => ?_) fun h' d out s1 s2 kp hd hn => ?_
    · obtain ⟨t, rfl⟩ := bk.2 v hv
      obtain ⟨t', et, ht⟩ := hx (V.ref t) (by rw [bk.1]; exact List.mem_map.mpr ⟨_, hv, rfl⟩)
      cases et
      obtain ⟨_, ys, ry, ob, go, gc, gn, gd⟩ := ht.rd.ok I.hok
      cases ry with
      | cons r1 r2 =>
        cases r2 with
        | cons r2 r3 =>
          cases r3
          obtain ⟨t1, rfl⟩ := r1
          obtain ⟨t2, rfl⟩ := r2
          exact ⟨t, ob, t1, t2, gn, rfl, go, gc, gd⟩
    · have hb : (out.map backV).Perm xs := by
        rw [bk.1]
        exact s2.perm.map backV
      obtain ⟨n, hn⟩ := hn
      have vr := vals_back fun u hu => bk.2 u (s2.perm.mem_iff.mp hu)
      have sz : (out.map backV).length ≤ sizeLine := by rw [hb.length_eq]; exact hz
      exact ⟨.ref d, upd H d (.lst (out.map backV)), I.laid (t' := s.toks) kp hd ⟨sz, out, n, vr, hn⟩, rfl, q _ d (SrtO.srtd_map s1) hb (I.hok.fresh hd)⟩
theorem cd_sortedP {ps qs : List (Int × Int)} (hp : qs.Perm ps) (hs : qs.Pairwise lexLe) : CallD X (.builtin "sorted") [.list (ps.map pairD)] (.list (qs.map pairD)) := ⟨_, cr_sortQ, fun M H vs Q m r q => by
  obtain ⟨v, rfl, rv⟩ := repA1 r
  cases rv with
  | lst h1 r1 =>
    rename_i xs
    refine ⟨_, xs, rfl, h1.sq, fun x hx => rep_pair (repA_mem r1 x hx), fun ys p h2 pm hn => ?_⟩
    have ry : ∀ v ∈ ys, Rep X.K M H v (pairD (keyOf H v)) := fun v hv => repA_mem r1 v (pm.mem_iff.mp hv)
    have e : ys.map (keyOf H) = qs := by
      have p2 : (ys.map (keyOf H)).Perm qs := ((pm.map (keyOf H)).trans (by rw [repA_keys r1])).trans hp.symm
      refine p2.eq_of_pairwise (le := lexLe) (fun _ _ _ _ h1 h2 => lexLe_antisymm h1 h2) ?_ hs
      refine List.pairwise_map.mpr (h2.imp fun {a b} h => ?_)
      have h' := SrtO.lexB_no.mp h
      unfold lexLe
      omega
    have rr := repA_of ry
    rw [e] at rr
    exact q _ _ (ex_new hn) (.lst (.inl ⟨.inl upd_same, fun z => m p z hn⟩) (rr.ex (ex_new hn)))⟩
/-- x = dict(a list of pairs) -/
def mergeD (kvs : List (Key × D)) : List (Key × D) := kvs.foldl (fun acc kv => putD acc kv.1 kv.2) []
theorem repK_merge {K : PySem.W.Frag} {M : List Addr} {H : Hp} : ∀ {more : List (Key × V)} {moreD : List (Key × D)} {kv : List (Key × V)} {kvs : List (Key × D)}, RepK K M H more moreD → RepK K M H kv kvs →
    RepK K M H (more.foldl (fun acc kv => putK acc kv.1 kv.2) kv) (moreD.foldl (fun acc kv => putD acc kv.1 kv.2) kvs)
  | _, _, _, _, .nil, r => r
  | _, _, _, _, .cons rv t, r => by
    rw [List.foldl_cons, List.foldl_cons]
    exact repK_merge t (repK_put rv r)
theorem repK_pairs {K : PySem.W.Frag} {M : List Addr} {H : Hp} : ∀ {xs : List V} {kvs : List (Key × D)}, RepA K M H xs (kvs.map fun p => PyData.tuple [kD p.1, p.2]) →
    ∃ (ps : List Addr) (kv : List (Key × V)), xs = ps.map V.ref ∧ Paired (fun p q => SqT K H p [kV q.1, q.2]) ps kv ∧ RepK K M H kv kvs
  | _, [], .nil => ⟨[], [], rfl, .nil, .nil⟩
  | _, (k, d) :: kvs, .cons r t => by
    obtain ⟨ps, kv, e, h1, h2⟩ := repK_pairs t
    cases r with
    | tup h r1 =>
      obtain ⟨v, w, rfl, r2, r3⟩ := repA2 r1
      rw [rep_kD r2] at h
      exact ⟨_ :: ps, (k, w) :: kv, by rw [e]; rfl, .cons h.sq h1, .cons r3 h2⟩
theorem sd_dictL (i : Nat) {kvs : List (Key × D)} {Φ : AE} {n : Str} {pos' : Pos} (hN : X.N.Nodup) (hc : X.calm = true) (hm : X.mg "dict" = none) (ha : PD X A a (.list (kvs.map fun p => PyData.tuple [kD p.1, p.2]))) (h : Φ.nx ⟨A.ρ.set i (.obj A.μ.length), A.μ ++ [.dK (mergeD kvs)]⟩) (hi : X.N[i]? = some n := by rfl) (hx : Loc X.env.scope n := by first | exact Or.inl rfl | exact Or.inr rfl)
    (hs : swapsWith (.Call (.Name "dict" p) [a] [] pos) (some (.Name n pos')) pos.line X.env = pure false := by rfl) (hf : X.fn n = true ∨ X.env.scope.names.lookup n = some .local := by first | exact .inl rfl | exact .inr rfl)
    (hg : Gl X "dict" := by rfl) (hst : starEach (a :: []) X.env = (false, eval a X.env) :: starEach [] X.env := by rfl) (hpl : (backTo pos (starEach [] X.env)).any (·.1) = false := by rfl) {spos : Pos} (hln : spos.line = pos.line := by rfl) : SD X A (.Assign [.Name n pos'] (.Call (.Name "dict" p) [a] [] pos) spos) Φ :=
  sd_of (ps_set hN hi hx (pe_callTy (call_dictP hc) hg hm bb_dict (pa_cons ha pa_nil hst) (by decide) (by decide) hst hpl) (by rw [hln]; exact hs) hf) fun Dn σ H ⟨W, H0, F, ps, hs, rz⟩ => ⟨W, H0, F, ps, hs, fun v H1 x1 r1 => by
    cases r1 with
    | lst h1 r =>
      obtain ⟨qs, kv, e, hq, hk⟩ := repK_pairs r
      subst e
      refine ⟨_, qs, kv, rfl, h1.sq, hq, fun q hn => ?_⟩
      have hs1 := hs.ext x1
      exact rz.nx _ _ _ _ ((hs1.new (o := .dK (mergeK [] kv)) (m := .dK (mergeD kvs)) hn trivial ⟨q, _, rfl, upd_same, RepK.go (Go.new hn) (repK_merge hk .nil)⟩).set (s := .obj A.μ.length) ⟨q, rfl, by rw [← hs1.ml]; simp⟩) h⟩
end
end Z

namespace Z
open PySem PySem.Spec PyProof.Rows L2
/-! ### shapes, equality of data -/
def Sh (n : Nat) (d : D) : Prop := d.canLay0 = true ∧ d.depth ≤ n
theorem sh_int {n : Nat} {i : Int} : Sh n (.int i) := ⟨rfl, Nat.zero_le _⟩
theorem sh_non {n : Nat} : Sh n .none := ⟨rfl, Nat.zero_le _⟩
theorem sh_bool {n : Nat} {b : Bool} : Sh n (.bool b) := ⟨rfl, Nat.zero_le _⟩
theorem sh_str {n : Nat} {x : Str} (h : PyData.strOk x = true) : Sh n (.str x) := ⟨h, Nat.zero_le _⟩
theorem sh_all {n : Nat} : ∀ {ds : List D}, (∀ d ∈ ds, Sh n d) → PyData.canLayAll0 ds = true ∧ PyData.depthAll ds ≤ n
  | [], _ => ⟨rfl, Nat.zero_le _⟩
  | d :: ds, h => by
    have h1 := h d List.mem_cons_self
    have h2 := sh_all fun x hx => h x (List.mem_cons_of_mem d hx)
    exact ⟨Bool.and_eq_true_iff.mpr ⟨h1.1, h2.1⟩, Nat.max_le.mpr ⟨h1.2, h2.2⟩⟩
theorem sh_tup {n : Nat} {ds : List D} (h : ∀ d ∈ ds, Sh n d) : Sh (n + 1) (.tuple ds) := ⟨(sh_all h).1, Nat.succ_le_succ (sh_all h).2⟩
theorem sh_lst {n : Nat} {ds : List D} (h : ∀ d ∈ ds, Sh n d) : Sh (n + 1) (.list ds) := ⟨(sh_all h).1, Nat.succ_le_succ (sh_all h).2⟩
theorem Sh.ed {n : Nat} {d : D} (h : Sh n d) (hn : n ≤ 64 := by decide) : SeqAt.shaped d = true := Bool.and_eq_true_iff.mpr ⟨h.1, decide_eq_true (Nat.le_trans h.2 hn)⟩
theorem sh_map {α : Type} {n : Nat} {f : α → D} (h : ∀ x, Sh n (f x)) (xs : List α) : ∀ d ∈ xs.map f, Sh n d := fun d hd => by
  obtain ⟨x, _, rfl⟩ := List.mem_map.mp hd
  exact h x
theorem eqv_same {n : Nat} {d : D} (h : Sh n d) : PyData.eqv d d = true := SeqAt.eqv_refl d h.1
mutual
/-- data without truths and dicts -/
def pu : D → Bool
  | .none => true
  | .int _ => true
  | .str _ => true
  | .list ds => puA ds
  | .tuple ds => puA ds
  | .bool _ => false
  | .dict _ => false
def puA : List D → Bool
  | [] => true
  | d :: ds => pu d && puA ds
end
mutual
theorem eqv_iff : ∀ (a b : D), pu a = true → pu b = true → (PyData.eqv a b = true ↔ a = b)
  | .none, .none, _, _ => ⟨fun _ => rfl, fun _ => rfl⟩
  | .int i, .int j, _, _ => by simp [PyData.eqv]
  | .str i, .str j, _, _ => by simp [PyData.eqv]
  | .list xs, .list ys, h1, h2 => by
    have := eqvA_iff xs ys h1 h2
    simp only [PyData.eqv, PyData.list.injEq]
    exact this
  | .tuple xs, .tuple ys, h1, h2 => by
    have := eqvA_iff xs ys h1 h2
    simp only [PyData.eqv, PyData.tuple.injEq]
    exact this
  | .bool _, _, h, _ => by simp [pu] at h
  | .dict _, _, h, _ => by simp [pu] at h
  | _, .bool _, _, h => by simp [pu] at h
  | _, .dict _, _, h => by simp [pu] at h
  | .none, .int _, _, _ | .none, .str _, _, _ | .none, .list _, _, _ | .none, .tuple _, _, _ => by simp [PyData.eqv]
  | .int _, .none, _, _ | .int _, .str _, _, _ | .int _, .list _, _, _ | .int _, .tuple _, _, _ => by simp [PyData.eqv]
  | .str _, .none, _, _ | .str _, .int _, _, _ | .str _, .list _, _, _ | .str _, .tuple _, _, _ => by simp [PyData.eqv]
  | .list _, .none, _, _ | .list _, .int _, _, _ | .list _, .str _, _, _ | .list _, .tuple _, _, _ => by simp [PyData.eqv]
  | .tuple _, .none, _, _ | .tuple _, .int _, _, _ | .tuple _, .str _, _, _ | .tuple _, .list _, _, _ => by simp [PyData.eqv]
theorem eqvA_iff : ∀ (a b : List D), puA a = true → puA b = true → (PyData.eqvAll a b = true ↔ a = b)
  | [], [], _, _ => ⟨fun _ => rfl, fun _ => rfl⟩
  | [], _ :: _, _, _ => by simp [PyData.eqvAll]
  | _ :: _, [], _, _ => by simp [PyData.eqvAll]
  | x :: xs, y :: ys, h1, h2 => by
    simp only [puA, Bool.and_eq_true] at h1 h2
    have e1 := eqv_iff x y h1.1 h2.1
    have e2 := eqvA_iff xs ys h1.2 h2.2
    simp only [PyData.eqvAll, Bool.and_eq_true, List.cons.injEq]
    rw [e1, e2]
end
theorem puA_all : ∀ {ds : List D}, (∀ d ∈ ds, pu d = true) → puA ds = true
  | [], _ => rfl
  | d :: ds, h => by
    rw [puA, h d List.mem_cons_self, puA_all fun x hx => h x (List.mem_cons_of_mem d hx)]
    rfl
theorem puA_map {α : Type} {f : α → D} (h : ∀ x, pu (f x) = true) (xs : List α) : puA (xs.map f) = true := puA_all fun d hd => by
  obtain ⟨x, _, rfl⟩ := List.mem_map.mp hd
  exact h x
/-! ### dicts whose keys are apart -/
theorem putD_new {kvs : List (Key × D)} {k : Key} {d : D} (h : k ∉ kvs.map (·.1)) : putD kvs k d = kvs ++ [(k, d)] := by
  unfold putD
  rw [if_neg]
  intro e
  rw [List.any_eq_true] at e
  obtain ⟨q, hq, e⟩ := e
  exact h (List.mem_map.mpr ⟨q, hq, of_decide_eq_true e⟩)
theorem merge_app : ∀ (rest acc : List (Key × D)), ((acc ++ rest).map (·.1)).Nodup → rest.foldl (fun acc kv => putD acc kv.1 kv.2) acc = acc ++ rest
  | [], acc, _ => by simp
  | q :: rest, acc, h => by
    rw [List.foldl_cons, putD_new]
    · rw [merge_app rest (acc ++ [(q.1, q.2)]) (by simpa using h)]
      simp
    · rw [List.map_append, List.nodup_append] at h
      intro z
      exact h.2.2 q.1 z q.1 (List.mem_map.mpr ⟨q, List.mem_cons_self, rfl⟩) rfl
theorem mergeD_id {kvs : List (Key × D)} (h : (kvs.map (·.1)).Nodup) : mergeD kvs = kvs := by
  unfold mergeD
  rw [merge_app kvs [] (by simpa using h)]
  simp
theorem getD_mem : ∀ {kvs : List (Key × D)} {k : Key} {d : D}, (kvs.map (·.1)).Nodup → (k, d) ∈ kvs → getD' kvs k = some d
  | [], _, _, _, h => by simp at h
  | q :: kvs, k, d, hn, h => by
    unfold getD'
    rw [List.map_cons, List.nodup_cons] at hn
    rcases List.mem_cons.mp h with e | e
    · rw [← e, List.find?_cons_of_pos (by simp)]
      rfl
    · have n : ¬ q.1 = k := fun z => hn.1 (z ▸ List.mem_map.mpr ⟨(k, d), e, rfl⟩)
      rw [List.find?_cons_of_neg (by simpa using n)]
      exact getD_mem hn.2 e
theorem getD_none {kvs : List (Key × D)} {k : Key} (h : k ∉ kvs.map (·.1)) : getD' kvs k = none := by
  unfold getD'
  rw [List.find?_eq_none.mpr]
  · rfl
  · intro q hq e
    exact h (List.mem_map.mpr ⟨q, hq, by simpa using e⟩)
end Z

namespace Z
open PySem PySem.Spec PyProof.Rows L2
/-! ### tuples known to their objects -/
section
variable {X : Cx} {A : AS} {a b c e : Expr} {es : List Expr} {x y z d : D} {ds ds' : List D} {ns ms : List Int} {pos p : Pos}
theorem repF_new {K : PySem.W.Frag} {M : List Addr} {H : Hp} {p : Addr} {o : Obj} {xs : List V} (hp : H p = none) (ho : o.dict = none) (r : RepA K M H xs ds) : RepF K M (upd H p (.frz o (.tup xs))) (.ref p) (.tuple ds) :=
  ⟨.tup (.inr ⟨o, ho, upd_same⟩) (r.ex (ex_new hp)), p, o, _, rfl, upd_same, ho⟩
def tTupF (t : TA) : TE := fun σ H Q => t σ H fun xs H1 => xs.length ≤ sizeLine ∧ ∀ p o, H1 p = none → o.dict = none → Q (.ref p) (upd H1 p (.frz o (.tup xs)))
theorem pe_tupF {k : Nat} {t : TA} (h : PA X es t) : PE X (.Tuple es k pos) (tTupF t) := ⟨fun pins s σ H Q I hq =>
  wpAny_Tuple_spliced (thn (h.run pos pins s σ H _ I hq) fun us s1 ⟨xs, H1, I1, r, z, q⟩ => ⟨r.length ▸ z, .ref s1.heap.objs.size, _,
    I1.laid (a := s1.heap.objs.size) (o := .frz { cls := .type "tuple", data := .seq us.toArray } (.tup xs)) (t' := s1.toks) (fun b u e => Heap.get?_push_of_some _ e) (Nat.le_refl _)
      ⟨Heap.get?_push_size _ rfl, z, us, r, _, Heap.get?_push_size _ rfl, rfl, _, rfl⟩, rfl, q _ _ (I1.hok.fresh (Nat.le_refl _)) rfl⟩)⟩
theorem pdf_tup {k : Nat} (h : PDs X A es ds) (hl : ds.length ≤ 1000 := by exact Nat.le_of_ble_eq_true rfl) : PDF X A (.Tuple es k pos) (.tuple ds) :=
  pdf_of (pe_tupF h) fun σ H Q ⟨W, H0, F, ps, hs, q⟩ => ⟨W, H0, F, ps, hs, fun vs H1 e1 r1 => ⟨by rw [r1.length]; exact Nat.le_trans hl (by decide), fun p o hp ho =>
    q (.ref p) _ (ex_trans e1 (ex_new hp)) (repF_new hp ho r1)⟩⟩
/-- tuple(a list) -/
theorem cr_tupleF : CallR X (.type "tuple") (fun vs H Q => ∃ a xs, vs = [.ref a] ∧ SqL X.K H a xs ∧ ∀ l o, H l = none → o.dict = none → Q (.ref l) (upd H l (.frz o (.tup xs)))) := fun pins s σ H vs us Q I r ⟨a, xs, ev, hsq, q⟩ => by
  subst ev
  cases r with
  | cons ra rn =>
    cases rn
    obtain rfl := ra
    obtain ⟨its, rv, pl, hz⟩ := I.list hsq
    refine call_tuple_list pl.isList (fun g kp => ?_) (by rw [List.size_toArray, ← rv.length]; exact hz)
    have I1 : Inv X pins σ H { s with heap := g } := I.kept (t' := s.toks) kp
    exact ⟨.ref g.objs.size, _, I1.laid (a := g.objs.size) (o := .frz { cls := .type "tuple", data := .seq its.toArray } (.tup xs)) (t' := s.toks) (fun b u e => Heap.get?_push_of_some _ e) (Nat.le_refl _)
      ⟨Heap.get?_push_size _ rfl, hz, its, rv, _, Heap.get?_push_size _ rfl, rfl, _, rfl⟩, rfl, q _ _ (I1.hok.fresh (Nat.le_refl _)) rfl⟩
theorem pdf_tupleL (hm : X.mg "tuple" = none) (ha : PD X A a (.list ds)) (hg : Gl X "tuple" := by rfl) (he : starEach (a :: []) X.env = (false, eval a X.env) :: starEach [] X.env := by rfl) (hpl : (backTo pos (starEach [] X.env)).any (·.1) = false := by rfl) :
    PDF X A (.Call (.Name "tuple" p) [a] [] pos) (.tuple ds) :=
  pdf_of (pe_callTy cr_tupleF hg hm bb_tuple (pds_cons ha pds_nil he) (by decide) (by decide) he hpl) fun σ H Q ⟨W, H0, F, ps, hs, q⟩ => ⟨W, H0, F, ps, hs, fun vs H1 e1 r1 => by
    obtain ⟨v, rfl, rv⟩ := repA1 r1
    cases rv with
    | lst h1 r2 => exact ⟨_, _, rfl, h1.sq, fun l o hl ho => q _ _ (ex_trans e1 (ex_new hl)) (repF_new hl ho r2)⟩⟩
/-- t + u -/
def rCatF (K : PySem.W.Frag) : R2 := fun x y H Q => ∃ a b xs ys, x = .ref a ∧ y = .ref b ∧ SqT K H a xs ∧ SqT K H b ys ∧ xs.length + ys.length ≤ sizeLine ∧
  (xs = [] → Q y H) ∧ (ys = [] → Q x H) ∧ (∀ p o, H p = none → o.dict = none → Q (.ref p) (upd H p (.frz o (.tup (xs ++ ys)))))
theorem op_catF : OpR X (binaryOp .Add) (rCatF X.K) := fun pins s σ H x y v u Q I rx ry ⟨a, b, xs, ys, ex, ey, ha, hb, hz, q1, q2, q3⟩ => by
  subst ex ey
  obtain rfl := rx
  obtain rfl := ry
  obtain ⟨us, ru, pu, _⟩ := I.tuple ha
  obtain ⟨ws, rw', pw, _⟩ := I.tuple hb
  by_cases hx : us = []
  · subst hx
    cases ru
    exact cat_tup0 pu pw ⟨.ref b, H, I, rfl, q1 rfl⟩
  · refine HT.cat_tup pu pw hx (fun hy => ?_) (fun hy => ?_) (by rw [← ru.length, ← rw'.length]; exact hz)
    · subst hy
      cases rw'
      exact ⟨.ref a, H, I, rfl, q2 rfl⟩
    · exact ⟨.ref s.heap.objs.size, _, I.laid (a := s.heap.objs.size) (o := .frz { cls := .type "tuple", data := .seq (us ++ ws).toArray } (.tup (xs ++ ys))) (t' := s.toks) (fun b u e => Heap.get?_push_of_some _ e) (Nat.le_refl _)
        ⟨Heap.get?_push_size _ rfl, by rw [List.length_append]; exact hz, us ++ ws, ru.append rw', _, Heap.get?_push_size _ rfl, rfl, _, rfl⟩, rfl, q3 _ _ (I.hok.fresh (Nat.le_refl _)) rfl⟩
theorem pdf_cat (ha : PDF X A a (.tuple ds)) (hb : PDF X A b (.tuple ds')) (hl : ds.length + ds'.length ≤ 100000) : PDF X A (.BinOp a .Add b pos) (.tuple (ds ++ ds')) :=
  pdf_of (pe_op op_catF ha hb) fun σ H Q ⟨W, H0, F, ps, hs, q⟩ => ⟨W, H0, F, ps, hs, fun va H1 e1 r1 => ⟨W, H0, F, ps, hs.ext e1, fun vb H2 e2 r2 => by
    have r1' := r1.ex e2
    obtain ⟨ra, -⟩ := id r1'
    obtain ⟨rb, -⟩ := id r2
    cases ra with
    | tup h1 r3 =>
      cases rb with
      | tup h2 r4 =>
        refine ⟨_, _, _, _, rfl, rfl, h1.sq, h2.sq, by rw [r3.length, r4.length]; exact Nat.le_trans hl (by decide), fun z => ?_, fun z => ?_, fun p o hp ho => ?_⟩
        · subst z
          cases r3
          exact q _ H2 (ex_trans e1 e2) r2
        · subst z
          cases r4
          rw [List.append_nil] at q
          exact q _ H2 (ex_trans e1 e2) r1'
        · exact q _ _ (ex_trans e1 (ex_trans e2 (ex_new hp))) (repF_new hp ho (r3.append r4))⟩⟩
/-- t + u, tuples of any making -/
theorem pd_catT (ha : PD X A a (.tuple ds)) (hb : PD X A b (.tuple ds')) (hl : ds.length + ds'.length ≤ 100000) : PD X A (.BinOp a .Add b pos) (.tuple (ds ++ ds')) :=
  pd_of (pe_op op_catF ha hb) fun σ H Q ⟨W, H0, F, ps, hs, q⟩ => ⟨W, H0, F, ps, hs, fun va H1 e1 r1 => ⟨W, H0, F, ps, hs.ext e1, fun vb H2 e2 r2 => by
    have ra := r1.ex e2
    have rb := r2
    cases ra with
    | tup h1 r3 =>
      cases rb with
      | tup h2 r4 =>
        refine ⟨_, _, _, _, rfl, rfl, h1.sq, h2.sq, by rw [r3.length, r4.length]; exact Nat.le_trans hl (by decide), fun z => ?_, fun z => ?_, fun p o hp ho => ?_⟩
        · subst z
          cases r3
          exact q _ H2 (ex_trans e1 e2) r2
        · subst z
          cases r4
          rw [List.append_nil] at q
          exact q _ H2 (ex_trans e1 e2) (r1.ex e2)
        · exact q _ _ (ex_trans e1 (ex_trans e2 (ex_new hp))) (repF_new hp ho (r3.append r4)).1⟩⟩
/-! methods of such tuples -/
def tTM (r : V → List V → Hp → VK → Prop) (to : TE) (t : TA) : TE := fun σ H Q => to σ H fun x H1 => (∃ a o u, x = .ref a ∧ H1 a = some (.frz o (.tup u)) ∧ o.dict = none) ∧ t σ H1 fun xs H2 => r x xs H2 Q
theorem pe_tm {name : Str} {id : String} {o : Expr} {apos cpos : Pos} {to : TE} {t : TA} {r : V → List V → Hp → VK → Prop} (slot : Slot "tuple" name id) (hty : typeOf (.builtin id) = pure (.type "method_descriptor")) (hm : MtR X id r) (ho : PE X o to) (ha : PA X [e] t)
    (hb : attributeBase o name X.env (eval o X.env) = eval o X.env) (hf : ((backTo cpos (starEach [e] X.env)).all (fun x => !x.1) && (backToKw cpos (keywordEach [] X.env)).all (fun x => x.1.isSome) && decide ([e].length + ([] : List Keyword).length + (if ([] : List Keyword).isEmpty then 0 else 1) < 30)) = true)
    (hl : (apos.endLine == cpos.line) = true) (hs : starEach (e :: []) X.env = (false, eval e X.env) :: starEach [] X.env) (hp : (backTo cpos (starEach [] X.env)).any (·.1) = false) : PE X (.Call (.Attribute o name apos) [e] [] cpos) (tTM r to t) := ⟨fun pins s σ H Q I h => by
  refine wpAny_Call_method_late hb hf hl rfl (thn (ho.run pins s σ H _ I h) fun v s1 ⟨x, H1, I1, r1, ⟨a, ob, u, ex, ea, hd⟩, q1⟩ => ?_)
  subst ex
  obtain rfl := r1
  obtain ⟨g1, g2⟩ := I1.hok a _ ea
  obtain ⟨_, _, _, o2, g3, g4, _⟩ := g2
  have A1 := ha.run cpos pins s1 σ H1 _ I1 q1
  refine ⟨"tuple", id, PySem.F.plainAttrs_tuple, slot, hty, ⟨o2, g3, g4⟩, fun b eb => ?_, ?_⟩
  · cases eb
    exact ⟨ob, g1, hd⟩
  · rw [hs] at A1 ⊢
    refine Calls.callWith_builtin (by show (false || (backTo cpos (starEach [] X.env)).any (·.1)) = false; rw [hp]; rfl) (Calls.evalArgs_plain ?_)
    exact thn A1 fun us s2 ⟨vs, H2, I2, r2, q2⟩ => hm pins s2 σ H2 (.ref a) vs _ us Q I2 rfl r2 q2⟩
theorem mt_tcountI : MtR X "tuple.count" (fun x xs H Q => ∃ (p : Addr) (ns : List Int) (k : Int), x = .ref p ∧ xs = [.int k] ∧ SqT X.K H p (ns.map V.int) ∧ Q (.int (ns.count k : Nat)) H) := fun pins s σ H x xs v us Q I rx rs ⟨p, ns, k, ex, es, hq, q⟩ => by
  subst ex es
  obtain rfl := rx
  obtain ⟨u, rfl, t, rfl⟩ := rs.one
  obtain ⟨its, rv, ⟨⟨cls, dd, dt, sl⟩, ho, hc, n, hd⟩, hz⟩ := I.tuple hq
  cases hc
  cases hd
  have hi := ints_of_vals rv
  refine call_meets PySem.F.slot_tuple_count ⟨_, ho, rfl⟩ PySem.F.entry_tuple_count (PySem.F.args_tuple_count_2 _ _) (SeqAt.tuple_countAt p its.toArray n dd sl (.int k t) (eqk k)) ⟨ho, fun y hy => (eqk_gives hi y (by simpa using hy)).at _ _, ?_⟩
  rw [show its.toArray.toList.countP (eqk k) = ns.count k from eqk_count hi]
  exact ⟨.int (ns.count k : Nat), H, I.tok _, ⟨_, rfl⟩, q⟩
theorem mt_tindexI : MtR X "tuple.index" (fun x xs H Q => ∃ (p : Addr) (ns : List Int) (k : Int), x = .ref p ∧ xs = [.int k] ∧ SqT X.K H p (ns.map V.int) ∧ k ∈ ns ∧ Q (.int (ns.idxOf k : Nat)) H) := fun pins s σ H x xs v us Q I rx rs ⟨p, ns, k, ex, es, hq, hk, q⟩ => by
  subst ex es
  obtain rfl := rx
  obtain ⟨u, rfl, t, rfl⟩ := rs.one
  obtain ⟨its, rv, pl, hz⟩ := I.tuple hq
  have hi := ints_of_vals rv
  have hlen := hi.length
  refine SeqAt.call_tuple_index (vs := its) (ks := ns) (k := k) pl ⟨hlen, fun j h1 h2 => ?_⟩ hk ⟨.int (ns.idxOf k : Nat), H, I.tok _, ⟨_, rfl⟩, q⟩
  obtain ⟨t', e⟩ := PyProof.Rows.IntsAre.int_at hi j its[j] (List.getElem?_eq_getElem h1)
  have e2 : ns.getD j 0 = ns[j] := by rw [List.getD_eq_getElem?_getD, List.getElem?_eq_getElem h2]; rfl
  rw [e, e2]
  have h3 := (MeetsSeq.EqGives.int ns[j] k t' t).at X.A.in1 s
  rw [show decide (ns[j] = k) = (ns[j] == k) from by rw [Bool.beq_eq_decide_eq]]
  exact h3
section
variable {k : Int} {n : Str} {np apos cpos : Pos}
theorem pd_tcount (ho : PDF X A a (.tuple (ns.map .int))) (he : PD X A e (.int k)) (hb : attributeBase a "count" X.env (eval a X.env) = eval a X.env := by rfl)
    (hf : ((backTo cpos (starEach [e] X.env)).all (fun x => !x.1) && (backToKw cpos (keywordEach [] X.env)).all (fun x => x.1.isSome) && decide ([e].length + ([] : List Keyword).length + (if ([] : List Keyword).isEmpty then 0 else 1) < 30)) = true := by rfl)
    (hl : (apos.endLine == cpos.line) = true := by rfl) (hs : starEach (e :: []) X.env = (false, eval e X.env) :: starEach [] X.env := by rfl) (hp : (backTo cpos (starEach [] X.env)).any (·.1) = false := by rfl) :
    PD X A (.Call (.Attribute a "count" apos) [e] [] cpos) (.int (ns.count k : Nat)) :=
  pd_of (pe_tm PySem.F.slot_tuple_count PySem.F.type_tuple_count mt_tcountI ho (pds_cons he pds_nil hs) hb hf hl hs hp) fun σ H Q ⟨W, H0, F, ps, hs, q⟩ => ⟨W, H0, F, ps, hs, fun v H1 e1 ⟨r1, p, o, u, ev, ep, hd⟩ => by
    subst ev
    cases r1 with
    | tup h1 r2 =>
      have h1' := h1
      rcases h1' with h2 | ⟨o2, h3, h2⟩
      · rw [ep] at h2; cases h2
      · refine ⟨⟨p, o2, _, rfl, h2, h3⟩, W, H0, F, ps, hs.ext e1, fun vs H2 e2 r3 => ?_⟩
        obtain ⟨w, rfl, rw'⟩ := repA1 r3
        cases rw'
        rw [r2.ints] at h1
        exact ⟨p, ns, k, rfl, rfl, (TupAt.sq ((Go.ex (M := []) e2).tup h1)), q _ H2 (ex_trans e1 e2) (.int _)⟩⟩
theorem pd_tindex (hk : k ∈ ns) (ho : PDF X A a (.tuple (ns.map .int))) (he : PD X A e (.int k)) (hb : attributeBase a "index" X.env (eval a X.env) = eval a X.env := by rfl)
    (hf : ((backTo cpos (starEach [e] X.env)).all (fun x => !x.1) && (backToKw cpos (keywordEach [] X.env)).all (fun x => x.1.isSome) && decide ([e].length + ([] : List Keyword).length + (if ([] : List Keyword).isEmpty then 0 else 1) < 30)) = true := by rfl)
    (hl : (apos.endLine == cpos.line) = true := by rfl) (hs : starEach (e :: []) X.env = (false, eval e X.env) :: starEach [] X.env := by rfl) (hp : (backTo cpos (starEach [] X.env)).any (·.1) = false := by rfl) :
    PD X A (.Call (.Attribute a "index" apos) [e] [] cpos) (.int (ns.idxOf k : Nat)) :=
  pd_of (pe_tm PySem.F.slot_tuple_index PySem.F.type_tuple_index mt_tindexI ho (pds_cons he pds_nil hs) hb hf hl hs hp) fun σ H Q ⟨W, H0, F, ps, hs, q⟩ => ⟨W, H0, F, ps, hs, fun v H1 e1 ⟨r1, p, o, u, ev, ep, hd⟩ => by
    subst ev
    cases r1 with
    | tup h1 r2 =>
      have h1' := h1
      rcases h1' with h2 | ⟨o2, h3, h2⟩
      · rw [ep] at h2; cases h2
      · refine ⟨⟨p, o2, _, rfl, h2, h3⟩, W, H0, F, ps, hs.ext e1, fun vs H2 e2 r3 => ?_⟩
        obtain ⟨w, rfl, rw'⟩ := repA1 r3
        cases rw'
        rw [r2.ints] at h1
        exact ⟨p, ns, k, rfl, rfl, (TupAt.sq ((Go.ex (M := []) e2).tup h1)), hk, q _ H2 (ex_trans e1 e2) (.int _)⟩⟩
end

/-! ### sets of ints -/
theorem setR_len {w : World} {h : Heap} {a : Addr} {S : Int → Bool} {c : Nat} (R : SetR w h a S c) {ms : List Int} (hn : ms.Nodup) (hm : ∀ k, k ∈ ms ↔ S k = true) : c = ms.length := by
  obtain ⟨o, es, ep, t, _, _, _, _, nd, hs, _, _, hc, _⟩ := R
  rw [← hc, ← Array.length_toList, ← List.length_map (f := L2.keyOf)]
  exact ((List.perm_ext_iff_of_nodup nd hn).mpr fun k => by rw [hm, hs]).length_eq
/-- set(a tuple of ints) -/
theorem cr_setT (hc : X.calm = true) : CallR X (.type "set") (fun vs H Q => ∃ (a : Addr) (ns : List Int), vs = [.ref a] ∧ SqT X.K H a (ns.map V.int) ∧ ns.length ≤ 4000 ∧
    ∀ p c, H p = none → (∀ ms : List Int, ms.Nodup → (∀ k, k ∈ ms ↔ k ∈ ns) → c = ms.length) → Q (.ref p) (upd H p (SetO X.w p (fun j => decide (j ∈ ns)) c))) := fun pins s σ H vs us Q I r ⟨a, ns, ev, hq, hl, q⟩ => by
  subst ev
  cases r with
  | cons ra rn =>
    cases rn
    obtain rfl := ra
    obtain ⟨its, rv, pl, hz⟩ := I.tuple hq
    refine call_set_tupI ns (I.ok.hd hc) pl (by simpa using ints_of_vals rv) (by unfold scanBound; omega) fun g tk c R hcl kp => ?_
    exact ⟨.ref s.heap.objs.size, _, I.laid (a := s.heap.objs.size) (o := SetO X.w s.heap.objs.size (fun j => decide (j ∈ ns)) c) (t' := tk) kp (Nat.le_refl _) (setO_new R), rfl, q _ c (I.hok.fresh (Nat.le_refl _)) fun ms h1 h2 => setR_len R h1 fun k => by rw [decide_eq_true_eq]; exact h2 k⟩
theorem lt_eq {l m : List Int} (hl : l.Pairwise (· < ·)) (hm : m.Pairwise (· < ·)) (h : ∀ k, k ∈ l ↔ k ∈ m) : l = m :=
  List.Perm.eq_of_pairwise (le := (· < ·)) (fun a b _ _ h1 h2 => absurd h1 (Int.lt_asymm h2)) hl hm ((List.perm_ext_iff_of_nodup (hl.imp fun {a b} h e => by omega) (hm.imp fun {a b} h e => by omega)).mpr h)
/-- sorted(set(t)) -/
theorem pd_sortedSetT {p1 p2 pos2 : Pos} (hc : X.calm = true) (hms : ms.Pairwise (· < ·)) (hmem : ∀ k, k ∈ ms ↔ k ∈ ns) (hl : ns.length ≤ 4000) (h64 : ms.length < 64) (m1 : X.mg "sorted" = none) (m2 : X.mg "set" = none) (ha : PD X A a (.tuple (ns.map .int))) (hg : Gl X "sorted" := by rfl) (hg2 : Gl X "set" := by rfl)
    (he : starEach (a :: []) X.env = (false, eval a X.env) :: starEach [] X.env := by rfl) (hpl : (backTo pos2 (starEach [] X.env)).any (·.1) = false := by rfl)
    (he2 : starEach (Expr.Call (.Name "set" p2) [a] [] pos2 :: []) X.env = (false, eval (Expr.Call (.Name "set" p2) [a] [] pos2) X.env) :: starEach [] X.env := by rfl) (hpl2 : (backTo pos (starEach [] X.env)).any (·.1) = false := by rfl) :
    PD X A (.Call (.Name "sorted" p1) [.Call (.Name "set" p2) [a] [] pos2] [] pos) (.list (ms.map .int)) := by
  refine pd_of (pe_callB (id := "sorted") (cr_sortedSet hc) hg m1 bb_sorted (pa_cons (pe_callTy (cr_setT hc) hg2 m2 bb_set (pds_cons ha pds_nil he) (by decide) (by decide) he hpl) pa_nil he2) (by decide) (by decide) he2 hpl2) fun σ H Q ⟨W, H0, F, ps, hs, q⟩ => ⟨W, H0, F, ps, hs, fun vs H1 e1 r1 => ?_⟩
  obtain ⟨v, rfl, rv⟩ := repA1 r1
  cases rv with
  | tup h1 r2 =>
    rw [r2.ints] at h1
    refine ⟨_, ns, rfl, h1.sq, hl, fun p c hp hcl => ?_⟩
    have av : ∀ z ∈ Mx ps ++ F, H1 z ≠ none := fun z m => (hs.ext e1).avoid m
    have ec := hcl ms (hms.imp fun {a b} h e => by omega) hmem
    refine ⟨p, _, c, rfl, upd_same, by omega, fun ns' l hlt hm hlen hl' => ?_⟩
    rw [lt_eq hlt hms fun k => by rw [hm, decide_eq_true_eq, hmem]]
    have x2 := ex_new (o := SetO X.w p (fun j => decide (j ∈ ns)) c) hp
    have x3 := ex_new (o := .lst (ms.map V.int)) hl'
    exact q _ _ (ex_trans e1 (ex_trans x2 x3)) (.lst (.inl ⟨.inl upd_same, fun z => by
      have := av l z
      cases t : H1 l with
      | none => exact this t
      | some o => rw [x2 _ _ t] at hl'; cases hl'⟩) (RepA.of_ints _))
/-- len(set(t)) -/
theorem cr_lenSet : CallR X (.builtin "len") (fun vs H Q => ∃ (a : Addr) (S : Int → Bool) (c : Nat), vs = [.ref a] ∧ H a = some (SetO X.w a S c) ∧ c ≤ 4000 ∧ Q (.int (c : Nat)) H) := fun pins s σ H vs us Q I r ⟨a, S, c, ev, hq, hc, q⟩ => by
  subst ev
  cases r with
  | cons ra rn =>
    cases rn
    obtain rfl := ra
    obtain ⟨o, es, ep, t, ho, hex, hd, _, _, _, _, hf, hn, _⟩ := setO_get I hq
    exact call_len_set ho hex hd hf (by omega) ⟨.int (c : Nat), H, I.tok _, ⟨_, by rw [hn]⟩, q⟩
theorem pd_lenSetT {p1 p2 pos2 : Pos} (hc : X.calm = true) (hms : ms.Nodup) (hmem : ∀ k, k ∈ ms ↔ k ∈ ns) (hl : ns.length ≤ 4000) (hl2 : ms.length ≤ 4000) (m1 : X.mg "len" = none) (m2 : X.mg "set" = none) (ha : PD X A a (.tuple (ns.map .int))) (hg : Gl X "len" := by rfl) (hg2 : Gl X "set" := by rfl)
    (he : starEach (a :: []) X.env = (false, eval a X.env) :: starEach [] X.env := by rfl) (hpl : (backTo pos2 (starEach [] X.env)).any (·.1) = false := by rfl)
    (he2 : starEach (Expr.Call (.Name "set" p2) [a] [] pos2 :: []) X.env = (false, eval (Expr.Call (.Name "set" p2) [a] [] pos2) X.env) :: starEach [] X.env := by rfl) (hpl2 : (backTo pos (starEach [] X.env)).any (·.1) = false := by rfl) :
    PD X A (.Call (.Name "len" p1) [.Call (.Name "set" p2) [a] [] pos2] [] pos) (.int (ms.length : Nat)) := by
  refine pd_of (pe_callB (id := "len") cr_lenSet hg m1 bb_len (pa_cons (pe_callTy (cr_setT hc) hg2 m2 bb_set (pds_cons ha pds_nil he) (by decide) (by decide) he hpl) pa_nil he2) (by decide) (by decide) he2 hpl2) fun σ H Q ⟨W, H0, F, ps, hs, q⟩ => ⟨W, H0, F, ps, hs, fun vs H1 e1 r1 => ?_⟩
  obtain ⟨v, rfl, rv⟩ := repA1 r1
  cases rv with
  | tup h1 r2 =>
    rw [r2.ints] at h1
    refine ⟨_, ns, rfl, h1.sq, hl, fun p c hp hcl => ?_⟩
    have ec := hcl ms hms hmem
    refine ⟨p, _, c, rfl, upd_same, by omega, ?_⟩
    rw [ec]
    exact q _ _ (ex_trans e1 (ex_new hp)) (.int _)
/-! ### sum of a tuple, enumerate of a list -/
theorem cr_sumT (hc : X.calm = true) : CallR X (.builtin "sum") (fun vs H Q => ∃ (a : Addr) (ns : List Int), vs = [V.ref a] ∧ SqT X.K H a (ns.map V.int) ∧ Q (.int ns.sum) H) := fun pins s σ H vs us Q I r ⟨a, ns, ev, hq, q⟩ => by
  subst ev
  cases r with
  | cons ra rn =>
    cases rn
    obtain rfl := ra
    obtain ⟨its, rv, pl, _⟩ := I.tuple hq
    have hi := ints_of_vals rv
    obtain ⟨xs, e⟩ := hi.allInts.items
    have en := hi.numsOf
    have e' : its = (intItems xs).toList := by rw [← e]
    rw [e', nums_intItems] at en
    rw [e] at pl
    refine PySem.W.ktm_sumG (I.ok.hd hc) pl fun g tk t' kp => ?_
    rw [show preSum (numAt xs) xs.size = ns.sum by rw [preSum_eq, List.take_of_length_le (by simp), en]]
    exact ⟨.int ns.sum, H, I.kept kp, ⟨_, rfl⟩, q⟩
theorem cd_sumT (hc : X.calm = true) : CallD X (.builtin "sum") [.tuple (ns.map .int)] (.int ns.sum) := ⟨_, cr_sumT hc, fun M H vs Q _ r q => by
  obtain ⟨v, rfl, rv⟩ := repA1 r
  cases rv with
  | tup h1 r1 =>
    rw [r1.ints] at h1
    exact ⟨_, _, rfl, h1.sq, q _ H (ex_refl H) (.int _)⟩⟩
theorem enumD_map {α : Type} (f : α → D) (xs : List α) : enumD (xs.map f) = xs.zipIdx.map fun q => PyData.tuple [iD q.2, f q.1] := by
  unfold enumD
  rw [List.zipIdx_map, List.map_map]
  rfl
/-! ### lists joined, slices -/
theorem op_catS : OpR X (binaryOp .Add) (fun x y H Q => ∃ a b xs ys, x = .ref a ∧ y = .ref b ∧ SqL X.K H a xs ∧ SqL X.K H b ys ∧ xs.length + ys.length ≤ sizeLine ∧ ∀ p, H p = none → Q (.ref p) (upd H p (.lst (xs ++ ys)))) := fun pins s σ H x y v u Q I rx ry ⟨a, b, xs, ys, ex, ey, ha, hb, hz, q⟩ => by
  subst ex ey
  obtain rfl := rx
  obtain rfl := ry
  obtain ⟨us, ru, ⟨⟨c1, d1, t1, s1⟩, n1, g1, h1, h2, h3⟩, _⟩ := I.list ha
  obtain ⟨ws, rw', ⟨⟨c2, d2, t2, s2⟩, n2, g2, h4, h5, h6⟩, _⟩ := I.list hb
  cases h1
  cases h3
  cases h4
  cases h6
  have sz : us.toArray.size + ws.toArray.size ≤ sizeLine := by rw [List.size_toArray, List.size_toArray, ← ru.length, ← rw'.length]; exact hz
  refine concat_meets ⟨_, g1, rfl⟩ ⟨_, g2, rfl⟩ PySem.noFill_list_add PySem.seq_list_add PySem.F.slot_list_add PySem.F.entry_list_add (PySem.F.args_list_add_2 _ _) (list_addW a b us.toArray ws.toArray n1 n2 d1 d2 s1 s2 sz) ⟨g1, g2, ?_⟩
  rw [List.append_toArray]
  exact ⟨.ref s.heap.objs.size, _, I.laid (a := s.heap.objs.size) (o := .lst (xs ++ ys)) (t' := s.toks) (fun b u e => Heap.get?_push_of_some _ e) (Nat.le_refl _) ⟨by rw [List.length_append]; exact hz, us ++ ws, 0, ru.append rw', Heap.get?_push_size _ rfl⟩, rfl, q _ (I.hok.fresh (Nat.le_refl _))⟩
theorem pd_catL (ha : PD X A a (.list ds)) (hb : PD X A b (.list ds')) (hl : ds.length + ds'.length ≤ 100000) : PD X A (.BinOp a .Add b pos) (.list (ds ++ ds')) :=
  pd_op op_catS (fun M H vx vy Q hm r1 r2 q => by
    cases r1 with
    | lst h1 r3 =>
      cases r2 with
      | lst h2 r4 => exact ⟨_, _, _, _, rfl, rfl, h1.sq, h2.sq, by rw [r3.length, r4.length]; exact Nat.le_trans hl (by decide), fun p hp => q _ _ (ex_new hp) (.lst (.inl ⟨.inl upd_same, fun z => hm p z hp⟩) ((r3.append r4).ex (ex_new hp)))⟩) ha hb
end
end Z

namespace Z
open PySem PySem.Spec PyProof.Rows L2
section
variable {X : Cx} {A : AS} {Φ : AE} {a b c e : Expr} {es : List Expr} {x y z d : D} {ds ds' : List D} {l ms : List Nat} {pos p : Pos}
/-! ### the same on both sides -/
theorem pt_neS {n : Nat} (hu : X.A.units + 64 < cLine) (hs : Sh n d) (ha : PD X A a d) (hb : PD X A b d) (hn : n ≤ 64 := by decide) : PTD X A (.Compare a [.NotEq] [b] pos) false :=
  PTD.eq (pt_neD hu (hs.ed hn) (hs.ed hn) ha hb) (by rw [eqv_same hs]; rfl)
theorem pt_eqS {n : Nat} (hu : X.A.units + 64 < cLine) (hs : Sh n d) (ha : PD X A a d) (hb : PD X A b d) (hn : n ≤ 64 := by decide) : PTD X A (.Compare a [.Eq] [b] pos) true :=
  PTD.eq (pt_eqD hu (hs.ed hn) (hs.ed hn) ha hb) (eqv_same hs)
theorem pd_eqS {n : Nat} (hu : X.A.units + 64 < cLine) (hs : Sh n d) (ha : PD X A a d) (hb : PD X A b d) (hn : n ≤ 64 := by decide) : PD X A (.Compare a [.Eq] [b] pos) (.bool true) :=
  PD.eq (pd_eqD hu (hs.ed hn) (hs.ed hn) ha hb) (by rw [eqv_same hs])
theorem pt_neI {i : Int} (ha : PD X A a (.int i)) (hb : PD X A b (.int i)) : PTD X A (.Compare a [.NotEq] [b] pos) false := PTD.eq (pt_ne ha hb) (by simp)
theorem pt_eqI {i : Int} (ha : PD X A a (.int i)) (hb : PD X A b (.int i)) : PTD X A (.Compare a [.Eq] [b] pos) true := PTD.eq (pt_eq ha hb) (by simp)
theorem pd_eqI {i : Int} (ha : PD X A a (.int i)) (hb : PD X A b (.int i)) : PD X A (.Compare a [.Eq] [b] pos) (.bool true) := PD.eq (pd_eq ha hb) (by simp)
theorem sd_no {sts els : List Stmt} (hc : PTD X A c false) (h : SDs X A els Φ) : SD X A (.If c sts els pos) Φ := sd_if hc (fun h => nomatch h) fun _ => h
theorem sd_yes {sts els : List Stmt} (hc : PTD X A c true) (h : SDs X A sts Φ) : SD X A (.If c sts els pos) Φ := sd_if hc (fun _ => h) fun h => nomatch h
/-- if t: return .. (never taken) -/
theorem sds_no {sts rest : List Stmt} (hc : PTD X A c false) (h : SDs X A rest Φ) : SDs X A (.If c sts [] pos :: rest) Φ := sds_cons (sd_no hc (sds_nil h))
/-- a statement that leaves the state as it is -/
theorem sds_same {st : Stmt} {rest : List Stmt} (h : SD X A st { Φ with nx := fun B => B = A }) (h2 : SDs X A rest Φ) : SDs X A (st :: rest) Φ := by
  refine sds_cons (sd_of h fun Dn σ H ⟨W, H0, F, ps, hs, rz⟩ => ⟨W, H0, F, ps, hs, { nx := fun ps' A' σ' H' h' q => ?_, bk := rz.bk, ct := rz.ct, rt := rz.rt, rtF := rz.rtF }⟩)
  have q' : A' = A := q
  subst q'
  exact rz.nx ps' _ σ' H' h' h2
/-- t or u, both false -/
theorem ptd_or2 (ha : PTD X A a false) (hb : PTD X A b false) : PTD X A (.BoolOp .Or [a, b] pos) false := ptd_w (pwd_or ha fun _ => pwd_or1 hb)
theorem ptd_or3 (ha : PTD X A a false) (hb : PTD X A b false) (hc : PTD X A c false) : PTD X A (.BoolOp .Or [a, b, c] pos) false := ptd_w (pwd_or ha fun _ => pwd_or hb fun _ => pwd_or1 hc)
/-! ### plain numbers -/
theorem mapI (l : List Nat) : l.map iD = (l.map fun (n : Nat) => (n : Int)).map PyData.int := by rw [List.map_map]; rfl
theorem count_cast (k : Nat) : ∀ (l : List Nat), (l.map fun (n : Nat) => (n : Int)).count (k : Int) = l.count k
  | [] => rfl
  | x :: l => by
    rw [List.map_cons, List.count_cons, List.count_cons, count_cast k l]
    by_cases h : x = k
    · rw [h]; simp
    · have : ((x : Int) == (k : Int)) = false := beq_eq_false_iff_ne.mpr fun e => h (Int.ofNat_inj.mp e)
      rw [this, beq_eq_false_iff_ne.mpr h]
theorem sum_cast : ∀ (l : List Nat), (l.map fun (n : Nat) => (n : Int)).sum = (l.sum : Int)
  | [] => rfl
  | x :: l => by rw [List.map_cons, List.sum_cons, List.sum_cons, sum_cast l]; rfl
theorem mem_cast {l : List Nat} {k : Int} : k ∈ (l.map fun (n : Nat) => (n : Int)) ↔ ∃ n ∈ l, (n : Int) = k := List.mem_map
theorem idx_cast (k : Nat) : ∀ (l : List Nat), (l.map fun (n : Nat) => (n : Int)).idxOf (k : Int) = l.idxOf k
  | [] => rfl
  | x :: l => by
    rw [List.map_cons, List.idxOf_cons, List.idxOf_cons, idx_cast k l]
    by_cases h : x = k
    · rw [h]; simp
    · have : ((x : Int) == (k : Int)) = false := beq_eq_false_iff_ne.mpr fun e => h (Int.ofNat_inj.mp e)
      rw [this, beq_eq_false_iff_ne.mpr h]
theorem cd_sumTN (hc : X.calm = true) : CallD X (.builtin "sum") [.tuple (l.map iD)] (iD l.sum) := by
  rw [mapI]
  show CallD X _ _ (.int (l.sum : Int))
  rw [← sum_cast]
  exact cd_sumT hc
theorem cd_sumLN (hc : X.calm = true) : CallD X (.builtin "sum") [.list (l.map iD)] (iD l.sum) := by
  rw [mapI]
  show CallD X _ _ (.int (l.sum : Int))
  rw [← sum_cast]
  exact cd_sumL hc
theorem cd_minLN (hc : X.calm = true) {m : Nat} (hm : m ∈ l) (hl : ∀ y ∈ l, m ≤ y) : CallD X (.builtin "min") [.list (l.map iD)] (iD m) := by
  rw [mapI]
  refine cd_minL hc (mem_cast.mpr ⟨m, hm, rfl⟩) fun y hy => ?_
  obtain ⟨n, hn, rfl⟩ := mem_cast.mp hy
  exact Int.ofNat_le.mpr (hl n hn)
theorem cd_maxLN (hc : X.calm = true) {m : Nat} (hm : m ∈ l) (hl : ∀ y ∈ l, y ≤ m) : CallD X (.builtin "max") [.list (l.map iD)] (iD m) := by
  rw [mapI]
  refine cd_maxL hc (mem_cast.mpr ⟨m, hm, rfl⟩) fun y hy => ?_
  obtain ⟨n, hn, rfl⟩ := mem_cast.mp hy
  exact Int.ofNat_le.mpr (hl n hn)
theorem cd_sortedN (hp : ms.Perm l) (hs : ms.Pairwise (· ≤ ·)) : CallD X (.builtin "sorted") [.list (l.map iD)] (.list (ms.map iD)) := by
  rw [mapI, mapI]
  exact cd_sortedI (hp.map _) (List.pairwise_map.mpr (hs.imp fun h => Int.ofNat_le.mpr h))
theorem cast_mem (h : ∀ k, k ∈ ms ↔ k ∈ l) (k : Int) : k ∈ (ms.map fun (n : Nat) => (n : Int)) ↔ k ∈ (l.map fun (n : Nat) => (n : Int)) := by
  rw [mem_cast, mem_cast]
  exact ⟨fun ⟨n, a, b⟩ => ⟨n, (h n).mp a, b⟩, fun ⟨n, a, b⟩ => ⟨n, (h n).mpr a, b⟩⟩
theorem pd_sortedSetTN {p1 p2 pos2 : Pos} (hc : X.calm = true) (hms : ms.Pairwise (· < ·)) (hmem : ∀ k, k ∈ ms ↔ k ∈ l) (hl : l.length ≤ 4000) (h64 : ms.length < 64) (m1 : X.mg "sorted" = none) (m2 : X.mg "set" = none) (ha : PD X A a (.tuple (l.map iD))) (hg : Gl X "sorted" := by rfl) (hg2 : Gl X "set" := by rfl)
    (he : starEach (a :: []) X.env = (false, eval a X.env) :: starEach [] X.env := by rfl) (hpl : (backTo pos2 (starEach [] X.env)).any (·.1) = false := by rfl)
    (he2 : starEach (Expr.Call (.Name "set" p2) [a] [] pos2 :: []) X.env = (false, eval (Expr.Call (.Name "set" p2) [a] [] pos2) X.env) :: starEach [] X.env := by rfl) (hpl2 : (backTo pos (starEach [] X.env)).any (·.1) = false := by rfl) :
    PD X A (.Call (.Name "sorted" p1) [.Call (.Name "set" p2) [a] [] pos2] [] pos) (.list (ms.map iD)) := by
  rw [mapI] at ha ⊢
  exact pd_sortedSetT hc (List.pairwise_map.mpr (hms.imp fun h => Int.ofNat_lt.mpr h)) (cast_mem hmem) (by simpa using hl) (by simpa using h64) m1 m2 ha hg hg2 he hpl he2 hpl2
section
variable {k : Nat} {apos cpos : Pos}
theorem pd_tcountN (ho : PDF X A a (.tuple (l.map iD))) (he : PD X A e (iD k)) (hb : attributeBase a "count" X.env (eval a X.env) = eval a X.env := by rfl)
    (hf : ((backTo cpos (starEach [e] X.env)).all (fun x => !x.1) && (backToKw cpos (keywordEach [] X.env)).all (fun x => x.1.isSome) && decide ([e].length + ([] : List Keyword).length + (if ([] : List Keyword).isEmpty then 0 else 1) < 30)) = true := by rfl)
    (hl : (apos.endLine == cpos.line) = true := by rfl) (hs : starEach (e :: []) X.env = (false, eval e X.env) :: starEach [] X.env := by rfl) (hp : (backTo cpos (starEach [] X.env)).any (·.1) = false := by rfl) :
    PD X A (.Call (.Attribute a "count" apos) [e] [] cpos) (iD (l.count k)) := by
  rw [mapI] at ho
  rw [← count_cast]
  exact pd_tcount ho he hb hf hl hs hp
theorem pd_tindexN (hk : k ∈ l) (ho : PDF X A a (.tuple (l.map iD))) (he : PD X A e (iD k)) (hb : attributeBase a "index" X.env (eval a X.env) = eval a X.env := by rfl)
    (hf : ((backTo cpos (starEach [e] X.env)).all (fun x => !x.1) && (backToKw cpos (keywordEach [] X.env)).all (fun x => x.1.isSome) && decide ([e].length + ([] : List Keyword).length + (if ([] : List Keyword).isEmpty then 0 else 1) < 30)) = true := by rfl)
    (hl : (apos.endLine == cpos.line) = true := by rfl) (hs : starEach (e :: []) X.env = (false, eval e X.env) :: starEach [] X.env := by rfl) (hp : (backTo cpos (starEach [] X.env)).any (·.1) = false := by rfl) :
    PD X A (.Call (.Attribute a "index" apos) [e] [] cpos) (iD (l.idxOf k)) := by
  rw [mapI] at ho
  rw [← idx_cast]
  exact pd_tindex (mem_cast.mpr ⟨k, hk, rfl⟩) ho he hb hf hl hs hp
end
/-- the last of a list -/
theorem atI_neg1 {α : Type} {xs : List α} {v : α} (h : xs.getLast? = some v) : atI xs (-1) = some v := by
  obtain ⟨ys, rfl⟩ := List.getLast?_eq_some_iff.mp h
  exact atI_last ys v
theorem atI_map {α β : Type} {f : α → β} {xs : List α} {j : Nat} {v : α} (h : xs[j]? = some v) : atI (xs.map f) (j : Int) = some (f v) := atI_nat (by rw [List.getElem?_map, h]; rfl)
theorem shPair {n : Nat} (p : Nat × Nat) : ∀ d ∈ [iD p.1, iD p.2], Sh n d := by simp [Sh, PyData.canLay0, PyData.depth]
theorem shN (l : List Nat) : ∀ d ∈ l.map iD, Sh 0 d := sh_map (fun _ => sh_int) l
end
end Z

namespace Z
open PySem PySem.Spec PyProof.Rows L2
section
variable {X : Cx} {A : AS} {a b c e : Expr} {es : List Expr} {x y z d : D} {ds ds' : List D} {ns ms : List Int} {pos p : Pos}
theorem vals_at : ∀ {xs : List V} {us : List Value} (i : Nat) {u : Value}, Vals xs us → us[i]? = some u → ∃ v, xs[i]? = some v ∧ RelV v u
  | _, _, _, _, .nil, h => by simp at h
  | _, _, 0, _, .cons r _, h => ⟨_, rfl, by cases h; exact r⟩
  | _, _, i + 1, _, .cons _ t, h => vals_at i t h
/-- min of a list of data of one kind: the item itself -/
def rMinD (X : Cx) : List V → Hp → VK → Prop := fun vs H Q => ∃ (a : Addr) (xs : List V) (d : D) (ds : List D), vs = [.ref a] ∧ SqL X.K H a xs ∧ DpAll X.K H xs (d :: ds) ∧ W.AlikeAll (d :: ds) ∧ PyData.canLayAll0 (d :: ds) = true ∧
  X.A.units + 1 + PyData.depthAll (d :: ds) < cLine ∧ ∀ (i : Nat) (v : V), xs[i]? = some v → (d :: ds)[i]? = some (W.minD d ds) → Q v H
theorem cr_minD (hc : X.calm = true) : CallR X (.builtin "min") (rMinD X) := fun pins s σ H vs us Q I r ⟨a, xs, d, ds, ev, hq, hd, ha, hl, hu, q⟩ => by
  subst ev
  cases r with
  | cons ra rn =>
    cases rn
    obtain rfl := ra
    obtain ⟨its, rv, pl, hz⟩ := I.list hq
    obtain ⟨as, hr⟩ := Dp.readsAll I (d :: ds) xs its hd rv
    refine W.min_list_data (vs := its.toArray) (I.ok.hd hc) pl.isList hr ha hu fun i v h' tk bs hv hr' hk => ?_
    have hv' : its[i]? = some v := by simpa using hv
    obtain ⟨w, hw, rw'⟩ := vals_at i rv hv'
    refine ⟨w, H, I.kept hk, rw', q i w hw ?_⟩
    obtain ⟨cs, r1, i1, m1, _⟩ := W.readsAll_at hr i v (by simpa using hv')
    have e := SeqAt.ReadsAll.unique [(d :: ds).getD i .none] [W.minD d ds] [v] _ _ (by
      have : ∀ (l : List D), PyData.canLayAll0 l = true → ∀ x ∈ l, x.canLay0 = true := by
        intro l
        induction l with
        | nil => intro _ x hx; cases hx
        | cons y l ih =>
          intro h x hx
          have h' := Bool.and_eq_true_iff.mp h
          rcases List.mem_cons.mp hx with rfl | hx
          · exact h'.1
          · exact ih h'.2 x hx
      show (PyData.canLay0 _ && true) = true
      rw [this _ hl _ m1]; rfl) (.cons (W.reads_keeps hk r1) .nil) (.cons hr' .nil)
    have e2 : (d :: ds).getD i .none = W.minD d ds := (List.cons.inj e).1
    rw [← e2, List.getElem?_eq_getElem i1, List.getD_eq_getElem?_getD, List.getElem?_eq_getElem i1]
    rfl
theorem cd_minD (hc : X.calm = true) (ha : W.AlikeAll (d :: ds)) (hl : PyData.canLayAll0 (d :: ds) = true) (hu : X.A.units + 1 + PyData.depthAll (d :: ds) < cLine) : CallD X (.builtin "min") [.list (d :: ds)] (W.minD d ds) := ⟨_, cr_minD hc, fun M H vs Q _ r q => by
  obtain ⟨v, rfl, rv⟩ := repA1 r
  cases rv with
  | lst h1 r1 =>
    refine ⟨_, _, d, ds, rfl, h1.sq, r1.dp hl, ha, hl, hu, fun i w hw hi => ?_⟩
    obtain ⟨w', hw', rr⟩ := r1.get' hi
    rw [hw] at hw'
    cases hw'
    exact q w H (ex_refl H) rr⟩
theorem minD_pairs : ∀ (qs : List (Int × Int)) (p m : Int × Int), m ∈ p :: qs → (∀ y ∈ p :: qs, lexLe m y) → W.minD (pairD p) (qs.map pairD) = pairD m
  | [], p, m, hm, _ => by
    cases List.mem_singleton.mp hm
    rfl
  | q :: qs, p, m, hm, hl => by
    have st : W.minD (pairD p) ((q :: qs).map pairD) = W.minD (if W.dataLt (pairD q) (pairD p) then pairD q else pairD p) (qs.map pairD) := rfl
    rw [st, show W.dataLt (pairD q) (pairD p) = decide (q.1 < p.1 ∨ (q.1 = p.1 ∧ q.2 < p.2)) from W.dataLt_ii _ _ _ _]
    by_cases h : q.1 < p.1 ∨ (q.1 = p.1 ∧ q.2 < p.2)
    · rw [if_pos (decide_eq_true h)]
      refine minD_pairs qs q m ?_ fun y hy => hl y (List.mem_cons_of_mem _ hy)
      rcases List.mem_cons.mp hm with rfl | hm
      · have := hl q (List.mem_cons_of_mem _ List.mem_cons_self)
        unfold lexLe at this
        omega
      · exact hm
    · rw [if_neg (by simpa using h)]
      refine minD_pairs qs p m ?_ fun y hy => ?_
      · rcases List.mem_cons.mp hm with rfl | hm
        · exact List.mem_cons_self
        rcases List.mem_cons.mp hm with rfl | hm
        · have := hl p List.mem_cons_self
          have e : m = p := by
            unfold lexLe at this
            exact Prod.ext (by omega) (by omega)
          exact e ▸ List.mem_cons_self
        · exact List.mem_cons_of_mem _ hm
      · rcases List.mem_cons.mp hy with rfl | hy
        · exact hl _ List.mem_cons_self
        · exact hl _ (List.mem_cons_of_mem _ (List.mem_cons_of_mem _ hy))
theorem depth_pairs : ∀ qs : List (Int × Int), PyData.depthAll (qs.map pairD) ≤ 1
  | [] => Nat.zero_le _
  | q :: qs => Nat.max_le.mpr ⟨Nat.le_refl 1, depth_pairs qs⟩
theorem lay_pairs : ∀ qs : List (Int × Int), PyData.canLayAll0 (qs.map pairD) = true
  | [] => rfl
  | q :: qs => Bool.and_eq_true_iff.mpr ⟨rfl, lay_pairs qs⟩
/-- min of a list of pairs -/
theorem cd_minP {ps : List (Int × Int)} {m : Int × Int} (hc : X.calm = true) (hu : X.A.units + 8 < cLine) (hm : m ∈ ps) (hl : ∀ y ∈ ps, lexLe m y) : CallD X (.builtin "min") [.list (ps.map pairD)] (pairD m) := by
  cases ps with
  | nil => cases hm
  | cons q qs =>
    have h := cd_minD (X := X) (d := pairD q) (ds := qs.map pairD) hc ⟨fun x hx y hy => ?_, fun x hx => ?_⟩ (lay_pairs (q :: qs)) ?_
    · rw [minD_pairs qs q m hm hl] at h
      exact h
    · obtain ⟨_, _, rfl⟩ := List.mem_map.mp (show x ∈ (q :: qs).map pairD from hx)
      obtain ⟨_, _, rfl⟩ := List.mem_map.mp (show y ∈ (q :: qs).map pairD from hy)
      rfl
    · obtain ⟨_, _, rfl⟩ := List.mem_map.mp (show x ∈ (q :: qs).map pairD from hx)
      intro z
      cases z
    · have := depth_pairs (q :: qs)
      rw [List.map_cons] at this
      omega
/-! ### x in, x not in -/
theorem inV_ints (k : Int) : ∀ ns : List Int, inV (.int k) (ns.map V.int) = decide (k ∈ ns)
  | [] => rfl
  | n :: ns => by
    show ((n == k) || inV (.int k) (ns.map V.int)) = _
    rw [inV_ints k ns]
    by_cases h : n = k
    · subst h
      simp
    · have h2 : ¬ k = n := fun z => h z.symm
      simp [h, h2]
theorem flat_ints : ∀ ns : List Int, (ns.map V.int).all flatV = true
  | [] => rfl
  | n :: ns => by
    rw [List.map_cons, List.all_cons, flat_ints ns]
    rfl
theorem rd_inT {K : PySem.W.Frag} {k : Int} (neg : Bool) : RD2 K (rIn K neg) (.int k) (.tuple (ns.map .int)) (.bool (if neg then !decide (k ∈ ns) else decide (k ∈ ns))) := fun M H vx vy Q _ r1 r2 q => by
  cases r1
  cases r2 with
  | tup h1 rr =>
    rw [rr.ints] at h1
    refine ⟨_, _, rfl, .inr h1.sq, rfl, flat_ints ns, ?_⟩
    rw [inV_ints]
    exact q _ H (ex_refl H) (.bl _)
theorem rd_inL {K : PySem.W.Frag} {k : Int} (neg : Bool) : RD2 K (rIn K neg) (.int k) (.list (ns.map .int)) (.bool (if neg then !decide (k ∈ ns) else decide (k ∈ ns))) := fun M H vx vy Q _ r1 r2 q => by
  cases r1
  cases r2 with
  | lst h1 rr =>
    rw [rr.ints] at h1
    refine ⟨_, _, rfl, .inl h1.sq, rfl, flat_ints ns, ?_⟩
    rw [inV_ints]
    exact q _ H (ex_refl H) (.bl _)
variable {k : Int}
theorem pd_inT (ha : PD X A a (.int k)) (hb : PD X A b (.tuple (ns.map .int))) (hm : behindInMarks .In b = false := by rfl) : PD X A (.Compare a [.In] [b] pos) (.bool (decide (k ∈ ns))) := pd_cmp op_in_seq (rd_inT false) ha hb hm
theorem pd_ninT (ha : PD X A a (.int k)) (hb : PD X A b (.tuple (ns.map .int))) (hm : behindInMarks .NotIn b = false := by rfl) : PD X A (.Compare a [.NotIn] [b] pos) (.bool (!decide (k ∈ ns))) := pd_cmp op_notIn_seq (rd_inT true) ha hb hm
theorem pt_inT (ha : PD X A a (.int k)) (hb : PD X A b (.tuple (ns.map .int))) (hm : behindInMarks .In b = false := by rfl) : PTD X A (.Compare a [.In] [b] pos) (decide (k ∈ ns)) := ptd_cmp op_in_seq (rd_inT false) ha hb hm
theorem pt_ninT (ha : PD X A a (.int k)) (hb : PD X A b (.tuple (ns.map .int))) (hm : behindInMarks .NotIn b = false := by rfl) : PTD X A (.Compare a [.NotIn] [b] pos) (!decide (k ∈ ns)) := ptd_cmp op_notIn_seq (rd_inT true) ha hb hm
theorem pd_inL (ha : PD X A a (.int k)) (hb : PD X A b (.list (ns.map .int))) (hm : behindInMarks .In b = false := by rfl) : PD X A (.Compare a [.In] [b] pos) (.bool (decide (k ∈ ns))) := pd_cmp op_in_seq (rd_inL false) ha hb hm
theorem pt_inL (ha : PD X A a (.int k)) (hb : PD X A b (.list (ns.map .int))) (hm : behindInMarks .In b = false := by rfl) : PTD X A (.Compare a [.In] [b] pos) (decide (k ∈ ns)) := ptd_cmp op_in_seq (rd_inL false) ha hb hm
theorem pt_ninL (ha : PD X A a (.int k)) (hb : PD X A b (.list (ns.map .int))) (hm : behindInMarks .NotIn b = false := by rfl) : PTD X A (.Compare a [.NotIn] [b] pos) (!decide (k ∈ ns)) := ptd_cmp op_notIn_seq (rd_inL true) ha hb hm
variable {ns' : List Nat} {n : Nat}
theorem mem_nat : (n : Int) ∈ ns'.map (fun k : Nat => (k : Int)) ↔ n ∈ ns' := ⟨fun h => by
  obtain ⟨m, hm, e⟩ := List.mem_map.mp h
  exact Int.ofNat.inj e ▸ hm, fun h => List.mem_map.mpr ⟨n, h, rfl⟩⟩
theorem iD_map : ns'.map iD = (ns'.map (fun k : Nat => (k : Int))).map PyData.int := by
  rw [List.map_map]
  rfl
theorem pt_inTN (ha : PD X A a (iD n)) (hb : PD X A b (.tuple (ns'.map iD))) (hm : behindInMarks .In b = false := by rfl) : PTD X A (.Compare a [.In] [b] pos) (decide (n ∈ ns')) := by
  rw [iD_map] at hb
  rw [← decide_eq_decide.mpr mem_nat]
  exact pt_inT ha hb hm
theorem pt_ninTN (ha : PD X A a (iD n)) (hb : PD X A b (.tuple (ns'.map iD))) (hm : behindInMarks .NotIn b = false := by rfl) : PTD X A (.Compare a [.NotIn] [b] pos) (!decide (n ∈ ns')) := by
  rw [iD_map] at hb
  rw [← decide_eq_decide.mpr mem_nat]
  exact pt_ninT ha hb hm
theorem pt_inLN (ha : PD X A a (iD n)) (hb : PD X A b (.list (ns'.map iD))) (hm : behindInMarks .In b = false := by rfl) : PTD X A (.Compare a [.In] [b] pos) (decide (n ∈ ns')) := by
  rw [iD_map] at hb
  rw [← decide_eq_decide.mpr mem_nat]
  exact pt_inL ha hb hm
theorem pt_ninLN (ha : PD X A a (iD n)) (hb : PD X A b (.list (ns'.map iD))) (hm : behindInMarks .NotIn b = false := by rfl) : PTD X A (.Compare a [.NotIn] [b] pos) (!decide (n ∈ ns')) := by
  rw [iD_map] at hb
  rw [← decide_eq_decide.mpr mem_nat]
  exact pt_ninL ha hb hm
theorem pd_inTN (ha : PD X A a (iD n)) (hb : PD X A b (.tuple (ns'.map iD))) (hm : behindInMarks .In b = false := by rfl) : PD X A (.Compare a [.In] [b] pos) (.bool (decide (n ∈ ns'))) := by
  rw [iD_map] at hb
  rw [← decide_eq_decide.mpr mem_nat]
  exact pd_inT ha hb hm
/-! ### x.extend(a list that is laid for it) -/
variable {Φ : AE}
theorem sd_extend (i j : Nat) {n : Str} {np apos cpos : Pos} (he : PDL X A e ds') (hl : ds.length + ds'.length ≤ 100000) (h : Φ.nx ⟨A.ρ, A.μ.set j (.lst (ds ++ ds'))⟩) (hi : A.ρ[i]? = some (.obj j) := by rfl) (hj : A.μ[j]? = some (.lst ds) := by rfl)
    (hN : X.N[i]? = some n := by rfl) (hv : Vis X.env.scope n := by first | exact Or.inl rfl | exact Or.inr (Or.inl rfl) | exact Or.inr (Or.inr rfl)) (hd : (n == ("__debug__" : Str)) = false := by decide) (hcd : (n == ("__classdict__" : Str)) = false := by decide)
    (hbase : attributeBase (.Name n np) "extend" X.env (eval (.Name n np) X.env) = eval (.Name n np) X.env := by rfl)
    (hfew : ((backTo cpos (starEach [e] X.env)).all (fun x => !x.1) && (backToKw cpos (keywordEach [] X.env)).all (fun x => x.1.isSome)
      && decide ([e].length + ([] : List Keyword).length + (if ([] : List Keyword).isEmpty then 0 else 1) < 30)) = true := by rfl)
    (hline : (apos.endLine == cpos.line) = true := by rfl) (hs : starEach (e :: []) X.env = (false, eval e X.env) :: starEach [] X.env := by rfl) (hplain : (backTo cpos (starEach [] X.env)).any (·.1) = false := by rfl)
    (hsw : swapsWith (.Call (.Attribute (.Name n np) "extend" apos) [e] [] cpos) none pos.line X.env = pure false := by rfl) : SD X A (.Expr (.Call (.Attribute (.Name n np) "extend" apos) [e] [] cpos) pos) Φ := by
  refine sd_of (ps_expr (pe_bm PySem.F.plainAttrs_list PySem.F.slot_list_extend PySem.F.type_list_extend mt_extend (pe_var hN hv hd hcd) (pa_cons he pa_nil hs) hbase hfew hline hs hplain) hsw) fun Dn σ H ⟨W, H0, F, ps, hs, rz⟩ => ?_
  obtain ⟨p, e1, e2, e3⟩ := hs.obj hi hj
  obtain ⟨xs, hp, rx⟩ := mok_lst e3
  refine ⟨.ref p, e1, .inl ⟨rfl, xs, .of hp⟩, W, H0, F, ps, hs, fun q H1 zs x1 h0 hq rz0 => ⟨p, q, xs, zs, rfl, rfl, x1 _ _ hp, hq, ?_, ?_⟩⟩
  · rw [rx.length, rz0.length]
    exact Nat.le_trans hl (by decide)
  · have hs1 := hs.ext x1
    have rz1 := repA_back rz0
    have mp : p ∈ Mx ps ++ F := List.mem_append_left _ (mem_mx.mpr (List.mem_of_getElem? e2))
    have g : Go (Mx ps ++ F) (Mx ps ++ F) H1 (upd H1 p (.lst (xs ++ zs))) := Go.mut mp (by rw [x1 _ _ hp]; trivial)
    exact rz.nx _ _ _ _ (hs1.mut' (o := .lst (xs ++ zs)) (m := .lst (ds ++ ds')) e2 trivial ⟨p, _, rfl, upd_same, RepA.append ((rx.ex x1).go g) (rz1.go g)⟩) h
end
end Z

namespace Z
open PySem PySem.Spec PyProof.Rows L2
/-! ### owned objects that are only read: the value as it stands, for what answers numbers, texts and tuples of them -/
mutual
def noL : D → Bool
  | .list _ => false
  | .dict _ => false
  | .tuple ds => noLs ds
  | _ => true
def noLs : List D → Bool
  | [] => true
  | d :: ds => noL d && noLs ds
end
mutual
theorem Rep.lift {K : PySem.W.Frag} {M M' : List Addr} {H : Hp} : ∀ {v : V} {d : D}, Rep K M H v d → noL d = true → Rep K M' H v d
  | _, _, .non, _ => .non
  | _, _, .bl b, _ => .bl b
  | _, _, .int i, _ => .int i
  | _, _, .str x, _ => .str x
  | _, _, .lst h r, n => by unfold noL at n; cases n
  | _, _, .tup h r, n => .tup h (RepA.lift r (by unfold noL at n; exact n))
  | _, _, .dct _ _ _ _, n => by unfold noL at n; cases n
theorem RepA.lift {K : PySem.W.Frag} {M M' : List Addr} {H : Hp} : ∀ {vs : List V} {ds : List D}, RepA K M H vs ds → noLs ds = true → RepA K M' H vs ds
  | _, _, .nil, _ => .nil
  | _, _, .cons r t, n => by
    unfold noLs at n
    have n' := Bool.and_eq_true_iff.mp n
    exact .cons (Rep.lift r n'.1) (RepA.lift t n'.2)
end
theorem noLs_map {α : Type} {f : α → D} (h : ∀ x, noL (f x) = true) : ∀ l : List α, noLs (l.map f) = true
  | [] => by simp [noLs]
  | x :: l => by
    rw [List.map_cons]
    unfold noLs
    rw [h x, noLs_map h l]
    rfl
theorem noL_tup {α : Type} {f : α → D} {l : List α} (h : ∀ x, noL (f x) = true) : noL (.tuple (l.map f)) = true := by
  unfold noL
  exact noLs_map h l
theorem noL_iD (n : Nat) : noL (iD n) = true := by simp [iD, noL]
def tP (K : PySem.W.Frag) (A : AS) (d : D) : TE := fun σ H Q => ∃ W H0 F ps, Has K W H0 F ps A σ H ∧ ∀ v H', Ex H H' → Rep K [] H' v d → Q v H'
def tPs (K : PySem.W.Frag) (A : AS) (ds : List D) : TA := fun σ H Q => ∃ W H0 F ps, Has K W H0 F ps A σ H ∧ ∀ vs H', Ex H H' → RepA K [] H' vs ds → Q vs H'
def PDP (X : Cx) (A : AS) (e : Expr) (d : D) : Prop := PE X e (tP X.K A d)
def PDPs (X : Cx) (A : AS) (es : List Expr) (ds : List D) : Prop := PA X es (tPs X.K A ds)
section
variable {X : Cx} {A : AS} {a b c e : Expr} {es : List Expr} {x y z d : D} {ds ds' : List D} {kvs : List (Key × D)} {pos p : Pos} {n : Str}
theorem pdp_of {t : TE} (h : PE X e t) (r : ∀ σ H Q, tP X.K A d σ H Q → t σ H Q) : PDP X A e d := ⟨fun pins s σ H Q I hq => h.run pins s σ H Q I (r σ H Q hq)⟩
theorem pdps_of {t : TA} (h : PA X es t) (r : ∀ σ H Q, tPs X.K A ds σ H Q → t σ H Q) : PDPs X A es ds := ⟨fun ps pins s σ H Q I hq => h.run ps pins s σ H Q I (r σ H Q hq)⟩
theorem PD.peek (h : PD X A e d) : PDP X A e d := pdp_of h fun σ H Q ⟨W, H0, F, ps, hs, q⟩ => ⟨W, H0, F, ps, hs, fun v H' x r => q v H' x (r.go (Go.sub fun a m => absurd m List.not_mem_nil))⟩
theorem PDs.peek (h : PDs X A es ds) : PDPs X A es ds := pdps_of h fun σ H Q ⟨W, H0, F, ps, hs, q⟩ => ⟨W, H0, F, ps, hs, fun v H' x r => q v H' x (RepA.go (Go.sub fun a m => absurd m List.not_mem_nil) r)⟩
theorem PDP.eq (h : PDP X A e x) (q : x = y) : PDP X A e y := q ▸ h
theorem pdp_lst (i j : Nat) (hi : A.ρ[i]? = some (.obj j) := by rfl) (hj : A.μ[j]? = some (.lst ds) := by rfl) (hN : X.N[i]? = some n := by rfl) (hv : Vis X.env.scope n := by first | exact Or.inl rfl | exact Or.inr (Or.inl rfl) | exact Or.inr (Or.inr rfl))
    (hd : (n == ("__debug__" : Str)) = false := by decide) (hcd : (n == ("__classdict__" : Str)) = false := by decide) : PDP X A (.Name n pos) (.list ds) :=
  pdp_of (pe_var hN hv hd hcd) fun σ H Q ⟨W, H0, F, ps, hs, q⟩ => by
    obtain ⟨p, e1, e2, e3⟩ := hs.obj hi hj
    obtain ⟨xs, hp, rx⟩ := mok_lst e3
    exact ⟨.ref p, e1, q _ H (ex_refl H) (.lst (.inl ⟨.inl hp, fun z => nomatch z⟩) (RepA.go (Go.sub fun a m => absurd m List.not_mem_nil) rx))⟩
theorem pdp_dct (i j : Nat) (hi : A.ρ[i]? = some (.obj j) := by rfl) (hj : A.μ[j]? = some (.dK kvs) := by rfl) (hN : X.N[i]? = some n := by rfl) (hv : Vis X.env.scope n := by first | exact Or.inl rfl | exact Or.inr (Or.inl rfl) | exact Or.inr (Or.inr rfl))
    (hd : (n == ("__debug__" : Str)) = false := by decide) (hcd : (n == ("__classdict__" : Str)) = false := by decide) : PDP X A (.Name n pos) (dictD kvs) :=
  pdp_of (pe_var hN hv hd hcd) fun σ H Q ⟨W, H0, F, ps, hs, q⟩ => by
    obtain ⟨p, e1, e2, e3⟩ := hs.obj hi hj
    obtain ⟨xs, hp, rx⟩ := mok_dK e3
    exact ⟨.ref p, e1, q _ H (ex_refl H) (.dct (.inl hp) (fun z => nomatch z) (RepK.go (Go.sub fun a m => absurd m List.not_mem_nil) rx) rfl)⟩
theorem pdps_nil : PDPs X A [] [] := pdps_of pa_nil fun σ H Q ⟨W, H0, F, ps, hs, q⟩ => q [] H (ex_refl H) .nil
theorem pdps_cons (ha : PDP X A e d) (hr : PDPs X A es ds) (hs : starEach (e :: es) X.env = (false, eval e X.env) :: starEach es X.env := by rfl) : PDPs X A (e :: es) (d :: ds) :=
  pdps_of (pa_cons ha hr hs) fun σ H Q ⟨W, H0, F, ps, hs, q⟩ => ⟨W, H0, F, ps, hs, fun v H1 e1 r1 => ⟨W, H0, F, ps, hs.ext e1, fun vs H2 e2 r2 => q (v :: vs) H2 (ex_trans e1 e2) (.cons (r1.ex e2) r2)⟩⟩
theorem pdp_a1 (h : PDP X A a x) (hs : starEach (a :: []) X.env = (false, eval a X.env) :: starEach [] X.env := by rfl) : PDPs X A [a] [x] := pdps_cons h pdps_nil hs
theorem pd_bP {i : String} (hc : CallD X (.builtin i) (x :: ds) d) (hm : X.mg n = none) (hv : bootBuiltins n = some (.builtin i)) (ha : PDPs X A (e :: es) (x :: ds)) (hf : noL d = true) (hg : Gl X n := by rfl) (hn : n ≠ "__name__" := by decide) (hdb : (n == ("__debug__" : Str)) = false := by decide)
    (he : starEach (e :: es) X.env = (false, eval e X.env) :: starEach es X.env := by rfl) (hpl : (backTo pos (starEach es X.env)).any (·.1) = false := by rfl) : PD X A (.Call (.Name n p) (e :: es) [] pos) d :=
  let ⟨_, h1, h2⟩ := hc
  pd_of (pe_callB h1 hg hm hv ha hn hdb he hpl) fun σ H Q ⟨W, H0, F, ps, hs, q⟩ => ⟨W, H0, F, ps, hs, fun vs H1 e1 r1 => h2 [] H1 vs Q (fun a m => nomatch m) r1 fun v H2 e2 r2 => q v H2 (ex_trans e1 e2) (r2.lift hf)⟩
theorem pd_tyP {T : String} (hc : CallD X (.type T) (x :: ds) d) (hm : X.mg n = none) (hv : bootBuiltins n = some (.type T)) (ha : PDPs X A (e :: es) (x :: ds)) (hf : noL d = true) (hg : Gl X n := by rfl) (hn : n ≠ "__name__" := by decide) (hdb : (n == ("__debug__" : Str)) = false := by decide)
    (he : starEach (e :: es) X.env = (false, eval e X.env) :: starEach es X.env := by rfl) (hpl : (backTo pos (starEach es X.env)).any (·.1) = false := by rfl) : PD X A (.Call (.Name n p) (e :: es) [] pos) d :=
  let ⟨_, h1, h2⟩ := hc
  pd_of (pe_callTy h1 hg hm hv ha hn hdb he hpl) fun σ H Q ⟨W, H0, F, ps, hs, q⟩ => ⟨W, H0, F, ps, hs, fun vs H1 e1 r1 => h2 [] H1 vs Q (fun a m => nomatch m) r1 fun v H2 e2 r2 => q v H2 (ex_trans e1 e2) (r2.lift hf)⟩
theorem pd_callP {k : Nat} {φ : List D → D → Prop} (G : DFn X.prog X.w X.K X.mg X.base k n φ) (hr : Room k X.A) (ha : PDPs X A (e :: es) ds) (h : φ ds d) (hf : noL d = true) (hg : Gl X n := by rfl) (hdb : (n == ("__debug__" : Str)) = false := by decide)
    (he : starEach (e :: es) X.env = (false, eval e X.env) :: starEach es X.env := by rfl) (hpl : (backTo pos (starEach es X.env)).any (·.1) = false := by rfl) : PD X A (.Call (.Name n p) (e :: es) [] pos) d := by
  obtain ⟨f, fd, ps, G1, G2, G3, G4⟩ := G.ok
  refine pd_of (pe_call G1 hr hg G2 G3 G4 .nil (E := E0) pass0 ha hdb he hpl) fun σ H Q ⟨W, H0, F, ps, hs, q⟩ => ⟨W, H0, F, ps, hs, fun vs H1 e1 r1 => ?_⟩
  exact ⟨[], ds, d, h, fun a m => (nomatch m), by rw [List.append_nil]; exact r1, fun v H2 e2 r2 => q v H2 (ex_trans e1 e2) (r2.lift hf)⟩
theorem tP_bin {ta tb : TE} (ha : ∀ σ H Q, tP X.K A x σ H Q → ta σ H Q) (hb : ∀ σ H Q, tP X.K A y σ H Q → tb σ H Q) {r : R2} (hr : RD2 X.K r x y d) (hf : noL d = true) {σ : L2.St} {H : Hp} {Q : VK} (h : tD X.K A d σ H Q) : tOp r ta tb σ H Q := by
  obtain ⟨W, H0, F, ps, hs, q⟩ := h
  refine ha _ _ _ ⟨W, H0, F, ps, hs, fun vx H1 e1 r1 => hb _ _ _ ⟨W, H0, F, ps, hs.ext e1, fun vy H2 e2 r2 => ?_⟩⟩
  exact hr [] H2 vx vy Q (fun a m => nomatch m) (r1.ex e2) r2 fun v H3 e3 r3 => q v H3 (ex_trans e1 (ex_trans e2 e3)) (r3.lift hf)
theorem pd_cmpP {op : CmpOp} {r : R2} (ho : OpR X (compareOp op) r) (hr : RD2 X.K r x y d) (ha : PDP X A a x) (hb : PDP X A b y) (hf : noL d = true) (hm : behindInMarks op b = false) : PD X A (.Compare a [op] [b] pos) d :=
  pd_of (pe_cmpR ho ha hb hm) fun σ H Q h => tP_bin (fun _ _ _ h => h) (fun _ _ _ h => h) hr hf h
theorem ptd_cmpP {op : CmpOp} {r : R2} {k : Bool} (ho : OpR X (compareOp op) r) (hr : RD2 X.K r x y (.bool k)) (ha : PDP X A a x) (hb : PDP X A b y) (hm : behindInMarks op b = false) : PTD X A (.Compare a [op] [b] pos) k :=
  ptd_of (pt_cmpR ho ha hb hm) fun σ H Q ⟨W, H0, F, ps, hs, q⟩ => tP_bin (d := .bool k) (fun _ _ _ h => h) (fun _ _ _ h => h) hr (by simp [noL]) ⟨W, H0, F, ps, hs, fun v H' e r => by
    cases r
    exact ⟨k, rfl, q H' e⟩⟩
theorem pd_ixP {r : R2} (hi : IxR X r) (hr : RD2 X.K r x y d) (ha : PDP X A a x) (hb : PDP X A b y) (hf : noL d = true) (hs : PlainIx b := by intro _ _; rfl) : PD X A (.Subscript a b pos) d :=
  pd_of (pe_ix hi ha hb hs) fun σ H Q h => tP_bin (fun _ _ _ h => h) (fun _ _ _ h => h) hr hf h
variable {Φ : AE}
/-- a statement, then the rest from a state that is told -/
theorem sds_to {st : Stmt} {rest : List Stmt} (B : AS) (h : SD X A st { Φ with nx := fun C => C = B }) (h2 : SDs X B rest Φ) : SDs X A (st :: rest) Φ := by
  refine sds_cons (sd_of h fun Dn σ H ⟨W, H0, F, ps, hs, rz⟩ => ⟨W, H0, F, ps, hs, { nx := fun ps' A' σ' H' h' q => ?_, bk := rz.bk, ct := rz.ct, rt := rz.rt, rtF := rz.rtF }⟩)
  have q' : A' = B := q
  exact rz.nx ps' A' σ' H' h' (q' ▸ h2)
theorem shs_nil {n : Nat} : ∀ d ∈ ([] : List D), Sh n d := fun d h => absurd h List.not_mem_nil
theorem shs_cons {n : Nat} (h : Sh n d) (t : ∀ d ∈ ds, Sh n d) : ∀ x ∈ d :: ds, Sh n x := fun x hx => by
  rcases List.mem_cons.mp hx with rfl | hx
  · exact h
  · exact t x hx
end
end Z

namespace Z
open PySem PySem.Spec PyProof.Rows L2
/-! ### set(a list of ints) -/
/-- a set just made -/
def bareSet (w : World) : Obj := { cls := .type "set", dict := none, data := .set #[] 0 (.fresh 0 0 (!w.params.followText "set-order")) }
section
variable {P : Program} {w : World} {A : Around} {E : Value → Shared → Prop} {s : Shared}
theorem new_setL (x : Value) {R : Value → Shared → Prop} (done : R (.ref s.heap.objs.size) { s with heap := s.heap.push (bareSet w) }) :
    codeAny (model P w) A (.call (.builtin "set.__new__") ⟨[.type "set", x], []⟩) (wants R E) s := code_set_led1 x done
set_option maxHeartbeats 3200000 in
theorem call_setL {q : Addr} {us : Array Value} (ks : List Int) {R : Value → Shared → Prop} (ah : A.handled = none) (il : s.heap.IsList q us) (are : IntsAre us.toList ks) (few : ks.length + 1 < scanBound)
    (done : ∀ (g : Heap) (tk c : Nat), SetR w g s.heap.objs.size (fun j => decide (j ∈ ks)) c → c ≤ ks.length → (∀ a o, s.heap.get? a = some o → g.get? a = some o) → R (.ref s.heap.objs.size) { s with heap := g, toks := tk }) :
    wpAny (model P w) A (call (.type "set") [.ref q]) R E s := by
  have size : us.size = ks.length := by
    rw [← Array.length_toList]
    exact IntsAre.length are
  obtain ⟨k0, k1, cmro⟩ := F.called_set.mro
  have cmade := F.called_set.made
  have csub := F.called_set.sub
  refine wpAny_call (codeAny_of_tree ?_)
  show wpAny _ _ (callAny (Value.type "set") _) _ _ _
  refine wpAny_pure ⟨Code.quiet_builtin _ (by decide +kernel), ?_⟩
  refine codeAny_builtin F.entry_type_call ?_
  rw [Around.under_plain (weight_type_call_type "set" [Value.ref q] []) rfl]
  have c1 := F.called_set.notType
  have c2 := F.called_set.canCreate
  have c3 := F.typeCall_set_1 (Value.ref q)
  repeat (any_goals (first | assumption | wp_step))
  refine codeAny_mono (new_setL (Value.ref q) (E := E) (R := fun y s1 => y = Value.ref s.heap.objs.size ∧ s1 = { s with heap := s.heap.push (bareSet w) }) ⟨rfl, rfl⟩) fun r s1 ends => ?_
  cases r with
  | error e => exact ends
  | ok fl =>
    cases fl with
    | ret y =>
      obtain ⟨rfl, rfl⟩ := ends
      have at1 : (s.heap.push (bareSet w)).get? s.heap.objs.size = some (bareSet w) := Heap.get?_push_size _ rfl
      have ty1 : Shared.TypeIs { s with heap := s.heap.push (bareSet w) } (.ref s.heap.objs.size) "set" := ⟨_, at1, rfl⟩
      have i1 := F.called_set.init.lookup
      have i2 := F.called_set.init.bind (Value.ref s.heap.objs.size)
      repeat (any_goals (first | assumption | wp_step))
      refine codeAny_mono (codeAny_call_builtin (R := wants (fun r s2 => r = .none ∧ ∃ g tk c, s2 = { s with heap := g, toks := tk } ∧ SetR w g s.heap.objs.size (fun j => decide (j ∈ ks)) c ∧ c ≤ ks.length ∧
          (∀ a o, s.heap.get? a = some o → g.get? a = some o)) E) F.called_set.init.plain F.entry_set_init (check_set_init_1 ty1 ?_)) fun r2 s2 ends2 => ?_
      · obtain ⟨⟨cls, dct, dat, slt⟩, hol, hcl, n0, hdl⟩ := il
        simp only at hcl hdl
        subst hcl; subst hdl
        have at2 : (s.heap.push (bareSet w)).get? q = some { cls := .type "list", dict := dct, data := .seq us n0, slots := slt } := Heap.get?_push_of_some _ hol
        have s1 := F.sub_list_set
        have s2 := F.sub_list_frozenset
        have nd : (Value.type "list" == Value.type "dict") = false := by decide
        have il1 : (s.heap.push (bareSet w)).IsList q us := ⟨_, at2, rfl, n0, rfl⟩
        unfold Builtin.«set.__init__» noKeywords Builtin.Frozenset.updateFrom
        generalize hit : pyIter = it
        wp_walk
        subst hit
        refine wpAny_pyIter_list il1 ?_
        refine wpAny_bind (wpAny_runValue ?_)
        have lq : q < s.heap.objs.size := Heap.lt_size hol
        have ah3 : A.in1.in1.in1.handled = none := by simp [ah]
        have sz1 : (s.heap.push (bareSet w)).objs.size = s.heap.objs.size + 1 := Heap.size_push ..
        refine set_update_ints (I := (s.heap.push (bareSet w)).objs.size) ((Walks.list ah3 _ q (fun z => Nat.ne_of_lt (Nat.lt_succ_of_lt lq) (z.trans sz1)) us).toS) s.heap.objs.size ?far ks size few ?are (us.size - 0) 0 _ (Nat.sub_zero _ ▸ rfl) (Nat.zero_le _)
          ⟨⟨_, Heap.get?_push_size _ rfl, rfl, rfl⟩, il1.push _⟩ ?none ?all
        case far =>
          intro m
          rcases List.mem_cons.mp m with e | m
          · exact Nat.ne_of_lt (Nat.lt_succ_self _) (e.trans sz1)
          · exact Nat.ne_of_gt lq (List.mem_singleton.mp m)
        case are =>
          intro i v hv
          have hi : i < ks.length := by
            rw [← size]
            exact (Array.getElem?_eq_some_iff.mp hv).1
          obtain ⟨t, e⟩ := PyProof.Rows.IntsAre.int_at are i v (by rw [Array.getElem?_toList]; exact hv)
          refine ⟨ks[i], t, List.getElem?_eq_getElem hi, ?_⟩
          rw [e]
          simp [List.getD_eq_getElem?_getD, List.getElem?_eq_getElem hi]
        case none => exact ⟨0, Nat.le_refl 0, setR_new_at (Heap.get?_push_of_some _ at1)⟩
        case all =>
          rintro ⟨g, g2, dr, tk, os⟩ c m hc R1
          have e1 : g2 = s.gens := m.gens
          have e2 : dr = s.drawn := m.drawn
          have e3 : os = s.os := m.os
          subst e1; subst e2; subst e3
          show wpAny _ _ _ _ _ _
          refine wpAny_pure ?_
          show wpAny _ _ (ret Value.none) _ _ _
          refine wpAny_pure ⟨rfl, g, tk, c, rfl, R1, by omega, fun a o e => ?_⟩
          have la := Heap.lt_size e
          refine m.heap a o (fun z => ?_) (Heap.get?_push_of_some _ (Heap.get?_push_of_some _ e))
          rcases List.mem_cons.mp z with z | z
          · exact Nat.ne_of_lt la z
          · exact Nat.ne_of_lt (Nat.lt_succ_of_lt la) ((List.mem_singleton.mp z).trans sz1)
      · cases r2 with
        | error e => exact ends2
        | ok fl2 =>
          cases fl2 with
          | ret r =>
            obtain ⟨rfl, g, tk, c, rfl, R1, hc, kp⟩ := ends2
            repeat (any_goals (first | assumption | wp_step))
            exact done _ _ _ R1 hc kp
          | _ => exact ends2.elim
    | _ => exact ends.elim
end
end Z

namespace Z
open PySem PySem.Spec PyProof.Rows L2
section
variable {X : Cx} {A : AS} {a b c e : Expr} {es : List Expr} {x y z d : D} {ds ds' : List D} {ns ms : List Int} {pos p p2 : Pos}
/-! ### set(a list), len and sorted of it -/
theorem cr_setL (hc : X.calm = true) : CallR X (.type "set") (fun vs H Q => ∃ (a : Addr) (ns : List Int), vs = [.ref a] ∧ SqL X.K H a (ns.map V.int) ∧ ns.length ≤ 4000 ∧
    ∀ p c, H p = none → (∀ ms : List Int, ms.Nodup → (∀ k, k ∈ ms ↔ k ∈ ns) → c = ms.length) → Q (.ref p) (upd H p (SetO X.w p (fun j => decide (j ∈ ns)) c))) := fun pins s σ H vs us Q I r ⟨a, ns, ev, hq, hl, q⟩ => by
  subst ev
  cases r with
  | cons ra rn =>
    cases rn
    obtain rfl := ra
    obtain ⟨its, rv, pl, hz⟩ := I.list hq
    refine call_setL (us := its.toArray) ns (I.ok.hd hc) pl.isList (by simpa using ints_of_vals rv) (by unfold scanBound; omega) fun g tk c R hcl kp => ?_
    exact ⟨.ref s.heap.objs.size, _, I.laid (a := s.heap.objs.size) (o := SetO X.w s.heap.objs.size (fun j => decide (j ∈ ns)) c) (t' := tk) kp (Nat.le_refl _) (setO_new R), rfl, q _ c (I.hok.fresh (Nat.le_refl _)) fun ms h1 h2 => setR_len R h1 fun k => by rw [decide_eq_true_eq]; exact h2 k⟩
theorem pd_sortedSetL {p1 p2 pos2 : Pos} (hc : X.calm = true) (hms : ms.Pairwise (· < ·)) (hmem : ∀ k, k ∈ ms ↔ k ∈ ns) (hl : ns.length ≤ 4000) (h64 : ms.length < 64) (m1 : X.mg "sorted" = none) (m2 : X.mg "set" = none) (ha : PDP X A a (.list (ns.map .int))) (hg : Gl X "sorted" := by rfl) (hg2 : Gl X "set" := by rfl)
    (he : starEach (a :: []) X.env = (false, eval a X.env) :: starEach [] X.env := by rfl) (hpl : (backTo pos2 (starEach [] X.env)).any (·.1) = false := by rfl)
    (he2 : starEach (Expr.Call (.Name "set" p2) [a] [] pos2 :: []) X.env = (false, eval (Expr.Call (.Name "set" p2) [a] [] pos2) X.env) :: starEach [] X.env := by rfl) (hpl2 : (backTo pos (starEach [] X.env)).any (·.1) = false := by rfl) :
    PD X A (.Call (.Name "sorted" p1) [.Call (.Name "set" p2) [a] [] pos2] [] pos) (.list (ms.map .int)) := by
  refine pd_of (pe_callB (id := "sorted") (cr_sortedSet hc) hg m1 bb_sorted (pa_cons (pe_callTy (cr_setL hc) hg2 m2 bb_set (pdp_a1 ha he) (by decide) (by decide) he hpl) pa_nil he2) (by decide) (by decide) he2 hpl2) fun σ H Q ⟨W, H0, F, ps, hs, q⟩ => ⟨W, H0, F, ps, hs, fun vs H1 e1 r1 => ?_⟩
  obtain ⟨v, rfl, rv⟩ := repA1 r1
  cases rv with
  | lst h1 r2 =>
    rw [r2.ints] at h1
    refine ⟨_, ns, rfl, h1.sq, hl, fun p c hp hcl => ?_⟩
    have ec := hcl ms (hms.imp fun {a b} h e => by omega) hmem
    refine ⟨p, _, c, rfl, upd_same, by omega, fun ks p' hks hkm hkl hp' => ?_⟩
    have e : ks = ms := lt_eq hks hms fun k => by rw [hkm, decide_eq_true_eq, hmem]
    subst e
    exact q _ _ (ex_trans e1 (ex_trans (ex_new hp) (ex_new hp'))) (.lst (.inl ⟨.inl upd_same, fun z => (hs.ext (ex_trans e1 (ex_new hp))).avoid z hp'⟩) (RepA.of_ints _))
theorem pd_lenSetL {p1 p2 pos2 : Pos} (hc : X.calm = true) (hms : ms.Nodup) (hmem : ∀ k, k ∈ ms ↔ k ∈ ns) (hl : ns.length ≤ 4000) (hl2 : ms.length ≤ 4000) (m1 : X.mg "len" = none) (m2 : X.mg "set" = none) (ha : PDP X A a (.list (ns.map .int))) (hg : Gl X "len" := by rfl) (hg2 : Gl X "set" := by rfl)
    (he : starEach (a :: []) X.env = (false, eval a X.env) :: starEach [] X.env := by rfl) (hpl : (backTo pos2 (starEach [] X.env)).any (·.1) = false := by rfl)
    (he2 : starEach (Expr.Call (.Name "set" p2) [a] [] pos2 :: []) X.env = (false, eval (Expr.Call (.Name "set" p2) [a] [] pos2) X.env) :: starEach [] X.env := by rfl) (hpl2 : (backTo pos (starEach [] X.env)).any (·.1) = false := by rfl) :
    PD X A (.Call (.Name "len" p1) [.Call (.Name "set" p2) [a] [] pos2] [] pos) (.int (ms.length : Nat)) := by
  refine pd_of (pe_callB (id := "len") cr_lenSet hg m1 bb_len (pa_cons (pe_callTy (cr_setL hc) hg2 m2 bb_set (pdp_a1 ha he) (by decide) (by decide) he hpl) pa_nil he2) (by decide) (by decide) he2 hpl2) fun σ H Q ⟨W, H0, F, ps, hs, q⟩ => ⟨W, H0, F, ps, hs, fun vs H1 e1 r1 => ?_⟩
  obtain ⟨v, rfl, rv⟩ := repA1 r1
  cases rv with
  | lst h1 r2 =>
    rw [r2.ints] at h1
    refine ⟨_, ns, rfl, h1.sq, hl, fun p c hp hcl => ?_⟩
    have ec := hcl ms hms hmem
    refine ⟨p, _, c, rfl, upd_same, by omega, ?_⟩
    rw [ec]
    exact q _ _ (ex_trans e1 (ex_new hp)) (.int _)
/-! ### slices -/
def cutI (xs : List D) (lo hi : Option Int) : List D := (xs.drop (HT.sIx xs.length 0 lo)).take (HT.sIx xs.length xs.length hi - HT.sIx xs.length 0 lo)
theorem repA_drop {K : PySem.W.Frag} {M : List Addr} {H : Hp} : ∀ (n : Nat) {vs : List V} {ds : List D}, RepA K M H vs ds → RepA K M H (vs.drop n) (ds.drop n)
  | 0, _, _, r => r
  | n + 1, _, _, .nil => .nil
  | n + 1, _, _, .cons _ t => repA_drop n t
theorem repA_take {K : PySem.W.Frag} {M : List Addr} {H : Hp} : ∀ (n : Nat) {vs : List V} {ds : List D}, RepA K M H vs ds → RepA K M H (vs.take n) (ds.take n)
  | 0, _, _, _ => .nil
  | n + 1, _, _, .nil => .nil
  | n + 1, _, _, .cons r t => .cons r (repA_take n t)
theorem repA_cut {K : PySem.W.Frag} {M : List Addr} {H : Hp} {vs : List V} {ds : List D} (lo hi : Option Int) (r : RepA K M H vs ds) : RepA K M H (cutV vs lo hi) (cutI ds lo hi) := by
  unfold cutV cutI
  rw [r.length]
  exact repA_take _ (repA_drop _ r)
theorem noLs_drop : ∀ (n : Nat) (l : List D), noLs l = true → noLs (l.drop n) = true
  | 0, _, h => h
  | n + 1, [], h => h
  | n + 1, x :: l, h => noLs_drop n l (by unfold noLs at h; exact (Bool.and_eq_true_iff.mp h).2)
theorem noLs_take : ∀ (n : Nat) (l : List D), noLs l = true → noLs (l.take n) = true
  | 0, _, h => by simp [noLs]
  | n + 1, [], h => h
  | n + 1, x :: l, h => by
    unfold noLs at h
    have h' := Bool.and_eq_true_iff.mp h
    rw [List.take_succ_cons]
    unfold noLs
    rw [h'.1, noLs_take n l h'.2]
    rfl
def tO (K : PySem.W.Frag) (A : AS) (o : Option Int) : TO := fun σ H Q => ∃ W H0 F ps, Has K W H0 F ps A σ H ∧ ∀ H', Ex H H' → Q o H'
def POD (X : Cx) (A : AS) (e : Option Expr) (o : Option Int) : Prop := PO X e (tO X.K A o)
theorem pod_none : POD X A none none := ⟨fun pins s σ H Q I ⟨W, H0, F, ps, hs, q⟩ => po_none.run pins s σ H Q I (q H (ex_refl H))⟩
theorem pod_some {i : Int} (h : PD X A e (.int i)) : POD X A (some e) (some i) := ⟨fun pins s σ H Q I ⟨W, H0, F, ps, hs, q⟩ => (po_some h).run pins s σ H Q I ⟨W, H0, F, ps, hs, fun v H' x r => by
  cases r
  exact ⟨i, rfl, q H' x⟩⟩⟩
variable {lo hi : Option Expr} {l u : Option Int}
theorem pdl_slice (ha : PDP X A a (.list ds)) (hl : POD X A lo l) (hu : POD X A hi u) (hf : noLs ds = true) : PDL X A (.Subscript a (.Slice lo hi none p2) pos) (cutI ds l u) :=
  pdl_of (pe_slice sl_list ha hl hu) fun σ H Q ⟨W, H0, F, ps, hs, q⟩ => ⟨W, H0, F, ps, hs, fun v H1 e1 r1 => ⟨W, H0, F, ps, hs.ext e1, fun H2 e2 => ⟨W, H0, F, ps, (hs.ext e1).ext e2, fun H3 e3 => by
    cases r1 with
    | lst h1 r2 =>
      have h3 := (Go.ex (M := []) (ex_trans e2 e3)).sqm h1
      refine ⟨_, _, rfl, h3.sq, fun p hp => ?_⟩
      have x3 := ex_trans e1 (ex_trans e2 e3)
      exact q p _ _ (ex_trans x3 (ex_new hp)) (none_of x3 hp) upd_same (RepA.lift (repA_cut _ _ (r2.ex (ex_trans e2 (ex_trans e3 (ex_new hp))))) (noLs_take _ _ (noLs_drop _ _ hf)))⟩⟩⟩
theorem pd_sliceL (ha : PDP X A a (.list ds)) (hl : POD X A lo l) (hu : POD X A hi u) (hf : noLs ds = true) : PD X A (.Subscript a (.Slice lo hi none p2) pos) (.list (cutI ds l u)) := (pdl_slice ha hl hu hf).pd
theorem cutV_whole {xs : List V} {lo hi : Option Int} (h : HT.sIx xs.length 0 lo = 0 ∧ HT.sIx xs.length xs.length hi = xs.length) : cutV xs lo hi = xs := by
  unfold cutV
  rw [h.1, h.2]
  simp
theorem pd_sliceT (ha : PD X A a (.tuple ds)) (hl : POD X A lo l) (hu : POD X A hi u) : PD X A (.Subscript a (.Slice lo hi none p2) pos) (.tuple (cutI ds l u)) :=
  pd_of (pe_slice sl_tupA ha hl hu) fun σ H Q ⟨W, H0, F, ps, hs, q⟩ => ⟨W, H0, F, ps, hs, fun v H1 e1 r1 => ⟨W, H0, F, ps, hs.ext e1, fun H2 e2 => ⟨W, H0, F, ps, (hs.ext e1).ext e2, fun H3 e3 => by
    cases r1 with
    | tup h1 r2 =>
      have e23 := ex_trans e2 e3
      have h3 := (Go.ex (M := Mx ps ++ F) e23).tup h1
      refine ⟨_, _, rfl, h3.sq, fun hw => ?_, fun _ p hp => ?_⟩
      · have rc := repA_cut l u (r2.ex e23)
        rw [cutV_whole hw] at rc
        exact q _ H3 (ex_trans e1 e23) (.tup h3 rc)
      · exact q _ _ (ex_trans e1 (ex_trans e23 (ex_new hp))) (.tup (.inl upd_same) (repA_cut _ _ (r2.ex (ex_trans e23 (ex_new hp)))))⟩⟩⟩
theorem cutI_init {xs : List D} : cutI xs none (some (-1)) = xs.dropLast := by
  unfold cutI
  rw [List.dropLast_eq_take]
  show (xs.drop 0).take ((if (-1 : Int) < 0 then ((-1 : Int) + (xs.length : Int)).toNat else min (-1 : Int).toNat xs.length) - 0) = _
  rw [if_pos (by decide), List.drop_zero]
  congr 1
  omega
theorem cutI_take {xs : List D} {k : Nat} (h : k ≤ xs.length) : cutI xs none (some (k : Int)) = xs.take k := by
  unfold cutI
  rw [HT.sIx_nat]
  show (xs.drop 0).take (min k xs.length - 0) = _
  rw [Nat.min_eq_left h]
  rfl
theorem cutI_drop {xs : List D} {k : Nat} (h : k ≤ xs.length) : cutI xs (some (k : Int)) none = xs.drop k := by
  unfold cutI
  rw [HT.sIx_nat, Nat.min_eq_left h]
  show (xs.drop k).take (xs.length - k) = _
  rw [List.take_of_length_le (by rw [List.length_drop]; exact Nat.le_refl _)]
end
end Z

namespace Z
open PySem PySem.Spec PyProof.Rows L2
/-! ### sorted of what is collected to ints -/
section
variable {P : Program} {w : World} {A : Around} {E : Value → Shared → Prop} {s : Shared}
theorem sorted_src {x : Value} {ks : List Int} {R : Value → Shared → Prop} (most : ks.length ≤ sizeLine)
    (src : ∀ R' : List Value → Shared → Prop, (∀ g tk us, IntsAre us ks → (∀ a o, s.heap.get? a = some o → g.get? a = some o) → R' us { s with heap := g, toks := tk }) → wpAny (model P w) A.in1 (collect x) R' E s)
    (done : ∀ (g1 g : Heap) (tk : Nat) (d : Addr) (out : List Value) (ms : List Int) (n : Nat), (∀ a o, s.heap.get? a = some o → g1.get? a = some o) → (∀ a o, g1.get? a = some o → g.get? a = some o) → g1.objs.size ≤ d → g.get? d = some (seqObj "list" out.toArray n) → IntsAre out ms → ms.Perm ks → ms.Pairwise (· ≤ ·) → R (.ref d) { s with heap := g, toks := tk }) :
    wpAny (model P w) A (call (.builtin "sorted") [x]) R E s := by
  refine Calls.call_function_entry kind_sorted plain_sorted entry_sorted (args_sorted1 x) ?_
  unfold Builtin.«sorted»
  refine wpAny_bind (m := checkCount "sorted" 1 1 _) (wpAny_pure ?_)
  refine wpAny_bind (src _ fun g tk us are kp => ?_)
  have few : us.length ≤ sizeLine := by rw [are.length]; exact most
  refine wpAny_bind (wpAny_newList ?_ few)
  have at1 : (g.push (seqObj "list" us.toArray 0)).get? g.objs.size = some (seqObj "list" us.toArray 0) := Heap.get?_push_size _ rfl
  show wpAny _ _ _ _ _ { s with heap := g.push (seqObj "list" us.toArray 0), toks := tk }
  refine wpAny_bind (wpAny_holding (wpAny_call_entry slot_list_sort ⟨_, at1, rfl⟩ entry_list_sort (SrtO.list_sort_ord SrtO.swo_int at1 few (fun h2 => SrtO.ints_sortable are h2) fun out h1 h2 => ⟨_, rfl, ?_⟩) (args_list_sort _)))
  obtain ⟨k1, k2, k3⟩ := SrtO.ints_out are h1 h2
  refine wpAny_pure ⟨_, rfl, ?_⟩
  obtain ⟨n, fin⟩ := sortedHeap_at (out := out.toArray) at1
  refine done g _ tk g.objs.size out (out.map SrtO.iv) n kp (fun a o e => ?_) (Nat.le_refl _) fin k1 k2 k3
  have la := Heap.lt_size e
  rw [sortedHeap_old (Nat.ne_of_lt la) (Nat.lt_of_lt_of_le la (by rw [Heap.size_push]; exact Nat.le_succ _))]
  exact Heap.get?_push_of_some _ e
end
section
variable {X : Cx} {A : AS} {a b c e : Expr} {es : List Expr} {x y z d : D} {ds ds' : List D} {ns ms : List Int} {pos p p2 : Pos}
/-- sorted(a tuple of ints) -/
theorem cr_sortedT : CallR X (.builtin "sorted") (fun vs H Q => ∃ (a : Addr) (ns : List Int), vs = [V.ref a] ∧ SqT X.K H a (ns.map V.int) ∧
    ∀ (ms : List Int) (p : Addr), ms.Perm ns → ms.Pairwise (· ≤ ·) → H p = none → Q (.ref p) (upd H p (.lst (ms.map V.int)))) := fun pins s σ H vs us Q I r ⟨a, ns, ev, hq, q⟩ => by
  subst ev
  cases r with
  | cons ra rn =>
    cases rn
    obtain rfl := ra
    obtain ⟨its, rv, ⟨o, ho, hc, n0, hd⟩, hz⟩ := I.tuple hq
    have hi := ints_of_vals rv
    have hl : its.length ≤ sizeLine := by rw [← rv.length]; exact hz
    refine sorted_src (ks := ns) (by rw [← hi.length]; exact hl) (fun R' h => ?_) fun g1 g tk d out ms n kp kp2 hd hat h1 h2 h3 => ?_
    · refine wpAny_collect_seq a (items := its.toArray) (.inr rfl) ho hc hd (fun g kp => ?_) (by rw [List.size_toArray]; exact hl)
      exact h g s.toks its hi kp
    · have hlen : (ms.map V.int).length ≤ sizeLine := by
        rw [List.length_map, h2.length_eq, ← hi.length]
        exact hl
      have I1 : Inv X pins σ H { s with heap := g1 } := I.kept (t' := s.toks) kp
      exact ⟨.ref d, _, I1.laid (a := d) (o := .lst (ms.map V.int)) (t' := tk) kp2 hd ⟨hlen, out, n, vals_of_ints h1, hat⟩, rfl, q ms d h2 h3 (I1.hok.fresh hd)⟩
theorem pdl_sortedT (hp : ms.Perm ns) (hs : ms.Pairwise (· ≤ ·)) (m1 : X.mg "sorted" = none) (ha : PD X A a (.tuple (ns.map .int))) (hg : Gl X "sorted" := by rfl)
    (he : starEach (a :: []) X.env = (false, eval a X.env) :: starEach [] X.env := by rfl) (hpl : (backTo pos (starEach [] X.env)).any (·.1) = false := by rfl) : PDL X A (.Call (.Name "sorted" p) [a] [] pos) (ms.map .int) :=
  pdl_of (pe_callB (id := "sorted") cr_sortedT hg m1 bb_sorted (pd_a1 ha he) (by decide) (by decide) he hpl) fun σ H Q ⟨W, H0, F, ps, hs', q⟩ => ⟨W, H0, F, ps, hs', fun vs H1 e1 r1 => by
    obtain ⟨v, rfl, rv⟩ := repA1 r1
    cases rv with
    | tup h1 r2 =>
      rw [r2.ints] at h1
      refine ⟨_, ns, rfl, h1.sq, fun ks p h2 h3 hp' => ?_⟩
      have e : ks = ms := pairwise_le_eq (h2.trans hp.symm) h3 hs
      subst e
      exact q p _ _ (ex_trans e1 (ex_new hp')) (none_of e1 hp') upd_same (RepA.of_ints _)⟩
theorem pdl_sortedL (hp : ms.Perm ns) (hs : ms.Pairwise (· ≤ ·)) (m1 : X.mg "sorted" = none) (ha : PDP X A a (.list (ns.map .int))) (hg : Gl X "sorted" := by rfl)
    (he : starEach (a :: []) X.env = (false, eval a X.env) :: starEach [] X.env := by rfl) (hpl : (backTo pos (starEach [] X.env)).any (·.1) = false := by rfl) : PDL X A (.Call (.Name "sorted" p) [a] [] pos) (ms.map .int) :=
  pdl_of (pe_callB (id := "sorted") cr_sortedI hg m1 bb_sorted (pdp_a1 ha he) (by decide) (by decide) he hpl) fun σ H Q ⟨W, H0, F, ps, hs', q⟩ => ⟨W, H0, F, ps, hs', fun vs H1 e1 r1 => by
    obtain ⟨v, rfl, rv⟩ := repA1 r1
    cases rv with
    | lst h1 r2 =>
      rw [r2.ints] at h1
      refine ⟨_, ns, rfl, h1.sq, fun ks p h2 h3 hp' => ?_⟩
      have e : ks = ms := pairwise_le_eq (h2.trans hp.symm) h3 hs
      subst e
      exact q p _ _ (ex_trans e1 (ex_new hp')) (none_of e1 hp') upd_same (RepA.of_ints _)⟩
variable {Φ : AE}
theorem erase_at {k : Int} : ∀ {l : List Int}, k ∈ l → ∃ j : Nat, l[j]? = some k ∧ (∀ i : Nat, i < j → l[i]? ≠ some k) ∧ l.eraseIdx j = l.erase k
  | x :: l, h => by
    by_cases e : x = k
    · subst e
      exact ⟨0, rfl, fun i hi => absurd hi (Nat.not_lt_zero i), by simp⟩
    · obtain ⟨j, h1, h2, h3⟩ := erase_at (l := l) (k := k) (by
        rcases List.mem_cons.mp h with q | q
        · exact absurd q.symm e
        · exact q)
      refine ⟨j + 1, by simpa using h1, fun i hi => ?_, ?_⟩
      · cases i with
        | zero => simpa using e
        | succ i => simpa using h2 i (by omega)
      · rw [List.eraseIdx_cons_succ, h3, List.erase_cons_tail (by simpa using e)]
theorem sd_remove (i j : Nat) {n : Str} {np apos cpos : Pos} {k : Int} (he : PD X A e (.int k)) (hk : k ∈ ns) (h : Φ.nx ⟨A.ρ, A.μ.set j (.lst ((ns.erase k).map .int))⟩) (hi : A.ρ[i]? = some (.obj j) := by rfl) (hj : A.μ[j]? = some (.lst (ns.map .int)) := by rfl)
    (hN : X.N[i]? = some n := by rfl) (hv : Vis X.env.scope n := by first | exact Or.inl rfl | exact Or.inr (Or.inl rfl) | exact Or.inr (Or.inr rfl)) (hd : (n == ("__debug__" : Str)) = false := by decide) (hcd : (n == ("__classdict__" : Str)) = false := by decide)
    (hbase : attributeBase (.Name n np) "remove" X.env (eval (.Name n np) X.env) = eval (.Name n np) X.env := by rfl)
    (hfew : ((backTo cpos (starEach [e] X.env)).all (fun x => !x.1) && (backToKw cpos (keywordEach [] X.env)).all (fun x => x.1.isSome)
      && decide ([e].length + ([] : List Keyword).length + (if ([] : List Keyword).isEmpty then 0 else 1) < 30)) = true := by rfl)
    (hline : (apos.endLine == cpos.line) = true := by rfl) (hs : starEach (e :: []) X.env = (false, eval e X.env) :: starEach [] X.env := by rfl) (hplain : (backTo cpos (starEach [] X.env)).any (·.1) = false := by rfl)
    (hsw : swapsWith (.Call (.Attribute (.Name n np) "remove" apos) [e] [] cpos) none pos.line X.env = pure false := by rfl) : SD X A (.Expr (.Call (.Attribute (.Name n np) "remove" apos) [e] [] cpos) pos) Φ := by
  refine sd_of (ps_expr (pe_bm PySem.F.plainAttrs_list PySem.F.slot_list_remove PySem.F.type_list_remove mt_remove (pe_var hN hv hd hcd) (pa_cons he pa_nil hs) hbase hfew hline hs hplain) hsw) fun Dn σ H ⟨W, H0, F, ps, hs, rz⟩ => ?_
  obtain ⟨p, e1, e2, e3⟩ := hs.obj hi hj
  obtain ⟨xs, hp, rx⟩ := mok_lst e3
  have ex := rx.ints
  subst ex
  obtain ⟨jj, j1, j2, j3⟩ := erase_at hk
  refine ⟨.ref p, e1, .inl ⟨rfl, _, .of hp⟩, W, H0, F, ps, hs, fun v H1 x1 r1 => ?_⟩
  cases r1
  refine ⟨p, ns, k, jj, rfl, rfl, x1 _ _ hp, j1, j2, ?_⟩
  have hs1 := hs.ext x1
  rw [j3]
  exact rz.nx _ _ _ _ (hs1.mut' (o := .lst ((ns.erase k).map V.int)) (m := .lst ((ns.erase k).map .int)) e2 trivial ⟨p, _, rfl, upd_same, RepA.of_ints _⟩) h
theorem pt_neP {n : Nat} (hu : X.A.units + 64 < cLine) (hs : Sh n d) (ha : PDP X A a d) (hb : PDP X A b d) (hn : n ≤ 64 := by decide) : PTD X A (.Compare a [.NotEq] [b] pos) false :=
  PTD.eq (ptd_cmpP (op_neD hu) (rd_neD (hs.ed hn) (hs.ed hn)) ha hb (nomark _)) (by rw [eqv_same hs]; rfl)
/-- the state, written out -/
theorem sds_at (B : AS) {sts : List Stmt} (h : SDs X B sts Φ) (e : A = B := by rfl) : SDs X A sts Φ := e ▸ h
theorem ptd_or4 {e1 e2 e3 e4 : Expr} (h1 : PTD X A e1 false) (h2 : PTD X A e2 false) (h3 : PTD X A e3 false) (h4 : PTD X A e4 false) : PTD X A (.BoolOp .Or [e1, e2, e3, e4] pos) false := ptd_w (pwd_or h1 fun _ => pwd_or h2 fun _ => pwd_or h3 fun _ => pwd_or1 h4)
end
end Z

namespace Z
open PySem PySem.Spec PyProof.Rows L2
/-! ### sorted of what is collected to pairs of ints -/
section
variable {P : Program} {w : World} {A : Around} {E : Value → Shared → Prop} {s : Shared}
theorem sorted_srcP {x : Value} {us : List Value} {k : Value → Int × Int} {R : Value → Shared → Prop} (are : ∀ v ∈ us, Srt.IsPair s.heap v (k v).1 (k v).2) (few : us.length ≤ sizeLine)
    (src : ∀ R' : List Value → Shared → Prop, (∀ g tk, (∀ a o, s.heap.get? a = some o → g.get? a = some o) → R' us { s with heap := g, toks := tk }) → wpAny (model P w) A.in1 (collect x) R' E s)
    (done : ∀ (g1 g : Heap) (tk : Nat) (d : Addr) (out : List Value) (n : Nat), (∀ a o, s.heap.get? a = some o → g1.get? a = some o) → (∀ a o, g1.get? a = some o → g.get? a = some o) → g1.objs.size ≤ d → g.get? d = some (seqObj "list" out.toArray n) → SrtO.Srtd (fun v u => SrtO.lexB (k v) (k u)) out → out.Perm us → R (.ref d) { s with heap := g, toks := tk }) :
    wpAny (model P w) A (call (.builtin "sorted") [x]) R E s := by
  refine Calls.call_function_entry kind_sorted plain_sorted entry_sorted (args_sorted1 x) ?_
  unfold Builtin.«sorted»
  refine wpAny_bind (m := checkCount "sorted" 1 1 _) (wpAny_pure ?_)
  refine wpAny_bind (src _ fun g tk kp => ?_)
  refine wpAny_bind (wpAny_newList ?_ few)
  have at1 : (g.push (seqObj "list" us.toArray 0)).get? g.objs.size = some (seqObj "list" us.toArray 0) := Heap.get?_push_size _ rfl
  have are1 : ∀ v ∈ us, Srt.IsPair (g.push (seqObj "list" us.toArray 0)) v (k v).1 (k v).2 := fun v hv => (are v hv).keeps fun b o e _ => Heap.get?_push_of_some _ (kp b o e)
  show wpAny _ _ _ _ _ { s with heap := g.push (seqObj "list" us.toArray 0), toks := tk }
  refine wpAny_bind (wpAny_holding (wpAny_call_entry slot_list_sort ⟨_, at1, rfl⟩ entry_list_sort (SrtO.list_sort_ord (SrtO.swo_lex k) at1 few (fun h2 => SrtO.pairs_sortableO (by omega) are1 fun o e z => ?_) fun out h1 h2 => ⟨_, rfl, ?_⟩) (args_list_sort _)))
  · have e' := (Option.some.inj (at1.symm.trans e)).symm
    rw [e'] at z
    exact absurd (show Value.type "list" = Value.type "tuple" from z) (by decide)
  refine wpAny_pure ⟨_, rfl, ?_⟩
  obtain ⟨n, fin⟩ := sortedHeap_at (out := out.toArray) at1
  refine done g _ tk g.objs.size out n kp (fun a o e => ?_) (Nat.le_refl _) fin h1 h2.perm
  have la := Heap.lt_size e
  rw [sortedHeap_old (Nat.ne_of_lt la) (Nat.lt_of_lt_of_le la (by rw [Heap.size_push]; exact Nat.le_succ _))]
  exact Heap.get?_push_of_some _ e
end
section
variable {X : Cx} {A : AS} {a b c e : Expr} {es : List Expr} {x y z d : D} {ds ds' : List D} {ns ms : List Int} {pos p p2 : Pos}
def rSortQT (K : PySem.W.Frag) : List V → Hp → VK → Prop := fun vs H Q => ∃ (a : Addr) (xs : List V), vs = [V.ref a] ∧ SqT K H a xs ∧ (∀ x ∈ xs, ∃ t, x = V.ref t ∧ TupAt H t [.int (keyOf H x).1, .int (keyOf H x).2]) ∧
  ∀ zs p, SrtO.Srtd (ltP (keyOf H)) zs → zs.Perm xs → H p = none → Q (.ref p) (upd H p (.lst zs))
theorem cr_sortQT : CallR X (.builtin "sorted") (rSortQT X.K) := fun pins s σ H vs us Q I r ⟨a, xs, ev, hsq, hx, q⟩ => by
  subst ev
  cases r with
  | cons ra rn =>
    cases rn
    obtain rfl := ra
    obtain ⟨its, rv, ⟨o, ho, hc, n0, hd⟩, hz⟩ := I.tuple hsq
    have hl : its.length ≤ sizeLine := by rw [← rv.length]; exact hz
    have bk := refs_back rv fun x m => (hx x m).imp fun t h => h.1
    refine sorted_srcP (us := its) (k := fun u => keyOf H (backV u)) (fun v hv => ?_) hl (fun R' h => ?_) fun g1 g tk d out n kp kp2 hd2 hat s1 s2 => ?_
    · obtain ⟨t, rfl⟩ := bk.2 v hv
      obtain ⟨t', et, ht⟩ := hx (V.ref t) (by rw [bk.1]; exact List.mem_map.mpr ⟨_, hv, rfl⟩)
      cases et
      obtain ⟨_, ys, ry, ob, go, gc, gn, gd⟩ := ht.rd.ok I.hok
      cases ry with
      | cons r1 r2 =>
        cases r2 with
        | cons r2 r3 =>
          cases r3
          obtain ⟨t1, rfl⟩ := r1
          obtain ⟨t2, rfl⟩ := r2
          exact ⟨t, ob, t1, t2, gn, rfl, go, gc, gd⟩
    · refine wpAny_collect_seq a (items := its.toArray) (.inr rfl) ho hc hd (fun g kp => ?_) (by rw [List.size_toArray]; exact hl)
      exact h g s.toks kp
    · have hb : (out.map backV).Perm xs := by
        rw [bk.1]
        exact s2.map backV
      have vr := vals_back fun u hu => bk.2 u (s2.mem_iff.mp hu)
      have sz : (out.map backV).length ≤ sizeLine := by rw [hb.length_eq]; exact hz
      have I1 : Inv X pins σ H { s with heap := g1 } := I.kept (t' := s.toks) kp
      exact ⟨.ref d, _, I1.laid (a := d) (o := .lst (out.map backV)) (t' := tk) kp2 hd2 ⟨sz, out, n, vr, hat⟩, rfl, q _ d (SrtO.srtd_map s1) hb (I1.hok.fresh hd2)⟩
theorem cd_sortedPT {ps qs : List (Int × Int)} (hp : qs.Perm ps) (hs : qs.Pairwise lexLe) : CallD X (.builtin "sorted") [.tuple (ps.map pairD)] (.list (qs.map pairD)) := ⟨_, cr_sortQT, fun M H vs Q m r q => by
  obtain ⟨v, rfl, rv⟩ := repA1 r
  cases rv with
  | tup h1 r1 =>
    rename_i xs
    refine ⟨_, xs, rfl, h1.sq, fun x hx => rep_pair (repA_mem r1 x hx), fun ys p h2 pm hn => ?_⟩
    have ry : ∀ v ∈ ys, Rep X.K M H v (pairD (keyOf H v)) := fun v hv => repA_mem r1 v (pm.mem_iff.mp hv)
    have e : ys.map (keyOf H) = qs := by
      have p2 : (ys.map (keyOf H)).Perm qs := ((pm.map (keyOf H)).trans (by rw [repA_keys r1])).trans hp.symm
      refine p2.eq_of_pairwise (le := lexLe) (fun _ _ _ _ h1 h2 => lexLe_antisymm h1 h2) ?_ hs
      refine List.pairwise_map.mpr (h2.imp fun {a b} h => ?_)
      have h' := SrtO.lexB_no.mp h
      unfold lexLe
      omega
    have rr := repA_of ry
    rw [e] at rr
    exact q _ _ (ex_new hn) (.lst (.inl ⟨.inl upd_same, fun z => m p z hn⟩) (rr.ex (ex_new hn)))⟩
end
end Z

namespace Z
open PySem PySem.Spec PyProof.Rows L2
/-! ### t[::-1] -/
section
variable {P : Program} {w : World} {A : Around} {E : Value → Shared → Prop} {s : Shared}
theorem sliced_back {sl : Addr} {vl vu vs : Value} {n : Nat} {R : Int × Int × Nat → Shared → Prop} (is : s.heap.IsSliceOf sl vl vu vs) (pl : IsPart vl none) (pu : IsPart vu none) (ps : IsPart vs (some (-1)))
    (done : R ((n : Int) - 1, -1, n) s) : wpAny (model P w) A (Builtin.Slice.sliceApplied (.ref sl) (pure (n : Int))) R E s := by
  obtain ⟨ob, at1, _, at3⟩ := id is
  unfold Builtin.Slice.sliceApplied Builtin.Slice.sliceFields
  refine wpAny_bind (wpAny_bind (wpAny_field at1 at3 (x := vl) rfl (wpAny_bind (wpAny_field at1 at3 (x := vu) rfl (wpAny_bind (wpAny_field at1 at3 (x := vs) rfl (wpAny_pure ?_)))))))
  refine wpAny_bind (HT.slicePart_ ps ?_)
  show wpAny _ _ (if ((-1 : Int) == 0) = true then _ else _) _ _ s
  rw [if_neg (by decide)]
  refine wpAny_bind (HT.slicePart_ pl (wpAny_bind (HT.slicePart_ pu (wpAny_bind (wpAny_pure ?_)))))
  have e : Builtin.Slice.slicePlaces ((n : Int) - 1) (-1) (-1) = n := by
    unfold Builtin.Slice.slicePlaces
    rw [if_neg (by decide)]
    by_cases h : (n : Int) - 1 > -1
    · rw [if_pos h]
      simp
    · rw [if_neg h]
      simp
      omega
  refine wpAny_pure ?_
  show R ((n : Int) - 1, -1, Builtin.Slice.slicePlaces ((n : Int) - 1) (-1) (-1)) s
  rw [e]
  exact done
theorem fm_some {α β : Type} {f : α → Option β} {g : α → β} : ∀ {l : List α}, (∀ k ∈ l, f k = some (g k)) → l.filterMap f = l.map g
  | [], _ => rfl
  | x :: l, h => by rw [List.filterMap_cons_some (h x List.mem_cons_self), List.map_cons, fm_some fun k hk => h k (List.mem_cons_of_mem _ hk)]
theorem pick_back (us : Array Value) : ((List.range us.size).filterMap fun (k : Nat) => us[((us.size : Int) - 1 + (k : Int) * -1).toNat]?) = us.toList.reverse := by
  refine List.ext_getElem? fun i => ?_
  have e : ((List.range us.size).filterMap fun (k : Nat) => us[((us.size : Int) - 1 + (k : Int) * -1).toNat]?) = (List.range us.size).map fun k => us.getD (us.size - 1 - k) Value.none := by
    refine fm_some fun k hk => ?_
    have hk' := List.mem_range.mp hk
    have q : ((us.size : Int) - 1 + (k : Int) * -1).toNat = us.size - 1 - k := by omega
    rw [q]
    rw [Array.getElem?_eq_getElem (by omega), Array.getD_eq_getD_getElem?, Array.getElem?_eq_getElem (by omega)]
    rfl
  rw [e, List.getElem?_map]
  rcases Nat.lt_or_ge i us.size with h | h
  · rw [List.getElem?_range h, List.getElem?_reverse (by simpa using h), Array.length_toList, Array.getElem?_toList]
    simp only [Option.map_some]
    rw [Array.getD_eq_getD_getElem?, Array.getElem?_eq_getElem (by omega)]
    rfl
  · rw [List.getElem?_eq_none (by simpa using h), List.getElem?_eq_none (by simpa using h)]
    rfl
theorem back_tuple {q sl : Addr} {us : Array Value} {vl vu vs : Value} {R : Value → Shared → Prop} (it : IsTup s.heap q us) (is : s.heap.IsSliceOf sl vl vu vs) (pl : IsPart vl none) (pu : IsPart vu none) (ps : IsPart vs (some (-1))) (few : us.size ≤ sizeLine)
    (done : R (.ref s.heap.objs.size) { s with heap := s.heap.push { cls := .type "tuple", data := .seq us.toList.reverse.toArray } }) : wpAny (model P w) A (getItem (.ref q) (.ref sl)) R E s := by
  have fits : sizeOk (.seq us.toList.reverse.toArray) := by
    show us.toList.reverse.toArray.size ≤ sizeLine
    rw [List.size_toArray, List.length_reverse, Array.length_toList]
    exact few
  obtain ⟨ob, at1, at2, _⟩ := id is
  have ty : s.TypeIs (.ref sl) "slice" := ⟨ob, at1, at2⟩
  unfold getItem
  try with_reducible refine wpAny_holding ?_
  first | refine wpAny_bind (wpAny_pure ?_) | skip
  refine wpAny_bind (wpAny_sequenceKey it.typeIs (by decide) ?_)
  refine wpAny_bind (wpAny_callSpecial?_slot (name := Str.ofString "__getitem__") it.typeIs PyProof.Rows.slot_tuple_getitem
    (wpAny_call_entry PyProof.Rows.slot_tuple_getitem it.typeIs entry_tuple_getitem ?_ (args_tuple_getitem (.ref q) (.ref sl))))
  show wpAny _ _ (Builtin.Tuple.tupleItemsOf (.ref q) >>= _) _ _ s
  refine wpAny_bind (tupleItemsOf_ it ?_)
  refine wpAny_bind (wpAny_typeOf ty ?_)
  rw [if_pos (by decide)]
  refine wpAny_bind (sliced_back is pl pu ps ?_)
  have no : ¬ (((us.size : Int) - 1 == 0 && (-1 : Int) == 1 && us.size == us.size) = true) := by
    rw [show ((-1 : Int) == 1) = false by decide]
    simp
  show wpAny _ _ (if ((us.size : Int) - 1 == 0 && (-1 : Int) == 1 && us.size == us.size) = true then _ else _) _ _ s
  rw [if_neg no, pick_back]
  first
    | exact wpAny_bind (m := Builtin.Tuple.tupleExact _) (wpAny_newObj_type (wpAny_pure ⟨_, rfl, wpAny_pure done⟩) fits)
    | exact wpAny_bind (m := Builtin.Tuple.tupleExact _) (wpAny_newObj_type (wpAny_bind (wpAny_pure (wpAny_pure ⟨_, rfl, wpAny_pure done⟩))) fits)
    | exact wpAny_bind (wpAny_bind (m := Builtin.Tuple.tupleExact _) (wpAny_newObj_type (wpAny_pure (wpAny_pure ⟨_, rfl, wpAny_pure done⟩)) fits))
    | exact wpAny_bind (wpAny_bind (m := Builtin.Tuple.tupleExact _) (wpAny_newObj_type (wpAny_pure ⟨_, rfl, wpAny_pure done⟩) fits))
end
section
variable {X : Cx} {A : AS} {a b c e : Expr} {x y z d : D} {ds ds' : List D} {pos p p2 : Pos}
def tBackT (K : PySem.W.Frag) (te : TE) : TE := fun σ H Q => te σ H fun x H1 => ∃ a xs, x = .ref a ∧ SqT K H1 a xs ∧ ∀ p, H1 p = none → Q (.ref p) (upd H1 p (.tup xs.reverse))
theorem pe_backT {te : TE} {k : Nat} {p1 p2 p3 : Pos} (he : PE X e te) : PE X (.Subscript e (.Slice none none (some (.UnaryOp .USub (.Constant (.int 1) k p1) p2)) p3) pos) (tBackT X.K te) := by
  refine ⟨fun pins s0 σ H Q I hq => ?_⟩
  refine Subscript_ (thn (he.run pins s0 σ H _ I hq) fun v s1 ⟨x, H1, I1, r1, a, xs, ex, hx, q⟩ => ?_)
  subst ex
  cases r1
  have step : PO X (some (.UnaryOp .USub (.Constant (.int 1) k p1) p2)) (tPart (tUn (rU fun i => .int (-i)) (tC (.int 1)))) := po_some (pe_un un_neg pe_int)
  refine wpAny_Slice (thn (po_none.run pins s1 σ H1 (fun o K2 => o = none ∧ K2 = H1) I1 ⟨rfl, rfl⟩) fun vl s2 ⟨l, H2, I2, pl, el, e2⟩ => ?_)
  subst el; subst e2
  refine thn (po_none.run pins s2 σ H2 (fun o K3 => o = none ∧ K3 = H2) I2 ⟨rfl, rfl⟩) fun vu s3 ⟨u, H3, I3, pu, eu, e3⟩ => ?_
  subst eu; subst e3
  refine thn (step.run pins s3 σ H3 (fun o K4 => o = some (-1) ∧ K4 = H3) I3 ⟨1, rfl, -1, rfl, rfl, rfl⟩) fun vs s4 ⟨o, H4, I4, ps, eo, e4⟩ => ?_
  subst eo; subst e4
  have J : Inv X pins σ H4 { s4 with heap := s4.heap.push { cls := .type "slice", data := .fields #[vl, vu, vs] } } := I4.kept (t' := s4.toks) fun b ob z => Heap.get?_push_of_some _ z
  obtain ⟨its, r, it, hz⟩ := J.tuple hx
  have len := r.length
  show wpAny (model X.prog X.w) X.A (subscriptTail e (.Slice none none (some (.UnaryOp .USub (.Constant (.int 1) k p1) p2)) p3) (.ref a) (.ref s4.heap.objs.size)) (EP X pins σ Q) X.xe { s4 with heap := s4.heap.push { cls := .type "slice", data := .fields #[vl, vu, vs] } }
  refine tail_any (ops := [.ref a, .ref s4.heap.objs.size]) it.typeIs PyProof.Rows.slot_tuple_getitem.lookup ?_ (by with_unfolding_all rfl)
  refine back_tuple it (Heap.IsSliceOf.new _ vl vu vs) pl pu ps (by rw [List.size_toArray]; omega) ?_
  refine ⟨.ref _, _, J.laid (t' := s4.toks) (o := .tup xs.reverse) (fun b ob z => Heap.get?_push_of_some _ z) (Nat.le_refl _) ?_, rfl, q _ (J.hok.fresh (Nat.le_refl _))⟩
  exact ⟨by rw [List.length_reverse]; exact hz, _, r.reverse, IsTup.new _ _⟩
theorem repA_back' {K : PySem.W.Frag} {M : List Addr} {H : Hp} : ∀ {vs : List V} {ds : List D}, RepA K M H vs ds → RepA K M H vs.reverse ds.reverse
  | _, _, .nil => .nil
  | _, _, .cons r t => by
    rw [List.reverse_cons, List.reverse_cons]
    exact RepA.append (repA_back' t) (.cons r .nil)
theorem pd_backT {k : Nat} {p1 p2 p3 : Pos} (ha : PD X A a (.tuple ds)) : PD X A (.Subscript a (.Slice none none (some (.UnaryOp .USub (.Constant (.int 1) k p1) p2)) p3) pos) (.tuple ds.reverse) :=
  pd_of (pe_backT ha) fun σ H Q ⟨W, H0, F, ps, hs, q⟩ => ⟨W, H0, F, ps, hs, fun v H1 e1 r1 => by
    cases r1 with
    | tup h1 r2 => exact ⟨_, _, rfl, h1.sq, fun p hp => q _ _ (ex_trans e1 (ex_new hp)) (.tup (.inl upd_same) (repA_back' (r2.ex (ex_new hp))))⟩⟩
variable {Φ : AE}
/-- a statement, then the rest from each state that is told -/
theorem sds_inv {st : Stmt} {rest : List Stmt} (J : AS → Prop) (h : SD X A st { Φ with nx := J }) (h2 : ∀ B, J B → SDs X B rest Φ) : SDs X A (st :: rest) Φ :=
  sds_cons (sd_of h fun Dn σ H ⟨W, H0, F, ps, hs, rz⟩ => ⟨W, H0, F, ps, hs, { nx := fun ps' A' σ' H' h' q => rz.nx ps' A' σ' H' h' (h2 A' q), bk := rz.bk, ct := rz.ct, rt := rz.rt, rtF := rz.rtF }⟩)
end
end Z

namespace Z
open PySem PySem.Spec PyProof.Rows L2
section
variable {X : Cx} {A : AS} {a b c e : Expr} {es : List Expr} {x y z d : D} {ds ds' : List D} {ns ms : List Int} {pos p p2 : Pos} {kvs : List (Key × D)}
/-! ### sorted(an own dict with numbers for keys) -/
theorem ints_at : ∀ {us : List Value} {ns : List Int}, us.length = ns.length → (∀ (j : Nat) (v : Value), us[j]? = some v → ∃ i t, ns[j]? = some i ∧ v = .int i t) → IntsAre us ns
  | [], [], _, _ => .nil
  | [], _ :: _, h, _ => nomatch h
  | _ :: _, [], h, _ => nomatch h
  | u :: us, n :: ns, h, f => by
    obtain ⟨i, t, e1, e2⟩ := f 0 u rfl
    cases e1
    subst e2
    exact .cons _ t (ints_at (Nat.succ.inj h) fun j v hv => f (j + 1) v (by simpa using hv))
theorem cr_sortedD (hc : X.calm = true) : CallR X (.builtin "sorted") (fun vs H Q => ∃ (a : Addr) (kv : List (Key × V)) (ns : List Int), vs = [V.ref a] ∧ Rd H a (.dK kv) ∧ kv.map (·.1) = ns.map Sum.inl ∧
    ∀ (ms : List Int) (p : Addr), ms.Perm ns → ms.Pairwise (· ≤ ·) → H p = none → Q (.ref p) (upd H p (.lst (ms.map V.int)))) := fun pins s σ H vs us Q I r ⟨a, kv, ns, ev, he, hk, q⟩ => by
  subst ev
  cases r with
  | cons ra rn =>
    cases rn
    obtain rfl := ra
    obtain ⟨hz, lo, ws, rel, dd⟩ := dk_rd I.hok he
    obtain ⟨ep, at1⟩ := dd.dictAt
    have l1 : kv.length = ws.length := Paired.length rel
    have l2 : kv.length = ns.length := by
      have := congrArg List.length hk
      rwa [List.length_map, List.length_map] at this
    have keys : ws.map (·.1) = ns.map Sum.inl := by
      rw [← hk]
      clear hk l1 l2 dd at1 hz he
      induction rel with
      | nil => rfl
      | cons h t ih => rw [List.map_cons, List.map_cons, ih, h.1]
    refine sorted_src (ks := ns) (by omega) (fun R' h => ?_) fun g1 g tk d out ms n kp kp2 hd hat h1 h2 h3 => ?_
    · refine PySem.W.kdu_collect (PySem.W.kdl_dict (knd := mixKind X.prog X.w) (kvs := ws) (ep := ep) lo) (by show X.A.in1.handled = none; simp [I.ok.hd hc]) at1 (by omega) fun g tk acc kp hacc => ?_
      refine h g tk acc.toList (ints_at (by rw [Array.length_toList, hacc.1]; omega) fun j v hv => ?_) kp
      obtain ⟨k, x, e1, e2⟩ := hacc.2 j v (by rw [← Array.getElem?_toList]; exact hv)
      have e3 : (ns.map Sum.inl)[j]? = some k := by
        rw [← keys, List.getElem?_map, e1]
        rfl
      rw [List.getElem?_map] at e3
      cases en : ns[j]? with
      | none => rw [en] at e3; cases e3
      | some i =>
        rw [en] at e3
        cases e3
        obtain ⟨t, rfl⟩ := Value.isInt_shape (show Value.isInt i v = true from e2)
        exact ⟨i, t, rfl, rfl⟩
    · have hlen : (ms.map V.int).length ≤ sizeLine := by
        rw [List.length_map, h2.length_eq, ← l2]
        exact hz
      have I1 : Inv X pins σ H { s with heap := g1 } := I.kept (t' := s.toks) kp
      exact ⟨.ref d, _, I1.laid (a := d) (o := .lst (ms.map V.int)) (t' := tk) kp2 hd ⟨hlen, out, n, vals_of_ints h1, hat⟩, rfl, q ms d h2 h3 (I1.hok.fresh hd)⟩
theorem repK_keys {K : PySem.W.Frag} {M : List Addr} {H : Hp} : ∀ {kv : List (Key × V)} {kvs : List (Key × D)}, RepK K M H kv kvs → kv.map (·.1) = kvs.map (·.1)
  | _, _, .nil => rfl
  | _, _, .cons r t => by rw [List.map_cons, List.map_cons, repK_keys t]
theorem pdl_sortedD (i j : Nat) {n : Str} {np : Pos} (hc : X.calm = true) (hk : kvs.map (·.1) = ns.map Sum.inl) (hp : ms.Perm ns) (hs : ms.Pairwise (· ≤ ·)) (m1 : X.mg "sorted" = none) (hi : A.ρ[i]? = some (.obj j) := by rfl) (hj : A.μ[j]? = some (.dK kvs) := by rfl) (hN : X.N[i]? = some n := by rfl)
    (hv : Vis X.env.scope n := by first | exact Or.inl rfl | exact Or.inr (Or.inl rfl) | exact Or.inr (Or.inr rfl)) (hd : (n == ("__debug__" : Str)) = false := by decide) (hcd : (n == ("__classdict__" : Str)) = false := by decide) (hg : Gl X "sorted" := by rfl)
    (he : starEach (Expr.Name n np :: []) X.env = (false, eval (Expr.Name n np) X.env) :: starEach [] X.env := by rfl) (hpl : (backTo pos (starEach [] X.env)).any (·.1) = false := by rfl) : PDL X A (.Call (.Name "sorted" p) [.Name n np] [] pos) (ms.map .int) :=
  pdl_of (pe_callB (id := "sorted") (cr_sortedD hc) hg m1 bb_sorted (pdp_a1 (pdp_dct i j hi hj hN hv hd hcd) he) (by decide) (by decide) he hpl) fun σ H Q ⟨W, H0, F, ps, hs', q⟩ => ⟨W, H0, F, ps, hs', fun vs H1 e1 r1 => by
    obtain ⟨v, rfl, rv⟩ := repA1 r1
    unfold dictD at rv
    cases rv with
    | dct h1 nm rk eq =>
      refine ⟨_, _, ns, rfl, h1, ?_, fun ks p h2 h3 hp' => ?_⟩
      · rw [repK_keys rk, ← hk]
        have e2 := congrArg (List.map fun (q : D × D) => q.1) eq
        rw [List.map_map, List.map_map] at e2
        have inj : ∀ l l' : List (Key × D), l.map (fun p => kD p.1) = l'.map (fun p => kD p.1) → l'.map (·.1) = l.map (·.1) := by
          intro l
          induction l with
          | nil =>
            intro l' h
            cases l' with
            | nil => rfl
            | cons _ _ => cases h
          | cons q l ih =>
            intro l' h
            cases l' with
            | nil => cases h
            | cons q' l' =>
              rw [List.map_cons, List.map_cons] at h
              have h1 := (List.cons.inj h).1
              have h2 := ih l' (List.cons.inj h).2
              rw [List.map_cons, List.map_cons, h2]
              congr 1
              obtain ⟨k, _⟩ := q
              obtain ⟨k', _⟩ := q'
              cases k <;> cases k' <;> (simp only [kD] at h1; first | (cases h1; rfl) | cases h1)
        exact inj _ _ e2
      · have e : ks = ms := pairwise_le_eq (h2.trans hp.symm) h3 hs
        subst e
        exact q p _ _ (ex_trans e1 (ex_new hp')) (none_of e1 hp') upd_same (RepA.of_ints _)⟩
/-! ### zip of two tuples of one length -/
def zipD (ds ds' : List D) : List D := (ds.zip ds').map fun q => PyData.tuple [q.1, q.2]
theorem itd_zipT {K : PySem.W.Frag} {M : List Addr} {H : Hp} {p p' : Addr} {xs ys : List V} (h : TupAt H p xs) (h' : TupAt H p' ys) (r : RepA K M H xs ds) (r' : RepA K M H ys ds') (hl : ds.length = ds'.length) : ItD K M H (RZ.ItzT K p p') (zipD ds ds') where
  go := fun i H' M' g hi => by
    have hi' : i < ds.length ∧ i < ds'.length := by
      unfold zipD at hi
      rw [List.length_map, List.length_zip] at hi
      omega
    obtain ⟨v, e, _⟩ := r.get' (List.getElem?_eq_getElem hi'.1)
    obtain ⟨v', e', _⟩ := r'.get' (List.getElem?_eq_getElem hi'.2)
    exact ⟨xs, ys, v, v', (g.tup h).sq, (g.tup h').sq, e, e'⟩
  yld := fun i H' M' x H'' _ g ⟨T, y, y', e0, e1, e2, e3, e4⟩ => by
    obtain ⟨d, e, rd⟩ := r.get (e3 xs (g.tup h).sq)
    obtain ⟨d', e', rd'⟩ := r'.get (e4 ys (g.tup h').sq)
    subst e2 e0
    refine ⟨ex_new e1, PyData.tuple [d, d'], ?_, .tup (.inl upd_same) (.cons ((rd.go g).ex (ex_new e1)) (.cons ((rd'.go g).ex (ex_new e1)) .nil))⟩
    unfold zipD
    rw [List.getElem?_map, (List.getElem?_zip_eq_some (z := (d, d'))).mpr ⟨e, e'⟩]
    rfl
  stop := fun i H' M' g hi => by
    unfold zipD at hi
    rw [List.length_map, List.length_zip] at hi
    exact ⟨xs, ys, (g.tup h).sq, (g.tup h').sq, by rw [r.length, r'.length]; omega⟩
theorem pid_zipT {elts : List Expr} {kk : Nat} {tpos p : Pos} (hl : ds.length = ds'.length) (hm : X.mg "zip" = none) (ha : PD X A a (.tuple ds)) (hb : PD X A b (.tuple ds')) (hg : Gl X "zip" := by rfl)
    (hs : starEach [a, b] X.env = (false, eval a X.env) :: starEach [b] X.env := by rfl) (hs2 : starEach (b :: []) X.env = (false, eval b X.env) :: starEach [] X.env := by rfl) (hpl : (backTo pos (starEach [b] X.env)).any (·.1) = false := by rfl) :
    PID X A (.Tuple elts kk tpos) (.Call (.Name "zip" p) [a, b] [] pos) (zipD ds ds') :=
  pid_of (RZ.pi_zipA hg hm (pds_cons ha (pds_cons hb pds_nil hs2) hs) hs hpl) fun σ H R ⟨W, H0, F, ps, hs, q⟩ => ⟨W, H0, F, ps, hs, fun vs H1 e1 r1 => by
    obtain ⟨v, v', rfl, rx, ry⟩ := repA2 r1
    cases rx with
    | tup h1 r =>
      cases ry with
      | tup h2 r' => exact ⟨_, _, _, _, rfl, .inr ⟨h1.sq, h2.sq, q _ H1 e1 (itd_zipT h1 h2 r r' hl)⟩⟩⟩
end
end Z

namespace Z
open PySem PySem.Spec PyProof.Rows L2
/-! ### isinstance -/
def tyD : D → String
  | .none => "NoneType"
  | .bool _ => "bool"
  | .int _ => "int"
  | .str _ => "str"
  | .list _ => "list"
  | .tuple _ => "tuple"
  | .dict _ => "dict"
theorem rep_ty {K : PySem.W.Frag} {M : List Addr} {H : Hp} {v : V} {d : D} (r : Rep K M H v d) : TyX K H v (.type (tyD d)) := by
  cases r with
  | non => exact .base .non
  | bl b => exact .base (.bl b)
  | int i => exact .base (.int i)
  | str x => exact .base (.str x)
  | lst h rr =>
    rcases h with ⟨h | ⟨o, h⟩, _⟩ | h
    · exact .base (.lst h)
    · exact .base (.frz h)
    · rcases h with h | ⟨o, its, n, hk, hc, _⟩
      · rcases h with h | ⟨o, h⟩ <;> cases h
      · exact .kList hk hc
  | tup h rr =>
    rcases h with h | ⟨o, _, h⟩
    · exact .base (.tup h)
    · exact .fTuple h
  | dct h _ _ _ =>
    rcases h with h | ⟨o, h⟩
    · exact .base (.dK h)
    · exact .fDict h
def isInt : D → Bool
  | .int _ => true
  | .bool _ => true
  | _ => false
def isBool : D → Bool
  | .bool _ => true
  | _ => false
def isTup : D → Bool
  | .tuple _ => true
  | _ => false
theorem kit_int : ∀ d : D, kitB (tyD d) "int" = some (isInt d)
  | .none => show kitB "NoneType" "int" = some false by decide +kernel
  | .bool _ => show kitB "bool" "int" = some true by decide +kernel
  | .int _ => show kitB "int" "int" = some true by decide +kernel
  | .str _ => show kitB "str" "int" = some false by decide +kernel
  | .list _ => show kitB "list" "int" = some false by decide +kernel
  | .tuple _ => show kitB "tuple" "int" = some false by decide +kernel
  | .dict _ => show kitB "dict" "int" = some false by decide +kernel
theorem kit_bool : ∀ d : D, kitB (tyD d) "bool" = some (isBool d)
  | .none => show kitB "NoneType" "bool" = some false by decide +kernel
  | .bool _ => show kitB "bool" "bool" = some true by decide +kernel
  | .int _ => show kitB "int" "bool" = some false by decide +kernel
  | .str _ => show kitB "str" "bool" = some false by decide +kernel
  | .list _ => show kitB "list" "bool" = some false by decide +kernel
  | .tuple _ => show kitB "tuple" "bool" = some false by decide +kernel
  | .dict _ => show kitB "dict" "bool" = some false by decide +kernel
theorem kit_tup : ∀ d : D, kitB (tyD d) "tuple" = some (isTup d)
  | .none => show kitB "NoneType" "tuple" = some false by decide +kernel
  | .bool _ => show kitB "bool" "tuple" = some false by decide +kernel
  | .int _ => show kitB "int" "tuple" = some false by decide +kernel
  | .str _ => show kitB "str" "tuple" = some false by decide +kernel
  | .list _ => show kitB "list" "tuple" = some false by decide +kernel
  | .tuple _ => show kitB "tuple" "tuple" = some true by decide +kernel
  | .dict _ => show kitB "dict" "tuple" = some false by decide +kernel
section
variable {X : Cx} {A : AS} {a b c e : Expr} {x y z d : D} {ds ds' : List D} {pos p p2 : Pos}
theorem pd_isi {n : Str} {T : String} {k : Bool} (hk : kitB (tyD d) T = some k) (hm : X.mg "isinstance" = none) (hmn : X.mg n = none) (hv : bootBuiltins n = some (.type T)) (ha : PD X A e d) (hg : Gl X "isinstance" := by rfl) (hgn : Gl X n := by rfl) (hn : n ≠ "__name__" := by decide) (hdb : (n == ("__debug__" : Str)) = false := by decide)
    (he : starEach (e :: [.Name n p2]) X.env = (false, eval e X.env) :: starEach [.Name n p2] X.env := by rfl) (he2 : starEach (Expr.Name n p2 :: []) X.env = (false, eval (Expr.Name n p2) X.env) :: starEach [] X.env := by rfl)
    (hpl : (backTo pos (starEach [.Name n p2] X.env)).any (·.1) = false := by rfl) : PD X A (.Call (.Name "isinstance" p) [e, .Name n p2] [] pos) (.bool k) :=
  pd_of (pe_callB (id := "isinstance") call_isi hg hm bb_isi (pa_cons ha (pa_cons (pe_bltn hgn hmn hv (v := .ty T) rfl hn hdb) pa_nil he2) he) (by decide) (by decide) he hpl) fun σ H Q ⟨W, H0, F, ps, hs, q⟩ => ⟨W, H0, F, ps, hs, fun v H1 e1 r1 => ⟨v, .ty T, _, _, k, rfl, .ty T, rep_ty r1, kit_ty hk, q _ H1 e1 (.bl k)⟩⟩
theorem pd_isInt (hm : X.mg "isinstance" = none) (hmn : X.mg "int" = none) (ha : PD X A e d) (hg : Gl X "isinstance" := by rfl) (hgn : Gl X "int" := by rfl)
    (he : starEach (e :: [.Name "int" p2]) X.env = (false, eval e X.env) :: starEach [.Name "int" p2] X.env := by rfl) (he2 : starEach (Expr.Name "int" p2 :: []) X.env = (false, eval (Expr.Name "int" p2) X.env) :: starEach [] X.env := by rfl)
    (hpl : (backTo pos (starEach [.Name "int" p2] X.env)).any (·.1) = false := by rfl) : PD X A (.Call (.Name "isinstance" p) [e, .Name "int" p2] [] pos) (.bool (isInt d)) := pd_isi (kit_int d) hm hmn bb_int ha hg hgn (by decide) (by decide) he he2 hpl
theorem pd_isBool (hm : X.mg "isinstance" = none) (hmn : X.mg "bool" = none) (ha : PD X A e d) (hg : Gl X "isinstance" := by rfl) (hgn : Gl X "bool" := by rfl)
    (he : starEach (e :: [.Name "bool" p2]) X.env = (false, eval e X.env) :: starEach [.Name "bool" p2] X.env := by rfl) (he2 : starEach (Expr.Name "bool" p2 :: []) X.env = (false, eval (Expr.Name "bool" p2) X.env) :: starEach [] X.env := by rfl)
    (hpl : (backTo pos (starEach [.Name "bool" p2] X.env)).any (·.1) = false := by rfl) : PD X A (.Call (.Name "isinstance" p) [e, .Name "bool" p2] [] pos) (.bool (isBool d)) := pd_isi (kit_bool d) hm hmn bb_bool ha hg hgn (by decide) (by decide) he he2 hpl
theorem pd_isTup (hm : X.mg "isinstance" = none) (hmn : X.mg "tuple" = none) (ha : PD X A e d) (hg : Gl X "isinstance" := by rfl) (hgn : Gl X "tuple" := by rfl)
    (he : starEach (e :: [.Name "tuple" p2]) X.env = (false, eval e X.env) :: starEach [.Name "tuple" p2] X.env := by rfl) (he2 : starEach (Expr.Name "tuple" p2 :: []) X.env = (false, eval (Expr.Name "tuple" p2) X.env) :: starEach [] X.env := by rfl)
    (hpl : (backTo pos (starEach [.Name "tuple" p2] X.env)).any (·.1) = false := by rfl) : PD X A (.Call (.Name "isinstance" p) [e, .Name "tuple" p2] [] pos) (.bool (isTup d)) := pd_isi (kit_tup d) hm hmn bb_tuple ha hg hgn (by decide) (by decide) he he2 hpl
theorem PWD.eq {k l : Bool} (h : PWD X A e k) (q : k = l) : PWD X A e l := q ▸ h
/-! ### str of a number -/
theorem cd_strI {i : Int} (hz : i.natAbs.log2 < 1920) : CallD X (.type "str") [.int i] (.str (toString i)) := ⟨_, call_str_int, fun M H vs Q _ r q => by
  obtain ⟨v, rfl, rv⟩ := repA1 r
  cases rv
  exact ⟨i, rfl, hz, q _ H (ex_refl H) (.str _)⟩⟩
/-! ### == of what is no list, dict or text with another -/
end
end Z

namespace Z
open PySem PySem.Spec PyProof.Rows L2
/-! ### is None -/
def optD (o : Option Nat) : D := match o with
  | none => .none
  | some x => iD x
def isNo : D → Bool
  | .none => true
  | _ => false
theorem pt_isN {X : Cx} {A : AS} {a b : Expr} {d : D} {pos : Pos} (ha : PD X A a d) (hb : PD X A b .none) (hm : behindInMarks .Is b = false := by rfl) : PTD X A (.Compare a [.Is] [b] pos) (isNo d) :=
  ptd_cmp op_isN1 (fun M H vx vy Q _ r1 r2 q => by
    cases r2
    refine ⟨rfl, ?_⟩
    have e : decide (vx = V.non) = isNo d := by
      cases r1 with
      | non => rfl
      | bl b => exact decide_eq_false (fun z => nomatch z)
      | int i => exact decide_eq_false (fun z => nomatch z)
      | str x => exact decide_eq_false (fun z => nomatch z)
      | lst h r => exact decide_eq_false (fun z => nomatch z)
      | tup h r => exact decide_eq_false (fun z => nomatch z)
      | dct h _ _ _ => exact decide_eq_false (fun z => nomatch z)
    rw [e]
    exact q _ H (ex_refl H) (.bl _)) ha hb hm
end Z

namespace Z
open PySem PySem.Spec PyProof.Rows L2
/-! ### a dict that is walked stands locked -/
section
variable {K : PySem.W.Frag} {M M' : List Addr} {H H' : Hp} {ps ps' : List (Option Addr)} {W F : List Addr} {H0 : Hp} {A A' : AS} {σ σ' : L2.St} {d : Addr} {kv : List (Key × V)} {od : Obj}
theorem lock_ne {a : Addr} {u : HO} (hd : H d = some (.dK kv)) (h : H a = some u) (hu : u ≠ .dK kv) : a ≠ d := fun e => by
  subst e
  rw [hd] at h
  exact hu (Option.some.inj h).symm
theorem Go.lock (hd : H d = some (.dK kv)) : Go M M H (upd H d (.frz od (.dK kv))) where
  l := fun a xs h m => by
    refine ⟨?_, m⟩
    rcases h with h | ⟨u, h⟩
    · exact .inl (by rw [upd_ne (lock_ne hd h (fun z => nomatch z))]; exact h)
    · exact .inr ⟨u, by rw [upd_ne (lock_ne hd h (fun z => nomatch z))]; exact h⟩
  t := fun a xs h => by
    rw [upd_ne (lock_ne hd h (fun z => nomatch z))]
    exact h
  z := fun a o u h => by
    rw [upd_ne (lock_ne hd h (fun z => nomatch z))]
    exact h
  d := fun a kv' h m => by
    refine ⟨?_, m⟩
    by_cases e : a = d
    · subst e
      rcases h with h | ⟨u, h⟩
      · rw [hd] at h
        cases h
        exact .inr ⟨od, upd_same⟩
      · rw [hd] at h
        cases h
    · rcases h with h | ⟨u, h⟩
      · exact .inl (by rw [upd_ne e]; exact h)
      · exact .inr ⟨u, by rw [upd_ne e]; exact h⟩
theorem Has.lock (h : Has K W H0 F ps A σ H) (hd : H d = some (.dK kv)) (hm : d ∉ Mx ps ++ F) : Has K (Mx ps ++ W) (upd H d (.frz od (.dK kv))) (Mx ps ++ F) ps A σ (upd H d (.frz od (.dK kv))) := by
  have g : Go (Mx ps ++ F) (Mx ps ++ (Mx ps ++ F)) H (upd H d (.frz od (.dK kv))) := Go.perm (M := Mx ps ++ F) (fun a z => (List.mem_append.mp z).elim (List.mem_append_left _) id) (Go.lock hd)
  have ne : ∀ a, a ∈ Mx ps ++ F → a ≠ d := fun a z e => hm (e ▸ z)
  exact {
    ex := fun a o _ e => e
    len := h.len
    sl := fun i s q => (h.sl i s q).go g
    ml := h.ml
    mo := fun j o q => by
      obtain ⟨p, e1, e2⟩ := h.mo j o q
      refine ⟨p, e1, e2.go g fun a u ea z => ?_⟩
      subst ea
      rw [upd_ne (ne a (List.mem_append_left _ (mem_mx.mpr (List.mem_of_getElem? e1))))]
      exact z
    fr := fun p hp => .inr (List.mem_append_left _ hp)
    nd := h.nd
    wf := fun a w => (List.mem_append.mp w).elim (List.mem_append_left _) fun q => List.mem_append_right _ (h.wf a q)
    wo := fun a w => by
      rcases List.mem_append.mp w with z | z
      · rw [upd_ne (ne a (List.mem_append_left _ z))]
        exact h.mx z
      · rw [upd_ne (ne a (List.mem_append_right _ (h.wf a z)))]
        exact h.wo a z
    ff := fun a f => by
      rcases List.mem_append.mp f with z | z
      · rw [upd_ne (ne a (List.mem_append_left _ z))]
        exact h.avoid (List.mem_append_left _ z)
      · rw [upd_ne (ne a (List.mem_append_right _ z))]
        exact h.ff a z }
end
/-- the keys -/
def keysD (kvs : List (Key × D)) : List D := kvs.map fun p => kD p.1
theorem keys_at {kv : List (Key × V)} {kvs : List (Key × D)} (hk : kv.map (·.1) = kvs.map (·.1)) {i : Nat} {k : Key} {v : V} (h : kv[i]? = some (k, v)) : (keysD kvs)[i]? = some (kD k) := by
  have e : (kvs.map (·.1))[i]? = some k := by
    rw [← hk, List.getElem?_map, h]
    rfl
  rw [List.getElem?_map] at e
  unfold keysD
  rw [List.getElem?_map]
  cases q : kvs[i]? with
  | none => rw [q] at e; cases e
  | some p =>
    rw [q] at e
    have e' : p.1 = k := Option.some.inj e
    rw [← e']
    rfl
theorem itd_keys {K : PySem.W.Frag} {M : List Addr} {H : Hp} {d : Addr} {o : Obj} {kv : List (Key × V)} {kvs : List (Key × D)} (hf : H d = some (.frz o (.dK kv))) (hk : kv.map (·.1) = kvs.map (·.1)) : ItD K M H (Itk d o kv) (keysD kvs) where
  go := fun i H' M' g hi => ⟨g.z _ _ _ hf, by
    have l := congrArg List.length hk
    unfold keysD at hi
    rw [List.length_map] at hi l
    rw [List.length_map] at l
    omega⟩
  yld := fun i H' M' x H'' _ g ⟨e1, k, v, e2, e3⟩ => by
    subst e1 e3
    refine ⟨ex_refl _, kD k, keys_at hk e2, ?_⟩
    cases k with
    | inl i => exact .int i
    | inr x => exact .str x
  stop := fun i H' M' g hi => ⟨g.z _ _ _ hf, by
    have l := congrArg List.length hk
    unfold keysD at hi
    rw [List.length_map] at hi l
    rw [List.length_map] at l
    omega⟩
/-- the iterator over the keys of the dict that slot i holds, locked -/
def tIk (K : PySem.W.Frag) (A : AS) (i : Nat) (kvs : List (Key × D)) : TI := fun σ H R => tI K A (keysD kvs) σ H R ∧ ∃ d o kv, σ[i]? = some (some (.ref d)) ∧ H d = some (.frz o (.dK kv)) ∧ kv.map (·.1) = kvs.map (·.1)
section
variable {X : Cx} {A : AS} {tg : Expr} {kvs : List (Key × D)} {n : Str} {pos : Pos}
theorem pi_keysD (i : Nat) (hN : X.N[i]? = some n) (hv : Vis X.env.scope n) (hd : (n == ("__debug__" : Str)) = false := by decide) (hcd : (n == ("__classdict__" : Str)) = false := by decide) : PI X tg (.Name n pos) (tIk X.K A i kvs) :=
  ⟨fun pins s σ H R I ⟨⟨W, H0, F, ps, hs, q⟩, d, o, kv, e1, e2, e3⟩ => (pi_keys (pe_var hN hv hd hcd)).run pins s σ H R I ⟨.ref d, e1, d, o, rfl, .inl ⟨kv, e2, q _ H (ex_refl H) (itd_keys e2 e3)⟩⟩⟩
end
mutual
theorem Rep.carry {K : PySem.W.Frag} {M M' : List Addr} {H H' : Hp} (t : ∀ a xs, TupAt H a xs → TupAt H' a xs) : ∀ {v : V} {d : D}, Rep K M H v d → noL d = true → Rep K M' H' v d
  | _, _, .non, _ => .non
  | _, _, .bl b, _ => .bl b
  | _, _, .int i, _ => .int i
  | _, _, .str x, _ => .str x
  | _, _, .lst h r, n => by unfold noL at n; cases n
  | _, _, .tup h r, n => .tup (t _ _ h) (RepA.carry t r (by unfold noL at n; exact n))
  | _, _, .dct _ _ _ _, n => by unfold noL at n; cases n
theorem RepA.carry {K : PySem.W.Frag} {M M' : List Addr} {H H' : Hp} (t : ∀ a xs, TupAt H a xs → TupAt H' a xs) : ∀ {vs : List V} {ds : List D}, RepA K M H vs ds → noLs ds = true → RepA K M' H' vs ds
  | _, _, .nil, _ => .nil
  | _, _, .cons r s, n => by
    unfold noLs at n
    have n' := Bool.and_eq_true_iff.mp n
    exact .cons (Rep.carry t r n'.1) (RepA.carry t s n'.2)
end
theorem unlock_tup {H' : Hp} {d : Addr} {kv : List (Key × V)} {od : Obj} (hd : H' d = some (.frz od (.dK kv))) : ∀ a xs, TupAt H' a xs → TupAt (upd H' d (.dK kv)) a xs := fun a xs h => by
  rcases h with h | ⟨o, n, h⟩
  · refine .inl ?_
    rw [upd_ne fun e => by subst e; rw [hd] at h; cases h]
    exact h
  · refine .inr ⟨o, n, ?_⟩
    rw [upd_ne fun e => by subst e; rw [hd] at h; cases h]
    exact h
theorem keys_eq : ∀ {l l' : List (Key × D)}, l.map (fun p => (kD p.1, p.2)) = l'.map (fun p => (kD p.1, p.2)) → l'.map (·.1) = l.map (·.1)
  | [], [], _ => rfl
  | [], _ :: _, h => nomatch h
  | _ :: _, [], h => nomatch h
  | (k, _) :: l, (k', _) :: l', h => by
    rw [List.map_cons, List.map_cons] at h
    have h1 := congrArg Prod.fst (List.cons.inj h).1
    have h2 := keys_eq (List.cons.inj h).2
    rw [List.map_cons, List.map_cons, h2]
    congr 1
    cases k <;> cases k' <;> (simp only [kD] at h1; first | (cases h1; rfl) | cases h1)
theorem pe_or {X : Cx} {e : Expr} {t1 t2 : TE} (h1 : PE X e t1) (h2 : PE X e t2) : PE X e (fun σ H Q => t1 σ H Q ∨ t2 σ H Q) := ⟨fun pins s σ H Q I h => h.elim (h1.run pins s σ H Q I) (h2.run pins s σ H Q I)⟩
section
variable {X : Cx} {A : AS} {tg elt : Expr} {ifs : List Expr} {scope : Scope} {kvs : List (Key × D)} {n : Str} {np pos : Pos}
/-- [.. for k in d ..], d a dict that a slot holds as data -/
theorem pd_lcK (i : Nat) (own : List (Str × Nat)) (os : List (Option D)) (ho : os.length = (keysD kvs).length) (hc : X.calm = true) (hN : X.N.Nodup) (hi : A.ρ[i]? = some (.dat (dictD kvs))) (hn : X.N[i]? = some n) (hv : Vis X.env.scope n) (ok : BlkOk X.N X.env.scope scope own) (hl : (keysD kvs).length ≤ 100000)
    (ht : ∀ (i : Nat) (d : D) (o : Option D), (keysD kvs)[i]? = some d → os[i]? = some o → LcT X A scope (own.map (·.2)) tg elt ifs d o) (hf : noLs (os.filterMap id) = true) (hd : (n == ("__debug__" : Str)) = false := by decide) (hcd : (n == ("__classdict__" : Str)) = false := by decide)
    (hs : ∀ x, foldedSetIterable (.Name n np) X.env x = pure x := by intro _; rfl) : PD X A (.ListComp elt [⟨tg, .Name n np, ifs, 0⟩] scope pos) (.list (os.filterMap id)) := by
  have base : PE X (.ListComp elt [⟨tg, .Name n np, ifs, 0⟩] scope pos) (tLc (tIk X.K A i kvs) (gLc X scope (own.map (·.2)) tg) (tLcT X scope ifs) (tLcE X scope elt) (own.map (·.2))) :=
    pe_lc hc hN (pi_keysD i hn hv hd hcd) ok
      (fun s H C cl fp => ⟨fun pins s' σ H v u Q I r ⟨A', d, A'', h, q⟩ => (h s _ C cl fp).run pins s' σ H v u Q I r q⟩)
      (fun s H C cl fp => ⟨fun pins s' σ H Q I ⟨A', k, h, q⟩ => (h s _ C cl fp).run pins s' σ H Q I q⟩)
      (fun s H C cl fp => ⟨fun pins s' σ H Q I ⟨A', y, h, q⟩ => (h s _ C cl fp).run pins s' σ H Q I q⟩) hs
  refine pd_of (pe_or base (pe_lock base)) fun σ H Q ⟨W, H0, F, ps, hh, q⟩ => ?_
  obtain ⟨v, e, r⟩ := hh.sl i _ hi
  unfold dictD at r
  cases r with
  | @dct d kv _ _ h1 nm rk eq =>
    have hk : kv.map (·.1) = kvs.map (·.1) := (repK_keys rk).trans (keys_eq eq)
    rcases h1 with h1 | ⟨o, h1⟩
    · refine .inr ⟨d, .dK kv, h1, trivial, fun od => ⟨lc_read os ho hl ht (Q := fun v H' => H' d = some (.frz od (.dK kv)) ∧ Q v (upd H' d (.dK kv))) ⟨Mx ps ++ W, _, Mx ps ++ F, ps, hh.lock h1 nm, fun p H' zs x h0 hq r => ?_⟩, d, od, kv, e, upd_same, hk⟩⟩
      have hd' : H' d = some (.frz od (.dK kv)) := x d _ upd_same
      have pd : p ≠ d := fun z => by
        subst z
        rw [upd_same] at h0
        cases h0
      have hp : H p = none := by rw [upd_ne pd] at h0; exact h0
      refine ⟨hd', q (.ref p) _ (fun a u ha => ?_) (.lst (.inl ⟨.inl (by rw [upd_ne pd]; exact hq), fun z => hh.avoid z hp⟩) (RepA.carry (unlock_tup hd') r hf))⟩
      by_cases ed : a = d
      · subst ed
        rw [h1] at ha
        rw [upd_same, ← ha]
      · rw [upd_ne ed]
        exact x a u (by rw [upd_ne ed]; exact ha)
    · exact .inl ⟨lc_read os ho hl ht ⟨W, H0, F, ps, hh, fun p H' zs x h0 hq r => q (.ref p) H' x (.lst (.inl ⟨.inl hq, fun z => hh.avoid z h0⟩) (repA_back r))⟩, d, o, kv, e, h1, hk⟩
end
end Z

namespace Z
open PySem PySem.Spec PyProof.Rows L2
/-! ### dicts as data: looked up, sorted, walked in a comprehension -/
theorem kD_inj {k k' : Key} (h : kD k = kD k') : k = k' := by
  cases k <;> cases k' <;> (simp only [kD] at h; first | (cases h; rfl) | cases h)
theorem dictD_inj : ∀ {l l' : List (Key × D)}, l.map (fun p => (kD p.1, p.2)) = l'.map (fun p => (kD p.1, p.2)) → l = l'
  | [], [], _ => rfl
  | [], _ :: _, h => nomatch h
  | _ :: _, [], h => nomatch h
  | (k, x) :: l, (k', x') :: l', h => by
    rw [List.map_cons, List.map_cons] at h
    have h1 := congrArg Prod.fst (List.cons.inj h).1
    have h3 := congrArg Prod.snd (List.cons.inj h).1
    have h2 := dictD_inj (List.cons.inj h).2
    rw [h2, kD_inj (k := k) (k' := k') h1, show x = x' from h3]
theorem rep_dict {K : PySem.W.Frag} {M : List Addr} {H : Hp} {v : V} {kvs : List (Key × D)} (r : Rep K M H v (dictD kvs)) : ∃ p kv, v = .ref p ∧ Rd H p (.dK kv) ∧ p ∉ M ∧ RepK K M H kv kvs := by
  unfold dictD at r
  cases r with
  | @dct p kv kvs' _ h1 nm rk eq =>
    have e := dictD_inj eq
    subst e
    exact ⟨p, kv, rfl, h1, nm, rk⟩
section
variable {X : Cx} {A : AS} {a b c e : Expr} {x y z d : D} {ds : List D} {pos : Pos} {kvs : List (Key × D)} {k : Key} {ns ms : List Int}
theorem pd_dgetD (hu : X.A.units + 1 < cLine) (ho : PD X A a (dictD kvs)) (hk : PD X A b (kD k)) (hg : getD' kvs k = some d) (hs : NoSl b := by intro _ _; rfl) : PD X A (.Subscript a b pos) d :=
  pd_of (pe_dget hu ho hk hs) fun σ H Q ⟨W, H0, F, ps, hs, q⟩ => by
    refine ⟨W, H0, F, ps, hs, fun v H1 x1 r1 => ⟨W, H0, F, ps, hs.ext x1, fun vk H2 x2 r2 => ?_⟩⟩
    rw [rep_kD r2]
    obtain ⟨p, kv, rfl, h1, nm, rk⟩ := rep_dict r1
    obtain ⟨w, e4, rv⟩ := (repK_get rk).1 d hg
    exact ⟨p, w, rfl, .inl ⟨kv, k, rd_ex x2 h1, rfl, e4.symm⟩, q w H2 (ex_trans x1 x2) (rv.ex x2)⟩
theorem cd_sortedD (hc : X.calm = true) (hk : kvs.map (·.1) = ns.map Sum.inl) (hp : ms.Perm ns) (hs : ms.Pairwise (· ≤ ·)) : CallD X (.builtin "sorted") [dictD kvs] (.list (ms.map .int)) :=
  ⟨_, cr_sortedD hc, fun M H vs Q hM r q => by
    obtain ⟨v, rfl, rv⟩ := repA1 r
    obtain ⟨p, kv, rfl, h1, nm, rk⟩ := rep_dict rv
    refine ⟨_, _, ns, rfl, h1, (repK_keys rk).trans hk, fun ks p h2 h3 hp' => ?_⟩
    rw [pairwise_le_eq (h2.trans hp.symm) h3 hs]
    exact q _ _ (ex_new hp') (.lst (.inl ⟨.inl upd_same, fun m => hM p m hp'⟩) (RepA.of_ints ms))⟩
end
section
variable {X : Cx} {A : AS} {tg elt : Expr} {ifs : List Expr} {scope : Scope} {kvs : List (Key × D)} {n : Str} {np pos : Pos}
/-- [g x for x in d if p x], d a dict that slot i holds as data -/
theorem pd_lcKf {α : Type} (i : Nat) (own : List (Str × Nat)) (xs : List α) (enc g : α → D) (p : α → Bool) (hk : keysD kvs = xs.map enc) (hc : X.calm = true) (hN : X.N.Nodup) (hi : A.ρ[i]? = some (.dat (dictD kvs))) (ok : BlkOk X.N X.env.scope scope own) (hl : xs.length ≤ 100000)
    (ht : ∀ x ∈ xs, LcT X A scope (own.map (·.2)) tg elt ifs (enc x) (if p x = true then some (g x) else none)) (hf : noLs ((xs.filter p).map g) = true) (hn : X.N[i]? = some n := by rfl) (hv : Vis X.env.scope n := by first | exact Or.inl rfl | exact Or.inr (Or.inl rfl) | exact Or.inr (Or.inr rfl)) (hd : (n == ("__debug__" : Str)) = false := by decide) (hcd : (n == ("__classdict__" : Str)) = false := by decide)
    (hs : ∀ x, foldedSetIterable (.Name n np) X.env x = pure x := by intro _; rfl) : PD X A (.ListComp elt [⟨tg, .Name n np, ifs, 0⟩] scope pos) (.list ((xs.filter p).map g)) := by
  rw [← fm_if xs] at hf ⊢
  exact pd_lcK i own _ (by rw [hk]; simp) hc hN hi hn hv ok (by rw [hk]; simpa using hl) (by rw [hk]; exact turns_if ht) hf hd hcd hs
end
/-! ### for x in a list of one's own, which is not touched meanwhile and forgotten behind -/
def dropO (j : Nat) : Sl → Sl
  | .obj k => if k = j then .no else .obj k
  | s => s
section
variable {K : PySem.W.Frag} {ps ps' : List (Option Addr)} {W W' F : List Addr} {H0 H H1 : Hp} {A A' : AS} {σ σ' : L2.St}
theorem mx_set : ∀ {ps : List (Option Addr)} {j : Nat}, (Mx (ps.set j none)).Sublist (Mx ps)
  | [], _ => List.Sublist.refl _
  | none :: ps, 0 => List.Sublist.refl _
  | some a :: ps, 0 => by
    show (Mx ps).Sublist (a :: Mx ps)
    exact List.sublist_cons_self _ _
  | none :: ps, j + 1 => mx_set (ps := ps) (j := j)
  | some a :: ps, j + 1 => by
    show (a :: Mx (ps.set j none)).Sublist (a :: Mx ps)
    exact (mx_set (ps := ps) (j := j)).cons_cons a
theorem Has.lend (h : Has K W H0 F ps A σ H) {j : Nat} {p : Addr} (hp : ps[j]? = some (some p)) : Has K ((Mx ps ++ W).filter fun a => decide (a ≠ p)) H (Mx ps ++ F) (ps.set j none) ⟨A.ρ.map (dropO j), A.μ.set j .no⟩ σ H := by
  have sub : ∀ a, a ∈ Mx (ps.set j none) → a ∈ Mx ps := fun a z => mx_set.subset z
  have g : Go (Mx ps ++ F) (Mx (ps.set j none) ++ (Mx ps ++ F)) H H := Go.sub fun a z => (List.mem_append.mp z).elim (fun q => List.mem_append_left _ (sub a q)) id
  have jl : j < ps.length := (List.getElem?_eq_some_iff.mp hp).1
  have inW : ∀ a, a ∈ ((Mx ps ++ W).filter fun a => decide (a ≠ p)) → a ∈ Mx ps ++ W := fun a z => (List.mem_filter.mp z).1
  exact {
    ex := fun a o _ e => e
    len := by rw [List.length_map]; exact h.len
    sl := fun i s q => by
      have q' : (A.ρ.map (dropO j))[i]? = some s := q
      rw [List.getElem?_map] at q'
      cases e : A.ρ[i]? with
      | none => rw [e] at q'; cases q'
      | some s0 =>
        rw [e] at q'
        have q2 : dropO j s0 = s := Option.some.inj q'
        have b := h.sl i s0 e
        cases s0 with
        | no => rw [← q2]; trivial
        | dat d => rw [← q2]; exact SlOk.go (s := .dat d) g b
        | datF d => rw [← q2]; exact SlOk.go (s := .datF d) g b
        | obj k =>
          rw [← q2]
          show SlOk K _ _ H _ (if k = j then .no else .obj k)
          by_cases c : k = j
          · rw [if_pos c]; trivial
          · rw [if_neg c]
            obtain ⟨r, e1, e2⟩ := b
            exact ⟨r, e1, by rw [List.getElem?_set_ne (fun z => c z.symm)]; exact e2⟩
    ml := by rw [List.length_set, List.length_set]; exact h.ml
    mo := fun k o q => by
      have q' : (A.μ.set j .no)[k]? = some o := q
      by_cases c : j = k
      · subst c
        rw [List.getElem?_set_self (by rw [← h.ml]; exact jl)] at q'
        cases q'
        exact ⟨none, by rw [List.getElem?_set_self jl], rfl⟩
      · rw [List.getElem?_set_ne c] at q'
        obtain ⟨r, e1, e2⟩ := h.mo k o q'
        exact ⟨r, by rw [List.getElem?_set_ne c]; exact e1, e2.go g fun _ _ _ z => z⟩
    fr := fun a z => .inr (List.mem_filter.mpr ⟨List.mem_append_left _ (sub a z), decide_eq_true fun e => by
      subst e
      obtain ⟨k, hk⟩ := List.mem_iff_getElem?.mp (mem_mx.mp z)
      by_cases c : j = k
      · subst c
        rw [List.getElem?_set_self jl] at hk
        cases hk
      · rw [List.getElem?_set_ne c] at hk
        exact c (nd_pos h.nd hp hk)⟩)
    nd := mx_set.nodup h.nd
    wf := fun a z => (List.mem_append.mp (inW a z)).elim (List.mem_append_left _) fun q => List.mem_append_right _ (h.wf a q)
    wo := fun a z => (List.mem_append.mp (inW a z)).elim h.mx (h.wo a)
    ff := fun a z => h.avoid z }
theorem Has.goes' {σ0 : L2.St} (h0 : Has K W H0 F ps A σ0 H1) (sub : ∀ a ∈ W', a ∈ Mx ps ++ W) (h : Has K W' H1 (Mx ps ++ F) ps' A' σ' H) : Go (Mx ps ++ F) (Mx ps' ++ (Mx ps ++ F)) H1 H := by
  have nw : ∀ a, a ∉ Mx ps ++ F → a ∉ W' := fun a m z => m ((List.mem_append.mp (sub a z)).elim (List.mem_append_left _) fun q => List.mem_append_right _ (h0.wf a q))
  have no : ∀ a, a ∉ Mx ps ++ F → H1 a ≠ none → a ∉ Mx ps' ++ (Mx ps ++ F) := fun a m t z => by
    rcases List.mem_append.mp z with z | z
    · rcases h.fr a z with q | q
      · exact t q
      · exact nw a m q
    · exact m z
  have ow : ∀ a, a ∈ W' → Own (H1 a) := fun a z => (List.mem_append.mp (sub a z)).elim h0.mx (h0.wo a)
  refine ⟨fun a xs r m => ⟨?_, no a m (rd_some r)⟩, fun a xs r => ?_, fun a o u r => h.ex a _ (fun z => (own_tup (ow a z)).2 o u r) r, fun a kv r m => ⟨r.elim (fun r => .inl (h.ex a _ (nw a m) r)) (fun ⟨u, r⟩ => .inr ⟨u, h.ex a _ (nw a m) r⟩), no a m (rd_some r)⟩⟩
  · rcases r with r | ⟨u, r⟩
    · exact .inl (h.ex a _ (nw a m) r)
    · exact .inr ⟨u, h.ex a _ (nw a m) r⟩
  · refine h.ex a _ (fun z => ?_) r
    exact (own_tup (ow a z)).1 xs r
theorem Has.back' {σ0 : L2.St} (h0 : Has K W H0 F ps A σ0 H1) (sub : ∀ a ∈ W', a ∈ Mx ps ++ W) (ow : ∀ a ∈ W, a ∉ W' → Own (H a)) (h : Has K W' H1 (Mx ps ++ F) ps' A' σ' H) : Has K W H0 F ps' A' σ' H := by
  have g : Go (Mx ps' ++ (Mx ps ++ F)) (Mx ps' ++ F) H H := Go.sub fun a z => (List.mem_append.mp z).elim (List.mem_append_left _) fun q => List.mem_append_right _ (List.mem_append_right _ q)
  exact {
    ex := fun a o w e => by
      refine h.ex a o (fun z => ?_) (h0.ex a o w e)
      rcases List.mem_append.mp (sub a z) with z | z
      · rcases h0.fr a z with q | q
        · rw [q] at e; cases e
        · exact w q
      · exact w z
    len := h.len
    sl := fun i s q => (h.sl i s q).go g
    ml := h.ml
    mo := fun j o q => let ⟨p, e1, e2⟩ := h.mo j o q; ⟨p, e1, e2.go g fun _ _ _ z => z⟩
    fr := fun p hp => by
      by_cases w : p ∈ W
      · exact .inr w
      · refine .inl ?_
        rcases h.fr p hp with q | q
        · cases e : H0 p with
          | none => rfl
          | some o => rw [h0.ex p o w e] at q; cases q
        · rcases List.mem_append.mp (sub p q) with q | q
          · exact (h0.fr p q).elim id fun z => absurd z w
          · exact absurd q w
    nd := h.nd
    wf := h0.wf
    wo := fun a w => by
      by_cases c : a ∈ W'
      · exact h.wo a c
      · exact ow a w c
    ff := fun a f => h.ff a (List.mem_append_right _ f) }
end
section
variable {X : Cx} {A : AS} {Φ : AE} {sts : List Stmt} {ds : List D} {pos np : Pos} {n : Str}
theorem sd_forO {tg : Expr} (vs : List Nat) (i j : Nat) (I : Nat → AS → Prop) (hp : PassesOwn (model X.prog X.w) X.A X.env X.xe) (hc : X.calm = true) (h0 : I 0 ⟨A.ρ.map (dropO j), A.μ.set j .no⟩)
    (step : ∀ (k : Nat) (d : D) (A' : AS), ds[k]? = some d → I k A' → ∃ A'', PGD X vs tg A' d A'' ∧ SDs X A'' sts { nx := I (k + 1), ct := I (k + 1), bk := Φ.nx, rt := Φ.rt, rtF := Φ.rtF })
    (hd : ∀ A', I ds.length A' → Φ.nx A') (hi : A.ρ[i]? = some (.obj j) := by rfl) (hj : A.μ[j]? = some (.lst ds) := by rfl) (hN : X.N[i]? = some n := by rfl) (hv : Vis X.env.scope n := by first | exact Or.inl rfl | exact Or.inr (Or.inl rfl) | exact Or.inr (Or.inr rfl))
    (hdb : (n == ("__debug__" : Str)) = false := by decide) (hcd : (n == ("__classdict__" : Str)) = false := by decide)
    (hs : ∀ x, foldedSetIterable (.Name n np) X.env x = pure x := by intro _; rfl) : SD X A (.For tg (.Name n np) sts [] pos) Φ := by
  have pg : PG X tg (fun v σ H Q => ∃ A' d A'', PGD X vs tg A' d A'' ∧ tG X.K vs A' d A'' v σ H Q) := ⟨fun pins s σ H v u Q I r ⟨A', d, A'', h, q⟩ => h.run pins s σ H v u Q I r q⟩
  have pb : PSs X sts (fun Dn σ H => ∃ A' Φ', SDs X A' sts Φ' ∧ tS X.K A' Φ' Dn σ H) := ⟨fun pins s σ H Dn I ⟨A', Φ', h, q⟩ => h.run pins s σ H Dn I q⟩
  refine sd_of (ps_for hp hc (pi_list (pe_var hN hv hdb hcd)) pg pb hs) fun Dn σ H1 ⟨W, H0, F, ps, h1, rz⟩ => ?_
  obtain ⟨p, e1, e2, e3⟩ := h1.obj hi hj
  obtain ⟨xs, hx, rx⟩ := mok_lst e3
  refine ⟨.ref p, e1, p, rfl, ⟨xs, .inl (.inl hx)⟩, ?_⟩
  have sub : ∀ a ∈ ((Mx ps ++ W).filter fun a => decide (a ≠ p)), a ∈ Mx ps ++ W := fun a z => (List.mem_filter.mp z).1
  have np' : p ∉ ((Mx ps ++ W).filter fun a => decide (a ≠ p)) := fun z => of_decide_eq_true (List.mem_filter.mp z).2 rfl
  have back : ∀ {ps' A' σ' H'}, Has X.K ((Mx ps ++ W).filter fun a => decide (a ≠ p)) H1 (Mx ps ++ F) ps' A' σ' H' → Has X.K W H0 F ps' A' σ' H' := fun {ps' A' σ' H'} h => h1.back' sub (fun a w c => by
    have e : a = p := by
      refine Classical.byContradiction fun ne => c (List.mem_filter.mpr ⟨List.mem_append_right _ w, decide_eq_true ne⟩)
    rw [e, h.ex p _ np' hx]
    trivial) h
  have gs : ∀ {H' : Hp} {a : Addr}, a ∈ Mx ps ++ F → a ∈ Mx ps ++ F := fun h => h
  refine ⟨fun k m σ H => m = ds.length - k ∧ k ≤ ds.length ∧ ∃ ps' A', Has X.K ((Mx ps ++ W).filter fun a => decide (a ≠ p)) H1 (Mx ps ++ F) ps' A' σ H ∧ I k A', ⟨ds.length, rfl, Nat.zero_le _, _, _, h1.lend e2, h0⟩, ?_⟩
  rintro k m σ2 H2 ⟨rfl, hi2, ps2, A2, h2, i2⟩
  have g := h1.goes' sub h2
  have hx2 := h2.ex p _ np' hx
  by_cases hlt : k < ds.length
  · obtain ⟨v, ev, _⟩ := rx.get' (List.getElem?_eq_getElem hlt)
    refine .inr ⟨⟨xs, v, .inl (.inl hx2), ev⟩, fun σ H => ∃ ps' A', Has X.K ((Mx ps ++ W).filter fun a => decide (a ≠ p)) H1 (Mx ps ++ F) ps' A' σ H ∧ I (k + 1) A', fun σ' H' ⟨ps', A', h', i'⟩ => ⟨ds.length - (k + 1), by omega, rfl, hlt, ps', A', h', i'⟩, fun x H3 ⟨y1, y2⟩ => ?_⟩
    subst y1
    obtain ⟨d, ed, rd⟩ := rx.get (y2 xs (.inl (.inl hx2)))
    obtain ⟨A3, pg3, sd3⟩ := step k d A2 ed i2
    refine ⟨A2, d, A3, pg3, _, H1, Mx ps ++ F, ps2, h2, rd.go g, fun σ' h' _ => ?_⟩
    refine ⟨A3, _, sd3, _, H1, Mx ps ++ F, ps2, h', ?_⟩
    exact ⟨fun ps A σ H h q => ⟨ps, A, h, q⟩, fun ps A σ H h q => rz.nx ps A σ H (back h) q, fun ps A σ H h q => ⟨ps, A, h, q⟩,
      fun ps A σ H v d h r q => rz.rt ps A σ H v d (back h) (r.go (Go.sub fun a z => (List.mem_append.mp z).elim (List.mem_append_left _) fun q => List.mem_append_right _ (List.mem_append_right _ q))) q,
      fun ps A σ H v d h r q => rz.rtF ps A σ H v d (back h) (r.go (Go.sub fun a z => (List.mem_append.mp z).elim (List.mem_append_left _) fun q => List.mem_append_right _ (List.mem_append_right _ q))) q⟩
  · have e : k = ds.length := by omega
    subst e
    exact .inl ⟨⟨xs, .inl (.inl hx2), by rw [rx.length]; exact Nat.le_refl _⟩, rz.nx ps2 A2 σ2 H2 (back h2) (hd A2 i2)⟩
end
end Z

namespace Z
open PySem PySem.Spec PyProof.Rows L2
/-! ### own lists: made of a tuple, stored at a place -/
section
variable {K : PySem.W.Frag} {M : List Addr} {H : Hp}
theorem RepA.set : ∀ {vs : List V} {ds : List D} {v : V} {d : D} (i : Nat), RepA K M H vs ds → Rep K M H v d → RepA K M H (vs.set i v) (ds.set i d)
  | _, _, _, _, _, .nil, _ => .nil
  | _, _, _, _, 0, .cons _ t, r => .cons r t
  | _, _, _, _, i + 1, .cons x t, r => .cons x (RepA.set i t r)
end
section
variable {X : Cx} {A : AS} {Φ : AE} {a b c e : Expr} {x y z d : D} {ds ds' : List D} {pos p : Pos} {n : Str}
/-- list(a tuple), a new list -/
theorem pdl_listT (hm : X.mg "list" = none) (ha : PD X A a (.tuple ds)) (hg : Gl X "list" := by rfl) (he : starEach (a :: []) X.env = (false, eval a X.env) :: starEach [] X.env := by rfl) (hpl : (backTo pos (starEach [] X.env)).any (·.1) = false := by rfl) : PDL X A (.Call (.Name "list" p) [a] [] pos) ds :=
  pdl_of (pe_callTy call_list_of hg hm bb_list (pa_cons ha pa_nil he) (by decide) (by decide) he hpl) fun σ H Q ⟨W, H0, F, ps, hs, q⟩ => ⟨W, H0, F, ps, hs, fun v H1 e1 r1 => by
    cases r1 with
    | tup h1 r => exact ⟨_, _, rfl, .inr h1.sq, fun l hl => q l _ _ (ex_trans e1 (ex_new hl)) (none_of e1 hl) upd_same (r.go (Go.foreign' (ex_new hl) hl))⟩⟩
/-- x[k] = e -/
theorem sd_lput (i j : Nat) {np tpos : Pos} {k : Int} (m : Nat) (he : PD X A e d) (hb : PD X A b (.int k)) (hk : ixN ds.length k = some m) (h : Φ.nx ⟨A.ρ, A.μ.set j (.lst (ds.set m d))⟩) (hi : A.ρ[i]? = some (.obj j) := by rfl) (hj : A.μ[j]? = some (.lst ds) := by rfl)
    (hN : X.N[i]? = some n := by rfl) (hv : Vis X.env.scope n := by first | exact Or.inl rfl | exact Or.inr (Or.inl rfl) | exact Or.inr (Or.inr rfl)) (hd : (n == ("__debug__" : Str)) = false := by decide) (hcd : (n == ("__classdict__" : Str)) = false := by decide)
    (hs : swapsWithSole [.Subscript (.Name n np) b tpos] e pos.line X.env = pure false := by rfl) (hw : swappedStores [.Subscript (.Name n np) b tpos] e X.env = pure none := by rfl)
    (h1 : (assignEach [.Subscript (.Name n np) b tpos] X.env).map (·.2) = [assign (.Subscript (.Name n np) b tpos) X.env] := by rfl)
    (ha : ∀ v, assign (.Subscript (.Name n np) b tpos) X.env v = (do let ov ← holding [v] (eval (.Name n np) X.env); let iv ← holding [v, ov] (eval b X.env); standAt tpos; holding [v, ov, iv] (setItem ov iv v); release [v, ov, iv] []) := by intro _; rfl) : SD X A (.Assign [.Subscript (.Name n np) b tpos] e pos) Φ :=
  sd_of (ps_asg he (pg_sub (pe_var hN hv hd hcd) hb set_list ha) hs hw h1) fun Dn σ H ⟨W, H0, F, ps, hs, rz⟩ => ⟨W, H0, F, ps, hs, fun v H1 x1 r1 => by
    obtain ⟨p, e1, e2, e3⟩ := hs.obj hi hj
    obtain ⟨xs, hp, rx⟩ := mok_lst e3
    refine ⟨.ref p, e1, W, H0, F, ps, hs.ext x1, fun vk H2 x2 r2 => ?_⟩
    cases r2
    have hp2 : H2 p = some (.lst xs) := x2 _ _ (x1 _ _ hp)
    have hs2 := (hs.ext x1).ext x2
    have mp : p ∈ Mx ps ++ F := List.mem_append_left _ (mem_mx.mpr (List.mem_of_getElem? e2))
    have g : Go (Mx ps ++ F) (Mx ps ++ F) H2 (upd H2 p (.lst (xs.set m v))) := Go.mut mp (by rw [hp2]; trivial)
    exact ⟨p, xs, k, m, rfl, rfl, hp2, by rw [rx.length]; exact hk, rz.nx _ _ _ _ (hs2.mut' (o := .lst (xs.set m v)) (m := .lst (ds.set m d)) e2 trivial ⟨p, _, rfl, upd_same, RepA.set m (((rx.ex x1).ex x2).go g) ((r1.ex x2).go g)⟩) h⟩⟩
end
theorem cd_abs {X : Cx} {i : Int} : CallD X (.builtin "abs") [.int i] (.int (if i < 0 then -i else i)) := ⟨_, call_abs, fun M H vs Q _ r q => by
  obtain ⟨v, rfl, rv⟩ := repA1 r
  cases rv
  exact ⟨i, rfl, q _ H (ex_refl H) (.int _)⟩⟩
end Z

namespace Z
open PySem PySem.Spec PyProof.Rows L2
/-! ### great divisors, powers, is -/
section
variable {X : Cx} {A : AS} {a b c e : Expr} {x y z d : D} {pos p : Pos} {i j : Int}
theorem pd_fdivB (ha : PD X A a (.int i)) (hb : PD X A b (.int j)) (h0 : 0 < j) (hc : j < 18446744073709551616) : PD X A (.BinOp a .FloorDiv b pos) (.int (i / j)) :=
  pd_op op_fdivW (rd_I (C := CDivW) (wide_div (b := 64) h0 (by omega) (by decide) (by decide))) ha hb
theorem pd_pow (ha : PD X A a (.int i)) (hb : PD X A b (.int j)) (hc : CPow i j) : PD X A (.BinOp a .Pow b pos) (.int (i ^ j.toNat)) := pd_op op_pow (rd_I (C := CPow) hc) ha hb
theorem rep_no {K : PySem.W.Frag} {M : List Addr} {H : Hp} {v : V} (r : Rep K M H v d) : decide (v = V.non) = isNo d := by
  cases r with
  | non => rfl
  | bl b => exact decide_eq_false (fun z => nomatch z)
  | int i => exact decide_eq_false (fun z => nomatch z)
  | str x => exact decide_eq_false (fun z => nomatch z)
  | lst h r => exact decide_eq_false (fun z => nomatch z)
  | tup h r => exact decide_eq_false (fun z => nomatch z)
  | dct h _ _ _ => exact decide_eq_false (fun z => nomatch z)
theorem rd_isN {K : PySem.W.Frag} : RD2 K rIsN d .none (.bool (isNo d)) := fun M H vx vy Q _ r1 r2 q => by
  cases r2
  refine ⟨rfl, ?_⟩
  rw [rep_no r1]
  exact q _ H (ex_refl H) (.bl _)
theorem rd_notN {K : PySem.W.Frag} : RD2 K rNotN d .none (.bool (!isNo d)) := fun M H vx vy Q _ r1 r2 q => by
  cases r2
  refine ⟨rfl, ?_⟩
  rw [rep_no r1]
  exact q _ H (ex_refl H) (.bl _)
theorem pd_isN (ha : PD X A a d) (hb : PD X A b .none) (hm : behindInMarks .Is b = false := by rfl) : PD X A (.Compare a [.Is] [b] pos) (.bool (isNo d)) := pd_cmp op_isN1 rd_isN ha hb hm
theorem pd_notN (ha : PD X A a d) (hb : PD X A b .none) (hm : behindInMarks .IsNot b = false := by rfl) : PD X A (.Compare a [.IsNot] [b] pos) (.bool (!isNo d)) := pd_cmp op_notN1 rd_notN ha hb hm
theorem pt_notN (ha : PD X A a d) (hb : PD X A b .none) (hm : behindInMarks .IsNot b = false := by rfl) : PTD X A (.Compare a [.IsNot] [b] pos) (!isNo d) := ptd_cmp op_notN1 rd_notN ha hb hm
/-- is not True, of truths -/
theorem pt_notB {k l : Bool} (ha : PD X A a (.bool k)) (hb : PD X A b (.bool l)) (hm : behindInMarks .IsNot b = false := by rfl) : PTD X A (.Compare a [.IsNot] [b] pos) (!decide (k = l)) :=
  ptd_cmp op_notBl (fun M H vx vy Q _ r1 r2 q => by
    cases r1
    cases r2
    exact ⟨_, _, rfl, rfl, q _ H (ex_refl H) (.bl _)⟩) ha hb hm
end
section
variable {X : Cx} {A : AS} {a b : Expr} {pos : Pos}
/-- range of great numbers -/
theorem pid_range2B {tg : Expr} {lo hi : Nat} {i j : Int} {p : Pos} (hm : X.mg "range" = none) (ha : PDs X A [a, b] [.int i, .int j]) (hi' : i = (lo : Int)) (hj : j = (hi : Int)) (hb : lo < 4611686018427387904 ∧ hi < 4611686018427387904) (hg : Gl X "range" := by rfl)
    (hs : starEach [a, b] X.env = [(false, eval a X.env), (false, eval b X.env)] := by rfl) (hs2 : starEach [b] X.env = [(false, eval b X.env)] := by rfl) :
    PID X A tg (.Call (.Name "range" p) [a, b] [] pos) ((List.range (hi - lo)).map fun k => iD (lo + k)) := by
  rw [← ups_nat]
  exact pid_of (pi_range2 hg hm ha hs hs2) fun σ H R ⟨W, H0, F, ps, hs, q⟩ => ⟨W, H0, F, ps, hs, fun vs H1 e1 r1 => by
    cases r1 with
    | cons rx r2 =>
      cases r2 with
      | cons ry r3 =>
        cases r3
        cases rx
        cases ry
        subst hi' hj
        refine ⟨_, _, rfl, ⟨by omega, by omega, by omega, by omega⟩, q _ H1 e1 ?_⟩
        have e : ((hi : Int) - (lo : Int)).toNat = hi - lo := by omega
        rw [e]
        exact itd_range⟩
end
end Z

namespace Z
open PySem PySem.Spec PyProof.Rows L2
/-! ### expressions that change what is owned: told by the state behind; the same objects -/
def tX (K : PySem.W.Frag) (A : AS) (d : D) (A' : AS) : TE := fun σ H Q => ∃ W H0 F ps, Has K W H0 F ps A σ H ∧ ∀ v H', Has K W H0 F ps A' σ H' → Rep K (Mx ps ++ F) H' v d → Q v H'
def tTX (K : PySem.W.Frag) (A : AS) (k : Bool) (A' : AS) : TT := fun σ H Q => ∃ W H0 F ps, Has K W H0 F ps A σ H ∧ ∀ H', Has K W H0 F ps A' σ H' → Q k H'
def PX (X : Cx) (A : AS) (e : Expr) (d : D) (A' : AS) : Prop := PE X e (tX X.K A d A')
def PTX (X : Cx) (A : AS) (e : Expr) (k : Bool) (A' : AS) : Prop := PT X e (tTX X.K A k A')
def PWX (X : Cx) (A : AS) (e : Expr) (k : Bool) (A' : AS) : Prop := PW X e (tTX X.K A k A')
section
variable {X : Cx} {A A' : AS} {Φ : AE} {a b c e : Expr} {es : List Expr} {x y z d : D} {ds : List D} {k : Bool} {pos p : Pos}
theorem px_of {t : TE} (h : PE X e t) (r : ∀ σ H Q, tX X.K A d A' σ H Q → t σ H Q) : PX X A e d A' := ⟨fun pins s σ H Q I hq => h.run pins s σ H Q I (r σ H Q hq)⟩
theorem ptx_of {t : TT} (h : PT X e t) (r : ∀ σ H Q, tTX X.K A k A' σ H Q → t σ H Q) : PTX X A e k A' := ⟨fun pins s σ H Q I hq => h.run pins s σ H Q I (r σ H Q hq)⟩
theorem pwx_of {t : TT} (h : PW X e t) (r : ∀ σ H Q, tTX X.K A k A' σ H Q → t σ H Q) : PWX X A e k A' := ⟨fun wh pins s σ H Q I hq => h.run wh pins s σ H Q I (r σ H Q hq)⟩
theorem PX.eq (h : PX X A e x A') (q : x = y) : PX X A e y A' := q ▸ h
theorem PTX.eq {k' : Bool} (h : PTX X A e k A') (q : k = k') : PTX X A e k' A' := q ▸ h
/-- a op b, a changes -/
theorem ptx_cmp {op : CmpOp} {r : R2} (ho : OpR X (compareOp op) r) (hr : RD2 X.K r x y (.bool k)) (ha : PX X A a x A') (hb : PD X A' b y) (hm : behindInMarks op b = false) : PTX X A (.Compare a [op] [b] pos) k A' :=
  ptx_of (pt_cmpR ho ha hb hm) fun σ H Q ⟨W, H0, F, ps, hs, q⟩ => ⟨W, H0, F, ps, hs, fun vx H1 h1 r1 => ⟨W, H0, F, ps, h1, fun vy H2 e2 r2 =>
    hr (Mx ps ++ F) H2 vx vy _ (fun a m => (h1.ext e2).avoid m) (r1.ex e2) r2 fun v H3 e3 r3 => by
      cases r3
      exact ⟨k, rfl, q H3 (h1.ext (ex_trans e2 e3))⟩⟩⟩
theorem ptx_neS {n : Nat} (hu : X.A.units + 64 < cLine) (hs : Sh n d) (ha : PX X A a d A') (hb : PD X A' b d) (hn : n ≤ 64 := by decide) : PTX X A (.Compare a [.NotEq] [b] pos) false A' :=
  PTX.eq (ptx_cmp (op_neD hu) (rd_neD (hs.ed hn) (hs.ed hn)) ha hb (nomark _)) (by rw [eqv_same hs]; rfl)
theorem ptx_notN (ha : PX X A a d A') (hb : PD X A' b .none) (hm : behindInMarks .IsNot b = false := by rfl) : PTX X A (.Compare a [.IsNot] [b] pos) (!isNo d) A' := ptx_cmp op_notN1 rd_notN ha hb hm
theorem pwx_or1 (ha : PTX X A a k A') : PWX X A (.BoolOp .Or [a] pos) k A' := pwx_of (pw_or1 ha) fun _ _ _ h => h
/-- a or b, a no, b changes -/
theorem ptx_or2 (ha : PTD X A a false) (hb : PTX X A b k A') : PTX X A (.BoolOp .Or [a, b] pos) k A' := by
  have p : PW X (.BoolOp .Or [b] pos) (tTX X.K A k A') := pwx_or1 hb
  exact ptx_of (pw_or ha p).pt fun σ H Q ⟨W, H0, F, ps, hs, q⟩ => ⟨W, H0, F, ps, hs, fun H1 e1 => iteF ⟨W, H0, F, ps, hs.ext e1, q⟩⟩
theorem sd_ifX {sts rest : List Stmt} (hc : PTX X A c k A') (h1 : k = true → SDs X A' sts Φ) (h2 : k = false → SDs X A' rest Φ) : SD X A (.If c sts rest pos) Φ := by
  have p1 : PSs X sts (fun Dn σ H => k = true ∧ tS X.K A' Φ Dn σ H) := ⟨fun pins s σ H Dn I q => (h1 q.1).run pins s σ H Dn I q.2⟩
  have p2 : PSs X rest (fun Dn σ H => k = false ∧ tS X.K A' Φ Dn σ H) := ⟨fun pins s σ H Dn I q => (h2 q.1).run pins s σ H Dn I q.2⟩
  refine sd_of (ps_if hc p1 p2) fun Dn σ H ⟨W, H0, F, ps, hs, rz⟩ => ⟨W, H0, F, ps, hs, fun H1 e1 => ?_⟩
  cases k with
  | true => exact iteT ⟨rfl, W, H0, F, ps, e1, rz⟩
  | false => exact iteF ⟨rfl, W, H0, F, ps, e1, rz⟩
theorem sds_noX {sts rest : List Stmt} (hc : PTX X A c false A') (h : SDs X A' rest Φ) : SDs X A (.If c sts [] pos :: rest) Φ :=
  sds_cons (sd_ifX hc (fun z => nomatch z) fun _ => sds_nil h)
/-- x.append(e), e changes what is owned -/
theorem sd_appendX (i j : Nat) {n : Str} {np apos cpos : Pos} (he : PX X A e d A') (hl : ds.length < 100000) (h : Φ.nx ⟨A'.ρ, A'.μ.set j (.lst (ds ++ [d]))⟩) (hi : A.ρ[i]? = some (.obj j) := by rfl) (hj0 : A.μ[j]? = some (.lst ds) := by rfl) (hj : A'.μ[j]? = some (.lst ds) := by rfl)
    (hN : X.N[i]? = some n := by rfl) (hv : Vis X.env.scope n := by first | exact Or.inl rfl | exact Or.inr (Or.inl rfl) | exact Or.inr (Or.inr rfl)) (hd : (n == ("__debug__" : Str)) = false := by decide) (hcd : (n == ("__classdict__" : Str)) = false := by decide)
    (hbase : attributeBase (.Name n np) "append" X.env (eval (.Name n np) X.env) = eval (.Name n np) X.env := by rfl)
    (hfew : ((backTo cpos (starEach [e] X.env)).all (fun x => !x.1) && (backToKw cpos (keywordEach [] X.env)).all (fun x => x.1.isSome)
      && decide ([e].length + ([] : List Keyword).length + (if ([] : List Keyword).isEmpty then 0 else 1) < 30)) = true := by rfl)
    (hline : (apos.endLine == cpos.line) = true := by rfl) (hs : starEach (e :: []) X.env = (false, eval e X.env) :: starEach [] X.env := by rfl) (hplain : (backTo cpos (starEach [] X.env)).any (·.1) = false := by rfl)
    (hsw : swapsWith (.Call (.Attribute (.Name n np) "append" apos) [e] [] cpos) none pos.line X.env = pure false := by rfl) : SD X A (.Expr (.Call (.Attribute (.Name n np) "append" apos) [e] [] cpos) pos) Φ := by
  refine sd_of (ps_expr (pe_bm PySem.F.plainAttrs_list PySem.F.slot_list_append PySem.F.type_list_append mt_append (pe_var hN hv hd hcd) (pa_cons he pa_nil hs) hbase hfew hline hs hplain) hsw) fun Dn σ H ⟨W, H0, F, ps, hs, rz⟩ => ?_
  obtain ⟨p, e1, e2, e3⟩ := hs.obj hi hj0
  obtain ⟨xs, hp, rx⟩ := mok_lst e3
  refine ⟨.ref p, e1, .inl ⟨rfl, xs, .of hp⟩, W, H0, F, ps, hs, fun v H1 h1 r1 => ?_⟩
  obtain ⟨p', e2', e3'⟩ := h1.mo j _ hj
  have ep : p' = some p := by rw [e2] at e2'; exact (Option.some.inj e2').symm
  subst ep
  obtain ⟨ys, hp1, ry⟩ := mok_lst e3'
  refine ⟨p, ys, v, rfl, rfl, hp1, by rw [ry.length]; exact Nat.lt_of_lt_of_le hl (by decide), ?_⟩
  have mp : p ∈ Mx ps ++ F := List.mem_append_left _ (mem_mx.mpr (List.mem_of_getElem? e2))
  have g : Go (Mx ps ++ F) (Mx ps ++ F) H1 (upd H1 p (.lst (ys ++ [v]))) := Go.mut mp (by rw [hp1]; trivial)
  exact rz.nx _ _ _ _ (h1.mut' (o := .lst (ys ++ [v])) (m := .lst (ds ++ [d])) e2 trivial ⟨p, _, rfl, upd_same, RepA.append (ry.go g) (.cons (r1.go g) .nil)⟩) h
end
/-! ### an object of three numbers -/
def lyF (w s m : Nat) : List (Str × V) := [("whole", .int w), ("step", .int s), ("laid", .int m)]
def lyD (w s m : Nat) : List (Str × D) := [("whole", iD w), ("step", iD s), ("laid", iD m)]
theorem ly1 : ¬ (("whole" : Str) = "step") := by decide +kernel
theorem ly2 : ¬ (("whole" : Str) = "laid") := by decide +kernel
theorem ly3 : ¬ (("step" : Str) = "laid") := by decide +kernel
theorem ly_whole (w s m : Nat) : (lyF w s m).lookup ("whole" : Str) = some (.int w) := by
  unfold lyF
  rw [List.lookup_cons, show (("whole" : Str) == "whole") = true by decide +kernel]
theorem ly_step (w s m : Nat) : (lyF w s m).lookup ("step" : Str) = some (.int s) := by
  unfold lyF
  rw [List.lookup_cons, show (("step" : Str) == "whole") = false by decide +kernel]
  simp only
  rw [List.lookup_cons, show (("step" : Str) == "step") = true by decide +kernel]
theorem ly_laid (w s m : Nat) : (lyF w s m).lookup ("laid" : Str) = some (.int m) := by
  unfold lyF
  rw [List.lookup_cons, show (("laid" : Str) == "whole") = false by decide +kernel]
  simp only
  rw [List.lookup_cons, show (("laid" : Str) == "step") = false by decide +kernel]
  simp only
  rw [List.lookup_cons, show (("laid" : Str) == "laid") = true by decide +kernel]
theorem ly_none (w s m : Nat) {f : Str} (h : ((f == ("whole" : Str)) || (f == ("step" : Str)) || (f == ("laid" : Str))) = false) : (lyF w s m).lookup f = none := by
  rw [Bool.or_eq_false_iff, Bool.or_eq_false_iff] at h
  unfold lyF
  rw [List.lookup_cons, h.1.1]
  simp only
  rw [List.lookup_cons, h.1.2]
  simp only
  rw [List.lookup_cons, h.2]
  rfl
theorem ly_make (w s m : Nat) : putF "laid" (.int m) (putF "step" (.int s) (putF "whole" (.int w) [])) = lyF w s m := by
  show putF "laid" (V.int m) (if ("whole" : Str) = "step" then _ else (("whole" : Str), V.int w) :: putF "step" (V.int s) []) = _
  rw [if_neg ly1]
  show (if ("whole" : Str) = "laid" then _ else (("whole" : Str), V.int w) :: (if ("step" : Str) = "laid" then _ else (("step" : Str), V.int s) :: putF "laid" (V.int m) [])) = _
  rw [if_neg ly2, if_neg ly3]
  rfl
theorem ly_put (w s m : Nat) (z : Nat) : putF "laid" (.int z) (lyF w s m) = lyF w s z := by
  show (if ("whole" : Str) = "laid" then _ else (("whole" : Str), V.int w) :: (if ("step" : Str) = "laid" then _ else (("step" : Str), V.int s) :: (if ("laid" : Str) = "laid" then _ else _))) = _
  rw [if_neg ly2, if_neg ly3, if_pos rfl]
  rfl
/-- what is known of the class -/
structure LyT (K : PySem.W.Frag) (C : Addr) : Prop where
  cl : Cls K C
  nW : NoAttr K C "whole"
  nS : NoAttr K C "step"
  nL : NoAttr K C "laid"
/-- a method's promise: from (w, s, m) and arguments to an answer and another m -/
def spLy (K : PySem.W.Frag) (C : Addr) (ψ : Nat → Nat → Nat → List D → D → Nat → Prop) : Sp := fun vs H Q _ => ∃ p dx w s m M us ds d m', vs = .ref p :: us ∧ H p = some (.ins C dx (lyF w s m)) ∧ (∀ a ∈ M, H a ≠ none) ∧ RepA K M H us ds ∧ ψ w s m ds d m' ∧
  ∀ v H', (∀ a o, a ≠ p → H a = some o → H' a = some o) → H' p = some (.ins C dx (lyF w s m')) → Rep K M H' v d → Q v H'
def spIni (C : Addr) : Sp := fun vs H Q _ => ∃ (p dx : Addr) (w s : Nat), vs = [.ref p, .int w, .int s] ∧ H p = some (.ins C dx []) ∧ ∀ H', (∀ a o, a ≠ p → H a = some o → H' a = some o) → H' p = some (.ins C dx (lyF w s 1)) → Q .non H'
structure MFn (P : Program) (w : World) (K : PySem.W.Frag) (mg : Str → Option Value) (base : Heap) (C : Addr) (k : Nat) (m : Str) (ψ : Nat → Nat → Nat → List D → D → Nat → Prop) : Prop where
  ok : ∃ f fd ps, FnOk P w K mg base CX0 k f fd ps (spLy K C ψ) ∧ Meth K C m f ∧ Binds K fd ps []
structure MkF (P : Program) (w : World) (K : PySem.W.Frag) (mg : Str → Option Value) (base : Heap) (C : Addr) (k : Nat) : Prop where
  ok : ∃ f fd ps, FnOk P w K mg base CX0 k f fd ps (spIni C) ∧ Mk K C f ∧ Binds K fd ps []
theorem rep_int {K : PySem.W.Frag} {M : List Addr} {H : Hp} {v : V} {i : Int} (r : Rep K M H v (.int i)) : v = .int i := by cases r; rfl
theorem paired_ly {K : PySem.W.Frag} {M : List Addr} {H : Hp} {w s m : Nat} {vs : List (Str × V)} (h : Paired (fun (x : Str × V) (y : Str × D) => x.1 = y.1 ∧ Rep K M H x.2 y.2) vs (lyD w s m)) : vs = lyF w s m := by
  unfold lyD at h
  cases h with
  | cons h1 h =>
    cases h with
    | cons h2 h =>
      cases h with
      | cons h3 h =>
        cases h
        have g : ∀ {a b : Str × V}, a.1 = b.1 → a.2 = b.2 → a = b := fun h1 h2 => Prod.ext h1 h2
        rw [g (b := (("whole" : Str), V.int w)) h1.1 (rep_int h1.2), g (b := (("step" : Str), V.int s)) h2.1 (rep_int h2.2), g (b := (("laid" : Str), V.int m)) h3.1 (rep_int h3.2)]
        rfl
theorem ly_paired {K : PySem.W.Frag} {M : List Addr} {H : Hp} (w s m : Nat) : Paired (fun (x : Str × V) (y : Str × D) => x.1 = y.1 ∧ Rep K M H x.2 y.2) (lyF w s m) (lyD w s m) :=
  .cons ⟨rfl, .int _⟩ (.cons ⟨rfl, .int _⟩ (.cons ⟨rfl, .int _⟩ .nil))
section
variable {X : Cx} {A : AS} {Φ : AE} {C : Addr} {a b e : Expr} {es : List Expr} {d : D} {ds : List D} {w s m m' : Nat} {n x : Str} {pos p np apos cpos pos' : Pos}
/-- n = X(a, b) -/
theorem sd_make (i : Nat) {k : Nat} (hN : X.N.Nodup) (G : MkF X.prog X.w X.K X.mg X.base C k) (hr : Room (k + 1) X.A) (mC : X.mg x = some (.ref C)) (ha : PD X A a (iD w)) (hb : PD X A b (iD s)) (h : Φ.nx ⟨A.ρ.set i (.obj A.μ.length), A.μ ++ [.ins C (lyD w s 1)]⟩) (hi : X.N[i]? = some n := by rfl) (hx : Loc X.env.scope n := by first | exact Or.inl rfl | exact Or.inr rfl)
    (hs : swapsWith (.Call (.Name x p) [a, b] [] cpos) (some (.Name n pos')) pos.line X.env = pure false := by rfl) (hf : X.fn n = true ∨ X.env.scope.names.lookup n = some .local := by first | exact .inl rfl | exact .inr rfl) (hg : Gl X x := by rfl) (hdb : (x == ("__debug__" : Str)) = false := by decide)
    (he : starEach (a :: [b]) X.env = (false, eval a X.env) :: starEach [b] X.env := by rfl) (he2 : starEach (b :: []) X.env = (false, eval b X.env) :: starEach [] X.env := by rfl) (hpl : (backTo cpos (starEach [b] X.env)).any (·.1) = false := by rfl) : SD X A (.Assign [.Name n pos'] (.Call (.Name x p) [a, b] [] cpos) pos) Φ := by
  obtain ⟨f, fd, prs, G1, G2, G3⟩ := G.ok
  refine sd_of (ps_set hN hi hx (pe_make G2 G1 hr hg mC G3 .nil (E := E0) pass0 (pds_cons ha (pds_cons hb pds_nil he2) he) hdb he hpl) hs hf) fun Dn σ H ⟨W, H0, F, ps, hh, rz⟩ => ⟨W, H0, F, ps, hh, fun vs H1 e1 r1 => fun y dy ny ndy ne => ?_⟩
  obtain ⟨v1, v2, ev, q1, q2⟩ := repA2 r1
  refine ⟨y, dy, w, s, by rw [ev, rep_int q1, rep_int q2]; rfl, upd_same, fun H2 kp hy => ⟨rfl, ?_⟩⟩
  have h1 := hh.ext e1
  have xt : Ex H1 H2 := fun c o hc => kp c o (fun z => by rw [z, ny] at hc; cases hc) (by rw [upd_ne (ne_of_none hc ny), upd_ne (ne_of_none hc ndy)]; exact hc)
  exact rz.nx _ _ _ _ ((h1.adopt (m := .ins C (lyD w s 1)) ny xt (by rw [hy]; intro z; cases z) ⟨y, dy, _, rfl, hy, ly_paired w s 1⟩).set (s := .obj A.μ.length) ⟨y, rfl, by rw [← hh.ml]; simp⟩) h
/-- the object's state when a method was called -/
theorem Has.ins {K : PySem.W.Frag} {ps : List (Option Addr)} {W F : List Addr} {H0 H : Hp} {σ : L2.St} (h : Has K W H0 F ps A σ H) {i j : Nat} (hi : A.ρ[i]? = some (.obj j)) (hj : A.μ[j]? = some (.ins C (lyD w s m))) : ∃ q dx, σ[i]? = some (some (.ref q)) ∧ ps[j]? = some (some q) ∧ H q = some (.ins C dx (lyF w s m)) := by
  obtain ⟨q, e1, e2, c, dx, vs, e3, e4, e5⟩ := h.obj hi hj
  cases e3
  rw [paired_ly e5] at e4
  exact ⟨q, dx, e1, e2, e4⟩
theorem Has.insTo {K : PySem.W.Frag} {ps : List (Option Addr)} {W F : List Addr} {H0 H H' : Hp} {σ : L2.St} (h : Has K W H0 F ps A σ H) {j : Nat} {q dx : Addr} (hj : ps[j]? = some (some q)) (kp : ∀ c o, c ≠ q → H c = some o → H' c = some o) (hq : H' q = some (.ins C dx (lyF w s m'))) : Has K W H0 F ps ⟨A.ρ, A.μ.set j (.ins C (lyD w s m'))⟩ σ H' := by
  refine (h.mut' (o := .ins C dx (lyF w s m')) (m := .ins C (lyD w s m')) hj trivial ⟨q, dx, _, rfl, upd_same, ly_paired w s m'⟩).ext fun c o hc => ?_
  by_cases e : c = q
  · subst e
    rw [upd_same] at hc
    rw [hq, ← hc]
  · rw [upd_ne e] at hc
    exact kp c o e hc
theorem px_ly0 (i j : Nat) {k : Nat} {f : Str} {ψ : Nat → Nat → Nat → List D → D → Nat → Prop} (T : LyT X.K C) (G : MFn X.prog X.w X.K X.mg X.base C k f ψ) (hr : Room k X.A) (h : ψ w s m [] d m') (hi : A.ρ[i]? = some (.obj j) := by rfl) (hj : A.μ[j]? = some (.ins C (lyD w s m)) := by rfl)
    (hm : ((f == ("whole" : Str)) || (f == ("step" : Str)) || (f == ("laid" : Str))) = false := by decide +kernel) (hN : X.N[i]? = some n := by rfl) (hv : Vis X.env.scope n := by first | exact Or.inl rfl | exact Or.inr (Or.inl rfl) | exact Or.inr (Or.inr rfl)) (hd : (n == ("__debug__" : Str)) = false := by decide) (hcd : (n == ("__classdict__" : Str)) = false := by decide) {pl : Sem Bool}
    (ht : eval (.Call (.Attribute (.Name n np) f apos) [] [] pos) X.env = (do
      let ov ← eval (.Name n np) X.env
      standAt apos.atName
      let (f, first) ← holding [ov] (getMethod ov f pl)
      callWith pos f first (backTo pos (starEach [] X.env)) (backToKw pos (keywordEach [] X.env))) := by rfl) : PX X A (.Call (.Attribute (.Name n np) f apos) [] [] pos) d ⟨A.ρ, A.μ.set j (.ins C (lyD w s m'))⟩ := by
  obtain ⟨g, fd, prs, G1, G2, G3⟩ := G.ok
  refine px_of (pe_meth0 (pe_var hN hv hd hcd) T.cl G2 G1 hr G3 .nil (E := E0) pass0 ht) fun σ H Q ⟨W, H0, F, ps, hs, q⟩ => ?_
  obtain ⟨y, dx, e1, e2, e3⟩ := hs.ins hi hj
  refine ⟨.ref y, e1, y, dx, _, rfl, e3, ly_none w s m hm, y, dx, w, s, m, Mx ps ++ F, [], [], d, m', rfl, e3, fun c z => hs.avoid z, .nil, h, fun v H' kp hy r => ?_⟩
  exact q v H' (hs.insTo e2 kp hy) r
theorem pd_ly0 (i j : Nat) {k : Nat} {f : Str} {ψ : Nat → Nat → Nat → List D → D → Nat → Prop} (T : LyT X.K C) (G : MFn X.prog X.w X.K X.mg X.base C k f ψ) (hr : Room k X.A) (h : ψ w s m [] d m) (hi : A.ρ[i]? = some (.obj j) := by rfl) (hj : A.μ[j]? = some (.ins C (lyD w s m)) := by rfl)
    (hm : ((f == ("whole" : Str)) || (f == ("step" : Str)) || (f == ("laid" : Str))) = false := by decide +kernel) (hN : X.N[i]? = some n := by rfl) (hv : Vis X.env.scope n := by first | exact Or.inl rfl | exact Or.inr (Or.inl rfl) | exact Or.inr (Or.inr rfl)) (hd : (n == ("__debug__" : Str)) = false := by decide) (hcd : (n == ("__classdict__" : Str)) = false := by decide) {pl : Sem Bool}
    (ht : eval (.Call (.Attribute (.Name n np) f apos) [] [] pos) X.env = (do
      let ov ← eval (.Name n np) X.env
      standAt apos.atName
      let (f, first) ← holding [ov] (getMethod ov f pl)
      callWith pos f first (backTo pos (starEach [] X.env)) (backToKw pos (keywordEach [] X.env))) := by rfl) : PD X A (.Call (.Attribute (.Name n np) f apos) [] [] pos) d := by
  obtain ⟨g, fd, prs, G1, G2, G3⟩ := G.ok
  refine pd_of (pe_meth0 (pe_var hN hv hd hcd) T.cl G2 G1 hr G3 .nil (E := E0) pass0 ht) fun σ H Q ⟨W, H0, F, ps, hs, q⟩ => ?_
  obtain ⟨y, dx, e1, e2, e3⟩ := hs.ins hi hj
  refine ⟨.ref y, e1, y, dx, _, rfl, e3, ly_none w s m hm, y, dx, w, s, m, Mx ps ++ F, [], [], d, m, rfl, e3, fun c z => hs.avoid z, .nil, h, fun v H' kp hy r => q v H' (fun c o hc => ?_) r⟩
  by_cases e : c = y
  · subst e
    rw [hy, ← e3, hc]
  · exact kp c o e hc
theorem pd_ly (i j : Nat) {k : Nat} {f : Str} {ψ : Nat → Nat → Nat → List D → D → Nat → Prop} (T : LyT X.K C) (G : MFn X.prog X.w X.K X.mg X.base C k f ψ) (hr : Room k X.A) (ha : PDs X A (e :: es) ds) (h : ψ w s m ds d m) (hi : A.ρ[i]? = some (.obj j) := by rfl) (hj : A.μ[j]? = some (.ins C (lyD w s m)) := by rfl)
    (hm : ((f == ("whole" : Str)) || (f == ("step" : Str)) || (f == ("laid" : Str))) = false := by decide +kernel) (hN : X.N[i]? = some n := by rfl) (hv : Vis X.env.scope n := by first | exact Or.inl rfl | exact Or.inr (Or.inl rfl) | exact Or.inr (Or.inr rfl)) (hd : (n == ("__debug__" : Str)) = false := by decide) (hcd : (n == ("__classdict__" : Str)) = false := by decide) {pl : Sem Bool}
    (hst : starEach (e :: es) X.env = (false, eval e X.env) :: starEach es X.env := by rfl) (hpl : (backTo pos (starEach es X.env)).any (·.1) = false := by rfl)
    (ht : eval (.Call (.Attribute (.Name n np) f apos) (e :: es) [] pos) X.env = (do
      let ov ← eval (.Name n np) X.env
      standAt apos.atName
      let (f, first) ← holding [ov] (getMethod ov f pl)
      callWith pos f first (backTo pos (starEach (e :: es) X.env)) (backToKw pos (keywordEach [] X.env))) := by rfl) : PD X A (.Call (.Attribute (.Name n np) f apos) (e :: es) [] pos) d := by
  obtain ⟨g, fd, prs, G1, G2, G3⟩ := G.ok
  refine pd_of (pe_meth (pe_var hN hv hd hcd) T.cl G2 G1 hr G3 .nil (E := E0) pass0 ha hst hpl ht) fun σ H Q ⟨W, H0, F, ps, hs, q⟩ => ?_
  obtain ⟨y, dx, e1, e2, e3⟩ := hs.ins hi hj
  refine ⟨.ref y, e1, y, dx, _, rfl, e3, ly_none w s m hm, W, H0, F, ps, hs, fun vs H1 x1 r1 => ⟨y, dx, w, s, m, Mx ps ++ F, vs, ds, d, m, by rw [List.append_nil], x1 _ _ e3, fun c z => (hs.ext x1).avoid z, r1, h, fun v H' kp hy r => q v H' (fun c o hc => ?_) r⟩⟩
  by_cases e : c = y
  · subst e
    rw [hy, ← e3, hc]
  · exact kp c o e (x1 _ _ hc)
end
end Z

namespace Z
open PySem PySem.Spec PyProof.Rows L2
/-! ### for p in d.items() with a plain name: the pair stays with the iterator, or a new one is made -/
section
variable {prog : Program} {w : World} {KT : Type} [DecidableEq KT] {kd : KeyKind prog w KT} {A : Around} {E : Value → Shared → Prop} {s : Shared}
abbrev ItAt (h : Heap) (z d : Addr) (i n ep : Nat) (f0 f1 f6 f7 : Value) : Prop :=
  h.get? z = some { cls := .type "dict_itemiterator", dict := none, data := .fields #[f0, f1, .ref d, .int i 0, .int n 0, .int ep 0, f6, f7], slots := #[] }
/-- the iterator, whatever pair it keeps -/
def ItI (h : Heap) (z d : Addr) (i n ep : Nat) : Prop := ∃ f0 f1 f6 f7 : Value, (f0 = .none ∨ ∃ q : Nat, f0 = .int (q : Int) 0) ∧ ItAt h z d i n ep f0 f1 f6 f7
theorem alive_ {a : Addr} {Q : Option Obj → Shared → Prop} (h : Q (s.heap.get? a) s) : wpAny (model prog w) A (loadIfAlive a) Q E s := fun G p _ => by
  unfold loadIfAlive
  rw [Sem.wp_loadIfAlive]
  exact h
theorem own_free {z d : Addr} {i n ep : Nat} {f0 f1 f6 f7 : Value} {Q : Bool → Shared → Prop} (he : ItAt s.heap z d i n ep f0 f1 f6 f7) (hf : f0 = .none ∨ ∃ q : Nat, f0 = .int (q : Int) 0) (h1 : Q true s)
    (h2 : ∀ h' f1', ItAt h' z d i n ep f0 f1' f6 f7 → Heap.SameBut z s.heap h' → Q false { s with heap := h' }) : wpAny (model prog w) A (Builtin.Dict_items.ownedTupleIsFree (.ref z)) Q E s := by
  unfold Builtin.Dict_items.ownedTupleIsFree
  rcases hf with rfl | ⟨q, rfl⟩
  · exact wpAny_bind (wpAny_field (x := .none) he rfl rfl (wpAny_pure h1))
  · refine wpAny_bind (wpAny_field (x := .int (q : Int) 0) he rfl rfl ?_)
    refine wpAny_bind (alive_ ?_)
    cases s.heap.get? ((q : Int).toNat) with
    | none => exact wpAny_pure h1
    | some ob =>
      refine wpAny_bind (wpAny_field (x := f1) he rfl rfl ?_)
      have fin := h2 s.heap f1 he (by exact ⟨rfl, fun _ _ => rfl⟩)
      by_cases c : (f1 != Value.bool true) = true
      · rw [if_pos c]
        refine wpAny_bind (wpAny_setField_rec he (by simp) fun h3 e3 sb => ?_)
        exact wpAny_pure (h2 h3 (.bool true) e3 sb)
      · rw [if_neg c]
        exact wpAny_bind (wpAny_pure (wpAny_pure fin))
theorem pair_own {z d : Addr} {i n ep : Nat} {x y : Value} {Q : Value → Shared → Prop} (hz : ItI s.heap z d i n ep)
    (hQ : ∀ h', h'.get? s.heap.objs.size = some { cls := .type "tuple", data := .seq #[x, y] } → h'.objs.size = s.heap.objs.size + 1 → (∀ b ob, b ≠ z → s.heap.get? b = some ob → h'.get? b = some ob) → ItI h' z d i n ep → Q (.ref s.heap.objs.size) { s with heap := h' }) :
    wpAny (model prog w) A (Builtin.Dict_items.pairFromOwner (.ref z) 6 x y) Q E s := by
  obtain ⟨H1, g, dr, tk, os⟩ := s
  obtain ⟨f0, f1, f6, f7, hf, he⟩ := hz
  have zl : z < H1.objs.size := Heap.lt_size he
  unfold Builtin.Dict_items.pairFromOwner
  refine wpAny_bind (wpAny_newTuple ?_)
  have e2 : ItAt (H1.push { cls := .type "tuple", data := .seq #[x, y] }) z d i n ep f0 f1 f6 f7 := Heap.get?_push_of_some _ he
  have t2 : (H1.push { cls := .type "tuple", data := .seq #[x, y] }).get? H1.objs.size = some { cls := .type "tuple", data := .seq #[x, y] } := Heap.get?_push_size _ rfl
  have k2 : ∀ b ob, H1.get? b = some ob → (H1.push { cls := .type "tuple", data := .seq #[x, y] }).get? b = some ob := fun b ob e => Heap.get?_push_of_some _ e
  have z2 : (H1.push { cls := .type "tuple", data := .seq #[x, y] }).objs.size = H1.objs.size + 1 := Heap.size_push ..
  show wpAny _ _ (Builtin.Dict_items.ownedTupleIsFree (.ref z) >>= _) _ _ ⟨H1.push { cls := .type "tuple", data := .seq #[x, y] }, g, dr, tk, os⟩
  generalize H1.push { cls := .type "tuple", data := .seq #[x, y] } = H2 at e2 t2 k2 z2
  refine wpAny_bind (own_free e2 hf ?_ fun H3 f1' e3 sb => ?_)
  · simp only [if_true]
    refine wpAny_bind (wpAny_field (x := f6) e2 rfl rfl ?_)
    refine wpAny_bind (wpAny_field (x := f7) e2 rfl rfl ?_)
    refine wpAny_bind (wpAny_setField_rec e2 (by simp) fun H3 e3 sb3 => ?_)
    replace sb3 : Heap.SameBut z H2 H3 := sb3
    replace e3 : ItAt H3 z d i n ep f0 f1 x f7 := e3
    refine wpAny_bind (wpAny_setField_rec e3 (by simp) fun H4 e4 sb4 => ?_)
    replace sb4 : Heap.SameBut z H3 H4 := sb4
    replace e4 : ItAt H4 z d i n ep f0 f1 x y := e4
    refine wpAny_bind (wpAny_setField_rec e4 (by simp) fun H5 e5 sb5 => ?_)
    replace sb5 : Heap.SameBut z H4 H5 := sb5
    replace e5 : ItAt H5 z d i n ep (.int (H1.objs.size : Int) 0) f1 x y := e5
    refine wpAny_bind (wpAny_setField_rec e5 (by simp) fun H6 e6 sb6 => ?_)
    replace sb6 : Heap.SameBut z H5 H6 := sb6
    replace e6 : ItAt H6 z d i n ep (.int (H1.objs.size : Int) 0) (.bool false) x y := e6
    have kk : ∀ b ob, b ≠ z → H2.get? b = some ob → H6.get? b = some ob := fun b ob nb e => sb6.extBut b ob nb (sb5.extBut b ob nb (sb4.extBut b ob nb (sb3.extBut b ob nb e)))
    refine wpAny_bind (wpAny_letGo (wpAny_pure (hQ H6 (kk _ _ (Nat.ne_of_gt zl) t2) ?_ (fun b ob nb e => kk b ob nb (k2 b ob e)) ⟨_, _, _, _, .inr ⟨_, rfl⟩, e6⟩)))
    show H6.objs.size = H1.objs.size + 1
    rw [sb6.1, sb5.1, sb4.1, sb3.1, z2]
  · replace sb : Heap.SameBut z H2 H3 := sb
    simp only [Bool.false_eq_true, if_false]
    refine wpAny_pure (hQ H3 (sb.extBut _ _ (Nat.ne_of_gt zl) t2) ?_ (fun b ob nb e => sb.extBut b ob nb (k2 b ob e)) ⟨_, _, _, _, hf, e3⟩)
    show H3.objs.size = H1.objs.size + 1
    rw [sb.1, z2]
theorem next_itemN {z d : Addr} {i ep : Nat} {kvs : List (KT × Value)} {k : KT} {y : Value} {Q : Option Value → Shared → Prop} (hz : ItI s.heap z d i kvs.length ep) (hm : s.heap.DictAt kd d kvs ep) (hx : kvs[i]? = some (k, y))
    (hQ : ∀ key h', kd.is k key = true → ItI h' z d (i + 1) kvs.length ep → h'.get? s.heap.objs.size = some { cls := .type "tuple", data := .seq #[key, y] } → h'.objs.size = s.heap.objs.size + 1 →
      (∀ b ob, b ≠ z → s.heap.get? b = some ob → h'.get? b = some ob) → Q (some (.ref s.heap.objs.size)) { s with heap := h' }) : wpAny (model prog w) A (pyNext (.ref z)) Q E s := by
  obtain ⟨H1, g, dr, tk, os⟩ := s
  obtain ⟨oD, eD, hoD, hcD, hdD, hkD, hpD, hnD⟩ := id hm
  obtain ⟨f0, f1, f6, f7, hf, he⟩ := hz
  have zl : z < H1.objs.size := Heap.lt_size he
  have ty : Shared.TypeIs ⟨H1, g, dr, tk, os⟩ (.ref z) "dict_itemiterator" := ⟨_, he, rfl⟩
  have own : Builtin.Dict_items.ownsTuple "dict_itemiterator" = true := by decide
  unfold pyNext
  refine wpAny_bind (wpAny_attempt (wpAny_callSpecial?_slot (name := Str.ofString "__next__") ty F.slot_dict_itemiterator_next (wpAny_call_entry F.slot_dict_itemiterator_next ty F.entry_dict_itemiterator_next ?_ (F.args_dict_itemiterator_next_1 _))))
  refine wpAny_bind (wpAny_pure ?_)
  refine wpAny_bind ?_
  refine wpAny_bind ?_
  first | refine wpAny_bind (wpAny_typeNameOfWhole_itemiter ty (wpAny_pure ?_)) | refine wpAny_bind (wpAny_typeNameOf_itemiter ty (wpAny_pure ?_))
  refine wpAny_bind (wpAny_fieldsOf he rfl ?_)
  simp only [own, if_true]
  show wpAny _ _ (if (Value.ref d == Value.none) = true then _ else _) _ _ ⟨H1, g, dr, tk, os⟩
  rw [if_neg (fun q : (Value.ref d == Value.none) = true => Bool.false_ne_true q)]
  refine wpAny_bind (wpAny_pure ?_)
  refine wpAny_bind (wpAny_dictEntries hoD hdD ?_)
  have sz : eD.size = kvs.length := by rw [← hpD.length]; simp
  rw [if_neg (by rw [sz]; simp)]
  refine wpAny_bind (wpAny_pure ?_)
  refine wpAny_bind (wpAny_dictEpoch hoD hdD ?_)
  rw [if_neg (by simp)]
  refine wpAny_pure ?_
  have il : i < eD.size := by
    rw [sz]
    exact (List.getElem?_eq_some_iff.mp hx).1
  obtain ⟨kyD, vlD⟩ := hpD.get? (e := eD[i]) (by simp [il]) hx
  simp only [show ¬ ((i : Int) < 0) from by omega, if_false, Int.toNat_natCast, Array.getElem?_eq_getElem il]
  refine wpAny_bind ?_
  first | refine wpAny_bind (wpAny_typeNameOfWhole_itemiter ty (wpAny_pure ?_)) | refine wpAny_bind (wpAny_typeNameOf_itemiter ty (wpAny_pure ?_))
  refine wpAny_bind (wpAny_isOneOf_itemiter ty ?_)
  show wpAny _ _ (setField (.ref z) 3 (rawInt ((i : Int) + 1)) >>= _) _ _ ⟨H1, g, dr, tk, os⟩
  refine wpAny_bind (wpAny_setField_rec he (by simp) fun H2 e2 sb2 => ?_)
  replace sb2 : Heap.SameBut z H1 H2 := sb2
  replace e2 : ItAt H2 z d (i + 1) kvs.length ep f0 f1 f6 f7 := by
    have c : ((i + 1 : Nat) : Int) = (i : Int) + 1 := by omega
    unfold ItAt
    rw [c]
    simpa [rawInt] using e2
  have ty2 : Shared.TypeIs ⟨H2, g, dr, tk, os⟩ (.ref z) "dict_itemiterator" := ⟨_, e2, rfl⟩
  refine wpAny_bind (wpAny_holding ?_)
  refine wpAny_bind (wpAny_isOneOf_itemiter ty2 ?_)
  refine wpAny_bind (wpAny_isOneOf_itemiter ty2 ?_)
  show wpAny _ _ (Builtin.Dict_items.pairFromOwner (.ref z) 6 eD[i].key eD[i].val) _ _ ⟨H2, g, dr, tk, os⟩
  have z2 : H2.objs.size = H1.objs.size := sb2.1
  refine pair_own (s := ⟨H2, g, dr, tk, os⟩) ⟨_, _, _, _, hf, e2⟩ fun H3 t3 z3 k3 i3 => ?_
  replace t3 : H3.get? H2.objs.size = some { cls := .type "tuple", data := .seq #[eD[i].key, eD[i].val] } := t3
  replace z3 : H3.objs.size = H2.objs.size + 1 := z3
  rw [z2] at t3 z3
  have q := hQ eD[i].key H3 kyD i3 (by rw [← vlD]; exact t3) z3 fun b ob nb e => k3 b ob nb (sb2.extBut b ob nb e)
  show wpAny _ _ (ret (Value.ref H2.objs.size)) _ _ _
  rw [z2]
  exact wpAny_pure ⟨_, rfl, wpAny_pure q⟩
theorem next_endN {z d : Addr} {i ep : Nat} {kvs : List (KT × Value)} {Q : Option Value → Shared → Prop} (hh : A.handled = none) (hz : ItI s.heap z d i kvs.length ep) (hm : s.heap.DictAt kd d kvs ep) (hx : kvs[i]? = none)
    (hQ : ∀ h', Heap.ExtBut z s.heap h' → Q none { s with heap := h' }) : wpAny (model prog w) A (pyNext (.ref z)) Q E s := by
  obtain ⟨oD, eD, hoD, hcD, hdD, hkD, hpD, hnD⟩ := id hm
  obtain ⟨f0, f1, f6, f7, hf, he⟩ := hz
  have ty : s.TypeIs (.ref z) "dict_itemiterator" := ⟨_, he, rfl⟩
  have own : Builtin.Dict_items.ownsTuple "dict_itemiterator" = true := by decide
  unfold pyNext
  refine wpAny_bind (wpAny_attempt (wpAny_callSpecial?_slot (name := Str.ofString "__next__") ty F.slot_dict_itemiterator_next (wpAny_call_entry F.slot_dict_itemiterator_next ty F.entry_dict_itemiterator_next ?_ (F.args_dict_itemiterator_next_1 _))))
  refine wpAny_bind (wpAny_pure ?_)
  refine wpAny_bind ?_
  refine wpAny_bind ?_
  first | refine wpAny_bind (wpAny_typeNameOfWhole_itemiter ty (wpAny_pure ?_)) | refine wpAny_bind (wpAny_typeNameOf_itemiter ty (wpAny_pure ?_))
  refine wpAny_bind (wpAny_fieldsOf he rfl ?_)
  simp only [own, if_true]
  show wpAny _ _ (if (Value.ref d == Value.none) = true then _ else _) _ _ s
  rw [if_neg (fun q : (Value.ref d == Value.none) = true => Bool.false_ne_true q)]
  refine wpAny_bind (wpAny_pure ?_)
  refine wpAny_bind (wpAny_dictEntries hoD hdD ?_)
  have sz : eD.size = kvs.length := by rw [← hpD.length]; simp
  rw [if_neg (by rw [sz]; simp)]
  refine wpAny_bind (wpAny_pure ?_)
  refine wpAny_bind (wpAny_dictEpoch hoD hdD ?_)
  rw [if_neg (by simp)]
  refine wpAny_pure ?_
  have ge : eD.size ≤ i := by rw [sz]; simpa using hx
  simp only [show ¬ ((i : Int) < 0) from by omega, if_false, Int.toNat_natCast, Array.getElem?_eq_none ge]
  refine wpAny_bind ?_
  first | refine wpAny_bind (wpAny_typeNameOfWhole_itemiter ty (wpAny_pure ?_)) | refine wpAny_bind (wpAny_typeNameOf_itemiter ty (wpAny_pure ?_))
  show wpAny _ _ (setField (.ref z) 2 .none >>= _) _ _ s
  refine wpAny_bind (wpAny_setField he rfl (by simp) ?_)
  show wpAny _ _ (newExc (.type "StopIteration") [] >>= fun e => raiseNew e) _ _ _
  refine wpAny_bind ?_
  simp only [newExc, newTuple]
  refine wpAny_bind (wpAny_newObj_type ?_ (by size_fits))
  refine wpAny_bind (m := firstArgMember _ _) (wpAny_of_eq (a := Value.none) (by first | rfl | (unfold firstArgMember; rfl)) ?_)
  refine wpAny_newObj_type ?_ (by size_fits)
  simp only [raiseNew]
  refine wpAny_bind (wpAny_handled ?_)
  rw [show A.in1.handled = none by exact hh]
  refine wpAny_bind (wpAny_pure (wpAny_throw ?_))
  refine wpAny_bind (wpAny_isInstance (T := "StopIteration") (b := true) ⟨_, Heap.get?_push_size _ rfl, by rfl⟩ isSubtype_stop ?_)
  exact wpAny_pure (hQ _ (Heap.ExtBut.push (Heap.ExtBut.push (Heap.SameBut.extBut (Heap.SameBut.update ..)) _) _))
end
section
variable {P : Program} {w : World} {K : PySem.W.Frag} {tg : Expr} {d : Addr} {o : Obj} {es : Array DictEntry} {ep : Nat}
theorem turn_itemsN {kvs : List (Key × V)} {nm : Str} {np : Pos} (z : Addr) (hod : o.data = .dict es ep) : Turn P w K (.Name nm np) (Iti d o kvs) [z] z (fun i h => ItI h z d i kvs.length ep) where
  mem := List.mem_singleton.mpr rfl
  obj := fun i h st b hb => by
    have e := List.mem_singleton.mp hb
    rw [e]
    obtain ⟨_, _, _, _, _, he⟩ := st
    exact ⟨_, he, fun v q => nomatch q⟩
  keep := fun i h h' st k => by
    obtain ⟨f0, f1, f6, f7, hf, he⟩ := st
    exact ⟨f0, f1, f6, f7, hf, k z (List.mem_singleton.mpr rfl) _ he⟩
  item := by
    intro X hP hw hK hc i pins s σ H E I hf st hg
    subst hP hw hK
    obtain ⟨hD, hi⟩ := hg
    obtain ⟨_, _, _, es2, ep2, vs, hdt, hsz, kv, hm⟩ := I.frzK hD
    obtain ⟨rfl, rfl⟩ := dict_ep hod hdt
    have hkv : kvs[i]? = some (kvs[i].1, kvs[i].2) := List.getElem?_eq_getElem hi
    obtain ⟨u, hu, ru⟩ := kv_get kv hkv
    have hl : kvs.length = vs.length := Paired.length kv
    have st2 : ItI s.heap z d i vs.length ep2 := by rw [← hl]; exact st
    have zl : z < s.heap.objs.size := by
      obtain ⟨_, _, _, _, _, he⟩ := st
      exact Heap.lt_size he
    refine next_itemN st2 hm hu fun key h' hk it2 t2 z2 k2 => ?_
    refine ⟨_, rfl, ?_⟩
    unfold letOwnedTupleGo
    have new : ObjOk X.prog X.w (upd H s.heap.objs.size (.tup [kV kvs[i].1, kvs[i].2])) h' s.heap.objs.size (.tup [kV kvs[i].1, kvs[i].2]) :=
      ⟨by show (2 : Nat) ≤ sizeLine; decide, [key, u], .cons (relV_key (show keyIs kvs[i].1 key = true from hk)) (.cons ru .nil), ⟨_, t2, rfl, _, rfl⟩⟩
    have I2 : Inv X pins σ (upd H s.heap.objs.size (.tup [kV kvs[i].1, kvs[i].2])) { s with heap := h' } :=
      I.turnedNew (t' := s.toks) (ch := [z]) (fun b ob nb e => k2 b ob (fun q => nb (List.mem_singleton.mpr q)) e) hf (Nat.le_refl _) new
    refine wpAny_pure ⟨.ref s.heap.objs.size, _, I2, rfl, ⟨_, _, _, hkv, rfl, I.hok.fresh (Nat.le_refl _), rfl⟩, ?_, fun b hb => ?_⟩
    · show ItI h' z d (i + 1) kvs.length ep2
      rw [hl]
      exact it2
    · rw [List.mem_singleton.mp hb, upd_ne (Nat.ne_of_lt zl)]
      exact (hf z (List.mem_singleton.mpr rfl)).1
  done := by
    intro X hP hw hK hc i pins s σ H E I hf st hg
    subst hP hw hK
    obtain ⟨hD, hi⟩ := hg
    obtain ⟨g0, g1, g2, g3, g4, g5⟩ := hf z (List.mem_singleton.mpr rfl)
    obtain ⟨_, _, _, es2, ep2, vs, hdt, hsz, kv, hm⟩ := I.frzK hD
    obtain ⟨rfl, rfl⟩ := dict_ep hod hdt
    have hl : kvs.length = vs.length := Paired.length kv
    have st2 : ItI s.heap z d i vs.length ep2 := by rw [← hl]; exact st
    exact next_endN (I.ok.hd hc) st2 hm (List.getElem?_eq_none (by rw [← hl]; exact hi)) fun h' eb => ⟨rfl, I.turned (t' := s.toks) (fun b ob nb e => eb b ob nb e) g0 g1 g3 g4 g5⟩
  self := fun A i s Q E st h => by
    obtain ⟨_, _, _, _, _, he⟩ := st
    have ty : s.TypeIs (.ref z) "dict_itemiterator" := ⟨_, he, rfl⟩
    refine wpAny_pyIter_slot ty F.slot_dict_itemiterator_iter (wpAny_call_entry F.slot_dict_itemiterator_iter ty PySem.W.kcp_entry ?_ (F.args_dict_itemiterator_iter_1 _))
    show wpAny _ _ (ret (Value.ref z)) _ _ s
    exact wpAny_pure ⟨_, rfl, "dict_itemiterator", _, ty, F.slot_dict_itemiterator_next.lookup, h⟩
end
section
variable {X : Cx} {tg e : Expr} {td : TE} {apos cpos : Pos}
theorem pi_itemsN {nm : Str} {np : Pos} (he : PE X e td) (hbase : attributeBase e "items" X.env (eval e X.env) = eval e X.env := by rfl) (hline : (apos.endLine == cpos.line) = true := by rfl) :
    PI X (.Name nm np) (.Call (.Attribute e "items" apos) [] [] cpos) (iItems td) := by
  refine ⟨fun pins s σ H R I hq => ?_⟩
  refine wpAny_Call_method (T := "dict") (id := "dict.items") hbase rfl hline F.plainAttrs_dict F.slot_dict_items F.type_dict_items (thn (he.run pins s σ H _ I hq) fun u s1 ⟨x, H1, I1, rx, d, o, kvs, ex, hD, q⟩ => ?_)
  subst ex
  have eu : u = Value.ref d := rx
  subst eu
  obtain ⟨sys, _, _, es, ep, vs, hdt, hsz, kv, hm⟩ := I1.frzK hD
  have hl : kvs.length = vs.length := Paired.length kv
  refine ⟨hm.dictOf.typeIs, hm.dictOf.mapOf.noDict, ?_⟩
  have I2 : Inv X pins σ H1 { s1 with heap := s1.heap.push { cls := .type "dict_items", data := .fields #[.ref d] } } := I1.kept (t' := s1.toks) fun b ob q => by exact Heap.get?_push_of_some _ q
  have fin : wpAny (model X.prog X.w) X.A (pyIter (.ref s1.heap.objs.size)) (PIE X pins σ (.Name nm np) R) X.xe { s1 with heap := s1.heap.push { cls := .type "dict_items", data := .fields #[.ref d] } } := by
    refine wpAny_pyIter_items (d := d) (knd := mixKind X.prog X.w) ⟨_, Heap.get?_push_size _ rfl, rfl, rfl⟩ (hm.push _) (pi_one (tk := s1.toks) I2 _ (turn_itemsN _ hdt) ⟨.none, .bool false, .none, .none, .inl rfl, ?_⟩ q)
    rw [hl]
    exact Heap.get?_push_size _ rfl
  show wpAny _ _ (callWith cpos (.builtin "dict.items") [.ref d] [] []) _ X.xe s1
  exact method_meetsIn F.slot_dict_items F.entry_dict_items rfl (PySem.evalArgs_none ⟨rfl, hm.dictOf.typeIs, F.args_dict_items_1 _, _, meets_dict_items (mixKind X.prog X.w) d sys, ⟨vs, hm.dictOf⟩, fin⟩)
end
/-! ### a comprehension over the items of a dict that a slot holds as data -/
def itemsD (kvs : List (Key × D)) : List D := kvs.map fun p => PyData.tuple [kD p.1, p.2]
section
variable {K : PySem.W.Frag} {M M' : List Addr} {H : Hp}
theorem repK_carry : ∀ {kv : List (Key × V)} {kvs : List (Key × D)}, RepK K M H kv kvs → (∀ p ∈ kvs, noL p.2 = true) → RepK K M' H kv kvs
  | _, _, .nil, _ => .nil
  | _, _, .cons r t, n => .cons (Rep.carry (fun _ _ h => h) r (n _ List.mem_cons_self)) (repK_carry t fun p q => n p (List.mem_cons_of_mem _ q))
theorem repK_at : ∀ {kv : List (Key × V)} {kvs : List (Key × D)} {i : Nat} {k : Key} {v : V}, RepK K M H kv kvs → kv[i]? = some (k, v) → ∃ d, kvs[i]? = some (k, d) ∧ Rep K M H v d
  | _, _, i, _, _, .nil, e => by simp at e
  | _, _, 0, _, _, .cons r t, e => by
    cases (Option.some.inj e : _ = _)
    exact ⟨_, rfl, r⟩
  | _, _, i + 1, _, _, .cons r t, e => by
    obtain ⟨d, e1, e2⟩ := repK_at (i := i) t (by simpa using e)
    exact ⟨d, by simpa using e1, e2⟩
theorem rep_key {k : Key} : Rep K M H (kV k) (kD k) := by
  cases k with
  | inl i => exact .int i
  | inr x => exact .str x
theorem itd_items {d : Addr} {o : Obj} {kv : List (Key × V)} {kvs : List (Key × D)} (hf : H d = some (.frz o (.dK kv))) (hk : RepK K M H kv kvs) : ItD K M H (Iti d o kv) (itemsD kvs) where
  go := fun i H' M' g hi => ⟨g.z _ _ _ hf, by
    have l := congrArg List.length (repK_keys hk)
    unfold itemsD at hi
    rw [List.length_map] at hi l
    rw [List.length_map] at l
    omega⟩
  yld := fun i H' M' x H'' _ g ⟨T, k, v, e1, e2, e3, e4⟩ => by
    subst e2 e4
    obtain ⟨dv, e5, r⟩ := repK_at hk e1
    refine ⟨ex_new e3, .tuple [kD k, dv], ?_, .tup (.inl upd_same) (.cons rep_key (.cons ((r.go g).ex (ex_new e3)) .nil))⟩
    unfold itemsD
    rw [List.getElem?_map, e5]
    rfl
  stop := fun i H' M' g hi => ⟨g.z _ _ _ hf, by
    have l := congrArg List.length (repK_keys hk)
    unfold itemsD at hi
    rw [List.length_map] at hi l
    rw [List.length_map] at l
    omega⟩
end
def tIi (K : PySem.W.Frag) (A : AS) (i : Nat) (kvs : List (Key × D)) : TI := fun σ H R => tI K A (itemsD kvs) σ H R ∧ ∃ d o kv, σ[i]? = some (some (.ref d)) ∧ H d = some (.frz o (.dK kv)) ∧ ∀ M, RepK K M H kv kvs
section
variable {X : Cx} {A : AS} {kvs : List (Key × D)} {n : Str} {np pos : Pos}
theorem pi_itemsD {nm : Str} {tp apos cpos : Pos} (i : Nat) (hN : X.N[i]? = some n) (hv : Vis X.env.scope n) (hb : attributeBase (.Name n pos) "items" X.env (eval (.Name n pos) X.env) = eval (.Name n pos) X.env) (hln : (apos.endLine == cpos.line) = true) (hd : (n == ("__debug__" : Str)) = false := by decide) (hcd : (n == ("__classdict__" : Str)) = false := by decide) :
    PI X (.Name nm tp) (.Call (.Attribute (.Name n pos) "items" apos) [] [] cpos) (tIi X.K A i kvs) :=
  ⟨fun pins s σ H R I ⟨⟨W, H0, F, ps, hs, q⟩, d, o, kv, e1, e2, e3⟩ => (pi_itemsN (pe_var hN hv hd hcd) hb hln).run pins s σ H R I ⟨.ref d, e1, d, o, kv, rfl, e2, q _ H (ex_refl H) (itd_items e2 (e3 _))⟩⟩
variable {elt : Expr} {ifs : List Expr} {scope : Scope}
theorem pd_lcI {nm : Str} {tp apos cpos : Pos} (i : Nat) (own : List (Str × Nat)) (os : List (Option D)) (ho : os.length = (itemsD kvs).length) (hc : X.calm = true) (hN : X.N.Nodup) (hi : A.ρ[i]? = some (.dat (dictD kvs))) (hnl : ∀ p ∈ kvs, noL p.2 = true) (ok : BlkOk X.N X.env.scope scope own) (hl : (itemsD kvs).length ≤ 100000)
    (ht : ∀ (i : Nat) (d : D) (o : Option D), (itemsD kvs)[i]? = some d → os[i]? = some o → LcT X A scope (own.map (·.2)) (.Name nm tp) elt ifs d o) (hf : noLs (os.filterMap id) = true) (hn : X.N[i]? = some n := by rfl) (hv : Vis X.env.scope n := by first | exact Or.inl rfl | exact Or.inr (Or.inl rfl) | exact Or.inr (Or.inr rfl))
    (hb : attributeBase (.Name n np) "items" X.env (eval (.Name n np) X.env) = eval (.Name n np) X.env := by rfl) (hln : (apos.endLine == cpos.line) = true := by rfl) (hd : (n == ("__debug__" : Str)) = false := by decide) (hcd : (n == ("__classdict__" : Str)) = false := by decide)
    (hs : ∀ x, foldedSetIterable (.Call (.Attribute (.Name n np) "items" apos) [] [] cpos) X.env x = pure x := by intro _; rfl) : PD X A (.ListComp elt [⟨.Name nm tp, .Call (.Attribute (.Name n np) "items" apos) [] [] cpos, ifs, 0⟩] scope pos) (.list (os.filterMap id)) := by
  have base : PE X (.ListComp elt [⟨.Name nm tp, .Call (.Attribute (.Name n np) "items" apos) [] [] cpos, ifs, 0⟩] scope pos) (tLc (tIi X.K A i kvs) (gLc X scope (own.map (·.2)) (.Name nm tp)) (tLcT X scope ifs) (tLcE X scope elt) (own.map (·.2))) :=
    pe_lc hc hN (pi_itemsD i hn hv hb hln hd hcd) ok
      (fun s H C cl fp => ⟨fun pins s' σ H v u Q I r ⟨A', d, A'', h, q⟩ => (h s _ C cl fp).run pins s' σ H v u Q I r q⟩)
      (fun s H C cl fp => ⟨fun pins s' σ H Q I ⟨A', k, h, q⟩ => (h s _ C cl fp).run pins s' σ H Q I q⟩)
      (fun s H C cl fp => ⟨fun pins s' σ H Q I ⟨A', y, h, q⟩ => (h s _ C cl fp).run pins s' σ H Q I q⟩) hs
  refine pd_of (pe_or base (pe_lock base)) fun σ H Q ⟨W, H0, F, ps, hh, q⟩ => ?_
  obtain ⟨v, e, r⟩ := hh.sl i _ hi
  obtain ⟨d, kv, rfl, h1, nm, rk⟩ := rep_dict r
  rcases h1 with h1 | ⟨o, h1⟩
  · refine .inr ⟨d, .dK kv, h1, trivial, fun od => ⟨lc_read os ho hl ht (Q := fun v H' => H' d = some (.frz od (.dK kv)) ∧ Q v (upd H' d (.dK kv))) ⟨Mx ps ++ W, _, Mx ps ++ F, ps, hh.lock h1 nm, fun p H' zs x h0 hq r => ?_⟩, d, od, kv, e, upd_same, fun M => repK_carry (rk.go (Go.lock h1)) hnl⟩⟩
    have hd' : H' d = some (.frz od (.dK kv)) := x d _ upd_same
    have pd : p ≠ d := fun z => by
      subst z
      rw [upd_same] at h0
      cases h0
    have hp : H p = none := by rw [upd_ne pd] at h0; exact h0
    refine ⟨hd', q (.ref p) _ (fun a u ha => ?_) (.lst (.inl ⟨.inl (by rw [upd_ne pd]; exact hq), fun z => hh.avoid z hp⟩) (RepA.carry (unlock_tup hd') r hf))⟩
    by_cases ed : a = d
    · subst ed
      rw [h1] at ha
      rw [upd_same, ← ha]
    · rw [upd_ne ed]
      exact x a u (by rw [upd_ne ed]; exact ha)
  · exact .inl ⟨lc_read os ho hl ht ⟨W, H0, F, ps, hh, fun p H' zs x h0 hq r => q (.ref p) H' x (.lst (.inl ⟨.inl hq, fun z => hh.avoid z h0⟩) (repA_back r))⟩, d, o, kv, e, h1, fun M => repK_carry rk hnl⟩
end
/-! ### the same over a dict of one's own, which is locked meanwhile -/
section
variable {K : PySem.W.Frag} {ps : List (Option Addr)} {W F : List Addr} {H0 H : Hp} {A : AS} {σ : L2.St} {d : Addr} {kv : List (Key × V)} {od : Obj}
theorem Has.lockB (h : Has K W H F ps A σ H) (hd : H d = some (.dK kv)) (hm : d ∉ Mx ps) (hw : d ∉ W) : Has K W (upd H d (.frz od (.dK kv))) F ps A σ (upd H d (.frz od (.dK kv))) := by
  have nm : ∀ a, a ∈ Mx ps → a ≠ d := fun a z e => hm (e ▸ z)
  exact {
    ex := fun _ _ _ e => e
    len := h.len
    sl := fun i s q => SlOk.go (Go.lock hd) (h.sl i s q)
    ml := h.ml
    mo := fun j o q => by
      obtain ⟨r, e1, e2⟩ := h.mo j o q
      refine ⟨r, e1, MOk.go (Go.lock hd) (fun a u ea z => ?_) e2⟩
      rw [ea] at e1
      rw [upd_ne (nm a (mem_mx.mpr (List.mem_of_getElem? e1)))]
      exact z
    fr := fun a z => (h.fr a z).imp (fun e => by rw [upd_ne (nm a z)]; exact e) id
    nd := h.nd
    wf := h.wf
    wo := fun a z => by
      rw [upd_ne fun e => hw (by rw [← e]; exact z)]
      exact h.wo a z
    ff := fun a z => by
      by_cases e : a = d
      · rw [e, upd_same]
        exact fun q => nomatch q
      · rw [upd_ne e]
        exact h.ff a z }
end
section
variable {X : Cx} {A : AS} {kvs : List (Key × D)} {n : Str} {np pos : Pos} {elt : Expr} {ifs : List Expr} {scope : Scope}
theorem pd_lcIO {nm : Str} {tp apos cpos : Pos} (i j : Nat) (own : List (Str × Nat)) (os : List (Option D)) (hi : A.ρ[i]? = some (.obj j)) (hj : A.μ[j]? = some (.dK kvs)) (ho : os.length = (itemsD kvs).length) (hc : X.calm = true) (hN : X.N.Nodup) (hnl : ∀ p ∈ kvs, noL p.2 = true) (ok : BlkOk X.N X.env.scope scope own) (hl : (itemsD kvs).length ≤ 100000)
    (ht : ∀ (i : Nat) (d : D) (o : Option D), (itemsD kvs)[i]? = some d → os[i]? = some o → LcT X ⟨A.ρ.map (dropO j), A.μ.set j .no⟩ scope (own.map (·.2)) (.Name nm tp) elt ifs d o) (hf : noLs (os.filterMap id) = true) (hn : X.N[i]? = some n := by rfl) (hv : Vis X.env.scope n := by first | exact Or.inl rfl | exact Or.inr (Or.inl rfl) | exact Or.inr (Or.inr rfl))
    (hb : attributeBase (.Name n np) "items" X.env (eval (.Name n np) X.env) = eval (.Name n np) X.env := by rfl) (hln : (apos.endLine == cpos.line) = true := by rfl) (hd : (n == ("__debug__" : Str)) = false := by decide) (hcd : (n == ("__classdict__" : Str)) = false := by decide)
    (hs : ∀ x, foldedSetIterable (.Call (.Attribute (.Name n np) "items" apos) [] [] cpos) X.env x = pure x := by intro _; rfl) : PD X A (.ListComp elt [⟨.Name nm tp, .Call (.Attribute (.Name n np) "items" apos) [] [] cpos, ifs, 0⟩] scope pos) (.list (os.filterMap id)) := by
  have base : PE X (.ListComp elt [⟨.Name nm tp, .Call (.Attribute (.Name n np) "items" apos) [] [] cpos, ifs, 0⟩] scope pos) (tLc (tIi X.K ⟨A.ρ.map (dropO j), A.μ.set j .no⟩ i kvs) (gLc X scope (own.map (·.2)) (.Name nm tp)) (tLcT X scope ifs) (tLcE X scope elt) (own.map (·.2))) :=
    pe_lc hc hN (pi_itemsD i hn hv hb hln hd hcd) ok
      (fun s H C cl fp => ⟨fun pins s' σ H v u Q I r ⟨A', d, A'', h, q⟩ => (h s _ C cl fp).run pins s' σ H v u Q I r q⟩)
      (fun s H C cl fp => ⟨fun pins s' σ H Q I ⟨A', k, h, q⟩ => (h s _ C cl fp).run pins s' σ H Q I q⟩)
      (fun s H C cl fp => ⟨fun pins s' σ H Q I ⟨A', y, h, q⟩ => (h s _ C cl fp).run pins s' σ H Q I q⟩) hs
  refine pd_of (pe_lock base) fun σ H Q ⟨W, H0, F, ps, hh, q⟩ => ?_
  obtain ⟨d, e, hp⟩ := hh.sl i _ hi
  obtain ⟨_, hp2, d2, kv, e2, h1, rk⟩ := hh.mo j _ hj
  subst e2
  have ed : d2 = d := by
    rw [hp] at hp2
    cases hp2
    rfl
  subst ed
  have jl : j < ps.length := (List.getElem?_eq_some_iff.mp hp).1
  have out : d2 ∉ Mx (ps.set j none) := fun z => by
    obtain ⟨k, hk⟩ := List.mem_iff_getElem?.mp (mem_mx.mp z)
    by_cases c : j = k
    · subst c
      rw [List.getElem?_set_self jl] at hk
      cases hk
    · rw [List.getElem?_set_ne c] at hk
      exact c (nd_pos hh.nd hp hk)
  have wout : d2 ∉ (Mx ps ++ W).filter fun a => decide (a ≠ d2) := fun z => of_decide_eq_true (List.mem_filter.mp z).2 rfl
  refine ⟨d2, .dK kv, h1, trivial, fun od => ⟨lc_read os ho hl ht (Q := fun v H' => H' d2 = some (.frz od (.dK kv)) ∧ Q v (upd H' d2 (.dK kv))) ⟨_, _, _, _, (hh.lend hp).lockB h1 out wout, fun p H' zs x h0 hq r => ?_⟩, d2, od, kv, e, upd_same, fun M => repK_carry (rk.go (Go.lock h1)) hnl⟩⟩
  have hd' : H' d2 = some (.frz od (.dK kv)) := x d2 _ upd_same
  have pd : p ≠ d2 := fun z => by
    subst z
    rw [upd_same] at h0
    cases h0
  have hp : H p = none := by rw [upd_ne pd] at h0; exact h0
  refine ⟨hd', q (.ref p) _ (fun a u ha => ?_) (.lst (.inl ⟨.inl (by rw [upd_ne pd]; exact hq), fun z => hh.avoid z hp⟩) (RepA.carry (unlock_tup hd') r hf))⟩
  by_cases ed : a = d2
  · subst ed
    rw [h1] at ha
    rw [upd_same, ← ha]
  · rw [upd_ne ed]
    exact x a u (by rw [upd_ne ed]; exact ha)
/-- with a test: .. -/
theorem pd_lcIOf {α : Type} {nm : Str} {tp apos cpos : Pos} (i j : Nat) (own : List (Str × Nat)) (xs : List α) (enc g : α → D) (p : α → Bool) (hi : A.ρ[i]? = some (.obj j)) (hj : A.μ[j]? = some (.dK kvs)) (hk : itemsD kvs = xs.map enc) (hc : X.calm = true) (hN : X.N.Nodup) (hnl : ∀ p ∈ kvs, noL p.2 = true) (ok : BlkOk X.N X.env.scope scope own) (hl : xs.length ≤ 100000)
    (ht : ∀ x ∈ xs, LcT X ⟨A.ρ.map (dropO j), A.μ.set j .no⟩ scope (own.map (·.2)) (.Name nm tp) elt ifs (enc x) (if p x = true then some (g x) else none)) (hf : noLs ((xs.filter p).map g) = true) (hn : X.N[i]? = some n := by rfl) (hv : Vis X.env.scope n := by first | exact Or.inl rfl | exact Or.inr (Or.inl rfl) | exact Or.inr (Or.inr rfl))
    (hb : attributeBase (.Name n np) "items" X.env (eval (.Name n np) X.env) = eval (.Name n np) X.env := by rfl) (hln : (apos.endLine == cpos.line) = true := by rfl) (hd : (n == ("__debug__" : Str)) = false := by decide) (hcd : (n == ("__classdict__" : Str)) = false := by decide)
    (hs : ∀ x, foldedSetIterable (.Call (.Attribute (.Name n np) "items" apos) [] [] cpos) X.env x = pure x := by intro _; rfl) : PD X A (.ListComp elt [⟨.Name nm tp, .Call (.Attribute (.Name n np) "items" apos) [] [] cpos, ifs, 0⟩] scope pos) (.list ((xs.filter p).map g)) := by
  rw [← fm_if xs] at hf ⊢
  exact pd_lcIO i j own _ hi hj (by rw [hk]; simp) hc hN hnl ok (by rw [hk]; simpa using hl) (by rw [hk]; exact turns_if ht) hf hn hv hb hln hd hcd hs
end
/-! ### dict(a tuple of pairs), looked up -/
section
variable {X : Cx}
theorem pairs_two {pins : List (Addr × Obj)} {σ : L2.St} {H : Hp} {s : Shared} (I : Inv X pins σ H s) : ∀ {ps : List Addr} {kv : List (Key × V)}, Paired (fun p q => SqT X.K H p [kV q.1, q.2]) ps kv →
    ∃ (prs : List (Key × Value)) (us : List (Value × Value)), KV kv prs ∧ prs.length = ps.length ∧ us.length = ps.length ∧ ∀ (j : Nat) (x y : Value), us[j]? = some (x, y) → ∃ (key : Key) (b : Addr), prs[j]? = some (key, y) ∧ ps[j]? = some b ∧ IsTup s.heap b #[x, y] ∧ keyIs key x = true
  | _, _, .nil => ⟨[], [], .nil, rfl, rfl, fun j x y e => by simp at e⟩
  | _, _, .cons (a := p) (b := q) h t => by
    obtain ⟨prs, us, r, l1, l2, f⟩ := pairs_two I t
    obtain ⟨its, rv, ht, _⟩ := I.tuple h
    obtain ⟨u, y, ei, ru, ry⟩ := vals2 rv
    subst ei
    refine ⟨(q.1, y) :: prs, (u, y) :: us, .cons ⟨rfl, ry⟩ r, congrArg (· + 1) l1, congrArg (· + 1) l2, fun j x z e => ?_⟩
    cases j with
    | zero =>
      cases (Option.some.inj e : _ = _)
      exact ⟨q.1, p, rfl, rfl, ht, kV_is (P := X.prog) (w := X.w) ru⟩
    | succ j =>
      obtain ⟨key, b, e1, e2, e3⟩ := f j x z (by simpa using e)
      exact ⟨key, b, by simpa using e1, by simpa using e2, e3⟩
theorem call_dictQ (hcalm : X.calm = true) : CallR X (.type "dict") (fun xs H Q => ∃ (a : Addr) (o : Obj) (ps : List Addr) (kv : List (Key × V)), xs = [.ref a] ∧ H a = some (.frz o (.tup (ps.map V.ref))) ∧ o.dict = none ∧ Paired (fun p q => SqT X.K H p [kV q.1, q.2]) ps kv ∧
    ∀ p, H p = none → Q (.ref p) (upd H p (.dK (mergeK [] kv)))) := by
  intro pins s σ H xs us0 Q I r q
  obtain ⟨a, o, ps, kv, ex, hq, hod, hp, q⟩ := q
  subst ex
  obtain ⟨u, eu, rx⟩ := vals1 r
  subst eu
  cases rx
  obtain ⟨ho, hz, its, rv, tu⟩ := I.hok a _ hq
  have ei := refs_at rv
  subst ei
  obtain ⟨prs, us, rel, l1, l2, f⟩ := pairs_two I hp
  rw [List.length_map] at hz
  obtain ⟨o2, ho2, hc, n, hdat⟩ := id tu
  have eo : o2 = o := by
    rw [ho] at ho2
    exact (Option.some.inj ho2).symm
  subst eo
  refine PySem.call_dict_pairs (knd := mixKind X.prog X.w) (kvs := prs) (PairArg.tuple a (ps.map Value.ref).toArray (fun j => (ps[j]?).getD 0) us) (I.ok.hd hcalm) ⟨⟨o2, n, ho, hc, hod, hdat⟩, by simp [l2], fun j x y e => ?_⟩ ⟨by rw [l1, l2], fun i x y e => ?_⟩ (by rw [l2]; exact hz) fun h' tk hd' k => ?_
  · obtain ⟨key, b, e1, e2, e3, e4⟩ := f j x y e
    refine ⟨by simp [e2], .inl ?_⟩
    show IsTup s.heap (ps[j]?.getD 0) #[x, y]
    rw [e2]
    exact e3
  · obtain ⟨key, b, e1, e2, e3, e4⟩ := f i x y e
    exact ⟨key, e1, e4⟩
  · have hm : (s.heap.objs.size == sysModules) = false := beq_eq_false_iff_ne.mpr (Nat.ne_of_gt I.big)
    have hlen : (mergeK [] kv).length ≤ sizeLine := by
      refine Nat.le_trans (length_mergeK kv []) ?_
      rw [List.length_nil, Nat.zero_add, rel.length, l1]
      exact hz
    exact ⟨.ref s.heap.objs.size, upd H s.heap.objs.size (.dK (mergeK [] kv)), I.laid (t' := tk) (fun b ob e => k b ob (fun z => nomatch z) e) (Nat.le_refl _) (show ObjOk X.prog X.w _ _ _ (.dK (mergeK [] kv)) from ⟨hlen, hm, merged [] prs, KV.merge rel .nil, hd'⟩), rfl, q _ (I.hok.fresh (Nat.le_refl _))⟩
variable {A : AS} {a : Expr} {kvs : List (Key × D)} {p pos : Pos}
theorem pd_dictQ (hc : X.calm = true) (hm : X.mg "dict" = none) (ha : PDF X A a (.tuple (kvs.map fun p => PyData.tuple [kD p.1, p.2]))) (hg : Gl X "dict" := by rfl) (hst : starEach (a :: []) X.env = (false, eval a X.env) :: starEach [] X.env := by rfl) (hpl : (backTo pos (starEach [] X.env)).any (·.1) = false := by rfl) :
    PD X A (.Call (.Name "dict" p) [a] [] pos) (dictD (mergeD kvs)) :=
  pd_of (pe_callTy (call_dictQ hc) hg hm bb_dict (pa_cons ha pa_nil hst) (by decide) (by decide) hst hpl) fun σ H Q ⟨W, H0, F, ps, hs, q⟩ => ⟨W, H0, F, ps, hs, fun v H1 x1 ⟨r1, b, o, u, ev, eb, od⟩ => by
    subst ev
    cases r1 with
    | tup h1 r2 =>
      obtain ⟨qs, kv, e, hq, hk⟩ := repK_pairs r2
      subst e
      have eu : u = qs.map V.ref := by
        rcases h1 with h2 | ⟨o2, h3, h2⟩
        · rw [eb] at h2
          cases h2
        · rw [eb] at h2
          cases h2
          rfl
      subst eu
      refine ⟨b, o, qs, kv, rfl, eb, od, hq, fun z hn => ?_⟩
      have nz : z ∉ Mx ps ++ F := fun m => (hs.ext x1).avoid m hn
      exact q _ _ (ex_trans x1 (ex_new hn)) (.dct (.inl upd_same) nz (RepK.ex (repK_merge hk .nil) (ex_new hn)) rfl)⟩
end
end Z

namespace Z
open PySem PySem.Spec PyProof.Rows L2
open LamX (Tabs TabS ExtN CodeO TabB LamS)
/-! ### a state with tables of code objects: what was is forgotten, the tables are known -/
def em : Hp := fun _ => none
section
variable {K : PySem.W.Frag} {ps ps' : List (Option Addr)} {W F F' : List Addr} {H0 H H' : Hp} {A A' : AS} {σ σ' : L2.St} {T : List (Addr × Str)}
theorem Has.forget (h : Has K W H0 F ps A σ H) : Has K [] em [] ps A σ H := by
  have g : Go (Mx ps ++ F) (Mx ps ++ []) H H := Go.sub fun a z => List.mem_append_left _ ((List.mem_append.mp z).elim id fun q => nomatch q)
  exact {
    ex := fun _ _ _ e => nomatch e
    len := h.len
    sl := fun i s q => SlOk.go g (h.sl i s q)
    ml := h.ml
    mo := fun j o q => let ⟨p, e1, e2⟩ := h.mo j o q; ⟨p, e1, e2.go g fun _ _ _ z => z⟩
    fr := fun _ _ => .inl rfl
    nd := h.nd
    wf := fun _ w => nomatch w
    wo := fun _ w => nomatch w
    ff := fun _ w => nomatch w }
theorem Go.cutF : Go (Mx ps ++ F) (Mx ps ++ []) H H := Go.sub fun a z => List.mem_append_left _ ((List.mem_append.mp z).elim id fun q => nomatch q)
theorem Rep.cutF {v : V} {d : D} (h : Rep K (Mx ps ++ F) H v d) : Rep K (Mx ps ++ []) H v d := Rep.go Go.cutF h
theorem RepF.cutF {v : V} {d : D} (h : RepF K (Mx ps ++ F) H v d) : RepF K (Mx ps ++ []) H v d := RepF.go Go.cutF h
theorem Has.kind (h : Has K W H0 F ps A σ H) {p : Addr} (hp : p ∈ Mx ps) : (∃ xs, H p = some (.lst xs)) ∨ (∃ kv, H p = some (.dK kv)) ∨ ∃ C dx vs, H p = some (.ins C dx vs) := by
  obtain ⟨j, hj⟩ := List.mem_iff_getElem?.mp (mem_mx.mp hp)
  have jl : j < A.μ.length := by rw [← h.ml]; exact (List.getElem?_eq_some_iff.mp hj).1
  obtain ⟨q, e1, e2⟩ := h.mo j _ (List.getElem?_eq_getElem jl)
  have eq : q = some p := by
    rw [hj] at e1
    exact (Option.some.inj e1).symm
  subst eq
  cases e : A.μ[j] with
  | no => rw [e] at e2; cases e2
  | lst ds =>
    rw [e] at e2
    obtain ⟨a, xs, ea, h1, _⟩ := e2
    cases ea
    exact .inl ⟨xs, h1⟩
  | dK kvs =>
    rw [e] at e2
    obtain ⟨a, kv, ea, h1, _⟩ := e2
    cases ea
    exact .inr (.inl ⟨kv, h1⟩)
  | ins C fs =>
    rw [e] at e2
    obtain ⟨a, dx, vs, ea, h1, _⟩ := e2
    cases ea
    exact .inr (.inr ⟨C, dx, vs, h1⟩)
theorem tabs_after (h : Has K W H0 F ps A σ H) (t : Tabs T H) (h' : Has K (Mx ps ++ []) H F' ps' A' σ' H') : Tabs T H' := fun p hp => by
  obtain ⟨xs, e1, e2, e3⟩ := t p hp
  have no : ∀ a o, H a = some o → (∀ xs, o ≠ .lst xs) → (∀ kv, o ≠ .dK kv) → (∀ C dx vs, o ≠ .ins C dx vs) → H' a = some o := fun a o e n1 n2 n3 => by
    refine h'.ex a o (fun z => ?_) e
    rw [List.append_nil] at z
    rcases h.kind z with ⟨xs, q⟩ | ⟨kv, q⟩ | ⟨C, dx, vs, q⟩
    · exact n1 xs (Option.some.inj (e.symm.trans q))
    · exact n2 kv (Option.some.inj (e.symm.trans q))
    · exact n3 C dx vs (Option.some.inj (e.symm.trans q))
  refine ⟨xs, no _ _ e1 (fun _ z => nomatch z) (fun _ z => nomatch z) (fun _ _ _ z => nomatch z), e2, fun pos cv hc => ?_⟩
  obtain ⟨c, e4, e5⟩ := e3 pos cv hc
  refine ⟨c, e4, no _ _ e5 (fun xs z => ?_) (fun kv z => ?_) fun C dx vs z => ?_⟩ <;> (unfold CodeO at z; cases z)
theorem Go.extN {M : List Addr} (e : ExtN H H') : Go M M H H' where
  l := fun a xs h m => ⟨h.elim (fun h => .inl (e _ _ h fun _ z => nomatch z)) (fun ⟨u, h⟩ => .inr ⟨u, e _ _ h fun _ z => nomatch z⟩), m⟩
  t := fun a xs h => e _ _ h fun _ z => nomatch z
  z := fun a o u h => e _ _ h fun _ z => nomatch z
  d := fun a kv h m => ⟨h.elim (fun h => .inl (e _ _ h fun _ z => nomatch z)) (fun ⟨u, h⟩ => .inr ⟨u, e _ _ h fun _ z => nomatch z⟩), m⟩
theorem Has.extN (h : Has K [] em [] ps A σ H) (e : ExtN H H') : Has K [] em [] ps A σ H' where
  ex := fun _ _ _ e => nomatch e
  len := h.len
  sl := fun i s q => SlOk.go (Go.extN e) (h.sl i s q)
  ml := h.ml
  mo := fun j o q => by
    obtain ⟨r, e1, e2⟩ := h.mo j o q
    refine ⟨r, e1, MOk.go (Go.extN e) (fun a u ea z => ?_) e2⟩
    rw [ea] at e1
    refine e _ _ z fun ps zz => ?_
    subst zz
    rcases h.kind (mem_mx.mpr (List.mem_of_getElem? e1)) with ⟨xs, q⟩ | ⟨kv, q⟩ | ⟨C, dx, vs, q⟩ <;> (rw [z] at q; cases q)
  fr := fun _ _ => .inl rfl
  nd := h.nd
  wf := fun _ w => nomatch w
  wo := fun _ w => nomatch w
  ff := fun _ w => nomatch w
end
structure RzT (K : PySem.W.Frag) (T : List (Addr × Str)) (Φ : AE) (Dn : Ends) : Prop where
  nx : ∀ ps A σ H, Has K [] em [] ps A σ H → Tabs T H → Φ.nx A → Dn.nx σ H
  bk : ∀ ps A σ H, Has K [] em [] ps A σ H → Tabs T H → Φ.bk A → Dn.bk σ H
  ct : ∀ ps A σ H, Has K [] em [] ps A σ H → Tabs T H → Φ.ct A → Dn.ct σ H
  rt : ∀ ps A σ H v d, Has K [] em [] ps A σ H → Rep K (Mx ps ++ []) H v d → Φ.rt A d → Dn.rt v H
  rtF : ∀ ps A σ H v d, Has K [] em [] ps A σ H → RepF K (Mx ps ++ []) H v d → Φ.rtF A d → Dn.rt v H
def tST (K : PySem.W.Frag) (T : List (Addr × Str)) (A : AS) (Φ : AE) : TS := fun Dn σ H => ∃ ps, Has K [] em [] ps A σ H ∧ Tabs T H ∧ RzT K T Φ Dn
def tDT (K : PySem.W.Frag) (T : List (Addr × Str)) (A : AS) (d : D) : TE := fun σ H Q => ∃ ps, Has K [] em [] ps A σ H ∧ Tabs T H ∧ ∀ ps' v H', Has K [] em [] ps' A σ H' → Tabs T H' → Rep K (Mx ps' ++ []) H' v d → Q v H'
def tTT (K : PySem.W.Frag) (T : List (Addr × Str)) (A : AS) (k : Bool) : TT := fun σ H Q => ∃ ps, Has K [] em [] ps A σ H ∧ Tabs T H ∧ ∀ ps' H', Has K [] em [] ps' A σ H' → Tabs T H' → Q k H'
def SDT (X : Cx) (T : List (Addr × Str)) (A : AS) (st : Stmt) (Φ : AE) : Prop := PS X st (tST X.K T A Φ)
def SDTs (X : Cx) (T : List (Addr × Str)) (A : AS) (sts : List Stmt) (Φ : AE) : Prop := PSs X sts (tST X.K T A Φ)
def PDT (X : Cx) (T : List (Addr × Str)) (A : AS) (e : Expr) (d : D) : Prop := PE X e (tDT X.K T A d)
def PTT (X : Cx) (T : List (Addr × Str)) (A : AS) (e : Expr) (k : Bool) : Prop := PT X e (tTT X.K T A k)
def PWT (X : Cx) (T : List (Addr × Str)) (A : AS) (e : Expr) (k : Bool) : Prop := PW X e (tTT X.K T A k)
section
variable {X : Cx} {T : List (Addr × Str)} {A A' : AS} {Φ : AE} {st : Stmt} {sts rest : List Stmt} {a b c e : Expr} {es : List Expr} {x y z d : D} {ds : List D} {k : Bool} {pos p : Pos}
theorem sdt_of (h : SD X A st Φ) : SDT X T A st Φ := ⟨fun pins s σ H Dn I ⟨ps, hs, tb, rz⟩ => h.run pins s σ H Dn I ⟨Mx ps ++ [], H, Mx ps ++ [], ps, hs.start,
  { nx := fun ps' A' σ' H' h' q => rz.nx ps' A' σ' H' h'.forget (tabs_after hs tb h') q
    bk := fun ps' A' σ' H' h' q => rz.bk ps' A' σ' H' h'.forget (tabs_after hs tb h') q
    ct := fun ps' A' σ' H' h' q => rz.ct ps' A' σ' H' h'.forget (tabs_after hs tb h') q
    rt := fun ps' A' σ' H' v d h' r q => rz.rt ps' A' σ' H' v d h'.forget r.cutF q
    rtF := fun ps' A' σ' H' v d h' r q => rz.rtF ps' A' σ' H' v d h'.forget r.cutF q }⟩⟩
theorem sdts_of (h : SDs X A sts Φ) : SDTs X T A sts Φ := ⟨fun pins s σ H Dn I ⟨ps, hs, tb, rz⟩ => h.run pins s σ H Dn I ⟨Mx ps ++ [], H, Mx ps ++ [], ps, hs.start,
  { nx := fun ps' A' σ' H' h' q => rz.nx ps' A' σ' H' h'.forget (tabs_after hs tb h') q
    bk := fun ps' A' σ' H' h' q => rz.bk ps' A' σ' H' h'.forget (tabs_after hs tb h') q
    ct := fun ps' A' σ' H' h' q => rz.ct ps' A' σ' H' h'.forget (tabs_after hs tb h') q
    rt := fun ps' A' σ' H' v d h' r q => rz.rt ps' A' σ' H' v d h'.forget r.cutF q
    rtF := fun ps' A' σ' H' v d h' r q => rz.rtF ps' A' σ' H' v d h'.forget r.cutF q }⟩⟩
theorem sdt_to {t : TS} (h : PS X st t) (r : ∀ Dn σ H, tST X.K T A Φ Dn σ H → t Dn σ H) : SDT X T A st Φ := ⟨fun pins s σ H Dn I hq => h.run pins s σ H Dn I (r Dn σ H hq)⟩
theorem sdts_to {t : TS} (h : PSs X sts t) (r : ∀ Dn σ H, tST X.K T A Φ Dn σ H → t Dn σ H) : SDTs X T A sts Φ := ⟨fun pins s σ H Dn I hq => h.run pins s σ H Dn I (r Dn σ H hq)⟩
theorem sdts_nil (h : Φ.nx A) : SDTs X T A [] Φ := sdts_to pss_nil fun Dn σ H ⟨ps, hs, tb, rz⟩ => rz.nx ps A σ H hs tb h
theorem sdts_cons (h : SDT X T A st { Φ with nx := fun A' => SDTs X T A' rest Φ }) : SDTs X T A (st :: rest) Φ := by
  have h2 : PSs X rest (fun Dn σ H => ∃ A', SDTs X T A' rest Φ ∧ tST X.K T A' Φ Dn σ H) := ⟨fun pins s σ H Dn I ⟨A', hs, q⟩ => hs.run pins s σ H Dn I q⟩
  exact sdts_to (pss_cons h h2) fun Dn σ H ⟨ps, hs, tb, rz⟩ => ⟨ps, hs, tb,
    { nx := fun ps' A' σ' H' h' t' q => ⟨A', q, ps', h', t', rz⟩
      bk := rz.bk
      ct := rz.ct
      rt := rz.rt
      rtF := rz.rtF }⟩
theorem sdts_step (h : SD X A st { Φ with nx := fun A' => SDTs X T A' rest Φ }) : SDTs X T A (st :: rest) Φ := sdts_cons (sdt_of h)
theorem sdts_one (h : SDT X T A st Φ) : SDTs X T A [st] Φ := sdts_to (pss_one h) fun _ _ _ h => h
theorem pdt_of {t : TE} (h : PE X e t) (r : ∀ σ H Q, tDT X.K T A d σ H Q → t σ H Q) : PDT X T A e d := ⟨fun pins s σ H Q I hq => h.run pins s σ H Q I (r σ H Q hq)⟩
theorem ptt_of {t : TT} (h : PT X e t) (r : ∀ σ H Q, tTT X.K T A k σ H Q → t σ H Q) : PTT X T A e k := ⟨fun pins s σ H Q I hq => h.run pins s σ H Q I (r σ H Q hq)⟩
theorem pwt_of {t : TT} (h : PW X e t) (r : ∀ σ H Q, tTT X.K T A k σ H Q → t σ H Q) : PWT X T A e k := ⟨fun wh pins s σ H Q I hq => h.run wh pins s σ H Q I (r σ H Q hq)⟩
theorem PDT.eq (h : PDT X T A e x) (q : x = y) : PDT X T A e y := q ▸ h
theorem PTT.eq {k' : Bool} (h : PTT X T A e k) (q : k = k') : PTT X T A e k' := q ▸ h
/-- a op b, the tables grow in a -/
theorem ptt_cmp {op : CmpOp} {r : R2} (ho : OpR X (compareOp op) r) (hr : RD2 X.K r x y (.bool k)) (ha : PDT X T A a x) (hb : PD X A b y) (hm : behindInMarks op b = false) : PTT X T A (.Compare a [op] [b] pos) k :=
  ptt_of (pt_cmpR ho ha hb hm) fun σ H Q ⟨ps, hs, tb, q⟩ => ⟨ps, hs, tb, fun p1 vx H1 h1 t1 r1 => ⟨[], em, [], p1, h1, fun vy H2 e2 r2 =>
    hr (Mx p1 ++ []) H2 vx vy _ (fun a m => (h1.ext e2).avoid m) (r1.ex e2) r2 fun v H3 e3 r3 => by
      cases r3
      exact ⟨k, rfl, q p1 H3 (h1.ext (ex_trans e2 e3)) (t1.ext (ex_trans e2 e3))⟩⟩⟩
theorem ptt_neS {n : Nat} (hu : X.A.units + 64 < cLine) (hs : Sh n d) (ha : PDT X T A a d) (hb : PD X A b d) (hn : n ≤ 64 := by decide) : PTT X T A (.Compare a [.NotEq] [b] pos) false :=
  PTT.eq (ptt_cmp (op_neD hu) (rd_neD (hs.ed hn) (hs.ed hn)) ha hb (nomark _)) (by rw [eqv_same hs]; rfl)
theorem pwt_or1 (ha : PTT X T A a k) : PWT X T A (.BoolOp .Or [a] pos) k := pwt_of (pw_or1 ha) fun _ _ _ h => h
/-- a or b, a no, the tables grow in b -/
theorem ptt_or2 (ha : PTD X A a false) (hb : PTT X T A b k) : PTT X T A (.BoolOp .Or [a, b] pos) k := by
  have p : PW X (.BoolOp .Or [b] pos) (tTT X.K T A k) := pwt_or1 hb
  exact ptt_of (pw_or ha p).pt fun σ H Q ⟨ps, hs, tb, q⟩ => ⟨[], em, [], ps, hs, fun H1 e1 => iteF ⟨ps, hs.ext e1, tb.ext e1, q⟩⟩
theorem sdt_if {rest : List Stmt} (hc : PTT X T A c k) (h1 : k = true → SDTs X T A sts Φ) (h2 : k = false → SDTs X T A rest Φ) : SDT X T A (.If c sts rest pos) Φ := by
  have p1 : PSs X sts (fun Dn σ H => k = true ∧ tST X.K T A Φ Dn σ H) := ⟨fun pins s σ H Dn I q => (h1 q.1).run pins s σ H Dn I q.2⟩
  have p2 : PSs X rest (fun Dn σ H => k = false ∧ tST X.K T A Φ Dn σ H) := ⟨fun pins s σ H Dn I q => (h2 q.1).run pins s σ H Dn I q.2⟩
  refine sdt_to (ps_if hc p1 p2) fun Dn σ H ⟨ps, hs, tb, rz⟩ => ⟨ps, hs, tb, fun ps' H1 hh tt => ?_⟩
  cases k with
  | true => exact iteT ⟨rfl, ps', hh, tt, rz⟩
  | false => exact iteF ⟨rfl, ps', hh, tt, rz⟩
theorem sdts_noT {rest : List Stmt} (hc : PTT X T A c false) (h : SDTs X T A rest Φ) : SDTs X T A (.If c sts [] pos :: rest) Φ :=
  sdts_cons (sdt_if hc (fun z => nomatch z) fun _ => sdts_nil h)
/-- return a == b -/
theorem pdt_cmp {op : CmpOp} {r : R2} (ho : OpR X (compareOp op) r) (hr : RD2 X.K r x y z) (ha : PDT X T A a x) (hb : PD X A b y) (hm : behindInMarks op b = false) : PDT X T A (.Compare a [op] [b] pos) z :=
  pdt_of (pe_cmpR ho ha hb hm) fun σ H Q ⟨ps, hs, tb, q⟩ => ⟨ps, hs, tb, fun p1 vx H1 h1 t1 r1 => ⟨[], em, [], p1, h1, fun vy H2 e2 r2 =>
    hr (Mx p1 ++ []) H2 vx vy _ (fun a m => (h1.ext e2).avoid m) (r1.ex e2) r2 fun v H3 e3 r3 => q p1 v H3 (h1.ext (ex_trans e2 e3)) (t1.ext (ex_trans e2 e3)) r3⟩⟩
theorem sdt_ret (he : PDT X T A e d) (h : Φ.rt A d) : SDT X T A (.Return (some e) pos) Φ :=
  sdt_to (ps_ret he) fun Dn σ H ⟨ps, hs, tb, rz⟩ => ⟨ps, hs, tb, fun ps' v H' h' t' r => rz.rt ps' A σ H' v d h' r h⟩
end
end Z

set_option maxHeartbeats 2000000
namespace Z
open PySem PySem.Spec PyProof.Rows L2
open LamX (Tabs TabS ExtN CodeO TabB LamS lamCx lamEnv)
/-! ### defs that raise -/
def spDE (K : PySem.W.Frag) (mg : Str → Option Value) (φ : List D → D → Prop) (χ : List D → Str → Prop) : Sp := fun vs H Q E => ∃ M ds, (∀ a ∈ M, H a ≠ none) ∧ RepA K M H vs ds ∧
  ((∃ d, φ ds d ∧ ∀ v H', Ex H H' → Rep K M H' v d → Q v H') ∨ ∃ n C, χ ds n ∧ mg n = some (.ref C) ∧ ∀ H', Ex H H' → E (.ref C) none H')
structure DFnE (P : Program) (w : World) (K : PySem.W.Frag) (mg : Str → Option Value) (base : Heap) (k : Nat) (n : Str) (φ : List D → D → Prop) (χ : List D → Str → Prop) : Prop where
  ok : ∃ f fd ps, FnOk P w K mg base (L2.CX P w) k f fd ps (spDE K mg φ χ) ∧ mg n = some (.ref f) ∧ PySem.W.keepIn K (.ref f) = true ∧ Binds K fd ps []
/-- a class to be raised -/
structure ExN (K : PySem.W.Frag) (mg : Str → Option Value) (n : Str) (C : Addr) : Prop where
  g : mg n = some (.ref C)
  x : PySem.W.excIn K C [.type "ValueError", .type "Exception", .type "BaseException", .type "object"] "ValueError.__new__" = true
  k : PySem.W.keepIn K (.ref C) = true
  b : PySem.W.subIn K (.ref C) (.type "BaseException") = some true
  t : PySem.W.typeIn K (.ref C) = some (.type "type")
/-- a block that ends with an exception -/
def tR (K : PySem.W.Frag) (A : AS) (Θ : L2.St → Hp → Prop) : TS := fun _ σ H => ∃ W H0 F ps, Has K W H0 F ps A σ H ∧ ∀ ps' A' σ' H', Has K W H0 F ps' A' σ' H' → Θ σ' H'
def SR (X : Cx) (A : AS) (sts : List Stmt) (Θ : L2.St → Hp → Prop) : Prop := PSs X sts (tR X.K A Θ)
section
variable {X : Cx} {A A' : AS} {st : Stmt} {sts rest els : List Stmt} {Θ : L2.St → Hp → Prop} {c e : Expr} {es : List Expr} {ds : List D} {pos p : Pos} {W : WX}
theorem sr_of {t : TS} (h : PSs X sts t) (r : ∀ Dn σ H, tR X.K A Θ Dn σ H → t Dn σ H) : SR X A sts Θ := ⟨fun pins s σ H Dn I hq => h.run pins s σ H Dn I (r Dn σ H hq)⟩
theorem pss_no : PSs X sts (fun _ _ _ => False) := ⟨fun _ _ _ _ _ _ h => h.elim⟩
theorem sr_raise {n m : Str} {C : Addr} {j : Nat} {p2 pos' : Pos} (hc : X.calm = true) (tk : Takes X W) (N : ExN X.K X.mg n C) (hw : ∀ σ H, Θ σ H → W (.ref C) none σ H) (hg : Gl X n := by rfl) (hdb : (n == ("__debug__" : Str)) = false := by decide) :
    SR X A (.Raise (some (.Call (.Name n p) [.Constant (.str m) j p2] [] pos)) none pos' :: rest) Θ :=
  sr_of (pss_cons (ps_raise hc tk (pmk_own PySem.F.excBase_ValueError N.x N.g N.k (raises_own N.b N.t) hg hdb)) pss_no) fun Dn σ H ⟨W, H0, F, ps, hs, q⟩ => hw σ H (q ps A σ H hs)
theorem sr_cons (h : SD X A st { nx := fun A' => SR X A' rest Θ, rt := fun _ _ => False }) : SR X A (st :: rest) Θ := by
  have h2 : PSs X rest (fun Dn σ H => ∃ A', SR X A' rest Θ ∧ tR X.K A' Θ Dn σ H) := ⟨fun pins s σ H Dn I ⟨A', hs, q⟩ => hs.run pins s σ H Dn I q⟩
  exact sr_of (pss_cons h h2) fun Dn σ H ⟨W, H0, F, ps, hs, q⟩ => ⟨W, H0, F, ps, hs,
    { nx := fun ps' A' σ' H' h' z => ⟨A', z, W, H0, F, ps', h', q⟩
      bk := fun _ _ _ _ _ z => z.elim
      ct := fun _ _ _ _ _ z => z.elim
      rt := fun _ _ _ _ _ _ _ _ z => z.elim
      rtF := fun _ _ _ _ _ _ _ _ z => z.elim }⟩
theorem sr_if (hc : PTD X A c true) (h : SR X A sts Θ) : SR X A (.If c sts els pos :: rest) Θ :=
  sr_of (pss_cons (ps_if hc h pss_no) pss_no) fun Dn σ H ⟨W, H0, F, ps, hs, q⟩ => ⟨W, H0, F, ps, hs, fun H1 e1 => iteT ⟨W, H0, F, ps, hs.ext e1, q⟩⟩
end
section
variable {P : Program} {w : World} {K : PySem.W.Frag} {mg : Str → Option Value} {base : Heap}
abbrev BdE (P : Program) (w : World) (K : PySem.W.Frag) (mg : Str → Option Value) (base : Heap) (N : List Str) (qual : Str) (scope : Scope) (f : Addr) (cdv : Value) (A : Around) (outer : List Env) (s : Shared) (H : Hp) (E : XK) : Cx := cxOf (L2.CX P w) P w K mg base N qual scope f cdv A outer s H E
theorem takesE {N : List Str} {qual : Str} {scope : Scope} {f : Addr} {cdv : Value} {A : Around} {outer : List Env} {s : Shared} {H : Hp} {E : XK} : Takes (BdE P w K mg base N qual scope f cdv A outer s H E) (fun cls d _ H => E cls d H) := takes_of rfl rfl rfl rfl
theorem fnDE {x qual : Str} {st : Stmt} {f : Addr} {fd : FuncData} {N ps : List Str} {k : Nat} {φ : List D → D → Prop} {χ : List D → Str → Prop} (F : Fun K x qual st f fd) (S : FnScope N ps (defScope st)) (hl1 : ∀ ds d, φ ds d → ds.length = ps.length) (hl2 : ∀ ds n, χ ds n → ds.length = ps.length)
    (b1 : ∀ (cdv : Value) (A : Around) (outer : List Env) (s : Shared) (H : Hp) (E : XK) (ds : List D) (d : D), Room k (A.deeper (envOfC qual (defScope st) s.heap.objs.size f cdv)) → φ ds d →
      SDs (BdE P w K mg base N qual (defScope st) f cdv A outer s H E) (startA N ds) (defBody st) { nx := fun _ => d = .none, rt := fun _ r => r = d })
    (b2 : ∀ (cdv : Value) (A : Around) (outer : List Env) (s : Shared) (H : Hp) (E : XK) (ds : List D) (n : Str) (C : Addr), Room k (A.deeper (envOfC qual (defScope st) s.heap.objs.size f cdv)) → χ ds n → mg n = some (.ref C) →
      SR (BdE P w K mg base N qual (defScope st) f cdv A outer s H E) (startA N ds) (defBody st) (fun _ H' => E (.ref C) none H')) : FnOk P w K mg base (L2.CX P w) (k + 1) f fd ps (spDE K mg φ χ) := by
  refine F.okX S (fun vs H Q E ⟨M, ds, _, r, h⟩ => ?_) fun cdv A outer s H vs Q E hr ⟨M, ds, hm, r, h⟩ => ?_
  · rw [r.length]
    rcases h with ⟨d, h, _⟩ | ⟨n, C, h, _⟩
    · exact hl1 ds d h
    · exact hl2 ds n h
  · rcases h with ⟨d, h, q⟩ | ⟨n, C, h, hC, q⟩
    · refine ⟨_, b1 cdv A outer s H E ds d hr h, [], H, M, [], has_start r hm, ?_⟩
      exact ⟨fun ps A σ H' h' e => q .non H' (fun a o z => h'.ex a o (by simp) z) (by rw [e]; exact .non), fun _ _ _ _ _ z => z.elim, fun _ _ _ _ _ z => z.elim,
        fun ps A σ H' v d' h' r' e => q v H' (fun a o z => h'.ex a o (by simp) z) (by rw [← e]; exact r'.go (Go.sub fun a z => List.mem_append_right _ z)), fun _ _ _ _ _ _ _ _ z => z.elim⟩
    · exact ⟨_, b2 cdv A outer s H E ds n C hr h hC, [], H, M, [], has_start r hm, fun ps' A' σ' H' h' => q H' fun a o z => h'.ex a o (by simp) z⟩
end
/-- what a lambda's body comes to: data, or an exception of the class at C -/
inductive Out where
  | dat (d : D)
  | exc (C : Addr)
def tL (K : PySem.W.Frag) (A : AS) (r : Out) (E : XK) : TE := fun σ H Q => ∃ W H0 F ps, Has K W H0 F ps A σ H ∧ match r with
  | .dat d => ∀ v H', Ex H H' → Rep K (Mx ps ++ F) H' v d → Q v H'
  | .exc C => ∀ H', Ex H H' → E (.ref C) none H'
section
variable {X : Cx} {A : AS} {e : Expr} {es : List Expr} {ds : List D} {pos p : Pos} {E : XK}
theorem pl_call {n : Str} {k : Nat} {φ : List D → D → Prop} {χ : List D → Str → Prop} {r : Out} (G : DFnE X.prog X.w X.K X.mg X.base k n φ χ) (hr : Room k X.A) (hx : Passes (L2.CX X.prog X.w) X E) (ha : PDs X A (e :: es) ds)
    (h : match r with | .dat d => φ ds d | .exc C => ∃ n, χ ds n ∧ X.mg n = some (.ref C)) (hg : Gl X n := by rfl) (hdb : (n == ("__debug__" : Str)) = false := by decide)
    (he : starEach (e :: es) X.env = (false, eval e X.env) :: starEach es X.env := by rfl) (hpl : (backTo pos (starEach es X.env)).any (·.1) = false := by rfl) : PE X (.Call (.Name n p) (e :: es) [] pos) (tL X.K A r E) := by
  obtain ⟨f, fd, ps, G1, G2, G3, G4⟩ := G.ok
  have base := pe_call (p := p) G1 hr hg G2 G3 G4 .nil (E := E) hx ha hdb he hpl
  refine ⟨fun pins s σ H Q I ⟨W, H0, F, ps, hs, q⟩ => base.run pins s σ H Q I ⟨W, H0, F, ps, hs, fun vs H1 e1 r1 => ?_⟩⟩
  refine ⟨Mx ps ++ F, ds, fun a m => (hs.ext e1).avoid m, by rw [List.append_nil]; exact r1, ?_⟩
  cases r with
  | dat d => exact .inl ⟨d, h, fun v H2 e2 r2 => q v H2 (ex_trans e1 e2) r2⟩
  | exc C =>
    obtain ⟨m, hm, hC⟩ := h
    exact .inr ⟨m, C, hm, hC, fun H2 e2 => q H2 (ex_trans e1 e2)⟩
end
theorem takesL {X : Cx} {A : Around} {outer : List Env} {s : Shared} {H : Hp} {E : XK} {scope : Scope} {f c' : Addr} : Takes (lamCx X A outer s H E scope f c') (fun cls d _ H => E cls d H) := takes_of rfl rfl rfl rfl
theorem passL' {X : Cx} {A : Around} {outer : List Env} {s : Shared} {H : Hp} {E : XK} {scope : Scope} {f c' : Addr} : Passes (L2.CX X.prog X.w) (lamCx X A outer s H E scope f c') E := passes_call takesL fun _ _ _ _ h => h
/-! ### x(lambda: body, k) -/
/-- more is wished, more is granted -/
def Mono (tl : XK → Hp → VK → Prop) : Prop := ∀ (E E' : XK) (H : Hp) (Q Q' : VK), (∀ c d H', E c d H' → E' c d H') → (∀ v H', Q v H' → Q' v H') → tl E H Q → tl E' H Q'
theorem tL_mono {K : PySem.W.Frag} {A : AS} {r : Out} {σ : L2.St} : Mono (fun E H Q => tL K A r E σ H Q) := fun E E' H Q Q' he hq ⟨W, H0, F, ps, hs, h⟩ => by
  refine ⟨W, H0, F, ps, hs, ?_⟩
  cases r with
  | dat d => exact fun v H' e r => hq v H' (h v H' e r)
  | exc C => exact fun H' e => he _ _ _ (h H' e)
/-- x() in the def that got the lambda, the slots at the call known -/
theorem pe_actS {X : Cx} {pins : List (Addr × Obj)} {σ : L2.St} {H : Hp} {s : Shared} {CG : CXT} {EG : XK} {Ng : List Str} {qg : Str} {sg : Scope} {g f c' : Addr} {cdg pm ctv : Value} {params : Arguments} {body : Expr} {scope : Scope} {k i : Nat} {a : Str} {pn : List (Addr × Obj)} {xe : Value → Shared → Prop} {W : WX} {tb : XK → TE} {p1 p2 : Pos}
    (I : Inv X pins σ H s) (L : LamS X.env.scope scope) (hof : s.heap.get? f = some (PySem.W.kla_obj "<lambda>" (X.env.qual ++ "<lambda>") params body scope (cloFrom X.env.cells scope.names []) pm c' ctv)) (nf : H f = none) (nfr : f ∉ frs X.stack)
    (hbd : bindArgs (PySem.W.kla_fn "<lambda>" (X.env.qual ++ "<lambda>") params body scope (cloFrom X.env.cells scope.names []) pm (.ref c') ctv) ⟨[], []⟩ = pure [])
    (tk : Takes ((cxOf CG X.prog X.w X.K X.mg X.base Ng qg sg g cdg X.A X.stack s H EG).tr pn xe) W) (hr : Room (k + 1) (X.A.deeper (envOfC qg sg s.heap.objs.size g cdg)))
    (hbody : ∀ (A : Around) (outer : List Env) (s : Shared) (H : Hp) (E : XK), Room k (A.deeper (lamEnv X scope s.heap.objs.size f c')) → PE (lamCx X A outer s H E scope f c') body (tb E))
    (hN : Ng[i]? = some a) (hv : Vis sg a) (hd : (a == ("__debug__" : Str)) = false := by decide) (hcd : (a == ("__classdict__" : Str)) = false := by decide) :
    PE ((cxOf CG X.prog X.w X.K X.mg X.base Ng qg sg g cdg X.A X.stack s H EG).tr pn xe) (.Call (.Name a p1) [] [] p2)
      (fun σZ HZ Q => σZ[i]? = some (some (.ref f)) ∧ HZ c' = some (CodeO c' (X.env.qual ++ "<lambda>")) ∧ tb (WE W σZ) σ HZ Q) := by
  refine ⟨fun pinsZ sZ σZ HZ Q IZ ⟨hs, hc, ht⟩ => ?_⟩
  refine wpAny_Call_Name_kw (thn ((pe_var (pos := p1) (i := i) hN hv hd hcd).run pinsZ sZ σZ HZ (fun v HH => v = .ref f ∧ HH = HZ) IZ ⟨.ref f, hs, rfl, rfl⟩) fun u s1 ⟨v, HH, I1, r1, ev, eH⟩ => ?_)
  subst ev
  rw [eH] at I1
  have eu : u = Value.ref f := r1
  subst eu
  have of1 : s1.heap.get? f = some (PySem.W.kla_obj "<lambda>" (X.env.qual ++ "<lambda>") params body scope (cloFrom X.env.cells scope.names []) pm c' ctv) := I1.base.keep f _ hof nf nfr (fun z => nomatch (show f ∈ ([] : List Addr) from z))
  refine PySem.W.callWith_F0 ⟨_, _, _, _, of1⟩ ?_
  have ug : Un (frs X.stack) [] H HZ s.heap s1.heap := I1.base
  obtain ⟨⟨oc, vs, t, hoc, hdc, hvc⟩, _, _⟩ := I1.hok c' _ hc
  have rc : codeAny (model X.prog X.w) (X.A.deeper (envOfC qg sg s.heap.objs.size g cdg)) (.call (.ref f) ⟨[], []⟩) (CR (L2.CX X.prog X.w) (envOfC qg sg s.heap.objs.size g cdg :: X.stack) X.prog X.w HZ s1 Q (WE W σZ)) s1 := by
    refine PySem.W.kla_callFunE hr.depth of1 rfl L.co L.gen rfl ⟨c', oc, vs, t, rfl, hoc, hdc, hvc⟩ ?_
    rw [hbd]
    refine wpAny_pure (wpAny_newFunctionEnv (fun y hy => (L.own y hy).2) (fun y hy => absurd hy (by simp)) (fun h2 hns hsb => ⟨I1.nolimit.fresh _ hsb, ?_⟩) L.kind)
    show codeAny _ _ (.expr body (lamEnv X scope s1.heap.objs.size f c')) _ _
    have kp : ∀ b o, s1.heap.get? b = some o → h2.get? b = some o := fun b o e => hsb.extBut b o (Nat.ne_of_lt (Heap.lt_size e)) (Heap.get?_push_of_some _ e)
    have J : Inv (lamCx X (X.A.deeper (envOfC qg sg s.heap.objs.size g cdg)) (envOfC qg sg s.heap.objs.size g cdg :: X.stack) s1 HZ (WE W σZ) scope f c') [] σ HZ { s1 with heap := h2, toks := s1.toks + ([] : List (Str × Value)).length } := LamX.lam_start2 I L I1.env0 hr.hd ug hns kp
    refine PySem.W.kla_codeExpr (wpAny_mono ((hbody _ _ s1 HZ _ (hr.deeper _)).run [] _ _ HZ Q J ht) (fun v s' hq => ?_) fun e s' hq => hq)
    obtain ⟨w', H', J', rv, q⟩ := hq
    exact ⟨w', H', J'.os, J'.bare, J'.base, J'.hok, rv, q⟩
  refine wpAny_call (codeAny_mono rc fun r s' hq => ?_)
  cases r with
  | error e => exact passAt tk σZ pinsZ HZ s1 e s' I1 hq
  | ok fl =>
    cases fl with
    | ret u => exact I1.after hq
    | next => exact hq.elim
    | brk => exact hq.elim
    | cont => exact hq.elim
def Gives2 (X : Cx) (Ng : List Str) (x : Str) (sg : Scope) (g : Addr) (cdg : Value) (bg : List Stmt) (a : Str) (q : Str) (ki : Int) (TT : (XK → Hp → VK → Prop) → Hp → VK → Prop) : Prop :=
  ∀ (f c' : Addr) (s : Shared) (H : Hp) (Q : VK) (tl : XK → Hp → VK → Prop), Mono tl →
    (∀ (W : WX) (pn : List (Addr × Obj)) (xe : Value → Shared → Prop) (p1 p2 : Pos), Takes ((cxOf C8.CX0 X.prog X.w X.K X.mg X.base Ng x sg g cdg X.A X.stack s H C8.E0).tr pn xe) W →
      PE ((cxOf C8.CX0 X.prog X.w X.K X.mg X.base Ng x sg g cdg X.A X.stack s H C8.E0).tr pn xe) (.Call (.Name a p1) [] [] p2) (fun σZ HZ Q => σZ[0]? = some (some (.ref f)) ∧ HZ c' = some (CodeO c' q) ∧ tl (WE W σZ) HZ Q)) →
    H c' = some (CodeO c' q) → TT tl H Q →
    ∃ t, PSs (cxOf C8.CX0 X.prog X.w X.K X.mg X.base Ng x sg g cdg X.A X.stack s H C8.E0).nox bg t ∧ t { nx := fun _ H' => Q .non H', rt := Q } (L2.start Ng [.ref f, .int ki]) H
section
variable {X : Cx}
theorem pe_lam2 {T : List (Addr × Str)} {TT : (XK → Hp → VK → Prop) → Hp → VK → Prop} {x a b : Str} {g c P : Addr} {k : Nat} {st : Stmt} {fd : FuncData} {Ng : List Str} {params : Arguments} {body : Expr} {scope : Scope} {t : XK → TE} {p lpos kp pos : Pos} {ki : Int} {j : Nat}
    (hm : X.mg x = some (.ref g)) (F : Fun X.K x x st g fd) (hb : L2.Binds X.K fd [a, b] []) (Sg : FnScope Ng [a, b] (defScope st)) (hNg : Ng[0]? = some a) (hva : Vis (defScope st) a)
    (hG : ∀ cdv, Gives2 X Ng x (defScope st) g cdv (defBody st) a (X.env.qual ++ "<lambda>") ki TT)
    (TB : TabB X.base X.mg c P) (hcode : X.env.code = .ref c) (hmT : (P, X.env.qual ++ "<lambda>") ∈ T) (hu : ∀ p ∈ T, p.1 = P → p.2 = X.env.qual ++ "<lambda>") (hr : Room (k + 2) X.A) (L : LamS X.env.scope scope) (hdef : defaultsOf params X.env = ([], []))
    (hbind : ∀ (q : Str) (cl : List (Str × Addr)) (pm cv ctv : Value), bindArgs (PySem.W.kla_fn "<lambda>" q params body scope cl pm cv ctv) ⟨[], []⟩ = pure [])
    (hbody : ∀ (A : Around) (outer : List Env) (s : Shared) (H : Hp) (E : XK) (f c' : Addr), Room k (A.deeper (lamEnv X scope s.heap.objs.size f c')) → PE (lamCx X A outer s H E scope f c') body (t E)) (hmo : ∀ σ, Mono fun E H Q => t E σ H Q) (hg : Gl X x := by rfl)
    (hdb : (x == ("__debug__" : Str)) = false := by decide) (hd : (a == ("__debug__" : Str)) = false := by decide) (hcd : (a == ("__classdict__" : Str)) = false := by decide) :
    PE X (.Call (.Name x p) [.Lambda params body scope lpos, .Constant (.int ki) j kp] [] pos) (LamX.tLam T TT t) := by
  refine ⟨fun pins s σ H Q I ⟨hT, hq⟩ => ?_⟩
  obtain ⟨oc, od, kV, doc, pm, an, cdv, ct, osl, rfl, lk, hcg⟩ := F.ex
  refine wpAny_Call_Name_kw (ld_glob I hg hm ?_ hdb)
  refine PySem.W.callWith_K (h₀ := X.base) I.ok.mod.kin F.kp ?_ (by rfl) (by rfl)
  show wpAny _ _ (spliced ((false, eval (.Lambda params body scope lpos) X.env) :: backTo pos (starEach [.Constant (.int ki) j kp] X.env))) _ _ s
  refine Calls.spliced_cons (LamX.lam_make2 I TB hcode hmT hu hT hdef (L.has I.ok) fun f c' pm' ctv H1 s' I1 eN T1 hf hfn hfr hco => ?_)
  show wpAny _ _ (spliced ((false, eval (.Constant (.int ki) j kp) X.env) :: backTo pos (starEach [] X.env))) _ _ s'
  refine Calls.spliced_cons (wpAny_Constant_int (k := j) (pos := kp) (Calls.spliced_nil ?_))
  have I2 : Inv X pins σ H1 { s' with toks := s'.toks + 1 } := I1.tok _
  refine ⟨I2.kIn, ?_⟩
  have rc : codeAny (model X.prog X.w) X.A (.call (.ref g) ⟨[.ref f, .int ki s'.toks], []⟩) (CR C8.CX0 X.stack X.prog X.w H1 { s' with toks := s'.toks + 1 } Q C8.E0) { s' with toks := s'.toks + 1 } := by
    refine LamX.run_ofS (N := Ng) (ps := [a, b]) (us := [.ref f, .int ki s'.toks]) (vs := [.ref f, .int ki]) lk hcg Sg hr I2.env0 (hb _ _ I2.kIn rfl) (.cons rfl (.cons ⟨_, rfl⟩ .nil)) rfl fun hr' => ?_
    obtain ⟨t', ht', hq'⟩ := hG cdv f c' { s' with toks := s'.toks + 1 } H1 Q (fun E H' Q' => t E σ H' Q') (hmo σ) (fun W pn xe p1 p2 tk => pe_actS (i := 0) I2 L hf hfn hfr (hbind _ _ _ _ _) tk hr' (fun A outer s H E hr2 => hbody A outer s H E f c' hr2) hNg hva hd hcd) hco (hq H1 eN T1)
    exact ⟨t', ht'.nox, hq'⟩
  refine wpAny_call (codeAny_mono rc fun r s2 hz => ?_)
  cases r with
  | error e => exact (show False from hz).elim
  | ok fl =>
    cases fl with
    | ret u => exact I2.after hz
    | next => exact hz.elim
    | brk => exact hz.elim
    | cont => exact hz.elim
end
end Z

namespace Z
open PySem PySem.Spec PyProof.Rows L2
open LamX (Tabs TabS ExtN CodeO TabB LamS lamCx lamEnv)
/-! ### told: ("told", what came) or ("refused", is the class the one) -/
theorem countP_eqU {y : V} : ∀ {ys : List V} {its : List Value}, Vals ys its → ys.all flatV = true → its.countP (eqU y) = ys.countP fun z => eqV z y
  | _, _, .nil, _ => rfl
  | z :: ys, u :: its, .cons r t, f => by
    rw [List.all_cons, Bool.and_eq_true] at f
    rw [List.countP_cons, List.countP_cons, eqU_of r f.1, countP_eqU t f.2]
theorem mt_lcountF {X : Cx} : MtR X "list.count" (fun x xs H Q => ∃ (a : Addr) (ys : List V) (y : V), x = .ref a ∧ xs = [y] ∧ SqL X.K H a ys ∧ flatV y = true ∧ ys.all flatV = true ∧ Q (.int (ys.countP fun z => eqV z y : Nat)) H) := by
  intro pins s σ H x xs v us Q I rx rxs ⟨a, ys, y, ex, es, hs, fy, fys, q⟩
  subst ex es
  obtain rfl := rx
  obtain ⟨u, rfl, ru⟩ := rxs.one
  obtain ⟨its, rv, ⟨⟨cls, dd, data, sl⟩, n, ho, hc, hdn, hd⟩, hlen⟩ := I.list hs
  dsimp only at hc hd
  subst hc hd
  refine call_meets PySem.F.slot_list_count ⟨_, ho, rfl⟩ PySem.F.entry_list_count (PySem.F.args_list_count_2 _ _) (SeqAt.list_countAt a its.toArray n dd sl u (eqU y)) ⟨ho, fun z hz => mem_eqAt ru fy rv fys z (by simpa using hz), ?_⟩
  refine ⟨.int (ys.countP fun z => eqV z y : Nat), H, I.tok _, ⟨s.toks, ?_⟩, q⟩
  show Value.int ((its.toArray.toList.countP (eqU y) : Nat) : Int) s.toks = Value.int ((ys.countP fun z => eqV z y : Nat) : Int) s.toks
  rw [show its.toArray.toList = its from rfl, countP_eqU rv fys]
/-- the class at D is the one of number ix -/
structure ToldC (K : PySem.W.Frag) (NS NR NP NT R D : Addr) (ix : Nat) : Prop where
  c : ExcC K D
  o : PySem.W.exmOne K (.ref D) (.ref R) = some true
  v : PySem.W.kitOne K (.ref D) (.type "ValueError") = some true
  i0 : PySem.W.kitOne K (.ref D) (.ref NS) = some (decide (ix = 0))
  i1 : PySem.W.kitOne K (.ref D) (.ref NR) = some (decide (ix = 1))
  i2 : PySem.W.kitOne K (.ref D) (.ref NP) = some (decide (ix = 2))
  i3 : PySem.W.kitOne K (.ref D) (.ref NT) = some (decide (ix = 3))
  lt : ix < 4
def TTold2 (K : PySem.W.Frag) (NS NR NP NT R : Addr) (ki : Int) : (XK → Hp → VK → Prop) → Hp → VK → Prop := fun tl H Q =>
  tl (fun cls d H' => d = none ∧ ∃ D ix, cls = .ref D ∧ ToldC K NS NR NP NT R D ix ∧ ∀ p H'', Ex H' H'' → H'' p = some (.tup [.str "refused", .bl (decide ((ix : Int) = ki))]) → Q (.ref p) H'') H
    (fun v H' => ∀ p, H' p = none → Q (.ref p) (upd H' p (.tup [.str "told", v])))
def OutRes (K : PySem.W.Frag) (NS NR NP NT R : Addr) (ki : Int) (res : D) : Out → Prop
  | .dat d => res = .tuple [.str "told", d]
  | .exc C => ∃ ix : Nat, ToldC K NS NR NP NT R C ix ∧ res = .tuple [.str "refused", .bool (decide ((ix : Int) = ki))]
theorem pdt_told {X : Cx} {T : List (Addr × Str)} {A : AS} {e : Expr} {r : Out} {res : D} {NS NR NP NT R : Addr} {ki : Int} (base : PE X e (LamX.tLam T (TTold2 X.K NS NR NP NT R ki) (fun E => tL X.K A r E)))
    (h : OutRes X.K NS NR NP NT R ki res r) : PDT X T A e res :=
  pdt_of base fun σ H Q ⟨ps, hs, tb, q⟩ => ⟨tb, fun H1 eN T1 => ⟨[], em, [], ps, hs.extN eN, by
    cases r with
    | dat d =>
      have h' : res = .tuple [.str "told", d] := h
      subst h'
      intro v H2 e2 r2 p hp
      exact q ps (.ref p) _ (((hs.extN eN).ext e2).ext (ex_new hp)) ((T1.ext e2).ext (ex_new hp)) (.tup (.inl upd_same) (.cons (.str _) (.cons (r2.ex (ex_new hp)) .nil)))
    | exc C =>
      obtain ⟨ix, hC, hres⟩ := h
      subst hres
      intro H2 e2
      exact ⟨rfl, C, ix, rfl, hC, fun p H3 e3 hp => q ps (.ref p) H3 (((hs.extN eN).ext e2).ext e3) ((T1.ext e2).ext e3) (.tup (.inl hp) (.cons (.str _) (.cons (.bl _) .nil)))⟩⟩⟩
/-- the four answers, counted and found -/
def bls (ix : Nat) : List V := [.bl (decide (ix = 0)), .bl (decide (ix = 1)), .bl (decide (ix = 2)), .bl (decide (ix = 3))]
theorem bls_count {ix : Nat} (h : ix < 4) : ((bls ix).countP fun z => eqV z (.bl true)) = 1 := by
  rcases (show ix = 0 ∨ ix = 1 ∨ ix = 2 ∨ ix = 3 by omega) with rfl | rfl | rfl | rfl <;> decide
theorem bls_flat {ix : Nat} : (bls ix).all flatV = true := rfl
theorem bls_get {ix : Nat} (h : ix < 4) : (bls ix)[ix]? = some (.bl true) := by
  rcases (show ix = 0 ∨ ix = 1 ∨ ix = 2 ∨ ix = 3 by omega) with rfl | rfl | rfl | rfl <;> simp [bls]
theorem bls_no {ix m : Nat} {z : V} (h : ix < 4) (hm : m < ix) (hz : (bls ix)[m]? = some z) : z = .bl false := by
  rcases (show ix = 0 ∨ ix = 1 ∨ ix = 2 ∨ ix = 3 by omega) with rfl | rfl | rfl | rfl <;> rcases (show m = 0 ∨ m = 1 ∨ m = 2 by omega) with rfl | rfl | rfl <;> first | omega | (simp [bls] at hz; exact hz.symm)
theorem bls_index {K : PySem.W.Frag} {H : Hp} {a : Addr} {Q : VK} {ix : Nat} (h : ix < 4) (hs : SqL K H a (bls ix)) (q : Q (.int (ix : Int)) H) : rIndex K (.ref a) [.bl true] H Q :=
  ⟨a, bls ix, .bl true, ix, .bl true, rfl, rfl, hs, rfl, rfl, bls_get h, rfl, fun m z hm hz => by rw [bls_no h hm hz]; rfl, q⟩
/-- isinstance(e, a class of the law's own) -/
theorem pe_isE {Y : Cx} {a D C : Addr} {oe : Obj} {pn : List (Addr × Obj)} {n : Str} {b : Bool} {p1 p2 p3 p4 : Pos} (hC : ExcC Y.K D) (hz : Zc (.ref D) none oe) (hf : ∃ vs, oe.data = .fields vs) (hk : PySem.W.kitOne Y.K (.ref D) (.ref C) = some b) (hm : Y.mg n = some (.ref C)) (hI : Y.mg "isinstance" = none) (hN : Y.N[3]? = some ("e" : Str))
    (hv : Vis Y.env.scope ("e" : Str)) (hg : Gl (Y.suite a ((a, oe) :: pn)) "isinstance") (hgn : Gl (Y.suite a ((a, oe) :: pn)) n) (hn : (n == ("__debug__" : Str)) = false)
    (he : starEach [.Name "e" p1, .Name n p2] (Y.suite a ((a, oe) :: pn)).env = [(false, eval (.Name "e" p1) (Y.suite a ((a, oe) :: pn)).env), (false, eval (.Name n p2) (Y.suite a ((a, oe) :: pn)).env)]) (he2 : starEach [.Name n p2] (Y.suite a ((a, oe) :: pn)).env = [(false, eval (.Name n p2) (Y.suite a ((a, oe) :: pn)).env)])
    (hpl : (backTo p4 (starEach [.Name n p2] (Y.suite a ((a, oe) :: pn)).env)).any (·.1) = false) :
    PE (Y.suite a ((a, oe) :: pn)) (.Call (.Name "isinstance" p3) [.Name "e" p1, .Name n p2] [] p4) (fun σ H Q => σ[3]? = some (some (.ref a)) ∧ Q (.bl b) H) := by
  have p := pe_callB (X := Y.suite a ((a, oe) :: pn)) (p := p3) (pos := p4) (call_isE hC hz hf) hg hI bb_isi (pa_cons (pe_var (pos := p1) (i := 3) hN hv (by decide) (by decide)) (pa_cons (pe_glob (pos := p2) (v := .ref C) hgn hm rfl hn) pa_nil he2) he) (by decide) (by decide) he hpl
  exact ⟨fun pins s σ H Q I ⟨h1, h2⟩ => p.run pins s σ H Q I ⟨.ref a, h1, ⟨.ref C, .ref C, b, rfl, fun u h => h, hk, h2⟩⟩⟩
theorem pe_isV {Y : Cx} {a D : Addr} {oe : Obj} {pn : List (Addr × Obj)} {n : Str} {cn : String} {b : Bool} {p1 p2 p3 p4 : Pos} (hC : ExcC Y.K D) (hz : Zc (.ref D) none oe) (hf : ∃ vs, oe.data = .fields vs) (hk : PySem.W.kitOne Y.K (.ref D) (.type cn) = some b) (hm : Y.mg n = none) (hb : bootBuiltins n = some (.type cn)) (hI : Y.mg "isinstance" = none) (hN : Y.N[3]? = some ("e" : Str))
    (hv : Vis Y.env.scope ("e" : Str)) (hg : Gl (Y.suite a ((a, oe) :: pn)) "isinstance") (hgn : Gl (Y.suite a ((a, oe) :: pn)) n) (hnn : n ≠ "__name__") (hn : (n == ("__debug__" : Str)) = false)
    (he : starEach [.Name "e" p1, .Name n p2] (Y.suite a ((a, oe) :: pn)).env = [(false, eval (.Name "e" p1) (Y.suite a ((a, oe) :: pn)).env), (false, eval (.Name n p2) (Y.suite a ((a, oe) :: pn)).env)]) (he2 : starEach [.Name n p2] (Y.suite a ((a, oe) :: pn)).env = [(false, eval (.Name n p2) (Y.suite a ((a, oe) :: pn)).env)])
    (hpl : (backTo p4 (starEach [.Name n p2] (Y.suite a ((a, oe) :: pn)).env)).any (·.1) = false) :
    PE (Y.suite a ((a, oe) :: pn)) (.Call (.Name "isinstance" p3) [.Name "e" p1, .Name n p2] [] p4) (fun σ H Q => σ[3]? = some (some (.ref a)) ∧ Q (.bl b) H) := by
  have p := pe_callB (X := Y.suite a ((a, oe) :: pn)) (p := p3) (pos := p4) (call_isE hC hz hf) hg hI bb_isi (pa_cons (pe_var (pos := p1) (i := 3) hN hv (by decide) (by decide)) (pa_cons (pe_bltn (pos := p2) (v := .ty cn) hgn hm hb rfl hnn hn) pa_nil he2) he) (by decide) (by decide) he hpl
  exact ⟨fun pins s σ H Q I ⟨h1, h2⟩ => p.run pins s σ H Q I ⟨.ref a, h1, ⟨.ty cn, .type cn, b, rfl, fun u h => h, hk, h2⟩⟩⟩
def tbT (f c' : Addr) (q : Str) (tl : XK → Hp → VK → Prop) : WX → TS := fun W D σ H => σ[0]? = some (some (.ref f)) ∧ H c' = some (CodeO c' q) ∧ tl (WE W σ) H (fun v H' => ∀ p, H' p = none → D.nx (σ.set 2 (some (.ref p))) (upd H' p (.tup [.str "told", v])))
def tsT (K : PySem.W.Frag) (NS NR NP NT R : Addr) (ki : Int) : Addr → Value → Option Addr → TS := fun a cls d D σ H => d = none ∧ ∃ Dc ix, cls = .ref Dc ∧ ToldC K NS NR NP NT R Dc ix ∧ σ[1]? = some (some (.int ki)) ∧ σ[3]? = some (some (.ref a)) ∧ σ.length = 6 ∧
  ∀ p σ' H', Ex H H' → H' p = some (.tup [.str "refused", .bl (decide ((ix : Int) = ki))]) → σ'[2]? = some (some (.ref p)) → D.nx σ' H'
theorem bb_VE : bootBuiltins "ValueError" = some (.type "ValueError") := by decide +kernel
end Z

namespace Z
open PySem PySem.Spec PyProof.Rows L2
open LamX (Tabs TabS ExtN CodeO TabB LamS lamCx lamEnv)
/-! ### a law that hands lambdas on -/
structure ToldE (K : PySem.W.Frag) (mg : Str → Option Value) (base : Heap) (cL PL NS NR NP NT R g : Addr) (st : Stmt) (fd : FuncData) : Prop where
  ns : mg "NoStep" = some (.ref NS)
  nr : mg "NoRoom" = some (.ref NR)
  np : mg "NoPoint" = some (.ref NP)
  nt : mg "NoText" = some (.ref NT)
  r : mg "RingError" = some (.ref R)
  is : mg "isinstance" = none
  ve : mg "ValueError" = none
  F : Fun K "_law_told" "_law_told" st g fd
  m : mg "_law_told" = some (.ref g)
  b : Binds K fd ["_law_deed", "_law_kind"] []
  tb : TabB base mg cL PL
def spLaw (K : PySem.W.Frag) (T : List (Addr × Str)) : Sp := fun vs H Q _ => ∃ (a : Addr) (ns : List Int), vs = [.ref a] ∧ SqL K H a (ns.map V.int) ∧ ns.length ≤ 63 ∧ Tabs T H ∧ ∀ H', Q (.bl true) H'
theorem law_inT {K : PySem.W.Frag} {H : Hp} {a PL : Addr} {q : Str} {ns : List Int} (hl : ns.length ≤ 63) (hp : H PL = some (.tbl #[])) (hS : SqL K H a (ns.map V.int)) : spLaw K [(PL, q)] [.ref a] H (fun v _ => v = .bl true) fun _ _ _ => False :=
  ⟨a, ns, rfl, hS, hl, fun p h => by rw [List.mem_singleton.mp h]; exact TabS.nil hp, fun _ => rfl⟩
section
variable {P : Program} {w : World} {K : PySem.W.Frag} {mg : Str → Option Value} {base : Heap}
theorem fnLaw {x : Str} {st : Stmt} {f : Addr} {oc kV dc pm cdv ct : Value} {od an : Option Addr} {sl : Array (Option Value)} {N : List Str} {p : Str} {k : Nat} {T : List (Addr × Str)} (lk : K.lookup f = some ⟨oc, od, .func (PySem.W.fnOf x x (defArgs st) (defBody st) (defScope st) .none kV dc pm an cdv ct), sl⟩) (hcd : PySem.W.codeIn K cdv x = true) (S : FnScope N [p] (defScope st))
    (body : ∀ (A : Around) (outer : List Env) (s : Shared) (H : Hp) (E : XK) (ns : List Int), Room k (A.deeper (envOfC x (defScope st) s.heap.objs.size f cdv)) → ns.length ≤ 63 →
      SDTs (Bd P w K mg base N x (defScope st) f cdv A outer s H E) T (startA N [.list (ns.map .int)]) (defBody st) { nx := fun _ => False, rt := fun _ r => r = .bool true }) : FnOk P w K mg base CX0 (k + 1) f (PySem.W.fnOf x x (defArgs st) (defBody st) (defScope st) .none kV dc pm an cdv ct) [p] (spLaw K T) := by
  refine fn_of lk hcd S (fun vs H Q E ⟨a, ns, e, _⟩ => by rw [e]; rfl) fun A outer s H vs Q E hr ⟨a, ns, e, hS, hl, hT, q⟩ => ?_
  subst e
  have r : RepA K [] H [.ref a] [.list (ns.map .int)] := by
    refine .cons (.lst ?_ (RepA.of_ints ns)) .nil
    rcases hS with h | h
    · exact .inl ⟨h, by simp⟩
    · exact .inr (.inr h)
  have b := body A outer s H E ns hr hl
  refine ⟨_, b.nox, [], (has_start r fun a m => nomatch m).forget, hT, ?_⟩
  exact ⟨fun _ _ _ _ _ _ z => z.elim, fun _ _ _ _ _ _ z => z.elim, fun _ _ _ _ _ _ z => z.elim, fun ps A σ H' v d h' r' e => by
    subst e
    cases r'
    exact q H', fun _ _ _ _ _ _ _ _ z => z.elim⟩
end
end Z

namespace Z
open PySem PySem.Spec PyProof.Rows L2
/-! ### slices beyond the end; range downward -/
section
variable {xs : List D} {a b k : Nat}
theorem cutI_takeN : cutI xs none (some (k : Int)) = xs.take k := by
  rcases Nat.le_total k xs.length with h | h
  · exact cutI_take h
  · unfold cutI
    rw [HT.sIx_nat]
    show (xs.drop 0).take (min k xs.length - 0) = _
    rw [Nat.min_eq_right h, Nat.sub_zero, List.drop_zero, List.take_of_length_le (Nat.le_refl _), List.take_of_length_le h]
theorem cutI_dropN : cutI xs (some (k : Int)) none = xs.drop k := by
  rcases Nat.le_total k xs.length with h | h
  · exact cutI_drop h
  · unfold cutI
    rw [HT.sIx_nat, Nat.min_eq_right h, List.drop_of_length_le h, List.drop_of_length_le (Nat.le_refl _), List.take_nil]
theorem cutI_midN (h : a ≤ xs.length) (hab : a ≤ b) : cutI xs (some (a : Int)) (some (b : Int)) = (xs.drop a).take (b - a) := by
  unfold cutI
  rw [HT.sIx_nat, HT.sIx_nat, Nat.min_eq_left h]
  rcases Nat.le_total b xs.length with hb | hb
  · rw [Nat.min_eq_left hb]
  · rw [Nat.min_eq_right hb, List.take_of_length_le (by rw [List.length_drop]; exact Nat.le_refl _), List.take_of_length_le (by rw [List.length_drop]; omega)]
end
section
variable {X : Cx} {A : AS} {a b c : Expr} {pos : Pos}
theorem itd_rangeC {K : PySem.W.Frag} {M : List Addr} {H : Hp} {lo c : Int} {n : Nat} : ItD K M H (Itc lo c n) ((List.range n).map fun (i : Nat) => PyData.int (lo + (i : Int) * c)) where
  go := fun i H' M' g hi => by rw [List.length_map, List.length_range] at hi; exact hi
  yld := fun i H' M' x H'' hi g ⟨e1, e2⟩ => by
    rw [List.length_map, List.length_range] at hi
    subst e1 e2
    exact ⟨ex_refl _, _, by rw [List.getElem?_map, List.getElem?_range hi]; rfl, .int _⟩
  stop := fun i H' M' g hi => by rw [List.length_map, List.length_range] at hi; exact hi
/-- range(n - 1, -1, -1) -/
theorem pid_down {tg : Expr} {n : Nat} {i : Int} {p : Pos} (hm : X.mg "range" = none) (ha : PDs X A [a, b, c] [.int i, .int (-1), .int (-1)]) (hi : i = (n : Int) - 1) (hn : n ≤ 1000000) (hg : Gl X "range" := by rfl)
    (hs : starEach [a, b, c] X.env = (false, eval a X.env) :: starEach [b, c] X.env := by rfl) (hpl : (backTo pos (starEach [b, c] X.env)).any (·.1) = false := by rfl) :
    PID X A tg (.Call (.Name "range" p) [a, b, c] [] pos) ((List.range n).map fun i => iD (n - 1 - i)) :=
  pid_of (pi_range3 hg hm ha hs hpl) fun σ H R ⟨W, H0, F, ps, hs, q⟩ => ⟨W, H0, F, ps, hs, fun vs H1 e1 r1 => by
    obtain ⟨v, vs2, rfl, r2, r3⟩ : ∃ v vs2, vs = v :: vs2 ∧ Rep X.K (Mx ps ++ F) H1 v (.int i) ∧ RepA X.K (Mx ps ++ F) H1 vs2 [.int (-1), .int (-1)] := by
      cases r1 with
      | cons r2 r3 => exact ⟨_, _, rfl, r2, r3⟩
    obtain ⟨v2, v3, rfl, r4, r5⟩ := repA2 r3
    cases r2
    cases r4
    cases r5
    have e : (i - (-1)).toNat = n := by omega
    refine ⟨i, -1, -1, (i - (-1)).toNat, rfl, RgC.neg (by omega) (by omega) (by decide) (by decide), ?_⟩
    rw [e]
    refine q _ H1 e1 ?_
    have eq : ((List.range n).map fun i => iD (n - 1 - i)) = (List.range n).map fun (k : Nat) => PyData.int (i + (k : Int) * (-1)) := List.map_congr_left fun k hk => congrArg PyData.int (by have := List.mem_range.mp hk; omega)
    rw [eq]
    exact itd_rangeC⟩
end
section
variable {X : Cx} {T : List (Addr × Str)} {A : AS} {Φ : AE} {st : Stmt} {rest : List Stmt}
theorem sdts_inv (J : AS → Prop) (h : SD X A st { Φ with nx := J }) (h2 : ∀ B, J B → SDTs X T B rest Φ) : SDTs X T A (st :: rest) Φ :=
  sdts_step (sd_of h fun Dn σ H ⟨W, H0, F, ps, hs, rz⟩ => ⟨W, H0, F, ps, hs, { nx := fun ps' A' σ' H' h' q => rz.nx ps' A' σ' H' h' (h2 A' q), bk := rz.bk, ct := rz.ct, rt := rz.rt, rtF := rz.rtF }⟩)
theorem sdts_no {sts : List Stmt} {c : Expr} {pos : Pos} (hc : PTD X A c false) (h : SDTs X T A rest Φ) : SDTs X T A (.If c sts [] pos :: rest) Φ := sdts_step (sd_no hc (sds_nil h))
end
end Z

namespace Z
open PySem PySem.Spec PyProof.Rows L2
open LamX (Tabs TabS ExtN CodeO TabB LamS lamCx lamEnv)
/-! ### for i in range(n), the tables may grow within -/
section
variable {X : Cx} {T : List (Addr × Str)} {A : AS} {Φ : AE} {sts : List Stmt} {a : Expr} {pos : Pos}
theorem sdt_range {tg : Expr} (vs : List Nat) {n : Nat} {j : Int} {p p2 : Pos} (I : Nat → AS → Prop) (hp : PassesOwn (model X.prog X.w) X.A X.env X.xe) (hc : X.calm = true) (hm : X.mg "range" = none) (ha : PDs X A [a] [.int j]) (hj : j = (n : Int)) (hn : n ≤ 1000000) (h0 : I 0 A)
    (step : ∀ (i : Nat) (A' : AS), i < n → I i A' → ∃ A'', PGD X vs tg A' (iD i) A'' ∧ SDTs X T A'' sts { nx := I (i + 1), ct := I (i + 1), bk := Φ.nx, rt := Φ.rt, rtF := Φ.rtF })
    (hd : ∀ A', I n A' → Φ.nx A') (hg : Gl X "range" := by rfl) (hs2 : starEach [a] X.env = [(false, eval a X.env)] := by rfl) (hs : ∀ x, foldedSetIterable (.Call (.Name "range" p) [a] [] p2) X.env x = pure x := by intro _; rfl) : SDT X T A (.For tg (.Call (.Name "range" p) [a] [] p2) sts [] pos) Φ := by
  have pg : PG X tg (fun v σ H Q => ∃ A' d A'', PGD X vs tg A' d A'' ∧ tG X.K vs A' d A'' v σ H Q) := ⟨fun pins s σ H v u Q I r ⟨A', d, A'', h, q⟩ => h.run pins s σ H v u Q I r q⟩
  have pb : PSs X sts (fun Dn σ H => ∃ A' Φ', SDTs X T A' sts Φ' ∧ tST X.K T A' Φ' Dn σ H) := ⟨fun pins s σ H Dn I ⟨A', Φ', h, q⟩ => h.run pins s σ H Dn I q⟩
  refine sdt_to (ps_for hp hc (pi_range1 hg hm ha hs2) pg pb hs) fun Dn σ H ⟨ps, hs', tb, rz⟩ => ?_
  refine ⟨[], em, [], ps, hs', fun ws H1 e1 r1 => ?_⟩
  cases r1 with
  | cons rx r2 =>
    cases r2
    cases rx
    subst hj
    refine ⟨_, rfl, by omega, by omega, ?_⟩
    rw [Int.toNat_natCast]
    refine ⟨fun i m σ H => m = n - i ∧ i ≤ n ∧ ∃ ps' A', Has X.K [] em [] ps' A' σ H ∧ Tabs T H ∧ I i A', ⟨n, rfl, Nat.zero_le _, ps, A, hs'.ext e1, tb.ext e1, h0⟩, ?_⟩
    rintro i m σ2 H2 ⟨rfl, hi2, ps2, A2, h2, t2, i2⟩
    by_cases hlt : i < n
    · refine .inr ⟨hlt, fun σ H => ∃ ps' A', Has X.K [] em [] ps' A' σ H ∧ Tabs T H ∧ I (i + 1) A', fun σ' H' ⟨ps', A', h', t', i'⟩ => ⟨n - (i + 1), by omega, rfl, hlt, ps', A', h', t', i'⟩, fun x H3 ⟨y1, y2⟩ => ?_⟩
      subst y1 y2
      obtain ⟨A3, pg3, sd3⟩ := step i A2 hlt i2
      refine ⟨A2, iD i, A3, pg3, [], em, [], ps2, h2, ?_, fun σ' h' _ => ?_⟩
      · rw [Int.zero_add]
        exact .int _
      refine ⟨A3, _, sd3, ps2, h', t2, ?_⟩
      exact ⟨fun ps A σ H h t q => ⟨ps, A, h, t, q⟩, rz.nx, fun ps A σ H h t q => ⟨ps, A, h, t, q⟩, rz.rt, rz.rtF⟩
    · have e : i = n := by omega
      subst e
      exact .inl ⟨Nat.le_refl _, rz.nx ps2 A2 σ2 H2 h2 t2 (hd A2 i2)⟩
end
/-! ### a lambda whose body changes what is owned -/
inductive OutX where
  | dat (d : D) (A' : AS)
  | exc (C : Addr)
def tLX (K : PySem.W.Frag) (T : List (Addr × Str)) (A : AS) (r : OutX) (E : XK) : TE := fun σ H Q => ∃ ps, Has K [] em [] ps A σ H ∧ Tabs T H ∧ match r with
  | .dat d A' => ∀ ps' v H', Has K [] em [] ps' A' σ H' → Tabs T H' → Rep K (Mx ps' ++ []) H' v d → Q v H'
  | .exc C => ∀ H', Ex H H' → E (.ref C) none H'
theorem tLX_mono {K : PySem.W.Frag} {T : List (Addr × Str)} {A : AS} {r : OutX} {σ : L2.St} : Mono (fun E H Q => tLX K T A r E σ H Q) := fun E E' H Q Q' he hq ⟨ps, hs, tb, h⟩ => by
  refine ⟨ps, hs, tb, ?_⟩
  cases r with
  | dat d A' => exact fun ps' v H' h' t' r' => hq v H' (h ps' v H' h' t' r')
  | exc C => exact fun H' e => he _ _ _ (h H' e)
theorem plx_of {X : Cx} {T : List (Addr × Str)} {A A' : AS} {e : Expr} {d : D} {E : XK} (h : PX X A e d A') : PE X e (tLX X.K T A (.dat d A') E) :=
  ⟨fun pins s σ H Q I ⟨ps, hs, tb, q⟩ => h.run pins s σ H Q I ⟨Mx ps ++ [], H, Mx ps ++ [], ps, hs.start, fun v H' h' r => q ps v H' h'.forget (tabs_after hs tb h') r.cutF⟩⟩
/-- an expression behind which the state is another -/
def tXT (K : PySem.W.Frag) (T : List (Addr × Str)) (A : AS) (d : D) (A' : AS) : TE := fun σ H Q => ∃ ps, Has K [] em [] ps A σ H ∧ Tabs T H ∧ ∀ ps' v H', Has K [] em [] ps' A' σ H' → Tabs T H' → Rep K (Mx ps' ++ []) H' v d → Q v H'
def PXT (X : Cx) (T : List (Addr × Str)) (A : AS) (e : Expr) (d : D) (A' : AS) : Prop := PE X e (tXT X.K T A d A')
def OutResX (K : PySem.W.Frag) (NS NR NP NT R : Addr) (ki : Int) (A A' : AS) (res : D) : OutX → Prop
  | .dat d B => A' = B ∧ res = .tuple [.str "told", d]
  | .exc C => A' = A ∧ ∃ ix : Nat, ToldC K NS NR NP NT R C ix ∧ res = .tuple [.str "refused", .bool (decide ((ix : Int) = ki))]
theorem pxt_told {X : Cx} {T : List (Addr × Str)} {A A' : AS} {e : Expr} {r : OutX} {res : D} {NS NR NP NT R : Addr} {ki : Int} (base : PE X e (LamX.tLam T (TTold2 X.K NS NR NP NT R ki) (fun E => tLX X.K T A r E)))
    (h : OutResX X.K NS NR NP NT R ki A A' res r) : PXT X T A e res A' :=
  ⟨fun pins s σ H Q I ⟨ps, hs, tb, q⟩ => base.run pins s σ H Q I ⟨tb, fun H1 eN T1 => ⟨ps, hs.extN eN, T1, by
    cases r with
    | dat d B =>
      obtain ⟨e1, e2⟩ : A' = B ∧ res = .tuple [.str "told", d] := h
      subst e1 e2
      intro ps' v H2 h2 t2 r2 p hp
      exact q ps' (.ref p) _ (h2.ext (ex_new hp)) (t2.ext (ex_new hp)) (.tup (.inl upd_same) (.cons (.str _) (.cons (r2.ex (ex_new hp)) .nil)))
    | exc C =>
      obtain ⟨e1, ix, hC, e2⟩ : A' = A ∧ ∃ ix : Nat, ToldC X.K NS NR NP NT R C ix ∧ res = .tuple [.str "refused", .bool (decide ((ix : Int) = ki))] := h
      subst e1 e2
      intro H2 e2
      exact ⟨rfl, C, ix, rfl, hC, fun p H3 e3 hp => q ps (.ref p) H3 (((hs.extN eN).ext e2).ext e3) ((T1.ext e2).ext e3) (.tup (.inl hp) (.cons (.str _) (.cons (.bl _) .nil)))⟩⟩⟩⟩
end Z

namespace Z
open PySem PySem.Spec PyProof.Rows L2
open LamX (Tabs TabS ExtN CodeO TabB LamS lamCx lamEnv)
/-! ### methods that raise; a lambda that calls one -/
def spLyE (K : PySem.W.Frag) (mg : Str → Option Value) (C : Addr) (ψ : Nat → Nat → Nat → List D → D → Nat → Prop) (χ : Nat → Nat → Nat → List D → Str → Prop) : Sp := fun vs H Q E => ∃ p dx w s m M us ds, vs = .ref p :: us ∧ H p = some (.ins C dx (lyF w s m)) ∧ (∀ a ∈ M, H a ≠ none) ∧ RepA K M H us ds ∧
  ((∃ d m', ψ w s m ds d m' ∧ ∀ v H', (∀ a o, a ≠ p → H a = some o → H' a = some o) → H' p = some (.ins C dx (lyF w s m')) → Rep K M H' v d → Q v H') ∨
   ∃ n B, χ w s m ds n ∧ mg n = some (.ref B) ∧ ∀ H', Ex H H' → E (.ref B) none H')
structure MFnE (P : Program) (w : World) (K : PySem.W.Frag) (mg : Str → Option Value) (base : Heap) (C : Addr) (k : Nat) (m : Str) (ψ : Nat → Nat → Nat → List D → D → Nat → Prop) (χ : Nat → Nat → Nat → List D → Str → Prop) : Prop where
  ok : ∃ f fd ps, FnOk P w K mg base (L2.CX P w) k f fd ps (spLyE K mg C ψ χ) ∧ Meth K C m f ∧ Binds K fd ps []
def LyRes (mg : Str → Option Value) (C : Addr) (A : AS) (j w s m : Nat) (ψ : Nat → Nat → Nat → List D → D → Nat → Prop) (χ : Nat → Nat → Nat → List D → Str → Prop) (ds : List D) : OutX → Prop
  | .dat d B => ∃ m', ψ w s m ds d m' ∧ B = ⟨A.ρ, A.μ.set j (.ins C (lyD w s m'))⟩
  | .exc B => ∃ n, χ w s m ds n ∧ mg n = some (.ref B)
section
variable {X : Cx} {A : AS} {T : List (Addr × Str)} {E : XK} {r : OutX} {C : Addr} {a b e : Expr} {es : List Expr} {d : D} {ds : List D} {w s m m' : Nat} {n x : Str} {pos p np apos cpos pos' : Pos}
theorem ly_back {K : PySem.W.Frag} {ps : List (Option Addr)} {σ : L2.St} {H H1 H' : Hp} {y dx : Addr} {j : Nat} {v : V} {Q : VK} (hs : Has K [] em [] ps A σ H) (tb : Tabs T H) (x1 : Ex H H1) (e2 : ps[j]? = some (some y)) (kp : ∀ c o, c ≠ y → H1 c = some o → H' c = some o) (hy : H' y = some (.ins C dx (lyF w s m')))
    (rv : Rep K (Mx ps ++ []) H' v d) (q : ∀ ps' v H', Has K [] em [] ps' ⟨A.ρ, A.μ.set j (.ins C (lyD w s m'))⟩ σ H' → Tabs T H' → Rep K (Mx ps' ++ []) H' v d → Q v H') : Q v H' := by
  have h1 : Has K (Mx ps ++ []) H (Mx ps ++ []) ps A σ H1 := hs.start.ext x1
  have h2 : Has K (Mx ps ++ []) H (Mx ps ++ []) ps ⟨A.ρ, A.μ.set j (.ins C (lyD w s m'))⟩ σ H' := h1.insTo e2 kp hy
  exact q ps v H' h2.forget (tabs_after hs tb h2) rv
theorem pl_ly0 (i j : Nat) {k : Nat} {f : Str} {ψ : Nat → Nat → Nat → List D → D → Nat → Prop} {χ : Nat → Nat → Nat → List D → Str → Prop} (TC : LyT X.K C) (G : MFnE X.prog X.w X.K X.mg X.base C k f ψ χ) (hr : Room k X.A) (hx : Passes (L2.CX X.prog X.w) X E) (h : LyRes X.mg C A j w s m ψ χ [] r) (hi : A.ρ[i]? = some (.obj j) := by rfl) (hj : A.μ[j]? = some (.ins C (lyD w s m)) := by rfl)
    (hm : ((f == ("whole" : Str)) || (f == ("step" : Str)) || (f == ("laid" : Str))) = false := by decide +kernel) (hN : X.N[i]? = some n := by rfl) (hv : Vis X.env.scope n := by first | exact Or.inl rfl | exact Or.inr (Or.inl rfl) | exact Or.inr (Or.inr rfl)) (hd : (n == ("__debug__" : Str)) = false := by decide) (hcd : (n == ("__classdict__" : Str)) = false := by decide) {pl : Sem Bool}
    (ht : eval (.Call (.Attribute (.Name n np) f apos) [] [] pos) X.env = (do
      let ov ← eval (.Name n np) X.env
      standAt apos.atName
      let (f, first) ← holding [ov] (getMethod ov f pl)
      callWith pos f first (backTo pos (starEach [] X.env)) (backToKw pos (keywordEach [] X.env))) := by rfl) : PE X (.Call (.Attribute (.Name n np) f apos) [] [] pos) (tLX X.K T A r E) := by
  obtain ⟨g, fd, prs, G1, G2, G3⟩ := G.ok
  have base := pe_meth0 (pe_var (pos := np) hN hv hd hcd) TC.cl G2 G1 hr G3 .nil (E := E) hx ht
  refine ⟨fun pins s' σ H Q I ⟨ps, hs, tb, q⟩ => base.run pins s' σ H Q I ?_⟩
  obtain ⟨y, dx, e1, e2, e3⟩ := hs.ins hi hj
  refine ⟨.ref y, e1, y, dx, _, rfl, e3, ly_none w s m hm, y, dx, w, s, m, Mx ps ++ [], [], [], rfl, e3, fun c z => hs.avoid z, .nil, ?_⟩
  cases r with
  | dat d B =>
    obtain ⟨m', hψ, rfl⟩ := h
    exact .inl ⟨d, m', hψ, fun v H' kp hy rv => ly_back hs tb (ex_refl H) e2 kp hy rv q⟩
  | exc B =>
    obtain ⟨n, hc, hg⟩ := h
    exact .inr ⟨n, B, hc, hg, fun H' e => q H' e⟩
theorem pl_ly (i j : Nat) {k : Nat} {f : Str} {ψ : Nat → Nat → Nat → List D → D → Nat → Prop} {χ : Nat → Nat → Nat → List D → Str → Prop} (TC : LyT X.K C) (G : MFnE X.prog X.w X.K X.mg X.base C k f ψ χ) (hr : Room k X.A) (hx : Passes (L2.CX X.prog X.w) X E) (ha : PDs X A (e :: es) ds) (h : LyRes X.mg C A j w s m ψ χ ds r) (hi : A.ρ[i]? = some (.obj j) := by rfl) (hj : A.μ[j]? = some (.ins C (lyD w s m)) := by rfl)
    (hm : ((f == ("whole" : Str)) || (f == ("step" : Str)) || (f == ("laid" : Str))) = false := by decide +kernel) (hN : X.N[i]? = some n := by rfl) (hv : Vis X.env.scope n := by first | exact Or.inl rfl | exact Or.inr (Or.inl rfl) | exact Or.inr (Or.inr rfl)) (hd : (n == ("__debug__" : Str)) = false := by decide) (hcd : (n == ("__classdict__" : Str)) = false := by decide) {pl : Sem Bool}
    (hst : starEach (e :: es) X.env = (false, eval e X.env) :: starEach es X.env := by rfl) (hpl : (backTo pos (starEach es X.env)).any (·.1) = false := by rfl)
    (ht : eval (.Call (.Attribute (.Name n np) f apos) (e :: es) [] pos) X.env = (do
      let ov ← eval (.Name n np) X.env
      standAt apos.atName
      let (f, first) ← holding [ov] (getMethod ov f pl)
      callWith pos f first (backTo pos (starEach (e :: es) X.env)) (backToKw pos (keywordEach [] X.env))) := by rfl) : PE X (.Call (.Attribute (.Name n np) f apos) (e :: es) [] pos) (tLX X.K T A r E) := by
  obtain ⟨g, fd, prs, G1, G2, G3⟩ := G.ok
  have base := pe_meth (pe_var (pos := np) hN hv hd hcd) TC.cl G2 G1 hr G3 .nil (E := E) hx ha hst hpl ht
  refine ⟨fun pins s' σ H Q I ⟨ps, hs, tb, q⟩ => base.run pins s' σ H Q I ?_⟩
  obtain ⟨y, dx, e1, e2, e3⟩ := hs.ins hi hj
  refine ⟨.ref y, e1, y, dx, _, rfl, e3, ly_none w s m hm, [], em, [], ps, hs, fun vs H1 x1 r1 => ⟨y, dx, w, s, m, Mx ps ++ [], vs, ds, by rw [List.append_nil], x1 _ _ e3, fun c z => (hs.ext x1).avoid z, r1, ?_⟩⟩
  cases r with
  | dat d B =>
    obtain ⟨m', hψ, rfl⟩ := h
    exact .inl ⟨d, m', hψ, fun v H' kp hy rv => ly_back hs tb x1 e2 kp hy rv q⟩
  | exc B =>
    obtain ⟨n, hc, hg⟩ := h
    exact .inr ⟨n, B, hc, hg, fun H' e => q H' (ex_trans x1 e)⟩
end
/-! ### tests behind which the state is another -/
def tTXT (K : PySem.W.Frag) (T : List (Addr × Str)) (A : AS) (k : Bool) (A' : AS) : TT := fun σ H Q => ∃ ps, Has K [] em [] ps A σ H ∧ Tabs T H ∧ ∀ ps' H', Has K [] em [] ps' A' σ H' → Tabs T H' → Q k H'
def PTXT (X : Cx) (T : List (Addr × Str)) (A : AS) (e : Expr) (k : Bool) (A' : AS) : Prop := PT X e (tTXT X.K T A k A')
def PWXT (X : Cx) (T : List (Addr × Str)) (A : AS) (e : Expr) (k : Bool) (A' : AS) : Prop := PW X e (tTXT X.K T A k A')
section
variable {X : Cx} {T : List (Addr × Str)} {A A' : AS} {Φ : AE} {st : Stmt} {sts els rest : List Stmt} {a b c e : Expr} {x y z d : D} {k : Bool} {pos : Pos}
theorem ptxt_of {t : TT} (h : PT X e t) (r : ∀ σ H Q, tTXT X.K T A k A' σ H Q → t σ H Q) : PTXT X T A e k A' := ⟨fun pins s σ H Q I hq => h.run pins s σ H Q I (r σ H Q hq)⟩
theorem pwxt_of {t : TT} (h : PW X e t) (r : ∀ σ H Q, tTXT X.K T A k A' σ H Q → t σ H Q) : PWXT X T A e k A' := ⟨fun wh pins s σ H Q I hq => h.run wh pins s σ H Q I (r σ H Q hq)⟩
theorem PTXT.eq {k' : Bool} (h : PTXT X T A e k A') (q : k = k') : PTXT X T A e k' A' := q ▸ h
theorem ptxt_cmp {op : CmpOp} {r : R2} (ho : OpR X (compareOp op) r) (hr : RD2 X.K r x y (.bool k)) (ha : PXT X T A a x A') (hb : PD X A' b y) (hm : behindInMarks op b = false) : PTXT X T A (.Compare a [op] [b] pos) k A' :=
  ptxt_of (pt_cmpR ho ha hb hm) fun σ H Q ⟨ps, hs, tb, q⟩ => ⟨ps, hs, tb, fun p1 vx H1 h1 t1 r1 => ⟨[], em, [], p1, h1, fun vy H2 e2 r2 =>
    hr (Mx p1 ++ []) H2 vx vy _ (fun a m => (h1.ext e2).avoid m) (r1.ex e2) r2 fun v H3 e3 r3 => by
      cases r3
      exact ⟨k, rfl, q p1 H3 (h1.ext (ex_trans e2 e3)) (t1.ext (ex_trans e2 e3))⟩⟩⟩
theorem ptxt_neS {n : Nat} (hu : X.A.units + 64 < cLine) (hs : Sh n d) (ha : PXT X T A a d A') (hb : PD X A' b d) (hn : n ≤ 64 := by decide) : PTXT X T A (.Compare a [.NotEq] [b] pos) false A' :=
  PTXT.eq (ptxt_cmp (op_neD hu) (rd_neD (hs.ed hn) (hs.ed hn)) ha hb (nomark _)) (by rw [eqv_same hs]; rfl)
theorem ptt_ofP (h : PTD X A e k) : PTT X T A e k := ptt_of h fun σ H Q ⟨ps, hs, tb, q⟩ => ⟨[], em, [], ps, hs, fun H' e => q ps H' (hs.ext e) (tb.ext e)⟩
theorem sdt_ifXT (hc : PTXT X T A c k A') (h1 : k = true → SDTs X T A' sts Φ) (h2 : k = false → SDTs X T A' els Φ) : SDT X T A (.If c sts els pos) Φ := by
  have p1 : PSs X sts (fun Dn σ H => k = true ∧ tST X.K T A' Φ Dn σ H) := ⟨fun pins s σ H Dn I q => (h1 q.1).run pins s σ H Dn I q.2⟩
  have p2 : PSs X els (fun Dn σ H => k = false ∧ tST X.K T A' Φ Dn σ H) := ⟨fun pins s σ H Dn I q => (h2 q.1).run pins s σ H Dn I q.2⟩
  refine sdt_to (ps_if hc p1 p2) fun Dn σ H ⟨ps, hs, tb, rz⟩ => ⟨ps, hs, tb, fun ps' H1 hh tt => ?_⟩
  cases k with
  | true => exact iteT ⟨rfl, ps', hh, tt, rz⟩
  | false => exact iteF ⟨rfl, ps', hh, tt, rz⟩
theorem sdts_noXT (hc : PTXT X T A c false A') (h : SDTs X T A' rest Φ) : SDTs X T A (.If c sts [] pos :: rest) Φ :=
  sdts_cons (sdt_ifXT hc (fun z => nomatch z) fun _ => sdts_nil h)
theorem sdt_ifP (hc : PTD X A c k) (h1 : k = true → SDTs X T A sts Φ) (h2 : k = false → SDTs X T A els Φ) : SDT X T A (.If c sts els pos) Φ := sdt_if (ptt_ofP hc) h1 h2
theorem sdts_invT (J : AS → Prop) (h : SDT X T A st { Φ with nx := J }) (h2 : ∀ B, J B → SDTs X T B rest Φ) : SDTs X T A (st :: rest) Φ :=
  sdts_cons (sdt_to h fun Dn σ H ⟨ps, hs, tb, rz⟩ => ⟨ps, hs, tb, { nx := fun ps' A' σ' H' h' t' q => rz.nx ps' A' σ' H' h' t' (h2 A' q), bk := rz.bk, ct := rz.ct, rt := rz.rt, rtF := rz.rtF }⟩)
theorem sdts_at {B : AS} (h : SDTs X T B sts Φ) (q : A = B) : SDTs X T A sts Φ := q ▸ h
end
end Z

namespace Z
open PySem PySem.Spec PyProof.Rows L2
section
variable {X : Cx} {A : AS} {a e : Expr} {l : List Nat} {k : Nat} {apos cpos : Pos}
theorem idx_get {α : Type} [DecidableEq α] {l : List α} {k : α} (h : k ∈ l) : l[l.idxOf k]? = some k := by
  rw [List.getElem?_eq_getElem (List.idxOf_lt_length_of_mem h), List.getElem_idxOf]
theorem idx_no {α : Type} [DecidableEq α] {k z : α} : ∀ {l : List α} {m : Nat}, m < l.idxOf k → l[m]? = some z → z ≠ k
  | [], m, hm, hz, e => by simp at hz
  | x :: l, 0, hm, hz, e => by
    simp at hz
    subst hz e
    rw [List.idxOf_cons_self] at hm
    omega
  | x :: l, m + 1, hm, hz, e => by
    by_cases c : x = k
    · subst c
      rw [List.idxOf_cons_self] at hm
      omega
    · rw [List.idxOf_cons, show (x == k) = false from beq_eq_false_iff_ne.mpr c] at hm
      replace hm : m + 1 < l.idxOf k + 1 := hm
      exact idx_no (l := l) (m := m) (by omega) (by simpa using hz) e
/-- xs.index(k), xs a list of numbers -/
theorem pd_lindexN (hk : k ∈ l) (ho : PD X A a (.list (l.map iD))) (he : PD X A e (iD k)) (hb : attributeBase a "index" X.env (eval a X.env) = eval a X.env := by rfl)
    (hf : ((backTo cpos (starEach [e] X.env)).all (fun x => !x.1) && (backToKw cpos (keywordEach [] X.env)).all (fun x => x.1.isSome) && decide ([e].length + ([] : List Keyword).length + (if ([] : List Keyword).isEmpty then 0 else 1) < 30)) = true := by rfl)
    (hl : (apos.endLine == cpos.line) = true := by rfl) (hs : starEach (e :: []) X.env = (false, eval e X.env) :: starEach [] X.env := by rfl) (hp : (backTo cpos (starEach [] X.env)).any (·.1) = false := by rfl) :
    PD X A (.Call (.Attribute a "index" apos) [e] [] cpos) (iD (l.idxOf k)) :=
  pd_of (pe_bm PySem.F.plainAttrs_list PySem.F.slot_list_index PySem.F.type_list_index mt_index ho (pa_cons he pa_nil hs) hb hf hl hs hp) fun σ H Q ⟨W, H0, F, ps, hh, q⟩ => ⟨W, H0, F, ps, hh, fun v H1 e1 r1 => by
    cases r1 with
    | lst h1 ra =>
      refine ⟨.inl ⟨rfl, _, h1.sq⟩, W, H0, F, ps, hh.ext e1, fun w H2 e2 r2 => ?_⟩
      cases r2
      have sq := ((Go.ex e2).sqm h1).sq
      rw [mapI] at ra
      have ei := RepA.ints ra
      subst ei
      rw [List.map_map] at sq
      refine ⟨_, _, .int (k : Int), l.idxOf k, .int (k : Int), rfl, rfl, sq, rfl, ?_, ?_, ?_, fun m z hm hz => ?_, q _ H2 (ex_trans e1 e2) (.int _)⟩
      · rw [List.all_map]
        exact List.all_eq_true.mpr fun _ _ => rfl
      · rw [List.getElem?_map, idx_get hk]
        rfl
      · exact beq_self_eq_true (k : Int)
      · rw [List.getElem?_map] at hz
        cases ez : l[m]? with
        | none => rw [ez] at hz; cases hz
        | some y =>
          rw [ez] at hz
          cases hz
          have ne := idx_no hm ez
          exact beq_eq_false_iff_ne.mpr fun e => ne (Int.ofNat.inj e)⟩
end
end Z

set_option maxHeartbeats 2000000
namespace Z
open PySem PySem.Spec PyProof.Rows L2
open LamX (Tabs TabS ExtN CodeO TabB LamS lamCx lamEnv)
/-! ### x(lambda: body), x of one parameter, the slots at the call known -/
def Gives1 (X : Cx) (Ng : List Str) (x : Str) (sg : Scope) (g : Addr) (cdg : Value) (bg : List Stmt) (a : Str) (q : Str) (TT : (XK → Hp → VK → Prop) → Hp → VK → Prop) : Prop :=
  ∀ (f c' : Addr) (s : Shared) (H : Hp) (Q : VK) (tl : XK → Hp → VK → Prop), Mono tl →
    (∀ (W : WX) (pn : List (Addr × Obj)) (xe : Value → Shared → Prop) (p1 p2 : Pos), Takes ((cxOf C8.CX0 X.prog X.w X.K X.mg X.base Ng x sg g cdg X.A X.stack s H C8.E0).tr pn xe) W →
      PE ((cxOf C8.CX0 X.prog X.w X.K X.mg X.base Ng x sg g cdg X.A X.stack s H C8.E0).tr pn xe) (.Call (.Name a p1) [] [] p2) (fun σZ HZ Q => σZ[0]? = some (some (.ref f)) ∧ HZ c' = some (CodeO c' q) ∧ tl (WE W σZ) HZ Q)) →
    H c' = some (CodeO c' q) → TT tl H Q →
    ∃ t, PSs (cxOf C8.CX0 X.prog X.w X.K X.mg X.base Ng x sg g cdg X.A X.stack s H C8.E0).nox bg t ∧ t { nx := fun _ H' => Q .non H', rt := Q } (L2.start Ng [.ref f]) H
section
variable {X : Cx}
theorem pe_lam1 {T : List (Addr × Str)} {TT : (XK → Hp → VK → Prop) → Hp → VK → Prop} {x a : Str} {g c P : Addr} {k : Nat} {st : Stmt} {fd : FuncData} {Ng : List Str} {params : Arguments} {body : Expr} {scope : Scope} {t : XK → TE} {p lpos pos : Pos}
    (hm : X.mg x = some (.ref g)) (F : Fun X.K x x st g fd) (hb : L2.Binds X.K fd [a] []) (Sg : FnScope Ng [a] (defScope st)) (hNg : Ng[0]? = some a) (hva : Vis (defScope st) a)
    (hG : ∀ cdv, Gives1 X Ng x (defScope st) g cdv (defBody st) a (X.env.qual ++ "<lambda>") TT)
    (TB : TabB X.base X.mg c P) (hcode : X.env.code = .ref c) (hmT : (P, X.env.qual ++ "<lambda>") ∈ T) (hu : ∀ p ∈ T, p.1 = P → p.2 = X.env.qual ++ "<lambda>") (hr : Room (k + 2) X.A) (L : LamS X.env.scope scope) (hdef : defaultsOf params X.env = ([], []))
    (hbind : ∀ (q : Str) (cl : List (Str × Addr)) (pm cv ctv : Value), bindArgs (PySem.W.kla_fn "<lambda>" q params body scope cl pm cv ctv) ⟨[], []⟩ = pure [])
    (hbody : ∀ (A : Around) (outer : List Env) (s : Shared) (H : Hp) (E : XK) (f c' : Addr), Room k (A.deeper (lamEnv X scope s.heap.objs.size f c')) → PE (lamCx X A outer s H E scope f c') body (t E)) (hmo : ∀ σ, Mono fun E H Q => t E σ H Q) (hg : Gl X x := by rfl)
    (hdb : (x == ("__debug__" : Str)) = false := by decide) (hd : (a == ("__debug__" : Str)) = false := by decide) (hcd : (a == ("__classdict__" : Str)) = false := by decide) :
    PE X (.Call (.Name x p) [.Lambda params body scope lpos] [] pos) (LamX.tLam T TT t) := by
  refine ⟨fun pins s σ H Q I ⟨hT, hq⟩ => ?_⟩
  obtain ⟨oc, od, kV, doc, pm, an, cdv, ct, osl, rfl, lk, hcg⟩ := F.ex
  refine wpAny_Call_Name_kw (ld_glob I hg hm ?_ hdb)
  refine PySem.W.callWith_K (h₀ := X.base) I.ok.mod.kin F.kp ?_ (by rfl) (by rfl)
  show wpAny _ _ (spliced ((false, eval (.Lambda params body scope lpos) X.env) :: backTo pos (starEach [] X.env))) _ _ s
  refine Calls.spliced_cons (LamX.lam_make2 I TB hcode hmT hu hT hdef (L.has I.ok) fun f c' pm' ctv H1 s' I1 eN T1 hf hfn hfr hco => ?_)
  refine Calls.spliced_nil ⟨I1.kIn, ?_⟩
  have rc : codeAny (model X.prog X.w) X.A (.call (.ref g) ⟨[.ref f], []⟩) (CR C8.CX0 X.stack X.prog X.w H1 s' Q C8.E0) s' := by
    refine LamX.run_ofS (N := Ng) (ps := [a]) (us := [.ref f]) (vs := [.ref f]) lk hcg Sg hr I1.env0 (hb _ _ I1.kIn rfl) (.cons rfl .nil) rfl fun hr' => ?_
    obtain ⟨t', ht', hq'⟩ := hG cdv f c' s' H1 Q (fun E H' Q' => t E σ H' Q') (hmo σ) (fun W pn xe p1 p2 tk => pe_actS (i := 0) I1 L hf hfn hfr (hbind _ _ _ _ _) tk hr' (fun A outer s H E hr2 => hbody A outer s H E f c' hr2) hNg hva hd hcd) hco (hq H1 eN T1)
    exact ⟨t', ht'.nox, hq'⟩
  refine wpAny_call (codeAny_mono rc fun r s2 hz => ?_)
  cases r with
  | error e => exact (show False from hz).elim
  | ok fl =>
    cases fl with
    | ret u => exact I1.after hz
    | next => exact hz.elim
    | brk => exact hz.elim
    | cont => exact hz.elim
end
/-- told twice: ("told", what came) or ("refused", None) -/
def TTw (K : PySem.W.Frag) (R : Addr) : (XK → Hp → VK → Prop) → Hp → VK → Prop := fun tl H Q =>
  tl (fun cls d H' => d = none ∧ ∃ D, cls = .ref D ∧ PySem.W.exmOne K (.ref D) (.ref R) = some true ∧ ∀ p H'', Ex H' H'' → H'' p = some (.tup [.str "refused", .non]) → Q (.ref p) H'') H
    (fun v H' => ∀ p, H' p = none → Q (.ref p) (upd H' p (.tup [.str "told", v])))
def tbW (f c' : Addr) (q : Str) (tl : XK → Hp → VK → Prop) : WX → TS := fun W D σ H => σ[0]? = some (some (.ref f)) ∧ H c' = some (CodeO c' q) ∧ tl (WE W σ) H (fun v H' => ∀ p, H' p = none → D.nx (σ.set 1 (some (.ref p))) (upd H' p (.tup [.str "told", v])))
/-! ### a def that is handed an object and makes lambdas -/
def ExtP (p : Addr) (H H' : Hp) : Prop := ∀ a o, a ≠ p → H a = some o → (∀ ps, o ≠ .tbl ps) → H' a = some o
def spDeed (K : PySem.W.Frag) (C : Addr) (T : List (Addr × Str)) (ψ : Nat → Nat → Nat → List D → D → Nat → Prop) : Sp := fun vs H Q _ => ∃ p dx w s m M us ds d m', vs = .ref p :: us ∧ H p = some (.ins C dx (lyF w s m)) ∧ (∀ a ∈ M, H a ≠ none) ∧ RepA K M H us ds ∧ Tabs T H ∧ ψ w s m ds d m' ∧
  ∀ v H', ExtP p H H' → H' p = some (.ins C dx (lyF w s m')) → Tabs T H' → Rep K M H' v d → Q v H'
structure DeedF (P : Program) (w : World) (K : PySem.W.Frag) (mg : Str → Option Value) (base : Heap) (C : Addr) (T : List (Addr × Str)) (k : Nat) (n : Str) (ψ : Nat → Nat → Nat → List D → D → Nat → Prop) : Prop where
  ok : ∃ f fd ps, FnOk P w K mg base CX0 k f fd ps (spDeed K C T ψ) ∧ mg n = some (.ref f) ∧ PySem.W.keepIn K (.ref f) = true ∧ Binds K fd ps []
/-- a def that is handed an object and only asks it -/
structure AskF (P : Program) (w : World) (K : PySem.W.Frag) (mg : Str → Option Value) (base : Heap) (C : Addr) (k : Nat) (n : Str) (ψ : Nat → Nat → Nat → List D → D → Nat → Prop) : Prop where
  ok : ∃ f fd ps, FnOk P w K mg base CX0 k f fd ps (spLy K C ψ) ∧ mg n = some (.ref f) ∧ PySem.W.keepIn K (.ref f) = true ∧ Binds K fd ps []
section
variable {X : Cx} {A A' : AS} {T : List (Addr × Str)} {C : Addr} {a b c e : Expr} {d d2 x1 y1 : D} {ds : List D} {w s m m' : Nat} {n x : Str} {k : Bool} {pos p np : Pos}
theorem Has.insToN {K : PySem.W.Frag} {ps : List (Option Addr)} {H H' : Hp} {σ : L2.St} (h : Has K [] em [] ps A σ H) {j : Nat} {q dx : Addr} (hj : ps[j]? = some (some q)) (kp : ExtP q H H') (hq : H' q = some (.ins C dx (lyF w s m'))) : Has K [] em [] ps ⟨A.ρ, A.μ.set j (.ins C (lyD w s m'))⟩ σ H' := by
  refine (h.mut' (o := .ins C dx (lyF w s m')) (m := .ins C (lyD w s m')) hj trivial ⟨q, dx, _, rfl, upd_same, ly_paired w s m'⟩).extN fun c o hc nt => ?_
  by_cases e : c = q
  · subst e
    rw [upd_same] at hc
    rw [hq, ← hc]
  · rw [upd_ne e] at hc
    exact kp c o e hc nt
/-- f(o, e) that changes o -/
theorem pxt_deed (i j : Nat) {f : Str} {l : Nat} {ψ : Nat → Nat → Nat → List D → D → Nat → Prop} (G : DeedF X.prog X.w X.K X.mg X.base C T l f ψ) (hr : Room l X.A) (he : PD X A e d) (h : ψ w s m [d] d2 m') (hi : A.ρ[i]? = some (.obj j) := by rfl) (hj : A.μ[j]? = some (.ins C (lyD w s m)) := by rfl)
    (hN : X.N[i]? = some n := by rfl) (hv : Vis X.env.scope n := by first | exact Or.inl rfl | exact Or.inr (Or.inl rfl) | exact Or.inr (Or.inr rfl)) (hd : (n == ("__debug__" : Str)) = false := by decide) (hcd : (n == ("__classdict__" : Str)) = false := by decide) (hg : Gl X f := by rfl) (hdb : (f == ("__debug__" : Str)) = false := by decide)
    (hs1 : starEach [.Name n np, e] X.env = (false, eval (.Name n np) X.env) :: starEach [e] X.env := by rfl) (hs2 : starEach [e] X.env = [(false, eval e X.env)] := by rfl) (hpl : (backTo pos (starEach [e] X.env)).any (·.1) = false := by rfl) : PXT X T A (.Call (.Name f p) [.Name n np, e] [] pos) d2 ⟨A.ρ, A.μ.set j (.ins C (lyD w s m'))⟩ := by
  obtain ⟨g, fd, prs, G1, G2, G3, G4⟩ := G.ok
  have base := pe_call (p := p) G1 hr hg G2 G3 G4 .nil (E := E0) pass0 (pa_cons (pe_var (pos := np) hN hv hd hcd) (pa_cons he pa_nil hs2) hs1) hdb hs1 hpl
  refine ⟨fun pins s' σ H Q I ⟨ps, hs, tb, q⟩ => base.run pins s' σ H Q I ?_⟩
  obtain ⟨y, dx, e1, e2, e3⟩ := hs.ins hi hj
  refine ⟨.ref y, e1, [], em, [], ps, hs, fun v H1 x1 r1 => ?_⟩
  refine ⟨y, dx, w, s, m, Mx ps ++ [], [v], [d], d2, m', by rfl, x1 _ _ e3, fun c z => (hs.ext x1).avoid z, .cons r1 .nil, tb.ext x1, h, fun v2 H2 kp hy t2 r2 => ?_⟩
  exact q ps v2 H2 ((hs.ext x1).insToN e2 kp hy) t2 r2
/-- f(o) that asks o -/
theorem pd_ask (i j : Nat) {f : Str} {l : Nat} {ψ : Nat → Nat → Nat → List D → D → Nat → Prop} (G : AskF X.prog X.w X.K X.mg X.base C l f ψ) (hr : Room l X.A) (h : ψ w s m [] d m) (hi : A.ρ[i]? = some (.obj j) := by rfl) (hj : A.μ[j]? = some (.ins C (lyD w s m)) := by rfl)
    (hN : X.N[i]? = some n := by rfl) (hv : Vis X.env.scope n := by first | exact Or.inl rfl | exact Or.inr (Or.inl rfl) | exact Or.inr (Or.inr rfl)) (hd : (n == ("__debug__" : Str)) = false := by decide) (hcd : (n == ("__classdict__" : Str)) = false := by decide) (hg : Gl X f := by rfl) (hdb : (f == ("__debug__" : Str)) = false := by decide)
    (hs2 : starEach [.Name n np] X.env = [(false, eval (.Name n np) X.env)] := by rfl) (hpl : (backTo pos (starEach [] X.env)).any (·.1) = false := by rfl) : PD X A (.Call (.Name f p) [.Name n np] [] pos) d := by
  obtain ⟨g, fd, prs, G1, G2, G3, G4⟩ := G.ok
  refine pd_of (pe_call (p := p) G1 hr hg G2 G3 G4 .nil (E := E0) pass0 (pa_cons (pe_var (pos := np) hN hv hd hcd) pa_nil hs2) hdb hs2 hpl) fun σ H Q ⟨W, H0, F, ps, hs, q⟩ => ?_
  obtain ⟨y, dx, e1, e2, e3⟩ := hs.ins hi hj
  refine ⟨.ref y, e1, y, dx, w, s, m, Mx ps ++ F, [], [], d, m, rfl, e3, fun c z => hs.avoid z, .nil, h, fun v H' kp hy r => q v H' (fun c o hc => ?_) r⟩
  by_cases e : c = y
  · subst e
    rw [hy, ← e3, hc]
  · exact kp c o e hc
/-! ### or, where one side changes the state -/
theorem pwxt_or1 (ha : PTXT X T A a k A') : PWXT X T A (.BoolOp .Or [a] pos) k A' := pwxt_of (pw_or1 ha) fun _ _ _ h => h
/-- a or b, a no, b changes -/
theorem ptxt_or2 (ha : PTD X A a false) (hb : PTXT X T A b k A') : PTXT X T A (.BoolOp .Or [a, b] pos) k A' := by
  have p : PW X (.BoolOp .Or [b] pos) (tTXT X.K T A k A') := pwxt_or1 hb
  exact ptxt_of (pw_or ha p).pt fun σ H Q ⟨ps, hs, tb, q⟩ => ⟨[], em, [], ps, hs, fun H1 e1 => iteF ⟨ps, hs.ext e1, tb.ext e1, q⟩⟩
/-- a or b, a changes and says no -/
theorem ptxt_or3 (ha : PTXT X T A a false A') (hb : PTD X A' b k) : PTXT X T A (.BoolOp .Or [a, b] pos) k A' := by
  have p : PW X (.BoolOp .Or [b] pos) (tTT X.K T A' k) := pwt_or1 (ptt_ofP hb)
  exact ptxt_of (pw_or ha p).pt fun σ H Q ⟨ps, hs, tb, q⟩ => ⟨ps, hs, tb, fun p1 H1 h1 t1 => iteF ⟨p1, h1, t1, q⟩⟩
/-- x = f(o, e), o changes -/
theorem sdt_setX {Φ : AE} (i : Nat) {pos' : Pos} (hN : X.N.Nodup) (he : PXT X T A e d A') (h : Φ.nx ⟨A'.ρ.set i (.dat d), A'.μ⟩) (hi : X.N[i]? = some n := by rfl) (hx : Loc X.env.scope n := by first | exact Or.inl rfl | exact Or.inr rfl)
    (hs : swapsWith e (some (.Name n pos')) pos.line X.env = pure false := by rfl) (hf : X.fn n = true ∨ X.env.scope.names.lookup n = some .local := by first | exact .inl rfl | exact .inr rfl) : SDT X T A (.Assign [.Name n pos'] e pos) Φ :=
  sdt_to (ps_set hN hi hx he hs hf) fun Dn σ H ⟨ps, hh, tb, rz⟩ => ⟨ps, hh, tb, fun p1 v H1 h1 t1 r1 => rz.nx _ _ _ _ (h1.set (s := .dat d) ⟨v, rfl, r1⟩) t1 h⟩
/-! ### repr of a tuple of data -/
theorem cd_repr {es : List D} (hg : X.A.guards = some []) (hs : (PyData.tuple es).showable = true) (hl : (PyData.tuple es).canLay0 = true) (hu : X.A.units + ((PyData.tuple es).depth + 1) < cLine) (hz : (PyData.tuple es).shown.length ≤ sizeLine) : CallD X (.builtin "repr") [.tuple es] (.str (PyData.tuple es).shown) :=
  ⟨fun xs H Q => ∃ v, xs = [v] ∧ (∃ a, v = .ref a) ∧ Dp X.K H v (.tuple es) ∧ Q (.str (PyData.tuple es).shown) H, fun pins s σ H xs us Q I r ⟨v, ex, ⟨a, ea⟩, hd, q⟩ => by
    subst ex ea
    obtain ⟨u, rfl, ru⟩ := r.one
    obtain ⟨as, r1⟩ := Dp.reads I _ _ _ hd ru
    cases ru
    exact repr_of_reads' r1 hs (fun z => by rw [PyData.hasDict_of_canLay _ hl] at z; cases z) hg hu (fun _ _ e => e) (fun h' u tk hk => ⟨.str _, H, I.kept hk, ⟨_, rfl⟩, q⟩) hz,
  fun M H vs Q _ r q => by
    obtain ⟨v, rfl, rv⟩ := repA1 r
    have dp := rv.dp hl
    cases rv with
    | tup h1 h2 => exact ⟨_, rfl, ⟨_, rfl⟩, dp, q _ H (ex_refl H) (.str _)⟩⟩
end
end Z

set_option maxHeartbeats 2000000
namespace Z
open PySem PySem.Spec PyProof.Rows L2
open LamX (Tabs TabS ExtN CodeO TabB LamS lamCx lamEnv)
/-! ### a law whose surroundings are known: no guard stands around it -/
def RunG (P : Program) (w : World) (K : PySem.W.Frag) (mg : Str → Option Value) (base : Heap) (fa : Addr) (fd : FuncData) (x : Str) (n : Nat) (PL : Addr) : Prop :=
  ∀ (s : Shared) (H : Hp) (a : Addr) (ns : List Int), Env0 P w K mg base callerA [] s H → BindsTo s fd ⟨[.ref a], []⟩ [(x, .ref a)] → ns.length ≤ n → SqL K H a (ns.map V.int) → H PL = some (.tbl #[]) →
    codeAny (model P w) callerA (.call (.ref fa) ⟨[.ref a], []⟩) (CR CX0 [] P w H s (fun v _ => v = .bl true) fun _ _ _ => False) s
theorem room_caller : Room 60 callerA := ⟨rfl, by decide, by decide⟩
theorem runG_of {P : Program} {w : World} {K : PySem.W.Frag} {mg : Str → Option Value} {base : Heap} {x : Str} {st : Stmt} {f : Addr} {fd : FuncData} {N : List Str} {p : Str} {k : Nat} {PL : Addr} {q : Str} (F : Fun K x x st f fd) (S : FnScope N [p] (defScope st)) (hk : k + 1 ≤ 60)
    (body : ∀ (cdv : Value) (s : Shared) (H : Hp) (ns : List Int), Room k (callerA.deeper (envOfC x (defScope st) s.heap.objs.size f cdv)) → ns.length ≤ 63 →
      SDTs (Bd P w K mg base N x (defScope st) f cdv callerA [] s H (fun _ _ _ => False)) [(PL, q)] (startA N [.list (ns.map .int)]) (defBody st) { nx := fun _ => False, rt := fun _ r => r = .bool true }) : RunG P w K mg base f fd p 63 PL := by
  intro s H a ns e0 hb hl hS hp
  obtain ⟨oc, od, kV, doc, pm, an, cdv, ct, osl, rfl, lk, hcd⟩ := F.ex
  refine LamX.run_ofS (N := N) (ps := [p]) (us := [.ref a]) (vs := [.ref a]) lk hcd S (room_caller.mono hk) e0 hb (.cons rfl .nil) rfl fun hr => ?_
  have r : RepA K [] H [.ref a] [.list (ns.map .int)] := by
    refine .cons (.lst ?_ (RepA.of_ints ns)) .nil
    rcases hS with h | h
    · exact .inl ⟨h, by simp⟩
    · exact .inr (.inr h)
  have b := body cdv s H ns hr hl
  refine ⟨_, b.nox, [], (has_start r fun a m => nomatch m).forget, fun y hy => ?_, ?_⟩
  · rw [List.mem_singleton.mp hy]
    exact TabS.nil hp
  · exact ⟨fun _ _ _ _ _ _ z => z.elim, fun _ _ _ _ _ _ z => z.elim, fun _ _ _ _ _ _ z => z.elim, fun ps A σ H' v d h' r' e => by
      subst e
      cases r'
      rfl, fun _ _ _ _ _ _ _ _ z => z.elim⟩
/-- what is tracked when a law is entered: the script, if no constant, and the table -/
def trkH (o : Option HO) (a t : Addr) : Hp := fun b => if b = t then some (.tbl #[]) else if b = a then o else none
section
variable {P : Program} {w : World} {K : PySem.W.Frag} {mg mb : Str → Option Value} {fa a cL PL : Addr} {fd : FuncData} {x : Str} {sh : Shared} {its : List Value} {ns : List Int}
theorem law_callG (KX : K.In sh.heap) (hns : sh.heap.Ns mainGlobals mg) (hbu : sh.heap.Ns builtinsNs mb) (hbb : ∀ x : Str, x ≠ "__name__" → mb x = bootBuiltins x) (hlim : sh.heap.NoLimit) (hge : sh.gens = #[])
    (hT : sh.heap.get? PL = some { cls := .none, data := .fields #[] }) (nT : K.lookup PL = none) (hC : PySem.W.CodeHd sh.heap cL PL)
    (hbm : ∃ (bm : Addr) (ob : Obj), mg "__builtins__" = some (.ref bm) ∧ bm ≠ builtinsNs ∧ sh.heap.get? bm = some ob ∧ ob.cls = .type "module" ∧ ob.dict = some builtinsNs ∧ ob.data = .plain)
    (ha : sh.heap.get? a = some { cls := .type "list", data := .seq its.toArray }) (hi : IntsAre its ns) (hl : ns.length ≤ sizeLine)
    (F : ∀ (base : Heap) (H : Hp), K.In base → base.Ns mainGlobals mg → TabB base mg cL PL → Env0 P w K mg base callerA [] sh H → SqL K H a (ns.map V.int) → H PL = some (.tbl #[]) →
      codeAny (model P w) callerA (.call (.ref fa) ⟨[.ref a], []⟩) (CR CX0 [] P w H sh (fun v _ => v = .bl true) fun _ _ _ => False) sh) :
    codeAny (model P w) callerA (.call (.ref fa) ⟨[.ref a], []⟩) (fun r s2 => r = .ok (.ret (.bool true)) ∧ OldK sh.heap s2.heap ∧ s2.os = sh.os ∧ AllBare s2.gens) sh := by
  have rvs := vals_ints hi
  have aT : a ≠ PL := fun z => by
    rw [z, hT] at ha
    cases ha
  have main : ∀ o : Option HO, (o = none ∨ ∃ ob xs, o = some (.frz ob (.lst xs))) → SqL K (trkH o a PL) a (ns.map V.int) → HOk P w (trkH o a PL) sh.heap → (o ≠ none → K.lookup a = none) →
      codeAny (model P w) callerA (.call (.ref fa) ⟨[.ref a], []⟩) (fun r s2 => r = .ok (.ret (.bool true)) ∧ OldK sh.heap s2.heap ∧ s2.os = sh.os ∧ AllBare s2.gens) sh := by
    intro o ho hS okH hK
    have atT : trkH o a PL PL = some (.tbl #[]) := if_pos rfl
    have atA : trkH o a PL a = o := (if_neg aT).trans (if_pos rfl)
    have atX : ∀ b, b ≠ PL → b ≠ a → trkH o a PL b = none := fun b h1 h2 => (if_neg h1).trans (if_neg h2)
    have low : ∀ {b : Addr} {ob : Obj}, sh.heap.get? b = some ob → (∀ us n, ob.data ≠ .seq us n) → ob.data ≠ .fields #[] → (hidT sh.heap (trkH o a PL)).get? b = some ob := fun {b ob} e n1 n2 => hidT_get e (atX b (fun z => by
      rw [z, hT] at e
      cases e
      exact n2 rfl) fun z => by
      rw [z, ha] at e
      cases e
      exact n1 _ _ rfl)
    have lowN : ∀ {b : Addr} {m : Str → Option Value}, sh.heap.Ns b m → (hidT sh.heap (trkH o a PL)).Ns b m := fun {b m} ⟨ob, es, ep, e, d, r⟩ => ⟨ob, es, ep, low e (fun us n z => by rw [d] at z; cases z) (fun z => by rw [d] at z; cases z), d, r⟩
    have KB : K.In (hidT sh.heap (trkH o a PL)) := fun b ob e => hidT_get (KX b ob e) (by
      by_cases h1 : b = PL
      · rw [h1, nT] at e
        cases e
      · by_cases h2 : b = a
        · cases ho with
          | inl h => rw [h2, atA, h]
          | inr h =>
            obtain ⟨_, _, h⟩ := h
            rw [h2, hK (by rw [h]; intro z; cases z)] at e
            cases e
        · exact atX b h1 h2)
    have md : L2.Mod K mg (hidT sh.heap (trkH o a PL)) := ⟨KB, lowN hns, ⟨mb, lowN hbu, hbb⟩, let ⟨mc, q1, q2⟩ := hlim; ⟨mc, lowN q1, q2⟩⟩
    have tb : TabB (hidT sh.heap (trkH o a PL)) mg cL PL := by
      refine ⟨?_, ?_, fun z => ?_⟩
      · obtain ⟨oc, us, file, tf, flags, tg, inF, text, tt, e1, r1, r2, r3, r4, r5, r6, r7, r8, r9⟩ := hC
        refine ⟨oc, us, file, tf, flags, tg, inF, text, tt, low e1 (fun us n z => ?_) (fun z => ?_), r1, r2, r3, r4, r5, r6, r7, r8, r9⟩
        · rw [r2] at z
          cases z
        · rw [r2] at z
          cases z
          simp at r3
      · obtain ⟨bm, ob, b1, b2, b3, b4, b5, b6⟩ := hbm
        have n1 : bm ≠ mainGlobals := fun q => by
          obtain ⟨o2, es, ep, e, hd, _⟩ := hns
          rw [q, e] at b3
          cases b3
          rw [hd] at b6
          cases b6
        have n2 : bm ≠ PL := fun q => by
          rw [q, hT] at b3
          cases b3
          cases b6
        exact ⟨bm, ob, b1, b2, n1, n2, low b3 (fun us n z => by rw [b6] at z; cases z) (fun z => by rw [b6] at z; cases z), b4, b5, b6⟩
      · obtain ⟨o2, es, ep, e, hd, _⟩ := hns
        rw [z, hT] at e
        cases e
        cases hd
    have e0 : Env0 P w K mg (hidT sh.heap (trkH o a PL)) callerA [] sh (trkH o a PL) := ⟨rfl, md, fun b ob e => of_hidT e, Nat.le_of_eq (hidT_size _ _), trivial, fun b hb => (nomatch (show b ∈ ([] : List Addr) from hb)), okH, .of_eq hge⟩
    refine codeAny_mono (F _ _ KB (lowN hns) tb e0 hS atT) fun r s2 h => ?_
    cases r with
    | error e =>
      have z : CR CX0 [] P w (trkH o a PL) sh (fun v _ => v = .bl true) (fun _ _ _ => False) (.error e) s2 := h
      exact z.elim
    | ok fl =>
      cases fl with
      | next => exact (show False from h).elim
      | brk => exact (show False from h).elim
      | cont => exact (show False from h).elim
      | ret u =>
        obtain ⟨v, H2, os, bare, un, ok2, rv, q⟩ := h
        have q2 : v = .bl true := q
        subst q2
        obtain rfl : u = Value.bool true := rv
        obtain ⟨more, tm⟩ := un.tbls PL #[] atT
        have grown : s2.heap.get? PL = some { cls := .none, data := .fields (#[] ++ more) } := ok2 PL _ tm
        have stays : ∀ b ob, b ≠ PL → sh.heap.get? b = some ob → s2.heap.get? b = some ob := fun b ob nb e => by
          have fresh : trkH o a PL b = none → s2.heap.get? b = some ob := fun z => un.keep b ob e z (fun y => nomatch (show b ∈ ([] : List Addr) from y)) (fun y => nomatch y)
          by_cases h2 : b = a
          · rcases ho with h | ⟨oa, xs, h⟩
            · exact fresh (by rw [h2, atA, h])
            · have z1 : trkH o a PL b = some (.frz oa (.lst xs)) := by rw [h2, atA, h]
              obtain ⟨e1, _⟩ := okH b _ z1
              obtain ⟨e2, _⟩ := ok2 b _ (un.frzs b oa _ z1)
              rw [e] at e1
              cases e1
              exact e2
          · exact fresh (atX b nb h2)
        refine ⟨rfl, ⟨fun b ob e => ?_, fun b ob e => ?_⟩, os, bare⟩
        · by_cases h1 : b = PL
          · subst h1
            rw [hT] at e
            cases e
            exact .inr (.inl ⟨(hC.tab hT).isCodeTable, rfl, #[], more, rfl, grown⟩)
          · exact .inl (stays b ob h1 e)
        · by_cases h1 : b = PL
          · subst h1
            exact ⟨_, grown⟩
          · exact ⟨ob, stays b ob h1 e⟩
  have tabOk : ∀ o, (∀ u, o = some u → ObjOk P w (trkH o a PL) sh.heap a u) → HOk P w (trkH o a PL) sh.heap := fun o h b u z => by
    by_cases h1 : b = PL
    · subst h1
      have z2 := (if_pos rfl).symm.trans z
      cases z2
      exact hT
    · by_cases h2 : b = a
      · subst h2
        exact h u (((if_neg h1).trans (if_pos rfl)).symm.trans z)
      · have z2 := ((if_neg h1).trans (if_neg h2)).symm.trans z
        cases z2
  cases hk : K.lookup a with
  | some ob =>
    have e := KX a ob hk
    rw [ha] at e
    cases e
    exact main none (.inl rfl) (.inr ⟨_, its.toArray, _, hk, rfl, rfl, rfl, by rw [List.size_toArray, hi.length]; exact hl, by simpa using rvs⟩) (tabOk none fun u z => nomatch z) fun z => absurd rfl z
  | none =>
    refine main (some (.frz { cls := .type "list", data := .seq its.toArray } (.lst (ns.map V.int)))) (.inr ⟨_, _, rfl⟩) (.inl (.inr ⟨_, (if_neg aT).trans (if_pos rfl)⟩)) (tabOk _ fun u z => ?_) fun _ => hk
    cases z
    exact ⟨ha, by rw [List.length_map]; exact hl, its, _, rvs, ha⟩
end
def LawAtG (l : PySem.W.OpenLaw) (w : World) (K : PySem.W.Frag) (x : Str) (mg : Str → Option Value) (fa : Addr) (h : Heap) : Prop :=
  ∃ (fd : FuncData) (cL PL : Addr), h.get? PL = some { cls := .none, data := .fields #[] } ∧ K.lookup PL = none ∧ PySem.W.CodeHd h cL PL ∧ (∀ (s : Shared) (u : Value), BindsTo s fd ⟨[u], []⟩ [(x, u)]) ∧
    ∀ base : Heap, K.In base → base.Ns mainGlobals mg → TabB base mg cL PL → RunG l.prog w K mg base fa fd x 63 PL
theorem walkG {l : PySem.W.OpenLaw} {q : Program} {loose : List Str} {XP : (Str → Option Value) → Heap → Prop} {YP : World → Heap → Prop} {d : DefRec} {K : Params → PySem.W.Frag} {x : Str} (hn : l.most = some 63) (hdf : d.params.defaults = []) (hY : ∀ (w : World) (h : Heap), YP w h → (K w.params).In h)
    (F : ∀ (w : World) (mg : Str → Option Value) (fa : Addr) (h : Heap), YP w h → (K w.params).In h → h.Ns mainGlobals mg → mg d.name = some (.ref fa) → LawAtG l w (K w.params) x mg fa h) :
    PySem.W.WalkO q loose XP YP l.row.toRowW d [] (fun f vs => PySem.call f vs) := by
  refine Att.attach_callB hn hdf fun w s0 sh mg mb fa o pm cd doc a its ns G Y ho hd hcd hmg hobj hints hlen hbits hge => ?_
  have KX := hY w _ Y
  obtain ⟨fd, cL, PL, hT, nT, hC, hb, hF⟩ := F w mg fa _ Y KX G.T.g hmg
  exact law_callG KX G.T.g G.T.b G.T.builtins G.T.nolimit hge hT nT hC G.T.bmain hobj hints (Nat.le_trans hlen (by decide)) fun base H KB nsB TB e0 hS hp => hF base KB nsB TB sh H a ns e0 (hb sh (.ref a)) hlen hS hp
end Z

set_option maxHeartbeats 1000000
namespace Z
open PySem PySem.Spec PyProof.Rows L2
open LamX (Tabs TabS ExtN CodeO TabB LamS lamCx lamEnv)
/-! ### a method that may raise, asked where it does not -/
theorem MFnE.mfn {P : Program} {w : World} {K : PySem.W.Frag} {mg : Str → Option Value} {base : Heap} {C : Addr} {k : Nat} {m : Str} {ψ : Nat → Nat → Nat → List D → D → Nat → Prop} {χ : Nat → Nat → Nat → List D → Str → Prop} (h : MFnE P w K mg base C k m ψ χ) : MFn P w K mg base C k m ψ := by
  obtain ⟨f, fd, ps, F, me, bi⟩ := h.ok
  have to : ∀ vs H Q E, spLy K C ψ vs H Q E → spLyE K mg C ψ χ vs H Q E0 := fun vs H Q E ⟨p, dx, w, s, m, M, us, ds, d, m', e, hp, hM, hA, h, q⟩ => ⟨p, dx, w, s, m, M, us, ds, e, hp, hM, hA, .inl ⟨d, m', h, q⟩⟩
  refine ⟨f, fd, ps, ⟨fun vs H Q E h => F.len vs H Q E0 (to vs H Q E h), fun A outer s H args us vs Q E hr e0 hb r h => codeAny_mono (F.run A outer s H args us vs Q E0 hr e0 hb r (to vs H Q E h)) fun r s' hq => ?_⟩, me, bi⟩
  cases r with
  | error e =>
    obtain ⟨_, _, _, _, _, _, _, _, _, _, _, _, z⟩ := (show L2.CX P w outer H s E0 e s' from hq)
    exact z.elim
  | ok fl => cases fl <;> exact hq
/-! ### a lambda that calls a method, the object known by its place -/
inductive OutY where
  | dat (d : D) (m' : Nat)
  | exc (B : Addr)
def tLY (K : PySem.W.Frag) (C p dx : Addr) (w s m : Nat) (r : OutY) (E : XK) : TE := fun σ H Q => σ[0]? = some (some (.ref p)) ∧ H p = some (.ins C dx (lyF w s m)) ∧ match r with
  | .dat d m' => ∀ v H', (∀ a o, a ≠ p → H a = some o → H' a = some o) → H' p = some (.ins C dx (lyF w s m')) → Rep K [] H' v d → Q v H'
  | .exc B => ∀ H', Ex H H' → E (.ref B) none H'
theorem tLY_mono {K : PySem.W.Frag} {C p dx : Addr} {w s m : Nat} {r : OutY} {σ : L2.St} : Mono (fun E H Q => tLY K C p dx w s m r E σ H Q) := fun E E' H Q Q' he hq ⟨h0, hp, h⟩ => by
  refine ⟨h0, hp, ?_⟩
  cases r with
  | dat d m' => exact fun v H' k1 k2 r => hq v H' (h v H' k1 k2 r)
  | exc B => exact fun H' e => he _ _ _ (h H' e)
def YRes (mg : Str → Option Value) (w s m : Nat) (ψ : Nat → Nat → Nat → List D → D → Nat → Prop) (χ : Nat → Nat → Nat → List D → Str → Prop) (ds : List D) : OutY → Prop
  | .dat d m' => ψ w s m ds d m'
  | .exc B => ∃ n, χ w s m ds n ∧ mg n = some (.ref B)
theorem passLam {X : Cx} {A : Around} {outer : List Env} {s : Shared} {H : Hp} {E : XK} {scope : Scope} {f c' : Addr} : Passes (L2.CX (lamCx X A outer s H E scope f c').prog (lamCx X A outer s H E scope f c').w) (lamCx X A outer s H E scope f c') E := passes_call (X := lamCx X A outer s H E scope f c') (W := fun cls d _ H => E cls d H) takesL fun _ _ _ _ h => h
section
variable {Y : Cx} {r : OutY} {C p dx : Addr} {k w s m : Nat} {n f : Str} {ψ : Nat → Nat → Nat → List D → D → Nat → Prop} {χ : Nat → Nat → Nat → List D → Str → Prop} {scope : Scope} {np apos pos : Pos} {pl : Env → Sem Bool} {e : Expr} {i : Int}
theorem ply_end {K : PySem.W.Frag} {mg : Str → Option Value} {H : Hp} {E : XK} {σ : L2.St} {Q : VK} {us : List V} {ds : List D} (h : YRes mg w s m ψ χ ds r) (hA : RepA K [] H us ds) (q : tLY K C p dx w s m r E σ H Q) : spLyE K mg C ψ χ (.ref p :: us) H Q E := by
  obtain ⟨h0, hp, hq⟩ := q
  refine ⟨p, dx, w, s, m, [], us, ds, rfl, hp, (fun a z => nomatch z), hA, ?_⟩
  cases r with
  | dat d m' => exact .inl ⟨d, m', h, hq⟩
  | exc B =>
    obtain ⟨n, h1, h2⟩ := h
    exact .inr ⟨n, B, h1, h2, hq⟩
theorem ply_0 (TC : LyT Y.K C) (G : MFnE Y.prog Y.w Y.K Y.mg Y.base C k f ψ χ) (hm : ((f == ("whole" : Str)) || (f == ("step" : Str)) || (f == ("laid" : Str))) = false) (hN : Y.N[0]? = some n) (hv : Vis scope n) (hd : (n == ("__debug__" : Str)) = false) (hcd : (n == ("__classdict__" : Str)) = false)
    (ht : ∀ e : Env, eval (.Call (.Attribute (.Name n np) f apos) [] [] pos) e = (do
      let ov ← eval (.Name n np) e
      standAt apos.atName
      let (f, first) ← holding [ov] (getMethod ov f (pl e))
      callWith pos f first (backTo pos (starEach [] e)) (backToKw pos (keywordEach [] e)))) (h : YRes Y.mg w s m ψ χ [] r) :
    ∀ (A : Around) (outer : List Env) (sh : Shared) (H : Hp) (E : XK) (f' c' : Addr), Room k (A.deeper (lamEnv Y scope sh.heap.objs.size f' c')) → PE (lamCx Y A outer sh H E scope f' c') (.Call (.Attribute (.Name n np) f apos) [] [] pos) (tLY Y.K C p dx w s m r E) := fun A outer sh H E f' c' hr => by
  obtain ⟨g, fd, prs, G1, G2, G3⟩ := G.ok
  have base := pe_meth0 (X := lamCx Y A outer sh H E scope f' c') (pe_var (X := lamCx Y A outer sh H E scope f' c') (pos := np) (i := 0) hN hv hd hcd) TC.cl G2 G1 hr G3 .nil (E := E) passLam (ht _)
  refine ⟨fun pins s' σ H' Q I q => base.run pins s' σ H' Q I ?_⟩
  have q2 := q
  obtain ⟨h0, hp, _⟩ := q
  exact ⟨.ref p, h0, p, dx, _, rfl, hp, ly_none w s m hm, ply_end h .nil q2⟩
theorem ply_1 (TC : LyT Y.K C) (G : MFnE Y.prog Y.w Y.K Y.mg Y.base C k f ψ χ) (hm : ((f == ("whole" : Str)) || (f == ("step" : Str)) || (f == ("laid" : Str))) = false) (hN : Y.N[0]? = some n) (hv : Vis scope n) (hd : (n == ("__debug__" : Str)) = false) (hcd : (n == ("__classdict__" : Str)) = false)
    (he : ∀ X : Cx, PE X e (fun σ H Q => Q (.int i) H)) (hst : ∀ env : Env, starEach [e] env = [(false, eval e env)])
    (ht : ∀ env : Env, eval (.Call (.Attribute (.Name n np) f apos) [e] [] pos) env = (do
      let ov ← eval (.Name n np) env
      standAt apos.atName
      let (f, first) ← holding [ov] (getMethod ov f (pl env))
      callWith pos f first (backTo pos (starEach [e] env)) (backToKw pos (keywordEach [] env)))) (h : YRes Y.mg w s m ψ χ [.int i] r) :
    ∀ (A : Around) (outer : List Env) (sh : Shared) (H : Hp) (E : XK) (f' c' : Addr), Room k (A.deeper (lamEnv Y scope sh.heap.objs.size f' c')) → PE (lamCx Y A outer sh H E scope f' c') (.Call (.Attribute (.Name n np) f apos) [e] [] pos) (tLY Y.K C p dx w s m r E) := fun A outer sh H E f' c' hr => by
  obtain ⟨g, fd, prs, G1, G2, G3⟩ := G.ok
  have base := pe_meth (X := lamCx Y A outer sh H E scope f' c') (pe_var (X := lamCx Y A outer sh H E scope f' c') (pos := np) (i := 0) hN hv hd hcd) TC.cl G2 G1 hr G3 .nil (E := E) passLam (pa_cons (he _) pa_nil (hst _)) (hst _) rfl (ht _)
  refine ⟨fun pins s' σ H' Q I q => base.run pins s' σ H' Q I ?_⟩
  have q2 := q
  obtain ⟨h0, hp, _⟩ := q
  exact ⟨.ref p, h0, p, dx, _, rfl, hp, ly_none w s m hm, ply_end h (.cons (.int i) .nil) q2⟩
end
theorem pe_intQ {X : Cx} {i : Int} {j : Nat} {p : Pos} : PE X (.Constant (.int i) j p) (fun σ H Q => Q (.int i) H) := ⟨fun pins s σ H Q I q => pe_int.run pins s σ H Q I q⟩
theorem pe_negQ {X : Cx} {i : Int} {j : Nat} {p p2 : Pos} : PE X (.UnaryOp .USub (.Constant (.int i) j p) p2) (fun σ H Q => Q (.int (-i)) H) := ⟨fun pins s σ H Q I q => (pe_un un_neg pe_int).run pins s σ H Q I ⟨i, rfl, q⟩⟩
structure TwE (K : PySem.W.Frag) (mg : Str → Option Value) (base : Heap) (cL PL R g : Addr) (st : Stmt) (fd : FuncData) : Prop where
  r : mg "RingError" = some (.ref R)
  F : Fun K "_law_twice_told" "_law_twice_told" st g fd
  m : mg "_law_twice_told" = some (.ref g)
  b : Binds K fd ["_law_deed"] []
  tb : TabB base mg cL PL
abbrev refN : D := .tuple [.str "refused", .none]
def DeedRes (K : PySem.W.Frag) (R : Addr) (m : Nat) (d : D) (m' : Nat) : OutY → Prop
  | .dat x n => d = .tuple [.str "told", x] ∧ m' = n ∧ noL x = true
  | .exc B => d = refN ∧ m' = m ∧ PySem.W.exmOne K (.ref B) (.ref R) = some true
theorem tabs_kp {T : List (Addr × Str)} {H H' : Hp} {p C dx : Addr} {vs : List (Str × V)} (t : Tabs T H) (hp : H p = some (.ins C dx vs)) (kp : ∀ a o, a ≠ p → H a = some o → H' a = some o) : Tabs T H' := fun y hy => by
  obtain ⟨xs, e1, e2, e3⟩ := t y hy
  refine ⟨xs, kp _ _ (fun z => ?_) e1, e2, fun pos cv hc => ?_⟩
  · rw [z, hp] at e1
    cases e1
  · obtain ⟨c, e4, e5⟩ := e3 pos cv hc
    refine ⟨c, e4, kp _ _ (fun z => ?_) e5⟩
    rw [z, hp] at e5
    unfold CodeO at e5
    cases e5
theorem deed_back {K : PySem.W.Frag} {T : List (Addr × Str)} {C p dx R : Addr} {w s m m' : Nat} {r : OutY} {d : D} {M : List Addr} {σ : L2.St} {H : Hp} {Q : VK} (h0 : σ[0]? = some (some (.ref p))) (hp : H p = some (.ins C dx (lyF w s m))) (hT : Tabs T H) (h : DeedRes K R m d m' r)
    (q : ∀ v H', ExtP p H H' → H' p = some (.ins C dx (lyF w s m')) → Tabs T H' → Rep K M H' v d → Q v H') : LamX.tLam T (TTw K R) (fun E => tLY K C p dx w s m r E) σ H Q := by
  refine ⟨hT, fun H1 eN T1 => ?_⟩
  have hp1 : H1 p = some (.ins C dx (lyF w s m)) := eN _ _ hp fun _ z => nomatch z
  refine ⟨h0, hp1, ?_⟩
  cases r with
  | dat x n =>
    obtain ⟨rfl, rfl, nx⟩ := h
    intro v H2 kp hp2 r2 p2 ne2
    have np : p ≠ p2 := fun z => by
      rw [← z, hp2] at ne2
      cases ne2
    exact q (.ref p2) _ (fun a o n1 ea nt => ex_new ne2 _ _ (kp a o n1 (eN a o ea nt))) (by rw [upd_ne np]; exact hp2) ((tabs_kp T1 hp1 kp).ext (ex_new ne2)) (.tup (.inl upd_same) (.cons (.str _) (.cons (Rep.lift (r2.ex (ex_new ne2)) nx) .nil)))
  | exc B =>
    obtain ⟨rfl, rfl, ex⟩ := h
    intro H2 e2
    exact ⟨rfl, B, rfl, ex, fun p2 H3 e3 h3 => q (.ref p2) H3 (fun a o n1 ea nt => e3 _ _ (e2 _ _ (eN a o ea nt))) (e3 _ _ (e2 _ _ hp1)) ((T1.ext e2).ext e3) (.tup (.inl h3) (.cons (.str _) (.cons .non .nil)))⟩
/-! ### tests in a row, each branch returns -/
section
variable {X : Cx} {A : AS} {c : Expr} {sts rest : List Stmt} {pos : Pos} {te : TE}
theorem pss_nev {X : Cx} {sts : List Stmt} : PSs X sts (fun _ _ _ => False) := ⟨fun _ _ _ _ _ _ q => q.elim⟩
theorem pss_tno (hc : PTD X A c false) (h : PSs X rest (fun D σ H => te σ H D.rt)) : PSs X (.If c sts [] pos :: rest) (fun D σ H => (∃ W H0 F ps, Has X.K W H0 F ps A σ H) ∧ ∀ H2, Ex H H2 → te σ H2 D.rt) := by
  have base := pss_cons (ps_if (pos := pos) hc (pss_nev (sts := sts)) pss_nil) h
  exact ⟨fun pins s σ H D I ⟨⟨W, H0, F, ps, hs⟩, q⟩ => base.run pins s σ H D I ⟨W, H0, F, ps, hs, fun H1 e1 => iteF (q H1 e1)⟩⟩
theorem pss_tyes (hc : PTD X A c true) (h : PSs X sts (fun D σ H => te σ H D.rt)) : PSs X (.If c sts [] pos :: rest) (fun D σ H => (∃ W H0 F ps, Has X.K W H0 F ps A σ H) ∧ ∀ H2, Ex H H2 → te σ H2 D.rt) := by
  have base := pss_cons (ps_if (pos := pos) hc h (pss_nev (sts := []))) (pss_nev (sts := rest))
  exact ⟨fun pins s σ H D I ⟨⟨W, H0, F, ps, hs⟩, q⟩ => base.run pins s σ H D I ⟨W, H0, F, ps, hs, fun H1 e1 => iteT (q H1 e1)⟩⟩
/-- the state a test sees, and what comes behind it -/
def tSee (K : PySem.W.Frag) (A : AS) (te : TE) : TE := fun σ H Q => (∃ W H0 F ps, Has K W H0 F ps A σ H) ∧ ∀ H2, Ex H H2 → te σ H2 Q
end
/-! ### texts alike -/
section
variable {X : Cx} {A : AS} {a b : Expr} {x y : Str} {pos : Pos}
theorem rd_eqT {K : PySem.W.Frag} : RD2 K rEq (.str x) (.str y) (.bool (decide (x = y))) := fun M H vx vy Q _ r1 r2 q => by
  cases r1
  cases r2
  refine ⟨rfl, ?_⟩
  have e : decide (V.str x = V.str y) = decide (x = y) := decide_eq_decide.mpr ⟨fun h => V.str.inj h, fun h => by rw [h]⟩
  rw [e]
  exact q _ H (ex_refl H) (.bl _)
theorem rd_neT {K : PySem.W.Frag} : RD2 K rNe (.str x) (.str y) (.bool (!decide (x = y))) := fun M H vx vy Q _ r1 r2 q => by
  cases r1
  cases r2
  refine ⟨rfl, ?_⟩
  have e : decide (V.str x = V.str y) = decide (x = y) := decide_eq_decide.mpr ⟨fun h => V.str.inj h, fun h => by rw [h]⟩
  rw [e]
  exact q _ H (ex_refl H) (.bl _)
theorem pt_eqT (ha : PD X A a (.str x)) (hb : PD X A b (.str y)) : PTD X A (.Compare a [.Eq] [b] pos) (decide (x = y)) := ptd_cmp op_eq rd_eqT ha hb (nomark _)
theorem pt_neT (ha : PD X A a (.str x)) (hb : PD X A b (.str y)) : PTD X A (.Compare a [.NotEq] [b] pos) (!decide (x = y)) := ptd_cmp op_ne rd_neT ha hb (nomark _)
theorem pd_eqT (ha : PD X A a (.str x)) (hb : PD X A b (.str y)) : PD X A (.Compare a [.Eq] [b] pos) (.bool (decide (x = y))) := pd_cmp op_eq rd_eqT ha hb (nomark _)
theorem pt_neTs (ha : PD X A a (.str x)) (hb : PD X A b (.str x)) : PTD X A (.Compare a [.NotEq] [b] pos) false := PTD.eq (pt_neT ha hb) (by rw [decide_eq_true rfl]; rfl)
end
/-! ### how long what is shown is -/
theorem shown_int {n : Nat} (h : n < 10 ^ 10) : (PyData.int (n : Int)).shown.length ≤ 10 := toString_length_le (Int.natCast_nonneg n) (by decide) (by exact_mod_cast h)
theorem tuple_text {ts : List Str} : (tupleText ts).length ≤ piled ts + 3 := by
  unfold tupleText
  rw [Str.length_append, Str.length_append]
  have h1 : (("(" : Str)).length = 1 := by decide +kernel
  have h2 : ∀ b : Bool, (Str.ofString (if b = true then ",)" else ")")).length ≤ 2 := fun b => by
    cases b
    · exact Nat.le_trans (Nat.le_of_eq (by decide +kernel : ((")" : Str)).length = 1)) (by decide)
    · exact Nat.le_of_eq (by decide +kernel)
  have h3 : (Str.join ", " ts).length ≤ piled ts := by
    cases ts with
    | nil => exact Nat.le_of_eq (by decide +kernel)
    | cons t r =>
      have := join_length_add (t :: r) (fun z => nomatch z)
      omega
  have h4 := h2 (ts.length == 1)
  rw [h1]
  exact Nat.le_trans (Nat.add_le_add (Nat.add_le_add_left h3 1) h4) (by omega)
theorem shown_nats {l : List Nat} (h : ∀ x ∈ l, x < 10 ^ 10) : (PyData.tuple (l.map iD)).shown.length ≤ 12 * l.length + 3 := by
  have e : ∀ l : List Nat, (∀ x ∈ l, x < 10 ^ 10) → piled (PyData.shownAll (l.map iD)) ≤ 12 * l.length := fun l => by
    induction l with
    | nil => exact fun _ => Nat.le_of_eq rfl
    | cons x l ih =>
      intro h
      have h1 := shown_int (h x List.mem_cons_self)
      have h2 := ih fun y hy => h y (List.mem_cons_of_mem _ hy)
      show piled ((PyData.int (x : Int)).shown :: PyData.shownAll (l.map iD)) ≤ 12 * (l.length + 1)
      rw [piled_cons]
      omega
  have := e l h
  have := tuple_text (ts := PyData.shownAll (l.map iD))
  show (tupleText (PyData.shownAll (l.map iD))).length ≤ _
  omega
theorem showable_nats : ∀ {l : List Nat}, (∀ x ∈ l, x < 10 ^ 10) → PyData.showableAll (l.map iD) = true
  | [], _ => rfl
  | x :: l, h => by
    show ((PyData.int (x : Int)).showable && PyData.showableAll (l.map iD)) = true
    rw [showable_nats fun y hy => h y (List.mem_cons_of_mem _ hy), Bool.and_true]
    refine decide_eq_true ?_
    have hx := h x List.mem_cons_self
    show (x : Int).natAbs.log2 < 1920
    rw [Int.natAbs_natCast]
    by_cases z : x = 0
    · rw [z]
      decide
    · exact (Nat.log2_lt z).mpr (Nat.lt_trans hx (by decide +kernel))
end Z

set_option maxHeartbeats 1000000
namespace Z
open PySem PySem.Spec PyProof.Rows L2
/-! ### texts -/
section
variable {X : Cx} {A : AS} {a b c e : Expr} {x y : Str} {ys : List Str} {d : D} {ds : List D} {i : Int} {pos p p2 apos cpos : Pos}
theorem rd_catS {K : PySem.W.Frag} (h : x.length + y.length ≤ sizeLine) : RD2 K (fun x y H Q => ∃ i j, x = .str i ∧ y = .str j ∧ i.length + j.length ≤ sizeLine ∧ Q (.str (i ++ j)) H) (.str x) (.str y) (.str (x ++ y)) := fun M H vx vy Q _ r1 r2 q => by
  cases r1
  cases r2
  exact ⟨x, y, rfl, rfl, h, q _ H (ex_refl H) (.str _)⟩
theorem pd_catS (ha : PD X A a (.str x)) (hb : PD X A b (.str y)) (h : x.length + y.length ≤ 1000000) : PD X A (.BinOp a .Add b pos) (.str (x ++ y)) := pd_op op_add_str (rd_catS (Nat.le_trans h (by decide))) ha hb
theorem cd_lenS (h : x.length ≤ 1000000) : CallD X (.builtin "len") [.str x] (.int (x.length : Int)) := ⟨_, call_len_str, fun M H vs Q _ r q => by
  obtain ⟨v, rfl, rv⟩ := repA1 r
  cases rv
  exact ⟨x, rfl, Nat.le_trans h (by decide), q _ H (ex_refl H) (.int _)⟩⟩
theorem cd_intS {n : Int} (h : PySem.intText? x = some n) (hl : x.length ≤ 640) : CallD X (.type "int") [.str x] (.int n) := ⟨_, call_int_str, fun M H vs Q _ r q => by
  obtain ⟨v, rfl, rv⟩ := repA1 r
  cases rv
  exact ⟨x, n, rfl, h, hl, q _ H (ex_refl H) (.int _)⟩⟩
theorem cd_intB {k : Bool} : CallD X (.type "int") [.bool k] (.int (if k then 1 else 0)) := ⟨_, call_int1, fun M H vs Q _ r q => by
  obtain ⟨v, rfl, rv⟩ := repA1 r
  cases rv
  exact .inr ⟨k, rfl, q _ H (ex_refl H) (.int _)⟩⟩
theorem cd_all {bs : List Bool} (hc : X.calm = true) : CallD X (.builtin "all") [.list (bs.map PyData.bool)] (.bool (bs.all id)) := ⟨_, cr_all hc, fun M H vs Q _ r q => by
  obtain ⟨v, rfl, rv⟩ := repA1 r
  cases rv with
  | lst h r2 =>
    have e := RepA.bools r2
    subst e
    exact ⟨_, bs, rfl, h.sq, q _ H (ex_refl H) (.bl _)⟩⟩
/-- s[i] -/
theorem pd_ixS {n : Nat} (ha : PD X A a (.str x)) (hb : PD X A b (.int i)) (hl : x.length ≤ 1000000) (h : atI x.cps.toList i = some n) (hs : PlainIx b := by intro _ _; rfl) : PD X A (.Subscript a b pos) (.str ⟨#[n]⟩) :=
  pd_ix ix_str (fun M H vx vy Q _ r1 r2 q => by
    cases r1
    cases r2
    exact ⟨x, i, n, rfl, rfl, Nat.le_trans hl (by decide), h, q _ H (ex_refl H) (.str _)⟩) ha hb hs
theorem pd_sliceS {lo hi : Option Expr} {l u : Option Int} (ha : PD X A a (.str x)) (hl : POD X A lo l) (hu : POD X A hi u) (hz : x.length ≤ 1000000) : PD X A (.Subscript a (.Slice lo hi none p2) pos) (.str (cutS x l u)) :=
  pd_of (pe_slice sl_str ha hl hu) fun σ H Q ⟨W, H0, F, ps, hs, q⟩ => ⟨W, H0, F, ps, hs, fun v H1 e1 r1 => ⟨W, H0, F, ps, hs.ext e1, fun H2 e2 => ⟨W, H0, F, ps, (hs.ext e1).ext e2, fun H3 e3 => by
    cases r1
    exact ⟨x, rfl, Nat.le_trans hz (by decide), q _ H3 (ex_trans e1 (ex_trans e2 e3)) (.str _)⟩⟩⟩⟩
/-- c in s, c one sign -/
theorem rd_inS {K : PySem.W.Frag} {n : Nat} : RD2 K (fun x y H Q => ∃ (c : Nat) (z : Str), x = .str ⟨#[c]⟩ ∧ y = .str z ∧ Q (.bl (decide (c ∈ z.cps.toList))) H) (.str ⟨#[n]⟩) (.str y) (.bool (decide (n ∈ y.cps.toList))) := fun M H vx vy Q _ r1 r2 q => by
  cases r1
  cases r2
  exact ⟨n, y, rfl, rfl, q _ H (ex_refl H) (.bl _)⟩
theorem pd_inS {n : Nat} (ha : PD X A a (.str ⟨#[n]⟩)) (hb : PD X A b (.str y)) (hm : behindInMarks .In b = false := by rfl) : PD X A (.Compare a [.In] [b] pos) (.bool (decide (n ∈ y.cps.toList))) := pd_cmp op_in_sign rd_inS ha hb hm
theorem rd_leS {K : PySem.W.Frag} : RD2 K (fun x y H Q => ∃ i j, x = .str i ∧ y = .str j ∧ Q (.bl (!decide (j.cps.toList < i.cps.toList))) H) (.str x) (.str y) (.bool (!decide (y.cps.toList < x.cps.toList))) := fun M H vx vy Q _ r1 r2 q => by
  cases r1
  cases r2
  exact ⟨x, y, rfl, rfl, q _ H (ex_refl H) (.bl _)⟩
/-! split, join -/
theorem repA_strs {K : PySem.W.Frag} {M : List Addr} {H : Hp} : ∀ (l : List Str), RepA K M H (l.map V.str) (l.map PyData.str)
  | [] => .nil
  | x :: l => .cons (.str x) (repA_strs l)
theorem pd_split (ha : PD X A a (.str x)) (hb : PD X A b (.str y)) (h0 : (y.length == 0) = false) (hl : x.length ≤ 1000000) (hs : starEach [b] X.env = [(false, eval b X.env)] := by rfl) (hbase : attributeBase a "split" X.env (eval a X.env) = eval a X.env := by rfl) (hline : (apos.endLine == pos.line) = true := by rfl) :
    PD X A (.Call (.Attribute a "split" apos) [b] [] pos) (.list ((Txt.split x y).map PyData.str)) :=
  pd_of (pe_split ha hb hs hbase hline) fun σ H Q ⟨W, H0, F, ps, hs, q⟩ => ⟨W, H0, F, ps, hs, fun v H1 e1 r1 => by
    cases r1
    refine ⟨⟨x, rfl⟩, W, H0, F, ps, hs.ext e1, fun v2 H2 e2 r2 => ?_⟩
    cases r2
    refine ⟨x, y, rfl, rfl, h0, Nat.le_trans (Nat.add_le_add_right hl 2) (by decide), fun p hp => ?_⟩
    exact q _ _ (ex_trans e1 (ex_trans e2 (ex_new hp))) (.lst (.inl ⟨.inl upd_same, fun m => ((hs.ext e1).ext e2).avoid m hp⟩) (repA_strs _))⟩
theorem pd_join (ha : PD X A a (.str x)) (hb : PD X A b (.list (ys.map PyData.str))) (hl : (ys.map (·.length)).sum + ys.length * x.length ≤ 1000000) (hs : starEach [b] X.env = [(false, eval b X.env)] := by rfl) (hbase : attributeBase a "join" X.env (eval a X.env) = eval a X.env := by rfl) (hline : (apos.endLine == pos.line) = true := by rfl) :
    PD X A (.Call (.Attribute a "join" apos) [b] [] pos) (.str (Txt.join x ys)) :=
  pd_of (pe_join ha hb hs hbase hline) fun σ H Q ⟨W, H0, F, ps, hs, q⟩ => ⟨W, H0, F, ps, hs, fun v H1 e1 r1 => by
    cases r1
    refine ⟨⟨x, rfl⟩, W, H0, F, ps, hs.ext e1, fun v2 H2 e2 r2 => ?_⟩
    cases r2 with
    | lst h r =>
      have e := RepA.strs r
      subst e
      exact ⟨x, _, ys, rfl, rfl, .inl h.sq, Nat.le_trans hl (by decide), q _ H2 (ex_trans e1 e2) (.str _)⟩⟩
/-! for c in s -/
def signsD (x : Str) : List D := x.cps.toList.map fun c => PyData.str ⟨#[c]⟩
theorem signs_get {i : Nat} : (signsD x)[i]? = x.cps[i]?.map fun c => PyData.str ⟨#[c]⟩ := by
  unfold signsD
  rw [List.getElem?_map, Array.getElem?_toList]
theorem signs_len : (signsD x).length = x.cps.size := by simp [signsD]
theorem itd_str {K : PySem.W.Frag} {M : List Addr} {H : Hp} : ItD K M H (Its x) (signsD x) where
  go := fun i H' M' g hi => by rw [signs_len] at hi; exact hi
  yld := fun i H' M' v H'' hi g ⟨e1, c, e2, e3⟩ => by
    subst e1 e3
    exact ⟨ex_refl _, _, by rw [signs_get, e2]; rfl, .str _⟩
  stop := fun i H' M' g hi => by rw [signs_len] at hi; exact hi
theorem pid_str {tg : Expr} (h : PD X A e (.str x)) : PID X A tg e (signsD x) :=
  pid_of (pi_str h) fun σ H R ⟨W, H0, F, ps, hs, q⟩ => ⟨W, H0, F, ps, hs, fun v H1 e1 r1 => by
    cases r1
    exact ⟨x, rfl, q _ H1 e1 itd_str⟩⟩
end
/-! ### for i, c in enumerate(s) -/
def ItSe (x : Str) : It :=
  ⟨fun i _ => i < x.cps.size, fun i H v H' => ∃ T c, v = .ref T ∧ H T = none ∧ H' = upd H T (.tup [.int (i : Nat), .str ⟨#[c]⟩]) ∧ x.cps[i]? = some c, fun i _ => x.cps.size ≤ i⟩
/-- an iterator at its end -/
theorem past_end {prog : Program} {w : World} {A : Around} (hh : A.handled = none) (it : Addr) (x : Str) (t : Tok) {i : Nat} (hi : x.cps.size ≤ i) : Draws prog w A it [it] i (fun _ _ => False) (fun k h => h.IsStrIter it (strIterType x) x t k ∧ k = i) where
  live := fun _ _ st => let ⟨⟨o, ho, _⟩, _⟩ := st; ⟨o, ho⟩
  frame := fun _ _ _ st hk => let ⟨⟨o, ho, r⟩, e⟩ := st; ⟨⟨o, hk it (by simp) o ho, r⟩, e⟩
  item := fun k s Q E lt st hQ => absurd st.2 (Nat.ne_of_lt lt)
  done := fun s Q E st hE => by
    have hx : x.cps[i]? = none := Array.getElem?_eq_none hi
    have s1 := st.1
    cases ha : x.cps.all (· < 128)
    · simp only [strIterType, ha, Bool.false_eq_true, if_false] at s1
      exact wpAny_nextOf_wide_end hh s1 hx hE
    · simp only [strIterType, ha, if_true] at s1
      exact wpAny_nextOf_ascii_end hh s1 hx hE
theorem turn_enumS {P : Program} {w : World} {K : PySem.W.Frag} {elts : List Expr} {kk : Nat} {tpos : Pos} (x : Str) (t : Tok) (e it : Addr) :
    Turn P w K (.Tuple elts kk tpos) (ItSe x) [e, it] e (fun i h => (∃ old, IsEnum h e it ((i : Nat) : Int) old) ∧ h.IsStrIter it (strIterType x) x t i ∧ e ≠ it) where
  mem := by simp
  obj := fun i h st b hb => by
    obtain ⟨⟨old, he⟩, ⟨o, ho, hc, hd⟩, _⟩ := st
    rcases (show b = e ∨ b = it by simpa using hb) with z | z
    · rw [z]
      exact ⟨_, he, fun v q => nomatch q⟩
    · rw [z]
      exact ⟨o, ho, fun v q => by rw [hd] at q; cases q⟩
  keep := fun i h h' st k => let ⟨⟨old, he⟩, ⟨o, ho, r⟩, hne⟩ := st; ⟨⟨old, k e (by simp) _ he⟩, ⟨o, k it (by simp) o ho, r⟩, hne⟩
  item := by
    intro X hP hw hK hc i pins s σ H E I hf st hg
    subst hP hw hK
    obtain ⟨⟨old, he⟩, hit, hne⟩ := st
    have lt : i < x.cps.size := hg
    have el : e < s.heap.objs.size := Heap.lt_size he
    have il : it < s.heap.objs.size := by obtain ⟨_, q, _⟩ := hit; exact Heap.lt_size q
    have D := Draws.text (prog := X.prog) (w := X.w) (A := X.A.in1) (I.ok.hd hc) it x t
    refine wpAny_pyNext_enum_itemD D he hit lt hne (fun z => hne (by simpa using z)) fun u h' tk hu ho hit' hT hsz hk => ?_
    obtain ⟨c, uc, hcx, rfl⟩ := hu
    refine ⟨_, rfl, wpAny_letOwnedTupleGo_enum (s := { s with heap := h', toks := tk + 1 }) ho fun h2 he2 sb => ?_⟩
    have hT2 : h2.get? s.heap.objs.size = some { cls := .type "tuple", data := .seq #[.int i tk, .str ⟨#[c]⟩ uc] } := (sb.2 _ (Nat.ne_of_gt el)).trans hT
    have new : ObjOk X.prog X.w (upd H s.heap.objs.size (.tup [.int (i : Nat), .str ⟨#[c]⟩])) h2 s.heap.objs.size (.tup [.int (i : Nat), .str ⟨#[c]⟩]) :=
      ⟨by show 2 ≤ sizeLine; decide, [.int i tk, .str ⟨#[c]⟩ uc], .cons ⟨_, rfl⟩ (.cons ⟨_, rfl⟩ .nil), ⟨_, hT2, rfl, _, rfl⟩⟩
    have I1 : Inv X pins σ (upd H s.heap.objs.size (.tup [.int (i : Nat), .str ⟨#[c]⟩])) { s with heap := h2, toks := tk + 1 } :=
      I.turnedNew (ch := [e, it]) (fun b ob nb q => (sb.2 b (fun z => nb (by simp [z]))).trans (hk b ob (fun z => nb (by simp [z])) (fun z => nb (by simp [z])) q)) hf (Nat.le_refl _) new
    refine ⟨.ref s.heap.objs.size, _, I1, rfl, ⟨_, c, rfl, I.hok.fresh (Nat.le_refl _), rfl, hcx⟩, ⟨⟨.str ⟨#[c]⟩ uc, ?_⟩, ?_, hne⟩, fun b hb => ?_⟩
    · rw [show ((i + 1 : Nat) : Int) = (i : Int) + 1 by omega]
      exact he2
    · obtain ⟨o, q1, q2⟩ := hit'
      exact ⟨o, (sb.2 it (Ne.symm hne)).trans q1, q2⟩
    · have lb : b < s.heap.objs.size := by
        rcases (show b = e ∨ b = it by simpa using hb) with z | z <;> (rw [z]; assumption)
      rw [upd_ne (Nat.ne_of_lt lb)]
      exact (hf b hb).1
  done := by
    intro X hP hw hK hc i pins s σ H E I hf st hg
    subst hP hw hK
    obtain ⟨⟨old, he⟩, hit, hne⟩ := st
    have ge : x.cps.size ≤ i := hg
    obtain ⟨f0, f1, f2, f3, f4, f5⟩ := hf it (by simp)
    exact wpAny_pyNext_enum_endD (past_end (prog := X.prog) (w := X.w) (A := X.A.in1) (I.ok.hd hc) it x t ge) he ⟨hit, rfl⟩ fun h' eb => ⟨rfl, I.turned (t' := s.toks) (fun b o hb q => eb b o hb q) f0 f1 f3 f4 f5⟩
  self := fun A i s Q E st h => let ⟨⟨_, he⟩, _⟩ := st; wpAny_pyIter_enum he h
theorem pi_enumS {X : Cx} {e : Expr} {ta : TA} {p pos tpos : Pos} {elts : List Expr} {kk : Nat} (hg : Gl X "enumerate") (hm : X.mg "enumerate" = none) (ha : PA X [e] ta) (hs : starEach [e] X.env = [(false, eval e X.env)] := by rfl) :
    PI X (.Tuple elts kk tpos) (.Call (.Name "enumerate" p) [e] [] pos) (fun σ H R => ta σ H fun vs H1 => ∃ x, vs = [.str x] ∧ R (ItSe x) H1) := by
  refine ⟨fun pins s σ H R I h => ?_⟩
  refine Call_ (ld_blt I hg hm boot_enumerate (PyProof.Rows.callWith_type1 (thn (ha.run pos pins s σ H _ I h) fun us s1 ⟨vs, H1, I1, r1, q1⟩ => ?_) hs rfl))
  obtain ⟨x, ex, q⟩ := q1
  subst ex
  obtain ⟨u, rfl, t, rfl⟩ := vals1 r1
  refine call_enumerate_str fun h' he hit hsz hk => wpAny_pyIter_enum he ?_
  have I2 : Inv X pins σ H1 { s1 with heap := h' } := I1.kept (t' := s1.toks) hk
  refine ⟨s1.heap.objs.size + 1, [s1.heap.objs.size + 1, s1.heap.objs.size], _, _, H1, rfl, I2, turn_enumS x t (s1.heap.objs.size + 1) s1.heap.objs.size, ⟨⟨.none, he⟩, hit, Nat.succ_ne_self _⟩, fun b hb => ?_, q⟩
  have le : s1.heap.objs.size ≤ b := by
    rcases (show b = s1.heap.objs.size + 1 ∨ b = s1.heap.objs.size by simpa using hb) with z | z <;> (rw [z]; omega)
  exact I1.fpOk le (I1.hok.fresh le)
section
variable {X : Cx} {A : AS} {a b c e : Expr} {x y : Str} {ys : List Str} {d : D} {ds : List D} {i : Int} {pos p p2 apos cpos : Pos}
theorem itd_enumS {K : PySem.W.Frag} {M : List Addr} {H : Hp} : ItD K M H (ItSe x) (enumD (signsD x)) where
  go := fun i H' M' g hi => by rw [enumD_len, signs_len] at hi; exact hi
  yld := fun i H' M' v H'' hi g ⟨T, c, e0, e1, e2, e3⟩ => by
    subst e2 e0
    exact ⟨ex_new e1, _, by rw [enumD_get, signs_get, e3]; rfl, .tup (.inl upd_same) (.cons (.int _) (.cons (.str _) .nil))⟩
  stop := fun i H' M' g hi => by rw [enumD_len, signs_len] at hi; exact hi
theorem pid_enumS {elts : List Expr} {kk : Nat} {tpos p : Pos} (hm : X.mg "enumerate" = none) (ha : PDs X A [e] [.str x]) (hg : Gl X "enumerate" := by rfl) (hs : starEach [e] X.env = [(false, eval e X.env)] := by rfl) :
    PID X A (.Tuple elts kk tpos) (.Call (.Name "enumerate" p) [e] [] pos) (enumD (signsD x)) :=
  pid_of (pi_enumS hg hm ha hs) fun σ H R ⟨W, H0, F, ps, hs, q⟩ => ⟨W, H0, F, ps, hs, fun vs H1 e1 r1 => by
    obtain ⟨v, rfl, rv⟩ := repA1 r1
    cases rv
    exact ⟨x, rfl, q _ H1 e1 itd_enumS⟩⟩
/-! s[::-1], xs[::-1] -/
def revS (x : Str) : Str := Txt.sliceBy x none none (-1, 0)
theorem revS_len : (revS x).length = x.length := step_rev_len x 0
theorem rev_tok (u : Tok) : Txt.sliceBy x none none (-1, u) = revS x := by
  apply Str.ext'
  apply Array.toList_inj.mp
  rw [step_rev_list, revS, step_rev_list]
theorem pe_backS {te : TE} {k : Nat} {p1 p2 p3 : Pos} (he : PE X e te) : PE X (.Subscript e (.Slice none none (some (.UnaryOp .USub (.Constant (.int 1) k p1) p2)) p3) pos) (fun σ H Q => te σ H fun v H1 => ∃ x, v = .str x ∧ x.length ≤ sizeLine ∧ Q (.str (revS x)) H1) := by
  refine ⟨fun pins s0 σ H Q I hq => ?_⟩
  refine Subscript_ (thn (he.run pins s0 σ H _ I hq) fun v s1 ⟨y, H1, I1, r1, x, ex, hx, q⟩ => ?_)
  subst ex
  obtain ⟨t, rfl⟩ := r1
  have step : PO X (some (.UnaryOp .USub (.Constant (.int 1) k p1) p2)) (tPart (tUn (rU fun i => .int (-i)) (tC (.int 1)))) := po_some (pe_un un_neg pe_int)
  refine wpAny_Slice (thn (po_none.run pins s1 σ H1 (fun o K2 => o = none ∧ K2 = H1) I1 ⟨rfl, rfl⟩) fun vl s2 ⟨l, H2, I2, pl, el, e2⟩ => ?_)
  subst el; subst e2
  refine thn (po_none.run pins s2 σ H2 (fun o K3 => o = none ∧ K3 = H2) I2 ⟨rfl, rfl⟩) fun vu s3 ⟨u, H3, I3, pu, eu, e3⟩ => ?_
  subst eu; subst e3
  refine thn (step.run pins s3 σ H3 (fun o K4 => o = some (-1) ∧ K4 = H3) I3 ⟨1, rfl, -1, rfl, rfl, rfl⟩) fun vs s4 ⟨o, H4, I4, ps, eo, e4⟩ => ?_
  subst eo; subst e4
  have J : Inv X pins σ H4 { s4 with heap := s4.heap.push { cls := .type "slice", data := .fields #[vl, vu, vs] } } := I4.kept (t' := s4.toks) fun b ob z => Heap.get?_push_of_some _ z
  show wpAny (model X.prog X.w) X.A (subscriptTail e (.Slice none none (some (.UnaryOp .USub (.Constant (.int 1) k p1) p2)) p3) (.str x t) (.ref s4.heap.objs.size)) (EP X pins σ Q) X.xe { s4 with heap := s4.heap.push { cls := .type "slice", data := .fields #[vl, vu, vs] } }
  refine tail_any (ops := [.str x t, .ref s4.heap.objs.size]) (typeIs_str _ _ _) F.slot_str_getitem.lookup ?_ (by with_unfolding_all rfl)
  obtain ⟨l, el, eL⟩ := IsPart.raw pl
  obtain ⟨u, eu, eU⟩ := IsPart.raw pu
  obtain ⟨st, es, eS⟩ := IsPart.raw ps
  cases l with
  | some _ => cases eL
  | none =>
    cases u with
    | some _ => cases eU
    | none =>
      cases st with
      | none => cases eS
      | some st =>
        obtain ⟨i, tk⟩ := st
        have ei : i = -1 := by
          have z := Option.some.inj eS
          first | exact z | exact z.symm
        subst ei el eu es
        refine wpAny_getItem_str_slice (l := none) (u := none) (st := some (-1, tk)) ⟨_, Heap.get?_push_size _ rfl, rfl, rfl⟩ rfl (post_val_or_str ⟨Nat.le_trans (Txt.sliceBy_le x _ _ (-1, tk) (by show (-1 : Int) ≠ 0; decide)) hx, fun t' c => ?_⟩)
        exact ⟨.str (revS x), H4, J.tok c, ⟨t', by rw [← rev_tok (x := x) tk]; rfl⟩, q⟩
theorem pd_backS {k : Nat} {p1 p2 p3 : Pos} (ha : PD X A a (.str x)) (hl : x.length ≤ 1000000) : PD X A (.Subscript a (.Slice none none (some (.UnaryOp .USub (.Constant (.int 1) k p1) p2)) p3) pos) (.str (revS x)) :=
  pd_of (pe_backS ha) fun σ H Q ⟨W, H0, F, ps, hs, q⟩ => ⟨W, H0, F, ps, hs, fun v H1 e1 r1 => by
    cases r1
    exact ⟨x, rfl, Nat.le_trans hl (by decide), q _ H1 e1 (.str _)⟩⟩
theorem pd_backL {k : Nat} {p1 p2 p3 : Pos} (ha : PD X A a (.list ds)) : PD X A (.Subscript a (.Slice none none (some (.UnaryOp .USub (.Constant (.int 1) k p1) p2)) p3) pos) (.list ds.reverse) :=
  pd_of (pe_revL ha) fun σ H Q ⟨W, H0, F, ps, hs, q⟩ => ⟨W, H0, F, ps, hs, fun v H1 e1 r1 => by
    cases r1 with
    | lst h1 r2 => exact ⟨_, _, rfl, h1.sq, fun p hp => q _ _ (ex_trans e1 (ex_new hp)) (.lst (.inl ⟨.inl upd_same, fun m => (hs.ext e1).avoid m hp⟩) (repA_back' (r2.ex (ex_new hp))))⟩⟩
end
end Z

namespace Z
open PySem PySem.Spec PyProof.Rows L2
/-! ### displays some item of which may raise -/
inductive OutL where
  | dats (ds : List D)
  | exc (C : Addr)
def OutL.push (d : D) : OutL → OutL
  | .dats ds => .dats (d :: ds)
  | .exc C => .exc C
def OutL.tup : OutL → Out
  | .dats ds => .dat (.tuple ds)
  | .exc C => .exc C
def tLs (K : PySem.W.Frag) (A : AS) (r : OutL) (E : XK) : TA := fun σ H Q => ∃ W H0 F ps, Has K W H0 F ps A σ H ∧ match r with
  | .dats ds => ∀ vs H', Ex H H' → RepA K (Mx ps ++ F) H' vs ds → Q vs H'
  | .exc C => ∀ H', Ex H H' → E (.ref C) none H'
section
variable {X : Cx} {A : AS} {E : XK} {Θ : L2.St → Hp → Prop} {e a b : Expr} {es : List Expr} {d : D} {ds : List D} {r : OutL} {C : Addr} {pos p p2 : Pos} {rest : List Stmt}
theorem pls_nil : PA X [] (tLs X.K A (.dats []) E) := ⟨fun p pins s σ H Q I ⟨W, H0, F, ps, hs, q⟩ => pa_nil.run p pins s σ H Q I (q [] H (ex_refl H) .nil)⟩
theorem pls_cons (ha : PE X e (tL X.K A (.dat d) E)) (hr : PA X es (tLs X.K A r E)) (hs : starEach (e :: es) X.env = (false, eval e X.env) :: starEach es X.env := by rfl) : PA X (e :: es) (tLs X.K A (r.push d) E) :=
  ⟨fun p pins s σ H Q I ⟨W, H0, F, ps, hh, q⟩ => (pa_cons ha hr hs).run p pins s σ H Q I ⟨W, H0, F, ps, hh, fun v H1 e1 r1 => ⟨W, H0, F, ps, hh.ext e1, by
    cases r with
    | dats ds => exact fun vs H2 e2 r2 => q (v :: vs) H2 (ex_trans e1 e2) (.cons (r1.ex e2) r2)
    | exc C => exact fun H2 e2 => q H2 (ex_trans e1 e2)⟩⟩⟩
theorem pa_nev : ∀ {es : List Expr}, PA X es (fun _ _ _ => False) := ⟨fun _ _ _ _ _ _ _ z => z.elim⟩
theorem pls_exc (ha : PE X e (tL X.K A (.exc C) E)) (hs : starEach (e :: es) X.env = (false, eval e X.env) :: starEach es X.env := by rfl) : PA X (e :: es) (tLs X.K A (.exc C) E) :=
  ⟨fun p pins s σ H Q I ⟨W, H0, F, ps, hh, q⟩ => (pa_cons ha pa_nev hs).run p pins s σ H Q I ⟨W, H0, F, ps, hh, q⟩⟩
theorem pl_tup {x1} (h : PA X es (tLs X.K A r E)) (hl : es.length ≤ 1000 := by exact Nat.le_of_ble_eq_true rfl) (hd : ∀ ds, r = .dats ds → ds.length = es.length) : PE X (.Tuple es x1 pos) (tL X.K A r.tup E) :=
  ⟨fun pins s σ H Q I ⟨W, H0, F, ps, hh, q⟩ => (pe_tup h).run pins s σ H Q I ⟨W, H0, F, ps, hh, by
    cases r with
    | dats ds =>
      exact fun vs H1 e1 r1 => ⟨by rw [r1.length, hd ds rfl]; exact Nat.le_trans hl (by decide), fun p hp => q (.ref p) _ (ex_trans e1 (ex_new hp)) (.tup (.inl upd_same) (r1.ex (ex_new hp)))⟩
    | exc C => exact q⟩⟩
/-- x = e, e raises -/
theorem sr_setE {n : Str} (i : Nat) {pos' : Pos} (hN : X.N.Nodup) (he : PE X e (tL X.K A (.exc C) E)) (hw : ∀ σ H, Θ σ H → E (.ref C) none H) (hi : X.N[i]? = some n := by rfl) (hx : Loc X.env.scope n := by first | exact Or.inl rfl | exact Or.inr rfl)
    (hs : swapsWith e (some (.Name n pos')) pos.line X.env = pure false := by rfl) (hf : X.fn n = true ∨ X.env.scope.names.lookup n = some .local := by first | exact .inl rfl | exact .inr rfl) : SR X A (.Assign [.Name n pos'] e pos :: rest) Θ :=
  sr_of (pss_cons (ps_set hN hi hx he hs hf) pss_no) fun Dn σ H ⟨W, H0, F, ps, hh, q⟩ => ⟨W, H0, F, ps, hh, fun H' x => hw σ H' (q ps A σ H' (hh.ext x))⟩
theorem sr_no {sts : List Stmt} {c : Expr} (hc : PTD X A c false) (h : SR X A rest Θ) : SR X A (.If c sts [] pos :: rest) Θ := sr_cons (sd_no hc (sds_nil h))
end
theorem DFnE.dfn {P : Program} {w : World} {K : PySem.W.Frag} {mg : Str → Option Value} {base : Heap} {k : Nat} {n : Str} {φ : List D → D → Prop} {χ : List D → Str → Prop} (h : DFnE P w K mg base k n φ χ) : DFn P w K mg base k n φ := by
  obtain ⟨f, fd, ps, F, me, ke, bi⟩ := h.ok
  have to : ∀ vs H Q E, spD K φ vs H Q E → spDE K mg φ χ vs H Q E0 := fun vs H Q E ⟨M, ds, d, hφ, hM, hA, q⟩ => ⟨M, ds, hM, hA, .inl ⟨d, hφ, q⟩⟩
  refine ⟨f, fd, ps, ⟨fun vs H Q E h => F.len vs H Q E0 (to vs H Q E h), fun A outer s H args us vs Q E hr e0 hb r h => codeAny_mono (F.run A outer s H args us vs Q E0 hr e0 hb r (to vs H Q E h)) fun r s' hq => ?_⟩, me, ke, bi⟩
  cases r with
  | error e =>
    obtain ⟨_, _, _, _, _, _, _, _, _, _, _, _, z⟩ := (show L2.CX P w outer H s E0 e s' from hq)
    exact z.elim
  | ok fl => cases fl <;> exact hq
/-! ### None in a tuple -/
def noneOr (o : Option Nat) : D := match o with
  | some n => iD n
  | none => .none
section
variable {X : Cx} {A : AS} {a b : Expr} {os : List (Option Nat)} {pos : Pos}
def noneOrV (o : Option Nat) : V := match o with
  | some n => .int n
  | none => .non
theorem repA_opt {K : PySem.W.Frag} {M : List Addr} {H : Hp} : ∀ {os : List (Option Nat)} {vs : List V}, RepA K M H vs (os.map noneOr) → vs = os.map noneOrV
  | [], _, .nil => rfl
  | none :: os, _, .cons r t => by
    cases r
    rw [repA_opt t]
    rfl
  | some n :: os, _, .cons r t => by
    cases r
    rw [repA_opt t]
    rfl
theorem flat_opt : ∀ os : List (Option Nat), (os.map noneOrV).all flatV = true
  | [] => rfl
  | none :: os => by rw [List.map_cons, List.all_cons, flat_opt os]; rfl
  | some n :: os => by rw [List.map_cons, List.all_cons, flat_opt os]; rfl
theorem inV_opt : ∀ os : List (Option Nat), inV .non (os.map noneOrV) = os.any Option.isNone
  | [] => rfl
  | none :: os => by
    show (eqV .non .non || inV .non (os.map noneOrV)) = _
    rfl
  | some n :: os => by
    show (eqV (.int n) .non || inV .non (os.map noneOrV)) = _
    rw [inV_opt os]
    rfl
theorem rd_inN {K : PySem.W.Frag} : RD2 K (rIn K false) .none (.tuple (os.map noneOr)) (.bool (os.any Option.isNone)) := fun M H vx vy Q _ r1 r2 q => by
  cases r1
  cases r2 with
  | tup h1 rr =>
    rw [repA_opt rr] at h1
    refine ⟨_, _, rfl, .inr h1.sq, rfl, flat_opt os, ?_⟩
    rw [inV_opt]
    exact q _ H (ex_refl H) (.bl _)
theorem pt_inN (ha : PD X A a .none) (hb : PD X A b (.tuple (os.map noneOr))) (hm : behindInMarks .In b = false := by rfl) : PTD X A (.Compare a [.In] [b] pos) (os.any Option.isNone) := ptd_cmp op_in_seq rd_inN ha hb hm
end
/-! ### isinstance(s, str) -/
theorem kit_str (x : Str) : kitB (tyD (.str x)) "str" = some true := show kitB "str" "str" = some true by decide +kernel
end Z

set_option maxHeartbeats 1000000
namespace Z
open PySem PySem.Spec PyProof.Rows L2 NdefX
open LamX (Tabs TabS ExtN CodeO TabB)
/-! ### a lambda of parameters, handed on from def to def -/
/-- at the entry of a frame (st: what stands below it) f is the lambda F with the body b -/
structure LamAt (F : NF) (b : Expr) (fr : List Str) (ws : List (Option V)) (f : Addr) (st : List Env) (s : Shared) (H : Hp) : Prop where
  obj : ∃ pm ctv : Value, s.heap.get? f = some (PySem.W.kla_obj "<lambda>" F.qual F.params b F.scope F.cl pm F.c ctv)
  nf : H f = none
  nfr : f ∉ frs st
  cells : CellsAt F.cl fr ws s.heap H
  ncf : ∀ y c, F.cl.lookup y = some c → c ∉ frs st
section
variable {X : Cx} {pins : List (Addr × Obj)} {σ : L2.St} {H : Hp} {s : Shared} {F : NF} {b : Expr} {fr ps N : List Str} {ws : List (Option V)} {f : Addr}
theorem frs_own (hst : X.stack = X.env :: X.outer) (hfr : X.env.frame = some X.env.locals) : frs X.stack = X.env.locals :: frs X.outer := by
  rw [hst]
  unfold frs
  rw [List.filterMap_cons_some hfr]
theorem LamAt.later (L : LamAt F b fr ws f X.outer X.s_0 X.H_0) (I : Inv X pins σ H s) (hst : X.stack = X.env :: X.outer) (hfr : X.env.frame = some X.env.locals) (hex : X.ex = []) : LamAt F b fr ws f X.stack s H := by
  have nex : ∀ b : Addr, b ∉ X.ex := fun b z => by
    rw [hex] at z
    cases z
  obtain ⟨pm, ctv, ho⟩ := L.obj
  have below : ∀ {a : Addr} {o : Obj}, X.s_0.heap.get? a = some o → a ≠ X.env.locals := fun e z => by
    have h1 := Heap.lt_size e
    have h2 := I.ok.above
    rw [z] at h1
    exact absurd h1 (Nat.not_lt_of_le h2)
  refine ⟨⟨pm, ctv, I.base.keep f _ ho L.nf L.nfr (nex f)⟩, I.base.free f _ ho L.nf (nex f), fun z => ?_, L.cells.later L.ncf (fun y c _ => nex c) I, fun y c e z => ?_⟩
  · rw [frs_own hst hfr] at z
    rcases List.mem_cons.mp z with z | z
    · exact below ho z
    · exact L.nfr z
  · rw [frs_own hst hfr] at z
    obtain ⟨_, v, o, hc, _⟩ := L.cells.all y c e
    rcases List.mem_cons.mp z with z | z
    · exact below hc z
    · exact L.ncf y c e z
end
/-- the lambda called -/
theorem run_lam {CX : CXT} {P : Program} {w : World} {K : PySem.W.Frag} {mg : Str → Option Value} {base : Heap} {N ps fr : List Str} {F : NF} {b : Expr} {f : Addr} {A : Around} {outer : List Env} {s : Shared} {H : Hp} {us : List Value} {vs : List V} {ws : List (Option V)} {Q : VK} {E : XK} {k : Nat} {t : TE}
    (S : NScope N ps fr F.scope) (L : LamAt F b fr ws f outer s H) (hc : H F.c = some (CodeO F.c F.qual)) (hb : ∀ pm ctv : Value, bindArgs (PySem.W.kla_fn "<lambda>" F.qual F.params b F.scope F.cl pm (.ref F.c) ctv) ⟨us, []⟩ = pure (ps.zip us)) (hl : vs.length = ps.length) (hr : Room (k + 1) A) (e0 : Env0 P w K mg base A outer s H) (r : Vals vs us)
    (hbody : Room k (A.deeper (envF F f s.heap.objs.size)) → PE (ncx CX P w K mg base N F f A outer s H E) b t) (ht : t (startF N vs ws) H Q) : codeAny (model P w) A (.call (.ref f) ⟨us, []⟩) (CR CX outer P w H s Q E) s := by
  obtain ⟨pm, ctv, ho⟩ := L.obj
  have lim : s.heap.NoLimit := e0.mod.nolimit.keeps fun b o e => (e0.bs b o e).1
  refine PySem.W.kla_callFunE hr.depth ho rfl S.co S.gen rfl (codeO_at e0.hok hc) ?_
  rw [hb pm ctv]
  refine wpAny_pure (wpAny_newFunctionEnv S.nocell (fun ⟨n, _⟩ hy => S.par n (List.of_mem_zip hy).1) (fun h2 hns hsb => ⟨lim.fresh _ hsb, ?_⟩) S.kind)
  show codeAny _ _ (.expr b (envF F f s.heap.objs.size)) _ _
  have kp : ∀ a o, s.heap.get? a = some o → h2.get? a = some o := fun a o e => hsb.extBut a o (Nat.ne_of_lt (Heap.lt_size e)) (Heap.get?_push_of_some _ e)
  have J : Inv (ncx CX P w K mg base N F f A outer s H E) [] (startF N vs ws) H { s with heap := h2, toks := s.toks + (ps.zip us).length } := inv_startN S hr.hd e0 hl r L.cells hns kp
  refine PySem.W.kla_codeExpr (wpAny_mono ((hbody (hr.deeper _)).run [] _ _ H Q J ht) (fun v s' hq => ?_) fun e s' hq => hq)
  obtain ⟨w', H', J', rv, q⟩ := hq
  exact ⟨w', H', J'.os, J'.bare, J'.base, J'.hok, rv, q⟩
section
variable {X : Cx} {F : NF} {b : Expr} {fr ps N : List Str} {ws : List (Option V)} {f : Addr} {i k : Nat} {x : Str} {e : Expr} {te t : TE} {p pos : Pos}
/-- x(e), x a name that holds the lambda -/
theorem pe_by (L : LamAt F b fr ws f X.outer X.s_0 X.H_0) (hst : X.stack = X.env :: X.outer) (hfr : X.env.frame = some X.env.locals) (hex : X.ex = []) (S : NScope N ps fr F.scope) (hb : ∀ (u pm ctv : Value), bindArgs (PySem.W.kla_fn "<lambda>" F.qual F.params b F.scope F.cl pm (.ref F.c) ctv) ⟨[u], []⟩ = pure (ps.zip [u])) (hl : ps.length = 1) (hr : Room (k + 1) X.A)
    (he : PE X e te) (hbody : ∀ (A : Around) (outer : List Env) (s : Shared) (H : Hp), Room k (A.deeper (envF F f s.heap.objs.size)) → PE (ncx C8.CX0 X.prog X.w X.K X.mg X.base N F f A outer s H C8.E0) b t)
    (hN : X.N[i]? = some x) (hv : Vis X.env.scope x) (hd : (x == ("__debug__" : Str)) = false := by decide) (hcd : (x == ("__classdict__" : Str)) = false := by decide)
    (hs : starEach [e] X.env = (false, eval e X.env) :: starEach [] X.env := by rfl) (hpl : (backTo pos (starEach [] X.env)).any (·.1) = false := by rfl) :
    PE X (.Call (.Name x p) [e] [] pos) (fun σ H Q => σ[i]? = some (some (.ref f)) ∧ te σ H fun v H1 => H1 F.c = some (CodeO F.c F.qual) ∧ t (startF N [v] ws) H1 Q) := by
  refine ⟨fun pins s σ H Q I ⟨hx, ht⟩ => ?_⟩
  refine wpAny_Call_Name_kw (thn ((pe_var (pos := p) hN hv hd hcd).run pins s σ H (fun v H1 => v = .ref f ∧ H1 = H) I ⟨.ref f, hx, rfl, rfl⟩) fun u s1 ⟨v, H1, I1, r1, ev, eH⟩ => ?_)
  subst ev
  rw [eH] at I1
  obtain rfl : u = Value.ref f := r1
  have fnAt : ∀ {pins : List (Addr × Obj)} {σ : L2.St} {H : Hp} {s : Shared}, Inv X pins σ H s → PySem.W.FnAt f s.heap := fun J => by
    obtain ⟨pm, ctv, ho⟩ := (L.later J hst hfr hex).obj
    exact ⟨_, _, _, _, ho⟩
  refine PySem.W.callWith_F (first := []) (fnAt I1) (thn ((pa_cons he pa_nil hs).run pos pins s1 σ H (fun vs H2 => match vs with | [v] => H2 F.c = some (CodeO F.c F.qual) ∧ t (startF N [v] ws) H2 Q | _ => False) I1 ht) fun us s2 ⟨vs, H2, I2, r, q⟩ => ⟨fnAt I2, ?_⟩) hs hpl
  match vs, r, q with
  | [v], r, q =>
    obtain ⟨hc, q⟩ := q
    obtain ⟨u2, rfl, ru⟩ := r.one
    show wpAny _ _ (call (.ref f) [u2]) _ _ _
    refine wpAny_call (codeAny_mono (run_lam (CX := C8.CX0) (E := C8.E0) (vs := [v]) S (L.later I2 hst hfr hex) hc (hb u2) (by rw [hl]; rfl) hr I2.env0 (.cons ru .nil) (fun hr' => hbody X.A X.stack s2 H2 hr') q) fun r s' hq => ?_)
    cases r with
    | error e => exact (show False from hq).elim
    | ok fl =>
      cases fl with
      | ret u => exact I2.after hq
      | next => exact (show False from hq).elim
      | brk => exact (show False from hq).elim
      | cont => exact (show False from hq).elim
end
end Z

set_option maxHeartbeats 2000000
namespace Z
open PySem PySem.Spec PyProof.Rows L2
/-! ### for i, x in enumerate(t), t a tuple -/
theorem meets_enumB1 {v : Value} {o : Obj} {H : Heap → Prop} (B : Begins v o H) :
    Meets (Builtin.«enumerate.__new__» ⟨[.type "enumerate", v], []⟩) (fun _ R s => H s.heap ∧
      R (.ok (.ret (.ref (s.heap.push o).objs.size))) { s with heap := (s.heap.push o).push { cls := .type "enumerate", data := .fields #[.none, .bool false, .ref s.heap.objs.size, rawInt 0, .none, .none] } }) :=
  .of_wp fun prog w A R s h => by
    obtain ⟨hp, g, d, tk, os⟩ := s; obtain ⟨h1, h⟩ := h
    have hsub := sub_enumerate
    have q1 : ∀ {A' : Around} {E : Value → Shared → Prop} {Q : Value → Shared → Prop}, Q (.ref hp.objs.size) ⟨hp.push o, g, d, tk, os⟩ → wpAny (model prog w) A' (pyIter v) Q E ⟨hp, g, d, tk, os⟩ :=
      fun q => B.iter prog w _ _ ⟨hp, g, d, tk, os⟩ _ h1 q
    wp_walk using q1
    refine wpAny_stack_any fun st => wpAny_pure ?_
    split
    · rename_i c _ _ _ _ _
      cases (c == Value.type "enumerate")
      · wp_walk using q1
        exact ⟨_, rfl, h⟩
      · wp_walk using q1
        exact ⟨_, rfl, h⟩
    · wp_walk using q1
      exact ⟨_, rfl, h⟩
section
variable {prog : Program} {w : World} {A : Around} {E : Value → Shared → Prop} {s : Shared}
theorem call_enumB {v : Value} {o : Obj} {H : Heap → Prop} {Q : Value → Shared → Prop} (B : Begins v o H) (h1 : H s.heap)
    (h : ∀ h', IsEnum h' (s.heap.objs.size + 1) s.heap.objs.size 0 .none → h'.get? s.heap.objs.size = some o → h'.objs.size = s.heap.objs.size + 2 →
      (∀ b o, s.heap.get? b = some o → h'.get? b = some o) → Q (.ref (s.heap.objs.size + 1)) { s with heap := h' }) :
    wpAny (model prog w) A (call (.type "enumerate") [v]) Q E s := by
  refine callType_new F.called_enumerate (by decide) (F.typeCall_enumerate_1 _) (F.newCall_enumerate_1 _) (fun obj => F.args_object_init_2 obj _) F.entry_enumerate_new
    (meets_enumB1 B) ⟨h1, ?_⟩
  have hz : (s.heap.push o).objs.size = s.heap.objs.size + 1 := Heap.size_push ..
  show _ ∧ _
  rw [hz]
  have he : IsEnum ((s.heap.push o).push { cls := .type "enumerate", data := .fields #[.none, .bool false, .ref s.heap.objs.size, rawInt 0, .none, .none] }) (s.heap.objs.size + 1) s.heap.objs.size 0 .none := by
    have := Heap.get?_push_size (s.heap.push o) (o := { cls := .type "enumerate", data := .fields #[.none, .bool false, .ref s.heap.objs.size, rawInt 0, .none, .none] }) rfl
    rw [hz] at this; exact this
  refine ⟨⟨_, he, rfl⟩, h _ he (Heap.get?_push_of_some _ (Heap.get?_push_size _ B.free)) (by rw [Heap.size_push, hz]) fun b o x => Heap.get?_push_of_some _ (Heap.get?_push_of_some _ x)⟩
end
def ItTe (K : PySem.W.Frag) (a : Addr) : It :=
  ⟨fun i H => ∃ (xs : List V) (x : V), SqT K H a xs ∧ xs[i]? = some x, fun i H v H' => ∃ T x, v = .ref T ∧ H T = none ∧ H' = upd H T (.tup [.int (i : Nat), x]) ∧ ∀ xs, SqT K H a xs → xs[i]? = some x, fun i H => ∃ xs : List V, SqT K H a xs ∧ xs.length ≤ i⟩
theorem tup_end {prog : Program} {w : World} {A : Around} (hh : A.handled = none) (it t : Addr) (items : Array Value) {i : Nat} (hi : items.size ≤ i) : Draws prog w A it [it, t] i (fun _ _ => False) (fun k h => (h.IsTupleIter it t k ∧ h.IsTuple t items) ∧ k = i) where
  live := fun _ _ st => let ⟨⟨⟨o, ho, _⟩, _⟩, _⟩ := st; ⟨o, ho⟩
  frame := fun _ _ _ st hk => ⟨⟨st.1.1.at fun o e => hk it (by simp) o e, st.1.2.at fun o e => hk t (by simp) o e⟩, st.2⟩
  item := fun k s Q E lt st hQ => absurd st.2 (Nat.ne_of_lt lt)
  done := fun s Q E st hE => wpAny_nextOf_tuple_end hh st.1.1 st.1.2 (Array.getElem?_eq_none hi) hE
theorem turn_enumT {P : Program} {w : World} {K : PySem.W.Frag} {elts : List Expr} {kk : Nat} {tpos : Pos} (a e it : Addr) :
    Turn P w K (.Tuple elts kk tpos) (ItTe K a) [e, it] e (fun i h => (∃ old, IsEnum h e it ((i : Nat) : Int) old) ∧ h.IsTupleIter it a i ∧ e ≠ it) where
  mem := by simp
  obj := fun i h st b hb => by
    obtain ⟨⟨old, he⟩, ⟨o, ho, hc, hd⟩, _⟩ := st
    rcases (show b = e ∨ b = it by simpa using hb) with z | z
    · rw [z]
      exact ⟨_, he, fun v q => nomatch q⟩
    · rw [z]
      exact ⟨o, ho, fun v q => by rw [hd] at q; cases q⟩
  keep := fun i h h' st k => let ⟨⟨old, he⟩, hi, hne⟩ := st; ⟨⟨old, k e (by simp) _ he⟩, hi.at fun o q => k it (by simp) o q, hne⟩
  item := by
    intro X hP hw hK hc i pins s σ H E I hf st hg
    subst hP hw hK
    obtain ⟨⟨old, he⟩, hit, hne⟩ := st
    obtain ⟨xs, x, hq, hx⟩ := hg
    obtain ⟨its, rv, p, hz⟩ := I.tuple hq
    obtain ⟨u, hu, ru⟩ := rv.get hx
    have pt : s.heap.IsTuple a its.toArray := p
    have el : e < s.heap.objs.size := Heap.lt_size he
    have il : it < s.heap.objs.size := by obtain ⟨_, q, _⟩ := hit; exact Heap.lt_size q
    have ea : e ≠ a := fun z => by
      obtain ⟨o, h1, h2, _⟩ := pt
      rw [← z] at h1
      have h3 := he.symm.trans h1
      cases h3
      injection h2 with z2
      exact absurd z2 (by decide)
    have ai : a ≠ it := fun z => by
      obtain ⟨o, h1, h2, _⟩ := pt
      obtain ⟨o', g1, g2, _⟩ := hit
      rw [z] at h1
      have h3 := g1.symm.trans h1
      cases h3
      rw [g2] at h2
      injection h2 with z2
      exact absurd z2 (by decide)
    have lt : i < its.toArray.size := by
      have := (List.getElem?_eq_some_iff.mp hu).1
      simpa using this
    have D := Draws.tuple (prog := X.prog) (w := X.w) (A := X.A.in1) (I.ok.hd hc) it a ai its.toArray
    refine wpAny_pyNext_enum_itemD D he ⟨hit, pt⟩ lt hne (fun z => (by simpa using z : e = it ∨ e = a).elim hne ea) fun u' h' tk hu' ho hit' hT hsz hk => ?_
    have hu' : its.toArray[i]? = some u' := hu'
    have eu : u' = u := by
      have := hu'.symm.trans (by simpa using hu : its.toArray[i]? = some u)
      exact Option.some.inj this
    subst eu
    refine ⟨_, rfl, wpAny_letOwnedTupleGo_enum (s := { s with heap := h', toks := tk + 1 }) ho fun h2 he2 sb => ?_⟩
    have hT2 : h2.get? s.heap.objs.size = some { cls := .type "tuple", data := .seq #[.int i tk, u'] } := (sb.2 _ (Nat.ne_of_gt el)).trans hT
    have new : ObjOk X.prog X.w (upd H s.heap.objs.size (.tup [.int (i : Nat), x])) h2 s.heap.objs.size (.tup [.int (i : Nat), x]) :=
      ⟨by show 2 ≤ sizeLine; decide, [.int i tk, u'], .cons ⟨_, rfl⟩ (.cons ru .nil), ⟨_, hT2, rfl, _, rfl⟩⟩
    have I1 : Inv X pins σ (upd H s.heap.objs.size (.tup [.int (i : Nat), x])) { s with heap := h2, toks := tk + 1 } :=
      I.turnedNew (ch := [e, it]) (fun b ob nb q => (sb.2 b (fun z => nb (by simp [z]))).trans (hk b ob (fun z => nb (by simp [z])) (fun z => nb (by simp [z])) q)) hf (Nat.le_refl _) new
    refine ⟨.ref s.heap.objs.size, _, I1, rfl, ⟨_, x, rfl, I.hok.fresh (Nat.le_refl _), rfl, fun ys hy => by rw [I.tuple_inj hy hq]; exact hx⟩, ⟨⟨u', ?_⟩, hit'.1.at fun o q => (sb.2 it (Ne.symm hne)).trans q, hne⟩, fun b hb => ?_⟩
    · rw [show ((i + 1 : Nat) : Int) = (i : Int) + 1 by omega]
      exact he2
    · have lb : b < s.heap.objs.size := by
        rcases (show b = e ∨ b = it by simpa using hb) with z | z <;> (rw [z]; assumption)
      rw [upd_ne (Nat.ne_of_lt lb)]
      exact (hf b hb).1
  done := by
    intro X hP hw hK hc i pins s σ H E I hf st hg
    subst hP hw hK
    obtain ⟨⟨old, he⟩, hit, hne⟩ := st
    obtain ⟨xs, hq, hx⟩ := hg
    obtain ⟨its, rv, p, hz⟩ := I.tuple hq
    have pt : s.heap.IsTuple a its.toArray := p
    have hl := rv.length
    obtain ⟨f0, f1, f2, f3, f4, f5⟩ := hf it (by simp)
    exact wpAny_pyNext_enum_endD (tup_end (prog := X.prog) (w := X.w) (A := X.A.in1) (I.ok.hd hc) it a its.toArray (i := i) (by simp; omega)) he ⟨⟨hit, pt⟩, rfl⟩ fun h' eb => ⟨rfl, I.turned (t' := s.toks) (fun b o hb q => eb b o hb q) f0 f1 f3 f4 f5⟩
  self := fun A i s Q E st h => let ⟨⟨_, he⟩, _⟩ := st; wpAny_pyIter_enum he h
theorem pi_enumT {X : Cx} {e : Expr} {ta : TA} {p pos tpos : Pos} {elts : List Expr} {kk : Nat} (hg : Gl X "enumerate") (hm : X.mg "enumerate" = none) (ha : PA X [e] ta) (hs : starEach [e] X.env = [(false, eval e X.env)] := by rfl) :
    PI X (.Tuple elts kk tpos) (.Call (.Name "enumerate" p) [e] [] pos) (fun σ H R => ta σ H fun vs H1 => ∃ a xs, vs = [.ref a] ∧ SqT X.K H1 a xs ∧ R (ItTe X.K a) H1) := by
  refine ⟨fun pins s σ H R I h => ?_⟩
  refine Call_ (ld_blt I hg hm boot_enumerate (PyProof.Rows.callWith_type1 (thn (ha.run pos pins s σ H _ I h) fun us s1 ⟨vs, H1, I1, r1, q1⟩ => ?_) hs rfl))
  obtain ⟨a, xs, ex, hq, q⟩ := q1
  subst ex
  cases r1 with
  | cons r rr =>
    cases rr
    cases r
    obtain ⟨its, rv, p', hz⟩ := I1.tuple hq
    refine call_enumB (begins_tuple a its.toArray) (show s1.heap.IsTuple a its.toArray from p') fun h' he hit hsz hk => wpAny_pyIter_enum he ?_
    have I2 : Inv X pins σ H1 { s1 with heap := h' } := I1.kept (t' := s1.toks) hk
    refine ⟨s1.heap.objs.size + 1, [s1.heap.objs.size + 1, s1.heap.objs.size], _, _, H1, rfl, I2, turn_enumT a (s1.heap.objs.size + 1) s1.heap.objs.size, ⟨⟨.none, he⟩, ⟨_, hit, rfl, rfl⟩, Nat.succ_ne_self _⟩, fun b hb => ?_, q⟩
    have le : s1.heap.objs.size ≤ b := by
      rcases (show b = s1.heap.objs.size + 1 ∨ b = s1.heap.objs.size by simpa using hb) with z | z <;> (rw [z]; omega)
    exact I1.fpOk le (I1.hok.fresh le)
section
variable {X : Cx} {A : AS} {e : Expr} {ds : List D} {pos p : Pos}
theorem itd_enumT {K : PySem.W.Frag} {M : List Addr} {H : Hp} {p : Addr} {xs : List V} (h : TupAt H p xs) (r : RepA K M H xs ds) : ItD K M H (ItTe K p) (enumD ds) where
  go := fun i H' M' g hi => by
    rw [enumD_len] at hi
    obtain ⟨v, e, _⟩ := r.get' (List.getElem?_eq_getElem hi)
    exact ⟨xs, v, (g.tup h).sq, e⟩
  yld := fun i H' M' x H'' _ g ⟨T, y, e0, e1, e2, e3⟩ => by
    obtain ⟨d, e, rd⟩ := r.get (e3 xs (g.tup h).sq)
    subst e2 e0
    refine ⟨ex_new e1, _, by rw [enumD_get, e]; rfl, .tup (.inl upd_same) (.cons (.int _) (.cons ?_ .nil))⟩
    exact (rd.go g).ex (ex_new e1)
  stop := fun i H' M' g hi => by
    rw [enumD_len] at hi
    exact ⟨xs, (g.tup h).sq, by rw [r.length]; exact hi⟩
theorem pid_enumT {elts : List Expr} {kk : Nat} {tpos p : Pos} (hm : X.mg "enumerate" = none) (ha : PDs X A [e] [.tuple ds]) (hg : Gl X "enumerate" := by rfl) (hs : starEach [e] X.env = [(false, eval e X.env)] := by rfl) :
    PID X A (.Tuple elts kk tpos) (.Call (.Name "enumerate" p) [e] [] pos) (enumD ds) :=
  pid_of (pi_enumT hg hm ha hs) fun σ H R ⟨W, H0, F, ps, hs, q⟩ => ⟨W, H0, F, ps, hs, fun vs H1 e1 r1 => by
    obtain ⟨v, rfl, rv⟩ := repA1 r1
    cases rv with
    | tup h1 r => exact ⟨_, _, rfl, h1.sq, q _ H1 e1 (itd_enumT h1 r)⟩⟩
end
end Z

set_option maxHeartbeats 1000000
namespace Z
open PySem PySem.Spec PyProof.Rows L2 NdefX
open LamX (Tabs TabS ExtN CodeO TabB)
/-! ### statements one after the other, what comes behind told of the state reached -/
/-- a state of data alone -/
abbrev Dt (K : PySem.W.Frag) (A : AS) (σ : L2.St) (H : Hp) : Prop := Has K [] em [] [] A σ H
abbrev PSr (X : Cx) (sts : List Stmt) (te : TE) : Prop := PSs X sts (fun D σ H => te σ H D.rt)
theorem dt_of {K : PySem.W.Frag} {H0 H : Hp} {ps : List (Option Addr)} {A : AS} {σ : L2.St} (h : Has K [] H0 [] ps A σ H) (hm : A.μ = []) : Dt K A σ H ∧ Ex H0 H := by
  have e : ps = [] := List.eq_nil_of_length_eq_zero (by rw [h.ml, hm]; rfl)
  subst e
  exact ⟨h.forget, fun a o z => h.ex a o (by simp) z⟩
theorem Dt.base {K : PySem.W.Frag} {H : Hp} {A : AS} {σ : L2.St} (h : Dt K A σ H) : Has K [] H [] [] A σ H := h.start
section
variable {X : Cx} {A B : AS} {st : Stmt} {sts rest : List Stmt} {c e : Expr} {te t2 : TE} {d : D} {n : Str} {pos pos' p2 : Pos}
theorem psr_to {te' : TE} (h : PSr X sts te) (r : ∀ σ H Q, te' σ H Q → te σ H Q) : PSr X sts te' := ⟨fun pins s σ H D I q => h.run pins s σ H D I (r σ H D.rt q)⟩
theorem psr_sd (h : SD X A st { nx := fun A' => A' = B, rt := fun _ _ => False }) (hm : B.μ = []) (h2 : PSr X rest te) : PSr X (st :: rest) (fun σ H Q => Dt X.K A σ H ∧ ∀ σ1 H1, Ex H H1 → Dt X.K B σ1 H1 → te σ1 H1 Q) := by
  have base := pss_cons h h2
  refine ⟨fun pins s σ H D I ⟨hs, q⟩ => base.run pins s σ H D I ⟨[], H, [], [], hs.base, ?_⟩⟩
  exact ⟨fun ps' A' σ' H' h' e => by
    subst e
    obtain ⟨a, b⟩ := dt_of h' hm
    exact q σ' H' b a, fun _ _ _ _ _ z => z.elim, fun _ _ _ _ _ z => z.elim, fun _ _ _ _ _ _ _ _ z => z.elim, fun _ _ _ _ _ _ _ _ z => z.elim⟩
theorem psr_set (i : Nat) (hN : X.N.Nodup) (he : PE X e te) (h2 : PSr X rest t2) (hi : X.N[i]? = some n := by rfl) (hx : Loc X.env.scope n := by first | exact Or.inl rfl | exact Or.inr rfl)
    (hs : swapsWith e (some (.Name n pos')) pos.line X.env = pure false := by rfl) (hf : X.fn n = true ∨ X.env.scope.names.lookup n = some .local := by first | exact .inl rfl | exact .inr rfl) :
    PSr X (.Assign [.Name n pos'] e pos :: rest) (fun σ H Q => te σ H fun v H1 => t2 (σ.set i (some v)) H1 Q) := by
  have base := pss_cons (ps_set hN hi hx he hs hf) h2
  exact ⟨fun pins s σ H D I q => base.run pins s σ H D I q⟩
theorem psr_ret (he : PE X e te) : PSr X [.Return (some e) pos] te := by
  have base := pss_one (ps_ret (pos := pos) he)
  exact ⟨fun pins s σ H D I q => base.run pins s σ H D I q⟩
theorem psr_yes1 (i : Nat) (hc : PTD X A c true) (hN : X.N.Nodup) (he : PE X e te) (h2 : PSr X rest t2) (hi : X.N[i]? = some n := by rfl) (hx : Loc X.env.scope n := by first | exact Or.inl rfl | exact Or.inr rfl)
    (hs : swapsWith e (some (.Name n pos')) pos.line X.env = pure false := by rfl) (hf : X.fn n = true ∨ X.env.scope.names.lookup n = some .local := by first | exact .inl rfl | exact .inr rfl) :
    PSr X (.If c [.Assign [.Name n pos'] e pos] [] p2 :: rest) (fun σ H Q => Dt X.K A σ H ∧ ∀ H1, Ex H H1 → te σ H1 fun v H2 => t2 (σ.set i (some v)) H2 Q) := by
  have base := pss_cons (ps_if (pos := p2) hc (pss_one (ps_set (pos := pos) hN hi hx he hs hf)) (pss_nev (sts := []))) h2
  exact ⟨fun pins s σ H D I ⟨hs, q⟩ => base.run pins s σ H D I ⟨[], em, [], [], hs, fun H1 e1 => iteT (q H1 e1)⟩⟩
theorem psr_tno (hc : PTD X A c false) (h : PSr X rest te) : PSr X (.If c sts [] pos :: rest) (fun σ H Q => Dt X.K A σ H ∧ ∀ H1, Ex H H1 → te σ H1 Q) := by
  have base := pss_tno (pos := pos) (sts := sts) hc h
  exact ⟨fun pins s σ H D I ⟨hs, q⟩ => base.run pins s σ H D I ⟨⟨[], em, [], [], hs⟩, q⟩⟩
theorem psr_tyes (hc : PTD X A c true) (h : PSr X sts te) : PSr X (.If c sts [] pos :: rest) (fun σ H Q => Dt X.K A σ H ∧ ∀ H1, Ex H H1 → te σ H1 Q) := by
  have base := pss_tyes (pos := pos) (rest := rest) hc h
  exact ⟨fun pins s σ H D I ⟨hs, q⟩ => base.run pins s σ H D I ⟨⟨[], em, [], [], hs⟩, q⟩⟩
end
theorem td_at {K : PySem.W.Frag} {A : AS} {d : D} {σ : L2.St} {H : Hp} {Q : VK} (h : Dt K A σ H) (q : ∀ v H', Ex H H' → Rep K [] H' v d → Q v H') : tD K A d σ H Q := ⟨[], em, [], [], h, q⟩
theorem tds_at {K : PySem.W.Frag} {A : AS} {ds : List D} {σ : L2.St} {H : Hp} {Q : List V → Hp → Prop} (h : Dt K A σ H) (q : ∀ vs H', Ex H H' → RepA K [] H' vs ds → Q vs H') : tDs K A ds σ H Q := ⟨[], em, [], [], h, q⟩
theorem Dt.set {K : PySem.W.Frag} {H H' : Hp} {ρ : List Sl} {σ : L2.St} {i : Nat} {v : V} {d : D} (h : Dt K ⟨ρ, []⟩ σ H) (e : Ex H H') (r : Rep K [] H' v d) : Dt K ⟨ρ.set i (.dat d), []⟩ (σ.set i (some v)) H' := (Has.ext h e).set (s := .dat d) ⟨v, rfl, r⟩
/-! ### a def stepped into, the very state told -/
structure RawF (K : PySem.W.Frag) (mg : Str → Option Value) (n : Str) (st : Stmt) (ps : List Str) : Prop where
  ok : ∃ g fd, Fun K n n st g fd ∧ mg n = some (.ref g) ∧ PySem.W.keepIn K (.ref g) = true ∧ Binds K fd ps []
section
variable {X : Cx} {e : Expr} {es : List Expr} {ta : TA} {x : Str} {st : Stmt} {Ng ps : List Str} {k : Nat} {p pos : Pos}
theorem pe_callAt (TG : List V → Hp → VK → Prop) (R : RawF X.K X.mg x st ps) (S : FnScope Ng ps (defScope st)) (hr : Room (k + 1) X.A) (ha : PA X (e :: es) ta) (hl : ∀ vs H Q, TG vs H Q → vs.length = ps.length)
    (hG : ∀ (g : Addr) (cdv : Value) (pins : List (Addr × Obj)) (σ : L2.St) (H : Hp) (s : Shared) (vs : List V) (Q : VK), Inv X pins σ H s → TG vs H Q → Room k (X.A.deeper (envOfC x (defScope st) s.heap.objs.size g cdv)) →
      ∃ te, PSr (Bd X.prog X.w X.K X.mg X.base Ng x (defScope st) g cdv X.A X.stack s H (fun _ _ _ => False)) (defBody st) te ∧ (te (L2.start Ng vs) H Q) )
    (hg : Gl X x := by rfl) (hdb : (x == ("__debug__" : Str)) = false := by decide) (he : starEach (e :: es) X.env = (false, eval e X.env) :: starEach es X.env := by rfl) (hpl : (backTo pos (starEach es X.env)).any (·.1) = false := by rfl) :
    PE X (.Call (.Name x p) (e :: es) [] pos) (fun σ H Q => ta σ H fun vs H1 => TG vs H1 Q) := by
  obtain ⟨g, fd, F, hm, hk, hb⟩ := R.ok
  refine ⟨fun pins s σ H Q I h => ?_⟩
  refine wpAny_Call_Name_kw (ld_glob I hg hm ?_ hdb)
  refine PySem.W.callWith_K (h₀ := X.base) I.ok.mod.kin hk (thn (ha.run pos pins s σ H _ I h) fun us s1 ⟨vs, H1, I1, r, q⟩ => ⟨I1.kIn, ?_⟩) he hpl
  obtain ⟨oc, od, kV, doc, pm, an, cdv, ct, osl, rfl, lk, hcg⟩ := F.ex
  have hz := hl _ _ _ q
  have hu : us.length = ps.length := by rw [← r.length]; exact hz
  have rc : codeAny (model X.prog X.w) X.A (.call (.ref g) ⟨us, []⟩) (CR CX0 X.stack X.prog X.w H1 s1 Q (fun _ _ _ => False)) s1 := by
    refine LamX.run_ofS (N := Ng) (ps := ps) (us := us) (vs := vs) lk hcg S hr I1.env0 ?_ r hz fun hr' => ?_
    · have := hb s1 us I1.kIn (by rw [List.append_nil]; exact hu)
      simpa using this
    · obtain ⟨te, ht, hq⟩ := hG g cdv pins σ H1 s1 vs Q I1 q hr'
      exact ⟨_, ht.nox, hq⟩
  refine wpAny_call (codeAny_mono rc fun r s2 hz => ?_)
  cases r with
  | error e => exact (show False from hz).elim
  | ok fl =>
    cases fl with
    | ret u => exact I1.after hz
    | next => exact hz.elim
    | brk => exact hz.elim
    | cont => exact hz.elim
end
section
variable {X : Cx} {pins : List (Addr × Obj)} {σ : L2.St} {H : Hp} {s : Shared}
/-- a lambda made here, as those find it whom it is handed to -/
theorem lamAt_made {params : Arguments} {body : Expr} {scope : Scope} {q : Str} {f c' : Addr} {pm ctv : Value} {fr : List Str} {js : List Nat} (I : Inv X pins σ H s) (hfn : ∀ y, X.fn y = true) (hst : X.stack = X.env :: X.outer) (hfr : X.env.frame = some X.env.locals)
    (hfs : X.fs = frs X.outer) (hfree : ∀ y ∈ scope.names, y.2 = .free → X.env.scope.names.lookup y.1 = some .cell ∨ X.env.scope.names.lookup y.1 = some .free) (hfrn : ∀ y ∈ fr, (y, NameKind.free) ∈ scope.names) (hjs : js.map (fun j => X.N[j]?) = fr.map some)
    (hf : s.heap.get? f = some (PySem.W.kla_obj "<lambda>" q params body scope (cloFrom X.env.cells scope.names []) pm c' ctv)) (hn : H f = none) (hnf : f ∉ frs X.stack) :
    LamAt ⟨"<lambda>", q, params, [], scope, cloFrom X.env.cells scope.names [], c'⟩ body fr (js.map (slotAt σ)) f X.stack s H := by
  have cp := Caps.made (X := X) (js := js) I.ok hfree hfrn hjs
  refine ⟨⟨pm, ctv, hf⟩, hn, hnf, cells_of I cp, fun y c e z => ?_⟩
  have e2 := cp.sub y c e
  rw [frs_own hst hfr] at z
  rcases List.mem_cons.mp z with z | z
  · exact I.cne y c e2 z
  · have h1 := I.ok.cab y c (hfn y) e2
    obtain ⟨_, o, ho, _⟩ := I.ok.funs.mem z
    exact absurd (Heap.lt_size ho) (Nat.not_lt_of_le h1)
end
section
variable {X : Cx} {x : Str} {st : Stmt} {Ng ps : List Str} {k : Nat} {p pos lpos pa pb : Pos} {na nb : Str} {ia ib : Nat} {params : Arguments} {body : Expr} {scope : Scope} {fr : List Str} {js : List Nat} {c P : Addr} {T : List (Addr × Str)}
abbrev lamNF (X : Cx) (params : Arguments) (scope : Scope) (c' : Addr) : NF := ⟨"<lambda>", X.env.qual ++ "<lambda>", params, [], scope, cloFrom X.env.cells scope.names [], c'⟩
/-- x(a, b, lambda ..: ..) -/
theorem pe_lamput (TG : NF → Addr → List (Option V) → List V → Hp → VK → Prop) (R : RawF X.K X.mg x st ps) (S : FnScope Ng ps (defScope st)) (hp : ps.length = 3) (hr : Room (k + 1) X.A) (TB : TabB X.base X.mg c P) (hcode : X.env.code = .ref c)
    (hmT : (P, X.env.qual ++ "<lambda>") ∈ T) (hu : ∀ p ∈ T, p.1 = P → p.2 = X.env.qual ++ "<lambda>") (hdef : defaultsOf params X.env = ([], [])) (hfn : ∀ y, X.fn y = true) (hst : X.stack = X.env :: X.outer) (hfr : X.env.frame = some X.env.locals)
    (hfree : ∀ y ∈ scope.names, y.2 = .free → X.env.scope.names.lookup y.1 = some .cell ∨ X.env.scope.names.lookup y.1 = some .free) (hfrn : ∀ y ∈ fr, (y, NameKind.free) ∈ scope.names) (hjs : js.map (fun j => X.N[j]?) = fr.map some)
    (hG : ∀ (c' f g : Addr) (cdv : Value) (s : Shared) (H : Hp) (ws : List (Option V)) (vs : List V) (Q : VK), LamAt (lamNF X params scope c') body fr ws f X.stack s H → TG (lamNF X params scope c') f ws vs H Q → Room k (X.A.deeper (envOfC x (defScope st) s.heap.objs.size g cdv)) →
      ∃ te, PSr (Bd X.prog X.w X.K X.mg X.base Ng x (defScope st) g cdv X.A X.stack s H (fun _ _ _ => False)) (defBody st) te ∧ te (L2.start Ng vs) H Q)
    (hia : X.N[ia]? = some na) (hva : Vis X.env.scope na) (hib : X.N[ib]? = some nb) (hvb : Vis X.env.scope nb)
    (hg : Gl X x := by rfl) (hdb : (x == ("__debug__" : Str)) = false := by decide) (hd1 : (na == ("__debug__" : Str)) = false := by decide) (hc1 : (na == ("__classdict__" : Str)) = false := by decide) (hd2 : (nb == ("__debug__" : Str)) = false := by decide) (hc2 : (nb == ("__classdict__" : Str)) = false := by decide)
    (he : starEach [.Name na pa, .Name nb pb, .Lambda params body scope lpos] X.env = [(false, eval (.Name na pa) X.env), (false, eval (.Name nb pb) X.env), (false, eval (.Lambda params body scope lpos) X.env)] := by rfl) (hpl : (backTo pos [(false, eval (.Name nb pb) X.env), (false, eval (.Lambda params body scope lpos) X.env)]).any (·.1) = false := by rfl) :
    PE X (.Call (.Name x p) [.Name na pa, .Name nb pb, .Lambda params body scope lpos] [] pos) (fun σ H Q => Tabs T H ∧ ∃ v w, σ[ia]? = some (some v) ∧ σ[ib]? = some (some w) ∧
      ∀ c' f H1, ExtN H H1 → Tabs T H1 → H1 c' = some (CodeO c' (X.env.qual ++ "<lambda>")) → TG (lamNF X params scope c') f (js.map (slotAt σ)) [v, w, .ref f] H1 Q) := by
  obtain ⟨g, fd, F, hm, hk, hb⟩ := R.ok
  refine ⟨fun pins s σ H Q I ⟨hT, v, w, hv, hw, h⟩ => ?_⟩
  refine wpAny_Call_Name_kw (ld_glob I hg hm ?_ hdb)
  refine PySem.W.callWith_K (h₀ := X.base) I.ok.mod.kin hk ?_ he hpl
  rw [he]
  show wpAny _ _ (spliced ((false, eval (.Name na pa) X.env) :: (false, eval (.Name nb pb) X.env) :: (false, eval (.Lambda params body scope lpos) X.env) :: [])) _ _ s
  refine Calls.spliced_cons (thn ((pe_var (pos := pa) hia hva hd1 hc1).run pins s σ H (fun y H1 => y = v ∧ H1 = H) I ⟨v, hv, rfl, rfl⟩) fun u1 s1 ⟨v1, H1, I1, r1, ev, eH⟩ => ?_)
  subst ev
  rw [eH] at I1
  refine Calls.spliced_cons (thn ((pe_var (pos := pb) hib hvb hd2 hc2).run pins s1 σ H (fun y H1 => y = w ∧ H1 = H) I1 ⟨w, hw, rfl, rfl⟩) fun u2 s2 ⟨w1, H2, I2, r2, ew, eH2⟩ => ?_)
  subst ew
  rw [eH2] at I2
  refine Calls.spliced_cons (LamX.lam_make2 I2 TB hcode hmT hu hT hdef (fun y hy e => (hfree y hy e).elim (fun z => I2.ok.has _ (.inl z)) fun z => I2.ok.has _ (.inr z)) fun f c' pm' ctv H3 s3 I3 eN T3 hf hfn' hfr' hco => ?_)
  refine Calls.spliced_nil ⟨I3.kIn, ?_⟩
  have L := lamAt_made (js := js) I3 hfn hst hfr rfl hfree hfrn hjs hf hfn' hfr'
  obtain ⟨oc, od, kV, doc, pm, an, cdv, ct, osl, rfl, lk, hcg⟩ := F.ex
  have rc : codeAny (model X.prog X.w) X.A (.call (.ref g) ⟨[u1, u2, .ref f], []⟩) (CR CX0 X.stack X.prog X.w H3 s3 Q (fun _ _ _ => False)) s3 := by
    refine LamX.run_ofS (N := Ng) (ps := ps) (us := [u1, u2, .ref f]) (vs := [v1, w1, .ref f]) lk hcg S hr I3.env0 ?_ (.cons r1 (.cons r2 (.cons rfl .nil))) hp.symm fun hr' => ?_
    · have := hb s3 [u1, u2, .ref f] I3.kIn (by rw [List.append_nil]; exact hp.symm)
      simpa using this
    · obtain ⟨te, ht, hq⟩ := hG c' f g cdv s3 H3 _ _ Q L (h c' f H3 eN T3 hco) hr'
      exact ⟨_, ht.nox, hq⟩
  refine wpAny_call (codeAny_mono rc fun r s2 hz => ?_)
  cases r with
  | error e => exact (show False from hz).elim
  | ok fl =>
    cases fl with
    | ret u => exact I3.after hz
    | next => exact hz.elim
    | brk => exact hz.elim
    | cont => exact hz.elim
end
end Z

set_option maxHeartbeats 1000000
namespace Z
open PySem PySem.Spec PyProof.Rows L2 NdefX
open LamX (Tabs TabS ExtN CodeO TabB)
/-! ### a def of data that makes lambdas on its way -/
def spT (K : PySem.W.Frag) (T : List (Addr × Str)) (φ : List D → D → Prop) : Sp := fun vs H Q _ => ∃ ds d, φ ds d ∧ RepA K [] H vs ds ∧ Tabs T H ∧ ∀ v H', ExtN H H' → Tabs T H' → Rep K [] H' v d → Q v H'
structure DFnT (P : Program) (w : World) (K : PySem.W.Frag) (mg : Str → Option Value) (base : Heap) (T : List (Addr × Str)) (k : Nat) (n : Str) (φ : List D → D → Prop) : Prop where
  ok : ∃ f fd ps, FnOk P w K mg base CX0 k f fd ps (spT K T φ) ∧ mg n = some (.ref f) ∧ PySem.W.keepIn K (.ref f) = true ∧ Binds K fd ps []
def tNT (K : PySem.W.Frag) (T : List (Addr × Str)) (A : AS) (d : D) : TE := fun σ H Q => Dt K A σ H ∧ Tabs T H ∧ ∀ v H', ExtN H H' → Tabs T H' → Dt K A σ H' → Rep K [] H' v d → Q v H'
section
variable {X : Cx} {A B : AS} {T : List (Addr × Str)} {sts : List Stmt} {e : Expr} {es : List Expr} {d : D} {ds : List D} {n : Str} {l : Nat} {k : Bool} {φ : List D → D → Prop} {pos p p2 : Pos}
theorem te_callT (G : DFnT X.prog X.w X.K X.mg X.base T l n φ) (hr : Room l X.A) (ha : PDs X A (e :: es) ds) (h : φ ds d) (hg : Gl X n := by rfl) (hdb : (n == ("__debug__" : Str)) = false := by decide)
    (he : starEach (e :: es) X.env = (false, eval e X.env) :: starEach es X.env := by rfl) (hpl : (backTo pos (starEach es X.env)).any (·.1) = false := by rfl) : PE X (.Call (.Name n p) (e :: es) [] pos) (tNT X.K T A d) := by
  obtain ⟨f, fd, ps, G1, G2, G3, G4⟩ := G.ok
  have base := pe_call (p := p) G1 hr hg G2 G3 G4 .nil (E := E0) pass0 ha hdb he hpl
  refine ⟨fun pins s σ H Q I ⟨hs, tb, q⟩ => base.run pins s σ H Q I ?_⟩
  refine tds_at hs fun vs H1 e1 r1 => ?_
  refine ⟨ds, d, h, by rw [List.append_nil]; exact r1, tb.ext e1, fun v H2 e2 t2 r2 => q v H2 (.trans (.of e1) e2) t2 (hs.extN (.trans (.of e1) e2)) r2⟩
/-- not f(..), f true -/
theorem ptt_notT (he : PE X e (tNT X.K T A (.bool true))) (hm : A.μ = []) (ht : ∀ whole, isTrue e X.env whole = (do let v ← whole; standAt e.pos; holding [v] (truthy v)) := by intro _; rfl) : PTT X T A (.UnaryOp .Not e pos) false :=
  ptt_of (pt_not (pt_val he ht)) fun σ H Q ⟨ps, hs, tb, q⟩ => ⟨(dt_of hs hm).1, tb, fun v H' eN t' hs' r => by
    cases r
    exact ⟨true, rfl, q [] H' hs' t'⟩⟩
theorem psr_sdsB (h : SDs X B sts { nx := fun _ => False, rt := fun _ r => r = .bool k }) : PSr X sts (fun σ H Q => Dt X.K B σ H ∧ ∀ H', Ex H H' → Q (.bl k) H') :=
  ⟨fun pins s σ H D I ⟨hs, q⟩ => h.run pins s σ H D I ⟨[], H, [], [], hs.base, fun _ _ _ _ _ z => z.elim, fun _ _ _ _ _ z => z.elim, fun _ _ _ _ _ z => z.elim, fun ps A σ' H' v d' h' r' e => by
    subst e
    cases r'
    exact q H' fun a o z => h'.ex a o (by simp) z, fun _ _ _ _ _ _ _ _ z => z.elim⟩⟩
end
theorem free_by {sc scope : Scope} (h : (scope.names.all fun y => !decide (y.2 = .free) || decide (sc.names.lookup y.1 = some .cell) || decide (sc.names.lookup y.1 = some .free)) = true) : ∀ y ∈ scope.names, y.2 = .free → sc.names.lookup y.1 = some .cell ∨ sc.names.lookup y.1 = some .free := fun y hy e => by
  have z := List.all_eq_true.mp h y hy
  simp only [Bool.or_eq_true, Bool.not_eq_true', decide_eq_true_eq, decide_eq_false_iff_not] at z
  rcases z with (z | z) | z
  · exact absurd e z
  · exact .inl z
  · exact .inr z
/-- two slots of data, what else there is untold -/
theorem dt2 {K : PySem.W.Frag} {H : Hp} {v w : V} {d1 d2 : D} {x y z : Option V} (r1 : Rep K [] H v d1) (r2 : Rep K [] H w d2) : Dt K ⟨[.dat d1, .dat d2, .no, .no, .no], []⟩ [some v, some w, x, y, z] H where
  ex := fun _ _ _ e => nomatch e
  len := rfl
  sl := fun i s e => by
    match i, e with
    | 0, e => cases e; exact ⟨v, rfl, r1⟩
    | 1, e => cases e; exact ⟨w, rfl, r2⟩
    | 2, e => cases e; trivial
    | 3, e => cases e; trivial
    | 4, e => cases e; trivial
    | n + 5, e => cases e
  ml := rfl
  mo := fun j o e => by simp at e
  fr := fun p hp => by simp at hp
  nd := by simp
  wf := fun a w => by simp at w
  wo := fun a w => by simp at w
  ff := fun a w => by simp at w
end Z

namespace Z
/-! ### rows of points, in plain numbers -/
def turnN (w s : Nat) : Nat := w / Nat.gcd w s
theorem gcd_pos {w s : Nat} (hw : 0 < w) : 0 < Nat.gcd w s := Nat.gcd_pos_of_pos_left s hw
theorem turn_mul {w s : Nat} : turnN w s * Nat.gcd w s = w := Nat.div_mul_cancel (Nat.gcd_dvd_left w s)
theorem turn_pos {w s : Nat} (hw : 0 < w) : 0 < turnN w s := Nat.div_pos (Nat.le_of_dvd hw (Nat.gcd_dvd_left w s)) (gcd_pos hw)
theorem turn_le {w s : Nat} : turnN w s ≤ w := Nat.div_le_self _ _
/-- w divides k * s just if the turn divides k -/
theorem turn_dvd {w s k : Nat} (hw : 0 < w) : w ∣ k * s ↔ turnN w s ∣ k := by
  have hg := gcd_pos (s := s) hw
  have hs : s / Nat.gcd w s * Nat.gcd w s = s := Nat.div_mul_cancel (Nat.gcd_dvd_right w s)
  have hc : Nat.Coprime (turnN w s) (s / Nat.gcd w s) := Nat.coprime_div_gcd_div_gcd hg
  constructor
  · intro h
    have h2 : turnN w s * Nat.gcd w s ∣ (k * (s / Nat.gcd w s)) * Nat.gcd w s := by
      rw [turn_mul, Nat.mul_assoc, hs]
      exact h
    exact hc.dvd_of_dvd_mul_right (Nat.dvd_of_mul_dvd_mul_right hg h2)
  · rintro ⟨c, rfl⟩
    refine ⟨c * (s / Nat.gcd w s), ?_⟩
    calc turnN w s * c * s = turnN w s * c * (s / Nat.gcd w s * Nat.gcd w s) := by rw [hs]
      _ = turnN w s * Nat.gcd w s * (c * (s / Nat.gcd w s)) := by ac_rfl
      _ = w * (c * (s / Nat.gcd w s)) := by rw [turn_mul]
theorem mod_eq_dvd {a b w : Nat} (h : a ≤ b) (e : a % w = b % w) : w ∣ b - a := Nat.dvd_of_mod_eq_zero (Nat.sub_mod_eq_zero_of_mod_eq e.symm)
theorem place_inj {w s i j : Nat} (hw : 0 < w) (hi : i < turnN w s) (hj : j < turnN w s) (e : i * s % w = j * s % w) : i = j := by
  have main : ∀ {i j : Nat}, i ≤ j → j < turnN w s → i * s % w = j * s % w → i = j := fun {i j} hij hj e => by
    have d : w ∣ j * s - i * s := mod_eq_dvd (Nat.mul_le_mul_right s hij) e
    rw [← Nat.sub_mul] at d
    have d2 := (turn_dvd hw).mp d
    have z : j - i = 0 := Nat.eq_zero_of_dvd_of_lt d2 (by omega)
    omega
  rcases Nat.le_total i j with h | h
  · exact main h hj e
  · exact (main h hi e.symm).symm
theorem turn_zero {w s : Nat} (hw : 0 < w) : turnN w s * s % w = 0 := Nat.mod_eq_zero_of_dvd ((turn_dvd hw).mpr (Nat.dvd_refl _))
theorem place_ne {w s k : Nat} (hw : 0 < w) (h0 : 0 < k) (hk : k < turnN w s) : k * s % w ≠ 0 := fun e => by
  have d := (turn_dvd hw).mp (Nat.dvd_of_mod_eq_zero e)
  have := Nat.le_of_dvd h0 d
  omega
theorem place_turn {w s k : Nat} (hw : 0 < w) : (k % turnN w s) * s % w = k * s % w := by
  have e : k * s = (k % turnN w s) * s + (k / turnN w s) * (turnN w s * s) := by
    have := Nat.mod_add_div k (turnN w s)
    calc k * s = (k % turnN w s + turnN w s * (k / turnN w s)) * s := by rw [this]
      _ = (k % turnN w s) * s + (k / turnN w s) * (turnN w s * s) := by
        rw [Nat.add_mul]
        ac_rfl
  obtain ⟨c, hc⟩ := (turn_dvd hw).mpr (Nat.dvd_refl (turnN w s))
  rw [e, hc, show k / turnN w s * (w * c) = w * (k / turnN w s * c) by ac_rfl, Nat.add_mul_mod_self_left]
/-- the first k from 1 on with w dividing k * s -/
theorem turn_first {w s : Nat} (hw : 0 < w) : ((List.range w).map (· + 1)).filter (fun k => decide (k * s % w = 0)) = ((List.range (Nat.gcd w s)).map fun i => (i + 1) * turnN w s) := by
  have ht := turn_pos (s := s) hw
  refine List.Perm.eq_of_pairwise (le := (· < ·)) (fun a b _ _ h1 h2 => absurd h1 (Nat.lt_asymm h2)) ?_ ?_ ?_
  · refine List.Pairwise.filter _ (List.pairwise_map.mpr ?_)
    exact (List.pairwise_lt_range).imp fun h => by omega
  · refine List.pairwise_map.mpr ((List.pairwise_lt_range).imp fun {a b} h => ?_)
    exact Nat.mul_lt_mul_of_pos_right (by omega) ht
  · refine (List.perm_ext_iff_of_nodup ?_ ?_).mpr fun k => ?_
    · refine List.Pairwise.filter _ (List.pairwise_map.mpr ?_)
      exact (List.pairwise_lt_range).imp fun h => by omega
    · refine List.pairwise_map.mpr ((List.pairwise_lt_range).imp fun {a b} h => ?_)
      exact Nat.ne_of_lt (Nat.mul_lt_mul_of_pos_right (by omega) ht)
    · rw [List.mem_filter, List.mem_map, List.mem_map, decide_eq_true_eq]
      constructor
      · rintro ⟨⟨a, ha, rfl⟩, h⟩
        obtain ⟨c, hc⟩ := (turn_dvd hw).mp (Nat.dvd_of_mod_eq_zero h)
        rw [List.mem_range] at ha
        have hc0 : 0 < c := by
          rcases Nat.eq_zero_or_pos c with z | z
          · rw [z] at hc
            omega
          · exact z
        refine ⟨c - 1, List.mem_range.mpr ?_, ?_⟩
        · have h1 : turnN w s * c ≤ turnN w s * Nat.gcd w s := by rw [turn_mul, ← hc]; omega
          have h2 := Nat.le_of_mul_le_mul_left h1 ht
          omega
        · rw [hc, Nat.sub_add_cancel hc0, Nat.mul_comm]
      · rintro ⟨i, hi, rfl⟩
        rw [List.mem_range] at hi
        have h1 : (i + 1) * turnN w s ≤ Nat.gcd w s * turnN w s := Nat.mul_le_mul_right _ hi
        have h2 : Nat.gcd w s * turnN w s = w := by rw [Nat.mul_comm]; exact turn_mul
        have h3 : 0 < (i + 1) * turnN w s := Nat.mul_pos (by omega) ht
        refine ⟨⟨(i + 1) * turnN w s - 1, List.mem_range.mpr (by omega), by omega⟩, ?_⟩
        exact Nat.mod_eq_zero_of_dvd ((turn_dvd hw).mpr (Nat.dvd_mul_left _ _))

/-- the point at a place -/
def whoN (w s m h : Nat) : Option Nat := (List.range m).find? fun k => decide (k * s % w = h)
theorem who_some {w s m h k : Nat} (hw : 0 < w) (hm : m ≤ turnN w s) : whoN w s m h = some k ↔ k < m ∧ k * s % w = h := by
  unfold whoN
  constructor
  · intro e
    have h1 := List.find?_some e
    have h2 := List.mem_of_find?_eq_some e
    exact ⟨List.mem_range.mp h2, by simpa using h1⟩
  · rintro ⟨h1, h2⟩
    cases e : (List.range m).find? fun k => decide (k * s % w = h) with
    | none =>
      have := List.find?_eq_none.mp e k (List.mem_range.mpr h1)
      simp [h2] at this
    | some j =>
      have h3 := List.find?_some e
      have h4 := List.mem_of_find?_eq_some e
      have h5 : j * s % w = h := by simpa using h3
      have h6 := List.mem_range.mp h4
      rw [place_inj hw (by omega) (by omega) (h5.trans h2.symm)]
theorem who_none {w s m h : Nat} : whoN w s m h = none ↔ ∀ k < m, k * s % w ≠ h := by
  unfold whoN
  rw [List.find?_eq_none]
  constructor
  · intro e k hk
    simpa using e k (List.mem_range.mpr hk)
  · intro e k hk
    simpa using e k (List.mem_range.mp hk)
/-- places and numbers, round the ring -/
def orderL (w s m : Nat) : List (Nat × Nat) := (List.range w).filterMap fun h => (whoN w s m h).map fun k => (h, k)
theorem mem_order {w s m : Nat} {p : Nat × Nat} (hw : 0 < w) (hm : m ≤ turnN w s) : p ∈ orderL w s m ↔ p.2 < m ∧ p.2 * s % w = p.1 := by
  unfold orderL
  rw [List.mem_filterMap]
  constructor
  · rintro ⟨h, _, e⟩
    cases q : whoN w s m h with
    | none => rw [q] at e; cases e
    | some k =>
      rw [q] at e
      cases e
      exact (who_some hw hm).mp q
  · rintro ⟨h1, h2⟩
    refine ⟨p.1, List.mem_range.mpr (by rw [← h2]; exact Nat.mod_lt _ hw), ?_⟩
    rw [(who_some hw hm).mpr ⟨h1, h2⟩]
    rfl
theorem order_lt {w s m : Nat} : (orderL w s m).Pairwise fun p q => p.1 < q.1 := by
  unfold orderL
  refine List.pairwise_filterMap.mpr ((List.pairwise_lt_range).imp fun {a b} h p hp q hq => ?_)
  cases e : whoN w s m a with
  | none => rw [e] at hp; cases hp
  | some k =>
    cases e' : whoN w s m b with
    | none => rw [e'] at hq; cases hq
    | some j =>
      rw [e] at hp
      rw [e'] at hq
      cases hp
      cases hq
      exact h
theorem order_perm {w s m : Nat} (hw : 0 < w) (hm : m ≤ turnN w s) : (orderL w s m).Perm ((List.range m).map fun k => (k * s % w, k)) := by
  refine (List.perm_ext_iff_of_nodup (order_lt.imp fun {a b} h e => by rw [e] at h; exact absurd h (Nat.lt_irrefl _)) ?_).mpr fun p => ?_
  · refine List.pairwise_map.mpr ((List.pairwise_lt_range).imp fun {a b} h e => ?_)
    have := congrArg Prod.snd e
    simp at this
    omega
  · rw [mem_order hw hm, List.mem_map]
    constructor
    · rintro ⟨h1, h2⟩
      exact ⟨p.2, List.mem_range.mpr h1, by rw [h2]⟩
    · rintro ⟨k, hk, rfl⟩
      exact ⟨List.mem_range.mp hk, rfl⟩
theorem order_len {w s m : Nat} (hw : 0 < w) (hm : m ≤ turnN w s) : (orderL w s m).length = m := by
  rw [(order_perm hw hm).length_eq]
  simp
end Z

namespace Z
/-! ### gaps -/
/-- how far b lies on from a, from 1 to w -/
def dV (w a b : Nat) : Nat := (b + w - 1 - a) % w + 1
theorem dV_le {w a b : Nat} (hw : 0 < w) : 1 ≤ dV w a b ∧ dV w a b ≤ w := by
  have := Nat.mod_lt (b + w - 1 - a) hw
  unfold dV
  omega
theorem dV_at {w a b : Nat} (hw : 0 < w) (ha : a < w) (hb : b < w) : (a + dV w a b) % w = b := by
  unfold dV
  rcases Nat.lt_or_ge (b + w - 1 - a) w with h | h
  · rw [Nat.mod_eq_of_lt h, show a + (b + w - 1 - a + 1) = b + w by omega, Nat.add_mod_right, Nat.mod_eq_of_lt hb]
  · have e : (b + w - 1 - a) % w = b + w - 1 - a - w := by rw [Nat.mod_eq_sub_mod h, Nat.mod_eq_of_lt (by omega)]
    rw [e, show a + (b + w - 1 - a - w + 1) = b by omega, Nat.mod_eq_of_lt hb]
theorem dV_uniq {w a b d : Nat} (hw : 0 < w) (ha : a < w) (hb : b < w) (h1 : 1 ≤ d) (h2 : d ≤ w) (h : (a + d) % w = b) : dV w a b = d := by
  have h3 := dV_at hw ha hb
  have h4 := dV_le (a := a) (b := b) hw
  generalize dV w a b = e at h3 h4
  have main : ∀ {d e : Nat}, 1 ≤ d → e ≤ w → d ≤ e → (a + d) % w = (a + e) % w → d = e := fun {d e} p1 p2 p3 q => by
    have := mod_eq_dvd (by omega) q
    have z := Nat.eq_zero_or_pos (e - d)
    rcases z with z | z
    · omega
    · have := Nat.le_of_dvd (by omega) this
      omega
  rcases Nat.le_total d e with q | q
  · exact (main h1 h4.2 q (h.trans h3.symm)).symm
  · exact main h4.1 h2 q (h3.trans h.symm)
/-- the gap behind point k -/
def gapN (w s m k : Nat) : Nat := ((List.range m).map fun n => dV w (k * s % w) (n * s % w)).foldr min w
theorem foldr_min {w : Nat} : ∀ (l : List Nat), l.foldr min w ≤ w ∧ (∀ x ∈ l, l.foldr min w ≤ x) ∧ (l.foldr min w = w ∨ l.foldr min w ∈ l)
  | [] => ⟨Nat.le_refl _, fun x h => by simp at h, .inl rfl⟩
  | y :: l => by
    obtain ⟨h1, h2, h3⟩ := foldr_min l
    rw [List.foldr_cons]
    refine ⟨Nat.le_trans (Nat.min_le_right _ _) h1, fun x hx => ?_, ?_⟩
    · rcases List.mem_cons.mp hx with e | e
      · rw [e]; exact Nat.min_le_left _ _
      · exact Nat.le_trans (Nat.min_le_right _ _) (h2 x e)
    · rcases Nat.le_total y (l.foldr min w) with q | q
      · rw [Nat.min_eq_left q]
        exact .inr List.mem_cons_self
      · rw [Nat.min_eq_right q]
        exact h3.imp id (List.mem_cons_of_mem _)
theorem gap_le {w s m k n : Nat} (hn : n < m) : gapN w s m k ≤ dV w (k * s % w) (n * s % w) :=
  (foldr_min _).2.1 _ (List.mem_map.mpr ⟨n, List.mem_range.mpr hn, rfl⟩)
theorem gap_at {w s m k : Nat} (hw : 0 < w) (hk : k < m) : ∃ n < m, gapN w s m k = dV w (k * s % w) (n * s % w) := by
  rcases (foldr_min (w := w) ((List.range m).map fun n => dV w (k * s % w) (n * s % w))).2.2 with h | h
  · refine ⟨k, hk, ?_⟩
    show _ = _
    unfold gapN
    rw [h]
    unfold dV
    have := Nat.mod_lt (k * s) hw
    rw [show k * s % w + w - 1 - k * s % w = w - 1 by omega, Nat.mod_eq_of_lt (by omega)]
    omega
  · obtain ⟨n, hn, e⟩ := List.mem_map.mp h
    exact ⟨n, List.mem_range.mp hn, e.symm⟩
theorem gap_pos {w s m k : Nat} (hw : 0 < w) (hk : k < m) : 1 ≤ gapN w s m k ∧ gapN w s m k ≤ w := by
  obtain ⟨n, _, e⟩ := gap_at (s := s) hw hk
  rw [e]
  exact dV_le hw
theorem gap_hit {w s m k : Nat} (hw : 0 < w) (hk : k < m) : ∃ n < m, n * s % w = (k * s + gapN w s m k) % w := by
  obtain ⟨n, hn, e⟩ := gap_at (s := s) hw hk
  refine ⟨n, hn, ?_⟩
  rw [e, ← Nat.mod_add_mod, dV_at hw (Nat.mod_lt _ hw) (Nat.mod_lt _ hw)]
theorem gap_free {w s m k d n : Nat} (hw : 0 < w) (hk : k < m) (h1 : 1 ≤ d) (h2 : d < gapN w s m k) (hn : n < m) : n * s % w ≠ (k * s + d) % w := fun e => by
  have hle := gap_pos (s := s) hw hk
  have := dV_uniq (a := k * s % w) (b := n * s % w) (d := d) hw (Nat.mod_lt _ hw) (Nat.mod_lt _ hw) h1 (by omega) (by rw [Nat.mod_add_mod]; exact e.symm)
  have := gap_le (w := w) (s := s) (k := k) hn
  omega
theorem gap_uniq {w s m k d : Nat} (hw : 0 < w) (hk : k < m) (h1 : 1 ≤ d) (h2 : d ≤ w) (hit : ∃ n < m, n * s % w = (k * s + d) % w) (free : ∀ e, 1 ≤ e → e < d → ∀ n < m, n * s % w ≠ (k * s + e) % w) : gapN w s m k = d := by
  obtain ⟨n, hn, en⟩ := hit
  have a := gap_pos (s := s) hw hk
  obtain ⟨n2, hn2, en2⟩ := gap_hit (s := s) hw hk
  rcases Nat.lt_trichotomy (gapN w s m k) d with h | h | h
  · exact absurd en2 (free _ a.1 h n2 hn2)
  · exact h
  · exact absurd en (gap_free hw hk h1 h hn)
/-- the gaps round the ring -/
def gapsL (w s m : Nat) : List Nat := (orderL w s m).map fun p => gapN w s m p.2
theorem gaps_len {w s m : Nat} (hw : 0 < w) (hm : m ≤ turnN w s) : (gapsL w s m).length = m := by
  unfold gapsL
  rw [List.length_map, order_len hw hm]
/-- the place behind the i-th of the ordered points -/
def nextP (w s m i : Nat) : Nat := ((orderL w s m)[i + 1]?.map (·.1)).getD w
theorem order_get_lt {w s m i j : Nat} {p q : Nat × Nat} (hi : (orderL w s m)[i]? = some p) (hj : (orderL w s m)[j]? = some q) (h : i < j) : p.1 < q.1 := by
  obtain ⟨h1, e1⟩ := List.getElem?_eq_some_iff.mp hi
  obtain ⟨h2, e2⟩ := List.getElem?_eq_some_iff.mp hj
  rw [← e1, ← e2]
  exact List.pairwise_iff_getElem.mp order_lt i j h1 h2 h
theorem gap_next {w s m i : Nat} {p : Nat × Nat} (hw : 0 < w) (hm0 : 0 < m) (hm : m ≤ turnN w s) (hi : (orderL w s m)[i]? = some p) : gapN w s m p.2 = nextP w s m i - p.1 ∧ p.1 < nextP w s m i ∧ nextP w s m i ≤ w := by
  have hp := (mem_order hw hm).mp (List.mem_of_getElem? hi)
  have hpw : p.1 < w := by rw [← hp.2]; exact Nat.mod_lt _ hw
  have key : p.1 < nextP w s m i ∧ nextP w s m i ≤ w ∧ (∃ n < m, n * s % w = nextP w s m i % w) ∧ ∀ x, p.1 < x → x < nextP w s m i → ∀ n < m, n * s % w ≠ x := by
    unfold nextP
    cases e : (orderL w s m)[i + 1]? with
    | some q =>
      have hq := (mem_order hw hm).mp (List.mem_of_getElem? e)
      have hqw : q.1 < w := by rw [← hq.2]; exact Nat.mod_lt _ hw
      refine ⟨order_get_lt hi e (Nat.lt_succ_self i), Nat.le_of_lt hqw, ⟨q.2, hq.1, ?_⟩, fun x h1 h2 n hn en => ?_⟩
      · show _ = q.1 % w
        rw [Nat.mod_eq_of_lt hqw]
        exact hq.2
      · have mem : (x, n) ∈ orderL w s m := (mem_order hw hm).mpr ⟨hn, en⟩
        obtain ⟨j, hj, ej⟩ := List.getElem_of_mem mem
        have ej' : (orderL w s m)[j]? = some (x, n) := by rw [List.getElem?_eq_getElem hj, ej]
        have h2' : x < q.1 := h2
        rcases Nat.lt_trichotomy j i with l | l | l
        · have := order_get_lt ej' hi l
          simp at this
          omega
        · subst l
          rw [hi] at ej'
          cases ej'
          exact Nat.lt_irrefl _ h1
        · rcases Nat.lt_or_ge j (i + 1) with l2 | l2
          · omega
          · rcases Nat.lt_or_eq_of_le l2 with l3 | l3
            · have := order_get_lt e ej' l3
              simp at this
              omega
            · subst l3
              rw [e] at ej'
              cases ej'
              exact Nat.lt_irrefl _ h2'
    | none =>
      refine ⟨hpw, Nat.le_refl _, ⟨0, hm0, by rw [Nat.zero_mul, Nat.zero_mod]; exact (Nat.mod_self w).symm⟩, fun x h1 h2 n hn en => ?_⟩
      have mem : (x, n) ∈ orderL w s m := (mem_order hw hm).mpr ⟨hn, en⟩
      obtain ⟨j, hj, ej⟩ := List.getElem_of_mem mem
      have ej' : (orderL w s m)[j]? = some (x, n) := by rw [List.getElem?_eq_getElem hj, ej]
      have := List.getElem?_eq_none_iff.mp e
      rcases Nat.lt_or_eq_of_le (show j ≤ i by omega) with l | l
      · have := order_get_lt ej' hi l
        simp at this
        omega
      · subst l
        rw [hi] at ej'
        cases ej'
        exact Nat.lt_irrefl _ h1
  obtain ⟨k1, k2, ⟨n, hn, en⟩, k4⟩ := key
  refine ⟨gap_uniq hw hp.1 (by omega) (by omega) ⟨n, hn, ?_⟩ fun e h1 h2 n hn en => ?_, k1, k2⟩
  · rw [← Nat.mod_add_mod, hp.2, show p.1 + (nextP w s m i - p.1) = nextP w s m i by omega]
    exact en
  · have e3 : (p.1 + e) % w = p.1 + e := Nat.mod_eq_of_lt (by omega)
    rw [← Nat.mod_add_mod, hp.2, e3] at en
    exact k4 (p.1 + e) (by omega) (by omega) n hn en
theorem order_head {w s m : Nat} (hw : 0 < w) (hm0 : 0 < m) (hm : m ≤ turnN w s) : (orderL w s m)[0]? = some (0, 0) := by
  have mem : (0, 0) ∈ orderL w s m := (mem_order hw hm).mpr ⟨hm0, by rw [Nat.zero_mul, Nat.zero_mod]⟩
  obtain ⟨j, hj, ej⟩ := List.getElem_of_mem mem
  have ej' : (orderL w s m)[j]? = some (0, 0) := by rw [List.getElem?_eq_getElem hj, ej]
  rcases Nat.eq_zero_or_pos j with z | z
  · subst z
    exact ej'
  · have := order_get_lt (List.getElem?_eq_getElem (show 0 < (orderL w s m).length by omega)) ej' z
    simp at this
/-- all gaps ahead of the i-th point come to its place -/
theorem gaps_take {w s m : Nat} (hw : 0 < w) (hm0 : 0 < m) (hm : m ≤ turnN w s) : ∀ i ≤ m, ((gapsL w s m).take i).sum = ((orderL w s m)[i]?.map (·.1)).getD w
  | 0, _ => by rw [order_head hw hm0 hm]; rfl
  | i + 1, h => by
    have hl := order_len hw hm
    have ih := gaps_take hw hm0 hm i (by omega)
    have e : (orderL w s m)[i]? = some (orderL w s m)[i] := List.getElem?_eq_getElem (by omega)
    have g := gap_next hw hm0 hm e
    rw [e] at ih
    have e2 : (gapsL w s m)[i]? = some (gapN w s m (orderL w s m)[i].2) := by
      unfold gapsL
      rw [List.getElem?_map, e]
      rfl
    rw [List.take_add_one, e2]
    simp only [Option.toList_some, List.sum_append, List.sum_cons, List.sum_nil]
    rw [ih, g.1]
    show (orderL w s m)[i].1 + (nextP w s m i - (orderL w s m)[i].1 + 0) = nextP w s m i
    omega
theorem gaps_sum {w s m : Nat} (hw : 0 < w) (hm0 : 0 < m) (hm : m ≤ turnN w s) : (gapsL w s m).sum = w := by
  have h := gaps_take hw hm0 hm m (Nat.le_refl _)
  rw [List.take_of_length_le (by rw [gaps_len hw hm]; exact Nat.le_refl _), List.getElem?_eq_none (by rw [order_len hw hm]; exact Nat.le_refl _)] at h
  exact h
/-! ### lengths -/
def lenL (w s m : Nat) : List Nat := (List.range (w + 1)).filter fun x => decide (x ∈ gapsL w s m)
theorem gap_mem_le {w s m x : Nat} (hw : 0 < w) (hm : m ≤ turnN w s) (h : x ∈ gapsL w s m) : 1 ≤ x ∧ x ≤ w := by
  obtain ⟨p, hp, rfl⟩ := List.mem_map.mp h
  exact gap_pos hw ((mem_order hw hm).mp hp).1
theorem mem_len {w s m x : Nat} (hw : 0 < w) (hm : m ≤ turnN w s) : x ∈ lenL w s m ↔ x ∈ gapsL w s m := by
  unfold lenL
  rw [List.mem_filter, List.mem_range, decide_eq_true_eq]
  exact ⟨fun h => h.2, fun h => ⟨by have := gap_mem_le hw hm h; omega, h⟩⟩
theorem len_lt {w s m : Nat} : (lenL w s m).Pairwise (· < ·) := (List.pairwise_lt_range).filter _
theorem sum_sub : ∀ (l g : List Nat), l.Nodup → (∀ x ∈ l, x ∈ g) → l.sum ≤ g.sum
  | [], _, _, _ => Nat.zero_le _
  | x :: l, g, hn, h => by
    have hx := h x List.mem_cons_self
    have p := List.perm_cons_erase hx
    rw [p.sum_nat, List.sum_cons, List.sum_cons]
    have hn' := List.nodup_cons.mp hn
    have := sum_sub l (g.erase x) hn'.2 fun y hy => (List.mem_erase_of_ne (fun e => hn'.1 (by rw [← e]; exact hy))).mpr (h y (List.mem_cons_of_mem _ hy))
    omega
theorem sum_up : ∀ (l : List Nat) (b : Nat), l.Pairwise (· < ·) → (∀ x ∈ l, b < x) → l.length * (2 * b + l.length + 1) ≤ 2 * l.sum
  | [], _, _, _ => by simp
  | x :: l, b, hp, hb => by
    have hp' := List.pairwise_cons.mp hp
    have ih := sum_up l x hp'.2 hp'.1
    have hx := hb x List.mem_cons_self
    rw [List.length_cons, List.sum_cons]
    generalize hn : l.length = n at ih
    generalize hs : l.sum = t at ih
    have e1 : n * (2 * (b + 1) + n + 1) ≤ n * (2 * x + n + 1) := Nat.mul_le_mul_left n (by omega)
    simp only [Nat.mul_add, Nat.add_mul, Nat.mul_one, Nat.one_mul] at ih e1 ⊢
    have e2 : n * (2 * b) = 2 * (n * b) := by ac_rfl
    omega
theorem few_len {l g : List Nat} {b : Nat} (hl : l.Pairwise (· < ·)) (h0 : ∀ x ∈ l, 0 < x) (hg : ∀ x ∈ l, x ∈ g) (hs : g.sum ≤ 1000) : l.length < 64 := by
  have h1 := sum_sub l g (hl.imp fun h => Nat.ne_of_lt h) hg
  have h2 := sum_up l 0 hl h0
  rcases Nat.lt_or_ge l.length 64 with h | h
  · exact h
  · have : 64 * (2 * 0 + 64 + 1) ≤ l.length * (2 * 0 + l.length + 1) := Nat.mul_le_mul h (by omega)
    omega
theorem len_few {w s m : Nat} (hw : 0 < w) (hw9 : w ≤ 1000) (hm0 : 0 < m) (hm : m ≤ turnN w s) : (lenL w s m).length < 64 :=
  few_len (b := 0) (g := gapsL w s m) len_lt (fun x h => (gap_mem_le hw hm ((mem_len hw hm).mp h)).1) (fun x h => (mem_len hw hm).mp h) (by rw [gaps_sum hw hm0 hm]; exact hw9)
end Z

namespace Z
/-! ### neighbours -/
def ordK (w s m : Nat) : List Nat := (orderL w s m).map (·.2)
def nexN (w s m k : Nat) : Nat := (whoN w s m ((k * s + gapN w s m k) % w)).getD 0
def lastN (w s m : Nat) : Nat := (ordK w s m).getLastD 0
theorem ordK_len {w s m : Nat} (hw : 0 < w) (hm : m ≤ turnN w s) : (ordK w s m).length = m := by
  unfold ordK
  rw [List.length_map, order_len hw hm]
theorem mem_ordK {w s m k : Nat} (hw : 0 < w) (hm : m ≤ turnN w s) : k ∈ ordK w s m ↔ k < m := by
  unfold ordK
  rw [List.mem_map]
  constructor
  · rintro ⟨p, hp, rfl⟩
    exact ((mem_order hw hm).mp hp).1
  · intro h
    exact ⟨(k * s % w, k), (mem_order hw hm).mpr ⟨h, rfl⟩, rfl⟩
theorem nex_spec {w s m k : Nat} (hw : 0 < w) (hm : m ≤ turnN w s) (hk : k < m) : nexN w s m k < m ∧ nexN w s m k * s % w = (k * s + gapN w s m k) % w := by
  obtain ⟨n, hn, e⟩ := gap_hit (w := w) (s := s) hw hk
  have h := (who_some hw hm).mpr ⟨hn, e⟩
  unfold nexN
  rw [h]
  exact ⟨hn, e⟩
theorem nex_uniq {w s m k n : Nat} (hw : 0 < w) (hm : m ≤ turnN w s) (hk : k < m) (hn : n < m) (e : n * s % w = (k * s + gapN w s m k) % w) : nexN w s m k = n := by
  have h := nex_spec (s := s) hw hm hk
  exact place_inj hw (by omega) (by omega) (h.2.trans e.symm)
theorem nex_idx {w s m i : Nat} {p : Nat × Nat} (hw : 0 < w) (hm0 : 0 < m) (hm : m ≤ turnN w s) (hi : (orderL w s m)[i]? = some p) : (ordK w s m ++ ordK w s m)[i + 1]? = some (nexN w s m p.2) := by
  have hp := (mem_order hw hm).mp (List.mem_of_getElem? hi)
  have g := gap_next hw hm0 hm hi
  have il : i < m := by
    have := (List.getElem?_eq_some_iff.mp hi).1
    rwa [order_len hw hm] at this
  have gm : (p.2 * s + gapN w s m p.2) % w = nextP w s m i % w := by
    rw [← Nat.mod_add_mod, hp.2, g.1]
    congr 1
    omega
  cases e : (orderL w s m)[i + 1]? with
  | some q =>
    have hq := (mem_order hw hm).mp (List.mem_of_getElem? e)
    have hl : i + 1 < m := by
      have := (List.getElem?_eq_some_iff.mp e).1
      rwa [order_len hw hm] at this
    have e2 : nexN w s m p.2 = q.2 := nex_uniq hw hm hp.1 hq.1 (by
      rw [gm]
      unfold nextP
      rw [e, hq.2]
      show q.1 = q.1 % w
      rw [Nat.mod_eq_of_lt (by rw [← hq.2]; exact Nat.mod_lt _ hw)])
    rw [List.getElem?_append_left (by rw [ordK_len hw hm]; exact hl), e2]
    unfold ordK
    rw [List.getElem?_map, e]
    rfl
  | none =>
    have hl : i + 1 = m := by
      have := List.getElem?_eq_none_iff.mp e
      rw [order_len hw hm] at this
      omega
    have e2 : nexN w s m p.2 = 0 := nex_uniq hw hm hp.1 hm0 (by
      rw [gm]
      unfold nextP
      rw [e, Nat.zero_mul, Nat.zero_mod]
      exact (Nat.mod_self w).symm)
    rw [List.getElem?_append_right (by rw [ordK_len hw hm]; omega), ordK_len hw hm, show i + 1 - m = 0 by omega, e2]
    unfold ordK
    rw [List.getElem?_map, order_head hw hm0 hm]
    rfl
theorem ordK_at {w s m k : Nat} (hw : 0 < w) (hm : m ≤ turnN w s) (hk : k < m) : ∃ p, (orderL w s m)[(ordK w s m).idxOf k]? = some p ∧ p.2 = k := by
  have h := (mem_ordK (s := s) hw hm).mpr hk
  have hl := List.idxOf_lt_length_iff.mpr h
  have hl' : (ordK w s m).idxOf k < (orderL w s m).length := by
    rw [ordK_len hw hm] at hl
    rw [order_len hw hm]
    exact hl
  refine ⟨_, List.getElem?_eq_getElem hl', ?_⟩
  have e : (ordK w s m)[(ordK w s m).idxOf k]? = some k := by rw [List.getElem?_eq_getElem hl, List.getElem_idxOf hl]
  generalize (ordK w s m).idxOf k = j at e hl'
  unfold ordK at e
  rw [List.getElem?_map, List.getElem?_eq_getElem hl'] at e
  exact Option.some.inj e
theorem next_at {w s m k : Nat} (hw : 0 < w) (hm0 : 0 < m) (hm : m ≤ turnN w s) (hk : k < m) : (ordK w s m ++ ordK w s m)[(ordK w s m).idxOf k + 1]? = some (nexN w s m k) := by
  obtain ⟨p, hp, e⟩ := ordK_at (s := s) hw hm hk
  rw [← e] at hp ⊢
  exact nex_idx hw hm0 hm hp
theorem ordK_one {w s m : Nat} (hw : 0 < w) (hm1 : 1 < m) (hm : m ≤ turnN w s) : (ordK w s m)[1]? = some (nexN w s m 0) := by
  have h := nex_idx hw (by omega) hm (order_head hw (by omega) hm)
  rwa [List.getElem?_append_left (by rw [ordK_len hw hm]; exact hm1)] at h
theorem ordK_zero {w s m : Nat} (hw : 0 < w) (hm0 : 0 < m) (hm : m ≤ turnN w s) : (ordK w s m)[0]? = some 0 := by
  unfold ordK
  rw [List.getElem?_map, order_head hw hm0 hm]
  rfl
theorem one_gap {w s : Nat} (hw : 0 < w) : gapN w s 1 0 = w ∧ nexN w s 1 0 = 0 := by
  have h0 : gapN w s 1 0 = w := by
    obtain ⟨n, hn, e⟩ := gap_at (w := w) (s := s) (m := 1) (k := 0) hw (by omega)
    have hn0 : n = 0 := by omega
    subst hn0
    rw [e]
    unfold dV
    rw [Nat.zero_mul, Nat.zero_mod, show 0 + w - 1 - 0 = w - 1 by omega, Nat.mod_eq_of_lt (by omega)]
    omega
  refine ⟨h0, ?_⟩
  have := (nex_spec (w := w) (s := s) (m := 1) (k := 0) hw (turn_pos hw) (by omega)).1
  omega
theorem last_some {w s m : Nat} (hw : 0 < w) (hm0 : 0 < m) (hm : m ≤ turnN w s) : (ordK w s m).getLast? = some (lastN w s m) := by
  unfold lastN
  cases e : ordK w s m with
  | nil =>
    have := ordK_len hw hm
    rw [e] at this
    simp at this
    omega
  | cons x r => rw [List.getLastD_eq_getLast?, List.getLast?_cons]; rfl
theorem last_lt {w s m : Nat} (hw : 0 < w) (hm0 : 0 < m) (hm : m ≤ turnN w s) : lastN w s m < m := (mem_ordK hw hm).mp (List.mem_of_getLast? (last_some hw hm0 hm))
theorem gaps_ordK {w s m : Nat} : gapsL w s m = (ordK w s m).map (gapN w s m) := by
  unfold gapsL ordK
  rw [List.map_map]
  rfl
end Z

namespace Z
/-! ### what the next point cuts -/
def hereN (w s m : Nat) : Nat := m * s % w
def ahdP (w s m : Nat) : Nat × Nat := ((orderL w s m).filter fun (p : Nat × Nat) => decide (p.1 < hereN w s m)).getLastD (0, 0)
def bhdP (w s m : Nat) : Nat × Nat := (((orderL w s m).filter fun (p : Nat × Nat) => decide (hereN w s m < p.1)) ++ [(w, 0)]).headD (0, 0)
theorem here_lt {w s m : Nat} (hw : 0 < w) : hereN w s m < w := Nat.mod_lt _ hw
theorem here_free {w s m k : Nat} (hw : 0 < w) (hm : m < turnN w s) (hk : k < m) : k * s % w ≠ hereN w s m := fun e => by
  have := place_inj hw (by omega) hm e
  omega
theorem here_pos {w s m : Nat} (hw : 0 < w) (h0 : 0 < m) (hm : m < turnN w s) : 0 < hereN w s m := by
  have := here_free (k := 0) hw hm h0
  rw [Nat.zero_mul, Nat.zero_mod] at this
  omega
theorem lt_last : ∀ (l : List (Nat × Nat)) (q : Nat × Nat), l.Pairwise (fun a b => a.1 < b.1) → l.getLast? = some q → ∀ p ∈ l, p.1 ≤ q.1
  | [], _, _, _ => fun p h => by cases h
  | [x], q, _, e => fun p h => by
    cases e
    cases List.mem_singleton.mp h
    exact Nat.le_refl _
  | x :: y :: l, q, hp, e => fun p h => by
    have hp' := List.pairwise_cons.mp hp
    have e' : (y :: l).getLast? = some q := by rwa [List.getLast?_cons_cons] at e
    rcases List.mem_cons.mp h with rfl | h
    · exact Nat.le_of_lt (hp'.1 q (List.mem_of_getLast? e'))
    · exact lt_last (y :: l) q hp'.2 e' p h
theorem ahd_last {w s m : Nat} (hw : 0 < w) (h0 : 0 < m) (hm : m < turnN w s) : ((orderL w s m).filter fun p => decide (p.1 < hereN w s m)).getLast? = some (ahdP w s m) := by
  have h : (0, 0) ∈ (orderL w s m).filter fun p => decide (p.1 < hereN w s m) := List.mem_filter.mpr ⟨List.mem_of_getElem? (order_head hw h0 (by omega)), decide_eq_true (here_pos hw h0 hm)⟩
  unfold ahdP
  cases e : (orderL w s m).filter fun p => decide (p.1 < hereN w s m) with
  | nil => rw [e] at h; cases h
  | cons x r => rw [List.getLastD_eq_getLast?, List.getLast?_cons]; rfl
theorem ahd_spec {w s m : Nat} (hw : 0 < w) (h0 : 0 < m) (hm : m < turnN w s) : ahdP w s m ∈ orderL w s m ∧ (ahdP w s m).1 < hereN w s m ∧ ∀ p ∈ orderL w s m, p.1 < hereN w s m → p.1 ≤ (ahdP w s m).1 := by
  have h := ahd_last hw h0 hm
  have mem := List.mem_filter.mp (List.mem_of_getLast? h)
  exact ⟨mem.1, of_decide_eq_true mem.2, fun p hp hl => lt_last _ _ (order_lt.filter _) h p (List.mem_filter.mpr ⟨hp, decide_eq_true hl⟩)⟩
theorem bhd_head {w s m : Nat} : (((orderL w s m).filter fun p => decide (hereN w s m < p.1)) ++ [(w, 0)])[0]? = some (bhdP w s m) := by
  unfold bhdP
  cases e : (orderL w s m).filter fun p => decide (hereN w s m < p.1) <;> rfl
theorem bhd_spec {w s m : Nat} (hw : 0 < w) (h0 : 0 < m) (hm : m < turnN w s) : (bhdP w s m ∈ orderL w s m ∨ bhdP w s m = (w, 0)) ∧ hereN w s m < (bhdP w s m).1 ∧ (bhdP w s m).1 ≤ w ∧ (bhdP w s m).2 < m ∧ ∀ p ∈ orderL w s m, hereN w s m < p.1 → (bhdP w s m).1 ≤ p.1 := by
  have hl := order_lt (w := w) (s := s) (m := m) |>.filter fun p => decide (hereN w s m < p.1)
  have hm' : ∀ p ∈ (orderL w s m).filter fun p => decide (hereN w s m < p.1), p ∈ orderL w s m ∧ hereN w s m < p.1 := fun p hp => ⟨(List.mem_filter.mp hp).1, of_decide_eq_true (List.mem_filter.mp hp).2⟩
  have hf : ∀ p ∈ orderL w s m, hereN w s m < p.1 → p ∈ (orderL w s m).filter fun p => decide (hereN w s m < p.1) := fun p hp h => List.mem_filter.mpr ⟨hp, decide_eq_true h⟩
  unfold bhdP
  generalize (orderL w s m).filter (fun p => decide (hereN w s m < p.1)) = l at hl hm' hf
  cases l with
  | nil => exact ⟨.inr rfl, here_lt hw, Nat.le_refl _, h0, fun p hp h => by have := hf p hp h; cases this⟩
  | cons x r =>
    have hx := hm' x List.mem_cons_self
    have ho := (mem_order hw (Nat.le_of_lt hm)).mp hx.1
    refine ⟨.inl hx.1, hx.2, ?_, ho.1, fun p hp h => ?_⟩
    · show x.1 ≤ w
      rw [← ho.2]
      exact Nat.le_of_lt (Nat.mod_lt _ hw)
    · rcases List.mem_cons.mp (hf p hp h) with rfl | h
      · exact Nat.le_refl _
      · exact Nat.le_of_lt ((List.pairwise_cons.mp hl).1 p h)
theorem ahd_k {w s m : Nat} (hw : 0 < w) (h0 : 0 < m) (hm : m < turnN w s) : (ahdP w s m).2 < m ∧ (ahdP w s m).2 * s % w = (ahdP w s m).1 := (mem_order hw (Nat.le_of_lt hm)).mp (ahd_spec hw h0 hm).1
theorem bhd_k {w s m : Nat} (hw : 0 < w) (h0 : 0 < m) (hm : m < turnN w s) : (bhdP w s m).2 < m ∧ (bhdP w s m).2 * s % w = (bhdP w s m).1 % w := by
  have h := bhd_spec hw h0 hm
  rcases h.1 with e | e
  · have ho := (mem_order hw (Nat.le_of_lt hm)).mp e
    refine ⟨ho.1, ?_⟩
    rw [ho.2, ← ho.2, Nat.mod_mod]
  · rw [e]
    exact ⟨h0, by rw [Nat.zero_mul, Nat.zero_mod]; exact (Nat.mod_self w).symm⟩
/-- back: the least way from a point to here -/
theorem back_le {w s m k : Nat} (hw : 0 < w) (h0 : 0 < m) (hm : m < turnN w s) (hk : k < m) :
    (((hereN w s m : Nat) : Int) - ((k * s % w : Nat) : Int)) % (w : Int) = ((hereN w s m - (ahdP w s m).1 : Nat) : Int) ∧ k = (ahdP w s m).2 ∨ ((hereN w s m - (ahdP w s m).1 : Nat) : Int) < (((hereN w s m : Nat) : Int) - ((k * s % w : Nat) : Int)) % (w : Int) := by
  have ha := ahd_spec hw h0 hm
  have hk2 := ahd_k hw h0 hm
  have hl := here_lt (s := s) (m := m) hw
  have hf := here_free hw hm hk
  have hmem : (k * s % w, k) ∈ orderL w s m := (mem_order hw (Nat.le_of_lt hm)).mpr ⟨hk, rfl⟩
  have hlt := Nat.mod_lt (k * s) hw
  have hc := ha.2.2 _ hmem
  by_cases h : k * s % w < hereN w s m
  · have hle := hc h
    have e : (((hereN w s m : Nat) : Int) - ((k * s % w : Nat) : Int)) % (w : Int) = ((hereN w s m : Nat) : Int) - ((k * s % w : Nat) : Int) := Int.emod_eq_of_lt (by omega) (by omega)
    rw [e]
    by_cases h2 : k * s % w = (ahdP w s m).1
    · refine .inl ⟨by omega, place_inj hw (by omega) (by omega) (h2.trans hk2.2.symm)⟩
    · have hle' : k * s % w ≤ (ahdP w s m).1 := hle
      exact .inr (by omega)
  · have e : (((hereN w s m : Nat) : Int) - ((k * s % w : Nat) : Int)) % (w : Int) = ((hereN w s m : Nat) : Int) - ((k * s % w : Nat) : Int) + (w : Int) := by
      rw [← Int.add_emod_right]
      exact Int.emod_eq_of_lt (by omega) (by omega)
    rw [e]
    exact .inr (by omega)
/-- on: the least way from here to a point -/
theorem on_le {w s m k : Nat} (hw : 0 < w) (h0 : 0 < m) (hm : m < turnN w s) (hk : k < m) :
    (((k * s % w : Nat) : Int) - ((hereN w s m : Nat) : Int)) % (w : Int) = (((bhdP w s m).1 - hereN w s m : Nat) : Int) ∧ k = (bhdP w s m).2 ∨ (((bhdP w s m).1 - hereN w s m : Nat) : Int) < (((k * s % w : Nat) : Int) - ((hereN w s m : Nat) : Int)) % (w : Int) := by
  have ha := bhd_spec hw h0 hm
  have hk2 := bhd_k hw h0 hm
  have hl := here_lt (s := s) (m := m) hw
  have hf := here_free hw hm hk
  have hmem : (k * s % w, k) ∈ orderL w s m := (mem_order hw (Nat.le_of_lt hm)).mpr ⟨hk, rfl⟩
  have hlt := Nat.mod_lt (k * s) hw
  have hc := ha.2.2.2.2 _ hmem
  by_cases h : hereN w s m < k * s % w
  · have hle : (bhdP w s m).1 ≤ k * s % w := hc h
    have e : (((k * s % w : Nat) : Int) - ((hereN w s m : Nat) : Int)) % (w : Int) = ((k * s % w : Nat) : Int) - ((hereN w s m : Nat) : Int) := Int.emod_eq_of_lt (by omega) (by omega)
    rw [e]
    by_cases h2 : k * s % w = (bhdP w s m).1
    · refine .inl ⟨by omega, place_inj (s := s) hw (by omega) (by omega) ?_⟩
      rw [hk2.2, ← h2, Nat.mod_mod]
    · exact .inr (by omega)
  · have e : (((k * s % w : Nat) : Int) - ((hereN w s m : Nat) : Int)) % (w : Int) = ((k * s % w : Nat) : Int) - ((hereN w s m : Nat) : Int) + (w : Int) := by
      rw [← Int.add_emod_right]
      exact Int.emod_eq_of_lt (by omega) (by omega)
    rw [e]
    by_cases h2 : (bhdP w s m).1 = w ∧ k * s % w = 0
    · refine .inl ⟨by omega, place_inj (s := s) hw (by omega) (by omega) ?_⟩
      rw [hk2.2, h2.1, h2.2, Nat.mod_self]
    · have := ha.2.2.1
      exact .inr (by omega)
theorem on_at {w s m : Nat} (hw : 0 < w) (h0 : 0 < m) (hm : m < turnN w s) : ((((bhdP w s m).2 * s % w : Nat) : Int) - ((hereN w s m : Nat) : Int)) % (w : Int) = (((bhdP w s m).1 - hereN w s m : Nat) : Int) := by
  have ha := bhd_spec hw h0 hm
  have hk := bhd_k hw h0 hm
  have hl := here_lt (s := s) (m := m) hw
  have hp := here_pos hw h0 hm
  rw [hk.2]
  rcases Nat.lt_or_eq_of_le ha.2.2.1 with h | h
  · rw [Nat.mod_eq_of_lt h, Int.emod_eq_of_lt (by omega) (by omega)]
    omega
  · rw [h, Nat.mod_self, ← Int.add_emod_right, Int.emod_eq_of_lt (by omega) (by omega)]
    omega
def cutA (w s m : Nat) : Nat := hereN w s m - (ahdP w s m).1
def cutB (w s m : Nat) : Nat := (bhdP w s m).1 - hereN w s m
/-! ### the numbers with few lengths, and the new lengths -/
def stopsL (w s : Nat) : List Nat := ((List.range (turnN w s)).filter fun i => decide ((lenL w s (1 + i)).length < 3)).map fun i => 1 + i
def freshL (w s i : Nat) : List (Nat × Nat) := ((lenL w s (1 + i)).filter fun x => !decide (x ∈ if i = 0 then [] else lenL w s i)).map fun x => (1 + i, x)
def newL (w s : Nat) : Nat → List (Nat × Nat)
  | 0 => []
  | i + 1 => newL w s i ++ freshL w s i
theorem new_len {w s : Nat} (hw : 0 < w) (hw9 : w ≤ 1000) : ∀ i, i ≤ turnN w s → (newL w s i).length ≤ 64 * i
  | 0, _ => Nat.le_refl _
  | i + 1, h => by
    have ih := new_len (s := s) hw hw9 i (by omega)
    have := len_few (s := s) (m := 1 + i) hw hw9 (by omega) (by omega)
    have h2 : (freshL w s i).length ≤ (lenL w s (1 + i)).length := by
      unfold freshL
      rw [List.length_map]
      exact List.length_filter_le _ _
    show (newL w s i ++ freshL w s i).length ≤ _
    rw [List.length_append]
    omega
end Z

namespace Z
/-! ### three lengths -/
theorem mod_iff {x y w : Nat} : x % w = y % w ↔ (w : Int) ∣ (x : Int) - (y : Int) := by
  rw [Int.dvd_iff_emod_eq_zero, ← Int.emod_eq_emod_iff_emod_sub_eq_zero]
  omega
theorem dvd_small {w : Nat} {e : Int} (h : (w : Int) ∣ e) (h1 : 0 < e) (h2 : e < (w : Int)) : False := by
  have := Int.le_of_dvd h1 h
  omega
/-- the point right of point 0 and the one left of it, and the gaps between -/
structure Two (w s m a b F L : Nat) : Prop where
  a0 : 0 < a
  am : a < m
  b0 : 0 < b
  bm : b < m
  F0 : 0 < F
  L0 : 0 < L
  FL : F + L ≤ w
  ha : (w : Int) ∣ (a : Int) * s - F
  hb : (w : Int) ∣ (b : Int) * s + L
  minF : ∀ (d : Nat) (e : Int), 0 < d → d < m → (w : Int) ∣ (d : Int) * s - e → 0 < e → e < F → False
  minL : ∀ (d : Nat) (e : Int), 0 < d → d < m → (w : Int) ∣ (d : Int) * s + e → 0 < e → e < L → False
  eqF : ∀ d : Nat, d < m → (w : Int) ∣ (d : Int) * s - F → d = a
  eqL : ∀ d : Nat, d < m → (w : Int) ∣ (d : Int) * s + L → d = b
theorem free_dvd {w s m k n : Nat} {e : Int} (hw : 0 < w) (hk : k < m) (hn : n < m) (h : (w : Int) ∣ (n : Int) * s - (k : Int) * s - e) (h1 : 0 < e) (h2 : e < (gapN w s m k : Nat)) : False := by
  have e0 : e = ((e.toNat : Nat) : Int) := by omega
  refine gap_free (w := w) (s := s) (m := m) (k := k) (d := e.toNat) (n := n) hw hk (by omega) (by omega) hn (mod_iff.mpr ?_)
  have e2 : ((n * s : Nat) : Int) - ((k * s + e.toNat : Nat) : Int) = (n : Int) * s - (k : Int) * s - e := by
    rw [Int.natCast_add, Int.natCast_mul, Int.natCast_mul, ← e0]
    omega
  rw [e2]
  exact h
theorem inj_dvd {w s m x y : Nat} (hw : 0 < w) (hm : m ≤ turnN w s) (hx : x < m) (hy : y < m) (h : (w : Int) ∣ (x : Int) * s - (y : Int) * s) : x = y := by
  refine place_inj (s := s) hw (by omega) (by omega) (mod_iff.mpr ?_)
  rw [Int.natCast_mul, Int.natCast_mul]
  exact h
theorem last_nex {w s m : Nat} (hw : 0 < w) (h0 : 0 < m) (hm : m ≤ turnN w s) : nexN w s m (lastN w s m) = 0 := by
  have hl := last_some (s := s) hw h0 hm
  have e : (ordK w s m)[m - 1]? = some (lastN w s m) := by
    rw [← hl, List.getLast?_eq_getElem?, ordK_len hw hm]
  have e' : ∃ p, (orderL w s m)[m - 1]? = some p ∧ p.2 = lastN w s m := by
    unfold ordK at e
    rw [List.getElem?_map] at e
    cases q : (orderL w s m)[m - 1]? with
    | none => rw [q] at e; cases e
    | some p =>
      rw [q] at e
      exact ⟨p, rfl, Option.some.inj e⟩
  obtain ⟨p, hp, ep⟩ := e'
  have h := nex_idx hw h0 hm hp
  rw [ep, List.getElem?_append_right (by rw [ordK_len hw hm]; omega), ordK_len hw hm, show m - 1 + 1 - m = 0 by omega, ordK_zero hw h0 hm] at h
  exact (Option.some.inj h).symm
theorem nex_dvd {w s m k : Nat} (hw : 0 < w) (hm : m ≤ turnN w s) (hk : k < m) : (w : Int) ∣ (nexN w s m k : Int) * s - (k : Int) * s - (gapN w s m k : Nat) := by
  have h := mod_iff.mp (nex_spec (s := s) hw hm hk).2
  rw [Int.natCast_add, Int.natCast_mul, Int.natCast_mul] at h
  have e : (nexN w s m k : Int) * s - ((k : Int) * s + (gapN w s m k : Nat)) = (nexN w s m k : Int) * s - (k : Int) * s - (gapN w s m k : Nat) := by omega
  rw [← e]
  exact h
theorem dvd_by {w : Nat} {x y : Int} (h : (w : Int) ∣ x) (e : x = y) : (w : Int) ∣ y := e ▸ h
theorem two_of {w s m : Nat} (hw : 0 < w) (h2 : 2 ≤ m) (hm : m ≤ turnN w s) : Two w s m (nexN w s m 0) (lastN w s m) (gapN w s m 0) (gapN w s m (lastN w s m)) := by
  have bm := last_lt (s := s) hw (by omega) hm
  have ln := last_nex (s := s) hw (by omega) hm
  have hb0 := nex_dvd hw hm bm
  rw [ln] at hb0
  have am := (nex_spec (s := s) (k := 0) hw hm (by omega)).1
  have ha0 := nex_dvd (s := s) (k := 0) hw hm (by omega)
  have gF := gap_pos (s := s) (m := m) (k := 0) hw (by omega)
  have gL := gap_pos (s := s) hw bm
  have fF : ∀ n e, n < m → (w : Int) ∣ (n : Int) * s - ((0 : Nat) : Int) * s - e → 0 < e → e < (gapN w s m 0 : Nat) → False := fun n e hn h h1 h2 => free_dvd hw (by omega) hn h h1 h2
  have fL : ∀ n e, n < m → (w : Int) ∣ (n : Int) * s - (lastN w s m : Int) * s - e → 0 < e → e < (gapN w s m (lastN w s m) : Nat) → False := fun n e hn h h1 h2 => free_dvd hw bm hn h h1 h2
  have inj : ∀ x y, x < m → y < m → (w : Int) ∣ (x : Int) * s - (y : Int) * s → x = y := fun x y hx hy h => inj_dvd hw hm hx hy h
  generalize nexN w s m 0 = a at *
  generalize lastN w s m = b at *
  generalize gapN w s m 0 = F at *
  generalize gapN w s m b = L at *
  have z : ((0 : Nat) : Int) * (s : Int) = 0 := by rw [Int.natCast_zero, Int.zero_mul]
  rw [z] at ha0 hb0
  have ha : (w : Int) ∣ (a : Int) * s - F := dvd_by ha0 (by omega)
  have hb : (w : Int) ∣ (b : Int) * s + L := dvd_by ((Int.dvd_neg).mpr hb0) (by omega)
  have minF : ∀ (d : Nat) (e : Int), 0 < d → d < m → (w : Int) ∣ (d : Int) * s - e → 0 < e → e < F → False := fun d e h0 h1 h h2 h3 => fF d e h1 (dvd_by h (by omega)) h2 h3
  have minL : ∀ (d : Nat) (e : Int), 0 < d → d < m → (w : Int) ∣ (d : Int) * s + e → 0 < e → e < L → False := fun d e h0 h1 h h2 h3 => fL d (L - e) h1 (dvd_by (Int.dvd_sub h hb) (by omega)) (by omega) (by omega)
  have eqF : ∀ d : Nat, d < m → (w : Int) ∣ (d : Int) * s - F → d = a := fun d hd h => inj d a hd am (dvd_by (Int.dvd_sub h ha) (by omega))
  have eqL : ∀ d : Nat, d < m → (w : Int) ∣ (d : Int) * s + L → d = b := fun d hd h => inj d b hd bm (dvd_by (Int.dvd_sub h hb) (by omega))
  have Fw : F < w := by
    rcases Nat.lt_or_eq_of_le gF.2 with h | h
    · exact h
    · exfalso
      have r : (((1 * s) % w : Nat) : Int) = ((1 * s : Nat) : Int) % (w : Int) := Int.natCast_emod _ _
      have r0 : (1 * s) % w ≠ 0 := fun e => by
        have := inj 1 0 (by omega) (by omega) (by
          have := (Int.dvd_iff_emod_eq_zero).mpr (show ((1 * s : Nat) : Int) % (w : Int) = 0 by omega)
          refine dvd_by this ?_
          rw [z, Int.natCast_mul]
          omega)
        omega
      have rw0 := Nat.mod_lt (1 * s) hw
      refine fF 1 (((1 * s) % w : Nat) : Int) (by omega) ?_ (by omega) (by omega)
      have d := Int.dvd_self_sub_emod (x := ((1 * s : Nat) : Int)) (m := (w : Int))
      refine dvd_by d ?_
      rw [z, Int.natCast_emod, Int.natCast_mul]
      omega
  have a0 : 0 < a := by
    rcases Nat.eq_zero_or_pos a with h | h
    · subst h
      rw [z] at ha
      exact (dvd_small (Int.dvd_neg.mpr ha) (by omega) (by omega)).elim
    · exact h
  have Lw : L < w := by
    rcases Nat.lt_or_eq_of_le gL.2 with h | h
    · exact h
    · exfalso
      have hb2 : (w : Int) ∣ (b : Int) * s - ((0 : Nat) : Int) * s := dvd_by (Int.dvd_sub hb (Int.dvd_refl (w : Int))) (by rw [z]; omega)
      have e := inj b 0 bm (by omega) hb2
      subst e
      refine fL a (F : Int) am (dvd_by ha (by rw [z]; omega)) (by omega) (by omega)
  have b0 : 0 < b := by
    rcases Nat.eq_zero_or_pos b with h | h
    · subst h
      rw [z] at hb
      exact (dvd_small hb (by omega) (by omega)).elim
    · exact h
  refine ⟨a0, am, b0, bm, by omega, by omega, ?_, ha, hb, minF, minL, eqF, eqL⟩
  rcases Nat.lt_or_ge w (F + L) with h | h
  · exact (minF b ((w : Int) - L) b0 bm (dvd_by (Int.dvd_sub hb (Int.dvd_refl (w : Int))) (by omega)) (by omega) (by omega)).elim
  · exact h
section
variable {w s m a b F L : Nat}
theorem Two.sum (h : Two w s m a b F L) (hw : 0 < w) (hm : m ≤ turnN w s) : m ≤ a + b := by
  rcases Nat.lt_or_ge (a + b) m with h1 | h1
  · exfalso
    have e : (w : Int) ∣ ((a + b : Nat) : Int) * s - ((F : Int) - L) := dvd_by (Int.dvd_add h.ha h.hb) (by rw [Int.natCast_add, Int.add_mul]; omega)
    have a0 := h.a0
    have F0 := h.F0
    have L0 := h.L0
    rcases Nat.lt_trichotomy F L with l | l | l
    · exact h.minL (a + b) ((L : Int) - F) (by omega) h1 (dvd_by e (by generalize ((a + b : Nat) : Int) * (s : Int) = x; omega)) (by omega) (by omega)
    · have := inj_dvd (x := a + b) (y := 0) hw hm h1 (by omega) (dvd_by e (by subst l; rw [Int.natCast_zero, Int.zero_mul]; generalize ((a + b : Nat) : Int) * (s : Int) = x; omega))
      omega
    · exact h.minF (a + b) ((F : Int) - L) (by omega) h1 e (by omega) (by omega)
  · exact h1
/-- how far the next point is, and its number -/
def gap3 (m a b F L k : Nat) : Nat := if k < m - a then F else if b ≤ k then L else F + L
def nex3 (m a b k : Nat) : Nat := if k < m - a then k + a else if b ≤ k then k - b else k + a - b
theorem sub_cast {n k : Nat} (h : k ≤ n) : ((n - k : Nat) : Int) * (s : Int) = (n : Int) * s - (k : Int) * s := by
  rw [Int.ofNat_sub h, Int.sub_mul]
theorem Two.gap (h : Two w s m a b F L) (hw : 0 < w) (hm : m ≤ turnN w s) {k : Nat} (hk : k < m) : gapN w s m k = gap3 m a b F L k ∧ nexN w s m k = nex3 m a b k := by
  have hs := h.sum hw hm
  obtain ⟨a0, am, b0, bm, F0, L0, FL, ha, hb, minF, minL, eqF, eqL⟩ := h
  have key : ∃ n < m, n = nex3 m a b k ∧ (w : Int) ∣ (n : Int) * s - (k : Int) * s - (gap3 m a b F L k : Nat) ∧ 1 ≤ gap3 m a b F L k ∧ gap3 m a b F L k ≤ w ∧
      ∀ (e : Int) (n : Nat), n < m → 0 < e → e < (gap3 m a b F L k : Nat) → (w : Int) ∣ (n : Int) * s - (k : Int) * s - e → False := by
    unfold gap3 nex3
    by_cases c1 : k < m - a
    · rw [if_pos c1, if_pos c1]
      refine ⟨k + a, by omega, rfl, dvd_by ha (by rw [Int.natCast_add, Int.add_mul]; omega), by omega, by omega, fun e n hn h0 h1 hd => ?_⟩
      rcases Nat.lt_trichotomy n k with l | l | l
      · have c := sub_cast (s := s) (Nat.le_of_lt l)
        exact minF (a + (k - n)) ((F : Int) - e) (by omega) (by omega) (dvd_by (Int.dvd_sub ha hd) (by rw [Int.natCast_add, Int.add_mul, c]; omega)) (by omega) (by omega)
      · subst l
        exact dvd_small (Int.dvd_neg.mpr hd) (by omega) (by omega)
      · have c := sub_cast (s := s) (Nat.le_of_lt l)
        exact minF (n - k) e (by omega) (by omega) (dvd_by hd (by rw [c])) h0 h1
    · rw [if_neg c1, if_neg c1]
      by_cases c2 : b ≤ k
      · rw [if_pos c2, if_pos c2]
        have c := sub_cast (s := s) c2
        refine ⟨k - b, by omega, rfl, dvd_by (Int.dvd_neg.mpr hb) (by rw [c]; omega), by omega, by omega, fun e n hn h0 h1 hd => ?_⟩
        rcases Nat.lt_trichotomy n k with l | l | l
        · have c := sub_cast (s := s) (Nat.le_of_lt l)
          exact minL (k - n) e (by omega) (by omega) (dvd_by (Int.dvd_neg.mpr hd) (by rw [c]; omega)) h0 h1
        · subst l
          exact dvd_small (Int.dvd_neg.mpr hd) (by omega) (by omega)
        · have c := sub_cast (s := s) (Nat.le_of_lt l)
          exact minL (b + (n - k)) ((L : Int) - e) (by omega) (by omega) (dvd_by (Int.dvd_add hb hd) (by rw [Int.natCast_add, Int.add_mul, c]; omega)) (by omega) (by omega)
      · rw [if_neg c2, if_neg c2]
        have c := sub_cast (s := s) (show b ≤ k + a by omega)
        refine ⟨k + a - b, by omega, rfl, dvd_by (Int.dvd_sub ha hb) (by rw [c, Int.natCast_add, Int.natCast_add, Int.add_mul]; omega), by omega, by omega, fun e n hn h0 h1 hd => ?_⟩
        rcases Nat.lt_trichotomy n k with l | l | l
        · have c := sub_cast (s := s) (Nat.le_of_lt l)
          have hd' : (w : Int) ∣ ((k - n : Nat) : Int) * s + e := dvd_by (Int.dvd_neg.mpr hd) (by rw [c]; omega)
          rcases Int.lt_trichotomy e (L : Int) with g | g | g
          · exact minL (k - n) e (by omega) (by omega) hd' h0 g
          · have := eqL (k - n) (by omega) (by rw [← g]; exact hd')
            omega
          · have c3 := sub_cast (s := s) (show k - n ≤ b by omega)
            exact minF (b - (k - n)) (e - L) (by omega) (by omega) (dvd_by (Int.dvd_sub hb hd') (by rw [c3]; omega)) (by omega) (by omega)
        · subst l
          exact dvd_small (Int.dvd_neg.mpr hd) (by omega) (by omega)
        · have c := sub_cast (s := s) (Nat.le_of_lt l)
          have hd' : (w : Int) ∣ ((n - k : Nat) : Int) * s - e := dvd_by hd (by rw [c])
          rcases Int.lt_trichotomy e (F : Int) with g | g | g
          · exact minF (n - k) e (by omega) (by omega) hd' h0 g
          · have := eqF (n - k) (by omega) (by rw [← g]; exact hd')
            omega
          · have c3 := sub_cast (s := s) (show n - k ≤ a by omega)
            exact minL (a - (n - k)) (e - F) (by omega) (by omega) (dvd_by (Int.dvd_sub ha hd') (by rw [c3]; omega)) (by omega) (by omega)
  obtain ⟨n, hn, en, hd, g1, g2, fr⟩ := key
  have hg : gapN w s m k = gap3 m a b F L k := by
    refine gap_uniq hw hk g1 g2 ⟨n, hn, mod_iff.mpr (dvd_by hd ?_)⟩ fun e h1 h2 n hn eq => ?_
    · rw [Int.natCast_add, Int.natCast_mul, Int.natCast_mul]
      omega
    · refine fr (e : Int) n hn (by omega) (by omega) (dvd_by (mod_iff.mp eq) ?_)
      rw [Int.natCast_add, Int.natCast_mul, Int.natCast_mul]
      omega
  refine ⟨hg, ?_⟩
  rw [← en]
  refine nex_uniq hw hm hk hn (mod_iff.mpr (dvd_by hd ?_))
  rw [hg, Int.natCast_add, Int.natCast_mul, Int.natCast_mul]
  omega
end
end Z

namespace Z
/-! ### one point more; the whole turn -/
section
variable {w s m a b F L a' b' F' L' : Nat}
theorem turn_dvd0 (hw : 0 < w) : (w : Int) ∣ ((turnN w s : Nat) : Int) * s := by
  have h := turn_zero (w := w) (s := s) hw
  have e := mod_iff.mp (show (turnN w s * s) % w = 0 % w by rw [h, Nat.zero_mod])
  exact dvd_by e (by rw [Int.natCast_mul]; omega)
theorem Two.full (h : Two w s m a b F L) (hw : 0 < w) (hm : m = turnN w s) : F = L := by
  have hs := h.sum hw (Nat.le_of_eq hm)
  have t := turn_dvd0 (w := w) (s := s) hw
  rw [← hm] at t
  obtain ⟨a0, am, b0, bm, F0, L0, FL, ha, hb, minF, minL, eqF, eqL⟩ := h
  have c : ((a + b - m : Nat) : Int) * (s : Int) = (a : Int) * s + (b : Int) * s - (m : Int) * s := by
    rw [sub_cast hs, Int.natCast_add, Int.add_mul]
  have e : (w : Int) ∣ ((a + b - m : Nat) : Int) * s - ((F : Int) - L) := dvd_by (Int.dvd_sub (Int.dvd_add ha hb) t) (by rw [c]; omega)
  rcases Nat.lt_trichotomy F L with l | l | l
  · exfalso
    rcases Nat.eq_zero_or_pos (a + b - m) with z | z
    · rw [z, Int.natCast_zero, Int.zero_mul] at e
      exact dvd_small (w := w) (e := (L : Int) - F) (dvd_by e (by omega)) (by omega) (by omega)
    · exact minL (a + b - m) ((L : Int) - F) z (by omega) (dvd_by e (by generalize ((a + b - m : Nat) : Int) * (s : Int) = x; omega)) (by omega) (by omega)
  · exact l
  · exfalso
    rcases Nat.eq_zero_or_pos (a + b - m) with z | z
    · rw [z, Int.natCast_zero, Int.zero_mul] at e
      exact dvd_small (w := w) (e := (F : Int) - L) (dvd_by (Int.dvd_neg.mpr e) (by omega)) (by omega) (by omega)
    · exact minF (a + b - m) ((F : Int) - L) z (by omega) e (by omega) (by omega)
theorem Two.more (h : Two w s m a b F L) (h' : Two w s (m + 1) a' b' F' L') : F' ≤ F ∧ L' ≤ L ∧ (a' = a ∨ a' = m) ∧ (b' = b ∨ b' = m) := by
  obtain ⟨a0, am, b0, bm, F0, L0, FL, ha, hb, minF, minL, eqF, eqL⟩ := h
  obtain ⟨a0', am', b0', bm', F0', L0', FL', ha', hb', minF', minL', eqF', eqL'⟩ := h'
  have f : F' ≤ F := by
    rcases Nat.lt_or_ge F F' with l | l
    · exact (minF' a F a0 (by omega) ha (by omega) (by omega)).elim
    · exact l
  have g : L' ≤ L := by
    rcases Nat.lt_or_ge L L' with l | l
    · exact (minL' b L b0 (by omega) hb (by omega) (by omega)).elim
    · exact l
  refine ⟨f, g, ?_, ?_⟩
  · rcases Nat.lt_or_ge a' m with l | l
    · refine .inl (eqF a' l ?_)
      rcases Nat.lt_or_eq_of_le f with q | q
      · exact (minF a' F' a0' l ha' (by omega) (by omega)).elim
      · exact q ▸ ha'
    · exact .inr (by omega)
  · rcases Nat.lt_or_ge b' m with l | l
    · refine .inl (eqL b' l ?_)
      rcases Nat.lt_or_eq_of_le g with q | q
      · exact (minL b' L' b0' l hb' (by omega) (by omega)).elim
      · exact q ▸ hb'
    · exact .inr (by omega)
end
/-- round the ring, and back at point 0 -/
def roundL (w s m : Nat) : List Nat := ordK w s m ++ [0]
theorem round_head {w s m : Nat} (hw : 0 < w) (h0 : 0 < m) (hm : m ≤ turnN w s) : (roundL w s m)[0]? = some 0 := by
  unfold roundL
  rw [List.getElem?_append_left (by rw [ordK_len hw hm]; exact h0), ordK_zero hw h0 hm]
theorem round_last {w s m : Nat} (hw : 0 < w) (hm : m ≤ turnN w s) : (roundL w s m)[m]? = some 0 := by
  unfold roundL
  rw [List.getElem?_append_right (by rw [ordK_len hw hm]; exact Nat.le_refl _), ordK_len hw hm, Nat.sub_self]
  rfl
theorem round_next {w s m i : Nat} (hw : 0 < w) (h0 : 0 < m) (hm : m ≤ turnN w s) (hi : i < m) : ∃ k < m, (roundL w s m)[i]? = some k ∧ (roundL w s m)[i + 1]? = some (nexN w s m k) := by
  have hl := order_len (s := s) hw hm
  have e : (orderL w s m)[i]? = some (orderL w s m)[i] := List.getElem?_eq_getElem (by omega)
  have hx := nex_idx hw h0 hm e
  refine ⟨(orderL w s m)[i].2, ((mem_order hw hm).mp (List.mem_of_getElem? e)).1, ?_, ?_⟩
  · unfold roundL
    rw [List.getElem?_append_left (by rw [ordK_len hw hm]; exact hi)]
    unfold ordK
    rw [List.getElem?_map, e]
    rfl
  · rw [← hx]
    unfold roundL
    rcases Nat.lt_or_ge (i + 1) m with l | l
    · rw [List.getElem?_append_left (by rw [ordK_len hw hm]; exact l), List.getElem?_append_left (by rw [ordK_len hw hm]; exact l)]
    · rw [List.getElem?_append_right (by rw [ordK_len hw hm]; exact l), List.getElem?_append_right (by rw [ordK_len hw hm]; exact l), ordK_len hw hm, show i + 1 - m = 0 by omega, ordK_zero hw h0 hm]
      rfl
theorem ordK_nodup {w s m : Nat} (hw : 0 < w) (hm : m ≤ turnN w s) : (ordK w s m).Nodup := by
  unfold ordK
  have h := (order_perm hw hm).map (·.2)
  rw [List.map_map, show ((fun p : Nat × Nat => p.2) ∘ fun k => (k * s % w, k)) = (id : Nat → Nat) from rfl, List.map_id] at h
  exact h.nodup_iff.mpr List.nodup_range
theorem round_mem {w s m x : Nat} (hw : 0 < w) (h0 : 0 < m) (hm : m ≤ turnN w s) : x ∈ ordK w s m ↔ x ∈ roundL w s m := by
  unfold roundL
  rw [List.mem_append, List.mem_singleton]
  constructor
  · exact .inl
  · rintro (h | h)
    · exact h
    · exact (mem_ordK hw hm).mpr (h ▸ h0)
/-- by how much the number is greater -/
theorem due_is {w s m k : Nat} (hw : 0 < w) (h0 : 0 < m) (hm : m ≤ turnN w s) (hk : k < m) : (nexN w s m k : Int) = (k : Int) +
    (if m = 1 then 0 else if k < m - nexN w s m 0 then (nexN w s m 0 : Int) else if lastN w s m ≤ k then 0 - (lastN w s m : Int) else (nexN w s m 0 : Int) - (lastN w s m : Int)) := by
  by_cases h1 : m = 1
  · rw [if_pos h1]
    have := (nex_spec (s := s) hw hm hk).1
    omega
  · rw [if_neg h1]
    have t := two_of (s := s) hw (by omega) hm
    have g := (t.gap hw hm hk).2
    have sm := t.sum hw hm
    have am := t.am
    rw [g]
    unfold nex3
    have bm := t.bm
    generalize nexN w s m 0 = a at *
    generalize lastN w s m = b at *
    by_cases c1 : k < m - a
    · rw [if_pos c1, if_pos c1]
      omega
    · rw [if_neg c1, if_neg c1]
      by_cases c2 : b ≤ k
      · rw [if_pos c2, if_pos c2]
        omega
      · rw [if_neg c2, if_neg c2]
        omega
end Z

namespace Z
/-! ### the next point cuts a greatest gap -/
theorem natlt_eq {l m : List Nat} (hl : l.Pairwise (· < ·)) (hm : m.Pairwise (· < ·)) (h : ∀ k, k ∈ l ↔ k ∈ m) : l = m :=
  List.Perm.eq_of_pairwise (le := (· < ·)) (fun a b _ _ h1 h2 => absurd h1 (Nat.lt_asymm h2)) hl hm ((List.perm_ext_iff_of_nodup (hl.imp fun {a b} h e => by omega) (hm.imp fun {a b} h e => by omega)).mpr h)
theorem place_dvd {w s x : Nat} : (w : Int) ∣ (x : Int) * s - ((x * s % w : Nat) : Int) := by
  have e := mod_iff.mp (show (x * s) % w = (x * s % w) % w by rw [Nat.mod_mod])
  exact dvd_by e (by rw [Int.natCast_mul])
section
variable {w s m : Nat}
structure Cut (w s m k n A B : Nat) : Prop where
  km : k < m
  nm : n < m
  A0 : 0 < A
  B0 : 0 < B
  AB : A + B ≤ w
  hA : (w : Int) ∣ (m : Int) * s - (k : Int) * s - A
  hB : (w : Int) ∣ (n : Int) * s - (m : Int) * s - B
  gap : gapN w s m k = A + B
  nex : nexN w s m k = n
theorem cut_of (hw : 0 < w) (h0 : 0 < m) (hm : m < turnN w s) : Cut w s m (ahdP w s m).2 (bhdP w s m).2 (cutA w s m) (cutB w s m) := by
  have a1 := ahd_spec hw h0 hm
  have a2 := ahd_k hw h0 hm
  have b1 := bhd_spec hw h0 hm
  have b2 := bhd_k hw h0 hm
  have p1 := place_dvd (w := w) (s := s) (x := m)
  have p2 := place_dvd (w := w) (s := s) (x := (ahdP w s m).2)
  have p3 := place_dvd (w := w) (s := s) (x := (bhdP w s m).2)
  have p4 := Int.dvd_self_sub_emod (x := (((bhdP w s m).1 : Nat) : Int)) (m := (w : Int))
  have hA : (w : Int) ∣ (m : Int) * s - ((ahdP w s m).2 : Int) * s - (cutA w s m : Nat) := by
    refine dvd_by (Int.dvd_sub p1 p2) ?_
    rw [a2.2]
    unfold cutA hereN
    have := a1.2.1
    unfold hereN at this
    omega
  have hB : (w : Int) ∣ ((bhdP w s m).2 : Int) * s - (m : Int) * s - (cutB w s m : Nat) := by
    rw [b2.2] at p3
    refine dvd_by (Int.dvd_add (Int.dvd_sub p3 p1) (Int.dvd_neg.mpr p4)) ?_
    unfold cutB hereN
    have := b1.2.1
    unfold hereN at this
    rw [Int.natCast_emod (bhdP w s m).1 w]
    omega
  have g : gapN w s m (ahdP w s m).2 = cutA w s m + cutB w s m := by
    have l1 := a1.2.1
    have l2 := b1.2.1
    have l3 := b1.2.2.1
    refine gap_uniq hw a2.1 (by unfold cutA; omega) (by unfold cutA cutB; omega) ⟨(bhdP w s m).2, b2.1, mod_iff.mpr (dvd_by (Int.dvd_add hA hB) ?_)⟩ fun e e1 e2 j hj eq => ?_
    · rw [Int.natCast_add, Int.natCast_mul, Int.natCast_mul, Int.natCast_add]
      omega
    · have ej : j * s % w = (ahdP w s m).1 + e := by
        rw [eq, ← Nat.mod_add_mod, a2.2]
        refine Nat.mod_eq_of_lt ?_
        unfold cutA cutB at e2
        omega
      have mj : (j * s % w, j) ∈ orderL w s m := (mem_order hw (Nat.le_of_lt hm)).mpr ⟨hj, rfl⟩
      have f := here_free hw hm hj
      have c1 := a1.2.2 _ mj
      have c2 := b1.2.2.2.2 _ mj
      unfold cutA cutB at e2
      rcases Nat.lt_trichotomy (j * s % w) (hereN w s m) with l | l | l
      · have := c1 l
        omega
      · exact f l
      · have := c2 l
        omega
  have l1 := a1.2.1
  have l2 := b1.2.1
  have l3 := b1.2.2.1
  refine ⟨a2.1, b2.1, by unfold cutA; omega, by unfold cutB; omega, by unfold cutA cutB; omega, hA, hB, g, ?_⟩
  refine nex_uniq hw (Nat.le_of_lt hm) a2.1 b2.1 (mod_iff.mpr (dvd_by (Int.dvd_add hA hB) ?_))
  rw [g, Int.natCast_add, Int.natCast_mul, Int.natCast_mul, Int.natCast_add]
  omega
variable {k n A B : Nat}
theorem Cut.max (c : Cut w s m k n A B) (hw : 0 < w) (hm : m < turnN w s) {j : Nat} (hj : j < m) : gapN w s m j ≤ A + B := by
  obtain ⟨km, nm, A0, B0, AB, hA, hB, gap, nex⟩ := c
  rcases Nat.lt_or_ge (A + B) (gapN w s m j) with h | h
  · exfalso
    have x := nex_spec (s := s) hw (Nat.le_of_lt hm) hj
    have d := nex_dvd (s := s) hw (Nat.le_of_lt hm) hj
    have fr : ∀ (i : Nat) (e : Int), i < m → (w : Int) ∣ (i : Int) * s - (j : Int) * s - e → 0 < e → e < (gapN w s m j : Nat) → False := fun i e hi h1 h2 h3 => free_dvd hw hj hi h1 h2 h3
    have jm := x.1
    generalize nexN w s m j = j' at *
    generalize gapN w s m j = G at *
    have c1 : k ≤ j := by
      rcases Nat.lt_or_ge j k with l | l
      · refine (fr (j + (m - k)) A (by omega) (dvd_by hA ?_) (by omega) (by omega)).elim
        rw [Int.natCast_add, Int.add_mul, sub_cast (Nat.le_of_lt km)]
        omega
      · exact l
    have c2 : n ≤ j' := by
      rcases Nat.lt_or_ge j' n with l | l
      · refine (fr (j' + (m - n)) ((G : Int) - B) (by omega) (dvd_by (Int.dvd_sub d hB) ?_) (by omega) (by omega)).elim
        rw [Int.natCast_add, Int.add_mul, sub_cast (Nat.le_of_lt nm)]
        omega
      · exact l
    have c3 : m ≤ n + (j - k) := by
      rcases Nat.lt_or_ge (n + (j - k)) m with l | l
      · refine (fr (n + (j - k)) ((A : Int) + B) l (dvd_by (Int.dvd_add hA hB) ?_) (by omega) (by omega)).elim
        rw [Int.natCast_add, Int.add_mul, sub_cast c1]
        omega
      · exact l
    have c4 : m ≤ k + (j' - n) := by
      rcases Nat.lt_or_ge (k + (j' - n)) m with l | l
      · refine (fr (k + (j' - n)) ((G : Int) - (A + B)) l (dvd_by (Int.dvd_sub d (Int.dvd_add hA hB)) ?_) (by omega) (by omega)).elim
        rw [Int.natCast_add, Int.add_mul, sub_cast c2]
        omega
      · exact l
    omega
  · exact h
/-- the gap in which the next point falls, told by its number -/
theorem Cut.uniq (c : Cut w s m k n A B) (hw : 0 < w) (hm : m < turnN w s) {j : Nat} {e : Int} (hj : j < m) (h : (w : Int) ∣ (m : Int) * s - (j : Int) * s - e) (h1 : 0 < e) (h2 : e < (gapN w s m j : Nat)) : j = k ∧ e = A := by
  obtain ⟨km, nm, A0, B0, AB, hA, hB, gap, nex⟩ := c
  rcases Int.lt_trichotomy e (A : Int) with l | l | l
  · exact (free_dvd (s := s) (e := (A : Int) - e) hw km hj (dvd_by (Int.dvd_sub hA h) (by omega)) (by omega) (by rw [gap]; omega)).elim
  · refine ⟨inj_dvd hw (Nat.le_of_lt hm) hj km (dvd_by (Int.dvd_sub hA h) (by omega)), l⟩
  · exact (free_dvd (s := s) (e := e - (A : Int)) hw hj km (dvd_by (Int.dvd_sub h hA) (by omega)) (by omega) (by omega)).elim
theorem gap_up {m' : Nat} (hw : 0 < w) {j d : Nat} (hj : j < m') (d1 : 0 < d) (d2 : d ≤ w) (hit : ∃ i < m', (w : Int) ∣ (i : Int) * s - (j : Int) * s - (d : Nat)) (fr : ∀ (e : Int) (i : Nat), i < m' → 0 < e → e < (d : Nat) → (w : Int) ∣ (i : Int) * s - (j : Int) * s - e → False) : gapN w s m' j = d := by
  obtain ⟨i, hi, hd⟩ := hit
  refine gap_uniq hw hj d1 d2 ⟨i, hi, mod_iff.mpr (dvd_by hd ?_)⟩ fun e e1 e2 i hi eq => fr (e : Int) i hi (by omega) (by omega) (dvd_by (mod_iff.mp eq) ?_)
  · rw [Int.natCast_add, Int.natCast_mul, Int.natCast_mul]
    omega
  · rw [Int.natCast_add, Int.natCast_mul, Int.natCast_mul]
    omega
theorem Cut.more (c : Cut w s m k n A B) (hw : 0 < w) (hm : m < turnN w s) : gapN w s (m + 1) k = A ∧ gapN w s (m + 1) m = B ∧ ∀ j < m, j ≠ k → gapN w s (m + 1) j = gapN w s m j := by
  have un := fun {j : Nat} {e : Int} => c.uniq (j := j) (e := e) hw hm
  obtain ⟨km, nm, A0, B0, AB, hA, hB, gap, nex⟩ := c
  refine ⟨gap_up hw (by omega) A0 (by omega) ⟨m, by omega, hA⟩ fun e i hi e1 e2 h => ?_, gap_up hw (by omega) B0 (by omega) ⟨n, by omega, hB⟩ fun e i hi e1 e2 h => ?_, fun j hj jk => ?_⟩
  · rcases Nat.lt_or_eq_of_le (Nat.le_of_lt_succ hi) with l | l
    · exact free_dvd hw km l h e1 (by rw [gap]; omega)
    · subst l
      exact dvd_small (e := (A : Int) - e) (dvd_by (Int.dvd_sub h hA) (by omega)) (by omega) (by omega)
  · rcases Nat.lt_or_eq_of_le (Nat.le_of_lt_succ hi) with l | l
    · exact free_dvd (s := s) (e := (A : Int) + e) hw km l (dvd_by (Int.dvd_add hA h) (by omega)) (by omega) (by rw [gap]; omega)
    · subst l
      exact dvd_small (e := e) (dvd_by (Int.dvd_neg.mpr h) (by omega)) (by omega) (by omega)
  · have g := gap_pos (s := s) hw hj
    have hn := nex_spec (s := s) hw (Nat.le_of_lt hm) hj
    refine gap_up hw (by omega) (by omega) g.2 ⟨nexN w s m j, by omega, nex_dvd hw (Nat.le_of_lt hm) hj⟩ fun e i hi e1 e2 h => ?_
    rcases Nat.lt_or_eq_of_le (Nat.le_of_lt_succ hi) with l | l
    · exact free_dvd hw hj l h e1 e2
    · subst l
      exact jk (un hj h e1 e2).1
theorem gaps_range {m : Nat} (hw : 0 < w) (hm : m ≤ turnN w s) : (gapsL w s m).Perm ((List.range m).map (gapN w s m)) := by
  have h := (order_perm hw hm).map fun p => gapN w s m p.2
  rw [List.map_map] at h
  exact h
theorem Cut.perm (c : Cut w s m k n A B) (hw : 0 < w) (hm : m < turnN w s) : (gapsL w s m ++ [A, B]).Perm ((A + B) :: gapsL w s (m + 1)) := by
  obtain ⟨g1, g2, g3⟩ := c.more hw hm
  have km := c.km
  have gk := c.gap
  have nd : (List.range m).Nodup := List.nodup_range
  have pk : (List.range m).Perm (k :: (List.range m).erase k) := List.perm_cons_erase (List.mem_range.mpr km)
  have e1 : ((List.range m).erase k).map (gapN w s (m + 1)) = ((List.range m).erase k).map (gapN w s m) := List.map_congr_left fun j hj => by
    have hj' := (List.Nodup.mem_erase_iff nd).mp hj
    exact g3 j (List.mem_range.mp hj'.2) hj'.1
  have p1 : (gapsL w s m).Perm ((A + B) :: ((List.range m).erase k).map (gapN w s m)) := by
    refine (gaps_range hw (Nat.le_of_lt hm)).trans ((pk.map _).trans ?_)
    rw [List.map_cons, gk]
  have p2 : (gapsL w s (m + 1)).Perm (A :: B :: ((List.range m).erase k).map (gapN w s m)) := by
    refine (gaps_range hw hm).trans ?_
    rw [List.range_succ, List.map_append, List.map_cons, List.map_nil, g2]
    refine (((pk.map (gapN w s (m + 1))).append_right [B])).trans ?_
    rw [List.map_cons, g1, e1, List.cons_append]
    exact (List.perm_append_singleton B _).cons A
  refine ((p1.append_right [A, B]).trans ?_).trans (p2.symm.cons (A + B))
  rw [List.cons_append]
  exact List.Perm.cons _ (List.perm_append_comm (l₁ := ((List.range m).erase k).map (gapN w s m)) (l₂ := [A, B]))
theorem lens_gap {m x : Nat} (hw : 0 < w) (hm : m ≤ turnN w s) : x ∈ lenL w s m ↔ ∃ j < m, gapN w s m j = x := by
  rw [mem_len hw hm, (gaps_range hw hm).mem_iff, List.mem_map]
  exact ⟨fun ⟨j, h1, h2⟩ => ⟨j, List.mem_range.mp h1, h2⟩, fun ⟨j, h1, h2⟩ => ⟨j, List.mem_range.mpr h1, h2⟩⟩
theorem lt_max : ∀ {l : List Nat} {q : Nat}, l.Pairwise (· < ·) → l.getLast? = some q → ∀ x ∈ l, x ≤ q
  | [], _, _, h => nomatch h
  | [x], q, _, h => fun y hy => by
    cases h
    cases List.mem_singleton.mp hy
    exact Nat.le_refl _
  | x :: y :: l, q, hp, h => fun z hz => by
    have hp' := List.pairwise_cons.mp hp
    rw [List.getLast?_cons_cons] at h
    rcases List.mem_cons.mp hz with rfl | hz
    · exact Nat.le_of_lt (hp'.1 q (List.mem_of_getLast? h))
    · exact lt_max hp'.2 h z hz
/-- the new lengths -/
def frL (w s m : Nat) : List Nat := (lenL w s (m + 1)).filter fun x => !decide (x ∈ lenL w s m)
theorem Cut.fresh (c : Cut w s m k n A B) (hw : 0 < w) (hm : m < turnN w s) {l : List Nat} (hl : l.Pairwise (· < ·)) (hm2 : ∀ x, x ∈ l ↔ x = A ∨ x = B) : frL w s m = l.filter fun x => !decide (x ∈ lenL w s m) := by
  obtain ⟨g1, g2, g3⟩ := c.more hw hm
  have km := c.km
  unfold frL
  refine natlt_eq (len_lt.filter _) (hl.filter _) fun x => ?_
  rw [List.mem_filter, List.mem_filter, hm2]
  constructor
  · rintro ⟨h1, h2⟩
    refine ⟨?_, h2⟩
    obtain ⟨j, hj, e⟩ := (lens_gap hw hm).mp h1
    rcases Nat.lt_or_eq_of_le (Nat.le_of_lt_succ hj) with q | q
    · by_cases jk : j = k
      · subst jk
        exact .inl (e.symm.trans g1)
      · have : x ∈ lenL w s m := (lens_gap hw (Nat.le_of_lt hm)).mpr ⟨j, q, by rw [← g3 j q jk]; exact e⟩
        simp [this] at h2
    · subst q
      exact .inr (e.symm.trans g2)
  · rintro ⟨h1, h2⟩
    refine ⟨(lens_gap hw hm).mpr ?_, h2⟩
    rcases h1 with rfl | rfl
    · exact ⟨k, by omega, g1⟩
    · exact ⟨m, by omega, g2⟩
theorem lens_two {l : List Nat} (hl : l.Pairwise (· < ·)) {x y : Nat} (h : ∀ z ∈ l, z = x ∨ z = y) : l.length ≤ 2 := by
  match l, hl, h with
  | [], _, _ => exact Nat.zero_le _
  | [_], _, _ => exact Nat.le_succ _
  | [_, _], _, _ => exact Nat.le_refl _
  | a :: b :: c :: r, hl, h =>
    have p := List.pairwise_cons.mp hl
    have q := List.pairwise_cons.mp p.2
    have h1 := h a List.mem_cons_self
    have h2 := h b (List.mem_cons_of_mem _ List.mem_cons_self)
    have h3 := h c (List.mem_cons_of_mem _ (List.mem_cons_of_mem _ List.mem_cons_self))
    have := p.1 b List.mem_cons_self
    have := p.1 c (List.mem_cons_of_mem _ List.mem_cons_self)
    have := q.1 c List.mem_cons_self
    omega
theorem len_one (hw : 0 < w) : lenL w s 1 = [w] := by
  refine natlt_eq len_lt (List.pairwise_singleton _ _) fun x => ?_
  rw [lens_gap hw (turn_pos hw), List.mem_singleton]
  constructor
  · rintro ⟨j, hj, e⟩
    have : j = 0 := by omega
    subst this
    rw [← e, (one_gap hw).1]
  · rintro rfl
    exact ⟨0, by omega, (one_gap hw).1⟩
theorem Two.lens {a b F L : Nat} (t : Two w s m a b F L) (hw : 0 < w) (hm : m ≤ turnN w s) (h : a + b = m) : (lenL w s m).length ≤ 2 := by
  refine lens_two len_lt (x := F) (y := L) fun z hz => ?_
  obtain ⟨j, hj, e⟩ := (lens_gap hw hm).mp hz
  rw [← e, (t.gap hw hm hj).1]
  unfold gap3
  have := t.am
  split
  · exact .inl rfl
  · rw [if_pos (by omega)]
    exact .inr rfl
theorem three_old (hw : 0 < w) (h0 : 0 < m) (hm : m < turnN w s) (h : (lenL w s m).length = 3) : frL w s m = [] := by
  have m1 : m ≠ 1 := fun e => by
    rw [e, len_one hw] at h
    simp at h
  have t := two_of (s := s) hw (by omega) (Nat.le_of_lt hm)
  have c := cut_of (s := s) hw h0 hm
  generalize nexN w s m 0 = a at t
  generalize gapN w s m 0 = F at t
  generalize gapN w s m (lastN w s m) = L at t
  generalize lastN w s m = b at t
  have sm := t.sum hw (Nat.le_of_lt hm)
  have ne : a + b ≠ m := fun e => by
    have := t.lens hw (Nat.le_of_lt hm) e
    omega
  have am := t.am
  have g := (t.gap hw (Nat.le_of_lt hm) (k := m - a) (by have := t.a0; omega)).1
  have g0 := (t.gap hw (Nat.le_of_lt hm) (k := 0) (by omega)).1
  have gb := (t.gap hw (Nat.le_of_lt hm) (k := b) t.bm).1
  unfold gap3 at g g0 gb
  rw [if_neg (by omega), if_neg (by omega)] at g
  rw [if_pos (by omega)] at g0
  rw [if_neg (by omega), if_pos (by omega)] at gb
  have F0 := t.F0
  have L0 := t.L0
  have u := c.uniq hw hm (j := m - a) (e := (F : Int)) (by have := t.a0; omega) (dvd_by t.ha (by rw [sub_cast (Nat.le_of_lt am)]; omega)) (by omega) (by rw [g]; omega)
  have eA : cutA w s m = F := by omega
  have eB : cutB w s m = L := by
    have := c.gap
    rw [← u.1, g] at this
    omega
  rw [eA, eB] at c
  unfold frL
  rw [List.filter_eq_nil_iff]
  intro x hx
  obtain ⟨g1, g2, g3⟩ := c.more hw hm
  have hF : F ∈ lenL w s m := (lens_gap hw (Nat.le_of_lt hm)).mpr ⟨0, h0, g0⟩
  have hL : L ∈ lenL w s m := (lens_gap hw (Nat.le_of_lt hm)).mpr ⟨b, t.bm, gb⟩
  obtain ⟨j, hj, e⟩ := (lens_gap hw hm).mp hx
  have mem : x ∈ lenL w s m := by
    rcases Nat.lt_or_eq_of_le (Nat.le_of_lt_succ hj) with q | q
    · by_cases jk : j = (ahdP w s m).2
      · rw [jk, g1] at e
        exact e ▸ hF
      · exact (lens_gap hw (Nat.le_of_lt hm)).mpr ⟨j, q, by rw [← g3 j q jk]; exact e⟩
    · rw [q, g2] at e
      exact e ▸ hL
  simp [mem]
/-- the whole turn: one length -/
theorem full_le (hw : 0 < w) {i j : Nat} (hi : i < turnN w s) (hj : j < turnN w s) : gapN w s (turnN w s) j ≤ gapN w s (turnN w s) i := by
  have t := turn_dvd0 (w := w) (s := s) hw
  have x := nex_spec (s := s) hw (Nat.le_refl _) hi
  have d := nex_dvd (s := s) hw (Nat.le_refl _) hi
  have gi := gap_pos (s := s) hw hi
  rcases Nat.lt_or_ge (gapN w s (turnN w s) i) (gapN w s (turnN w s) j) with h | h
  · exfalso
    have xm := x.1
    generalize nexN w s (turnN w s) i = n at *
    have fr : ∀ q : Nat, q < turnN w s → (w : Int) ∣ (q : Int) * s - (j : Int) * s - (gapN w s (turnN w s) i : Nat) → False := fun q hq hd => free_dvd hw hj hq hd (by omega) (by omega)
    generalize gapN w s (turnN w s) i = G at *
    generalize turnN w s = T at *
    rcases Nat.lt_or_ge (j + n) i with a | a
    · refine fr (j + n + T - i) (by omega) (dvd_by (Int.dvd_add d t) ?_)
      rw [sub_cast (by omega), Int.natCast_add, Int.natCast_add, Int.add_mul, Int.add_mul]
      omega
    · rcases Nat.lt_or_ge (j + n - i) T with b | b
      · refine fr (j + n - i) b (dvd_by d ?_)
        rw [sub_cast a, Int.natCast_add, Int.add_mul]
        omega
      · refine fr (j + n - i - T) (by omega) (dvd_by (Int.dvd_sub d t) ?_)
        rw [sub_cast b, sub_cast a, Int.natCast_add, Int.add_mul]
        omega
  · exact h
theorem len_full (hw : 0 < w) : (lenL w s (turnN w s)).length ≤ 2 := by
  have h0 := turn_pos (s := s) hw
  refine lens_two len_lt (x := gapN w s (turnN w s) 0) (y := gapN w s (turnN w s) 0) fun z hz => ?_
  obtain ⟨j, hj, e⟩ := (lens_gap hw (Nat.le_refl _)).mp hz
  have a := full_le hw h0 hj
  have b := full_le hw hj h0
  omega
/-! ### the lists of stops and of new lengths -/
theorem stops_head (hw : 0 < w) : (stopsL w s)[0]? = some 1 := by
  have h0 := turn_pos (s := s) hw
  obtain ⟨t, ht⟩ : ∃ t, turnN w s = t + 1 := ⟨turnN w s - 1, by omega⟩
  unfold stopsL
  rw [ht, List.range_succ_eq_map, List.filter_cons_of_pos (by show decide ((lenL w s 1).length < 3) = true; rw [len_one hw]; rfl)]
  rfl
theorem stops_last (hw : 0 < w) : (stopsL w s).getLast? = some (turnN w s) := by
  have h0 := turn_pos (s := s) hw
  have hl := len_full (s := s) hw
  obtain ⟨t, ht⟩ : ∃ t, turnN w s = t + 1 := ⟨turnN w s - 1, by omega⟩
  unfold stopsL
  rw [ht] at hl ⊢
  rw [List.range_succ, List.filter_append, List.filter_cons_of_pos (by refine decide_eq_true ?_; rw [Nat.add_comm]; omega), List.map_append]
  simp [Nat.add_comm]
theorem stops_mem {m : Nat} (h0 : 0 < m) (hm : m ≤ turnN w s) : m ∈ stopsL w s ↔ (lenL w s m).length < 3 := by
  unfold stopsL
  rw [List.mem_map]
  constructor
  · rintro ⟨i, hi, e⟩
    have := of_decide_eq_true (List.mem_filter.mp hi).2
    rw [e] at this
    exact this
  · intro h
    refine ⟨m - 1, List.mem_filter.mpr ⟨List.mem_range.mpr (by omega), ?_⟩, by omega⟩
    rw [show 1 + (m - 1) = m by omega]
    exact decide_eq_true h
theorem new_head (hw : 0 < w) : ∀ i, (newL w s (i + 1))[0]? = some (1, w)
  | 0 => by
    show ([] ++ freshL w s 0)[0]? = _
    unfold freshL
    rw [List.nil_append, show 1 + 0 = 1 from rfl, len_one hw]
    rfl
  | i + 1 => by
    have ih := new_head hw i
    show (newL w s (i + 1) ++ freshL w s (i + 1))[0]? = _
    rw [List.getElem?_append_left (List.getElem?_eq_some_iff.mp ih).1]
    exact ih
theorem fresh_none {i m : Nat} (h : i ≠ m) : ((freshL w s i).filter fun p => decide (p.1 = m + 1)) = [] := by
  rw [List.filter_eq_nil_iff]
  intro p hp
  unfold freshL at hp
  obtain ⟨x, _, rfl⟩ := List.mem_map.mp hp
  simp
  omega
theorem fresh_all {m : Nat} (h0 : 0 < m) : ((freshL w s m).filter fun p => decide (p.1 = m + 1)).map (·.2) = frL w s m := by
  have e : ((freshL w s m).filter fun p => decide (p.1 = m + 1)) = freshL w s m := List.filter_eq_self.mpr fun p hp => by
    unfold freshL at hp
    obtain ⟨x, _, rfl⟩ := List.mem_map.mp hp
    exact decide_eq_true (Nat.add_comm _ _)
  rw [e]
  unfold freshL frL
  rw [List.map_map, if_neg (by omega), Nat.add_comm]
  exact List.map_id _
theorem new_at {m : Nat} (h0 : 0 < m) : ∀ i, ((newL w s i).filter fun p => decide (p.1 = m + 1)).map (·.2) = if m < i then frL w s m else []
  | 0 => rfl
  | i + 1 => by
    have ih := new_at h0 i
    show ((newL w s i ++ freshL w s i).filter fun p => decide (p.1 = m + 1)).map (·.2) = _
    rw [List.filter_append, List.map_append, ih]
    by_cases h : i = m
    · subst h
      rw [fresh_all h0, if_neg (Nat.lt_irrefl _), if_pos (Nat.lt_succ_self _)]
      rfl
    · rw [fresh_none h]
      by_cases l : m < i
      · rw [if_pos l, if_pos (by omega)]
        simp
      · rw [if_neg l, if_neg (by omega)]
        rfl
end
end Z

namespace Z
/-! ### when there are three lengths; the new ones one by one -/
section
variable {w s m : Nat}
theorem three_in {l : List Nat} {x y z : Nat} (hx : x ∈ l) (hy : y ∈ l) (hz : z ∈ l) (h1 : x ≠ y) (h2 : x ≠ z) (h3 : y ≠ z) : 3 ≤ l.length := by
  match l, hx, hy, hz with
  | [], hx, _, _ => cases hx
  | [a], hx, hy, hz =>
    have e1 := List.mem_singleton.mp hx
    have e2 := List.mem_singleton.mp hy
    omega
  | [a, b], hx, hy, hz =>
    have e1 : x = a ∨ x = b := by simpa using hx
    have e2 : y = a ∨ y = b := by simpa using hy
    have e3 : z = a ∨ z = b := by simpa using hz
    omega
  | a :: b :: c :: r, _, _, _ =>
    rw [List.length_cons, List.length_cons, List.length_cons]
    omega
theorem few_iff (hw : 0 < w) (h0 : 0 < m) (hm : m ≤ turnN w s) : (lenL w s m).length < 3 ↔ (m = 1 ∨ nexN w s m 0 + lastN w s m = m ∨ gapN w s m 0 = gapN w s m (lastN w s m)) := by
  by_cases m1 : m = 1
  · subst m1
    rw [len_one hw]
    simp
  · have t := two_of (s := s) hw (by omega) hm
    generalize nexN w s m 0 = a at *
    generalize gapN w s m 0 = F at *
    generalize gapN w s m (lastN w s m) = L at *
    generalize lastN w s m = b at *
    constructor
    · intro h
      by_cases e : a + b = m
      · exact .inr (.inl e)
      · refine .inr (.inr ?_)
        rcases Nat.lt_trichotomy F L with l | l | l
        · exfalso
          have sm := t.sum hw hm
          have am := t.am
          have bm := t.bm
          have a0 := t.a0
          have g := (t.gap hw hm (k := m - a) (by omega)).1
          have g0 := (t.gap hw hm (k := 0) (by omega)).1
          have gb := (t.gap hw hm (k := b) t.bm).1
          unfold gap3 at g g0 gb
          rw [if_neg (by omega), if_neg (by omega)] at g
          rw [if_pos (by omega)] at g0
          rw [if_neg (by omega), if_pos (by omega)] at gb
          have F0 := t.F0
          have L0 := t.L0
          have := three_in ((lens_gap hw hm).mpr ⟨_, by omega, g0⟩) ((lens_gap hw hm).mpr ⟨_, bm, gb⟩) ((lens_gap hw hm).mpr ⟨_, by omega, g⟩) (by omega) (by omega) (by omega)
          omega
        · exact l
        · exfalso
          have sm := t.sum hw hm
          have am := t.am
          have bm := t.bm
          have a0 := t.a0
          have g := (t.gap hw hm (k := m - a) (by omega)).1
          have g0 := (t.gap hw hm (k := 0) (by omega)).1
          have gb := (t.gap hw hm (k := b) t.bm).1
          unfold gap3 at g g0 gb
          rw [if_neg (by omega), if_neg (by omega)] at g
          rw [if_pos (by omega)] at g0
          rw [if_neg (by omega), if_pos (by omega)] at gb
          have F0 := t.F0
          have L0 := t.L0
          have := three_in ((lens_gap hw hm).mpr ⟨_, by omega, g0⟩) ((lens_gap hw hm).mpr ⟨_, bm, gb⟩) ((lens_gap hw hm).mpr ⟨_, by omega, g⟩) (by omega) (by omega) (by omega)
          omega
    · rintro (h | h | h)
      · exact absurd h m1
      · have := t.lens hw hm h
        omega
      · have : (lenL w s m).length ≤ 2 := lens_two len_lt (x := F) (y := F + L) fun z hz => by
          obtain ⟨j, hj, e⟩ := (lens_gap hw hm).mp hz
          rw [← e, (t.gap hw hm hj).1]
          unfold gap3
          split
          · exact .inl rfl
          · split
            · exact .inl h.symm
            · exact .inr rfl
        omega
theorem gap_down {m' j : Nat} (hw : 0 < w) (hj : j < m) (h : m ≤ m') : gapN w s m' j ≤ gapN w s m j := by
  obtain ⟨n, hn, e⟩ := gap_at (s := s) hw hj
  rw [e]
  exact gap_le (by omega)
theorem full_gap (hw : 0 < w) : turnN w s * gapN w s (turnN w s) 0 = w := by
  have h0 := turn_pos (s := s) hw
  have e : (List.range (turnN w s)).map (gapN w s (turnN w s)) = List.replicate (turnN w s) (gapN w s (turnN w s) 0) := by
    refine List.eq_replicate_iff.mpr ⟨by simp, fun x hx => ?_⟩
    obtain ⟨j, hj, rfl⟩ := List.mem_map.mp hx
    have hj' := List.mem_range.mp hj
    exact Nat.le_antisymm (full_le hw h0 hj') (full_le hw hj' h0)
  have h1 := (gaps_range (s := s) hw (Nat.le_refl _)).sum_nat
  rw [e, gaps_sum hw h0 (Nat.le_refl _)] at h1
  have e2 : (List.replicate (turnN w s) (gapN w s (turnN w s) 0)).sum = turnN w s * gapN w s (turnN w s) 0 := by simp
  omega
theorem full_div (hw : 0 < w) : gapN w s (turnN w s) 0 = w / turnN w s := by
  exact (Nat.div_eq_of_eq_mul_right (turn_pos hw) (full_gap hw).symm).symm
/-- all lengths ahead -/
def sizeL (w s i : Nat) : List Nat := (newL w s i).map fun (p : Nat × Nat) => p.2
theorem size_one (hw : 0 < w) : sizeL w s 1 = [w] := by
  show ([] ++ freshL w s 0).map (fun (p : Nat × Nat) => p.2) = [w]
  unfold freshL
  rw [List.nil_append, show 1 + 0 = 1 from rfl, len_one hw]
  rfl
theorem size_step {i : Nat} (h0 : 0 < i) : sizeL w s (i + 1) = sizeL w s i ++ frL w s i := by
  show (newL w s i ++ freshL w s i).map (fun (p : Nat × Nat) => p.2) = _
  rw [List.map_append]
  congr 1
  unfold freshL frL
  rw [List.map_map, if_neg (by omega), Nat.add_comm]
  exact List.map_id _
theorem size_inv (hw : 0 < w) : ∀ i, 0 < i → i ≤ turnN w s → (sizeL w s i).Nodup ∧ (∀ x ∈ lenL w s i, x ∈ sizeL w s i) ∧ (∀ x ∈ sizeL w s i, (x ∈ lenL w s i ∨ ∀ y ∈ lenL w s i, y < x) ∧ ∃ m, 0 < m ∧ m ≤ i ∧ x ∈ lenL w s m)
  | 0, h, _ => absurd h (Nat.lt_irrefl 0)
  | 1, _, _ => by
    rw [size_one hw]
    refine ⟨by simp, fun x hx => by rw [len_one hw] at hx; exact hx, fun x hx => ?_⟩
    rw [← len_one (s := s) hw] at hx
    exact ⟨.inl hx, 1, by omega, by omega, hx⟩
  | i + 2, _, h => by
    obtain ⟨nd, all, inv⟩ := size_inv hw (i + 1) (by omega) (by omega)
    have h0 : 0 < i + 1 := Nat.succ_pos i
    rw [show i + 2 = (i + 1) + 1 from rfl] at h ⊢
    generalize i + 1 = q at *
    have hq : q < turnN w s := h
    have c := cut_of (s := s) hw h0 hq
    have mx := fun {j : Nat} => c.max (j := j) hw hq
    obtain ⟨g1, g2, g3⟩ := c.more hw hq
    have km := c.km
    have gk := c.gap
    have A0 := c.A0
    have B0 := c.B0
    generalize (ahdP w s q).2 = k at *
    generalize cutA w s q = A at *
    generalize cutB w s q = B at *
    have top : A + B ∈ lenL w s q := (lens_gap hw (Nat.le_of_lt hq)).mpr ⟨k, km, gk⟩
    have bound : ∀ y ∈ lenL w s q, y ≤ A + B := fun y hy => by
      obtain ⟨j, hj, e⟩ := (lens_gap hw (Nat.le_of_lt hq)).mp hy
      rw [← e]
      exact mx hj
    have next : ∀ y ∈ lenL w s (q + 1), y ∈ lenL w s q ∨ y = A ∨ y = B := fun y hy => by
      obtain ⟨j, hj, e⟩ := (lens_gap hw hq).mp hy
      rcases Nat.lt_or_eq_of_le (Nat.le_of_lt_succ hj) with l | l
      · by_cases jk : j = k
        · subst jk
          exact .inr (.inl (e.symm.trans g1))
        · exact .inl ((lens_gap hw (Nat.le_of_lt hq)).mpr ⟨j, l, by rw [← g3 j l jk]; exact e⟩)
      · subst l
        exact .inr (.inr (e.symm.trans g2))
    have stay : ∀ y ∈ lenL w s q, y ∈ lenL w s (q + 1) ∨ y = A + B := fun y hy => by
      obtain ⟨j, hj, e⟩ := (lens_gap hw (Nat.le_of_lt hq)).mp hy
      by_cases jk : j = k
      · subst jk
        exact .inr (e.symm.trans gk)
      · exact .inl ((lens_gap hw hq).mpr ⟨j, by omega, by rw [g3 j hj jk]; exact e⟩)
    have fresh : ∀ x ∈ frL w s q, x ∈ lenL w s (q + 1) ∧ x ∉ lenL w s q ∧ x < A + B := fun x hx => by
      have h1 := List.mem_filter.mp hx
      have h2 : x ∉ lenL w s q := by simpa using h1.2
      refine ⟨h1.1, h2, ?_⟩
      rcases next x h1.1 with n | n | n
      · exact absurd n h2
      · omega
      · omega
    rw [size_step h0]
    refine ⟨List.nodup_append.mpr ⟨nd, (len_lt.filter _).imp fun h => Nat.ne_of_lt h, fun x hx y hy e => ?_⟩, fun x hx => ?_, fun x hx => ?_⟩
    · subst e
      obtain ⟨f1, f2, f3⟩ := fresh x hy
      rcases (inv x hx).1 with n | n
      · exact f2 n
      · have := n _ top
        omega
    · by_cases e : x ∈ lenL w s q
      · exact List.mem_append_left _ (all x e)
      · exact List.mem_append_right _ (List.mem_filter.mpr ⟨hx, by simpa using e⟩)
    · rcases List.mem_append.mp hx with hx | hx
      · obtain ⟨i1, m, i2, i3, i4⟩ := inv x hx
        refine ⟨?_, m, i2, by omega, i4⟩
        by_cases e : x ∈ lenL w s (q + 1)
        · exact .inl e
        · refine .inr fun y hy => ?_
          have yb : y ≤ A + B := by
            rcases next y hy with n | n | n
            · exact bound y n
            · omega
            · omega
          rcases i1 with n | n
          · rcases stay x n with r | r
            · exact absurd r e
            · rcases Nat.lt_or_eq_of_le yb with l | l
              · omega
              · rw [r, ← l] at e
                exact absurd hy e
          · have := n _ top
            omega
      · obtain ⟨f1, _, _⟩ := fresh x hx
        exact ⟨.inl f1, q + 1, by omega, by omega, f1⟩
theorem size_min (hw : 0 < w) : w / turnN w s ∈ sizeL w s (turnN w s) ∧ ∀ x ∈ sizeL w s (turnN w s), w / turnN w s ≤ x := by
  have h0 := turn_pos (s := s) hw
  obtain ⟨nd, all, inv⟩ := size_inv (s := s) hw _ h0 (Nat.le_refl _)
  rw [← full_div hw]
  refine ⟨all _ ((lens_gap hw (Nat.le_refl _)).mpr ⟨0, h0, rfl⟩), fun x hx => ?_⟩
  obtain ⟨_, m, m0, mT, hm⟩ := inv x hx
  obtain ⟨j, hj, e⟩ := (lens_gap hw mT).mp hm
  rw [← e]
  exact Nat.le_trans (full_le hw (by omega) h0) (gap_down hw hj mT)
/-- in order -/
theorem new_num : ∀ i, ∀ p ∈ newL w s i, 1 ≤ p.1 ∧ p.1 ≤ i
  | 0, p, h => by cases h
  | i + 1, p, h => by
    have h' : p ∈ newL w s i ++ freshL w s i := h
    rcases List.mem_append.mp h' with h' | h'
    · have := new_num i p h'
      omega
    · unfold freshL at h'
      obtain ⟨x, _, rfl⟩ := List.mem_map.mp h'
      show 1 ≤ 1 + i ∧ 1 + i ≤ i + 1
      omega
theorem new_order : ∀ i, (newL w s i).Pairwise fun p q => p.1 < q.1 ∨ (p.1 = q.1 ∧ p.2 ≤ q.2)
  | 0 => List.Pairwise.nil
  | i + 1 => by
    show (newL w s i ++ freshL w s i).Pairwise _
    refine List.pairwise_append.mpr ⟨new_order i, ?_, fun p hp q hq => ?_⟩
    · unfold freshL
      exact List.pairwise_map.mpr ((len_lt.filter _).imp fun h => .inr ⟨rfl, Nat.le_of_lt h⟩)
    · have := new_num i p hp
      unfold freshL at hq
      obtain ⟨x, _, rfl⟩ := List.mem_map.mp hq
      exact .inl (by show p.1 < 1 + i; omega)
end
end Z

namespace Z
/-! ### rows mirrored, rows twice as great -/
section
variable {w s m : Nat}
/-- next to one another: what tells gap and next -/
theorem nex_to {m' w' s' j d n : Nat} (hw : 0 < w') (hm : m' ≤ turnN w' s') (hj : j < m') (d1 : 0 < d) (d2 : d ≤ w') (hn : n < m') (hd : (w' : Int) ∣ (n : Int) * s' - (j : Int) * s' - (d : Nat)) (fr : ∀ (e : Int) (i : Nat), i < m' → 0 < e → e < (d : Nat) → (w' : Int) ∣ (i : Int) * s' - (j : Int) * s' - e → False) : gapN w' s' m' j = d ∧ nexN w' s' m' j = n := by
  have g := gap_up (s := s') hw hj d1 d2 ⟨n, hn, hd⟩ fr
  refine ⟨g, nex_uniq hw hm hj hn (mod_iff.mpr (dvd_by hd ?_))⟩
  rw [g, Int.natCast_add, Int.natCast_mul, Int.natCast_mul]
  omega
theorem mir_mul {x : Nat} (hs : s ≤ w) : (x : Int) * ((w - s : Nat) : Int) = (x : Int) * w - (x : Int) * s := by
  rw [Int.ofNat_sub hs, Int.mul_sub]
theorem mir_turn (hs : s ≤ w) : turnN w (w - s) = turnN w s := by
  unfold turnN
  rw [Nat.gcd_self_sub_right hs]
theorem mir_nex (hw : 0 < w) (hs : s ≤ w) (hm : m ≤ turnN w s) {k : Nat} (hk : k < m) : gapN w (w - s) m (nexN w s m k) = gapN w s m k ∧ nexN w (w - s) m (nexN w s m k) = k := by
  have x := nex_spec (s := s) hw hm hk
  have d := nex_dvd (s := s) hw hm hk
  have g := gap_pos (s := s) hw hk
  refine nex_to hw (by rw [mir_turn hs]; exact hm) x.1 (by omega) g.2 hk ?_ fun e i hi e1 e2 h => ?_
  · have z : (w : Int) ∣ (w : Int) * ((k : Int) - (nexN w s m k : Int)) := Int.dvd_mul_right _ _
    refine dvd_by (Int.dvd_add d z) ?_
    rw [mir_mul hs, mir_mul hs, Int.mul_sub, Int.mul_comm (w : Int), Int.mul_comm (w : Int)]
    omega
  · have z : (w : Int) ∣ (w : Int) * ((i : Int) - (nexN w s m k : Int)) := Int.dvd_mul_right _ _
    refine free_dvd (s := s) (e := (gapN w s m k : Int) - e) hw hk hi (dvd_by (Int.dvd_add (Int.dvd_sub z h) d) ?_) (by omega) (by omega)
    rw [mir_mul hs, mir_mul hs, Int.mul_sub, Int.mul_comm (w : Int), Int.mul_comm (w : Int)]
    omega
theorem mir_round (hw : 0 < w) (hs : s ≤ w) (h0 : 0 < m) (hm : m ≤ turnN w s) : ∀ i ≤ m, (roundL w (w - s) m)[i]? = (roundL w s m)[m - i]?
  | 0, _ => by rw [round_head hw h0 (by rw [mir_turn hs]; exact hm), Nat.sub_zero, round_last hw hm]
  | i + 1, h => by
    have ih := mir_round hw hs h0 hm i (by omega)
    obtain ⟨k, hk, e1, e2⟩ := round_next (s := w - s) hw h0 (by rw [mir_turn hs]; exact hm) (show i < m by omega)
    obtain ⟨q, hq, f1, f2⟩ := round_next (s := s) hw h0 hm (show m - (i + 1) < m by omega)
    rw [show m - (i + 1) + 1 = m - i by omega] at f2
    have ek : k = nexN w s m q := by
      rw [ih, f2] at e1
      exact (Option.some.inj e1).symm
    rw [e2, f1, ek, (mir_nex hw hs hm hq).2]
theorem round_length (hw : 0 < w) (hm : m ≤ turnN w s) : (roundL w s m).length = m + 1 := by
  unfold roundL
  rw [List.length_append, ordK_len hw hm]
  rfl
theorem mir_all (hw : 0 < w) (hs : s ≤ w) (h0 : 0 < m) (hm : m ≤ turnN w s) : roundL w (w - s) m = (roundL w s m).reverse := by
  have hm' : m ≤ turnN w (w - s) := by rw [mir_turn hs]; exact hm
  refine List.ext_getElem? fun i => ?_
  rcases Nat.lt_or_ge m i with h | h
  · rw [List.getElem?_eq_none (by rw [round_length hw hm']; omega), List.getElem?_eq_none (by rw [List.length_reverse, round_length hw hm]; omega)]
  · rw [mir_round hw hs h0 hm i h, List.getElem?_reverse (by rw [round_length hw hm]; omega), round_length hw hm]
    congr 1
/-- the points but point 0 come in the other order -/
theorem mir_order (hw : 0 < w) (hs : s ≤ w) (h0 : 0 < m) (hm : m ≤ turnN w s) : (ordK w (w - s) m).drop 1 = ((ordK w s m).drop 1).reverse := by
  have e := mir_all hw hs h0 hm
  have z1 := ordK_zero (s := w - s) hw h0 (by rw [mir_turn hs]; exact hm)
  have z2 := ordK_zero (s := s) hw h0 hm
  unfold roundL at e
  cases c1 : ordK w (w - s) m with
  | nil => rw [c1] at z1; cases z1
  | cons x r =>
    cases c2 : ordK w s m with
    | nil => rw [c2] at z2; cases z2
    | cons y t =>
      rw [c1] at z1 e
      rw [c2] at z2 e
      cases z1
      cases z2
      rw [List.reverse_append, List.reverse_cons] at e
      have e' : r = t.reverse := by simpa using e
      exact e'
theorem mir_gaps (hw : 0 < w) (hs : s ≤ w) (h0 : 0 < m) (hm : m ≤ turnN w s) : gapsL w (w - s) m = (gapsL w s m).reverse := by
  have hm' : m ≤ turnN w (w - s) := by rw [mir_turn hs]; exact hm
  refine List.ext_getElem? fun i => ?_
  rcases Nat.lt_or_ge i m with h | h
  · rw [List.getElem?_reverse (by rw [gaps_len hw hm]; exact h), gaps_len hw hm, gaps_ordK, gaps_ordK, List.getElem?_map, List.getElem?_map]
    obtain ⟨q, hq, f1, f2⟩ := round_next (s := s) hw h0 hm (show m - 1 - i < m by omega)
    have r := mir_round hw hs h0 hm i (by omega)
    rw [show m - i = m - 1 - i + 1 by omega, f2] at r
    unfold roundL at r f1
    rw [List.getElem?_append_left (by rw [ordK_len hw hm']; exact h)] at r
    rw [List.getElem?_append_left (by rw [ordK_len hw hm]; omega)] at f1
    rw [r, f1]
    show some _ = some _
    rw [(mir_nex hw hs hm hq).1]
  · rw [List.getElem?_eq_none (by rw [gaps_len hw hm']; exact h), List.getElem?_eq_none (by rw [List.length_reverse, gaps_len hw hm]; exact h)]
theorem mir_len (hw : 0 < w) (hs : s ≤ w) (h0 : 0 < m) (hm : m ≤ turnN w s) : lenL w (w - s) m = lenL w s m := by
  refine natlt_eq len_lt len_lt fun x => ?_
  rw [mem_len hw (by rw [mir_turn hs]; exact hm), mem_len hw hm, mir_gaps hw hs h0 hm, List.mem_reverse]
theorem mir_right (hw : 0 < w) (hs : s ≤ w) (h0 : 0 < m) (hm : m ≤ turnN w s) : nexN w (w - s) m 0 = lastN w s m ∧ gapN w (w - s) m 0 = gapN w s m (lastN w s m) := by
  have l := last_lt (s := s) hw h0 hm
  have n := last_nex (s := s) hw h0 hm
  have x := mir_nex hw hs hm l
  rw [n] at x
  exact ⟨x.2, x.1⟩
theorem last_of {k : Nat} (hw : 0 < w) (h0 : 0 < m) (hm : m ≤ turnN w s) (hk : k < m) (h : nexN w s m k = 0) : k = lastN w s m := by
  have d := nex_dvd (s := s) hw hm hk
  have l := last_lt (s := s) hw h0 hm
  have n := last_nex (s := s) hw h0 hm
  have d2 := nex_dvd (s := s) hw hm l
  rw [h] at d
  rw [n] at d2
  have f : ∀ i j : Nat, i < m → j < m → ∀ e : Int, (w : Int) ∣ (i : Int) * s - (j : Int) * s - e → 0 < e → e < (gapN w s m j : Nat) → False := fun i j hi hj e h1 h2 h3 => free_dvd hw hj hi h1 h2 h3
  rcases Nat.lt_trichotomy (gapN w s m k) (gapN w s m (lastN w s m)) with q | q | q
  · exact (f k (lastN w s m) hk l ((gapN w s m (lastN w s m) : Int) - (gapN w s m k : Int)) (dvd_by (Int.dvd_sub d2 d) (by omega)) (by omega) (by have := gap_pos (s := s) hw hk; omega)).elim
  · refine inj_dvd hw hm hk l (dvd_by (Int.dvd_sub d2 d) (by omega))
  · exact (f (lastN w s m) k l hk ((gapN w s m k : Int) - (gapN w s m (lastN w s m) : Int)) (dvd_by (Int.dvd_sub d d2) (by omega)) (by omega) (by have := gap_pos (s := s) hw l; omega)).elim
theorem mir_left (hw : 0 < w) (hs : s ≤ w) (h0 : 0 < m) (hm : m ≤ turnN w s) : lastN w (w - s) m = nexN w s m 0 ∧ gapN w (w - s) m (lastN w (w - s) m) = gapN w s m 0 := by
  have x := mir_nex hw hs hm h0
  have n := (nex_spec (s := s) hw hm h0).1
  have e := last_of (s := w - s) hw h0 (by rw [mir_turn hs]; exact hm) n x.2
  rw [← e]
  exact ⟨rfl, x.1⟩
theorem mir_cut (hw : 0 < w) (hs : s ≤ w) (h0 : 0 < m) (hm : m < turnN w s) : (ahdP w (w - s) m).2 = (bhdP w s m).2 ∧ (bhdP w (w - s) m).2 = (ahdP w s m).2 ∧ cutA w (w - s) m = cutB w s m ∧ cutB w (w - s) m = cutA w s m := by
  have hm' : m < turnN w (w - s) := by rw [mir_turn hs]; exact hm
  have c := cut_of (s := s) hw h0 hm
  have c' := cut_of (s := w - s) hw h0 hm'
  have x := mir_nex hw hs (Nat.le_of_lt hm) c.km
  rw [c.nex, c.gap] at x
  have A0 := c.A0
  have u := c'.uniq hw hm' (j := (bhdP w s m).2) (e := (cutB w s m : Int)) c.nm (by
    have z : (w : Int) ∣ (w : Int) * ((m : Int) - ((bhdP w s m).2 : Int)) := Int.dvd_mul_right _ _
    refine dvd_by (Int.dvd_add c.hB z) ?_
    rw [mir_mul hs, mir_mul hs, Int.mul_sub, Int.mul_comm (w : Int), Int.mul_comm (w : Int)]
    omega) (by have := c.B0; omega) (by rw [x.1]; omega)
  have eA : cutA w (w - s) m = cutB w s m := by omega
  have g := c'.gap
  rw [← u.1, x.1] at g
  refine ⟨u.1.symm, ?_, eA, by omega⟩
  have n := c'.nex
  rw [← u.1, x.2] at n
  exact n.symm
theorem dvd_eq {a x y : Int} (h : a ∣ x) (e : x = y) : a ∣ y := e ▸ h
/-! twice -/
theorem dbl_turn (hw : 0 < w) : turnN (2 * w) (2 * s) = turnN w s := by
  unfold turnN
  rw [Nat.gcd_mul_left, Nat.mul_div_mul_left _ _ (by decide)]
theorem dbl_dvd {x : Int} (h : (w : Int) ∣ x) : ((2 * w : Nat) : Int) ∣ 2 * x := by
  rw [Int.natCast_mul]
  exact Int.mul_dvd_mul_left 2 h
theorem dbl_nex (hw : 0 < w) (hm : m ≤ turnN w s) {k : Nat} (hk : k < m) : gapN (2 * w) (2 * s) m k = 2 * gapN w s m k ∧ nexN (2 * w) (2 * s) m k = nexN w s m k := by
  have x := nex_spec (s := s) hw hm hk
  have d := nex_dvd (s := s) hw hm hk
  have g := gap_pos (s := s) hw hk
  have c : ∀ x : Nat, (x : Int) * ((2 * s : Nat) : Int) = 2 * ((x : Int) * s) := fun x => by
    rw [Int.natCast_mul, Int.mul_left_comm]
    rfl
  refine nex_to (by omega) (by rw [dbl_turn hw]; exact hm) hk (by omega) (by omega) x.1 (dvd_by (dbl_dvd d) ?_) fun e i hi e1 e2 h => ?_
  · rw [c, c]
    omega
  · rw [c, c, Int.natCast_mul] at h
    have even : ∃ f : Int, e = 2 * f := by
      obtain ⟨q, hq⟩ := h
      refine ⟨(i : Int) * s - (k : Int) * s - (w : Int) * q, ?_⟩
      rw [Int.mul_assoc] at hq
      have : ((2 : Nat) : Int) = 2 := rfl
      rw [this] at hq
      omega
    obtain ⟨f, rfl⟩ := even
    refine free_dvd (s := s) (e := f) hw hk hi ?_ (by omega) (by omega)
    have h2 : (2 : Int) * (w : Int) ∣ 2 * ((i : Int) * s - (k : Int) * s - f) := by
      have : ((2 : Nat) : Int) = 2 := rfl
      rw [this] at h
      exact dvd_eq h (by omega)
    exact Int.dvd_of_mul_dvd_mul_left (by decide) h2
theorem dbl_round (hw : 0 < w) (h0 : 0 < m) (hm : m ≤ turnN w s) : ∀ i ≤ m, (roundL (2 * w) (2 * s) m)[i]? = (roundL w s m)[i]?
  | 0, _ => by rw [round_head hw h0 hm, round_head (by omega) h0 (by rw [dbl_turn hw]; exact hm)]
  | i + 1, h => by
    have ih := dbl_round hw h0 hm i (by omega)
    obtain ⟨k, hk, e1, e2⟩ := round_next (w := 2 * w) (s := 2 * s) (by omega) h0 (by rw [dbl_turn hw]; exact hm) (show i < m by omega)
    obtain ⟨q, hq, f1, f2⟩ := round_next (s := s) hw h0 hm (show i < m by omega)
    have ek : k = q := by
      rw [ih, f1] at e1
      exact (Option.some.inj e1).symm
    rw [e2, f2, ek, (dbl_nex hw hm hq).2]
theorem dbl_order (hw : 0 < w) (h0 : 0 < m) (hm : m ≤ turnN w s) : ordK (2 * w) (2 * s) m = ordK w s m := by
  have hm' : m ≤ turnN (2 * w) (2 * s) := by rw [dbl_turn hw]; exact hm
  refine List.ext_getElem? fun i => ?_
  rcases Nat.lt_or_ge i m with h | h
  · have e := dbl_round hw h0 hm i (by omega)
    unfold roundL at e
    rwa [List.getElem?_append_left (by rw [ordK_len (by omega) hm']; exact h), List.getElem?_append_left (by rw [ordK_len hw hm]; exact h)] at e
  · rw [List.getElem?_eq_none (by rw [ordK_len (by omega) hm']; exact h), List.getElem?_eq_none (by rw [ordK_len hw hm]; exact h)]
theorem dbl_gaps (hw : 0 < w) (h0 : 0 < m) (hm : m ≤ turnN w s) : gapsL (2 * w) (2 * s) m = (gapsL w s m).map fun x => 2 * x := by
  rw [gaps_ordK, gaps_ordK, dbl_order hw h0 hm, List.map_map]
  exact List.map_congr_left fun k hk => (dbl_nex hw hm ((mem_ordK hw hm).mp hk)).1
end
end Z

namespace Z
/-! ### two steps -/
def insK (l : List Nat) (h : Nat) : List Nat := if h ∈ l then l else l ++ [h]
def rowK (w a b i : Nat) (l : List Nat) (j : Nat) : List Nat := (List.range j).foldl (fun l j => insK l ((i * a + j * b) % w)) l
def outK (w a b q i : Nat) : List Nat := (List.range i).foldl (fun l i => rowK w a b i l q) []
theorem ins_nodup {l : List Nat} {h : Nat} (n : l.Nodup) : (insK l h).Nodup := by
  unfold insK
  split
  · exact n
  · exact List.nodup_append.mpr ⟨n, by simp, fun a ha b hb e => by
      have := List.mem_singleton.mp hb
      subst this
      exact absurd (e ▸ ha) ‹_›⟩
theorem ins_mem {l : List Nat} {h x : Nat} : x ∈ insK l h ↔ x ∈ l ∨ x = h := by
  unfold insK
  split
  · constructor
    · exact .inl
    · rintro (z | z)
      · exact z
      · rw [z]; assumption
  · simp
theorem ins_len {l : List Nat} {h : Nat} : (insK l h).length ≤ l.length + 1 := by
  unfold insK
  split
  · omega
  · simp
theorem row_step {w a b i j : Nat} {l : List Nat} : rowK w a b i l (j + 1) = insK (rowK w a b i l j) ((i * a + j * b) % w) := by
  unfold rowK
  rw [List.range_succ, List.foldl_append]
  rfl
theorem out_step {w a b q i : Nat} : outK w a b q (i + 1) = rowK w a b i (outK w a b q i) q := by
  unfold outK
  rw [List.range_succ, List.foldl_append]
  rfl
theorem row_inv {w a b i : Nat} {l : List Nat} (hw : 0 < w) (n : l.Nodup) (lt : ∀ x ∈ l, x < w) : ∀ j, (rowK w a b i l j).Nodup ∧ (∀ x ∈ rowK w a b i l j, x < w) ∧ (rowK w a b i l j).length ≤ l.length + j ∧ ∀ x ∈ l, x ∈ rowK w a b i l j
  | 0 => ⟨n, lt, Nat.le_refl _, fun _ h => h⟩
  | j + 1 => by
    obtain ⟨h1, h2, h3, h4⟩ := row_inv (a := a) (b := b) (i := i) hw n lt j
    rw [row_step]
    refine ⟨ins_nodup h1, fun x hx => ?_, Nat.le_trans ins_len (by omega), fun x hx => ins_mem.mpr (.inl (h4 x hx))⟩
    rcases ins_mem.mp hx with z | z
    · exact h2 x z
    · rw [z]; exact Nat.mod_lt _ hw
theorem out_inv {w a b q : Nat} (hw : 0 < w) : ∀ i, (outK w a b q i).Nodup ∧ (∀ x ∈ outK w a b q i, x < w) ∧ (outK w a b q i).length ≤ i * q
  | 0 => ⟨List.nodup_nil, fun _ h => absurd h List.not_mem_nil, Nat.zero_le _⟩
  | i + 1 => by
    obtain ⟨h1, h2, h3⟩ := out_inv (a := a) (b := b) (q := q) hw i
    rw [out_step]
    obtain ⟨k1, k2, k3, _⟩ := row_inv (a := a) (b := b) (i := i) hw h1 h2 q
    exact ⟨k1, k2, by rw [Nat.succ_mul]; omega⟩
theorem row_zero {w a b : Nat} {l : List Nat} : ∀ j, 0 ∈ rowK w a b 0 l (j + 1)
  | 0 => by
    rw [row_step]
    exact ins_mem.mpr (.inr (by simp))
  | j + 1 => by
    rw [row_step]
    exact ins_mem.mpr (.inl (row_zero j))
theorem out_zero {w a b q : Nat} (hw : 0 < w) (hq : 0 < q) : ∀ i, 0 < i → 0 ∈ outK w a b q i
  | 0, h => absurd h (Nat.lt_irrefl 0)
  | i + 1, _ => by
    obtain ⟨h1, h2, _⟩ := out_inv (a := a) (b := b) (q := q) hw i
    rw [out_step]
    rcases Nat.eq_zero_or_pos i with z | z
    · subst z
      obtain ⟨q', rfl⟩ : ∃ q', q = q' + 1 := ⟨q - 1, by omega⟩
      exact row_zero q'
    · exact (row_inv (a := a) (b := b) (i := i) hw h1 h2 q).2.2.2 0 (out_zero hw hq i z)
/-- the places of all points -/
def plL (w a b p q : Nat) : List Nat := (List.range w).filter fun h => decide (h ∈ outK w a b q p)
theorem pl_lt {w a b p q : Nat} : (plL w a b p q).Pairwise (· < ·) := List.pairwise_lt_range.filter _
theorem pl_mem {w a b p q x : Nat} (hw : 0 < w) : x ∈ plL w a b p q ↔ x ∈ outK w a b q p := by
  unfold plL
  rw [List.mem_filter, List.mem_range, decide_eq_true_eq]
  exact ⟨fun h => h.2, fun h => ⟨(out_inv hw p).2.1 x h, h⟩⟩
theorem pl_perm {w a b p q : Nat} (hw : 0 < w) : (plL w a b p q).Perm (outK w a b q p) :=
  (List.perm_ext_iff_of_nodup (pl_lt.imp fun {a b} h e => by omega) (out_inv hw p).1).mpr fun x => pl_mem hw
theorem pl_len {w a b p q : Nat} (hw : 0 < w) : (plL w a b p q).length ≤ p * q := by
  rw [(pl_perm hw).length_eq]
  exact (out_inv hw p).2.2
theorem pl_pos {w a b p q : Nat} (hw : 0 < w) (hp : 0 < p) (hq : 0 < q) : 0 < (plL w a b p q).length := List.length_pos_of_mem ((pl_mem hw).mpr (out_zero hw hq p hp))
/-- the gaps between -/
def dgL (w a b p q : Nat) : List Nat := ((plL w a b p q).zip ((plL w a b p q).drop 1 ++ [w])).map fun x => x.2 - x.1
def dlL (w a b p q : Nat) : List Nat := (List.range (w + 1)).filter fun x => decide (x ∈ dgL w a b p q)
theorem up_zip {w : Nat} : ∀ {l : List Nat}, l.Pairwise (· < ·) → (∀ x ∈ l, x < w) → ∀ x ∈ l.zip (l.drop 1 ++ [w]), x.1 ≤ x.2 ∧ x.2 ≤ w
  | [], _, _, x, h => by simp at h
  | [y], _, lt, x, h => by
    have e : x = (y, w) := by simpa using h
    subst e
    have := lt y List.mem_cons_self
    exact ⟨Nat.le_of_lt this, Nat.le_refl _⟩
  | y :: z :: l, p, lt, x, h => by
    have p' := List.pairwise_cons.mp p
    have h' : x ∈ (y, z) :: (z :: l).zip (l ++ [w]) := h
    rcases List.mem_cons.mp h' with e | h'
    · subst e
      exact ⟨Nat.le_of_lt (p'.1 z List.mem_cons_self), Nat.le_of_lt (lt z (List.mem_cons_of_mem _ List.mem_cons_self))⟩
    · exact up_zip (l := z :: l) p'.2 (fun x hx => lt x (List.mem_cons_of_mem _ hx)) x h'
theorem pl_zip {w a b p q : Nat} (hw : 0 < w) : ∀ x ∈ (plL w a b p q).zip ((plL w a b p q).drop 1 ++ [w]), x.1 ≤ x.2 ∧ x.2 ≤ w :=
  up_zip pl_lt fun x hx => (out_inv hw p).2.1 x ((pl_mem hw).mp hx)
theorem dg_le {w a b p q x : Nat} (hw : 0 < w) (h : x ∈ dgL w a b p q) : x ≤ w := by
  obtain ⟨y, hy, rfl⟩ := List.mem_map.mp h
  have := pl_zip hw y hy
  omega
theorem dl_mem {w a b p q x : Nat} (hw : 0 < w) : x ∈ dlL w a b p q ↔ x ∈ dgL w a b p q := by
  unfold dlL
  rw [List.mem_filter, List.mem_range, decide_eq_true_eq]
  exact ⟨fun h => h.2, fun h => ⟨by have := dg_le hw h; omega, h⟩⟩
theorem dl_lt {w a b p q : Nat} : (dlL w a b p q).Pairwise (· < ·) := List.pairwise_lt_range.filter _
theorem len_sub : ∀ (l g : List Nat), l.Nodup → (∀ x ∈ l, x ∈ g) → l.length ≤ g.length
  | [], _, _, _ => Nat.zero_le _
  | x :: l, g, hn, h => by
    have hx := h x List.mem_cons_self
    have p := (List.perm_cons_erase hx).length_eq
    have hn' := List.nodup_cons.mp hn
    have := len_sub l (g.erase x) hn'.2 fun y hy => (List.mem_erase_of_ne (fun e => hn'.1 (by rw [← e]; exact hy))).mpr (h y (List.mem_cons_of_mem _ hy))
    rw [p, List.length_cons, List.length_cons]
    omega
theorem dg_len {w a b p q : Nat} (hw : 0 < w) (hp : 0 < p) (hq : 0 < q) : (dgL w a b p q).length = (plL w a b p q).length := by
  have := pl_pos (a := a) (b := b) hw hp hq
  unfold dgL
  rw [List.length_map, List.length_zip, List.length_append, List.length_drop, List.length_singleton]
  omega
theorem dl_few {w a b p q : Nat} (hw : 0 < w) (hp : 0 < p) (hq : 0 < q) (hp6 : p ≤ 6) (hq6 : q ≤ 6) : (dlL w a b p q).length < 64 := by
  have h1 := len_sub (dlL w a b p q) (dgL w a b p q) (dl_lt.imp fun {a b} h e => by omega) fun x hx => (dl_mem hw).mp hx
  rw [dg_len hw hp hq] at h1
  have h2 := pl_len (a := a) (b := b) (p := p) (q := q) hw
  have h3 : p * q ≤ 6 * 6 := Nat.mul_le_mul hp6 hq6
  omega
theorem dg_at {w a b p q i : Nat} (hi : i < (plL w a b p q).length) : ∃ x y, (plL w a b p q)[i]? = some x ∧ (plL w a b p q ++ [w])[i + 1]? = some y ∧ (dgL w a b p q)[i]? = some (y - x) ∧ (x, y) ∈ (plL w a b p q).zip ((plL w a b p q).drop 1 ++ [w]) := by
  have e1 : (plL w a b p q)[i]? = some (plL w a b p q)[i] := List.getElem?_eq_getElem hi
  have l2 : i + 1 < (plL w a b p q ++ [w]).length := by
    rw [List.length_append, List.length_singleton]
    omega
  have e2 : (plL w a b p q ++ [w])[i + 1]? = some (plL w a b p q ++ [w])[i + 1] := List.getElem?_eq_getElem l2
  have e3 : ((plL w a b p q).drop 1 ++ [w])[i]? = (plL w a b p q ++ [w])[i + 1]? := by
    generalize plL w a b p q = l at *
    cases l with
    | nil => simp at hi
    | cons x r => rfl
  have z := (List.getElem?_zip_eq_some (z := ((plL w a b p q)[i], (plL w a b p q ++ [w])[i + 1]))).mpr ⟨e1, e3.trans e2⟩
  refine ⟨_, _, e1, e2, ?_, List.mem_of_getElem? z⟩
  unfold dgL
  rw [List.getElem?_map, z]
  rfl
/-! near by both -/
def sideN (w h : Nat) : Nat := min h (w - h)
def farN (w a b k : Nat) : Nat := max (sideN w (k * a % w)) (sideN w (k * b % w))
def nearS (w a b : Nat) : Nat → List Nat × Nat
  | 0 => ([], w)
  | i + 1 => if farN w a b (1 + i) < (nearS w a b i).2 then ((nearS w a b i).1 ++ [1 + i], farN w a b (1 + i)) else nearS w a b i
theorem near_len {w a b : Nat} : ∀ i, (nearS w a b i).1.length ≤ i
  | 0 => Nat.le_refl _
  | i + 1 => by
    have := near_len (w := w) (a := a) (b := b) i
    unfold nearS
    split
    · simp
      omega
    · omega
theorem near_least {w a b i : Nat} : (nearS w a b (i + 1)).2 ≤ farN w a b (1 + i) := by
  unfold nearS
  split
  · exact Nat.le_refl _
  · omega
theorem near_stop {w a b i : Nat} (h : (nearS w a b i).2 = 0) : ∀ d, nearS w a b (i + d) = nearS w a b i
  | 0 => rfl
  | d + 1 => by
    have ih := near_stop h d
    rw [show nearS w a b (i + (d + 1)) = if farN w a b (1 + (i + d)) < (nearS w a b (i + d)).2 then ((nearS w a b (i + d)).1 ++ [1 + (i + d)], farN w a b (1 + (i + d))) else nearS w a b (i + d) from rfl, if_neg (by rw [ih, h]; omega), ih]
end Z

namespace Z
/-! ### records, quotients -/
def recS (rows : List (Nat × Nat)) : Nat → List Nat × Option Nat
  | 0 => ([], none)
  | i + 1 => match rows[i]? with
    | none => recS rows i
    | some p => match (recS rows i).2 with
      | none => ((recS rows i).1 ++ [p.1], some p.2)
      | some l => if p.2 < l then ((recS rows i).1 ++ [p.1], some p.2) else recS rows i
def recL (rows : List (Nat × Nat)) : List Nat := (recS rows rows.length).1
theorem rec_len {rows : List (Nat × Nat)} : ∀ i, (recS rows i).1.length ≤ i
  | 0 => Nat.le_refl _
  | i + 1 => by
    have ih := rec_len (rows := rows) i
    unfold recS
    split
    · omega
    · split
      · rw [List.length_append, List.length_singleton]
        omega
      · split
        · rw [List.length_append, List.length_singleton]
          omega
        · omega
def quoL (w s : Nat) : List Nat := if h : s = 0 then [] else w / s :: quoL s (w % s)
termination_by s
decreasing_by exact Nat.mod_lt _ (Nat.pos_of_ne_zero h)
theorem quo_zero {w : Nat} : quoL w 0 = [] := by
  rw [quoL]
  simp
theorem quo_step {w s : Nat} (h : 0 < s) : quoL w s = w / s :: quoL s (w % s) := by
  rw [quoL, dif_neg (by omega)]
theorem quo_len : ∀ (s w : Nat), (quoL w s).length ≤ s := by
  intro s
  induction s using Nat.strongRecOn with
  | _ s ih =>
    intro w
    rcases Nat.eq_zero_or_pos s with z | z
    · rw [z, quo_zero]
      exact Nat.le_refl _
    · rw [quo_step z, List.length_cons]
      have := ih (w % s) (Nat.mod_lt _ z) s
      have := Nat.mod_lt w z
      omega
theorem quo_le : ∀ (s w : Nat), s ≤ w → ∀ x ∈ quoL w s, x ≤ w := by
  intro s
  induction s using Nat.strongRecOn with
  | _ s ih =>
    intro w hs x hx
    rcases Nat.eq_zero_or_pos s with z | z
    · rw [z, quo_zero] at hx
      cases hx
    · rw [quo_step z] at hx
      rcases List.mem_cons.mp hx with rfl | hx
      · exact Nat.div_le_self _ _
      · exact Nat.le_trans (ih (w % s) (Nat.mod_lt _ z) s (Nat.le_of_lt (Nat.mod_lt _ z)) x hx) hs
/-- the ring and the step that have quotients -/
def whoL (l : List Nat) : Nat × Nat := l.foldr (fun n p => (n * p.1 + p.2, p.1)) (1, 0)
end Z

namespace Z
/-! ### records told otherwise, quotients by taking away, fractions -/
theorem records_eq (f : Nat → Nat) (n : Nat) : recL ((List.range n).map fun i => (1 + i, f i)) = ((List.range n).filter fun i => decide (∀ j, j < i → f i < f j)).map fun i => 1 + i := by
  have key : ∀ i, i ≤ n → (recS ((List.range n).map fun i => (1 + i, f i)) i).1 = ((List.range i).filter fun i => decide (∀ j, j < i → f i < f j)).map (fun i => 1 + i) ∧
      (match (recS ((List.range n).map fun i => (1 + i, f i)) i).2 with | none => i = 0 | some l => (∃ j, j < i ∧ f j = l) ∧ ∀ j, j < i → l ≤ f j) := by
    intro i
    induction i with
    | zero => intro _; exact ⟨rfl, rfl⟩
    | succ i ih =>
      intro hi
      obtain ⟨h1, h2⟩ := ih (by omega)
      have e : ((List.range n).map fun i => (1 + i, f i))[i]? = some (1 + i, f i) := by
        rw [List.getElem?_map, List.getElem?_range (by omega)]; rfl
      have st : recS ((List.range n).map fun i => (1 + i, f i)) (i + 1) = match (recS ((List.range n).map fun i => (1 + i, f i)) i).2 with
          | none => ((recS ((List.range n).map fun i => (1 + i, f i)) i).1 ++ [1 + i], some (f i))
          | some l => if f i < l then ((recS ((List.range n).map fun i => (1 + i, f i)) i).1 ++ [1 + i], some (f i)) else recS ((List.range n).map fun i => (1 + i, f i)) i := by
        rw [show recS ((List.range n).map fun i => (1 + i, f i)) (i + 1) = match ((List.range n).map fun i => (1 + i, f i))[i]? with
          | none => recS ((List.range n).map fun i => (1 + i, f i)) i
          | some p => match (recS ((List.range n).map fun i => (1 + i, f i)) i).2 with
            | none => ((recS ((List.range n).map fun i => (1 + i, f i)) i).1 ++ [p.1], some p.2)
            | some l => if p.2 < l then ((recS ((List.range n).map fun i => (1 + i, f i)) i).1 ++ [p.1], some p.2) else recS ((List.range n).map fun i => (1 + i, f i)) i from rfl, e]
      generalize recS ((List.range n).map fun i => (1 + i, f i)) i = r at st h1 h2
      obtain ⟨found, l⟩ := r
      have h1' : found = ((List.range i).filter fun i => decide (∀ j, j < i → f i < f j)).map fun i => 1 + i := h1
      rw [List.range_succ, List.filter_append, List.map_append]
      cases l with
      | none =>
        have z : i = 0 := h2
        rw [st]
        refine ⟨?_, ⟨i, by omega, rfl⟩, fun j hj => ?_⟩
        · show found ++ [1 + i] = _
          rw [h1', List.filter_cons_of_pos (by simp; intro j hj; omega)]
          rfl
        · have : j = i := by omega
          rw [this]
          exact Nat.le_refl _
      | some l =>
        obtain ⟨⟨j0, hj0, ej0⟩, hmin⟩ : (∃ j, j < i ∧ f j = l) ∧ ∀ j, j < i → l ≤ f j := h2
        have st' := st
        simp only at st'
        by_cases c : f i < l
        · rw [if_pos c] at st'
          rw [st']
          refine ⟨?_, ⟨i, by omega, rfl⟩, fun j hj => ?_⟩
          · show found ++ [1 + i] = _
            rw [h1', List.filter_cons_of_pos (by simp; intro j hj; have := hmin j hj; omega)]
            rfl
          · by_cases e : j = i
            · rw [e]; exact Nat.le_refl _
            · have := hmin j (by omega)
              omega
        · rw [if_neg c] at st'
          rw [st']
          refine ⟨?_, ⟨j0, by omega, ej0⟩, fun j hj => ?_⟩
          · show found = _
            rw [h1', List.filter_cons_of_neg (by simp; exact ⟨j0, hj0, by omega⟩)]
            simp
          · by_cases e : j = i
            · rw [e]; omega
            · exact hmin j (by omega)
  unfold recL
  rw [List.length_map, List.length_range]
  exact (key n (Nat.le_refl _)).1
/-- whoL from any end -/
def whoV (l : List Nat) (v : Nat × Nat) : Nat × Nat := l.foldr (fun n p => (n * p.1 + p.2, p.1)) v
theorem whoV_lin : ∀ (l : List Nat) (a b : Nat), whoV l (a, b) = (a * (whoV l (1, 0)).1 + b * (whoV l (0, 1)).1, a * (whoV l (1, 0)).2 + b * (whoV l (0, 1)).2)
  | [], a, b => by simp [whoV]
  | n :: l, a, b => by
    have ih := whoV_lin l a b
    have e1 : whoV (n :: l) (a, b) = (n * (whoV l (a, b)).1 + (whoV l (a, b)).2, (whoV l (a, b)).1) := rfl
    have e2 : whoV (n :: l) (1, 0) = (n * (whoV l (1, 0)).1 + (whoV l (1, 0)).2, (whoV l (1, 0)).1) := rfl
    have e3 : whoV (n :: l) (0, 1) = (n * (whoV l (0, 1)).1 + (whoV l (0, 1)).2, (whoV l (0, 1)).1) := rfl
    rw [e1, e2, e3, ih]
    refine Prod.ext ?_ rfl
    show n * (a * (whoV l (1, 0)).1 + b * (whoV l (0, 1)).1) + (a * (whoV l (1, 0)).2 + b * (whoV l (0, 1)).2) = a * (n * (whoV l (1, 0)).1 + (whoV l (1, 0)).2) + b * (n * (whoV l (0, 1)).1 + (whoV l (0, 1)).2)
    rw [Nat.mul_add, Nat.mul_add, Nat.mul_add, Nat.mul_left_comm n a, Nat.mul_left_comm n b]
    omega
theorem whoV_app (l : List Nat) (n : Nat) (v : Nat × Nat) : whoV (l ++ [n]) v = whoV l (n * v.1 + v.2, v.1) := by
  unfold whoV
  rw [List.foldr_append]
  rfl
/-- lower and upper after the quotients l: (this one, the one ahead) -/
def lowL (l : List Nat) : Nat × Nat := ((whoV l (1, 0)).1, (whoV l (0, 1)).1)
def uppL (l : List Nat) : Nat × Nat := ((whoV l (1, 0)).2, (whoV l (0, 1)).2)
theorem low_app (l : List Nat) (n : Nat) : lowL (l ++ [n]) = (n * (lowL l).1 + (lowL l).2, (lowL l).1) := by
  unfold lowL
  rw [whoV_app, whoV_app]
  show ((whoV l (n * 1 + 0, 1)).1, (whoV l (n * 0 + 1, 0)).1) = _
  rw [Nat.mul_one, Nat.add_zero, Nat.mul_zero, Nat.zero_add, whoV_lin l n 1, Nat.one_mul]
theorem upp_app (l : List Nat) (n : Nat) : uppL (l ++ [n]) = (n * (uppL l).1 + (uppL l).2, (uppL l).1) := by
  unfold uppL
  rw [whoV_app, whoV_app]
  show ((whoV l (n * 1 + 0, 1)).2, (whoV l (n * 0 + 1, 0)).2) = _
  rw [Nat.mul_one, Nat.add_zero, Nat.mul_zero, Nat.zero_add, whoV_lin l n 1]
  simp only [Nat.one_mul]
theorem who_low (l : List Nat) : whoL l = ((lowL l).1, (uppL l).1) := rfl
end Z

namespace Z
/-! ### two steps and rows -/
theorem row_mem {w a b i x : Nat} {l : List Nat} : ∀ j, x ∈ rowK w a b i l j ↔ x ∈ l ∨ ∃ k, k < j ∧ (i * a + k * b) % w = x
  | 0 => ⟨fun h => .inl h, fun h => h.elim id fun ⟨k, hk, _⟩ => absurd hk (Nat.not_lt_zero k)⟩
  | j + 1 => by
    rw [row_step, ins_mem, row_mem j]
    constructor
    · rintro ((h | ⟨k, hk, e⟩) | rfl)
      · exact .inl h
      · exact .inr ⟨k, by omega, e⟩
      · exact .inr ⟨j, by omega, rfl⟩
    · rintro (h | ⟨k, hk, e⟩)
      · exact .inl (.inl h)
      · by_cases c : k = j
        · subst c; exact .inr e.symm
        · exact .inl (.inr ⟨k, by omega, e⟩)
theorem out_mem {w a b q x : Nat} : ∀ p, x ∈ outK w a b q p ↔ ∃ i j, i < p ∧ j < q ∧ (i * a + j * b) % w = x
  | 0 => ⟨fun h => absurd h List.not_mem_nil, fun ⟨i, _, hi, _⟩ => absurd hi (Nat.not_lt_zero i)⟩
  | p + 1 => by
    rw [out_step, row_mem, out_mem p]
    constructor
    · rintro (⟨i, j, hi, hj, e⟩ | ⟨j, hj, e⟩)
      · exact ⟨i, j, by omega, hj, e⟩
      · exact ⟨p, j, by omega, hj, e⟩
    · rintro ⟨i, j, hi, hj, e⟩
      by_cases c : i = p
      · subst c; exact .inr ⟨j, hj, e⟩
      · exact .inl ⟨i, j, by omega, hj, e⟩
theorem pl_iff {w a b p q x : Nat} (hw : 0 < w) : x ∈ plL w a b p q ↔ ∃ i j, i < p ∧ j < q ∧ (i * a + j * b) % w = x := (pl_mem hw).trans (out_mem p)
theorem up_eq {l m : List Nat} (hl : l.Pairwise (· < ·)) (hm : m.Pairwise (· < ·)) (h : ∀ k, k ∈ l ↔ k ∈ m) : l = m := by
  have p : l.Perm m := (List.perm_ext_iff_of_nodup (hl.imp fun {a b} h => Nat.ne_of_lt h) (hm.imp fun {a b} h => Nat.ne_of_lt h)).mpr h
  refine List.Perm.eq_of_pairwise (le := (· < ·)) (fun a b _ _ h1 h2 => absurd h1 (by omega)) hl hm p
theorem pl_swap {w a b p q : Nat} (hw : 0 < w) : plL w b a q p = plL w a b p q := by
  refine up_eq pl_lt pl_lt fun x => ?_
  rw [pl_iff hw, pl_iff hw]
  constructor <;> (rintro ⟨i, j, hi, hj, e⟩; exact ⟨j, i, hj, hi, by rw [← e, Nat.add_comm]⟩)
/-- the places of a row -/
theorem pl_row {w a m p q b : Nat} (hw : 0 < w) (hm : m ≤ turnN w a) (h : ∀ x, (∃ i j, i < p ∧ j < q ∧ (i * a + j * b) % w = x) ↔ ∃ k, k < m ∧ k * a % w = x) : (plL w a b p q).Perm ((List.range m).map fun k => k * a % w) := by
  refine (List.perm_ext_iff_of_nodup (pl_lt.imp fun {a b} h => Nat.ne_of_lt h) ?_).mpr fun x => ?_
  · refine List.pairwise_map.mpr (List.pairwise_lt_range.imp_of_mem fun {i j} hi hj lt e => ?_)
    rw [List.mem_range] at hi hj
    have := place_inj hw (Nat.lt_of_lt_of_le hi hm) (Nat.lt_of_lt_of_le hj hm) e
    omega
  · rw [pl_iff hw, h x, List.mem_map]
    simp only [List.mem_range]
theorem pl_one {w a b p : Nat} (hw : 0 < w) (x : Nat) : (∃ i j, i < p ∧ j < 1 ∧ (i * a + j * b) % w = x) ↔ ∃ k, k < min (turnN w a) p ∧ k * a % w = x := by
  have ht := turn_pos (s := a) hw
  constructor
  · rintro ⟨i, j, hi, hj, e⟩
    have j0 : j = 0 := by omega
    subst j0
    rw [Nat.zero_mul, Nat.add_zero] at e
    refine ⟨i % turnN w a, ?_, by rw [place_turn hw]; exact e⟩
    have := Nat.mod_lt i ht
    have := Nat.mod_le i (turnN w a)
    omega
  · rintro ⟨k, hk, e⟩
    exact ⟨k, 0, by omega, by omega, by rw [Nat.zero_mul, Nat.add_zero]; exact e⟩
theorem pl_two {w a p q : Nat} (hw : 0 < w) (hp : 0 < p) (hq : 0 < q) (x : Nat) : (∃ i j, i < p ∧ j < q ∧ (i * a + j * a) % w = x) ↔ ∃ k, k < min (turnN w a) (p + q - 1) ∧ k * a % w = x := by
  have ht := turn_pos (s := a) hw
  constructor
  · rintro ⟨i, j, hi, hj, e⟩
    rw [← Nat.add_mul] at e
    refine ⟨(i + j) % turnN w a, ?_, by rw [place_turn hw]; exact e⟩
    have := Nat.mod_lt (i + j) ht
    have := Nat.mod_le (i + j) (turnN w a)
    omega
  · rintro ⟨k, hk, e⟩
    by_cases c : k < p
    · exact ⟨k, 0, c, hq, by rw [Nat.zero_mul, Nat.add_zero]; exact e⟩
    · exact ⟨p - 1, k - (p - 1), by omega, by omega, by rw [← Nat.add_mul, show p - 1 + (k - (p - 1)) = k by omega]; exact e⟩
theorem pl_ord {w a m p q b : Nat} (hw : 0 < w) (hm : m ≤ turnN w a) (h : ∀ x, (∃ i j, i < p ∧ j < q ∧ (i * a + j * b) % w = x) ↔ ∃ k, k < m ∧ k * a % w = x) : plL w a b p q = (orderL w a m).map (·.1) := by
  refine up_eq pl_lt (List.pairwise_map.mpr order_lt) fun x => ?_
  rw [pl_iff hw, h x, List.mem_map]
  constructor
  · rintro ⟨k, hk, e⟩
    exact ⟨(x, k), (mem_order hw hm).mpr ⟨hk, e⟩, rfl⟩
  · rintro ⟨y, hy, rfl⟩
    exact ⟨y.2, ((mem_order hw hm).mp hy).1, ((mem_order hw hm).mp hy).2⟩
theorem dg_row {w a m p q b : Nat} (hw : 0 < w) (hp : 0 < p) (hq : 0 < q) (hm0 : 0 < m) (hm : m ≤ turnN w a) (h : ∀ x, (∃ i j, i < p ∧ j < q ∧ (i * a + j * b) % w = x) ↔ ∃ k, k < m ∧ k * a % w = x) : dgL w a b p q = gapsL w a m := by
  have e := pl_ord hw hm h
  have ol := order_len hw hm
  have len : (dgL w a b p q).length = m := by rw [dg_len hw hp hq, e, List.length_map, ol]
  refine List.ext_getElem? fun i => ?_
  rcases Nat.lt_or_ge i m with hi | hi
  · obtain ⟨x, y, e1, e2, e3, _⟩ := dg_at (w := w) (a := a) (b := b) (p := p) (q := q) (i := i) (by rw [e, List.length_map, ol]; exact hi)
    rw [e3]
    obtain ⟨r, hr⟩ : ∃ r, (orderL w a m)[i]? = some r := ⟨_, List.getElem?_eq_getElem (by rw [ol]; exact hi)⟩
    have gn := (gap_next hw hm0 hm hr).1
    have ex : x = r.1 := by
      rw [e, List.getElem?_map, hr] at e1
      exact (Option.some.inj e1).symm
    have ey : y = nextP w a m i := by
      unfold nextP
      rw [e] at e2
      rcases Nat.lt_or_ge (i + 1) m with h2 | h2
      · rw [List.getElem?_append_left (by rw [List.length_map, ol]; exact h2), List.getElem?_map] at e2
        rw [e2]
        rfl
      · have : i + 1 = m := by omega
        rw [List.getElem?_append_right (by rw [List.length_map, ol]; omega), List.length_map, ol, show i + 1 - m = 0 by omega] at e2
        rw [List.getElem?_eq_none (by rw [ol]; omega)]
        exact (Option.some.inj e2).symm
    unfold gapsL
    rw [List.getElem?_map, hr, Option.map_some, gn, ex, ey]
  · rw [List.getElem?_eq_none (by omega), List.getElem?_eq_none (by rw [gaps_len hw hm]; exact hi)]
theorem zip_sum : ∀ {l : List Nat} {x w : Nat}, (x :: l).Pairwise (· < ·) → (∀ y ∈ x :: l, y < w) → (((x :: l).zip (l ++ [w])).map fun z => z.2 - z.1).sum = w - x
  | [], x, w, _, h => by simp
  | y :: l, x, w, hp, h => by
    have p := List.pairwise_cons.mp hp
    have ih := zip_sum (l := l) (x := y) (w := w) p.2 (fun z hz => h z (List.mem_cons_of_mem _ hz))
    have xy := p.1 y List.mem_cons_self
    have yw := h y (List.mem_cons_of_mem _ List.mem_cons_self)
    show (y - x) + (((y :: l).zip (l ++ [w])).map fun z => z.2 - z.1).sum = w - x
    rw [ih]
    omega
theorem dg_sum {w a b p q : Nat} (hw : 0 < w) (hp : 0 < p) (hq : 0 < q) : (dgL w a b p q).sum = w := by
  have z : 0 ∈ plL w a b p q := (pl_iff hw).mpr ⟨0, 0, hp, hq, by simp⟩
  have up := pl_lt (w := w) (a := a) (b := b) (p := p) (q := q)
  have lt : ∀ x ∈ plL w a b p q, x < w := fun x hx => (out_inv hw p).2.1 x ((pl_mem hw).mp hx)
  unfold dgL
  generalize plL w a b p q = l at z up lt
  cases l with
  | nil => cases z
  | cons x l =>
    have x0 : x = 0 := by
      rcases List.mem_cons.mp z with e | e
      · exact e.symm
      · have := (List.pairwise_cons.mp up).1 0 e
        omega
    have := zip_sum up lt
    rw [x0] at this ⊢
    simpa using this
theorem dl_row {w a m p q b : Nat} (h : dgL w a b p q = gapsL w a m) : dlL w a b p q = lenL w a m := by
  unfold dlL lenL
  rw [h]
theorem pl_more {w a b p q x : Nat} (hw : 0 < w) : x ∈ plL w a b (p + 1) q ↔ x ∈ plL w a b p q ++ (List.range q).map fun j => (p * a + j * b) % w := by
  rw [pl_iff hw, List.mem_append, pl_iff hw, List.mem_map]
  constructor
  · rintro ⟨i, j, hi, hj, e⟩
    by_cases c : i = p
    · subst c
      exact .inr ⟨j, List.mem_range.mpr hj, e⟩
    · exact .inl ⟨i, j, by omega, hj, e⟩
  · rintro (⟨i, j, hi, hj, e⟩ | ⟨j, hj, e⟩)
    · exact ⟨i, j, by omega, hj, e⟩
    · exact ⟨p, j, by omega, List.mem_range.mp hj, e⟩
/-! near -/
theorem far_swap {w a b k : Nat} : farN w b a k = farN w a b k := Nat.max_comm _ _
theorem nearS_swap {w a b : Nat} : ∀ i, nearS w b a i = nearS w a b i
  | 0 => rfl
  | i + 1 => by
    unfold nearS
    rw [nearS_swap i, far_swap]
theorem far_self {w a k : Nat} : farN w a a k = sideN w (k * a % w) := Nat.max_self _
def nearF (w a : Nat) (i : Nat) : Nat := min ((1 + i) * a % w) (w - (1 + i) * a % w)
theorem near_rec {w a : Nat} (hw : 0 < w) : ∀ i, i ≤ turnN w a - 1 → (nearS w a a i).1 = (recS ((List.range (turnN w a - 1)).map fun i => (1 + i, nearF w a i)) i).1 ∧ (match (recS ((List.range (turnN w a - 1)).map fun i => (1 + i, nearF w a i)) i).2 with | none => i = 0 ∧ (nearS w a a i).2 = w | some l => (nearS w a a i).2 = l)
  | 0, _ => ⟨rfl, rfl, rfl⟩
  | i + 1, hi => by
    obtain ⟨h1, h2⟩ := near_rec (a := a) hw i (by omega)
    have e : ((List.range (turnN w a - 1)).map fun i => (1 + i, nearF w a i))[i]? = some (1 + i, nearF w a i) := by
      rw [List.getElem?_map, List.getElem?_range (by omega)]; rfl
    have st : recS ((List.range (turnN w a - 1)).map fun i => (1 + i, nearF w a i)) (i + 1) = match (recS ((List.range (turnN w a - 1)).map fun i => (1 + i, nearF w a i)) i).2 with
        | none => ((recS ((List.range (turnN w a - 1)).map fun i => (1 + i, nearF w a i)) i).1 ++ [1 + i], some (nearF w a i))
        | some l => if nearF w a i < l then ((recS ((List.range (turnN w a - 1)).map fun i => (1 + i, nearF w a i)) i).1 ++ [1 + i], some (nearF w a i)) else recS ((List.range (turnN w a - 1)).map fun i => (1 + i, nearF w a i)) i := by
      rw [show recS ((List.range (turnN w a - 1)).map fun i => (1 + i, nearF w a i)) (i + 1) = match ((List.range (turnN w a - 1)).map fun i => (1 + i, nearF w a i))[i]? with
        | none => recS ((List.range (turnN w a - 1)).map fun i => (1 + i, nearF w a i)) i
        | some p => match (recS ((List.range (turnN w a - 1)).map fun i => (1 + i, nearF w a i)) i).2 with
          | none => ((recS ((List.range (turnN w a - 1)).map fun i => (1 + i, nearF w a i)) i).1 ++ [p.1], some p.2)
          | some l => if p.2 < l then ((recS ((List.range (turnN w a - 1)).map fun i => (1 + i, nearF w a i)) i).1 ++ [p.1], some p.2) else recS ((List.range (turnN w a - 1)).map fun i => (1 + i, nearF w a i)) i from rfl, e]
    have ns : nearS w a a (i + 1) = if nearF w a i < (nearS w a a i).2 then ((nearS w a a i).1 ++ [1 + i], nearF w a i) else nearS w a a i := by
      rw [show nearS w a a (i + 1) = if farN w a a (1 + i) < (nearS w a a i).2 then ((nearS w a a i).1 ++ [1 + i], farN w a a (1 + i)) else nearS w a a i from rfl, far_self]
      rfl
    have lt : nearF w a i < w := by
      have := Nat.mod_lt ((1 + i) * a) hw
      unfold nearF
      have nz : (1 + i) * a % w ≠ 0 := place_ne (s := a) hw (by omega) (by omega)
      omega
    rw [ns, st]
    generalize recS ((List.range (turnN w a - 1)).map fun i => (1 + i, nearF w a i)) i = r at h1 h2
    generalize nearS w a a i = t at h1 h2
    obtain ⟨f, l⟩ := r
    obtain ⟨f', l'⟩ := t
    have h1' : f' = f := h1
    subst h1'
    cases l with
    | none =>
      obtain ⟨_, h2'⟩ : i = 0 ∧ l' = w := h2
      subst h2'
      simp only
      rw [if_pos lt]
      exact ⟨rfl, rfl⟩
    | some l =>
      have h2' : l' = l := h2
      subst h2'
      simp only
      by_cases c : nearF w a i < l'
      · rw [if_pos c, if_pos c]
        exact ⟨rfl, rfl⟩
      · rw [if_neg c, if_neg c]
        exact ⟨rfl, rfl⟩
theorem near_end {w a : Nat} (hw : 0 < w) : (nearS w a a w).1 = recL ((List.range (turnN w a - 1)).map fun i => (1 + i, nearF w a i)) ++ [turnN w a] := by
  have ht := turn_pos (s := a) hw
  have tl : turnN w a ≤ w := turn_le
  obtain ⟨h1, h2⟩ := near_rec (a := a) hw (turnN w a - 1) (Nat.le_refl _)
  have pos : 0 < (nearS w a a (turnN w a - 1)).2 := by
    have : ∀ i, i ≤ turnN w a - 1 → 0 < (nearS w a a i).2 := by
      intro i
      induction i with
      | zero => intro _; exact hw
      | succ i ih =>
        intro hi
        have ih := ih (by omega)
        unfold nearS
        split
        · show 0 < farN w a a (1 + i)
          rw [far_self]
          have nz : (1 + i) * a % w ≠ 0 := place_ne (s := a) hw (by omega) (by omega)
          have := Nat.mod_lt ((1 + i) * a) hw
          unfold sideN
          omega
        · exact ih
    exact this _ (Nat.le_refl _)
  have z : farN w a a (turnN w a) = 0 := by
    rw [far_self, turn_zero hw]
    simp [sideN]
  have st : nearS w a a (turnN w a) = ((nearS w a a (turnN w a - 1)).1 ++ [turnN w a], 0) := by
    obtain ⟨t, et⟩ : ∃ t, turnN w a = t + 1 := ⟨turnN w a - 1, by omega⟩
    rw [et] at pos z ⊢
    rw [Nat.add_sub_cancel] at pos ⊢
    show (if farN w a a (1 + t) < _ then _ else _) = _
    rw [Nat.add_comm 1 t, z, if_pos pos]
  have := near_stop (w := w) (a := a) (b := a) (i := turnN w a) (by rw [st]) (w - turnN w a)
  rw [show turnN w a + (w - turnN w a) = w by omega] at this
  rw [this, st, h1]
  unfold recL
  rw [List.length_map, List.length_range]
theorem rec_lt {f : Nat → Nat} {n : Nat} : ∀ k ∈ recL ((List.range n).map fun i => (1 + i, f i)), k < n + 1 := fun k hk => by
  rw [records_eq] at hk
  obtain ⟨i, hi, rfl⟩ := List.mem_map.mp hk
  have := List.mem_range.mp (List.mem_filter.mp hi).1
  omega
end Z

namespace Z
/-! ### gaps told back -/
def isStep (g : List Nat) (i : Nat) : Bool := decide (g.length ≤ turnN g.sum (1 + i)) && decide (gapsL g.sum (1 + i) g.length = g)
def stepsP (g : List Nat) (n : Nat) : List Nat := ((List.range n).filter (isStep g)).map fun i => 1 + i
def stepsL (g : List Nat) : List Nat := stepsP g (g.sum - 1)
theorem steps_step {g : List Nat} {i : Nat} : stepsP g (i + 1) = stepsP g i ++ if isStep g i = true then [1 + i] else [] := by
  unfold stepsP
  rw [List.range_succ, List.filter_append, List.map_append]
  cases h : isStep g i with
  | true => rw [List.filter_cons_of_pos h, if_pos rfl]; rfl
  | false => rw [List.filter_cons_of_neg (by simp [h]), if_neg (by simp)]; rfl
theorem steps_len {g : List Nat} {n : Nat} : (stepsP g n).length ≤ n := by
  unfold stepsP
  rw [List.length_map]
  exact Nat.le_trans (List.length_filter_le _ _) (by rw [List.length_range]; exact Nat.le_refl _)
theorem steps_mem {g : List Nat} {x : Nat} : x ∈ stepsL g ↔ 0 < x ∧ x < g.sum ∧ g.length ≤ turnN g.sum x ∧ gapsL g.sum x g.length = g := by
  unfold stepsL stepsP
  rw [List.mem_map]
  constructor
  · rintro ⟨i, hi, rfl⟩
    obtain ⟨h1, h2⟩ := List.mem_filter.mp hi
    rw [List.mem_range] at h1
    unfold isStep at h2
    rw [Bool.and_eq_true, decide_eq_true_eq, decide_eq_true_eq] at h2
    exact ⟨by omega, by omega, h2.1, h2.2⟩
  · rintro ⟨h0, h1, h2, h3⟩
    refine ⟨x - 1, List.mem_filter.mpr ⟨List.mem_range.mpr (by omega), ?_⟩, by omega⟩
    unfold isStep
    rw [show 1 + (x - 1) = x by omega, Bool.and_eq_true, decide_eq_true_eq, decide_eq_true_eq]
    exact ⟨h2, h3⟩
theorem steps_lt {g : List Nat} : (stepsL g).Pairwise (· < ·) := by
  unfold stepsL stepsP
  exact List.pairwise_map.mpr ((List.pairwise_lt_range.filter _).imp fun {a b} h => by omega)
theorem step_in {w s m : Nat} (hw : 0 < w) (h0 : 0 < m) (hm : m ≤ turnN w s) (h1 : 0 < s) (h2 : s < w) : s ∈ stepsL (gapsL w s m) := by
  rw [steps_mem, gaps_sum hw h0 hm, gaps_len hw hm]
  exact ⟨h1, h2, hm, rfl⟩
theorem mir_in {w s m : Nat} (hw : 0 < w) (h0 : 0 < m) (hm : m ≤ turnN w s) (h1 : 0 < s) (h2 : s < w) : w - s ∈ stepsL (gapsL w s m).reverse := by
  rw [← mir_gaps hw (Nat.le_of_lt h2) h0 hm]
  exact step_in hw h0 (by rw [mir_turn (Nat.le_of_lt h2)]; exact hm) (by omega) (by omega)
/-- four lengths, or three of which the greatest is not the two others -/
def bad3 (l : List Nat) : Bool := decide (3 < l.length) || (decide (l.length = 3) && !decide (l.getD 2 0 = l.getD 0 0 + l.getD 1 0))
theorem bad_not {l : List Nat} {F L : Nat} (hl : l.Pairwise (· < ·)) (hF : 0 < F) (hL : 0 < L) (h : ∀ x ∈ l, x = F ∨ x = L ∨ x = F + L) : bad3 l = false := by
  match l, hl, h with
  | [], _, _ => rfl
  | [x], _, _ => rfl
  | [x, y], _, _ => rfl
  | [x, y, z], hl, h =>
    have p := List.pairwise_cons.mp hl
    have p2 := List.pairwise_cons.mp p.2
    have h1 := h x (by simp)
    have h2 := h y (by simp)
    have h3 := h z (by simp)
    have a1 := p.1 y (by simp)
    have a2 := p2.1 z (by simp)
    have e : z = x + y := by omega
    unfold bad3
    simp [e]
  | x :: y :: z :: t :: r, hl, h =>
    have p := List.pairwise_cons.mp hl
    have p2 := List.pairwise_cons.mp p.2
    have p3 := List.pairwise_cons.mp p2.2
    have h1 := h x (by simp)
    have h2 := h y (by simp)
    have h3 := h z (by simp)
    have h4 := h t (by simp)
    have a1 := p.1 y (by simp)
    have a2 := p2.1 z (by simp)
    have a3 := p3.1 t (by simp)
    omega
theorem lens_ok {w s m : Nat} (hw : 0 < w) (h0 : 0 < m) (hm : m ≤ turnN w s) : bad3 (lenL w s m) = false := by
  by_cases c : m = 1
  · rw [c, len_one hw]
    rfl
  · have t := two_of hw (show 2 ≤ m by omega) hm
    have pF := gap_pos (s := s) hw (show 0 < m by omega)
    have pL := gap_pos (s := s) hw (last_lt hw h0 hm)
    refine bad_not len_lt pF.1 pL.1 fun x hx => ?_
    obtain ⟨j, hj, e⟩ := (lens_gap hw hm).mp hx
    rw [← e, (t.gap hw hm hj).1]
    unfold gap3
    split
    · exact .inl rfl
    · split
      · exact .inr (.inl rfl)
      · exact .inr (.inr rfl)
/-- the lengths of any gaps -/
def sizes (g : List Nat) : List Nat := (List.range (g.sum + 1)).filter fun x => decide (x ∈ g)
theorem mem_le_sum : ∀ {l : List Nat} {x : Nat}, x ∈ l → x ≤ l.sum
  | y :: l, x, h => by
    rw [List.sum_cons]
    rcases List.mem_cons.mp h with e | e
    · omega
    · have := mem_le_sum e
      omega
theorem sizes_mem {g : List Nat} {x : Nat} : x ∈ sizes g ↔ x ∈ g := by
  unfold sizes
  rw [List.mem_filter, List.mem_range, decide_eq_true_eq]
  exact ⟨fun h => h.2, fun h => ⟨by have := mem_le_sum h; omega, h⟩⟩
theorem sizes_lt {g : List Nat} : (sizes g).Pairwise (· < ·) := List.pairwise_lt_range.filter _
theorem sizes_few {g : List Nat} (h0 : ∀ x ∈ g, 0 < x) (hs : g.sum ≤ 1000) : (sizes g).length < 64 := few_len (b := 0) sizes_lt (fun x hx => h0 x (sizes_mem.mp hx)) (fun x hx => sizes_mem.mp hx) hs
theorem sizes_ok {g : List Nat} (hs : 0 < g.sum) (h : stepsL g ≠ []) : bad3 (sizes g) = false := by
  obtain ⟨x, hx⟩ := List.exists_mem_of_ne_nil _ h
  obtain ⟨_, _, h3, h4⟩ := steps_mem.mp hx
  have l0 : 0 < g.length := by
    cases g with
    | nil => simp at hs
    | cons _ _ => simp
  have e : sizes g = lenL g.sum x g.length := by
    unfold sizes lenL
    rw [h4]
  rw [e]
  exact lens_ok hs l0 h3
theorem sum_set : ∀ {l : List Nat} {i x y : Nat}, l[i]? = some y → (l.set i x).sum + y = l.sum + x
  | [], _, _, _, h => by simp at h
  | a :: l, 0, x, y, h => by
    simp at h
    subst h
    show x + l.sum + a = a + l.sum + x
    omega
  | a :: l, i + 1, x, y, h => by
    have := sum_set (l := l) (i := i) (x := x) (y := y) (by simpa using h)
    show a + (l.set i x).sum + y = a + l.sum + x
    omega
theorem min_ex : ∀ {l : List Nat}, l ≠ [] → ∃ m, m ∈ l ∧ ∀ y ∈ l, m ≤ y
  | [], h => absurd rfl h
  | [x], _ => ⟨x, by simp, by simp⟩
  | x :: y :: l, _ => by
    obtain ⟨m, h1, h2⟩ := min_ex (l := y :: l) (by simp)
    by_cases c : x ≤ m
    · refine ⟨x, List.mem_cons_self, fun z hz => ?_⟩
      rcases List.mem_cons.mp hz with e | e
      · omega
      · have := h2 z e
        omega
    · refine ⟨m, List.mem_cons_of_mem _ h1, fun z hz => ?_⟩
      rcases List.mem_cons.mp hz with e | e
      · omega
      · exact h2 z e
theorem rot_sum {g : List Nat} {i : Nat} : (g.drop i ++ g.take i).sum = g.sum := by
  rw [List.sum_append, Nat.add_comm, ← List.sum_append, List.take_append_drop]
theorem find_some {p : Nat → Bool} {n i : Nat} (hi : i < n) (h1 : p i = true) (h2 : ∀ j, j < i → p j = false) : (List.range n).find? p = some i := by
  rw [List.find?_eq_some_iff_getElem]
  refine ⟨h1, i, by rw [List.length_range]; exact hi, List.getElem_range _, fun j hj => ?_⟩
  rw [List.getElem_range]
  simp [h2 j hj]
theorem find_none {p : Nat → Bool} {n : Nat} (h2 : ∀ j, j < n → p j = false) : (List.range n).find? p = none := by
  rw [List.find?_eq_none]
  intro x hx
  simp [h2 x (List.mem_range.mp hx)]
end Z

namespace Z
/-! ### how often each gap comes: law k21 -/
theorem gap3_list {m a b F L : Nat} (ha : a < m) (hb : b < m) (hs : m ≤ a + b) : (List.range m).map (gap3 m a b F L) = List.replicate (m - a) F ++ (List.replicate (a + b - m) (F + L) ++ List.replicate (m - b) L) := by
  refine List.ext_getElem (by simp; omega) fun i h1 h2 => ?_
  rw [List.getElem_map, List.getElem_range]
  unfold gap3
  simp only [List.getElem_append, List.length_replicate, List.getElem_replicate]
  split
  · rfl
  · split
    · rw [dif_neg (by omega)]
    · rw [dif_pos (by omega)]
def cnt3 (m a b F L x : Nat) : Nat := (if F = x then m - a else 0) + ((if F + L = x then a + b - m else 0) + (if L = x then m - b else 0))
section
variable {w s m a b F L : Nat}
theorem Two.count (h : Two w s m a b F L) (hw : 0 < w) (hm : m ≤ turnN w s) (x : Nat) : (gapsL w s m).count x = cnt3 m a b F L x := by
  have e : (List.range m).map (gapN w s m) = (List.range m).map (gap3 m a b F L) := List.map_congr_left fun k hk => (h.gap hw hm (List.mem_range.mp hk)).1
  rw [(gaps_range hw hm).count_eq, e, gap3_list h.am h.bm (h.sum hw hm), List.count_append, List.count_append, List.count_replicate, List.count_replicate, List.count_replicate]
  unfold cnt3
  simp only [beq_iff_eq]
/-- what is due -/
def duN (m a b F L : Nat) : List (Nat × Nat) := if F = L then [(F, m - a + (m - b)), (F + L, a + b - m)] else [(F, m - a), (L, m - b), (F + L, a + b - m)]
theorem du_nodup (h : Two w s m a b F L) : ((duN m a b F L).map (·.1)).Nodup := by
  have f0 := h.F0
  have l0 := h.L0
  unfold duN
  split
  · simp
    omega
  · simp
    omega
theorem du_count (h : Two w s m a b F L) (hw : 0 < w) (hm : m ≤ turnN w s) : ∀ p ∈ duN m a b F L, p.2 = (gapsL w s m).count p.1 := by
  have f0 := h.F0
  have l0 := h.L0
  intro p hp
  rw [h.count hw hm]
  unfold duN at hp
  unfold cnt3
  split at hp
  · rename_i e
    subst e
    simp only [List.mem_cons, List.mem_nil_iff, or_false] at hp
    rcases hp with rfl | rfl
    · rw [if_pos rfl, if_neg (by show ¬ F + F = F; omega), if_pos rfl]
      show m - a + (m - b) = _
      omega
    · rw [if_neg (by show ¬ F = F + F; omega), if_pos rfl, if_neg (by show ¬ F = F + F; omega)]
      show a + b - m = _
      omega
  · rename_i e
    simp only [List.mem_cons, List.mem_nil_iff, or_false] at hp
    rcases hp with rfl | rfl | rfl
    · rw [if_pos rfl, if_neg (by show ¬ F + L = F; omega), if_neg (by show ¬ L = F; omega)]
      show m - a = m - a + (0 + 0)
      omega
    · rw [if_neg (by show ¬ F = L; omega), if_neg (by show ¬ F + L = L; omega), if_pos rfl]
      show m - b = _
      omega
    · rw [if_neg (by show ¬ F = F + L; omega), if_pos rfl, if_neg (by show ¬ L = F + L; omega)]
      show a + b - m = _
      omega
theorem du_all (h : Two w s m a b F L) (hw : 0 < w) (hm : m ≤ turnN w s) {x : Nat} (hx : x ∈ gapsL w s m) : ∃ p ∈ duN m a b F L, p.1 = x := by
  have c : 0 < (gapsL w s m).count x := List.count_pos_iff.mpr hx
  rw [h.count hw hm] at c
  unfold cnt3 at c
  unfold duN
  by_cases e1 : F = x
  · subst e1
    split <;> exact ⟨_, List.mem_cons_self, rfl⟩
  · rw [if_neg e1] at c
    by_cases e2 : F + L = x
    · subst e2
      split
      · exact ⟨_, List.mem_cons_of_mem _ List.mem_cons_self, rfl⟩
      · exact ⟨_, List.mem_cons_of_mem _ (List.mem_cons_of_mem _ List.mem_cons_self), rfl⟩
    · rw [if_neg e2] at c
      by_cases e3 : L = x
      · subst e3
        split
        · omega
        · exact ⟨_, List.mem_cons_of_mem _ List.mem_cons_self, rfl⟩
      · rw [if_neg e3] at c
        omega
theorem nodup_of_fst {α β : Type} {l : List (α × β)} (h : (l.map (·.1)).Nodup) : l.Nodup := (List.pairwise_map.mp h).imp fun h e => h (congrArg Prod.fst e)
theorem du_perm (h : Two w s m a b F L) (hw : 0 < w) (hm : m ≤ turnN w s) : ((lenL w s m).map fun x => (x, (gapsL w s m).count x)).Perm ((duN m a b F L).filter fun p => decide (0 < p.2)) := by
  have n1 : ((lenL w s m).map fun x => (x, (gapsL w s m).count x)).Nodup := List.pairwise_map.mpr (len_lt.imp fun h e => Nat.ne_of_lt h (congrArg Prod.fst e))
  have n2 : ((duN m a b F L).filter fun p => decide (0 < p.2)).Nodup := (nodup_of_fst (du_nodup h)).filter _
  refine (List.perm_ext_iff_of_nodup n1 n2).mpr fun p => ?_
  rw [List.mem_map, List.mem_filter, decide_eq_true_eq]
  constructor
  · rintro ⟨x, hx, rfl⟩
    have hg := (mem_len hw hm).mp hx
    obtain ⟨p, hp, rfl⟩ := du_all h hw hm hg
    have e := du_count h hw hm p hp
    refine ⟨?_, List.count_pos_iff.mpr hg⟩
    rw [← e]
    exact hp
  · rintro ⟨hp, h0⟩
    have e := du_count h hw hm p hp
    refine ⟨p.1, (mem_len hw hm).mpr (List.count_pos_iff.mp (by rw [← e]; exact h0)), ?_⟩
    rw [← e]
/-- setting -/
def getN (l : List (Nat × Nat)) (k : Nat) : Nat := ((l.find? fun p => decide (p.1 = k)).map (·.2)).getD 0
def setN (l : List (Nat × Nat)) (k c : Nat) : List (Nat × Nat) := if (l.any fun p => decide (p.1 = k)) = true then l.map (fun p => if p.1 = k then (p.1, c) else p) else l ++ [(k, c)]
def addN (l : List (Nat × Nat)) (q : Nat × Nat) : List (Nat × Nat) := setN l q.1 (getN l q.1 + q.2)
def triN (m a b F L : Nat) : List (Nat × Nat) := [(F, m - a), (L, m - b), (F + L, a + b - m)]
theorem du_fold (f0 : 0 < F) (l0 : 0 < L) : (triN m a b F L).foldl addN [] = duN m a b F L := by
  unfold triN duN
  simp only [List.foldl_cons, List.foldl_nil]
  by_cases e : F = L
  · subst e
    rw [if_pos rfl]
    have n : ¬ F = F + F := by omega
    have z : ¬ F = 0 := by omega
    simp [addN, setN, getN, n, z]
  · rw [if_neg e]
    have n1 : ¬ F = F + L := by omega
    have n2 : ¬ L = F + L := by omega
    have z1 : ¬ F = 0 := by omega
    have z2 : ¬ L = 0 := by omega
    simp [addN, setN, getN, n1, n2, e, z1, z2]
theorem du_len (i : Nat) : (((triN m a b F L).take i).foldl addN []).length ≤ 3 := by
  have one : ∀ l q, (addN l q).length ≤ l.length + 1 := fun l q => by
    unfold addN setN
    split
    · rw [List.length_map]; omega
    · rw [List.length_append]; exact Nat.le_refl _
  have all : ∀ (t l : List (Nat × Nat)), (t.foldl addN l).length ≤ l.length + t.length := by
    intro t
    induction t with
    | nil => exact fun l => Nat.le_refl _
    | cons q t ih =>
      intro l
      have := ih (addN l q)
      have := one l q
      rw [List.foldl_cons, List.length_cons]
      omega
  have := all ((triN m a b F L).take i) []
  rw [List.length_take] at this
  have : (triN m a b F L).length = 3 := rfl
  simp only [List.length_nil] at *
  omega
/-! sums over the lengths -/
theorem sum_zero {α : Type} : ∀ l : List α, (l.map fun _ => 0).sum = 0
  | [] => rfl
  | _ :: l => by
    rw [List.map_cons, List.sum_cons, sum_zero l]
theorem sum_one (f : Nat → Nat) : ∀ (l : List Nat) (y : Nat), l.Nodup → y ∈ l → (l.map fun x => if y = x then f x else 0).sum = f y
  | x :: l, y, hn, hy => by
    have hn' := List.nodup_cons.mp hn
    rw [List.map_cons, List.sum_cons]
    by_cases e : y = x
    · subst e
      rw [if_pos rfl]
      have z : (l.map fun x => if y = x then f x else 0).sum = 0 := by
        have : (l.map fun x => if y = x then f x else 0) = l.map fun _ => 0 := List.map_congr_left fun z hz => if_neg fun e => hn'.1 (by rw [e]; exact hz)
        rw [this, sum_zero]
      rw [z]
      rfl
    · rw [if_neg e, Nat.zero_add]
      exact sum_one f l y hn'.2 ((List.mem_cons.mp hy).resolve_left e)
theorem sum_add (f g : Nat → Nat) : ∀ l : List Nat, (l.map fun x => f x + g x).sum = (l.map f).sum + (l.map g).sum
  | [] => rfl
  | x :: l => by
    simp only [List.map_cons, List.sum_cons]
    rw [sum_add f g l]
    omega
theorem sum_count (f : Nat → Nat) {l : List Nat} (hl : l.Nodup) : ∀ g : List Nat, (∀ x ∈ g, x ∈ l) → (l.map fun x => f x * g.count x).sum = (g.map f).sum
  | [], _ => by
    simp only [List.count_nil, Nat.mul_zero, List.map_nil, List.sum_nil]
    exact sum_zero l
  | y :: g, h => by
    have ih := sum_count f hl g fun x hx => h x (List.mem_cons_of_mem _ hx)
    rw [List.map_cons, List.sum_cons, ← ih, ← sum_one f l y hl (h y List.mem_cons_self), ← sum_add]
    refine congrArg List.sum (List.map_congr_left fun x _ => ?_)
    rw [List.count_cons]
    by_cases e : y = x
    · subst e
      simp [Nat.mul_add, Nat.add_comm]
    · simp [e]
theorem len_sum (hw : 0 < w) (h0 : 0 < m) (hm : m ≤ turnN w s) : ((lenL w s m).map fun x => x * (gapsL w s m).count x).sum = w ∧ ((lenL w s m).map fun x => (gapsL w s m).count x).sum = m := by
  have nd : (lenL w s m).Nodup := len_lt.imp fun h => Nat.ne_of_lt h
  have mem : ∀ x ∈ gapsL w s m, x ∈ lenL w s m := fun x hx => (mem_len hw hm).mpr hx
  constructor
  · have := sum_count id nd (gapsL w s m) mem
    rw [List.map_id, gaps_sum hw h0 hm] at this
    exact this
  · have := sum_count (fun _ => 1) nd (gapsL w s m) mem
    have e : (lenL w s m).map (fun x => 1 * (gapsL w s m).count x) = (lenL w s m).map fun x => (gapsL w s m).count x := List.map_congr_left fun x _ => Nat.one_mul _
    rw [e] at this
    rw [this]
    have c : ∀ g : List Nat, (g.map fun _ => 1).sum = g.length := fun g => by
      induction g with
      | nil => rfl
      | cons _ _ ih => rw [List.map_cons, List.sum_cons, ih, List.length_cons]; omega
    rw [c, gaps_len hw hm]
theorem len_law (hw : 0 < w) (h0 : 0 < m) (hm : m ≤ turnN w s) : 1 ≤ (lenL w s m).length ∧ (lenL w s m).length ≤ 3 ∧ ∀ x y z, lenL w s m = [x, y, z] → z = x + y := by
  have one : 1 ≤ (lenL w s m).length := by
    have h : gapN w s m 0 ∈ lenL w s m := (mem_len hw hm).mpr (List.mem_map.mpr ⟨(0, 0), List.mem_of_getElem? (order_head hw h0 hm), rfl⟩)
    exact List.length_pos_of_mem h
  by_cases m1 : m = 1
  · subst m1
    rw [len_one hw]
    exact ⟨Nat.le_refl _, by show 1 ≤ 3; decide, fun x y z e => nomatch e⟩
  · have t := two_of (s := s) hw (by omega) hm
    generalize nexN w s m 0 = a at t
    generalize lastN w s m = b at t
    generalize gapN w s m 0 = F at t
    generalize gapN w s m b = L at t
    have f0 := t.F0
    have l0 := t.L0
    have mem : ∀ x ∈ lenL w s m, x = F ∨ x = L ∨ x = F + L := fun x hx => by
      obtain ⟨j, hj, e⟩ := (lens_gap hw hm).mp hx
      rw [(t.gap hw hm hj).1] at e
      unfold gap3 at e
      split at e
      · exact .inl e.symm
      · split at e
        · exact .inr (.inl e.symm)
        · exact .inr (.inr e.symm)
    have lt := len_lt (w := w) (s := s) (m := m)
    generalize lenL w s m = l at *
    refine ⟨one, ?_, fun x y z e => ?_⟩
    · match l, lt, mem with
      | [], _, _ => simp
      | [_], _, _ => simp
      | [_, _], _, _ => simp
      | [_, _, _], _, _ => simp
      | x :: y :: z :: u :: r, lt, mem =>
        have hx := mem x (by simp)
        have hy := mem y (by simp)
        have hz := mem z (by simp)
        have hu := mem u (by simp)
        simp only [List.pairwise_cons, List.mem_cons] at lt
        have a1 := lt.1 y (.inl rfl)
        have a2 := lt.2.1 z (.inl rfl)
        have a3 := lt.2.2.1 u (.inl rfl)
        omega
    · subst e
      have hx := mem x (by simp)
      have hy := mem y (by simp)
      have hz := mem z (by simp)
      simp only [List.pairwise_cons, List.mem_cons] at lt
      have a1 := lt.1 y (.inl rfl)
      have a2 := lt.2.1 z (.inl rfl)
      omega
theorem Two.modF (h : Two w s m a b F L) : ((a : Int) * (s : Int)) % (w : Int) = (F : Int) := by
  have fl := h.FL
  have l0 := h.L0
  have e := Int.emod_eq_emod_iff_emod_sub_eq_zero.mpr (Int.emod_eq_zero_of_dvd h.ha)
  rw [e]
  exact Int.emod_eq_of_lt (by omega) (by omega)
theorem Two.modL (h : Two w s m a b F L) : (0 - (b : Int) * (s : Int)) % (w : Int) = (L : Int) := by
  have fl := h.FL
  have f0 := h.F0
  have d : (w : Int) ∣ (0 - (b : Int) * s) - L := dvd_by (Int.dvd_neg.mpr h.hb) (by omega)
  have e := Int.emod_eq_emod_iff_emod_sub_eq_zero.mpr (Int.emod_eq_zero_of_dvd d)
  rw [e]
  exact Int.emod_eq_of_lt (by omega) (by omega)
theorem wide_count {q : Nat} (hw : 0 < w) (hm : m ≤ turnN w s) : ((List.range m).filter fun k => decide (gapN w s m k = q)).length = (gapsL w s m).count q := by
  rw [(gaps_range hw hm).count_eq, List.count_eq_countP, List.countP_map, List.countP_eq_length_filter]
  refine congrArg List.length (List.filter_congr fun k _ => ?_)
  show decide (gapN w s m k = q) = (gapN w s m k == q)
  by_cases e : gapN w s m k = q <;> simp [e]
end
end Z

namespace Z
/-! ### gaps changed: law k70 -/
def putL (g : List Nat) (t x : Nat) : List Nat := g.take t ++ [x] ++ g.drop (t + 1)
def swapL (g : List Nat) (t : Nat) : List Nat := g.take t ++ ((g.drop t).take 2).reverse ++ g.drop (t + 2)
def rotL (g : List Nat) (t : Nat) : List Nat := g.drop t ++ g.take t
def chgL (g : List Nat) (n : Nat) : List Nat :=
  if n % 4 = 0 ∧ 1 < g.getD (n / 8 % g.length) 0 ∧ 2 < g.sum then putL g (n / 8 % g.length) (g.getD (n / 8 % g.length) 0 - 1)
  else if n % 4 = 1 then putL g (n / 8 % g.length) (g.getD (n / 8 % g.length) 0 + 1)
  else if n % 4 = 2 then swapL g (n / 8 % g.length)
  else rotL g (n / 8 % g.length)
theorem cut_at {g : List Nat} {t : Nat} (h : t < g.length) : g = g.take t ++ g.getD t 0 :: g.drop (t + 1) := by
  have e : g.getD t 0 = g[t] := by rw [List.getD_eq_getElem?_getD, List.getElem?_eq_getElem h]; rfl
  rw [e, ← List.drop_eq_getElem_cons h, List.take_append_drop]
theorem put_sum {g : List Nat} {t x : Nat} (h : t < g.length) : (putL g t x).sum + g.getD t 0 = g.sum + x ∧ (putL g t x).length = g.length := by
  have e := congrArg List.sum (cut_at h)
  rw [List.sum_append, List.sum_cons] at e
  unfold putL
  constructor
  · rw [List.sum_append, List.sum_append, List.sum_cons, List.sum_nil]
    omega
  · simp only [List.length_append, List.length_take, List.length_drop, List.length_cons, List.length_nil]
    omega
theorem swap_sum {g : List Nat} {t : Nat} : (swapL g t).sum = g.sum ∧ (swapL g t).length = g.length := by
  have p : (swapL g t).Perm g := by
    have e : g = g.take t ++ ((g.drop t).take 2 ++ g.drop (t + 2)) := by
      rw [show g.drop (t + 2) = (g.drop t).drop 2 by rw [List.drop_drop], List.take_append_drop, List.take_append_drop]
    unfold swapL
    rw [List.append_assoc]
    refine List.Perm.trans ?_ (List.Perm.of_eq e.symm)
    exact List.Perm.append_left _ (List.Perm.append_right _ (List.reverse_perm _))
  exact ⟨p.sum_nat, p.length_eq⟩
theorem rot_len {g : List Nat} {t : Nat} : (rotL g t).length = g.length := by
  unfold rotL
  rw [List.length_append, List.length_drop, List.length_take]
  omega
theorem getD_le_sum : ∀ {g : List Nat} {t : Nat}, g.getD t 0 ≤ g.sum
  | [], t => by simp
  | x :: g, 0 => by
    rw [List.sum_cons]
    show x ≤ x + g.sum
    omega
  | x :: g, t + 1 => by
    have := getD_le_sum (g := g) (t := t)
    rw [List.sum_cons]
    show g.getD t 0 ≤ x + g.sum
    omega
theorem chg_ok {g : List Nat} {n : Nat} (h : 0 < g.length) (h0 : 0 < g.sum) : (chgL g n).length = g.length ∧ 0 < (chgL g n).sum ∧ (chgL g n).sum ≤ g.sum + 1 := by
  have ht := Nat.mod_lt (n / 8) h
  unfold chgL
  generalize n / 8 % g.length = t at ht
  split
  · rename_i c
    have p := put_sum (g := g) (t := t) (x := g.getD t 0 - 1) ht
    have q := getD_le_sum (g := g) (t := t)
    omega
  · split
    · have p := put_sum (g := g) (t := t) (x := g.getD t 0 + 1) ht
      omega
    · split
      · have p := swap_sum (g := g) (t := t)
        omega
      · have p := rot_len (g := g) (t := t)
        have q : (rotL g t).sum = g.sum := rot_sum
        omega
/-- going down -/
def downO (p : Nat → Bool) (n i : Nat) : Option Nat := ((List.range n).drop (n - i)).find? p
theorem down_zero {p : Nat → Bool} {n : Nat} : downO p n 0 = none := by
  unfold downO
  rw [List.drop_of_length_le (by simp)]
  rfl
theorem down_step {p : Nat → Bool} {n i : Nat} (h : i < n) : downO p n (i + 1) = if p (n - 1 - i) = true then some (n - 1 - i) else downO p n i := by
  unfold downO
  have hl : n - (i + 1) < (List.range n).length := by rw [List.length_range]; omega
  rw [List.drop_eq_getElem_cons hl, List.getElem_range, List.find?_cons, show n - (i + 1) = n - 1 - i by omega, show n - 1 - i + 1 = n - i by omega]
  cases p (n - 1 - i) <;> rfl
theorem down_all {p : Nat → Bool} {n : Nat} : downO p n n = (List.range n).find? p := by
  unfold downO
  rw [Nat.sub_self, List.drop_zero]
end Z

namespace Z
open PySem
/-! ### words and texts -/
section
def joinN : List (List Nat) → List Nat
  | [] => []
  | [x] => x
  | x :: r => x ++ 32 :: joinN r
theorem blank_is : (" " : Str) = ⟨#[32]⟩ := by decide +kernel
theorem join_signs : ∀ l : List Str, (Str.join " " l).cps.toList = joinN (l.map fun x => x.cps.toList)
  | [] => by decide +kernel
  | [x] => rfl
  | x :: y :: r => by
    show (x ++ " " ++ Str.join " " (y :: r)).cps.toList = x.cps.toList ++ 32 :: joinN ((y :: r).map fun x => x.cps.toList)
    rw [Str.cps_append, Str.cps_append, Array.toList_append, Array.toList_append, join_signs (y :: r), blank_is, List.append_assoc]
    rfl
theorem cut_uniq : ∀ {x y a b : List Nat}, 32 ∉ x → 32 ∉ y → x ++ 32 :: a = y ++ 32 :: b → x = y ∧ a = b
  | [], [], a, b, _, _, e => ⟨rfl, (List.cons.inj e).2⟩
  | [], c :: y, a, b, _, hy, e => absurd (List.mem_cons.mpr (.inl (List.cons.inj e).1)) hy
  | c :: x, [], a, b, hx, _, e => absurd (List.mem_cons.mpr (.inl (List.cons.inj e).1.symm)) hx
  | c :: x, d :: y, a, b, hx, hy, e => by
    have h1 := List.cons.inj e
    obtain ⟨e1, e2⟩ := cut_uniq (fun z => hx (List.mem_cons_of_mem _ z)) (fun z => hy (List.mem_cons_of_mem _ z)) h1.2
    exact ⟨by rw [h1.1, e1], e2⟩
theorem join_uniq : ∀ {v u : List (List Nat)}, v ≠ [] → u ≠ [] → (∀ x ∈ v, 32 ∉ x) → (∀ x ∈ u, 32 ∉ x) → joinN v = joinN u → v = u
  | [], _, h, _, _, _, _ => absurd rfl h
  | _ :: _, [], _, h, _, _, _ => absurd rfl h
  | [x], [y], _, _, _, _, e => by rw [show x = y from e]
  | [x], y :: z :: r, _, _, hx, _, e => by
    have e' : x = y ++ 32 :: joinN (z :: r) := e
    exact absurd (by rw [e']; simp) (hx x List.mem_cons_self)
  | x :: z :: r, [y], _, _, _, hy, e => by
    have e' : x ++ 32 :: joinN (z :: r) = y := e
    exact absurd (by rw [← e']; simp) (hy y List.mem_cons_self)
  | x :: z :: r, y :: z' :: r', _, _, hx, hy, e => by
    have e' : x ++ 32 :: joinN (z :: r) = y ++ 32 :: joinN (z' :: r') := e
    obtain ⟨e1, e2⟩ := cut_uniq (hx x List.mem_cons_self) (hy y List.mem_cons_self) e'
    rw [e1, join_uniq (v := z :: r) (u := z' :: r') (fun h => nomatch h) (fun h => nomatch h) (fun x h => hx x (List.mem_cons_of_mem _ h)) (fun x h => hy x (List.mem_cons_of_mem _ h)) e2]
theorem str_inj {a b : Str} (h : a.cps.toList = b.cps.toList) : a = b := Str.ext' (Array.toList_inj.mp h)
theorem map_strs : ∀ {l m : List Str}, (l.map fun x => x.cps.toList) = m.map (fun x => x.cps.toList) → l = m
  | [], [], _ => rfl
  | [], _ :: _, e => nomatch e
  | _ :: _, [], e => nomatch e
  | x :: l, y :: m, e => by
    have h := List.cons.inj e
    rw [str_inj h.1, map_strs h.2]
abbrev wsT (t : Str) : List Str := Txt.split t " "
theorem ws_join (t : Str) : Str.join " " (wsT t) = t := StrLaws.join_split t " "
theorem ws_free (t : Str) : ∀ p ∈ wsT t, 32 ∉ p.cps.toList := by
  unfold wsT
  rw [blank_is]
  exact StrLaws.split_free t 32
theorem ws_ne (t : Str) : wsT t ≠ [] := by
  unfold wsT Txt.split
  split
  · exact fun h => nomatch h
  · split
    · exact fun h => nomatch h
    · exact fun h => by have := congrArg List.length h; rw [length_partsBetween] at this; cases this
theorem ws_of {t : Str} {v : List Str} (hv : v ≠ []) (hf : ∀ p ∈ v, 32 ∉ p.cps.toList) (h : t = Str.join " " v) : wsT t = v := by
  refine map_strs (join_uniq (fun z => ws_ne t (List.map_eq_nil_iff.mp z)) (fun z => hv (List.map_eq_nil_iff.mp z)) (fun x hx => ?_) (fun x hx => ?_) ?_)
  · obtain ⟨p, hp, rfl⟩ := List.mem_map.mp hx
    exact ws_free t p hp
  · obtain ⟨p, hp, rfl⟩ := List.mem_map.mp hx
    exact hf p hp
  · rw [← join_signs, ← join_signs, ws_join, h]
end
/-! ### numbers as words -/
section
open PySem.NumText
abbrev numS (n : Nat) : Str := Str.ofString (toString ((n : Nat) : Int))
def digB (u : Str) : Bool := u.cps.toList.all fun c => decide (48 ≤ c) && decide (c ≤ 57)
def valT (u : Str) : Nat := digitsVal u.cps.toList
def numW (u : Str) : Option Nat := if (1 ≤ u.length ∧ u.length ≤ 3) ∧ digB u = true then some (valT u) else none
def numL (u : Str) : Option Nat := if u.length = 0 ∨ 3 < u.length ∨ u.cps.toList.head? = some 48 ∨ digB u = false then none else some (valT u)
theorem dig_all {u : Str} (h : digB u = true) : AllDigits u.cps.toList := fun c hc => by
  have := List.all_eq_true.mp h c hc
  have := Bool.and_eq_true_iff.mp this
  exact ⟨of_decide_eq_true this.1, of_decide_eq_true this.2⟩
theorem len_toList (u : Str) : u.cps.toList.length = u.length := Array.length_toList
theorem num_small : ∀ n < 121, (((Nat.toDigits 10 n).map Char.toNat).all fun c => decide (48 ≤ c) && decide (c ≤ 57)) = true ∧ 1 ≤ ((Nat.toDigits 10 n).map Char.toNat).length ∧ ((Nat.toDigits 10 n).map Char.toNat).length ≤ 3 ∧ (0 < n → ((Nat.toDigits 10 n).map Char.toNat).head? ≠ some 48) := by
  decide +kernel
theorem num_is {n : Nat} (h : n < 121) (h0 : 0 < n) : numL (numS n) = some n ∧ numW (numS n) = some n ∧ 32 ∉ (numS n).cps.toList ∧ (numS n).length ≤ 3 := by
  have e := PySem.W.KIN.signs_num n
  obtain ⟨a1, a2, a3, a4⟩ := num_small n h
  rw [← e] at a1 a2 a3 a4
  have v : valT (numS n) = n := by
    unfold valT
    rw [e]
    exact PySem.W.KIN.val_back n
  rw [len_toList] at a2 a3
  have d : digB (numS n) = true := a1
  refine ⟨?_, ?_, fun z => ?_, a3⟩
  · unfold numL
    rw [if_neg, v]
    have b2 : 1 ≤ (numS n).length := a2
    have b3 : (numS n).length ≤ 3 := a3
    rintro (z | z | z | z)
    · exact absurd z (Nat.ne_of_gt b2)
    · exact absurd b3 (Nat.not_le_of_lt z)
    · exact a4 h0 z
    · rw [d] at z
      cases z
  · unfold numW
    rw [if_pos ⟨⟨a2, a3⟩, d⟩, v]
  · have := dig_all d 32 z
    omega
theorem numL_is {u : Str} {n : Nat} (h : numL u = some n) : u = numS n ∧ numW u = some n := by
  unfold numL at h
  by_cases c : u.length = 0 ∨ 3 < u.length ∨ u.cps.toList.head? = some 48 ∨ digB u = false
  · rw [if_pos c] at h
    cases h
  · rw [if_neg c] at h
    have hv : valT u = n := Option.some.inj h
    have d : digB u = true := by
      cases e : digB u
      · exact absurd (.inr (.inr (.inr e))) c
      · rfl
    have l1 : 1 ≤ u.length := by
      have : u.length ≠ 0 := fun z => c (.inl z)
      omega
    have l2 : u.length ≤ 3 := by
      have : ¬ 3 < u.length := fun z => c (.inr (.inl z))
      omega
    refine ⟨str_inj ?_, by unfold numW; rw [if_pos ⟨⟨l1, l2⟩, d⟩, hv]⟩
    rw [PySem.W.KIN.signs_num, ← hv]
    unfold valT
    have ad := dig_all d
    cases e : u.cps.toList with
    | nil =>
      have := len_toList u
      rw [e] at this
      exact absurd this (by show ¬ 0 = u.length; omega)
    | cons x r =>
      have hx : x ≠ 48 := fun z => c (.inr (.inr (.inl (by rw [e, z]; rfl))))
      have h1 := ad x (by rw [e]; exact List.mem_cons_self)
      rw [toDigits_digitsVal r.length (x :: r) rfl (by rw [← e]; exact ad) (.inr ⟨x, r, rfl, by omega⟩), List.map_map]
      symm
      have key : ∀ l : List Nat, (∀ y ∈ l, 48 ≤ y ∧ y ≤ 57) → l.map (Char.toNat ∘ Char.ofNat) = l := fun l => by
        induction l with
        | nil => exact fun _ => rfl
        | cons y l ih =>
          intro hl
          rw [List.map_cons, ih fun z hz => hl z (List.mem_cons_of_mem _ hz)]
          congr 1
          have hy := hl y List.mem_cons_self
          have tbl : ∀ c < 58, (Char.toNat ∘ Char.ofNat) c = c := by decide +kernel
          exact tbl y (by omega)
      exact key (x :: r) (by rw [← e]; exact ad)
end
/-! ### a row's text -/
section
def textOf (w s m : Nat) : Str := (((numS m ++ " points by ") ++ numS s) ++ " on ") ++ numS w
def six (w s m : Nat) : List Str := [numS m, "points", "by", numS s, "on", numS w]
theorem six_join (w s m : Nat) : Str.join " " (six w s m) = textOf w s m := by
  have e1 : (" points by " : Str) = " " ++ ("points" ++ (" " ++ ("by" ++ " "))) := by decide +kernel
  have e2 : (" on " : Str) = " " ++ ("on" ++ " ") := by decide +kernel
  unfold textOf six
  rw [e1, e2]
  simp only [Str.join, Str.append_assoc]
structure RowP (w s m : Nat) : Prop where
  w2 : 2 ≤ w
  wm : w ≤ 120
  s1 : 1 ≤ s
  sw : s < w
  m1 : 1 ≤ m
  mt : m ≤ turnN w s
theorem rowP_iff {w s m : Nat} : RowP w s m ↔ 2 ≤ w ∧ w ≤ 120 ∧ 1 ≤ s ∧ s < w ∧ 1 ≤ m ∧ m ≤ turnN w s := ⟨fun h => ⟨h.1, h.2, h.3, h.4, h.5, h.6⟩, fun h => ⟨h.1, h.2.1, h.2.2.1, h.2.2.2.1, h.2.2.2.2.1, h.2.2.2.2.2⟩⟩
instance {w s m : Nat} : Decidable (RowP w s m) := decidable_of_iff _ rowP_iff.symm
theorem RowP.small {w s m : Nat} (h : RowP w s m) : (w < 121 ∧ 0 < w) ∧ (s < 121 ∧ 0 < s) ∧ m < 121 ∧ 0 < m := by
  have a := h.w2
  have b := h.wm
  have c := h.s1
  have d := h.sw
  have e := h.m1
  have f := h.mt
  have g : turnN w s ≤ w := turn_le
  omega
theorem six_free {w s m : Nat} (h : RowP w s m) : ∀ p ∈ six w s m, 32 ∉ p.cps.toList := fun p hp => by
  obtain ⟨⟨a, b⟩, ⟨c, d⟩, e, f⟩ := h.small
  unfold six at hp
  simp only [List.mem_cons, List.not_mem_nil, or_false] at hp
  rcases hp with rfl | rfl | rfl | rfl | rfl | rfl
  · exact (num_is e f).2.2.1
  · decide +kernel
  · decide +kernel
  · exact (num_is c d).2.2.1
  · decide +kernel
  · exact (num_is a b).2.2.1
theorem ws_text {w s m : Nat} (h : RowP w s m) : wsT (textOf w s m) = six w s m := ws_of (fun z => nomatch z) (six_free h) (six_join w s m).symm
theorem text_len {w s m : Nat} (h : RowP w s m) : (textOf w s m).length ≤ 30 := by
  obtain ⟨⟨a, b⟩, ⟨c, d⟩, e, f⟩ := h.small
  have h1 := (num_is e f).2.2.2
  have h2 := (num_is c d).2.2.2
  have h3 := (num_is a b).2.2.2
  have h4 : (" points by " : Str).length = 11 := by decide +kernel
  have h5 : (" on " : Str).length = 4 := by decide +kernel
  unfold textOf
  rw [Str.length_append, Str.length_append, Str.length_append, Str.length_append, h4, h5]
  omega
/-- what is read of a text -/
def readO (t : Str) : Option (Nat × Nat × Nat) :=
  if (wsT t).length = 6 then
    match numW ((wsT t).getD 5 Str.empty), numW ((wsT t).getD 3 Str.empty), numW ((wsT t).getD 0 Str.empty) with
    | some w, some s, some m => if RowP w s m ∧ textOf w s m = t then some (w, s, m) else none
    | _, _, _ => none
  else none
/-- what the law asks -/
def dueO (t : Str) : Option (Nat × Nat × Nat) :=
  if (wsT t).length = 6 ∧ (wsT t).getD 1 Str.empty = "points" ∧ (wsT t).getD 2 Str.empty = "by" ∧ (wsT t).getD 4 Str.empty = "on" then
    match numL ((wsT t).getD 5 Str.empty), numL ((wsT t).getD 3 Str.empty), numL ((wsT t).getD 0 Str.empty) with
    | some w, some s, some m => if RowP w s m then some (w, s, m) else none
    | _, _, _ => none
  else none
theorem readO_iff {t : Str} {w s m : Nat} : readO t = some (w, s, m) ↔ RowP w s m ∧ t = textOf w s m := by
  constructor
  · intro h
    unfold readO at h
    split at h
    · split at h
      · split at h
        · rename_i hc
          cases h
          exact ⟨hc.1, hc.2.symm⟩
        · cases h
      · cases h
    · cases h
  · rintro ⟨h, rfl⟩
    obtain ⟨⟨a, b⟩, ⟨c, d⟩, e, f⟩ := h.small
    unfold readO
    rw [ws_text h]
    have n1 := (num_is a b).2.1
    have n2 := (num_is c d).2.1
    have n3 := (num_is e f).2.1
    rw [if_pos (show (six w s m).length = 6 from rfl)]
    show (match numW (numS w), numW (numS s), numW (numS m) with
      | some w', some s', some m' => if RowP w' s' m' ∧ textOf w' s' m' = textOf w s m then some (w', s', m') else none
      | _, _, _ => none) = _
    rw [n1, n2, n3]
    exact if_pos ⟨h, rfl⟩
theorem dueO_iff {t : Str} {w s m : Nat} : dueO t = some (w, s, m) ↔ RowP w s m ∧ t = textOf w s m := by
  constructor
  · intro h
    unfold dueO at h
    split at h
    · rename_i hc
      split at h
      · rename_i n1 n2 n3
        split at h
        · rename_i hr
          cases h
          refine ⟨hr, ?_⟩
          have e5 := (numL_is n1).1
          have e3 := (numL_is n2).1
          have e0 := (numL_is n3).1
          have hj := ws_join t
          obtain ⟨hl, e1, e2, e4⟩ := hc
          match hw : wsT t, hl with
          | [a, b, c, d, e, f], _ =>
            rw [hw] at e0 e1 e2 e3 e4 e5 hj
            have e0' : a = numS m := e0
            have e1' : b = "points" := e1
            have e2' : c = "by" := e2
            have e3' : d = numS s := e3
            have e4' : e = "on" := e4
            have e5' : f = numS w := e5
            rw [← hj, e0', e1', e2', e3', e4', e5']
            exact six_join w s m
        · cases h
      · cases h
    · cases h
  · rintro ⟨h, rfl⟩
    obtain ⟨⟨a, b⟩, ⟨c, d⟩, e, f⟩ := h.small
    unfold dueO
    rw [ws_text h]
    have n1 := (num_is a b).1
    have n2 := (num_is c d).1
    have n3 := (num_is e f).1
    rw [if_pos (show (six w s m).length = 6 ∧ (six w s m).getD 1 Str.empty = "points" ∧ (six w s m).getD 2 Str.empty = "by" ∧ (six w s m).getD 4 Str.empty = "on" from ⟨rfl, rfl, rfl, rfl⟩)]
    show (match numL (numS w), numL (numS s), numL (numS m) with
      | some w', some s', some m' => if RowP w' s' m' then some (w', s', m') else none
      | _, _, _ => none) = _
    rw [n1, n2, n3]
    exact if_pos h
theorem read_due (t : Str) : readO t = dueO t := by
  cases e : dueO t with
  | some x =>
    obtain ⟨w, s, m⟩ := x
    exact readO_iff.mpr (dueO_iff.mp e)
  | none =>
    cases e2 : readO t with
    | none => rfl
    | some x =>
      obtain ⟨w, s, m⟩ := x
      rw [dueO_iff.mpr (readO_iff.mp e2)] at e
      cases e
end
/-! ### places, as signs -/
section
variable {w s m : Nat}
def plcL (w s m : Nat) : List Nat := (List.range m).map fun k => k * s % w
def rndL (w s m : Nat) : List Nat := (List.range w).filter fun h => decide (h ∈ plcL w s m)
theorem rnd_perm (hw : 0 < w) (hm : m ≤ turnN w s) : (rndL w s m).Perm (plcL w s m) := by
  refine (List.perm_ext_iff_of_nodup (List.nodup_range.filter _) ?_).mpr fun h => ?_
  · refine List.pairwise_map.mpr (List.pairwise_lt_range.imp_of_mem fun {i j} hi hj lt e => ?_)
    rw [List.mem_range] at hi hj
    have := place_inj hw (by omega) (by omega) e
    omega
  · rw [List.mem_filter, List.mem_range, decide_eq_true_iff]
    refine ⟨fun z => z.2, fun z => ⟨?_, z⟩⟩
    obtain ⟨k, _, rfl⟩ := List.mem_map.mp z
    exact Nat.mod_lt _ hw
theorem rnd_lt : (rndL w s m).Pairwise (· < ·) := List.pairwise_lt_range.filter _
def sgnS (w s m : Nat) : List Str := (List.range w).map fun h => if h ∈ plcL w s m then "o" else "."
def drawT (w s m : Nat) : Str := Txt.join "" (sgnS w s m)
theorem join_none : ∀ l : List Str, (Str.join "" l).cps.toList = l.flatMap fun x => x.cps.toList
  | [] => by decide +kernel
  | [x] => by
    show x.cps.toList = x.cps.toList ++ []
    rw [List.append_nil]
  | x :: y :: r => by
    show (x ++ "" ++ Str.join "" (y :: r)).cps.toList = x.cps.toList ++ (y :: r).flatMap fun x => x.cps.toList
    rw [Str.cps_append, Str.cps_append, Array.toList_append, Array.toList_append, join_none (y :: r), show ("" : Str).cps.toList = [] by decide +kernel, List.append_nil]
theorem draw_signs : (drawT w s m).cps.toList = (List.range w).map fun h => if h ∈ plcL w s m then 111 else 46 := by
  unfold drawT sgnS
  rw [show Txt.join "" ((List.range w).map fun h => if h ∈ plcL w s m then ("o" : Str) else ".") = Str.join "" ((List.range w).map fun h => if h ∈ plcL w s m then ("o" : Str) else ".") from StrLaws.glued_eq_join _ _, join_none]
  generalize List.range w = l
  induction l with
  | nil => rfl
  | cons h l ih =>
    rw [List.map_cons, List.flatMap_cons, ih, List.map_cons]
    split
    · rw [show ("o" : Str).cps.toList = [111] by decide +kernel]
      rfl
    · rw [show ("." : Str).cps.toList = [46] by decide +kernel]
      rfl
end
end Z

namespace Z
open PySem L2
/-! ### texts changed: how long they are, which signs they have -/
section
variable {t : Str}
def OkT (t : Str) : Prop := ∀ c ∈ t.cps.toList, c < 1114112
theorem okT_str (h : OkT t) : PyData.strOk t = true := by
  unfold PyData.strOk
  rw [← Array.all_toList]
  exact List.all_eq_true.mpr fun c hc => decide_eq_true (h c hc)
theorem okT_app {a b : Str} (ha : OkT a) (hb : OkT b) : OkT (a ++ b) := fun c hc => by
  rw [Str.cps_append, Array.toList_append] at hc
  exact (List.mem_append.mp hc).elim (ha c) (hb c)
theorem okT_cut {l u : Option Int} (h : OkT t) : OkT (cutS t l u) := fun c hc => h c (List.mem_of_mem_drop (List.mem_of_mem_take hc))
theorem okT_rev (h : OkT t) : OkT (revS t) := fun c hc => by
  unfold revS at hc
  rw [PyProof.Rows.step_rev_list] at hc
  obtain ⟨k, hk, rfl⟩ := List.mem_map.mp hc
  by_cases z : t.length - 1 - k < t.cps.size
  · rw [show t.cps.getD (t.length - 1 - k) 0 = t.cps[t.length - 1 - k] by simp [Array.getD, z]]
    exact h _ (by rw [← Array.getElem_toList]; exact List.getElem_mem _)
  · rw [show t.cps.getD (t.length - 1 - k) 0 = 0 by simp [Array.getD, z]]
    decide
theorem mem_joinN {c : Nat} : ∀ {v : List (List Nat)}, c ∈ joinN v ↔ (c = 32 ∧ 1 < v.length) ∨ ∃ x ∈ v, c ∈ x
  | [] => by simp [joinN]
  | [x] => by simp [joinN]
  | x :: y :: r => by
    show c ∈ x ++ 32 :: joinN (y :: r) ↔ _
    rw [List.mem_append, List.mem_cons, mem_joinN (v := y :: r)]
    constructor
    · rintro (h | h | h | h)
      · exact .inr ⟨x, List.mem_cons_self, h⟩
      · exact .inl ⟨h, by simp⟩
      · exact .inl ⟨h.1, by simp⟩
      · obtain ⟨z, hz, hc⟩ := h
        exact .inr ⟨z, List.mem_cons_of_mem _ hz, hc⟩
    · rintro (h | ⟨z, hz, hc⟩)
      · exact .inr (.inl h.1)
      · rcases List.mem_cons.mp hz with rfl | hz
        · exact .inl hc
        · exact .inr (.inr (.inr ⟨z, hz, hc⟩))
theorem okT_word {p : Str} (h : OkT t) (hp : p ∈ wsT t) : OkT p := fun c hc => by
  refine h c ?_
  rw [← ws_join t, join_signs]
  exact mem_joinN.mpr (.inr ⟨_, List.mem_map.mpr ⟨p, hp, rfl⟩, hc⟩)
theorem okT_join {l : List Str} (h : ∀ p ∈ l, OkT p) : OkT (Txt.join " " l) := fun c hc => by
  rw [show Txt.join " " l = Str.join " " l from StrLaws.glued_eq_join _ _, join_signs] at hc
  rcases mem_joinN.mp hc with ⟨rfl, _⟩ | ⟨x, hx, hc⟩
  · decide
  · obtain ⟨p, hp, rfl⟩ := List.mem_map.mp hx
    exact h p hp c hc
theorem join_len (l : List Str) : (Txt.join " " l).length = (l.map (·.length)).sum + (l.length - 1) := by
  have h := size_glued " " l
  rw [show (" " : Str).length = 1 by decide +kernel, Nat.mul_one] at h
  exact h
theorem words_len (t : Str) : ((wsT t).map (·.length)).sum + ((wsT t).length - 1) = t.length := by
  rw [← join_len]
  rw [show Txt.join " " (wsT t) = Str.join " " (wsT t) from StrLaws.glued_eq_join _ _, ws_join]
theorem mem_le : ∀ {l : List Nat} {x : Nat}, x ∈ l → x ≤ l.sum
  | y :: l, x, h => by
    rw [List.sum_cons]
    rcases List.mem_cons.mp h with rfl | h
    · omega
    · have := mem_le h
      omega
theorem word_len {p : Str} (hp : p ∈ wsT t) : p.length ≤ t.length := by
  have h1 := mem_le (List.mem_map.mpr ⟨p, hp, rfl⟩ : p.length ∈ (wsT t).map (·.length))
  have h2 := words_len t
  omega
theorem words_few (t : Str) : (wsT t).length ≤ t.length + 1 := by
  have h2 := words_len t
  omega
def signs16 : Str := "0123456789 obn-a"
def sgn16 (n : Nat) : Str := ⟨#[signs16.cps.toList.getD (n / 1024 % 16) 0]⟩
def chgW (ws : List Str) (a : Nat) : List Str := ws.take a ++ ((ws.drop a).take 2).reverse ++ ws.drop (a + 2)
def chgT (t : Str) (n : Nat) : Str :=
  if n % 6 = 0 then cutS t none (some ((n / 8 % (t.length + 1) : Nat) : Int)) ++ cutS t (some ((n / 8 % (t.length + 1) + 1 : Nat) : Int)) none
  else if n % 6 = 1 then cutS t none (some ((n / 8 % (t.length + 1) : Nat) : Int)) ++ cutS t (some ((n / 8 % (t.length + 1) : Nat) : Int)) (some ((n / 8 % (t.length + 1) + 1 : Nat) : Int)) ++ cutS t (some ((n / 8 % (t.length + 1) : Nat) : Int)) none
  else if n % 6 = 2 then cutS t none (some ((n / 8 % (t.length + 1) : Nat) : Int)) ++ sgn16 n ++ cutS t (some ((n / 8 % (t.length + 1) + 1 : Nat) : Int)) none
  else if n % 6 = 3 then cutS t none (some ((n / 8 % (t.length + 1) : Nat) : Int)) ++ sgn16 n ++ cutS t (some ((n / 8 % (t.length + 1) : Nat) : Int)) none
  else if n % 6 = 4 then cutS t none (some ((n / 8 % (t.length + 1) : Nat) : Int)) ++ revS (cutS t (some ((n / 8 % (t.length + 1) : Nat) : Int)) (some ((n / 8 % (t.length + 1) + 2 : Nat) : Int))) ++ cutS t (some ((n / 8 % (t.length + 1) + 2 : Nat) : Int)) none
  else Txt.join " " (chgW (wsT t) (n / 8 % (wsT t).length))
theorem chgW_parts (ws : List Str) (a : Nat) : ws = ws.take a ++ ((ws.drop a).take 2 ++ ws.drop (a + 2)) := by
  have h : (ws.drop a).take 2 ++ ws.drop (a + 2) = ws.drop a := by
    rw [← List.drop_drop, List.take_append_drop]
  rw [h, List.take_append_drop]
theorem chgW_sum (ws : List Str) (a : Nat) : ((chgW ws a).map (·.length)).sum = (ws.map (·.length)).sum ∧ (chgW ws a).length = ws.length := by
  have h := chgW_parts ws a
  constructor
  · have h2 := congrArg (fun l : List Str => (l.map (·.length)).sum) h
    simp only [List.map_append, List.sum_append] at h2
    unfold chgW
    simp only [List.map_append, List.map_reverse, List.sum_append, List.sum_reverse]
    omega
  · have h2 := congrArg List.length h
    simp only [List.length_append] at h2
    unfold chgW
    simp only [List.length_append, List.length_reverse]
    omega
theorem chgW_mem {ws : List Str} {a : Nat} {p : Str} (h : p ∈ chgW ws a) : p ∈ ws := by
  unfold chgW at h
  rcases List.mem_append.mp h with h | h
  · rcases List.mem_append.mp h with h | h
    · exact List.mem_of_mem_take h
    · exact List.mem_of_mem_drop (List.mem_of_mem_take (List.mem_reverse.mp h))
  · exact List.mem_of_mem_drop h
theorem sgn_len (n : Nat) : (sgn16 n).length = 1 := rfl
theorem sgn_ok (n : Nat) : OkT (sgn16 n) := fun c hc => by
  have e : c = signs16.cps.toList.getD (n / 1024 % 16) 0 := by simpa [sgn16] using hc
  have tbl : ∀ k < 16, signs16.cps.toList.getD k 0 < 1114112 := by decide +kernel
  rw [e]
  exact tbl _ (Nat.mod_lt _ (by decide))
theorem chg_len (t : Str) (n : Nat) : (chgT t n).length ≤ 3 * t.length + 3 := by
  have c : ∀ l u, (cutS t l u).length ≤ t.length := fun l u => cutS_length t l u
  have c0 := c none (some ((n / 8 % (t.length + 1) : Nat) : Int))
  have c1 := c (some ((n / 8 % (t.length + 1) + 1 : Nat) : Int)) none
  have c2 := c (some ((n / 8 % (t.length + 1) : Nat) : Int)) (some ((n / 8 % (t.length + 1) + 1 : Nat) : Int))
  have c3 := c (some ((n / 8 % (t.length + 1) : Nat) : Int)) none
  have c4 := c (some ((n / 8 % (t.length + 1) : Nat) : Int)) (some ((n / 8 % (t.length + 1) + 2 : Nat) : Int))
  have c5 := c (some ((n / 8 % (t.length + 1) + 2 : Nat) : Int)) none
  have s := sgn_len n
  unfold chgT
  split
  · rw [Str.length_append]
    omega
  split
  · rw [Str.length_append, Str.length_append]
    omega
  split
  · rw [Str.length_append, Str.length_append]
    omega
  split
  · rw [Str.length_append, Str.length_append]
    omega
  split
  · rw [Str.length_append, Str.length_append, revS_len]
    omega
  · have h := chgW_sum (wsT t) (n / 8 % (wsT t).length)
    have h2 := words_len t
    rw [join_len, h.1, h.2]
    omega
theorem chg_okT {n : Nat} (h : OkT t) : OkT (chgT t n) := by
  unfold chgT
  split
  · exact okT_app (okT_cut h) (okT_cut h)
  split
  · exact okT_app (okT_app (okT_cut h) (okT_cut h)) (okT_cut h)
  split
  · exact okT_app (okT_app (okT_cut h) (sgn_ok n)) (okT_cut h)
  split
  · exact okT_app (okT_app (okT_cut h) (sgn_ok n)) (okT_cut h)
  split
  · exact okT_app (okT_app (okT_cut h) (okT_rev (okT_cut h))) (okT_cut h)
  · exact okT_join fun p hp => okT_word h (chgW_mem hp)
theorem textOf_ok {w s m : Nat} (h : RowP w s m) : OkT (textOf w s m) := by
  rw [← six_join w s m, ← show Txt.join " " (six w s m) = Str.join " " (six w s m) from StrLaws.glued_eq_join _ _]
  obtain ⟨⟨a, b⟩, ⟨c, d⟩, e, f⟩ := h.small
  have num : ∀ n < 121, OkT (numS n) := fun n hn c hc => by
    rw [PySem.W.KIN.signs_num] at hc
    have h1 := (num_small n hn).1
    have h2 := List.all_eq_true.mp h1 c hc
    have h3 := of_decide_eq_true (Bool.and_eq_true_iff.mp h2).2
    omega
  refine okT_join fun p hp => ?_
  unfold six at hp
  simp only [List.mem_cons, List.not_mem_nil, or_false] at hp
  rcases hp with rfl | rfl | rfl | rfl | rfl | rfl
  · exact num m e
  · exact fun c hc => (show ∀ c ∈ ("points" : Str).cps.toList, c < 1114112 by decide +kernel) c hc
  · exact fun c hc => (show ∀ c ∈ ("by" : Str).cps.toList, c < 1114112 by decide +kernel) c hc
  · exact num s c
  · exact fun c hc => (show ∀ c ∈ ("on" : Str).cps.toList, c < 1114112 by decide +kernel) c hc
  · exact num w a
end
end Z

namespace Z
open PySem PySem.Spec PyProof.Rows L2
abbrev rowD (w s m : Nat) : D := .tuple [iD w, iD s, iD m]
abbrev pairN (p : Nat × Nat) : D := .tuple [iD p.1, iD p.2]
def cellI (ns : List Int) (k : Nat) : Int := if k < ns.length then ns.getD k 0 else 0
def mixX (ns : List Int) (k : Nat) : Int := (cellI ns k + 7919 * (k : Int) + 1) * 48271 % 2147483647
def mixI (ns : List Int) (k : Nat) : Int := (mixX ns k * mixX ns k + 7 * mixX ns k + (k : Int)) % 2147483629
def mixN (ns : List Int) (k : Nat) : Nat := (mixI ns k).toNat
theorem mixX_lt (ns : List Int) (k : Nat) : 0 ≤ mixX ns k ∧ mixX ns k < 2147483647 := ⟨Int.emod_nonneg _ (by decide), Int.emod_lt_of_pos _ (by decide)⟩
theorem mixI_eq (ns : List Int) (k : Nat) : mixI ns k = (mixN ns k : Int) := by
  have : 0 ≤ mixI ns k := Int.emod_nonneg _ (by decide)
  unfold mixN
  omega
theorem mixN_lt (ns : List Int) (k : Nat) : mixN ns k < 2147483629 := by
  have : mixI ns k < 2147483629 := Int.emod_lt_of_pos _ (by decide)
  unfold mixN
  omega
def pairW (n most : Nat) : Nat := 2 + n % (most - 1)
def pairS (n most : Nat) : Nat := 1 + n / 128 % (pairW n most - 1)
def rowM (n most : Nat) : Nat := 1 + n / 16384 % turnN (pairW n most) (pairS n most)
theorem pairW_le {n most : Nat} (h : 2 ≤ most) : 2 ≤ pairW n most ∧ pairW n most ≤ most := by
  have := Nat.mod_lt n (show 0 < most - 1 by omega)
  unfold pairW
  omega
theorem pairS_lt {n most : Nat} (h : 2 ≤ most) : 1 ≤ pairS n most ∧ pairS n most < pairW n most := by
  have h1 := (pairW_le (n := n) h).1
  have := Nat.mod_lt (n / 128) (show 0 < pairW n most - 1 by omega)
  unfold pairS
  omega
theorem rowM_le {n most : Nat} (h : 2 ≤ most) : 1 ≤ rowM n most ∧ rowM n most ≤ turnN (pairW n most) (pairS n most) := by
  have h1 := (pairW_le (n := n) h).1
  have := Nat.mod_lt (n / 16384) (turn_pos (s := pairS n most) (show 0 < pairW n most by omega))
  unfold rowM
  omega
theorem fil0 {α : Type} (xs : List α) : xs.filter (fun _ => false) = [] := List.filter_eq_nil_iff.mpr (by simp)
def φ_law (ds : List D) (d : D) : Prop := ∃ ns : List Int, ds = [.list (ns.map .int)] ∧ ns.length ≤ 63 ∧ d = .bool true
theorem law_in {K : PySem.W.Frag} {H : Hp} {a : Addr} {ns : List Int} (hl : ns.length ≤ 63) (hS : SqL K H a (ns.map V.int)) : spD K φ_law [.ref a] H (fun v _ => v = .bl true) fun _ _ _ => False := by
  refine ⟨[], [.list (ns.map .int)], .bool true, ⟨ns, rfl, hl, rfl⟩, fun a m => (by simp at m), .cons (.lst ?_ (RepA.of_ints ns)) .nil, fun v H' _ r => by cases r; rfl⟩
  rcases hS with h | h
  · exact .inl ⟨h, by simp⟩
  · exact .inr (.inr h)
theorem range_get {n i : Nat} {d : D} (h : ((List.range n).map iD)[i]? = some d) : i < n ∧ d = iD i := by
  rw [List.getElem?_map] at h
  by_cases hi : i < n
  · rw [List.getElem?_range hi] at h
    cases h
    exact ⟨hi, rfl⟩
  · rw [List.getElem?_eq_none (by simpa using hi)] at h
    cases h
def wholeD (d : D) (lo hi : Int) : Bool := match d with
  | .int i => decide (lo ≤ i) && decide (i ≤ hi)
  | _ => false
def intD (d : D) : Int := match d with
  | .int i => i
  | _ => 0
def rowOk (d : D) : Bool := match d with
  | .tuple [x, y, z] => wholeD x 2 120 && (wholeD y 1 (intD x - 1) && wholeD z 1 (turnN (intD x).toNat (intD y).toNat))
  | _ => false
theorem whole_int {d : D} {lo hi : Int} (h : wholeD d lo hi = true) : d = .int (intD d) ∧ lo ≤ intD d ∧ intD d ≤ hi := by
  cases d with
  | int i =>
    have h' : (decide (lo ≤ i) && decide (i ≤ hi)) = true := h
    have h2 := Bool.and_eq_true_iff.mp h'
    exact ⟨rfl, of_decide_eq_true h2.1, of_decide_eq_true h2.2⟩
  | _ => cases h
theorem whole_no {d : D} {lo hi : Int} (h : isInt d = false) : wholeD d lo hi = false := by
  cases d <;> first | rfl | cases h
theorem whole_bool {d : D} {lo hi : Int} (h : isBool d = true) : wholeD d lo hi = false := by
  cases d <;> first | rfl | cases h
theorem tup_of {d : D} (h : isTup d = true) : ∃ ds, d = .tuple ds := by
  cases d with
  | tuple ds => exact ⟨ds, rfl⟩
  | _ => cases h
theorem row_no {d : D} (h : isTup d = false) : rowOk d = false := by
  cases d <;> first | rfl | cases h
theorem row_len {ds : List D} (h : ds.length ≠ 3) : rowOk (.tuple ds) = false := by
  match ds, h with
  | [], _ => rfl
  | [_], _ => rfl
  | [_, _], _ => rfl
  | [_, _, _], h => exact absurd rfl h
  | _ :: _ :: _ :: _ :: _, _ => rfl
theorem three_of {ds : List D} (h : ds.length = 3) : ∃ x y z, ds = [x, y, z] := by
  match ds, h with
  | [x, y, z], _ => exact ⟨x, y, z, rfl⟩
theorem get_D {l : List D} {j : Nat} (h : j < l.length) : l[j]? = some (l.getD j .none) := by
  rw [List.getD_eq_getElem?_getD, List.getElem?_eq_getElem h]
  rfl
theorem get_I {l : List Int} {j : Nat} (h : j < l.length) : l[j]? = some (l.getD j 0) := by
  rw [List.getD_eq_getElem?_getD, List.getElem?_eq_getElem h]
  rfl
theorem cut_le {xs : List D} {a b : Option Int} : (cutI xs a b).length ≤ xs.length := by
  unfold cutI
  rw [List.length_take, List.length_drop]
  omega
def other5 (l : List D) : List D := [.list l, .list l, .tuple (l ++ cutI l none (some 1)), .tuple (cutI l (some 1) none), .list [.tuple l]]
def otherI (i : Nat) : List D := [.bool true, .none, .str (toString (i : Int)), .tuple [iD i], .int (-1 - (i : Int))]
def otherD (t : D) (n : Nat) : D := match t with
  | .tuple l => (other5 l).getD (n % 5) .none
  | .int i => (otherI i.toNat).getD (n % 5) .none
  | _ => .none
def way9 : Nat → List D
  | 0 => []
  | k + 1 => [iD k]
def ways9 : List D := [.tuple [], .tuple [iD 0], .tuple [iD 1], .tuple [iD 2]]
def put9 (l : List D) (n : Nat) : Nat → D
  | 0 => otherD (.tuple l) (n / 4096)
  | k + 1 => .tuple (cutI l none (some (k : Int)) ++ [otherD (l.getD k .none) (n / 4096)] ++ cutI l (some ((k : Int) + 1)) none)

def topS (i : Nat) : Stmt := PySem.Challenge.pw_ringgaps_k09_lists_anywhere.main.body.getD i (.Pass ⟨0, 0, 0, 0⟩)
abbrev s_l_cell_at : Stmt := topS 7
theorem sc_l_cell_at : FnScope ["_law_script", "_law_k"] ["_law_script", "_law_k"] (defScope s_l_cell_at) := ⟨rfl, rfl, rfl, by decide +kernel, rfl, by decide +kernel, by decide +kernel⟩
abbrev s_l_mixed : Stmt := topS 8
theorem sc_l_mixed : FnScope ["_law_script", "_law_k", "_law_drawn"] ["_law_script", "_law_k"] (defScope s_l_mixed) := ⟨rfl, rfl, rfl, by decide +kernel, rfl, by decide +kernel, by decide +kernel⟩
abbrev s_l_pair : Stmt := topS 10
theorem sc_l_pair : FnScope ["_law_number", "_law_most", "_law_whole_here", "_law_step"] ["_law_number", "_law_most"] (defScope s_l_pair) := ⟨rfl, rfl, rfl, by decide +kernel, rfl, by decide +kernel, by decide +kernel⟩
abbrev s_l_turn : Stmt := topS 9
theorem sc_l_turn : FnScope ["_law_whole_here", "_law_step", "_law_k"] ["_law_whole_here", "_law_step"] (defScope s_l_turn) := ⟨rfl, rfl, rfl, by decide +kernel, rfl, by decide +kernel, by decide +kernel⟩
abbrev s_l_row : Stmt := topS 11
theorem sc_l_row : FnScope ["_law_number", "_law_most", "_law_whole_here", "_law_step"] ["_law_number", "_law_most"] (defScope s_l_row) := ⟨rfl, rfl, rfl, by decide +kernel, rfl, by decide +kernel, by decide +kernel⟩
abbrev s_is_whole : Stmt := topS 2
theorem sc_is_whole : FnScope ["thing", "low", "high"] ["thing", "low", "high"] (defScope s_is_whole) := ⟨rfl, rfl, rfl, by decide +kernel, rfl, by decide +kernel, by decide +kernel⟩
abbrev s_common : Stmt := topS 3
theorem sc_common : FnScope ["one", "other"] ["one", "other"] (defScope s_common) := ⟨rfl, rfl, rfl, by decide +kernel, rfl, by decide +kernel, by decide +kernel⟩
abbrev s_turn : Stmt := topS 4
theorem sc_turn : FnScope ["whole", "step"] ["whole", "step"] (defScope s_turn) := ⟨rfl, rfl, rfl, by decide +kernel, rfl, by decide +kernel, by decide +kernel⟩
abbrev s_is_row : Stmt := topS 5
theorem sc_is_row : FnScope ["thing"] ["thing"] (defScope s_is_row) := ⟨rfl, rfl, rfl, by decide +kernel, rfl, by decide +kernel, by decide +kernel⟩
abbrev s_l_places_in : Stmt := topS 14
theorem sc_l_places_in : FnScope ["_law_bent_one", "_law_bent_way", "_law_bent_ways", "_law_bent_at", "_law_bent_part"] ["_law_bent_one", "_law_bent_way"] (defScope s_l_places_in) := ⟨rfl, rfl, rfl, by decide +kernel, rfl, by decide +kernel, by decide +kernel⟩
abbrev s_l_put_at : Stmt := topS 15
theorem sc_l_put_at : FnScope ["_law_bent_one", "_law_bent_way", "_law_bent_by", "_law_bent_at", "_law_bent_part"] ["_law_bent_one", "_law_bent_way", "_law_bent_by"] (defScope s_l_put_at) := ⟨rfl, rfl, rfl, by decide +kernel, rfl, by decide +kernel, by decide +kernel⟩
abbrev s_l_otherwise : Stmt := topS 16
theorem sc_l_otherwise : FnScope ["_law_bent_one", "_law_bent_number", "_law_bent_some"] ["_law_bent_one", "_law_bent_number"] (defScope s_l_otherwise) := ⟨rfl, rfl, rfl, by decide +kernel, rfl, by decide +kernel, by decide +kernel⟩
abbrev s_l_spoilt : Stmt := topS 17
theorem sc_l_spoilt : FnScope ["_law_thing", "_law_number", "_law_deep", "_law_bent_ways", "_law_bent_way"] ["_law_thing", "_law_number", "_law_deep"] (defScope s_l_spoilt) := ⟨rfl, rfl, rfl, by decide +kernel, rfl, by decide +kernel, by decide +kernel⟩
abbrev s_l_whole : Stmt := topS 12
theorem sc_l_whole : FnScope ["_law_thing", "_law_low", "_law_high"] ["_law_thing", "_law_low", "_law_high"] (defScope s_l_whole) := ⟨rfl, rfl, rfl, by decide +kernel, rfl, by decide +kernel, by decide +kernel⟩
abbrev s_l_is_row : Stmt := topS 13
theorem sc_l_is_row : FnScope ["_law_thing"] ["_law_thing"] (defScope s_l_is_row) := ⟨rfl, rfl, rfl, by decide +kernel, rfl, by decide +kernel, by decide +kernel⟩
abbrev s_l_once : Stmt := topS 18
theorem sc_l_once : FnScope ["_law_script", "_law_number", "_law_row_here", "_law_whole_here", "_law_step", "_law_found"] ["_law_script"] (defScope s_l_once) := ⟨rfl, rfl, rfl, by decide +kernel, rfl, by decide +kernel, by decide +kernel⟩
abbrev s_law : Stmt := topS 19
theorem sc_law : FnScope ["_law_script", "_law_bent_turn", "_law_bent_cell"] ["_law_script"] (defScope s_law) := ⟨rfl, rfl, rfl, by decide +kernel, rfl, by decide +kernel, by decide +kernel⟩
def φ_l_cell_at (ds : List D) (d : D) : Prop := ∃ (ns : List Int) (k : Nat), ds = [.list (ns.map .int), iD k] ∧ k < 1000 ∧ d = .int (cellI ns k)

def φ_l_mixed (ds : List D) (d : D) : Prop := ∃ (ns : List Int) (k : Nat), ds = [.list (ns.map .int), iD k] ∧ k < 1000 ∧ d = iD (mixN ns k)

def φ_l_pair (ds : List D) (d : D) : Prop := ∃ n most : Nat, ds = [iD n, iD most] ∧ 2 ≤ most ∧ most ≤ 1000 ∧ d = .tuple [iD (pairW n most), iD (pairS n most)]

def φ_l_turn (ds : List D) (d : D) : Prop := ∃ w s : Nat, ds = [iD w, iD s] ∧ 0 < w ∧ w ≤ 1000 ∧ d = iD (turnN w s)

def φ_l_row (ds : List D) (d : D) : Prop := ∃ n most : Nat, ds = [iD n, iD most] ∧ 2 ≤ most ∧ most ≤ 1000 ∧ d = rowD (pairW n most) (pairS n most) (rowM n most)

def φ_is_whole (ds : List D) (d : D) : Prop := ∃ (t : D) (lo hi : Int), ds = [t, .int lo, .int hi] ∧ d = .bool (wholeD t lo hi)

def φ_common (ds : List D) (d : D) : Prop := ∃ a b : Nat, ds = [iD a, iD b] ∧ d = iD (Nat.gcd a b)

def φ_turn (ds : List D) (d : D) : Prop := ∃ w s : Nat, ds = [iD w, iD s] ∧ 0 < w ∧ w < 2 ^ 30 ∧ d = iD (turnN w s)

def φ_is_row (ds : List D) (d : D) : Prop := ∃ t : D, ds = [t] ∧ d = .bool (rowOk t)

def φ_l_places_in0 (ds : List D) (d : D) : Prop := ∃ (i : Int) (l : List D), ds = [.int i, .tuple l] ∧ d = .list [.tuple l]
def φ_l_places_in (ds : List D) (d : D) : Prop := ∃ a b c : Int, ds = [.tuple [.int a, .int b, .int c], .tuple []] ∧ d = .list ways9

/-- the words of put_at's slots, the lambda's slots -/
abbrev N_put : List Str := ["_law_bent_one", "_law_bent_way", "_law_bent_by", "_law_bent_at", "_law_bent_part"]
abbrev N_lam : List Str := ["_law_bent_part", "_law_number"]

def φ_l_otherwise (ds : List D) (d : D) : Prop := ∃ (t : D) (n : Nat), ds = [t, iD n] ∧ ((∃ l, t = .tuple l ∧ l.length ≤ 3) ∨ ∃ i : Nat, t = iD i ∧ i ≤ 1000) ∧ d = otherD t n

def φ_l_spoilt (ds : List D) (d : D) : Prop := ∃ (w s m n : Nat) (z : D), ds = [rowD w s m, iD n, z] ∧ w ≤ 1000 ∧ s ≤ 1000 ∧ m ≤ 1000 ∧ d = put9 [iD w, iD s, iD m] n (n % 4)

def φ_l_whole (ds : List D) (d : D) : Prop := ∃ (t : D) (lo hi : Int), ds = [t, .int lo, .int hi] ∧ d = .bool (wholeD t lo hi)

def φ_l_is_row (ds : List D) (d : D) : Prop := ∃ t : D, ds = [t] ∧ d = .bool (rowOk t)

def φ_l_once (ds : List D) (d : D) : Prop := ∃ ns : List Int, ds = [.list (ns.map .int)] ∧ d = .bool true

section
variable {P : Program} {w : World} {K : PySem.W.Frag} {mg : Str → Option Value} {base : Heap}
theorem ok_l_cell_at {f : Addr} {fd : FuncData} (F : Fun K "_law_cell_at" "_law_cell_at" s_l_cell_at f fd) (m_len : mg "len" = none) : FnOk P w K mg base CX0 1 f fd ["_law_script", "_law_k"] (spD K φ_l_cell_at) := by
  refine fnD F sc_l_cell_at (fun ds d ⟨ns, k, e, _⟩ => by rw [e]; rfl) fun cdv A outer s H E ds d hr ⟨ns, k, e1, hk, e2⟩ => ?_
  subst e1 e2
  refine sds_cons (sd_if (pt_lt (pd_var 1) (pd_b cd_lenL m_len bb_len (pd_a1 (pd_var 0)))) (fun h => ?_) (fun h => ?_))
  · have h' : k < ns.length := by simpa using h
    refine sds_one (sd_ret (pd_ixL (d := .int (cellI ns k)) (pd_var 0) (pd_var 1) ?_) rfl)
    refine atI_nat ?_
    rw [List.getElem?_map]
    unfold cellI
    rw [if_pos h', List.getD_eq_getElem?_getD, List.getElem?_eq_getElem h']
    rfl
  · have h' : ¬ k < ns.length := by simpa using h
    refine sds_nil (sds_one (sd_ret pd_int ?_))
    show PyData.int 0 = .int (cellI ns k)
    unfold cellI
    rw [if_neg h']

theorem ok_l_mixed {f : Addr} {fd : FuncData} (F : Fun K "_law_mixed" "_law_mixed" s_l_mixed f fd) (G_l_cell_at : DFn P w K mg base 1 "_law_cell_at" φ_l_cell_at) : FnOk P w K mg base CX0 2 f fd ["_law_script", "_law_k"] (spD K φ_l_mixed) := by
  refine fnD F sc_l_mixed (fun ds d ⟨ns, k, e, _⟩ => by rw [e]; rfl) fun cdv A outer s H E ds d hr ⟨ns, k, e1, hk, e2⟩ => ?_
  subst e1 e2
  have hx := mixX_lt ns k
  refine sds_cons (sd_set 2 sc_l_mixed.nd (pd_mod (pd_mul (pd_add (pd_add (pd_call G_l_cell_at (hr.mono (by decide)) (pds_cons (pd_var 0) (pds_cons (pd_var 1) pds_nil)) ⟨ns, k, rfl, hk, rfl⟩) (pd_mul pd_int (pd_var 1) (.inl (by decide)))) pd_int) pd_int (.inr (by decide))) pd_int (by decide)) ?_)
  refine sds_one (sd_ret (d := .int (mixI ns k)) (pd_mod (pd_add (pd_add (pd_mul (pd_var 2 (d := .int (mixX ns k))) (pd_var 2 (d := .int (mixX ns k))) ?_) (pd_mul pd_int (pd_var 2 (d := .int (mixX ns k))) (.inl (by decide)))) (pd_var 1)) pd_int (by decide)) ?_)
  · exact .inl ⟨by omega, by omega⟩
  · show PyData.int (mixI ns k) = iD (mixN ns k)
    rw [mixI_eq]

theorem ok_l_pair {f : Addr} {fd : FuncData} (F : Fun K "_law_pair" "_law_pair" s_l_pair f fd) : FnOk P w K mg base CX0 1 f fd ["_law_number", "_law_most"] (spD K φ_l_pair) := by
  refine fnD F sc_l_pair (fun ds d ⟨n, k, e, _⟩ => by rw [e]; rfl) fun cdv A outer s H E ds d hr ⟨n, most, e1, h1, h2, e2⟩ => ?_
  subst e1 e2
  have hw := pairW_le (n := n) h1
  refine sds_cons (sd_set 2 (d := iD (pairW n most)) sc_l_pair.nd (PD.eq (pd_add pd_int (pd_mod (pd_var 0) (pd_sub (pd_var 1) pd_int) (by omega))) ?_) ?_)
  · have e : ((most - 1 : Nat) : Int) = (most : Int) - 1 := by omega
    rw [← e]
    rfl
  refine sds_cons (sd_set 3 (d := iD (pairS n most)) sc_l_pair.nd (PD.eq (pd_add pd_int (pd_mod (pd_fdiv (pd_var 0) pd_int (by decide)) (pd_sub (pd_var 2) pd_int) (by omega))) ?_) ?_)
  · have e : ((pairW n most - 1 : Nat) : Int) = (pairW n most : Int) - 1 := by omega
    rw [← e]
    rfl
  exact sds_one (sd_ret (pd_tup (pds_cons (pd_var 2) (pds_cons (pd_var 3) pds_nil))) rfl)

theorem ok_l_turn {f : Addr} {fd : FuncData} (F : Fun K "_law_turn" "_law_turn" s_l_turn f fd) (m_range : mg "range" = none) : FnOk P w K mg base CX0 1 f fd ["_law_whole_here", "_law_step"] (spD K φ_l_turn) := by
  refine fnD F sc_l_turn (fun ds d ⟨n, k, e, _⟩ => by rw [e]; rfl) fun cdv A outer s H E ds d hr ⟨w, st, e1, h1, h2, e2⟩ => ?_
  subst e1 e2
  refine sds_one (sd_ret (pd_ixL (d := iD (turnN w st)) (pd_lcf [("_law_k", 2)] (List.range w) (fun i => iD (1 + i)) (fun i => iD (1 + i)) (fun i => decide ((1 + i) * st % w = 0)) rfl sc_l_turn.nd (pid_range2 (lo := 1) (hi := w + 1) m_range (pd_a2 pd_int (pd_add (pd_var 0) pd_int)) rfl (by omega) (by omega)) (blkOk_by (own := [("_law_k", 2)]) (N := ["_law_whole_here", "_law_step", "_law_k"]) (sc := defScope s_l_turn) (by decide +kernel)) (by rw [List.length_range]; omega) (fun i hi => ?_)) pd_int ?_) rfl)
  rotate_left
  · have e := congrArg (List.map (fun k => iD k)) (turn_first (w := w) (s := st) h1)
    rw [List.filter_map, List.map_map, List.map_map] at e
    have e2 : ((List.range w).filter fun i => decide ((1 + i) * st % w = 0)).map (fun i => iD (1 + i)) = (List.range (Nat.gcd w st)).map fun i => iD ((i + 1) * turnN w st) := by
      simp only [Nat.add_comm 1]
      exact e
    rw [e2]
    refine atI_nat (j := 0) ?_
    rw [List.getElem?_map, List.getElem?_range (gcd_pos h1)]
    simp
  · exact lct_if _ (fun _ _ _ _ _ => (pgd_name 2 sc_l_turn.nd)) (fun _ _ _ _ _ => PTD.eq (pt_eq (pd_mod (pd_mul (pd_var 2) (pd_var 1) (.inl (by rw [List.mem_range] at hi; omega))) (pd_var 0) (by omega)) pd_int) (decide_eq_decide.mpr (Int.natCast_inj (m := (1 + i) * st % w) (n := 0)))) (fun hk _ _ _ _ _ => pd_var 2)

theorem ok_l_row {f : Addr} {fd : FuncData} (F : Fun K "_law_row" "_law_row" s_l_row f fd) (G_l_pair : DFn P w K mg base 1 "_law_pair" φ_l_pair) (G_l_turn : DFn P w K mg base 1 "_law_turn" φ_l_turn) : FnOk P w K mg base CX0 2 f fd ["_law_number", "_law_most"] (spD K φ_l_row) := by
  refine fnD F sc_l_row (fun ds d ⟨n, k, e, _⟩ => by rw [e]; rfl) fun cdv A outer s H E ds d hr ⟨n, most, e1, h1, h2, e2⟩ => ?_
  subst e1 e2
  have hw := pairW_le (n := n) h1
  have ht := turn_pos (w := pairW n most) (s := pairS n most) (by omega)
  refine sds_cons (sd_asg (vs := [2, 3]) (pd_call G_l_pair (hr.mono (by decide)) (pds_cons (pd_var 0) (pds_cons (pd_var 1) pds_nil)) ⟨n, most, rfl, h1, h2, rfl⟩) (pgd_tup rfl (pgds_cons (pgd_name 2 sc_l_row.nd) (pgds_cons (pgd_name 3 sc_l_row.nd) pgds_nil))) ?_)
  refine sds_one (sd_ret (pd_tup (pds_cons (pd_var 2) (pds_cons (pd_var 3) (pds_cons (PD.eq (pd_add pd_int (pd_mod (pd_fdiv (pd_var 0) pd_int (by decide)) (pd_call G_l_turn (hr.mono (by decide)) (pds_cons (pd_var 2) (pds_cons (pd_var 3) pds_nil)) ⟨_, _, rfl, by omega, by omega, rfl⟩) ?_)) ?_) pds_nil)))) rfl)
  · omega
  · unfold rowM
    congr 1

theorem ok_is_whole {f : Addr} {fd : FuncData} (F : Fun K "is_whole" "is_whole" s_is_whole f fd) (m_isinstance : mg "isinstance" = none) (m_int : mg "int" = none) (m_bool : mg "bool" = none) : FnOk P w K mg base CX0 1 f fd ["thing", "low", "high"] (spD K φ_is_whole) := by
  refine fnD F sc_is_whole (fun ds d ⟨_, _, _, e, _⟩ => by rw [e]; rfl) fun cdv A outer s H E ds d hr ⟨t, lo, hi, e1, e2⟩ => ?_
  subst e1 e2
  refine sds_one (sd_ret (PD.eq (pd_and (l := wholeD t lo hi) (pd_isInt m_isinstance m_int (pd_var 0)) fun hb => PD.eq (pd_and (l := wholeD t lo hi) (pd_not (pd_isBool m_isinstance m_bool (pd_var 0))) fun hb2 => ?_) ?_) ?_) rfl)
  · cases t with
    | int i => exact pd_one (pd_chain op_le op_le rd_B0 rd_B0 (pd_var 1) (pd_var 0) (pd_var 2))
    | bool _ => cases hb2
    | _ => cases hb
  · cases t <;> rfl
  · cases t <;> rfl

theorem gcd_next {a b : Nat} : Nat.gcd b (a % b) = Nat.gcd a b := by
  rw [Nat.gcd_comm a b, Nat.gcd_rec b a, Nat.gcd_comm]
theorem ok_common {f : Addr} {fd : FuncData} (F : Fun K "common" "common" s_common f fd) : FnOk P w K mg base CX0 1 f fd ["one", "other"] (spD K φ_common) := by
  refine fnD F sc_common (fun ds d ⟨_, _, e, _⟩ => by rw [e]; rfl) fun cdv A outer s H E ds d hr ⟨a, b, e1, e2⟩ => ?_
  subst e1 e2
  refine sds_cons (sd_while (fun B => ∃ x y : Nat, B = ⟨[.dat (iD x), .dat (iD y)], []⟩ ∧ Nat.gcd x y = Nat.gcd a b) (fun (B : AS) => match B.ρ[1]? with | some (Sl.dat (PyData.int y)) => y.toNat | _ => 0) PassesOwn.never ⟨a, b, rfl, rfl⟩ (fun A' hI => ?_))
  obtain ⟨x, y, rfl, hg⟩ := hI
  refine ⟨_, pt_gt (pd_var 1) pd_int, fun hk => ?_, fun hk => ?_⟩
  · have hy : 0 < y := by
      have := of_decide_eq_true hk
      omega
    refine sds_one (sd_par 0 1 rfl sc_common.nd (pd_a2 (pd_var 1) (pd_mod (pd_var 0) (pd_var 1) (by omega))) ?_)
    refine ⟨⟨y, x % y, rfl, gcd_next.trans hg⟩, ?_⟩
    have := Nat.mod_lt x hy
    show ((x : Int) % (y : Int)).toNat < (y : Int).toNat
    omega
  · have hy : y = 0 := by
      have := of_decide_eq_false hk
      omega
    subst hy
    refine sds_one (sd_ret (pd_var 0) ?_)
    rw [← hg, Nat.gcd_zero_right]

theorem ok_turn {f : Addr} {fd : FuncData} (F : Fun K "turn" "turn" s_turn f fd) (G_common : DFn P w K mg base 1 "common" φ_common) : FnOk P w K mg base CX0 2 f fd ["whole", "step"] (spD K φ_turn) := by
  refine fnD F sc_turn (fun ds d ⟨_, _, e, _⟩ => by rw [e]; rfl) fun cdv A outer s H E ds d hr ⟨w, st, e1, h1, h2, e2⟩ => ?_
  subst e1 e2
  have hg : 0 < Nat.gcd w st := Nat.gcd_pos_of_pos_left _ h1
  have hl : Nat.gcd w st ≤ w := Nat.gcd_le_left _ h1
  exact sds_one (sd_ret (pd_fdiv (pd_var 0) (pd_call G_common (hr.mono (by decide)) (pds_cons (pd_var 0) (pds_cons (pd_var 1) pds_nil)) ⟨_, _, rfl, rfl⟩) (by omega)) rfl)

theorem ok_is_row {f : Addr} {fd : FuncData} (F : Fun K "is_row" "is_row" s_is_row f fd) (G_is_whole : DFn P w K mg base 1 "is_whole" φ_is_whole) (G_turn : DFn P w K mg base 2 "turn" φ_turn) (m_isinstance : mg "isinstance" = none) (m_tuple : mg "tuple" = none) (m_len : mg "len" = none) {u_MOST_PLACES : Value} (c_MOST_PLACES : mg "MOST_PLACES" = some u_MOST_PLACES) (r_MOST_PLACES : RelV (.int 120) u_MOST_PLACES) : FnOk P w K mg base CX0 3 f fd ["thing"] (spD K φ_is_row) := by
  refine fnD F sc_is_row (fun ds d ⟨_, e, _⟩ => by rw [e]; rfl) fun cdv A outer s H E ds d hr ⟨t, e1, e2⟩ => ?_
  subst e1 e2
  cases ht : isTup t with
  | false =>
    refine sds_cons (sd_yes (PTD.eq (ptd_w (pwd_or (l := true) (ptd_not (ptd_val (pd_isTup m_isinstance m_tuple (pd_var 0)))) fun hb => ?_)) (Bool.or_true _)) (sds_one (sd_ret pd_bl ?_)))
    · rw [ht] at hb
      cases hb
    · rw [row_no ht]
  | true =>
    obtain ⟨ds, rfl⟩ := tup_of ht
    by_cases h3 : ds.length = 3
    · obtain ⟨x, y, z, rfl⟩ := three_of h3
      cases hx : wholeD x 2 120 with
      | false =>
        refine sds_cons (sd_yes (PTD.eq (ptd_w (pwd_or (l := true) (ptd_not (ptd_val (pd_isTup m_isinstance m_tuple (pd_var 0)))) fun hb => PWD.eq (pwd_or (l := true) (pt_ne (pd_b cd_lenT m_len bb_len (pd_a1 (pd_var 0))) pd_int) fun hb => pwd_or1 (PTD.eq (ptd_not (ptd_val (pd_call G_is_whole (hr.mono (by decide)) (pds_cons (pd_ixT (pd_var 0) pd_int) (pds_cons pd_int (pds_cons (pd_globI rfl c_MOST_PLACES r_MOST_PLACES) pds_nil))) ⟨x, 2, 120, rfl, rfl⟩))) (by rw [hx]; rfl))) (Bool.or_true _))) (Bool.or_true _)) (sds_one (sd_ret pd_bl ?_)))
        show PyData.bool false = .bool (wholeD x 2 120 && _)
        rw [hx]
        rfl
      | true =>
        refine sds_no (PTD.eq (ptd_w (pwd_or (l := false) (ptd_not (ptd_val (pd_isTup m_isinstance m_tuple (pd_var 0)))) fun hb => PWD.eq (pwd_or (l := false) (pt_neI (i := 3) (pd_b cd_lenT m_len bb_len (pd_a1 (pd_var 0))) pd_int) fun hb => pwd_or1 (PTD.eq (ptd_not (ptd_val (pd_call G_is_whole (hr.mono (by decide)) (pds_cons (pd_ixT (pd_var 0) pd_int) (pds_cons pd_int (pds_cons (pd_globI rfl c_MOST_PLACES r_MOST_PLACES) pds_nil))) ⟨x, 2, 120, rfl, rfl⟩))) (by rw [hx]; rfl))) rfl)) rfl) ?_
        obtain ⟨ex, xlo, xhi⟩ := whole_int hx
        obtain ⟨i, ei⟩ := Int.eq_ofNat_of_zero_le (show 0 ≤ intD x by omega)
        rw [ei] at ex xlo xhi
        subst ex
        have rok : rowOk (.tuple [iD i, y, z]) = (wholeD y 1 ((i : Int) - 1) && wholeD z 1 (turnN i (intD y).toNat)) := by
          show (wholeD (iD i) 2 120 && _) = _
          rw [show wholeD (iD i) 2 120 = true from hx]
          rfl
        refine sds_one (sd_ret (PD.eq (pd_and (l := wholeD z 1 (turnN i (intD y).toNat)) (pd_call G_is_whole (hr.mono (by decide)) (pds_cons (pd_ixT (pd_var 0) pd_int) (pds_cons pd_int (pds_cons (pd_sub (pd_ixT (d := iD i) (pd_var 0) pd_int) pd_int) pds_nil))) ⟨y, 1, (i : Int) - 1, rfl, rfl⟩) fun hb => ?_) ?_) rfl)
        · obtain ⟨ey, ylo, yhi⟩ := whole_int hb
          obtain ⟨j, ej⟩ := Int.eq_ofNat_of_zero_le (show 0 ≤ intD y by omega)
          rw [ej] at ey ylo yhi
          subst ey
          exact pd_one (pd_call G_is_whole (hr.mono (by decide)) (pds_cons (pd_ixT (pd_var 0) pd_int) (pds_cons pd_int (pds_cons (pd_call G_turn (hr.mono (by decide)) (pds_cons (pd_ixT (d := iD i) (pd_var 0) pd_int) (pds_cons (pd_ixT (d := iD j) (pd_var 0) pd_int) pds_nil)) ⟨i, j, rfl, by omega, by omega, rfl⟩) pds_nil))) ⟨z, 1, (turnN i j : Int), rfl, rfl⟩)
        · exact congrArg PyData.bool rok.symm
    · refine sds_cons (sd_yes (PTD.eq (ptd_w (pwd_or (l := true) (ptd_not (ptd_val (pd_isTup m_isinstance m_tuple (pd_var 0)))) fun hb => PWD.eq (pwd_or (l := true) (pt_ne (pd_b cd_lenT m_len bb_len (pd_a1 (pd_var 0))) pd_int) fun hb => ?_) (Bool.or_true _))) (Bool.or_true _)) (sds_one (sd_ret pd_bl ?_)))
      · exfalso
        simp at hb
        omega
      · rw [row_len h3]

theorem ok_l_places_in0 {f : Addr} {fd : FuncData} (F : Fun K "_law_places_in" "_law_places_in" s_l_places_in f fd) (m_isinstance : mg "isinstance" = none) (m_tuple : mg "tuple" = none) (m_enumerate : mg "enumerate" = none) : FnOk P w K mg base CX0 1 f fd ["_law_bent_one", "_law_bent_way"] (spD K φ_l_places_in0) := by
  refine fnD F sc_l_places_in (fun ds d ⟨_, _, e, _⟩ => by rw [e]; rfl) fun cdv A outer s H E ds d hr ⟨i, l, e1, e2⟩ => ?_
  subst e1 e2
  refine sds_cons (sd_set 2 (d := .list [.tuple l]) sc_l_places_in.nd (pd_lst (pds_cons (pd_var 1) pds_nil)) ?_)
  exact sds_cons (sd_no (PTD.eq (ptd_val (pd_isTup m_isinstance m_tuple (pd_var 0))) rfl) (sds_nil (sds_one (sd_ret (pd_var 2) rfl))))
theorem ok_l_places_in {f : Addr} {fd : FuncData} (F : Fun K "_law_places_in" "_law_places_in" s_l_places_in f fd) (G_l_places_in0 : DFn P w K mg base 1 "_law_places_in" φ_l_places_in0) (m_isinstance : mg "isinstance" = none) (m_tuple : mg "tuple" = none) (m_enumerate : mg "enumerate" = none) : FnOk P w K mg base CX0 2 f fd ["_law_bent_one", "_law_bent_way"] (spD K φ_l_places_in) := by
  refine fnD F sc_l_places_in (fun ds d ⟨_, _, _, e, _⟩ => by rw [e]; rfl) fun cdv A outer s H E ds d hr ⟨a, b, c, e1, e2⟩ => ?_
  subst e1 e2
  refine sds_cons (sd_set 2 (d := .list (ways9.take 1)) sc_l_places_in.nd (pd_lst (pds_cons (pd_var 1) pds_nil)) ?_)
  refine sds_cons (sd_yes (PTD.eq (ptd_val (pd_isTup m_isinstance m_tuple (pd_var 0))) rfl) (sds_one (sd_for (ds := enumD [.int a, .int b, .int c]) [3, 4] (fun i A' => ∃ z3 z4, A' = ⟨[.dat (.tuple [.int a, .int b, .int c]), .dat (.tuple []), .dat (.list (ways9.take (i + 1))), z3, z4], []⟩) PassesOwn.never rfl (pid_enumT m_enumerate (pd_a1 (pd_var 0))) ⟨.no, .no, rfl⟩ (fun i d A' hd hI => ?_) (fun A' hI => ?_))))
  · obtain ⟨z3, z4, rfl⟩ := hI
    obtain ⟨y, hj, rfl, ew⟩ : ∃ y : Int, i < 3 ∧ d = .tuple [iD i, .int y] ∧ ways9.take (i + 1) ++ [.tuple ([] ++ [iD i])] = ways9.take (i + 1 + 1) := by
      match i, hd with
      | 0, hd => exact ⟨a, by decide, (Option.some.inj hd).symm, rfl⟩
      | 1, hd => exact ⟨b, by decide, (Option.some.inj hd).symm, rfl⟩
      | 2, hd => exact ⟨c, by decide, (Option.some.inj hd).symm, rfl⟩
      | n + 3, hd => cases hd
    refine ⟨_, pgd_tup rfl (pgds_cons (pgd_name 3 sc_l_places_in.nd) (pgds_cons (pgd_name 4 sc_l_places_in.nd) pgds_nil)), ?_⟩
    refine sds_one (sd_set 2 (d := .list (ways9.take (i + 1 + 1))) sc_l_places_in.nd (PD.eq (pd_catL (ds := ways9.take (i + 1)) (ds' := [.tuple ([] ++ [iD i])]) (pd_var 2) (pd_call G_l_places_in0 (hr.mono (by decide)) (pds_cons (pd_var 4) (pds_cons (pd_catT (ds := []) (ds' := [iD i]) (pd_var 1) (pd_tup (pds_cons (pd_var 3) pds_nil)) (Nat.le_of_ble_eq_true rfl)) pds_nil)) ⟨y, _, rfl, rfl⟩) ?_) (by rw [ew])) ⟨_, _, rfl⟩)
    rw [List.length_take]
    show min (i + 1) 4 + 1 ≤ 100000
    omega
  · obtain ⟨z3, z4, rfl⟩ := hI
    exact sds_one (sd_ret (pd_var 2) rfl)

abbrev BdP (P : Program) (w : World) (K : PySem.W.Frag) (mg : Str → Option Value) (base : Heap) (g : Addr) (cdv : Value) (A : Around) (outer : List Env) (s : Shared) (H : Hp) : Cx := Bd P w K mg base N_put "_law_put_at" (defScope s_l_put_at) g cdv A outer s H (fun _ _ _ => False)
abbrev BdL (P : Program) (w : World) (K : PySem.W.Frag) (mg : Str → Option Value) (base : Heap) (F : NdefX.NF) (f : Addr) (A : Around) (outer : List Env) (s : Shared) (H : Hp) : Cx := NdefX.ncx C8.CX0 P w K mg base N_lam F f A outer s H C8.E0
theorem put_0 {F : NdefX.NF} {b : Expr} {f g : Addr} {cdv : Value} {A : Around} {outer : List Env} {s : Shared} {H : Hp} {nb k : Nat} {d r : D} {v v2 : V} {Q : VK}
    (SL : NdefX.NScope N_lam ["_law_bent_part"] ["_law_number"] F.scope) (hb : ∀ (u pm ctv : Value), bindArgs (PySem.W.kla_fn "<lambda>" F.qual F.params b F.scope F.cl pm (.ref F.c) ctv) ⟨[u], []⟩ = pure ((["_law_bent_part"] : List Str).zip [u]))
    (hbody : ∀ (A : Around) (outer : List Env) (s : Shared) (H : Hp), Room k (A.deeper (NdefX.envF F f s.heap.objs.size)) → PD (BdL P w K mg base F f A outer s H) ⟨[.dat d, .dat (iD nb)], []⟩ b r)
    (L : LamAt F b ["_law_number"] [some (.int (nb : Int))] f outer s H) (hr : Room (k + 1) (A.deeper (envOfC "_law_put_at" (defScope s_l_put_at) s.heap.objs.size g cdv)))
    (rv : Rep K [] H v d) (rw : Rep K [] H v2 (.tuple [])) (hc : H F.c = some (LamX.CodeO F.c F.qual)) (q : ∀ v' H', Ex H H' → Rep K [] H' v' r → Q v' H') :
    ∃ te, PSr (BdP P w K mg base g cdv A outer s H) (defBody s_l_put_at) te ∧ te (L2.start N_put [v, v2, .ref f]) H Q := by
  refine ⟨_, psr_tyes (A := ⟨[.dat d, .dat (.tuple []), .no, .no, .no], []⟩) (pt_eqS (n := 1) hr.units (d := .tuple []) (sh_tup shs_nil) (pd_var 1) (pd_tup pds_nil)) (psr_ret (pe_by (i := 2) (N := N_lam) (ps := ["_law_bent_part"]) (t := tD K ⟨[.dat d, .dat (iD nb)], []⟩ r) L rfl rfl rfl SL hb rfl hr (pe_var (i := 0) rfl (.inl rfl)) (fun A2 o2 s2 H2 h2 => hbody A2 o2 s2 H2 h2) rfl (.inl rfl))), ?_⟩
  refine ⟨dt2 rv rw, fun H1 e1 => ⟨rfl, v, rfl, e1 _ _ hc, ?_⟩⟩
  refine td_at (A := startA N_lam [d, iD nb]) (σ := L2.start N_lam [v, .int (nb : Int)]) ((has_start (RepA.cons (rv.ex e1) (RepA.cons (.int _) .nil)) fun a m => nomatch m).forget) fun v' H' e2 r2 => q v' H' (ex_trans e1 e2) r2
theorem put_1 {F : NdefX.NF} {b : Expr} {f g : Addr} {cdv : Value} {A : Around} {outer : List Env} {s : Shared} {H : Hp} {nb k i : Nat} {l : List D} {d r : D} {v v2 : V} {Q : VK} (R : RawF K mg "_law_put_at" s_l_put_at ["_law_bent_one", "_law_bent_way", "_law_bent_by"])
    (SL : NdefX.NScope N_lam ["_law_bent_part"] ["_law_number"] F.scope) (hb : ∀ (u pm ctv : Value), bindArgs (PySem.W.kla_fn "<lambda>" F.qual F.params b F.scope F.cl pm (.ref F.c) ctv) ⟨[u], []⟩ = pure ((["_law_bent_part"] : List Str).zip [u]))
    (hbody : ∀ (A : Around) (outer : List Env) (s : Shared) (H : Hp), Room k (A.deeper (NdefX.envF F f s.heap.objs.size)) → PD (BdL P w K mg base F f A outer s H) ⟨[.dat d, .dat (iD nb)], []⟩ b r)
    (L : LamAt F b ["_law_number"] [some (.int (nb : Int))] f outer s H) (hr : Room (k + 2) (A.deeper (envOfC "_law_put_at" (defScope s_l_put_at) s.heap.objs.size g cdv))) (hd : atI l (i : Int) = some d) (hl : l.length ≤ 3)
    (rv : Rep K [] H v (.tuple l)) (rw : Rep K [] H v2 (.tuple [iD i])) (hc : H F.c = some (LamX.CodeO F.c F.qual)) (q : ∀ v' H', Ex H H' → Rep K [] H' v' (.tuple (cutI l none (some (i : Int)) ++ [r] ++ cutI l (some ((i : Int) + 1)) none)) → Q v' H') :
    ∃ te, PSr (BdP P w K mg base g cdv A outer s H) (defBody s_l_put_at) te ∧ te (L2.start N_put [v, v2, .ref f]) H Q := by
  have a1 := cut_le (xs := l) (a := none) (b := some (i : Int))
  have a2 := cut_le (xs := l) (a := some ((i : Int) + 1)) (b := none)
  refine ⟨_, psr_tno (A := ⟨[.dat (.tuple l), .dat (.tuple [iD i]), .no, .no, .no], []⟩) (PTD.eq (pt_eqD hr.units (x := .tuple [iD i]) (y := .tuple []) ((sh_tup (n := 0) (shs_cons sh_int shs_nil)).ed (by decide)) ((sh_tup (n := 0) shs_nil).ed (by decide)) (pd_var 1) (pd_tup pds_nil)) rfl)
    (psr_set 3 sc_l_put_at.nd (pd_ixT (A := ⟨[.dat (.tuple l), .dat (.tuple [iD i]), .no, .no, .no], []⟩) (d := iD i) (pd_var 1) pd_int)
    (psr_set 4 sc_l_put_at.nd (pe_callAt (st := s_l_put_at) (Ng := N_put) (k := k + 1) (fun vs H Q => ∃ v v2, vs = [v, v2, .ref f] ∧ Rep K [] H v d ∧ Rep K [] H v2 (.tuple []) ∧ H F.c = some (LamX.CodeO F.c F.qual) ∧ ∀ v' H', Ex H H' → Rep K [] H' v' r → Q v' H') R sc_l_put_at hr
      (pa_cons (pd_ixT (A := ⟨[.dat (.tuple l), .dat (.tuple [iD i]), .no, .dat (iD i), .no], []⟩) (d := d) (pd_var 0) (pd_var 3) hd) (pa_cons (pd_sliceT (A := ⟨[.dat (.tuple l), .dat (.tuple [iD i]), .no, .dat (iD i), .no], []⟩) (pd_var 1) (pod_some pd_int) pod_none) (pa_cons (pe_var (i := 2) rfl (.inl rfl)) pa_nil)))
      (fun vs H Q ⟨_, _, e, _⟩ => by rw [e]; rfl) (fun g' cdv' pins σ H' s' vs Q' I ⟨v, v2, e, r1, r2, c1, q1⟩ hr' => by
        subst e
        exact put_0 SL hb hbody (L.later I rfl rfl rfl) hr' r1 r2 c1 q1))
    (psr_ret (pd_catT (A := ⟨[.dat (.tuple l), .dat (.tuple [iD i]), .no, .dat (iD i), .dat r], []⟩) (ds := cutI l none (some (i : Int)) ++ [r]) (ds' := cutI l (some ((i : Int) + 1)) none) (pd_catT (ds := cutI l none (some (i : Int))) (ds' := [r]) (pd_sliceT (pd_var 0) pod_none (pod_some (pd_var 3))) (pd_tup (pds_cons (pd_var 4) pds_nil)) (by show _ + 1 ≤ 100000; omega)) (pd_sliceT (pd_var 0) (pod_some (pd_add (pd_var 3) pd_int)) pod_none) (by rw [List.length_append]; show _ + 1 + _ ≤ 100000; omega))))), ?_⟩
  refine ⟨dt2 rv rw, fun H1 e1 => td_at ((dt2 rv rw).ext e1) fun v3 H2 e2 r3 => ?_⟩
  have h2 := Dt.set ((dt2 (x := some (.ref f)) (y := none) (z := none) rv rw).ext e1) e2 r3 (i := 3)
  refine td_at h2 fun va H3 e3 ra => td_at (h2.ext e3) fun vb H4 e4 rb => ⟨.ref f, rfl, va, vb, rfl, ra.ex e4, rb, e4 _ _ (e3 _ _ (e2 _ _ (e1 _ _ hc))), fun v4 H5 e5 r4 => ?_⟩
  exact td_at (Dt.set ((h2.ext e3).ext e4) e5 r4 (i := 4)) fun v5 H6 e6 r5 => q v5 H6 (ex_trans e1 (ex_trans e2 (ex_trans e3 (ex_trans e4 (ex_trans e5 e6))))) r5

theorem ok_l_otherwise {f : Addr} {fd : FuncData} (F : Fun K "_law_otherwise" "_law_otherwise" s_l_otherwise f fd) (m_isinstance : mg "isinstance" = none) (m_tuple : mg "tuple" = none) (m_bool : mg "bool" = none) (m_int : mg "int" = none) (m_list : mg "list" = none) (m_str : mg "str" = none) : FnOk P w K mg base CX0 1 f fd ["_law_bent_one", "_law_bent_number"] (spD K φ_l_otherwise) := by
  refine fnD F sc_l_otherwise (fun ds d ⟨_, _, e, _⟩ => by rw [e]; rfl) fun cdv A outer s H E ds d hr ⟨t, n, e1, ht, e2⟩ => ?_
  subst e1 e2
  have h5 := Nat.mod_lt n (show 0 < 5 by decide)
  rcases ht with ⟨l, rfl, hl⟩ | ⟨i, rfl, hi⟩
  · refine sds_cons (sd_yes (PTD.eq (ptd_val (pd_isTup m_isinstance m_tuple (pd_var 0))) rfl) ?_)
    refine sds_cons (sd_set 2 (d := .list [.list l, .list l, .tuple (l ++ cutI l none (some 1))]) sc_l_otherwise.nd (pd_lst (pds_cons (pd_ty cd_listT m_list bb_list (pd_a1 (pd_var 0))) (pds_cons (pd_ty cd_listT m_list bb_list (pd_a1 (pd_var 0))) (pds_cons (pd_catT (ds := l) (ds' := cutI l none (some 1)) (pd_var 0) (pd_sliceT (pd_var 0) pod_none (pod_some pd_int)) ?_) pds_nil)))) ?_)
    · have := cut_le (xs := l) (a := none) (b := some 1)
      omega
    refine sds_one (sd_ret (pd_ixL (ds := other5 l) (d := (other5 l).getD (n % 5) .none) (pd_catL (ds := [.list l, .list l, .tuple (l ++ cutI l none (some 1))]) (ds' := [.tuple (cutI l (some 1) none), .list [.tuple l]]) (pd_var 2) (pd_lst (pds_cons (pd_sliceT (pd_var 0) (pod_some pd_int) pod_none) (pds_cons (pd_lst (pds_cons (pd_var 0) pds_nil)) pds_nil))) (Nat.le_of_ble_eq_true rfl)) (pd_mod (pd_var 1) pd_int (by decide)) ?_) rfl)
    show atI (other5 l) ((n % 5 : Nat) : Int) = _
    exact atI_nat (get_D (Nat.lt_of_lt_of_le h5 (Nat.le_refl 5)))
  · refine sds_cons (sd_no (PTD.eq (ptd_val (pd_isTup m_isinstance m_tuple (pd_var 0))) rfl) (sds_nil ?_))
    refine sds_cons (sd_no (PTD.eq (ptd_val (pd_isBool m_isinstance m_bool (pd_var 0))) rfl) (sds_nil ?_))
    refine sds_cons (sd_yes (PTD.eq (ptd_val (pd_isInt m_isinstance m_int (pd_var 0))) rfl) ?_)
    have hz : ((i : Int)).natAbs.log2 < 1920 := by
      have := Nat.log2_le_self (i : Int).natAbs
      omega
    refine sds_cons (sd_set 2 (d := .list [.bool true, .none, .str (toString (i : Int)), .tuple [iD i]]) sc_l_otherwise.nd (pd_lst (pds_cons pd_bl (pds_cons pd_non (pds_cons (pd_ty (cd_strI hz) m_str bb_str (pd_a1 (pd_var 0))) (pds_cons (pd_tup (pds_cons (pd_var 0) pds_nil)) pds_nil))))) ?_)
    refine sds_one (sd_ret (pd_ixL (ds := otherI i) (d := (otherI i).getD (n % 5) .none) (pd_catL (ds := [.bool true, .none, .str (toString (i : Int)), .tuple [iD i]]) (ds' := [.int (-1 - (i : Int))]) (pd_var 2) (pd_lst (pds_cons (pd_sub (pd_neg pd_int) (pd_var 0)) pds_nil)) (Nat.le_of_ble_eq_true rfl)) (pd_mod (pd_var 1) pd_int (by decide)) ?_) rfl)
    show atI (otherI i) ((n % 5 : Nat) : Int) = _
    exact atI_nat (get_D (Nat.lt_of_lt_of_le h5 (Nat.le_refl 5)))

theorem ways9_at {n : Nat} : atI ways9 ((n : Int) % 4) = some (.tuple (way9 (n % 4))) := by
  show atI ways9 ((n % 4 : Nat) : Int) = _
  have := Nat.mod_lt n (show 0 < 4 by decide)
  generalize n % 4 = k at this
  match k, this with
  | 0, _ => rfl
  | 1, _ => rfl
  | 2, _ => rfl
  | 3, _ => rfl
theorem put_j {F : NdefX.NF} {b : Expr} {f g : Addr} {cdv : Value} {A : Around} {outer : List Env} {s : Shared} {H : Hp} {nb j w1 s1 m1 : Nat} {v v2 : V} {Q : VK} (R : RawF K mg "_law_put_at" s_l_put_at ["_law_bent_one", "_law_bent_way", "_law_bent_by"])
    (SL : NdefX.NScope N_lam ["_law_bent_part"] ["_law_number"] F.scope) (hb : ∀ (u pm ctv : Value), bindArgs (PySem.W.kla_fn "<lambda>" F.qual F.params b F.scope F.cl pm (.ref F.c) ctv) ⟨[u], []⟩ = pure ((["_law_bent_part"] : List Str).zip [u]))
    (hbody : ∀ (d : D) (A : Around) (outer : List Env) (s : Shared) (H : Hp), ((∃ l, d = .tuple l ∧ l.length ≤ 3) ∨ ∃ i : Nat, d = iD i ∧ i ≤ 1000) → Room 1 (A.deeper (NdefX.envF F f s.heap.objs.size)) → PD (BdL P w K mg base F f A outer s H) ⟨[.dat d, .dat (iD nb)], []⟩ b (otherD d (nb / 4096)))
    (L : LamAt F b ["_law_number"] [some (.int (nb : Int))] f outer s H) (hr : Room 3 (A.deeper (envOfC "_law_put_at" (defScope s_l_put_at) s.heap.objs.size g cdv))) (hj : j < 4) (h1 : w1 ≤ 1000) (h2 : s1 ≤ 1000) (h3 : m1 ≤ 1000)
    (rv : Rep K [] H v (rowD w1 s1 m1)) (rw : Rep K [] H v2 (.tuple (way9 j))) (hc : H F.c = some (LamX.CodeO F.c F.qual)) (q : ∀ v' H', Ex H H' → Rep K [] H' v' (put9 [iD w1, iD s1, iD m1] nb j) → Q v' H') :
    ∃ te, PSr (BdP P w K mg base g cdv A outer s H) (defBody s_l_put_at) te ∧ te (L2.start N_put [v, v2, .ref f]) H Q := by
  match j, hj with
  | 0, _ => exact put_0 (k := 1) SL hb (fun A o s H hr => hbody (rowD w1 s1 m1) A o s H (.inl ⟨[iD w1, iD s1, iD m1], rfl, Nat.le_refl 3⟩) hr) L (hr.mono (by decide)) rv rw hc q
  | 1, _ => exact put_1 (k := 1) (i := 0) (l := [iD w1, iD s1, iD m1]) R SL hb (fun A o s H hr => hbody (iD w1) A o s H (.inr ⟨_, rfl, h1⟩) hr) L hr rfl (Nat.le_refl 3) rv rw hc q
  | 2, _ => exact put_1 (k := 1) (i := 1) (l := [iD w1, iD s1, iD m1]) R SL hb (fun A o s H hr => hbody (iD s1) A o s H (.inr ⟨_, rfl, h2⟩) hr) L hr rfl (Nat.le_refl 3) rv rw hc q
  | 3, _ => exact put_1 (k := 1) (i := 2) (l := [iD w1, iD s1, iD m1]) R SL hb (fun A o s H hr => hbody (iD m1) A o s H (.inr ⟨_, rfl, h3⟩) hr) L hr rfl (Nat.le_refl 3) rv rw hc q
abbrev T9 (PL : Addr) : List (Addr × Str) := [(PL, (("_law_spoilt" : Str) ++ ".<locals>.") ++ "<lambda>")]
theorem ok_l_spoilt {cL PL : Addr} (TB : LamX.TabB base mg cL PL) {f : Addr} {oc kV dc pm ct : Value} {od an : Option Addr} {sl : Array (Option Value)} (lk : K.lookup f = some ⟨oc, od, .func (PySem.W.fnOf "_law_spoilt" "_law_spoilt" (defArgs s_l_spoilt) (defBody s_l_spoilt) (defScope s_l_spoilt) .none kV dc pm an (.ref cL) ct), sl⟩) (hcd : PySem.W.codeIn K (.ref cL) "_law_spoilt" = true) (G_l_places_in : DFn P w K mg base 2 "_law_places_in" φ_l_places_in) (G_l_put_at : RawF K mg "_law_put_at" s_l_put_at ["_law_bent_one", "_law_bent_way", "_law_bent_by"]) (G_l_otherwise : DFn P w K mg base 1 "_law_otherwise" φ_l_otherwise) (m_len : mg "len" = none) : FnOk P w K mg base CX0 5 f (PySem.W.fnOf "_law_spoilt" "_law_spoilt" (defArgs s_l_spoilt) (defBody s_l_spoilt) (defScope s_l_spoilt) .none kV dc pm an (.ref cL) ct) ["_law_thing", "_law_number", "_law_deep"] (spT K [(PL, (("_law_spoilt" : Str) ++ ".<locals>.") ++ "<lambda>")] φ_l_spoilt) := by
  refine fn_of lk hcd sc_l_spoilt (fun vs H Q E ⟨_, _, ⟨_, _, _, _, _, e, _⟩, r, _⟩ => by rw [r.length, e]; rfl) fun A outer s H vs Q E hr ⟨ds, d, ⟨w1, s1, m1, n, z, e1, h1, h2, h3, e2⟩, r, hT, q⟩ => ?_
  subst e1 e2
  obtain ⟨v0, v1, v2, rfl⟩ : ∃ v0 v1 v2, vs = [v0, v1, v2] := by
    have := r.length
    match vs, this with
    | [a, b, c], _ => exact ⟨a, b, c, rfl⟩
  obtain ⟨r0, r1⟩ : Rep K [] H v0 (rowD w1 s1 m1) ∧ Rep K [] H v1 (iD n) := by
    cases r with
    | cons a t => cases t with
      | cons b u => exact ⟨a, b⟩
  have ev := rep_int r1
  subst ev
  suffices hx : ∃ te, PSr (Bd P w K mg base ["_law_thing", "_law_number", "_law_deep", "_law_bent_ways", "_law_bent_way"] "_law_spoilt" (defScope s_l_spoilt) f (.ref cL) A outer s H E) (defBody s_l_spoilt) te ∧ te (L2.start ["_law_thing", "_law_number", "_law_deep", "_law_bent_ways", "_law_bent_way"] [v0, .int (n : Int), v2]) H Q by
    obtain ⟨te, a, b⟩ := hx
    exact ⟨_, a.nox, b⟩
  refine ⟨_, psr_set 3 sc_l_spoilt.nd (pd_call (A := startA ["_law_thing", "_law_number", "_law_deep", "_law_bent_ways", "_law_bent_way"] [rowD w1 s1 m1, iD n, z]) (d := .list ways9) G_l_places_in (hr.mono (by decide)) (pds_cons (pd_var 0) (pds_cons (pd_tup pds_nil) pds_nil)) ⟨_, _, _, rfl, rfl⟩)
    (psr_set 4 sc_l_spoilt.nd (pd_ixL (A := ⟨[.dat (rowD w1 s1 m1), .dat (iD n), .dat z, .dat (.list ways9), .no], []⟩) (ds := ways9) (d := .tuple (way9 (n % 4))) (pd_var 3) (pd_mod (pd_var 1) (pd_b cd_lenL m_len bb_len (pd_a1 (pd_var 3))) (by decide)) ways9_at)
    (psr_ret (pe_lamput (st := s_l_put_at) (Ng := N_put) (k := 3) (ia := 0) (ib := 4) (fr := ["_law_number"]) (js := [1]) (T := T9 PL) (c := cL) (P := PL)
      (fun F f ws vs H Q => ws = [some (.int (n : Int))] ∧ ∃ v v2, vs = [v, v2, .ref f] ∧ Rep K [] H v (rowD w1 s1 m1) ∧ Rep K [] H v2 (.tuple (way9 (n % 4))) ∧ H F.c = some (LamX.CodeO F.c F.qual) ∧ ∀ v' H', Ex H H' → Rep K [] H' v' (put9 [iD w1, iD s1, iD m1] n (n % 4)) → Q v' H')
      G_l_put_at sc_l_put_at rfl hr TB rfl ?hmT ?hu rfl (fun _ => rfl) rfl rfl (free_by (sc := defScope s_l_spoilt) (by decide +kernel)) (fun y hy => by rw [List.mem_singleton.mp hy]; decide +kernel) rfl (fun c' f' g' cdv' s' H' ws vs Q' L ⟨ew, v, v2, e, a1, a2, a3, a4⟩ hr' => ?hG) rfl (.inl rfl) rfl (.inl rfl)))), ?_⟩
  case hmT => exact List.mem_singleton.mpr (congrArg (fun q : Str => (PL, q ++ ("<lambda>" : Str))) (show (envOfC "_law_spoilt" (defScope s_l_spoilt) s.heap.objs.size f (.ref cL)).qual = ("_law_spoilt" : Str) ++ ".<locals>." from rfl))
  case hu =>
    intro p hp _
    rw [List.mem_singleton.mp hp]
    exact congrArg (fun q : Str => q ++ ("<lambda>" : Str)) (show ("_law_spoilt" : Str) ++ ".<locals>." = (envOfC "_law_spoilt" (defScope s_l_spoilt) s.heap.objs.size f (.ref cL)).qual from rfl)
  case hG =>
    subst e ew
    exact put_j G_l_put_at (NdefX.nscope_by (by dsimp only [lamNF]; decide +kernel)) (fun u pm ctv => rfl) (fun d A o s H hd hr2 => pd_call G_l_otherwise (hr2.mono (by decide)) (pds_cons (pd_var 0) (pds_cons (pd_as (y := iD (n / 4096)) (pd_fdiv (pd_var 1) pd_int (by decide))) pds_nil)) ⟨d, n / 4096, rfl, hd, rfl⟩) L hr' (Nat.mod_lt _ (by decide)) h1 h2 h3 a1 a2 a3 a4
  have h0 : Dt K (startA ["_law_thing", "_law_number", "_law_deep", "_law_bent_ways", "_law_bent_way"] [rowD w1 s1 m1, iD n, z]) (L2.start ["_law_thing", "_law_number", "_law_deep", "_law_bent_ways", "_law_bent_way"] [v0, .int (n : Int), v2]) H := (has_start r fun a m => nomatch m).forget
  refine td_at h0 fun v3 H2 e2 r3 => ?_
  have h2' := Dt.set (ρ := [.dat (rowD w1 s1 m1), .dat (iD n), .dat z, .no, .no]) (i := 3) h0 e2 r3
  refine td_at h2' fun v4 H3 e3 r4 => ⟨(hT.ext e2).ext e3, v0, v4, rfl, rfl, fun c' f' H4 eN T4 hc => ⟨rfl, v0, v4, rfl, ?_, r4.go (Go.extN eN), hc, fun v' H' e5 r5 => ?_⟩⟩
  · exact ((r0.ex e2).ex e3).go (Go.extN eN)
  · exact q v' H' (.trans (.trans (.of (ex_trans e2 e3)) eN) (.of e5)) (T4.ext e5) r5

theorem ok_l_whole {f : Addr} {fd : FuncData} (F : Fun K "_law_whole" "_law_whole" s_l_whole f fd) (m_isinstance : mg "isinstance" = none) (m_int : mg "int" = none) (m_bool : mg "bool" = none) : FnOk P w K mg base CX0 1 f fd ["_law_thing", "_law_low", "_law_high"] (spD K φ_l_whole) := by
  refine fnD F sc_l_whole (fun ds d ⟨_, _, _, e, _⟩ => by rw [e]; rfl) fun cdv A outer s H E ds d hr ⟨t, lo, hi, e1, e2⟩ => ?_
  subst e1 e2
  refine sds_one (sd_ret (PD.eq (pd_and (l := wholeD t lo hi) (pd_isInt m_isinstance m_int (pd_var 0)) fun hb => PD.eq (pd_and (l := wholeD t lo hi) (pd_not (pd_isBool m_isinstance m_bool (pd_var 0))) fun hb2 => ?_) ?_) ?_) rfl)
  · cases t with
    | int i => exact pd_one (pd_chain op_le op_le rd_B0 rd_B0 (pd_var 1) (pd_var 0) (pd_var 2))
    | bool _ => cases hb2
    | _ => cases hb
  · cases t <;> rfl
  · cases t <;> rfl

theorem ok_l_is_row {f : Addr} {fd : FuncData} (F : Fun K "_law_is_row" "_law_is_row" s_l_is_row f fd) (G_l_whole : DFn P w K mg base 1 "_law_whole" φ_l_whole) (G_l_turn : DFn P w K mg base 1 "_law_turn" φ_l_turn) (m_isinstance : mg "isinstance" = none) (m_tuple : mg "tuple" = none) (m_len : mg "len" = none) : FnOk P w K mg base CX0 2 f fd ["_law_thing"] (spD K φ_l_is_row) := by
  refine fnD F sc_l_is_row (fun ds d ⟨_, e, _⟩ => by rw [e]; rfl) fun cdv A outer s H E ds d hr ⟨t, e1, e2⟩ => ?_
  subst e1 e2
  cases ht : isTup t with
  | false =>
    refine sds_cons (sd_yes (PTD.eq (ptd_w (pwd_or (l := true) (ptd_not (ptd_val (pd_isTup m_isinstance m_tuple (pd_var 0)))) fun hb => ?_)) (Bool.or_true _)) (sds_one (sd_ret pd_bl ?_)))
    · rw [ht] at hb
      cases hb
    · rw [row_no ht]
  | true =>
    obtain ⟨ds, rfl⟩ := tup_of ht
    by_cases h3 : ds.length = 3
    · obtain ⟨x, y, z, rfl⟩ := three_of h3
      cases hx : wholeD x 2 120 with
      | false =>
        refine sds_cons (sd_yes (PTD.eq (ptd_w (pwd_or (l := true) (ptd_not (ptd_val (pd_isTup m_isinstance m_tuple (pd_var 0)))) fun hb => PWD.eq (pwd_or (l := true) (pt_ne (pd_b cd_lenT m_len bb_len (pd_a1 (pd_var 0))) pd_int) fun hb => pwd_or1 (PTD.eq (ptd_not (ptd_val (pd_call G_l_whole (hr.mono (by decide)) (pds_cons (pd_ixT (pd_var 0) pd_int) (pds_cons pd_int (pds_cons pd_int pds_nil))) ⟨x, 2, 120, rfl, rfl⟩))) (by rw [hx]; rfl))) (Bool.or_true _))) (Bool.or_true _)) (sds_one (sd_ret pd_bl ?_)))
        show PyData.bool false = .bool (wholeD x 2 120 && _)
        rw [hx]
        rfl
      | true =>
        refine sds_no (PTD.eq (ptd_w (pwd_or (l := false) (ptd_not (ptd_val (pd_isTup m_isinstance m_tuple (pd_var 0)))) fun hb => PWD.eq (pwd_or (l := false) (pt_neI (i := 3) (pd_b cd_lenT m_len bb_len (pd_a1 (pd_var 0))) pd_int) fun hb => pwd_or1 (PTD.eq (ptd_not (ptd_val (pd_call G_l_whole (hr.mono (by decide)) (pds_cons (pd_ixT (pd_var 0) pd_int) (pds_cons pd_int (pds_cons pd_int pds_nil))) ⟨x, 2, 120, rfl, rfl⟩))) (by rw [hx]; rfl))) rfl)) rfl) ?_
        obtain ⟨ex, xlo, xhi⟩ := whole_int hx
        obtain ⟨i, ei⟩ := Int.eq_ofNat_of_zero_le (show 0 ≤ intD x by omega)
        rw [ei] at ex xlo xhi
        subst ex
        have rok : rowOk (.tuple [iD i, y, z]) = (wholeD y 1 ((i : Int) - 1) && wholeD z 1 (turnN i (intD y).toNat)) := by
          show (wholeD (iD i) 2 120 && _) = _
          rw [show wholeD (iD i) 2 120 = true from hx]
          rfl
        rw [rok]
        refine sds_cons (sd_if (ptd_not (ptd_val (pd_call G_l_whole (hr.mono (by decide)) (pds_cons (pd_ixT (pd_var 0) pd_int) (pds_cons pd_int (pds_cons (pd_sub (pd_ixT (d := iD i) (pd_var 0) pd_int) pd_int) pds_nil))) ⟨y, 1, (i : Int) - 1, rfl, rfl⟩))) (fun hk => ?_) (fun hk => ?_))
        · have hb : wholeD y 1 ((i : Int) - 1) = false := by simpa using hk
          refine sds_one (sd_ret pd_bl ?_)
          rw [hb]
          rfl
        · have hb : wholeD y 1 ((i : Int) - 1) = true := by simpa using hk
          obtain ⟨ey, ylo, yhi⟩ := whole_int hb
          obtain ⟨j, ej⟩ := Int.eq_ofNat_of_zero_le (show 0 ≤ intD y by omega)
          rw [ej] at ey ylo yhi
          subst ey
          refine sds_nil (sds_one (sd_ret (pd_call G_l_whole (hr.mono (by decide)) (pds_cons (pd_ixT (pd_var 0) pd_int) (pds_cons pd_int (pds_cons (pd_call G_l_turn (hr.mono (by decide)) (pds_cons (pd_ixT (d := iD i) (pd_var 0) pd_int) (pds_cons (pd_ixT (d := iD j) (pd_var 0) pd_int) pds_nil)) ⟨i, j, rfl, by omega, by omega, rfl⟩) pds_nil))) ⟨z, 1, (turnN i j : Int), rfl, rfl⟩) ?_))
          rw [show wholeD (.int (j : Int)) 1 ((i : Int) - 1) = true from hb]
          rfl
    · refine sds_cons (sd_yes (PTD.eq (ptd_w (pwd_or (l := true) (ptd_not (ptd_val (pd_isTup m_isinstance m_tuple (pd_var 0)))) fun hb => PWD.eq (pwd_or (l := true) (pt_ne (pd_b cd_lenT m_len bb_len (pd_a1 (pd_var 0))) pd_int) fun hb => ?_) (Bool.or_true _))) (Bool.or_true _)) (sds_one (sd_ret pd_bl ?_)))
      · exfalso
        simp at hb
        omega
      · rw [row_len h3]

theorem once_post {f : Addr} {cdv : Value} {A : Around} {outer : List Env} {s : Shared} {H : Hp} {E : XK} {ns : List Int} {n : Nat} {t : D} (hr : Room 5 (A.deeper (envOfC "_law_once" (defScope s_l_once) s.heap.objs.size f cdv)))
    (G_is_row : DFn P w K mg base 3 "is_row" φ_is_row) (G_l_is_row : DFn P w K mg base 2 "_law_is_row" φ_l_is_row) (m_isinstance : mg "isinstance" = none) (m_bool : mg "bool" = none) (m_max : mg "max" = none) :
    SDs (Bd P w K mg base ["_law_script", "_law_number", "_law_row_here", "_law_whole_here", "_law_step", "_law_found"] "_law_once" (defScope s_l_once) f cdv A outer s H E) ⟨[.dat (.list (ns.map .int)), .dat (iD n), .dat t, .no, .no, .no], []⟩ ((defBody s_l_once).drop 4) { nx := fun _ => False, rt := fun _ r => r = .bool true } := by
  refine sds_inv (fun B => ∃ t z3 z4, B = ⟨[.dat (.list (ns.map .int)), .dat (iD n), .dat t, z3, z4, .no], []⟩) (sd_if (pt_eq (pd_mod (pd_fdiv (pd_var 1) pd_int (by decide)) pd_int (by decide)) pd_int) (fun hk => ?_) (fun hk => sds_nil ⟨_, _, _, rfl⟩)) (fun B hB => ?_)
  · refine sds_cons (sd_set 3 (d := .int (([2, 120, 121, 60] : List Int).getD (n / 256 % 4) 0)) sc_l_once.nd (pd_ixT (pd_tup (pds_cons pd_int (pds_cons pd_int (pds_cons pd_int (pds_cons pd_int pds_nil))))) (pd_mod (pd_fdiv (pd_var 1) pd_int (by decide)) pd_int (by decide)) ?_) ?_)
    · show atI (([2, 120, 121, 60] : List Int).map PyData.int) ((n / 256 % 4 : Nat) : Int) = _
      exact atI_map (get_I (Nat.lt_of_lt_of_le (Nat.mod_lt _ (by decide)) (Nat.le_refl 4)))
    generalize ([2, 120, 121, 60] : List Int).getD (n / 256 % 4) 0 = wh
    refine sds_cons (sd_set 4 (d := .int (([1, wh - 1, wh, wh / 2, wh + 1, 0] : List Int).getD (n / 1024 % 6) 0)) sc_l_once.nd (pd_ixT (pd_tup (pds_cons pd_int (pds_cons (pd_sub (pd_var 3) pd_int) (pds_cons (pd_var 3) (pds_cons (pd_fdiv (pd_var 3) pd_int (by decide)) (pds_cons (pd_add (pd_var 3) pd_int) (pds_cons pd_int pds_nil))))))) (pd_mod (pd_fdiv (pd_var 1) pd_int (by decide)) pd_int (by decide)) ?_) ?_)
    · show atI (([1, wh - 1, wh, wh / 2, wh + 1, 0] : List Int).map PyData.int) ((n / 1024 % 6 : Nat) : Int) = _
      exact atI_map (get_I (Nat.lt_of_lt_of_le (Nat.mod_lt _ (by decide)) (Nat.le_refl 6)))
    have dv : 0 < ([1, 2] : List Int).getD (n / 4096 % 2) 0 ∧ ([1, 2] : List Int).getD (n / 4096 % 2) 0 < 1073741824 := by
      have := Nat.mod_lt (n / 4096) (show 0 < 2 by decide)
      generalize n / 4096 % 2 = k at this
      match k, this with
      | 0, _ => exact ⟨by decide, by decide⟩
      | 1, _ => exact ⟨by decide, by decide⟩
    refine sds_one (sd_set 2 sc_l_once.nd (pd_tup (pds_cons (pd_var 3) (pds_cons (pd_var 4) (pds_cons (pd_b (cd_max2 rfl) m_max bb_max (pd_a2 pd_int (pd_sub (pd_add (pd_fdiv (pd_var 3) (pd_ixT (d := .int (([1, 2] : List Int).getD (n / 4096 % 2) 0)) (pd_tup (pds_cons pd_int (pds_cons pd_int pds_nil))) (pd_mod (pd_fdiv (pd_var 1) pd_int (by decide)) pd_int (by decide)) ?_) dv) (pd_mod (pd_fdiv (pd_var 1) pd_int (by decide)) pd_int (by decide))) pd_int))) pds_nil)))) ⟨_, _, _, rfl⟩)
    show atI (([1, 2] : List Int).map PyData.int) ((n / 4096 % 2 : Nat) : Int) = _
    exact atI_map (get_I (Nat.lt_of_lt_of_le (Nat.mod_lt _ (by decide)) (Nat.le_refl 2)))
  obtain ⟨t, z3, z4, rfl⟩ := hB
  refine sds_cons (sd_set 5 (d := .bool (rowOk t)) sc_l_once.nd (pd_call G_is_row (hr.mono (by decide)) (pds_cons (pd_var 2) pds_nil) ⟨t, rfl, rfl⟩) ?_)
  exact sds_one (sd_ret (pd_and (pd_isBool m_isinstance m_bool (pd_var 5)) fun hb => pd_one (pd_eqS (n := 0) hr.units sh_bool (pd_var 5) (pd_call G_l_is_row (hr.mono (by decide)) (pds_cons (pd_var 2) pds_nil) ⟨t, rfl, rfl⟩))) rfl)
theorem ok_l_once {PL : Addr} {f : Addr} {fd : FuncData} (F : Fun K "_law_once" "_law_once" s_l_once f fd) (G_l_mixed : DFn P w K mg base 2 "_law_mixed" φ_l_mixed) (G_l_row : DFn P w K mg base 2 "_law_row" φ_l_row) (G_is_row : DFn P w K mg base 3 "is_row" φ_is_row) (G_turn : DFn P w K mg base 2 "turn" φ_turn) (G_l_turn : DFn P w K mg base 1 "_law_turn" φ_l_turn) (G_l_spoilt : DFnT P w K mg base [(PL, (("_law_spoilt" : Str) ++ ".<locals>.") ++ "<lambda>")] 5 "_law_spoilt" φ_l_spoilt) (G_l_is_row : DFn P w K mg base 2 "_law_is_row" φ_l_is_row) (m_isinstance : mg "isinstance" = none) (m_bool : mg "bool" = none) (m_max : mg "max" = none) : FnOk P w K mg base CX0 6 f fd ["_law_script"] (spT K [(PL, (("_law_spoilt" : Str) ++ ".<locals>.") ++ "<lambda>")] φ_l_once) := by
  refine F.ok sc_l_once (fun vs H Q E ⟨_, _, ⟨_, e, _⟩, r, _⟩ => by rw [r.length, e]; rfl) fun cdv A outer s H vs Q E hr ⟨ds, d, ⟨ns, e1, e2⟩, r, hT, q⟩ => ?_
  subst e1 e2
  have h0 : Dt K (startA ["_law_script", "_law_number", "_law_row_here", "_law_whole_here", "_law_step", "_law_found"] [.list (ns.map .int)]) (L2.start ["_law_script", "_law_number", "_law_row_here", "_law_whole_here", "_law_step", "_law_found"] vs) H := (has_start r fun a m => nomatch m).forget
  suffices hx : ∃ te, PSr (Bd P w K mg base ["_law_script", "_law_number", "_law_row_here", "_law_whole_here", "_law_step", "_law_found"] "_law_once" (defScope s_l_once) f cdv A outer s H E) (defBody s_l_once) te ∧ te (L2.start ["_law_script", "_law_number", "_law_row_here", "_law_whole_here", "_law_step", "_law_found"] vs) H Q by
    obtain ⟨te, a, b⟩ := hx
    exact ⟨_, a, b⟩
  have hW := pairW_le (n := mixN ns 1) (most := 120) (by omega)
  have hS := pairS_lt (n := mixN ns 1) (most := 120) (by omega)
  have hM := rowM_le (n := mixN ns 1) (most := 120) (by omega)
  have s1 : SD (Bd P w K mg base ["_law_script", "_law_number", "_law_row_here", "_law_whole_here", "_law_step", "_law_found"] "_law_once" (defScope s_l_once) f cdv A outer s H E) (startA ["_law_script", "_law_number", "_law_row_here", "_law_whole_here", "_law_step", "_law_found"] [.list (ns.map .int)]) ((defBody s_l_once).getD 0 (.Pass ⟨0, 0, 0, 0⟩)) { nx := fun A' => A' = ⟨[.dat (.list (ns.map .int)), .dat (iD (mixN ns 0)), .no, .no, .no, .no], []⟩, rt := fun _ _ => False } :=
    sd_set 1 (d := iD (mixN ns 0)) sc_l_once.nd (pd_call G_l_mixed (hr.mono (by decide)) (pds_cons (pd_var 0) (pds_cons pd_int pds_nil)) ⟨ns, 0, rfl, by omega, rfl⟩) rfl
  have s2 : SD (Bd P w K mg base ["_law_script", "_law_number", "_law_row_here", "_law_whole_here", "_law_step", "_law_found"] "_law_once" (defScope s_l_once) f cdv A outer s H E) ⟨[.dat (.list (ns.map .int)), .dat (iD (mixN ns 0)), .no, .no, .no, .no], []⟩ ((defBody s_l_once).getD 1 (.Pass ⟨0, 0, 0, 0⟩)) { nx := fun A' => A' = ⟨[.dat (.list (ns.map .int)), .dat (iD (mixN ns 0)), .dat (rowD (pairW (mixN ns 1) 120) (pairS (mixN ns 1) 120) (rowM (mixN ns 1) 120)), .no, .no, .no], []⟩, rt := fun _ _ => False } :=
    sd_set 2 (d := rowD (pairW (mixN ns 1) 120) (pairS (mixN ns 1) 120) (rowM (mixN ns 1) 120)) sc_l_once.nd (pd_call G_l_row (hr.mono (by decide)) (pds_cons (pd_call G_l_mixed (hr.mono (by decide)) (pds_cons (pd_var 0) (pds_cons pd_int pds_nil)) ⟨ns, 1, rfl, by omega, rfl⟩) (pds_cons pd_int pds_nil)) ⟨mixN ns 1, 120, rfl, by omega, by omega, rfl⟩) rfl
  generalize pairW (mixN ns 1) 120 = w1 at hW hS hM s2
  generalize pairS (mixN ns 1) 120 = st at hS hM s2
  generalize rowM (mixN ns 1) 120 = m at hM s2
  have ht : turnN w1 st ≤ w1 := turn_le
  generalize mixN ns 0 = n at s1 s2
  have s3 : SD (Bd P w K mg base ["_law_script", "_law_number", "_law_row_here", "_law_whole_here", "_law_step", "_law_found"] "_law_once" (defScope s_l_once) f cdv A outer s H E) ⟨[.dat (.list (ns.map .int)), .dat (iD n), .dat (rowD w1 st m), .no, .no, .no], []⟩ ((defBody s_l_once).getD 2 (.Pass ⟨0, 0, 0, 0⟩)) { nx := fun A' => A' = ⟨[.dat (.list (ns.map .int)), .dat (iD n), .dat (rowD w1 st m), .no, .no, .no], []⟩, rt := fun _ _ => False } :=
    sd_no (pt_neI (i := (turnN w1 st : Int)) (pd_call G_turn (hr.mono (by decide)) (pds_cons (pd_ixT (d := iD w1) (pd_var 2) pd_int) (pds_cons (pd_ixT (d := iD st) (pd_var 2) pd_int) pds_nil)) ⟨w1, st, rfl, by omega, by omega, rfl⟩) (pd_call G_l_turn (hr.mono (by decide)) (pds_cons (pd_ixT (d := iD w1) (pd_var 2) pd_int) (pds_cons (pd_ixT (d := iD st) (pd_var 2) pd_int) pds_nil)) ⟨w1, st, rfl, by omega, by omega, rfl⟩)) (sds_nil rfl)
  by_cases c : 0 < n % 3
  · refine ⟨_, psr_sd s1 rfl (psr_sd s2 rfl (psr_sd s3 rfl (psr_yes1 (A := ⟨[.dat (.list (ns.map .int)), .dat (iD n), .dat (rowD w1 st m), .no, .no, .no], []⟩) 2 (PTD.eq (pt_gt (pd_mod (pd_var 1) pd_int (by decide)) pd_int) ?hk) sc_l_once.nd (te_callT (A := ⟨[.dat (.list (ns.map .int)), .dat (iD n), .dat (rowD w1 st m), .no, .no, .no], []⟩) (d := put9 [iD w1, iD st, iD m] (mixN ns 2) (mixN ns 2 % 4)) G_l_spoilt (hr.mono (by decide)) (pds_cons (pd_var 2) (pds_cons (pd_call G_l_mixed (hr.mono (by decide)) (pds_cons (pd_var 0) (pds_cons pd_int pds_nil)) ⟨ns, 2, rfl, by omega, rfl⟩) (pds_cons (pd_mod (pd_fdiv (pd_var 1) pd_int (by decide)) pd_int (by decide)) pds_nil))) ⟨w1, st, m, mixN ns 2, _, rfl, by omega, by omega, by omega, rfl⟩)
      (psr_sdsB (once_post (n := n) (ns := ns) (t := put9 [iD w1, iD st, iD m] (mixN ns 2) (mixN ns 2 % 4)) (hr.mono (by decide)) G_is_row G_l_is_row m_isinstance m_bool m_max))))), ?_⟩
    case hk => exact decide_eq_true (show (n : Int) % 3 > 0 by omega)
    refine ⟨h0, fun σ1 H1 x1 h1 => ⟨h1, fun σ2 H2 x2 h2 => ⟨h2, fun σ3 H3 x3 h3 => ⟨h3, fun H4 x4 => ?_⟩⟩⟩⟩
    have x : Ex H H4 := ex_trans x1 (ex_trans x2 (ex_trans x3 x4))
    refine ⟨h3.ext x4, hT.ext x, fun v H5 eN T5 h5 r5 => ?_⟩
    refine ⟨?_, fun H6 x6 => q _ H6 (.trans (.trans (.of x) eN) (.of x6)) (T5.ext x6) (.bl _)⟩
    exact Dt.set (ρ := [.dat (.list (ns.map .int)), .dat (iD n), .dat (rowD w1 st m), .no, .no, .no]) (i := 2) h5 (ex_refl H5) r5
  · refine ⟨_, psr_sd s1 rfl (psr_sd s2 rfl (psr_sd s3 rfl (psr_sd (A := ⟨[.dat (.list (ns.map .int)), .dat (iD n), .dat (rowD w1 st m), .no, .no, .no], []⟩) (B := ⟨[.dat (.list (ns.map .int)), .dat (iD n), .dat (rowD w1 st m), .no, .no, .no], []⟩) (sd_no (PTD.eq (pt_gt (pd_mod (pd_var 1) pd_int (by decide)) pd_int) ?hk) (sds_nil rfl)) rfl
      (psr_sdsB (once_post (n := n) (ns := ns) (t := rowD w1 st m) (hr.mono (by decide)) G_is_row G_l_is_row m_isinstance m_bool m_max))))), ?_⟩
    case hk => exact decide_eq_false (show ¬ (n : Int) % 3 > 0 by omega)
    refine ⟨h0, fun σ1 H1 x1 h1 => ⟨h1, fun σ2 H2 x2 h2 => ⟨h2, fun σ3 H3 x3 h3 => ⟨h3, fun σ4 H4 x4 h4 => ⟨h4, fun H5 x5 => ?_⟩⟩⟩⟩⟩
    have x : Ex H H5 := ex_trans x1 (ex_trans x2 (ex_trans x3 (ex_trans x4 x5)))
    exact q _ H5 (.of x) (hT.ext x) (.bl _)

theorem ok_law {PL : Addr} {f : Addr} {fd : FuncData} (F : Fun K "law" "law" s_law f fd) (G_l_once : DFnT P w K mg base [(PL, (("_law_spoilt" : Str) ++ ".<locals>.") ++ "<lambda>")] 6 "_law_once" φ_l_once) (m_range : mg "range" = none) : RunG P w K mg base f fd "_law_script" 63 PL := by
  refine runG_of (k := 40) (q := (("_law_spoilt" : Str) ++ ".<locals>.") ++ ("<lambda>" : Str)) F sc_law (by decide) fun cdv s H ns hr hl => ?_
  refine sdts_cons (sdt_range [1] (n := 8) (fun i A' => ∃ z1 z2, A' = ⟨[.dat (.list (ns.map .int)), z1, z2], []⟩) PassesOwn.never rfl m_range (pd_a1 pd_int) rfl (by decide) ⟨.no, .no, rfl⟩ (fun i A' hi hI => ?_) (fun A' hI => ?_))
  · obtain ⟨z1, z2, rfl⟩ := hI
    refine ⟨_, pgd_name 1 sc_law.nd, ?_⟩
    refine sdts_one (sdt_if (ptt_notT (A := ⟨[.dat (.list (ns.map .int)), .dat (iD i), z2], []⟩) (te_callT (ds := [.list ((ns.map (fun x => x + 104729 * (i : Int)) ++ [(i : Int)]).map .int)]) G_l_once (hr.mono (by decide)) (pds_cons (PD.eq (pd_catL (ds := ns.map fun x => PyData.int (x + 104729 * (i : Int))) (ds' := [iD i]) (pd_lcm [("_law_bent_cell", 2)] ns PyData.int (fun x => PyData.int (x + 104729 * (i : Int))) rfl sc_law.nd (pid_list (pd_var 0)) (blkOk_by (own := [("_law_bent_cell", 2)]) (N := ["_law_script", "_law_bent_turn", "_law_bent_cell"]) (sc := defScope s_law) (by decide +kernel)) (by omega) (fun x hx => lct_all (fun _ _ _ _ _ => pgd_name 2 sc_law.nd) (fun _ _ _ _ _ => pd_add (pd_var 2) (pd_mul pd_int (pd_var 1) (.inl (by decide)))))) (pd_lst (pds_cons (pd_var 1) pds_nil)) ?_) ?_) pds_nil) ⟨_, rfl, rfl⟩) rfl) (fun z => nomatch z) fun _ => sdts_nil ⟨_, _, rfl⟩)
    · rw [List.length_map]
      show ns.length + 1 ≤ 100000
      omega
    · rw [List.map_append, List.map_map]
      rfl
  · obtain ⟨z1, z2, rfl⟩ := hI
    exact sdts_one (sdt_of (sd_ret pd_bl rfl))

end
theorem all_mk {l : PySem.W.OpenLaw} {w : World} {K : PySem.W.Frag} {h : Heap} {mg : Str → Option Value} {fa : Addr} (X : K.In h) (G : h.Ns mainGlobals mg) (hfa : mg "law" = some (.ref fa))
    {f1 : Addr} {od1 an1 : Option Addr} {sl1 : Array (Option Value)} {oc1 kV1 dc1 pm1 cd1 ct1 : Value}
    {f2 : Addr} {od2 an2 : Option Addr} {sl2 : Array (Option Value)} {oc2 kV2 dc2 pm2 cd2 ct2 : Value}
    {f3 : Addr} {od3 an3 : Option Addr} {sl3 : Array (Option Value)} {oc3 kV3 dc3 pm3 cd3 ct3 : Value}
    {f4 : Addr} {od4 an4 : Option Addr} {sl4 : Array (Option Value)} {oc4 kV4 dc4 pm4 cd4 ct4 : Value}
    {f5 : Addr} {od5 an5 : Option Addr} {sl5 : Array (Option Value)} {oc5 kV5 dc5 pm5 cd5 ct5 : Value}
    {f6 : Addr} {od6 an6 : Option Addr} {sl6 : Array (Option Value)} {oc6 kV6 dc6 pm6 cd6 ct6 : Value}
    {f7 : Addr} {od7 an7 : Option Addr} {sl7 : Array (Option Value)} {oc7 kV7 dc7 pm7 cd7 ct7 : Value}
    {f8 : Addr} {od8 an8 : Option Addr} {sl8 : Array (Option Value)} {oc8 kV8 dc8 pm8 cd8 ct8 : Value}
    {f9 : Addr} {od9 an9 : Option Addr} {sl9 : Array (Option Value)} {oc9 kV9 dc9 pm9 cd9 ct9 : Value}
    {f10 : Addr} {od10 an10 : Option Addr} {sl10 : Array (Option Value)} {oc10 kV10 dc10 pm10 cd10 ct10 : Value}
    {f11 : Addr} {od11 an11 : Option Addr} {sl11 : Array (Option Value)} {oc11 kV11 dc11 pm11 cd11 ct11 : Value}
    {f12 : Addr} {od12 an12 : Option Addr} {sl12 : Array (Option Value)} {oc12 kV12 dc12 pm12 cd12 ct12 : Value}
    {f13 : Addr} {od13 an13 : Option Addr} {sl13 : Array (Option Value)} {oc13 kV13 dc13 pm13 cd13 ct13 : Value}
    {f14 : Addr} {od14 an14 : Option Addr} {sl14 : Array (Option Value)} {oc14 kV14 dc14 pm14 cd14 ct14 : Value}
    {f15 : Addr} {od15 an15 : Option Addr} {sl15 : Array (Option Value)} {oc15 kV15 dc15 pm15 cd15 ct15 : Value}
    {f16 : Addr} {od16 an16 : Option Addr} {sl16 : Array (Option Value)} {oc16 kV16 dc16 pm16 cd16 ct16 : Value}
    {f17 : Addr} {od17 an17 : Option Addr} {sl17 : Array (Option Value)} {oc17 kV17 dc17 pm17 cd17 ct17 : Value}
    {t_MOST_PLACES : Tok} (a_MOST_PLACES : PySem.W.nsIn K mainGlobals "MOST_PLACES" = some (some (.int 120 t_MOST_PLACES)))
    {ts : List Addr} (hT8 : ∀ P ∈ ts, h.get? P = some (PySem.W.tabObj #[])) {cL PL : Addr} (tH : PySem.W.codeHdIn K cL PL = true) (tN : K.lookup PL = none) (tM : PL ∈ ts)
    (a1 : PySem.W.nsIn K mainGlobals "_law_cell_at" = some (some (.ref f1))) (l1 : K.lookup f1 = some ⟨oc1, od1, .func (PySem.W.fnOf "_law_cell_at" "_law_cell_at" (defArgs s_l_cell_at) (defBody s_l_cell_at) (defScope s_l_cell_at) .none kV1 dc1 pm1 an1 cd1 ct1), sl1⟩) (c1 : PySem.W.codeIn K cd1 "_law_cell_at" = true) (k1 : PySem.W.keepIn K (.ref f1) = true)
    (a2 : PySem.W.nsIn K mainGlobals "_law_mixed" = some (some (.ref f2))) (l2 : K.lookup f2 = some ⟨oc2, od2, .func (PySem.W.fnOf "_law_mixed" "_law_mixed" (defArgs s_l_mixed) (defBody s_l_mixed) (defScope s_l_mixed) .none kV2 dc2 pm2 an2 cd2 ct2), sl2⟩) (c2 : PySem.W.codeIn K cd2 "_law_mixed" = true) (k2 : PySem.W.keepIn K (.ref f2) = true)
    (a3 : PySem.W.nsIn K mainGlobals "_law_pair" = some (some (.ref f3))) (l3 : K.lookup f3 = some ⟨oc3, od3, .func (PySem.W.fnOf "_law_pair" "_law_pair" (defArgs s_l_pair) (defBody s_l_pair) (defScope s_l_pair) .none kV3 dc3 pm3 an3 cd3 ct3), sl3⟩) (c3 : PySem.W.codeIn K cd3 "_law_pair" = true) (k3 : PySem.W.keepIn K (.ref f3) = true)
    (a4 : PySem.W.nsIn K mainGlobals "_law_turn" = some (some (.ref f4))) (l4 : K.lookup f4 = some ⟨oc4, od4, .func (PySem.W.fnOf "_law_turn" "_law_turn" (defArgs s_l_turn) (defBody s_l_turn) (defScope s_l_turn) .none kV4 dc4 pm4 an4 cd4 ct4), sl4⟩) (c4 : PySem.W.codeIn K cd4 "_law_turn" = true) (k4 : PySem.W.keepIn K (.ref f4) = true)
    (a5 : PySem.W.nsIn K mainGlobals "_law_row" = some (some (.ref f5))) (l5 : K.lookup f5 = some ⟨oc5, od5, .func (PySem.W.fnOf "_law_row" "_law_row" (defArgs s_l_row) (defBody s_l_row) (defScope s_l_row) .none kV5 dc5 pm5 an5 cd5 ct5), sl5⟩) (c5 : PySem.W.codeIn K cd5 "_law_row" = true) (k5 : PySem.W.keepIn K (.ref f5) = true)
    (a6 : PySem.W.nsIn K mainGlobals "is_whole" = some (some (.ref f6))) (l6 : K.lookup f6 = some ⟨oc6, od6, .func (PySem.W.fnOf "is_whole" "is_whole" (defArgs s_is_whole) (defBody s_is_whole) (defScope s_is_whole) .none kV6 dc6 pm6 an6 cd6 ct6), sl6⟩) (c6 : PySem.W.codeIn K cd6 "is_whole" = true) (k6 : PySem.W.keepIn K (.ref f6) = true)
    (a7 : PySem.W.nsIn K mainGlobals "common" = some (some (.ref f7))) (l7 : K.lookup f7 = some ⟨oc7, od7, .func (PySem.W.fnOf "common" "common" (defArgs s_common) (defBody s_common) (defScope s_common) .none kV7 dc7 pm7 an7 cd7 ct7), sl7⟩) (c7 : PySem.W.codeIn K cd7 "common" = true) (k7 : PySem.W.keepIn K (.ref f7) = true)
    (a8 : PySem.W.nsIn K mainGlobals "turn" = some (some (.ref f8))) (l8 : K.lookup f8 = some ⟨oc8, od8, .func (PySem.W.fnOf "turn" "turn" (defArgs s_turn) (defBody s_turn) (defScope s_turn) .none kV8 dc8 pm8 an8 cd8 ct8), sl8⟩) (c8 : PySem.W.codeIn K cd8 "turn" = true) (k8 : PySem.W.keepIn K (.ref f8) = true)
    (a9 : PySem.W.nsIn K mainGlobals "is_row" = some (some (.ref f9))) (l9 : K.lookup f9 = some ⟨oc9, od9, .func (PySem.W.fnOf "is_row" "is_row" (defArgs s_is_row) (defBody s_is_row) (defScope s_is_row) .none kV9 dc9 pm9 an9 cd9 ct9), sl9⟩) (c9 : PySem.W.codeIn K cd9 "is_row" = true) (k9 : PySem.W.keepIn K (.ref f9) = true)
    (a10 : PySem.W.nsIn K mainGlobals "_law_places_in" = some (some (.ref f10))) (l10 : K.lookup f10 = some ⟨oc10, od10, .func (PySem.W.fnOf "_law_places_in" "_law_places_in" (defArgs s_l_places_in) (defBody s_l_places_in) (defScope s_l_places_in) .none kV10 dc10 pm10 an10 cd10 ct10), sl10⟩) (c10 : PySem.W.codeIn K cd10 "_law_places_in" = true) (k10 : PySem.W.keepIn K (.ref f10) = true)
    (a11 : PySem.W.nsIn K mainGlobals "_law_put_at" = some (some (.ref f11))) (l11 : K.lookup f11 = some ⟨oc11, od11, .func (PySem.W.fnOf "_law_put_at" "_law_put_at" (defArgs s_l_put_at) (defBody s_l_put_at) (defScope s_l_put_at) .none kV11 dc11 pm11 an11 cd11 ct11), sl11⟩) (c11 : PySem.W.codeIn K cd11 "_law_put_at" = true) (k11 : PySem.W.keepIn K (.ref f11) = true)
    (a12 : PySem.W.nsIn K mainGlobals "_law_otherwise" = some (some (.ref f12))) (l12 : K.lookup f12 = some ⟨oc12, od12, .func (PySem.W.fnOf "_law_otherwise" "_law_otherwise" (defArgs s_l_otherwise) (defBody s_l_otherwise) (defScope s_l_otherwise) .none kV12 dc12 pm12 an12 cd12 ct12), sl12⟩) (c12 : PySem.W.codeIn K cd12 "_law_otherwise" = true) (k12 : PySem.W.keepIn K (.ref f12) = true)
    (a13 : PySem.W.nsIn K mainGlobals "_law_spoilt" = some (some (.ref f13))) (l13 : K.lookup f13 = some ⟨oc13, od13, .func (PySem.W.fnOf "_law_spoilt" "_law_spoilt" (defArgs s_l_spoilt) (defBody s_l_spoilt) (defScope s_l_spoilt) .none kV13 dc13 pm13 an13 (.ref cL) ct13), sl13⟩) (c13 : PySem.W.codeIn K (.ref cL) "_law_spoilt" = true) (k13 : PySem.W.keepIn K (.ref f13) = true)
    (a14 : PySem.W.nsIn K mainGlobals "_law_whole" = some (some (.ref f14))) (l14 : K.lookup f14 = some ⟨oc14, od14, .func (PySem.W.fnOf "_law_whole" "_law_whole" (defArgs s_l_whole) (defBody s_l_whole) (defScope s_l_whole) .none kV14 dc14 pm14 an14 cd14 ct14), sl14⟩) (c14 : PySem.W.codeIn K cd14 "_law_whole" = true) (k14 : PySem.W.keepIn K (.ref f14) = true)
    (a15 : PySem.W.nsIn K mainGlobals "_law_is_row" = some (some (.ref f15))) (l15 : K.lookup f15 = some ⟨oc15, od15, .func (PySem.W.fnOf "_law_is_row" "_law_is_row" (defArgs s_l_is_row) (defBody s_l_is_row) (defScope s_l_is_row) .none kV15 dc15 pm15 an15 cd15 ct15), sl15⟩) (c15 : PySem.W.codeIn K cd15 "_law_is_row" = true) (k15 : PySem.W.keepIn K (.ref f15) = true)
    (a16 : PySem.W.nsIn K mainGlobals "_law_once" = some (some (.ref f16))) (l16 : K.lookup f16 = some ⟨oc16, od16, .func (PySem.W.fnOf "_law_once" "_law_once" (defArgs s_l_once) (defBody s_l_once) (defScope s_l_once) .none kV16 dc16 pm16 an16 cd16 ct16), sl16⟩) (c16 : PySem.W.codeIn K cd16 "_law_once" = true) (k16 : PySem.W.keepIn K (.ref f16) = true)
    (a17 : PySem.W.nsIn K mainGlobals "law" = some (some (.ref f17))) (l17 : K.lookup f17 = some ⟨oc17, od17, .func (PySem.W.fnOf "law" "law" (defArgs s_law) (defBody s_law) (defScope s_law) .none kV17 dc17 pm17 an17 cd17 ct17), sl17⟩) (c17 : PySem.W.codeIn K cd17 "law" = true) (k17 : PySem.W.keepIn K (.ref f17) = true)
    (z_len : PySem.W.nsIn K mainGlobals "len" = some none)
    (z_range : PySem.W.nsIn K mainGlobals "range" = some none)
    (z_isinstance : PySem.W.nsIn K mainGlobals "isinstance" = some none)
    (z_int : PySem.W.nsIn K mainGlobals "int" = some none)
    (z_bool : PySem.W.nsIn K mainGlobals "bool" = some none)
    (z_tuple : PySem.W.nsIn K mainGlobals "tuple" = some none)
    (z_enumerate : PySem.W.nsIn K mainGlobals "enumerate" = some none)
    (z_list : PySem.W.nsIn K mainGlobals "list" = some none)
    (z_str : PySem.W.nsIn K mainGlobals "str" = some none)
    (z_max : PySem.W.nsIn K mainGlobals "max" = some none)
    : LawAtG l w K "_law_script" mg fa h := by
  have e := hfa.symm.trans (PySem.W.mg_of X G a17)
  cases e
  have m_len := PySem.W.mg_none_of X G z_len
  have m_range := PySem.W.mg_none_of X G z_range
  have m_isinstance := PySem.W.mg_none_of X G z_isinstance
  have m_int := PySem.W.mg_none_of X G z_int
  have m_bool := PySem.W.mg_none_of X G z_bool
  have m_tuple := PySem.W.mg_none_of X G z_tuple
  have m_enumerate := PySem.W.mg_none_of X G z_enumerate
  have m_list := PySem.W.mg_none_of X G z_list
  have m_str := PySem.W.mg_none_of X G z_str
  have m_max := PySem.W.mg_none_of X G z_max
  have c_MOST_PLACES := PySem.W.mg_of X G a_MOST_PLACES
  have F1 := fun_mk (st := s_l_cell_at) l1 c1 k1
  have b1 := F1.binds (ps := ["_law_script", "_law_k"]) fun _ _ _ _ _ _ us hl => match us, hl with | [_, _], _ => rfl
  have F2 := fun_mk (st := s_l_mixed) l2 c2 k2
  have b2 := F2.binds (ps := ["_law_script", "_law_k"]) fun _ _ _ _ _ _ us hl => match us, hl with | [_, _], _ => rfl
  have F3 := fun_mk (st := s_l_pair) l3 c3 k3
  have b3 := F3.binds (ps := ["_law_number", "_law_most"]) fun _ _ _ _ _ _ us hl => match us, hl with | [_, _], _ => rfl
  have F4 := fun_mk (st := s_l_turn) l4 c4 k4
  have b4 := F4.binds (ps := ["_law_whole_here", "_law_step"]) fun _ _ _ _ _ _ us hl => match us, hl with | [_, _], _ => rfl
  have F5 := fun_mk (st := s_l_row) l5 c5 k5
  have b5 := F5.binds (ps := ["_law_number", "_law_most"]) fun _ _ _ _ _ _ us hl => match us, hl with | [_, _], _ => rfl
  have F6 := fun_mk (st := s_is_whole) l6 c6 k6
  have b6 := F6.binds (ps := ["thing", "low", "high"]) fun _ _ _ _ _ _ us hl => match us, hl with | [_, _, _], _ => rfl
  have F7 := fun_mk (st := s_common) l7 c7 k7
  have b7 := F7.binds (ps := ["one", "other"]) fun _ _ _ _ _ _ us hl => match us, hl with | [_, _], _ => rfl
  have F8 := fun_mk (st := s_turn) l8 c8 k8
  have b8 := F8.binds (ps := ["whole", "step"]) fun _ _ _ _ _ _ us hl => match us, hl with | [_, _], _ => rfl
  have F9 := fun_mk (st := s_is_row) l9 c9 k9
  have b9 := F9.binds (ps := ["thing"]) fun _ _ _ _ _ _ us hl => match us, hl with | [_], _ => rfl
  have F10 := fun_mk (st := s_l_places_in) l10 c10 k10
  have b10 := F10.binds (ps := ["_law_bent_one", "_law_bent_way"]) fun _ _ _ _ _ _ us hl => match us, hl with | [_, _], _ => rfl
  have F11 := fun_mk (st := s_l_put_at) l11 c11 k11
  have b11 := F11.binds (ps := ["_law_bent_one", "_law_bent_way", "_law_bent_by"]) fun _ _ _ _ _ _ us hl => match us, hl with | [_, _, _], _ => rfl
  have F12 := fun_mk (st := s_l_otherwise) l12 c12 k12
  have b12 := F12.binds (ps := ["_law_bent_one", "_law_bent_number"]) fun _ _ _ _ _ _ us hl => match us, hl with | [_, _], _ => rfl
  have F13 := fun_mk (st := s_l_spoilt) l13 c13 k13
  have b13 := F13.binds (ps := ["_law_thing", "_law_number", "_law_deep"]) fun _ _ _ _ _ _ us hl => match us, hl with | [_, _, _], _ => rfl
  have F14 := fun_mk (st := s_l_whole) l14 c14 k14
  have b14 := F14.binds (ps := ["_law_thing", "_law_low", "_law_high"]) fun _ _ _ _ _ _ us hl => match us, hl with | [_, _, _], _ => rfl
  have F15 := fun_mk (st := s_l_is_row) l15 c15 k15
  have b15 := F15.binds (ps := ["_law_thing"]) fun _ _ _ _ _ _ us hl => match us, hl with | [_], _ => rfl
  have F16 := fun_mk (st := s_l_once) l16 c16 k16
  have b16 := F16.binds (ps := ["_law_script"]) fun _ _ _ _ _ _ us hl => match us, hl with | [_], _ => rfl
  have F17 := fun_mk (st := s_law) l17 c17 k17
  refine ⟨PySem.W.fnOf "law" "law" (defArgs s_law) (defBody s_law) (defScope s_law) .none kV17 dc17 pm17 an17 cd17 ct17, cL, PL, hT8 _ tM, tN, PySem.W.codeHd_of_K X tH, fun s v => .of_eq rfl, fun base _ _ TB => ?_⟩
  have G_l_cell_at : DFn l.prog w K mg base 1 "_law_cell_at" φ_l_cell_at := ⟨_, _, _, ok_l_cell_at F1 m_len, PySem.W.mg_of X G a1, k1, b1⟩
  have G_l_mixed : DFn l.prog w K mg base 2 "_law_mixed" φ_l_mixed := ⟨_, _, _, ok_l_mixed F2 G_l_cell_at, PySem.W.mg_of X G a2, k2, b2⟩
  have G_l_pair : DFn l.prog w K mg base 1 "_law_pair" φ_l_pair := ⟨_, _, _, ok_l_pair F3, PySem.W.mg_of X G a3, k3, b3⟩
  have G_l_turn : DFn l.prog w K mg base 1 "_law_turn" φ_l_turn := ⟨_, _, _, ok_l_turn F4 m_range, PySem.W.mg_of X G a4, k4, b4⟩
  have G_l_row : DFn l.prog w K mg base 2 "_law_row" φ_l_row := ⟨_, _, _, ok_l_row F5 G_l_pair G_l_turn, PySem.W.mg_of X G a5, k5, b5⟩
  have G_is_whole : DFn l.prog w K mg base 1 "is_whole" φ_is_whole := ⟨_, _, _, ok_is_whole F6 m_isinstance m_int m_bool, PySem.W.mg_of X G a6, k6, b6⟩
  have G_common : DFn l.prog w K mg base 1 "common" φ_common := ⟨_, _, _, ok_common F7, PySem.W.mg_of X G a7, k7, b7⟩
  have G_turn : DFn l.prog w K mg base 2 "turn" φ_turn := ⟨_, _, _, ok_turn F8 G_common, PySem.W.mg_of X G a8, k8, b8⟩
  have G_is_row : DFn l.prog w K mg base 3 "is_row" φ_is_row := ⟨_, _, _, ok_is_row F9 G_is_whole G_turn m_isinstance m_tuple m_len c_MOST_PLACES ⟨_, rfl⟩, PySem.W.mg_of X G a9, k9, b9⟩
  have G_l_places_in0 : DFn l.prog w K mg base 1 "_law_places_in" φ_l_places_in0 := ⟨_, _, _, ok_l_places_in0 F10 m_isinstance m_tuple m_enumerate, PySem.W.mg_of X G a10, k10, b10⟩
  have G_l_places_in : DFn l.prog w K mg base 2 "_law_places_in" φ_l_places_in := ⟨_, _, _, ok_l_places_in F10 G_l_places_in0 m_isinstance m_tuple m_enumerate, PySem.W.mg_of X G a10, k10, b10⟩
  have G_l_put_at : RawF K mg "_law_put_at" s_l_put_at ["_law_bent_one", "_law_bent_way", "_law_bent_by"] := ⟨_, _, F11, PySem.W.mg_of X G a11, k11, b11⟩
  have G_l_otherwise : DFn l.prog w K mg base 1 "_law_otherwise" φ_l_otherwise := ⟨_, _, _, ok_l_otherwise F12 m_isinstance m_tuple m_bool m_int m_list m_str, PySem.W.mg_of X G a12, k12, b12⟩
  have G_l_spoilt : DFnT l.prog w K mg base [(PL, (("_law_spoilt" : Str) ++ ".<locals>.") ++ "<lambda>")] 5 "_law_spoilt" φ_l_spoilt := ⟨_, _, _, ok_l_spoilt TB l13 c13 G_l_places_in G_l_put_at G_l_otherwise m_len, PySem.W.mg_of X G a13, k13, b13⟩
  have G_l_whole : DFn l.prog w K mg base 1 "_law_whole" φ_l_whole := ⟨_, _, _, ok_l_whole F14 m_isinstance m_int m_bool, PySem.W.mg_of X G a14, k14, b14⟩
  have G_l_is_row : DFn l.prog w K mg base 2 "_law_is_row" φ_l_is_row := ⟨_, _, _, ok_l_is_row F15 G_l_whole G_l_turn m_isinstance m_tuple m_len, PySem.W.mg_of X G a15, k15, b15⟩
  have G_l_once : DFnT l.prog w K mg base [(PL, (("_law_spoilt" : Str) ++ ".<locals>.") ++ "<lambda>")] 6 "_law_once" φ_l_once := ⟨_, _, _, ok_l_once F16 G_l_mixed G_l_row G_is_row G_turn G_l_turn G_l_spoilt G_l_is_row m_isinstance m_bool m_max, PySem.W.mg_of X G a16, k16, b16⟩
  exact ok_law F17 G_l_once m_range
end Z
open PySem PySem.W PyProof.Rows in
set_option maxRecDepth 100000 in
set_option maxHeartbeats 0 in
theorem PySem.Challenge.cw_ringgaps_k09_lists_anywhere_holds : PySem.Challenge.rw_ringgaps_k09_lists_anywhere.Holds := by
  w_on; o_law; k_head; (case hw => w_witness2)
  k_fill
  refine Z.walkG (l := PySem.Challenge.rw_ringgaps_k09_lists_anywhere) (x := "_law_script") rfl rfl (fun w h Y => PySem.W.km_in_of Y) ?F
  case F =>
    intro w mg fa h Y KX G hmg
    refine' Z.all_mk KX G hmg ?a_MOST_PLACES (PySem.W.km_tabs_of Y) ?tH ?tN ?tM ?a1 ?l1 ?c1 ?k1 ?a2 ?l2 ?c2 ?k2 ?a3 ?l3 ?c3 ?k3 ?a4 ?l4 ?c4 ?k4 ?a5 ?l5 ?c5 ?k5 ?a6 ?l6 ?c6 ?k6 ?a7 ?l7 ?c7 ?k7 ?a8 ?l8 ?c8 ?k8 ?a9 ?l9 ?c9 ?k9 ?a10 ?l10 ?c10 ?k10 ?a11 ?l11 ?c11 ?k11 ?a12 ?l12 ?c12 ?k12 ?a13 ?l13 ?c13 ?k13 ?a14 ?l14 ?c14 ?k14 ?a15 ?l15 ?c15 ?k15 ?a16 ?l16 ?c16 ?k16 ?a17 ?l17 ?c17 ?k17 ?z_len ?z_range ?z_isinstance ?z_int ?z_bool ?z_tuple ?z_enumerate ?z_list ?z_str ?z_max
    (case tM => first | k_is | kernel_rfl | k_mem | decide)
    (case a_MOST_PLACES => first | k_is | kernel_rfl | k_mem | decide)
    (case a1 => first | k_is | kernel_rfl | k_mem | decide)
    (case l1 => first | k_is | kernel_rfl | k_mem | decide)
    (case c1 => first | k_is | kernel_rfl | k_mem | decide)
    (case k1 => first | k_is | kernel_rfl | k_mem | decide)
    (case a2 => first | k_is | kernel_rfl | k_mem | decide)
    (case l2 => first | k_is | kernel_rfl | k_mem | decide)
    (case c2 => first | k_is | kernel_rfl | k_mem | decide)
    (case k2 => first | k_is | kernel_rfl | k_mem | decide)
    (case a3 => first | k_is | kernel_rfl | k_mem | decide)
    (case l3 => first | k_is | kernel_rfl | k_mem | decide)
    (case c3 => first | k_is | kernel_rfl | k_mem | decide)
    (case k3 => first | k_is | kernel_rfl | k_mem | decide)
    (case a4 => first | k_is | kernel_rfl | k_mem | decide)
    (case l4 => first | k_is | kernel_rfl | k_mem | decide)
    (case c4 => first | k_is | kernel_rfl | k_mem | decide)
    (case k4 => first | k_is | kernel_rfl | k_mem | decide)
    (case a5 => first | k_is | kernel_rfl | k_mem | decide)
    (case l5 => first | k_is | kernel_rfl | k_mem | decide)
    (case c5 => first | k_is | kernel_rfl | k_mem | decide)
    (case k5 => first | k_is | kernel_rfl | k_mem | decide)
    (case a6 => first | k_is | kernel_rfl | k_mem | decide)
    (case l6 => first | k_is | kernel_rfl | k_mem | decide)
    (case c6 => first | k_is | kernel_rfl | k_mem | decide)
    (case k6 => first | k_is | kernel_rfl | k_mem | decide)
    (case a7 => first | k_is | kernel_rfl | k_mem | decide)
    (case l7 => first | k_is | kernel_rfl | k_mem | decide)
    (case c7 => first | k_is | kernel_rfl | k_mem | decide)
    (case k7 => first | k_is | kernel_rfl | k_mem | decide)
    (case a8 => first | k_is | kernel_rfl | k_mem | decide)
    (case l8 => first | k_is | kernel_rfl | k_mem | decide)
    (case c8 => first | k_is | kernel_rfl | k_mem | decide)
    (case k8 => first | k_is | kernel_rfl | k_mem | decide)
    (case a9 => first | k_is | kernel_rfl | k_mem | decide)
    (case l9 => first | k_is | kernel_rfl | k_mem | decide)
    (case c9 => first | k_is | kernel_rfl | k_mem | decide)
    (case k9 => first | k_is | kernel_rfl | k_mem | decide)
    (case a10 => first | k_is | kernel_rfl | k_mem | decide)
    (case l10 => first | k_is | kernel_rfl | k_mem | decide)
    (case c10 => first | k_is | kernel_rfl | k_mem | decide)
    (case k10 => first | k_is | kernel_rfl | k_mem | decide)
    (case a11 => first | k_is | kernel_rfl | k_mem | decide)
    (case l11 => first | k_is | kernel_rfl | k_mem | decide)
    (case c11 => first | k_is | kernel_rfl | k_mem | decide)
    (case k11 => first | k_is | kernel_rfl | k_mem | decide)
    (case a12 => first | k_is | kernel_rfl | k_mem | decide)
    (case l12 => first | k_is | kernel_rfl | k_mem | decide)
    (case c12 => first | k_is | kernel_rfl | k_mem | decide)
    (case k12 => first | k_is | kernel_rfl | k_mem | decide)
    (case a13 => first | k_is | kernel_rfl | k_mem | decide)
    (case l13 => first | k_is | kernel_rfl | k_mem | decide)
    (case c13 => first | k_is | kernel_rfl | k_mem | decide)
    (case k13 => first | k_is | kernel_rfl | k_mem | decide)
    (case a14 => first | k_is | kernel_rfl | k_mem | decide)
    (case l14 => first | k_is | kernel_rfl | k_mem | decide)
    (case c14 => first | k_is | kernel_rfl | k_mem | decide)
    (case k14 => first | k_is | kernel_rfl | k_mem | decide)
    (case a15 => first | k_is | kernel_rfl | k_mem | decide)
    (case l15 => first | k_is | kernel_rfl | k_mem | decide)
    (case c15 => first | k_is | kernel_rfl | k_mem | decide)
    (case k15 => first | k_is | kernel_rfl | k_mem | decide)
    (case a16 => first | k_is | kernel_rfl | k_mem | decide)
    (case l16 => first | k_is | kernel_rfl | k_mem | decide)
    (case c16 => first | k_is | kernel_rfl | k_mem | decide)
    (case k16 => first | k_is | kernel_rfl | k_mem | decide)
    (case a17 => first | k_is | kernel_rfl | k_mem | decide)
    (case l17 => first | k_is | kernel_rfl | k_mem | decide)
    (case c17 => first | k_is | kernel_rfl | k_mem | decide)
    (case k17 => first | k_is | kernel_rfl | k_mem | decide)
    (case z_len => first | k_is | kernel_rfl | k_mem | decide)
    (case z_range => first | k_is | kernel_rfl | k_mem | decide)
    (case z_isinstance => first | k_is | kernel_rfl | k_mem | decide)
    (case z_int => first | k_is | kernel_rfl | k_mem | decide)
    (case z_bool => first | k_is | kernel_rfl | k_mem | decide)
    (case z_tuple => first | k_is | kernel_rfl | k_mem | decide)
    (case z_enumerate => first | k_is | kernel_rfl | k_mem | decide)
    (case z_list => first | k_is | kernel_rfl | k_mem | decide)
    (case z_str => first | k_is | kernel_rfl | k_mem | decide)
    (case z_max => first | k_is | kernel_rfl | k_mem | decide)
    (case tN => first | k_is | kernel_rfl | k_mem | decide)
    (case tH => first | k_is | kernel_rfl | k_mem | decide)
    any_goals exact PySem.Value.none
