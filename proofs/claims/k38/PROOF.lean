import PyProof.Rows.All
import Wide.All
import OpenK.AllK
import Wide.FinOn
import HandS.ForMost
import HandS.Walk
import HandS.EndBits
import HandS.Wide
import HandS.WideBits
import HandS.IsInst
import HandS.Style
import HandS.More
import KE.GoesEnumKw
import PyProof.Rows.CallKw2
import PyProof.P3Eq
import HandS.Text
import PySem.Challenge.RW_armwarrant_k38_whole_words_of_any_text
set_option Elab.async false
set_option linter.all false
set_option maxRecDepth 100000
set_option maxHeartbeats 4000000
/-! DL: a data level over the hand layer: values are told by what they stand for (Dt), the heap is split into what never changes (I), what is framed (F) and what may change (M). -/
namespace DL
open PySem PySem.Spec PyProof.Rows L2

/-- data -/
inductive Dt where
  | non | bl (b : Bool) | int (i : Int) | str (x : Str) | lst (xs : List Dt) | tup (xs : List Dt)
  | obj (C : Addr) (fs : List (Str × Dt))
  /-- an object by its address alone -/
  | adr (a : Addr)
  /-- the script -/
  | scr (ns : List Int)
  /-- a class of the module by its address; a builtin type -/
  | ty (n : String)

/-- a tuple: tracked, or an object of the module -/
def SqU (K : PySem.W.Frag) (H : Hp) (a : Addr) (xs : List V) : Prop := H a = some (.tup xs) ∨
  ∃ (o : Obj) (its : Array Value) (n : Nat), K.lookup a = some o ∧ o.cls = .type "tuple" ∧ o.data = .seq its n ∧ its.size ≤ sizeLine ∧ Vals xs its.toList
mutual
inductive Is (K : PySem.W.Frag) (I : Hp) : V → Dt → Prop
  | non : Is K I .non .non
  | bl (b : Bool) : Is K I (.bl b) (.bl b)
  | int (i : Int) : Is K I (.int i) (.int i)
  | str (x : Str) : Is K I (.str x) (.str x)
  | lst {a : Addr} {vs : List V} {ds : List Dt} : I a = some (.lst vs) → IsA K I vs ds → Is K I (.ref a) (.lst ds)
  | tup {a : Addr} {vs : List V} {ds : List Dt} : SqU K I a vs → IsA K I vs ds → Is K I (.ref a) (.tup ds)
  | obj {a C dx : Addr} {fs : List (Str × V)} {ds : List (Str × Dt)} : I a = some (.ins C dx fs) → IsF K I fs ds → Is K I (.ref a) (.obj C ds)
  | adr (a : Addr) : Is K I (.ref a) (.adr a)
  | scr {a : Addr} {ns : List Int} : SqL K I a (ns.map V.int) → Is K I (.ref a) (.scr ns)
  | ty (n : String) : Is K I (.ty n) (.ty n)
inductive IsA (K : PySem.W.Frag) (I : Hp) : List V → List Dt → Prop
  | nil : IsA K I [] []
  | cons {v : V} {d : Dt} {vs : List V} {ds : List Dt} : Is K I v d → IsA K I vs ds → IsA K I (v :: vs) (d :: ds)
inductive IsF (K : PySem.W.Frag) (I : Hp) : List (Str × V) → List (Str × Dt) → Prop
  | nil : IsF K I [] []
  | cons {f : Str} {v : V} {d : Dt} {vs : List (Str × V)} {ds : List (Str × Dt)} : Is K I v d → IsF K I vs ds → IsF K I ((f, v) :: vs) ((f, d) :: ds)
end

theorem Same.seqT {K : PySem.W.Frag} {H H' : Hp} {a : Addr} {xs : List V} (e : Same H H') (h : SqT K H a xs) : SqT K H' a xs := by
  rcases h with (h | ⟨o, h⟩) | h
  · exact .inl (.inl (e _ _ h))
  · exact .inl (.inr ⟨o, e _ _ h⟩)
  · exact .inr h
theorem SqU.up {K : PySem.W.Frag} {H H' : Hp} {a : Addr} {xs : List V} (e : Same H H') (h : SqU K H a xs) : SqU K H' a xs := h.elim (fun h => .inl (e _ _ h)) .inr
theorem SqU.t {K : PySem.W.Frag} {H : Hp} {a : Addr} {xs : List V} (h : SqU K H a xs) : SqT K H a xs := h.elim (fun h => .inl (.inl h)) .inr

section
variable {K : PySem.W.Frag} {I I' : Hp}
mutual
theorem Is.mono (e : Same I I') : ∀ {v : V} {d : Dt}, Is K I v d → Is K I' v d
  | _, _, .non => .non
  | _, _, .bl b => .bl b
  | _, _, .int i => .int i
  | _, _, .str x => .str x
  | _, _, .lst h a => .lst (e _ _ h) (IsA.mono e a)
  | _, _, .tup h a => .tup (h.up e) (IsA.mono e a)
  | _, _, .obj h a => .obj (e _ _ h) (IsF.mono e a)
  | _, _, .adr a => .adr a
  | _, _, .scr h => .scr (e.seq h)
  | _, _, .ty n => .ty n
theorem IsA.mono (e : Same I I') : ∀ {vs : List V} {ds : List Dt}, IsA K I vs ds → IsA K I' vs ds
  | _, _, .nil => .nil
  | _, _, .cons h t => .cons (Is.mono e h) (IsA.mono e t)
theorem IsF.mono (e : Same I I') : ∀ {vs : List (Str × V)} {ds : List (Str × Dt)}, IsF K I vs ds → IsF K I' vs ds
  | _, _, .nil => .nil
  | _, _, .cons h t => .cons (Is.mono e h) (IsF.mono e t)
end

theorem IsA.len : ∀ {vs : List V} {ds : List Dt}, IsA K I vs ds → vs.length = ds.length
  | _, _, .nil => rfl
  | _, _, .cons _ t => by rw [List.length_cons, List.length_cons, IsA.len t]
theorem IsA.get : ∀ {vs : List V} {ds : List Dt} {i : Nat} {d : Dt}, IsA K I vs ds → ds[i]? = some d → ∃ v, vs[i]? = some v ∧ Is K I v d
  | _, _, _, _, .nil, e => by simp at e
  | _, _, 0, d, .cons (v := v) h t, e => by
    simp at e
    subst e
    exact ⟨v, rfl, h⟩
  | _, _, i + 1, d, .cons h t, e => by
    obtain ⟨v, h1, h2⟩ := IsA.get (i := i) (d := d) t (by simpa using e)
    exact ⟨v, by simpa using h1, h2⟩
theorem IsA.getV : ∀ {vs : List V} {ds : List Dt} {i : Nat} {v : V}, IsA K I vs ds → vs[i]? = some v → ∃ d, ds[i]? = some d ∧ Is K I v d
  | _, _, _, _, .nil, e => by simp at e
  | _, _, 0, v, .cons (d := d) h t, e => by
    simp at e
    subst e
    exact ⟨d, rfl, h⟩
  | _, _, i + 1, v, .cons h t, e => by
    obtain ⟨d, h1, h2⟩ := IsA.getV (i := i) (v := v) t (by simpa using e)
    exact ⟨d, by simpa using h1, h2⟩
theorem IsA.append : ∀ {vs ws : List V} {ds es : List Dt}, IsA K I vs ds → IsA K I ws es → IsA K I (vs ++ ws) (ds ++ es)
  | _, _, _, _, .nil, h => h
  | _, _, _, _, .cons h t, h2 => .cons h (IsA.append t h2)
theorem IsA.one {v : V} {d : Dt} (h : Is K I v d) : IsA K I [v] [d] := .cons h .nil
theorem IsA.dropLast : ∀ {vs : List V} {ds : List Dt}, IsA K I vs ds → IsA K I vs.dropLast ds.dropLast
  | _, _, .nil => .nil
  | _, _, .cons h .nil => .nil
  | _, _, .cons h (.cons h2 t) => .cons h (IsA.dropLast (.cons h2 t))
theorem IsA.reverse : ∀ {vs : List V} {ds : List Dt}, IsA K I vs ds → IsA K I vs.reverse ds.reverse
  | _, _, .nil => .nil
  | _, _, .cons h t => by
    rw [List.reverse_cons, List.reverse_cons]
    exact IsA.append (IsA.reverse t) (.one h)
theorem IsA.take : ∀ {vs : List V} {ds : List Dt} (n : Nat), IsA K I vs ds → IsA K I (vs.take n) (ds.take n)
  | _, _, 0, _ => .nil
  | _, _, _ + 1, .nil => .nil
  | _, _, n + 1, .cons h t => .cons h (IsA.take n t)
theorem IsA.drop : ∀ {vs : List V} {ds : List Dt} (n : Nat), IsA K I vs ds → IsA K I (vs.drop n) (ds.drop n)
  | _, _, 0, h => h
  | _, _, _ + 1, .nil => .nil
  | _, _, n + 1, .cons _ t => IsA.drop n t
theorem IsA.set {v : V} {d : Dt} (h : Is K I v d) : ∀ {vs : List V} {ds : List Dt} (n : Nat), IsA K I vs ds → IsA K I (vs.set n v) (ds.set n d)
  | _, _, _, .nil => .nil
  | _, _, 0, .cons _ t => .cons h t
  | _, _, n + 1, .cons g t => .cons g (IsA.set h n t)
theorem IsA.insertIdx {v : V} {d : Dt} (h : Is K I v d) : ∀ {vs : List V} {ds : List Dt} (n : Nat), IsA K I vs ds → IsA K I (vs.insertIdx n v) (ds.insertIdx n d)
  | _, _, 0, g => by
    rw [List.insertIdx_zero, List.insertIdx_zero]
    exact .cons h g
  | _, _, _ + 1, .nil => by
    rw [List.insertIdx_succ_nil, List.insertIdx_succ_nil]
    exact .nil
  | _, _, n + 1, .cons g t => by
    rw [List.insertIdx_succ_cons, List.insertIdx_succ_cons]
    exact .cons g (IsA.insertIdx h n t)
theorem IsA.ints : ∀ {vs : List V} {ns : List Int}, IsA K I vs (ns.map Dt.int) → vs = ns.map V.int
  | _, [], h => by cases h; rfl
  | _, n :: ns, h => by
    rw [List.map_cons] at h
    cases h with
    | cons h1 h2 =>
      cases h1
      rw [IsA.ints h2, List.map_cons]
theorem IsA.of_ints : ∀ (ns : List Int), IsA K I (ns.map V.int) (ns.map Dt.int)
  | [] => .nil
  | n :: ns => .cons (.int n) (IsA.of_ints ns)
theorem IsA.strs : ∀ {vs : List V} {ns : List Str}, IsA K I vs (ns.map Dt.str) → vs = ns.map V.str
  | _, [], h => by cases h; rfl
  | _, n :: ns, h => by
    rw [List.map_cons] at h
    cases h with
    | cons h1 h2 =>
      cases h1
      rw [IsA.strs h2, List.map_cons]
theorem IsA.of_strs : ∀ (ns : List Str), IsA K I (ns.map V.str) (ns.map Dt.str)
  | [] => .nil
  | n :: ns => .cons (.str n) (IsA.of_strs ns)
theorem IsF.lookup : ∀ {vs : List (Str × V)} {ds : List (Str × Dt)} {f : Str} {d : Dt}, IsF K I vs ds → ds.lookup f = some d → ∃ v, vs.lookup f = some v ∧ Is K I v d
  | _, _, f, d, .nil, e => by simp at e
  | _, _, f, d, .cons (f := g) (v := v) (d := d') h t, e => by
    rw [List.lookup_cons] at e ⊢
    by_cases hq : (f == g) = true
    · rw [hq] at e ⊢
      simp at e
      subst e
      exact ⟨v, rfl, h⟩
    · have hq' : (f == g) = false := by simpa using hq
      rw [hq'] at e ⊢
      exact IsF.lookup t e
theorem IsF.lookupN : ∀ {vs : List (Str × V)} {ds : List (Str × Dt)} {f : Str}, IsF K I vs ds → ds.lookup f = none → vs.lookup f = none
  | _, _, f, .nil, e => by simp
  | _, _, f, .cons (f := g) (v := v) (d := d') h t, e => by
    rw [List.lookup_cons] at e ⊢
    by_cases hq : (f == g) = true
    · rw [hq] at e
      simp at e
    · have hq' : (f == g) = false := by simpa using hq
      rw [hq'] at e ⊢
      exact IsF.lookupN t e
theorem IsF.len : ∀ {vs : List (Str × V)} {ds : List (Str × Dt)}, IsF K I vs ds → vs.length = ds.length
  | _, _, .nil => rfl
  | _, _, .cons _ t => by rw [List.length_cons, List.length_cons, IsF.len t]
def putD (f : Str) (v : Dt) : List (Str × Dt) → List (Str × Dt)
  | [] => [(f, v)]
  | (g, u) :: r => if g = f then (g, v) :: r else (g, u) :: putD f v r
end

/-! ### what may change -/
inductive MO where
  | lst (ds : List Dt)
  /-- a list of some ints -/
  | deck
  | ins (C dx : Addr) (fs : List (Str × Dt))
  | raw (o : HO)
abbrev MS := Addr → Option MO
def MOk (K : PySem.W.Frag) (I H : Hp) (b : Addr) : MO → Prop
  | .lst ds => ∃ vs, H b = some (.lst vs) ∧ IsA K I vs ds
  | .deck => ∃ ns : List Int, H b = some (.lst (ns.map V.int))
  | .ins C dx fs => ∃ vs, H b = some (.ins C dx vs) ∧ IsF K I vs fs
  | .raw o => H b = some o
theorem MOk.ne {K : PySem.W.Frag} {I H : Hp} {b : Addr} {o : MO} (h : MOk K I H b o) : H b ≠ none := by
  cases o with
  | lst ds => obtain ⟨vs, e, _⟩ := h; rw [e]; simp
  | deck => obtain ⟨vs, e⟩ := h; rw [e]; simp
  | ins C dx fs => obtain ⟨vs, e, _⟩ := h; rw [e]; simp
  | raw o => rw [show H b = some o from h]; simp
theorem MOk.keep {K : PySem.W.Frag} {I I' H H' : Hp} {b : Addr} {o : MO} (h : MOk K I H b o) (e : Same I I') (k : H' b = H b) : MOk K I' H' b o := by
  cases o with
  | lst ds => obtain ⟨vs, q, a⟩ := h; exact ⟨vs, k.trans q, a.mono e⟩
  | deck => obtain ⟨vs, q⟩ := h; exact ⟨vs, k.trans q⟩
  | ins C dx fs => obtain ⟨vs, q, a⟩ := h; exact ⟨vs, k.trans q, a.mono e⟩
  | raw o => exact k.trans h
def updM (M : MS) (a : Addr) (o : MO) : MS := fun b => if b = a then some o else M b
def del (M : MS) (a : Addr) : MS := fun b => if b = a then none else M b
theorem updM_same {M : MS} {a : Addr} {o : MO} : updM M a o a = some o := by unfold updM; rw [if_pos rfl]
theorem updM_ne {M : MS} {a b : Addr} {o : MO} (h : b ≠ a) : updM M a o b = M b := by unfold updM; rw [if_neg h]
theorem updM_updM {M : MS} {a : Addr} {o u : MO} : updM (updM M a o) a u = updM M a u := by
  funext b; unfold updM; split <;> rfl
theorem del_updM {M : MS} {a : Addr} {o : MO} (h : M a = none) : del (updM M a o) a = M := by
  funext b
  unfold del updM
  split
  · rename_i e; rw [e, h]
  · rfl
theorem updM_comm {M : MS} {a b : Addr} {o u : MO} (h : a ≠ b) : updM (updM M a o) b u = updM (updM M b u) a o := by
  funext c
  unfold updM
  by_cases h1 : c = b
  · by_cases h2 : c = a
    · exact absurd (h2.symm.trans h1) h
    · rw [if_pos h1, if_neg h2, if_pos h1]
  · by_cases h2 : c = a
    · rw [if_neg h1, if_pos h2, if_pos h2]
    · rw [if_neg h1, if_neg h2, if_neg h2, if_neg h1]
theorem updM_self {M : MS} {a : Addr} {o : MO} (h : M a = some o) : updM M a o = M := by
  funext b
  unfold updM
  split
  · rename_i e; rw [e, h]
  · rfl

/-- the heap: I never changes, F is another's, M may change -/
structure Ok (K : PySem.W.Frag) (I F : Hp) (M : MS) (H : Hp) : Prop where
  i : ∀ b o, I b = some o → H b = some o
  f : ∀ b o, F b = some o → H b = some o
  m : ∀ b o, M b = some o → MOk K I H b o
  dm : ∀ b, M b ≠ none → I b = none ∧ F b = none
  df : ∀ b, F b ≠ none → I b = none

section
variable {K : PySem.W.Frag} {I I' F H H' : Hp} {M : MS} {p : Addr} {o o' : HO} {u : MO}
theorem Ok.fresh (h : Ok K I F M H) (hp : H p = none) : I p = none ∧ F p = none ∧ M p = none := by
  refine ⟨?_, ?_, ?_⟩
  · cases q : I p with
    | none => rfl
    | some o => rw [h.i p o q] at hp; cases hp
  · cases q : F p with
    | none => rfl
    | some o => rw [h.f p o q] at hp; cases hp
  · cases q : M p with
    | none => rfl
    | some o => exact absurd hp (h.m p o q).ne
theorem same_new (h : I p = none) : Same I (upd I p o) := fun b x e => by
  rw [upd_ne (ne_of_none e h)]
  exact e
/-- a new object that never changes -/
theorem Ok.newI (h : Ok K I F M H) (hp : H p = none) : Ok K (upd I p o) F M (upd H p o) := by
  obtain ⟨h1, h2, h3⟩ := h.fresh hp
  have e := same_new (o := o) h1
  refine ⟨fun b x q => ?_, fun b x q => ?_, fun b x q => ?_, fun b q => ?_, fun b q => ?_⟩
  · by_cases hb : b = p
    · subst hb; rw [upd_same] at q ⊢; exact q
    · rw [upd_ne hb] at q ⊢; exact h.i b x q
  · have hb : b ≠ p := ne_of_none q h2
    rw [upd_ne hb]; exact h.f b x q
  · have hb : b ≠ p := fun z => by rw [z, h3] at q; cases q
    exact (h.m b x q).keep e (upd_ne hb)
  · have hb : b ≠ p := fun z => by rw [z] at q; exact q h3
    rw [upd_ne hb]; exact h.dm b q
  · have hb : b ≠ p := fun z => by rw [z] at q; exact q h2
    rw [upd_ne hb]; exact h.df b q
/-- a new object that may change -/
theorem Ok.newM (h : Ok K I F M H) (hp : H p = none) (hu : MOk K I (upd H p o) p u) : Ok K I F (updM M p u) (upd H p o) := by
  obtain ⟨h1, h2, h3⟩ := h.fresh hp
  refine ⟨fun b x q => ?_, fun b x q => ?_, fun b x q => ?_, fun b q => ?_, h.df⟩
  · rw [upd_ne (ne_of_none q h1)]; exact h.i b x q
  · rw [upd_ne (ne_of_none q h2)]; exact h.f b x q
  · by_cases hb : b = p
    · subst hb; rw [updM_same] at q; cases q; exact hu
    · rw [updM_ne hb] at q; exact (h.m b x q).keep (Same.refl I) (upd_ne hb)
  · by_cases hb : b = p
    · subst hb; exact ⟨h1, h2⟩
    · rw [updM_ne hb] at q; exact h.dm b q
/-- a change -/
theorem Ok.wrM {u0 : MO} (h : Ok K I F M H) (hp : M p = some u0) (hu : MOk K I (upd H p o) p u) : Ok K I F (updM M p u) (upd H p o) := by
  obtain ⟨h1, h2⟩ := h.dm p (by rw [hp]; simp)
  refine ⟨fun b x q => ?_, fun b x q => ?_, fun b x q => ?_, fun b q => ?_, h.df⟩
  · rw [upd_ne (ne_of_none q h1)]; exact h.i b x q
  · rw [upd_ne (ne_of_none q h2)]; exact h.f b x q
  · by_cases hb : b = p
    · subst hb; rw [updM_same] at q; cases q; exact hu
    · rw [updM_ne hb] at q; exact (h.m b x q).keep (Same.refl I) (upd_ne hb)
  · by_cases hb : b = p
    · subst hb; exact ⟨h1, h2⟩
    · rw [updM_ne hb] at q; exact h.dm b q
/-- a new object that is framed -/
theorem Ok.newF (h : Ok K I F M H) (hp : H p = none) : Ok K I (upd F p o) M (upd H p o) := by
  obtain ⟨h1, h2, h3⟩ := h.fresh hp
  refine ⟨fun b x q => ?_, fun b x q => ?_, fun b x q => ?_, fun b q => ?_, fun b q => ?_⟩
  · rw [upd_ne (ne_of_none q h1)]; exact h.i b x q
  · by_cases hb : b = p
    · subst hb; rw [upd_same] at q ⊢; exact q
    · rw [upd_ne hb] at q ⊢; exact h.f b x q
  · have hb : b ≠ p := fun z => by rw [z, h3] at q; cases q
    exact (h.m b x q).keep (Same.refl I) (upd_ne hb)
  · have hb : b ≠ p := fun z => by rw [z] at q; exact q h3
    rw [upd_ne hb]; exact h.dm b q
  · by_cases hb : b = p
    · subst hb; exact h1
    · rw [upd_ne hb] at q; exact h.df b q
/-- the framed object is changed -/
theorem Ok.wrF (h : Ok K I (upd F p o) M H) : Ok K I (upd F p o') M (upd H p o') := by
  have h1 : I p = none := h.df p (by rw [upd_same]; simp)
  have h3 : M p = none := by
    cases q : M p with
    | none => rfl
    | some x => have := (h.dm p (by rw [q]; simp)).2; rw [upd_same] at this; cases this
  refine ⟨fun b x q => ?_, fun b x q => ?_, fun b x q => ?_, fun b q => ?_, fun b q => ?_⟩
  · rw [upd_ne (ne_of_none q h1)]; exact h.i b x q
  · by_cases hb : b = p
    · subst hb; rw [upd_same] at q ⊢; exact q
    · rw [upd_ne hb] at q ⊢; exact h.f b x (by rw [upd_ne hb]; exact q)
  · have hb : b ≠ p := fun z => by rw [z, h3] at q; cases q
    exact (h.m b x q).keep (Same.refl I) (upd_ne hb)
  · have hb : b ≠ p := fun z => by rw [z] at q; exact q h3
    have := h.dm b q
    rw [upd_ne hb] at this ⊢; exact this
  · by_cases hb : b = p
    · subst hb; exact h1
    · rw [upd_ne hb] at q; exact h.df b (by rw [upd_ne hb]; exact q)
/-- a framed object is given over: it never changes from now on -/
theorem Ok.giveF (h : Ok K I (upd F p o) M H) (hF : F p = none) : Ok K (upd I p o) F M H ∧ I p = none := by
  have h1 : I p = none := h.df p (by rw [upd_same]; simp)
  have h3 : M p = none := by
    cases q : M p with
    | none => rfl
    | some x => have := (h.dm p (by rw [q]; simp)).2; rw [upd_same] at this; cases this
  have e := same_new (o := o) h1
  refine ⟨⟨fun b x q => ?_, fun b x q => ?_, fun b x q => ?_, fun b q => ?_, fun b q => ?_⟩, h1⟩
  · by_cases hb : b = p
    · subst hb; rw [upd_same] at q; exact h.f b x (by rw [upd_same]; exact q)
    · rw [upd_ne hb] at q; exact h.i b x q
  · have hb : b ≠ p := ne_of_none q hF
    exact h.f b x (by rw [upd_ne hb]; exact q)
  · exact (h.m b x q).keep e rfl
  · have hb : b ≠ p := fun z => by rw [z] at q; exact q h3
    have := h.dm b q
    rw [upd_ne hb] at this ⊢; exact this
  · have hb : b ≠ p := fun z => by rw [z] at q; exact q hF
    rw [upd_ne hb]; exact h.df b (by rw [upd_ne hb]; exact q)
/-- .. to what may change -/
theorem Ok.giveM (h : Ok K I (upd F p o) M H) (hF : F p = none) (hu : MOk K I H p u) : Ok K I F (updM M p u) H ∧ M p = none := by
  have h1 : I p = none := h.df p (by rw [upd_same]; simp)
  have h3 : M p = none := by
    cases q : M p with
    | none => rfl
    | some x => have := (h.dm p (by rw [q]; simp)).2; rw [upd_same] at this; cases this
  refine ⟨⟨h.i, fun b x q => ?_, fun b x q => ?_, fun b q => ?_, fun b q => ?_⟩, h3⟩
  · have hb : b ≠ p := ne_of_none q hF
    exact h.f b x (by rw [upd_ne hb]; exact q)
  · by_cases hb : b = p
    · subst hb; rw [updM_same] at q; cases q; exact hu
    · rw [updM_ne hb] at q; exact h.m b x q
  · by_cases hb : b = p
    · subst hb; exact ⟨h1, hF⟩
    · rw [updM_ne hb] at q
      have := h.dm b q
      rw [upd_ne hb] at this; exact this
  · have hb : b ≠ p := fun z => by rw [z] at q; exact q hF
    exact h.df b (by rw [upd_ne hb]; exact q)
/-- a list that changed until now never changes from now on -/
theorem Ok.freeze {ds : List Dt} (h : Ok K I F M H) (hp : M p = some (.lst ds)) : ∃ vs, Ok K (upd I p (.lst vs)) F (del M p) H ∧ Same I (upd I p (.lst vs)) ∧ Is K (upd I p (.lst vs)) (.ref p) (.lst ds) := by
  obtain ⟨h1, h2⟩ := h.dm p (by rw [hp]; simp)
  obtain ⟨vs, e, a⟩ := h.m p _ hp
  have s := same_new (o := HO.lst vs) h1
  refine ⟨vs, ⟨fun b x q => ?_, h.f, fun b x q => ?_, fun b q => ?_, fun b q => ?_⟩, s, .lst upd_same (a.mono s)⟩
  · by_cases hb : b = p
    · subst hb; rw [upd_same] at q; cases q; exact e
    · rw [upd_ne hb] at q; exact h.i b x q
  · unfold del at q
    by_cases hb : b = p
    · rw [if_pos hb] at q; cases q
    · rw [if_neg hb] at q; exact (h.m b x q).keep s rfl
  · unfold del at q
    by_cases hb : b = p
    · rw [if_pos hb] at q; exact absurd rfl q
    · rw [if_neg hb] at q; rw [upd_ne hb]; exact h.dm b q
  · have hb : b ≠ p := fun z => by rw [z] at q; exact q h2
    rw [upd_ne hb]; exact h.df b q
/-- an instance that is made never changes from now on -/
theorem Ok.freezeO {C dx : Addr} {ds : List (Str × Dt)} (h : Ok K I F M H) (hp : M p = some (.ins C dx ds)) : ∃ vs, Ok K (upd I p (.ins C dx vs)) F (del M p) H ∧ Same I (upd I p (.ins C dx vs)) ∧ Is K (upd I p (.ins C dx vs)) (.ref p) (.obj C ds) := by
  obtain ⟨h1, h2⟩ := h.dm p (by rw [hp]; simp)
  obtain ⟨vs, e, a⟩ := h.m p _ hp
  have s := same_new (o := HO.ins C dx vs) h1
  refine ⟨vs, ⟨fun b x q => ?_, h.f, fun b x q => ?_, fun b q => ?_, fun b q => ?_⟩, s, .obj upd_same (a.mono s)⟩
  · by_cases hb : b = p
    · subst hb; rw [upd_same] at q; cases q; exact e
    · rw [upd_ne hb] at q; exact h.i b x q
  · unfold del at q
    by_cases hb : b = p
    · rw [if_pos hb] at q; cases q
    · rw [if_neg hb] at q; exact (h.m b x q).keep s rfl
  · unfold del at q
    by_cases hb : b = p
    · rw [if_pos hb] at q; exact absurd rfl q
    · rw [if_neg hb] at q; rw [upd_ne hb]; exact h.dm b q
  · have hb : b ≠ p := fun z => by rw [z] at q; exact q h2
    rw [upd_ne hb]; exact h.df b q
end

/-! ### slots -/
abbrev Rho := List (Option Dt)
def Sl (K : PySem.W.Frag) (I : Hp) (σ : L2.St) (ρ : Rho) : Prop := σ.length = ρ.length ∧ ∀ (j : Nat) (d : Dt), ρ[j]? = some (some d) → ∃ v, σ[j]? = some (some v) ∧ Is K I v d
section
variable {K : PySem.W.Frag} {I I' : Hp} {σ : L2.St} {ρ : Rho}
theorem Sl.mono (h : Sl K I σ ρ) (e : Same I I') : Sl K I' σ ρ := ⟨h.1, fun j d q => let ⟨v, a, b⟩ := h.2 j d q; ⟨v, a, b.mono e⟩⟩
theorem Sl.set (h : Sl K I σ ρ) {v : V} {d : Dt} (hv : Is K I v d) (i : Nat) : Sl K I (σ.set i (some v)) (ρ.set i (some d)) := by
  refine ⟨by rw [List.length_set, List.length_set, h.1], fun j e q => ?_⟩
  by_cases hj : i = j
  · subst hj
    have hl : i < (ρ.set i (some d)).length := (List.getElem?_eq_some_iff.mp q).1
    rw [List.length_set] at hl
    rw [List.getElem?_set_self hl] at q
    cases q
    exact ⟨v, by rw [List.getElem?_set_self (by rw [h.1]; exact hl)], hv⟩
  · rw [List.getElem?_set_ne hj] at q ⊢
    exact h.2 j e q
/-- a slot is told otherwise -/
theorem Sl.tell (h : Sl K I σ ρ) {v : V} {d : Dt} {i : Nat} (hs : σ[i]? = some (some v)) (hv : Is K I v d) : Sl K I σ (ρ.set i (some d)) := by
  refine ⟨by rw [List.length_set, h.1], fun j e q => ?_⟩
  by_cases hj : i = j
  · subst hj
    have hl : i < (ρ.set i (some d)).length := (List.getElem?_eq_some_iff.mp q).1
    rw [List.length_set] at hl
    rw [List.getElem?_set_self hl] at q
    cases q
    exact ⟨v, hs, hv⟩
  · rw [List.getElem?_set_ne hj] at q
    exact h.2 j e q
def wipeD (ρ : Rho) : List Nat → Rho
  | [] => ρ
  | v :: vs => (wipeD ρ vs).set v none
theorem Sl.setN (h : Sl K I σ ρ) (i : Nat) : Sl K I (σ.set i none) (ρ.set i none) := by
  refine ⟨by rw [List.length_set, List.length_set, h.1], fun j e q => ?_⟩
  by_cases hj : i = j
  · subst hj
    have hl : i < (ρ.set i none).length := (List.getElem?_eq_some_iff.mp q).1
    rw [List.length_set] at hl
    rw [List.getElem?_set_self hl] at q
    cases q
  · rw [List.getElem?_set_ne hj] at q ⊢
    exact h.2 j e q
theorem Sl.wipe (h : Sl K I σ ρ) : ∀ vs : List Nat, Sl K I (L2.wipe σ vs) (wipeD ρ vs)
  | [] => h
  | v :: vs => Sl.setN (Sl.wipe h vs) v
/-- less is told -/
theorem Sl.forget (h : Sl K I σ ρ) {ρ' : Rho} (hl : ρ'.length = ρ.length) (hf : ∀ (j : Nat) (d : Dt), ρ'[j]? = some (some d) → ρ[j]? = some (some d)) : Sl K I σ ρ' := ⟨h.1.trans hl.symm, fun j d q => h.2 j d (hf j d q)⟩
theorem wipeD_get {ρ : Rho} {j : Nat} {d : Dt} : ∀ {vs : List Nat}, (wipeD ρ vs)[j]? = some (some d) → ρ[j]? = some (some d)
  | [], h => h
  | v :: vs, h => by
    unfold wipeD at h
    by_cases hj : v = j
    · subst hj
      have hl := (List.getElem?_eq_some_iff.mp h).1
      rw [List.length_set] at hl
      rw [List.getElem?_set_self hl] at h
      cases h
    · rw [List.getElem?_set_ne hj] at h
      exact wipeD_get h
end
def startD (N : List Str) (ds : List Dt) : Rho := ds.map some ++ List.replicate (N.length - ds.length) none
theorem Sl.start {K : PySem.W.Frag} {I : Hp} {N : List Str} {vs : List V} {ds : List Dt} (h : IsA K I vs ds) : Sl K I (L2.start N vs) (startD N ds) := by
  have hl := h.len
  refine ⟨by simp [L2.start, startD, hl], fun j d q => ?_⟩
  unfold startD at q
  unfold L2.start
  by_cases hj : j < ds.length
  · rw [List.getElem?_append_left (by rw [List.length_map]; exact hj), List.getElem?_map] at q
    rw [List.getElem?_append_left (by rw [List.length_map, hl]; exact hj), List.getElem?_map]
    cases e : ds[j]? with
    | none => rw [e] at q; cases q
    | some x =>
      rw [e] at q
      cases q
      obtain ⟨v, e1, e2⟩ := h.get e
      exact ⟨v, by rw [e1]; rfl, e2⟩
  · rw [List.getElem?_append_right (by rw [List.length_map]; omega), List.getElem?_replicate] at q
    split at q <;> cases q

/-! ### readings of data -/
abbrev PD := Dt → MS → Prop
abbrev DE := Rho → MS → PD → Prop
abbrev DT := Rho → MS → (Bool → MS → Prop) → Prop
abbrev DA := Rho → MS → (List Dt → MS → Prop) → Prop
structure DEnds where
  nx : Rho → MS → Prop
  rt : PD
  bk : Rho → MS → Prop := fun _ _ => False
  ct : Rho → MS → Prop := fun _ _ => False
abbrev DS := DEnds → Rho → MS → Prop
section
variable (K : PySem.W.Frag)
def RE (t : TE) (d : DE) : Prop := ∀ (I F : Hp) (σ : L2.St) (ρ : Rho) (M : MS) (H : Hp) (Q : VK) (P : PD), Sl K I σ ρ → Ok K I F M H → d ρ M P →
  (∀ v x I' M' H', Same I I' → Ok K I' F M' H' → Is K I' v x → P x M' → Q v H') → t σ H Q
def RT (t : TT) (d : DT) : Prop := ∀ (I F : Hp) (σ : L2.St) (ρ : Rho) (M : MS) (H : Hp) (Q : Bool → Hp → Prop) (P : Bool → MS → Prop), Sl K I σ ρ → Ok K I F M H → d ρ M P →
  (∀ b I' M' H', Same I I' → Ok K I' F M' H' → P b M' → Q b H') → t σ H Q
def RA (t : TA) (d : DA) : Prop := ∀ (I F : Hp) (σ : L2.St) (ρ : Rho) (M : MS) (H : Hp) (Q : List V → Hp → Prop) (P : List Dt → MS → Prop), Sl K I σ ρ → Ok K I F M H → d ρ M P →
  (∀ vs xs I' M' H', Same I I' → Ok K I' F M' H' → IsA K I' vs xs → P xs M' → Q vs H') → t σ H Q
structure Cn (I F : Hp) (D : Ends) (N : DEnds) : Prop where
  nx : ∀ I' σ' ρ' M' H', Same I I' → Sl K I' σ' ρ' → Ok K I' F M' H' → N.nx ρ' M' → D.nx σ' H'
  rt : ∀ v x I' M' H', Same I I' → Ok K I' F M' H' → Is K I' v x → N.rt x M' → D.rt v H'
  bk : ∀ I' σ' ρ' M' H', Same I I' → Sl K I' σ' ρ' → Ok K I' F M' H' → N.bk ρ' M' → D.bk σ' H'
  ct : ∀ I' σ' ρ' M' H', Same I I' → Sl K I' σ' ρ' → Ok K I' F M' H' → N.ct ρ' M' → D.ct σ' H'
def RS (t : TS) (d : DS) : Prop := ∀ (I F : Hp) (σ : L2.St) (ρ : Rho) (M : MS) (H : Hp) (D : Ends) (N : DEnds), Sl K I σ ρ → Ok K I F M H → d N ρ M → Cn K I F D N → t D σ H
end
section
variable {K : PySem.W.Frag} {I I' F : Hp} {D : Ends} {N : DEnds}
theorem Cn.mono (c : Cn K I F D N) (e : Same I I') : Cn K I' F D N :=
  ⟨fun I2 σ ρ M H s => c.nx I2 σ ρ M H (e.trans s), fun v x I2 M H s => c.rt v x I2 M H (e.trans s), fun I2 σ ρ M H s => c.bk I2 σ ρ M H (e.trans s), fun I2 σ ρ M H s => c.ct I2 σ ρ M H (e.trans s)⟩
end
structure PEd (X : Cx) (e : Expr) (d : DE) : Prop where
  ex : ∃ t, PE X e t ∧ RE X.K t d
structure PTd (X : Cx) (e : Expr) (d : DT) : Prop where
  ex : ∃ t, PT X e t ∧ RT X.K t d
structure PWd (X : Cx) (e : Expr) (d : DT) : Prop where
  ex : ∃ t, PW X e t ∧ RT X.K t d
structure PAd (X : Cx) (es : List Expr) (d : DA) : Prop where
  ex : ∃ t, PA X es t ∧ RA X.K t d
structure PSd (X : Cx) (st : Stmt) (d : DS) : Prop where
  ex : ∃ t, PS X st t ∧ RS X.K t d
structure PSsd (X : Cx) (st : List Stmt) (d : DS) : Prop where
  ex : ∃ t, PSs X st t ∧ RS X.K t d

/-! ### promises of data -/
abbrev DSp := List Dt → MS → PD → Prop
def spD (K : PySem.W.Frag) (S : DSp) : Sp := fun vs H Q _ => ∃ (I F : Hp) (M : MS) (ds : List Dt) (P : PD), Ok K I F M H ∧ IsA K I vs ds ∧ S ds M P ∧ ∀ v x I' M' H', Same I I' → Ok K I' F M' H' → Is K I' v x → P x M' → Q v H'
section
variable {P : Program} {w : World} {K : PySem.W.Frag} {mg : Str → Option Value} {base : Heap}
/-- the context of a def's body -/
abbrev cxD (P : Program) (w : World) (K : PySem.W.Frag) (mg : Str → Option Value) (base : Heap) (N : List Str) (qual : Str) (st : Stmt) (f : Addr) (cdv : Value) (A : Around) (outer : List Env) (s : Shared) (H : Hp) (E : XK) : Cx :=
  (cxOf CX0 P w K mg base N qual (defScope st) f cdv A outer s H E).nox
/-- a def's promise by its body -/
theorem fnD {x qual : Str} {st : Stmt} {f : Addr} {fd : FuncData} {N ps : List Str} {k : Nat} {S : DSp} (F : Fun K x qual st f fd) (sc : FnScope N ps (defScope st)) (len : ∀ ds M P, S ds M P → ds.length = ps.length)
    (body : ∀ (cdv : Value) (A : Around) (outer : List Env) (s : Shared) (H : Hp) (E : XK), Room k (A.deeper (envOfC qual (defScope st) s.heap.objs.size f cdv)) →
      ∃ d, PSsd (cxD P w K mg base N qual st f cdv A outer s H E) (defBody st) d ∧ ∀ ds M Pd, S ds M Pd → d { nx := fun _ M' => Pd .non M', rt := Pd } (startD N ds) M) :
    FnOk P w K mg base CX0 (k + 1) f fd ps (spD K S) := by
  refine F.ok sc (fun vs H Q E h => ?_) (fun cdv A outer s H vs Q E hr h => ?_)
  · obtain ⟨I, F, M, ds, P, _, ha, hs, _⟩ := h
    rw [ha.len]
    exact len _ _ _ hs
  · obtain ⟨I, F, M, ds, Pd, ho, ha, hs, hq⟩ := h
    obtain ⟨d, ⟨t, h1, h2⟩, h3⟩ := body cdv A outer s H E hr
    refine ⟨t, h1, ?_⟩
    exact h2 I F _ _ M H _ _ (Sl.start ha) ho (h3 ds M Pd hs) ⟨fun I' σ' ρ' M' H' s _ o q => hq .non .non I' M' H' s o .non q, fun v x I' M' H' s o i q => hq v x I' M' H' s o i q, fun _ _ _ _ _ _ _ _ q => q.elim, fun _ _ _ _ _ _ _ _ q => q.elim⟩
end
end DL

/-! DL2: the rules of expressions and statements, with their readings of data. -/
namespace DL
open PySem PySem.Spec PyProof.Rows L2

theorem Is.int_inv {K : PySem.W.Frag} {I : Hp} {v : V} {i : Int} (h : Is K I v (.int i)) : v = .int i := by cases h; rfl
theorem Is.bl_inv {K : PySem.W.Frag} {I : Hp} {v : V} {i : Bool} (h : Is K I v (.bl i)) : v = .bl i := by cases h; rfl
theorem Is.str_inv {K : PySem.W.Frag} {I : Hp} {v : V} {i : Str} (h : Is K I v (.str i)) : v = .str i := by cases h; rfl
theorem Is.non_inv {K : PySem.W.Frag} {I : Hp} {v : V} (h : Is K I v .non) : v = .non := by cases h; rfl
theorem Is.ty_inv {K : PySem.W.Frag} {I : Hp} {v : V} {n : String} (h : Is K I v (.ty n)) : v = .ty n := by cases h; rfl
theorem Is.adr_inv {K : PySem.W.Frag} {I : Hp} {v : V} {a : Addr} (h : Is K I v (.adr a)) : v = .ref a := by cases h; rfl

/-- a list that is read: it never changes, or it stands as it is now -/
def rdL (M : MS) : Dt → Option (List Dt)
  | .lst ds => some ds
  | .adr p => match M p with
    | some (.lst ds) => some ds
    | _ => none
  | _ => none
def rdT : Dt → Option (List Dt)
  | .tup ds => some ds
  | _ => none
section
variable {K : PySem.W.Frag} {I F H : Hp} {M : MS} {v : V} {x : Dt} {ds : List Dt}
theorem rdL_is (o : Ok K I F M H) (h : Is K I v x) (e : rdL M x = some ds) : ∃ a vs, v = .ref a ∧ H a = some (.lst vs) ∧ IsA K I vs ds := by
  cases h with
  | lst hi ha =>
    cases e
    exact ⟨_, _, rfl, o.i _ _ hi, ha⟩
  | adr p =>
    simp only [rdL] at e
    cases q : M p with
    | none => rw [q] at e; cases e
    | some u =>
      rw [q] at e
      cases u with
      | lst es =>
        cases e
        obtain ⟨vs, h1, h2⟩ := o.m p _ q
        exact ⟨p, vs, rfl, h1, h2⟩
      | deck => cases e
      | ins _ _ _ => cases e
      | raw _ => cases e
  | _ => cases e
theorem squ_up (o : Ok K I F M H) {a : Addr} {xs : List V} (h : SqU K I a xs) : SqU K H a xs := h.up fun b u e => o.i b u e
theorem sqt_up (o : Ok K I F M H) {a : Addr} {xs : List V} (h : SqU K I a xs) : SqT K H a xs := (squ_up o h).t
theorem sql_up (o : Ok K I F M H) {a : Addr} {xs : List V} (h : SqL K I a xs) : SqL K H a xs := L2.Same.seq (fun b u e => o.i b u e) h
end

/-! ### names, constants -/
def dVar (i : Nat) : DE := fun ρ M P => match ρ[i]? with
  | some (some d) => P d M
  | _ => False
def dC (d : Dt) : DE := fun _ M P => P d M
section
variable {X : Cx} {pos : Pos}
theorem e_var (i : Nat) {x : Str} (hN : X.N[i]? = some x := by rfl) (hv : Vis X.env.scope x := by first | exact Or.inl rfl | exact Or.inr (Or.inl rfl) | exact Or.inr (Or.inr rfl)) (hd : (x == ("__debug__" : Str)) = false := by decide)
    (hcd : (x == ("__classdict__" : Str)) = false := by decide) : PEd X (.Name x pos) (dVar i) :=
  ⟨_, pe_var hN hv hd hcd, fun I F σ ρ M H Q P sl ok hd hq => by
    unfold dVar at hd
    cases e : ρ[i]? with
    | none => rw [e] at hd; exact hd.elim
    | some o =>
      cases o with
      | none => rw [e] at hd; exact hd.elim
      | some d =>
        rw [e] at hd
        obtain ⟨v, e1, e2⟩ := sl.2 i d e
        exact ⟨v, e1, hq v d I M H (Same.refl I) ok e2 hd⟩⟩
theorem re_c {K : PySem.W.Frag} {v : V} {d : Dt} (h : ∀ I : Hp, Is K I v d) : RE K (tC v) (dC d) := fun I F σ ρ M H Q P sl ok hd hq => hq v d I M H (Same.refl I) ok (h I) hd
theorem e_int {i : Int} {j} : PEd X (.Constant (.int i) j pos) (dC (.int i)) := ⟨_, pe_int, re_c fun _ => .int i⟩
theorem e_bl {b : Bool} {j} : PEd X (.Constant (.bool b) j pos) (dC (.bl b)) := ⟨_, pe_bl, re_c fun _ => .bl b⟩
theorem e_non {j} : PEd X (.Constant .none j pos) (dC .non) := ⟨_, pe_non, re_c fun _ => .non⟩
theorem e_str {x : Str} {j} : PEd X (.Constant (.str x) j pos) (dC (.str x)) := ⟨_, pe_str, re_c fun _ => .str x⟩
/-- a constant of the module -/
theorem e_glob {x : Str} {v : V} {u : Value} {d : Dt} (hg : Gl X x) (hm : X.mg x = some u) (r : RelV v u) (hi : ∀ I : Hp, Is X.K I v d) (hd : (x == ("__debug__" : Str)) = false := by decide) : PEd X (.Name x pos) (dC d) :=
  ⟨_, pe_glob hg hm r hd, re_c hi⟩
theorem e_bltn {x : Str} {n : String} (hg : Gl X x) (hm : X.mg x = none) (hv : bootBuiltins x = some (.type n)) (hn : x ≠ "__name__" := by decide) (hd : (x == ("__debug__" : Str)) = false := by decide) : PEd X (.Name x pos) (dC (.ty n)) :=
  ⟨_, pe_bltn (v := .ty n) hg hm hv rfl hn hd, re_c fun _ => .ty n⟩
end

/-! ### operations on values -/
abbrev D2 := Dt → Dt → MS → PD → Prop
abbrev D1 := Dt → MS → PD → Prop
abbrev DL := List Dt → MS → PD → Prop
def RR (K : PySem.W.Frag) (r : R2) (d : D2) : Prop := ∀ (I F H : Hp) (M : MS) (v u : V) (x y : Dt) (Q : VK) (P : PD), Ok K I F M H → Is K I v x → Is K I u y → d x y M P →
  (∀ w z I' M' H', Same I I' → Ok K I' F M' H' → Is K I' w z → P z M' → Q w H') → r v u H Q
def RU1 (K : PySem.W.Frag) (r : V → Hp → VK → Prop) (d : D1) : Prop := ∀ (I F H : Hp) (M : MS) (v : V) (x : Dt) (Q : VK) (P : PD), Ok K I F M H → Is K I v x → d x M P →
  (∀ w z I' M' H', Same I I' → Ok K I' F M' H' → Is K I' w z → P z M' → Q w H') → r v H Q
def RL (K : PySem.W.Frag) (r : List V → Hp → VK → Prop) (d : DL) : Prop := ∀ (I F H : Hp) (M : MS) (vs : List V) (xs : List Dt) (Q : VK) (P : PD), Ok K I F M H → IsA K I vs xs → d xs M P →
  (∀ w z I' M' H', Same I I' → Ok K I' F M' H' → Is K I' w z → P z M' → Q w H') → r vs H Q
def dOp (dr : D2) (da db : DE) : DE := fun ρ M P => da ρ M fun x M1 => db ρ M1 fun y M2 => dr x y M2 P
def dUn (dr : D1) (da : DE) : DE := fun ρ M P => da ρ M fun x M1 => dr x M1 P
section
variable {K : PySem.W.Frag}
theorem re_op {r : R2} {dr : D2} {ta tb : TE} {da db : DE} (hr : RR K r dr) (ha : RE K ta da) (hb : RE K tb db) : RE K (tOp r ta tb) (dOp dr da db) := fun I F σ ρ M H Q P sl ok hd hq =>
  ha I F σ ρ M H _ _ sl ok hd fun v x I1 M1 H1 s1 o1 i1 h1 => hb I1 F σ ρ M1 H1 _ _ (sl.mono s1) o1 h1 fun u y I2 M2 H2 s2 o2 i2 h2 =>
    hr I2 F H2 M2 v u x y Q P o2 (i1.mono s2) i2 h2 fun w z I3 M3 H3 s3 o3 i3 h3 => hq w z I3 M3 H3 ((s1.trans s2).trans s3) o3 i3 h3
theorem re_un {r : V → Hp → VK → Prop} {dr : D1} {ta : TE} {da : DE} (hr : RU1 K r dr) (ha : RE K ta da) : RE K (tUn r ta) (dUn dr da) := fun I F σ ρ M H Q P sl ok hd hq =>
  ha I F σ ρ M H _ _ sl ok hd fun v x I1 M1 H1 s1 o1 i1 h1 => hr I1 F H1 M1 v x Q P o1 i1 h1 fun w z I3 M3 H3 s3 o3 i3 h3 => hq w z I3 M3 H3 (s1.trans s3) o3 i3 h3
theorem RR.or {r r' : R2} {d d' : D2} {dd : D2} (h : RR K r d) (h' : RR K r' d') (c : ∀ x y M P, dd x y M P → d x y M P ∨ d' x y M P) : RR K (fun x y H Q => r x y H Q ∨ r' x y H Q) dd := fun I F H M v u x y Q P o i1 i2 hd hq => by
  rcases c x y M P hd with q | q
  · exact .inl (h I F H M v u x y Q P o i1 i2 q hq)
  · exact .inr (h' I F H M v u x y Q P o i1 i2 q hq)
/-- a scalar answer -/
theorem RR.of {r : R2} {d : D2} (h : ∀ (I F H : Hp) (M : MS) (v u : V) (x y : Dt) (P : PD), Ok K I F M H → Is K I v x → Is K I u y → d x y M P → ∃ w z, Is K I w z ∧ P z M ∧ ∀ Q : VK, Q w H → r v u H Q) : RR K r d := fun I F H M v u x y Q P o i1 i2 hd hq => by
  obtain ⟨w, z, a, b, c⟩ := h I F H M v u x y P o i1 i2 hd
  exact c Q (hq w z I M H (Same.refl I) o a b)
end
structure Op2 (X : Cx) (f : Value → Value → Sem Value) (d : D2) : Prop where
  ex : ∃ r, OpR X f r ∧ RR X.K r d
structure Op1 (X : Cx) (f : Value → Sem Value) (d : D1) : Prop where
  ex : ∃ r, UnR X f r ∧ RU1 X.K r d
structure OpL (X : Cx) (f : Value) (d : DL) : Prop where
  ex : ∃ r, CallR X f r ∧ RL X.K r d
section
variable {X : Cx} {a b c : Expr} {da db dc : DE} {pos : Pos} {dr dr' : D2}
theorem e_op {op : Operator} (h : Op2 X (binaryOp op) dr) (ha : PEd X a da) (hb : PEd X b db) : PEd X (.BinOp a op b pos) (dOp dr da db) := by
  obtain ⟨r, h1, h2⟩ := h
  obtain ⟨ta, a1, a2⟩ := ha
  obtain ⟨tb, b1, b2⟩ := hb
  exact ⟨_, pe_op h1 a1 b1, re_op h2 a2 b2⟩
theorem e_un {op : UnaryOp} {d1 : D1} (h : Op1 X (unaryOp op) d1) (ha : PEd X a da) : PEd X (.UnaryOp op a pos) (dUn d1 da) := by
  obtain ⟨r, h1, h2⟩ := h
  obtain ⟨ta, a1, a2⟩ := ha
  exact ⟨_, pe_un h1 a1, re_un h2 a2⟩
theorem e_cmp {op : CmpOp} (h : Op2 X (compareOp op) dr) (ha : PEd X a da) (hb : PEd X b db) (hm : behindInMarks op b = false := by first | exact nomark _ | rfl) : PEd X (.Compare a [op] [b] pos) (dOp dr da db) := by
  obtain ⟨r, h1, h2⟩ := h
  obtain ⟨ta, a1, a2⟩ := ha
  obtain ⟨tb, b1, b2⟩ := hb
  exact ⟨_, pe_cmpR h1 a1 b1 hm, re_op h2 a2 b2⟩
end

/-! ### tests -/
/-- a value that is True or False -/
def dTest (d : DE) : DT := fun ρ M P => d ρ M fun x M' => match x with
  | .bl k => P k M'
  | _ => False
theorem rt_test {K : PySem.W.Frag} {t : TE} {d : DE} (h : RE K t d) : RT K (tTest t) (dTest d) := fun I F σ ρ M H Q P sl ok hd hq =>
  h I F σ ρ M H _ _ sl ok hd fun v x I1 M1 H1 s1 o1 i1 h1 => by
    cases i1 with
    | bl k => exact ⟨k, rfl, hq k I1 M1 H1 s1 o1 h1⟩
    | _ => exact (show False from h1).elim
/-- truth -/
def dTru (d : DE) : DT := fun ρ M P => d ρ M fun x M' => match x with
  | .non => P false M'
  | .bl k => P k M'
  | .int i => P (i != 0) M'
  | .str y => y.length ≤ sizeLine ∧ P ((y.length : Int) != 0) M'
  | .tup ds => P (!ds.isEmpty) M'
  | x => match rdL M' x with
    | some ds => P (!ds.isEmpty) M'
    | none => False
theorem isEmpty_is {K : PySem.W.Frag} {I : Hp} {vs : List V} {ds : List Dt} (h : IsA K I vs ds) : vs.isEmpty = ds.isEmpty := by cases h <;> rfl
theorem rt_tru {K : PySem.W.Frag} {t : TE} {d : DE} (h : RE K t d) : RT K (fun σ H Q => t σ H fun x H' => ∃ k, TruV K x H' k ∧ Q k H') (dTru d) := fun I F σ ρ M H Q P sl ok hd hq =>
  h I F σ ρ M H _ _ sl ok hd fun v x I1 M1 H1 s1 o1 i1 h1 => by
    have lists : ∀ ds, rdL M1 x = some ds → P (!ds.isEmpty) M1 → ∃ k, TruV K v H1 k ∧ Q k H1 := fun ds e p => by
      obtain ⟨a, vs, rfl, h2, h3⟩ := rdL_is o1 i1 e
      refine ⟨!vs.isEmpty, .inl ⟨vs, .inl (.inl h2), rfl⟩, ?_⟩
      rw [isEmpty_is h3]
      exact hq _ I1 M1 H1 s1 o1 p
    cases i1 with
    | non => exact ⟨_, rfl, hq _ I1 M1 H1 s1 o1 h1⟩
    | bl k => exact ⟨_, rfl, hq _ I1 M1 H1 s1 o1 h1⟩
    | int i => exact ⟨_, rfl, hq _ I1 M1 H1 s1 o1 h1⟩
    | str y => exact ⟨_, ⟨h1.1, rfl⟩, hq _ I1 M1 H1 s1 o1 h1.2⟩
    | @tup a vs ds e ha =>
      refine ⟨!vs.isEmpty, .inr (.inl ⟨vs, sqt_up o1 e, rfl⟩), ?_⟩
      rw [isEmpty_is ha]
      exact hq _ I1 M1 H1 s1 o1 h1
    | @lst a vs ds e ha => exact lists ds rfl h1
    | adr p =>
      have h1' : match rdL M1 (.adr p) with
        | some ds => P (!ds.isEmpty) M1
        | none => False := h1
      cases e : rdL M1 (.adr p) with
      | none => rw [e] at h1'; exact h1'.elim
      | some ds => rw [e] at h1'; exact lists ds e h1'
    | obj _ _ => exact (show False from h1).elim
    | scr _ => exact (show False from h1).elim
    | ty _ => exact (show False from h1).elim
def dAnd (t u : DT) : DT := fun ρ M P => t ρ M fun c M1 => if c = true then u ρ M1 P else P false M1
def dOr (t u : DT) : DT := fun ρ M P => t ρ M fun c M1 => if c = true then P true M1 else u ρ M1 P
def dNot (t : DT) : DT := fun ρ M P => t ρ M fun c M1 => P (!c) M1
/-- as values -/
def dAndV (a b : DE) : DE := fun ρ M P => a ρ M fun x M1 => match x with
  | .bl c => if c = true then b ρ M1 P else P (.bl false) M1
  | _ => False
def dOrV (a b : DE) : DE := fun ρ M P => a ρ M fun x M1 => match x with
  | .bl c => if c = true then P (.bl true) M1 else b ρ M1 P
  | _ => False
def dNotV (a : DE) : DE := fun ρ M P => a ρ M fun x M1 => match x with
  | .bl c => P (.bl (!c)) M1
  | _ => False
def dIf (t : DT) (a b : DE) : DE := fun ρ M P => t ρ M fun c M1 => if c = true then a ρ M1 P else b ρ M1 P
section
variable {X : Cx} {a b c : Expr} {da db dc : DE} {ta tb : DT} {pos : Pos} {dr dr' : D2} {rest : List Expr}
theorem t_cmp {op : CmpOp} (h : Op2 X (compareOp op) dr) (ha : PEd X a da) (hb : PEd X b db) (hm : behindInMarks op b = false := by first | exact nomark _ | rfl) : PTd X (.Compare a [op] [b] pos) (dTest (dOp dr da db)) := by
  obtain ⟨r, h1, h2⟩ := h
  obtain ⟨ta, a1, a2⟩ := ha
  obtain ⟨tb, b1, b2⟩ := hb
  exact ⟨_, pt_cmpR h1 a1 b1 hm, rt_test (re_op h2 a2 b2)⟩
theorem t_tru (ha : PEd X a da) (he : ∀ whole, isTrue a X.env whole = (do let v ← whole; standAt a.pos; holding [v] (truthy v)) := by intro _; rfl) : PTd X a (dTru da) := by
  obtain ⟨t, a1, a2⟩ := ha
  exact ⟨_, pt_truth a1 he, rt_tru a2⟩
theorem rt_and {K : PySem.W.Frag} {t u : TT} {dt du : DT} (h : RT K t dt) (h' : RT K u du) : RT K (tAnd t u) (dAnd dt du) := fun I F σ ρ M H Q P sl ok hd hq =>
  h I F σ ρ M H _ _ sl ok hd fun b I1 M1 H1 s1 o1 h1 => by
    cases b with
    | true =>
      rw [if_pos rfl] at h1 ⊢
      exact h' I1 F σ ρ M1 H1 Q P (sl.mono s1) o1 h1 fun b2 I2 M2 H2 s2 o2 h2 => hq b2 I2 M2 H2 (s1.trans s2) o2 h2
    | false =>
      rw [if_neg Bool.false_ne_true] at h1 ⊢
      exact hq false I1 M1 H1 s1 o1 h1
theorem rt_or {K : PySem.W.Frag} {t u : TT} {dt du : DT} (h : RT K t dt) (h' : RT K u du) : RT K (tOr t u) (dOr dt du) := fun I F σ ρ M H Q P sl ok hd hq =>
  h I F σ ρ M H _ _ sl ok hd fun b I1 M1 H1 s1 o1 h1 => by
    cases b with
    | true =>
      rw [if_pos rfl] at h1 ⊢
      exact hq true I1 M1 H1 s1 o1 h1
    | false =>
      rw [if_neg Bool.false_ne_true] at h1 ⊢
      exact h' I1 F σ ρ M1 H1 Q P (sl.mono s1) o1 h1 fun b2 I2 M2 H2 s2 o2 h2 => hq b2 I2 M2 H2 (s1.trans s2) o2 h2
theorem w_and1 (ha : PTd X a ta) : PWd X (.BoolOp .And [a] pos) ta := let ⟨_, h1, h2⟩ := ha.ex; ⟨_, pw_and1 h1, h2⟩
theorem w_or1 (ha : PTd X a ta) : PWd X (.BoolOp .Or [a] pos) ta := let ⟨_, h1, h2⟩ := ha.ex; ⟨_, pw_or1 h1, h2⟩
theorem w_and (ha : PTd X a ta) (hb : PWd X (.BoolOp .And (b :: rest) pos) tb) : PWd X (.BoolOp .And (a :: b :: rest) pos) (dAnd ta tb) := let ⟨_, h1, h2⟩ := ha.ex; let ⟨_, k1, k2⟩ := hb.ex; ⟨_, pw_and h1 k1, rt_and h2 k2⟩
theorem w_or (ha : PTd X a ta) (hb : PWd X (.BoolOp .Or (b :: rest) pos) tb) : PWd X (.BoolOp .Or (a :: b :: rest) pos) (dOr ta tb) := let ⟨_, h1, h2⟩ := ha.ex; let ⟨_, k1, k2⟩ := hb.ex; ⟨_, pw_or h1 k1, rt_or h2 k2⟩
theorem t_w (h : PWd X a ta) : PTd X a ta := let ⟨_, h1, h2⟩ := h.ex; ⟨_, h1.pt, h2⟩
theorem t_not (ha : PTd X a ta) : PTd X (.UnaryOp .Not a pos) (dNot ta) := let ⟨_, h1, h2⟩ := ha.ex; ⟨_, pt_not h1, fun I F σ ρ M H Q P sl ok hd hq => h2 I F σ ρ M H _ _ sl ok hd fun b I1 M1 H1 s1 o1 p => hq (!b) I1 M1 H1 s1 o1 p⟩
theorem e_one {op} (h : PEd X a da) : PEd X (.BoolOp op [a] pos) da := let ⟨_, h1, h2⟩ := h.ex; ⟨_, pe_one h1, h2⟩
theorem e_and (ha : PEd X a da) (hb : PEd X (.BoolOp .And (b :: rest) pos) db) : PEd X (.BoolOp .And (a :: b :: rest) pos) (dAndV da db) := let ⟨_, h1, h2⟩ := ha.ex; let ⟨_, k1, k2⟩ := hb.ex; ⟨_, pe_and h1 k1, fun I F σ ρ M H Q P sl ok hd hq =>
  h2 I F σ ρ M H _ _ sl ok hd fun v x I1 M1 H1 s1 o1 i1 p => by
    cases i1 with
    | bl k =>
      refine ⟨k, rfl, ?_⟩
      cases k with
      | true =>
        have p : db ρ M1 P := p
        rw [if_pos rfl]
        exact k2 I1 F σ ρ M1 H1 Q P (sl.mono s1) o1 p fun v x I2 M2 H2 s2 o2 i2 q => hq v x I2 M2 H2 (s1.trans s2) o2 i2 q
      | false =>
        have p : P (.bl false) M1 := p
        rw [if_neg Bool.false_ne_true]
        exact hq _ _ I1 M1 H1 s1 o1 (.bl false) p
    | _ => exact (show False from p).elim⟩
theorem e_or (ha : PEd X a da) (hb : PEd X (.BoolOp .Or (b :: rest) pos) db) : PEd X (.BoolOp .Or (a :: b :: rest) pos) (dOrV da db) := let ⟨_, h1, h2⟩ := ha.ex; let ⟨_, k1, k2⟩ := hb.ex; ⟨_, pe_or h1 k1, fun I F σ ρ M H Q P sl ok hd hq =>
  h2 I F σ ρ M H _ _ sl ok hd fun v x I1 M1 H1 s1 o1 i1 p => by
    cases i1 with
    | bl k =>
      refine ⟨k, rfl, ?_⟩
      cases k with
      | false =>
        have p : db ρ M1 P := p
        rw [if_neg Bool.false_ne_true]
        exact k2 I1 F σ ρ M1 H1 Q P (sl.mono s1) o1 p fun v x I2 M2 H2 s2 o2 i2 q => hq v x I2 M2 H2 (s1.trans s2) o2 i2 q
      | true =>
        have p : P (.bl true) M1 := p
        rw [if_pos rfl]
        exact hq _ _ I1 M1 H1 s1 o1 (.bl true) p
    | _ => exact (show False from p).elim⟩
theorem e_not (ha : PEd X a da) : PEd X (.UnaryOp .Not a pos) (dNotV da) := let ⟨_, h1, h2⟩ := ha.ex; ⟨_, pe_not h1, fun I F σ ρ M H Q P sl ok hd hq =>
  h2 I F σ ρ M H _ _ sl ok hd fun v x I1 M1 H1 s1 o1 i1 p => by
    cases i1 with
    | bl k => exact ⟨k, rfl, hq _ _ I1 M1 H1 s1 o1 (.bl (!k)) p⟩
    | _ => exact (show False from p).elim⟩
theorem e_if {c : Expr} (hc : PTd X c ta) (ha : PEd X a da) (hb : PEd X b db) : PEd X (.IfExp c a b pos) (dIf ta da db) := let ⟨_, h1, h2⟩ := hc.ex; let ⟨_, a1, a2⟩ := ha.ex; let ⟨_, b1, b2⟩ := hb.ex; ⟨_, pe_ifExp h1 a1 b1, fun I F σ ρ M H Q P sl ok hd hq =>
  h2 I F σ ρ M H _ _ sl ok hd fun k I1 M1 H1 s1 o1 p => by
    cases k with
    | true =>
      rw [if_pos rfl] at p ⊢
      exact a2 I1 F σ ρ M1 H1 Q P (sl.mono s1) o1 p fun v x I2 M2 H2 s2 o2 i2 q => hq v x I2 M2 H2 (s1.trans s2) o2 i2 q
    | false =>
      rw [if_neg Bool.false_ne_true] at p ⊢
      exact b2 I1 F σ ρ M1 H1 Q P (sl.mono s1) o1 p fun v x I2 M2 H2 s2 o2 i2 q => hq v x I2 M2 H2 (s1.trans s2) o2 i2 q⟩
end

/-! ### argument lists, displays -/
def dNil : DA := fun _ M P => P [] M
def dCons (d : DE) (r : DA) : DA := fun ρ M P => d ρ M fun x M1 => r ρ M1 fun xs M2 => P (x :: xs) M2
def dTup (a : DA) : DE := fun ρ M P => a ρ M fun xs M1 => xs.length ≤ sizeLine ∧ P (.tup xs) M1
/-- a list that never changes -/
def dLst (a : DA) : DE := fun ρ M P => a ρ M fun xs M1 => xs.length ≤ sizeLine ∧ P (.lst xs) M1
/-- a list that may change -/
def dLstM (a : DA) : DE := fun ρ M P => a ρ M fun xs M1 => xs.length ≤ sizeLine ∧ ∀ p, M1 p = none → P (.adr p) (updM M1 p (.lst xs))
section
variable {X : Cx} {e : Expr} {es : List Expr} {de : DE} {d : DA} {pos : Pos}
theorem a_nil : PAd X [] dNil := ⟨_, pa_nil, fun I F σ ρ M H Q P sl ok hd hq => hq [] [] I M H (Same.refl I) ok .nil hd⟩
theorem a_cons (ha : PEd X e de) (hr : PAd X es d) (hs : starEach (e :: es) X.env = (false, eval e X.env) :: starEach es X.env := by rfl) : PAd X (e :: es) (dCons de d) := let ⟨_, h1, h2⟩ := ha.ex; let ⟨_, k1, k2⟩ := hr.ex; ⟨_, pa_cons h1 k1 hs, fun I F σ ρ M H Q P sl ok hd hq =>
  h2 I F σ ρ M H _ _ sl ok hd fun v x I1 M1 H1 s1 o1 i1 p => k2 I1 F σ ρ M1 H1 _ _ (sl.mono s1) o1 p fun vs xs I2 M2 H2 s2 o2 i2 q => hq (v :: vs) (x :: xs) I2 M2 H2 (s1.trans s2) o2 (.cons (i1.mono s2) i2) q⟩
theorem e_tup {x1} (h : PAd X es d) : PEd X (.Tuple es x1 pos) (dTup d) := let ⟨_, h1, h2⟩ := h.ex; ⟨_, pe_tup h1, fun I F σ ρ M H Q P sl ok hd hq =>
  h2 I F σ ρ M H _ _ sl ok hd fun vs xs I1 M1 H1 s1 o1 i1 p => ⟨by rw [i1.len]; exact p.1, fun a ha => by
    have s2 : Same I1 (upd I1 a (.tup vs)) := same_new (o1.fresh ha).1
    exact hq (.ref a) (.tup xs) _ M1 _ (s1.trans s2) (o1.newI ha) (.tup (.inl upd_same) (i1.mono s2)) p.2⟩⟩
theorem e_lst (h : PAd X es d) : PEd X (.List es pos) (dLst d) := let ⟨_, h1, h2⟩ := h.ex; ⟨_, pe_lst h1, fun I F σ ρ M H Q P sl ok hd hq =>
  h2 I F σ ρ M H _ _ sl ok hd fun vs xs I1 M1 H1 s1 o1 i1 p => ⟨by rw [i1.len]; exact p.1, fun a ha => by
    have s2 : Same I1 (upd I1 a (.lst vs)) := same_new (o1.fresh ha).1
    exact hq (.ref a) (.lst xs) _ M1 _ (s1.trans s2) (o1.newI ha) (.lst upd_same (i1.mono s2)) p.2⟩⟩
theorem e_lstM (h : PAd X es d) : PEd X (.List es pos) (dLstM d) := let ⟨_, h1, h2⟩ := h.ex; ⟨_, pe_lst h1, fun I F σ ρ M H Q P sl ok hd hq =>
  h2 I F σ ρ M H _ _ sl ok hd fun vs xs I1 M1 H1 s1 o1 i1 p => ⟨by rw [i1.len]; exact p.1, fun a ha => by
    exact hq (.ref a) (.adr a) I1 _ _ s1 (o1.newM (u := .lst xs) ha ⟨vs, upd_same, i1⟩) (.adr a) (p.2 a (o1.fresh ha).2.2)⟩⟩
end

/-! ### calls -/
def dCall (S : DSp) (a : DA) : DE := fun ρ M P => a ρ M fun xs M1 => S xs M1 P
def dCB (r : DL) (a : DA) : DE := fun ρ M P => a ρ M fun xs M1 => r xs M1 P
section
variable {X : Cx} {CX : CXT} {k : Nat} {f : Addr} {fd : FuncData} {ps : List Str} {S : DSp} {ds : List Value} {x : Str} {p pos : Pos} {e : Expr} {es : List Expr} {d : DA}
theorem re_call {K : PySem.W.Frag} {E : XK} {t : TA} (h : RA K t d) : RE K (tCall (spD K S) [] E t) (dCall S d) := fun I F σ ρ M H Q P sl ok hd hq =>
  h I F σ ρ M H _ _ sl ok hd fun vs xs I1 M1 H1 s1 o1 i1 p => ⟨I1, F, M1, xs, P, o1, by rw [List.append_nil]; exact i1, p, fun v x I2 M2 H2 s2 o2 i2 q => hq v x I2 M2 H2 (s1.trans s2) o2 i2 q⟩
theorem e_call (G : FnOk X.prog X.w X.K X.mg X.base CX k f fd ps (spD X.K S)) (hr : Room k X.A) (hg : Gl X x) (hm : X.mg x = some (.ref f)) (hk : PySem.W.keepIn X.K (.ref f) = true) (hb : Binds X.K fd ps []) (hx : Passes CX X E0)
    (ha : PAd X (e :: es) d) (hdb : (x == ("__debug__" : Str)) = false := by decide) (he : starEach (e :: es) X.env = (false, eval e X.env) :: starEach es X.env := by rfl) (hpl : (backTo pos (starEach es X.env)).any (·.1) = false := by rfl) :
    PEd X (.Call (.Name x p) (e :: es) [] pos) (dCall S d) := let ⟨_, h1, h2⟩ := ha.ex; ⟨_, pe_call G hr hg hm hk hb .nil hx h1 hdb he hpl, re_call h2⟩
theorem e_callB {id : String} {r : DL} (hc : OpL X (.builtin id) r) (hg : Gl X x) (hm : X.mg x = none) (hv : bootBuiltins x = some (.builtin id)) (ha : PAd X (e :: es) d) (hn : x ≠ "__name__" := by decide) (hdb : (x == ("__debug__" : Str)) = false := by decide)
    (he : starEach (e :: es) X.env = (false, eval e X.env) :: starEach es X.env := by rfl) (hpl : (backTo pos (starEach es X.env)).any (·.1) = false := by rfl) : PEd X (.Call (.Name x p) (e :: es) [] pos) (dCB r d) := by
  obtain ⟨_, h1, h2⟩ := ha
  obtain ⟨r0, k1, k2⟩ := hc
  exact ⟨_, pe_callB k1 hg hm hv h1 hn hdb he hpl, fun I F σ ρ M H Q P sl ok hd hq => h2 I F σ ρ M H _ _ sl ok hd fun vs xs I1 M1 H1 s1 o1 i1 p => k2 I1 F H1 M1 vs xs Q P o1 i1 p fun w z I2 M2 H2 s2 o2 i2 q => hq w z I2 M2 H2 (s1.trans s2) o2 i2 q⟩
theorem e_callT {T : String} {r : DL} (hc : OpL X (.type T) r) (hg : Gl X x) (hm : X.mg x = none) (hv : bootBuiltins x = some (.type T)) (ha : PAd X (e :: es) d) (hn : x ≠ "__name__" := by decide) (hdb : (x == ("__debug__" : Str)) = false := by decide)
    (he : starEach (e :: es) X.env = (false, eval e X.env) :: starEach es X.env := by rfl) (hpl : (backTo pos (starEach es X.env)).any (·.1) = false := by rfl) : PEd X (.Call (.Name x p) (e :: es) [] pos) (dCB r d) := by
  obtain ⟨_, h1, h2⟩ := ha
  obtain ⟨r0, k1, k2⟩ := hc
  exact ⟨_, pe_callTy k1 hg hm hv h1 hn hdb he hpl, fun I F σ ρ M H Q P sl ok hd hq => h2 I F σ ρ M H _ _ sl ok hd fun vs xs I1 M1 H1 s1 o1 i1 p => k2 I1 F H1 M1 vs xs Q P o1 i1 p fun w z I2 M2 H2 s2 o2 i2 q => hq w z I2 M2 H2 (s1.trans s2) o2 i2 q⟩
end

/-! ### statements -/
def dNext : DS := fun N ρ M => N.nx ρ M
def dSeq (t u : DS) : DS := fun N ρ M => t { N with nx := fun ρ' M' => u N ρ' M' } ρ M
def dBreak : DS := fun N ρ M => N.bk ρ M
def dCont : DS := fun N ρ M => N.ct ρ M
def dDrop (d : DE) : DS := fun N ρ M => d ρ M fun _ M' => N.nx ρ M'
def dRet (d : DE) : DS := fun N ρ M => d ρ M N.rt
def dRetN : DS := fun N _ M => N.rt .non M
def dIfS (c : DT) (t u : DS) : DS := fun N ρ M => c ρ M fun b M1 => if b = true then t N ρ M1 else u N ρ M1
section
variable {X : Cx} {st : Stmt} {rest : List Stmt} {t u : DS} {e : Expr} {de : DE} {pos : Pos}
theorem ss_nil : PSsd X [] dNext := ⟨_, pss_nil, fun I F σ ρ M H D N sl ok hd c => c.nx I σ ρ M H (Same.refl I) sl ok hd⟩
theorem ss_cons (h1 : PSd X st t) (h2 : PSsd X rest u) : PSsd X (st :: rest) (dSeq t u) := let ⟨_, a1, a2⟩ := h1.ex; let ⟨_, b1, b2⟩ := h2.ex; ⟨_, pss_cons a1 b1, fun I F σ ρ M H D N sl ok hd c =>
  a2 I F σ ρ M H _ _ sl ok hd ⟨fun I' σ' ρ' M' H' s sl' o' q => b2 I' F σ' ρ' M' H' D N sl' o' q (c.mono s), c.rt, c.bk, c.ct⟩⟩
theorem ss_one (h1 : PSd X st t) : PSsd X [st] t := let ⟨_, a1, a2⟩ := h1.ex; ⟨_, pss_one a1, a2⟩
theorem st_pass : PSd X (.Pass pos) dNext := ⟨_, ps_pass, fun I F σ ρ M H D N sl ok hd c => c.nx I σ ρ M H (Same.refl I) sl ok hd⟩
theorem st_break : PSd X (.Break pos) dBreak := ⟨_, ps_break, fun I F σ ρ M H D N sl ok hd c => c.bk I σ ρ M H (Same.refl I) sl ok hd⟩
theorem st_continue : PSd X (.Continue pos) dCont := ⟨_, ps_continue, fun I F σ ρ M H D N sl ok hd c => c.ct I σ ρ M H (Same.refl I) sl ok hd⟩
theorem st_doc {x j pos pos'} : PSd X (.Expr (.Constant (.str x) j pos) pos') dNext := ⟨_, ps_doc, fun I F σ ρ M H D N sl ok hd c => c.nx I σ ρ M H (Same.refl I) sl ok hd⟩
theorem st_expr (he : PEd X e de) (hs : swapsWith e none pos.line X.env = pure false := by rfl) : PSd X (.Expr e pos) (dDrop de) := let ⟨_, a1, a2⟩ := he.ex; ⟨_, ps_expr a1 hs, fun I F σ ρ M H D N sl ok hd c =>
  a2 I F σ ρ M H _ _ sl ok hd fun v x I1 M1 H1 s1 o1 i1 p => c.nx I1 σ ρ M1 H1 s1 (sl.mono s1) o1 p⟩
theorem st_ret (he : PEd X e de) : PSd X (.Return (some e) pos) (dRet de) := let ⟨_, a1, a2⟩ := he.ex; ⟨_, ps_ret a1, fun I F σ ρ M H D N sl ok hd c =>
  a2 I F σ ρ M H _ _ sl ok hd fun v x I1 M1 H1 s1 o1 i1 p => c.rt v x I1 M1 H1 s1 o1 i1 p⟩
theorem st_retN : PSd X (.Return none pos) dRetN := ⟨_, ps_retN, fun I F σ ρ M H D N sl ok hd c => c.rt .non .non I M H (Same.refl I) ok .non hd⟩
theorem st_if {c : Expr} {a b : List Stmt} {tc : DT} (hc : PTd X c tc) (ha : PSsd X a t) (hb : PSsd X b u) : PSd X (.If c a b pos) (dIfS tc t u) := let ⟨_, c1, c2⟩ := hc.ex; let ⟨_, a1, a2⟩ := ha.ex; let ⟨_, b1, b2⟩ := hb.ex; ⟨_, ps_if c1 a1 b1, fun I F σ ρ M H D N sl ok hd c =>
  c2 I F σ ρ M H _ _ sl ok hd fun k I1 M1 H1 s1 o1 p => by
    cases k with
    | true =>
      rw [if_pos rfl] at p ⊢
      exact a2 I1 F σ ρ M1 H1 D N (sl.mono s1) o1 p (c.mono s1)
    | false =>
      rw [if_neg Bool.false_ne_true] at p ⊢
      exact b2 I1 F σ ρ M1 H1 D N (sl.mono s1) o1 p (c.mono s1)⟩
/-- the list at slot i changes no more -/
def dFrz (i : Nat) (u : DS) : DS := fun N ρ M => match ρ[i]? with
  | some (some (.adr p)) => match M p with
    | some (.lst ds) => u N (ρ.set i (some (.lst ds))) (del M p)
    | some (.ins C dx fs) => u N (ρ.set i (some (.obj C fs))) (del M p)
    | _ => False
  | _ => False
theorem ss_frz (i : Nat) {sts : List Stmt} (h : PSsd X sts u) : PSsd X sts (dFrz i u) := let ⟨_, a1, a2⟩ := h.ex; ⟨_, a1, fun I F σ ρ M H D N sl ok hd c => by
  unfold dFrz at hd
  split at hd
  · rename_i p e
    obtain ⟨v, e1, e2⟩ := sl.2 i _ e
    cases e2
    split at hd
    · rename_i ds em
      obtain ⟨vs, o', s', i'⟩ := ok.freeze em
      exact a2 _ F σ _ _ H D N ((sl.mono s').tell e1 i') o' hd (c.mono s')
    · rename_i C dx fs em
      obtain ⟨vs, o', s', i'⟩ := ok.freezeO em
      exact a2 _ F σ _ _ H D N ((sl.mono s').tell e1 i') o' hd (c.mono s')
    · exact hd.elim
  · exact hd.elim⟩
end

/-! ### targets -/
abbrev DG := Dt → Rho → MS → (Rho → MS → Prop) → Prop
abbrev DGs := List Dt → Rho → MS → (Rho → MS → Prop) → Prop
def RG (K : PySem.W.Frag) (g : TG) (d : DG) : Prop := ∀ (I F H : Hp) (M : MS) (σ : L2.St) (ρ : Rho) (v : V) (x : Dt) (R : L2.St → Hp → Prop) (P : Rho → MS → Prop), Sl K I σ ρ → Ok K I F M H → Is K I v x → d x ρ M P →
  (∀ I' σ' ρ' M' H', Same I I' → Sl K I' σ' ρ' → Ok K I' F M' H' → P ρ' M' → R σ' H') → g v σ H R
def RGs (K : PySem.W.Frag) (g : TGs) (d : DGs) : Prop := ∀ (I F H : Hp) (M : MS) (σ : L2.St) (ρ : Rho) (vs : List V) (xs : List Dt) (R : L2.St → Hp → Prop) (P : Rho → MS → Prop), Sl K I σ ρ → Ok K I F M H → IsA K I vs xs → d xs ρ M P →
  (∀ I' σ' ρ' M' H', Same I I' → Sl K I' σ' ρ' → Ok K I' F M' H' → P ρ' M' → R σ' H') → g vs σ H R
structure PGd (X : Cx) (tg : Expr) (d : DG) : Prop where
  ex : ∃ t, PG X tg t ∧ RG X.K t d
structure PGsd (X : Cx) (ts : List Expr) (d : DGs) : Prop where
  ex : ∃ t, PGs X ts t ∧ RGs X.K t d
def dgName (i : Nat) : DG := fun x ρ M P => P (ρ.set i (some x)) M
def dgNil : DGs := fun xs ρ M P => match xs with
  | [] => P ρ M
  | _ => False
def dgCons (g : DG) (r : DGs) : DGs := fun xs ρ M P => match xs with
  | x :: xs => g x ρ M fun ρ' M' => r xs ρ' M' P
  | _ => False
def dgTup (r : DGs) (n : Nat) : DG := fun x ρ M P => match x with
  | .tup xs => xs.length = n ∧ r xs ρ M P
  | _ => False
def dAsg (d : DE) (g : DG) : DS := fun N ρ M => d ρ M fun x M1 => g x ρ M1 N.nx
section
variable {X : Cx} {pos : Pos}
theorem rg_name {K : PySem.W.Frag} (i : Nat) : RG K (gName i) (dgName i) := fun I F H M σ ρ v x R P sl ok iv hd hq => hq I _ _ M H (Same.refl I) (sl.set iv i) ok hd
theorem g_name (i : Nat) {x : Str} (hN : X.N.Nodup) (hi : X.N[i]? = some x := by rfl) (hx : Loc X.env.scope x := by first | exact .inl rfl | exact .inr rfl) (hf : X.fn x = true ∨ X.env.scope.names.lookup x = some .local := by first | exact .inl rfl | exact .inr rfl | assumption) : PGd X (.Name x pos) (dgName i) := ⟨_, pg_name hN hi hx hf, rg_name i⟩
theorem gs_nil : PGsd X [] dgNil := ⟨_, pgs_nil, fun I F H M σ ρ vs xs R P sl ok iv hd hq => by
  cases iv with
  | nil => exact ⟨rfl, hq I σ ρ M H (Same.refl I) sl ok hd⟩
  | cons _ _ => exact (show False from hd).elim⟩
theorem gs_cons {e : Expr} {es : List Expr} {d : DG} {r : DGs} (h1 : PGd X e d) (h2 : PGsd X es r)
    (hs : (assignEach (e :: es) X.env).map (·.2) = assign e X.env :: (assignEach es X.env).map (·.2) := by rfl) : PGsd X (e :: es) (dgCons d r) := let ⟨_, a1, a2⟩ := h1.ex; let ⟨_, b1, b2⟩ := h2.ex; ⟨_, pgs_cons a1 b1 hs, fun I F H M σ ρ vs xs R P sl ok iv hd hq => by
  cases iv with
  | nil => exact (show False from hd).elim
  | cons h t => exact ⟨_, _, rfl, a2 I F H M σ ρ _ _ _ _ sl ok h hd fun I1 σ1 ρ1 M1 H1 s1 sl1 o1 p => b2 I1 F H1 M1 σ1 ρ1 _ _ _ _ sl1 o1 (t.mono s1) p fun I2 σ2 ρ2 M2 H2 s2 sl2 o2 q => hq I2 σ2 ρ2 M2 H2 (s1.trans s2) sl2 o2 q⟩⟩
theorem g_tup {es : List Expr} {k : Nat} {r : DGs} {n : Nat} (hc : X.calm = true) (h : PGsd X es r)
    (hn : (assignEach es X.env).length = n := by rfl) (hst : (assignEach es X.env).findIdx? (·.1) = none := by rfl) : PGd X (.Tuple es k pos) (dgTup r n) := let ⟨_, a1, a2⟩ := h.ex; ⟨_, pg_tup hc a1 hn hst, fun I F H M σ ρ v x R P sl ok iv hd hq => by
  cases iv with
  | @tup a vs ds e ha =>
    obtain ⟨h1, h2⟩ := (show _ ∧ _ from hd)
    exact ⟨a, vs, rfl, sqt_up ok e, by rw [ha.len]; exact h1, a2 I F H M σ ρ vs ds R P sl ok ha h2 hq⟩
  | _ => exact (show False from hd).elim⟩
theorem rs_asg {K : PySem.W.Frag} {te : TE} {g : TG} {d : DE} {dg : DG} (h : RE K te d) (hg : RG K g dg) : RS K (tAsg te g) (dAsg d dg) := fun I F σ ρ M H D N sl ok hd c =>
  h I F σ ρ M H _ _ sl ok hd fun v x I1 M1 H1 s1 o1 i1 p => hg I1 F H1 M1 σ ρ v x _ _ (sl.mono s1) o1 i1 p fun I2 σ2 ρ2 M2 H2 s2 sl2 o2 q => c.nx I2 σ2 ρ2 M2 H2 (s1.trans s2) sl2 o2 q
theorem st_asg {tg e : Expr} {d : DE} {dg : DG} (he : PEd X e d) (hg : PGd X tg dg) (hs : swapsWithSole [tg] e pos.line X.env = pure false := by rfl) (hw : swappedStores [tg] e X.env = pure none := by rfl)
    (h1 : (assignEach [tg] X.env).map (·.2) = [assign tg X.env] := by rfl) : PSd X (.Assign [tg] e pos) (dAsg d dg) := let ⟨_, a1, a2⟩ := he.ex; let ⟨_, b1, b2⟩ := hg.ex; ⟨_, ps_asg a1 b1 hs hw h1, rs_asg a2 b2⟩
/-- name = value -/
theorem st_set (i : Nat) {x : Str} {e : Expr} {d : DE} {pos' : Pos} (hN : X.N.Nodup) (he : PEd X e d) (hi : X.N[i]? = some x := by rfl) (hx : Loc X.env.scope x := by first | exact .inl rfl | exact .inr rfl) (hs : swapsWith e (some (.Name x pos')) pos.line X.env = pure false := by rfl)
    (hf : X.fn x = true ∨ X.env.scope.names.lookup x = some .local := by first | exact .inl rfl | exact .inr rfl | assumption) : PSd X (.Assign [.Name x pos'] e pos) (dAsg d (dgName i)) := let ⟨_, a1, a2⟩ := he.ex; ⟨_, ps_set hN hi hx a1 hs hf, rs_asg a2 (rg_name i)⟩
end
end DL

/-! DL3: operators, comparisons, built-in calls, subscripts, methods, with their readings of data. -/
namespace DL
open PySem PySem.Spec PyProof.Rows L2

/-! ### arithmetic -/
section
variable {K : PySem.W.Frag}
theorem rr_I {C : Int → Int → Prop} {g : Int → Int → Int} {d : D2} (h : ∀ x y M P, d x y M P → ∃ i j, x = .int i ∧ y = .int j ∧ C i j ∧ P (.int (g i j)) M) : RR K (rI C fun i j => .int (g i j)) d := .of fun I F H M v u x y P o i1 i2 hd => by
  obtain ⟨i, j, rfl, rfl, hc, hp⟩ := h x y M P hd
  exact ⟨.int (g i j), .int (g i j), .int _, hp, fun Q q => ⟨i, j, i1.int_inv, i2.int_inv, hc, q⟩⟩
theorem rr_I0 {g : Int → Int → Int} {d : D2} (h : ∀ x y M P, d x y M P → ∃ i j, x = .int i ∧ y = .int j ∧ P (.int (g i j)) M) : RR K (rI0 fun i j => .int (g i j)) d := .of fun I F H M v u x y P o i1 i2 hd => by
  obtain ⟨i, j, rfl, rfl, hp⟩ := h x y M P hd
  exact ⟨.int (g i j), .int (g i j), .int _, hp, fun Q q => ⟨i, j, i1.int_inv, i2.int_inv, q⟩⟩
theorem rr_B0 {g : Int → Int → Bool} {d : D2} (h : ∀ x y M P, d x y M P → ∃ i j, x = .int i ∧ y = .int j ∧ P (.bl (g i j)) M) : RR K (rI0 fun i j => .bl (g i j)) d := .of fun I F H M v u x y P o i1 i2 hd => by
  obtain ⟨i, j, rfl, rfl, hp⟩ := h x y M P hd
  exact ⟨.bl (g i j), .bl (g i j), .bl _, hp, fun Q q => ⟨i, j, i1.int_inv, i2.int_inv, q⟩⟩
end
def dAdd : D2
  | .int i, .int j, M, P => P (.int (i + j)) M
  | .str s, .str t, M, P => s.length + t.length ≤ sizeLine ∧ P (.str (s ++ t)) M
  | .tup xs, .tup ys, M, P => xs ≠ [] ∧ xs.length + ys.length ≤ sizeLine ∧ P (.tup (xs ++ ys)) M
  | x, y, M, P => match rdL M x, rdL M y with
    | some xs, some ys => xs.length + ys.length ≤ sizeLine ∧ P (.lst (xs ++ ys)) M
    | _, _ => False
def dSub : D2
  | .int i, .int j, M, P => P (.int (i - j)) M
  | _, _, _, _ => False
def dMul : D2
  | .int i, .int j, M, P => CMulX i j ∧ P (.int (i * j)) M
  | _, _, _, _ => False
def dMod : D2
  | .int i, .int j, M, P => 0 < j ∧ P (.int (i % j)) M
  | _, _, _, _ => False
def dFdiv : D2
  | .int i, .int j, M, P => CDivW i j ∧ P (.int (i / j)) M
  | _, _, _, _ => False
def dPow : D2
  | .int i, .int j, M, P => CPow i j ∧ P (.int (i ^ j.toNat)) M
  | _, _, _, _ => False
def dShl : D2
  | .int i, .int j, M, P => CShl i j ∧ P (.int (i * 2 ^ j.toNat)) M
  | _, _, _, _ => False
def dShr : D2
  | .int i, .int j, M, P => 0 ≤ j ∧ P (.int (i / 2 ^ j.toNat)) M
  | _, _, _, _ => False
def dNeg : D1
  | .int i, M, P => P (.int (-i)) M
  | _, _, _ => False
section
variable {X : Cx}
theorem o_sub : Op2 X (binaryOp .Sub) dSub := ⟨_, op_sub, rr_I0 fun x y M P h => by
  unfold dSub at h
  split at h
  · exact ⟨_, _, rfl, rfl, h⟩
  · exact h.elim⟩
theorem o_mul : Op2 X (binaryOp .Mult) dMul := ⟨_, op_mulX, rr_I fun x y M P h => by
  unfold dMul at h
  split at h
  · exact ⟨_, _, rfl, rfl, h.1, h.2⟩
  · exact h.elim⟩
theorem o_mod : Op2 X (binaryOp .Mod) dMod := ⟨_, op_mod, rr_I fun x y M P h => by
  unfold dMod at h
  split at h
  · exact ⟨_, _, rfl, rfl, h.1, h.2⟩
  · exact h.elim⟩
theorem o_fdiv : Op2 X (binaryOp .FloorDiv) dFdiv := ⟨_, op_fdivW, rr_I fun x y M P h => by
  unfold dFdiv at h
  split at h
  · exact ⟨_, _, rfl, rfl, h.1, h.2⟩
  · exact h.elim⟩
theorem o_pow : Op2 X (binaryOp .Pow) dPow := ⟨_, op_pow, rr_I fun x y M P h => by
  unfold dPow at h
  split at h
  · exact ⟨_, _, rfl, rfl, h.1, h.2⟩
  · exact h.elim⟩
theorem o_shl : Op2 X (binaryOp .LShift) dShl := ⟨_, op_shlW, rr_I fun x y M P h => by
  unfold dShl at h
  split at h
  · exact ⟨_, _, rfl, rfl, h.1, h.2⟩
  · exact h.elim⟩
theorem o_shr : Op2 X (binaryOp .RShift) dShr := ⟨_, op_shr, rr_I fun x y M P h => by
  unfold dShr at h
  split at h
  · exact ⟨_, _, rfl, rfl, h.1, h.2⟩
  · exact h.elim⟩
theorem o_neg : Op1 X (unaryOp .USub) dNeg := ⟨_, un_neg, fun I F H M v x Q P o i1 hd hq => by
  unfold dNeg at hd
  split at hd
  · rename_i i
    exact ⟨i, i1.int_inv, hq _ _ I M H (Same.refl I) o (.int _) hd⟩
  · exact hd.elim⟩
theorem rr_cat {K : PySem.W.Frag} : RR K rCat (fun x y M P => ∃ xs ys, rdL M x = some xs ∧ rdL M y = some ys ∧ xs.length + ys.length ≤ sizeLine ∧ P (.lst (xs ++ ys)) M) := fun I F H M v u x y Q P o i1 i2 hd hq => by
  obtain ⟨xs, ys, e1, e2, hz, hp⟩ := hd
  obtain ⟨a, vs, rfl, h1, h2⟩ := rdL_is o i1 e1
  obtain ⟨b, ws, rfl, k1, k2⟩ := rdL_is o i2 e2
  refine ⟨a, b, vs, ws, rfl, rfl, h1, k1, by rw [h2.len, k2.len]; exact hz, fun p hpn => ?_⟩
  have s2 : Same I (upd I p (.lst (vs ++ ws))) := same_new (o.fresh hpn).1
  exact hq (.ref p) (.lst (xs ++ ys)) _ M _ s2 (o.newI hpn) (.lst upd_same ((h2.append k2).mono s2)) hp
theorem rr_addS {K : PySem.W.Frag} : RR K (fun x y H Q => ∃ i j, x = .str i ∧ y = .str j ∧ i.length + j.length ≤ sizeLine ∧ Q (.str (i ++ j)) H) (fun x y M P => ∃ s t, x = .str s ∧ y = .str t ∧ s.length + t.length ≤ sizeLine ∧ P (.str (s ++ t)) M) := .of fun I F H M v u x y P o i1 i2 hd => by
  obtain ⟨i, j, rfl, rfl, hz, hp⟩ := hd
  exact ⟨_, _, .str _, hp, fun Q q => ⟨i, j, i1.str_inv, i2.str_inv, hz, q⟩⟩
theorem rr_catT {K : PySem.W.Frag} : RR K (rCatT K) (fun x y M P => ∃ xs ys, x = .tup xs ∧ y = .tup ys ∧ xs ≠ [] ∧ xs.length + ys.length ≤ sizeLine ∧ P (.tup (xs ++ ys)) M) := fun I F H M v u x y Q P o i1 i2 hd hq => by
  obtain ⟨xs, ys, rfl, rfl, hn, hz, hp⟩ := hd
  cases i1 with
  | @tup a vs _ e1 h2 =>
    cases i2 with
    | @tup b ws _ e2 k2 =>
      refine ⟨a, b, vs, ws, rfl, rfl, sqt_up o e1, sqt_up o e2, fun z => ?_, by rw [h2.len, k2.len]; exact hz, fun z => ?_, fun z p hpn => ?_⟩
      · have := h2.len
        rw [z] at this
        cases xs with
        | nil => exact hn rfl
        | cons _ _ => simp at this
      · subst z
        cases k2
        rw [List.append_nil] at hp
        exact hq (.ref a) (.tup xs) I M H (Same.refl I) o (.tup e1 h2) hp
      · have s2 : Same I (upd I p (.tup (vs ++ ws))) := same_new (o.fresh hpn).1
        exact hq (.ref p) (.tup (xs ++ ys)) _ M _ s2 (o.newI hpn) (.tup (.inl upd_same) ((h2.append k2).mono s2)) hp
theorem rr_addI {K : PySem.W.Frag} : RR K (rI0 fun i j => .int (i + j)) (fun x y M P => ∃ i j, x = .int i ∧ y = .int j ∧ P (.int (i + j)) M) := rr_I0 fun x y M P h => h
theorem o_add : Op2 X (binaryOp .Add) dAdd := ⟨_, op_add.or (op_add_str.or (op_catT.or op_cat)), fun I F H M v u x y Q P o i1 i2 hd hq => by
  unfold dAdd at hd
  split at hd
  · exact .inl (rr_addI I F H M v u _ _ Q P o i1 i2 ⟨_, _, rfl, rfl, hd⟩ hq)
  · exact .inr (.inl (rr_addS I F H M v u _ _ Q P o i1 i2 ⟨_, _, rfl, rfl, hd⟩ hq))
  · exact .inr (.inr (.inl (rr_catT I F H M v u _ _ Q P o i1 i2 ⟨_, _, rfl, rfl, hd⟩ hq)))
  · split at hd
    · rename_i xs ys e1 e2
      exact .inr (.inr (.inr (rr_cat I F H M v u _ _ Q P o i1 i2 ⟨xs, ys, e1, e2, hd⟩ hq)))
    · exact hd.elim⟩
end

/-! ### comparisons -/
def dLt : D2
  | .int i, .int j, M, P => P (.bl (decide (i < j))) M
  | _, _, _, _ => False
def dLe : D2
  | .int i, .int j, M, P => P (.bl (decide (i ≤ j))) M
  | _, _, _, _ => False
def dGt : D2
  | .int i, .int j, M, P => P (.bl (decide (j < i))) M
  | _, _, _, _ => False
def dGe : D2
  | .int i, .int j, M, P => P (.bl (decide (j ≤ i))) M
  | _, _, _, _ => False
mutual
def toPy : Dt → PyData
  | .non => .none
  | .bl b => .bool b
  | .int i => .int i
  | .str x => .str x
  | .lst xs => .list (toPys xs)
  | .tup xs => .tuple (toPys xs)
  | .obj _ _ => .dict []
  | .adr _ => .dict []
  | .scr _ => .dict []
  | .ty _ => .dict []
def toPys : List Dt → List PyData
  | [] => []
  | x :: xs => toPy x :: toPys xs
end
/-- data that == compares -/
def okEq (d : Dt) : Bool := SeqAt.shaped (toPy d)
def beqD (x y : Dt) : Bool := PyData.eqv (toPy x) (toPy y)
section
variable {K : PySem.W.Frag} {I : Hp}
mutual
theorem Is.dp : ∀ {v : V} {d : Dt}, Is K I v d → (toPy d).canLay0 = true → Dp K I v (toPy d)
  | _, _, .non, _ => by unfold toPy; exact .non
  | _, _, .bl b, _ => by unfold toPy; exact .bl b
  | _, _, .int i, _ => by unfold toPy; exact .int i
  | _, _, .str x, _ => by unfold toPy; exact .str x
  | _, _, .lst h a, e => by
    unfold toPy at e ⊢
    exact .lst (.inl (.inl h)) (IsA.dp a (by simpa only [PyData.canLay0] using e))
  | _, _, .tup h a, e => by
    unfold toPy at e ⊢
    exact .tup h.t (IsA.dp a (by simpa only [PyData.canLay0] using e))
  | _, _, .obj h a, e => by unfold toPy at e; simp only [PyData.canLay0] at e; cases e
  | _, _, .adr a, e => by unfold toPy at e; simp only [PyData.canLay0] at e; cases e
  | _, _, .scr h, e => by unfold toPy at e; simp only [PyData.canLay0] at e; cases e
  | _, _, .ty n, e => by unfold toPy at e; simp only [PyData.canLay0] at e; cases e
theorem IsA.dp : ∀ {vs : List V} {ds : List Dt}, IsA K I vs ds → PyData.canLayAll0 (toPys ds) = true → DpAll K I vs (toPys ds)
  | _, _, .nil, _ => by unfold toPys; exact .nil
  | _, _, .cons h t, e => by
    unfold toPys at e ⊢
    simp only [PyData.canLayAll0, Bool.and_eq_true] at e
    exact .cons (Is.dp h e.1) (IsA.dp t e.2)
end
end
theorem okEq_lay {d : Dt} (h : okEq d = true) : (toPy d).canLay0 = true := by
  unfold okEq SeqAt.shaped at h
  simp only [Bool.and_eq_true] at h
  exact h.1
section
variable {K : PySem.W.Frag} {H H' : Hp}
mutual
theorem dp_mono (e : Same H H') : ∀ {v : V} {d : PyData}, Dp K H v d → Dp K H' v d
  | _, _, .non => .non
  | _, _, .bl b => .bl b
  | _, _, .int i => .int i
  | _, _, .str x => .str x
  | _, _, .lst h a => .lst (e.seq h) (dpa_mono e a)
  | _, _, .tup h a => .tup (Same.seqT e h) (dpa_mono e a)
theorem dpa_mono (e : Same H H') : ∀ {v : List V} {d : List PyData}, DpAll K H v d → DpAll K H' v d
  | _, _, .nil => .nil
  | _, _, .cons h t => .cons (dp_mono e h) (dpa_mono e t)
end
end
def dEq : D2
  | .int i, .int j, M, P => P (.bl (decide (i = j))) M
  | .str i, .str j, M, P => P (.bl (decide (i = j))) M
  | .bl i, .bl j, M, P => P (.bl (decide (i = j))) M
  | .non, .non, M, P => P (.bl true) M
  | x, y, M, P => okEq x = true ∧ okEq y = true ∧ P (.bl (beqD x y)) M
def dNe : D2
  | .int i, .int j, M, P => P (.bl (!decide (i = j))) M
  | .str i, .str j, M, P => P (.bl (!decide (i = j))) M
  | .bl i, .bl j, M, P => P (.bl (!decide (i = j))) M
  | .non, .non, M, P => P (.bl false) M
  | x, y, M, P => okEq x = true ∧ okEq y = true ∧ P (.bl (!beqD x y)) M
section
variable {X : Cx}
theorem o_lt : Op2 X (compareOp .Lt) dLt := ⟨_, op_lt, rr_B0 fun x y M P h => by
  unfold dLt at h
  split at h
  · exact ⟨_, _, rfl, rfl, h⟩
  · exact h.elim⟩
theorem o_le : Op2 X (compareOp .LtE) dLe := ⟨_, op_le, rr_B0 fun x y M P h => by
  unfold dLe at h
  split at h
  · exact ⟨_, _, rfl, rfl, h⟩
  · exact h.elim⟩
theorem o_gt : Op2 X (compareOp .Gt) dGt := ⟨_, op_gt, rr_B0 fun x y M P h => by
  unfold dGt at h
  split at h
  · exact ⟨_, _, rfl, rfl, h⟩
  · exact h.elim⟩
theorem o_ge : Op2 X (compareOp .GtE) dGe := ⟨_, op_ge, rr_B0 fun x y M P h => by
  unfold dGe at h
  split at h
  · exact ⟨_, _, rfl, rfl, h⟩
  · exact h.elim⟩
theorem deep_of {K : PySem.W.Frag} {I F H : Hp} {M : MS} {v u : V} {x y : Dt} (o : Ok K I F M H) (i1 : Is K I v x) (i2 : Is K I u y) (h1 : okEq x = true) (h2 : okEq y = true) : Dp K H v (toPy x) ∧ Dp K H u (toPy y) :=
  ⟨dp_mono (fun b z e => o.i b z e) (i1.dp (okEq_lay h1)), dp_mono (fun b z e => o.i b z e) (i2.dp (okEq_lay h2))⟩
theorem o_eq (hu : X.A.units + 64 < cLine) : Op2 X (compareOp .Eq) dEq := ⟨_, op_eq.or (op_eqD hu), fun I F H M v u x y Q P o i1 i2 hd hq => by
  unfold dEq at hd
  split at hd
  · cases i1; cases i2
    refine .inl ⟨rfl, ?_⟩
    have e := hq (.bl _) _ I M H (Same.refl I) o (.bl _) hd
    simpa using e
  · cases i1; cases i2
    refine .inl ⟨rfl, ?_⟩
    have e := hq (.bl _) _ I M H (Same.refl I) o (.bl _) hd
    simpa using e
  · cases i1; cases i2
    refine .inl ⟨rfl, ?_⟩
    have e := hq (.bl _) _ I M H (Same.refl I) o (.bl _) hd
    simpa using e
  · cases i1; cases i2
    refine .inl ⟨rfl, ?_⟩
    have e := hq (.bl _) _ I M H (Same.refl I) o (.bl _) hd
    simpa using e
  · obtain ⟨h1, h2, hp⟩ := hd
    obtain ⟨k1, k2⟩ := deep_of o i1 i2 h1 h2
    exact .inr ⟨_, _, k1, k2, h1, h2, hq (.bl _) _ I M H (Same.refl I) o (.bl _) hp⟩⟩
theorem o_ne (hu : X.A.units + 64 < cLine) : Op2 X (compareOp .NotEq) dNe := ⟨_, op_ne.or (op_neD hu), fun I F H M v u x y Q P o i1 i2 hd hq => by
  unfold dNe at hd
  split at hd
  · cases i1; cases i2
    refine .inl ⟨rfl, ?_⟩
    have e := hq (.bl _) _ I M H (Same.refl I) o (.bl _) hd
    simpa using e
  · cases i1; cases i2
    refine .inl ⟨rfl, ?_⟩
    have e := hq (.bl _) _ I M H (Same.refl I) o (.bl _) hd
    simpa using e
  · cases i1; cases i2
    refine .inl ⟨rfl, ?_⟩
    have e := hq (.bl _) _ I M H (Same.refl I) o (.bl _) hd
    simpa using e
  · cases i1; cases i2
    refine .inl ⟨rfl, ?_⟩
    have e := hq (.bl _) _ I M H (Same.refl I) o (.bl _) hd
    simpa using e
  · obtain ⟨h1, h2, hp⟩ := hd
    obtain ⟨k1, k2⟩ := deep_of o i1 i2 h1 h2
    exact .inr ⟨_, _, k1, k2, h1, h2, hq (.bl _) _ I M H (Same.refl I) o (.bl _) hp⟩⟩
end

/-! ### is None, is True -/
def isN : Dt → Bool
  | .non => true
  | _ => false
def dIs : D2
  | x, .non, M, P => P (.bl (isN x)) M
  | .bl a, .bl b, M, P => P (.bl (decide (a = b))) M
  | x, .bl b, M, P => P (.bl false) M
  | _, _, _, _ => False
def dIsNot : D2
  | x, .non, M, P => P (.bl (!isN x)) M
  | .bl a, .bl b, M, P => P (.bl (!decide (a = b))) M
  | x, .bl b, M, P => P (.bl true) M
  | _, _, _, _ => False
theorem isN_eq {K : PySem.W.Frag} {I : Hp} {v : V} {x : Dt} (h : Is K I v x) : decide (v = .non) = isN x := by
  cases h <;> simp [isN]
section
variable {X : Cx}
theorem vbool {v : V} {b : Bool} {u : Value} (h : v ≠ .bl b) (r : RelV v u) : u ≠ .bool b := by
  intro e
  subst e
  cases v with
  | bl c =>
    have : Value.bool b = Value.bool c := r
    cases this
    exact h rfl
  | non => cases (show Value.bool b = Value.none from r)
  | int i => obtain ⟨t, q⟩ := (show ∃ t, Value.bool b = Value.int i t from r); cases q
  | str i => obtain ⟨t, q⟩ := (show ∃ t, Value.bool b = Value.str i t from r); cases q
  | byt i => obtain ⟨t, q⟩ := (show ∃ t, Value.bool b = Value.bytes i t from r); cases q
  | flt i => obtain ⟨t, q⟩ := (show ∃ t, Value.bool b = Value.float i t from r); cases q
  | ref a => cases (show Value.bool b = Value.ref a from r)
  | ty n => cases (show Value.bool b = Value.type n from r)
/-- x is True, x is False: any x -/
def rIsBA : R2 := fun x y H Q => ∃ b : Bool, y = .bl b ∧ Q (.bl (decide (x = .bl b))) H
def rNotBA : R2 := fun x y H Q => ∃ b : Bool, y = .bl b ∧ Q (.bl (!decide (x = .bl b))) H
theorem vplain {v : V} {b : Bool} {u : Value} (r : RelV v u) : plainIs u (.bool b) = true := by
  cases v with
  | bl c => cases (show u = Value.bool c from r); rfl
  | non => cases (show u = Value.none from r); rfl
  | int i => obtain ⟨t, q⟩ := (show ∃ t, u = Value.int i t from r); cases q; rfl
  | str i => obtain ⟨t, q⟩ := (show ∃ t, u = Value.str i t from r); cases q; rfl
  | byt i => obtain ⟨t, q⟩ := (show ∃ t, u = Value.bytes i t from r); cases q; rfl
  | flt i => obtain ⟨t, q⟩ := (show ∃ t, u = Value.float i t from r); cases q; rfl
  | ref a => cases (show u = Value.ref a from r); rfl
  | ty n => cases (show u = Value.type n from r); rfl
theorem op_isBA : OpR X (compareOp .Is) rIsBA := by
  intro pins s σ H x y v u Q I rx ry h
  obtain ⟨b, rfl, q⟩ := h
  cases (show u = Value.bool b from ry)
  by_cases e : x = .bl b
  · subst e
    cases (show v = Value.bool b from rx)
    exact wpAny_is_self rfl ⟨.bl true, H, I, rfl, by simpa using q⟩
  · exact wpAny_is_other (vplain rx) (vbool e rx) ⟨.bl false, H, I, rfl, by simpa [e] using q⟩
theorem op_notBA : OpR X (compareOp .IsNot) rNotBA := by
  intro pins s σ H x y v u Q I rx ry h
  obtain ⟨b, rfl, q⟩ := h
  cases (show u = Value.bool b from ry)
  by_cases e : x = .bl b
  · subst e
    cases (show v = Value.bool b from rx)
    exact wpAny_isNot_self rfl ⟨.bl false, H, I, rfl, by simpa using q⟩
  · exact wpAny_isNot_other (vplain rx) (vbool e rx) ⟨.bl true, H, I, rfl, by simpa [e] using q⟩
theorem is_nb {K : PySem.W.Frag} {I : Hp} {v : V} {x : Dt} {b : Bool} (h : Is K I v x) (n : ∀ a, x ≠ .bl a) : v ≠ .bl b := by
  intro e
  subst e
  cases h
  exact n b rfl
theorem o_is : Op2 X (compareOp .Is) dIs := ⟨_, op_isN.or op_isBA, fun I F H M v u x y Q P o i1 i2 hd hq => by
  unfold dIs at hd
  split at hd
  · cases i2
    refine .inl ⟨rfl, ?_⟩
    rw [isN_eq i1]
    exact hq _ _ I M H (Same.refl I) o (.bl _) hd
  · cases i1; cases i2
    refine .inr ⟨_, rfl, ?_⟩
    have e := hq (.bl _) _ I M H (Same.refl I) o (.bl _) hd
    simpa using e
  · rename_i x b n
    cases i2
    refine .inr ⟨_, rfl, ?_⟩
    rw [decide_eq_false (is_nb i1 n)]
    exact hq _ _ I M H (Same.refl I) o (.bl _) hd
  · exact hd.elim⟩
theorem o_isNot : Op2 X (compareOp .IsNot) dIsNot := ⟨_, op_notN.or op_notBA, fun I F H M v u x y Q P o i1 i2 hd hq => by
  unfold dIsNot at hd
  split at hd
  · cases i2
    refine .inl ⟨rfl, ?_⟩
    rw [isN_eq i1]
    exact hq _ _ I M H (Same.refl I) o (.bl _) hd
  · cases i1; cases i2
    refine .inr ⟨_, rfl, ?_⟩
    have e := hq (.bl _) _ I M H (Same.refl I) o (.bl _) hd
    simpa using e
  · rename_i x b n
    cases i2
    refine .inr ⟨_, rfl, ?_⟩
    rw [decide_eq_false (is_nb i1 n)]
    exact hq _ _ I M H (Same.refl I) o (.bl _) hd
  · exact hd.elim⟩
end

/-! ### in -/
def flatD : Dt → Bool
  | .non => true | .bl _ => true | .int _ => true | .str _ => true
  | _ => false
def toV : Dt → V
  | .non => .non | .bl b => .bl b | .int i => .int i | .str s => .str s
  | _ => .non
theorem toV_is {K : PySem.W.Frag} {I : Hp} {v : V} {x : Dt} (h : Is K I v x) (f : flatD x = true) : v = toV x ∧ flatV v = true := by
  cases h <;> first | exact ⟨rfl, rfl⟩ | cases f
theorem toVs_is {K : PySem.W.Frag} {I : Hp} : ∀ {vs : List V} {xs : List Dt}, IsA K I vs xs → xs.all flatD = true → vs = xs.map toV ∧ vs.all flatV = true
  | _, _, .nil, _ => ⟨rfl, rfl⟩
  | _, _, .cons h t, f => by
    rw [List.all_cons, Bool.and_eq_true] at f
    obtain ⟨e1, e2⟩ := toV_is h f.1
    obtain ⟨k1, k2⟩ := toVs_is t f.2
    subst e1
    subst k1
    exact ⟨rfl, by rw [List.all_cons, e2, k2]; rfl⟩
def inD (x : Dt) (ys : List Dt) : Bool := inV (toV x) (ys.map toV)
def oneSign (s : Str) : Option Nat := match s.cps.toList with
  | [c] => some c
  | _ => none
def dIn : D2
  | .str s, .str t, M, P => match oneSign s with
    | some c => P (.bl (decide (c ∈ t.cps.toList))) M
    | none => P (.bl (!(Builtin.Str.occurrences t s 0 t.length 1).isEmpty)) M
  | x, .tup ys, M, P => flatD x = true ∧ ys.all flatD = true ∧ P (.bl (inD x ys)) M
  | x, y, M, P => match rdL M y with
    | some ys => flatD x = true ∧ ys.all flatD = true ∧ P (.bl (inD x ys)) M
    | none => False
def dNotIn : D2
  | .str s, .str t, M, P => match oneSign s with
    | some c => P (.bl (!decide (c ∈ t.cps.toList))) M
    | none => P (.bl (!!(Builtin.Str.occurrences t s 0 t.length 1).isEmpty)) M
  | x, .tup ys, M, P => flatD x = true ∧ ys.all flatD = true ∧ P (.bl (!inD x ys)) M
  | x, y, M, P => match rdL M y with
    | some ys => flatD x = true ∧ ys.all flatD = true ∧ P (.bl (!inD x ys)) M
    | none => False
theorem oneSign_eq {s : Str} {c : Nat} (h : oneSign s = some c) : s = ⟨#[c]⟩ := by
  unfold oneSign at h
  split at h
  · rename_i e
    cases h
    obtain ⟨a⟩ := s
    have : a = #[c] := by
      apply Array.toList_inj.mp
      exact e
    rw [this]
  · cases h
section
variable {X : Cx}
theorem o_in : Op2 X (compareOp .In) dIn := ⟨_, op_in_sign.or (op_in_str.or op_in_seq), fun I F H M v u x y Q P o i1 i2 hd hq => by
  unfold dIn at hd
  split at hd
  · cases i1; cases i2
    split at hd
    · rename_i c e
      have := oneSign_eq e
      subst this
      exact .inl ⟨c, _, rfl, rfl, hq _ _ I M H (Same.refl I) o (.bl _) hd⟩
    · exact .inr (.inl ⟨_, _, rfl, rfl, hq _ _ I M H (Same.refl I) o (.bl _) hd⟩)
  · obtain ⟨f1, f2, hp⟩ := hd
    cases i2 with
    | @tup a vs ys e ha =>
      obtain ⟨e1, e2⟩ := toV_is i1 f1
      obtain ⟨k1, k2⟩ := toVs_is ha f2
      refine .inr (.inr ⟨a, vs, rfl, .inr (sqt_up o e), e2, k2, ?_⟩)
      rw [e1, k1]
      exact hq _ _ I M H (Same.refl I) o (.bl _) hp
  · split at hd
    · rename_i ys ey
      obtain ⟨f1, f2, hp⟩ := hd
      obtain ⟨a, vs, rfl, h1, ha⟩ := rdL_is o i2 ey
      obtain ⟨e1, e2⟩ := toV_is i1 f1
      obtain ⟨k1, k2⟩ := toVs_is ha f2
      refine .inr (.inr ⟨a, vs, rfl, .inl (.inl (.inl h1)), e2, k2, ?_⟩)
      rw [e1, k1]
      exact hq _ _ I M H (Same.refl I) o (.bl _) hp
    · exact hd.elim⟩
theorem o_notIn : Op2 X (compareOp .NotIn) dNotIn := ⟨_, op_notIn_sign.or (op_notIn_str.or op_notIn_seq), fun I F H M v u x y Q P o i1 i2 hd hq => by
  unfold dNotIn at hd
  split at hd
  · cases i1; cases i2
    split at hd
    · rename_i c e
      have := oneSign_eq e
      subst this
      exact .inl ⟨c, _, rfl, rfl, hq _ _ I M H (Same.refl I) o (.bl _) hd⟩
    · exact .inr (.inl ⟨_, _, rfl, rfl, hq _ _ I M H (Same.refl I) o (.bl _) hd⟩)
  · obtain ⟨f1, f2, hp⟩ := hd
    cases i2 with
    | @tup a vs ys e ha =>
      obtain ⟨e1, e2⟩ := toV_is i1 f1
      obtain ⟨k1, k2⟩ := toVs_is ha f2
      refine .inr (.inr ⟨a, vs, rfl, .inr (sqt_up o e), e2, k2, ?_⟩)
      rw [e1, k1]
      exact hq _ _ I M H (Same.refl I) o (.bl _) hp
  · split at hd
    · rename_i ys ey
      obtain ⟨f1, f2, hp⟩ := hd
      obtain ⟨a, vs, rfl, h1, ha⟩ := rdL_is o i2 ey
      obtain ⟨e1, e2⟩ := toV_is i1 f1
      obtain ⟨k1, k2⟩ := toVs_is ha f2
      refine .inr (.inr ⟨a, vs, rfl, .inl (.inl (.inl h1)), e2, k2, ?_⟩)
      rw [e1, k1]
      exact hq _ _ I M H (Same.refl I) o (.bl _) hp
    · exact hd.elim⟩
end

/-! ### built-in calls -/
def dLen : DL
  | [.str s], M, P => s.length ≤ sizeLine ∧ P (.int s.length) M
  | [.tup xs], M, P => P (.int xs.length) M
  | [.scr ns], M, P => P (.int ns.length) M
  | [x], M, P => match rdL M x with
    | some xs => P (.int xs.length) M
    | none => match x with
      | .adr p => match M p with
        | some .deck => ∀ n : Nat, P (.int n) M
        | _ => False
      | _ => False
  | _, _, _ => False
def dAbs : DL
  | [.int i], M, P => P (.int (if i < 0 then -i else i)) M
  | _, _, _ => False
def dInt : DL
  | [.int i], M, P => P (.int i) M
  | [.bl k], M, P => P (.int (if k then 1 else 0)) M
  | _, _, _ => False
def dMax2 : DL
  | [.int i, .int j], M, P => P (.int (if j > i then j else i)) M
  | _, _, _ => False
def dMin2 : DL
  | [.int i, .int j], M, P => P (.int (if j < i then j else i)) M
  | _, _, _ => False
/-- list(x) -/
def dListOf : DL
  | [.tup xs], M, P => P (.lst xs) M
  | [x], M, P => match rdL M x with
    | some xs => P (.lst xs) M
    | none => False
  | _, _, _ => False
def dListOfM : DL
  | [.tup xs], M, P => ∀ p, M p = none → P (.adr p) (updM M p (.lst xs))
  | [x], M, P => match rdL M x with
    | some xs => ∀ p, M p = none → P (.adr p) (updM M p (.lst xs))
    | none => False
  | _, _, _ => False
def dTupOf : DL
  | [.tup xs], M, P => P (.tup xs) M
  | [x], M, P => match rdL M x with
    | some xs => P (.tup xs) M
    | none => False
  | _, _, _ => False
section
variable {X : Cx}
theorem IsA.one_inv {K : PySem.W.Frag} {I : Hp} {vs : List V} {x : Dt} (h : IsA K I vs [x]) : ∃ v, vs = [v] ∧ Is K I v x := by
  cases h with
  | cons h t => cases t; exact ⟨_, rfl, h⟩
theorem IsA.two_inv {K : PySem.W.Frag} {I : Hp} {vs : List V} {x y : Dt} (h : IsA K I vs [x, y]) : ∃ v u, vs = [v, u] ∧ Is K I v x ∧ Is K I u y := by
  cases h with
  | cons h t => cases t with
    | cons h2 t2 => cases t2; exact ⟨_, _, rfl, h, h2⟩
theorem deck_is {K : PySem.W.Frag} {I F H : Hp} {M : MS} {p : Addr} (o : Ok K I F M H) (h : M p = some .deck) : ∃ ns : List Int, H p = some (.lst (ns.map V.int)) := o.m p _ h
theorem c_len : OpL X (.builtin "len") dLen := ⟨_, call_len_str.or call_len_seq, fun I F H M vs xs Q P o i hd hq => by
  unfold dLen at hd
  split at hd
  · obtain ⟨v, rfl, h⟩ := i.one_inv
    cases h
    exact .inl ⟨_, rfl, hd.1, hq _ _ I M H (Same.refl I) o (.int _) hd.2⟩
  · obtain ⟨v, rfl, h⟩ := i.one_inv
    cases h with
    | @tup a vs ds e ha =>
      refine .inr ⟨a, vs, rfl, .inr (sqt_up o e), ?_⟩
      rw [ha.len]
      exact hq _ _ I M H (Same.refl I) o (.int _) hd
  · obtain ⟨v, rfl, h⟩ := i.one_inv
    cases h with
    | @scr a ns e =>
      refine .inr ⟨a, _, rfl, .inl (sql_up o e), ?_⟩
      rw [List.length_map]
      exact hq _ _ I M H (Same.refl I) o (.int _) hd
  · rename_i x _ _ _
    obtain ⟨v, rfl, h⟩ := i.one_inv
    split at hd
    · rename_i xs e
      obtain ⟨a, vs, rfl, h1, h2⟩ := rdL_is o h e
      refine .inr ⟨a, vs, rfl, .inl (.inl (.inl h1)), ?_⟩
      rw [h2.len]
      exact hq _ _ I M H (Same.refl I) o (.int _) hd
    · split at hd
      · split at hd
        · rename_i e
          obtain ⟨ns, en⟩ := deck_is o e
          cases h
          exact .inr ⟨_, _, rfl, .inl (.inl (.inl en)), hq _ _ I M H (Same.refl I) o (.int _) (hd _)⟩
        · exact hd.elim
      · exact hd.elim
  · exact hd.elim⟩
theorem c_abs : OpL X (.builtin "abs") dAbs := ⟨_, call_abs, fun I F H M vs xs Q P o i hd hq => by
  unfold dAbs at hd
  split at hd
  · obtain ⟨v, rfl, h⟩ := i.one_inv
    cases h
    exact ⟨_, rfl, hq _ _ I M H (Same.refl I) o (.int _) hd⟩
  · exact hd.elim⟩
theorem c_int : OpL X (.type "int") dInt := ⟨_, call_int1, fun I F H M vs xs Q P o i hd hq => by
  unfold dInt at hd
  split at hd
  · obtain ⟨v, rfl, h⟩ := i.one_inv
    cases h
    exact .inl ⟨_, rfl, hq _ _ I M H (Same.refl I) o (.int _) hd⟩
  · obtain ⟨v, rfl, h⟩ := i.one_inv
    cases h
    exact .inr ⟨_, rfl, hq _ _ I M H (Same.refl I) o (.int _) hd⟩
  · exact hd.elim⟩
theorem c_max2 (hc : X.calm = true) : OpL X (.builtin "max") dMax2 := ⟨_, call_max2 hc, fun I F H M vs xs Q P o i hd hq => by
  unfold dMax2 at hd
  split at hd
  · obtain ⟨v, u, rfl, h, h2⟩ := i.two_inv
    cases h; cases h2
    exact ⟨_, _, rfl, hq _ _ I M H (Same.refl I) o (.int _) hd⟩
  · exact hd.elim⟩
theorem c_min2 (hc : X.calm = true) : OpL X (.builtin "min") dMin2 := ⟨_, call_min2 hc, fun I F H M vs xs Q P o i hd hq => by
  unfold dMin2 at hd
  split at hd
  · obtain ⟨v, u, rfl, h, h2⟩ := i.two_inv
    cases h; cases h2
    exact ⟨_, _, rfl, hq _ _ I M H (Same.refl I) o (.int _) hd⟩
  · exact hd.elim⟩
theorem c_listOf : OpL X (.type "list") dListOf := ⟨_, call_list_of, fun I F H M vs xs Q P o i hd hq => by
  unfold dListOf at hd
  split at hd
  · obtain ⟨v, rfl, h⟩ := i.one_inv
    cases h with
    | @tup a vs ds e ha =>
      refine ⟨a, vs, rfl, .inr (sqt_up o e), fun p hp => ?_⟩
      have s2 : Same I (upd I p (.lst vs)) := same_new (o.fresh hp).1
      exact hq (.ref p) _ _ M _ s2 (o.newI hp) (.lst upd_same (ha.mono s2)) hd
  · obtain ⟨v, rfl, h⟩ := i.one_inv
    split at hd
    · rename_i xs e
      obtain ⟨a, vs, rfl, h1, h2⟩ := rdL_is o h e
      refine ⟨a, vs, rfl, .inl (.inl (.inl h1)), fun p hp => ?_⟩
      have s2 : Same I (upd I p (.lst vs)) := same_new (o.fresh hp).1
      exact hq (.ref p) _ _ M _ s2 (o.newI hp) (.lst upd_same (h2.mono s2)) hd
    · exact hd.elim
  · exact hd.elim⟩
theorem c_listOfM : OpL X (.type "list") dListOfM := ⟨_, call_list_of, fun I F H M vs xs Q P o i hd hq => by
  unfold dListOfM at hd
  split at hd
  · obtain ⟨v, rfl, h⟩ := i.one_inv
    cases h with
    | @tup a vs _ e ha =>
      refine ⟨a, vs, rfl, .inr (sqt_up o e), fun p hp => ?_⟩
      exact hq (.ref p) _ I _ _ (Same.refl I) (o.newM (u := .lst _) hp ⟨vs, upd_same, ha⟩) (.adr p) (hd p (o.fresh hp).2.2)
  · obtain ⟨v, rfl, h⟩ := i.one_inv
    split at hd
    · rename_i xs e
      obtain ⟨a, vs, rfl, h1, h2⟩ := rdL_is o h e
      refine ⟨a, vs, rfl, .inl (.inl (.inl h1)), fun p hp => ?_⟩
      exact hq (.ref p) _ I _ _ (Same.refl I) (o.newM (u := .lst xs) hp ⟨vs, upd_same, h2⟩) (.adr p) (hd p (o.fresh hp).2.2)
    · exact hd.elim
  · exact hd.elim⟩
theorem c_tupOf : OpL X (.type "tuple") dTupOf := ⟨_, call_tuple_of, fun I F H M vs xs Q P o i hd hq => by
  unfold dTupOf at hd
  split at hd
  · obtain ⟨v, rfl, h⟩ := i.one_inv
    cases h with
    | @tup a vs ds e ha =>
      exact ⟨a, vs, rfl, .inr ⟨sqt_up o e, hq (.ref a) _ I M H (Same.refl I) o (.tup e ha) hd⟩⟩
  · obtain ⟨v, rfl, h⟩ := i.one_inv
    split at hd
    · rename_i xs e
      obtain ⟨a, vs, rfl, h1, h2⟩ := rdL_is o h e
      refine ⟨a, vs, rfl, .inl ⟨.inl (.inl h1), fun p hp => ?_⟩⟩
      have s2 : Same I (upd I p (.tup vs)) := same_new (o.fresh hp).1
      exact hq (.ref p) _ _ M _ s2 (o.newI hp) (.tup (.inl upd_same) (h2.mono s2)) hd
    · exact hd.elim
  · exact hd.elim⟩
end

/-! ### subscripts -/
def dIx : D2
  | .tup xs, .int i, M, P => match atI xs i with
    | some d => P d M
    | none => False
  | .str s, .int i, M, P => s.length ≤ sizeLine ∧ (match atI s.cps.toList i with
    | some c => P (.str ⟨#[c]⟩) M
    | none => False)
  | .scr ns, .int i, M, P => match atI ns i with
    | some d => P (.int d) M
    | none => False
  | x, .int i, M, P => match rdL M x with
    | some xs => (match atI xs i with
      | some d => P d M
      | none => False)
    | none => False
  | _, _, _, _ => False
theorem atI_is {K : PySem.W.Frag} {I : Hp} {vs : List V} {xs : List Dt} {i : Int} {d : Dt} (h : IsA K I vs xs) (e : atI xs i = some d) : ∃ v, atI vs i = some v ∧ Is K I v d := by
  unfold atI at e ⊢
  rw [h.len]
  cases q : ixN xs.length i with
  | none => rw [q] at e; cases e
  | some j =>
    rw [q] at e
    exact h.get (i := j) e
theorem atI_map {α β : Type} (f : α → β) (xs : List α) (i : Int) : atI (xs.map f) i = (atI xs i).map f := by
  unfold atI
  rw [List.length_map]
  cases ixN xs.length i with
  | none => rfl
  | some j => show (xs.map f)[j]? = (xs[j]?).map f; rw [List.getElem?_map]
section
variable {X : Cx} {a b : Expr} {da db : DE} {pos : Pos}
theorem rr_ix {K : PySem.W.Frag} : RR K (rIx K) dIx := fun I F H M v u x y Q P o i1 i2 hd hq => by
  unfold dIx at hd
  split at hd
  · split at hd
    · rename_i d e
      cases i2
      cases i1 with
      | @tup a vs xs h ha =>
        obtain ⟨w, e1, e2⟩ := atI_is ha e
        exact .inr (.inl ⟨a, vs, _, w, rfl, rfl, sqt_up o h, e1, hq _ _ I M H (Same.refl I) o e2 hd⟩)
    · exact hd.elim
  · obtain ⟨hz, hd⟩ := hd
    split at hd
    · rename_i c e
      cases i2
      cases i1
      exact .inr (.inr ⟨_, _, c, rfl, rfl, hz, e, hq _ _ I M H (Same.refl I) o (.str _) hd⟩)
    · exact hd.elim
  · split at hd
    · rename_i d e
      cases i2
      cases i1 with
      | @scr a ns h =>
        exact .inl ⟨a, _, _, .int d, rfl, rfl, sql_up o h, by rw [atI_map, e]; rfl, hq _ _ I M H (Same.refl I) o (.int _) hd⟩
    · exact hd.elim
  · split at hd
    · rename_i xs ex
      split at hd
      · rename_i d e
        cases i2
        obtain ⟨a, vs, rfl, h1, h2⟩ := rdL_is o i1 ex
        obtain ⟨w, e1, e2⟩ := atI_is h2 e
        exact .inl ⟨a, vs, _, w, rfl, rfl, .inl (.inl h1), e1, hq _ _ I M H (Same.refl I) o e2 hd⟩
      · exact hd.elim
    · exact hd.elim
  · exact hd.elim
theorem e_ix (ha : PEd X a da) (hb : PEd X b db) (hs : PlainIx b := by intro _ _; rfl) : PEd X (.Subscript a b pos) (dOp dIx da db) := let ⟨_, a1, a2⟩ := ha.ex; let ⟨_, b1, b2⟩ := hb.ex; ⟨_, pe_ix ix_seq a1 b1 hs, re_op rr_ix a2 b2⟩
end

/-! ### slices -/
abbrev DO := Rho → MS → (Option Int → MS → Prop) → Prop
def RO (K : PySem.W.Frag) (t : TO) (d : DO) : Prop := ∀ (I F : Hp) (σ : L2.St) (ρ : Rho) (M : MS) (H : Hp) (Q : Option Int → Hp → Prop) (P : Option Int → MS → Prop), Sl K I σ ρ → Ok K I F M H → d ρ M P →
  (∀ x I' M' H', Same I I' → Ok K I' F M' H' → P x M' → Q x H') → t σ H Q
structure POd (X : Cx) (e : Option Expr) (d : DO) : Prop where
  ex : ∃ t, PO X e t ∧ RO X.K t d
def dNoPart : DO := fun _ M P => P none M
def dPart (d : DE) : DO := fun ρ M P => d ρ M fun x M' => match x with
  | .int i => P (some i) M'
  | _ => False
def cutD (xs : List Dt) (lo hi : Option Int) : List Dt := (xs.drop (HT.sIx xs.length 0 lo)).take (HT.sIx xs.length xs.length hi - HT.sIx xs.length 0 lo)
theorem cut_is {K : PySem.W.Frag} {I : Hp} {vs : List V} {xs : List Dt} (h : IsA K I vs xs) (lo hi : Option Int) : IsA K I (cutV vs lo hi) (cutD xs lo hi) := by
  unfold cutV cutD
  rw [h.len]
  exact (h.drop _).take _
def dSl (d : DE) (l u : DO) : DE := fun ρ M P => d ρ M fun x M1 => l ρ M1 fun lo M2 => u ρ M2 fun hi M3 => match x with
  | .tup xs => ¬ (HT.sIx xs.length 0 lo = 0 ∧ HT.sIx xs.length xs.length hi = xs.length) ∧ P (.tup (cutD xs lo hi)) M3
  | .str z => z.length ≤ sizeLine ∧ P (.str (cutS z lo hi)) M3
  | x => match rdL M3 x with
    | some xs => P (.lst (cutD xs lo hi)) M3
    | none => False
section
variable {X : Cx} {e : Expr} {lo hi : Option Expr} {de : DE} {dl du : DO} {pos p2 : Pos}
theorem po_noneD : POd X none dNoPart := ⟨_, po_none, fun I F σ ρ M H Q P sl ok hd hq => hq none I M H (Same.refl I) ok hd⟩
theorem po_someD (h : PEd X e de) : POd X (some e) (dPart de) := let ⟨_, a1, a2⟩ := h.ex; ⟨_, po_some a1, fun I F σ ρ M H Q P sl ok hd hq => a2 I F σ ρ M H _ _ sl ok hd fun v x I1 M1 H1 s1 o1 i1 p => by
  cases i1 with
  | int i => exact ⟨i, rfl, hq (some i) I1 M1 H1 s1 o1 p⟩
  | _ => exact (show False from p).elim⟩
end
end DL

/-! DL4: what is walked, for, while, comprehensions, methods. -/
namespace DL
open PySem PySem.Spec PyProof.Rows L2

/-! ### slices -/
section
variable {X : Cx} {e : Expr} {lo hi : Option Expr} {de : DE} {dl du : DO} {pos p2 : Pos}
theorem e_slice (he : PEd X e de) (hl : POd X lo dl) (hu : POd X hi du) : PEd X (.Subscript e (.Slice lo hi none p2) pos) (dSl de dl du) := by
  obtain ⟨te, a1, a2⟩ := he
  obtain ⟨tl, b1, b2⟩ := hl
  obtain ⟨tu, c1, c2⟩ := hu
  refine ⟨_, pe_slice (sl_tup.or (sl_str.or sl_list)) a1 b1 c1, fun I F σ ρ M H Q P sl ok hd hq => ?_⟩
  refine a2 I F σ ρ M H _ _ sl ok hd fun v x I1 M1 H1 s1 o1 i1 h1 => b2 I1 F σ ρ M1 H1 _ _ (sl.mono s1) o1 h1 fun l I2 M2 H2 s2 o2 h2 => c2 I2 F σ ρ M2 H2 _ _ ((sl.mono s1).mono s2) o2 h2 fun u I3 M3 H3 s3 o3 h3 => ?_
  have i3 := (i1.mono s2).mono s3
  have st := (s1.trans s2).trans s3
  have lists : ∀ xs, rdL M3 x = some xs → P (.lst (cutD xs l u)) M3 → rSlL X.K v l u H3 Q := fun xs ex p => by
    obtain ⟨a, vs, rfl, k1, k2⟩ := rdL_is o3 i3 ex
    refine ⟨a, vs, rfl, .inl (.inl k1), fun q hqn => ?_⟩
    have s4 : Same I3 (upd I3 q (.lst (cutV vs l u))) := same_new (o3.fresh hqn).1
    exact hq (.ref q) _ _ M3 _ (st.trans s4) (o3.newI hqn) (.lst upd_same ((cut_is k2 l u).mono s4)) p
  cases i3 with
  | @tup a vs xs e0 ha =>
    obtain ⟨k1, k2⟩ := (show _ ∧ _ from h3)
    refine .inl ⟨a, vs, rfl, sqt_up o3 e0, by rw [ha.len]; exact k1, fun q hqn => ?_⟩
    have s4 : Same I3 (upd I3 q (.tup (cutV vs l u))) := same_new (o3.fresh hqn).1
    exact hq (.ref q) _ _ M3 _ (st.trans s4) (o3.newI hqn) (.tup (.inl upd_same) ((cut_is ha l u).mono s4)) k2
  | str z =>
    obtain ⟨k1, k2⟩ := (show _ ∧ _ from h3)
    exact .inr (.inl ⟨z, rfl, k1, hq _ _ I3 M3 H3 st o3 (.str _) k2⟩)
  | @lst a vs xs e0 ha => exact .inr (.inr (lists xs rfl h3))
  | adr p =>
    have h3' : match rdL M3 (.adr p) with
      | some xs => P (.lst (cutD xs l u)) M3
      | none => False := h3
    cases ex : rdL M3 (.adr p) with
    | none => rw [ex] at h3'; exact h3'.elim
    | some xs => rw [ex] at h3'; exact .inr (.inr (lists xs ex h3'))
  | non => exact (show False from h3).elim
  | bl _ => exact (show False from h3).elim
  | int _ => exact (show False from h3).elim
  | obj _ _ => exact (show False from h3).elim
  | scr _ => exact (show False from h3).elim
  | ty _ => exact (show False from h3).elim
end

/-! ### what is walked -/
structure WalkD (K : PySem.W.Frag) (I : Hp) (J : It) (items : List Dt) : Prop where
  goes : ∀ (I' F : Hp) (M : MS) (H : Hp) (i : Nat), Same I I' → Ok K I' F M H → i < items.length → J.go i H
  stops : ∀ (I' F : Hp) (M : MS) (H : Hp), Same I I' → Ok K I' F M H → J.stop items.length H
  yields : ∀ (I' F : Hp) (M : MS) (H : Hp) (i : Nat) (v : V) (H' : Hp), Same I I' → Ok K I' F M H → i < items.length → J.yld i H v H' → ∃ I'' x, Same I' I'' ∧ Ok K I'' F M H' ∧ items[i]? = some x ∧ Is K I'' v x
theorem WalkD.mono {K : PySem.W.Frag} {I I1 : Hp} {J : It} {items : List Dt} (w : WalkD K I J items) (s : Same I I1) : WalkD K I1 J items :=
  ⟨fun I' F M H i e => w.goes I' F M H i (s.trans e), fun I' F M H e => w.stops I' F M H (s.trans e), fun I' F M H i v H' e => w.yields I' F M H i v H' (s.trans e)⟩
def RI (K : PySem.W.Frag) (w : TI) (d : DA) : Prop := ∀ (I F : Hp) (σ : L2.St) (ρ : Rho) (M : MS) (H : Hp) (R : It → Hp → Prop) (P : List Dt → MS → Prop), Sl K I σ ρ → Ok K I F M H → d ρ M P →
  (∀ J items I' M' H', Same I I' → Ok K I' F M' H' → WalkD K I' J items → P items M' → R J H') → w σ H R
structure PId (X : Cx) (tg iter : Expr) (d : DA) : Prop where
  ex : ∃ w, PI X tg iter w ∧ RI X.K w d
/-- a list (that never changes), a tuple, a text -/
def signs (z : Str) : List Dt := z.cps.toList.map fun c => Dt.str ⟨#[c]⟩
def dWalk (d : DE) : DA := fun ρ M P => d ρ M fun x M1 => match x with
  | .lst xs => P xs M1
  | .tup xs => P xs M1
  | .str z => P (signs z) M1
  | .scr ns => P (ns.map Dt.int) M1
  | _ => False
def iWalk (K : PySem.W.Frag) (tl : TE) : TI := fun σ H R => tl σ H fun x H1 => (∃ a xs, x = .ref a ∧ SqL K H1 a xs ∧ R (Itl K a) H1) ∨ (∃ a xs, x = .ref a ∧ SqT K H1 a xs ∧ R (Itt K a) H1) ∨ ∃ z, x = .str z ∧ R (Its z) H1
theorem pi_walk {X : Cx} {tg l : Expr} {tl : TE} (hl : PE X l tl) : PI X tg l (iWalk X.K tl) := by
  refine ⟨fun pins s σ H R I h => ?_⟩
  refine thn (hl.run pins s σ H _ I h) fun v s1 q0 => ?_
  obtain ⟨x, H1, I1, r1, q1⟩ := q0
  rcases q1 with ⟨a, xs, rfl, hx, q⟩ | ⟨a, xs, rfl, hx, q⟩ | ⟨z, rfl, q⟩
  · cases r1
    obtain ⟨its, rv, pl, _⟩ := I1.list hx
    exact wpAny_pyIter_list pl.isList (pi_one (tk := s1.toks) I1 _ (turn_list a _) ⟨_, Heap.get?_push_size _ rfl, rfl, rfl⟩ q)
  · cases r1
    obtain ⟨its, rv, pt, _⟩ := I1.tuple hx
    exact wpAny_pyIter_tuple (show s1.heap.IsTuple a its.toArray from pt) (pi_one (tk := s1.toks) I1 _ (turn_tuple a _) ⟨_, Heap.get?_push_size _ rfl, rfl, rfl⟩ q)
  · obtain ⟨t, rfl⟩ := r1
    cases ha : z.cps.all (· < 128) with
    | false => exact wpAny_pyIter_wide ha (pi_one (tk := s1.toks) I1 _ (turn_str _ z t "str_iterator" (.inr rfl)) ⟨_, Heap.get?_push_size _ rfl, rfl, rfl⟩ q)
    | true => exact wpAny_pyIter_ascii ha (pi_one (tk := s1.toks) I1 _ (turn_str _ z t "str_ascii_iterator" (.inl rfl)) ⟨_, Heap.get?_push_size _ rfl, rfl, rfl⟩ q)
section
variable {K : PySem.W.Frag} {I : Hp} {a : Addr} {vs : List V} {xs : List Dt}
theorem walkD_list (h : SqL K I a vs) (ha : IsA K I vs xs) : WalkD K I (Itl K a) xs := by
  refine ⟨fun I' F M H i s o hi => ?_, fun I' F M H s o => ?_, fun I' F M H i v H' s o hi y => ?_⟩
  · have hi' : i < vs.length := by rw [ha.len]; exact hi
    exact ⟨vs, vs[i], sql_up o (s.seq h), by simp [hi']⟩
  · exact ⟨vs, sql_up o (s.seq h), by rw [ha.len]; exact Nat.le_refl _⟩
  · obtain ⟨rfl, y2⟩ := y
    obtain ⟨d, e1, e2⟩ := ha.getV (y2 vs (sql_up o (s.seq h)))
    exact ⟨I', d, Same.refl I', o, e1, e2.mono s⟩
theorem walkD_tup (h : SqU K I a vs) (ha : IsA K I vs xs) : WalkD K I (Itt K a) xs := by
  refine ⟨fun I' F M H i s o hi => ?_, fun I' F M H s o => ?_, fun I' F M H i v H' s o hi y => ?_⟩
  · have hi' : i < vs.length := by rw [ha.len]; exact hi
    exact ⟨vs, vs[i], sqt_up o (h.up s), by simp [hi']⟩
  · exact ⟨vs, sqt_up o (h.up s), by rw [ha.len]; exact Nat.le_refl _⟩
  · obtain ⟨rfl, y2⟩ := y
    obtain ⟨d, e1, e2⟩ := ha.getV (y2 vs (sqt_up o (h.up s)))
    exact ⟨I', d, Same.refl I', o, e1, e2.mono s⟩
theorem walkD_str {z : Str} : WalkD K I (Its z) (signs z) := by
  have hl : (signs z).length = z.cps.size := by simp [signs]
  refine ⟨fun I' F M H i s o hi => ?_, fun I' F M H s o => ?_, fun I' F M H i v H' s o hi y => ?_⟩
  · show i < z.cps.size
    omega
  · show z.cps.size ≤ (signs z).length
    omega
  · obtain ⟨rfl, c, e, rfl⟩ := y
    refine ⟨I', .str ⟨#[c]⟩, Same.refl I', o, ?_, .str _⟩
    unfold signs
    rw [List.getElem?_map, Array.getElem?_toList, e]
    rfl
def rangeD (lo : Int) (n : Nat) : List Dt := (List.range n).map fun (k : Nat) => Dt.int (lo + (k : Int))
theorem rangeD_len (lo : Int) (n : Nat) : (rangeD lo n).length = n := by simp [rangeD]
theorem rangeD_get {lo : Int} {n i : Nat} (h : i < n) : (rangeD lo n)[i]? = some (.int (lo + (i : Int))) := by
  unfold rangeD
  rw [List.getElem?_map, List.getElem?_range h]
  rfl
theorem walkD_range {lo : Int} {n : Nat} : WalkD K I (Itr lo n) (rangeD lo n) := by
  have hl := rangeD_len lo n
  refine ⟨fun I' F M H i s o hi => ?_, fun I' F M H s o => ?_, fun I' F M H i v H' s o hi y => ?_⟩
  · show i < n
    omega
  · show n ≤ (rangeD lo n).length
    omega
  · obtain ⟨rfl, rfl⟩ := y
    exact ⟨I', _, Same.refl I', o, rangeD_get (by omega), .int _⟩
end
def dRng1 (d : DA) : DA := fun ρ M P => d ρ M fun xs M1 => match xs with
  | [.int j] => (-(2 ^ 62) ≤ j ∧ j < 2 ^ 62) ∧ P (rangeD 0 j.toNat) M1
  | _ => False
def dRng2 (d : DA) : DA := fun ρ M P => d ρ M fun xs M1 => match xs with
  | [.int i, .int j] => (-(2 ^ 62) ≤ i ∧ i < 2 ^ 62 ∧ -(2 ^ 62) ≤ j ∧ j < 2 ^ 62) ∧ P (rangeD i (j - i).toNat) M1
  | _ => False
section
variable {X : Cx} {tg l a b : Expr} {d : DE} {da : DA} {p pos : Pos}
theorem i_walk (h : PEd X l d) : PId X tg l (dWalk d) := let ⟨_, a1, a2⟩ := h.ex; ⟨_, pi_walk a1, fun I F σ ρ M H R P sl ok hd hq => a2 I F σ ρ M H _ _ sl ok hd fun v x I1 M1 H1 s1 o1 i1 h1 => by
  cases i1 with
  | @lst a vs xs e ha => exact .inl ⟨a, vs, rfl, .inl (.inl (o1.i _ _ e)), hq _ xs I1 M1 H1 s1 o1 (walkD_list (.inl (.inl e)) ha) h1⟩
  | @tup a vs xs e ha => exact .inr (.inl ⟨a, vs, rfl, sqt_up o1 e, hq _ xs I1 M1 H1 s1 o1 (walkD_tup e ha) h1⟩)
  | str z => exact .inr (.inr ⟨z, rfl, hq _ _ I1 M1 H1 s1 o1 walkD_str h1⟩)
  | @scr a ns e => exact .inl ⟨a, _, rfl, sql_up o1 e, hq _ _ I1 M1 H1 s1 o1 (walkD_list e (IsA.of_ints ns)) h1⟩
  | non => exact (show False from h1).elim
  | bl _ => exact (show False from h1).elim
  | int _ => exact (show False from h1).elim
  | obj _ _ => exact (show False from h1).elim
  | adr _ => exact (show False from h1).elim
  | ty _ => exact (show False from h1).elim⟩
theorem i_rng1 (hg : Gl X "range") (hm : X.mg "range" = none) (h : PAd X [a] da) (hs : starEach [a] X.env = [(false, eval a X.env)] := by rfl) : PId X tg (.Call (.Name "range" p) [a] [] pos) (dRng1 da) := let ⟨_, a1, a2⟩ := h.ex; ⟨_, pi_range1 hg hm a1 hs, fun I F σ ρ M H R P sl ok hd hq => a2 I F σ ρ M H _ _ sl ok hd fun vs xs I1 M1 H1 s1 o1 i1 h1 => by
  split at h1
  · rename_i j
    obtain ⟨v, rfl, hv⟩ := i1.one_inv
    cases hv
    exact ⟨j, rfl, h1.1.1, h1.1.2, hq _ _ I1 M1 H1 s1 o1 walkD_range h1.2⟩
  · exact h1.elim⟩
theorem i_rng2 (hg : Gl X "range") (hm : X.mg "range" = none) (h : PAd X [a, b] da) (hs : starEach [a, b] X.env = [(false, eval a X.env), (false, eval b X.env)] := by rfl) (hs2 : starEach [b] X.env = [(false, eval b X.env)] := by rfl) : PId X tg (.Call (.Name "range" p) [a, b] [] pos) (dRng2 da) := let ⟨_, a1, a2⟩ := h.ex; ⟨_, pi_range2 hg hm a1 hs hs2, fun I F σ ρ M H R P sl ok hd hq => a2 I F σ ρ M H _ _ sl ok hd fun vs xs I1 M1 H1 s1 o1 i1 h1 => by
  split at h1
  · rename_i i j
    obtain ⟨v, u, rfl, hv, hu⟩ := i1.two_inv
    cases hv; cases hu
    exact ⟨i, j, rfl, h1.1, hq _ _ I1 M1 H1 s1 o1 walkD_range h1.2⟩
  · exact h1.elim⟩
end

/-! ### for -/
def dFor (di : DA) (dg : DG) (db : DS) : DS := fun N ρ M => di ρ M fun items M1 => ∃ Pv : Nat → Rho → MS → Prop, Pv 0 ρ M1 ∧
  (∀ i x ρ' M', items[i]? = some x → Pv i ρ' M' → dg x ρ' M' fun ρ2 M2 => db { N with nx := Pv (i + 1), ct := Pv (i + 1), bk := N.nx } ρ2 M2) ∧ ∀ ρ' M', Pv items.length ρ' M' → N.nx ρ' M'
section
variable {X : Cx} {tg iter : Expr} {body : List Stmt} {di : DA} {dg : DG} {db : DS} {pos : Pos}
theorem rs_for {K : PySem.W.Frag} {wi : TI} {g : TG} {tb : TS} (hi : RI K wi di) (hg : RG K g dg) (hb : RS K tb db) : RS K (tFor wi g tb) (dFor di dg db) := fun I F σ ρ M H D N sl ok hd c => by
  refine hi I F σ ρ M H _ _ sl ok hd fun J items I1 M1 H1 s1 o1 w h1 => ?_
  obtain ⟨Pv, p0, step, fin⟩ := h1
  refine ⟨fun i m σ' H' => m = items.length - i ∧ i ≤ items.length ∧ ∃ I' ρ' M', Same I1 I' ∧ Sl K I' σ' ρ' ∧ Ok K I' F M' H' ∧ Pv i ρ' M', ⟨items.length, by simp, Nat.zero_le _, I1, ρ, M1, Same.refl I1, sl.mono s1, o1, p0⟩, ?_⟩
  rintro i m σ' H' ⟨rfl, hle, I2, ρ2, M2, s2, sl2, o2, p2⟩
  by_cases hlt : i < items.length
  · refine .inr ⟨w.goes I2 F M2 H' i s2 o2 hlt, fun σ3 H3 => ∃ I' ρ' M', Same I1 I' ∧ Sl K I' σ3 ρ' ∧ Ok K I' F M' H3 ∧ Pv (i + 1) ρ' M', fun σ3 H3 hn => ?_, fun v H3 y => ?_⟩
    · exact ⟨items.length - (i + 1), by omega, rfl, by omega, hn⟩
    · obtain ⟨I3, x, s3, o3, e3, i3⟩ := w.yields I2 F M2 H' i v H3 s2 o2 hlt y
      refine hg I3 F H3 M2 σ' ρ2 v x _ _ (sl2.mono s3) o3 i3 (step i x ρ2 M2 e3 p2) fun I4 σ4 ρ4 M4 H4 s4 sl4 o4 p4 => ?_
      have st := (s2.trans s3).trans s4
      refine hb I4 F σ4 ρ4 M4 H4 _ _ sl4 o4 p4 ⟨fun I5 σ5 ρ5 M5 H5 s5 sl5 o5 p5 => ?_, fun v5 x5 I5 M5 H5 s5 o5 i5 p5 => ?_, fun I5 σ5 ρ5 M5 H5 s5 sl5 o5 p5 => ?_, fun I5 σ5 ρ5 M5 H5 s5 sl5 o5 p5 => ?_⟩
      · exact ⟨I5, ρ5, M5, st.trans s5, sl5, o5, p5⟩
      · exact c.rt v5 x5 I5 M5 H5 ((s1.trans st).trans s5) o5 i5 p5
      · exact c.nx I5 σ5 ρ5 M5 H5 ((s1.trans st).trans s5) sl5 o5 p5
      · exact ⟨I5, ρ5, M5, st.trans s5, sl5, o5, p5⟩
  · have e : i = items.length := by omega
    subst e
    exact .inl ⟨w.stops I2 F M2 H' s2 o2, c.nx I2 σ' ρ2 M2 H' (s1.trans s2) sl2 o2 (fin ρ2 M2 p2)⟩
theorem st_for (hp : PassesOwn (model X.prog X.w) X.A X.env X.xe) (hc : X.calm = true) (hi : PId X tg iter di) (hg : PGd X tg dg) (hb : PSsd X body db)
    (hs : ∀ x, foldedSetIterable iter X.env x = pure x := by intro _; rfl) : PSd X (.For tg iter body [] pos) (dFor di dg db) := let ⟨_, a1, a2⟩ := hi.ex; let ⟨_, b1, b2⟩ := hg.ex; let ⟨_, c1, c2⟩ := hb.ex; ⟨_, ps_for hp hc a1 b1 c1 hs, rs_for a2 b2 c2⟩

/-! ### while -/
def dWhile (c : DT) (db : DS) : DS := fun N ρ M => ∃ W : Nat → Rho → MS → Prop, (∃ m, W m ρ M) ∧ ∀ m ρ' M', W m ρ' M' → c ρ' M' fun b M1 => if b = true then db { N with nx := fun ρ2 M2 => ∃ m', m' < m ∧ W m' ρ2 M2, ct := fun ρ2 M2 => ∃ m', m' < m ∧ W m' ρ2 M2, bk := N.nx } ρ' M1 else N.nx ρ' M1
theorem st_while {c : Expr} {dc : DT} (hp : PassesOwn (model X.prog X.w) X.A X.env X.xe) (hc : PTd X c dc) (hb : PSsd X body db) : PSd X (.While c body [] pos) (dWhile dc db) := let ⟨_, a1, a2⟩ := hc.ex; let ⟨_, b1, b2⟩ := hb.ex; ⟨_, ps_while hp a1 b1, fun I F σ ρ M H D N sl ok hd cn => by
  obtain ⟨W, ⟨m0, w0⟩, turn⟩ := hd
  refine ⟨fun m σ' H' => ∃ I' ρ' M', Same I I' ∧ Sl X.K I' σ' ρ' ∧ Ok X.K I' F M' H' ∧ W m ρ' M', ⟨m0, I, ρ, M, Same.refl I, sl, ok, w0⟩, ?_⟩
  rintro m σ' H' ⟨I1, ρ1, M1, s1, sl1, o1, w1⟩
  refine a2 I1 F σ' ρ1 M1 H' _ _ sl1 o1 (turn m ρ1 M1 w1) fun b I2 M2 H2 s2 o2 h2 => ?_
  cases b with
  | true =>
    rw [if_pos rfl] at h2 ⊢
    refine ⟨fun σ3 H3 => ∃ m', m' < m ∧ ∃ I' ρ' M', Same I I' ∧ Sl X.K I' σ3 ρ' ∧ Ok X.K I' F M' H3 ∧ W m' ρ' M', fun σ3 H3 h => h, ?_⟩
    have st := s1.trans s2
    refine b2 I2 F σ' ρ1 M2 H2 _ _ (sl1.mono s2) o2 h2 ⟨fun I5 σ5 ρ5 M5 H5 s5 sl5 o5 p5 => ?_, fun v5 x5 I5 M5 H5 s5 o5 i5 p5 => ?_, fun I5 σ5 ρ5 M5 H5 s5 sl5 o5 p5 => ?_, fun I5 σ5 ρ5 M5 H5 s5 sl5 o5 p5 => ?_⟩
    · obtain ⟨m', hm, w5⟩ := p5
      exact ⟨m', hm, I5, ρ5, M5, st.trans s5, sl5, o5, w5⟩
    · exact cn.rt v5 x5 I5 M5 H5 (st.trans s5) o5 i5 p5
    · exact cn.nx I5 σ5 ρ5 M5 H5 (st.trans s5) sl5 o5 p5
    · obtain ⟨m', hm, w5⟩ := p5
      exact ⟨m', hm, I5, ρ5, M5, st.trans s5, sl5, o5, w5⟩
  | false =>
    rw [if_neg Bool.false_ne_true] at h2 ⊢
    exact cn.nx I2 σ' ρ1 M2 H2 (s1.trans s2) (sl1.mono s2) o2 h2⟩
end

/-! ### comprehensions -/
structure PTsd (X : Cx) (ifs : List Expr) (d : DT) : Prop where
  ex : ∃ t, PTs X ifs t ∧ RT X.K t d
def dYes : DT := fun _ M P => P true M
theorem ts_nil {X : Cx} : PTsd X [] dYes := ⟨_, pts_nil, fun I F σ ρ M H Q P sl ok hd hq => hq true I M H (Same.refl I) ok hd⟩
theorem ts_one {X : Cx} {c : Expr} {d : DT} (h : PTd X c d) : PTsd X [c] d := let ⟨_, a1, a2⟩ := h.ex; ⟨_, pts_one a1, a2⟩
def dLc (di : DA) (dg : DG) (dt : DT) (de : DE) (vs : List Nat) : DE := fun ρ M P => di ρ M fun items M1 => items.length ≤ sizeLine ∧ ∃ Pv : Nat → List Dt → MS → Prop, Pv 0 [] M1 ∧
  (∀ i x acc M', items[i]? = some x → Pv i acc M' → dg x (wipeD ρ vs) M' fun ρ2 M2 => dt ρ2 M2 fun b M3 => if b = true then de ρ2 M3 fun y M4 => Pv (i + 1) (acc ++ [y]) M4 else Pv (i + 1) acc M3) ∧
  ∀ acc M', Pv items.length acc M' → P (.lst acc) M'
def dLcM (di : DA) (dg : DG) (dt : DT) (de : DE) (vs : List Nat) : DE := fun ρ M P => di ρ M fun items M1 => items.length ≤ sizeLine ∧ ∃ Pv : Nat → List Dt → MS → Prop, Pv 0 [] M1 ∧
  (∀ i x acc M', items[i]? = some x → Pv i acc M' → dg x (wipeD ρ vs) M' fun ρ2 M2 => dt ρ2 M2 fun b M3 => if b = true then de ρ2 M3 fun y M4 => Pv (i + 1) (acc ++ [y]) M4 else Pv (i + 1) acc M3) ∧
  ∀ acc M', Pv items.length acc M' → ∀ p, M' p = none → P (.adr p) (updM M' p (.lst acc))
/-- the target stores into wiped slots alone -/
def KeepsW (vs : List Nat) (g : TG) : Prop := ∀ (v : V) (σ σw : L2.St) (H : Hp) (R : L2.St → Hp → Prop), L2.wipe σ vs = σw → g v σ H R → g v σ H fun σ2 H2 => L2.wipe σ2 vs = σw ∧ R σ2 H2
def KeepsWs (vs : List Nat) (g : TGs) : Prop := ∀ (us : List V) (σ σw : L2.St) (H : Hp) (R : L2.St → Hp → Prop), L2.wipe σ vs = σw → g us σ H R → g us σ H fun σ2 H2 => L2.wipe σ2 vs = σw ∧ R σ2 H2
theorem wipe_idem (σ : L2.St) : ∀ vs : List Nat, L2.wipe (L2.wipe σ vs) vs = L2.wipe σ vs := by
  intro vs
  apply List.ext_getElem?
  intro i
  have hl : (L2.wipe (L2.wipe σ vs) vs).length = (L2.wipe σ vs).length := L2.wipe_length _ _
  by_cases hi : i < σ.length
  · have a : i < (L2.wipe σ vs).length := by rw [L2.wipe_length]; exact hi
    have b : i < (L2.wipe (L2.wipe σ vs) vs).length := by rw [hl]; exact a
    by_cases hv : i ∈ vs
    · have none_of : ∀ (τ : L2.St) (us : List Nat), i ∈ us → i < τ.length → (L2.wipe τ us)[i]? = some none := by
        intro τ us
        induction us with
        | nil => intro h; cases h
        | cons u us ih =>
          intro h ht
          unfold L2.wipe
          by_cases e : u = i
          · subst e
            rw [List.getElem?_set_self (by rw [L2.wipe_length]; exact ht)]
          · rw [List.getElem?_set_ne e]
            exact ih ((List.mem_cons.mp h).resolve_left (fun z => e z.symm)) ht
      rw [none_of _ vs hv a, none_of _ vs hv hi]
    · rw [L2.wipe_out hv]
  · have a : (L2.wipe σ vs).length ≤ i := by rw [L2.wipe_length]; omega
    rw [List.getElem?_eq_none (by rw [hl]; exact a), List.getElem?_eq_none a]
theorem wipe_set {j : Nat} (v : Option V) : ∀ (τ : L2.St) (us : List Nat), j ∈ us → L2.wipe (τ.set j v) us = L2.wipe τ us := by
  intro τ us
  induction us with
  | nil => intro h; cases h
  | cons u us ih =>
    intro h
    unfold L2.wipe
    by_cases e : u = j
    · subst e
      have k : ∀ (us : List Nat), (L2.wipe (τ.set u v) us).set u none = (L2.wipe τ us).set u none := by
        intro us
        induction us with
        | nil => show (τ.set u v).set u none = τ.set u none; rw [List.set_set]
        | cons w us ih =>
          unfold L2.wipe
          by_cases e2 : w = u
          · subst e2
            rw [List.set_set, List.set_set]
            exact ih
          · rw [List.set_comm _ _ e2, ih, List.set_comm _ _ e2]
      exact k us
    · rw [ih ((List.mem_cons.mp h).resolve_left (fun z => e z.symm))]
theorem keeps_name {i : Nat} {vs : List Nat} (h : i ∈ vs) : KeepsW vs (gName i) := fun v σ σw H R e q => ⟨by rw [wipe_set _ _ _ h]; exact e, q⟩
theorem keeps_nil {vs : List Nat} : KeepsWs vs gNil := fun us σ σw H R e q => ⟨q.1, e, q.2⟩
theorem keeps_cons {vs : List Nat} {g : TG} {r : TGs} (h1 : KeepsW vs g) (h2 : KeepsWs vs r) (mono : ∀ v σ H (R R' : L2.St → Hp → Prop), (∀ σ H, R σ H → R' σ H) → g v σ H R → g v σ H R') : KeepsWs vs (gCons g r) := fun us σ σw H R e q => by
  obtain ⟨v, r', rfl, q⟩ := q
  exact ⟨v, r', rfl, mono _ _ _ _ _ (fun σ' H' z => h2 _ _ _ _ _ z.1 z.2) (h1 _ _ _ _ _ e q)⟩
theorem keeps_tup {K : PySem.W.Frag} {n : Nat} {vs : List Nat} {r : TGs} (h : KeepsWs vs r) : KeepsW vs (gTup K n r) := fun v σ σw H R e q => by
  obtain ⟨a, xs, e1, e2, e3, q⟩ := q
  exact ⟨a, xs, e1, e2, e3, h _ _ _ _ _ e q⟩
/-! the weakest reading that a reading of data gives -/
def cTE (K : PySem.W.Frag) (d : DE) : TE := fun σ H Q => ∃ (I F : Hp) (ρ : Rho) (M : MS) (P : PD), Sl K I σ ρ ∧ Ok K I F M H ∧ d ρ M P ∧ ∀ v x I' M' H', Same I I' → Ok K I' F M' H' → Is K I' v x → P x M' → Q v H'
def cTT (K : PySem.W.Frag) (d : DT) : TT := fun σ H Q => ∃ (I F : Hp) (ρ : Rho) (M : MS) (P : Bool → MS → Prop), Sl K I σ ρ ∧ Ok K I F M H ∧ d ρ M P ∧ ∀ b I' M' H', Same I I' → Ok K I' F M' H' → P b M' → Q b H'
theorem cTE_re (K : PySem.W.Frag) (d : DE) : RE K (cTE K d) d := fun I F σ ρ M H Q P sl ok hd hq => ⟨I, F, ρ, M, P, sl, ok, hd, hq⟩
theorem cTT_rt (K : PySem.W.Frag) (d : DT) : RT K (cTT K d) d := fun I F σ ρ M H Q P sl ok hd hq => ⟨I, F, ρ, M, P, sl, ok, hd, hq⟩
theorem PEd.can {X : Cx} {e : Expr} {d : DE} (h : PEd X e d) : PE X e (cTE X.K d) := by
  obtain ⟨t, h1, h2⟩ := h
  refine ⟨fun pins s σ H Q I hw => h1.run pins s σ H Q I ?_⟩
  obtain ⟨J, F, ρ, M, P, sl, ok, hd, hq⟩ := hw
  exact h2 J F σ ρ M H Q P sl ok hd hq
theorem PTsd.can {X : Cx} {e : List Expr} {d : DT} (h : PTsd X e d) : PTs X e (cTT X.K d) := by
  obtain ⟨t, h1, h2⟩ := h
  refine ⟨fun pins s σ H Q I hw => h1.run pins s σ H Q I ?_⟩
  obtain ⟨J, F, ρ, M, P, sl, ok, hd, hq⟩ := hw
  exact h2 J F σ ρ M H Q P sl ok hd hq

/-- the list at D, framed while it is made -/
theorem re_lc {K : PySem.W.Frag} {wi : TI} {g : TG} {tt : TT} {te : TE} {vs : List Nat} {di : DA} {dg : DG} {dt : DT} {de : DE} (hi : RI K wi di) (hg : RG K g dg) (hk : KeepsW vs g) (ht : RT K tt dt) (he : RE K te de) :
    ∀ (I F : Hp) (σ : L2.St) (ρ : Rho) (M : MS) (H : Hp) (Q : VK) (P : List Dt → MS → Prop), Sl K I σ ρ → Ok K I F M H →
      (di ρ M fun items M1 => items.length ≤ sizeLine ∧ ∃ Pv : Nat → List Dt → MS → Prop, Pv 0 [] M1 ∧
        (∀ i x acc M', items[i]? = some x → Pv i acc M' → dg x (wipeD ρ vs) M' fun ρ2 M2 => dt ρ2 M2 fun b M3 => if b = true then de ρ2 M3 fun y M4 => Pv (i + 1) (acc ++ [y]) M4 else Pv (i + 1) acc M3) ∧ ∀ acc M', Pv items.length acc M' → P acc M') →
      (∀ D acc va I' M' H', Same I I' → F D = none → Ok K I' (upd F D (.lst va)) M' H' → IsA K I' va acc → P acc M' → Q (.ref D) H') → tLc wi g tt te vs σ H Q := fun I F σ ρ M H Q P sl ok hd hq => by
  refine hi I F σ ρ M H _ _ sl ok hd fun J items I1 M1 H1 s1 o1 w h1 => ?_
  obtain ⟨hz, Pv, p0, step, fin⟩ := h1
  intro D hD
  have hF : F D = none := (o1.fresh hD).2.1
  have key : ∀ i m H', (m = items.length - i ∧ i ≤ items.length ∧ ∃ I' M' acc va, Same I1 I' ∧ Ok K I' (upd F D (.lst va)) M' H' ∧ IsA K I' va acc ∧ acc.length ≤ i ∧ Pv i acc M') →
      (J.stop i H' ∧ Q (.ref D) H') ∨ (J.go i H' ∧ ∃ Nx : Hp → Prop, (∀ H', Nx H' → ∃ m', m' < m ∧ (m' = items.length - (i + 1) ∧ i + 1 ≤ items.length ∧ ∃ I' M' acc va, Same I1 I' ∧ Ok K I' (upd F D (.lst va)) M' H' ∧ IsA K I' va acc ∧ acc.length ≤ i + 1 ∧ Pv (i + 1) acc M')) ∧
        ∀ x H2, J.yld i H' x H2 → g x (L2.wipe σ vs) H2 fun σ2 H2 => L2.wipe σ2 vs = L2.wipe σ vs ∧ tt σ2 H2 fun b H3 =>
          if b = true then te σ2 H3 fun y H4 => ∃ acc, H4 D = some (.lst acc) ∧ acc.length < sizeLine ∧ Nx (upd H4 D (.lst (acc ++ [y]))) else Nx H3) := by
    rintro i m H' ⟨rfl, hle, I2, M2, acc, va, s2, o2, ia, hl, p2⟩
    by_cases hlt : i < items.length
    · refine .inr ⟨w.goes I2 _ M2 H' i s2 o2 hlt, fun H3 => ∃ I' M' acc va, Same I1 I' ∧ Ok K I' (upd F D (.lst va)) M' H3 ∧ IsA K I' va acc ∧ acc.length ≤ i + 1 ∧ Pv (i + 1) acc M', fun H3 hn => ⟨items.length - (i + 1), by omega, rfl, by omega, hn⟩, fun v H3 y => ?_⟩
      obtain ⟨I3, x, s3, o3, e3, i3⟩ := w.yields I2 _ M2 H' i v H3 s2 o2 hlt y
      have sl3 : Sl K I3 (L2.wipe σ vs) (wipeD ρ vs) := (((sl.mono s1).mono s2).mono s3).wipe vs
      refine hk v _ _ _ _ (wipe_idem σ vs) (hg I3 _ H3 M2 _ _ v x _ _ sl3 o3 i3 (step i x acc M2 e3 p2) fun I4 σ4 ρ4 M4 H4 s4 sl4 o4 p4 => ?_)
      refine ht I4 _ σ4 ρ4 M4 H4 _ _ sl4 o4 p4 fun b I5 M5 H5 s5 o5 p5 => ?_
      cases b with
      | true =>
        rw [if_pos rfl] at p5 ⊢
        refine he I5 _ σ4 ρ4 M5 H5 _ _ (sl4.mono s5) o5 p5 fun u z I6 M6 H6 s6 o6 i6 p6 => ?_
        have s36 := ((s3.trans s4).trans s5).trans s6
        refine ⟨va, o6.f D _ upd_same, by rw [ia.len]; omega, I6, M6, acc ++ [z], va ++ [u], s2.trans s36, ?_, (ia.mono s36).append (.one i6), by rw [List.length_append, List.length_singleton]; omega, p6⟩
        have o7 := o6.wrF (o' := .lst (va ++ [u]))
        exact o7
      | false =>
        rw [if_neg Bool.false_ne_true] at p5 ⊢
        have s35 := (s3.trans s4).trans s5
        exact ⟨I5, M5, acc, va, s2.trans s35, o5, ia.mono s35, by omega, p5⟩
    · have e : i = items.length := by omega
      subst e
      exact .inl ⟨w.stops I2 _ M2 H' s2 o2, hq D acc va I2 M2 H' (s1.trans s2) hF o2 ia (fin acc M2 p2)⟩
  exact ⟨_, ⟨items.length, by simp, Nat.zero_le _, I1, M1, [], [], Same.refl I1, o1.newF hD, .nil, Nat.le_refl _, p0⟩, key⟩
section
variable {X : Cx} {elt tg iter : Expr} {ifs : List Expr} {scope : Scope} {own : List (Str × Nat)} {pos spos py : Pos} {di : DA} {g : TG} {dg : DG} {dt : DT} {de : DE}
theorem re_lcI {K : PySem.W.Frag} {wi : TI} {tt : TT} {te : TE} {vs : List Nat} (hi : RI K wi di) (hg : RG K g dg) (hk : KeepsW vs g) (ht : RT K tt dt) (he : RE K te de) : RE K (tLc wi g tt te vs) (dLc di dg dt de vs) := fun I F σ ρ M H Q P sl ok hd hq =>
  re_lc hi hg hk ht he I F σ ρ M H Q (fun acc M' => P (.lst acc) M') sl ok hd fun D acc va I' M' H' s hF o ia p => by
    obtain ⟨o2, hn⟩ := o.giveF hF
    have s2 : Same I' (upd I' D (.lst va)) := same_new hn
    exact hq _ _ _ M' H' (s.trans s2) o2 (.lst upd_same (ia.mono s2)) p
theorem re_lcM {K : PySem.W.Frag} {wi : TI} {tt : TT} {te : TE} {vs : List Nat} (hi : RI K wi di) (hg : RG K g dg) (hk : KeepsW vs g) (ht : RT K tt dt) (he : RE K te de) : RE K (tLc wi g tt te vs) (dLcM di dg dt de vs) := fun I F σ ρ M H Q P sl ok hd hq =>
  re_lc hi hg hk ht he I F σ ρ M H Q (fun acc M' => ∀ p, M' p = none → P (.adr p) (updM M' p (.lst acc))) sl ok hd fun D acc va I' M' H' s hF o ia p => by
    obtain ⟨o2, hn⟩ := o.giveM (u := .lst acc) hF ⟨va, o.f D _ upd_same, ia⟩
    exact hq _ _ I' _ H' s o2 (.adr D) (p D hn)
theorem e_lc (hc : X.calm = true) (hN : X.N.Nodup) (hi : PId X tg iter di) (ok : BlkOk X.N X.env.scope scope own)
    (hg : ∀ (s : Shared) (H : Hp) (C : Addr) (cl : List (Str × Addr)) (fp : List Addr), PG (X.blk s H scope (compEnvC scope cl C X.env) fp) tg g) (hr : RG X.K g dg) (hk : KeepsW (own.map (·.2)) g)
    (ht : ∀ (s : Shared) (H : Hp) (C : Addr) (cl : List (Str × Addr)) (fp : List Addr), PTsd (X.blk s H scope (compEnvC scope cl C X.env) fp) ifs dt)
    (he : ∀ (s : Shared) (H : Hp) (C : Addr) (cl : List (Str × Addr)) (fp : List Addr), PEd (X.blk s H scope (compEnvC scope cl C X.env) fp) elt de) (hs : ∀ x, foldedSetIterable iter X.env x = pure x := by intro _; rfl) :
    PEd X (.ListComp elt [⟨tg, iter, ifs, 0⟩] scope pos) (dLc di dg dt de (own.map (·.2))) := by
  obtain ⟨wi, i1, i2⟩ := hi
  exact ⟨_, pe_lc hc hN i1 ok hg (fun s H C cl fp => (ht s H C cl fp).can) (fun s H C cl fp => (he s H C cl fp).can) hs, re_lcI i2 hr hk (cTT_rt _ _) (cTE_re _ _)⟩
theorem e_lcM (hc : X.calm = true) (hN : X.N.Nodup) (hi : PId X tg iter di) (ok : BlkOk X.N X.env.scope scope own)
    (hg : ∀ (s : Shared) (H : Hp) (C : Addr) (cl : List (Str × Addr)) (fp : List Addr), PG (X.blk s H scope (compEnvC scope cl C X.env) fp) tg g) (hr : RG X.K g dg) (hk : KeepsW (own.map (·.2)) g)
    (ht : ∀ (s : Shared) (H : Hp) (C : Addr) (cl : List (Str × Addr)) (fp : List Addr), PTsd (X.blk s H scope (compEnvC scope cl C X.env) fp) ifs dt)
    (he : ∀ (s : Shared) (H : Hp) (C : Addr) (cl : List (Str × Addr)) (fp : List Addr), PEd (X.blk s H scope (compEnvC scope cl C X.env) fp) elt de) (hs : ∀ x, foldedSetIterable iter X.env x = pure x := by intro _; rfl) :
    PEd X (.ListComp elt [⟨tg, iter, ifs, 0⟩] scope pos) (dLcM di dg dt de (own.map (·.2))) := by
  obtain ⟨wi, i1, i2⟩ := hi
  exact ⟨_, pe_lc hc hN i1 ok hg (fun s H C cl fp => (ht s H C cl fp).can) (fun s H C cl fp => (he s H C cl fp).can) hs, re_lcM i2 hr hk (cTT_rt _ _) (cTE_re _ _)⟩
/-- name = [..] on one line, the name a local one -/
theorem st_lc (i : Nat) {y : Str} (hc : X.calm = true) (hN : X.N.Nodup) (hy : X.N[i]? = some y) (hyl : X.env.scope.names.lookup y = some .local)
    (hsw : swapsWith (.ListComp elt [⟨tg, iter, ifs, 0⟩] scope pos) (some (.Name y py)) spos.line X.env = pure true) (hi : PId X tg iter di) (ok : BlkOk X.N X.env.scope scope own)
    (hg : ∀ (s : Shared) (H : Hp) (C : Addr) (cl : List (Str × Addr)) (fp : List Addr), PG (X.blk s H scope (compEnvC scope cl C X.env) fp) tg g) (hr : RG X.K g dg) (hk : KeepsW (own.map (·.2)) g)
    (ht : ∀ (s : Shared) (H : Hp) (C : Addr) (cl : List (Str × Addr)) (fp : List Addr), PTsd (X.blk s H scope (compEnvC scope cl C X.env) fp) ifs dt)
    (he : ∀ (s : Shared) (H : Hp) (C : Addr) (cl : List (Str × Addr)) (fp : List Addr), PEd (X.blk s H scope (compEnvC scope cl C X.env) fp) elt de) (hs : ∀ x, foldedSetIterable iter X.env x = pure x := by intro _; rfl) :
    PSd X (.Assign [.Name y py] (.ListComp elt [⟨tg, iter, ifs, 0⟩] scope pos) spos) (dAsg (dLc di dg dt de (own.map (·.2))) (dgName i)) := by
  obtain ⟨wi, i1, i2⟩ := hi
  exact ⟨_, ps_setLc hc hN hy hyl hsw i1 ok hg (fun s H C cl fp => (ht s H C cl fp).can) (fun s H C cl fp => (he s H C cl fp).can) hs, rs_asg (re_lcI i2 hr hk (cTT_rt _ _) (cTE_re _ _)) (rg_name i)⟩
theorem st_lcM (i : Nat) {y : Str} (hc : X.calm = true) (hN : X.N.Nodup) (hy : X.N[i]? = some y) (hyl : X.env.scope.names.lookup y = some .local)
    (hsw : swapsWith (.ListComp elt [⟨tg, iter, ifs, 0⟩] scope pos) (some (.Name y py)) spos.line X.env = pure true) (hi : PId X tg iter di) (ok : BlkOk X.N X.env.scope scope own)
    (hg : ∀ (s : Shared) (H : Hp) (C : Addr) (cl : List (Str × Addr)) (fp : List Addr), PG (X.blk s H scope (compEnvC scope cl C X.env) fp) tg g) (hr : RG X.K g dg) (hk : KeepsW (own.map (·.2)) g)
    (ht : ∀ (s : Shared) (H : Hp) (C : Addr) (cl : List (Str × Addr)) (fp : List Addr), PTsd (X.blk s H scope (compEnvC scope cl C X.env) fp) ifs dt)
    (he : ∀ (s : Shared) (H : Hp) (C : Addr) (cl : List (Str × Addr)) (fp : List Addr), PEd (X.blk s H scope (compEnvC scope cl C X.env) fp) elt de) (hs : ∀ x, foldedSetIterable iter X.env x = pure x := by intro _; rfl) :
    PSd X (.Assign [.Name y py] (.ListComp elt [⟨tg, iter, ifs, 0⟩] scope pos) spos) (dAsg (dLcM di dg dt de (own.map (·.2))) (dgName i)) := by
  obtain ⟨wi, i1, i2⟩ := hi
  exact ⟨_, ps_setLc hc hN hy hyl hsw i1 ok hg (fun s H C cl fp => (ht s H C cl fp).can) (fun s H C cl fp => (he s H C cl fp).can) hs, rs_asg (re_lcM i2 hr hk (cTT_rt _ _) (cTE_re _ _)) (rg_name i)⟩
end

/-! ### methods of lists -/
abbrev D1L := Dt → List Dt → MS → PD → Prop
def RM (K : PySem.W.Frag) (r : V → List V → Hp → VK → Prop) (d : D1L) : Prop := ∀ (I F H : Hp) (M : MS) (v : V) (x : Dt) (vs : List V) (xs : List Dt) (Q : VK) (P : PD), Ok K I F M H → Is K I v x → IsA K I vs xs → d x xs M P →
  (∀ w z I' M' H', Same I I' → Ok K I' F M' H' → Is K I' w z → P z M' → Q w H') → r v vs H Q
def isLst (M : MS) : Dt → Prop
  | .lst _ => True
  | .adr p => match M p with
    | some (.lst _) => True
    | some .deck => True
    | _ => False
  | _ => False
def isTy (T : String) (M : MS) (x : Dt) : Prop := match x with
  | .str _ => T = "str"
  | .int _ => T = "int"
  | x => T = "list" ∧ isLst M x
theorem isTy_ok {K : PySem.W.Frag} {I F H : Hp} {M : MS} {T : String} {v : V} {x : Dt} (o : Ok K I F M H) (i : Is K I v x) (h : isTy T M x) : tyV K T v H := by
  cases i with
  | str z => exact h
  | int z => exact h
  | @lst a vs ds e ha => exact .inl ⟨h.1, vs, .inl (.inl (o.i _ _ e))⟩
  | adr p =>
    obtain ⟨h1, h2⟩ := (show _ ∧ isLst M (.adr p) from h)
    simp only [isLst] at h2
    cases em : M p with
    | none => rw [em] at h2; exact h2.elim
    | some u =>
      rw [em] at h2
      have hm := o.m p _ em
      cases u with
      | lst ds => obtain ⟨vs, e1, _⟩ := hm; exact .inl ⟨h1, vs, .inl (.inl e1)⟩
      | deck => obtain ⟨ns, e1⟩ := hm; exact .inl ⟨h1, _, .inl (.inl e1)⟩
      | ins _ _ _ => exact h2.elim
      | raw _ => exact h2.elim
  | non => exact (show _ ∧ False from h).2.elim
  | bl _ => exact (show _ ∧ False from h).2.elim
  | tup _ _ => exact (show _ ∧ False from h).2.elim
  | obj _ _ => exact (show _ ∧ False from h).2.elim
  | scr _ => exact (show _ ∧ False from h).2.elim
  | ty _ => exact (show _ ∧ False from h).2.elim
/-- the receiver, then the arguments, then the method -/
def dBM (T : String) (r : D1L) (d : DE) (a : DA) : DE := fun ρ M P => d ρ M fun x M1 => isTy T M1 x ∧ a ρ M1 fun xs M2 => r x xs M2 P
def dBM0 (T : String) (r : D1L) (d : DE) : DE := fun ρ M P => d ρ M fun x M1 => isTy T M1 x ∧ r x [] M1 P
structure Mt (X : Cx) (id : String) (d : D1L) : Prop where
  ex : ∃ r, MtR X id r ∧ RM X.K r d
section
variable {X : Cx} {o e : Expr} {es : List Expr} {de : DE} {da : DA} {name : Str} {apos cpos : Pos} {T id : String} {d : D1L}
theorem e_bm0 (pa : PlainAttrs T) (slot : Slot T name id) (hty : typeOf (.builtin id) = pure (.type "method_descriptor")) (hm : Mt X id d) (ho : PEd X o de)
    (hbase : attributeBase o name X.env (eval o X.env) = eval o X.env := by rfl) (hline : (apos.endLine == cpos.line) = true := by rfl) : PEd X (.Call (.Attribute o name apos) [] [] cpos) (dBM0 T d de) := by
  obtain ⟨t, a1, a2⟩ := ho
  obtain ⟨r, m1, m2⟩ := hm
  exact ⟨_, pe_bm0 pa slot hty m1 a1 hbase hline, fun I F σ ρ M H Q P sl ok hd hq => a2 I F σ ρ M H _ _ sl ok hd fun v x I1 M1 H1 s1 o1 i1 h1 =>
    ⟨isTy_ok o1 i1 h1.1, m2 I1 F H1 M1 v x [] [] Q P o1 i1 .nil h1.2 fun w z I2 M2 H2 s2 o2 i2 h2 => hq w z I2 M2 H2 (s1.trans s2) o2 i2 h2⟩⟩
theorem e_bm (pa : PlainAttrs T) (slot : Slot T name id) (hty : typeOf (.builtin id) = pure (.type "method_descriptor")) (hm : Mt X id d) (ho : PEd X o de) (ha : PAd X (e :: es) da)
    (hbase : attributeBase o name X.env (eval o X.env) = eval o X.env := by rfl)
    (hfew : ((backTo cpos (starEach (e :: es) X.env)).all (fun x => !x.1) && (backToKw cpos (keywordEach [] X.env)).all (fun x => x.1.isSome)
      && decide ((e :: es).length + ([] : List Keyword).length + (if ([] : List Keyword).isEmpty then 0 else 1) < 30)) = true := by rfl)
    (hline : (apos.endLine == cpos.line) = true := by rfl) (hs : starEach (e :: es) X.env = (false, eval e X.env) :: starEach es X.env := by rfl) (hplain : (backTo cpos (starEach es X.env)).any (·.1) = false := by rfl) :
    PEd X (.Call (.Attribute o name apos) (e :: es) [] cpos) (dBM T d de da) := by
  obtain ⟨t, a1, a2⟩ := ho
  obtain ⟨ta, b1, b2⟩ := ha
  obtain ⟨r, m1, m2⟩ := hm
  exact ⟨_, pe_bm pa slot hty m1 a1 b1 hbase hfew hline hs hplain, fun I F σ ρ M H Q P sl ok hd hq => a2 I F σ ρ M H _ _ sl ok hd fun v x I1 M1 H1 s1 o1 i1 h1 =>
    ⟨isTy_ok o1 i1 h1.1, b2 I1 F σ ρ M1 H1 _ _ (sl.mono s1) o1 h1.2 fun vs xs I2 M2 H2 s2 o2 i2 h2 => m2 I2 F H2 M2 v x vs xs Q P o2 (i1.mono s2) i2 h2 fun w z I3 M3 H3 s3 o3 i3 h3 => hq w z I3 M3 H3 ((s1.trans s2).trans s3) o3 i3 h3⟩⟩
end
def dAppend : D1L := fun x xs M P => match x, xs with
  | .adr p, [y] => match M p with
    | some (.lst ds) => ds.length < sizeLine ∧ P .non (updM M p (.lst (ds ++ [y])))
    | some .deck => match y with
      | .int _ => False
      | _ => False
    | _ => False
  | _, _ => False
def dExtend : D1L := fun x xs M P => match x, xs with
  | .adr p, [y] => match M p, rdL M y with
    | some (.lst ds), some es => ds.length + es.length ≤ sizeLine ∧ P .non (updM M p (.lst (ds ++ es)))
    | _, _ => False
  | _, _ => False
/-- the last item; of a deck some int, and some deck is left -/
def dPop : D1L := fun x xs M P => match x, xs with
  | .adr p, [] => match M p with
    | some (.lst ds) => match ds[ds.length - 1]? with
      | some y => P y (updM M p (.lst ds.dropLast))
      | none => False
    | _ => False
  | _, _ => False
def dReverse : D1L := fun x xs M P => match x, xs with
  | .adr p, [] => match M p with
    | some (.lst ds) => P .non (updM M p (.lst ds.reverse))
    | _ => False
  | _, _ => False
def dInsert : D1L := fun x xs M P => match x, xs with
  | .adr p, [.int i, y] => match M p with
    | some (.lst ds) => ds.length < sizeLine ∧ (0 ≤ i ∧ i < 2 ^ 63) ∧ P .non (updM M p (.lst (ds.take i.toNat ++ [y] ++ ds.drop i.toNat)))
    | _ => False
  | _, _ => False
section
variable {X : Cx}
theorem mM {K : PySem.W.Frag} {I F H : Hp} {M : MS} {p : Addr} {ds : List Dt} (o : Ok K I F M H) (h : M p = some (.lst ds)) : ∃ vs, H p = some (.lst vs) ∧ IsA K I vs ds := o.m p _ h
theorem m_append : Mt X "list.append" dAppend := ⟨_, mt_append, fun I F H M v x vs xs Q P o i ia hd hq => by
  unfold dAppend at hd
  split at hd
  · rename_i p y
    split at hd
    · rename_i ds e
      obtain ⟨us, e1, e2⟩ := mM o e
      obtain ⟨u, rfl, hu⟩ := ia.one_inv
      cases i
      exact ⟨p, us, u, rfl, rfl, e1, by rw [e2.len]; exact hd.1, hq _ _ I _ _ (Same.refl I) (o.wrM (u := .lst (ds ++ [y])) e ⟨_, upd_same, e2.append (.one hu)⟩) .non hd.2⟩
    · split at hd <;> exact hd.elim
    · exact hd.elim
  · exact hd.elim⟩
theorem m_extend : Mt X "list.extend" dExtend := ⟨_, mt_extend, fun I F H M v x vs xs Q P o i ia hd hq => by
  unfold dExtend at hd
  split at hd
  · rename_i p y
    split at hd
    · rename_i ds es e ey
      obtain ⟨us, e1, e2⟩ := mM o e
      obtain ⟨u, rfl, hu⟩ := ia.one_inv
      obtain ⟨b, ws, rfl, k1, k2⟩ := rdL_is o hu ey
      cases i
      exact ⟨p, b, us, ws, rfl, rfl, e1, k1, by rw [e2.len, k2.len]; exact hd.1, hq _ _ I _ _ (Same.refl I) (o.wrM (u := .lst (ds ++ es)) e ⟨_, upd_same, e2.append k2⟩) .non hd.2⟩
    · exact hd.elim
  · exact hd.elim⟩
theorem m_pop : Mt X "list.pop" dPop := ⟨_, mt_pop, fun I F H M v x vs xs Q P o i ia hd hq => by
  unfold dPop at hd
  split at hd
  · rename_i p
    split at hd
    · rename_i ds e
      split at hd
      · rename_i y ey
        obtain ⟨us, e1, e2⟩ := mM o e
        cases i
        cases ia
        obtain ⟨u, k1, k2⟩ := e2.get ey
        exact ⟨p, us, u, rfl, rfl, e1, by rw [e2.len]; exact k1, hq _ _ I _ _ (Same.refl I) (o.wrM (u := .lst ds.dropLast) e ⟨_, upd_same, e2.dropLast⟩) k2 hd⟩
      · exact hd.elim
    · exact hd.elim
  · exact hd.elim⟩
theorem m_reverse : Mt X "list.reverse" dReverse := ⟨_, mt_reverse, fun I F H M v x vs xs Q P o i ia hd hq => by
  unfold dReverse at hd
  split at hd
  · rename_i p
    split at hd
    · rename_i ds e
      obtain ⟨us, e1, e2⟩ := mM o e
      cases i
      cases ia
      exact ⟨p, us, rfl, rfl, e1, hq _ _ I _ _ (Same.refl I) (o.wrM (u := .lst ds.reverse) e ⟨_, upd_same, e2.reverse⟩) .non hd⟩
    · exact hd.elim
  · exact hd.elim⟩
theorem m_insert : Mt X "list.insert" dInsert := ⟨_, mt_insert, fun I F H M v x vs xs Q P o i ia hd hq => by
  unfold dInsert at hd
  split at hd
  · rename_i p j y
    split at hd
    · rename_i ds e
      obtain ⟨us, e1, e2⟩ := mM o e
      obtain ⟨u, w, rfl, hu, hw⟩ := ia.two_inv
      cases i
      cases hu
      exact ⟨p, us, j, w, rfl, rfl, e1, by rw [e2.len]; exact hd.1, hd.2.1.1, hd.2.1.2, hq _ _ I _ _ (Same.refl I) (o.wrM (u := .lst _) e ⟨_, upd_same, ((e2.take _).append (.one hw)).append (e2.drop _)⟩) .non hd.2.2⟩
    · exact hd.elim
  · exact hd.elim⟩
end

/-! ### methods of texts -/
def dJoin : D1L := fun x xs M P => match x, xs with
  | .str a, [y] => ∃ ys : List Str, rdL M y = some (ys.map Dt.str) ∧ (ys.map (·.length)).sum + ys.length * a.length ≤ 16777216 ∧ P (.str (Txt.join a ys)) M
  | _, _ => False
def dSplit : D1L := fun x xs M P => match x, xs with
  | .str a, [.str b] => (b.length == 0) = false ∧ a.length + 2 ≤ sizeLine ∧ P (.lst ((Txt.split a b).map Dt.str)) M
  | _, _ => False
def dPartition : D1L := fun x xs M P => match x, xs with
  | .str a, [.str b] => (b.length == 0) = false ∧ a.length ≤ sizeLine ∧ P (.tup [.str (Txt.partition a b).1, .str (Txt.partition a b).2.1, .str (Txt.partition a b).2.2]) M
  | _, _ => False
section
variable {X : Cx}
theorem m_join : Mt X "str.join" dJoin := ⟨_, mt_join, fun I F H M v x vs xs Q P o i ia hd hq => by
  unfold dJoin at hd
  split at hd
  · obtain ⟨ys, e, hz, hp⟩ := hd
    obtain ⟨u, rfl, hu⟩ := ia.one_inv
    obtain ⟨b, ws, rfl, k1, k2⟩ := rdL_is o hu e
    cases i
    have := k2.strs
    subst this
    exact ⟨_, b, ys, rfl, rfl, .inl (.inl (.inl k1)), hz, hq _ _ I M H (Same.refl I) o (.str _) hp⟩
  · exact hd.elim⟩
theorem m_split : Mt X "str.split" dSplit := ⟨_, mt_split, fun I F H M v x vs xs Q P o i ia hd hq => by
  unfold dSplit at hd
  split at hd
  · rename_i a b
    obtain ⟨h1, h2, hp⟩ := hd
    obtain ⟨u, rfl, hu⟩ := ia.one_inv
    cases i
    cases hu
    refine ⟨a, b, rfl, rfl, h1, h2, fun p hpn => ?_⟩
    have s2 : Same I (upd I p (.lst ((Txt.split a b).map V.str))) := same_new (o.fresh hpn).1
    exact hq (.ref p) _ _ M _ s2 (o.newI hpn) (.lst upd_same (IsA.of_strs _)) hp
  · exact hd.elim⟩
theorem m_partition : Mt X "str.partition" dPartition := ⟨_, mt_partition, fun I F H M v x vs xs Q P o i ia hd hq => by
  unfold dPartition at hd
  split at hd
  · obtain ⟨h1, h2, hp⟩ := hd
    obtain ⟨u, rfl, hu⟩ := ia.one_inv
    cases i
    cases hu
    refine ⟨_, _, rfl, rfl, h1, h2, fun p hpn => ?_⟩
    exact hq (.ref p) _ _ M _ (same_new (o.fresh hpn).1) (o.newI hpn) (.tup (.inl upd_same) (.cons (.str _) (.cons (.str _) (.cons (.str _) .nil)))) hp
  · exact hd.elim⟩
end
end DL

/-! DL5: isinstance, enumerate, the deck, the law's end. -/
namespace DL
open PySem PySem.Spec PyProof.Rows L2

/-! ### isinstance of built-in types -/
def tyD (M : MS) : Dt → Option String
  | .non => some "NoneType"
  | .bl _ => some "bool"
  | .int _ => some "int"
  | .str _ => some "str"
  | .lst _ => some "list"
  | .tup _ => some "tuple"
  | .adr p => match M p with
    | some (.lst _) => some "list"
    | _ => none
  | _ => none
def tys : List Dt → Option (List String)
  | [] => some []
  | .ty n :: r => (tys r).map (n :: ·)
  | _ :: _ => none
def anyB (t : String) : List String → Option Bool
  | [] => some false
  | n :: r => match kitB t n with
    | some true => some true
    | some false => anyB t r
    | none => none
def isiB (t : String) (ns : List Dt) : Option Bool := (tys ns).bind (anyB t)
def dIsi : DL
  | [x, .ty n], M, P => match tyD M x with
    | some t => (match kitB t n with
      | some b => P (.bl b) M
      | none => False)
    | none => False
  | [x, .tup ns], M, P => match tyD M x with
    | some t => (match isiB t ns with
      | some b => P (.bl b) M
      | none => False)
    | none => False
  | _, _, _ => False
theorem tyD_ok {K : PySem.W.Frag} {I F H : Hp} {M : MS} {v : V} {x : Dt} {t : String} (o : Ok K I F M H) (i : Is K I v x) (h : tyD M x = some t) : TyX K H v (.type t) := by
  cases i with
  | non => cases h; exact .base .non
  | bl _ => cases h; exact .base (.bl _)
  | int _ => cases h; exact .base (.int _)
  | str _ => cases h; exact .base (.str _)
  | lst e _ => cases h; exact .base (.lst (o.i _ _ e))
  | @tup a vs ds e _ =>
    cases h
    rcases squ_up o e with e | ⟨ob, its, n, e1, e2, e3, _⟩
    · exact .base (.tup e)
    · exact .kTuple e1 e2
  | adr p =>
    simp only [tyD] at h
    cases em : M p with
    | none => rw [em] at h; cases h
    | some u =>
      rw [em] at h
      cases u with
      | lst ds =>
        cases h
        obtain ⟨vs, e1, _⟩ := o.m _ _ em
        exact .base (.lst e1)
      | deck => cases h
      | ins _ _ _ => cases h
      | raw _ => cases h
  | obj _ _ => cases h
  | scr _ => cases h
  | ty _ => cases h
theorem tys_ok {K : PySem.W.Frag} {I : Hp} : ∀ {ns : List Dt} {vs : List V} {l : List String}, IsA K I vs ns → tys ns = some l → Paired ClsV vs (l.map Value.type)
  | [], _, _, h, e => by
    cases h
    cases e
    exact .nil
  | x :: r, _, l, h, e => by
    cases h with
    | @cons v d vs ds h1 h2 =>
      cases h1 with
      | ty n =>
        simp only [tys, Option.map_eq_some_iff] at e
        obtain ⟨l', e1, rfl⟩ := e
        exact .cons (.ty n) (tys_ok h2 e1)
      | _ => cases e
theorem anyB_ok {K : PySem.W.Frag} {t : String} : ∀ {l : List String} {b : Bool}, anyB t l = some b → PySem.W.kitAny K (.type t) (l.map Value.type) = some b
  | [], b, e => by cases e; rfl
  | n :: r, b, e => by
    unfold anyB at e
    cases hk : kitB t n with
    | none => rw [hk] at e; cases e
    | some c =>
      rw [hk] at e
      cases c with
      | true => cases e; exact L2.kitAny_cons (kit_ty hk) (fun z => nomatch z) fun _ => rfl
      | false => exact L2.kitAny_cons (kit_ty hk) (fun _ => anyB_ok e) fun z => nomatch z
theorem c_isi {X : Cx} : OpL X (.builtin "isinstance") dIsi := ⟨_, call_isi.or (call_isiT.or call_isiK), fun I F H M vs xs Q P o i hd hq => by
  unfold dIsi at hd
  split at hd
  · rename_i x n
    obtain ⟨v, u, rfl, hv, hu⟩ := i.two_inv
    cases hu
    split at hd
    · rename_i t e
      split at hd
      · rename_i b eb
        exact .inl ⟨v, .ty n, _, _, b, rfl, .ty n, tyD_ok o hv e, kit_ty eb, hq _ _ I M H (Same.refl I) o (.bl b) hd⟩
      · exact hd.elim
    · exact hd.elim
  · rename_i x ns
    obtain ⟨v, u, rfl, hv, hu⟩ := i.two_inv
    split at hd
    · rename_i t e
      split at hd
      · rename_i b eb
        simp only [isiB, Option.bind_eq_some_iff] at eb
        obtain ⟨l, e1, e2⟩ := eb
        cases hu with
        | @tup a us _ es ha =>
          have hp := tys_ok ha e1
          have fin := hq _ _ I M H (Same.refl I) o (.bl b) hd
          rcases squ_up o es with es | ⟨ob, its, n, k1, k2, k3, _, k4⟩
          · exact .inr (.inl ⟨v, a, us, _, _, b, rfl, es, hp, tyD_ok o hv e, anyB_ok e2, fin⟩)
          · refine .inr (.inr ⟨v, a, ob.dict, l.map Value.type, n, ob.slots, _, b, rfl, ?_, tyD_ok o hv e, anyB_ok e2, fin⟩)
            have e5 := ClsV.all hp k4
            obtain ⟨c, dd, dt, sl⟩ := ob
            simp only at k2 k3
            subst k2 k3
            rw [k1, ← e5]
      · exact hd.elim
    · exact hd.elim
  · exact hd.elim⟩

/-! ### enumerate -/
/-- the pairs that an enumerate gives -/
def enumD (k : Int) (xs : List Dt) : List Dt := xs.zipIdx.map fun p => Dt.tup [.int (k + (p.2 : Int)), p.1]
theorem enumD_len (k : Int) (xs : List Dt) : (enumD k xs).length = xs.length := by simp [enumD]
theorem enumD_get {k : Int} {xs : List Dt} {i : Nat} {x : Dt} (h : xs[i]? = some x) : (enumD k xs)[i]? = some (.tup [.int (k + (i : Int)), x]) := by
  unfold enumD
  rw [List.getElem?_map, List.getElem?_zipIdx, h]
  simp
/-- .. at turn i: a new pair of the count and what Y tells -/
def ItY (n : Nat) (k : Int) (Y : Nat → V → Prop) (G : Hp → Prop) : It := ⟨fun i H => i < n ∧ G H, fun i H v H' => ∃ T x, v = .ref T ∧ H T = none ∧ H' = upd H T (.tup [.int (k + (i : Int)), x]) ∧ Y i x, fun i H => i = n ∧ G H⟩
theorem notin2 {e it a : Addr} (h1 : e ≠ it) (h2 : e ≠ a) : e ∉ [it, a] := by simp [h1, h2]
/-- over a list that stays as it is -/
theorem turn_enumL {P : Program} {w : World} {K : PySem.W.Frag} {elts : List Expr} {kk : Nat} {tpos : Pos} (a e it : Addr) (k : Int) (xs : List V) :
    Turn P w K (.Tuple elts kk tpos) (ItY xs.length k (fun i x => xs[i]? = some x) (fun H => SqL K H a xs)) [e, it] e (fun i h => (∃ old, IsEnum h e it (k + (i : Int)) old) ∧ h.IsListIter it a i ∧ e ≠ it) where
  mem := List.mem_cons_self
  obj := fun i h st b hb => by
    obtain ⟨⟨old, he⟩, ⟨o, ho, _, hd⟩, _⟩ := st
    rcases List.mem_cons.mp hb with z | hb
    · rw [z]; exact ⟨_, he, fun v q => nomatch q⟩
    · rw [List.mem_singleton.mp hb]; exact ⟨o, ho, fun v q => by rw [hd] at q; cases q⟩
  keep := fun i h h' st kp => let ⟨⟨old, he⟩, hi, hne⟩ := st; ⟨⟨old, kp e List.mem_cons_self _ he⟩, hi.at fun o q => kp it (List.mem_cons_of_mem _ List.mem_cons_self) o q, hne⟩
  item := by
    intro X hP hw hK hc i pins s σ H E I hf st hg
    subst hP hw hK
    obtain ⟨⟨old, he⟩, hit, hne⟩ := st
    obtain ⟨hlt, hq⟩ := hg
    obtain ⟨its, rv, p, hz⟩ := I.list hq
    have hel : e < s.heap.objs.size := Heap.lt_size he
    have hil : it < s.heap.objs.size := by obtain ⟨_, q, _⟩ := hit; exact Heap.lt_size q
    have hla : a ≠ it := fun z => by
      obtain ⟨o1, q1, c1, d1⟩ := hit
      obtain ⟨o2, n2, q2, c2, _, _⟩ := p
      rw [z, q1] at q2
      cases q2
      rw [c1] at c2
      exact absurd (Value.type.inj c2) (by decide)
    have hea : e ≠ a := fun z => by
      obtain ⟨o2, n2, q2, c2, _, _⟩ := p
      rw [← z, he] at q2
      cases q2
      exact absurd (Value.type.inj c2) (by decide)
    have hhd : X.A.in1.handled = none := I.ok.hd hc
    refine wpAny_pyNext_enum_itemC (n := its.toArray.size) (Draws.list hhd it a hla its.toArray) he ⟨hit, p.isList⟩ (by rw [List.size_toArray, ← rv.length]; exact hlt) hne (notin2 hne hea) fun u h' tk hu ho st' hT hsz hk => ?_
    refine ⟨_, rfl, wpAny_letOwnedTupleGo_enum (s := { s with heap := h', toks := tk + 1 }) ho fun h'' he' sb => ?_⟩
    have hT2 := (sb.2 _ (Nat.ne_of_gt hel)).trans hT
    obtain ⟨x, hx, ru⟩ : ∃ x, xs[i]? = some x ∧ RelV x u := by
      have hi : i < xs.length := hlt
      obtain ⟨u2, e2, r2⟩ := rv.get (List.getElem?_eq_getElem hi)
      have e3 : its.toArray[i]? = some u2 := by simpa using e2
      rw [hu] at e3
      cases e3
      exact ⟨_, List.getElem?_eq_getElem hi, r2⟩
    have new : ObjOk X.prog X.w (upd H s.heap.objs.size (.tup [.int (k + (i : Int)), x])) h'' s.heap.objs.size (.tup [.int (k + (i : Int)), x]) :=
      ⟨by show 2 ≤ sizeLine; decide, [.int (k + (i : Int)) tk, u], .cons ⟨_, rfl⟩ (.cons ru .nil), ⟨_, hT2, rfl, _, rfl⟩⟩
    have I1 : Inv X pins σ (upd H s.heap.objs.size (.tup [.int (k + (i : Int)), x])) { s with heap := h'', toks := tk + 1 } :=
      I.turnedNew (ch := [e, it]) (fun b ob hb q => (sb.2 b (fun z => hb (by rw [z]; exact List.mem_cons_self))).trans (hk b ob (fun z => hb (by rw [z]; exact List.mem_cons_self)) (fun z => hb (by rw [z]; exact List.mem_cons_of_mem _ List.mem_cons_self)) q)) hf (Nat.le_refl _) new
    refine ⟨.ref s.heap.objs.size, _, I1, rfl, ⟨_, x, rfl, I.hok.fresh (Nat.le_refl _), rfl, hx⟩, ⟨⟨u, ?_⟩, st'.1.at fun o q => (sb.2 it (Ne.symm hne)).trans q, hne⟩, fun b hb => ?_⟩
    · have e1 : k + ((i + 1 : Nat) : Int) = k + (i : Int) + 1 := by omega
      rw [e1]; exact he'
    · have hb' : b < s.heap.objs.size := by
        rcases List.mem_cons.mp hb with z | hb
        · rw [z]; exact hel
        · rw [List.mem_singleton.mp hb]; exact hil
      rw [upd_ne (Nat.ne_of_lt hb')]
      exact (hf b hb).1
  done := by
    intro X hP hw hK hc i pins s σ H E I hf st hg
    subst hP hw hK
    obtain ⟨⟨old, he⟩, hit, hne⟩ := st
    obtain ⟨rfl, hq⟩ := hg
    obtain ⟨its, rv, p, hz⟩ := I.list hq
    obtain ⟨f0, f1, f2, f3, f4, f5⟩ := hf it (List.mem_cons_of_mem _ List.mem_cons_self)
    have hl := rv.length
    have hla : a ≠ it := fun z => by
      obtain ⟨o1, q1, c1, d1⟩ := hit
      obtain ⟨o2, n2, q2, c2, _, _⟩ := p
      rw [z, q1] at q2
      cases q2
      rw [c1] at c2
      exact absurd (Value.type.inj c2) (by decide)
    have hhd : X.A.in1.handled = none := I.ok.hd hc
    have hit' : s.heap.IsListIter it a its.toArray.size := by
      rw [List.size_toArray, ← hl]
      exact hit
    exact wpAny_pyNext_enum_endD (Draws.list hhd it a hla its.toArray) he ⟨hit', p.isList⟩ fun h' eb => ⟨rfl, I.turned (t' := s.toks) (fun b o hb q => eb b o hb q) f0 f1 f3 f4 f5⟩
  self := fun A i s Q E st h => let ⟨⟨_, he⟩, _⟩ := st; wpAny_pyIter_enum he h
/-- over a text -/
theorem turn_enumS {P : Program} {w : World} {K : PySem.W.Frag} {elts : List Expr} {kk : Nat} {tpos : Pos} (z : Str) (tz : Tok) (e it : Addr) (k : Int) :
    Turn P w K (.Tuple elts kk tpos) (ItY z.cps.size k (fun i x => ∃ c, z.cps[i]? = some c ∧ x = .str ⟨#[c]⟩) (fun _ => True)) [e, it] e (fun i h => (∃ old, IsEnum h e it (k + (i : Int)) old) ∧ h.IsStrIter it (strIterType z) z tz i ∧ e ≠ it) where
  mem := List.mem_cons_self
  obj := fun i h st b hb => by
    obtain ⟨⟨old, he⟩, ⟨o, ho, _, hd⟩, _⟩ := st
    rcases List.mem_cons.mp hb with z | hb
    · rw [z]; exact ⟨_, he, fun v q => nomatch q⟩
    · rw [List.mem_singleton.mp hb]; exact ⟨o, ho, fun v q => by rw [hd] at q; cases q⟩
  keep := fun i h h' st kp => let ⟨⟨old, he⟩, ⟨o, ho, r⟩, hne⟩ := st; ⟨⟨old, kp e List.mem_cons_self _ he⟩, ⟨o, kp it (List.mem_cons_of_mem _ List.mem_cons_self) o ho, r⟩, hne⟩
  item := by
    intro X hP hw hK hc i pins s σ H E I hf st hg
    subst hP hw hK
    obtain ⟨⟨old, he⟩, hit, hne⟩ := st
    have hlt : i < z.cps.size := hg.1
    have hel : e < s.heap.objs.size := Heap.lt_size he
    have hil : it < s.heap.objs.size := by obtain ⟨_, q, _⟩ := hit; exact Heap.lt_size q
    have hhd : X.A.in1.handled = none := I.ok.hd hc
    have draws : Draws X.prog X.w X.A.in1 it [it] z.cps.size (fun i v => ∃ c u, z.cps[i]? = some c ∧ v = .str ⟨#[c]⟩ u) (fun i h => h.IsStrIter it (strIterType z) z tz i) := by
      unfold strIterType
      cases ha : z.cps.all (· < 128) with
      | false => exact Draws.strWide hhd it z tz
      | true => exact Draws.strAscii hhd it z tz
    refine wpAny_pyNext_enum_itemC draws he hit hlt hne (by simp [hne]) fun u h' tk hu ho st' hT hsz hk => ?_
    refine ⟨_, rfl, wpAny_letOwnedTupleGo_enum (s := { s with heap := h', toks := tk + 1 }) ho fun h'' he' sb => ?_⟩
    have hT2 := (sb.2 _ (Nat.ne_of_gt hel)).trans hT
    obtain ⟨c, tu, hx, rfl⟩ := hu
    have new : ObjOk X.prog X.w (upd H s.heap.objs.size (.tup [.int (k + (i : Int)), .str ⟨#[c]⟩])) h'' s.heap.objs.size (.tup [.int (k + (i : Int)), .str ⟨#[c]⟩]) :=
      ⟨by show 2 ≤ sizeLine; decide, [.int (k + (i : Int)) tk, .str ⟨#[c]⟩ tu], .cons ⟨_, rfl⟩ (.cons ⟨_, rfl⟩ .nil), ⟨_, hT2, rfl, _, rfl⟩⟩
    have I1 : Inv X pins σ (upd H s.heap.objs.size (.tup [.int (k + (i : Int)), .str ⟨#[c]⟩])) { s with heap := h'', toks := tk + 1 } :=
      I.turnedNew (ch := [e, it]) (fun b ob hb q => (sb.2 b (fun z => hb (by rw [z]; exact List.mem_cons_self))).trans (hk b ob (fun z => hb (by rw [z]; exact List.mem_cons_self)) (fun z => hb (by rw [z]; exact List.mem_cons_of_mem _ List.mem_cons_self)) q)) hf (Nat.le_refl _) new
    refine ⟨.ref s.heap.objs.size, _, I1, rfl, ⟨_, .str ⟨#[c]⟩, rfl, I.hok.fresh (Nat.le_refl _), rfl, c, hx, rfl⟩, ⟨⟨.str ⟨#[c]⟩ tu, ?_⟩, ?_, hne⟩, fun b hb => ?_⟩
    · have e1 : k + ((i + 1 : Nat) : Int) = k + (i : Int) + 1 := by omega
      rw [e1]; exact he'
    · obtain ⟨o, ho2, r⟩ := st'
      exact ⟨o, (sb.2 it (Ne.symm hne)).trans ho2, r⟩
    · have hb' : b < s.heap.objs.size := by
        rcases List.mem_cons.mp hb with z | hb
        · rw [z]; exact hel
        · rw [List.mem_singleton.mp hb]; exact hil
      rw [upd_ne (Nat.ne_of_lt hb')]
      exact (hf b hb).1
  done := by
    intro X hP hw hK hc i pins s σ H E I hf st hg
    subst hP hw hK
    obtain ⟨⟨old, he⟩, hit, hne⟩ := st
    obtain ⟨rfl, _⟩ := hg
    obtain ⟨f0, f1, f2, f3, f4, f5⟩ := hf it (List.mem_cons_of_mem _ List.mem_cons_self)
    have hhd : X.A.in1.handled = none := I.ok.hd hc
    have draws : Draws X.prog X.w X.A.in1 it [it] z.cps.size (fun i v => ∃ c u, z.cps[i]? = some c ∧ v = .str ⟨#[c]⟩ u) (fun i h => h.IsStrIter it (strIterType z) z tz i) := by
      unfold strIterType
      cases ha : z.cps.all (· < 128) with
      | false => exact Draws.strWide hhd it z tz
      | true => exact Draws.strAscii hhd it z tz
    exact wpAny_pyNext_enum_endD draws he hit fun h' eb => ⟨rfl, I.turned (t' := s.toks) (fun b o hb q => eb b o hb q) f0 f1 f3 f4 f5⟩
  self := fun A i s Q E st h => let ⟨⟨_, he⟩, _⟩ := st; wpAny_pyIter_enum he h
def dEnum (k : Int) (d : DA) : DA := fun ρ M P => d ρ M fun xs M1 => match xs with
  | [.lst xs] => P (enumD k xs) M1
  | [.str z] => P (enumD k (signs z)) M1
  | _ => False
def iEnumK (K : PySem.W.Frag) (k : Int) (ta : TA) : TI := fun σ H R => ta σ H fun vs H1 => (∃ a xs, vs = [.ref a] ∧ SqL K H1 a xs ∧ R (ItY xs.length k (fun i x => xs[i]? = some x) (fun H => SqL K H a xs)) H1) ∨
  ∃ z, vs = [.str z] ∧ R (ItY z.cps.size k (fun i x => ∃ c, z.cps[i]? = some c ∧ x = .str ⟨#[c]⟩) (fun _ => True)) H1
section
variable {X : Cx} {elts : List Expr} {kk : Nat} {tpos p pos kp : Pos} {e e2 : Expr} {da : DA} {pins : List (Addr × Obj)} {σ : L2.St} {H : Hp} {s : Shared} {R : It → Hp → Prop}
/-- the two new objects are the iterator's own -/
theorem enum_pie {J : It} {h' : Heap} {tn : Nat → Heap → Prop} (I : Inv X pins σ H s) (T : Turn X.prog X.w X.K (.Tuple elts kk tpos) J [s.heap.objs.size + 1, s.heap.objs.size] (s.heap.objs.size + 1) tn) (st : tn 0 h')
    (hk : ∀ b o, s.heap.get? b = some o → h'.get? b = some o) (q : R J H) : PIE X pins σ (.Tuple elts kk tpos) R (.ref (s.heap.objs.size + 1)) { s with heap := h' } := by
  refine ⟨s.heap.objs.size + 1, [s.heap.objs.size + 1, s.heap.objs.size], tn, J, H, rfl, I.kept (t' := s.toks) hk, T, st, fun b hb => ?_, q⟩
  have hle : s.heap.objs.size ≤ b := by
    rcases List.mem_cons.mp hb with z | hb
    · rw [z]; exact Nat.le_add_right _ _
    · rw [List.mem_singleton.mp hb]; exact Nat.le_refl _
  exact I.fpOk hle (I.hok.fresh hle)
theorem enum_fin {k : Int} {h' : Heap} {o : Obj} {E : Value → Shared → Prop} (I : Inv X pins σ H s) (he : IsEnum h' (s.heap.objs.size + 1) s.heap.objs.size k .none) (ho : h'.get? s.heap.objs.size = some o) (hk : ∀ b o, s.heap.get? b = some o → h'.get? b = some o)
    (h : (∃ a xs, o = { cls := .type "list_iterator", data := .fields #[.ref a, .int 0 0] } ∧ R (ItY xs.length k (fun i x => xs[i]? = some x) (fun H => SqL X.K H a xs)) H) ∨
      ∃ z t, o = { cls := .type (strIterType z), data := .fields #[.str z t, .int 0 0] } ∧ R (ItY z.cps.size k (fun i x => ∃ c, z.cps[i]? = some c ∧ x = .str ⟨#[c]⟩) (fun _ => True)) H) :
    wpAny (model X.prog X.w) X.A (pyIter (.ref (s.heap.objs.size + 1))) (PIE X pins σ (.Tuple elts kk tpos) R) E { s with heap := h' } := by
  refine wpAny_pyIter_enum he ?_
  have he0 : IsEnum h' (s.heap.objs.size + 1) s.heap.objs.size (k + ((0 : Nat) : Int)) .none := by
    have e0 : k + ((0 : Nat) : Int) = k := by omega
    rw [e0]
    exact he
  rcases h with ⟨a, xs, rfl, q⟩ | ⟨z, t, rfl, q⟩
  · exact enum_pie I (turn_enumL a _ _ k xs) ⟨⟨.none, he0⟩, ⟨_, ho, rfl, rfl⟩, Nat.succ_ne_self _⟩ hk q
  · exact enum_pie I (turn_enumS z t _ _ k) ⟨⟨.none, he0⟩, ⟨_, ho, rfl, rfl⟩, Nat.succ_ne_self _⟩ hk q
theorem pi_enum0 {ta : TA} (hg : Gl X "enumerate") (hm : X.mg "enumerate" = none) (ha : PA X [e] ta) (hs : starEach [e] X.env = [(false, eval e X.env)] := by rfl) :
    PI X (.Tuple elts kk tpos) (.Call (.Name "enumerate" p) [e] [] pos) (iEnumK X.K 0 ta) := by
  refine ⟨fun pins s σ H R I h => ?_⟩
  refine Call_ (ld_blt I hg hm boot_enumerate (PyProof.Rows.callWith_type1 (thn (ha.run pos pins s σ H _ I h) fun us s1 q0 => ?_) hs rfl))
  obtain ⟨vs, H1, I1, r1, q1⟩ := q0
  rcases q1 with ⟨a, xs, rfl, hx, q⟩ | ⟨z, rfl, q⟩
  · obtain ⟨u, rfl, ru⟩ := vals1 r1
    cases ru
    obtain ⟨its, rv, pl, _⟩ := I1.list hx
    refine call_enumerate_list pl.isList fun h' he hit hsz hk => ?_
    obtain ⟨o, ho, hc, hd⟩ := hit
    refine wpAny_pyIter_enum he ?_
    have he0 : IsEnum h' (s1.heap.objs.size + 1) s1.heap.objs.size ((0 : Int) + ((0 : Nat) : Int)) .none := he
    exact enum_pie I1 (turn_enumL a _ _ 0 xs) ⟨⟨.none, he0⟩, ⟨o, ho, hc, hd⟩, Nat.succ_ne_self _⟩ hk q
  · obtain ⟨u, rfl, t, rfl⟩ := vals1 r1
    refine call_enumerate_str fun h' he hit hsz hk => ?_
    refine wpAny_pyIter_enum he ?_
    have he0 : IsEnum h' (s1.heap.objs.size + 1) s1.heap.objs.size ((0 : Int) + ((0 : Nat) : Int)) .none := he
    exact enum_pie I1 (turn_enumS z t _ _ 0) ⟨⟨.none, he0⟩, hit, Nat.succ_ne_self _⟩ hk q
/-- a call of a built-in type with keywords -/
theorem callT_kw {M : Model} {A : Around} {E : Value → Shared → Prop} {s : Shared} {env : Env} {T : String} {kws : List Keyword} {Q : Value → Shared → Prop}
    (h : wpAny M A (spliced (backTo pos (starEach [e] env))) (fun vs s1 => wpAny M A (evalAll ((backToKw pos (keywordEach kws env)).map (·.2))) (fun ks s2 => wpAny M A (call (.type T) vs (((backToKw pos (keywordEach kws env)).filterMap (·.1)).zip ks)) Q E s2) E s1) E s)
    (hs : starEach [e] env = [(false, eval e env)]) (hall : (backToKw pos (keywordEach kws env)).all (·.1.isSome) = true) (hno : (backToKw pos (keywordEach kws env)).any (·.1.isNone) = false) :
    wpAny M A (callWith pos (.type T) [] (backTo pos (starEach [e] env)) (backToKw pos (keywordEach kws env))) Q E s := by
  have hpl : (backTo pos (starEach [e] env)).any (·.1) = false := by rw [hs]; rfl
  unfold callWith
  refine wpAny_bind (wpAny_holding (wpAny_mono (evalArgs_kw2 (Q := fun a s1 => wpAny M A (call (.type T) ([] ++ a.pos) a.kw) Q E s1) hall h hs) (fun a s1 h1 => wpAny_bind (wpAny_standAt ?_)) fun _ _ z => z))
  simp only [hpl, hno, Bool.or_false]
  exact wpAny_bind (wpAny_pure (wpAny_bind (wpAny_mono h1 (fun r s2 hr => wpAny_bind (wpAny_holding (wpAny_point (wpAny_pure hr)))) fun _ _ z => z)))
theorem pi_enumK {ta : TA} {k : Int} {j : Nat} {p3 : Pos} (hg : Gl X "enumerate") (hm : X.mg "enumerate" = none) (hk0 : -(2 ^ 63) ≤ k) (hk1 : k < 2 ^ 63) (ha : PA X [e] ta) (hs : starEach [e] X.env = [(false, eval e X.env)] := by rfl)  :
    PI X (.Tuple elts kk tpos) (.Call (.Name "enumerate" p) [e] [⟨some (Str.ofString "start"), .Constant (.int k) j p3, kp⟩] pos) (iEnumK X.K k ta) := by
  refine ⟨fun pins s σ H R I h => ?_⟩
  refine wpAny_Call_Name_kw (ld_blt I hg hm boot_enumerate ?_)
  refine callT_kw (thn (ha.run pos pins s σ H _ I h) fun us s1 q0 => ?_) hs rfl rfl
  obtain ⟨vs, H1, I1, r1, q1⟩ := q0
  refine kwAll_cons (wpAny_Constant_int (kwAll_nil ?_))
  have I2 : Inv X pins σ H1 { s1 with toks := s1.toks + 1 } := I1.tok _
  rcases q1 with ⟨a, xs, rfl, hx, q⟩ | ⟨z, rfl, q⟩
  · obtain ⟨u, rfl, ru⟩ := vals1 r1
    cases ru
    obtain ⟨its, rv, pl, _⟩ := I2.list hx
    exact enum_begins_start (begins_list a its.toArray) pl.isList hk0 hk1 fun h' he ho hsz hk => enum_fin I2 he ho hk (.inl ⟨a, xs, rfl, q⟩)
  · obtain ⟨u, rfl, t, rfl⟩ := vals1 r1
    exact enum_begins_start (begins_text z t) trivial hk0 hk1 fun h' he ho hsz hk => enum_fin I2 he ho hk (.inr ⟨z, t, rfl, q⟩)
theorem walkD_enumL {K : PySem.W.Frag} {I : Hp} {a : Addr} {vs : List V} {xs : List Dt} {k : Int} (h : SqL K I a vs) (ha : IsA K I vs xs) : WalkD K I (ItY vs.length k (fun i x => vs[i]? = some x) (fun H => SqL K H a vs)) (enumD k xs) := by
  have hl := enumD_len k xs
  have hv := ha.len
  refine ⟨fun I' F M H i s o hi => ⟨by omega, sql_up o (s.seq h)⟩, fun I' F M H s o => ⟨by omega, sql_up o (s.seq h)⟩, fun I' F M H i v H' s o hi y => ?_⟩
  obtain ⟨T, x, rfl, hT, rfl, hx⟩ := y
  obtain ⟨d, e1, e2⟩ := ha.getV hx
  have s2 : Same I' (upd I' T (.tup [.int (k + (i : Int)), x])) := same_new (o.fresh hT).1
  exact ⟨_, _, s2, o.newI hT, enumD_get e1, .tup (.inl upd_same) (.cons (.int _) (.cons ((e2.mono s).mono s2) .nil))⟩
theorem walkD_enumS {K : PySem.W.Frag} {I : Hp} {z : Str} {k : Int} : WalkD K I (ItY z.cps.size k (fun i x => ∃ c, z.cps[i]? = some c ∧ x = .str ⟨#[c]⟩) (fun _ => True)) (enumD k (signs z)) := by
  have hl := enumD_len k (signs z)
  have hv : (signs z).length = z.cps.size := by simp [signs]
  refine ⟨fun I' F M H i s o hi => ⟨by omega, trivial⟩, fun I' F M H s o => ⟨by omega, trivial⟩, fun I' F M H i v H' s o hi y => ?_⟩
  obtain ⟨T, x, rfl, hT, rfl, c, hx, rfl⟩ := y
  have s2 : Same I' (upd I' T (.tup [.int (k + (i : Int)), .str ⟨#[c]⟩])) := same_new (o.fresh hT).1
  refine ⟨_, _, s2, o.newI hT, enumD_get (x := .str ⟨#[c]⟩) ?_, .tup (.inl upd_same) (.cons (.int _) (.cons (.str _) .nil))⟩
  unfold signs
  rw [List.getElem?_map, Array.getElem?_toList, hx]
  rfl
theorem ri_enum {K : PySem.W.Frag} {k : Int} {ta : TA} (h : RA K ta da) : RI K (iEnumK K k ta) (dEnum k da) := fun I F σ ρ M H R P sl ok hd hq => h I F σ ρ M H _ _ sl ok hd fun vs xs I1 M1 H1 s1 o1 i1 h1 => by
  split at h1
  · obtain ⟨v, rfl, hv⟩ := i1.one_inv
    cases hv with
    | @lst a vs xs e ha => exact .inl ⟨a, vs, rfl, .inl (.inl (o1.i _ _ e)), hq _ _ I1 M1 H1 s1 o1 (walkD_enumL (.inl (.inl e)) ha) h1⟩
  · obtain ⟨v, rfl, hv⟩ := i1.one_inv
    cases hv
    exact .inr ⟨_, rfl, hq _ _ I1 M1 H1 s1 o1 walkD_enumS h1⟩
  · exact h1.elim
theorem i_enum0 (hg : Gl X "enumerate") (hm : X.mg "enumerate" = none) (ha : PAd X [e] da) (hs : starEach [e] X.env = [(false, eval e X.env)] := by rfl) :
    PId X (.Tuple elts kk tpos) (.Call (.Name "enumerate" p) [e] [] pos) (dEnum 0 da) := let ⟨_, a1, a2⟩ := ha.ex; ⟨_, pi_enum0 hg hm a1 hs, ri_enum a2⟩
theorem i_enumK {k : Int} {j : Nat} {p3 : Pos} (hg : Gl X "enumerate") (hm : X.mg "enumerate" = none) (ha : PAd X [e] da) (hk0 : -(2 ^ 63) ≤ k := by decide) (hk1 : k < 2 ^ 63 := by decide) (hs : starEach [e] X.env = [(false, eval e X.env)] := by rfl) :
    PId X (.Tuple elts kk tpos) (.Call (.Name "enumerate" p) [e] [⟨some (Str.ofString "start"), .Constant (.int k) j p3, kp⟩] pos) (dEnum k da) := let ⟨_, a1, a2⟩ := ha.ex; ⟨_, pi_enumK hg hm hk0 hk1 a1 hs, ri_enum a2⟩
end

/-! ### the deck -/
theorem Ok.peek {K : PySem.W.Frag} {I F H : Hp} {M : MS} {p : Addr} (o : Ok K I F M H) (h : M p = some .deck) : ∃ ns : List Int, Ok K I F (updM M p (.lst (ns.map Dt.int))) H := by
  obtain ⟨ns, e⟩ := deck_is o h
  refine ⟨ns, o.i, o.f, fun b x q => ?_, fun b q => ?_, o.df⟩
  · by_cases hb : b = p
    · subst hb
      rw [updM_same] at q
      cases q
      exact ⟨_, e, IsA.of_ints ns⟩
    · rw [updM_ne hb] at q
      exact o.m b x q
  · by_cases hb : b = p
    · subst hb
      exact o.dm b (by rw [h]; simp)
    · rw [updM_ne hb] at q
      exact o.dm b q
theorem Ok.hide {K : PySem.W.Frag} {I F H : Hp} {M M' : MS} {p : Addr} {ns : List Int} (o : Ok K I F (updM M p (.lst (ns.map Dt.int))) H) (h : M p = some .deck) : Ok K I F M H := by
  refine ⟨o.i, o.f, fun b x q => ?_, fun b q => ?_, o.df⟩
  · by_cases hb : b = p
    · subst hb
      rw [h] at q
      cases q
      obtain ⟨vs, e1, e2⟩ := o.m b _ updM_same
      exact ⟨ns, by rw [e1, e2.ints]⟩
    · exact o.m b x (by rw [updM_ne hb]; exact q)
  · by_cases hb : b = p
    · subst hb
      exact o.dm b (by rw [updM_same]; simp)
    · exact o.dm b (by rw [updM_ne hb]; exact q)
/-- a promise over some list of ints is one over a deck -/
theorem spD_deck {K : PySem.W.Frag} {S S' : DSp} (h : ∀ ds M P, S' ds M P → ∃ p, M p = some .deck ∧ ∀ ns : List Int, S ds (updM M p (.lst (ns.map Dt.int))) fun x M2 => P x M ∧ ∃ ms : List Int, M2 = updM M p (.lst (ms.map Dt.int))) :
    ∀ vs H Q E, spD K S' vs H Q E → spD K S vs H Q E := fun vs H Q E q => by
  obtain ⟨I, F, M, ds, P, o, i, hs, hq⟩ := q
  obtain ⟨p, hp, hS⟩ := h ds M P hs
  obtain ⟨ns, o2⟩ := o.peek hp
  refine ⟨I, F, _, ds, _, o2, i, hS ns, fun v x I' M' H' s o3 i3 p3 => ?_⟩
  obtain ⟨p4, ms, rfl⟩ := p3
  exact hq v x I' M H' s (o3.hide (M' := M) hp) i3 p4

/-! ### the law's end -/
def spLawD : DSp := fun ds M P => ∃ ns : List Int, ds = [.scr ns] ∧ ns.length ≤ 63 ∧ (∀ z ∈ ns, Builtin.Int.intBits z ≤ 1048576) ∧ ∀ M2, P (.bl true) M2
theorem law_spD (K : PySem.W.Frag) (H : Hp) (a : Addr) (ns : List Int) (h1 : ns.length ≤ 63) (h2 : ∀ z ∈ ns, Builtin.Int.intBits z ≤ 1048576) (h3 : SqL K H a (ns.map V.int)) : spD K spLawD [.ref a] H (fun v _ => v = .bl true) fun _ _ _ => False := by
  refine ⟨H, fun _ => none, fun _ => none, [.scr ns], fun x _ => x = .bl true, ⟨fun _ _ e => e, fun _ _ e => (nomatch e), fun _ _ e => (nomatch e), fun _ e => absurd rfl e, fun _ e => absurd rfl e⟩, .one (.scr h3), ⟨ns, rfl, h1, h2, fun _ => rfl⟩, fun v x I' M' H' _ _ i e => ?_⟩
  subst e
  exact i.bl_inv
end DL

/-! DL6: small helpers of the printed terms; what a loop makes. -/
namespace DL
open PySem PySem.Spec PyProof.Rows L2

theorem hu_of2 {A : Around} {k : Nat} (hr : Room k A) : A.units + 64 < cLine := hr.units
theorem rgs_nil {K : PySem.W.Frag} : RGs K gNil dgNil := fun I F H M σ ρ vs xs R P sl ok iv hd hq => by
  cases iv with
  | nil => exact ⟨rfl, hq I σ ρ M H (Same.refl I) sl ok hd⟩
  | cons _ _ => exact (show False from hd).elim
theorem rgs_cons {K : PySem.W.Frag} {g : TG} {r : TGs} {d : DG} {dr : DGs} (h1 : RG K g d) (h2 : RGs K r dr) : RGs K (gCons g r) (dgCons d dr) := fun I F H M σ ρ vs xs R P sl ok iv hd hq => by
  cases iv with
  | nil => exact (show False from hd).elim
  | cons h t => exact ⟨_, _, rfl, h1 I F H M σ ρ _ _ _ _ sl ok h hd fun I1 σ1 ρ1 M1 H1 s1 sl1 o1 p => h2 I1 F H1 M1 σ1 ρ1 _ _ _ _ sl1 o1 (t.mono s1) p fun I2 σ2 ρ2 M2 H2 s2 sl2 o2 q => hq I2 σ2 ρ2 M2 H2 (s1.trans s2) sl2 o2 q⟩
theorem rg_tup {K : PySem.W.Frag} {n : Nat} {r : TGs} {d : DGs} (h : RGs K r d) : RG K (gTup K n r) (dgTup d n) := fun I F H M σ ρ v x R P sl ok iv hd hq => by
  cases iv with
  | @tup a vs ds e ha =>
    obtain ⟨h1, h2⟩ := (show _ ∧ _ from hd)
    exact ⟨a, vs, rfl, sqt_up ok e, by rw [ha.len]; exact h1, h I F H M σ ρ vs ds R P sl ok ha h2 hq⟩
  | _ => exact (show False from hd).elim
theorem keeps_consN {i : Nat} {vs : List Nat} {r : TGs} (h : i ∈ vs) (h2 : KeepsWs vs r) : KeepsWs vs (gCons (gName i) r) := keeps_cons (keeps_name h) h2 fun v σ H R R' k q => k _ _ q
/-- a promise that nobody may use -/
theorem fn_false {P : Program} {w : World} {K : PySem.W.Frag} {mg : Str → Option Value} {base : Heap} {k : Nat} {f : Addr} {fd : FuncData} {ps : List Str} : FnOk P w K mg base CX0 k f fd ps (spD K fun _ _ _ => False) :=
  ⟨fun _ _ _ _ h => by obtain ⟨_, _, _, _, _, _, _, h, _⟩ := h; exact h.elim, fun _ _ _ _ _ _ _ _ _ _ _ _ _ h => by obtain ⟨_, _, _, _, _, _, _, h, _⟩ := h; exact h.elim⟩

theorem paired_app {α β : Type} {R : α → β → Prop} : ∀ {a b : List α} {c d : List β}, Paired R a c → Paired R b d → Paired R (a ++ b) (c ++ d)
  | _, _, _, _, .nil, h => h
  | _, _, _, _, .cons h t, k => .cons h (paired_app t k)

/-! ### what a loop makes: its state told by the items that are still to come -/
/-- over all items, an invariant by the rest -/
theorem for_inv {items : List Dt} {dg : DG} {db : DS} {N : DEnds} {ρ : Rho} {M : MS} (Iv : List Dt → Rho → MS → Prop) (h0 : Iv items ρ M)
    (hs : ∀ x r ρ' M', Iv (x :: r) ρ' M' → dg x ρ' M' fun ρ2 M2 => db { N with nx := Iv r, ct := Iv r, bk := N.nx } ρ2 M2) (hd : ∀ ρ' M', Iv [] ρ' M' → N.nx ρ' M') :
    ∃ Pv : Nat → Rho → MS → Prop, Pv 0 ρ M ∧
      (∀ i x ρ' M', items[i]? = some x → Pv i ρ' M' → dg x ρ' M' fun ρ2 M2 => db { N with nx := Pv (i + 1), ct := Pv (i + 1), bk := N.nx } ρ2 M2) ∧ ∀ ρ' M', Pv items.length ρ' M' → N.nx ρ' M' := by
  refine ⟨fun i => Iv (items.drop i), h0, fun i x ρ' M' e p => ?_, fun ρ' M' p => hd ρ' M' (by simpa using p)⟩
  have e2 : items.drop i = x :: items.drop (i + 1) := by
    obtain ⟨hi, rfl⟩ := List.getElem?_eq_some_iff.mp e
    exact List.drop_eq_getElem_cons hi
  replace p : Iv (items.drop i) ρ' M' := p
  rw [e2] at p
  exact hs x _ ρ' M' p
/-- over n turns -/
theorem for_turns {lo : Int} {n : Nat} {dg : DG} {db : DS} {N : DEnds} {ρ : Rho} {M : MS} (Iv : Nat → Rho → MS → Prop) (h0 : Iv 0 ρ M)
    (hs : ∀ i ρ' M', i < n → Iv i ρ' M' → dg (.int (lo + (i : Int))) ρ' M' fun ρ2 M2 => db { N with nx := Iv (i + 1), ct := Iv (i + 1), bk := N.nx } ρ2 M2) (hd : ∀ ρ' M', Iv n ρ' M' → N.nx ρ' M') :
    ∃ Pv : Nat → Rho → MS → Prop, Pv 0 ρ M ∧
      (∀ i x ρ' M', (rangeD lo n)[i]? = some x → Pv i ρ' M' → dg x ρ' M' fun ρ2 M2 => db { N with nx := Pv (i + 1), ct := Pv (i + 1), bk := N.nx } ρ2 M2) ∧ ∀ ρ' M', Pv (rangeD lo n).length ρ' M' → N.nx ρ' M' := by
  refine ⟨Iv, h0, fun i x ρ' M' e p => ?_, fun ρ' M' p => hd ρ' M' (by rw [rangeD_len] at p; exact p)⟩
  have hi : i < n := by
    have := (List.getElem?_eq_some_iff.mp e).1
    rw [rangeD_len] at this
    exact this
  rw [rangeD_get hi] at e
  cases e
  exact hs i ρ' M' hi p
/-- a comprehension: what its items give, one by one; nothing else changes -/
theorem lc_each {items : List Dt} {dg : DG} {de : DE} {ρw : Rho} {M : MS} {P : List Dt → MS → Prop} (R : Dt → Dt → Prop)
    (hs : ∀ x, x ∈ items → ∀ Pc : PD, (∀ y, R x y → Pc y M) → dg x ρw M fun ρ2 M2 => de ρ2 M2 Pc) (hd : ∀ ys, Paired R items ys → P ys M) :
    ∃ Pv : Nat → List Dt → MS → Prop, Pv 0 [] M ∧
      (∀ i x acc M', items[i]? = some x → Pv i acc M' → dg x ρw M' fun ρ2 M2 => dYes ρ2 M2 fun b M3 => if b = true then de ρ2 M3 fun y M4 => Pv (i + 1) (acc ++ [y]) M4 else Pv (i + 1) acc M3) ∧
      ∀ acc M', Pv items.length acc M' → P acc M' := by
  refine ⟨fun i acc M' => M' = M ∧ Paired R (items.take i) acc, ⟨rfl, .nil⟩, ?_, ?_⟩
  · rintro i x acc M' e ⟨rfl, pr⟩
    obtain ⟨hi, rfl⟩ := List.getElem?_eq_some_iff.mp e
    refine hs _ (List.getElem_mem hi) _ fun y hy => ⟨rfl, ?_⟩
    rw [List.take_succ_eq_append_getElem hi]
    exact paired_app pr (.cons hy .nil)
  · rintro acc M' ⟨rfl, pr⟩
    rw [List.take_length] at pr
    exact hd acc pr
theorem lc_map {items : List Dt} {dg : DG} {de : DE} {ρw : Rho} {M : MS} {P : List Dt → MS → Prop} (f : Dt → Dt)
    (hs : ∀ x, x ∈ items → ∀ Pc : PD, Pc (f x) M → dg x ρw M fun ρ2 M2 => de ρ2 M2 Pc) (hd : P (items.map f) M) :
    ∃ Pv : Nat → List Dt → MS → Prop, Pv 0 [] M ∧
      (∀ i x acc M', items[i]? = some x → Pv i acc M' → dg x ρw M' fun ρ2 M2 => dYes ρ2 M2 fun b M3 => if b = true then de ρ2 M3 fun y M4 => Pv (i + 1) (acc ++ [y]) M4 else Pv (i + 1) acc M3) ∧
      ∀ acc M', Pv items.length acc M' → P acc M' :=
  lc_each (fun x y => y = f x) (fun x hx Pc k => hs x hx Pc (k _ rfl)) fun ys hp => by
    have e : ys = items.map f := by
      clear hs hd
      induction hp with
      | nil => rfl
      | cons h _ ih => rw [List.map_cons, h, ih]
    rw [e]
    exact hd

/-! ### a reading taken apart, by one step -/
section
variable {t u : DS} {N : DEnds} {ρ : Rho} {M : MS} {P : PD} {Pb : Bool → MS → Prop} {Pl : List Dt → MS → Prop} {Pg : Rho → MS → Prop} {a b : DE} {c e : DT} {g : DG} {r : DGs} {l m : DA} {x : Dt} {i n : Nat} {o2 : D2} {o1 : D1} {ol : DL} {om : D1L} {T : String} {S : DSp} {xs : List Dt} {lo hi : DO} {Po : Option Int → MS → Prop}
theorem x_seq : dSeq t u N ρ M = t { N with nx := fun ρ' M' => u N ρ' M' } ρ M := rfl
theorem x_next : dNext N ρ M = N.nx ρ M := rfl
theorem x_break : dBreak N ρ M = N.bk ρ M := rfl
theorem x_cont : dCont N ρ M = N.ct ρ M := rfl
theorem x_drop : dDrop a N ρ M = a ρ M fun _ M' => N.nx ρ M' := rfl
theorem x_ret : dRet a N ρ M = a ρ M N.rt := rfl
theorem x_retN : dRetN N ρ M = N.rt .non M := rfl
theorem x_ifS : dIfS c t u N ρ M = c ρ M fun b M1 => if b = true then t N ρ M1 else u N ρ M1 := rfl
theorem x_asg : dAsg a g N ρ M = a ρ M fun x M1 => g x ρ M1 N.nx := rfl
theorem x_gname : dgName i x ρ M Pg = Pg (ρ.set i (some x)) M := rfl
theorem x_gtup : dgTup r n (.tup xs) ρ M Pg = (xs.length = n ∧ r xs ρ M Pg) := rfl
theorem x_gcons : dgCons g r (x :: xs) ρ M Pg = g x ρ M fun ρ' M' => r xs ρ' M' Pg := rfl
theorem x_gnil : dgNil [] ρ M Pg = Pg ρ M := rfl
theorem x_var : dVar i ρ M P = match ρ[i]? with
  | some (some d) => P d M
  | _ => False := rfl
theorem x_c : dC x ρ M P = P x M := rfl
theorem x_op : dOp o2 a b ρ M P = a ρ M fun x M1 => b ρ M1 fun y M2 => o2 x y M2 P := rfl
theorem x_un : dUn o1 a ρ M P = a ρ M fun x M1 => o1 x M1 P := rfl
theorem x_test : dTest a ρ M Pb = a ρ M fun x M' => match x with
  | .bl k => Pb k M'
  | _ => False := rfl
theorem x_tru : dTru a ρ M Pb = a ρ M fun x M' => match x with
  | .non => Pb false M'
  | .bl k => Pb k M'
  | .int i => Pb (i != 0) M'
  | .str y => y.length ≤ sizeLine ∧ Pb ((y.length : Int) != 0) M'
  | .tup ds => Pb (!ds.isEmpty) M'
  | x => match rdL M' x with
    | some ds => Pb (!ds.isEmpty) M'
    | none => False := rfl
theorem x_and : dAnd c e ρ M Pb = c ρ M fun b M1 => if b = true then e ρ M1 Pb else Pb false M1 := rfl
theorem x_or : dOr c e ρ M Pb = c ρ M fun b M1 => if b = true then Pb true M1 else e ρ M1 Pb := rfl
theorem x_not : dNot c ρ M Pb = c ρ M fun b M1 => Pb (!b) M1 := rfl
theorem x_yes : dYes ρ M Pb = Pb true M := rfl
theorem x_andV : dAndV a b ρ M P = a ρ M fun x M1 => match x with
  | .bl c => if c = true then b ρ M1 P else P (.bl false) M1
  | _ => False := rfl
theorem x_orV : dOrV a b ρ M P = a ρ M fun x M1 => match x with
  | .bl c => if c = true then P (.bl true) M1 else b ρ M1 P
  | _ => False := rfl
theorem x_notV : dNotV a ρ M P = a ρ M fun x M1 => match x with
  | .bl c => P (.bl (!c)) M1
  | _ => False := rfl
theorem x_if : dIf c a b ρ M P = c ρ M fun k M1 => if k = true then a ρ M1 P else b ρ M1 P := rfl
theorem x_nil : dNil ρ M Pl = Pl [] M := rfl
theorem x_cons : dCons a l ρ M Pl = a ρ M fun x M1 => l ρ M1 fun xs M2 => Pl (x :: xs) M2 := rfl
theorem x_tup : dTup l ρ M P = l ρ M fun xs M1 => xs.length ≤ sizeLine ∧ P (.tup xs) M1 := rfl
theorem x_lst : dLst l ρ M P = l ρ M fun xs M1 => xs.length ≤ sizeLine ∧ P (.lst xs) M1 := rfl
theorem x_lstM : dLstM l ρ M P = l ρ M fun xs M1 => xs.length ≤ sizeLine ∧ ∀ p, M1 p = none → P (.adr p) (updM M1 p (.lst xs)) := rfl
theorem x_call : dCall S l ρ M P = l ρ M fun xs M1 => S xs M1 P := rfl
theorem x_cb : dCB ol l ρ M P = l ρ M fun xs M1 => ol xs M1 P := rfl
theorem x_bm : dBM T om a l ρ M P = a ρ M fun x M1 => isTy T M1 x ∧ l ρ M1 fun xs M2 => om x xs M2 P := rfl
theorem x_bm0 : dBM0 T om a ρ M P = a ρ M fun x M1 => isTy T M1 x ∧ om x [] M1 P := rfl
theorem x_noPart : dNoPart ρ M Po = Po none M := rfl
theorem x_part : dPart a ρ M Po = a ρ M fun x M' => match x with
  | .int i => Po (some i) M'
  | _ => False := rfl
theorem x_walk : dWalk a ρ M Pl = a ρ M fun x M1 => match x with
  | .lst xs => Pl xs M1
  | .tup xs => Pl xs M1
  | .str z => Pl (signs z) M1
  | .scr ns => Pl (ns.map Dt.int) M1
  | _ => False := rfl
theorem x_rng1 : dRng1 l ρ M Pl = l ρ M fun xs M1 => match xs with
  | [.int j] => (-(2 ^ 62) ≤ j ∧ j < 2 ^ 62) ∧ Pl (rangeD 0 j.toNat) M1
  | _ => False := rfl
theorem x_rng2 : dRng2 l ρ M Pl = l ρ M fun xs M1 => match xs with
  | [.int i, .int j] => (-(2 ^ 62) ≤ i ∧ i < 2 ^ 62 ∧ -(2 ^ 62) ≤ j ∧ j < 2 ^ 62) ∧ Pl (rangeD i (j - i).toNat) M1
  | _ => False := rfl
theorem x_enum {k : Int} : dEnum k l ρ M Pl = l ρ M fun xs M1 => match xs with
  | [.lst xs] => Pl (enumD k xs) M1
  | [.str z] => Pl (enumD k (signs z)) M1
  | _ => False := rfl
theorem x_for {db : DS} : dFor l g db N ρ M = l ρ M fun items M1 => ∃ Pv : Nat → Rho → MS → Prop, Pv 0 ρ M1 ∧
  (∀ i x ρ' M', items[i]? = some x → Pv i ρ' M' → g x ρ' M' fun ρ2 M2 => db { N with nx := Pv (i + 1), ct := Pv (i + 1), bk := N.nx } ρ2 M2) ∧ ∀ ρ' M', Pv items.length ρ' M' → N.nx ρ' M' := rfl
theorem x_frz {p : Addr} {ds : List Dt} (h : ρ[i]? = some (some (.adr p))) (h2 : M p = some (.lst ds)) : dFrz i u N ρ M = u N (ρ.set i (some (.lst ds))) (del M p) := by
  unfold dFrz
  rw [h]
  simp only [h2]
end
theorem int_dec {a b : Int} : (Dt.int a = Dt.int b) = (a = b) := by simp
end DL

/-! DL7: a reading is shown step by step, from its head. -/
namespace DL
open PySem PySem.Spec PyProof.Rows L2
/-- one step of a reading: G' is enough for G -/
class St (G : Prop) (G' : outParam Prop) : Prop where
  h : G' → G
class Lk (ρ : Rho) (i : Nat) (d : outParam Dt) : Prop where
  h : ρ[i]? = some (some d)
class Up (ρ : Rho) (i : Nat) (x : Dt) (ρ' : outParam Rho) : Prop where
  h : ρ.set i (some x) = ρ'
class Ls (N : List Str) (ds : List Dt) (ρ : outParam Rho) : Prop where
  h : startD N ds = ρ
class Un (ρ : Rho) (i : Nat) (ρ' : outParam Rho) : Prop where
  h : ρ.set i none = ρ'
class Wp (ρ : Rho) (ws : List Nat) (ρ' : outParam Rho) : Prop where
  h : wipeD ρ ws = ρ'
section
variable {ρ ρ' : Rho} {i : Nat} {d x : Dt} {y : Option Dt} {N : List Str} {n : Str} {ds : List Dt}
theorem lk_0 : Lk (some d :: ρ) 0 d := ⟨rfl⟩
theorem lk_s [k : Lk ρ i d] : Lk (y :: ρ) (i + 1) d := ⟨k.h⟩
theorem up_0 : Up (y :: ρ) 0 x (some x :: ρ) := ⟨rfl⟩
theorem up_s [k : Up ρ i x ρ'] : Up (y :: ρ) (i + 1) x (y :: ρ') := ⟨by rw [List.set_cons_succ, k.h]⟩
theorem ls_0 : Ls [] [] [] := ⟨rfl⟩
theorem ls_n [k : Ls N [] ρ] : Ls (n :: N) [] (none :: ρ) := ⟨by
  have := k.h
  unfold startD at this ⊢
  rw [← this]
  rfl⟩
theorem ls_c [k : Ls N ds ρ] : Ls (n :: N) (d :: ds) (some d :: ρ) := ⟨by
  have := k.h
  unfold startD at this ⊢
  rw [← this, List.map_cons, List.length_cons, List.length_cons, Nat.add_sub_add_right]
  rfl⟩
theorem lk_st [k : Ls N ds ρ] [q : Lk ρ i d] : Lk (startD N ds) i d := ⟨by rw [k.h]; exact q.h⟩
theorem up_st [k : Ls N ds ρ] [q : Up ρ i x ρ'] : Up (startD N ds) i x ρ' := ⟨by rw [k.h]; exact q.h⟩
end
instance i_un0 {ρ : Rho} {y : Option Dt} : Un (y :: ρ) 0 (none :: ρ) := ⟨rfl⟩
instance i_uns {ρ ρ' : Rho} {i : Nat} {y : Option Dt} [k : Un ρ i ρ'] : Un (y :: ρ) (i + 1) (y :: ρ') := ⟨by rw [List.set_cons_succ, k.h]⟩
instance i_wp0 {ρ : Rho} : Wp ρ [] ρ := ⟨rfl⟩
instance i_wps {ρ ρ1 ρ2 : Rho} {v : Nat} {vs : List Nat} [k : Wp ρ vs ρ1] [q : Un ρ1 v ρ2] : Wp ρ (v :: vs) ρ2 := ⟨by unfold wipeD; rw [k.h, q.h]⟩
instance i_wpm {α : Type} {f : α → Nat} {a : α} {l : List α} {ρ ρ' : Rho} [k : Wp ρ (f a :: l.map f) ρ'] : Wp ρ (List.map f (a :: l)) ρ' := ⟨k.h⟩
instance i_wpn {α : Type} {f : α → Nat} {ρ : Rho} : Wp ρ (List.map f []) ρ := ⟨rfl⟩
instance (priority := high) i_wpst {N : List Str} {ds : List Dt} {ρ ρ' : Rho} {ws : List Nat} [k : Ls N ds ρ] [q : Wp ρ ws ρ'] : Wp (startD N ds) ws ρ' := ⟨by rw [k.h]; exact q.h⟩
instance i_lk0 {ρ : Rho} {d : Dt} : Lk (some d :: ρ) 0 d := lk_0
instance i_lks {ρ : Rho} {i : Nat} {d : Dt} {y : Option Dt} [k : Lk ρ i d] : Lk (y :: ρ) (i + 1) d := lk_s
instance i_up0 {ρ : Rho} {x : Dt} {y : Option Dt} : Up (y :: ρ) 0 x (some x :: ρ) := up_0
instance i_ups {ρ ρ' : Rho} {i : Nat} {x : Dt} {y : Option Dt} [k : Up ρ i x ρ'] : Up (y :: ρ) (i + 1) x (y :: ρ') := up_s
instance i_ls0 : Ls [] [] [] := ls_0
instance i_lsn {N : List Str} {n : Str} {ρ : Rho} [k : Ls N [] ρ] : Ls (n :: N) [] (none :: ρ) := ls_n
instance i_lsc {N : List Str} {n : Str} {ρ : Rho} {d : Dt} {ds : List Dt} [k : Ls N ds ρ] : Ls (n :: N) (d :: ds) (some d :: ρ) := ls_c
instance i_lkst {N : List Str} {ds : List Dt} {ρ : Rho} {i : Nat} {d : Dt} [k : Ls N ds ρ] [q : Lk ρ i d] : Lk (startD N ds) i d := lk_st
instance i_upst {N : List Str} {ds : List Dt} {ρ ρ' : Rho} {i : Nat} {x : Dt} [k : Ls N ds ρ] [q : Up ρ i x ρ'] : Up (startD N ds) i x ρ' := up_st
/-! what follows a value, told by the value's form -/
def kTest (Pb : Bool → MS → Prop) : PD := fun x M' => match x with
  | .bl k => Pb k M'
  | _ => False
def kTru (Pb : Bool → MS → Prop) : PD := fun x M' => match x with
  | .non => Pb false M'
  | .bl k => Pb k M'
  | .int i => Pb (i != 0) M'
  | .str y => y.length ≤ sizeLine ∧ Pb ((y.length : Int) != 0) M'
  | .tup ds => Pb (!ds.isEmpty) M'
  | x => match rdL M' x with
    | some ds => Pb (!ds.isEmpty) M'
    | none => False
def kAnd (ρ : Rho) (b : DE) (P : PD) : PD := fun x M1 => match x with
  | .bl c => if c = true then b ρ M1 P else P (.bl false) M1
  | _ => False
def kOr (ρ : Rho) (b : DE) (P : PD) : PD := fun x M1 => match x with
  | .bl c => if c = true then P (.bl true) M1 else b ρ M1 P
  | _ => False
def kNot (P : PD) : PD := fun x M1 => match x with
  | .bl c => P (.bl (!c)) M1
  | _ => False
def kPart (Po : Option Int → MS → Prop) : PD := fun x M' => match x with
  | .int i => Po (some i) M'
  | _ => False
def kWalk (Pl : List Dt → MS → Prop) : PD := fun x M1 => match x with
  | .lst xs => Pl xs M1
  | .tup xs => Pl xs M1
  | .str z => Pl (signs z) M1
  | .scr ns => Pl (ns.map Dt.int) M1
  | _ => False
def kRng1 (Pl : List Dt → MS → Prop) : List Dt → MS → Prop := fun xs M1 => match xs with
  | [.int j] => (-(2 ^ 62) ≤ j ∧ j < 2 ^ 62) ∧ Pl (rangeD 0 j.toNat) M1
  | _ => False
def kRng2 (Pl : List Dt → MS → Prop) : List Dt → MS → Prop := fun xs M1 => match xs with
  | [.int i, .int j] => (-(2 ^ 62) ≤ i ∧ i < 2 ^ 62 ∧ -(2 ^ 62) ≤ j ∧ j < 2 ^ 62) ∧ Pl (rangeD i (j - i).toNat) M1
  | _ => False
def kEnum (k : Int) (Pl : List Dt → MS → Prop) : List Dt → MS → Prop := fun xs M1 => match xs with
  | [.lst xs] => Pl (enumD k xs) M1
  | [.str z] => Pl (enumD k (signs z)) M1
  | _ => False
section
variable {t u : DS} {N : DEnds} {ρ ρ' : Rho} {M M' : MS} {nx bk ct : Rho → MS → Prop} {rt P : PD} {Pb : Bool → MS → Prop} {Pl : List Dt → MS → Prop} {Pg : Rho → MS → Prop} {a b : DE} {c e : DT} {g : DG} {r : DGs} {l m : DA} {x y d : Dt} {i n : Nat} {o2 : D2} {o1 : D1} {ol : DL} {om : D1L} {T : String} {S : DSp} {xs ys ds : List Dt} {lo hi : DO} {Po : Option Int → MS → Prop} {R : Prop} {j k : Int} {s z : Str} {p q : Addr} {bb cc : Bool}
theorem h_seq (h : t ⟨fun ρ' M' => u ⟨nx, rt, bk, ct⟩ ρ' M', rt, bk, ct⟩ ρ M) : dSeq t u ⟨nx, rt, bk, ct⟩ ρ M := h
instance : St (dSeq t u ⟨nx, rt, bk, ct⟩ ρ M) (t ⟨fun ρ' M' => u ⟨nx, rt, bk, ct⟩ ρ' M', rt, bk, ct⟩ ρ M) := ⟨fun h => h_seq h⟩
theorem h_next (h : nx ρ M) : dNext ⟨nx, rt, bk, ct⟩ ρ M := h
instance : St (dNext ⟨nx, rt, bk, ct⟩ ρ M) (nx ρ M) := ⟨fun h => h_next h⟩
theorem h_break (h : bk ρ M) : dBreak ⟨nx, rt, bk, ct⟩ ρ M := h
instance : St (dBreak ⟨nx, rt, bk, ct⟩ ρ M) (bk ρ M) := ⟨fun h => h_break h⟩
theorem h_cont (h : ct ρ M) : dCont ⟨nx, rt, bk, ct⟩ ρ M := h
instance : St (dCont ⟨nx, rt, bk, ct⟩ ρ M) (ct ρ M) := ⟨fun h => h_cont h⟩
theorem h_drop (h : a ρ M fun _ M' => nx ρ M') : dDrop a ⟨nx, rt, bk, ct⟩ ρ M := h
instance : St (dDrop a ⟨nx, rt, bk, ct⟩ ρ M) (a ρ M fun _ M' => nx ρ M') := ⟨fun h => h_drop h⟩
theorem h_ret (h : a ρ M rt) : dRet a ⟨nx, rt, bk, ct⟩ ρ M := h
instance : St (dRet a ⟨nx, rt, bk, ct⟩ ρ M) (a ρ M rt) := ⟨fun h => h_ret h⟩
theorem h_retN (h : rt .non M) : dRetN ⟨nx, rt, bk, ct⟩ ρ M := h
instance : St (dRetN ⟨nx, rt, bk, ct⟩ ρ M) (rt .non M) := ⟨fun h => h_retN h⟩
theorem h_ifS (h : c ρ M fun b M1 => if b = true then t N ρ M1 else u N ρ M1) : dIfS c t u N ρ M := h
instance : St (dIfS c t u N ρ M) (c ρ M fun b M1 => if b = true then t N ρ M1 else u N ρ M1) := ⟨fun h => h_ifS h⟩
theorem h_asg (h : a ρ M fun x M1 => g x ρ M1 nx) : dAsg a g ⟨nx, rt, bk, ct⟩ ρ M := h
instance : St (dAsg a g ⟨nx, rt, bk, ct⟩ ρ M) (a ρ M fun x M1 => g x ρ M1 nx) := ⟨fun h => h_asg h⟩
theorem h_gname (e : ρ.set i (some x) = ρ') (h : Pg ρ' M) : dgName i x ρ M Pg := by subst e; exact h
theorem h_gtup (h : r xs ρ M Pg) (e : xs.length = n) : dgTup r n (.tup xs) ρ M Pg := ⟨e, h⟩
theorem h_gcons (h : g x ρ M fun ρ' M' => r xs ρ' M' Pg) : dgCons g r (x :: xs) ρ M Pg := h
instance : St (dgCons g r (x :: xs) ρ M Pg) (g x ρ M fun ρ' M' => r xs ρ' M' Pg) := ⟨fun h => h_gcons h⟩
theorem h_gnil (h : Pg ρ M) : dgNil [] ρ M Pg := h
instance : St (dgNil [] ρ M Pg) (Pg ρ M) := ⟨fun h => h_gnil h⟩
theorem h_var (e : ρ[i]? = some (some d)) (h : P d M) : dVar i ρ M P := by
  unfold dVar
  rw [e]
  exact h
instance i_var [k : Lk ρ i d] : St (dVar i ρ M P) (P d M) := ⟨fun h => h_var k.h h⟩
instance i_gname [k : Up ρ i x ρ'] : St (dgName i x ρ M Pg) (Pg ρ' M) := ⟨fun h => h_gname k.h h⟩
theorem h_c (h : P x M) : dC x ρ M P := h
instance : St (dC x ρ M P) (P x M) := ⟨fun h => h_c h⟩
theorem h_op (h : a ρ M fun x M1 => b ρ M1 fun y M2 => o2 x y M2 P) : dOp o2 a b ρ M P := h
instance : St (dOp o2 a b ρ M P) (a ρ M fun x M1 => b ρ M1 fun y M2 => o2 x y M2 P) := ⟨fun h => h_op h⟩
theorem h_un (h : a ρ M fun x M1 => o1 x M1 P) : dUn o1 a ρ M P := h
instance : St (dUn o1 a ρ M P) (a ρ M fun x M1 => o1 x M1 P) := ⟨fun h => h_un h⟩
theorem h_test (h : a ρ M (kTest Pb)) : dTest a ρ M Pb := h
instance : St (dTest a ρ M Pb) (a ρ M (kTest Pb)) := ⟨fun h => h_test h⟩
theorem k_test (h : Pb bb M) : kTest Pb (.bl bb) M := h
instance : St (kTest Pb (.bl bb) M) (Pb bb M) := ⟨fun h => k_test h⟩
theorem h_tru (h : a ρ M (kTru Pb)) : dTru a ρ M Pb := h
instance : St (dTru a ρ M Pb) (a ρ M (kTru Pb)) := ⟨fun h => h_tru h⟩
theorem k_truN (h : Pb false M) : kTru Pb .non M := h
instance : St (kTru Pb .non M) (Pb false M) := ⟨fun h => k_truN h⟩
theorem k_truB (h : Pb bb M) : kTru Pb (.bl bb) M := h
instance : St (kTru Pb (.bl bb) M) (Pb bb M) := ⟨fun h => k_truB h⟩
theorem k_truI (h : Pb (j != 0) M) : kTru Pb (.int j) M := h
instance : St (kTru Pb (.int j) M) (Pb (j != 0) M) := ⟨fun h => k_truI h⟩
theorem k_truT (h : Pb (!xs.isEmpty) M) : kTru Pb (.tup xs) M := h
instance : St (kTru Pb (.tup xs) M) (Pb (!xs.isEmpty) M) := ⟨fun h => k_truT h⟩
theorem k_truL (h : Pb (!xs.isEmpty) M) : kTru Pb (.lst xs) M := h
instance : St (kTru Pb (.lst xs) M) (Pb (!xs.isEmpty) M) := ⟨fun h => k_truL h⟩
theorem k_truS (h : Pb ((s.length : Int) != 0) M) (e : s.length ≤ sizeLine) : kTru Pb (.str s) M := ⟨e, h⟩
theorem h_and (h : c ρ M fun b M1 => if b = true then e ρ M1 Pb else Pb false M1) : dAnd c e ρ M Pb := h
instance : St (dAnd c e ρ M Pb) (c ρ M fun b M1 => if b = true then e ρ M1 Pb else Pb false M1) := ⟨fun h => h_and h⟩
theorem h_or (h : c ρ M fun b M1 => if b = true then Pb true M1 else e ρ M1 Pb) : dOr c e ρ M Pb := h
instance : St (dOr c e ρ M Pb) (c ρ M fun b M1 => if b = true then Pb true M1 else e ρ M1 Pb) := ⟨fun h => h_or h⟩
theorem h_not (h : c ρ M fun b M1 => Pb (!b) M1) : dNot c ρ M Pb := h
instance : St (dNot c ρ M Pb) (c ρ M fun b M1 => Pb (!b) M1) := ⟨fun h => h_not h⟩
theorem h_yes (h : Pb true M) : dYes ρ M Pb := h
instance : St (dYes ρ M Pb) (Pb true M) := ⟨fun h => h_yes h⟩
theorem h_andV (h : a ρ M (kAnd ρ b P)) : dAndV a b ρ M P := h
instance : St (dAndV a b ρ M P) (a ρ M (kAnd ρ b P)) := ⟨fun h => h_andV h⟩
theorem k_and (h : if bb = true then b ρ M P else P (.bl false) M) : kAnd ρ b P (.bl bb) M := h
instance : St (kAnd ρ b P (.bl bb) M) (if bb = true then b ρ M P else P (.bl false) M) := ⟨fun h => k_and h⟩
theorem h_orV (h : a ρ M (kOr ρ b P)) : dOrV a b ρ M P := h
instance : St (dOrV a b ρ M P) (a ρ M (kOr ρ b P)) := ⟨fun h => h_orV h⟩
theorem k_or (h : if bb = true then P (.bl true) M else b ρ M P) : kOr ρ b P (.bl bb) M := h
instance : St (kOr ρ b P (.bl bb) M) (if bb = true then P (.bl true) M else b ρ M P) := ⟨fun h => k_or h⟩
theorem h_notV (h : a ρ M (kNot P)) : dNotV a ρ M P := h
instance : St (dNotV a ρ M P) (a ρ M (kNot P)) := ⟨fun h => h_notV h⟩
theorem k_not (h : P (.bl (!bb)) M) : kNot P (.bl bb) M := h
instance : St (kNot P (.bl bb) M) (P (.bl (!bb)) M) := ⟨fun h => k_not h⟩
theorem h_if (h : c ρ M fun k M1 => if k = true then a ρ M1 P else b ρ M1 P) : dIf c a b ρ M P := h
instance : St (dIf c a b ρ M P) (c ρ M fun k M1 => if k = true then a ρ M1 P else b ρ M1 P) := ⟨fun h => h_if h⟩
theorem h_nil (h : Pl [] M) : dNil ρ M Pl := h
instance : St (dNil ρ M Pl) (Pl [] M) := ⟨fun h => h_nil h⟩
theorem h_cons (h : a ρ M fun x M1 => l ρ M1 fun xs M2 => Pl (x :: xs) M2) : dCons a l ρ M Pl := h
instance : St (dCons a l ρ M Pl) (a ρ M fun x M1 => l ρ M1 fun xs M2 => Pl (x :: xs) M2) := ⟨fun h => h_cons h⟩
theorem h_tup (h : l ρ M fun xs M1 => xs.length ≤ sizeLine ∧ P (.tup xs) M1) : dTup l ρ M P := h
instance : St (dTup l ρ M P) (l ρ M fun xs M1 => xs.length ≤ sizeLine ∧ P (.tup xs) M1) := ⟨fun h => h_tup h⟩
theorem h_lst (h : l ρ M fun xs M1 => xs.length ≤ sizeLine ∧ P (.lst xs) M1) : dLst l ρ M P := h
instance : St (dLst l ρ M P) (l ρ M fun xs M1 => xs.length ≤ sizeLine ∧ P (.lst xs) M1) := ⟨fun h => h_lst h⟩
theorem h_lstM (h : l ρ M fun xs M1 => xs.length ≤ sizeLine ∧ ∀ p, M1 p = none → P (.adr p) (updM M1 p (.lst xs))) : dLstM l ρ M P := h
instance : St (dLstM l ρ M P) (l ρ M fun xs M1 => xs.length ≤ sizeLine ∧ ∀ p, M1 p = none → P (.adr p) (updM M1 p (.lst xs))) := ⟨fun h => h_lstM h⟩
theorem h_call (h : l ρ M fun xs M1 => S xs M1 P) : dCall S l ρ M P := h
instance : St (dCall S l ρ M P) (l ρ M fun xs M1 => S xs M1 P) := ⟨fun h => h_call h⟩
theorem h_cb (h : l ρ M fun xs M1 => ol xs M1 P) : dCB ol l ρ M P := h
instance : St (dCB ol l ρ M P) (l ρ M fun xs M1 => ol xs M1 P) := ⟨fun h => h_cb h⟩
theorem h_bm (h : a ρ M fun x M1 => isTy T M1 x ∧ l ρ M1 fun xs M2 => om x xs M2 P) : dBM T om a l ρ M P := h
instance : St (dBM T om a l ρ M P) (a ρ M fun x M1 => isTy T M1 x ∧ l ρ M1 fun xs M2 => om x xs M2 P) := ⟨fun h => h_bm h⟩
theorem h_bm0 (h : a ρ M fun x M1 => isTy T M1 x ∧ om x [] M1 P) : dBM0 T om a ρ M P := h
instance : St (dBM0 T om a ρ M P) (a ρ M fun x M1 => isTy T M1 x ∧ om x [] M1 P) := ⟨fun h => h_bm0 h⟩
theorem h_isS (h : R) : isTy "str" M (.str s) ∧ R := ⟨rfl, h⟩
instance (priority := low) : St (isTy "str" M (.str s) ∧ R) (R) := ⟨fun h => h_isS h⟩
theorem h_isL (h : R) (e : M p = some (.lst ds)) : isTy "list" M (.adr p) ∧ R := ⟨⟨rfl, by show isLst M (.adr p); simp only [isLst, e]⟩, h⟩
theorem h_isU (h : R) : isTy "list" (updM M p (.lst ds)) (.adr p) ∧ R := h_isL h updM_same
instance (priority := low) : St (isTy "list" (updM M p (.lst ds)) (.adr p) ∧ R) (R) := ⟨fun h => h_isU h⟩
theorem h_noPart (h : Po none M) : dNoPart ρ M Po := h
instance : St (dNoPart ρ M Po) (Po none M) := ⟨fun h => h_noPart h⟩
theorem h_part (h : a ρ M (kPart Po)) : dPart a ρ M Po := h
instance : St (dPart a ρ M Po) (a ρ M (kPart Po)) := ⟨fun h => h_part h⟩
theorem k_part (h : Po (some j) M) : kPart Po (.int j) M := h
instance : St (kPart Po (.int j) M) (Po (some j) M) := ⟨fun h => k_part h⟩
theorem h_walk (h : a ρ M (kWalk Pl)) : dWalk a ρ M Pl := h
instance : St (dWalk a ρ M Pl) (a ρ M (kWalk Pl)) := ⟨fun h => h_walk h⟩
theorem k_walkL (h : Pl xs M) : kWalk Pl (.lst xs) M := h
instance : St (kWalk Pl (.lst xs) M) (Pl xs M) := ⟨fun h => k_walkL h⟩
theorem k_walkT (h : Pl xs M) : kWalk Pl (.tup xs) M := h
instance : St (kWalk Pl (.tup xs) M) (Pl xs M) := ⟨fun h => k_walkT h⟩
theorem k_walkS (h : Pl (signs s) M) : kWalk Pl (.str s) M := h
instance : St (kWalk Pl (.str s) M) (Pl (signs s) M) := ⟨fun h => k_walkS h⟩
theorem k_walkC {ns : List Int} (h : Pl (ns.map Dt.int) M) : kWalk Pl (.scr ns) M := h
instance {ns : List Int} : St (kWalk Pl (.scr ns) M) (Pl (ns.map Dt.int) M) := ⟨fun h => k_walkC h⟩
theorem h_rng1 (h : l ρ M (kRng1 Pl)) : dRng1 l ρ M Pl := h
instance : St (dRng1 l ρ M Pl) (l ρ M (kRng1 Pl)) := ⟨fun h => h_rng1 h⟩
theorem k_rng1 (h : Pl (rangeD 0 j.toNat) M) (e : -4611686018427387904 ≤ j ∧ j < 4611686018427387904) : kRng1 Pl [.int j] M := ⟨e, h⟩
theorem h_rng2 (h : l ρ M (kRng2 Pl)) : dRng2 l ρ M Pl := h
instance : St (dRng2 l ρ M Pl) (l ρ M (kRng2 Pl)) := ⟨fun h => h_rng2 h⟩
theorem k_rng2 (h : Pl (rangeD j (k - j).toNat) M) (e : -4611686018427387904 ≤ j ∧ j < 4611686018427387904 ∧ -4611686018427387904 ≤ k ∧ k < 4611686018427387904) : kRng2 Pl [.int j, .int k] M := ⟨e, h⟩
theorem h_enum (h : l ρ M (kEnum k Pl)) : dEnum k l ρ M Pl := h
instance : St (dEnum k l ρ M Pl) (l ρ M (kEnum k Pl)) := ⟨fun h => h_enum h⟩
theorem k_enumL (h : Pl (enumD k xs) M) : kEnum k Pl [.lst xs] M := h
instance : St (kEnum k Pl [.lst xs] M) (Pl (enumD k xs) M) := ⟨fun h => k_enumL h⟩
theorem k_enumS (h : Pl (enumD k (signs s)) M) : kEnum k Pl [.str s] M := h
instance : St (kEnum k Pl [.str s] M) (Pl (enumD k (signs s)) M) := ⟨fun h => k_enumS h⟩
/-! values -/
theorem h_addI (h : P (.int (j + k)) M) : dAdd (.int j) (.int k) M P := h
instance : St (dAdd (.int j) (.int k) M P) (P (.int (j + k)) M) := ⟨fun h => h_addI h⟩
theorem h_addS (h : P (.str (s ++ z)) M) (e : s.length + z.length ≤ sizeLine) : dAdd (.str s) (.str z) M P := ⟨e, h⟩
theorem h_addL (h : P (.lst (xs ++ ys)) M) (e : xs.length + ys.length ≤ sizeLine) : dAdd (.lst xs) (.lst ys) M P := ⟨e, h⟩
theorem h_sub (h : P (.int (j - k)) M) : dSub (.int j) (.int k) M P := h
instance : St (dSub (.int j) (.int k) M P) (P (.int (j - k)) M) := ⟨fun h => h_sub h⟩
theorem h_mul (h : P (.int (j * k)) M) (e : CMulX j k) : dMul (.int j) (.int k) M P := ⟨e, h⟩
theorem h_mod (h : P (.int (j % k)) M) (e : 0 < k) : dMod (.int j) (.int k) M P := ⟨e, h⟩
theorem h_fdiv (h : P (.int (j / k)) M) (e : CDivW j k) : dFdiv (.int j) (.int k) M P := ⟨e, h⟩
theorem h_pow (h : P (.int (j ^ k.toNat)) M) (e : CPow j k) : dPow (.int j) (.int k) M P := ⟨e, h⟩
theorem h_shl (h : P (.int (j * 2 ^ k.toNat)) M) (e : CShl j k) : dShl (.int j) (.int k) M P := ⟨e, h⟩
theorem h_shr (h : P (.int (j / 2 ^ k.toNat)) M) (e : 0 ≤ k) : dShr (.int j) (.int k) M P := ⟨e, h⟩
theorem h_neg (h : P (.int (-j)) M) : dNeg (.int j) M P := h
instance : St (dNeg (.int j) M P) (P (.int (-j)) M) := ⟨fun h => h_neg h⟩
theorem h_lt (h : P (.bl (decide (j < k))) M) : dLt (.int j) (.int k) M P := h
instance : St (dLt (.int j) (.int k) M P) (P (.bl (decide (j < k))) M) := ⟨fun h => h_lt h⟩
theorem h_le (h : P (.bl (decide (j ≤ k))) M) : dLe (.int j) (.int k) M P := h
instance : St (dLe (.int j) (.int k) M P) (P (.bl (decide (j ≤ k))) M) := ⟨fun h => h_le h⟩
theorem h_gt (h : P (.bl (decide (k < j))) M) : dGt (.int j) (.int k) M P := h
instance : St (dGt (.int j) (.int k) M P) (P (.bl (decide (k < j))) M) := ⟨fun h => h_gt h⟩
theorem h_ge (h : P (.bl (decide (k ≤ j))) M) : dGe (.int j) (.int k) M P := h
instance : St (dGe (.int j) (.int k) M P) (P (.bl (decide (k ≤ j))) M) := ⟨fun h => h_ge h⟩
theorem h_eqI (h : P (.bl (decide (j = k))) M) : dEq (.int j) (.int k) M P := h
instance : St (dEq (.int j) (.int k) M P) (P (.bl (decide (j = k))) M) := ⟨fun h => h_eqI h⟩
theorem h_eqS (h : P (.bl (decide (s = z))) M) : dEq (.str s) (.str z) M P := h
instance : St (dEq (.str s) (.str z) M P) (P (.bl (decide (s = z))) M) := ⟨fun h => h_eqS h⟩
theorem h_eqB (h : P (.bl (decide (bb = cc))) M) : dEq (.bl bb) (.bl cc) M P := h
instance : St (dEq (.bl bb) (.bl cc) M P) (P (.bl (decide (bb = cc))) M) := ⟨fun h => h_eqB h⟩
theorem h_neI (h : P (.bl (!decide (j = k))) M) : dNe (.int j) (.int k) M P := h
instance : St (dNe (.int j) (.int k) M P) (P (.bl (!decide (j = k))) M) := ⟨fun h => h_neI h⟩
theorem h_neS (h : P (.bl (!decide (s = z))) M) : dNe (.str s) (.str z) M P := h
instance : St (dNe (.str s) (.str z) M P) (P (.bl (!decide (s = z))) M) := ⟨fun h => h_neS h⟩
theorem h_neB (h : P (.bl (!decide (bb = cc))) M) : dNe (.bl bb) (.bl cc) M P := h
instance : St (dNe (.bl bb) (.bl cc) M P) (P (.bl (!decide (bb = cc))) M) := ⟨fun h => h_neB h⟩
theorem h_isN (h : P (.bl (DL.isN x)) M) : dIs x .non M P := by cases x <;> exact h
instance (priority := low) : St (dIs x .non M P) (P (.bl (DL.isN x)) M) := ⟨fun h => h_isN h⟩
theorem h_notN (h : P (.bl (!DL.isN x)) M) : dIsNot x .non M P := by cases x <;> exact h
instance (priority := low) : St (dIsNot x .non M P) (P (.bl (!DL.isN x)) M) := ⟨fun h => h_notN h⟩
theorem h_isB (h : P (.bl (decide (bb = cc))) M) : dIs (.bl bb) (.bl cc) M P := h
instance (priority := low) : St (dIs (.bl bb) (.bl cc) M P) (P (.bl (decide (bb = cc))) M) := ⟨fun h => h_isB h⟩
theorem h_notB (h : P (.bl (!decide (bb = cc))) M) : dIsNot (.bl bb) (.bl cc) M P := h
instance (priority := low) : St (dIsNot (.bl bb) (.bl cc) M P) (P (.bl (!decide (bb = cc))) M) := ⟨fun h => h_notB h⟩
theorem h_lenS (h : P (.int s.length) M) (e : s.length ≤ sizeLine) : dLen [.str s] M P := ⟨e, h⟩
theorem h_lenT (h : P (.int xs.length) M) : dLen [.tup xs] M P := h
instance : St (dLen [.tup xs] M P) (P (.int xs.length) M) := ⟨fun h => h_lenT h⟩
theorem h_lenL (h : P (.int xs.length) M) : dLen [.lst xs] M P := h
instance : St (dLen [.lst xs] M P) (P (.int xs.length) M) := ⟨fun h => h_lenL h⟩
theorem h_lenC {ns : List Int} (h : P (.int ns.length) M) : dLen [.scr ns] M P := h
instance {ns : List Int} : St (dLen [.scr ns] M P) (P (.int ns.length) M) := ⟨fun h => h_lenC h⟩
theorem h_lenA (h : P (.int xs.length) M) (e : M p = some (.lst xs)) : dLen [.adr p] M P := by
  simp only [dLen, rdL, e]
  exact h
theorem h_lenU (h : P (.int xs.length) (updM M p (.lst xs))) : dLen [.adr p] (updM M p (.lst xs)) P := h_lenA h updM_same
instance : St (dLen [.adr p] (updM M p (.lst xs)) P) (P (.int xs.length) (updM M p (.lst xs))) := ⟨fun h => h_lenU h⟩
theorem h_abs (h : P (.int (if j < 0 then -j else j)) M) : dAbs [.int j] M P := h
instance : St (dAbs [.int j] M P) (P (.int (if j < 0 then -j else j)) M) := ⟨fun h => h_abs h⟩
theorem h_intI (h : P (.int j) M) : dInt [.int j] M P := h
instance : St (dInt [.int j] M P) (P (.int j) M) := ⟨fun h => h_intI h⟩
theorem h_intB (h : P (.int (if bb then 1 else 0)) M) : dInt [.bl bb] M P := h
instance (priority := low) : St (dInt [.bl bb] M P) (P (.int (if bb then 1 else 0)) M) := ⟨fun h => h_intB h⟩
theorem h_max2 (h : P (.int (if k > j then k else j)) M) : dMax2 [.int j, .int k] M P := h
instance : St (dMax2 [.int j, .int k] M P) (P (.int (if k > j then k else j)) M) := ⟨fun h => h_max2 h⟩
theorem h_min2 (h : P (.int (if k < j then k else j)) M) : dMin2 [.int j, .int k] M P := h
instance : St (dMin2 [.int j, .int k] M P) (P (.int (if k < j then k else j)) M) := ⟨fun h => h_min2 h⟩
theorem h_listL (h : P (.lst xs) M) : dListOf [.lst xs] M P := h
instance : St (dListOf [.lst xs] M P) (P (.lst xs) M) := ⟨fun h => h_listL h⟩
theorem h_listT (h : P (.lst xs) M) : dListOf [.tup xs] M P := h
instance : St (dListOf [.tup xs] M P) (P (.lst xs) M) := ⟨fun h => h_listT h⟩
theorem h_tupL (h : P (.tup xs) M) : dTupOf [.lst xs] M P := h
instance : St (dTupOf [.lst xs] M P) (P (.tup xs) M) := ⟨fun h => h_tupL h⟩
theorem h_tupT (h : P (.tup xs) M) : dTupOf [.tup xs] M P := h
instance : St (dTupOf [.tup xs] M P) (P (.tup xs) M) := ⟨fun h => h_tupT h⟩
theorem h_ixT (e : atI xs j = some d) (h : P d M) : dIx (.tup xs) (.int j) M P := by
  simp only [dIx, e]
  exact h
theorem h_ixL (e : atI xs j = some d) (h : P d M) : dIx (.lst xs) (.int j) M P := by
  simp only [dIx, rdL, e]
  exact h
theorem h_ixA (e2 : M p = some (.lst xs)) (e : atI xs j = some d) (h : P d M) : dIx (.adr p) (.int j) M P := by
  simp only [dIx, rdL, e2, e]
  exact h
theorem h_ixC {ns : List Int} (e : atI ns j = some k) (h : P (.int k) M) : dIx (.scr ns) (.int j) M P := by
  simp only [dIx, e]
  exact h
theorem h_append (h : P .non (updM M p (.lst (ds ++ [y])))) (e : M p = some (.lst ds)) (hz : ds.length < sizeLine) : dAppend (.adr p) [y] M P := by
  simp only [dAppend, e]
  exact ⟨hz, h⟩
theorem h_appendU (h : P .non (updM M p (.lst (ds ++ [y])))) (hz : ds.length < sizeLine) : dAppend (.adr p) [y] (updM M p (.lst ds)) P := h_append (by rw [updM_updM]; exact h) updM_same hz
theorem h_extendU (h : P .non (updM M p (.lst (ds ++ xs)))) (hz : ds.length + xs.length ≤ sizeLine) : dExtend (.adr p) [.lst xs] (updM M p (.lst ds)) P := by
  simp only [dExtend, updM_same, rdL]
  exact ⟨hz, by rw [updM_updM]; exact h⟩
theorem h_reverseU (h : P .non (updM M p (.lst ds.reverse))) : dReverse (.adr p) [] (updM M p (.lst ds)) P := by
  simp only [dReverse, updM_same]
  rw [updM_updM]
  exact h
instance : St (dReverse (.adr p) [] (updM M p (.lst ds)) P) (P .non (updM M p (.lst ds.reverse))) := ⟨fun h => h_reverseU h⟩
theorem h_frz (e : ρ[i]? = some (some (.adr p))) (e2 : ρ.set i (some (.lst ds)) = ρ') (hn : M p = none) (h : u N ρ' M) : dFrz i u N ρ (updM M p (.lst ds)) := by
  subst e2
  rw [x_frz e updM_same, del_updM hn]
  exact h
end
/-! loops -/
def forB (g : DG) (db : DS) (N : DEnds) (ρ : Rho) : List Dt → MS → Prop := fun items M1 => ∃ Pv : Nat → Rho → MS → Prop, Pv 0 ρ M1 ∧
  (∀ i x ρ' M', items[i]? = some x → Pv i ρ' M' → g x ρ' M' fun ρ2 M2 => db { N with nx := Pv (i + 1), ct := Pv (i + 1), bk := N.nx } ρ2 M2) ∧ ∀ ρ' M', Pv items.length ρ' M' → N.nx ρ' M'
/-- turn by turn -/
def loopR (g : DG) (db : DS) (N : DEnds) : List Dt → Rho → MS → Prop
  | [], ρ, M => N.nx ρ M
  | x :: r, ρ, M => g x ρ M fun ρ2 M2 => db ⟨fun ρ3 M3 => loopR g db N r ρ3 M3, N.rt, N.nx, fun ρ3 M3 => loopR g db N r ρ3 M3⟩ ρ2 M2
def lcB (g : DG) (c : DT) (a : DE) (ρw : Rho) (P : List Dt → MS → Prop) : List Dt → MS → Prop := fun items M1 => items.length ≤ sizeLine ∧ ∃ Pv : Nat → List Dt → MS → Prop, Pv 0 [] M1 ∧
  (∀ i x acc M', items[i]? = some x → Pv i acc M' → g x ρw M' fun ρ2 M2 => c ρ2 M2 fun b M3 => if b = true then a ρ2 M3 fun y M4 => Pv (i + 1) (acc ++ [y]) M4 else Pv (i + 1) acc M3) ∧
  ∀ acc M', Pv items.length acc M' → P acc M'
def lcR (g : DG) (c : DT) (a : DE) (ρw : Rho) (P : List Dt → MS → Prop) : List Dt → List Dt → MS → Prop
  | [], acc, M => P acc M
  | x :: r, acc, M => g x ρw M fun ρ2 M2 => c ρ2 M2 fun b M3 => if b = true then a ρ2 M3 fun y M4 => lcR g c a ρw P r (acc ++ [y]) M4 else lcR g c a ρw P r acc M3
section
variable {N : DEnds} {nx bk ct : Rho → MS → Prop} {rt : PD} {g : DG} {db : DS} {l : DA} {ρ ρw : Rho} {M : MS} {c : DT} {a : DE} {P : List Dt → MS → Prop} {Pd : PD} {items : List Dt} {ws : List Nat} {lo : Int} {n : Nat} {x : Dt} {r acc : List Dt}
theorem h_for (h : l ρ M (forB g db N ρ)) : dFor l g db N ρ M := h
instance : St (dFor l g db N ρ M) (l ρ M (forB g db N ρ)) := ⟨fun h => h_for h⟩
theorem h_lc (h : l ρ M (lcB g c a (wipeD ρ ws) fun acc M' => Pd (.lst acc) M')) : dLc l g c a ws ρ M Pd := h
theorem h_lcM (h : l ρ M (lcB g c a (wipeD ρ ws) fun acc M' => ∀ p, M' p = none → Pd (.adr p) (updM M' p (.lst acc)))) : dLcM l g c a ws ρ M Pd := h
instance i_lc [k : Wp ρ ws ρw] : St (dLc l g c a ws ρ M Pd) (l ρ M (lcB g c a ρw fun acc M' => Pd (.lst acc) M')) := ⟨fun h => h_lc (by rw [k.h]; exact h)⟩
instance i_lcM [k : Wp ρ ws ρw] : St (dLcM l g c a ws ρ M Pd) (l ρ M (lcB g c a ρw fun acc M' => ∀ p, M' p = none → Pd (.adr p) (updM M' p (.lst acc)))) := ⟨fun h => h_lcM (by rw [k.h]; exact h)⟩
/-- an invariant over the items that are still to come -/
theorem l_inv (Iv : List Dt → Rho → MS → Prop) (h0 : Iv items ρ M) (hs : ∀ x r ρ' M', Iv (x :: r) ρ' M' → g x ρ' M' fun ρ2 M2 => db ⟨Iv r, rt, nx, Iv r⟩ ρ2 M2) (hd : ∀ ρ' M', Iv [] ρ' M' → nx ρ' M') : forB g db ⟨nx, rt, bk, ct⟩ ρ items M :=
  for_inv (N := ⟨nx, rt, bk, ct⟩) Iv h0 hs hd
theorem l_turns (Iv : Nat → Rho → MS → Prop) (h0 : Iv 0 ρ M) (hs : ∀ i ρ' M', i < n → Iv i ρ' M' → g (.int (lo + (i : Int))) ρ' M' fun ρ2 M2 => db ⟨Iv (i + 1), rt, nx, Iv (i + 1)⟩ ρ2 M2) (hd : ∀ ρ' M', Iv n ρ' M' → nx ρ' M') :
    forB g db ⟨nx, rt, bk, ct⟩ ρ (rangeD lo n) M := for_turns (N := ⟨nx, rt, bk, ct⟩) Iv h0 hs hd
theorem l_unroll (h : loopR g db N items ρ M) : forB g db N ρ items M := for_inv (fun r ρ' M' => loopR g db N r ρ' M') h (fun _ _ _ _ h => h) fun _ _ h => h
theorem h_loopN (h : nx ρ M) : loopR g db ⟨nx, rt, bk, ct⟩ [] ρ M := h
instance : St (loopR g db ⟨nx, rt, bk, ct⟩ [] ρ M) (nx ρ M) := ⟨fun h => h_loopN h⟩
theorem h_loopC (h : g x ρ M fun ρ2 M2 => db ⟨fun ρ3 M3 => loopR g db ⟨nx, rt, bk, ct⟩ r ρ3 M3, rt, nx, fun ρ3 M3 => loopR g db ⟨nx, rt, bk, ct⟩ r ρ3 M3⟩ ρ2 M2) : loopR g db ⟨nx, rt, bk, ct⟩ (x :: r) ρ M := h
instance : St (loopR g db ⟨nx, rt, bk, ct⟩ (x :: r) ρ M) (g x ρ M fun ρ2 M2 => db ⟨fun ρ3 M3 => loopR g db ⟨nx, rt, bk, ct⟩ r ρ3 M3, rt, nx, fun ρ3 M3 => loopR g db ⟨nx, rt, bk, ct⟩ r ρ3 M3⟩ ρ2 M2) := ⟨fun h => h_loopC h⟩
/-- a comprehension over items with an invariant by what is still to come and what is made -/
theorem c_inv (hz : items.length ≤ sizeLine) (Iv : List Dt → List Dt → MS → Prop) (h0 : Iv items [] M) (hs : ∀ x r acc M', Iv (x :: r) acc M' → g x ρw M' fun ρ2 M2 => c ρ2 M2 fun b M3 => if b = true then a ρ2 M3 fun y M4 => Iv r (acc ++ [y]) M4 else Iv r acc M3)
    (hd : ∀ acc M', Iv [] acc M' → P acc M') : lcB g c a ρw P items M := by
  refine ⟨hz, fun i acc M' => Iv (items.drop i) acc M', h0, fun i x acc M' e p => ?_, fun acc M' p => hd acc M' (by simpa using p)⟩
  have e2 : items.drop i = x :: items.drop (i + 1) := by
    obtain ⟨hi, rfl⟩ := List.getElem?_eq_some_iff.mp e
    exact List.drop_eq_getElem_cons hi
  replace p : Iv (items.drop i) acc M' := p
  rw [e2] at p
  exact hs x _ acc M' p
theorem c_unroll (h : lcR g c a ρw P items [] M) (hz : items.length ≤ sizeLine) : lcB g c a ρw P items M := c_inv hz (fun r acc M' => lcR g c a ρw P r acc M') h (fun _ _ _ _ h => h) fun _ _ h => h
theorem h_lcN (h : P acc M) : lcR g c a ρw P [] acc M := h
instance : St (lcR g c a ρw P [] acc M) (P acc M) := ⟨fun h => h_lcN h⟩
theorem h_lcC (h : g x ρw M fun ρ2 M2 => c ρ2 M2 fun b M3 => if b = true then a ρ2 M3 fun y M4 => lcR g c a ρw P r (acc ++ [y]) M4 else lcR g c a ρw P r acc M3) : lcR g c a ρw P (x :: r) acc M := h
instance : St (lcR g c a ρw P (x :: r) acc M) (g x ρw M fun ρ2 M2 => c ρ2 M2 fun b M3 => if b = true then a ρ2 M3 fun y M4 => lcR g c a ρw P r (acc ++ [y]) M4 else lcR g c a ρw P r acc M3) := ⟨fun h => h_lcC h⟩
theorem c_each (hz : items.length ≤ sizeLine) (R : Dt → Dt → Prop) (hs : ∀ x, x ∈ items → ∀ Pc : PD, (∀ y, R x y → Pc y M) → g x ρw M fun ρ2 M2 => a ρ2 M2 Pc) (hd : ∀ ys, Paired R items ys → P ys M) : lcB g dYes a ρw P items M := ⟨hz, lc_each R hs hd⟩
theorem c_map (hz : items.length ≤ sizeLine) (f : Dt → Dt) (hs : ∀ x, x ∈ items → ∀ Pc : PD, Pc (f x) M → g x ρw M fun ρ2 M2 => a ρ2 M2 Pc) (hd : P (items.map f) M) : lcB g dYes a ρw P items M := ⟨hz, lc_map f hs hd⟩
end
section
/-! branches -/
theorem b_dec {p A B : Prop} [Decidable p] (h1 : p → A) (h2 : ¬ p → B) : if decide p = true then A else B := by
  by_cases h : p
  · rw [if_pos (decide_eq_true h)]; exact h1 h
  · rw [if_neg (by rw [decide_eq_false h]; exact Bool.false_ne_true)]; exact h2 h
theorem b_ndec {p A B : Prop} [Decidable p] (h1 : ¬ p → A) (h2 : p → B) : if (!decide p) = true then A else B := by
  by_cases h : p
  · rw [decide_eq_true h, if_neg (by decide)]; exact h2 h
  · rw [decide_eq_false h, if_pos (by decide)]; exact h1 h
theorem b_bool {b : Bool} {A B : Prop} (h1 : b = true → A) (h2 : b = false → B) : if b = true then A else B := by
  cases b with
  | true => rw [if_pos rfl]; exact h1 rfl
  | false => rw [if_neg Bool.false_ne_true]; exact h2 rfl
theorem b_nbool {b : Bool} {A B : Prop} (h1 : b = false → A) (h2 : b = true → B) : if (!b) = true then A else B := by
  cases b with
  | true => rw [if_neg (by decide)]; exact h2 rfl
  | false => rw [if_pos (by decide)]; exact h1 rfl
theorem b_t {A B : Prop} (h : A) : if true = true then A else B := by rw [if_pos rfl]; exact h
theorem b_f {A B : Prop} (h : B) : if false = true then A else B := by rw [if_neg Bool.false_ne_true]; exact h
theorem b_nt {A B : Prop} (h : B) : if (!true) = true then A else B := by rw [if_neg (by decide)]; exact h
theorem b_nf {A B : Prop} (h : A) : if (!false) = true then A else B := by rw [if_pos (by decide)]; exact h
theorem b_decT {p A B : Prop} [Decidable p] (h : A) (e : p) : if decide p = true then A else B := by rw [if_pos (decide_eq_true e)]; exact h
theorem b_decF {p A B : Prop} [Decidable p] (h : B) (e : ¬ p) : if decide p = true then A else B := by rw [if_neg (by rw [decide_eq_false e]; exact Bool.false_ne_true)]; exact h
theorem b_ndecT {p A B : Prop} [Decidable p] (h : A) (e : ¬ p) : if (!decide p) = true then A else B := by rw [decide_eq_false e, if_pos (by decide)]; exact h
theorem b_ndecF {p A B : Prop} [Decidable p] (h : B) (e : p) : if (!decide p) = true then A else B := by rw [decide_eq_true e, if_neg (by decide)]; exact h
instance i_bt {A B : Prop} : St (if true = true then A else B) A := ⟨b_t⟩
instance i_bf {A B : Prop} : St (if false = true then A else B) B := ⟨b_f⟩
instance i_bnt {A B : Prop} : St (if (!true) = true then A else B) B := ⟨b_nt⟩
instance i_bnf {A B : Prop} : St (if (!false) = true then A else B) A := ⟨b_nf⟩
theorem b_hT {b : Bool} {A B : Prop} (e : b = true) (h : A) : if b = true then A else B := by rw [if_pos e]; exact h
theorem b_hF {b : Bool} {A B : Prop} (e : b = false) (h : B) : if b = true then A else B := by rw [if_neg (by rw [e]; exact Bool.false_ne_true)]; exact h
theorem b_hnT {b : Bool} {A B : Prop} (e : b = true) (h : B) : if (!b) = true then A else B := by rw [e]; exact b_nt h
theorem b_hnF {b : Bool} {A B : Prop} (e : b = false) (h : A) : if (!b) = true then A else B := by rw [e]; exact b_nf h
/-- an order of places in a list -/
theorem atI_0 {α : Type} {x : α} {r : List α} : atI (x :: r) 0 = some x := atI_nat (j := 0) rfl
theorem atI_1 {α : Type} {x y : α} {r : List α} : atI (x :: y :: r) 1 = some y := atI_nat (j := 1) rfl
theorem atI_2 {α : Type} {x y z : α} {r : List α} : atI (x :: y :: z :: r) 2 = some z := atI_nat (j := 2) rfl
theorem atI_3 {α : Type} {x y z v : α} {r : List α} : atI (x :: y :: z :: v :: r) 3 = some v := atI_nat (j := 3) rfl
theorem len_small {n : Nat} (h : n ≤ 10000000) : n ≤ sizeLine := Nat.le_trans h (by decide)
theorem lt_small {n : Nat} (h : n ≤ 10000000) : n < sizeLine := Nat.lt_of_le_of_lt h (by decide)
theorem cmulx_small {i j : Int} (hi : -18446744073709551616 < i ∧ i < 18446744073709551616) (hj : -18446744073709551616 < j ∧ j < 18446744073709551616) : CMulX i j := mulx_ok (a := 64) (b := 64) (by omega) (by omega) (by decide)
theorem cdiv_small {i j : Int} (h : 0 < j) (hj : j < 18446744073709551616) : CDivW i j := wide_div (b := 64) h (by omega) (by decide) (by decide)
/-- a list of ints is a deck -/
theorem Ok.toDeck {K : PySem.W.Frag} {I F H : Hp} {M : MS} {p : Addr} {ns : List Int} (o : Ok K I F (updM M p (.lst (ns.map Dt.int))) H) : Ok K I F (updM M p .deck) H := by
  refine ⟨o.i, o.f, fun b x q => ?_, fun b q => ?_, o.df⟩
  · by_cases hb : b = p
    · subst hb
      rw [updM_same] at q
      cases q
      obtain ⟨vs, e1, e2⟩ := o.m b _ updM_same
      exact ⟨ns, by rw [e1, e2.ints]⟩
    · exact o.m b x (by rw [updM_ne hb] at q ⊢; exact q)
  · by_cases hb : b = p
    · subst hb
      exact o.dm b (by rw [updM_same]; simp)
    · exact o.dm b (by rw [updM_ne hb] at q ⊢; exact q)
theorem spD_toDeck {K : PySem.W.Frag} {S S' : DSp} (h : ∀ ds M P, S' ds M P → S ds M fun x M2 => ∃ (p : Addr) (ns : List Int), x = .adr p ∧ M2 = updM M p (.lst (ns.map Dt.int)) ∧ P (.adr p) (updM M p .deck)) :
    ∀ vs H Q E, spD K S' vs H Q E → spD K S vs H Q E := fun vs H Q E q => by
  obtain ⟨I, F, M, ds, P, o, i, hs, hq⟩ := q
  refine ⟨I, F, M, ds, _, o, i, h ds M P hs, fun v x I' M' H' s o3 i3 p3 => ?_⟩
  obtain ⟨p, ns, rfl, rfl, p4⟩ := p3
  exact hq v _ I' _ H' s o3.toDeck i3 p4
end
end DL

/-! DL8: more of the head steps. -/
namespace DL
open PySem PySem.Spec PyProof.Rows L2
section
variable {P : PD} {M : MS} {p : Addr} {ds xs : List Dt} {y x d : Dt} {s z a b : Str} {j k : Int} {ρ ρ' : Rho}
theorem h_pop (e : M p = some (.lst ds)) (e2 : ds[ds.length - 1]? = some y) (h : P y (updM M p (.lst ds.dropLast))) : dPop (.adr p) [] M P := by
  simp only [dPop, e, e2]
  exact h
theorem h_split (h : P (.lst ((Txt.split a b).map Dt.str)) M) (e1 : (b.length == 0) = false) (e2 : a.length + 2 ≤ sizeLine) : dSplit (.str a) [.str b] M P := ⟨e1, e2, h⟩
theorem h_partition (h : P (.tup [.str (Txt.partition a b).1, .str (Txt.partition a b).2.1, .str (Txt.partition a b).2.2]) M) (e1 : (b.length == 0) = false) (e2 : a.length ≤ sizeLine) : dPartition (.str a) [.str b] M P := ⟨e1, e2, h⟩
theorem h_joinL {ys : List Str} (h : P (.str (Txt.join a ys)) M) (e : (ys.map (·.length)).sum + ys.length * a.length ≤ 16777216) : dJoin (.str a) [.lst (ys.map Dt.str)] M P := ⟨ys, rfl, e, h⟩
theorem h_extend (e : M p = some (.lst ds)) (hz : ds.length + xs.length ≤ sizeLine) (h : P .non (updM M p (.lst (ds ++ xs)))) : dExtend (.adr p) [.lst xs] M P := by
  simp only [dExtend, e, rdL]
  exact ⟨hz, h⟩
theorem h_intT (h : P (.int 1) M) : dInt [.bl true] M P := h
instance : St (dInt [.bl true] M P) (P (.int 1) M) := ⟨fun h => h_intT h⟩
theorem h_intF (h : P (.int 0) M) : dInt [.bl false] M P := h
instance : St (dInt [.bl false] M P) (P (.int 0) M) := ⟨fun h => h_intF h⟩
theorem h_isN_non (h : P (.bl true) M) : dIs .non .non M P := h
instance : St (dIs .non .non M P) (P (.bl true) M) := ⟨fun h => h_isN_non h⟩
theorem h_isN_bl {b : Bool} (h : P (.bl false) M) : dIs (.bl b) .non M P := h
instance {b : Bool} : St (dIs (.bl b) .non M P) (P (.bl false) M) := ⟨fun h => h_isN_bl h⟩
theorem h_isN_int (h : P (.bl false) M) : dIs (.int j) .non M P := h
instance : St (dIs (.int j) .non M P) (P (.bl false) M) := ⟨fun h => h_isN_int h⟩
theorem h_isN_str (h : P (.bl false) M) : dIs (.str s) .non M P := h
instance : St (dIs (.str s) .non M P) (P (.bl false) M) := ⟨fun h => h_isN_str h⟩
theorem h_isN_lst (h : P (.bl false) M) : dIs (.lst xs) .non M P := h
instance : St (dIs (.lst xs) .non M P) (P (.bl false) M) := ⟨fun h => h_isN_lst h⟩
theorem h_isN_tup (h : P (.bl false) M) : dIs (.tup xs) .non M P := h
instance : St (dIs (.tup xs) .non M P) (P (.bl false) M) := ⟨fun h => h_isN_tup h⟩
theorem h_isN_adr (h : P (.bl false) M) : dIs (.adr p) .non M P := h
instance : St (dIs (.adr p) .non M P) (P (.bl false) M) := ⟨fun h => h_isN_adr h⟩
theorem h_isN_obj {C : Addr} {fs : List (Str × Dt)} (h : P (.bl false) M) : dIs (.obj C fs) .non M P := h
instance {C : Addr} {fs : List (Str × Dt)} : St (dIs (.obj C fs) .non M P) (P (.bl false) M) := ⟨fun h => h_isN_obj h⟩
theorem h_notN_non (h : P (.bl false) M) : dIsNot .non .non M P := h
instance : St (dIsNot .non .non M P) (P (.bl false) M) := ⟨fun h => h_notN_non h⟩
theorem h_notN_bl {b : Bool} (h : P (.bl true) M) : dIsNot (.bl b) .non M P := h
instance {b : Bool} : St (dIsNot (.bl b) .non M P) (P (.bl true) M) := ⟨fun h => h_notN_bl h⟩
theorem h_notN_int (h : P (.bl true) M) : dIsNot (.int j) .non M P := h
instance : St (dIsNot (.int j) .non M P) (P (.bl true) M) := ⟨fun h => h_notN_int h⟩
theorem h_notN_str (h : P (.bl true) M) : dIsNot (.str s) .non M P := h
instance : St (dIsNot (.str s) .non M P) (P (.bl true) M) := ⟨fun h => h_notN_str h⟩
theorem h_notN_lst (h : P (.bl true) M) : dIsNot (.lst xs) .non M P := h
instance : St (dIsNot (.lst xs) .non M P) (P (.bl true) M) := ⟨fun h => h_notN_lst h⟩
theorem h_notN_tup (h : P (.bl true) M) : dIsNot (.tup xs) .non M P := h
instance : St (dIsNot (.tup xs) .non M P) (P (.bl true) M) := ⟨fun h => h_notN_tup h⟩
theorem h_notN_adr (h : P (.bl true) M) : dIsNot (.adr p) .non M P := h
instance : St (dIsNot (.adr p) .non M P) (P (.bl true) M) := ⟨fun h => h_notN_adr h⟩
theorem h_notN_obj {C : Addr} {fs : List (Str × Dt)} (h : P (.bl true) M) : dIsNot (.obj C fs) .non M P := h
instance {C : Addr} {fs : List (Str × Dt)} : St (dIsNot (.obj C fs) .non M P) (P (.bl true) M) := ⟨fun h => h_notN_obj h⟩
theorem h_isBnon {b : Bool} (h : P (.bl false) M) : dIs .non (.bl b) M P := h
instance {b : Bool} : St (dIs .non (.bl b) M P) (P (.bl false) M) := ⟨fun h => h_isBnon h⟩
theorem h_isBB {b : Bool} (h : P (.bl true) M) : dIs (.bl b) (.bl b) M P := by
  have e : dIs (.bl b) (.bl b) M P = P (.bl (decide (b = b))) M := rfl
  rw [e, decide_eq_true rfl]
  exact h
instance {b : Bool} : St (dIs (.bl b) (.bl b) M P) (P (.bl true) M) := ⟨fun h => h_isBB h⟩
theorem h_isBft (h : P (.bl false) M) : dIs (.bl false) (.bl true) M P := h
instance : St (dIs (.bl false) (.bl true) M P) (P (.bl false) M) := ⟨fun h => h_isBft h⟩
theorem atI_nat0 {α : Type} {xs : List α} {i : Nat} (h : i < xs.length) : atI xs (0 + (i : Int)) = some xs[i] := by
  rw [Int.zero_add]
  exact atI_nat (List.getElem?_eq_getElem h)
end
end DL
namespace DL
open PySem PySem.Spec PyProof.Rows L2
/-- a sign as a text of its own -/
abbrev sg (c : Nat) : Dt := .str ⟨#[c]⟩
theorem signs_sg (s : Str) : signs s = s.cps.toList.map sg := rfl
theorem enumD_cons (k : Int) (x : Dt) (r : List Dt) : enumD k (x :: r) = .tup [.int k, x] :: enumD (k + 1) r := by
  unfold enumD
  rw [List.zipIdx_cons, List.map_cons]
  congr 1
  · simp
  · rw [List.zipIdx_eq_map_add, List.map_map]
    apply List.map_congr_left
    intro q _
    simp only [Function.comp]
    congr 3
    omega
theorem enumD_nil (k : Int) : enumD k [] = [] := rfl
theorem str_app (a b : List Nat) : (⟨a.toArray⟩ : Str) ++ (⟨b.toArray⟩ : Str) = ⟨(a ++ b).toArray⟩ := by
  show Str.mk (a.toArray ++ b.toArray) = _
  rw [List.append_toArray]
theorem str_app1 (a : List Nat) (c : Nat) : (⟨a.toArray⟩ : Str) ++ (⟨#[c]⟩ : Str) = ⟨(a ++ [c]).toArray⟩ := str_app a [c]
theorem str_list (s : Str) : s = ⟨s.cps.toList.toArray⟩ := by cases s; simp
theorem str_appL (s z : Str) : (s ++ z).cps.toList = s.cps.toList ++ z.cps.toList := by
  show (s.cps ++ z.cps).toList = _
  simp
theorem str_len (s : Str) : s.length = s.cps.toList.length := by
  show s.cps.size = _
  simp
theorem str_lenL (a : List Nat) : (⟨a.toArray⟩ : Str).length = a.length := by
  show a.toArray.size = _
  simp
theorem str_nil {a : List Nat} : ((⟨a.toArray⟩ : Str) = Str.ofString "") ↔ a = [] := by
  have e : Str.ofString "" = ⟨([] : List Nat).toArray⟩ := by decide +kernel
  rw [e]
  constructor
  · intro h
    injection h with h
    have := congrArg Array.toList h
    simpa using this
  · rintro rfl; rfl
theorem sg_eq {c d : Nat} : ((⟨#[c]⟩ : Str) = ⟨#[d]⟩) ↔ c = d := by
  constructor
  · intro h
    injection h with h
    have := congrArg Array.toList h
    simpa using this
  · rintro rfl; rfl
section
variable {P : PD} {M : MS} {c : Nat} {t : Str}
theorem h_inC (h : P (.bl (decide (c ∈ t.cps.toList))) M) : dIn (.str ⟨#[c]⟩) (.str t) M P := h
instance : St (dIn (.str ⟨#[c]⟩) (.str t) M P) (P (.bl (decide (c ∈ t.cps.toList))) M) := ⟨fun h => h_inC h⟩
theorem h_notInC (h : P (.bl (!decide (c ∈ t.cps.toList))) M) : dNotIn (.str ⟨#[c]⟩) (.str t) M P := h
instance : St (dNotIn (.str ⟨#[c]⟩) (.str t) M P) (P (.bl (!decide (c ∈ t.cps.toList))) M) := ⟨fun h => h_notInC h⟩
theorem h_inG (h : P (.bl (decide (c ∈ t.cps.toList))) M) : dIn (sg c) (.str t) M P := h
instance : St (dIn (sg c) (.str t) M P) (P (.bl (decide (c ∈ t.cps.toList))) M) := ⟨fun h => h_inG h⟩
theorem h_notInG (h : P (.bl (!decide (c ∈ t.cps.toList))) M) : dNotIn (sg c) (.str t) M P := h
instance : St (dNotIn (sg c) (.str t) M P) (P (.bl (!decide (c ∈ t.cps.toList))) M) := ⟨fun h => h_notInG h⟩
end
end DL

/-! DLP: the plain form of data, as the laws' own comparison takes it. -/
namespace DL
open PySem PySem.Spec PyProof.Rows L2
mutual
def plainOf : Dt → Dt
  | .tup xs => .lst (.bl false :: plainL xs)
  | .lst xs => .lst (.bl true :: plainL xs)
  | .non => .str "None"
  | .bl b => if b = true then .str "True" else .str "False"
  | .int n => .lst [.bl false, .int n]
  | .str s => .lst [.bl true, .str s]
  | d => d
def plainL : List Dt → List Dt
  | [] => []
  | x :: r => plainOf x :: plainL r
end
def plOk : Nat → Dt → Prop
  | 0, _ => False
  | n + 1, .tup xs => xs.length < sizeLine ∧ ∀ x ∈ xs, plOk n x
  | n + 1, .lst xs => xs.length < sizeLine ∧ ∀ x ∈ xs, plOk n x
  | _ + 1, .str s => PyData.strOk s = true
  | _ + 1, .non => True
  | _ + 1, .bl _ => True
  | _ + 1, .int _ => True
  | _ + 1, _ => False
theorem plainL_map : ∀ xs : List Dt, plainL xs = xs.map plainOf
  | [] => by unfold plainL; rfl
  | x :: r => by unfold plainL; rw [plainL_map r]; rfl
theorem toPys_map : ∀ xs : List Dt, toPys xs = xs.map toPy
  | [] => by unfold toPys; rfl
  | x :: r => by unfold toPys; rw [toPys_map r]; rfl
theorem canAll : ∀ {xs : List PyData}, (∀ x ∈ xs, x.canLay0 = true) → PyData.canLayAll0 xs = true
  | [], _ => by simp only [PyData.canLayAll0]
  | x :: r, h => by
    simp only [PyData.canLayAll0, h x (by simp), canAll (xs := r) fun y hy => h y (List.mem_cons_of_mem _ hy), Bool.and_self]
theorem depthAll_le {n : Nat} : ∀ {xs : List PyData}, (∀ x ∈ xs, x.depth ≤ n) → PyData.depthAll xs ≤ n
  | [], _ => by simp only [PyData.depthAll]; omega
  | x :: r, h => by
    simp only [PyData.depthAll]
    have h1 := h x (by simp)
    have h2 := depthAll_le fun y hy => h y (List.mem_cons_of_mem _ hy)
    omega
theorem plain_seq {n : Nat} {xs : List Dt} {b : Bool} (h : ∀ x ∈ xs, (toPy (plainOf x)).canLay0 = true ∧ (toPy (plainOf x)).depth ≤ n) :
    (toPy (.lst (.bl b :: plainL xs))).canLay0 = true ∧ (toPy (.lst (.bl b :: plainL xs))).depth ≤ n + 1 := by
  have e : toPys (Dt.bl b :: plainL xs) = PyData.bool b :: (xs.map fun x => toPy (plainOf x)) := by
    rw [toPys_map, plainL_map, List.map_cons, List.map_map]
    congr 1
  unfold toPy
  rw [e]
  simp only [PyData.canLay0, PyData.depth]
  refine ⟨canAll fun y hy => ?_, Nat.succ_le_succ (depthAll_le fun y hy => ?_)⟩
  · rcases List.mem_cons.mp hy with rfl | hy
    · simp only [PyData.canLay0]
    · obtain ⟨x, hx, rfl⟩ := List.mem_map.mp hy
      exact (h x hx).1
  · rcases List.mem_cons.mp hy with rfl | hy
    · simp only [PyData.depth]; omega
    · obtain ⟨x, hx, rfl⟩ := List.mem_map.mp hy
      exact (h x hx).2
theorem strOk_ascii {s : Str} (h : ∀ c ∈ s.cps.toList, c < 128) : PyData.strOk s = true := by
  unfold PyData.strOk
  rw [← Array.all_toList]
  exact List.all_eq_true.mpr fun c hc => by have := h c hc; simp; omega
theorem plain_ok : ∀ (n : Nat) (d : Dt), plOk n d → (toPy (plainOf d)).canLay0 = true ∧ (toPy (plainOf d)).depth ≤ n
  | 0, _, h => by unfold plOk at h; exact h.elim
  | n + 1, .tup xs, h => by
    unfold plOk at h
    unfold plainOf
    exact plain_seq fun x hx => plain_ok n x (h.2 x hx)
  | n + 1, .lst xs, h => by
    unfold plOk at h
    unfold plainOf
    exact plain_seq fun x hx => plain_ok n x (h.2 x hx)
  | n + 1, .str s, h => by
    unfold plOk at h
    simp [plainOf, toPy, toPys, PyData.canLay0, PyData.canLayAll0, PyData.depth, PyData.depthAll, h]
  | n + 1, .non, h => by
    simp [plainOf, toPy, toPys, PyData.canLay0, PyData.canLayAll0, PyData.depth, PyData.depthAll]
    decide +kernel
  | n + 1, .bl b, h => by
    cases b <;> (simp [plainOf, toPy, toPys, PyData.canLay0, PyData.canLayAll0, PyData.depth, PyData.depthAll]; decide +kernel)
  | n + 1, .int i, h => by
    simp [plainOf, toPy, toPys, PyData.canLay0, PyData.canLayAll0, PyData.depth, PyData.depthAll]
  | n + 1, .obj _ _, h => by unfold plOk at h; exact h.elim
  | n + 1, .adr _, h => by unfold plOk at h; exact h.elim
  | n + 1, .scr _, h => by unfold plOk at h; exact h.elim
  | n + 1, .ty _, h => by unfold plOk at h; exact h.elim
theorem plain_okEq {n : Nat} {d : Dt} (hn : n ≤ 64) (h : plOk n d) : okEq (plainOf d) = true := by
  obtain ⟨h1, h2⟩ := plain_ok n d h
  unfold okEq SeqAt.shaped
  rw [h1, decide_eq_true (Nat.le_trans h2 hn)]
  rfl
theorem plain_beq {n : Nat} {d : Dt} (h : plOk n d) : beqD (plainOf d) (plainOf d) = true := PySem.SeqAt.eqv_refl _ (plain_ok n d h).1
/-- the plain form is never a bare number, sign or None: a comparison of two is a comparison of data -/
theorem h_eqP {n : Nat} {d : Dt} {M : MS} {P : PD} (hn : n ≤ 64) (h : plOk n d) (hp : P (.bl true) M) : dEq (plainOf d) (plainOf d) M P := by
  have hr := plain_beq h
  have hk := plain_okEq hn h
  cases d with
  | tup xs => unfold plainOf at *; exact ⟨hk, hk, by rw [hr]; exact hp⟩
  | lst xs => unfold plainOf at *; exact ⟨hk, hk, by rw [hr]; exact hp⟩
  | non => unfold plainOf at *; simp only [dEq]; simpa using hp
  | bl b => cases b <;> (simp only [plainOf, dEq]; simpa using hp)
  | int i => unfold plainOf at *; exact ⟨hk, hk, by rw [hr]; exact hp⟩
  | str s => unfold plainOf at *; exact ⟨hk, hk, by rw [hr]; exact hp⟩
  | obj => cases n <;> (unfold plOk at h; exact h.elim)
  | adr => cases n <;> (unfold plOk at h; exact h.elim)
  | scr => cases n <;> (unfold plOk at h; exact h.elim)
  | ty => cases n <;> (unfold plOk at h; exact h.elim)
section
variable {P : PD} {M : MS} {x : Dt} {n t : String} {ns : List Dt} {b : Bool}
theorem h_isi1 (e1 : tyD M x = some t) (e2 : kitB t n = some b) (h : P (.bl b) M) : dIsi [x, .ty n] M P := by
  simp only [dIsi, e1, e2]
  exact h
theorem h_isiT (e1 : tyD M x = some t) (e2 : isiB t ns = some b) (h : P (.bl b) M) : dIsi [x, .tup ns] M P := by
  simp only [dIsi, e1, e2]
  exact h
end
/-- the promise of the law's own plain form -/
def spPlain (n : Nat) : DSp := fun ds M P => ∃ d, ds = [d] ∧ plOk n d ∧ P (plainOf d) M
def spSame (n : Nat) : DSp := fun ds M P => ∃ d, ds = [d, d] ∧ plOk n d ∧ P (.bl true) M
end DL

namespace K38
open PySem PySem.Spec PyProof.Rows L2 DL
local macro_rules | `(tactic| walk_at "side") => `(tactic| first | assumption | exact updM_same | omega | decide | (refine len_small ?_; first | omega | (simp only [List.length_cons, List.length_nil, List.length_append, List.length_map]; omega)) | (refine lt_small ?_; first | omega | (simp only [List.length_cons, List.length_nil, List.length_append, List.length_map]; omega)) | (refine cmulx_small ⟨?_, ?_⟩ ⟨?_, ?_⟩ <;> omega) | (refine cdiv_small ?_ ?_ <;> omega))
local macro_rules | `(tactic| walk_at "dl1") => `(tactic| first
  | with_reducible refine St.h ?_
  | with_reducible refine b_hT (by assumption) ?_
  | with_reducible refine b_hF (by assumption) ?_
  | with_reducible refine b_hnT (by assumption) ?_
  | with_reducible refine b_hnF (by assumption) ?_
  | with_reducible refine h_mod ?_ (by walk_at "side")
  | with_reducible refine h_mul ?_ (by walk_at "side")
  | with_reducible refine h_fdiv ?_ (by walk_at "side")
  | ((with_reducible refine' h_isi1 (b := true) ?e1 ?e2 ?_); (case e1 => rfl); (case e2 => rfl))
  | ((with_reducible refine' h_isi1 (b := false) ?e1 ?e2 ?_); (case e1 => rfl); (case e2 => rfl))
  | ((with_reducible refine' h_isiT (b := true) ?e1 ?e2 ?_); (case e1 => rfl); (case e2 => rfl))
  | ((with_reducible refine' h_isiT (b := false) ?e1 ?e2 ?_); (case e1 => rfl); (case e2 => rfl))
  | with_reducible refine h_ixC (by assumption) ?_
  | ((with_reducible refine' h_split ?_ ?e1 (by walk_at "side")); (case e1 => rfl))
  | ((with_reducible refine' h_partition ?_ ?e1 (by walk_at "side")); (case e1 => rfl))
  | with_reducible refine h_isL ?_ (by walk_at "side")
  | with_reducible refine k_truS ?_ (by walk_at "side")
  | with_reducible refine h_gtup ?_ rfl
  | with_reducible refine h_addS ?_ (by walk_at "side")
  | with_reducible refine h_addL ?_ (by walk_at "side")
  | with_reducible refine h_lenA ?_ (by walk_at "side")
  | with_reducible refine h_lenS ?_ (by walk_at "side")
  | ((with_reducible refine' h_ixT ?e ?_); (case e => first | exact atI_0 | exact atI_1 | exact atI_2 | exact atI_3))
  | ((with_reducible refine' h_ixL ?e ?_); (case e => first | assumption | exact atI_0 | exact atI_1 | exact atI_2 | exact atI_3))
  | with_reducible refine h_appendU ?_ (by walk_at "side")
  | with_reducible refine h_extendU ?_ (by walk_at "side")
  | ((with_reducible refine' h_pow ?hh ?he); (case he => exact ⟨by decide, by decide, by decide⟩))
  | with_reducible refine k_rng1 ?_ (by omega)
  | with_reducible refine k_rng2 ?_ (by omega)
  | (refine' h_frz rfl ?he ?hn ?_; (case he => (dsimp only [List.set] <;> exact rfl)); (case hn => assumption))
  | with_reducible refine b_decT ?_ (by first | omega | decide)
  | with_reducible refine b_decF ?_ (by first | omega | decide)
  | with_reducible refine b_ndecT ?_ (by first | omega | decide)
  | with_reducible refine b_ndecF ?_ (by first | omega | decide)
  | ((with_reducible refine' (And.intro (a := List.length _ ≤ sizeLine) ?e ?_)); (case e => first | exact Nat.le_of_ble_eq_true rfl | walk_at "side")))
/-- a reading, taken apart as far as it goes by itself -/
local macro_rules | `(tactic| walk_at "dl") => `(tactic| repeat (walk_at "dl1"))
/-- until a value is at hand -/
local macro_rules | `(tactic| walk_at "dl0") => `(tactic| skip)
def topS (i : Nat) : Stmt := PySem.Challenge.pw_armwarrant_k38_whole_words_of_any_text.main.body.getD i (.Pass ⟨0, 0, 0, 0⟩)
abbrev s_split_line : Stmt := topS 1
abbrev s_split_words : Stmt := topS 2
abbrev s_law_deck : Stmt := topS 4
abbrev s_law_take : Stmt := topS 5
abbrev s_law_pick : Stmt := topS 6
abbrev s_law_plain : Stmt := topS 7
abbrev s_law_same : Stmt := topS 8
abbrev s_law_split : Stmt := topS 9
abbrev s_law : Stmt := topS 10
abbrev N_split_line : List Str := ["text", "line", "words", "word", "index", "char"]
theorem sc_split_line : FnScope N_split_line ["text", "line"] (defScope s_split_line) := ⟨rfl, rfl, rfl, by decide +kernel, rfl, by decide +kernel, by decide +kernel⟩
theorem nd_split_line : (N_split_line : List Str).Nodup := sc_split_line.nd
abbrev N_split_words : List Str := ["text", "words", "line", "row", "bare", "_"]
theorem sc_split_words : FnScope N_split_words ["text"] (defScope s_split_words) := ⟨rfl, rfl, rfl, by decide +kernel, rfl, by decide +kernel, by decide +kernel⟩
theorem nd_split_words : (N_split_words : List Str).Nodup := sc_split_words.nd
abbrev N_law_deck : List Str := ["script", "cells", "each", "deck", "seed", "k", "cell", "rest", "turn"]
theorem sc_law_deck : FnScope N_law_deck ["script", "cells", "each"] (defScope s_law_deck) := ⟨rfl, rfl, rfl, by decide +kernel, rfl, by decide +kernel, by decide +kernel⟩
theorem nd_law_deck : (N_law_deck : List Str).Nodup := sc_law_deck.nd
abbrev N_law_take : List Str := ["deck", "many"]
theorem sc_law_take : FnScope N_law_take ["deck", "many"] (defScope s_law_take) := ⟨rfl, rfl, rfl, by decide +kernel, rfl, by decide +kernel, by decide +kernel⟩
theorem nd_law_take : (N_law_take : List Str).Nodup := sc_law_take.nd
abbrev N_law_pick : List Str := ["deck", "items"]
theorem sc_law_pick : FnScope N_law_pick ["deck", "items"] (defScope s_law_pick) := ⟨rfl, rfl, rfl, by decide +kernel, rfl, by decide +kernel, by decide +kernel⟩
theorem nd_law_pick : (N_law_pick : List Str).Nodup := sc_law_pick.nd
abbrev N_law_plain : List Str := ["value", "item"]
theorem sc_law_plain : FnScope N_law_plain ["value"] (defScope s_law_plain) := ⟨rfl, rfl, rfl, by decide +kernel, rfl, by decide +kernel, by decide +kernel⟩
theorem nd_law_plain : (N_law_plain : List Str).Nodup := sc_law_plain.nd
abbrev N_law_same : List Str := ["told", "due"]
theorem sc_law_same : FnScope N_law_same ["told", "due"] (defScope s_law_same) := ⟨rfl, rfl, rfl, by decide +kernel, rfl, by decide +kernel, by decide +kernel⟩
theorem nd_law_same : (N_law_same : List Str).Nodup := sc_law_same.nd
abbrev N_law_split : List Str := ["text", "found", "line", "column", "word", "begin", "remark", "sign", "parted"]
theorem sc_law_split : FnScope N_law_split ["text"] (defScope s_law_split) := ⟨rfl, rfl, rfl, by decide +kernel, rfl, by decide +kernel, by decide +kernel⟩
theorem nd_law_split : (N_law_split : List Str).Nodup := sc_law_split.nd
abbrev N_law : List Str := ["script", "deck", "turn", "texts", "k", "due", "lines", "both", "text", "word", "line", "column", "j"]
theorem sc_law : FnScope N_law ["script"] (defScope s_law) := ⟨rfl, rfl, rfl, by decide +kernel, rfl, by decide +kernel, by decide +kernel⟩
theorem nd_law : (N_law : List Str).Nodup := sc_law.nd
structure Txt (K : PySem.W.Frag) (mg : Str → Option Value) where
  a_split_line : Addr
  d_split_line : FuncData
  f_split_line : Fun K "split_line" "split_line" s_split_line a_split_line d_split_line
  g_split_line : mg "split_line" = some (.ref a_split_line)
  b_split_line : Binds K d_split_line ["text", "line"] []
  a_split_words : Addr
  d_split_words : FuncData
  f_split_words : Fun K "split_words" "split_words" s_split_words a_split_words d_split_words
  g_split_words : mg "split_words" = some (.ref a_split_words)
  b_split_words : Binds K d_split_words ["text"] []
  a_law_deck : Addr
  d_law_deck : FuncData
  f_law_deck : Fun K "_law_deck" "_law_deck" s_law_deck a_law_deck d_law_deck
  g_law_deck : mg "_law_deck" = some (.ref a_law_deck)
  b_law_deck : Binds K d_law_deck ["script", "cells", "each"] []
  a_law_take : Addr
  d_law_take : FuncData
  f_law_take : Fun K "_law_take" "_law_take" s_law_take a_law_take d_law_take
  g_law_take : mg "_law_take" = some (.ref a_law_take)
  b_law_take : Binds K d_law_take ["deck", "many"] []
  a_law_pick : Addr
  d_law_pick : FuncData
  f_law_pick : Fun K "_law_pick" "_law_pick" s_law_pick a_law_pick d_law_pick
  g_law_pick : mg "_law_pick" = some (.ref a_law_pick)
  b_law_pick : Binds K d_law_pick ["deck", "items"] []
  a_law_plain : Addr
  d_law_plain : FuncData
  f_law_plain : Fun K "_law_plain" "_law_plain" s_law_plain a_law_plain d_law_plain
  g_law_plain : mg "_law_plain" = some (.ref a_law_plain)
  b_law_plain : Binds K d_law_plain ["value"] []
  a_law_same : Addr
  d_law_same : FuncData
  f_law_same : Fun K "_law_same" "_law_same" s_law_same a_law_same d_law_same
  g_law_same : mg "_law_same" = some (.ref a_law_same)
  b_law_same : Binds K d_law_same ["told", "due"] []
  a_law_split : Addr
  d_law_split : FuncData
  f_law_split : Fun K "_law_split" "_law_split" s_law_split a_law_split d_law_split
  g_law_split : mg "_law_split" = some (.ref a_law_split)
  b_law_split : Binds K d_law_split ["text"] []
  a_law : Addr
  d_law : FuncData
  f_law : Fun K "law" "law" s_law a_law d_law
  g_law : mg "law" = some (.ref a_law)
  b_law : Binds K d_law ["script"] []
  z_abs : mg "abs" = none
  z_bool : mg "bool" = none
  z_enumerate : mg "enumerate" = none
  z_int : mg "int" = none
  z_isinstance : mg "isinstance" = none
  z_len : mg "len" = none
  z_list : mg "list" = none
  z_range : mg "range" = none
  z_str : mg "str" = none
  z_tuple : mg "tuple" = none

/-! the words of a text, by rows and sign by sign -/
def tok (w : List Nat) (line col : Int) : Dt := .tup [.str ⟨w.toArray⟩, .int line, .int col]
def sep (c : Nat) : Bool := c == 32 || c == 9 || c == 123 || c == 125
def brc (c : Nat) : Bool := c == 123 || c == 125
def emit (w : List Nat) (line col : Int) : List Dt := if w = [] then [] else [tok w line col]
def brace (c : Nat) (line col : Int) : List Dt := if brc c = true then [tok [c] line col] else []
def lineW (line : Int) : Int → List Nat → List Nat → List Dt
  | _, _, [] => []
  | i, w, c :: r => if sep c = true then emit w line (i + 1 - (w.length : Int)) ++ (brace c line (i + 1) ++ lineW line (i + 1) [] r) else lineW line (i + 1) (w ++ [c]) r
def bareOf (h : List Nat) : List Nat := h.takeWhile fun c => c != 35
def wordsFrom : Int → List (List Nat) → List Dt
  | _, [] => []
  | line, h :: r => lineW line 0 [] (bareOf h ++ [32]) ++ wordsFrom (line + 1) r
def rows : List Nat → List (List Nat)
  | [] => [[]]
  | c :: r => if c = 10 then [] :: rows r else match rows r with
    | h :: t => (c :: h) :: t
    | [] => [[c]]
theorem rows_ne : ∀ t : List Nat, ∃ h r, rows t = h :: r
  | [] => ⟨[], [], rfl⟩
  | c :: r => by
    obtain ⟨h, s, e⟩ := rows_ne r
    unfold rows
    by_cases hc : c = 10
    · rw [if_pos hc]; exact ⟨_, _, rfl⟩
    · rw [if_neg hc, e]; exact ⟨_, _, rfl⟩
theorem rows_nl (r : List Nat) : rows (10 :: r) = [] :: rows r := by rw [rows, if_pos rfl]
theorem rows_c {c : Nat} {r h : List Nat} {t : List (List Nat)} (hc : c ≠ 10) (e : rows r = h :: t) : rows (c :: r) = (c :: h) :: t := by rw [rows, if_neg hc, e]
theorem rows_spl : ∀ (t acc : List Nat), TL.spl [10] 0 acc t = match rows t with
    | h :: r => (acc ++ h) :: r
    | [] => [acc]
  | [], acc => by
    show [acc] = [acc ++ []]
    rw [List.append_nil]
  | c :: r, acc => by
    obtain ⟨h, s, e⟩ := rows_ne r
    by_cases hc : c = 10
    · subst hc
      have hp : TL.pre [10] (10 :: r) = true := by simp [TL.pre]
      rw [TL.spl_hit hp]
      have ih := rows_spl r []
      rw [e] at ih
      show acc :: TL.spl [10] 0 [] r = _
      rw [ih]
      unfold rows
      rw [if_pos rfl, e]
      simp
    · have hp : TL.pre [10] (c :: r) = false := by simp [TL.pre, Ne.symm hc, hc]
      rw [TL.spl_miss hp, rows_spl r (acc ++ [c]), e]
      unfold rows
      rw [if_neg hc, e]
      simp
theorem rows_app : ∀ a b : List Nat, rows (a ++ 10 :: b) = rows a ++ rows b
  | [], b => by
    show rows (10 :: b) = [[]] ++ rows b
    rw [rows_nl]
    rfl
  | c :: r, b => by
    have ih := rows_app r b
    obtain ⟨h, s, e⟩ := rows_ne r
    show rows (c :: (r ++ 10 :: b)) = rows (c :: r) ++ rows b
    by_cases hc : c = 10
    · subst hc
      rw [rows_nl, rows_nl, ih]
      rfl
    · rw [e] at ih
      rw [rows_c hc ih, rows_c hc e]
      rfl
theorem wordsFrom_app : ∀ (a b : List (List Nat)) (k : Int), wordsFrom k (a ++ b) = wordsFrom k a ++ wordsFrom (k + (a.length : Int)) b
  | [], b, k => by
    show wordsFrom k b = [] ++ wordsFrom (k + 0) b
    rw [Int.add_zero]
    rfl
  | h :: r, b, k => by
    show lineW k 0 [] (bareOf h ++ [32]) ++ wordsFrom (k + 1) (r ++ b) = (lineW k 0 [] (bareOf h ++ [32]) ++ wordsFrom (k + 1) r) ++ wordsFrom (k + ((h :: r).length : Int)) b
    rw [wordsFrom_app r b, List.append_assoc]
    have e : k + 1 + (r.length : Int) = k + ((h :: r).length : Int) := by simp; omega
    rw [e]
/-- a word, n lines on -/
def shiftT (n : Int) : Dt → Dt
  | .tup [a, .int l, c] => .tup [a, .int (l + n), c]
  | d => d
theorem lineW_shift (n line : Int) : ∀ (r : List Nat) (i : Int) (w : List Nat), lineW (line + n) i w r = (lineW line i w r).map (shiftT n)
  | [], i, w => rfl
  | c :: r, i, w => by
    unfold lineW
    by_cases h : sep c = true
    · rw [if_pos h, if_pos h, List.map_append, List.map_append, lineW_shift n line r]
      congr 1
      · unfold emit
        split <;> rfl
      · congr 1
        unfold brace
        split <;> rfl
    · rw [if_neg h, if_neg h, lineW_shift n line r]
theorem wordsFrom_shift (n : Int) : ∀ (a : List (List Nat)) (k : Int), wordsFrom (k + n) a = (wordsFrom k a).map (shiftT n)
  | [], k => rfl
  | h :: r, k => by
    unfold wordsFrom
    rw [List.map_append, lineW_shift, ← wordsFrom_shift n r]
    have e : k + n + 1 = k + 1 + n := by omega
    rw [e]
/-! the law's machine -/
def prt (c : Nat) : Bool := c == 32 || c == 9 || c == 10 || c == 123 || c == 125 || c == 35
structure LS where
  line : Int
  col : Int
  word : List Nat
  beg : Int
  rem : Bool
def lawStep (s : LS) (c : Nat) : LS × List Dt :=
  let o1 := if s.rem = false ∧ prt c = true ∧ s.word ≠ [] then [tok s.word s.line s.beg] else []
  let w1 := if s.rem = false ∧ prt c = true ∧ s.word ≠ [] then [] else s.word
  let r1 := if c = 35 then true else s.rem
  let b1 := if r1 = false ∧ prt c = false then (if w1 = [] then s.col else s.beg) else s.beg
  let w2 := if r1 = false ∧ prt c = false then w1 ++ [c] else w1
  let o2 := if r1 = false ∧ brc c = true then [tok [c] s.line s.col] else []
  (if c = 10 then ⟨s.line + 1, 1, w2, b1, false⟩ else ⟨s.line, s.col + 1, w2, b1, r1⟩, o1 ++ o2)
def lawGo : LS → List Nat → List Dt
  | _, [] => []
  | s, c :: r => (lawStep s c).2 ++ lawGo (lawStep s c).1 r
theorem lawGo_c (s : LS) (c : Nat) (r : List Nat) : lawGo s (c :: r) = (lawStep s c).2 ++ lawGo (lawStep s c).1 r := rfl
theorem step_nl (line col b : Int) (w : List Nat) (rem : Bool) (hw : rem = true → w = []) : ∃ b', lawStep ⟨line, col, w, b, rem⟩ 10 = (⟨line + 1, 1, [], b', false⟩, emit w line b) := by
  cases rem with
  | true =>
    rw [hw rfl]
    exact ⟨b, by simp [lawStep, prt, brc, emit]⟩
  | false =>
    by_cases h : w = []
    · subst h
      exact ⟨b, by simp [lawStep, prt, brc, emit]⟩
    · exact ⟨b, by simp [lawStep, prt, brc, emit, h]⟩
theorem step_rem (line col b : Int) (c : Nat) (hc : c ≠ 10) : lawStep ⟨line, col, [], b, true⟩ c = (⟨line, col + 1, [], b, true⟩, []) := by
  simp [lawStep, hc]
theorem step_hash (line col b : Int) (w : List Nat) : lawStep ⟨line, col, w, b, false⟩ 35 = (⟨line, col + 1, [], b, true⟩, emit w line b) := by
  by_cases h : w = []
  · subst h; simp [lawStep, prt, brc, emit]
  · simp [lawStep, prt, brc, emit, h]
theorem step_sep (line col b : Int) (w : List Nat) (c : Nat) (hs : sep c = true) : lawStep ⟨line, col, w, b, false⟩ c = (⟨line, col + 1, [], b, false⟩, emit w line b ++ brace c line col) := by
  have h10 : c ≠ 10 := by rintro rfl; simp [sep] at hs
  have h35 : c ≠ 35 := by rintro rfl; simp [sep] at hs
  have hp : prt c = true := by
    simp only [sep, Bool.or_eq_true, beq_iff_eq] at hs
    simp only [prt, Bool.or_eq_true, beq_iff_eq]
    omega
  by_cases h : w = []
  · subst h; simp [lawStep, hp, emit, brace, h10, h35]
  · simp [lawStep, hp, emit, brace, h10, h35, h]
theorem step_char (line col b : Int) (w : List Nat) (c : Nat) (h10 : c ≠ 10) (h35 : c ≠ 35) (hs : sep c = false) : lawStep ⟨line, col, w, b, false⟩ c = (⟨line, col + 1, w ++ [c], if w = [] then col else b, false⟩, []) := by
  have hp : prt c = false := by
    simp only [sep, Bool.or_eq_false_iff, beq_eq_false_iff_ne] at hs
    simp only [prt, Bool.or_eq_false_iff, beq_eq_false_iff_ne]
    omega
  have hb : brc c = false := by
    simp only [sep, Bool.or_eq_false_iff, beq_eq_false_iff_ne] at hs
    simp only [brc, Bool.or_eq_false_iff, beq_eq_false_iff_ne]
    omega
  simp [lawStep, hp, hb, h10, h35]
theorem bare_cons {c : Nat} (h : List Nat) (hc : c ≠ 35) : bareOf (c :: h) = c :: bareOf h := by simp [bareOf, hc]
theorem bare_hash (h : List Nat) : bareOf (35 :: h) = [] := by simp [bareOf]
theorem lineW_c (line i : Int) (w : List Nat) (c : Nat) (r : List Nat) : lineW line i w (c :: r) = if sep c = true then emit w line (i + 1 - (w.length : Int)) ++ (brace c line (i + 1) ++ lineW line (i + 1) [] r) else lineW line (i + 1) (w ++ [c]) r := rfl
theorem lineW_end (line i : Int) (w : List Nat) : lineW line i w [32] = emit w line (i + 1 - (w.length : Int)) := by
  rw [lineW_c, if_pos (by decide)]
  show emit w line (i + 1 - (w.length : Int)) ++ ([] ++ []) = _
  simp
theorem emit_same {w : List Nat} {line a b : Int} (h : w ≠ [] → a = b) : emit w line a = emit w line b := by
  by_cases e : w = []
  · subst e; rfl
  · rw [h e]
theorem law_all : ∀ (t : List Nat), (∀ (line col b : Int), lawGo ⟨line, col, [], b, true⟩ (t ++ [10]) = wordsFrom (line + 1) (rows t).tail) ∧
    ∀ (line i b : Int) (w : List Nat), (w ≠ [] → b = i + 1 - (w.length : Int)) → lawGo ⟨line, i + 1, w, b, false⟩ (t ++ [10]) = lineW line i w (bareOf ((rows t).headD []) ++ [32]) ++ wordsFrom (line + 1) (rows t).tail
  | [] => by
    refine ⟨fun line col b => ?_, fun line i b w hw => ?_⟩
    · obtain ⟨b', e⟩ := step_nl line col b [] true fun _ => rfl
      show lawGo _ (10 :: []) = _
      rw [lawGo_c, e]
      rfl
    · obtain ⟨b', e⟩ := step_nl line (i + 1) b w false fun z => nomatch z
      show lawGo _ (10 :: []) = lineW line i w [32] ++ []
      rw [lawGo_c, e, lineW_end, emit_same hw]
      rfl
  | c :: r => by
    obtain ⟨ih1, ih2⟩ := law_all r
    obtain ⟨h, s, e⟩ := rows_ne r
    have fresh : ∀ line b, lawGo ⟨line + 1, 1, [], b, false⟩ (r ++ [10]) = wordsFrom (line + 1) (rows r) := fun line b => by
      have := ih2 (line + 1) 0 b [] (fun z => absurd rfl z)
      rw [e] at this ⊢
      exact this
    refine ⟨fun line col b => ?_, fun line i b w hw => ?_⟩
    · show lawGo _ (c :: (r ++ [10])) = _
      rw [lawGo_c]
      by_cases hc : c = 10
      · subst hc
        obtain ⟨b', e1⟩ := step_nl line col b [] true fun _ => rfl
        rw [e1, rows_nl]
        exact fresh line b'
      · rw [step_rem line col b c hc, rows_c hc e]
        have := ih1 line (col + 1) b
        rw [e] at this
        exact this
    · show lawGo _ (c :: (r ++ [10])) = _
      rw [lawGo_c]
      by_cases hc : c = 10
      · subst hc
        obtain ⟨b', e1⟩ := step_nl line (i + 1) b w false fun z => nomatch z
        rw [e1, rows_nl]
        show emit w line b ++ lawGo ⟨line + 1, 1, [], b', false⟩ (r ++ [10]) = lineW line i w [32] ++ wordsFrom (line + 1) (rows r)
        rw [fresh line b', lineW_end, emit_same hw]
      · rw [rows_c hc e]
        by_cases h35 : c = 35
        · subst h35
          rw [step_hash]
          have := ih1 line (i + 1 + 1) b
          rw [e] at this
          show emit w line b ++ lawGo ⟨line, i + 1 + 1, [], b, true⟩ (r ++ [10]) = lineW line i w (bareOf (35 :: h) ++ [32]) ++ wordsFrom (line + 1) s
          rw [this, bare_hash]
          show emit w line b ++ _ = lineW line i w [32] ++ _
          rw [lineW_end, emit_same hw]
          rfl
        · show _ = lineW line i w (bareOf (c :: h) ++ [32]) ++ wordsFrom (line + 1) s
          rw [bare_cons h h35]
          show _ = lineW line i w (c :: (bareOf h ++ [32])) ++ wordsFrom (line + 1) s
          rw [lineW_c]
          cases hs : sep c with
          | true =>
            rw [step_sep _ _ _ _ _ hs, if_pos rfl]
            have := ih2 line (i + 1) b [] (fun z => absurd rfl z)
            rw [e] at this
            show (emit w line b ++ brace c line (i + 1)) ++ lawGo ⟨line, i + 1 + 1, [], b, false⟩ (r ++ [10]) = _
            rw [this, emit_same hw, List.append_assoc, List.append_assoc, List.append_assoc]
            rfl
          | false =>
            rw [step_char _ _ _ _ _ hc h35 hs, if_neg Bool.false_ne_true]
            have := ih2 line (i + 1) (if w = [] then i + 1 else b) (w ++ [c]) (fun _ => by
              rw [List.length_append, List.length_singleton]
              by_cases hz : w = []
              · subst hz; rw [if_pos rfl]; simp
              · rw [if_neg hz, hw hz]; omega)
            rw [e] at this
            exact this
/-- the law's words are the program's -/
theorem law_words (t : List Nat) (b : Int) : lawGo ⟨1, 1, [], b, false⟩ (t ++ [10]) = wordsFrom 1 (rows t) := by
  have := (law_all t).2 1 0 b [] (fun z => absurd rfl z)
  obtain ⟨h, s, e⟩ := rows_ne t
  rw [e] at this ⊢
  exact this

abbrev strD (l : List Nat) : Dt := .str ⟨l.toArray⟩
theorem split_rows (s : Str) : (Txt.split s ⟨#[10]⟩).map Dt.str = (rows s.cps.toList).map strD := by
  have h := TL.split_spl s ⟨#[10]⟩ (by decide) (TL.kind_ok (by decide +kernel))
  have e : TL.spl [10] 0 [] s.cps.toList = rows s.cps.toList := by
    rw [rows_spl]
    obtain ⟨h, r, e⟩ := rows_ne s.cps.toList
    rw [e]
    rfl
  have h2 : (Txt.split s ⟨#[10]⟩).map TL.tl = rows s.cps.toList := h.trans e
  rw [← h2, List.map_map]
  apply List.map_congr_left
  intro x _
  show Dt.str x = Dt.str ⟨x.cps.toList.toArray⟩
  rw [← str_list]
theorem par_bare : ∀ (l acc : List Nat), (match TL.par [35] acc l with | some (a, _) => a | none => acc ++ l) = acc ++ bareOf l
  | [], acc => rfl
  | c :: r, acc => by
    by_cases h : c = 35
    · subst h
      simp [TL.par, TL.pre, bareOf]
    · have hp : TL.pre [35] (c :: r) = false := by simp [TL.pre, h]
      unfold TL.par
      rw [if_neg (by rw [hp]; decide), bare_cons r h]
      have := par_bare r (acc ++ [c])
      rw [List.append_assoc, List.append_assoc] at this
      exact this
theorem part_bare (l : List Nat) : (Txt.partition ⟨l.toArray⟩ ⟨#[35]⟩).1 = ⟨(bareOf l).toArray⟩ := by
  rw [TL.partition_par _ _ (by decide)]
  have h := par_bare l []
  have e1 : TL.tl (⟨l.toArray⟩ : Str) = l := by simp [TL.tl]
  have e2 : TL.tl (⟨#[35]⟩ : Str) = [35] := rfl
  rw [e1, e2]
  revert h
  cases TL.par [35] [] l with
  | none => intro h; rw [List.nil_append, List.nil_append] at h; rw [← h]
  | some ab => intro h; replace h : ab.1 = [] ++ bareOf l := h; rw [List.nil_append] at h; rw [← h]
theorem rows_lens : ∀ (t : List Nat), ∀ h ∈ rows t, h.length ≤ t.length
  | [], h, hm => by
    have : h = [] := by simpa [rows] using hm
    subst this; simp
  | c :: r, h, hm => by
    by_cases hc : c = 10
    · subst hc
      rw [rows_nl] at hm
      rcases List.mem_cons.mp hm with rfl | hm
      · simp
      · have := rows_lens r h hm
        rw [List.length_cons]; omega
    · obtain ⟨h0, s, e⟩ := rows_ne r
      rw [rows_c hc e] at hm
      rcases List.mem_cons.mp hm with rfl | hm
      · have := rows_lens r h0 (by rw [e]; simp)
        rw [List.length_cons, List.length_cons]; omega
      · have := rows_lens r h (by rw [e]; simp [hm])
        rw [List.length_cons]; omega
theorem rows_num : ∀ (t : List Nat), (rows t).length ≤ t.length + 1
  | [] => by simp [rows]
  | c :: r => by
    by_cases hc : c = 10
    · subst hc
      rw [rows_nl, List.length_cons, List.length_cons]
      have := rows_num r
      omega
    · obtain ⟨h0, s, e⟩ := rows_ne r
      have := rows_num r
      rw [rows_c hc e, List.length_cons, List.length_cons]
      rw [e, List.length_cons] at this
      omega
theorem bare_len (h : List Nat) : (bareOf h).length ≤ h.length := by
  unfold bareOf
  exact (List.takeWhile_sublist _).length_le
theorem lineW_len (line : Int) : ∀ (r : List Nat) (i : Int) (w : List Nat), (lineW line i w r).length ≤ 2 * r.length
  | [], i, w => by simp [lineW]
  | c :: r, i, w => by
    rw [lineW_c]
    by_cases h : sep c = true
    · rw [if_pos h, List.length_append, List.length_append, List.length_cons]
      have := lineW_len line r (i + 1) []
      have h1 : (emit w line (i + 1 - (w.length : Int))).length ≤ 1 := by unfold emit; split <;> simp
      have h2 : (brace c line (i + 1)).length ≤ 1 := by unfold brace; split <;> simp
      omega
    · rw [if_neg h, List.length_cons]
      have := lineW_len line r (i + 1) (w ++ [c])
      omega
theorem rows_sum : ∀ (t : List Nat), ((rows t).map fun h => h.length + 1).sum = t.length + 1
  | [] => by simp [rows]
  | c :: r => by
    have ih := rows_sum r
    by_cases hc : c = 10
    · subst hc
      rw [rows_nl, List.map_cons, List.sum_cons, ih]
      simp; omega
    · obtain ⟨h0, s, e⟩ := rows_ne r
      rw [e, List.map_cons, List.sum_cons] at ih
      rw [rows_c hc e, List.map_cons, List.sum_cons, List.length_cons, List.length_cons]
      omega
theorem wordsFrom_len : ∀ (a : List (List Nat)) (k : Int), (wordsFrom k a).length ≤ 2 * (a.map fun h => h.length + 1).sum
  | [], k => by simp [wordsFrom]
  | h :: r, k => by
    unfold wordsFrom
    rw [List.length_append, List.map_cons, List.sum_cons]
    have h1 := lineW_len k (bareOf h ++ [32]) 0 []
    have h2 := wordsFrom_len r (k + 1)
    have h3 := bare_len h
    rw [List.length_append, List.length_singleton] at h1
    omega
theorem words_len (t : List Nat) (k : Int) : (wordsFrom k (rows t)).length ≤ 2 * (t.length + 1) := by
  have := wordsFrom_len (rows t) k
  rwa [rows_sum] at this

def Piece (s : Str) : Prop := s.length ≤ 4 ∧ ∀ c ∈ s.cps.toList, c < 128
def Good (s : Str) : Prop := s.length ≤ 92 ∧ ∀ c ∈ s.cps.toList, c < 128
theorem join_flat : ∀ ls : List (List Nat), TL.joinL [] ls = ls.flatten
  | [] => rfl
  | [p] => by simp [TL.joinL]
  | p :: q :: r => by
    have ih := join_flat (q :: r)
    unfold TL.joinL
    rw [ih]
    simp
theorem join_tl (ss : List Str) : (Txt.join (Str.ofString "") ss).cps.toList = (ss.map fun s => s.cps.toList).flatten := by
  have e : (Str.ofString "").cps.toList = [] := by decide +kernel
  have h := TL.tl_join (Str.ofString "") ss
  rw [← TL.join_eq] at h
  rw [show TL.tl (Str.ofString "") = [] from e, join_flat] at h
  exact h
theorem pieces_len : ∀ {ss : List Str}, (∀ s ∈ ss, Piece s) → ((ss.map fun s => s.cps.toList).flatten).length ≤ 4 * ss.length
  | [], _ => by simp
  | s :: r, h => by
    have h1 := (h s (by simp)).1
    have h2 := pieces_len (ss := r) fun x hx => h x (List.mem_cons_of_mem _ hx)
    rw [str_len] at h1
    rw [List.map_cons, List.flatten_cons, List.length_append, List.length_cons]
    omega
theorem pieces_sum : ∀ {ss : List Str}, (∀ s ∈ ss, Piece s) → (ss.map (·.length)).sum ≤ 4 * ss.length
  | [], _ => by simp
  | s :: r, h => by
    have h1 := (h s (by simp)).1
    have h2 := pieces_sum (ss := r) fun x hx => h x (List.mem_cons_of_mem _ hx)
    rw [List.map_cons, List.sum_cons, List.length_cons]
    omega
theorem join_good {ss : List Str} (hn : ss.length ≤ 23) (h : ∀ s ∈ ss, Piece s) : Good (Txt.join (Str.ofString "") ss) := by
  refine ⟨?_, fun c hc => ?_⟩
  · rw [str_len, join_tl]
    have := pieces_len h
    omega
  · rw [join_tl] at hc
    obtain ⟨l, hl, hc⟩ := List.mem_flatten.mp hc
    obtain ⟨s, hs, rfl⟩ := List.mem_map.mp hl
    exact (h s hs).2 c hc
theorem lineW_form (line : Int) : ∀ (r : List Nat) (i : Int) (w : List Nat), (∀ x ∈ w, x < 128) → (∀ x ∈ r, x < 128) → ∀ d ∈ lineW line i w r, ∃ w' l c, d = tok w' l c ∧ ∀ x ∈ w', x < 128
  | [], i, w, _, _, d, hd => by simp [lineW] at hd
  | c :: r, i, w, hw, hr, d, hd => by
    rw [lineW_c] at hd
    have hr' : ∀ x ∈ r, x < 128 := fun x hx => hr x (List.mem_cons_of_mem _ hx)
    by_cases h : sep c = true
    · rw [if_pos h] at hd
      rcases List.mem_append.mp hd with hd | hd
      · unfold emit at hd
        split at hd
        · cases hd
        · exact ⟨_, _, _, List.mem_singleton.mp hd, hw⟩
      · rcases List.mem_append.mp hd with hd | hd
        · unfold brace at hd
          split at hd
          · exact ⟨_, _, _, List.mem_singleton.mp hd, fun x hx => by rw [List.mem_singleton.mp hx]; exact hr c (by simp)⟩
          · cases hd
        · exact lineW_form line r (i + 1) [] (fun x hx => nomatch hx) hr' d hd
    · rw [if_neg h] at hd
      exact lineW_form line r (i + 1) (w ++ [c]) (fun x hx => by
        rcases List.mem_append.mp hx with hx | hx
        · exact hw x hx
        · rw [List.mem_singleton.mp hx]; exact hr c (by simp)) hr' d hd
theorem rows_chars : ∀ (t : List Nat), (∀ x ∈ t, x < 128) → ∀ h ∈ rows t, ∀ x ∈ h, x < 128
  | [], _, h, hm, x, hx => by
    have : h = [] := by simpa [rows] using hm
    subst this; cases hx
  | c :: r, ht, h, hm, x, hx => by
    have hr : ∀ x ∈ r, x < 128 := fun x hx => ht x (List.mem_cons_of_mem _ hx)
    by_cases hc : c = 10
    · subst hc
      rw [rows_nl] at hm
      rcases List.mem_cons.mp hm with rfl | hm
      · cases hx
      · exact rows_chars r hr h hm x hx
    · obtain ⟨h0, s, e⟩ := rows_ne r
      rw [rows_c hc e] at hm
      rcases List.mem_cons.mp hm with rfl | hm
      · rcases List.mem_cons.mp hx with rfl | hx
        · exact ht _ (by simp)
        · exact rows_chars r hr h0 (by rw [e]; simp) x hx
      · exact rows_chars r hr h (by rw [e]; simp [hm]) x hx
theorem wordsFrom_form : ∀ (a : List (List Nat)) (k : Int), (∀ h ∈ a, ∀ x ∈ h, x < 128) → ∀ d ∈ wordsFrom k a, ∃ w' l c, d = tok w' l c ∧ ∀ x ∈ w', x < 128
  | [], k, _, d, hd => by simp [wordsFrom] at hd
  | h :: r, k, ha, d, hd => by
    unfold wordsFrom at hd
    rcases List.mem_append.mp hd with hd | hd
    · refine lineW_form k (bareOf h ++ [32]) 0 [] (fun x hx => nomatch hx) (fun x hx => ?_) d hd
      rcases List.mem_append.mp hx with hx | hx
      · exact ha h (by simp) x (List.IsPrefix.subset (List.takeWhile_prefix _) hx)
      · rw [List.mem_singleton.mp hx]; decide
    · exact wordsFrom_form r (k + 1) (fun h hh => ha h (List.mem_cons_of_mem _ hh)) d hd
theorem words_form {t : List Nat} (ht : ∀ x ∈ t, x < 128) (k : Int) : ∀ d ∈ wordsFrom k (rows t), ∃ w' l c, d = tok w' l c ∧ ∀ x ∈ w', x < 128 := wordsFrom_form _ _ (rows_chars t ht)
theorem tok_ok {n : Nat} {w : List Nat} {l c : Int} (h : ∀ x ∈ w, x < 128) : plOk (n + 2) (tok w l c) := by
  unfold tok plOk
  refine ⟨by show 3 < sizeLine; decide, fun x hx => ?_⟩
  rcases List.mem_cons.mp hx with rfl | hx
  · unfold plOk
    exact strOk_ascii h
  · rcases List.mem_cons.mp hx with rfl | hx
    · unfold plOk; trivial
    · rw [List.mem_singleton.mp hx]; unfold plOk; trivial
theorem words_ok {n : Nat} {t : List Nat} (ht : ∀ x ∈ t, x < 128) (hl : t.length ≤ 1000) (k : Int) : plOk (n + 3) (.lst (wordsFrom k (rows t))) := by
  unfold plOk
  refine ⟨?_, fun d hd => ?_⟩
  · have := words_len t k
    exact lt_small (by omega)
  · obtain ⟨w, l, c, rfl, hw⟩ := words_form ht k d hd
    exact tok_ok hw
theorem both_words (a b : List Nat) : wordsFrom 1 (rows a) ++ (wordsFrom 1 (rows b)).map (shiftT ((rows a).length : Int)) = wordsFrom 1 (rows (a ++ 10 :: b)) := by
  rw [rows_app, wordsFrom_app, ← wordsFrom_shift]
theorem words_c1 : wordsFrom 1 (rows []) = [] := rfl
theorem words_c2 : wordsFrom 1 (rows [35, 123, 125]) = [] := rfl
theorem words_c3 : wordsFrom 1 (rows [97, 35, 98, 10, 99]) = [tok [97] 1 1, tok [99] 2 1] := rfl

section
variable {P : Program} {w : World} {K : PySem.W.Frag} {mg : Str → Option Value} {base : Heap}

def spTake0 : DSp := fun ds M P => ∃ (p : Addr) (n : Int) (xs : List Int), ds = [.adr p, .int n] ∧ M p = some (.lst (xs.map Dt.int)) ∧ 0 < n ∧ ∀ r ms, 0 ≤ r → r < n → P (.int r) (updM M p (.lst (List.map Dt.int ms)))
def spTake : DSp := fun ds M P => ∃ (p : Addr) (n : Int), ds = [.adr p, .int n] ∧ M p = some .deck ∧ 0 < n ∧ ∀ r, 0 ≤ r → r < n → P (.int r) M
def spPick : DSp := fun ds M P => ∃ (p : Addr) (xs : List Dt), ds = [.adr p, .lst xs] ∧ M p = some .deck ∧ xs ≠ [] ∧ ∀ x ∈ xs, P x M
theorem ok_law_take0 (T : Txt K mg) : FnOk P w K mg base CX0 1 T.a_law_take T.d_law_take ["deck", "many"] (spD K spTake0) := by
  refine fnD T.f_law_take sc_law_take (fun ds M P ⟨p, n, xs, e, _⟩ => by rw [e]; rfl) (fun cdv A outer s H E hr => ⟨_, (ss_one (st_ret (e_if (t_cmp o_gt (e_callB c_len (by rfl) T.z_len PySem.boot_len (a_cons (e_var 0) a_nil)) e_int) (e_op o_mod (e_callT c_int (by rfl) T.z_int PyProof.Rows.boot_int (a_cons (e_bm0 PySem.F.plainAttrs_list PySem.F.slot_list_pop PySem.F.type_list_pop m_pop (e_var 0)) a_nil)) (e_var 1)) e_int))), fun ds M Pd h => ?_⟩)
  obtain ⟨p, n, xs, rfl, hp, hn, k⟩ := h
  walk_at "dl"
  refine b_dec (fun hlt => ?_) (fun _ => ?_)
  · rw [List.length_map] at hlt
    obtain ⟨y, hy⟩ : ∃ y, xs[xs.length - 1]? = some y := ⟨_, List.getElem?_eq_getElem (by omega)⟩
    walk_at "dl"
    refine h_pop hp (y := .int y) (by rw [List.length_map, List.getElem?_map, hy]; rfl) ?_
    walk_at "dl"
    rw [← List.map_dropLast]
    exact k _ _ (Int.emod_nonneg _ (by omega)) (Int.emod_lt_of_pos _ hn)
  · walk_at "dl"
    have e : updM M p (.lst (xs.map Dt.int)) = M := updM_self hp
    have := k 0 xs (Int.le_refl _) hn
    rw [e] at this
    exact this
theorem ok_law_take (T : Txt K mg) : FnOk P w K mg base CX0 1 T.a_law_take T.d_law_take ["deck", "many"] (spD K spTake) :=
  (ok_law_take0 T).imp (spD_deck fun ds M P h => by
    obtain ⟨p, n, rfl, hp, hn, k⟩ := h
    exact ⟨p, hp, fun ns => ⟨p, n, ns, rfl, updM_same, hn, fun r ms h0 h1 => ⟨k r h0 h1, ms, by rw [updM_updM]⟩⟩⟩)
theorem ok_law_pick (T : Txt K mg) : FnOk P w K mg base CX0 2 T.a_law_pick T.d_law_pick ["deck", "items"] (spD K spPick) := by
  refine fnD T.f_law_pick sc_law_pick (fun ds M P ⟨p, xs, e, _⟩ => by rw [e]; rfl) (fun cdv A outer s H E hr => ⟨_, (ss_one (st_ret (e_ix (e_var 1) (e_call (ok_law_take T) (hr.mono (by decide)) (by rfl) T.g_law_take T.f_law_take.kp T.b_law_take pass0 (a_cons (e_var 0) (a_cons (e_callB c_len (by rfl) T.z_len PySem.boot_len (a_cons (e_var 1) a_nil)) a_nil)))))), fun ds M Pd h => ?_⟩)
  obtain ⟨p, xs, rfl, hp, hne, k⟩ := h
  walk_at "dl"
  have hl : (0 : Int) < (xs.length : Int) := by
    cases xs with
    | nil => exact absurd rfl hne
    | cons x r => rw [List.length_cons]; omega
  refine ⟨p, xs.length, rfl, hp, hl, fun r h0 h1 => ?_⟩
  walk_at "dl"
  obtain ⟨j, rfl⟩ := Int.eq_ofNat_of_zero_le h0
  have hj : j < xs.length := by omega
  refine h_ixL (atI_nat (List.getElem?_eq_getElem hj)) ?_
  walk_at "dl"
  exact k _ (List.getElem_mem hj)

/-- the deck, as far as it is told -/
def spDeck0 : DSp := fun ds M P => ∃ (ns : List Int) (cells each : Int), ds = [.scr ns, .int cells, .int each] ∧ ns.length ≤ 63 ∧ (∀ z ∈ ns, Builtin.Int.intBits z ≤ 1048576) ∧ 0 ≤ cells ∧ cells ≤ 1000 ∧ 0 ≤ each ∧ each ≤ 100 ∧ ∀ p ms, M p = none → P (.adr p) (updM M p (.lst (List.map Dt.int ms)))
def spDeck : DSp := fun ds M P => ∃ (ns : List Int) (cells each : Int), ds = [.scr ns, .int cells, .int each] ∧ ns.length ≤ 63 ∧ (∀ z ∈ ns, Builtin.Int.intBits z ≤ 1048576) ∧ 0 ≤ cells ∧ cells ≤ 1000 ∧ 0 ≤ each ∧ each ≤ 100 ∧ ∀ p, M p = none → P (.adr p) (updM M p .deck)
theorem h_anyc {ρ : Rho} {M : MS} {P : PD} (h : ∀ c : Int, Builtin.Int.intBits c ≤ 1048576 → P (.int c) M) : dC (.int 0) ρ M P := h 0 (by decide)
theorem abs_eq (c : Int) : (if c < 0 then -c else c) = (c.natAbs : Int) := by split <;> omega
theorem cell_mul {c : Int} (h : Builtin.Int.intBits c ≤ 1048576) (b : Bool) : CMulX (c.natAbs : Int) (if b = true then 1 else 0) := by
  have e : Builtin.Int.intBits (c.natAbs : Int) = Builtin.Int.intBits c := by
    unfold Builtin.Int.intBits
    by_cases hc : c = 0
    · subst hc; rfl
    · have h1 : (c == 0) = false := by simpa using hc
      have h2 : (((c.natAbs : Nat) : Int) == 0) = false := by simpa using (by omega : ¬ ((c.natAbs : Nat) : Int) = 0)
      rw [h1, h2, Int.natAbs_natCast]
  have h1 : Builtin.Int.intBits (if b = true then (1 : Int) else 0) ≤ 1 := by cases b <;> decide
  unfold CMulX
  rw [e]
  omega
theorem ok_law_deck0 (T : Txt K mg) : FnOk P w K mg base CX0 1 T.a_law_deck T.d_law_deck ["script", "cells", "each"] (spD K spDeck0) := by
  refine fnD T.f_law_deck sc_law_deck (fun ds M P ⟨ns, c, e, h, _⟩ => by rw [h]; rfl) (fun cdv A outer s H E hr => ⟨_, (ss_cons (st_set 3 nd_law_deck (e_lstM a_nil))
  (ss_cons (st_set 4 nd_law_deck (e_op o_add e_int (e_callB c_len (by rfl) T.z_len PySem.boot_len (a_cons (e_var 0) a_nil))))
  (ss_cons (st_for PassesOwn.never rfl (i_rng1 (by rfl) T.z_range (a_cons (e_var 1) a_nil)) (g_name 5 nd_law_deck)
  (ss_cons (st_set 6 nd_law_deck (e_if (t_cmp o_lt (e_var 5) (e_callB c_len (by rfl) T.z_len PySem.boot_len (a_cons (e_var 0) a_nil))) (e_callT c_int (by rfl) T.z_int PyProof.Rows.boot_int (a_cons (e_ix (e_var 0) (e_var 5)) a_nil)) e_int))
  (ss_cons (st_set 7 nd_law_deck (e_op o_mul (e_callB c_abs (by rfl) T.z_abs PyProof.Rows.boot_abs (a_cons (e_var 6) a_nil)) (e_callT c_int (by rfl) T.z_int PyProof.Rows.boot_int (a_cons (e_cmp o_ge (e_callB c_abs (by rfl) T.z_abs PyProof.Rows.boot_abs (a_cons (e_var 6) a_nil)) (e_op o_pow e_int e_int)) a_nil))))
  (ss_cons (st_set 4 nd_law_deck (e_op o_mod (e_callT c_int (by rfl) T.z_int PyProof.Rows.boot_int (a_cons (e_op o_add (e_op o_add (e_op o_add (e_op o_mul (e_var 4) e_int) (e_op o_mul e_int (e_op o_mod (e_callT c_int (by rfl) T.z_int PyProof.Rows.boot_int (a_cons (e_callB c_abs (by rfl) T.z_abs PyProof.Rows.boot_abs (a_cons (e_var 6) a_nil)) a_nil)) e_int))) (e_callT c_int (by rfl) T.z_int PyProof.Rows.boot_int (a_cons (e_cmp o_lt (e_var 6) e_int) a_nil))) (e_var 5)) a_nil)) e_int))
  (ss_one (st_for PassesOwn.never rfl (i_rng1 (by rfl) T.z_range (a_cons (e_var 2) a_nil)) (g_name 8 nd_law_deck)
  (ss_cons (st_set 4 nd_law_deck (e_op o_mod (e_callT c_int (by rfl) T.z_int PyProof.Rows.boot_int (a_cons (e_op o_add (e_op o_add (e_op o_mul (e_var 4) e_int) (e_var 8)) e_int) a_nil)) e_int))
  (ss_cons (st_expr (e_bm PySem.F.plainAttrs_list PySem.F.slot_list_append PySem.F.type_list_append m_append (e_var 3) (a_cons (e_op o_mod (e_callT c_int (by rfl) T.z_int PyProof.Rows.boot_int (a_cons (e_ix (e_lst (a_cons (e_op o_fdiv (e_var 4) e_int) (a_cons (e_var 7) a_nil))) (e_callT c_int (by rfl) T.z_int PyProof.Rows.boot_int (a_cons (e_cmp o_gt (e_var 7) e_int) a_nil))) a_nil)) e_int) a_nil)))
  (ss_one (st_set 7 nd_law_deck (e_op o_fdiv (e_var 7) e_int)))))))))))
  (ss_cons (st_expr (e_bm0 PySem.F.plainAttrs_list PySem.F.slot_list_reverse PySem.F.type_list_reverse m_reverse (e_var 3)))
  (ss_one (st_ret (e_var 3))))))), fun ds M Pd h => ?_⟩)
  obtain ⟨ns, cells, each, rfl, hlen, hbits, hc0, hc1, he0, he1, k⟩ := h
  walk_at "dl"
  intro p hp
  walk_at "dl"
  refine l_turns (fun i ρ M' => ∃ (seed : Int) (xs : List Int) (y5 y6 y7 y8 : Option Dt), ρ = [some (.scr ns), some (.int cells), some (.int each), some (.adr p), some (.int seed), y5, y6, y7, y8] ∧ M' = updM M p (.lst (xs.map Dt.int)) ∧ 0 ≤ seed ∧ seed < 2147483647 ∧ xs.length = i * each.toNat)
    ⟨_, [], none, none, none, none, rfl, rfl, by omega, by omega, by simp⟩ ?_ ?_
  · rintro i ρ M' hi ⟨seed, xs, y5, y6, y7, y8, rfl, rfl, hs0, hs1, hxl⟩
    have hle : (i + 1) * each.toNat ≤ 100000 := by
      have h1 : (i + 1) * each.toNat ≤ 1000 * 100 := Nat.mul_le_mul (by omega) (by omega)
      omega
    walk_at "dl"
    refine b_dec (fun hlt => ?aa) (fun _ => h_anyc ?bb)
    case' aa =>
      have hi2 : i < ns.length := by omega
      walk_at "dl"
      have hcb : Builtin.Int.intBits (ns[i]) ≤ 1048576 := hbits _ (List.getElem_mem hi2)
      have hix := atI_nat0 hi2
      generalize ns[i] = c at hcb hix
      refine h_ixC hix ?_
      clear hix hi2 hlt
      refine h_nil ?_
      refine h_intI ?_
      revert c
    all_goals
      intro c hcb
      walk_at "dl"
      rw [abs_eq]
      refine h_mul ?_ (cell_mul hcb _)
      walk_at "dl"
      have hs0' := Int.emod_nonneg ((seed * 48271 + 3 * ((if c < 0 then -c else c) % 2147483587) + if decide (c < 0) = true then 1 else 0) + (0 + (i : Int))) (b := 2147483647) (by decide)
      have hs1' := Int.emod_lt_of_pos ((seed * 48271 + 3 * ((if c < 0 then -c else c) % 2147483587) + if decide (c < 0) = true then 1 else 0) + (0 + (i : Int))) (b := 2147483647) (by decide)
      revert hs0' hs1'
      generalize ((seed * 48271 + 3 * ((if c < 0 then -c else c) % 2147483587) + if decide (c < 0) = true then 1 else 0) + (0 + (i : Int))) % 2147483647 = seed'
      intro hs0' hs1'
      generalize (c.natAbs : Int) * _ = rest
      refine l_turns (fun j ρ M' => ∃ (seed rest : Int) (xs : List Int) (y8 : Option Dt), ρ = [some (.scr ns), some (.int cells), some (.int each), some (.adr p), some (.int seed), some (.int (0 + (i : Int))), some (.int c), some (.int rest), y8] ∧ M' = updM M p (.lst (xs.map Dt.int)) ∧ 0 ≤ seed ∧ seed < 2147483647 ∧ xs.length = i * each.toNat + j)
        ⟨_, _, xs, _, rfl, rfl, hs0', hs1', by omega⟩ ?_ ?_
      · rintro j ρ M' hj ⟨seed, rest, xs, y8, rfl, rfl, hs0, hs1, hxl⟩
        have hle2 : i * each.toNat + each.toNat ≤ 100000 := by rw [← Nat.succ_mul]; exact hle
        walk_at "dl"
        obtain ⟨z, hz⟩ : ∃ z, atI [Dt.int ((seed * 69621 + (0 + (j : Int)) + 1) % 2147483629 / 7), Dt.int rest] (if decide (0 < rest) = true then 1 else 0) = some (.int z) := by
          split
          · exact ⟨_, atI_1⟩
          · exact ⟨_, atI_0⟩
        refine h_ixL hz ?_
        walk_at "dl"
        exact ⟨_, _, xs ++ [_], _, rfl, by rw [List.map_append]; rfl, Int.emod_nonneg _ (by decide), Int.lt_trans (Int.emod_lt_of_pos _ (by decide)) (by decide), by rw [List.length_append, hxl]; rfl⟩
      · rintro ρ M' ⟨seed, rest, xs, y8, rfl, rfl, hs0, hs1, hxl⟩
        exact ⟨_, _, _, _, _, _, rfl, rfl, hs0, hs1, by rw [Nat.succ_mul]; exact hxl⟩
  · rintro ρ M' ⟨seed, xs, y5, y6, y7, y8, rfl, rfl, hs0, hs1, hxl⟩
    walk_at "dl"
    rw [← List.map_reverse]
    exact k _ _ hp
theorem ok_law_deck (T : Txt K mg) : FnOk P w K mg base CX0 1 T.a_law_deck T.d_law_deck ["script", "cells", "each"] (spD K spDeck) :=
  (ok_law_deck0 T).imp (spD_toDeck fun ds M P h => by
    obtain ⟨ns, cells, each, h1, h2, h3, h4, h5, h6, h7, k⟩ := h
    exact ⟨ns, cells, each, h1, h2, h3, h4, h5, h6, h7, fun p ms hp => ⟨p, ms, rfl, rfl, k p hp⟩⟩)
end

section
variable {P : Program} {w : World} {K : PySem.W.Frag} {mg : Str → Option Value} {base : Heap}
theorem ok_law_plainN (T : Txt K mg) : ∀ n : Nat, FnOk P w K mg base CX0 n T.a_law_plain T.d_law_plain ["value"] (spD K (spPlain n))
  | 0 => by
    have e : ∀ vs H Q E, spD K (spPlain 0) vs H Q E → spD K (fun _ _ _ => False) vs H Q E := fun vs H Q E q => by
      obtain ⟨I, F, M, ds, Pd, o, i, h, hq⟩ := q
      obtain ⟨d, rfl, h, _⟩ := h
      unfold plOk at h
      exact h.elim
    exact (fn_false (fd := T.d_law_plain)).imp e
  | n + 1 => by
    have G := ok_law_plainN T n
    refine fnD T.f_law_plain sc_law_plain (fun ds M P ⟨d, e, _⟩ => by rw [e]; rfl) (fun cdv A outer s H E hr => ⟨_, (ss_cons (st_if (t_tru (e_callB c_isi (by rfl) T.z_isinstance PyProof.Rows.boot_isinstance (a_cons (e_var 0) (a_cons (e_tup (a_cons (e_bltn (by rfl) T.z_tuple PyProof.Rows.boot_tuple) (a_cons (e_bltn (by rfl) T.z_list PyProof.Rows.boot_list) a_nil))) a_nil)))) (ss_one (st_ret (e_op o_add (e_lst (a_cons (e_callB c_isi (by rfl) T.z_isinstance PyProof.Rows.boot_isinstance (a_cons (e_var 0) (a_cons (e_bltn (by rfl) T.z_list PyProof.Rows.boot_list) a_nil))) a_nil)) (e_lc rfl nd_law_plain (i_walk (e_var 0)) (blkOk_by (own := [("item", 1)]) (N := N_law_plain) (sc := defScope s_law_plain) (by decide +kernel)) (fun _ _ _ _ _ => pg_name (i := 1) nd_law_plain rfl (Or.inl rfl)) (rg_name 1) (keeps_name (by decide)) (fun _ _ _ _ _ => ts_nil) (fun _ _ _ _ _ => (e_call G hr (by rfl) T.g_law_plain T.f_law_plain.kp T.b_law_plain pass0 (a_cons (e_var 1) a_nil))))))) ss_nil)
  (ss_cons (st_if (t_w (w_or (t_cmp o_is (e_var 0) e_non) (w_or1 (t_tru (e_callB c_isi (by rfl) T.z_isinstance PyProof.Rows.boot_isinstance (a_cons (e_var 0) (a_cons (e_bltn (by rfl) T.z_bool PyProof.Rows.boot_bool) a_nil))))))) (ss_one (st_ret (e_ix (e_lst (a_cons e_str (a_cons e_str (a_cons e_str a_nil)))) (e_op o_add (e_callT c_int (by rfl) T.z_int PyProof.Rows.boot_int (a_cons (e_cmp o_isNot (e_var 0) e_non) a_nil)) (e_callT c_int (by rfl) T.z_int PyProof.Rows.boot_int (a_cons (e_cmp o_is (e_var 0) e_bl) a_nil)))))) ss_nil)
  (ss_one (st_ret (e_if (t_tru (e_callB c_isi (by rfl) T.z_isinstance PyProof.Rows.boot_isinstance (a_cons (e_var 0) (a_cons (e_tup (a_cons (e_bltn (by rfl) T.z_int PyProof.Rows.boot_int) (a_cons (e_bltn (by rfl) T.z_str PyProof.Rows.boot_str) a_nil))) a_nil)))) (e_lst (a_cons (e_callB c_isi (by rfl) T.z_isinstance PyProof.Rows.boot_isinstance (a_cons (e_var 0) (a_cons (e_bltn (by rfl) T.z_str PyProof.Rows.boot_str) a_nil))) (a_cons (e_var 0) a_nil))) e_str))))), fun ds M Pd h => ?_⟩)
    obtain ⟨d, rfl, hd, k⟩ := h
    cases d with
    | tup xs =>
      unfold plOk at hd
      unfold plainOf at k
      walk_at "dl"
      refine c_map (Nat.le_of_lt hd.1) plainOf (fun x hx Pc hc => ?_) ?_
      · walk_at "dl"
        exact ⟨x, rfl, hd.2 x hx, hc⟩
      · walk_at "dl"
        rw [← plainL_map]
        refine h_addL k ?_
        rw [plainL_map, List.length_map]
        have := hd.1
        simp only [List.length_singleton]
        omega
    | lst xs =>
      unfold plOk at hd
      unfold plainOf at k
      walk_at "dl"
      refine c_map (Nat.le_of_lt hd.1) plainOf (fun x hx Pc hc => ?_) ?_
      · walk_at "dl"
        exact ⟨x, rfl, hd.2 x hx, hc⟩
      · walk_at "dl"
        rw [← plainL_map]
        refine h_addL k ?_
        rw [plainL_map, List.length_map]
        have := hd.1
        simp only [List.length_singleton]
        omega
    | non =>
      unfold plainOf at k
      walk_at "dl"
      exact k
    | bl b =>
      unfold plainOf at k
      cases b
      · walk_at "dl"
        exact k
      · walk_at "dl"
        exact k
    | int i =>
      unfold plainOf at k
      walk_at "dl"
      exact k
    | str i =>
      unfold plainOf at k
      walk_at "dl"
      exact k
    | obj => unfold plOk at hd; exact hd.elim
    | adr => unfold plOk at hd; exact hd.elim
    | scr => unfold plOk at hd; exact hd.elim
    | ty => unfold plOk at hd; exact hd.elim
theorem ok_law_plain (T : Txt K mg) : FnOk P w K mg base CX0 8 T.a_law_plain T.d_law_plain ["value"] (spD K (spPlain 8)) := ok_law_plainN T 8
theorem ok_law_same (T : Txt K mg) : FnOk P w K mg base CX0 9 T.a_law_same T.d_law_same ["told", "due"] (spD K (spSame 8)) := by
  refine fnD T.f_law_same sc_law_same (fun ds M P ⟨d, e, _⟩ => by rw [e]; rfl) (fun cdv A outer s H E hr => ⟨_, (ss_one (st_ret (e_cmp (o_eq (hu_of2 hr)) (e_call (ok_law_plain T) (hr.mono (by decide)) (by rfl) T.g_law_plain T.f_law_plain.kp T.b_law_plain pass0 (a_cons (e_var 0) a_nil)) (e_call (ok_law_plain T) (hr.mono (by decide)) (by rfl) T.g_law_plain T.f_law_plain.kp T.b_law_plain pass0 (a_cons (e_var 1) a_nil))))), fun ds M Pd h => ?_⟩)
  obtain ⟨d, rfl, hd, k⟩ := h
  walk_at "dl"
  refine ⟨d, rfl, hd, ?_⟩
  walk_at "dl"
  refine ⟨d, rfl, hd, ?_⟩
  exact h_eqP (by decide) hd k
end

section
variable {P : Program} {w : World} {K : PySem.W.Frag} {mg : Str → Option Value} {base : Heap}

theorem e_sep (c : Nat) : decide (c ∈ (Str.ofString " \t{}").cps.toList) = sep c := by
  have e : (Str.ofString " \t{}").cps.toList = [32, 9, 123, 125] := by decide +kernel
  rw [e]
  simp [sep, Bool.beq_eq_decide_eq, Bool.or_assoc]
theorem e_o : Str.ofString "{" = ⟨#[123]⟩ := by decide +kernel
theorem e_c : Str.ofString "}" = ⟨#[125]⟩ := by decide +kernel
theorem e_sp : Str.ofString " " = ⟨#[32]⟩ := by decide +kernel
theorem e_h : Str.ofString "#" = ⟨#[35]⟩ := by decide +kernel
theorem e_nl : Str.ofString "\n" = ⟨#[10]⟩ := by decide +kernel
theorem e_0 : Str.ofString "" = ⟨([] : List Nat).toArray⟩ := by decide +kernel
theorem e_eq (c d : Nat) : decide ((⟨#[c]⟩ : Str) = ⟨#[d]⟩) = (c == d) := by
  rw [Bool.beq_eq_decide_eq]
  exact decide_eq_decide.mpr sg_eq
theorem e_nil (w : List Nat) : decide ((⟨w.toArray⟩ : Str) = ⟨([] : List Nat).toArray⟩) = (w == []) := by
  rw [← e_0, Bool.beq_eq_decide_eq]
  exact decide_eq_decide.mpr str_nil
def spLine : DSp := fun ds M P => ∃ (s : Str) (line : Int), ds = [.str s, .int line] ∧ s.length ≤ 1000000 ∧ P (.lst (lineW line 0 [] (s.cps.toList ++ [32]))) M
theorem ok_split_line (T : Txt K mg) : FnOk P w K mg base CX0 1 T.a_split_line T.d_split_line ["text", "line"] (spD K spLine) := by
  refine fnD T.f_split_line sc_split_line (fun ds M P ⟨s, l, e, _⟩ => by rw [e]; rfl) (fun cdv A outer s H E hr => ⟨_, (ss_cons (st_set 2 nd_split_line (e_lstM a_nil))
  (ss_cons (st_set 3 nd_split_line e_str)
  (ss_cons (st_for PassesOwn.never rfl (i_enum0 (by rfl) T.z_enumerate (a_cons (e_op o_add (e_var 0) e_str) a_nil)) (g_tup rfl (gs_cons (g_name 4 nd_split_line) (gs_cons (g_name 5 nd_split_line) gs_nil)))
  (ss_cons (st_if (t_cmp o_notIn (e_var 5) e_str) (ss_cons (st_set 3 nd_split_line (e_op o_add (e_var 3) (e_var 5)))
  (ss_one st_continue)) ss_nil)
  (ss_cons (st_if (t_cmp (o_ne (hu_of2 hr)) (e_var 3) e_str) (ss_cons (st_expr (e_bm PySem.F.plainAttrs_list PySem.F.slot_list_append PySem.F.type_list_append m_append (e_var 2) (a_cons (e_tup (a_cons (e_var 3) (a_cons (e_var 1) (a_cons (e_op o_sub (e_op o_add (e_var 4) e_int) (e_callB c_len (by rfl) T.z_len PySem.boot_len (a_cons (e_var 3) a_nil))) a_nil)))) a_nil)))
  (ss_one (st_set 3 nd_split_line e_str))) ss_nil)
  (ss_one (st_if (t_w (w_or (t_cmp (o_eq (hu_of2 hr)) (e_var 5) e_str) (w_or1 (t_cmp (o_eq (hu_of2 hr)) (e_var 5) e_str)))) (ss_one (st_expr (e_bm PySem.F.plainAttrs_list PySem.F.slot_list_append PySem.F.type_list_append m_append (e_var 2) (a_cons (e_tup (a_cons (e_var 5) (a_cons (e_var 1) (a_cons (e_op o_add (e_var 4) e_int) a_nil)))) a_nil)))) ss_nil)))))
  (ss_frz 2 (ss_one (st_ret (e_var 2))))))), fun ds M Pd h => ?_⟩)
  obtain ⟨s, line, rfl, hs, k⟩ := h
  have l1 : (Str.ofString " ").length = 1 := by decide +kernel
  walk_at "dl"
  intro p hp
  walk_at "dl"
  rw [signs_sg, str_appL, e_sp]
  refine l_inv (fun items ρ M' => ∃ (i : Nat) (w cs : List Nat) (out : List Dt) (y4 y5 : Option Dt), items = enumD i (cs.map sg) ∧ ρ = [some (.str s), some (.int line), some (.adr p), some (.str ⟨w.toArray⟩), y4, y5] ∧ M' = updM M p (.lst out) ∧ out ++ lineW line i w cs = lineW line 0 [] (s.cps.toList ++ [32]) ∧ w.length ≤ i ∧ i + cs.length ≤ s.length + 1 ∧ out.length ≤ 2 * i) ?_ ?_ ?_
  · exact ⟨0, [], s.cps.toList ++ [32], [], _, _, rfl, by rw [e_0], rfl, rfl, Nat.le_refl _, by rw [str_len, List.length_append]; simp, by simp⟩
  · rintro x r ρ M' ⟨i, w, cs, out, y4, y5, hi, rfl, rfl, ht, hw, hic, hout⟩
    cases cs with
    | nil => simp [enumD] at hi
    | cons c cs =>
      rw [List.map_cons, enumD_cons] at hi
      injection hi with hx hr
      subst hx hr
      rw [List.length_cons] at hic
      rw [lineW_c] at ht
      walk_at "dl"
      rw [e_sep]
      refine b_nbool (fun h1 => ?_) (fun h1 => ?_)
      · rw [if_neg (by rw [h1]; exact Bool.false_ne_true)] at ht
        have l2 : (⟨w.toArray⟩ : Str).length = w.length := str_lenL w
        have l3 : (⟨#[c]⟩ : Str).length = 1 := rfl
        walk_at "dl"
        refine ⟨i + 1, w ++ [c], cs, out, _, _, rfl, by rw [← str_app1], rfl, ht, ?_, ?_, ?_⟩
        · rw [List.length_append, List.length_singleton]; omega
        · omega
        · omega
      · rw [if_pos h1] at ht
        rw [e_0, e_o, e_c] at *
        walk_at "dl"
        rw [e_nil]
        have l2 : (⟨w.toArray⟩ : Str).length = w.length := str_lenL w
        refine b_nbool (fun h2 => ?aa) (fun h2 => ?bb)
        case' aa =>
          rw [show emit w line ((i : Int) + 1 - (w.length : Int)) = [tok w line ((i : Int) + 1 - (w.length : Int))] from by unfold emit; rw [if_neg (by simpa using h2)]] at ht
        case' bb =>
          have hw0 : w = [] := by simpa using h2
          subst hw0
          rw [show emit [] line ((i : Int) + 1 - (([] : List Nat).length : Int)) = [] from rfl] at ht
        all_goals
          walk_at "dl"
          try rw [l2]
          rw [e_eq]
          refine b_bool (fun h3 => ?_) (fun h3 => ?_)
          · have hb : brace c line ((i : Int) + 1) = [tok [c] line ((i : Int) + 1)] := by unfold brace; rw [if_pos (by unfold brc; rw [h3]; rfl)]
            rw [hb] at ht
            walk_at "dl"
            exact ⟨i + 1, [], cs, _, _, _, rfl, rfl, rfl, by rw [← ht]; simp [tok], by simp, by omega, by first | omega | (simp; omega)⟩
          · walk_at "dl"
            rw [e_eq]
            refine b_bool (fun h4 => ?_) (fun h4 => ?_)
            · have hb : brace c line ((i : Int) + 1) = [tok [c] line ((i : Int) + 1)] := by unfold brace; rw [if_pos (by unfold brc; rw [h4, Bool.or_true])]
              rw [hb] at ht
              walk_at "dl"
              exact ⟨i + 1, [], cs, _, _, _, rfl, rfl, rfl, by rw [← ht]; simp [tok], by simp, by omega, by first | omega | (simp; omega)⟩
            · have hb : brace c line ((i : Int) + 1) = [] := by unfold brace; rw [if_neg (by unfold brc; rw [h3, h4]; decide)]
              rw [hb] at ht
              walk_at "dl"
              exact ⟨i + 1, [], cs, _, _, _, rfl, rfl, rfl, by rw [← ht]; simp [tok], by simp, by omega, by first | omega | (simp; omega)⟩
  · rintro ρ M' ⟨i, w, cs, out, y4, y5, hi, rfl, rfl, ht, hw, hic, hout⟩
    have : cs = [] := by
      cases cs with
      | nil => rfl
      | cons c r => rw [List.map_cons, enumD_cons] at hi; exact absurd hi (by simp)
    subst this
    have e : out = lineW line 0 [] (s.cps.toList ++ [32]) := by rw [← ht]; simp [lineW]
    subst e
    walk_at "dl"
    exact k
end

section
variable {P : Program} {w : World} {K : PySem.W.Frag} {mg : Str → Option Value} {base : Heap}

def spWords : DSp := fun ds M P => ∃ (s : Str), ds = [.str s] ∧ s.length ≤ 100000 ∧ P (.lst (wordsFrom 1 (rows s.cps.toList))) M
theorem ok_split_words (T : Txt K mg) : FnOk P w K mg base CX0 2 T.a_split_words T.d_split_words ["text"] (spD K spWords) := by
  refine fnD T.f_split_words sc_split_words (fun ds M P ⟨s, e, _⟩ => by rw [e]; rfl) (fun cdv A outer s H E hr => ⟨_, (ss_cons (st_set 1 nd_split_words (e_lstM a_nil))
  (ss_cons (st_for PassesOwn.never rfl (i_enumK (by rfl) T.z_enumerate (a_cons (e_bm PySem.F.plainAttrs_str PySem.F.slot_str_split PySem.F.type_str_split m_split (e_var 0) (a_cons e_str a_nil)) a_nil)) (g_tup rfl (gs_cons (g_name 2 nd_split_words) (gs_cons (g_name 3 nd_split_words) gs_nil)))
  (ss_cons (st_asg (e_bm PySem.F.plainAttrs_str PySem.F.slot_str_partition PySem.F.type_str_partition m_partition (e_var 3) (a_cons e_str a_nil)) (g_tup rfl (gs_cons (g_name 4 nd_split_words) (gs_cons (g_name 5 nd_split_words) (gs_cons (g_name 5 nd_split_words) gs_nil)))))
  (ss_one (st_expr (e_bm PySem.F.plainAttrs_list PySem.F.slot_list_extend PySem.F.type_list_extend m_extend (e_var 1) (a_cons (e_call (ok_split_line T) (hr.mono (by decide)) (by rfl) T.g_split_line T.f_split_line.kp T.b_split_line pass0 (a_cons (e_var 4) (a_cons (e_var 2) a_nil))) a_nil))))))
  (ss_frz 1 (ss_one (st_ret (e_var 1)))))), fun ds M Pd h => ?_⟩)
  obtain ⟨s, rfl, hs, k⟩ := h
  rw [e_nl, e_h] at *
  walk_at "dl"
  intro p hp
  walk_at "dl"
  rw [split_rows]
  have hsum := rows_sum s.cps.toList
  rw [← str_len] at hsum
  refine l_inv (fun items ρ M' => ∃ (i : Int) (ls : List (List Nat)) (out : List Dt) (y2 y3 y4 y5 : Option Dt), items = enumD i (ls.map strD) ∧ ρ = [some (.str s), some (.adr p), y2, y3, y4, y5] ∧ M' = updM M p (.lst out) ∧ out ++ wordsFrom i ls = wordsFrom 1 (rows s.cps.toList) ∧ (ls.map fun h => h.length + 1).sum + 1 ≤ 100002 ∧ out.length + 2 * (ls.map fun h => h.length + 1).sum ≤ 200002) ?_ ?_ ?_
  · exact ⟨1, _, [], _, _, _, _, rfl, rfl, rfl, rfl, by omega, by simp only [List.length_nil]; omega⟩
  · rintro x r ρ M' ⟨i, ls, out, y2, y3, y4, y5, hi, rfl, rfl, ht, hz1, hz2⟩
    cases ls with
    | nil => simp [enumD] at hi
    | cons c cs =>
      rw [List.map_cons, enumD_cons] at hi
      injection hi with hx hr
      subst hx hr
      rw [List.map_cons, List.sum_cons] at hz1 hz2
      have l2 : (⟨c.toArray⟩ : Str).length = c.length := str_lenL c
      walk_at "dl"
      rw [part_bare]
      have l3 := bare_len c
      have l4 : (⟨(bareOf c).toArray⟩ : Str).length = (bareOf c).length := str_lenL _
      refine ⟨_, _, rfl, by omega, ?_⟩
      have l5 := lineW_len i (bareOf c ++ [32]) 0 []
      rw [List.length_append, List.length_singleton] at l5
      have e5 : (⟨(bareOf c).toArray⟩ : Str).cps.toList = bareOf c := by simp
      rw [e5]
      walk_at "dl"
      refine ⟨i + 1, cs, _, _, _, _, _, rfl, rfl, rfl, ?_, by omega, ?_⟩
      · rw [← ht, List.append_assoc]
        rfl
      · rw [List.length_append]
        omega
  · rintro ρ M' ⟨i, ls, out, y2, y3, y4, y5, hi, rfl, rfl, ht, hz1, hz2⟩
    have : ls = [] := by
      cases ls with
      | nil => rfl
      | cons c r => rw [List.map_cons, enumD_cons] at hi; exact absurd hi (by simp)
    subst this
    have e : out = wordsFrom 1 (rows s.cps.toList) := by rw [← ht]; simp [wordsFrom]
    subst e
    walk_at "dl"
    exact k
end

section
variable {P : Program} {w : World} {K : PySem.W.Frag} {mg : Str → Option Value} {base : Heap}

def spSplit : DSp := fun ds M P => ∃ (s : Str), ds = [.str s] ∧ s.length ≤ 100000 ∧ P (.lst (wordsFrom 1 (rows s.cps.toList))) M
theorem e_prt (c : Nat) : (decide (c ∈ (Str.ofString " \t\n{}").cps.toList) || c == 35) = prt c := by
  have e : (Str.ofString " \t\n{}").cps.toList = [32, 9, 10, 123, 125] := by decide +kernel
  rw [e]
  simp [prt, Bool.beq_eq_decide_eq, Bool.or_assoc]
theorem e_m1 (c : Nat) : decide (c ∈ (Str.ofString " \t\n{}").cps.toList) = (c == 32 || c == 9 || c == 10 || c == 123 || c == 125) := by
  have e : (Str.ofString " \t\n{}").cps.toList = [32, 9, 10, 123, 125] := by decide +kernel
  rw [e]
  simp [Bool.beq_eq_decide_eq, Bool.or_assoc]
theorem e_brc (c : Nat) : decide (c ∈ (Str.ofString "{}").cps.toList) = brc c := by
  have e : (Str.ofString "{}").cps.toList = [123, 125] := by decide +kernel
  rw [e]
  simp [brc, Bool.beq_eq_decide_eq]
theorem ok_law_split (T : Txt K mg) : FnOk P w K mg base CX0 1 T.a_law_split T.d_law_split ["text"] (spD K spSplit) := by
  refine fnD T.f_law_split sc_law_split (fun ds M P ⟨s, e, _⟩ => by rw [e]; rfl) (fun cdv A outer s H E hr => ⟨_, (ss_cons (st_set 1 nd_law_split (e_lstM a_nil))
  (ss_cons (st_set 2 nd_law_split e_int)
  (ss_cons (st_set 3 nd_law_split e_int)
  (ss_cons (st_set 4 nd_law_split e_str)
  (ss_cons (st_set 5 nd_law_split e_int)
  (ss_cons (st_set 6 nd_law_split e_bl)
  (ss_cons (st_for PassesOwn.never rfl (i_walk (e_op o_add (e_var 0) e_str)) (g_name 7 nd_law_split)
  (ss_cons (st_set 8 nd_law_split (e_or (e_cmp o_in (e_var 7) e_str) (e_one (e_cmp (o_eq (hu_of2 hr)) (e_var 7) e_str))))
  (ss_cons (st_if (t_w (w_and (t_not (t_tru (e_var 6))) (w_and (t_tru (e_var 8)) (w_and1 (t_cmp (o_ne (hu_of2 hr)) (e_var 4) e_str))))) (ss_cons (st_expr (e_bm PySem.F.plainAttrs_list PySem.F.slot_list_append PySem.F.type_list_append m_append (e_var 1) (a_cons (e_tup (a_cons (e_var 4) (a_cons (e_var 2) (a_cons (e_var 5) a_nil)))) a_nil)))
  (ss_one (st_set 4 nd_law_split e_str))) ss_nil)
  (ss_cons (st_if (t_cmp (o_eq (hu_of2 hr)) (e_var 7) e_str) (ss_one (st_set 6 nd_law_split e_bl)) ss_nil)
  (ss_cons (st_if (t_w (w_and (t_not (t_tru (e_var 6))) (w_and1 (t_not (t_tru (e_var 8)))))) (ss_cons (st_set 5 nd_law_split (e_if (t_cmp (o_eq (hu_of2 hr)) (e_var 4) e_str) (e_var 3) (e_var 5)))
  (ss_one (st_set 4 nd_law_split (e_op o_add (e_var 4) (e_var 7))))) ss_nil)
  (ss_cons (st_if (t_w (w_and (t_not (t_tru (e_var 6))) (w_and1 (t_cmp o_in (e_var 7) e_str)))) (ss_one (st_expr (e_bm PySem.F.plainAttrs_list PySem.F.slot_list_append PySem.F.type_list_append m_append (e_var 1) (a_cons (e_tup (a_cons (e_var 7) (a_cons (e_var 2) (a_cons (e_var 3) a_nil)))) a_nil)))) ss_nil)
  (ss_cons (st_set 3 nd_law_split (e_op o_add (e_var 3) e_int))
  (ss_one (st_if (t_cmp (o_eq (hu_of2 hr)) (e_var 7) e_str) (ss_cons (st_set 2 nd_law_split (e_op o_add (e_var 2) e_int))
  (ss_cons (st_set 3 nd_law_split e_int)
  (ss_one (st_set 6 nd_law_split e_bl)))) ss_nil)))))))))
  (ss_frz 1 (ss_one (st_ret (e_var 1))))))))))), fun ds M Pd h => ?_⟩)
  obtain ⟨s, rfl, hs, k⟩ := h
  have l1 : (⟨#[10]⟩ : Str).length = 1 := rfl
  rw [e_nl, e_h, e_0] at *
  walk_at "dl"
  intro p hp
  walk_at "dl"
  rw [signs_sg, str_appL]
  refine l_inv (fun items ρ M' => ∃ (line col beg : Int) (wd cs : List Nat) (rem : Bool) (out : List Dt) (y7 y8 : Option Dt), items = cs.map sg ∧ ρ = [some (.str s), some (.adr p), some (.int line), some (.int col), some (.str ⟨wd.toArray⟩), some (.int beg), some (.bl rem), y7, y8] ∧ M' = updM M p (.lst out) ∧ out ++ lawGo ⟨line, col, wd, beg, rem⟩ cs = wordsFrom 1 (rows s.cps.toList) ∧ cs.length ≤ 100001 ∧ wd.length + cs.length ≤ 100001 ∧ out.length + 2 * cs.length ≤ 200002) ?_ ?_ ?_
  · exact ⟨1, 1, 1, [], _, false, [], _, _, rfl, rfl, rfl, law_words _ _, by rw [List.length_append, ← str_len]; simp; omega, by rw [List.length_append, ← str_len]; simp; omega, by rw [List.length_append, ← str_len]; simp; omega⟩
  · rintro x r ρ M' ⟨line, col, beg, wd, cs, rem, out, y7, y8, hi, rfl, rfl, ht, hz0, hz1, hz2⟩
    cases cs with
    | nil => simp at hi
    | cons c cs =>
      rw [List.map_cons] at hi
      injection hi with hx hr
      subst hx hr
      rw [List.length_cons] at hz0 hz1 hz2
      rw [lawGo_c] at ht
      have l2 : (⟨wd.toArray⟩ : Str).length = wd.length := str_lenL wd
      have l3 : (⟨#[c]⟩ : Str).length = 1 := rfl
      have cls : c = 10 ∨ c = 35 ∨ (c = 32 ∨ c = 9) ∨ (c = 123 ∨ c = 125) ∨ (c ≠ 10 ∧ c ≠ 35 ∧ c ≠ 32 ∧ c ≠ 9 ∧ c ≠ 123 ∧ c ≠ 125) := by omega
      have p1 := e_m1 c
      have p2 := e_eq c 35
      have p3 := e_brc c
      have p4 := e_eq c 10
      have p5 := e_nil wd
      rcases cls with h | h | h | h | h
      · have f1 := p1.trans (show _ = true from by first | (subst h; rfl) | (rcases h with rfl | rfl <;> rfl) | (simp [h]))
        have f2 : decide ((⟨#[c]⟩ : Str) = ⟨#[35]⟩) = false := by rw [p2]; first | (subst h; rfl) | (rcases h with rfl | rfl <;> rfl) | (simp [h])
        have f3 : decide (c ∈ (Str.ofString "{}").cps.toList) = false := by rw [p3]; first | (subst h; rfl) | (rcases h with rfl | rfl <;> rfl) | (simp [brc, h])
        have f4 : decide ((⟨#[c]⟩ : Str) = ⟨#[10]⟩) = true := by rw [p4]; first | (subst h; rfl) | (rcases h with rfl | rfl <;> rfl) | (simp [h])
        have g1 : prt c = true := by first | (subst h; rfl) | (rcases h with rfl | rfl <;> rfl) | (simp [prt, h])
        have g3 : brc c = false := by first | (subst h; rfl) | (rcases h with rfl | rfl <;> rfl) | (simp [brc, h])
        have g2 : c ≠ 35 := by omega
        have g4 : c = 10 := by omega
        clear h p1 p2 p3 p4
        cases rem with
        | false =>
          by_cases hw : wd = []
          · have f5 : decide ((⟨wd.toArray⟩ : Str) = ⟨#[]⟩) = true := by rw [p5]; simp [hw]
            walk_at "dl"
            refine ⟨_, _, _, wd, cs, _, _, _, _, rfl, (by first | rfl | rw [← str_app1]), rfl, ?_, by omega, (by first | omega | (simp; omega)), (by first | omega | (simp; omega))⟩
            rw [← ht]
            try simp [lawStep, g1, g2, g3, g4, hw, tok, show prt 10 = true from rfl, show prt 35 = true from rfl, show brc 10 = false from rfl, show brc 35 = false from rfl]
          · have f5 : decide ((⟨wd.toArray⟩ : Str) = ⟨#[]⟩) = false := by rw [p5]; simp [hw]
            walk_at "dl"
            refine ⟨_, _, _, [], cs, _, _, _, _, rfl, (by first | rfl | rw [← str_app1]), rfl, ?_, by omega, (by first | omega | (simp; omega)), (by first | omega | (simp; omega))⟩
            rw [← ht]
            try simp [lawStep, g1, g2, g3, g4, hw, tok, show prt 10 = true from rfl, show prt 35 = true from rfl, show brc 10 = false from rfl, show brc 35 = false from rfl]
        | true =>
          by_cases hw : wd = []
          · have f5 : decide ((⟨wd.toArray⟩ : Str) = ⟨#[]⟩) = true := by rw [p5]; simp [hw]
            walk_at "dl"
            refine ⟨_, _, _, wd, cs, _, _, _, _, rfl, (by first | rfl | rw [← str_app1]), rfl, ?_, by omega, (by first | omega | (simp; omega)), (by first | omega | (simp; omega))⟩
            rw [← ht]
            try simp [lawStep, g1, g2, g3, g4, hw, tok, show prt 10 = true from rfl, show prt 35 = true from rfl, show brc 10 = false from rfl, show brc 35 = false from rfl]
          · have f5 : decide ((⟨wd.toArray⟩ : Str) = ⟨#[]⟩) = false := by rw [p5]; simp [hw]
            walk_at "dl"
            refine ⟨_, _, _, wd, cs, _, _, _, _, rfl, (by first | rfl | rw [← str_app1]), rfl, ?_, by omega, (by first | omega | (simp; omega)), (by first | omega | (simp; omega))⟩
            rw [← ht]
            try simp [lawStep, g1, g2, g3, g4, hw, tok, show prt 10 = true from rfl, show prt 35 = true from rfl, show brc 10 = false from rfl, show brc 35 = false from rfl]
      · have f1 := p1.trans (show _ = false from by first | (subst h; rfl) | (rcases h with rfl | rfl <;> rfl) | (simp [h]))
        have f2 : decide ((⟨#[c]⟩ : Str) = ⟨#[35]⟩) = true := by rw [p2]; first | (subst h; rfl) | (rcases h with rfl | rfl <;> rfl) | (simp [h])
        have f3 : decide (c ∈ (Str.ofString "{}").cps.toList) = false := by rw [p3]; first | (subst h; rfl) | (rcases h with rfl | rfl <;> rfl) | (simp [brc, h])
        have f4 : decide ((⟨#[c]⟩ : Str) = ⟨#[10]⟩) = false := by rw [p4]; first | (subst h; rfl) | (rcases h with rfl | rfl <;> rfl) | (simp [h])
        have g1 : prt c = true := by first | (subst h; rfl) | (rcases h with rfl | rfl <;> rfl) | (simp [prt, h])
        have g3 : brc c = false := by first | (subst h; rfl) | (rcases h with rfl | rfl <;> rfl) | (simp [brc, h])
        have g2 : c = 35 := by omega
        have g4 : c ≠ 10 := by omega
        clear h p1 p2 p3 p4
        cases rem with
        | false =>
          by_cases hw : wd = []
          · have f5 : decide ((⟨wd.toArray⟩ : Str) = ⟨#[]⟩) = true := by rw [p5]; simp [hw]
            walk_at "dl"
            refine ⟨_, _, _, wd, cs, _, _, _, _, rfl, (by first | rfl | rw [← str_app1]), rfl, ?_, by omega, (by first | omega | (simp; omega)), (by first | omega | (simp; omega))⟩
            rw [← ht]
            try simp [lawStep, g1, g2, g3, g4, hw, tok, show prt 10 = true from rfl, show prt 35 = true from rfl, show brc 10 = false from rfl, show brc 35 = false from rfl]
          · have f5 : decide ((⟨wd.toArray⟩ : Str) = ⟨#[]⟩) = false := by rw [p5]; simp [hw]
            walk_at "dl"
            refine ⟨_, _, _, [], cs, _, _, _, _, rfl, (by first | rfl | rw [← str_app1]), rfl, ?_, by omega, (by first | omega | (simp; omega)), (by first | omega | (simp; omega))⟩
            rw [← ht]
            try simp [lawStep, g1, g2, g3, g4, hw, tok, show prt 10 = true from rfl, show prt 35 = true from rfl, show brc 10 = false from rfl, show brc 35 = false from rfl]
        | true =>
          by_cases hw : wd = []
          · have f5 : decide ((⟨wd.toArray⟩ : Str) = ⟨#[]⟩) = true := by rw [p5]; simp [hw]
            walk_at "dl"
            refine ⟨_, _, _, wd, cs, _, _, _, _, rfl, (by first | rfl | rw [← str_app1]), rfl, ?_, by omega, (by first | omega | (simp; omega)), (by first | omega | (simp; omega))⟩
            rw [← ht]
            try simp [lawStep, g1, g2, g3, g4, hw, tok, show prt 10 = true from rfl, show prt 35 = true from rfl, show brc 10 = false from rfl, show brc 35 = false from rfl]
          · have f5 : decide ((⟨wd.toArray⟩ : Str) = ⟨#[]⟩) = false := by rw [p5]; simp [hw]
            walk_at "dl"
            refine ⟨_, _, _, wd, cs, _, _, _, _, rfl, (by first | rfl | rw [← str_app1]), rfl, ?_, by omega, (by first | omega | (simp; omega)), (by first | omega | (simp; omega))⟩
            rw [← ht]
            try simp [lawStep, g1, g2, g3, g4, hw, tok, show prt 10 = true from rfl, show prt 35 = true from rfl, show brc 10 = false from rfl, show brc 35 = false from rfl]
      · have f1 := p1.trans (show _ = true from by first | (subst h; rfl) | (rcases h with rfl | rfl <;> rfl) | (simp [h]))
        have f2 : decide ((⟨#[c]⟩ : Str) = ⟨#[35]⟩) = false := by rw [p2]; first | (subst h; rfl) | (rcases h with rfl | rfl <;> rfl) | (simp [h])
        have f3 : decide (c ∈ (Str.ofString "{}").cps.toList) = false := by rw [p3]; first | (subst h; rfl) | (rcases h with rfl | rfl <;> rfl) | (simp [brc, h])
        have f4 : decide ((⟨#[c]⟩ : Str) = ⟨#[10]⟩) = false := by rw [p4]; first | (subst h; rfl) | (rcases h with rfl | rfl <;> rfl) | (simp [h])
        have g1 : prt c = true := by first | (subst h; rfl) | (rcases h with rfl | rfl <;> rfl) | (simp [prt, h])
        have g3 : brc c = false := by first | (subst h; rfl) | (rcases h with rfl | rfl <;> rfl) | (simp [brc, h])
        have g2 : c ≠ 35 := by omega
        have g4 : c ≠ 10 := by omega
        clear h p1 p2 p3 p4
        cases rem with
        | false =>
          by_cases hw : wd = []
          · have f5 : decide ((⟨wd.toArray⟩ : Str) = ⟨#[]⟩) = true := by rw [p5]; simp [hw]
            walk_at "dl"
            refine ⟨_, _, _, wd, cs, _, _, _, _, rfl, (by first | rfl | rw [← str_app1]), rfl, ?_, by omega, (by first | omega | (simp; omega)), (by first | omega | (simp; omega))⟩
            rw [← ht]
            try simp [lawStep, g1, g2, g3, g4, hw, tok, show prt 10 = true from rfl, show prt 35 = true from rfl, show brc 10 = false from rfl, show brc 35 = false from rfl]
          · have f5 : decide ((⟨wd.toArray⟩ : Str) = ⟨#[]⟩) = false := by rw [p5]; simp [hw]
            walk_at "dl"
            refine ⟨_, _, _, [], cs, _, _, _, _, rfl, (by first | rfl | rw [← str_app1]), rfl, ?_, by omega, (by first | omega | (simp; omega)), (by first | omega | (simp; omega))⟩
            rw [← ht]
            try simp [lawStep, g1, g2, g3, g4, hw, tok, show prt 10 = true from rfl, show prt 35 = true from rfl, show brc 10 = false from rfl, show brc 35 = false from rfl]
        | true =>
          by_cases hw : wd = []
          · have f5 : decide ((⟨wd.toArray⟩ : Str) = ⟨#[]⟩) = true := by rw [p5]; simp [hw]
            walk_at "dl"
            refine ⟨_, _, _, wd, cs, _, _, _, _, rfl, (by first | rfl | rw [← str_app1]), rfl, ?_, by omega, (by first | omega | (simp; omega)), (by first | omega | (simp; omega))⟩
            rw [← ht]
            try simp [lawStep, g1, g2, g3, g4, hw, tok, show prt 10 = true from rfl, show prt 35 = true from rfl, show brc 10 = false from rfl, show brc 35 = false from rfl]
          · have f5 : decide ((⟨wd.toArray⟩ : Str) = ⟨#[]⟩) = false := by rw [p5]; simp [hw]
            walk_at "dl"
            refine ⟨_, _, _, wd, cs, _, _, _, _, rfl, (by first | rfl | rw [← str_app1]), rfl, ?_, by omega, (by first | omega | (simp; omega)), (by first | omega | (simp; omega))⟩
            rw [← ht]
            try simp [lawStep, g1, g2, g3, g4, hw, tok, show prt 10 = true from rfl, show prt 35 = true from rfl, show brc 10 = false from rfl, show brc 35 = false from rfl]
      · have f1 := p1.trans (show _ = true from by first | (subst h; rfl) | (rcases h with rfl | rfl <;> rfl) | (simp [h]))
        have f2 : decide ((⟨#[c]⟩ : Str) = ⟨#[35]⟩) = false := by rw [p2]; first | (subst h; rfl) | (rcases h with rfl | rfl <;> rfl) | (simp [h])
        have f3 : decide (c ∈ (Str.ofString "{}").cps.toList) = true := by rw [p3]; first | (subst h; rfl) | (rcases h with rfl | rfl <;> rfl) | (simp [brc, h])
        have f4 : decide ((⟨#[c]⟩ : Str) = ⟨#[10]⟩) = false := by rw [p4]; first | (subst h; rfl) | (rcases h with rfl | rfl <;> rfl) | (simp [h])
        have g1 : prt c = true := by first | (subst h; rfl) | (rcases h with rfl | rfl <;> rfl) | (simp [prt, h])
        have g3 : brc c = true := by first | (subst h; rfl) | (rcases h with rfl | rfl <;> rfl) | (simp [brc, h])
        have g2 : c ≠ 35 := by omega
        have g4 : c ≠ 10 := by omega
        clear h p1 p2 p3 p4
        cases rem with
        | false =>
          by_cases hw : wd = []
          · have f5 : decide ((⟨wd.toArray⟩ : Str) = ⟨#[]⟩) = true := by rw [p5]; simp [hw]
            walk_at "dl"
            refine ⟨_, _, _, wd, cs, _, _, _, _, rfl, (by first | rfl | rw [← str_app1]), rfl, ?_, by omega, (by first | omega | (simp; omega)), (by first | omega | (simp; omega))⟩
            rw [← ht]
            try simp [lawStep, g1, g2, g3, g4, hw, tok, show prt 10 = true from rfl, show prt 35 = true from rfl, show brc 10 = false from rfl, show brc 35 = false from rfl]
          · have f5 : decide ((⟨wd.toArray⟩ : Str) = ⟨#[]⟩) = false := by rw [p5]; simp [hw]
            walk_at "dl"
            refine ⟨_, _, _, [], cs, _, _, _, _, rfl, (by first | rfl | rw [← str_app1]), rfl, ?_, by omega, (by first | omega | (simp; omega)), (by first | omega | (simp; omega))⟩
            rw [← ht]
            try simp [lawStep, g1, g2, g3, g4, hw, tok, show prt 10 = true from rfl, show prt 35 = true from rfl, show brc 10 = false from rfl, show brc 35 = false from rfl]
        | true =>
          by_cases hw : wd = []
          · have f5 : decide ((⟨wd.toArray⟩ : Str) = ⟨#[]⟩) = true := by rw [p5]; simp [hw]
            walk_at "dl"
            refine ⟨_, _, _, wd, cs, _, _, _, _, rfl, (by first | rfl | rw [← str_app1]), rfl, ?_, by omega, (by first | omega | (simp; omega)), (by first | omega | (simp; omega))⟩
            rw [← ht]
            try simp [lawStep, g1, g2, g3, g4, hw, tok, show prt 10 = true from rfl, show prt 35 = true from rfl, show brc 10 = false from rfl, show brc 35 = false from rfl]
          · have f5 : decide ((⟨wd.toArray⟩ : Str) = ⟨#[]⟩) = false := by rw [p5]; simp [hw]
            walk_at "dl"
            refine ⟨_, _, _, wd, cs, _, _, _, _, rfl, (by first | rfl | rw [← str_app1]), rfl, ?_, by omega, (by first | omega | (simp; omega)), (by first | omega | (simp; omega))⟩
            rw [← ht]
            try simp [lawStep, g1, g2, g3, g4, hw, tok, show prt 10 = true from rfl, show prt 35 = true from rfl, show brc 10 = false from rfl, show brc 35 = false from rfl]
      · have f1 := p1.trans (show _ = false from by first | (subst h; rfl) | (rcases h with rfl | rfl <;> rfl) | (simp [h]))
        have f2 : decide ((⟨#[c]⟩ : Str) = ⟨#[35]⟩) = false := by rw [p2]; first | (subst h; rfl) | (rcases h with rfl | rfl <;> rfl) | (simp [h])
        have f3 : decide (c ∈ (Str.ofString "{}").cps.toList) = false := by rw [p3]; first | (subst h; rfl) | (rcases h with rfl | rfl <;> rfl) | (simp [brc, h])
        have f4 : decide ((⟨#[c]⟩ : Str) = ⟨#[10]⟩) = false := by rw [p4]; first | (subst h; rfl) | (rcases h with rfl | rfl <;> rfl) | (simp [h])
        have g1 : prt c = false := by first | (subst h; rfl) | (rcases h with rfl | rfl <;> rfl) | (simp [prt, h])
        have g3 : brc c = false := by first | (subst h; rfl) | (rcases h with rfl | rfl <;> rfl) | (simp [brc, h])
        have g2 : c ≠ 35 := by omega
        have g4 : c ≠ 10 := by omega
        clear h p1 p2 p3 p4
        cases rem with
        | false =>
          by_cases hw : wd = []
          · have f5 : decide ((⟨wd.toArray⟩ : Str) = ⟨#[]⟩) = true := by rw [p5]; simp [hw]
            walk_at "dl"
            refine ⟨_, _, _, wd ++ [c], cs, _, _, _, _, rfl, (by first | rfl | rw [← str_app1]), rfl, ?_, by omega, (by first | omega | (simp; omega)), (by first | omega | (simp; omega))⟩
            rw [← ht]
            try simp [lawStep, g1, g2, g3, g4, hw, tok, show prt 10 = true from rfl, show prt 35 = true from rfl, show brc 10 = false from rfl, show brc 35 = false from rfl]
          · have f5 : decide ((⟨wd.toArray⟩ : Str) = ⟨#[]⟩) = false := by rw [p5]; simp [hw]
            walk_at "dl"
            refine ⟨_, _, _, wd ++ [c], cs, _, _, _, _, rfl, (by first | rfl | rw [← str_app1]), rfl, ?_, by omega, (by first | omega | (simp; omega)), (by first | omega | (simp; omega))⟩
            rw [← ht]
            try simp [lawStep, g1, g2, g3, g4, hw, tok, show prt 10 = true from rfl, show prt 35 = true from rfl, show brc 10 = false from rfl, show brc 35 = false from rfl]
        | true =>
          by_cases hw : wd = []
          · have f5 : decide ((⟨wd.toArray⟩ : Str) = ⟨#[]⟩) = true := by rw [p5]; simp [hw]
            walk_at "dl"
            refine ⟨_, _, _, wd, cs, _, _, _, _, rfl, (by first | rfl | rw [← str_app1]), rfl, ?_, by omega, (by first | omega | (simp; omega)), (by first | omega | (simp; omega))⟩
            rw [← ht]
            try simp [lawStep, g1, g2, g3, g4, hw, tok, show prt 10 = true from rfl, show prt 35 = true from rfl, show brc 10 = false from rfl, show brc 35 = false from rfl]
          · have f5 : decide ((⟨wd.toArray⟩ : Str) = ⟨#[]⟩) = false := by rw [p5]; simp [hw]
            walk_at "dl"
            refine ⟨_, _, _, wd, cs, _, _, _, _, rfl, (by first | rfl | rw [← str_app1]), rfl, ?_, by omega, (by first | omega | (simp; omega)), (by first | omega | (simp; omega))⟩
            rw [← ht]
            try simp [lawStep, g1, g2, g3, g4, hw, tok, show prt 10 = true from rfl, show prt 35 = true from rfl, show brc 10 = false from rfl, show brc 35 = false from rfl]
  · rintro ρ M' ⟨line, col, beg, wd, cs, rem, out, y7, y8, hi, rfl, rfl, ht, hz0, hz1, hz2⟩
    have : cs = [] := by
      cases cs with
      | nil => rfl
      | cons c r => exact absurd hi (by simp)
    subst this
    have e : out = wordsFrom 1 (rows s.cps.toList) := by rw [← ht]; simp [lawGo]
    subst e
    walk_at "dl"
    exact k
end

section
variable {P : Program} {w : World} {K : PySem.W.Frag} {mg : Str → Option Value} {base : Heap}

def wd (s : Str) : Dt := .lst (wordsFrom 1 (rows s.cps.toList))
theorem fn_free {M : MS} {p q : Addr} {x : MO} (h : updM M p x q = none) : q ≠ p := by
  rintro rfl
  rw [updM_same] at h
  cases h
theorem piece_of {x : Dt} (h : x ∈ [Dt.str (Str.ofString "move"), .str (Str.ofString "a"), .str (Str.ofString "{"), .str (Str.ofString "}"), .str (Str.ofString " "), .str (Str.ofString "  "), .str (Str.ofString "\t"), .str (Str.ofString "\n"), .str (Str.ofString "#"), .str (Str.ofString "x9"), .str (Str.ofString "-"), .str (Str.ofString "~!"), .str (Str.ofString "\n\n"), .str (Str.ofString "on")]) : ∃ s, x = .str s ∧ Piece s := by
  have k : ∀ s : Str, s.length ≤ 4 ∧ (s.cps.toList.all fun c => decide (c < 128)) = true → Piece s := fun s h => ⟨h.1, fun c hc => of_decide_eq_true (List.all_eq_true.mp h.2 c hc)⟩
  simp only [List.mem_cons, List.not_mem_nil, or_false] at h
  rcases h with rfl | rfl | rfl | rfl | rfl | rfl | rfl | rfl | rfl | rfl | rfl | rfl | rfl | rfl <;> exact ⟨_, rfl, k _ (by decide +kernel)⟩
theorem ok_law (T : Txt K mg) : FnOk P w K mg base CX0 10 T.a_law T.d_law ["script"] (spD K spLawD) := by
  refine fnD T.f_law sc_law (fun ds M P ⟨ns, e, _⟩ => by rw [e]; rfl) (fun cdv A outer s H E hr => ⟨_, (ss_cons (st_set 1 nd_law (e_call (ok_law_deck T) (hr.mono (by decide)) (by rfl) T.g_law_deck T.f_law_deck.kp T.b_law_deck pass0 (a_cons (e_var 0) (a_cons e_int (a_cons e_int a_nil)))))
  (ss_cons (st_for PassesOwn.never rfl (i_rng1 (by rfl) T.z_range (a_cons e_int a_nil)) (g_name 2 nd_law)
  (ss_cons (st_set 3 nd_law (e_lstM a_nil))
  (ss_cons (st_for PassesOwn.never rfl (i_rng1 (by rfl) T.z_range (a_cons e_int a_nil)) (g_name 4 nd_law)
  (ss_one (st_expr (e_bm PySem.F.plainAttrs_list PySem.F.slot_list_append PySem.F.type_list_append m_append (e_var 3) (a_cons (e_bm PySem.F.plainAttrs_str PySem.F.slot_str_join PySem.F.type_str_join m_join e_str (a_cons (e_lc rfl nd_law (i_rng1 (by rfl) T.z_range (a_cons (e_call (ok_law_take T) (hr.mono (by decide)) (by rfl) T.g_law_take T.f_law_take.kp T.b_law_take pass0 (a_cons (e_var 1) (a_cons e_int a_nil))) a_nil)) (blkOk_by (own := [("j", 12)]) (N := N_law) (sc := defScope s_law) (by decide +kernel)) (fun _ _ _ _ _ => pg_name (i := 12) nd_law rfl (Or.inl rfl)) (rg_name 12) (keeps_name (by decide)) (fun _ _ _ _ _ => ts_nil) (fun _ _ _ _ _ => (e_call (ok_law_pick T) (hr.mono (by decide)) (by rfl) T.g_law_pick T.f_law_pick.kp T.b_law_pick pass0 (a_cons (e_var 1) (a_cons (e_lst (a_cons e_str (a_cons e_str (a_cons e_str (a_cons e_str (a_cons e_str (a_cons e_str (a_cons e_str (a_cons e_str (a_cons e_str (a_cons e_str (a_cons e_str (a_cons e_str (a_cons e_str (a_cons e_str a_nil))))))))))))))) a_nil))))) a_nil)) a_nil)))))
  (ss_frz 3 (ss_cons (st_lc 5 rfl nd_law rfl rfl (sw_true rfl rfl rfl (by decide +kernel)) (i_walk (e_var 3)) (blkOk_by (own := [("text", 8)]) (N := N_law) (sc := defScope s_law) (by decide +kernel)) (fun _ _ _ _ _ => pg_name (i := 8) nd_law rfl (Or.inl rfl)) (rg_name 8) (keeps_name (by decide)) (fun _ _ _ _ _ => ts_nil) (fun _ _ _ _ _ => (e_call (ok_law_split T) (hr.mono (by decide)) (by rfl) T.g_law_split T.f_law_split.kp T.b_law_split pass0 (a_cons (e_var 8) a_nil))))
  (ss_cons (st_if (t_not (t_tru (e_call (ok_law_same T) (hr.mono (by decide)) (by rfl) T.g_law_same T.f_law_same.kp T.b_law_same pass0 (a_cons (e_lc rfl nd_law (i_walk (e_var 3)) (blkOk_by (own := [("text", 8)]) (N := N_law) (sc := defScope s_law) (by decide +kernel)) (fun _ _ _ _ _ => pg_name (i := 8) nd_law rfl (Or.inl rfl)) (rg_name 8) (keeps_name (by decide)) (fun _ _ _ _ _ => ts_nil) (fun _ _ _ _ _ => (e_call (ok_split_words T) (hr.mono (by decide)) (by rfl) T.g_split_words T.f_split_words.kp T.b_split_words pass0 (a_cons (e_var 8) a_nil)))) (a_cons (e_var 5) a_nil))))) (ss_one (st_ret e_bl)) ss_nil)
  (ss_cons (st_set 6 nd_law (e_callB c_len (by rfl) T.z_len PySem.boot_len (a_cons (e_bm PySem.F.plainAttrs_str PySem.F.slot_str_split PySem.F.type_str_split m_split (e_ix (e_var 3) e_int) (a_cons e_str a_nil)) a_nil)))
  (ss_cons (st_set 7 nd_law (e_op o_add (e_ix (e_var 5) e_int) (e_lc rfl nd_law (i_walk (e_ix (e_var 5) e_int)) (blkOk_by (own := [("word", 9), ("line", 10), ("column", 11)]) (N := N_law) (sc := defScope s_law) (by decide +kernel)) (fun _ _ _ _ _ => pg_tup (n := 3) rfl (pgs_cons (pg_name (i := 9) nd_law rfl (Or.inl rfl)) (pgs_cons (pg_name (i := 10) nd_law rfl (Or.inl rfl)) (pgs_cons (pg_name (i := 11) nd_law rfl (Or.inl rfl)) pgs_nil)))) (rg_tup (rgs_cons (rg_name 9) (rgs_cons (rg_name 10) (rgs_cons (rg_name 11) rgs_nil)))) (keeps_tup (keeps_consN (by decide) (keeps_consN (by decide) (keeps_consN (by decide) keeps_nil)))) (fun _ _ _ _ _ => ts_nil) (fun _ _ _ _ _ => (e_tup (a_cons (e_var 9) (a_cons (e_op o_add (e_var 10) (e_var 6)) (a_cons (e_var 11) a_nil))))))))
  (ss_one (st_if (t_not (t_tru (e_call (ok_law_same T) (hr.mono (by decide)) (by rfl) T.g_law_same T.f_law_same.kp T.b_law_same pass0 (a_cons (e_call (ok_split_words T) (hr.mono (by decide)) (by rfl) T.g_split_words T.f_split_words.kp T.b_split_words pass0 (a_cons (e_op o_add (e_op o_add (e_ix (e_var 3) e_int) e_str) (e_ix (e_var 3) e_int)) a_nil)) (a_cons (e_var 7) a_nil))))) (ss_one (st_ret e_bl)) ss_nil))))))))))
  (ss_one (st_ret (e_call (ok_law_same T) (hr.mono (by decide)) (by rfl) T.g_law_same T.f_law_same.kp T.b_law_same pass0 (a_cons (e_lst (a_cons (e_call (ok_split_words T) (hr.mono (by decide)) (by rfl) T.g_split_words T.f_split_words.kp T.b_split_words pass0 (a_cons e_str a_nil)) (a_cons (e_call (ok_split_words T) (hr.mono (by decide)) (by rfl) T.g_split_words T.f_split_words.kp T.b_split_words pass0 (a_cons e_str a_nil)) (a_cons (e_call (ok_split_words T) (hr.mono (by decide)) (by rfl) T.g_split_words T.f_split_words.kp T.b_split_words pass0 (a_cons e_str a_nil)) a_nil)))) (a_cons (e_lst (a_cons (e_lst a_nil) (a_cons (e_lst a_nil) (a_cons (e_lst (a_cons (e_tup (a_cons e_str (a_cons e_int (a_cons e_int a_nil)))) (a_cons (e_tup (a_cons e_str (a_cons e_int (a_cons e_int a_nil)))) a_nil))) a_nil)))) a_nil))))))), fun ds M Pd h => ?_⟩)
  obtain ⟨ns, rfl, hn, hb, k⟩ := h
  walk_at "dl"
  refine ⟨ns, 200, 14, rfl, hn, hb, by decide, by decide, by decide, by decide, fun p hp => ?_⟩
  walk_at "dl"
  refine l_turns (fun i ρ M' => ∃ (y2 y3 y4 y5 y6 y7 y8 y9 y10 y11 y12 : Option Dt), ρ = [some (.scr ns), some (.adr p), y2, y3, y4, y5, y6, y7, y8, y9, y10, y11, y12] ∧ M' = updM M p .deck) ⟨_, _, _, _, _, _, _, _, _, _, _, rfl, rfl⟩ ?_ ?_
  · rintro i ρ M' hi ⟨y2, y3, y4, y5, y6, y7, y8, y9, y10, y11, y12, rfl, rfl⟩
    walk_at "dl"
    intro q hq
    have hqp := fn_free hq
    have hd : ∀ ds, updM (updM M p .deck) q (.lst ds) p = some .deck := fun ds => by rw [updM_ne (Ne.symm hqp), updM_same]
    walk_at "dl"
    refine l_turns (fun i ρ M' => ∃ (ts : List Str) (y2 y4 y12 : Option Dt), ts.length = i ∧ (∀ t ∈ ts, Good t) ∧ ρ = [some (.scr ns), some (.adr p), y2, some (.adr q), y4, y5, y6, y7, y8, y9, y10, y11, y12] ∧ M' = updM (updM M p .deck) q (.lst (ts.map Dt.str))) ⟨[], _, _, _, rfl, (fun _ h => nomatch h), rfl, rfl⟩ ?_ ?_
    · rintro j ρ M' hj ⟨ts, y2, y4, y12, hl, ht, rfl, rfl⟩
      have hdl := hd (ts.map Dt.str)
      walk_at "dl"
      refine ⟨p, 24, rfl, hdl, by decide, fun r hr0 hr1 => ?_⟩
      walk_at "dl"
      refine c_inv (by rw [rangeD_len]; exact len_small (by omega)) (fun rest acc M' => ∃ ss : List Str, acc = ss.map Dt.str ∧ (∀ t ∈ ss, Piece t) ∧ ss.length + rest.length ≤ 23 ∧ M' = updM (updM M p .deck) q (.lst (ts.map Dt.str))) ?_ ?_ ?_
      · exact ⟨[], rfl, (fun _ h => nomatch h), by rw [rangeD_len]; simp; omega, rfl⟩
      · rintro x rest acc M' ⟨ss, rfl, hs, hz, rfl⟩
        walk_at "dl"
        refine ⟨p, _, rfl, hdl, by simp, fun x hx => ?_⟩
        obtain ⟨s, rfl, hps⟩ := piece_of hx
        walk_at "dl"
        refine ⟨ss ++ [s], by rw [List.map_append]; rfl, fun t h => ?_, by rw [List.length_append]; simp at hz ⊢; omega, rfl⟩
        rcases List.mem_append.mp h with h | h
        · exact hs t h
        · rw [List.mem_singleton.mp h]; exact hps
      · rintro acc M' ⟨ss, rfl, hs, hz, rfl⟩
        simp only [List.length_nil, Nat.add_zero] at hz
        have hsum := pieces_sum hs
        walk_at "dl"
        refine h_joinL ?_ (by rw [show (Str.ofString "").length = 0 from by decide +kernel]; omega)
        walk_at "dl"
        refine ⟨ts ++ [Txt.join (Str.ofString "") ss], _, _, _, by rw [List.length_append, hl]; rfl, fun t h => ?_, rfl, by rw [List.map_append]; rfl⟩
        rcases List.mem_append.mp h with h | h
        · exact ht t h
        · rw [List.mem_singleton.mp h]; exact join_good hz hs
    · rintro ρ M' ⟨ts, y2, y4, y12, hl, ht, rfl, rfl⟩
      obtain ⟨a, b, rfl⟩ : ∃ a b, ts = [a, b] := by
        match ts, hl with
        | [a, b], _ => exact ⟨a, b, rfl⟩
      obtain ⟨ha, ha2⟩ := ht a (by simp)
      obtain ⟨hb0, hb2⟩ := ht b (by simp)
      rw [show [a, b].map Dt.str = [.str a, .str b] from rfl]
      rw [e_nl]
      have lw1 := words_len a.cps.toList 1
      have lw2 := words_len b.cps.toList 1
      rw [← str_len] at lw1 lw2
      have l1 : (⟨#[10]⟩ : Str).length = 1 := rfl
      have l3 : (a ++ (⟨#[10]⟩ : Str)).length = a.length + 1 := by rw [str_len, str_appL, List.length_append, ← str_len]; rfl
      have l4 : (a ++ (⟨#[10]⟩ : Str) ++ b).length = a.length + 1 + b.length := by rw [str_len, str_appL, List.length_append, ← str_len, l3, ← str_len]
      have la : a.cps.toList.length ≤ 1000 := by rw [← str_len]; omega
      have lb : b.cps.toList.length ≤ 1000 := by rw [← str_len]; omega
      have hpl : plOk 8 (.lst [.lst (wordsFrom 1 (rows a.cps.toList)), .lst (wordsFrom 1 (rows b.cps.toList))]) := by
        unfold plOk
        refine ⟨by show 2 < sizeLine; decide, fun x hx => ?_⟩
        rcases List.mem_cons.mp hx with rfl | hx
        · exact words_ok (n := 4) ha2 la 1
        · rw [List.mem_singleton.mp hx]
          exact words_ok (n := 4) hb2 lb 1
      walk_at "dl"
      refine c_unroll ?_ (len_small (by show 2 ≤ _; decide))
      walk_at "dl"
      refine ⟨a, rfl, by omega, ?_⟩
      walk_at "dl"
      refine ⟨b, rfl, by omega, ?_⟩
      walk_at "dl"
      refine c_unroll ?_ (len_small (by show 2 ≤ _; decide))
      walk_at "dl"
      refine ⟨a, rfl, by omega, ?_⟩
      walk_at "dl"
      refine ⟨b, rfl, by omega, ?_⟩
      walk_at "dl"
      refine ⟨_, rfl, hpl, ?_⟩
      walk_at "dl"
      rw [split_rows, List.length_map]
      refine c_map (len_small (by omega)) (shiftT (rows a.cps.toList).length) (fun x hx Pc hc => ?_) ?_
      · obtain ⟨w', l, c, rfl, _⟩ := words_form hb2 1 x hx
        unfold tok at hc ⊢
        walk_at "dl"
        exact hc
      walk_at "dl"
      refine ⟨_, rfl, by omega, ?_⟩
      walk_at "dl"
      have el : (a ++ (⟨#[10]⟩ : Str) ++ b).cps.toList = a.cps.toList ++ 10 :: b.cps.toList := by
        rw [str_appL, str_appL, List.append_assoc]
        rfl
      rw [el, both_words]
      refine ⟨_, rfl, words_ok (n := 5) (fun x hx => ?_) ?_ 1, ?_⟩
      · rcases List.mem_append.mp hx with hx | hx
        · exact ha2 x hx
        · rcases List.mem_cons.mp hx with rfl | hx
          · decide
          · exact hb2 x hx
      · rw [← el, ← str_len]; omega
      walk_at "dl"
      exact ⟨_, _, _, _, _, _, _, _, _, _, _, rfl, rfl⟩
  · rintro ρ M' ⟨y2, y3, y4, y5, y6, y7, y8, y9, y10, y11, y12, rfl, rfl⟩
    walk_at "dl"
    refine ⟨_, rfl, by decide +kernel, ?_⟩
    walk_at "dl"
    refine ⟨_, rfl, by decide +kernel, ?_⟩
    walk_at "dl"
    refine ⟨_, rfl, by decide +kernel, ?_⟩
    walk_at "dl"
    rw [show (Str.ofString "").cps.toList = [] from by decide +kernel, show (Str.ofString "#{}").cps.toList = [35, 123, 125] from by decide +kernel, show (Str.ofString "a#b\nc").cps.toList = [97, 35, 98, 10, 99] from by decide +kernel, words_c1, words_c2, words_c3, show Str.ofString "a" = ⟨#[97]⟩ from by decide +kernel, show Str.ofString "c" = ⟨#[99]⟩ from by decide +kernel]
    refine ⟨_, rfl, ?_, ?_⟩
    · unfold plOk
      refine ⟨by show 3 < sizeLine; decide, fun x hx => ?_⟩
      have h0 : plOk 7 (.lst []) := by unfold plOk; exact ⟨by show 0 < sizeLine; decide, fun x hx => nomatch hx⟩
      rcases List.mem_cons.mp hx with rfl | hx
      · exact h0
      · rcases List.mem_cons.mp hx with rfl | hx
        · exact h0
        · rw [List.mem_singleton.mp hx]
          unfold plOk
          refine ⟨by show 2 < sizeLine; decide, fun x hx => ?_⟩
          rcases List.mem_cons.mp hx with rfl | hx
          · exact tok_ok (n := 4) (fun x hx => by rw [List.mem_singleton.mp hx]; decide)
          · rw [List.mem_singleton.mp hx]
            exact tok_ok (n := 4) (fun x hx => by rw [List.mem_singleton.mp hx]; decide)
    · walk_at "dl"
      exact k _
end

theorem all_mk {l : PySem.W.OpenLaw} {w : World} {K : PySem.W.Frag} {h : Heap} {mg : Str → Option Value} {fa : Addr} (X : K.In h) (G : h.Ns mainGlobals mg) (hfa : mg "law" = some (.ref fa))
    {f1 : Addr} {od1 an1 : Option Addr} {sl1 : Array (Option Value)} {oc1 kV1 dc1 pm1 cd1 ct1 : Value}
    (a1 : PySem.W.nsIn K mainGlobals "split_line" = some (some (.ref f1))) (l1 : K.lookup f1 = some ⟨oc1, od1, .func (PySem.W.fnOf "split_line" "split_line" (defArgs s_split_line) (defBody s_split_line) (defScope s_split_line) .none kV1 dc1 pm1 an1 cd1 ct1), sl1⟩) (c1 : PySem.W.codeIn K cd1 "split_line" = true) (k1 : PySem.W.keepIn K (.ref f1) = true)
    {f2 : Addr} {od2 an2 : Option Addr} {sl2 : Array (Option Value)} {oc2 kV2 dc2 pm2 cd2 ct2 : Value}
    (a2 : PySem.W.nsIn K mainGlobals "split_words" = some (some (.ref f2))) (l2 : K.lookup f2 = some ⟨oc2, od2, .func (PySem.W.fnOf "split_words" "split_words" (defArgs s_split_words) (defBody s_split_words) (defScope s_split_words) .none kV2 dc2 pm2 an2 cd2 ct2), sl2⟩) (c2 : PySem.W.codeIn K cd2 "split_words" = true) (k2 : PySem.W.keepIn K (.ref f2) = true)
    {f3 : Addr} {od3 an3 : Option Addr} {sl3 : Array (Option Value)} {oc3 kV3 dc3 pm3 cd3 ct3 : Value}
    (a3 : PySem.W.nsIn K mainGlobals "_law_deck" = some (some (.ref f3))) (l3 : K.lookup f3 = some ⟨oc3, od3, .func (PySem.W.fnOf "_law_deck" "_law_deck" (defArgs s_law_deck) (defBody s_law_deck) (defScope s_law_deck) .none kV3 dc3 pm3 an3 cd3 ct3), sl3⟩) (c3 : PySem.W.codeIn K cd3 "_law_deck" = true) (k3 : PySem.W.keepIn K (.ref f3) = true)
    {f4 : Addr} {od4 an4 : Option Addr} {sl4 : Array (Option Value)} {oc4 kV4 dc4 pm4 cd4 ct4 : Value}
    (a4 : PySem.W.nsIn K mainGlobals "_law_take" = some (some (.ref f4))) (l4 : K.lookup f4 = some ⟨oc4, od4, .func (PySem.W.fnOf "_law_take" "_law_take" (defArgs s_law_take) (defBody s_law_take) (defScope s_law_take) .none kV4 dc4 pm4 an4 cd4 ct4), sl4⟩) (c4 : PySem.W.codeIn K cd4 "_law_take" = true) (k4 : PySem.W.keepIn K (.ref f4) = true)
    {f5 : Addr} {od5 an5 : Option Addr} {sl5 : Array (Option Value)} {oc5 kV5 dc5 pm5 cd5 ct5 : Value}
    (a5 : PySem.W.nsIn K mainGlobals "_law_pick" = some (some (.ref f5))) (l5 : K.lookup f5 = some ⟨oc5, od5, .func (PySem.W.fnOf "_law_pick" "_law_pick" (defArgs s_law_pick) (defBody s_law_pick) (defScope s_law_pick) .none kV5 dc5 pm5 an5 cd5 ct5), sl5⟩) (c5 : PySem.W.codeIn K cd5 "_law_pick" = true) (k5 : PySem.W.keepIn K (.ref f5) = true)
    {f6 : Addr} {od6 an6 : Option Addr} {sl6 : Array (Option Value)} {oc6 kV6 dc6 pm6 cd6 ct6 : Value}
    (a6 : PySem.W.nsIn K mainGlobals "_law_plain" = some (some (.ref f6))) (l6 : K.lookup f6 = some ⟨oc6, od6, .func (PySem.W.fnOf "_law_plain" "_law_plain" (defArgs s_law_plain) (defBody s_law_plain) (defScope s_law_plain) .none kV6 dc6 pm6 an6 cd6 ct6), sl6⟩) (c6 : PySem.W.codeIn K cd6 "_law_plain" = true) (k6 : PySem.W.keepIn K (.ref f6) = true)
    {f7 : Addr} {od7 an7 : Option Addr} {sl7 : Array (Option Value)} {oc7 kV7 dc7 pm7 cd7 ct7 : Value}
    (a7 : PySem.W.nsIn K mainGlobals "_law_same" = some (some (.ref f7))) (l7 : K.lookup f7 = some ⟨oc7, od7, .func (PySem.W.fnOf "_law_same" "_law_same" (defArgs s_law_same) (defBody s_law_same) (defScope s_law_same) .none kV7 dc7 pm7 an7 cd7 ct7), sl7⟩) (c7 : PySem.W.codeIn K cd7 "_law_same" = true) (k7 : PySem.W.keepIn K (.ref f7) = true)
    {f8 : Addr} {od8 an8 : Option Addr} {sl8 : Array (Option Value)} {oc8 kV8 dc8 pm8 cd8 ct8 : Value}
    (a8 : PySem.W.nsIn K mainGlobals "_law_split" = some (some (.ref f8))) (l8 : K.lookup f8 = some ⟨oc8, od8, .func (PySem.W.fnOf "_law_split" "_law_split" (defArgs s_law_split) (defBody s_law_split) (defScope s_law_split) .none kV8 dc8 pm8 an8 cd8 ct8), sl8⟩) (c8 : PySem.W.codeIn K cd8 "_law_split" = true) (k8 : PySem.W.keepIn K (.ref f8) = true)
    {f9 : Addr} {od9 an9 : Option Addr} {sl9 : Array (Option Value)} {oc9 kV9 dc9 pm9 cd9 ct9 : Value}
    (a9 : PySem.W.nsIn K mainGlobals "law" = some (some (.ref f9))) (l9 : K.lookup f9 = some ⟨oc9, od9, .func (PySem.W.fnOf "law" "law" (defArgs s_law) (defBody s_law) (defScope s_law) .none kV9 dc9 pm9 an9 cd9 ct9), sl9⟩) (c9 : PySem.W.codeIn K cd9 "law" = true) (k9 : PySem.W.keepIn K (.ref f9) = true)
    (z_abs : PySem.W.nsIn K mainGlobals "abs" = some none)
    (z_bool : PySem.W.nsIn K mainGlobals "bool" = some none)
    (z_enumerate : PySem.W.nsIn K mainGlobals "enumerate" = some none)
    (z_int : PySem.W.nsIn K mainGlobals "int" = some none)
    (z_isinstance : PySem.W.nsIn K mainGlobals "isinstance" = some none)
    (z_len : PySem.W.nsIn K mainGlobals "len" = some none)
    (z_list : PySem.W.nsIn K mainGlobals "list" = some none)
    (z_range : PySem.W.nsIn K mainGlobals "range" = some none)
    (z_str : PySem.W.nsIn K mainGlobals "str" = some none)
    (z_tuple : PySem.W.nsIn K mainGlobals "tuple" = some none)
    : ∃ fd : FuncData, (∀ (s : Shared) (v : Value), BindsTo s fd ⟨[v], []⟩ [("script", v)]) ∧ ∀ base : Heap, K.In base → base.Ns mainGlobals mg → FnOk l.prog w K mg base CX0 10 fa fd ["script"] (spD K spLawD) := by
  have e := hfa.symm.trans (PySem.W.mg_of X G a9)
  cases e
  exact ⟨_, fun s v => .of_eq rfl, fun base _ _ => ok_law ⟨_, _, fun_mk (st := s_split_line) l1 c1 k1, PySem.W.mg_of X G a1, (fun_mk (st := s_split_line) l1 c1 k1).binds (fun _ _ _ _ _ _ us hl => match us, hl with | [_, _], _ => rfl), _, _, fun_mk (st := s_split_words) l2 c2 k2, PySem.W.mg_of X G a2, (fun_mk (st := s_split_words) l2 c2 k2).binds (fun _ _ _ _ _ _ us hl => match us, hl with | [_], _ => rfl), _, _, fun_mk (st := s_law_deck) l3 c3 k3, PySem.W.mg_of X G a3, (fun_mk (st := s_law_deck) l3 c3 k3).binds (fun _ _ _ _ _ _ us hl => match us, hl with | [_, _, _], _ => rfl), _, _, fun_mk (st := s_law_take) l4 c4 k4, PySem.W.mg_of X G a4, (fun_mk (st := s_law_take) l4 c4 k4).binds (fun _ _ _ _ _ _ us hl => match us, hl with | [_, _], _ => rfl), _, _, fun_mk (st := s_law_pick) l5 c5 k5, PySem.W.mg_of X G a5, (fun_mk (st := s_law_pick) l5 c5 k5).binds (fun _ _ _ _ _ _ us hl => match us, hl with | [_, _], _ => rfl), _, _, fun_mk (st := s_law_plain) l6 c6 k6, PySem.W.mg_of X G a6, (fun_mk (st := s_law_plain) l6 c6 k6).binds (fun _ _ _ _ _ _ us hl => match us, hl with | [_], _ => rfl), _, _, fun_mk (st := s_law_same) l7 c7 k7, PySem.W.mg_of X G a7, (fun_mk (st := s_law_same) l7 c7 k7).binds (fun _ _ _ _ _ _ us hl => match us, hl with | [_, _], _ => rfl), _, _, fun_mk (st := s_law_split) l8 c8 k8, PySem.W.mg_of X G a8, (fun_mk (st := s_law_split) l8 c8 k8).binds (fun _ _ _ _ _ _ us hl => match us, hl with | [_], _ => rfl), _, _, fun_mk (st := s_law) l9 c9 k9, PySem.W.mg_of X G a9, (fun_mk (st := s_law) l9 c9 k9).binds (fun _ _ _ _ _ _ us hl => match us, hl with | [_], _ => rfl), PySem.W.mg_none_of X G z_abs, PySem.W.mg_none_of X G z_bool, PySem.W.mg_none_of X G z_enumerate, PySem.W.mg_none_of X G z_int, PySem.W.mg_none_of X G z_isinstance, PySem.W.mg_none_of X G z_len, PySem.W.mg_none_of X G z_list, PySem.W.mg_none_of X G z_range, PySem.W.mg_none_of X G z_str, PySem.W.mg_none_of X G z_tuple⟩⟩

end K38
open PySem PySem.W PyProof.Rows
set_option maxHeartbeats 0 in
set_option maxRecDepth 100000 in
theorem PySem.Challenge.cw_armwarrant_k38_whole_words_of_any_text_holds : PySem.Challenge.rw_armwarrant_k38_whole_words_of_any_text.Holds := by
  w_on; o_law; k_head; (case hw => w_witness2)
  k_fill
  refine L2.walk_ofB (l := PySem.Challenge.rw_armwarrant_k38_whole_words_of_any_text) (n := 63) (k := 10) (x := "script") (CX := fun _ => L2.CX0) (sp := fun w => DL.spD _ DL.spLawD) rfl (by decide) rfl ⟨rfl, by decide, by decide⟩ (fun w h Y => PySem.W.kIn_of Y) ?F (fun w H a ns h1 h2 _ h3 => DL.law_spD _ H a ns h1 h2 h3) (fun _ _ _ _ _ h => h)
  case F =>
    intro w mg fa h KX G hmg
    refine' K38.all_mk KX G hmg ?a1 ?l1 ?c1 ?k1 ?a2 ?l2 ?c2 ?k2 ?a3 ?l3 ?c3 ?k3 ?a4 ?l4 ?c4 ?k4 ?a5 ?l5 ?c5 ?k5 ?a6 ?l6 ?c6 ?k6 ?a7 ?l7 ?c7 ?k7 ?a8 ?l8 ?c8 ?k8 ?a9 ?l9 ?c9 ?k9 ?z_abs ?z_bool ?z_enumerate ?z_int ?z_isinstance ?z_len ?z_list ?z_range ?z_str ?z_tuple
    (case a1 => k_is); (case l1 => k_is); (case c1 => k_is); (case k1 => k_is); (case a2 => k_is); (case l2 => k_is); (case c2 => k_is); (case k2 => k_is); (case a3 => k_is); (case l3 => k_is); (case c3 => k_is); (case k3 => k_is); (case a4 => k_is); (case l4 => k_is); (case c4 => k_is); (case k4 => k_is); (case a5 => k_is); (case l5 => k_is); (case c5 => k_is); (case k5 => k_is); (case a6 => k_is); (case l6 => k_is); (case c6 => k_is); (case k6 => k_is); (case a7 => k_is); (case l7 => k_is); (case c7 => k_is); (case k7 => k_is); (case a8 => k_is); (case l8 => k_is); (case c8 => k_is); (case k8 => k_is); (case a9 => k_is); (case l9 => k_is); (case c9 => k_is); (case k9 => k_is); (case z_abs => k_is); (case z_bool => k_is); (case z_enumerate => k_is); (case z_int => k_is); (case z_isinstance => k_is); (case z_len => k_is); (case z_list => k_is); (case z_range => k_is); (case z_str => k_is); (case z_tuple => k_is)
