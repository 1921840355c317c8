import PyProof.Rows.All
import Wide.All
import OpenK.AllK
import Wide.FinOn
import HandS.ForMost
import HandS.Exc
import HandS.WordsExc
import HandS.OwnEq
import HandS.Property
import HandS.Deep
import HandS.Wide
import HandS.TupAny
import HandS.NoneIn
import HandS.Strs
import HandS.Zip
import HandS.Iter
import HandS.ExcInit
import HandS.ExcField
import KE.KExcIs
import HandS.IsInst
import HandS.TryOnly
import PyProof.InstNe
import PyProof.FactsAll.zip_1
import KE.SortData
import PyProof.ReprRoads
import HandS.Ends
import PyProof.ReprLen
import PySem.Challenge.RW_lookcrowd_k21_rules_that_can_be_done
set_option Elab.async false
set_option linter.all false
set_option maxRecDepth 100000
/-! The D layer, 1: data, stores, how a heap bears them; expressions. -/
namespace DL
open PySem PySem.Spec PyProof.Rows L2

/-- a value as data: lists and instances that never change again are told whole, what may change is a cell of the store -/
inductive Dv where
  | non | bl (b : Bool) | int (i : Int) | str (x : Str)
  | tup (l : List Dv) | ktup (l : List Dv) | lst (l : List Dv) | ro (l : List Dv)
  | ins (c : Nat) (fs : List (Str × Dv))
  | dic (l : List (List L2.Key × Dv))
  | cell (k : Nat)
  | con (v : V)
  | exn (a dd : Addr) (c : Nat) (d : Dv)
  | cls (c : Nat)
/-- what stands in a cell -/
inductive Ob where
  | lst (l : List Dv) | ins (c : Nat) (fs : List (Str × Dv)) | dic (l : List (List L2.Key × Dv)) | gone
abbrev Sto := List Ob
/-- an outcome -/
inductive Re (α : Type) where
  | ok (a : α) (S : Sto) | exc (c : Nat) (d : Dv) (S : Sto) | bad
def Re.bind {α β : Type} : Re α → (α → Sto → Re β) → Re β
  | .ok a S, k => k a S
  | .exc c d S, _ => .exc c d S
  | .bad, _ => .bad
@[simp] theorem Re.bind_ok {α β : Type} (a : α) (S : Sto) (k : α → Sto → Re β) : (Re.ok a S).bind k = k a S := rfl
@[simp] theorem Re.bind_exc {α β : Type} (c : Nat) (d : Dv) (S : Sto) (k : α → Sto → Re β) : (Re.exc c d S : Re α).bind k = .exc c d S := rfl
@[simp] theorem Re.bind_bad {α β : Type} (k : α → Sto → Re β) : (Re.bad : Re α).bind k = .bad := rfl
abbrev En := List (Option Dv)

/-- the written part, the classes by number -/
structure Ev where
  K : PySem.W.Frag
  γ : Nat → Addr

mutual
inductive Rep (M : Ev) (F : Hp) (θ : List Addr) : V → Dv → Prop
  | non : Rep M F θ .non .non
  | bl (b : Bool) : Rep M F θ (.bl b) (.bl b)
  | int (i : Int) : Rep M F θ (.int i) (.int i)
  | str (x : Str) : Rep M F θ (.str x) (.str x)
  | tup {a : Addr} {xs : List V} {ds : List Dv} : SqT M.K F a xs → Reps M F θ xs ds → Rep M F θ (.ref a) (.tup ds)
  | ktup {a : Addr} {o : Obj} {xs : List V} {ds : List Dv} : F a = some (.frz o (.tup xs)) → o.dict = none → Reps M F θ xs ds → Rep M F θ (.ref a) (.ktup ds)
  | lst {a : Addr} {xs : List V} {ds : List Dv} : F a = some (.lst xs) → Reps M F θ xs ds → Rep M F θ (.ref a) (.lst ds)
  | ro {a : Addr} {xs : List V} {ds : List Dv} : SqL M.K F a xs → Reps M F θ xs ds → Rep M F θ (.ref a) (.ro ds)
  | ins {a dx : Addr} {c : Nat} {fs : List (Str × V)} {gs : List (Str × Dv)} : F a = some (.ins (M.γ c) dx fs) → RepF M F θ fs gs → Rep M F θ (.ref a) (.ins c gs)
  | dic {a : Addr} {kvs : List (List L2.Key × V)} {l : List (List L2.Key × Dv)} : F a = some (.dT kvs) → RepK M F θ kvs l → Rep M F θ (.ref a) (.dic l)
  | cell {k : Nat} {a : Addr} : θ[k]? = some a → Rep M F θ (.ref a) (.cell k)
  | con (v : V) : Rep M F θ v (.con v)
  | exn {a dd : Addr} {c : Nat} {v : V} {d : Dv} : F dd = some (.xd [("value", v)]) → Rep M F θ v d → Rep M F θ (.ref a) (.exn a dd c d)
  | cls (c : Nat) : Rep M F θ (.ref (M.γ c)) (.cls c)
inductive Reps (M : Ev) (F : Hp) (θ : List Addr) : List V → List Dv → Prop
  | nil : Reps M F θ [] []
  | cons {v : V} {d : Dv} {vs : List V} {ds : List Dv} : Rep M F θ v d → Reps M F θ vs ds → Reps M F θ (v :: vs) (d :: ds)
inductive RepF (M : Ev) (F : Hp) (θ : List Addr) : List (Str × V) → List (Str × Dv) → Prop
  | nil : RepF M F θ [] []
  | cons {f : Str} {v : V} {d : Dv} {vs : List (Str × V)} {ds : List (Str × Dv)} : Rep M F θ v d → RepF M F θ vs ds → RepF M F θ ((f, v) :: vs) ((f, d) :: ds)
inductive RepK (M : Ev) (F : Hp) (θ : List Addr) : List (List L2.Key × V) → List (List L2.Key × Dv) → Prop
  | nil : RepK M F θ [] []
  | cons {f : List L2.Key} {v : V} {d : Dv} {vs : List (List L2.Key × V)} {ds : List (List L2.Key × Dv)} : Rep M F θ v d → RepK M F θ vs ds → RepK M F θ ((f, v) :: vs) ((f, d) :: ds)
end

def RepO (M : Ev) (F : Hp) (θ : List Addr) : HO → Ob → Prop
  | .lst xs, .lst ds => Reps M F θ xs ds
  | .ins C _ fs, .ins c gs => C = M.γ c ∧ RepF M F θ fs gs
  | .dT kvs, .dic l => RepK M F θ kvs l
  | _, _ => False

/-- the frozen part grows, the cells' places grow at the end -/
structure Gr (F F' : Hp) (θ θ' : List Addr) : Prop where
  le : ∀ a o, F a = some o → F' a = some o
  pre : ∀ (k : Nat) (a : Addr), θ[k]? = some a → θ'[k]? = some a
theorem Gr.rfl {F : Hp} {θ : List Addr} : Gr F F θ θ := ⟨fun _ _ h => h, fun _ _ h => h⟩
theorem Gr.trans {F F1 F2 : Hp} {θ θ1 θ2 : List Addr} (a : Gr F F1 θ θ1) (b : Gr F1 F2 θ1 θ2) : Gr F F2 θ θ2 := ⟨fun x o h => b.le x o (a.le x o h), fun k x h => b.pre k x (a.pre k x h)⟩
theorem Gr.sqT {K : PySem.W.Frag} {F F' : Hp} {θ θ' : List Addr} {a : Addr} {xs : List V} (e : Gr F F' θ θ') (h : SqT K F a xs) : SqT K F' a xs := by
  rcases h with (h | ⟨o, h⟩) | h
  · exact .inl (.inl (e.le _ _ h))
  · exact .inl (.inr ⟨o, e.le _ _ h⟩)
  · exact .inr h
theorem Gr.sqL {K : PySem.W.Frag} {F F' : Hp} {θ θ' : List Addr} {a : Addr} {xs : List V} (e : Gr F F' θ θ') (h : SqL K F a xs) : SqL K F' a xs := by
  rcases h with (h | ⟨o, h⟩) | h
  · exact .inl (.inl (e.le _ _ h))
  · exact .inl (.inr ⟨o, e.le _ _ h⟩)
  · exact .inr h
section
variable {M : Ev} {Φ : Hp} {F F' : Hp} {θ θ' : List Addr}
mutual
theorem Rep.ext (e : Gr F F' θ θ') : ∀ {v : V} {d : Dv}, Rep M F θ v d → Rep M F' θ' v d
  | _, _, .non => .non
  | _, _, .bl b => .bl b
  | _, _, .int i => .int i
  | _, _, .str x => .str x
  | _, _, .tup h r => .tup (e.sqT h) (Reps.ext e r)
  | _, _, .ktup h h2 r => .ktup (e.le _ _ h) h2 (Reps.ext e r)
  | _, _, .lst h r => .lst (e.le _ _ h) (Reps.ext e r)
  | _, _, .ro h r => .ro (e.sqL h) (Reps.ext e r)
  | _, _, .ins h r => .ins (e.le _ _ h) (RepF.ext e r)
  | _, _, .dic h r => .dic (e.le _ _ h) (RepK.ext e r)
  | _, _, .cell h => .cell (e.pre _ _ h)
  | _, _, .con v => .con v
  | _, _, .exn h r => .exn (e.le _ _ h) (Rep.ext e r)
  | _, _, .cls c => .cls c
theorem Reps.ext (e : Gr F F' θ θ') : ∀ {v : List V} {d : List Dv}, Reps M F θ v d → Reps M F' θ' v d
  | _, _, .nil => .nil
  | _, _, .cons h r => .cons (Rep.ext e h) (Reps.ext e r)
theorem RepF.ext (e : Gr F F' θ θ') : ∀ {v : List (Str × V)} {d : List (Str × Dv)}, RepF M F θ v d → RepF M F' θ' v d
  | _, _, .nil => .nil
  | _, _, .cons h r => .cons (Rep.ext e h) (RepF.ext e r)
theorem RepK.ext (e : Gr F F' θ θ') : ∀ {v : List (List L2.Key × V)} {d : List (List L2.Key × Dv)}, RepK M F θ v d → RepK M F' θ' v d
  | _, _, .nil => .nil
  | _, _, .cons h r => .cons (Rep.ext e h) (RepK.ext e r)
end
theorem RepO.ext (e : Gr F F' θ θ') : ∀ {o : HO} {ob : Ob}, RepO M F θ o ob → RepO M F' θ' o ob := by
  intro o ob h
  cases o <;> cases ob <;> first | exact h.elim | exact Reps.ext e h | exact ⟨h.1, RepF.ext e h.2⟩ | exact RepK.ext e h
theorem Reps.length : ∀ {v : List V} {d : List Dv}, Reps M F θ v d → v.length = d.length
  | _, _, .nil => rfl
  | _, _, .cons _ r => congrArg (· + 1) (Reps.length r)
theorem Reps.get : ∀ {v : List V} {d : List Dv} {i : Nat} {x : Dv}, Reps M F θ v d → d[i]? = some x → ∃ u, v[i]? = some u ∧ Rep M F θ u x
  | _, _, _, _, .nil, h => by simp at h
  | _, _, 0, _, .cons r _, h => by simp at h; subst h; exact ⟨_, rfl, r⟩
  | _, _, i + 1, _, .cons _ t, h => by
    obtain ⟨u, h1, h2⟩ := Reps.get (i := i) t (by simpa using h)
    exact ⟨u, by simpa using h1, h2⟩
theorem Reps.getV : ∀ {v : List V} {d : List Dv} {i : Nat} {u : V}, Reps M F θ v d → v[i]? = some u → ∃ x, d[i]? = some x ∧ Rep M F θ u x
  | _, _, _, _, .nil, h => by simp at h
  | _, _, 0, _, .cons r _, h => by simp at h; subst h; exact ⟨_, rfl, r⟩
  | _, _, i + 1, _, .cons _ t, h => by
    obtain ⟨u, h1, h2⟩ := Reps.getV (i := i) t (by simpa using h)
    exact ⟨u, by simpa using h1, h2⟩
theorem Reps.append : ∀ {v v' : List V} {d d' : List Dv}, Reps M F θ v d → Reps M F θ v' d' → Reps M F θ (v ++ v') (d ++ d')
  | _, _, _, _, .nil, h => h
  | _, _, _, _, .cons r t, h => .cons r (Reps.append t h)
theorem Reps.set {u : V} {x : Dv} (r : Rep M F θ u x) : ∀ {v : List V} {d : List Dv} (i : Nat), Reps M F θ v d → Reps M F θ (v.set i u) (d.set i x)
  | _, _, _, .nil => .nil
  | _, _, 0, .cons _ t => .cons r t
  | _, _, i + 1, .cons q t => .cons q (Reps.set r i t)
theorem Reps.drop : ∀ {v : List V} {d : List Dv} (i : Nat), Reps M F θ v d → Reps M F θ (v.drop i) (d.drop i)
  | _, _, 0, h => h
  | _, _, _ + 1, .nil => .nil
  | _, _, i + 1, .cons _ t => Reps.drop i t
theorem Reps.take : ∀ {v : List V} {d : List Dv} (i : Nat), Reps M F θ v d → Reps M F θ (v.take i) (d.take i)
  | _, _, 0, _ => .nil
  | _, _, _ + 1, .nil => .nil
  | _, _, i + 1, .cons q t => .cons q (Reps.take i t)
theorem RepF.lookup (f : Str) : ∀ {fs : List (Str × V)} {gs : List (Str × Dv)}, RepF M F θ fs gs → (∀ d, gs.lookup f = some d → ∃ v, fs.lookup f = some v ∧ Rep M F θ v d) ∧ (gs.lookup f = none → fs.lookup f = none)
  | _, _, .nil => ⟨fun _ h => by simp at h, fun _ => rfl⟩
  | _, _, .cons (f := g) r t => by
    have ih := RepF.lookup f t
    simp only [List.lookup]
    cases e : f == g with
    | true => exact ⟨fun d h => by simp at h; subst h; exact ⟨_, rfl, r⟩, fun h => by simp at h⟩
    | false => exact ih
theorem RepF.length : ∀ {fs : List (Str × V)} {gs : List (Str × Dv)}, RepF M F θ fs gs → fs.length = gs.length
  | _, _, .nil => rfl
  | _, _, .cons _ r => congrArg (· + 1) (RepF.length r)
/-- a field stored -/
def putD (f : Str) (v : Dv) : List (Str × Dv) → List (Str × Dv)
  | [] => [(f, v)]
  | (g, w) :: r => if g = f then (g, v) :: r else (g, w) :: putD f v r
theorem RepF.put {f : Str} {v : V} {d : Dv} (h : Rep M F θ v d) : ∀ {fs : List (Str × V)} {gs : List (Str × Dv)}, RepF M F θ fs gs → RepF M F θ (putF f v fs) (putD f d gs)
  | _, _, .nil => .cons h .nil
  | _, _, .cons (f := g) r t => by
    show RepF M F θ (if g = f then _ else _) (if g = f then _ else _)
    by_cases e : g = f
    · rw [if_pos e, if_pos e]; exact .cons h t
    · rw [if_neg e, if_neg e]; exact .cons r (RepF.put h t)
end

structure HA (M : Ev) (Φ F : Hp) (θ : List Addr) (S : Sto) (H : Hp) : Prop where
  sub : ∀ a o, F a = some o → H a = some o
  len : θ.length = S.length
  nd : θ.Nodup
  trk : ∀ a ∈ θ, H a ≠ none
  live : ∀ (k : Nat) (a : Addr) (ob : Ob), θ[k]? = some a → S[k]? = some ob → ob ≠ .gone → F a = none ∧ ∃ o, H a = some o ∧ RepO M F θ o ob
  fr : ∀ a o, Φ a = some o → H a = some o ∧ F a = none ∧ a ∉ θ
structure EA (M : Ev) (F : Hp) (θ : List Addr) (σ : L2.St) (ρ : En) : Prop where
  len : ρ.length = σ.length
  at_ : ∀ (i : Nat) (d : Dv), ρ[i]? = some (some d) → ∃ v, σ[i]? = some (some v) ∧ Rep M F θ v d
section
variable {M : Ev} {Φ : Hp} {F F' : Hp} {θ θ' : List Addr} {S : Sto} {H : Hp} {σ : L2.St} {ρ : En}
theorem EA.ext (e : Gr F F' θ θ') (h : EA M F θ σ ρ) : EA M F' θ' σ ρ := ⟨h.len, fun i d q => let ⟨v, a, b⟩ := h.at_ i d q; ⟨v, a, b.ext e⟩⟩
theorem EA.set {v : V} {d : Dv} (h : EA M F θ σ ρ) (i : Nat) (r : Rep M F θ v d) : EA M F θ (σ.set i (some v)) (ρ.set i (some d)) := by
  refine ⟨by rw [List.length_set, List.length_set]; exact h.len, fun j d' q => ?_⟩
  by_cases e : i = j
  · subst e
    have hlt : i < ρ.length := by
      have z := (List.getElem?_eq_some_iff.mp q).1
      rw [List.length_set] at z
      exact z
    rw [List.getElem?_set_self hlt] at q
    cases q
    exact ⟨v, by rw [List.getElem?_set_self (by rw [← h.len]; exact hlt)], r⟩
  · rw [List.getElem?_set_ne e] at q
    obtain ⟨u, a, b⟩ := h.at_ j d' q
    exact ⟨u, by rw [List.getElem?_set_ne e]; exact a, b⟩
/-- a new frozen object -/
theorem HA.alloc {p : Addr} (o : HO) (h : HA M Φ F θ S H) (hp : H p = none) : Gr F (upd F p o) θ θ ∧ HA M Φ (upd F p o) θ S (upd H p o) := by
  have hF : F p = none := by
    cases q : F p with
    | none => rfl
    | some u => rw [h.sub _ _ q] at hp; cases hp
  have e : Gr F (upd F p o) θ θ := ⟨fun a u q => by rw [upd_ne (ne_of_none q hF)]; exact q, fun _ _ q => q⟩
  have nt : ∀ a ∈ θ, a ≠ p := fun a ha z => h.trk a ha (z ▸ hp)
  refine ⟨e, ⟨fun a u q => ?_, h.len, h.nd, fun a ha => ?_, fun k a ob h1 h2 h3 => ?_, fun a u q => ?_⟩⟩
  · by_cases z : a = p
    · subst z; rw [upd_same] at q ⊢; exact q
    · rw [upd_ne z] at q ⊢; exact h.sub _ _ q
  · rw [upd_ne (nt a ha)]; exact h.trk a ha
  · have z := nt a (List.mem_of_getElem? h1)
    obtain ⟨h4, o', h5, h6⟩ := h.live k a ob h1 h2 h3
    exact ⟨by rw [upd_ne z]; exact h4, o', by rw [upd_ne z]; exact h5, h6.ext e⟩
  · obtain ⟨g1, g2, g3⟩ := h.fr a u q
    have z := ne_of_none g1 hp
    exact ⟨by rw [upd_ne z]; exact g1, by rw [upd_ne z]; exact g2, g3⟩
/-- heaps that differ beside -/
theorem HA.same {H' : Hp} (h : HA M Φ F θ S H) (k : ∀ a o, H a = some o → H' a = some o) : HA M Φ F θ S H' := by
  refine ⟨fun a o q => k _ _ (h.sub a o q), h.len, h.nd, fun a ha z => ?_, fun i a ob h1 h2 h3 => ?_, fun a o q => let ⟨g1, g2, g3⟩ := h.fr a o q; ⟨k _ _ g1, g2, g3⟩⟩
  · cases q : H a with
    | none => exact h.trk a ha q
    | some o => rw [k _ _ q] at z; cases z
  · obtain ⟨h4, o, h5, h6⟩ := h.live i a ob h1 h2 h3
    exact ⟨h4, o, k _ _ h5, h6⟩
/-- a new cell -/
theorem HA.newCell {p : Addr} {o : HO} {ob : Ob} (h : HA M Φ F θ S H) (hp : H p = none) (r : RepO M F θ o ob) : Gr F F θ (θ ++ [p]) ∧ HA M Φ F (θ ++ [p]) (S ++ [ob]) (upd H p o) := by
  have e : Gr F F θ (θ ++ [p]) := ⟨fun _ _ q => q, fun k a q => by
    have := (List.getElem?_eq_some_iff.mp q).1
    rw [List.getElem?_append_left this]; exact q⟩
  have hF : F p = none := by
    cases q : F p with
    | none => rfl
    | some u => rw [h.sub _ _ q] at hp; cases hp
  have nt : ∀ a ∈ θ, a ≠ p := fun a ha z => h.trk a ha (z ▸ hp)
  refine ⟨e, ⟨fun a u q => ?_, by simp [h.len], ?_, fun a ha => ?_, fun k a ob' h1 h2 h3 => ?_, fun a u q => ?_⟩⟩
  · rw [upd_ne (ne_of_none q hF)]; exact h.sub _ _ q
  · rw [List.nodup_append]
    refine ⟨h.nd, by simp, fun a ha b hb => ?_⟩
    have : b = p := by simpa using hb
    subst this
    exact nt a ha
  · rcases List.mem_append.mp ha with q | q
    · rw [upd_ne (nt a q)]; exact h.trk a q
    · have : a = p := by simpa using q
      subst this
      rw [upd_same]; exact fun z => nomatch z
  · by_cases hk : k < θ.length
    · rw [List.getElem?_append_left hk] at h1
      rw [List.getElem?_append_left (by rw [← h.len]; exact hk)] at h2
      have z := nt a (List.mem_of_getElem? h1)
      obtain ⟨h4, o', h5, h6⟩ := h.live k a ob' h1 h2 h3
      exact ⟨h4, o', by rw [upd_ne z]; exact h5, h6.ext e⟩
    · have hk2 : k = θ.length := by
        have := (List.getElem?_eq_some_iff.mp h1).1
        rw [List.length_append, List.length_singleton] at this
        omega
      subst hk2
      rw [List.getElem?_append_right (Nat.le_refl _), Nat.sub_self] at h1
      rw [h.len, List.getElem?_append_right (Nat.le_refl _), Nat.sub_self] at h2
      cases h1
      cases h2
      exact ⟨hF, o, upd_same, r.ext e⟩
  · obtain ⟨g1, g2, g3⟩ := h.fr a u q
    have z := ne_of_none g1 hp
    exact ⟨by rw [upd_ne z]; exact g1, g2, fun m => (List.mem_append.mp m).elim g3 fun m => z (by simpa using m)⟩
/-- a cell's content changes -/
theorem HA.setCell {k : Nat} {a : Addr} {o' : HO} {ob ob' : Ob} (h : HA M Φ F θ S H) (h1 : θ[k]? = some a) (h2 : S[k]? = some ob) (h3 : ob ≠ .gone) (r : RepO M F θ o' ob') : HA M Φ F θ (S.set k ob') (upd H a o') := by
  obtain ⟨h4, _, h5, h6⟩ := h.live k a ob h1 h2 h3
  refine ⟨fun b u q => ?_, by rw [List.length_set]; exact h.len, h.nd, fun b hb => ?_, fun j b ob2 q1 q2 q3 => ?_, fun b u q => ?_⟩
  · rw [upd_ne (ne_of_none q h4)]; exact h.sub _ _ q
  · by_cases z : b = a
    · subst z; rw [upd_same]; exact fun w => nomatch w
    · rw [upd_ne z]; exact h.trk b hb
  · by_cases e : k = j
    · subst e
      rw [h1] at q1; cases q1
      rw [List.getElem?_set_self (List.getElem?_eq_some_iff.mp h2).1] at q2
      cases q2
      exact ⟨h4, o', upd_same, r⟩
    · rw [List.getElem?_set_ne e] at q2
      have z : b ≠ a := fun w => by
        subst w
        have l1 := (List.getElem?_eq_some_iff.mp h1)
        have l2 := (List.getElem?_eq_some_iff.mp q1)
        exact e ((List.getElem_inj h.nd).mp (l1.2.trans l2.2.symm))
      obtain ⟨g4, o2, g5, g6⟩ := h.live j b ob2 q1 q2 q3
      exact ⟨g4, o2, by rw [upd_ne z]; exact g5, g6⟩
  · obtain ⟨g1, g2, g3⟩ := h.fr b u q
    have z : b ≠ a := fun w => g3 (w ▸ List.mem_of_getElem? h1)
    exact ⟨by rw [upd_ne z]; exact g1, g2, g3⟩
/-- a cell is frozen: from now on its content is data -/
theorem HA.freeze {k : Nat} {a : Addr} {ob : Ob} (h : HA M Φ F θ S H) (h1 : θ[k]? = some a) (h2 : S[k]? = some ob) (h3 : ob ≠ .gone) : ∃ o, H a = some o ∧ RepO M F θ o ob ∧ Gr F (upd F a o) θ θ ∧ HA M Φ (upd F a o) θ (S.set k .gone) H := by
  obtain ⟨h4, o, h5, h6⟩ := h.live k a ob h1 h2 h3
  have e : Gr F (upd F a o) θ θ := ⟨fun b u q => by rw [upd_ne (ne_of_none q h4)]; exact q, fun _ _ q => q⟩
  refine ⟨o, h5, h6, e, ⟨fun b u q => ?_, by rw [List.length_set]; exact h.len, h.nd, h.trk, fun j b ob2 q1 q2 q3 => ?_, fun b u q => ?_⟩⟩
  · by_cases z : b = a
    · subst z; rw [upd_same] at q; cases q; exact h5
    · rw [upd_ne z] at q; exact h.sub _ _ q
  · by_cases e' : k = j
    · subst e'
      rw [List.getElem?_set_self (List.getElem?_eq_some_iff.mp h2).1] at q2
      cases q2
      exact absurd rfl q3
    · rw [List.getElem?_set_ne e'] at q2
      have z : b ≠ a := fun w => by
        subst w
        have l1 := (List.getElem?_eq_some_iff.mp h1)
        have l2 := (List.getElem?_eq_some_iff.mp q1)
        exact e' ((List.getElem_inj h.nd).mp (l1.2.trans l2.2.symm))
      obtain ⟨g4, o2, g5, g6⟩ := h.live j b ob2 q1 q2 q3
      exact ⟨by rw [upd_ne z]; exact g4, o2, g5, g6.ext e⟩
  · obtain ⟨g1, g2, g3⟩ := h.fr b u q
    have z : b ≠ a := fun w => g3 (w ▸ List.mem_of_getElem? h1)
    exact ⟨g1, by rw [upd_ne z]; exact g2, g3⟩
end

/-! ### what is wanted of an outcome -/
section
variable {α β : Type}
def PostG (M : Ev) (Φ : Hp) (W : WX) (σ : L2.St) (F : Hp) (θ : List Addr) (R : Hp → List Addr → β → α → Prop) (r : Re α) (Q : β → Hp → Prop) : Prop :=
  match r with
  | .ok a S' => ∀ b F' θ' H', Gr F F' θ θ' → HA M Φ F' θ' S' H' → R F' θ' b a → Q b H'
  | .exc c d S' => ∀ dd v F' θ' H', Gr F F' θ θ' → HA M Φ F' θ' S' H' → F' dd = some (.xd [("value", v)]) → Rep M F' θ' v d → W (.ref (M.γ c)) (some dd) σ H'
  | .bad => False
theorem PostG.ext {M : Ev} {Φ : Hp} {W : WX} {σ : L2.St} {F F' : Hp} {θ θ' : List Addr} {R : Hp → List Addr → β → α → Prop} {r : Re α} {Q : β → Hp → Prop} (e : Gr F F' θ θ') (h : PostG M Φ W σ F θ R r Q) : PostG M Φ W σ F' θ' R r Q := by
  cases r with
  | ok a S' => exact fun b F2 θ2 H2 e2 h2 r2 => h b F2 θ2 H2 (e.trans e2) h2 r2
  | exc c d S' => exact fun dd v F2 θ2 H2 e2 h2 h3 r2 => h dd v F2 θ2 H2 (e.trans e2) h2 h3 r2
  | bad => exact h
theorem PostG.bind {γ' δ : Type} {M : Ev} {Φ : Hp} {W : WX} {σ : L2.St} {F : Hp} {θ : List Addr} {R0 : Hp → List Addr → β → α → Prop} {R : Hp → List Addr → δ → γ' → Prop} {r : Re α} {k : α → Sto → Re γ'} {Q : δ → Hp → Prop} (h : PostG M Φ W σ F θ R (r.bind k) Q) :
    PostG M Φ W σ F θ R0 r (fun b H' => ∃ F' θ' S' a, Gr F F' θ θ' ∧ HA M Φ F' θ' S' H' ∧ R0 F' θ' b a ∧ PostG M Φ W σ F' θ' R (k a S') Q) := by
  cases r with
  | ok a S' => exact fun b F2 θ2 H2 e2 h2 r2 => ⟨F2, θ2, S', a, e2, h2, r2, PostG.ext e2 h⟩
  | exc c d S' => exact h
  | bad => exact h
theorem PostG.seq {γ' δ : Type} {M : Ev} {Φ : Hp} {W : WX} {σ : L2.St} {F : Hp} {θ : List Addr} {R0 : Hp → List Addr → β → α → Prop} {R : Hp → List Addr → δ → γ' → Prop} {r : Re α} {k : α → Sto → Re γ'} {Q : δ → Hp → Prop} {Q' : β → Hp → Prop} (h : PostG M Φ W σ F θ R (r.bind k) Q)
    (hk : ∀ a S' b F' θ' H', r = .ok a S' → Gr F F' θ θ' → HA M Φ F' θ' S' H' → R0 F' θ' b a → PostG M Φ W σ F' θ' R (k a S') Q → Q' b H') : PostG M Φ W σ F θ R0 r Q' := by
  cases r with
  | ok a S' => exact fun b F2 θ2 H2 e2 h2 r2 => hk a S' b F2 θ2 H2 rfl e2 h2 r2 (PostG.ext e2 h)
  | exc c d S' => exact h
  | bad => exact h
/-- the plain way out -/
theorem PostG.ok {M : Ev} {Φ : Hp} {W : WX} {σ : L2.St} {F : Hp} {θ : List Addr} {R : Hp → List Addr → β → α → Prop} {a : α} {S : Sto} {Q : β → Hp → Prop} (h : PostG M Φ W σ F θ R (.ok a S) Q) {b : β} {H : Hp} (hh : HA M Φ F θ S H) (r : R F θ b a) : Q b H := h b F θ H .rfl hh r
end
def dG {α β : Type} (M : Ev) (W : WX) (R : Hp → List Addr → β → α → Prop) (f : En → Sto → Re α) : L2.St → Hp → (β → Hp → Prop) → Prop := fun σ H Q =>
  ∃ Φ ρ F θ S, EA M F θ σ ρ ∧ HA M Φ F θ S H ∧ PostG M Φ W σ F θ R (f ρ S) Q
abbrev Ex := En → Sto → Re Dv
abbrev Xs := En → Sto → Re (List Dv)
abbrev Tt := En → Sto → Re Bool
abbrev DE (γ : Nat → Addr) (X : Cx) (W : WX) (e : Expr) (f : Ex) : Prop := PE X e (dG ⟨X.K, γ⟩ W (Rep ⟨X.K, γ⟩) f)
abbrev DTt (γ : Nat → Addr) (X : Cx) (W : WX) (e : Expr) (f : Tt) : Prop := PT X e (dG ⟨X.K, γ⟩ W (fun _ _ b a => b = a) f)
abbrev DW (γ : Nat → Addr) (X : Cx) (W : WX) (e : Expr) (f : Tt) : Prop := PW X e (dG ⟨X.K, γ⟩ W (fun _ _ b a => b = a) f)
abbrev DAs (γ : Nat → Addr) (X : Cx) (W : WX) (es : List Expr) (f : Xs) : Prop := PA X es (dG ⟨X.K, γ⟩ W (Reps ⟨X.K, γ⟩) f)

theorem PE.weak {X : Cx} {e : Expr} {t u : TE} (h : PE X e t) (k : ∀ σ H Q, u σ H Q → t σ H Q) : PE X e u := ⟨fun pins s σ H Q I q => h.run pins s σ H Q I (k σ H Q q)⟩
theorem PT.weak {X : Cx} {e : Expr} {t u : TT} (h : PT X e t) (k : ∀ σ H Q, u σ H Q → t σ H Q) : PT X e u := ⟨fun pins s σ H Q I q => h.run pins s σ H Q I (k σ H Q q)⟩
theorem PW.weak {X : Cx} {e : Expr} {t u : TT} (h : PW X e t) (k : ∀ σ H Q, u σ H Q → t σ H Q) : PW X e u := ⟨fun wh pins s σ H Q I q => h.run wh pins s σ H Q I (k σ H Q q)⟩
theorem PA.weak {X : Cx} {es : List Expr} {t u : TA} (h : PA X es t) (k : ∀ σ H Q, u σ H Q → t σ H Q) : PA X es u := ⟨fun pos pins s σ H Q I q => h.run pos pins s σ H Q I (k σ H Q q)⟩
theorem PS.weak {X : Cx} {st : Stmt} {t u : TS} (h : PS X st t) (k : ∀ D σ H, u D σ H → t D σ H) : PS X st u := ⟨fun pins s σ H D I q => h.run pins s σ H D I (k D σ H q)⟩
theorem PSs.weak {X : Cx} {st : List Stmt} {t u : TS} (h : PSs X st t) (k : ∀ D σ H, u D σ H → t D σ H) : PSs X st u := ⟨fun pins s σ H D I q => h.run pins s σ H D I (k D σ H q)⟩

end DL
/-! The D layer, 2: expressions. -/
namespace DL
open PySem PySem.Spec PyProof.Rows L2

/-- what a body's context is known to be -/
structure Ctx (X : Cx) (W : WX) (N : List Str) (sc : Scope) (k : Nat) : Prop where
  hN : X.N = N
  hsc : X.env.scope = sc
  nd : N.Nodup
  calm : X.calm = true
  tk : Takes X W
  pw : PassesOwn (model X.prog X.w) X.A X.env X.xe
  gd : X.A.guards = some []
  hr : Room k X.A
/-- .. of a def's own body -/
structure CtxD (X : Cx) (W : WX) (N : List Str) (sc : Scope) (k : Nat) : Prop extends Ctx X W N sc k where
  fn : ∀ x, X.fn x = true
  st : X.stack = X.env :: X.outer
  fr : X.env.frame = some X.env.locals

section
variable {γ : Nat → Addr} {X : Cx} {W : WX} {N : List Str} {sc : Scope} {k : Nat} {pos : Pos}

/-! ### names, constants -/
def eV (i : Nat) : Ex := fun ρ S => match ρ[i]? with
  | some (some d) => .ok d S
  | _ => .bad
def eC (d : Dv) : Ex := fun _ S => .ok d S
theorem de_var (i : Nat) {x : Str} (c : Ctx X W N sc k) (hN : N[i]? = some x := by rfl) (hv : Vis sc x := by first | exact Or.inl rfl | exact Or.inr (Or.inl rfl) | exact Or.inr (Or.inr rfl))
    (hd : (x == ("__debug__" : Str)) = false := by decide) (hcd : (x == ("__classdict__" : Str)) = false := by decide) : DE γ X W (.Name x pos) (eV i) := by
  refine PE.weak (pe_var (i := i) (by rw [c.hN]; exact hN) (by rw [c.hsc]; exact hv) hd hcd) fun σ H Q ⟨Φ, ρ, F, θ, S, ea, ha, p⟩ => ?_
  unfold eV at p
  split at p
  · rename_i d e
    obtain ⟨v, hv, r⟩ := ea.at_ i d e
    exact ⟨v, hv, PostG.ok p ha r⟩
  · exact p.elim
theorem de_const {e : Expr} {v : V} {d : Dv} (h : PE X e (tC v)) (r : ∀ F θ, Rep ⟨X.K, γ⟩ F θ v d) : DE γ X W e (eC d) :=
  PE.weak h fun σ H Q ⟨Φ, ρ, F, θ, S, ea, ha, p⟩ => PostG.ok p ha (r F θ)
theorem de_int {i : Int} {j : Nat} : DE γ X W (.Constant (.int i) j pos) (eC (.int i)) := de_const pe_int fun _ _ => .int i
theorem de_bl {b : Bool} {j : Nat} : DE γ X W (.Constant (.bool b) j pos) (eC (.bl b)) := de_const pe_bl fun _ _ => .bl b
theorem de_non {j : Nat} : DE γ X W (.Constant .none j pos) (eC .non) := de_const pe_non fun _ _ => .non
theorem de_str {x : Str} {j : Nat} : DE γ X W (.Constant (.str x) j pos) (eC (.str x)) := de_const pe_str fun _ _ => .str x
theorem de_glob {x : Str} {v : V} {u : Value} {d : Dv} (hg : Gl X x) (hm : X.mg x = some u) (r : RelV v u) (rd : ∀ F θ, Rep ⟨X.K, γ⟩ F θ v d) (hd : (x == ("__debug__" : Str)) = false := by decide) : DE γ X W (.Name x pos) (eC d) :=
  de_const (pe_glob hg hm r hd) rd
theorem de_bltn {x : Str} {v : V} {u : Value} {d : Dv} (hg : Gl X x) (hm : X.mg x = none) (hv : bootBuiltins x = some u) (r : RelV v u) (rd : ∀ F θ, Rep ⟨X.K, γ⟩ F θ v d) (hn : x ≠ "__name__" := by decide) (hd : (x == ("__debug__" : Str)) = false := by decide) :
    DE γ X W (.Name x pos) (eC d) := de_const (pe_bltn hg hm hv r hn hd) rd

/-! ### operators by values -/
def e1 (g : Dv → Sto → Re Dv) (a : Ex) : Ex := fun ρ S => (a ρ S).bind fun x S1 => g x S1
def e2 (g : Dv → Dv → Sto → Re Dv) (a b : Ex) : Ex := fun ρ S => (a ρ S).bind fun x S1 => (b ρ S1).bind fun y S2 => g x y S2
/-- an operator of two values -/
def OpD (γ : Nat → Addr) (X : Cx) (W : WX) (f : Value → Value → Sem Value) (g : Dv → Dv → Sto → Re Dv) : Prop :=
  ∀ (pins : List (Addr × Obj)) (s : Shared) (σ : L2.St) (H : Hp) (x y : V) (v u : Value) (Q : VK) (Φ F : Hp) (θ : List Addr) (S : Sto) (d e : Dv), Inv X pins σ H s → RelV x v → RelV y u → Rep ⟨X.K, γ⟩ F θ x d → Rep ⟨X.K, γ⟩ F θ y e →
    HA ⟨X.K, γ⟩ Φ F θ S H → PostG ⟨X.K, γ⟩ Φ W σ F θ (Rep ⟨X.K, γ⟩) (g d e S) Q → wpAny (model X.prog X.w) X.A (f v u) (EP X pins σ Q) X.xe s
def UnD (γ : Nat → Addr) (X : Cx) (W : WX) (f : Value → Sem Value) (g : Dv → Sto → Re Dv) : Prop :=
  ∀ (pins : List (Addr × Obj)) (s : Shared) (σ : L2.St) (H : Hp) (x : V) (v : Value) (Q : VK) (Φ F : Hp) (θ : List Addr) (S : Sto) (d : Dv), Inv X pins σ H s → RelV x v → Rep ⟨X.K, γ⟩ F θ x d →
    HA ⟨X.K, γ⟩ Φ F θ S H → PostG ⟨X.K, γ⟩ Φ W σ F θ (Rep ⟨X.K, γ⟩) (g d S) Q → wpAny (model X.prog X.w) X.A (f v) (EP X pins σ Q) X.xe s
/-- by a rule of the hand layer -/
theorem OpD.of {f : Value → Value → Sem Value} {g : Dv → Dv → Sto → Re Dv} {r : R2} (h : OpR X f r)
    (k : ∀ Φ F θ S d e x y σ H Q, Rep ⟨X.K, γ⟩ F θ x d → Rep ⟨X.K, γ⟩ F θ y e → HA ⟨X.K, γ⟩ Φ F θ S H → PostG ⟨X.K, γ⟩ Φ W σ F θ (Rep ⟨X.K, γ⟩) (g d e S) Q → r x y H Q) : OpD γ X W f g :=
  fun pins s σ H x y v u Q Φ F θ S d e I rx ry rd re ha p => h pins s σ H x y v u Q I rx ry (k Φ F θ S d e x y σ H Q rd re ha p)
/-- two expressions, then what is made of their values -/
theorem de_bin {a b : Expr} {fa fb : Ex} {g : Dv → Dv → Sto → Re Dv} (ha : DE γ X W a fa) (hb : DE γ X W b fb) {pins : List (Addr × Obj)} {s : Shared} {σ : L2.St} {H : Hp} {Q : VK} (I : Inv X pins σ H s)
    (h : dG ⟨X.K, γ⟩ W (Rep ⟨X.K, γ⟩) (e2 g fa fb) σ H Q) {f : Value → Value → Sem Value} (hf : OpD γ X W f g) :
    wpAny (model X.prog X.w) X.A (eval a X.env) (fun v s₁ => wpAny (model X.prog X.w) X.A (eval b X.env) (fun u s₂ => wpAny (model X.prog X.w) X.A (f v u) (EP X pins σ Q) X.xe s₂) X.xe s₁) X.xe s := by
  obtain ⟨Φ, ρ, F, θ, S, ea, hh, p⟩ := h
  refine bin ha hb I (R := fun x y H2 => ∃ F θ S d e, Rep ⟨X.K, γ⟩ F θ x d ∧ Rep ⟨X.K, γ⟩ F θ y e ∧ HA ⟨X.K, γ⟩ Φ F θ S H2 ∧ PostG ⟨X.K, γ⟩ Φ W σ F θ (Rep ⟨X.K, γ⟩) (g d e S) Q) ?_ ?_
  · refine ⟨Φ, ρ, F, θ, S, ea, hh, PostG.seq p fun d S' x F' θ' H' _ e h' r p' => ?_⟩
    refine ⟨Φ, ρ, F', θ', S', ea.ext e, h', PostG.seq p' fun d2 S2 y F2 θ2 H2 _ e2 h2 r2 p2 => ?_⟩
    exact ⟨F2, θ2, S2, d, d2, r.ext e2, r2, h2, p2⟩
  · rintro v u s2 x y H2 I2 rx ry ⟨F2, θ2, S2, d, e, rd, re, h2, p2⟩
    exact hf pins s2 σ H2 x y v u Q Φ F2 θ2 S2 d e I2 rx ry rd re h2 p2
theorem de_op {op : Operator} {g : Dv → Dv → Sto → Re Dv} {a b : Expr} {fa fb : Ex} (ho : OpD γ X W (binaryOp op) g) (ha : DE γ X W a fa) (hb : DE γ X W b fb) : DE γ X W (.BinOp a op b pos) (e2 g fa fb) :=
  ⟨fun pins s σ H Q I h => wpAny_BinOp (de_bin ha hb I h ho)⟩
theorem de_cmp {op : CmpOp} {g : Dv → Dv → Sto → Re Dv} {a b : Expr} {fa fb : Ex} (ho : OpD γ X W (compareOp op) g) (ha : DE γ X W a fa) (hb : DE γ X W b fb) (hm : behindInMarks op b = false := by first | exact nobehind _ (by decide) (by decide) | rfl) :
    DE γ X W (.Compare a [op] [b] pos) (e2 g fa fb) := ⟨fun pins s σ H Q I h => wpAny_Compare1 (de_bin ha hb I h ho) hm⟩
theorem de_un {op : UnaryOp} {g : Dv → Sto → Re Dv} {a : Expr} {fa : Ex} (ho : UnD γ X W (unaryOp op) g) (ha : DE γ X W a fa) : DE γ X W (.UnaryOp op a pos) (e1 g fa) := by
  refine ⟨fun pins s σ H Q I ⟨Φ, ρ, F, θ, S, ea, hh, p⟩ => UnaryOp_ (thn (ha.run pins s σ H (fun x H' => ∃ F θ S d, Rep ⟨X.K, γ⟩ F θ x d ∧ HA ⟨X.K, γ⟩ Φ F θ S H' ∧ PostG ⟨X.K, γ⟩ Φ W σ F θ (Rep ⟨X.K, γ⟩) (g d S) Q) I ?_) ?_)⟩
  · exact ⟨Φ, ρ, F, θ, S, ea, hh, PostG.seq p fun d S' x F' θ' H' _ e h' r p' => ⟨F', θ', S', d, r, h', p'⟩⟩
  · rintro v s1 ⟨x, H1, I1, r1, F', θ', S', d, r, h', p'⟩
    exact ho pins s1 σ H1 x v Q Φ F' θ' S' d I1 r1 r h' p'

/-! ### tests -/
def tV (f : Ex) : Tt := fun ρ S => (f ρ S).bind fun d S' => match d with
  | .bl b => .ok b S'
  | _ => .bad
theorem rep_bl {M : Ev} {F : Hp} {θ : List Addr} {x : V} {b : Bool} (r : Rep M F θ x (.bl b)) : x = .bl b := by cases r; rfl
theorem rep_int {M : Ev} {F : Hp} {θ : List Addr} {x : V} {b : Int} (r : Rep M F θ x (.int b)) : x = .int b := by cases r; rfl
theorem rep_str {M : Ev} {F : Hp} {θ : List Addr} {x : V} {b : Str} (r : Rep M F θ x (.str b)) : x = .str b := by cases r; rfl
theorem rep_non {M : Ev} {F : Hp} {θ : List Addr} {x : V} (r : Rep M F θ x .non) : x = .non := by cases r; rfl
theorem tV_post {M : Ev} {Φ : Hp} {σ : L2.St} {F : Hp} {θ : List Addr} {r : Re Dv} {Q : Bool → Hp → Prop}
    (p : PostG M Φ W σ F θ (fun _ _ (b a : Bool) => b = a) (r.bind fun d S' => match d with | .bl b => Re.ok b S' | _ => Re.bad) Q) : PostG M Φ W σ F θ (Rep M) r (fun x H' => ∃ c, x = .bl c ∧ Q c H') := by
  refine PostG.seq p fun d S' x F' θ' H' _ e h' r p' => ?_
  cases d with
  | bl b => exact ⟨b, rep_bl r, PostG.ok p' h' rfl⟩
  | _ => exact p'.elim
theorem dt_val {e : Expr} {f : Ex} (h : DE γ X W e f) (he : ∀ whole, isTrue e X.env whole = (do let v ← whole; standAt e.pos; holding [v] (truthy v)) := by intro _; rfl) : DTt γ X W e (tV f) :=
  PT.weak (pt_val h he) fun σ H Q ⟨Φ, ρ, F, θ, S, ea, ha, p⟩ => ⟨Φ, ρ, F, θ, S, ea, ha, tV_post p⟩
theorem dt_cmp {op : CmpOp} {g : Dv → Dv → Sto → Re Dv} {a b : Expr} {fa fb : Ex} (ho : OpD γ X W (compareOp op) g) (ha : DE γ X W a fa) (hb : DE γ X W b fb) (hm : behindInMarks op b = false := by first | exact nobehind _ (by decide) (by decide) | rfl) :
    DTt γ X W (.Compare a [op] [b] pos) (tV (e2 g fa fb)) := by
  refine ⟨fun pins s σ H Q I ⟨Φ, ρ, F, θ, S, ea, hh, p⟩ => ?_⟩
  refine wpAny_isTrue_Compare1 (thn (de_bin ha hb I (Q := fun x H' => ∃ c, x = .bl c ∧ Q c H') ⟨Φ, ρ, F, θ, S, ea, hh, tV_post p⟩ ho) fun v s1 h1 => thn h1 fun u s2 h2 => thn h2 fun c s3 ⟨x, H1, I1, r1, q1⟩ => ?_) hm
  obtain ⟨d, rfl, q⟩ := q1
  cases r1
  exact wpAny_truthy_bool ⟨H1, I1, q⟩
def tAndD (a b : Tt) : Tt := fun ρ S => (a ρ S).bind fun c S' => if c = true then b ρ S' else .ok false S'
def tOrD (a b : Tt) : Tt := fun ρ S => (a ρ S).bind fun c S' => if c = true then .ok true S' else b ρ S'
def tNotD (a : Tt) : Tt := fun ρ S => (a ρ S).bind fun c S' => .ok (!c) S'
section
variable {a b : Expr} {rest : List Expr} {ta tb : Tt}
theorem dw_and1 (ha : DTt γ X W a ta) : DW γ X W (.BoolOp .And [a] pos) ta := pw_and1 ha
theorem dw_or1 (ha : DTt γ X W a ta) : DW γ X W (.BoolOp .Or [a] pos) ta := pw_or1 ha
theorem dw_and (ha : DTt γ X W a ta) (hb : DW γ X W (.BoolOp .And (b :: rest) pos) tb) : DW γ X W (.BoolOp .And (a :: b :: rest) pos) (tAndD ta tb) :=
  PW.weak (pw_and ha hb) fun σ H Q ⟨Φ, ρ, F, θ, S, ea, hh, p⟩ => ⟨Φ, ρ, F, θ, S, ea, hh, PostG.seq p fun c S' b F' θ' H' _ e h' r p' => by
    cases r
    cases c with
    | true => exact ⟨Φ, ρ, F', θ', S', ea.ext e, h', p'⟩
    | false => exact PostG.ok p' h' rfl⟩
theorem dw_or (ha : DTt γ X W a ta) (hb : DW γ X W (.BoolOp .Or (b :: rest) pos) tb) : DW γ X W (.BoolOp .Or (a :: b :: rest) pos) (tOrD ta tb) :=
  PW.weak (pw_or ha hb) fun σ H Q ⟨Φ, ρ, F, θ, S, ea, hh, p⟩ => ⟨Φ, ρ, F, θ, S, ea, hh, PostG.seq p fun c S' b F' θ' H' _ e h' r p' => by
    cases r
    cases c with
    | false => exact ⟨Φ, ρ, F', θ', S', ea.ext e, h', p'⟩
    | true => exact PostG.ok p' h' rfl⟩
theorem dw_t (h : DW γ X W a ta) : DTt γ X W a ta := PW.pt h
theorem dt_not (ha : DTt γ X W a ta) : DTt γ X W (.UnaryOp .Not a pos) (tNotD ta) :=
  PT.weak (pt_not ha) fun σ H Q ⟨Φ, ρ, F, θ, S, ea, hh, p⟩ => ⟨Φ, ρ, F, θ, S, ea, hh, PostG.seq p fun c S' b F' θ' H' _ e h' r p' => by
    cases r
    exact PostG.ok p' h' rfl⟩
end
/-- a test as a value -/
def eT (t : Tt) : Ex := fun ρ S => (t ρ S).bind fun c S' => .ok (.bl c) S'
def eIf (t : Tt) (a b : Ex) : Ex := fun ρ S => (t ρ S).bind fun c S' => if c = true then a ρ S' else b ρ S'
def eAnd (a b : Ex) : Ex := fun ρ S => (a ρ S).bind fun x S' => match x with
  | .bl true => b ρ S'
  | .bl false => .ok (.bl false) S'
  | _ => .bad
def eOr (a b : Ex) : Ex := fun ρ S => (a ρ S).bind fun x S' => match x with
  | .bl false => b ρ S'
  | .bl true => .ok (.bl true) S'
  | _ => .bad
def uNot : Dv → Sto → Re Dv
  | .bl b, S => .ok (.bl (!b)) S
  | _, _ => .bad
section
variable {a b : Expr} {rest : List Expr} {fa fb : Ex}
theorem de_if {t : Expr} {tt : Tt} (ht : DTt γ X W t tt) (ha : DE γ X W a fa) (hb : DE γ X W b fb) : DE γ X W (.IfExp t a b pos) (eIf tt fa fb) :=
  PE.weak (pe_ifExp ht ha hb) fun σ H Q ⟨Φ, ρ, F, θ, S, ea, hh, p⟩ => ⟨Φ, ρ, F, θ, S, ea, hh, PostG.seq p fun c S' b F' θ' H' _ e h' r p' => by
    cases r
    cases c with
    | true => exact ⟨Φ, ρ, F', θ', S', ea.ext e, h', p'⟩
    | false => exact ⟨Φ, ρ, F', θ', S', ea.ext e, h', p'⟩⟩
theorem de_one {op : BoolOp} (h : DE γ X W a fa) : DE γ X W (.BoolOp op [a] pos) fa := pe_one h
theorem de_and (ha : DE γ X W a fa) (hb : DE γ X W (.BoolOp .And (b :: rest) pos) fb) : DE γ X W (.BoolOp .And (a :: b :: rest) pos) (eAnd fa fb) :=
  PE.weak (pe_and ha hb) fun σ H Q ⟨Φ, ρ, F, θ, S, ea, hh, p⟩ => ⟨Φ, ρ, F, θ, S, ea, hh, PostG.seq p fun c S' x F' θ' H' _ e h' r p' => by
    cases c with
    | bl v =>
      refine ⟨v, rep_bl r, ?_⟩
      cases v with
      | true => exact ⟨Φ, ρ, F', θ', S', ea.ext e, h', p'⟩
      | false => exact PostG.ok p' h' (.bl _)
    | _ => exact p'.elim⟩
theorem de_or (ha : DE γ X W a fa) (hb : DE γ X W (.BoolOp .Or (b :: rest) pos) fb) : DE γ X W (.BoolOp .Or (a :: b :: rest) pos) (eOr fa fb) :=
  PE.weak (pe_or ha hb) fun σ H Q ⟨Φ, ρ, F, θ, S, ea, hh, p⟩ => ⟨Φ, ρ, F, θ, S, ea, hh, PostG.seq p fun c S' x F' θ' H' _ e h' r p' => by
    cases c with
    | bl v =>
      refine ⟨v, rep_bl r, ?_⟩
      cases v with
      | false => exact ⟨Φ, ρ, F', θ', S', ea.ext e, h', p'⟩
      | true => exact PostG.ok p' h' (.bl _)
    | _ => exact p'.elim⟩
theorem de_not (ha : DE γ X W a fa) : DE γ X W (.UnaryOp .Not a pos) (e1 uNot fa) :=
  PE.weak (pe_not ha) fun σ H Q ⟨Φ, ρ, F, θ, S, ea, hh, p⟩ => ⟨Φ, ρ, F, θ, S, ea, hh, PostG.seq p fun c S' x F' θ' H' _ e h' r p' => by
    cases c with
    | bl v => exact ⟨v, rep_bl r, PostG.ok p' h' (.bl _)⟩
    | _ => exact p'.elim⟩
end

/-! ### argument lists, displays -/
def aNil : Xs := fun _ S => .ok [] S
def aCons (a : Ex) (r : Xs) : Xs := fun ρ S => (a ρ S).bind fun x S1 => (r ρ S1).bind fun xs S2 => .ok (x :: xs) S2
theorem da_nil : DAs γ X W [] aNil := PA.weak pa_nil fun σ H Q ⟨Φ, ρ, F, θ, S, ea, hh, p⟩ => PostG.ok p hh .nil
theorem da_cons {e : Expr} {es : List Expr} {fa : Ex} {fr : Xs} (ha : DE γ X W e fa) (hr : DAs γ X W es fr) (hs : starEach (e :: es) X.env = (false, eval e X.env) :: starEach es X.env := by rfl) : DAs γ X W (e :: es) (aCons fa fr) :=
  PA.weak (pa_cons ha hr hs) fun σ H Q ⟨Φ, ρ, F, θ, S, ea, hh, p⟩ => ⟨Φ, ρ, F, θ, S, ea, hh, PostG.seq p fun d S' x F' θ' H' _ e h' r p' =>
    ⟨Φ, ρ, F', θ', S', ea.ext e, h', PostG.seq p' fun ds S2 xs F2 θ2 H2 _ e2 h2 r2 p2 => PostG.ok p2 h2 (.cons (r.ext e2) r2)⟩⟩
/-- a new tuple, a new frozen list, a new list in a cell -/
def mkT (ds : List Dv) (S : Sto) : Re Dv := if ds.length ≤ sizeLine then .ok (.tup ds) S else .bad
def mkL (ds : List Dv) (S : Sto) : Re Dv := if ds.length ≤ sizeLine then .ok (.lst ds) S else .bad
def mkC (ds : List Dv) (S : Sto) : Re Dv := if ds.length ≤ sizeLine then .ok (.cell S.length) (S ++ [.lst ds]) else .bad
def eN (g : List Dv → Sto → Re Dv) (a : Xs) : Ex := fun ρ S => (a ρ S).bind fun xs S1 => g xs S1
theorem post_if {α β : Type} {M : Ev} {Φ : Hp} {σ : L2.St} {F : Hp} {θ : List Addr} {R : Hp → List Addr → β → α → Prop} {c : Prop} [Decidable c] {r : Re α} {Q : β → Hp → Prop} (p : PostG M Φ W σ F θ R (if c then r else .bad) Q) : c ∧ PostG M Φ W σ F θ R r Q := by
  by_cases h : c
  · rw [if_pos h] at p; exact ⟨h, p⟩
  · rw [if_neg h] at p; exact p.elim
section
variable {M : Ev} {Φ : Hp} {σ : L2.St} {F : Hp} {θ : List Addr} {S : Sto} {H : Hp} {Q : VK} {xs : List V} {ds : List Dv}
theorem newT (hh : HA M Φ F θ S H) (r : Reps M F θ xs ds) (p : PostG M Φ W σ F θ (Rep M) (mkT ds S) Q) : xs.length ≤ sizeLine ∧ ∀ a, H a = none → Q (.ref a) (upd H a (.tup xs)) := by
  obtain ⟨h, p⟩ := post_if p
  refine ⟨by rw [r.length]; exact h, fun a ha => ?_⟩
  obtain ⟨e, h'⟩ := hh.alloc (.tup xs) ha
  exact p _ _ _ _ e h' (.tup (.inl (.inl upd_same)) (r.ext e))
theorem newL (hh : HA M Φ F θ S H) (r : Reps M F θ xs ds) (p : PostG M Φ W σ F θ (Rep M) (mkL ds S) Q) : xs.length ≤ sizeLine ∧ ∀ a, H a = none → Q (.ref a) (upd H a (.lst xs)) := by
  obtain ⟨h, p⟩ := post_if p
  refine ⟨by rw [r.length]; exact h, fun a ha => ?_⟩
  obtain ⟨e, h'⟩ := hh.alloc (.lst xs) ha
  exact p _ _ _ _ e h' (.lst upd_same (r.ext e))
theorem newC (hh : HA M Φ F θ S H) (r : Reps M F θ xs ds) (p : PostG M Φ W σ F θ (Rep M) (mkC ds S) Q) : xs.length ≤ sizeLine ∧ ∀ a, H a = none → Q (.ref a) (upd H a (.lst xs)) := by
  obtain ⟨h, p⟩ := post_if p
  refine ⟨by rw [r.length]; exact h, fun a ha => ?_⟩
  obtain ⟨e, h'⟩ := hh.newCell (o := .lst xs) (ob := .lst ds) ha r
  refine p _ _ _ _ e h' (.cell ?_)
  rw [← hh.len, List.getElem?_append_right (Nat.le_refl _), Nat.sub_self]
  rfl
end
theorem de_tup {es : List Expr} {fa : Xs} {k1 : Nat} (h : DAs γ X W es fa) : DE γ X W (.Tuple es k1 pos) (eN mkT fa) :=
  PE.weak (pe_tup h) fun σ H Q ⟨Φ, ρ, F, θ, S, ea, hh, p⟩ => ⟨Φ, ρ, F, θ, S, ea, hh, PostG.seq p fun ds S' xs F' θ' H' _ e h' r p' => newT h' r p'⟩
theorem de_lst {es : List Expr} {fa : Xs} (h : DAs γ X W es fa) : DE γ X W (.List es pos) (eN mkL fa) :=
  PE.weak (pe_lst h) fun σ H Q ⟨Φ, ρ, F, θ, S, ea, hh, p⟩ => ⟨Φ, ρ, F, θ, S, ea, hh, PostG.seq p fun ds S' xs F' θ' H' _ e h' r p' => newL h' r p'⟩
theorem de_cell {es : List Expr} {fa : Xs} (h : DAs γ X W es fa) : DE γ X W (.List es pos) (eN mkC fa) :=
  PE.weak (pe_lst h) fun σ H Q ⟨Φ, ρ, F, θ, S, ea, hh, p⟩ => ⟨Φ, ρ, F, θ, S, ea, hh, PostG.seq p fun ds S' xs F' θ' H' _ e h' r p' => newC h' r p'⟩
end
end DL
/-! The D layer, 3: statements, loops, defs, calls. -/
namespace DL
open PySem PySem.Spec PyProof.Rows L2

inductive SRe where
  | nx (ρ : En) (S : Sto) | ret (d : Dv) (S : Sto) | brk (ρ : En) (S : Sto) | ct (ρ : En) (S : Sto) | exc (c : Nat) (d : Dv) (ρ : En) (S : Sto) | bad
abbrev Sm := En → Sto → SRe
def Re.toS {α : Type} (r : Re α) (ρ : En) (k : α → Sto → SRe) : SRe := match r with
  | .ok a S => k a S
  | .exc c d S => .exc c d ρ S
  | .bad => .bad
@[simp] theorem Re.toS_ok {α : Type} (a : α) (S : Sto) (ρ : En) (k : α → Sto → SRe) : (Re.ok a S).toS ρ k = k a S := rfl
@[simp] theorem Re.toS_exc {α : Type} (c : Nat) (d : Dv) (S : Sto) (ρ : En) (k : α → Sto → SRe) : (Re.exc c d S : Re α).toS ρ k = .exc c d ρ S := rfl
@[simp] theorem Re.toS_bad {α : Type} (ρ : En) (k : α → Sto → SRe) : (Re.bad : Re α).toS ρ k = .bad := rfl
def PostS (M : Ev) (Φ : Hp) (W : WX) (F : Hp) (θ : List Addr) (r : SRe) (D : Ends) : Prop :=
  match r with
  | .nx ρ S => ∀ σ F' θ' H, Gr F F' θ θ' → EA M F' θ' σ ρ → HA M Φ F' θ' S H → D.nx σ H
  | .ret d S => ∀ v F' θ' H, Gr F F' θ θ' → HA M Φ F' θ' S H → Rep M F' θ' v d → D.rt v H
  | .brk ρ S => ∀ σ F' θ' H, Gr F F' θ θ' → EA M F' θ' σ ρ → HA M Φ F' θ' S H → D.bk σ H
  | .ct ρ S => ∀ σ F' θ' H, Gr F F' θ θ' → EA M F' θ' σ ρ → HA M Φ F' θ' S H → D.ct σ H
  | .exc c d ρ S => ∀ dd v σ F' θ' H, Gr F F' θ θ' → EA M F' θ' σ ρ → HA M Φ F' θ' S H → F' dd = some (.xd [("value", v)]) → Rep M F' θ' v d → W (.ref (M.γ c)) (some dd) σ H
  | .bad => False
section
variable {M : Ev} {Φ : Hp} {W : WX} {F F' : Hp} {θ θ' : List Addr} {D : Ends}
theorem PostS.ext {r : SRe} (e : Gr F F' θ θ') (h : PostS M Φ W F θ r D) : PostS M Φ W F' θ' r D := by
  cases r with
  | nx ρ S => exact fun σ F2 θ2 H g a b => h σ F2 θ2 H (e.trans g) a b
  | ret d S => exact fun v F2 θ2 H g a b => h v F2 θ2 H (e.trans g) a b
  | brk ρ S => exact fun σ F2 θ2 H g a b => h σ F2 θ2 H (e.trans g) a b
  | ct ρ S => exact fun σ F2 θ2 H g a b => h σ F2 θ2 H (e.trans g) a b
  | exc c d ρ S => exact fun dd v σ F2 θ2 H g a b c d => h dd v σ F2 θ2 H (e.trans g) a b c d
  | bad => exact h
/-- an expression's outcome within a statement -/
theorem PostS.seq {α β : Type} {σ : L2.St} {ρ : En} {R0 : Hp → List Addr → β → α → Prop} {r : Re α} {k : α → Sto → SRe} {Q' : β → Hp → Prop} (ea : EA M F θ σ ρ) (h : PostS M Φ W F θ (r.toS ρ k) D)
    (hk : ∀ a S' b F' θ' H', r = .ok a S' → Gr F F' θ θ' → HA M Φ F' θ' S' H' → R0 F' θ' b a → PostS M Φ W F' θ' (k a S') D → Q' b H') : PostG M Φ W σ F θ R0 r Q' := by
  cases r with
  | ok a S' => exact fun b F2 θ2 H2 e2 h2 r2 => hk a S' b F2 θ2 H2 rfl e2 h2 r2 (PostS.ext e2 h)
  | exc c d S' => exact fun dd v F2 θ2 H2 e2 h2 h3 r2 => h dd v σ F2 θ2 H2 e2 (ea.ext e2) h2 h3 r2
  | bad => exact h
/-- other ends for going on -/
theorem PostS.nx' {r : SRe} {D' : Ends} (h : PostS M Φ W F θ r D) (h1 : ∀ σ F' θ' H ρ S, r = .nx ρ S → Gr F F' θ θ' → EA M F' θ' σ ρ → HA M Φ F' θ' S H → D.nx σ H → D'.nx σ H) (h2 : ∀ v H, D.rt v H → D'.rt v H) (h3 : ∀ σ H, D.bk σ H → D'.bk σ H) (h4 : ∀ σ H, D.ct σ H → D'.ct σ H) : PostS M Φ W F θ r D' := by
  cases r with
  | nx ρ S => exact fun σ F2 θ2 H g a b => h1 σ F2 θ2 H ρ S rfl g a b (h σ F2 θ2 H g a b)
  | ret d S => exact fun v F2 θ2 H g a b => h2 _ _ (h v F2 θ2 H g a b)
  | brk ρ S => exact fun σ F2 θ2 H g a b => h3 _ _ (h σ F2 θ2 H g a b)
  | ct ρ S => exact fun σ F2 θ2 H g a b => h4 _ _ (h σ F2 θ2 H g a b)
  | exc c d ρ S => exact fun dd v σ F2 θ2 H g a b c d => h dd v σ F2 θ2 H g a b c d
  | bad => exact h
end
def dS (M : Ev) (W : WX) (f : Sm) : TS := fun D σ H => ∃ Φ ρ F θ S, EA M F θ σ ρ ∧ HA M Φ F θ S H ∧ PostS M Φ W F θ (f ρ S) D
abbrev DS (γ : Nat → Addr) (X : Cx) (W : WX) (st : Stmt) (f : Sm) : Prop := PS X st (dS ⟨X.K, γ⟩ W f)
abbrev DSs (γ : Nat → Addr) (X : Cx) (W : WX) (st : List Stmt) (f : Sm) : Prop := PSs X st (dS ⟨X.K, γ⟩ W f)

section
variable {γ : Nat → Addr} {X : Cx} {W : WX} {N : List Str} {sc : Scope} {k : Nat} {pos : Pos}
/-! ### blocks and small statements -/
def sNil : Sm := fun ρ S => .nx ρ S
def SRe.seq (r : SRe) (g : Sm) : SRe := match r with
  | .nx ρ S => g ρ S
  | r => r
@[simp] theorem SRe.seq_nx (ρ : En) (S : Sto) (g : Sm) : (SRe.nx ρ S).seq g = g ρ S := rfl
@[simp] theorem SRe.seq_ret (d : Dv) (S : Sto) (g : Sm) : (SRe.ret d S).seq g = .ret d S := rfl
@[simp] theorem SRe.seq_brk (ρ : En) (S : Sto) (g : Sm) : (SRe.brk ρ S).seq g = .brk ρ S := rfl
@[simp] theorem SRe.seq_ct (ρ : En) (S : Sto) (g : Sm) : (SRe.ct ρ S).seq g = .ct ρ S := rfl
@[simp] theorem SRe.seq_exc (c : Nat) (d : Dv) (ρ : En) (S : Sto) (g : Sm) : (SRe.exc c d ρ S).seq g = .exc c d ρ S := rfl
@[simp] theorem SRe.seq_bad (g : Sm) : SRe.bad.seq g = .bad := rfl
def sSeq (f g : Sm) : Sm := fun ρ S => (f ρ S).seq g
theorem dss_nil : DSs γ X W [] sNil := PSs.weak pss_nil fun D σ H ⟨Φ, ρ, F, θ, S, ea, hh, p⟩ => p σ F θ H .rfl ea hh
theorem dss_cons {st : Stmt} {rest : List Stmt} {f g : Sm} (h1 : DS γ X W st f) (h2 : DSs γ X W rest g) : DSs γ X W (st :: rest) (sSeq f g) :=
  PSs.weak (pss_cons h1 h2) fun D σ H ⟨Φ, ρ, F, θ, S, ea, hh, p⟩ => ⟨Φ, ρ, F, θ, S, ea, hh, by
    unfold sSeq at p
    revert p
    cases f ρ S with
    | nx ρ' S' => exact fun p σ' F' θ' H' e a b => ⟨Φ, ρ', F', θ', S', a, b, PostS.ext e p⟩
    | ret d S' => exact fun p => p
    | brk ρ' S' => exact fun p => p
    | ct ρ' S' => exact fun p => p
    | exc c d ρ' S' => exact fun p => p
    | bad => exact fun p => p⟩
theorem dss_one {st : Stmt} {f : Sm} (h1 : DS γ X W st f) : DSs γ X W [st] f := pss_one h1
def sBrk : Sm := fun ρ S => .brk ρ S
def sCt : Sm := fun ρ S => .ct ρ S
theorem ds_pass : DS γ X W (.Pass pos) sNil := PS.weak ps_pass fun D σ H ⟨Φ, ρ, F, θ, S, ea, hh, p⟩ => p σ F θ H .rfl ea hh
theorem ds_break : DS γ X W (.Break pos) sBrk := PS.weak ps_break fun D σ H ⟨Φ, ρ, F, θ, S, ea, hh, p⟩ => p σ F θ H .rfl ea hh
theorem ds_continue : DS γ X W (.Continue pos) sCt := PS.weak ps_continue fun D σ H ⟨Φ, ρ, F, θ, S, ea, hh, p⟩ => p σ F θ H .rfl ea hh
def sExpr (f : Ex) : Sm := fun ρ S => (f ρ S).toS ρ fun _ S' => .nx ρ S'
def sRet (f : Ex) : Sm := fun ρ S => (f ρ S).toS ρ fun d S' => .ret d S'
def sSet (i : Nat) (f : Ex) : Sm := fun ρ S => (f ρ S).toS ρ fun d S' => .nx (ρ.set i (some d)) S'
def sIf (t : Tt) (a b : Sm) : Sm := fun ρ S => (t ρ S).toS ρ fun c S' => if c = true then a ρ S' else b ρ S'
theorem ds_expr {e : Expr} {f : Ex} (h : DE γ X W e f) (hs : swapsWith e none pos.line X.env = pure false := by rfl) : DS γ X W (.Expr e pos) (sExpr f) :=
  PS.weak (ps_expr h hs) fun D σ H ⟨Φ, ρ, F, θ, S, ea, hh, p⟩ => ⟨Φ, ρ, F, θ, S, ea, hh, PostS.seq ea p fun d S' v F' θ' H' _ e h' r p' => p' σ F' θ' H' .rfl (ea.ext e) h'⟩
theorem ds_ret {e : Expr} {f : Ex} (h : DE γ X W e f) : DS γ X W (.Return (some e) pos) (sRet f) :=
  PS.weak (ps_ret h) fun D σ H ⟨Φ, ρ, F, θ, S, ea, hh, p⟩ => ⟨Φ, ρ, F, θ, S, ea, hh, PostS.seq ea p fun d S' v F' θ' H' _ e h' r p' => p' v F' θ' H' .rfl h' r⟩
theorem ds_retN : DS γ X W (.Return none pos) (sRet (eC .non)) :=
  PS.weak ps_retN fun D σ H ⟨Φ, ρ, F, θ, S, ea, hh, p⟩ => p .non F θ H .rfl hh .non
theorem ds_if {t : Expr} {tt : Tt} {a b : List Stmt} {fa fb : Sm} (ht : DTt γ X W t tt) (ha : DSs γ X W a fa) (hb : DSs γ X W b fb) : DS γ X W (.If t a b pos) (sIf tt fa fb) :=
  PS.weak (ps_if ht ha hb) fun D σ H ⟨Φ, ρ, F, θ, S, ea, hh, p⟩ => ⟨Φ, ρ, F, θ, S, ea, hh, PostS.seq ea p fun c S' v F' θ' H' _ e h' r p' => by
    cases r
    cases c with
    | true => exact ⟨Φ, ρ, F', θ', S', ea.ext e, h', p'⟩
    | false => exact ⟨Φ, ρ, F', θ', S', ea.ext e, h', p'⟩⟩
theorem ds_set (i : Nat) {x : Str} {e : Expr} {f : Ex} {pos' : Pos} (c : CtxD X W N sc k) (h : DE γ X W e f) (hi : N[i]? = some x := by rfl) (hx : Loc sc x := by first | exact Or.inl rfl | exact Or.inr rfl) (hs : swapsWith e (some (.Name x pos')) pos.line X.env = pure false := by rfl) :
    DS γ X W (.Assign [.Name x pos'] e pos) (sSet i f) :=
  PS.weak (ps_set (i := i) (by rw [c.hN]; exact c.nd) (by rw [c.hN]; exact hi) (by rw [c.hsc]; exact hx) h hs (.inl (c.fn x))) fun D σ H ⟨Φ, ρ, F, θ, S, ea, hh, p⟩ => ⟨Φ, ρ, F, θ, S, ea, hh, PostS.seq ea p fun d S' v F' θ' H' _ e h' r p' =>
    p' _ F' θ' H' .rfl ((ea.ext e).set i r) h'⟩

/-! ### targets -/
abbrev Gt := Dv → En → Sto → Option (En × Sto)
abbrev Gts := List Dv → En → Sto → Option (En × Sto)
def PostT (M : Ev) (Φ F : Hp) (θ : List Addr) (r : Option (En × Sto)) (Q : L2.St → Hp → Prop) : Prop := match r with
  | some (ρ, S) => ∀ σ F' θ' H, Gr F F' θ θ' → EA M F' θ' σ ρ → HA M Φ F' θ' S H → Q σ H
  | none => False
theorem PostT.ext {M : Ev} {Φ : Hp} {F F' : Hp} {θ θ' : List Addr} {r : Option (En × Sto)} {Q : L2.St → Hp → Prop} (e : Gr F F' θ θ') (h : PostT M Φ F θ r Q) : PostT M Φ F' θ' r Q := by
  cases r with
  | some x => exact fun σ F2 θ2 H g a b => h σ F2 θ2 H (e.trans g) a b
  | none => exact h
def dGt (M : Ev) (g : Gt) : TG := fun v σ H Q => ∃ Φ ρ F θ S d, EA M F θ σ ρ ∧ HA M Φ F θ S H ∧ Rep M F θ v d ∧ PostT M Φ F θ (g d ρ S) Q
def dGts (M : Ev) (g : Gts) : TGs := fun vs σ H Q => ∃ Φ ρ F θ S ds, EA M F θ σ ρ ∧ HA M Φ F θ S H ∧ Reps M F θ vs ds ∧ PostT M Φ F θ (g ds ρ S) Q
abbrev DG (γ : Nat → Addr) (X : Cx) (tg : Expr) (g : Gt) : Prop := PG X tg (dGt ⟨X.K, γ⟩ g)
abbrev DGs (γ : Nat → Addr) (X : Cx) (tgs : List Expr) (g : Gts) : Prop := PGs X tgs (dGts ⟨X.K, γ⟩ g)
theorem PG.weak {tg : Expr} {t u : TG} (h : PG X tg t) (k : ∀ v σ H Q, u v σ H Q → t v σ H Q) : PG X tg u := ⟨fun pins s σ H v x Q I r q => h.run pins s σ H v x Q I r (k v σ H Q q)⟩
theorem PGs.weak {tg : List Expr} {t u : TGs} (h : PGs X tg t) (k : ∀ v σ H Q, u v σ H Q → t v σ H Q) : PGs X tg u := ⟨fun pins s σ H v x Q I r q => h.run pins s σ H v x Q I r (k v σ H Q q)⟩
def gN (i : Nat) : Gt := fun d ρ S => some (ρ.set i (some d), S)
def gTp (n : Nat) (g : Gts) : Gt := fun d ρ S => match d with
  | .tup l => if l.length = n then g l ρ S else none
  | _ => none
def gsNil : Gts := fun l ρ S => match l with
  | [] => some (ρ, S)
  | _ => none
def gsCons (g : Gt) (r : Gts) : Gts := fun l ρ S => match l with
  | d :: l => match g d ρ S with
    | some (ρ', S') => r l ρ' S'
    | none => none
  | [] => none
theorem dg_name (i : Nat) {x : Str} (c : CtxD X W N sc k) (hi : N[i]? = some x := by rfl) (hx : Loc sc x := by first | exact Or.inl rfl | exact Or.inr rfl) : DG γ X (.Name x pos) (gN i) :=
  PG.weak (pg_name (i := i) (by rw [c.hN]; exact c.nd) (by rw [c.hN]; exact hi) (by rw [c.hsc]; exact hx) (.inl (c.fn x))) fun v σ H Q ⟨Φ, ρ, F, θ, S, d, ea, hh, r, p⟩ => p _ F θ H .rfl (ea.set i r) hh
theorem dgs_nil : DGs γ X [] gsNil := PGs.weak pgs_nil fun vs σ H Q ⟨Φ, ρ, F, θ, S, ds, ea, hh, r, p⟩ => by
  cases r with
  | nil => exact ⟨rfl, p _ F θ H .rfl ea hh⟩
  | cons _ _ => exact p.elim
theorem dgs_cons {e : Expr} {es : List Expr} {g : Gt} {gs : Gts} (h1 : DG γ X e g) (h2 : DGs γ X es gs) (hs : (assignEach (e :: es) X.env).map (·.2) = assign e X.env :: (assignEach es X.env).map (·.2) := by rfl) : DGs γ X (e :: es) (gsCons g gs) :=
  PGs.weak (pgs_cons h1 h2 hs) fun vs σ H Q ⟨Φ, ρ, F, θ, S, ds, ea, hh, r, p⟩ => by
    cases r with
    | nil => exact p.elim
    | @cons v d vs ds r1 r2 =>
      refine ⟨_, _, rfl, Φ, ρ, F, θ, S, _, ea, hh, r1, ?_⟩
      have p : PostT _ Φ F θ (match g d ρ S with | some (ρ', S') => gs ds ρ' S' | none => none) _ := p
      revert p
      cases g d ρ S with
      | some x => exact fun p σ' F' θ' H' e a b => ⟨Φ, x.1, F', θ', x.2, ds, a, b, r2.ext e, PostT.ext e p⟩
      | none => exact fun p => p
theorem dg_tup (n : Nat) {es : List Expr} {k1 : Nat} {g : Gts} (c : CtxD X W N sc k) (h : DGs γ X es g) (hn : (assignEach es X.env).length = n := by rfl) (hst : (assignEach es X.env).findIdx? (·.1) = none := by rfl) : DG γ X (.Tuple es k1 pos) (gTp n g) :=
  PG.weak (pg_tup c.calm h hn hst) fun v σ H Q ⟨Φ, ρ, F, θ, S, d, ea, hh, r, p⟩ => by
    cases r with
    | @tup a xs ds h1 h2 =>
      have p : PostT _ Φ F θ (if ds.length = n then g ds ρ S else none) Q := p
      by_cases hl : ds.length = n
      · rw [if_pos hl] at p
        exact ⟨_, _, rfl, (show Gr F H θ θ from ⟨hh.sub, fun _ _ q => q⟩).sqT h1, by rw [h2.length]; exact hl, Φ, ρ, F, θ, S, _, ea, hh, h2, p⟩
      · rw [if_neg hl] at p; exact p.elim
    | _ => exact p.elim
theorem postS_if {M : Ev} {Φ : Hp} {F : Hp} {θ : List Addr} {c : Prop} [Decidable c] {r : SRe} {D : Ends} (p : PostS M Φ W F θ (if c then r else .bad) D) : c ∧ PostS M Φ W F θ r D := by
  by_cases h : c
  · rw [if_pos h] at p; exact ⟨h, p⟩
  · rw [if_neg h] at p; exact p.elim
def optS : Option (En × Sto) → Sm → SRe
  | some (ρ, S), k => k ρ S
  | none, _ => .bad
@[simp] theorem optS_some (ρ : En) (S : Sto) (k : Sm) : optS (some (ρ, S)) k = k ρ S := rfl
@[simp] theorem optS_none (k : Sm) : optS none k = .bad := rfl
theorem PostS.opt {M : Ev} {Φ : Hp} {F : Hp} {θ : List Addr} {r : Option (En × Sto)} {f : Sm} {D : Ends} {Q : L2.St → Hp → Prop} (p : PostS M Φ W F θ (optS r f) D) (hk : ∀ ρ S σ F' θ' H, r = some (ρ, S) → Gr F F' θ θ' → EA M F' θ' σ ρ → HA M Φ F' θ' S H → PostS M Φ W F' θ' (f ρ S) D → Q σ H) : PostT M Φ F θ r Q := by
  cases r with
  | some x => exact fun σ F2 θ2 H g a b => hk x.1 x.2 σ F2 θ2 H rfl g a b (PostS.ext g p)
  | none => exact p
def sAsg (f : Ex) (g : Gt) : Sm := fun ρ S => (f ρ S).toS ρ fun d S' => optS (g d ρ S') fun ρ' S2 => .nx ρ' S2
theorem ds_asg {tg e : Expr} {f : Ex} {g : Gt} (h : DE γ X W e f) (hg : DG γ X tg g) (hs : swapsWithSole [tg] e pos.line X.env = pure false := by rfl) (hw : swappedStores [tg] e X.env = pure none := by rfl)
    (h1 : (assignEach [tg] X.env).map (·.2) = [assign tg X.env] := by rfl) : DS γ X W (.Assign [tg] e pos) (sAsg f g) :=
  PS.weak (ps_asg h hg hs hw h1) fun D σ H ⟨Φ, ρ, F, θ, S, ea, hh, p⟩ => ⟨Φ, ρ, F, θ, S, ea, hh, PostS.seq ea p fun d S' v F' θ' H' _ e h' r p' =>
    ⟨Φ, ρ, F', θ', S', d, ea.ext e, h', r, PostS.opt p' fun ρ2 S2 σ2 F2 θ2 H2 _ e2 a b p2 => p2 σ2 F2 θ2 H2 .rfl a b⟩⟩
/-- a, b = x, y of plain local names -/
def sPar (i j : Nat) (f : Xs) : Sm := fun ρ S => (f ρ S).toS ρ fun l S' => match l with
  | [d, e] => .nx ((ρ.set i (some d)).set j (some e)) S'
  | _ => .bad
theorem reps2 {M : Ev} {F : Hp} {θ : List Addr} {vs : List V} {d e : Dv} (r : Reps M F θ vs [d, e]) : ∃ v w, vs = [v, w] ∧ Rep M F θ v d ∧ Rep M F θ w e := by
  cases r with
  | cons r1 r2 =>
    cases r2 with
    | cons r2 r3 =>
      cases r3
      exact ⟨_, _, rfl, r1, r2⟩
theorem reps1 {M : Ev} {F : Hp} {θ : List Addr} {vs : List V} {d : Dv} (r : Reps M F θ vs [d]) : ∃ v, vs = [v] ∧ Rep M F θ v d := by
  cases r with
  | cons r1 r2 =>
    cases r2
    exact ⟨_, rfl, r1⟩
theorem ds_par (i j : Nat) {x y : Str} {a b : Expr} {f : Xs} {px py pt : Pos} {kt k2 : Nat} {pt2 : Pos} (c : CtxD X W N sc k) (h : DAs γ X W [a, b] f) (hi : N[i]? = some x := by rfl) (hj : N[j]? = some y := by rfl) (hij : i ≠ j := by decide)
    (hx : sc.names.lookup x = some .local := by rfl) (hy : sc.names.lookup y = some .local := by rfl)
    (hw : swappedStores [.Tuple [.Name x px, .Name y py] kt pt] (.Tuple [a, b] k2 pt2) X.env = pure (some [x, y]))
    (hs : swapsWithSole [.Tuple [.Name x px, .Name y py] kt pt] (.Tuple [a, b] k2 pt2) pos.line X.env = pure false := by rfl) :
    DS γ X W (.Assign [.Tuple [.Name x px, .Name y py] kt pt] (.Tuple [a, b] k2 pt2) pos) (sPar i j f) :=
  PS.weak (ps_par (i := i) (j := j) c.calm (by rw [c.hN]; exact c.nd) (by rw [c.hN]; exact hi) (by rw [c.hN]; exact hj) hij (by rw [c.hsc]; exact hx) (by rw [c.hsc]; exact hy) h hw hs) fun D σ H ⟨Φ, ρ, F, θ, S, ea, hh, p⟩ => ⟨Φ, ρ, F, θ, S, ea, hh, PostS.seq ea p fun l S' vs F' θ' H' _ e h' r p' => by
    match l, r, p' with
    | [d, d2], r, p' =>
      obtain ⟨v, w, rfl, r1, r2⟩ := reps2 r
      exact ⟨v, w, rfl, p' _ F' θ' H' .rfl (((ea.ext e).set i r1).set j r2) h'⟩
    | [], r, p' => exact p'.elim
    | [_], r, p' => exact p'.elim
    | _ :: _ :: _ :: _, r, p' => exact p'.elim⟩

/-! ### while -/
def whileN (t : Tt) (b : Sm) : Nat → Sm
  | 0, _, _ => .bad
  | n + 1, ρ, S => (t ρ S).toS ρ fun c S' => if c = true then (match b ρ S' with
    | .nx ρ' S2 => whileN t b n ρ' S2
    | .ct ρ' S2 => whileN t b n ρ' S2
    | .brk ρ' S2 => .nx ρ' S2
    | r => r) else .nx ρ S'
open Classical in
noncomputable def sWhile (t : Tt) (b : Sm) : Sm := fun ρ S => if h : ∃ n, whileN t b n ρ S ≠ .bad then whileN t b (choose h) ρ S else .bad
theorem whileN_more {t : Tt} {b : Sm} : ∀ (n : Nat) (ρ : En) (S : Sto), whileN t b n ρ S ≠ .bad → ∀ m, whileN t b (n + m) ρ S = whileN t b n ρ S
  | 0, _, _, h, _ => absurd rfl h
  | n + 1, ρ, S, h, m => by
    rw [show n + 1 + m = (n + m) + 1 by omega]
    unfold whileN at h ⊢
    cases e : t ρ S with
    | bad => rfl
    | exc c d S' => rfl
    | ok c S' =>
      rw [e] at h
      simp only [Re.toS_ok] at h ⊢
      cases c with
      | false => rfl
      | true =>
        simp only [if_true] at h ⊢
        cases e2 : b ρ S' with
        | nx ρ' S2 => rw [e2] at h; exact whileN_more n ρ' S2 h m
        | ct ρ' S2 => rw [e2] at h; exact whileN_more n ρ' S2 h m
        | _ => rfl
theorem sWhile_of {t : Tt} {b : Sm} {ρ : En} {S : Sto} {r : SRe} (n : Nat) (h : whileN t b n ρ S = r) (hr : r ≠ .bad) : sWhile t b ρ S = r := by
  have ex : ∃ n, whileN t b n ρ S ≠ .bad := ⟨n, by rw [h]; exact hr⟩
  unfold sWhile
  rw [dif_pos ex]
  have h1 := Classical.choose_spec ex
  have e1 := whileN_more _ ρ S h1 n
  have e2 := whileN_more n ρ S (by rw [h]; exact hr) (Classical.choose ex)
  rw [Nat.add_comm] at e1
  rw [← e1, e2, h]
theorem ds_while {t : Expr} {body : List Stmt} {tt : Tt} {fb : Sm} (c : CtxD X W N sc k) (ht : DTt γ X W t tt) (hb : DSs γ X W body fb) : DS γ X W (.While t body [] pos) (sWhile tt fb) :=
  PS.weak (ps_while c.pw ht hb) fun D σ H ⟨Φ, ρ, F, θ, S, ea, hh, p⟩ => by
    unfold sWhile at p
    split at p
    · rename_i ex
      refine ⟨fun m σ H => ∃ Φ ρ F θ S, EA ⟨X.K, γ⟩ F θ σ ρ ∧ HA ⟨X.K, γ⟩ Φ F θ S H ∧ PostS ⟨X.K, γ⟩ Φ W F θ (whileN tt fb m ρ S) D, ⟨_, Φ, ρ, F, θ, S, ea, hh, p⟩, ?_⟩
      rintro m σ H ⟨Φ, ρ, F, θ, S, ea, hh, p⟩
      cases m with
      | zero => exact p.elim
      | succ m =>
        unfold whileN at p
        refine ⟨Φ, ρ, F, θ, S, ea, hh, PostS.seq ea p fun c S' v F' θ' H' _ e h' r p' => ?_⟩
        cases r
        cases c with
        | false => exact p' σ F' θ' H' .rfl (ea.ext e) h'
        | true =>
          simp only [if_true] at p' ⊢
          refine ⟨fun σ' H' => ∃ Φ ρ F θ S, EA ⟨X.K, γ⟩ F θ σ' ρ ∧ HA ⟨X.K, γ⟩ Φ F θ S H' ∧ PostS ⟨X.K, γ⟩ Φ W F θ (whileN tt fb m ρ S) D, fun σ' H' q => ⟨m, Nat.lt_succ_self m, q⟩, Φ, ρ, F', θ', S', ea.ext e, h', ?_⟩
          revert p'
          cases fb ρ S' with
          | nx ρ' S2 => exact fun p σ2 F2 θ2 H2 e2 a b => ⟨Φ, ρ', F2, θ2, S2, a, b, PostS.ext e2 p⟩
          | ct ρ' S2 => exact fun p σ2 F2 θ2 H2 e2 a b => ⟨Φ, ρ', F2, θ2, S2, a, b, PostS.ext e2 p⟩
          | brk ρ' S2 => exact fun p => p
          | ret d S2 => exact fun p => p
          | exc c d ρ' S2 => exact fun p => p
          | bad => exact fun p => p
    · exact p.elim

/-! ### for -/
/-- what is walked: the items, and what must stay so of the store meanwhile -/
abbrev Wk := List Dv × (Sto → Prop)
def Walks (M : Ev) (F : Hp) (θ : List Addr) (J : It) (x : Wk) : Prop := ∀ (i : Nat) Φ F' θ' S' H, Gr F F' θ θ' → HA M Φ F' θ' S' H → x.2 S' →
  (x.1.length ≤ i → J.stop i H) ∧ ∀ d, x.1[i]? = some d → J.go i H ∧ ∀ v H', J.yld i H v H' → ∃ F'', Gr F' F'' θ' θ' ∧ HA M Φ F'' θ' S' H' ∧ Rep M F'' θ' v d
abbrev It' := En → Sto → Re Wk
abbrev DI (γ : Nat → Addr) (X : Cx) (W : WX) (tg iter : Expr) (f : It') : Prop := PI X tg iter (dG ⟨X.K, γ⟩ W (Walks ⟨X.K, γ⟩) f)
theorem PI.weak {tg iter : Expr} {t u : TI} (h : PI X tg iter t) (k : ∀ σ H R, u σ H R → t σ H R) : PI X tg iter u := ⟨fun pins s σ H R I q => h.run pins s σ H R I (k σ H R q)⟩
open Classical in
noncomputable def forL (b : Dv → Sm) (chk : Sto → Prop) : List Dv → Sm
  | [], ρ, S => .nx ρ S
  | d :: r, ρ, S => match b d ρ S with
    | .nx ρ' S' => if chk S' then forL b chk r ρ' S' else .bad
    | .ct ρ' S' => if chk S' then forL b chk r ρ' S' else .bad
    | .brk ρ' S' => .nx ρ' S'
    | r => r
open Classical in
noncomputable def sFor (f : It') (g : Gt) (b : Sm) : Sm := fun ρ S => (f ρ S).toS ρ fun x S' => if x.2 S' then forL (fun d ρ S => optS (g d ρ S) b) x.2 x.1 ρ S' else .bad
open Classical in
theorem ds_for {tg iter : Expr} {body : List Stmt} {f : It'} {g : Gt} {fb : Sm} (c : CtxD X W N sc k) (hi : DI γ X W tg iter f) (hg : DG γ X tg g) (hb : DSs γ X W body fb) (hs : ∀ x, foldedSetIterable iter X.env x = pure x := by intro _; rfl) :
    DS γ X W (.For tg iter body [] pos) (sFor f g fb) :=
  PS.weak (ps_for c.pw c.calm hi hg hb hs) fun D σ H ⟨Φ, ρ, F, θ, S, ea, hh, p⟩ => ⟨Φ, ρ, F, θ, S, ea, hh, PostS.seq ea p fun x S' J F' θ' H' _ e h' r p' => by
    obtain ⟨h1, p'⟩ := postS_if p'
    refine ⟨fun i m σ H => m = x.1.length - i ∧ ∃ ρ F2 θ2 S2, Gr F' F2 θ' θ2 ∧ EA ⟨X.K, γ⟩ F2 θ2 σ ρ ∧ HA ⟨X.K, γ⟩ Φ F2 θ2 S2 H ∧ x.2 S2 ∧ PostS ⟨X.K, γ⟩ Φ W F2 θ2 (forL (fun d ρ S => optS (g d ρ S) fb) x.2 (x.1.drop i) ρ S2) D,
      ⟨x.1.length, by simp, ρ, F', θ', S', .rfl, ea.ext e, h', h1, p'⟩, ?_⟩
    rintro i m σ H ⟨rfl, ρ, F2, θ2, S2, e2, ea, hh, hc, p⟩
    obtain ⟨wa, wb⟩ := r i Φ F2 θ2 S2 H e2 hh hc
    by_cases hlt : i < x.1.length
    · obtain ⟨go, yl⟩ := wb x.1[i] (by simp [hlt])
      rw [List.drop_eq_getElem_cons hlt] at p
      refine .inr ⟨go, fun σ H => ∃ ρ F2 θ2 S2, Gr F' F2 θ' θ2 ∧ EA ⟨X.K, γ⟩ F2 θ2 σ ρ ∧ HA ⟨X.K, γ⟩ Φ F2 θ2 S2 H ∧ x.2 S2 ∧ PostS ⟨X.K, γ⟩ Φ W F2 θ2 (forL (fun d ρ S => optS (g d ρ S) fb) x.2 (x.1.drop (i + 1)) ρ S2) D, fun σ' H' q => ⟨x.1.length - (i + 1), by omega, rfl, q⟩, fun v H3 y => ?_⟩
      obtain ⟨F3, e3, h3, r3⟩ := yl v H3 y
      refine ⟨Φ, ρ, F3, θ2, S2, _, ea.ext e3, h3, r3, ?_⟩
      have p : PostS ⟨X.K, γ⟩ Φ W F2 θ2 (forL _ x.2 (x.1[i] :: x.1.drop (i + 1)) ρ S2) D := p
      unfold forL at p
      have p := PostS.ext e3 p
      revert p
      show PostS _ Φ W F3 θ2 (match optS (g x.1[i] ρ S2) fb with | .nx ρ' S' => if x.2 S' then forL _ x.2 _ ρ' S' else .bad | .ct ρ' S' => if x.2 S' then forL _ x.2 _ ρ' S' else .bad | .brk ρ' S' => .nx ρ' S' | r => r) D → _
      cases g x.1[i] ρ S2 with
      | some y =>
        intro p σ4 F4 θ4 H4 e4 a b
        refine ⟨Φ, y.1, F4, θ4, y.2, a, b, ?_⟩
        have p := PostS.ext e4 p
        revert p
        simp only [optS]
        cases fb y.1 y.2 with
        | nx ρ5 S5 =>
          intro p σ5 F5 θ5 H5 e5 a5 b5
          obtain ⟨hc5, p⟩ := postS_if p
          exact ⟨ρ5, F5, θ5, S5, ((e2.trans e3).trans e4).trans e5, a5, b5, hc5, PostS.ext e5 p⟩
        | ct ρ5 S5 =>
          intro p σ5 F5 θ5 H5 e5 a5 b5
          obtain ⟨hc5, p⟩ := postS_if p
          exact ⟨ρ5, F5, θ5, S5, ((e2.trans e3).trans e4).trans e5, a5, b5, hc5, PostS.ext e5 p⟩
        | brk ρ5 S5 => exact fun p => p
        | ret d S5 => exact fun p => p
        | exc c d ρ5 S5 => exact fun p => p
        | bad => exact fun p => p
      | none => exact fun p => p
    · refine .inl ⟨wa (by omega), ?_⟩
      rw [List.drop_eq_nil_of_le (by omega)] at p
      exact p σ F2 θ2 H .rfl ea hh⟩

end
end DL
/-! The D layer, 4: defs and calls. -/
namespace DL
open PySem PySem.Spec PyProof.Rows L2

/-- a def's promise, called where nothing is being shown -/
structure FnG (P : Program) (w : World) (K : PySem.W.Frag) (mg : Str → Option Value) (base : Heap) (k : Nat) (f : Addr) (fd : FuncData) (ps : List Str) (sp : Sp) : Prop where
  len : ∀ vs H Q E, sp vs H Q E → vs.length = ps.length
  run : ∀ (A : Around) (outer : List Env) (s : Shared) (H : Hp) (args : Args) (us : List Value) (vs : List V) (Q : VK) (E : XK), Room k A → A.guards = some [] → Env0 P w K mg base A outer s H → BindsTo s fd args (ps.zip us) → Vals vs us → sp vs H Q E →
    codeAny (model P w) A (.call (.ref f) args) (CR (L2.CX P w) outer P w H s Q E) s
theorem guards_deeper {A : Around} (h : A.guards = some []) (env : Env) : (A.deeper env).guards = some [] := by
  first | exact h | (simpa [Around.deeper, pushGuards, Code.guards, Code.isGuard, guardIds] using h)
theorem fn_ofG {P : Program} {w : World} {K : PySem.W.Frag} {mg : Str → Option Value} {base : Heap} {k : Nat} {f : Addr} {name qual : Str} {params : Arguments} {body : List Stmt} {scope : Scope} {dV kV doc pm cdv ct oc : Value} {an od : Option Addr}
    {osl : Array (Option Value)} {N ps : List Str} {sp : Sp} (lk : K.lookup f = some ⟨oc, od, .func (PySem.W.fnOf name qual params body scope dV kV doc pm an cdv ct), osl⟩) (hcd : PySem.W.codeIn K cdv qual = true) (S : FnScope N ps scope)
    (len : ∀ vs H Q E, sp vs H Q E → vs.length = ps.length)
    (hbody : ∀ (A : Around) (outer : List Env) (s : Shared) (H : Hp) (vs : List V) (Q : VK) (E : XK), Room k (A.deeper (envOfC qual scope s.heap.objs.size f cdv)) → A.guards = some [] → sp vs H Q E →
      ∃ t, PSs (cxOf (L2.CX P w) P w K mg base N qual scope f cdv A outer s H E) body t ∧ t { nx := fun _ H' => Q .non H', rt := Q } (L2.start N vs) H) :
    FnG P w K mg base (k + 1) f (PySem.W.fnOf name qual params body scope dV kV doc pm an cdv ct) ps sp := by
  refine ⟨len, fun A outer s H args us vs Q E hr hg e0 hb r hsp => ?_⟩
  have hl := len _ _ _ _ hsp
  have KX : K.In s.heap := e0.mod.kin.keeps fun b o e => (e0.bs b o e).1
  have lim : s.heap.NoLimit := e0.mod.nolimit.keeps fun b o e => (e0.bs b o e).1
  have hkind : ∀ y ∈ ps.zip us, scope.names.lookup y.1 = some .local ∨ (scope.names.lookup y.1 = some .cell ∧ ((cellsFrom (s.heap.objs.size + 1) scope.names []).lookup y.1).isSome = true) := fun ⟨n, v⟩ hy => by
    rcases S.par n (List.of_mem_zip hy).1 with q | q
    · exact .inl q
    · exact .inr ⟨q, PySem.W.cellsFrom_some _ _ _ (.inl q)⟩
  refine codeAny_call_function hr.depth (KX _ _ lk) rfl S.co S.gen rfl (PySem.W.codeRec_of KX hcd) (hb _ _ _ _ ?_)
  refine wpAny_newFunctionEnv_cells S.kind hkind fun env he s1 x => ?_
  subst he
  refine ⟨lim.keeps x.toInCall.keep, codeAny_func ?_⟩
  obtain ⟨t, ht, hq⟩ := hbody A outer s H vs Q E (hr.deeper _) hg hsp
  have I : Inv (cxOf (L2.CX P w) P w K mg base N qual scope f cdv A outer s H E) [] (L2.start N vs) H s1 := inv_start S hr.hd e0 hl r x
  refine wpAny_mono (ht.run [] s1 (L2.start N vs) H _ I hq) (fun fl s' hs => ?_) fun e s' hs => hs
  have fin : ∀ {σ' : L2.St} {H' : Hp} {v : V} {u : Value}, Inv (cxOf (L2.CX P w) P w K mg base N qual scope f cdv A outer s H E) [] σ' H' s' → RelV v u → Q v H' → CE outer P w H s Q u s' :=
    fun {σ' H' v u} J rv q => ⟨v, H', J.os, J.bare, J.base, J.hok, rv, q⟩
  cases fl with
  | ret u =>
    obtain ⟨v, σ', H', J, rv, q⟩ := hs
    exact fin J rv q
  | next =>
    obtain ⟨σ', H', J, q⟩ := hs
    exact fin (v := V.non) (u := Value.none) J rfl q
  | brk =>
    obtain ⟨_, _, _, q⟩ := hs
    exact False.elim q
  | cont =>
    obtain ⟨_, _, _, q⟩ := hs
    exact False.elim q

/-- a def's denotation: from its arguments and the store -/
abbrev Fn := List Dv → Sto → Re Dv
def WE (E : XK) : WX := fun c d _ H => E c d H
def spD (M : Ev) (n : Nat) (g : Fn) : Sp := fun vs H Q E => vs.length = n ∧ ∃ ds Φ F θ S, Reps M F θ vs ds ∧ HA M Φ F θ S H ∧ PostG M Φ (WE E) [] F θ (Rep M) (g ds S) Q
/-- a body run from the parameters -/
def SRe.toR : SRe → Re Dv
  | .nx _ S => .ok .non S
  | .ret d S => .ok d S
  | .exc c d _ S => .exc c d S
  | _ => .bad
def startD (n : Nat) (ds : List Dv) : En := ds.map some ++ List.replicate (n - ds.length) none
def runD (n : Nat) (f : Sm) : Fn := fun ds S => (f (startD n ds) S).toR
theorem start_ea {M : Ev} {F : Hp} {θ : List Addr} {N : List Str} {vs : List V} {ds : List Dv} (r : Reps M F θ vs ds) : EA M F θ (L2.start N vs) (startD N.length ds) := by
  refine ⟨by unfold L2.start startD; simp [r.length], fun i d h => ?_⟩
  unfold startD at h
  unfold L2.start
  by_cases hi : i < ds.length
  · rw [List.getElem?_append_left (by simpa using hi), List.getElem?_map] at h
    cases e : ds[i]? with
    | none => rw [e] at h; cases h
    | some x =>
      rw [e] at h
      cases h
      obtain ⟨v, hv, rv⟩ := r.get e
      exact ⟨v, by rw [List.getElem?_append_left (by simpa [r.length] using hi), List.getElem?_map, hv]; rfl, rv⟩
  · rw [List.getElem?_append_right (by simpa using hi), List.getElem?_replicate] at h
    split at h <;> cases h
section
variable {P : Program} {w : World} {K : PySem.W.Frag} {mg : Str → Option Value} {base : Heap}
/-- THE RULE for a def: its body's denotation -/
theorem def_ok {γ : Nat → Addr} {x qual : Str} {st : Stmt} {f : Addr} {fd : FuncData} {N ps : List Str} {k : Nat} {fb : Sm} (F : Fun K x qual st f fd) (S : FnScope N ps (defScope st))
    (hd : ∀ (X : Cx) (W : WX), X.prog = P → X.w = w → X.K = K → X.mg = mg → X.base = base → CtxD X W N (defScope st) k → DSs γ X W (defBody st) fb) : FnG P w K mg base (k + 1) f fd ps (spD ⟨K, γ⟩ ps.length (runD N.length fb)) := by
  obtain ⟨oc, od, kV, doc, pm, an, cdv, ct, osl, rfl, lk, hcd⟩ := F.ex
  refine fn_ofG lk hcd S (fun vs H Q E h => h.1) fun A outer s H vs Q E hr hg hsp => ?_
  obtain ⟨hl, ds, Φ, F, θ, St, r, hh, p⟩ := hsp
  have c : CtxD (cxOf (L2.CX P w) P w K mg base N qual (defScope st) f cdv A outer s H E) (WE E) N (defScope st) k :=
    ⟨⟨rfl, rfl, S.nd, rfl, takes_of rfl rfl rfl rfl, PassesOwn.leaving, guards_deeper hg _, hr⟩, fun _ => rfl, rfl, rfl⟩
  refine ⟨_, hd _ (WE E) rfl rfl rfl rfl rfl c, Φ, startD N.length ds, F, θ, St, start_ea r, hh, ?_⟩
  show PostS ⟨K, γ⟩ Φ _ _ _ _ _
  unfold runD at p
  revert p
  cases fb (startD N.length ds) St with
  | nx ρ S' => exact fun p σ F' θ' H' e a b => p .non F' θ' H' e b .non
  | ret d S' => exact fun p => p
  | exc c d ρ S' => exact fun p dd v σ F' θ' H' e a b hx rx => p dd v F' θ' H' e b hx rx
  | brk ρ S' => exact fun p => p.elim
  | ct ρ S' => exact fun p => p.elim
  | bad => exact fun p => p
end

/-! ### what outcomes may be told in place of others -/
/-- whoever is content with r' is content with r, where n cells stood at the beginning -/
def Le (n : Nat) (r r' : Re Dv) : Prop := ∀ (M : Ev) (Φ : Hp) (W : WX) (σ : L2.St) (F : Hp) (θ : List Addr) (Q : VK), θ.length = n → PostG M Φ W σ F θ (Rep M) r' Q → PostG M Φ W σ F θ (Rep M) r Q
theorem Le.refl {n : Nat} (r : Re Dv) : Le n r r := fun _ _ _ _ _ _ _ _ h => h
theorem Le.of_eq {n : Nat} {r r' : Re Dv} (h : r = r') : Le n r r' := h ▸ Le.refl r
theorem Le.bad {n : Nat} {r : Re Dv} : Le n r .bad := fun _ _ _ _ _ _ _ _ h => h.elim
theorem Le.trans {n : Nat} {a b c : Re Dv} (h1 : Le n a b) (h2 : Le n b c) : Le n a c := fun M Φ W σ F θ Q e p => h1 M Φ W σ F θ Q e (h2 M Φ W σ F θ Q e p)
mutual
/-- no cell from k on stands in it -/
def lowD (k : Nat) : Dv → Bool
  | .tup l => lowL k l
  | .ktup l => lowL k l
  | .lst l => lowL k l
  | .ro l => lowL k l
  | .ins _ fs => lowF k fs
  | .dic l => lowK k l
  | .cell j => decide (j < k)
  | .non => true
  | .bl _ => true
  | .int _ => true
  | .str _ => true
  | .con _ => true
  | .exn _ _ _ d => lowD k d
  | .cls _ => true
def lowL (k : Nat) : List Dv → Bool
  | [] => true
  | d :: r => lowD k d && lowL k r
def lowF (k : Nat) : List (Str × Dv) → Bool
  | [] => true
  | (_, d) :: r => lowD k d && lowF k r
def lowK (k : Nat) : List (List L2.Key × Dv) → Bool
  | [] => true
  | (_, d) :: r => lowD k d && lowK k r
end
mutual
theorem Rep.cut {M : Ev} {F : Hp} {θ : List Addr} {k : Nat} : ∀ {v : V} {d : Dv}, Rep M F θ v d → lowD k d = true → Rep M F (θ.take k) v d
  | _, _, .non, _ => .non
  | _, _, .bl b, _ => .bl b
  | _, _, .int i, _ => .int i
  | _, _, .str x, _ => .str x
  | _, _, .tup h r, e => .tup h (Reps.cut r (by rw [lowD] at e; exact e))
  | _, _, .ktup h h2 r, e => .ktup h h2 (Reps.cut r (by rw [lowD] at e; exact e))
  | _, _, .lst h r, e => .lst h (Reps.cut r (by rw [lowD] at e; exact e))
  | _, _, .ro h r, e => .ro h (Reps.cut r (by rw [lowD] at e; exact e))
  | _, _, .ins h r, e => .ins h (RepF.cut r (by rw [lowD] at e; exact e))
  | _, _, .dic h r, e => .dic h (RepK.cut r (by rw [lowD] at e; exact e))
  | _, _, .cell h, e => .cell (by
      rw [lowD] at e
      rw [List.getElem?_take_of_lt (of_decide_eq_true e)]; exact h)
  | _, _, .con v, _ => .con v
  | _, _, .exn h r, e => .exn h (Rep.cut r (by rw [lowD] at e; exact e))
  | _, _, .cls c, _ => .cls c
theorem Reps.cut {M : Ev} {F : Hp} {θ : List Addr} {k : Nat} : ∀ {v : List V} {d : List Dv}, Reps M F θ v d → lowL k d = true → Reps M F (θ.take k) v d
  | _, _, .nil, _ => .nil
  | _, _, .cons h r, e => by
    rw [lowL, Bool.and_eq_true] at e
    exact .cons (Rep.cut h e.1) (Reps.cut r e.2)
theorem RepF.cut {M : Ev} {F : Hp} {θ : List Addr} {k : Nat} : ∀ {v : List (Str × V)} {d : List (Str × Dv)}, RepF M F θ v d → lowF k d = true → RepF M F (θ.take k) v d
  | _, _, .nil, _ => .nil
  | _, _, .cons h r, e => by
    rw [lowF, Bool.and_eq_true] at e
    exact .cons (Rep.cut h e.1) (RepF.cut r e.2)
theorem RepK.cut {M : Ev} {F : Hp} {θ : List Addr} {k : Nat} : ∀ {v : List (List L2.Key × V)} {d : List (List L2.Key × Dv)}, RepK M F θ v d → lowK k d = true → RepK M F (θ.take k) v d
  | _, _, .nil, _ => .nil
  | _, _, .cons h r, e => by
    rw [lowK, Bool.and_eq_true] at e
    exact .cons (Rep.cut h e.1) (RepK.cut r e.2)
end
mutual
theorem Rep.low {M : Ev} {F : Hp} {θ : List Addr} : ∀ {v : V} {d : Dv}, Rep M F θ v d → lowD θ.length d = true
  | _, _, .non => by rw [lowD]
  | _, _, .bl b => by rw [lowD]
  | _, _, .int i => by rw [lowD]
  | _, _, .str x => by rw [lowD]
  | _, _, .tup h r => by rw [lowD]; exact Reps.low r
  | _, _, .ktup h h2 r => by rw [lowD]; exact Reps.low r
  | _, _, .lst h r => by rw [lowD]; exact Reps.low r
  | _, _, .ro h r => by rw [lowD]; exact Reps.low r
  | _, _, .ins h r => by rw [lowD]; exact RepF.low r
  | _, _, .dic h r => by rw [lowD]; exact RepK.low r
  | _, _, .cell h => by rw [lowD]; exact decide_eq_true (List.getElem?_eq_some_iff.mp h).1
  | _, _, .con v => by rw [lowD]
  | _, _, .exn h r => by rw [lowD]; exact Rep.low r
  | _, _, .cls c => by rw [lowD]
theorem Reps.low {M : Ev} {F : Hp} {θ : List Addr} : ∀ {v : List V} {d : List Dv}, Reps M F θ v d → lowL θ.length d = true
  | _, _, .nil => by rw [lowL]
  | _, _, .cons h r => by rw [lowL, Rep.low h, Reps.low r]; rfl
theorem RepF.low {M : Ev} {F : Hp} {θ : List Addr} : ∀ {v : List (Str × V)} {d : List (Str × Dv)}, RepF M F θ v d → lowF θ.length d = true
  | _, _, .nil => by rw [lowF]
  | _, _, .cons h r => by rw [lowF, Rep.low h, RepF.low r]; rfl
theorem RepK.low {M : Ev} {F : Hp} {θ : List Addr} : ∀ {v : List (List L2.Key × V)} {d : List (List L2.Key × Dv)}, RepK M F θ v d → lowK θ.length d = true
  | _, _, .nil => by rw [lowK]
  | _, _, .cons h r => by rw [lowK, Rep.low h, RepK.low r]; rfl
end
def lowO (k : Nat) : Ob → Bool
  | .lst l => lowL k l
  | .ins _ fs => lowF k fs
  | .dic l => lowK k l
  | .gone => true
theorem RepO.cut {M : Ev} {F : Hp} {θ : List Addr} {k : Nat} {o : HO} {ob : Ob} (h : RepO M F θ o ob) (e : lowO k ob = true) : RepO M F (θ.take k) o ob := by
  cases o <;> cases ob <;> first | exact h.elim | exact Reps.cut h e | exact ⟨h.1, RepF.cut h.2 e⟩ | exact RepK.cut h e
theorem RepO.low {M : Ev} {F : Hp} {θ : List Addr} {o : HO} {ob : Ob} (h : RepO M F θ o ob) : lowO θ.length ob = true := by
  cases o <;> cases ob <;> first | exact h.elim | exact Reps.low h | exact RepF.low h.2 | exact RepK.low h
/-- a store holds nothing of later cells -/
def Closed (S : Sto) : Prop := ∀ ob ∈ S, lowO S.length ob = true
theorem HA.closed {M : Ev} {Φ : Hp} {F : Hp} {θ : List Addr} {S : Sto} {H : Hp} (h : HA M Φ F θ S H) : Closed S := fun ob hb => by
  obtain ⟨k, hk, e⟩ := List.mem_iff_getElem.mp hb
  by_cases g : ob = .gone
  · rw [g]; rfl
  · have hk' : k < θ.length := by rw [h.len]; exact hk
    obtain ⟨_, o, _, r⟩ := h.live k θ[k] ob (List.getElem?_eq_getElem hk') (by rw [List.getElem?_eq_getElem hk, e]) g
    rw [← h.len]
    exact r.low
theorem HA.cut {M : Ev} {Φ : Hp} {F : Hp} {θ : List Addr} {S T : Sto} {H : Hp} (h : HA M Φ F θ (S ++ T) H) (c : Closed S) : HA M Φ F (θ.take S.length) S H := by
  have hl : S.length ≤ θ.length := by rw [h.len, List.length_append]; omega
  refine ⟨h.sub, by rw [List.length_take]; omega, h.nd.sublist (List.take_sublist _ _), fun a ha => h.trk a (List.mem_of_mem_take ha), fun k a ob h1 h2 h3 => ?_, fun a o q => let ⟨g1, g2, g3⟩ := h.fr a o q; ⟨g1, g2, fun m => g3 (List.mem_of_mem_take m)⟩⟩
  have hk : k < S.length := (List.getElem?_eq_some_iff.mp h2).1
  rw [List.getElem?_take_of_lt hk] at h1
  obtain ⟨h4, o, h5, h6⟩ := h.live k a ob h1 (by rw [List.getElem?_append_left hk]; exact h2) h3
  exact ⟨h4, o, h5, h6.cut (c ob (List.mem_of_getElem? h2))⟩
theorem Gr.cut {F F' : Hp} {θ θ' : List Addr} {n : Nat} (e : Gr F F' θ θ') (h : θ.length ≤ n) : Gr F F' θ (θ'.take n) := ⟨e.le, fun k a q => by
  have := (List.getElem?_eq_some_iff.mp q).1
  rw [List.getElem?_take_of_lt (by omega)]; exact e.pre k a q⟩
/-- later cells are dropped -/
theorem Le.drop {n : Nat} {d : Dv} {S T : Sto} (hn : n ≤ S.length) (c : Closed S) (hd : lowD S.length d = true) : Le n (.ok d (S ++ T)) (.ok d S) := fun M Φ W σ F θ Q e p v F' θ' H' g hh r =>
  p v F' (θ'.take S.length) H' (g.cut (by omega)) (hh.cut c) (r.cut hd)
theorem Le.dropE {n : Nat} {x : Nat} {d : Dv} {S T : Sto} (hn : n ≤ S.length) (c : Closed S) (hd : lowD S.length d = true) : Le n (.exc x d (S ++ T)) (.exc x d S) := fun M Φ W σ F θ Q e p dd v F' θ' H' g hh hx r =>
  p dd v F' (θ'.take S.length) H' (g.cut (by omega)) (hh.cut c) hx (r.cut hd)
/-- a cell that is handed back becomes data -/
theorem Le.freezeL {n : Nat} {k : Nat} {l : List Dv} {S : Sto} (h : S[k]? = some (.lst l)) : Le n (.ok (.cell k) S) (.ok (.lst l) (S.set k .gone)) := fun M Φ W σ F θ Q e p v F' θ' H' g hh r => by
  cases r with
  | @cell k a hk =>
    obtain ⟨o, h1, h2, h3, h4⟩ := hh.freeze hk h (by intro z; cases z)
    cases o <;> first | exact h2.elim | skip
    exact p _ _ _ _ (g.trans h3) h4 (.lst upd_same (Reps.ext h3 h2))
theorem Le.freezeI {n : Nat} {k : Nat} {c : Nat} {fs : List (Str × Dv)} {S : Sto} (h : S[k]? = some (.ins c fs)) : Le n (.ok (.cell k) S) (.ok (.ins c fs) (S.set k .gone)) := fun M Φ W σ F θ Q e p v F' θ' H' g hh r => by
  cases r with
  | @cell k a hk =>
    obtain ⟨o, h1, h2, h3, h4⟩ := hh.freeze hk h (by intro z; cases z)
    cases o <;> first | exact h2.elim | skip
    obtain ⟨rfl, h2⟩ := h2
    exact p _ _ _ _ (g.trans h3) h4 (.ins upd_same (RepF.ext h3 h2))
theorem FnG.imp {P : Program} {w : World} {K : PySem.W.Frag} {mg : Str → Option Value} {base : Heap} {k : Nat} {f : Addr} {fd : FuncData} {ps : List Str} {sp sp' : Sp} (F : FnG P w K mg base k f fd ps sp)
    (h : ∀ vs H Q E, sp' vs H Q E → sp vs H Q E) : FnG P w K mg base k f fd ps sp' :=
  ⟨fun vs H Q E q => F.len vs H Q E (h _ _ _ _ q), fun A outer s H args us vs Q E hr hg he hb hv hs => F.run A outer s H args us vs Q E hr hg he hb hv (h _ _ _ _ hs)⟩
theorem FnG.mono {P : Program} {w : World} {K : PySem.W.Frag} {mg : Str → Option Value} {base : Heap} {j k : Nat} {f : Addr} {fd : FuncData} {ps : List Str} {sp : Sp} (F : FnG P w K mg base j f fd ps sp) (h : j ≤ k) :
    FnG P w K mg base k f fd ps sp := ⟨F.len, fun A outer s H args us vs Q E hr => F.run A outer s H args us vs Q E (hr.mono h)⟩
/-- the mirror in the place of the denotation -/
theorem FnG.told {P : Program} {w : World} {K : PySem.W.Frag} {mg : Str → Option Value} {base : Heap} {k n : Nat} {f : Addr} {fd : FuncData} {ps : List Str} {M : Ev} {g g' : Fn} (F : FnG P w K mg base k f fd ps (spD M n g))
    (h : ∀ ds S, ds.length = n → Closed S → lowL S.length ds = true → Le S.length (g ds S) (g' ds S)) : FnG P w K mg base k f fd ps (spD M n g') :=
  F.imp fun vs H Q E ⟨hl, ds, Φ, F, θ, S, r, hh, p⟩ => ⟨hl, ds, Φ, F, θ, S, r, hh, h ds S (by rw [← r.length]; exact hl) hh.closed (by rw [← hh.len]; exact r.low) M _ _ _ F θ Q hh.len p⟩
end DL
/-! The D layer, 5: calls of defs and classes by a name. -/
namespace DL
open PySem PySem.Spec PyProof.Rows L2

/-- calling the value u behaves as g -/
def CallV (γ : Nat → Addr) (X : Cx) (W : WX) (u : Value) (n : Nat) (g : Fn) : Prop :=
  ∀ (pins : List (Addr × Obj)) (s : Shared) (σ : L2.St) (H : Hp) (vs : List V) (us : List Value) (Q : VK) (Φ F : Hp) (θ : List Addr) (S : Sto) (ds : List Dv), Inv X pins σ H s → Vals vs us → Reps ⟨X.K, γ⟩ F θ vs ds → HA ⟨X.K, γ⟩ Φ F θ S H → ds.length = n →
    PostG ⟨X.K, γ⟩ Φ W σ F θ (Rep ⟨X.K, γ⟩) (g ds S) Q → wpAny (model X.prog X.w) X.A (call u us) (EP X pins σ Q) X.xe s
/-- the name x of the module is called with n arguments, at level j -/
structure Cal (γ : Nat → Addr) (P : Program) (w : World) (K : PySem.W.Frag) (mg : Str → Option Value) (base : Heap) (x : Str) (j n : Nat) (g : Fn) : Prop where
  ex : ∃ u : Value, mg x = some u ∧ PySem.W.keepIn K u = true ∧ ∀ (X : Cx) (W : WX), X.prog = P → X.w = w → X.K = K → X.mg = mg → X.base = base → Room j X.A → X.A.guards = some [] → Takes X W → CallV γ X W u n g
section
variable {γ : Nat → Addr} {P : Program} {w : World} {K : PySem.W.Frag} {mg : Str → Option Value} {base : Heap} {x : Str} {j n : Nat} {g g' : Fn}
theorem Cal.mono {j' : Nat} (h : Cal γ P w K mg base x j n g) (hj : j ≤ j') : Cal γ P w K mg base x j' n g := by
  obtain ⟨u, h1, h2, h3⟩ := h.ex
  exact ⟨u, h1, h2, fun X W a b c d e r => h3 X W a b c d e (r.mono hj)⟩
theorem Cal.told (h : Cal γ P w K mg base x j n g) (k : ∀ ds S, ds.length = n → Closed S → lowL S.length ds = true → Le S.length (g ds S) (g' ds S)) : Cal γ P w K mg base x j n g' := by
  obtain ⟨u, h1, h2, h3⟩ := h.ex
  refine ⟨u, h1, h2, fun X W a b c d e r1 r2 r3 pins s σ H vs us Q Φ F θ S ds I rv rd hh hl p => ?_⟩
  refine h3 X W a b c d e r1 r2 r3 pins s σ H vs us Q Φ F θ S ds I rv rd hh hl ?_
  exact k ds S hl hh.closed (by rw [← hh.len]; exact rd.low) _ Φ W σ F θ Q hh.len p
/-- .. of a def -/
theorem Cal.fn {f : Addr} {fd : FuncData} {ps : List Str} (F : FnG P w K mg base j f fd ps (spD ⟨K, γ⟩ n g)) (hm : mg x = some (.ref f)) (hk : PySem.W.keepIn K (.ref f) = true) (hb : Binds K fd ps []) : Cal γ P w K mg base x j n g := by
  refine ⟨.ref f, hm, hk, ?_⟩
  rintro X W rfl rfl rfl rfl rfl hr hg tk pins s σ H vs us Q Φ F0 θ S ds I rv rd hh hl p
  have hsp : spD ⟨X.K, γ⟩ n g vs H Q (fun c d H' => W c d σ H') := ⟨by rw [rd.length]; exact hl, ds, Φ, F0, θ, S, rd, hh, by
    revert p
    cases g ds S with
    | ok d S' => exact fun p => p
    | exc c d S' => exact fun p => p
    | bad => exact fun p => p⟩
  have hl2 : us.length = ps.length := by rw [← rv.length]; exact F.len _ _ _ _ hsp
  have hb' := hb s us I.kIn (by rw [List.append_nil]; exact hl2)
  rw [List.append_nil] at hb'
  refine wpAny_call (codeAny_mono (F.run X.A X.stack s H ⟨us, []⟩ us vs Q _ hr hg I.env0 hb' rv hsp) fun r s' hq => ?_)
  cases r with
  | error e => exact tk e s' (XE.of_call I (fun cls d H' h => h) hq)
  | ok fl =>
    cases fl with
    | ret u => exact I.after hq
    | next => exact False.elim hq
    | brk => exact False.elim hq
    | cont => exact False.elim hq
/-- C(..): a new instance in a cell, then __init__ -/
def makeD (c : Nat) (g : Fn) : Fn := fun ds S => (g (.cell S.length :: ds) (S ++ [.ins c []])).bind fun d S' => match d with
  | .non => .ok (.cell S.length) S'
  | _ => .bad
theorem guards_make {A : Around} {C : Addr} {us : List Value} {kw : List (Str × Value)} (h : A.guards = some []) : (A.under (.builtin "type.__call__" ⟨.ref C :: us, kw⟩)).guards = some [] := by
  first | exact h | (simpa [Around.under, pushGuards, Code.guards, Code.isGuard, guardIds] using h)
theorem Cal.make {c : Nat} {f : Addr} {fd : FuncData} {ps : List Str} (M : Mk K (γ c) f) (F : FnG P w K mg base j f fd ps (spD ⟨K, γ⟩ (n + 1) g)) (hm : mg x = some (.ref (γ c))) (hb : Binds K fd ps []) : Cal γ P w K mg base x (j + 1) n (makeD c g) := by
  refine ⟨.ref (γ c), hm, M.kp, ?_⟩
  rintro X W rfl rfl rfl rfl rfl hr hg tk pins s σ H vs us Q Φ F0 θ S ds I rv rd hh hl p
  have n1 : H s.heap.objs.size = none := I.hok.fresh (Nat.le_refl _)
  have n2 : H (s.heap.objs.size + 1) = none := I.hok.fresh (Nat.le_succ _)
  have ne : s.heap.objs.size ≠ s.heap.objs.size + 1 := Nat.ne_of_lt (Nat.lt_succ_self _)
  have I2 := Inv.made (C := γ c) I
  have h1 : HA ⟨X.K, γ⟩ Φ F0 θ S (upd H s.heap.objs.size (.own (s.heap.objs.size + 1))) := hh.same fun a o q => by rw [upd_ne (ne_of_none q n1)]; exact q
  obtain ⟨e2, h2⟩ := h1.newCell (p := s.heap.objs.size + 1) (o := .ins (γ c) s.heap.objs.size []) (ob := .ins c []) (by rw [upd_ne (Ne.symm ne)]; exact n2) ⟨rfl, .nil⟩
  have hcell : Rep ⟨X.K, γ⟩ F0 (θ ++ [s.heap.objs.size + 1]) (.ref (s.heap.objs.size + 1)) (.cell S.length) := .cell (by
    rw [← hh.len, List.getElem?_append_right (Nat.le_refl _), Nat.sub_self]; rfl)
  have p2 := PostG.ext e2 p
  unfold makeD at p2
  have hsp : spD ⟨X.K, γ⟩ (n + 1) g (.ref (s.heap.objs.size + 1) :: vs) (upd (upd H s.heap.objs.size (.own (s.heap.objs.size + 1))) (s.heap.objs.size + 1) (.ins (γ c) s.heap.objs.size [])) (fun v H2 => v = .non ∧ Q (.ref (s.heap.objs.size + 1)) H2) (fun c d H' => W c d σ H') := by
    refine ⟨by rw [List.length_cons, rd.length, hl], .cell S.length :: ds, Φ, F0, θ ++ [s.heap.objs.size + 1], S ++ [.ins c []], .cons hcell (rd.ext e2), h2, ?_⟩
    revert p2
    cases g (.cell S.length :: ds) (S ++ [.ins c []]) with
    | ok d S' =>
      intro p v F' θ' H' e' h' r'
      cases d with
      | non => exact ⟨rep_non r', p _ F' θ' H' e' h' (hcell.ext e')⟩
      | _ => exact p.elim
    | exc c d S' => exact fun p => p
    | bad => exact fun p => p
  have r2 : Vals (V.ref (s.heap.objs.size + 1) :: vs) (Value.ref (s.heap.objs.size + 1) :: us) := .cons rfl rv
  have hl2 : (Value.ref (s.heap.objs.size + 1) :: us).length = ps.length := by rw [← r2.length]; exact F.len _ _ _ _ hsp
  have hb' := hb { s with heap := (s.heap.push (PySem.W.instObj (γ c) s.heap.objs.size)) } (Value.ref (s.heap.objs.size + 1) :: us)
  refine wpAny_call (make_map (f := f) I.kIn M.makes M.init (beq_iff_eq.mp M.fn) (codeAny_mono (F.run _ X.stack _ _ ⟨Value.ref (s.heap.objs.size + 1) :: us, []⟩ (Value.ref (s.heap.objs.size + 1) :: us) _ _ _ (hr.make (γ c) us [])
    (guards_make hg) (I2.env0.make (γ c) us []) (by
      have z := hb _ (Value.ref (s.heap.objs.size + 1) :: us) I2.kIn (by rw [List.append_nil]; exact hl2)
      rw [List.append_nil] at z
      exact z) r2 hsp) fun r s' hq' => ?_))
  cases r with
  | error e => exact tk e s' (XE.of_call I2 (fun cls d H' h => h) hq')
  | ok fl =>
    cases fl with
    | ret u =>
      obtain ⟨v, H', I3, rv, ev, q3⟩ := I2.after hq'
      subst ev
      exact ⟨rv, ⟨V.ref (s.heap.objs.size + 1), H', I3, rfl, q3⟩⟩
    | next => exact False.elim hq'
    | brk => exact False.elim hq'
    | cont => exact False.elim hq'
end
section
variable {γ : Nat → Addr} {X : Cx} {W : WX} {N : List Str} {sc : Scope} {k : Nat} {pos : Pos}
def eCall (n : Nat) (g : Fn) (a : Xs) : Ex := fun ρ S => (a ρ S).bind fun ds S1 => if ds.length = n then g ds S1 else .bad
theorem de_call {x : Str} {j n : Nat} {g : Fn} {p : Pos} {e : Expr} {es : List Expr} {fa : Xs} (c : Ctx X W N sc k) (h : Cal γ X.prog X.w X.K X.mg X.base x j n g) (hj : j ≤ k := by decide) (hg : sc.names.lookup x = some .globalImplicit := by rfl)
    (ha : DAs γ X W (e :: es) fa) (hdb : (x == ("__debug__" : Str)) = false := by decide) (he : starEach (e :: es) X.env = (false, eval e X.env) :: starEach es X.env := by rfl) (hpl : (backTo pos (starEach es X.env)).any (·.1) = false := by rfl) :
    DE γ X W (.Call (.Name x p) (e :: es) [] pos) (eCall n g fa) := by
  obtain ⟨u, hm, hk, hc⟩ := h.ex
  refine ⟨fun pins s σ H Q I ⟨Φ, ρ, F, θ, S, ea, hh, p⟩ => ?_⟩
  refine wpAny_Call_Name_kw (ld_glob I (show X.env.scope.names.lookup x = some .globalImplicit by rw [c.hsc]; exact hg) hm ?_ hdb)
  refine PySem.W.callWith_K (h₀ := X.base) I.ok.mod.kin hk (thn (ha.run pos pins s σ H (fun vs H' => ∃ F θ S ds, Reps ⟨X.K, γ⟩ F θ vs ds ∧ HA ⟨X.K, γ⟩ Φ F θ S H' ∧ ds.length = n ∧ PostG ⟨X.K, γ⟩ Φ W σ F θ (Rep ⟨X.K, γ⟩) (g ds S) Q) I ?_) fun us s1 ⟨vs, H1, I1, r, F1, θ1, S1, ds, rd, h1, hl, p1⟩ => ⟨I1.kIn, ?_⟩) he hpl
  · exact ⟨Φ, ρ, F, θ, S, ea, hh, PostG.seq p fun ds S' vs F' θ' H' _ e h' r p' => let ⟨a, b⟩ := post_if p'; ⟨F', θ', S', ds, r, h', a, b⟩⟩
  · exact hc X W rfl rfl rfl rfl rfl (c.hr.mono hj) c.gd c.tk pins s1 σ H1 vs us Q Φ F1 θ1 S1 ds I1 r rd h1 hl p1
theorem de_call0 {x : Str} {j : Nat} {g : Fn} {p : Pos} (c : Ctx X W N sc k) (h : Cal γ X.prog X.w X.K X.mg X.base x j 0 g) (hj : j ≤ k := by decide) (hg : sc.names.lookup x = some .globalImplicit := by rfl) (hdb : (x == ("__debug__" : Str)) = false := by decide) :
    DE γ X W (.Call (.Name x p) [] [] pos) (fun _ S => g [] S) := by
  obtain ⟨u, hm, hk, hc⟩ := h.ex
  refine ⟨fun pins s σ H Q I ⟨Φ, ρ, F, θ, S, ea, hh, p⟩ => ?_⟩
  refine wpAny_Call_Name_kw (ld_glob I (show X.env.scope.names.lookup x = some .globalImplicit by rw [c.hsc]; exact hg) hm ?_ hdb)
  exact PySem.W.callWith_K0 I.kIn hk (hc X W rfl rfl rfl rfl rfl (c.hr.mono hj) c.gd c.tk pins s σ H [] [] Q Φ F θ S [] I .nil .nil hh rfl p)
end
end DL
/-! The D layer, 6: operators, comparisons, subscripts, by the kinds of data. -/
namespace DL
open PySem PySem.Spec PyProof.Rows L2

/-! ### lists and tuples as they are read -/
def asL (S : Sto) : Dv → Option (List Dv)
  | .lst l => some l
  | .cell k => match S[k]? with
    | some (.lst l) => some l
    | _ => none
  | _ => none
def asR (S : Sto) : Dv → Option (List Dv)
  | .ro l => some l
  | d => asL S d
def asT : Dv → Option (List Dv)
  | .tup l => some l
  | .ktup l => some l
  | _ => none
def asQ (S : Sto) : Dv → Option (List Dv)
  | .tup l => some l
  | .ktup l => some l
  | d => asR S d
section
variable {M : Ev} {Φ : Hp} {F : Hp} {θ : List Addr} {S : Sto} {H : Hp} {v : V} {d : Dv} {l : List Dv}
theorem asL_rep (r : Rep M F θ v d) (hh : HA M Φ F θ S H) (e : asL S d = some l) : ∃ a xs, v = .ref a ∧ H a = some (.lst xs) ∧ Reps M F θ xs l := by
  cases r with
  | lst h rs => cases e; exact ⟨_, _, rfl, hh.sub _ _ h, rs⟩
  | @cell k a h =>
    have e' : (match S[k]? with | some (.lst l) => some l | _ => none) = some l := e
    split at e'
    · rename_i l' hk
      cases e'
      obtain ⟨_, o, h5, h6⟩ := hh.live k a _ h hk (by intro z; cases z)
      cases o <;> first | exact h6.elim | skip
      exact ⟨_, _, rfl, h5, h6⟩
    · cases e'
  | _ => cases e
theorem asR_rep (r : Rep M F θ v d) (hh : HA M Φ F θ S H) (e : asR S d = some l) : ∃ a xs, v = .ref a ∧ SqL M.K H a xs ∧ Reps M F θ xs l := by
  by_cases q : ∃ m, d = .ro m
  · obtain ⟨m, rfl⟩ := q
    cases r with
    | ro h rs => cases e; exact ⟨_, _, rfl, (show Gr F H θ θ from ⟨hh.sub, fun _ _ q => q⟩).sqL h, rs⟩
  · have e' : asL S d = some l := by
      cases d <;> first | exact e | exact absurd ⟨_, rfl⟩ q
    obtain ⟨a, xs, h1, h2, h3⟩ := asL_rep r hh e'
    exact ⟨a, xs, h1, SqL.of h2, h3⟩
theorem asT_rep (r : Rep M F θ v d) (hh : HA M Φ F θ S H) (e : asT d = some l) : ∃ a xs, v = .ref a ∧ SqT M.K H a xs ∧ Reps M F θ xs l := by
  cases r with
  | tup h rs => cases e; exact ⟨_, _, rfl, (show Gr F H θ θ from ⟨hh.sub, fun _ _ q => q⟩).sqT h, rs⟩
  | ktup h _ rs => cases e; exact ⟨_, _, rfl, .inl (.inr ⟨_, hh.sub _ _ h⟩), rs⟩
  | _ => cases e
theorem asQ_rep (r : Rep M F θ v d) (hh : HA M Φ F θ S H) (e : asQ S d = some l) : ∃ a xs, v = .ref a ∧ (SqL M.K H a xs ∨ SqT M.K H a xs) ∧ Reps M F θ xs l := by
  by_cases q : ∃ m, d = .tup m ∨ d = .ktup m
  · obtain ⟨m, rfl | rfl⟩ := q
    · cases e
      obtain ⟨a, xs, h1, h2, h3⟩ := asT_rep r hh rfl
      exact ⟨a, xs, h1, .inr h2, h3⟩
    · cases e
      obtain ⟨a, xs, h1, h2, h3⟩ := asT_rep r hh rfl
      exact ⟨a, xs, h1, .inr h2, h3⟩
  · have e' : asR S d = some l := by
      cases d <;> first | exact e | exact absurd ⟨_, .inl rfl⟩ q | exact absurd ⟨_, .inr rfl⟩ q
    obtain ⟨a, xs, h1, h2, h3⟩ := asR_rep r hh e'
    exact ⟨a, xs, h1, .inl h2, h3⟩
end

/-! ### plain data as the library has it -/
mutual
def pyP : Dv → Option PyData
  | .non => some .none
  | .bl b => some (.bool b)
  | .int i => some (.int i)
  | .str x => some (.str x)
  | .tup l => (pyPs l).map .tuple
  | .ktup l => (pyPs l).map .tuple
  | .lst l => (pyPs l).map .list
  | .ro l => (pyPs l).map .list
  | .ins _ _ => none
  | .dic _ => none
  | .cell _ => none
  | .con _ => none
  | .exn _ _ _ _ => none
  | .cls _ => none
def pyPs : List Dv → Option (List PyData)
  | [] => some []
  | d :: r => (pyP d).bind fun p => (pyPs r).map fun ps => p :: ps
end
mutual
def toPy (S : Sto) : Dv → Option PyData
  | .non => some .none
  | .bl b => some (.bool b)
  | .int i => some (.int i)
  | .str x => some (.str x)
  | .tup l => (toPys S l).map .tuple
  | .ktup l => (toPys S l).map .tuple
  | .lst l => (toPys S l).map .list
  | .ro l => (toPys S l).map .list
  | .ins _ _ => none
  | .dic _ => none
  | .cell k => match S[k]? with
    | some (.lst l) => (pyPs l).map .list
    | _ => none
  | .con _ => none
  | .exn _ _ _ _ => none
  | .cls _ => none
def toPys (S : Sto) : List Dv → Option (List PyData)
  | [] => some []
  | d :: r => (toPy S d).bind fun p => (toPys S r).map fun ps => p :: ps
end
section
variable {M : Ev} {Φ : Hp} {F : Hp} {θ : List Addr} {S : Sto} {H : Hp}
mutual
theorem pyP_rep (hh : ∀ a o, F a = some o → H a = some o) : ∀ {v : V} {d : Dv} {p : PyData}, Rep M F θ v d → pyP d = some p → Dp M.K H v p
  | _, _, _, .non, e => by rw [pyP] at e; cases e; exact .non
  | _, _, _, .bl b, e => by rw [pyP] at e; cases e; exact .bl b
  | _, _, _, .int i, e => by rw [pyP] at e; cases e; exact .int i
  | _, _, _, .str x, e => by rw [pyP] at e; cases e; exact .str x
  | _, _, _, .tup h r, e => by
    rw [pyP, Option.map_eq_some_iff] at e
    obtain ⟨q, e, rfl⟩ := e
    exact .tup ((show Gr F H θ θ from ⟨hh, fun _ _ q => q⟩).sqT h) (pyPs_rep hh r e)
  | _, _, _, .ktup h _ r, e => by
    rw [pyP, Option.map_eq_some_iff] at e
    obtain ⟨q, e, rfl⟩ := e
    exact .tup (.inl (.inr ⟨_, hh _ _ h⟩)) (pyPs_rep hh r e)
  | _, _, _, .lst h r, e => by
    rw [pyP, Option.map_eq_some_iff] at e
    obtain ⟨q, e, rfl⟩ := e
    exact .lst (SqL.of (hh _ _ h)) (pyPs_rep hh r e)
  | _, _, _, .ro h r, e => by
    rw [pyP, Option.map_eq_some_iff] at e
    obtain ⟨q, e, rfl⟩ := e
    exact .lst ((show Gr F H θ θ from ⟨hh, fun _ _ q => q⟩).sqL h) (pyPs_rep hh r e)
  | _, _, _, .ins _ _, e => by rw [pyP] at e; cases e
  | _, _, _, .dic _ _, e => by rw [pyP] at e; cases e
  | _, _, _, .cell _, e => by rw [pyP] at e; cases e
  | _, _, _, .con _, e => by rw [pyP] at e; cases e
  | _, _, _, .exn _ _, e => by rw [pyP] at e; cases e
  | _, _, _, .cls _, e => by rw [pyP] at e; cases e
theorem pyPs_rep (hh : ∀ a o, F a = some o → H a = some o) : ∀ {v : List V} {d : List Dv} {p : List PyData}, Reps M F θ v d → pyPs d = some p → DpAll M.K H v p
  | _, _, _, .nil, e => by rw [pyPs] at e; cases e; exact .nil
  | _, _, _, .cons h r, e => by
    rw [pyPs, Option.bind_eq_some_iff] at e
    obtain ⟨q, e1, e⟩ := e
    rw [Option.map_eq_some_iff] at e
    obtain ⟨qs, e2, rfl⟩ := e
    exact .cons (pyP_rep hh h e1) (pyPs_rep hh r e2)
end
mutual
theorem toPy_rep (hh : HA M Φ F θ S H) : ∀ {v : V} {d : Dv} {p : PyData}, Rep M F θ v d → toPy S d = some p → Dp M.K H v p
  | _, _, _, .non, e => by rw [toPy] at e; cases e; exact .non
  | _, _, _, .bl b, e => by rw [toPy] at e; cases e; exact .bl b
  | _, _, _, .int i, e => by rw [toPy] at e; cases e; exact .int i
  | _, _, _, .str x, e => by rw [toPy] at e; cases e; exact .str x
  | _, _, _, .tup h r, e => by
    rw [toPy, Option.map_eq_some_iff] at e
    obtain ⟨q, e, rfl⟩ := e
    exact .tup ((show Gr F H θ θ from ⟨hh.sub, fun _ _ q => q⟩).sqT h) (toPys_rep hh r e)
  | _, _, _, .ktup h _ r, e => by
    rw [toPy, Option.map_eq_some_iff] at e
    obtain ⟨q, e, rfl⟩ := e
    exact .tup (.inl (.inr ⟨_, hh.sub _ _ h⟩)) (toPys_rep hh r e)
  | _, _, _, .lst h r, e => by
    rw [toPy, Option.map_eq_some_iff] at e
    obtain ⟨q, e, rfl⟩ := e
    exact .lst (SqL.of (hh.sub _ _ h)) (toPys_rep hh r e)
  | _, _, _, .ro h r, e => by
    rw [toPy, Option.map_eq_some_iff] at e
    obtain ⟨q, e, rfl⟩ := e
    exact .lst ((show Gr F H θ θ from ⟨hh.sub, fun _ _ q => q⟩).sqL h) (toPys_rep hh r e)
  | _, _, _, .ins _ _, e => by rw [toPy] at e; cases e
  | _, _, _, .dic _ _, e => by rw [toPy] at e; cases e
  | _, _, _, .cell h, e => by
    rw [toPy] at e
    split at e
    · rename_i l hk
      rw [Option.map_eq_some_iff] at e
      obtain ⟨q, e, rfl⟩ := e
      obtain ⟨_, o, h5, h6⟩ := hh.live _ _ _ h hk (by intro z; cases z)
      cases o <;> first | exact h6.elim | skip
      exact .lst (SqL.of h5) (pyPs_rep hh.sub h6 e)
    · cases e
  | _, _, _, .con _, e => by rw [toPy] at e; cases e
  | _, _, _, .exn _ _, e => by rw [toPy] at e; cases e
  | _, _, _, .cls _, e => by rw [toPy] at e; cases e
theorem toPys_rep (hh : HA M Φ F θ S H) : ∀ {v : List V} {d : List Dv} {p : List PyData}, Reps M F θ v d → toPys S d = some p → DpAll M.K H v p
  | _, _, _, .nil, e => by rw [toPys] at e; cases e; exact .nil
  | _, _, _, .cons h r, e => by
    rw [toPys, Option.bind_eq_some_iff] at e
    obtain ⟨q, e1, e⟩ := e
    rw [Option.map_eq_some_iff] at e
    obtain ⟨qs, e2, rfl⟩ := e
    exact .cons (toPy_rep hh h e1) (toPys_rep hh r e2)
end
end

/-! ### operators -/
instance (i j : Int) : Decidable (CMul i j) := inferInstanceAs (Decidable (_ ∨ _))
instance (i j : Int) : Decidable (CMulW i j) := inferInstanceAs (Decidable (_ < _))
instance (i j : Int) : Decidable (CDivW i j) := inferInstanceAs (Decidable (_ ∧ _))
instance (i j : Int) : Decidable (CDivN i j) := inferInstanceAs (Decidable (_ ∧ _))
def oAdd : Dv → Dv → Sto → Re Dv
  | .int i, .int j, S => .ok (.int (i + j)) S
  | .str x, .str y, S => if x.length + y.length ≤ sizeLine then .ok (.str (x ++ y)) S else .bad
  | d, e, S => match asL S d, asL S e with
    | some l, some m => mkL (l ++ m) S
    | _, _ => .bad
def oI (f : Int → Int → Int) : Dv → Dv → Sto → Re Dv
  | .int i, .int j, S => .ok (.int (f i j)) S
  | _, _, _ => .bad
def oIc (C : Int → Int → Bool) (f : Int → Int → Int) : Dv → Dv → Sto → Re Dv
  | .int i, .int j, S => if C i j = true then .ok (.int (f i j)) S else .bad
  | _, _, _ => .bad
def oB (f : Int → Int → Bool) : Dv → Dv → Sto → Re Dv
  | .int i, .int j, S => .ok (.bl (f i j)) S
  | _, _, _ => .bad
def cMul (i j : Int) : Bool := decide (CMul i j) || decide (CMulW i j)
def cDiv (i j : Int) : Bool := decide (CDivW i j)
def cPow (i j : Int) : Bool := decide (0 ≤ j) && decide ((Builtin.Int.intBits i : Int) * j ≤ 2 ^ 27)
abbrev oSub := oI fun i j => i - j
abbrev oMul := oIc cMul fun i j => i * j
abbrev oMod := oIc (fun _ j => decide (0 < j)) fun i j => i % j
abbrev oDiv := oIc cDiv fun i j => i / j
abbrev oPow := oIc cPow fun i j => i ^ j.toNat
abbrev oLt := oB fun i j => decide (i < j)
abbrev oLe := oB fun i j => decide (i ≤ j)
abbrev oGt := oB fun i j => decide (j < i)
abbrev oGe := oB fun i j => decide (j ≤ i)
def oEqD (f : Bool → Bool) : Dv → Dv → Sto → Re Dv := fun d e S => match toPy S d, toPy S e with
  | some p, some q => if (SeqAt.shaped p && SeqAt.shaped q) = true then .ok (.bl (f (PyData.eqv p q))) S else .bad
  | _, _ => .bad
def oEqF (f : Bool → Bool) : Dv → Dv → Sto → Re Dv
  | .str x, .str y, S => .ok (.bl (f (x == y))) S
  | d, e, S => oEqD f d e S
abbrev oEq := oEqF id
abbrev oNe := oEqF not
def oIs : Dv → Dv → Sto → Re Dv
  | .con _, _, _ => .bad
  | .non, .non, S => .ok (.bl true) S
  | _, .non, S => .ok (.bl false) S
  | _, _, _ => .bad
def oIsNot : Dv → Dv → Sto → Re Dv
  | .con _, _, _ => .bad
  | .non, .non, S => .ok (.bl false) S
  | _, .non, S => .ok (.bl true) S
  | _, _, _ => .bad
/-- x in a list or tuple of data, a sign in a text -/
def inD (neg : Bool) : Dv → Dv → Sto → Re Dv
  | .str x, .str z, S => match x.cps.toList with
    | [c] => .ok (.bl (xor neg (decide (c ∈ z.cps.toList)))) S
    | _ => .bad
  | d, e, S => match toPy S d, toPy S e with
    | some p, some (.list q) => if (SeqAt.shaped p && SeqAt.shaped (.list q)) = true then .ok (.bl (xor neg (q.any fun z => PyData.eqv z p))) S else .bad
    | some p, some (.tuple q) => if (SeqAt.shaped p && SeqAt.shaped (.tuple q)) = true then .ok (.bl (xor neg (q.any fun z => PyData.eqv z p))) S else .bad
    | _, _ => .bad
abbrev oIn := inD false
abbrev oNotIn := inD true
section
variable {γ : Nat → Addr} {X : Cx} {W : WX} {N : List Str} {sc : Scope} {k : Nat} {pos : Pos}
theorem od_int {f : Value → Value → Sem Value} {g : Int → Int → Int} (h : OpR X f (rI0 fun i j => .int (g i j))) : OpD γ X W f (oI g) := .of h fun Φ F θ S d e x y σ H Q rd re hh p => by
  cases d <;> cases e <;> first | exact p.elim | skip
  exact ⟨_, _, rep_int rd, rep_int re, PostG.ok p hh (.int _)⟩
theorem od_intc {f : Value → Value → Sem Value} {C : Int → Int → Bool} {C' : Int → Int → Prop} {g : Int → Int → Int} (h : OpR X f (rI C' fun i j => .int (g i j))) (hC : ∀ i j, C i j = true → C' i j) : OpD γ X W f (oIc C g) := .of h fun Φ F θ S d e x y σ H Q rd re hh p => by
  cases d <;> cases e <;> first | exact p.elim | skip
  obtain ⟨h1, p⟩ := post_if p
  exact ⟨_, _, rep_int rd, rep_int re, hC _ _ h1, PostG.ok p hh (.int _)⟩
theorem od_bool {f : Value → Value → Sem Value} {g : Int → Int → Bool} (h : OpR X f (rI0 fun i j => .bl (g i j))) : OpD γ X W f (oB g) := .of h fun Φ F θ S d e x y σ H Q rd re hh p => by
  cases d <;> cases e <;> first | exact p.elim | skip
  exact ⟨_, _, rep_int rd, rep_int re, PostG.ok p hh (.bl _)⟩
theorem od_sub : OpD γ X W (binaryOp .Sub) oSub := od_int op_sub
theorem od_mod : OpD γ X W (binaryOp .Mod) oMod := od_intc op_mod fun i j h => of_decide_eq_true h
theorem od_div : OpD γ X W (binaryOp .FloorDiv) oDiv := od_intc op_fdivW fun i j h => of_decide_eq_true h
theorem op_mulA : OpR X (binaryOp .Mult) (rI (fun i j => cMul i j = true) fun i j => .int (i * j)) := opI fun _ _ _ _ _ _ _ hc q => mul_int q (by
  rcases Bool.or_eq_true_iff.mp hc with z | z
  · exact CMul.ok (of_decide_eq_true z)
  · exact CMulW.ok (of_decide_eq_true z))
theorem od_mul : OpD γ X W (binaryOp .Mult) oMul := od_intc op_mulA fun i j h => h
theorem op_powA : OpR X (binaryOp .Pow) (rI (fun i j => cPow i j = true) fun i j => .int (i ^ j.toNat)) := opI fun _ _ _ _ _ _ _ hc q => by
  obtain ⟨a, b⟩ := Bool.and_eq_true_iff.mp hc
  exact pow_int (of_decide_eq_true a) (of_decide_eq_true b) q
theorem od_pow : OpD γ X W (binaryOp .Pow) oPow := od_intc op_powA fun i j h => h
theorem od_lt : OpD γ X W (compareOp .Lt) oLt := od_bool op_lt
theorem od_le : OpD γ X W (compareOp .LtE) oLe := od_bool op_le
theorem od_gt : OpD γ X W (compareOp .Gt) oGt := od_bool op_gt
theorem od_ge : OpD γ X W (compareOp .GtE) oGe := od_bool op_ge
theorem od_add : OpD γ X W (binaryOp .Add) oAdd := by
  intro pins s σ H x y v u Q Φ F θ S d e I rx ry rd re hh p
  have lists : ∀ l m, asL S d = some l → asL S e = some m → PostG ⟨X.K, γ⟩ Φ W σ F θ (Rep ⟨X.K, γ⟩) (mkL (l ++ m) S) Q → wpAny (model X.prog X.w) X.A (binaryOp .Add v u) (EP X pins σ Q) X.xe s := fun l m h1 h2 p => by
    obtain ⟨a, xs, rfl, e1, r1⟩ := asL_rep rd hh h1
    obtain ⟨b, ys, rfl, e2, r2⟩ := asL_rep re hh h2
    obtain ⟨hl, q⟩ := newL hh (r1.append r2) p
    exact op_cat pins s σ H _ _ v u Q I rx ry ⟨a, b, xs, ys, rfl, rfl, e1, e2, by rw [← List.length_append]; exact hl, q⟩
  have other : PostG ⟨X.K, γ⟩ Φ W σ F θ (Rep ⟨X.K, γ⟩) (match asL S d, asL S e with | some l, some m => mkL (l ++ m) S | _, _ => .bad) Q → wpAny (model X.prog X.w) X.A (binaryOp .Add v u) (EP X pins σ Q) X.xe s := fun p => by
    split at p
    · exact lists _ _ (by assumption) (by assumption) p
    · exact p.elim
  cases d with
  | int i =>
    cases e with
    | int j => exact op_add pins s σ H x y v u Q I rx ry ⟨_, _, rep_int rd, rep_int re, PostG.ok p hh (.int _)⟩
    | _ => exact other p
  | str i =>
    cases e with
    | str j =>
      obtain ⟨h1, p⟩ := post_if p
      exact op_add_str pins s σ H x y v u Q I rx ry ⟨_, _, rep_str rd, rep_str re, h1, PostG.ok p hh (.str _)⟩
    | _ => exact other p
  | _ => exact other p
theorem eq_post {Φ : Hp} {σ : L2.St} {F : Hp} {θ : List Addr} {S : Sto} {d e : Dv} {f : PyData → PyData → Bool} {x y : V} {H : Hp} {Q : VK} (rd : Rep ⟨X.K, γ⟩ F θ x d) (re : Rep ⟨X.K, γ⟩ F θ y e) (hh : HA ⟨X.K, γ⟩ Φ F θ S H)
    (p : PostG ⟨X.K, γ⟩ Φ W σ F θ (Rep ⟨X.K, γ⟩) (match toPy S d, toPy S e with
      | some p, some q => if (SeqAt.shaped p && SeqAt.shaped q) = true then .ok (.bl (f p q)) S else .bad
      | _, _ => .bad) Q) : ∃ d e, Dp X.K H x d ∧ Dp X.K H y e ∧ SeqAt.shaped d = true ∧ SeqAt.shaped e = true ∧ Q (.bl (f d e)) H := by
  split at p
  · rename_i a b h1 h2
    obtain ⟨h, p⟩ := post_if p
    obtain ⟨s1, s2⟩ := Bool.and_eq_true_iff.mp h
    exact ⟨a, b, toPy_rep hh rd h1, toPy_rep hh re h2, s1, s2, PostG.ok p hh (.bl _)⟩
  · exact p.elim
theorem eqF_post {f : Bool → Bool} {Φ : Hp} {σ : L2.St} {F : Hp} {θ : List Addr} {S : Sto} {d e : Dv} {x y : V} {H : Hp} {Q : VK} (rd : Rep ⟨X.K, γ⟩ F θ x d) (re : Rep ⟨X.K, γ⟩ F θ y e) (hh : HA ⟨X.K, γ⟩ Φ F θ S H) (p : PostG ⟨X.K, γ⟩ Φ W σ F θ (Rep ⟨X.K, γ⟩) (oEqF f d e S) Q) :
    (∃ a b, x = .str a ∧ y = .str b ∧ Q (.bl (f (a == b))) H) ∨ ∃ d e, Dp X.K H x d ∧ Dp X.K H y e ∧ SeqAt.shaped d = true ∧ SeqAt.shaped e = true ∧ Q (.bl (f (PyData.eqv d e))) H := by
  unfold oEqF at p
  split at p
  · exact .inl ⟨_, _, rep_str rd, rep_str re, p.ok hh (.bl _)⟩
  · exact .inr (eq_post (f := fun a b => f (PyData.eqv a b)) rd re hh p)
theorem od_eq (c : Ctx X W N sc k) : OpD γ X W (compareOp .Eq) oEq := .of (op_eq.or (op_eqD c.hr.units)) fun Φ F θ S d e x y σ H Q rd re hh p => by
  rcases eqF_post rd re hh p with ⟨a, b, rfl, rfl, q⟩ | q
  · exact .inl ⟨rfl, by rw [dec_str]; exact q⟩
  · exact .inr q
theorem od_ne (c : Ctx X W N sc k) : OpD γ X W (compareOp .NotEq) oNe := .of (op_ne.or (op_neD c.hr.units)) fun Φ F θ S d e x y σ H Q rd re hh p => by
  rcases eqF_post rd re hh p with ⟨a, b, rfl, rfl, q⟩ | q
  · exact .inl ⟨rfl, by rw [dec_str]; exact q⟩
  · exact .inr q
theorem od_is : OpD γ X W (compareOp .Is) oIs := .of op_isN fun Φ F θ S d e x y σ H Q rd re hh p => by
  cases e <;> first | (cases d <;> exact p.elim) | skip
  refine ⟨rep_non re, ?_⟩
  cases rd <;> first | exact p.elim | exact PostG.ok p hh (.bl _)
theorem od_isNot : OpD γ X W (compareOp .IsNot) oIsNot := .of op_notN fun Φ F θ S d e x y σ H Q rd re hh p => by
  cases e <;> first | (cases d <;> exact p.elim) | skip
  refine ⟨rep_non re, ?_⟩
  cases rd <;> first | exact p.elim | exact PostG.ok p hh (.bl _)
end
end DL
/-! The D layer, 7: in, subscripts, slices, chains; methods of lists; built-ins by name. -/
namespace DL
open PySem PySem.Spec PyProof.Rows L2
section
variable {γ : Nat → Addr} {X : Cx} {W : WX} {N : List Str} {sc : Scope} {k : Nat} {pos : Pos}

/-! ### in -/
def rInT (K : PySem.W.Frag) : R2 := fun x y H Q => ∃ d ds, Dp K H x d ∧ Dp K H y (.tuple ds) ∧ SeqAt.shaped d = true ∧ SeqAt.shaped (.tuple ds) = true ∧ Q (.bl (ds.any fun z => PyData.eqv z d)) H
def rNotInT (K : PySem.W.Frag) : R2 := fun x y H Q => ∃ d ds, Dp K H x d ∧ Dp K H y (.tuple ds) ∧ SeqAt.shaped d = true ∧ SeqAt.shaped (.tuple ds) = true ∧ Q (.bl (!ds.any fun z => PyData.eqv z d)) H
theorem room_in {A : Around} {d : PyData} {ds : List PyData} (sd : SeqAt.shaped d = true) (hu : A.units + 65 < cLine) : A.units + 1 + min (PyData.depthAll ds) d.depth < cLine := by
  have h1 := SeqAt.depth_of_shaped sd
  have h2 : min (PyData.depthAll ds) d.depth ≤ d.depth := Nat.min_le_right _ _
  omega
theorem canT {ds : List PyData} (se : SeqAt.shaped (.tuple ds) = true) : PyData.canLayAll0 ds = true := by
  have h := SeqAt.canLay_of_shaped se
  simpa only [PyData.canLay0] using h
theorem op_inT (hu : X.A.units + 65 < cLine) : OpR X (compareOp .In) (rInT X.K) := by
  intro pins s σ H x y v u Q I rx ry h
  obtain ⟨d, ds, hd, he, sd, se, q⟩ := h
  obtain ⟨as, r1⟩ := Dp.reads I d x v hd rx
  obtain ⟨bs, r2⟩ := Dp.reads I (.tuple ds) y u he ry
  exact SeqAt.in_tuple_reads r2 r1 (canT se) (SeqAt.canLay_of_shaped sd) (room_in sd hu) ⟨.bl _, H, I, rfl, q⟩
theorem op_notInT (hu : X.A.units + 65 < cLine) : OpR X (compareOp .NotIn) (rNotInT X.K) := by
  intro pins s σ H x y v u Q I rx ry h
  obtain ⟨d, ds, hd, he, sd, se, q⟩ := h
  obtain ⟨as, r1⟩ := Dp.reads I d x v hd rx
  obtain ⟨bs, r2⟩ := Dp.reads I (.tuple ds) y u he ry
  exact SeqAt.notIn_tuple_reads r2 r1 (canT se) (SeqAt.canLay_of_shaped sd) (room_in sd hu) ⟨.bl _, H, I, rfl, q⟩
theorem units65 (c : Ctx X W N sc k) : X.A.units + 65 < cLine := by have := c.hr.un; omega
theorem inD_post {neg : Bool} {Φ : Hp} {σ : L2.St} {F : Hp} {θ : List Addr} {S : Sto} {d e : Dv} {x y : V} {H : Hp} {Q : VK} (rd : Rep ⟨X.K, γ⟩ F θ x d) (re : Rep ⟨X.K, γ⟩ F θ y e) (hh : HA ⟨X.K, γ⟩ Φ F θ S H)
    (p : PostG ⟨X.K, γ⟩ Φ W σ F θ (Rep ⟨X.K, γ⟩) (inD neg d e S) Q) :
    (∃ (c : Nat) (z : Str), x = .str ⟨#[c]⟩ ∧ y = .str z ∧ Q (.bl (xor neg (decide (c ∈ z.cps.toList)))) H) ∨
    (∃ d ds, Dp X.K H x d ∧ Dp X.K H y (.list ds) ∧ SeqAt.shaped d = true ∧ SeqAt.shaped (.list ds) = true ∧ Q (.bl (xor neg (ds.any fun z => PyData.eqv z d))) H) ∨
    (∃ d ds, Dp X.K H x d ∧ Dp X.K H y (.tuple ds) ∧ SeqAt.shaped d = true ∧ SeqAt.shaped (.tuple ds) = true ∧ Q (.bl (xor neg (ds.any fun z => PyData.eqv z d))) H) := by
  unfold inD at p
  split at p
  · rename_i a z
    split at p
    · rename_i c hc
      refine .inl ⟨c, z, ?_, rep_str re, PostG.ok p hh (.bl _)⟩
      rw [rep_str rd]
      congr 1
      obtain ⟨⟨l⟩⟩ := a
      have : l = [c] := hc
      rw [this]
    · exact p.elim
  · split at p
    · rename_i a b h1 h2
      obtain ⟨h, p⟩ := post_if p
      obtain ⟨s1, s2⟩ := Bool.and_eq_true_iff.mp h
      exact .inr (.inl ⟨a, b, toPy_rep hh rd h1, toPy_rep hh re h2, s1, s2, PostG.ok p hh (.bl _)⟩)
    · rename_i a b h1 h2
      obtain ⟨h, p⟩ := post_if p
      obtain ⟨s1, s2⟩ := Bool.and_eq_true_iff.mp h
      exact .inr (.inr ⟨a, b, toPy_rep hh rd h1, toPy_rep hh re h2, s1, s2, PostG.ok p hh (.bl _)⟩)
    · exact p.elim
theorem od_in (c : Ctx X W N sc k) : OpD γ X W (compareOp .In) oIn := .of (op_in_sign.or ((op_inD (units65 c)).or (op_inT (units65 c)))) fun Φ F θ S d e x y σ H Q rd re hh p => by
  rcases inD_post rd re hh p with ⟨c, z, h1, h2, q⟩ | ⟨d, ds, h1, h2, h3, h4, q⟩ | ⟨d, ds, h1, h2, h3, h4, q⟩
  · exact .inl ⟨c, z, h1, h2, by simpa using q⟩
  · exact .inr (.inl ⟨d, ds, h1, h2, h3, h4, by simpa using q⟩)
  · exact .inr (.inr ⟨d, ds, h1, h2, h3, h4, by simpa using q⟩)
theorem od_notIn (c : Ctx X W N sc k) : OpD γ X W (compareOp .NotIn) oNotIn := .of (op_notIn_sign.or ((op_notInD (units65 c)).or (op_notInT (units65 c)))) fun Φ F θ S d e x y σ H Q rd re hh p => by
  rcases inD_post rd re hh p with ⟨c, z, h1, h2, q⟩ | ⟨d, ds, h1, h2, h3, h4, q⟩ | ⟨d, ds, h1, h2, h3, h4, q⟩
  · exact .inl ⟨c, z, h1, h2, by simpa using q⟩
  · exact .inr (.inl ⟨d, ds, h1, h2, h3, h4, by simpa using q⟩)
  · exact .inr (.inr ⟨d, ds, h1, h2, h3, h4, by simpa using q⟩)

/-! ### unary, chains -/
def uNeg : Dv → Sto → Re Dv
  | .int i, S => .ok (.int (-i)) S
  | _, _ => .bad
theorem ud_neg : UnD γ X W (unaryOp .USub) uNeg := by
  intro pins s σ H x v Q Φ F θ S d I rx rd hh p
  cases d <;> first | exact p.elim | skip
  exact un_neg pins s σ H x v Q I rx ⟨_, rep_int rd, PostG.ok p hh (.int _)⟩
def eCh (f g : Int → Int → Bool) (a b c : Ex) : Ex := fun ρ S => (a ρ S).bind fun x S1 => (b ρ S1).bind fun y S2 => match x, y with
  | .int i, .int j => if f i j = true then (c ρ S2).bind fun z S3 => match z with
      | .int m => .ok (.bl (g j m)) S3
      | _ => .bad
    else .ok (.bl false) S2
  | _, _ => .bad
theorem de_chain {op op' : CmpOp} {f g : Int → Int → Bool} {a b c' : Expr} {fa fb fc : Ex} (ho : OpR X (compareOp op) (rI0 fun i j => .bl (f i j))) (ho' : OpR X (compareOp op') (rI0 fun i j => .bl (g i j)))
    (ha : DE γ X W a fa) (hb : DE γ X W b fb) (hc : DE γ X W c' fc) (hm : lastMarks [op, op'] [b, c'] = false := by with_unfolding_all rfl) : DE γ X W (.Compare a [op, op'] [b, c'] pos) (eCh f g fa fb fc) :=
  PE.weak (pe_chain ho ho' ha hb hc hm) fun σ H Q ⟨Φ, ρ, F, θ, S, ea, hh, p⟩ => ⟨Φ, ρ, F, θ, S, ea, hh, PostG.seq p fun d S' x F' θ' H' _ e h' r p' =>
    ⟨Φ, ρ, F', θ', S', ea.ext e, h', PostG.seq p' fun d2 S2 y F2 θ2 H2 _ e2 h2 r2 p2 => by
      obtain ⟨i, rfl⟩ : ∃ i, d = .int i := by cases d <;> first | exact ⟨_, rfl⟩ | (cases d2 <;> exact p2.elim)
      obtain ⟨j, rfl⟩ : ∃ j, d2 = .int j := by cases d2 <;> first | exact ⟨_, rfl⟩ | exact p2.elim
      refine ⟨i, j, rep_int r, rep_int r2, f i j, rfl, ?_⟩
      by_cases h : f i j = true
      · simp only [h, if_true] at p2 ⊢
        exact ⟨Φ, ρ, F2, θ2, S2, (ea.ext e).ext e2, h2, PostG.seq p2 fun d3 S3 z F3 θ3 H3 _ e3 h3 r3 p3 => by
          cases d3 <;> first | exact p3.elim | skip
          exact ⟨j, _, rep_int r2, rep_int r3, PostG.ok p3 h3 (.bl _)⟩⟩
      · simp only [h, if_false] at p2 ⊢
        exact PostG.ok p2 h2 (.bl _)⟩⟩
theorem dt_chain {op op' : CmpOp} {f g : Int → Int → Bool} {a b c' : Expr} {fa fb fc : Ex} (ho : OpR X (compareOp op) (rI0 fun i j => .bl (f i j))) (ho' : OpR X (compareOp op') (rI0 fun i j => .bl (g i j)))
    (ha : DE γ X W a fa) (hb : DE γ X W b fb) (hc : DE γ X W c' fc) (hm : lastMarks [op, op'] [b, c'] = false := by with_unfolding_all rfl) : DTt γ X W (.Compare a [op, op'] [b, c'] pos) (tV (eCh f g fa fb fc)) :=
  PT.weak (pt_chain ho ho' ha hb hc hm) fun σ H Q ⟨Φ, ρ, F, θ, S, ea, hh, p⟩ => by
    have q : dG ⟨X.K, γ⟩ W (Rep ⟨X.K, γ⟩) (eCh f g fa fb fc) σ H (fun x H' => ∃ c, x = .bl c ∧ Q c H') := ⟨Φ, ρ, F, θ, S, ea, hh, tV_post p⟩
    obtain ⟨Φ, ρ, F, θ, S, ea, hh, p⟩ := q
    exact ⟨Φ, ρ, F, θ, S, ea, hh, PostG.seq p fun d S' x F' θ' H' _ e h' r p' =>
      ⟨Φ, ρ, F', θ', S', ea.ext e, h', PostG.seq p' fun d2 S2 y F2 θ2 H2 _ e2 h2 r2 p2 => by
        obtain ⟨i, rfl⟩ : ∃ i, d = .int i := by cases d <;> first | exact ⟨_, rfl⟩ | (cases d2 <;> exact p2.elim)
        obtain ⟨j, rfl⟩ : ∃ j, d2 = .int j := by cases d2 <;> first | exact ⟨_, rfl⟩ | exact p2.elim
        refine ⟨i, j, rep_int r, rep_int r2, f i j, rfl, ?_⟩
        by_cases h : f i j = true
        · simp only [h, if_true] at p2 ⊢
          exact ⟨Φ, ρ, F2, θ2, S2, (ea.ext e).ext e2, h2, PostG.seq p2 fun d3 S3 z F3 θ3 H3 _ e3 h3 r3 p3 => by
            cases d3 <;> first | exact p3.elim | skip
            exact ⟨j, _, rep_int r2, rep_int r3, PostG.ok p3 h3 (.bl _)⟩⟩
        · simp only [h, if_false] at p2 ⊢
          exact PostG.ok p2 h2 (.bl _)⟩⟩

/-! ### subscripts -/
def oIx : Dv → Dv → Sto → Re Dv
  | .str z, .int i, S => if z.length ≤ sizeLine then (match atI z.cps.toList i with
    | some c => .ok (.str ⟨#[c]⟩) S
    | none => .bad) else .bad
  | d, .int i, S => match asQ S d with
    | some l => match atI l i with
      | some x => .ok x S
      | none => .bad
    | none => .bad
  | _, _, _ => .bad
theorem atI_reps {M : Ev} {F : Hp} {θ : List Addr} {xs : List V} {l : List Dv} {i : Int} {d : Dv} (r : Reps M F θ xs l) (h : atI l i = some d) : ∃ v, atI xs i = some v ∧ Rep M F θ v d := by
  unfold atI at h ⊢
  rw [r.length]
  cases e : ixN l.length i with
  | none => rw [e] at h; cases h
  | some j =>
    rw [e] at h
    obtain ⟨v, h1, h2⟩ := r.get (i := j) h
    exact ⟨v, h1, h2⟩
theorem ix_post {Φ : Hp} {σ : L2.St} {F : Hp} {θ : List Addr} {S : Sto} {d e : Dv} {x y : V} {H : Hp} {Q : VK} (rd : Rep ⟨X.K, γ⟩ F θ x d) (re : Rep ⟨X.K, γ⟩ F θ y e) (hh : HA ⟨X.K, γ⟩ Φ F θ S H) (p : PostG ⟨X.K, γ⟩ Φ W σ F θ (Rep ⟨X.K, γ⟩) (oIx d e S) Q) : rIx X.K x y H Q := by
  cases e with
  | int i =>
    have other : PostG ⟨X.K, γ⟩ Φ W σ F θ (Rep ⟨X.K, γ⟩) (match asQ S d with | some l => (match atI l i with | some x => Re.ok x S | none => .bad) | none => .bad) Q → rIx X.K x y H Q := fun p => by
      split at p
      · rename_i l hl
        split at p
        · rename_i z hz
          obtain ⟨a, xs, rfl, hq, rs⟩ := asQ_rep rd hh hl
          obtain ⟨v, h1, h2⟩ := atI_reps rs hz
          rcases hq with hq | hq
          · exact .inl ⟨a, xs, i, v, rfl, rep_int re, hq, h1, PostG.ok p hh h2⟩
          · exact .inr (.inl ⟨a, xs, i, v, rfl, rep_int re, hq, h1, PostG.ok p hh h2⟩)
        · exact p.elim
      · exact p.elim
    cases d with
    | str z =>
      obtain ⟨h1, p⟩ := post_if p
      split at p
      · rename_i c hc
        exact .inr (.inr ⟨z, i, c, rep_str rd, rep_int re, h1, hc, PostG.ok p hh (.str _)⟩)
      · exact p.elim
    | _ => exact other p
  | _ => cases d <;> exact p.elim
theorem de_ix {a b : Expr} {fa fb : Ex} (ha : DE γ X W a fa) (hb : DE γ X W b fb) (hs : PlainIx b := by intro _ _; rfl) : DE γ X W (.Subscript a b pos) (e2 oIx fa fb) :=
  PE.weak (pe_ix ix_seq ha hb hs) fun σ H Q ⟨Φ, ρ, F, θ, S, ea, hh, p⟩ => ⟨Φ, ρ, F, θ, S, ea, hh, PostG.seq p fun d S' x F' θ' H' _ e h' r p' =>
    ⟨Φ, ρ, F', θ', S', ea.ext e, h', PostG.seq p' fun d2 S2 y F2 θ2 H2 _ e2 h2 r2 p2 => ix_post (r.ext e2) r2 h2 p2⟩⟩

/-! ### slices -/
abbrev Xo := En → Sto → Re (Option Int)
abbrev DO (γ : Nat → Addr) (X : Cx) (W : WX) (e : Option Expr) (f : Xo) : Prop := PO X e (dG ⟨X.K, γ⟩ W (fun _ _ b a => b = a) f)
theorem PO.weak {e : Option Expr} {t u : TO} (h : PO X e t) (kk : ∀ σ H Q, u σ H Q → t σ H Q) : PO X e u := ⟨fun pins s σ H Q I q => h.run pins s σ H Q I (kk σ H Q q)⟩
def xNone : Xo := fun _ S => .ok none S
def xSome (f : Ex) : Xo := fun ρ S => (f ρ S).bind fun d S' => match d with
  | .int i => .ok (some i) S'
  | _ => .bad
theorem do_none : DO γ X W none xNone := PO.weak po_none fun σ H Q ⟨Φ, ρ, F, θ, S, ea, hh, p⟩ => PostG.ok p hh rfl
theorem do_some {e : Expr} {f : Ex} (h : DE γ X W e f) : DO γ X W (some e) (xSome f) := PO.weak (po_some h) fun σ H Q ⟨Φ, ρ, F, θ, S, ea, hh, p⟩ => ⟨Φ, ρ, F, θ, S, ea, hh, PostG.seq p fun d S' x F' θ' H' _ e h' r p' => by
  cases d <;> first | exact p'.elim | skip
  exact ⟨_, rep_int r, PostG.ok p' h' rfl⟩⟩
def cutD {α : Type} (xs : List α) (lo hi : Option Int) : List α := (xs.drop (HT.sIx xs.length 0 lo)).take (HT.sIx xs.length xs.length hi - HT.sIx xs.length 0 lo)
def oSl (d : Dv) (lo hi : Option Int) (S : Sto) : Re Dv := match d with
  | .str z => if z.length ≤ sizeLine then .ok (.str (cutS z lo hi)) S else .bad
  | .tup l => .ok (.tup (cutD l lo hi)) S
  | d => match asR S d with
    | some l => .ok (.lst (cutD l lo hi)) S
    | none => .bad
def eSl (a : Ex) (lo hi : Xo) : Ex := fun ρ S => (a ρ S).bind fun x S1 => (lo ρ S1).bind fun l S2 => (hi ρ S2).bind fun u S3 => oSl x l u S3
theorem sl_post {Φ : Hp} {σ : L2.St} {F : Hp} {θ : List Addr} {S : Sto} {d : Dv} {lo hi : Option Int} {x : V} {H : Hp} {Q : VK} (rd : Rep ⟨X.K, γ⟩ F θ x d) (hh : HA ⟨X.K, γ⟩ Φ F θ S H) (p : PostG ⟨X.K, γ⟩ Φ W σ F θ (Rep ⟨X.K, γ⟩) (oSl d lo hi S) Q) :
    rSlL X.K x lo hi H Q ∨ rSlA X.K x lo hi H Q ∨ rSlS x lo hi H Q := by
  have cut : ∀ {xs : List V} {l : List Dv}, Reps ⟨X.K, γ⟩ F θ xs l → Reps ⟨X.K, γ⟩ F θ (cutV xs lo hi) (cutD l lo hi) := fun {xs l} r => by
    unfold cutV cutD
    rw [r.length]
    exact Reps.take _ (Reps.drop _ r)
  have other : PostG ⟨X.K, γ⟩ Φ W σ F θ (Rep ⟨X.K, γ⟩) (match asR S d with | some l => Re.ok (.lst (cutD l lo hi)) S | none => .bad) Q → rSlL X.K x lo hi H Q := fun p => by
    split at p
    · rename_i l hl
      obtain ⟨a, xs, rfl, hq, rs⟩ := asR_rep rd hh hl
      refine ⟨a, xs, rfl, hq, fun b hb => ?_⟩
      obtain ⟨e, h'⟩ := hh.alloc (.lst (cutV xs lo hi)) hb
      exact p _ _ _ _ e h' (.lst upd_same ((cut rs).ext e))
    · exact p.elim
  cases d with
  | str z =>
    obtain ⟨h1, p⟩ := post_if p
    exact .inr (.inr ⟨z, rep_str rd, h1, PostG.ok p hh (.str _)⟩)
  | tup l =>
    obtain ⟨a, xs, rfl, hq, rs⟩ := asT_rep rd hh rfl
    refine .inr (.inl ⟨a, xs, rfl, hq, fun hw => ?_, fun _ b hb => ?_⟩)
    · refine PostG.ok p hh ?_
      have e : cutD l lo hi = l := by
        unfold cutD
        rw [← rs.length, hw.1, hw.2]
        simp [rs.length]
      rw [e]
      exact rd
    · obtain ⟨e, h'⟩ := hh.alloc (.tup (cutV xs lo hi)) hb
      exact p _ _ _ _ e h' (.tup (.inl (.inl upd_same)) ((cut rs).ext e))
  | _ => exact .inl (other p)
theorem de_slice {a : Expr} {lo hi : Option Expr} {fa : Ex} {fl fh : Xo} {p2 : Pos} (ha : DE γ X W a fa) (hl : DO γ X W lo fl) (hh : DO γ X W hi fh) : DE γ X W (.Subscript a (.Slice lo hi none p2) pos) (eSl fa fl fh) :=
  PE.weak (pe_slice (sl_list.or (sl_tupA.or sl_str)) ha hl hh) fun σ H Q ⟨Φ, ρ, F, θ, S, ea, hh, p⟩ => ⟨Φ, ρ, F, θ, S, ea, hh, PostG.seq p fun d S' x F' θ' H' _ e h' r p' =>
    ⟨Φ, ρ, F', θ', S', ea.ext e, h', PostG.seq p' fun l S2 y F2 θ2 H2 _ e2 h2 r2 p2 =>
      ⟨Φ, ρ, F2, θ2, S2, (ea.ext e).ext e2, h2, PostG.seq p2 fun u S3 z F3 θ3 H3 _ e3 h3 r3 p3 => by
        cases r2
        cases r3
        exact sl_post ((r.ext e2).ext e3) h3 p3⟩⟩⟩

/-! ### o[i] = v -/
/-- a store into a list in a cell -/
def gIx (o i : Ex) : Gt := fun d ρ S => match o ρ S with
  | .ok (.cell k) S1 => match i ρ S1 with
    | .ok (.int j) S2 => match S2[k]? with
      | some (.lst l) => match ixN l.length j with
        | some m => some (ρ, S2.set k (.lst (l.set m d)))
        | none => none
      | _ => none
    | _ => none
  | _ => none
theorem dg_ix {o i : Expr} {fo fi : Ex} (ho : DE γ X W o fo) (hi : DE γ X W i fi) (ha : ∀ v, assign (.Subscript o i pos) X.env v = (do
      let ov ← holding [v] (eval o X.env)
      let iv ← holding [v, ov] (eval i X.env)
      standAt pos
      holding [v, ov, iv] (setItem ov iv v)
      release [v, ov, iv] []) := by intro _; rfl) : DG γ X (.Subscript o i pos) (gIx fo fi) :=
  PG.weak (pg_sub ho hi set_list ha) fun v σ H Q ⟨Φ, ρ, F, θ, S, d, ea, hh, r, p⟩ => by
    unfold gIx at p
    split at p
    · rename_i kc S1 e1
      split at p
      · rename_i j S2 e2
        split at p
        · rename_i l hk
          split at p
          · rename_i m hm
            refine ⟨Φ, ρ, F, θ, S, ea, hh, ?_⟩
            rw [e1]
            intro vo F1 θ1 H1 g1 h1 r1
            refine ⟨Φ, ρ, F1, θ1, S1, ea.ext g1, h1, ?_⟩
            rw [e2]
            intro vi F2 θ2 H2 g2 h2 r2
            have r1' := r1.ext g2
            cases r1' with
            | @cell _ a ha =>
              obtain ⟨_, ob, h5, h6⟩ := h2.live _ _ _ ha hk (by intro z; cases z)
              cases ob <;> first | exact h6.elim | skip
              rename_i xs
              have h6 : Reps ⟨X.K, γ⟩ F2 θ2 xs l := h6
              refine ⟨a, xs, j, m, rfl, rep_int r2, h5, by rw [h6.length]; exact hm, ?_⟩
              exact p σ F2 θ2 _ (g1.trans g2) ((ea.ext g1).ext g2) (h2.setCell ha hk (by intro z; cases z) (o' := .lst (xs.set m v)) (ob' := .lst (l.set m d)) (Reps.set ((r.ext g1).ext g2) m h6))
          · exact p.elim
        · exact p.elim
      · exact p.elim
    · exact p.elim
end
end DL
/-! The D layer, 8: built-ins called by name; methods of lists. -/
namespace DL
open PySem PySem.Spec PyProof.Rows L2
section
variable {γ : Nat → Addr} {X : Cx} {W : WX} {N : List Str} {sc : Scope} {k : Nat} {pos : Pos}

/-- a built-in's call behaves as g -/
def BuD (γ : Nat → Addr) (X : Cx) (W : WX) (u : Value) (g : Fn) : Prop :=
  ∀ (pins : List (Addr × Obj)) (s : Shared) (σ : L2.St) (H : Hp) (vs : List V) (us : List Value) (Q : VK) (Φ F : Hp) (θ : List Addr) (S : Sto) (ds : List Dv), Inv X pins σ H s → Vals vs us → Reps ⟨X.K, γ⟩ F θ vs ds → HA ⟨X.K, γ⟩ Φ F θ S H →
    PostG ⟨X.K, γ⟩ Φ W σ F θ (Rep ⟨X.K, γ⟩) (g ds S) Q → wpAny (model X.prog X.w) X.A (call u us) (EP X pins σ Q) X.xe s
theorem BuD.of {u : Value} {g : Fn} {r : List V → Hp → VK → Prop} (h : CallR X u r) (kr : ∀ Φ F θ S ds vs σ H Q, Reps ⟨X.K, γ⟩ F θ vs ds → HA ⟨X.K, γ⟩ Φ F θ S H → PostG ⟨X.K, γ⟩ Φ W σ F θ (Rep ⟨X.K, γ⟩) (g ds S) Q → r vs H Q) : BuD γ X W u g :=
  fun pins s σ H vs us Q Φ F θ S ds I rv rd hh p => h pins s σ H vs us Q I rv (kr Φ F θ S ds vs σ H Q rd hh p)
theorem de_bu {id : String} {x : Str} {g : Fn} {e : Expr} {es : List Expr} {fa : Xs} {p : Pos} (hc : BuD γ X W (.builtin id) g) (hg : sc.names.lookup x = some .globalImplicit) (c : Ctx X W N sc k) (hm : X.mg x = none) (hv : bootBuiltins x = some (.builtin id)) (ha : DAs γ X W (e :: es) fa)
    (hn : x ≠ "__name__" := by decide) (hdb : (x == ("__debug__" : Str)) = false := by decide) (he : starEach (e :: es) X.env = (false, eval e X.env) :: starEach es X.env := by rfl) (hpl : (backTo pos (starEach es X.env)).any (·.1) = false := by rfl) :
    DE γ X W (.Call (.Name x p) (e :: es) [] pos) (eN g fa) := by
  refine ⟨fun pins s σ H Q I ⟨Φ, ρ, F, θ, S, ea, hh, p⟩ => ?_⟩
  refine wpAny_Call_Name_kw (ld_blt I (show X.env.scope.names.lookup x = some .globalImplicit by rw [c.hsc]; exact hg) hm hv ?_ hn hdb)
  refine PyProof.Rows.callWith_builtin1 (thn (ha.run pos pins s σ H (fun vs H' => ∃ F θ S ds, Reps ⟨X.K, γ⟩ F θ vs ds ∧ HA ⟨X.K, γ⟩ Φ F θ S H' ∧ PostG ⟨X.K, γ⟩ Φ W σ F θ (Rep ⟨X.K, γ⟩) (g ds S) Q) I ?_) fun us s1 ⟨vs, H1, I1, r1, F1, θ1, S1, ds, rd, h1, p1⟩ => hc pins s1 σ H1 vs us Q Φ F1 θ1 S1 ds I1 r1 rd h1 p1) he hpl
  exact ⟨Φ, ρ, F, θ, S, ea, hh, PostG.seq p fun ds S' vs F' θ' H' _ e h' r p' => ⟨F', θ', S', ds, r, h', p'⟩⟩
theorem de_ty {T : String} {x : Str} {g : Fn} {e : Expr} {es : List Expr} {fa : Xs} {p : Pos} (hc : BuD γ X W (.type T) g) (hg : sc.names.lookup x = some .globalImplicit) (c : Ctx X W N sc k) (hm : X.mg x = none) (hv : bootBuiltins x = some (.type T)) (ha : DAs γ X W (e :: es) fa)
    (hn : x ≠ "__name__" := by decide) (hdb : (x == ("__debug__" : Str)) = false := by decide) (he : starEach (e :: es) X.env = (false, eval e X.env) :: starEach es X.env := by rfl) (hpl : (backTo pos (starEach es X.env)).any (·.1) = false := by rfl) :
    DE γ X W (.Call (.Name x p) (e :: es) [] pos) (eN g fa) := by
  refine ⟨fun pins s σ H Q I ⟨Φ, ρ, F, θ, S, ea, hh, p⟩ => ?_⟩
  refine wpAny_Call_Name_kw (ld_blt I (show X.env.scope.names.lookup x = some .globalImplicit by rw [c.hsc]; exact hg) hm hv ?_ hn hdb)
  refine PyProof.Rows.callWith_type1 (thn (ha.run pos pins s σ H (fun vs H' => ∃ F θ S ds, Reps ⟨X.K, γ⟩ F θ vs ds ∧ HA ⟨X.K, γ⟩ Φ F θ S H' ∧ PostG ⟨X.K, γ⟩ Φ W σ F θ (Rep ⟨X.K, γ⟩) (g ds S) Q) I ?_) fun us s1 ⟨vs, H1, I1, r1, F1, θ1, S1, ds, rd, h1, p1⟩ => hc pins s1 σ H1 vs us Q Φ F1 θ1 S1 ds I1 r1 rd h1 p1) he hpl
  exact ⟨Φ, ρ, F, θ, S, ea, hh, PostG.seq p fun ds S' vs F' θ' H' _ e h' r p' => ⟨F', θ', S', ds, r, h', p'⟩⟩

/-! ### len, int, abs, min, max, sum, any, all -/
def bLen : Fn := fun ds S => match ds with
  | [.str z] => if z.length ≤ sizeLine then .ok (.int z.length) S else .bad
  | [d] => match asQ S d with
    | some l => .ok (.int l.length) S
    | none => .bad
  | _ => .bad
theorem bu_len : BuD γ X W (.builtin "len") bLen := .of (call_len_seq.or call_len_str) fun Φ F θ S ds vs σ H Q rd hh p => by
  match ds, rd, p with
  | [], rd, p => exact p.elim
  | _ :: _ :: _, rd, p =>
    rename_i a b l
    cases a <;> exact p.elim
  | [d], rd, p =>
    obtain ⟨v, rfl, r⟩ := reps1 rd
    have other : PostG ⟨X.K, γ⟩ Φ W σ F θ (Rep ⟨X.K, γ⟩) (match asQ S d with | some l => Re.ok (.int l.length) S | none => .bad) Q → ∃ p ys, [v] = [V.ref p] ∧ (SqL X.K H p ys ∨ SqT X.K H p ys) ∧ Q (.int ys.length) H := fun p => by
      split at p
      · rename_i l hl
        obtain ⟨a, xs, rfl, hq, rs⟩ := asQ_rep r hh hl
        exact ⟨a, xs, rfl, hq, by rw [rs.length]; exact PostG.ok p hh (.int _)⟩
      · exact p.elim
    cases d with
    | str z =>
      obtain ⟨h1, p⟩ := post_if p
      exact .inr ⟨z, by rw [rep_str r], h1, PostG.ok p hh (.int _)⟩
    | _ => exact .inl (other p)
def bInt : Fn := fun ds S => match ds with
  | [.int i] => .ok (.int i) S
  | [.bl b] => .ok (.int (if b = true then 1 else 0)) S
  | _ => .bad
theorem bu_int : BuD γ X W (.type "int") bInt := .of call_int1 fun Φ F θ S ds vs σ H Q rd hh p => by
  unfold bInt at p
  split at p
  · obtain ⟨v, rfl, r⟩ := reps1 rd
    exact .inl ⟨_, by rw [rep_int r], PostG.ok p hh (.int _)⟩
  · obtain ⟨v, rfl, r⟩ := reps1 rd
    exact .inr ⟨_, by rw [rep_bl r], PostG.ok p hh (.int _)⟩
  · exact p.elim
def bAbs : Fn := fun ds S => match ds with
  | [.int i] => .ok (.int (if i < 0 then -i else i)) S
  | _ => .bad
theorem bu_abs : BuD γ X W (.builtin "abs") bAbs := .of call_abs fun Φ F θ S ds vs σ H Q rd hh p => by
  unfold bAbs at p
  split at p
  · obtain ⟨v, rfl, r⟩ := reps1 rd
    exact ⟨_, by rw [rep_int r], PostG.ok p hh (.int _)⟩
  · exact p.elim
/-- the ints of a list -/
def intsD : List Dv → Option (List Int)
  | [] => some []
  | .int i :: r => (intsD r).map fun l => i :: l
  | _ => none
def blsD : List Dv → Option (List Bool)
  | [] => some []
  | .bl i :: r => (blsD r).map fun l => i :: l
  | _ => none
theorem intsD_rep {M : Ev} {F : Hp} {θ : List Addr} : ∀ {xs : List V} {l : List Dv} {ns : List Int}, Reps M F θ xs l → intsD l = some ns → xs = ns.map V.int
  | _, _, _, .nil, e => by rw [intsD] at e; cases e; rfl
  | _, _, _, .cons (d := d) r t, e => by
    cases d <;> first | (simp [intsD] at e; done) | skip
    rw [intsD, Option.map_eq_some_iff] at e
    obtain ⟨l, e, rfl⟩ := e
    rw [rep_int r, intsD_rep t e]
    rfl
theorem blsD_rep {M : Ev} {F : Hp} {θ : List Addr} : ∀ {xs : List V} {l : List Dv} {ns : List Bool}, Reps M F θ xs l → blsD l = some ns → xs = ns.map V.bl
  | _, _, _, .nil, e => by rw [blsD] at e; cases e; rfl
  | _, _, _, .cons (d := d) r t, e => by
    cases d <;> first | (simp [blsD] at e; done) | skip
    rw [blsD, Option.map_eq_some_iff] at e
    obtain ⟨l, e, rfl⟩ := e
    rw [rep_bl r, blsD_rep t e]
    rfl
theorem intsD_map (ns : List Int) : intsD (ns.map Dv.int) = some ns := by
  induction ns with
  | nil => rfl
  | cons n ns ih => rw [List.map_cons, intsD, ih]; rfl
theorem blsD_map (ns : List Bool) : blsD (ns.map Dv.bl) = some ns := by
  induction ns with
  | nil => rfl
  | cons n ns ih => rw [List.map_cons, blsD, ih]; rfl
def maxL : Int → List Int → Int
  | m, [] => m
  | m, x :: r => maxL (if m < x then x else m) r
def minL : Int → List Int → Int
  | m, [] => m
  | m, x :: r => minL (if x < m then x else m) r
theorem maxL_ge : ∀ (l : List Int) (m : Int), m ≤ maxL m l ∧ ∀ x ∈ l, x ≤ maxL m l
  | [], m => ⟨by rw [maxL]; exact Int.le_refl m, fun x h => by simp at h⟩
  | y :: r, m => by
    obtain ⟨h1, h2⟩ := maxL_ge r (if m < y then y else m)
    rw [maxL]
    have h3 : m ≤ (if m < y then y else m) ∧ y ≤ (if m < y then y else m) := by split <;> omega
    refine ⟨by omega, fun x hx => ?_⟩
    rcases List.mem_cons.mp hx with rfl | hx
    · omega
    · exact h2 x hx
theorem maxL_mem : ∀ (l : List Int) (m : Int), maxL m l = m ∨ maxL m l ∈ l
  | [], m => .inl (by rw [maxL])
  | y :: r, m => by
    rw [maxL]
    rcases maxL_mem r (if m < y then y else m) with h | h
    · rw [h]
      split
      · exact .inr (List.mem_cons_self ..)
      · exact .inl rfl
    · exact .inr (List.mem_cons_of_mem _ h)
theorem minL_le : ∀ (l : List Int) (m : Int), minL m l ≤ m ∧ ∀ x ∈ l, minL m l ≤ x
  | [], m => ⟨by rw [minL]; exact Int.le_refl m, fun x h => by simp at h⟩
  | y :: r, m => by
    obtain ⟨h1, h2⟩ := minL_le r (if y < m then y else m)
    rw [minL]
    have h3 : (if y < m then y else m) ≤ m ∧ (if y < m then y else m) ≤ y := by split <;> omega
    refine ⟨by omega, fun x hx => ?_⟩
    rcases List.mem_cons.mp hx with rfl | hx
    · omega
    · exact h2 x hx
theorem minL_mem : ∀ (l : List Int) (m : Int), minL m l = m ∨ minL m l ∈ l
  | [], m => .inl (by rw [minL])
  | y :: r, m => by
    rw [minL]
    rcases minL_mem r (if y < m then y else m) with h | h
    · rw [h]
      split
      · exact .inr (List.mem_cons_self ..)
      · exact .inl rfl
    · exact .inr (List.mem_cons_of_mem _ h)
def bMax : Fn := fun ds S => match ds with
  | [.int i, .int j] => .ok (.int (if j > i then j else i)) S
  | [d] => match (asR S d).bind intsD with
    | some (m :: r) => .ok (.int (maxL m r)) S
    | _ => .bad
  | _ => .bad
def bMin : Fn := fun ds S => match ds with
  | [.int i, .int j] => .ok (.int (if j < i then j else i)) S
  | [d] => match (asR S d).bind intsD with
    | some (m :: r) => .ok (.int (minL m r)) S
    | _ => .bad
  | _ => .bad
theorem bu_max (c : Ctx X W N sc k) : BuD γ X W (.builtin "max") bMax := .of ((call_max2 c.calm).or (cr_max c.calm)) fun Φ F θ S ds vs σ H Q rd hh p => by
  unfold bMax at p
  split at p
  · obtain ⟨v, w, rfl, r1, r2⟩ := reps2 rd
    exact .inl ⟨_, _, by rw [rep_int r1, rep_int r2], PostG.ok p hh (.int _)⟩
  · obtain ⟨v, rfl, r⟩ := reps1 rd
    split at p
    · rename_i m l hl
      obtain ⟨l', h1, h2⟩ := Option.bind_eq_some_iff.mp hl
      obtain ⟨a, xs, rfl, hq, rs⟩ := asR_rep r hh h1
      have e := intsD_rep rs h2
      subst e
      refine .inr ⟨a, m :: l, rfl, hq, Nat.succ_pos _, fun z hz hm => ?_⟩
      have e : z = maxL m l := by
        obtain ⟨g1, g2⟩ := maxL_ge l m
        have h3 : z ≤ maxL m l := by
          rcases List.mem_cons.mp hz with rfl | hz
          · exact g1
          · exact g2 z hz
        have h4 : maxL m l ≤ z := by
          rcases maxL_mem l m with e | e
          · exact hm _ (by rw [e]; exact List.mem_cons_self ..)
          · exact hm _ (List.mem_cons_of_mem _ e)
        omega
      subst e
      exact PostG.ok p hh (.int _)
    · exact p.elim
  · exact p.elim
theorem bu_min (c : Ctx X W N sc k) : BuD γ X W (.builtin "min") bMin := .of ((call_min2 c.calm).or (cr_min c.calm)) fun Φ F θ S ds vs σ H Q rd hh p => by
  unfold bMin at p
  split at p
  · obtain ⟨v, w, rfl, r1, r2⟩ := reps2 rd
    exact .inl ⟨_, _, by rw [rep_int r1, rep_int r2], PostG.ok p hh (.int _)⟩
  · obtain ⟨v, rfl, r⟩ := reps1 rd
    split at p
    · rename_i m l hl
      obtain ⟨l', h1, h2⟩ := Option.bind_eq_some_iff.mp hl
      obtain ⟨a, xs, rfl, hq, rs⟩ := asR_rep r hh h1
      have e := intsD_rep rs h2
      subst e
      refine .inr ⟨a, m :: l, rfl, hq, Nat.succ_pos _, fun z hz hm => ?_⟩
      have e : z = minL m l := by
        obtain ⟨g1, g2⟩ := minL_le l m
        have h3 : minL m l ≤ z := by
          rcases List.mem_cons.mp hz with rfl | hz
          · exact g1
          · exact g2 z hz
        have h4 : z ≤ minL m l := by
          rcases minL_mem l m with e | e
          · exact hm _ (by rw [e]; exact List.mem_cons_self ..)
          · exact hm _ (List.mem_cons_of_mem _ e)
        omega
      subst e
      exact PostG.ok p hh (.int _)
    · exact p.elim
  · exact p.elim
def bSum : Fn := fun ds S => match ds with
  | [d] => match (asR S d).bind intsD with
    | some l => .ok (.int l.sum) S
    | _ => .bad
  | _ => .bad
def bAny : Fn := fun ds S => match ds with
  | [d] => match (asR S d).bind blsD with
    | some l => .ok (.bl (l.any id)) S
    | _ => .bad
  | _ => .bad
def bAll : Fn := fun ds S => match ds with
  | [d] => match (asR S d).bind blsD with
    | some l => .ok (.bl (l.all id)) S
    | _ => .bad
  | _ => .bad
theorem bu_sum (c : Ctx X W N sc k) : BuD γ X W (.builtin "sum") bSum := .of (cr_sum c.calm) fun Φ F θ S ds vs σ H Q rd hh p => by
  unfold bSum at p
  split at p
  · obtain ⟨v, rfl, r⟩ := reps1 rd
    split at p
    · rename_i l hl
      obtain ⟨l', h1, h2⟩ := Option.bind_eq_some_iff.mp hl
      obtain ⟨a, xs, rfl, hq, rs⟩ := asR_rep r hh h1
      have e := intsD_rep rs h2
      subst e
      exact ⟨a, l, rfl, hq, PostG.ok p hh (.int _)⟩
    · exact p.elim
  · exact p.elim
theorem bu_any (c : Ctx X W N sc k) : BuD γ X W (.builtin "any") bAny := .of (cr_any c.calm) fun Φ F θ S ds vs σ H Q rd hh p => by
  unfold bAny at p
  split at p
  · obtain ⟨v, rfl, r⟩ := reps1 rd
    split at p
    · rename_i l hl
      obtain ⟨l', h1, h2⟩ := Option.bind_eq_some_iff.mp hl
      obtain ⟨a, xs, rfl, hq, rs⟩ := asR_rep r hh h1
      have e := blsD_rep rs h2
      subst e
      exact ⟨a, l, rfl, hq, PostG.ok p hh (.bl _)⟩
    · exact p.elim
  · exact p.elim
theorem bu_all (c : Ctx X W N sc k) : BuD γ X W (.builtin "all") bAll := .of (cr_all c.calm) fun Φ F θ S ds vs σ H Q rd hh p => by
  unfold bAll at p
  split at p
  · obtain ⟨v, rfl, r⟩ := reps1 rd
    split at p
    · rename_i l hl
      obtain ⟨l', h1, h2⟩ := Option.bind_eq_some_iff.mp hl
      obtain ⟨a, xs, rfl, hq, rs⟩ := asR_rep r hh h1
      have e := blsD_rep rs h2
      subst e
      exact ⟨a, l, rfl, hq, PostG.ok p hh (.bl _)⟩
    · exact p.elim
  · exact p.elim

/-! ### list(..), tuple(..) -/
def bList : Fn := fun ds S => match ds with
  | [d] => match asQ S d with
    | some l => .ok (.lst l) S
    | _ => .bad
  | _ => .bad
def bListC : Fn := fun ds S => match ds with
  | [d] => match asQ S d with
    | some l => .ok (.cell S.length) (S ++ [.lst l])
    | _ => .bad
  | _ => .bad
theorem bu_list : BuD γ X W (.type "list") bList := .of call_list_of fun Φ F θ S ds vs σ H Q rd hh p => by
  unfold bList at p
  split at p
  · obtain ⟨v, rfl, r⟩ := reps1 rd
    split at p
    · rename_i l hl
      obtain ⟨a, xs, rfl, hq, rs⟩ := asQ_rep r hh hl
      refine ⟨a, xs, rfl, hq, fun b hb => ?_⟩
      obtain ⟨e, h'⟩ := hh.alloc (.lst xs) hb
      exact p _ _ _ _ e h' (.lst upd_same (rs.ext e))
    · exact p.elim
  · exact p.elim
theorem bu_listC : BuD γ X W (.type "list") bListC := .of call_list_of fun Φ F θ S ds vs σ H Q rd hh p => by
  unfold bListC at p
  split at p
  · obtain ⟨v, rfl, r⟩ := reps1 rd
    split at p
    · rename_i l hl
      obtain ⟨a, xs, rfl, hq, rs⟩ := asQ_rep r hh hl
      refine ⟨a, xs, rfl, hq, fun b hb => ?_⟩
      obtain ⟨e, h'⟩ := hh.newCell (o := .lst xs) (ob := .lst l) hb rs
      refine p _ _ _ _ e h' (.cell ?_)
      rw [← hh.len, List.getElem?_append_right (Nat.le_refl _), Nat.sub_self]
      rfl
    · exact p.elim
  · exact p.elim
def bTuple : Fn := fun ds S => match ds with
  | [.tup l] => .ok (.tup l) S
  | [.ktup l] => .ok (.ktup l) S
  | [d] => match asR S d with
    | some l => .ok (.tup l) S
    | none => .bad
  | _ => .bad
theorem bu_tuple : BuD γ X W (.type "tuple") bTuple := .of call_tuple_of fun Φ F θ S ds vs σ H Q rd hh p => by
  match ds, rd, p with
  | [], rd, p => exact p.elim
  | a :: _ :: _, rd, p => cases a <;> exact p.elim
  | [d], rd, p =>
    obtain ⟨v, rfl, r⟩ := reps1 rd
    have other : PostG ⟨X.K, γ⟩ Φ W σ F θ (Rep ⟨X.K, γ⟩) (match asR S d with | some l => Re.ok (.tup l) S | none => .bad) Q → ∃ p ys, [v] = [V.ref p] ∧ ((SqL X.K H p ys ∧ ∀ l, H l = none → Q (.ref l) (upd H l (.tup ys))) ∨ (SqT X.K H p ys ∧ Q (.ref p) H)) := fun p => by
      split at p
      · rename_i l hl
        obtain ⟨a, xs, rfl, hq, rs⟩ := asR_rep r hh hl
        refine ⟨a, xs, rfl, .inl ⟨hq, fun b hb => ?_⟩⟩
        obtain ⟨e, h'⟩ := hh.alloc (.tup xs) hb
        exact p _ _ _ _ e h' (.tup (.inl (.inl upd_same)) (rs.ext e))
      · exact p.elim
    cases d with
    | tup l =>
      obtain ⟨a, xs, rfl, hq, rs⟩ := asT_rep r hh rfl
      exact ⟨a, xs, rfl, .inr ⟨hq, PostG.ok p hh r⟩⟩
    | ktup l =>
      obtain ⟨a, xs, rfl, hq, rs⟩ := asT_rep r hh rfl
      exact ⟨a, xs, rfl, .inr ⟨hq, PostG.ok p hh r⟩⟩
    | _ => first | exact other p | exact other (by simpa only [bTuple] using p)
/-- tuple(a list): a tuple whose object is known whole -/
def bTupleK : Fn := fun ds S => match ds with
  | [d] => match asR S d with
    | some l => .ok (.ktup l) S
    | _ => .bad
  | _ => .bad
theorem call_tuple_known : CallR X (.type "tuple") (fun xs H Q => ∃ p ys, xs = [.ref p] ∧ SqL X.K H p ys ∧ ∀ l o, H l = none → o.dict = none → Q (.ref l) (upd H l (.frz o (.tup ys)))) := by
  intro pins s σ H xs us Q I r h
  obtain ⟨p, ys, rfl, hq, q⟩ := h
  obtain ⟨u, rfl, rx⟩ := vals1 r
  cases rx
  obtain ⟨its, r', pl, hz⟩ := I.list hq
  have hlen := r'.length
  refine call_tuple_list pl.isList (fun h' kp => ?_) (by simp only [List.size_toArray] <;> omega)
  have I1 : Inv X pins σ H { s with heap := h' } := I.kept (t' := s.toks) kp
  have I2 : Inv X pins σ (upd H h'.objs.size (.frz { cls := .type "tuple", data := .seq its.toArray } (.tup ys))) { s with heap := h'.push { cls := .type "tuple", data := .seq its.toArray } } :=
    I1.laid (t' := s.toks) (fun b o e => Heap.get?_push_of_some _ e) (Nat.le_refl _) (show ObjOk X.prog X.w _ _ _ (.frz _ (.tup ys)) from ⟨Heap.get?_push_size _ rfl, hz, its, r', IsTup.new _ _⟩)
  exact ⟨.ref h'.objs.size, _, I2, rfl, q _ _ (I1.hok.fresh (Nat.le_refl _)) rfl⟩
theorem bu_tupleK : BuD γ X W (.type "tuple") bTupleK := .of call_tuple_known fun Φ F θ S ds vs σ H Q rd hh p => by
  unfold bTupleK at p
  split at p
  · obtain ⟨v, rfl, r⟩ := reps1 rd
    split at p
    · rename_i l hl
      obtain ⟨a, xs, rfl, hq, rs⟩ := asR_rep r hh hl
      refine ⟨a, xs, rfl, hq, fun b o hb ho => ?_⟩
      obtain ⟨e, h'⟩ := hh.alloc (.frz o (.tup xs)) hb
      exact p _ _ _ _ e h' (.ktup upd_same ho (rs.ext e))
    · exact p.elim
  · exact p.elim

/-! ### methods of lists -/
/-- o.m(..): a receiver that is a list, then the arguments -/
def eM (chk : Dv → Sto → Bool) (g : Dv → List Dv → Sto → Re Dv) (o : Ex) (a : Xs) : Ex := fun ρ S => (o ρ S).bind fun x S1 => if chk x S1 = true then (a ρ S1).bind fun ys S2 => g x ys S2 else .bad
def isL (d : Dv) (S : Sto) : Bool := (asR S d).isSome
section
variable {o e : Expr} {es : List Expr} {fo : Ex} {fa : Xs} {name : Str} {apos cpos : Pos} {id : String} {r : V → List V → Hp → VK → Prop} {g : Dv → List Dv → Sto → Re Dv}
theorem tyL {M : Ev} {Φ : Hp} {F : Hp} {θ : List Addr} {S : Sto} {H : Hp} {v : V} {d : Dv} (r : Rep M F θ v d) (hh : HA M Φ F θ S H) (h : isL d S = true) : tyV M.K "list" v H := by
  obtain ⟨l, hl⟩ := Option.isSome_iff_exists.mp h
  obtain ⟨a, xs, rfl, hq, rs⟩ := asR_rep r hh hl
  exact .inl ⟨rfl, xs, hq⟩
theorem de_lm (slot : Slot "list" name id) (hty : typeOf (.builtin id) = pure (.type "method_descriptor")) (hm : MtR X id r) (ho : DE γ X W o fo) (ha : DAs γ X W (e :: es) fa)
    (kr : ∀ Φ F θ S d ds v vs σ H Q, Rep ⟨X.K, γ⟩ F θ v d → Reps ⟨X.K, γ⟩ F θ vs ds → HA ⟨X.K, γ⟩ Φ F θ S H → PostG ⟨X.K, γ⟩ Φ W σ F θ (Rep ⟨X.K, γ⟩) (g d ds S) Q → r v vs H Q)
    (hbase : attributeBase o name X.env (eval o X.env) = eval o X.env := by rfl)
    (hfew : ((backTo cpos (starEach (e :: es) X.env)).all (fun x => !x.1) && (backToKw cpos (keywordEach [] X.env)).all (fun x => x.1.isSome)
      && decide ((e :: es).length + ([] : List Keyword).length + (if ([] : List Keyword).isEmpty then 0 else 1) < 30)) = true := by rfl)
    (hline : (apos.endLine == cpos.line) = true := by rfl) (hs : starEach (e :: es) X.env = (false, eval e X.env) :: starEach es X.env := by rfl) (hplain : (backTo cpos (starEach es X.env)).any (·.1) = false := by rfl) :
    DE γ X W (.Call (.Attribute o name apos) (e :: es) [] cpos) (eM isL g fo fa) :=
  PE.weak (pe_bm PySem.F.plainAttrs_list slot hty hm ho ha hbase hfew hline hs hplain) fun σ H Q ⟨Φ, ρ, F, θ, S, ea, hh, p⟩ => ⟨Φ, ρ, F, θ, S, ea, hh, PostG.seq p fun d S' v F' θ' H' _ e h' r' p' => by
    obtain ⟨h1, p'⟩ := post_if p'
    exact ⟨tyL r' h' h1, Φ, ρ, F', θ', S', ea.ext e, h', PostG.seq p' fun ds S2 vs F2 θ2 H2 _ e2 h2 r2 p2 => kr Φ F2 θ2 S2 d ds v vs σ H2 Q (r'.ext e2) r2 h2 p2⟩⟩
theorem de_lm0 (slot : Slot "list" name id) (hty : typeOf (.builtin id) = pure (.type "method_descriptor")) (hm : MtR X id r) (ho : DE γ X W o fo)
    (kr : ∀ Φ F θ S d ds v vs σ H Q, Rep ⟨X.K, γ⟩ F θ v d → Reps ⟨X.K, γ⟩ F θ vs ds → HA ⟨X.K, γ⟩ Φ F θ S H → PostG ⟨X.K, γ⟩ Φ W σ F θ (Rep ⟨X.K, γ⟩) (g d ds S) Q → r v vs H Q)
    (hbase : attributeBase o name X.env (eval o X.env) = eval o X.env := by rfl) (hline : (apos.endLine == cpos.line) = true := by rfl) : DE γ X W (.Call (.Attribute o name apos) [] [] cpos) (eM isL g fo aNil) :=
  PE.weak (pe_bm0 PySem.F.plainAttrs_list slot hty hm ho hbase hline) fun σ H Q ⟨Φ, ρ, F, θ, S, ea, hh, p⟩ => ⟨Φ, ρ, F, θ, S, ea, hh, PostG.seq p fun d S' v F' θ' H' _ e h' r' p' => by
    obtain ⟨h1, p'⟩ := post_if p'
    exact ⟨tyL r' h' h1, kr Φ F' θ' S' d [] v [] σ H' Q r' .nil h' p'⟩⟩
end
/-- the cell of a list -/
theorem cell_rep {M : Ev} {Φ : Hp} {F : Hp} {θ : List Addr} {S : Sto} {H : Hp} {v : V} {j : Nat} {l : List Dv} (r : Rep M F θ v (.cell j)) (hh : HA M Φ F θ S H) (hk : S[j]? = some (.lst l)) : ∃ a xs, v = .ref a ∧ θ[j]? = some a ∧ H a = some (.lst xs) ∧ Reps M F θ xs l := by
  cases r with
  | @cell _ a ha =>
    obtain ⟨_, ob, h5, h6⟩ := hh.live _ _ _ ha hk (by intro z; cases z)
    cases ob <;> first | exact h6.elim | skip
    exact ⟨a, _, rfl, ha, h5, h6⟩
def mApp : Dv → List Dv → Sto → Re Dv := fun d ds S => match d, ds with
  | .cell j, [y] => match S[j]? with
    | some (.lst l) => if l.length < sizeLine then .ok .non (S.set j (.lst (l ++ [y]))) else .bad
    | _ => .bad
  | _, _ => .bad
theorem de_append {o e : Expr} {fo : Ex} {fa : Xs} {apos cpos : Pos} (ho : DE γ X W o fo) (ha : DAs γ X W [e] fa) (hbase : attributeBase o "append" X.env (eval o X.env) = eval o X.env := by rfl)
    (hline : (apos.endLine == cpos.line) = true := by rfl) (hs : starEach [e] X.env = (false, eval e X.env) :: starEach [] X.env := by rfl)
    (hfew : ((backTo cpos (starEach [e] X.env)).all (fun x => !x.1) && (backToKw cpos (keywordEach [] X.env)).all (fun x => x.1.isSome)
      && decide (([e] : List Expr).length + ([] : List Keyword).length + (if ([] : List Keyword).isEmpty then 0 else 1) < 30)) = true := by rfl) : DE γ X W (.Call (.Attribute o "append" apos) [e] [] cpos) (eM isL mApp fo fa) :=
  de_lm PySem.F.slot_list_append PySem.F.type_list_append mt_append ho ha (fun Φ F θ S d ds v vs σ H Q r rs hh p => by
    unfold mApp at p
    split at p
    · split at p
      · rename_i l hk
        obtain ⟨hl, p⟩ := post_if p
        obtain ⟨a, xs, rfl, h1, h2, h3⟩ := cell_rep r hh hk
        obtain ⟨w, rfl, ry⟩ := reps1 rs
        refine ⟨a, xs, w, rfl, rfl, h2, by rw [h3.length]; exact hl, ?_⟩
        exact PostG.ok p (hh.setCell h1 hk (by intro z; cases z) (o' := .lst (xs ++ [w])) (ob' := .lst (l ++ [_])) (h3.append (.cons ry .nil))) .non
      · exact p.elim
    · exact p.elim) hbase hfew hline hs
def mPop : Dv → List Dv → Sto → Re Dv := fun d ds S => match d, ds with
  | .cell j, [] => match S[j]? with
    | some (.lst l) => match l[l.length - 1]? with
      | some y => .ok y (S.set j (.lst l.dropLast))
      | none => .bad
    | _ => .bad
  | _, _ => .bad
theorem Reps.dropLast {M : Ev} {F : Hp} {θ : List Addr} {xs : List V} {l : List Dv} (r : Reps M F θ xs l) : Reps M F θ xs.dropLast l.dropLast := by
  rw [List.dropLast_eq_take, List.dropLast_eq_take, r.length]
  exact Reps.take _ r
theorem de_pop {o : Expr} {fo : Ex} {apos cpos : Pos} (ho : DE γ X W o fo) (hbase : attributeBase o "pop" X.env (eval o X.env) = eval o X.env := by rfl) (hline : (apos.endLine == cpos.line) = true := by rfl) :
    DE γ X W (.Call (.Attribute o "pop" apos) [] [] cpos) (eM isL mPop fo aNil) :=
  de_lm0 PySem.F.slot_list_pop PySem.F.type_list_pop mt_pop ho (fun Φ F θ S d ds v vs σ H Q r rs hh p => by
    unfold mPop at p
    split at p
    · split at p
      · rename_i l hk
        split at p
        · rename_i y hy
          obtain ⟨a, xs, rfl, h1, h2, h3⟩ := cell_rep r hh hk
          cases rs
          obtain ⟨w, hw, rw'⟩ := h3.get hy
          refine ⟨a, xs, w, rfl, rfl, h2, by rw [h3.length]; exact hw, ?_⟩
          exact PostG.ok p (hh.setCell h1 hk (by intro z; cases z) (o' := .lst xs.dropLast) (ob' := .lst l.dropLast) h3.dropLast) rw'
        · exact p.elim
      · exact p.elim
    · exact p.elim) hbase hline
def mPopAt : Dv → List Dv → Sto → Re Dv := fun d ds S => match d, ds with
  | .cell j, [.int i] => match S[j]? with
    | some (.lst l) => if 0 ≤ i ∧ i < 2 ^ 63 then (match l[i.toNat]? with
      | some y => .ok y (S.set j (.lst (l.eraseIdx i.toNat)))
      | none => .bad) else .bad
    | _ => .bad
  | _, _ => .bad
theorem Reps.eraseIdx {M : Ev} {F : Hp} {θ : List Addr} : ∀ {xs : List V} {l : List Dv} (i : Nat), Reps M F θ xs l → Reps M F θ (xs.eraseIdx i) (l.eraseIdx i)
  | _, _, _, .nil => .nil
  | _, _, 0, .cons _ t => t
  | _, _, i + 1, .cons q t => .cons q (Reps.eraseIdx i t)
theorem de_popAt {o e : Expr} {fo : Ex} {fa : Xs} {apos cpos : Pos} (ho : DE γ X W o fo) (ha : DAs γ X W [e] fa) (hbase : attributeBase o "pop" X.env (eval o X.env) = eval o X.env := by rfl)
    (hline : (apos.endLine == cpos.line) = true := by rfl) (hs : starEach [e] X.env = (false, eval e X.env) :: starEach [] X.env := by rfl)
    (hfew : ((backTo cpos (starEach [e] X.env)).all (fun x => !x.1) && (backToKw cpos (keywordEach [] X.env)).all (fun x => x.1.isSome)
      && decide (([e] : List Expr).length + ([] : List Keyword).length + (if ([] : List Keyword).isEmpty then 0 else 1) < 30)) = true := by rfl) : DE γ X W (.Call (.Attribute o "pop" apos) [e] [] cpos) (eM isL mPopAt fo fa) :=
  de_lm PySem.F.slot_list_pop PySem.F.type_list_pop mt_popAt ho ha (fun Φ F θ S d ds v vs σ H Q r rs hh p => by
    unfold mPopAt at p
    split at p
    · rename_i j i
      split at p
      · rename_i l hk
        obtain ⟨hi, p⟩ := post_if p
        split at p
        · rename_i y hy
          obtain ⟨a, xs, rfl, h1, h2, h3⟩ := cell_rep r hh hk
          obtain ⟨w, rfl, ri⟩ := reps1 rs
          obtain ⟨u, hu, ru⟩ := h3.get hy
          have hlt : i.toNat < xs.length := (List.getElem?_eq_some_iff.mp hu).1
          refine ⟨a, xs, i, i.toNat, u, rfl, by rw [rep_int ri], h2, by omega, hi.2, seqIndex_of hi.1 (by omega), hu, ?_⟩
          exact PostG.ok p (hh.setCell h1 hk (by intro z; cases z) (o' := .lst (xs.eraseIdx i.toNat)) (ob' := .lst (l.eraseIdx i.toNat)) (Reps.eraseIdx _ h3)) ru
        · exact p.elim
      · exact p.elim
    · exact p.elim) hbase hfew hline hs
/-- the first place of an equal one -/
def firstAt (p : PyData) : List PyData → Option Nat
  | [] => none
  | q :: r => if PyData.eqv q p = true then some 0 else (firstAt p r).map (· + 1)
theorem firstAt_is {p : PyData} : ∀ {l : List PyData} {j : Nat}, firstAt p l = some j → (∃ z, l[j]? = some z ∧ PyData.eqv z p = true) ∧ ∀ (m : Nat) (z : PyData), m < j → l[m]? = some z → PyData.eqv z p = false
  | [], _, h => by rw [firstAt] at h; cases h
  | q :: r, j, h => by
    rw [firstAt] at h
    by_cases e : PyData.eqv q p = true
    · rw [if_pos e] at h
      cases h
      exact ⟨⟨q, rfl, e⟩, fun m z hm => absurd hm (Nat.not_lt_zero _)⟩
    · rw [if_neg e, Option.map_eq_some_iff] at h
      obtain ⟨j', h, rfl⟩ := h
      obtain ⟨⟨z, h1, h2⟩, h3⟩ := firstAt_is h
      refine ⟨⟨z, by simpa using h1, h2⟩, fun m z hm hz => ?_⟩
      cases m with
      | zero => simp at hz; subst hz; simpa using e
      | succ m => exact h3 m z (by omega) (by simpa using hz)
def mIndex : Dv → List Dv → Sto → Re Dv := fun d ds S => match ds with
  | [y] => match toPy S d, toPy S y with
    | some (.list q), some p => if (SeqAt.shaped (.list q) && SeqAt.shaped p) = true then (match firstAt p q with
      | some j => .ok (.int j) S
      | none => .bad) else .bad
    | _, _ => .bad
  | _ => .bad
theorem de_index (c : Ctx X W N sc k) {o e : Expr} {fo : Ex} {fa : Xs} {apos cpos : Pos} (ho : DE γ X W o fo) (ha : DAs γ X W [e] fa) (hbase : attributeBase o "index" X.env (eval o X.env) = eval o X.env := by rfl)
    (hline : (apos.endLine == cpos.line) = true := by rfl) (hs : starEach [e] X.env = (false, eval e X.env) :: starEach [] X.env := by rfl)
    (hfew : ((backTo cpos (starEach [e] X.env)).all (fun x => !x.1) && (backToKw cpos (keywordEach [] X.env)).all (fun x => x.1.isSome)
      && decide (([e] : List Expr).length + ([] : List Keyword).length + (if ([] : List Keyword).isEmpty then 0 else 1) < 30)) = true := by rfl) : DE γ X W (.Call (.Attribute o "index" apos) [e] [] cpos) (eM isL mIndex fo fa) :=
  de_lm PySem.F.slot_list_index PySem.F.type_list_index (mt_indexD (units65 c)) ho ha (fun Φ F θ S d ds v vs σ H Q r rs hh p => by
    unfold mIndex at p
    split at p
    · split at p
      · rename_i q pp h1 h2
        obtain ⟨h, p⟩ := post_if p
        obtain ⟨s1, s2⟩ := Bool.and_eq_true_iff.mp h
        split at p
        · rename_i j hj
          obtain ⟨w, rfl, ry⟩ := reps1 rs
          obtain ⟨⟨z, z1, z2⟩, z3⟩ := firstAt_is hj
          have dl := toPy_rep hh r h1
          have dy := toPy_rep hh ry h2
          obtain ⟨a, rfl⟩ : ∃ a, v = .ref a := by cases dl; exact ⟨_, rfl⟩
          exact ⟨a, w, pp, q, j, z, rfl, rfl, dl, dy, s1, s2, z1, z2, z3, PostG.ok p hh (.int _)⟩
        · exact p.elim
      · exact p.elim
    · exact p.elim) hbase hfew hline hs
def mReverse : Dv → List Dv → Sto → Re Dv := fun d ds S => match d, ds with
  | .cell j, [] => match S[j]? with
    | some (.lst l) => .ok .non (S.set j (.lst l.reverse))
    | _ => .bad
  | _, _ => .bad
def mClear : Dv → List Dv → Sto → Re Dv := fun d ds S => match d, ds with
  | .cell j, [] => match S[j]? with
    | some (.lst l) => .ok .non (S.set j (.lst []))
    | _ => .bad
  | _, _ => .bad
theorem Reps.reverse {M : Ev} {F : Hp} {θ : List Addr} : ∀ {xs : List V} {l : List Dv}, Reps M F θ xs l → Reps M F θ xs.reverse l.reverse
  | _, _, .nil => .nil
  | _, _, .cons q t => by rw [List.reverse_cons, List.reverse_cons]; exact (Reps.reverse t).append (.cons q .nil)
theorem de_reverse {o : Expr} {fo : Ex} {apos cpos : Pos} (ho : DE γ X W o fo) (hbase : attributeBase o "reverse" X.env (eval o X.env) = eval o X.env := by rfl) (hline : (apos.endLine == cpos.line) = true := by rfl) :
    DE γ X W (.Call (.Attribute o "reverse" apos) [] [] cpos) (eM isL mReverse fo aNil) :=
  de_lm0 PySem.F.slot_list_reverse PySem.F.type_list_reverse mt_reverse ho (fun Φ F θ S d ds v vs σ H Q r rs hh p => by
    unfold mReverse at p
    split at p
    · split at p
      · rename_i l hk
        obtain ⟨a, xs, rfl, h1, h2, h3⟩ := cell_rep r hh hk
        cases rs
        refine ⟨a, xs, rfl, rfl, h2, ?_⟩
        exact PostG.ok p (hh.setCell h1 hk (by intro z; cases z) (o' := .lst xs.reverse) (ob' := .lst l.reverse) h3.reverse) .non
      · exact p.elim
    · exact p.elim) hbase hline
theorem de_clear {o : Expr} {fo : Ex} {apos cpos : Pos} (ho : DE γ X W o fo) (hbase : attributeBase o "clear" X.env (eval o X.env) = eval o X.env := by rfl) (hline : (apos.endLine == cpos.line) = true := by rfl) :
    DE γ X W (.Call (.Attribute o "clear" apos) [] [] cpos) (eM isL mClear fo aNil) :=
  de_lm0 PySem.F.slot_list_clear PySem.F.type_list_clear mt_clear ho (fun Φ F θ S d ds v vs σ H Q r rs hh p => by
    unfold mClear at p
    split at p
    · split at p
      · rename_i l hk
        obtain ⟨a, xs, rfl, h1, h2, h3⟩ := cell_rep r hh hk
        cases rs
        refine ⟨a, xs, rfl, rfl, h2, ?_⟩
        exact PostG.ok p (hh.setCell h1 hk (by intro z; cases z) (o' := .lst []) (ob' := .lst []) .nil) .non
      · exact p.elim
    · exact p.elim) hbase hline
end
end DL
/-! The D layer, 9: what is walked; list comprehensions. -/
namespace DL
open PySem PySem.Spec PyProof.Rows L2
section
variable {γ : Nat → Addr} {X : Cx} {W : WX} {N : List Str} {sc : Scope} {k : Nat} {pos : Pos}

/-! ### a list, a tuple, a text -/
def always : Sto → Prop := fun _ => True
def strD (x : Str) : List Dv := x.cps.toList.map fun c => .str ⟨#[c]⟩
/-- what walking a value yields -/
def itD (d : Dv) (S : Sto) : Re Wk := match d with
  | .tup l => .ok (l, always) S
  | .ktup l => .ok (l, always) S
  | .lst l => .ok (l, always) S
  | .ro l => .ok (l, always) S
  | .str x => .ok (strD x, always) S
  | .cell j => match S[j]? with
    | some (.lst l) => .ok (l, fun S' => S'[j]? = some (.lst l)) S
    | _ => .bad
  | _ => .bad
def iSeq (f : Ex) : It' := fun ρ S => (f ρ S).bind itD
def iAny (K : PySem.W.Frag) (tl : TE) : TI := fun σ H R => tl σ H fun x H1 => (∃ a, x = .ref a ∧ (∃ xs, SqL K H1 a xs) ∧ R (Itl K a) H1) ∨ (∃ a, x = .ref a ∧ (∃ xs, SqT K H1 a xs) ∧ R (Itt K a) H1) ∨ ∃ z, x = .str z ∧ R (Its z) H1
theorem pi_any {tg l : Expr} {tl : TE} (hl : PE X l tl) : PI X tg l (iAny X.K tl) := by
  refine ⟨fun pins s σ H R I h => ?_⟩
  refine thn (hl.run pins s σ H _ I h) fun v s1 ⟨x, H1, I1, r1, q1⟩ => ?_
  rcases q1 with ⟨a, e, ⟨xs, hq⟩, q⟩ | ⟨a, e, ⟨xs, hq⟩, q⟩ | ⟨z, e, q⟩
  · subst e
    cases r1
    obtain ⟨its, rv, p, hz⟩ := I1.list hq
    refine wpAny_pyIter_list p.isList ?_
    refine ⟨s1.heap.objs.size, [s1.heap.objs.size], _, _, H1, rfl, I1.kept (t' := s1.toks) fun b o e => Heap.get?_push_of_some _ e, turn_list a _, ⟨_, Heap.get?_push_size _ rfl, rfl, rfl⟩, fun b hb => ?_, q⟩
    have e : b = s1.heap.objs.size := by simpa using hb
    subst e
    exact I1.fpOk (Nat.le_refl _) (I1.hok.fresh (Nat.le_refl _))
  · subst e
    cases r1
    obtain ⟨its, rv, p, hz⟩ := I1.tuple hq
    refine wpAny_pyIter_tuple (show s1.heap.IsTuple a its.toArray from p) ?_
    refine ⟨s1.heap.objs.size, [s1.heap.objs.size], _, _, H1, rfl, I1.kept (t' := s1.toks) fun b o e => Heap.get?_push_of_some _ e, turn_tuple a _, ⟨_, Heap.get?_push_size _ rfl, rfl, rfl⟩, fun b hb => ?_, q⟩
    have e : b = s1.heap.objs.size := by simpa using hb
    subst e
    exact I1.fpOk (Nat.le_refl _) (I1.hok.fresh (Nat.le_refl _))
  · subst e
    obtain ⟨t, rfl⟩ := r1
    cases ha : z.cps.all (· < 128)
    · exact wpAny_pyIter_wide ha (pi_one (tk := s1.toks) I1 _ (turn_str _ z t "str_iterator" (.inr rfl)) ⟨_, Heap.get?_push_size _ rfl, rfl, rfl⟩ q)
    · exact wpAny_pyIter_ascii ha (pi_one (tk := s1.toks) I1 _ (turn_str _ z t "str_ascii_iterator" (.inl rfl)) ⟨_, Heap.get?_push_size _ rfl, rfl, rfl⟩ q)
section
variable {M : Ev} {F : Hp} {θ : List Addr} {a : Addr} {xs : List V} {l : List Dv}
theorem walk_l {chk : Sto → Prop} (hq : ∀ Φ F' θ' S' H, Gr F F' θ θ' → HA M Φ F' θ' S' H → chk S' → ∃ xs, SqL M.K H a xs ∧ Reps M F' θ' xs l) : Walks M F θ (Itl M.K a) (l, chk) := fun i Φ F' θ' S' H e hh hc => by
  obtain ⟨xs, q, r⟩ := hq Φ F' θ' S' H e hh hc
  refine ⟨fun h => ⟨xs, q, by rw [r.length]; exact h⟩, fun d hd => ?_⟩
  obtain ⟨v, hv, rv⟩ := r.get hd
  refine ⟨⟨xs, v, q, hv⟩, fun u H' ⟨e1, y⟩ => ?_⟩
  subst e1
  have z := y xs q
  rw [hv] at z
  cases z
  exact ⟨F', .rfl, hh, rv⟩
theorem walk_t {chk : Sto → Prop} (hq : ∀ Φ F' θ' S' H, Gr F F' θ θ' → HA M Φ F' θ' S' H → chk S' → ∃ xs, SqT M.K H a xs ∧ Reps M F' θ' xs l) : Walks M F θ (Itt M.K a) (l, chk) := fun i Φ F' θ' S' H e hh hc => by
  obtain ⟨xs, q, r⟩ := hq Φ F' θ' S' H e hh hc
  refine ⟨fun h => ⟨xs, q, by rw [r.length]; exact h⟩, fun d hd => ?_⟩
  obtain ⟨v, hv, rv⟩ := r.get hd
  refine ⟨⟨xs, v, q, hv⟩, fun u H' ⟨e1, y⟩ => ?_⟩
  subst e1
  have z := y xs q
  rw [hv] at z
  cases z
  exact ⟨F', .rfl, hh, rv⟩
theorem gr_of {Φ F' : Hp} {θ' : List Addr} {S' : Sto} {H : Hp} (hh : HA M Φ F' θ' S' H) : Gr F' H θ' θ' := ⟨hh.sub, fun _ _ q => q⟩
end
theorem di_seq {tg l : Expr} {f : Ex} (h : DE γ X W l f) : DI γ X W tg l (iSeq f) :=
  PI.weak (pi_any h) fun σ H R ⟨Φ, ρ, F, θ, S, ea, hh, p⟩ => ⟨Φ, ρ, F, θ, S, ea, hh, PostG.seq p fun d S' v F' θ' H' _ e h' r p' => by
    cases r with
    | tup hq rs => exact .inr (.inl ⟨_, rfl, ⟨_, (gr_of h').sqT hq⟩, PostG.ok p' h' (walk_t fun Φ2 F2 θ2 S2 H2 e2 h2 _ => ⟨_, (gr_of h2).sqT (e2.sqT hq), rs.ext e2⟩)⟩)
    | ktup hq _ rs => exact .inr (.inl ⟨_, rfl, ⟨_, .inl (.inr ⟨_, h'.sub _ _ hq⟩)⟩, PostG.ok p' h' (walk_t fun Φ2 F2 θ2 S2 H2 e2 h2 _ => ⟨_, .inl (.inr ⟨_, h2.sub _ _ (e2.le _ _ hq)⟩), rs.ext e2⟩)⟩)
    | lst hq rs => exact .inl ⟨_, rfl, ⟨_, SqL.of (h'.sub _ _ hq)⟩, PostG.ok p' h' (walk_l fun Φ2 F2 θ2 S2 H2 e2 h2 _ => ⟨_, SqL.of (h2.sub _ _ (e2.le _ _ hq)), rs.ext e2⟩)⟩
    | ro hq rs => exact .inl ⟨_, rfl, ⟨_, (gr_of h').sqL hq⟩, PostG.ok p' h' (walk_l fun Φ2 F2 θ2 S2 H2 e2 h2 _ => ⟨_, (gr_of h2).sqL (e2.sqL hq), rs.ext e2⟩)⟩
    | str x =>
      refine .inr (.inr ⟨x, rfl, PostG.ok p' h' fun i Φ2 F2 θ2 S2 H2 e2 h2 _ => ⟨fun hl => ?_, fun d hd => ?_⟩⟩)
      · have hl : (strD x).length ≤ i := hl
        unfold strD at hl
        rw [List.length_map, Array.length_toList] at hl
        exact hl
      · have hd : (strD x)[i]? = some d := hd
        unfold strD at hd
        rw [List.getElem?_map, Option.map_eq_some_iff] at hd
        obtain ⟨c, hc, rfl⟩ := hd
        have hc' : x.cps[i]? = some c := by simpa using hc
        refine ⟨(Array.getElem?_eq_some_iff.mp hc').1, fun v H3 ⟨e1, c2, h3, h4⟩ => ?_⟩
        subst e1 h4
        rw [hc'] at h3
        cases h3
        exact ⟨F2, .rfl, h2, .str _⟩
    | @cell j a hj =>
      have p' : PostG ⟨X.K, γ⟩ Φ W σ F' θ' (Walks ⟨X.K, γ⟩) (match S'[j]? with | some (Ob.lst l) => Re.ok (l, fun S'' : Sto => S''[j]? = some (Ob.lst l)) S' | _ => .bad) R := p'
      split at p'
      · rename_i l hk
        obtain ⟨a, xs, h0, h1, h2, h3⟩ := cell_rep (.cell hj) h' hk
        cases h0
        refine .inl ⟨_, rfl, ⟨xs, SqL.of h2⟩, PostG.ok p' h' (walk_l fun Φ2 F2 θ2 S2 H2 e2 h2' hc => ?_)⟩
        obtain ⟨a', xs', h0', h1', h2'', h3'⟩ := cell_rep (.cell (e2.pre _ _ hj)) h2' hc
        cases h0'
        exact ⟨xs', SqL.of h2'', h3'⟩
      · exact p'.elim
    | _ => exact p'.elim⟩
/-! ### range -/
def rgD (lo : Int) (n : Nat) : List Dv := (List.range n).map fun (i : Nat) => Dv.int (lo + (i : Int))
theorem walk_r {M : Ev} {F : Hp} {θ : List Addr} (lo : Int) (n : Nat) : Walks M F θ (Itr lo n) (rgD lo n, always) := fun i Φ F' θ' S' H e hh _ => by
  refine ⟨fun h => ?_, fun d hd => ?_⟩
  · have h : (rgD lo n).length ≤ i := h
    unfold rgD at h
    rw [List.length_map, List.length_range] at h
    exact h
  · have hd : (rgD lo n)[i]? = some d := hd
    unfold rgD at hd
    rw [List.getElem?_map, Option.map_eq_some_iff] at hd
    obtain ⟨j, hj, rfl⟩ := hd
    have hlt : i < n := by
      have := (List.getElem?_eq_some_iff.mp hj).1
      rwa [List.length_range] at this
    rw [List.getElem?_range hlt] at hj
    cases hj
    refine ⟨hlt, fun v H' ⟨e1, e2⟩ => ?_⟩
    subst e1 e2
    exact ⟨F', .rfl, hh, .int _⟩
def iRg1 (a : Xs) : It' := fun ρ S => (a ρ S).bind fun ds S' => match ds with
  | [.int j] => if -(2 ^ 62) ≤ j ∧ j < 2 ^ 62 then .ok (rgD 0 j.toNat, always) S' else .bad
  | _ => .bad
def iRg2 (a : Xs) : It' := fun ρ S => (a ρ S).bind fun ds S' => match ds with
  | [.int i, .int j] => if (-(2 ^ 62) ≤ i ∧ i < 2 ^ 62 ∧ -(2 ^ 62) ≤ j ∧ j < 2 ^ 62) then .ok (rgD i (j - i).toNat, always) S' else .bad
  | _ => .bad
theorem di_range1 {tg a : Expr} {fa : Xs} {p : Pos} (c : Ctx X W N sc k) (hm : X.mg "range" = none) (ha : DAs γ X W [a] fa) (hg : sc.names.lookup ("range" : Str) = some .globalImplicit := by rfl) (hs : starEach [a] X.env = [(false, eval a X.env)] := by rfl) : DI γ X W tg (.Call (.Name "range" p) [a] [] pos) (iRg1 fa) :=
  PI.weak (pi_range1 (show X.env.scope.names.lookup ("range" : Str) = some .globalImplicit by rw [c.hsc]; exact hg) hm ha hs) fun σ H R ⟨Φ, ρ, F, θ, S, ea, hh, p⟩ => ⟨Φ, ρ, F, θ, S, ea, hh, PostG.seq p fun ds S' vs F' θ' H' e0 e h' r p' => by
    split at p'
    · obtain ⟨v, rfl, r1⟩ := reps1 r
      obtain ⟨h1, p'⟩ := post_if p'
      exact ⟨_, by rw [rep_int r1], h1.1, h1.2, PostG.ok p' h' (walk_r 0 _)⟩
    · exact p'.elim⟩
theorem di_range2 {tg a b : Expr} {fa : Xs} {p : Pos} (c : Ctx X W N sc k) (hm : X.mg "range" = none) (ha : DAs γ X W [a, b] fa) (hg : sc.names.lookup ("range" : Str) = some .globalImplicit := by rfl) (hs : starEach [a, b] X.env = [(false, eval a X.env), (false, eval b X.env)] := by rfl)
    (hs2 : starEach [b] X.env = [(false, eval b X.env)] := by rfl) : DI γ X W tg (.Call (.Name "range" p) [a, b] [] pos) (iRg2 fa) :=
  PI.weak (pi_range2 (show X.env.scope.names.lookup ("range" : Str) = some .globalImplicit by rw [c.hsc]; exact hg) hm ha hs hs2) fun σ H R ⟨Φ, ρ, F, θ, S, ea, hh, p⟩ => ⟨Φ, ρ, F, θ, S, ea, hh, PostG.seq p fun ds S' vs F' θ' H' e0 e h' r p' => by
    split at p'
    · obtain ⟨v, w, rfl, r1, r2⟩ := reps2 r
      obtain ⟨h1, p'⟩ := post_if p'
      exact ⟨_, _, by rw [rep_int r1, rep_int r2], h1, PostG.ok p' h' (walk_r _ _)⟩
    · exact p'.elim⟩
/-! ### enumerate, zip -/
def enD : Nat → List Dv → List Dv
  | _, [] => []
  | i, d :: r => .tup [.int i, d] :: enD (i + 1) r
theorem enD_get : ∀ (l : List Dv) (j i : Nat), (enD j l)[i]? = (l[i]?).map fun d => .tup [.int ((j + i : Nat) : Int), d]
  | [], j, i => by simp [enD]
  | d :: r, j, 0 => by simp [enD]
  | d :: r, j, i + 1 => by
    rw [enD, List.getElem?_cons_succ, List.getElem?_cons_succ, enD_get r (j + 1) i]
    congr 1
    funext d
    rw [show j + 1 + i = j + (i + 1) by omega]
theorem enD_len : ∀ (l : List Dv) (j : Nat), (enD j l).length = l.length
  | [], _ => rfl
  | d :: r, j => by rw [enD, List.length_cons, List.length_cons, enD_len r]
def itL (d : Dv) (S : Sto) : Re Wk := match d with
  | .lst l => .ok (l, always) S
  | .ro l => .ok (l, always) S
  | .cell j => match S[j]? with
    | some (.lst l) => .ok (l, fun S' => S'[j]? = some (.lst l)) S
    | _ => .bad
  | _ => .bad
theorem itL_rep {M : Ev} {Φ : Hp} {F : Hp} {θ : List Addr} {S : Sto} {H : Hp} {v : V} {d : Dv} {l : List Dv} {chk : Sto → Prop} (r : Rep M F θ v d) (hh : HA M Φ F θ S H) (e : itL d S = .ok (l, chk) S) :
    ∃ a, v = .ref a ∧ (∃ xs, SqL M.K H a xs) ∧ ∀ Φ F' θ' S' H, Gr F F' θ θ' → HA M Φ F' θ' S' H → chk S' → ∃ xs, SqL M.K H a xs ∧ Reps M F' θ' xs l := by
  cases r with
  | lst hq rs =>
    cases e
    exact ⟨_, rfl, ⟨_, SqL.of (hh.sub _ _ hq)⟩, fun Φ2 F2 θ2 S2 H2 e2 h2 _ => ⟨_, SqL.of (h2.sub _ _ (e2.le _ _ hq)), rs.ext e2⟩⟩
  | ro hq rs =>
    cases e
    exact ⟨_, rfl, ⟨_, (gr_of hh).sqL hq⟩, fun Φ2 F2 θ2 S2 H2 e2 h2 _ => ⟨_, (gr_of h2).sqL (e2.sqL hq), rs.ext e2⟩⟩
  | @cell j a hj =>
    have e : (match S[j]? with | some (Ob.lst l) => Re.ok (l, fun S' : Sto => S'[j]? = some (Ob.lst l)) S | _ => .bad) = .ok (l, chk) S := e
    split at e
    · rename_i l' hk
      cases e
      obtain ⟨a', xs, h0, h1, h2, h3⟩ := cell_rep (.cell hj) hh hk
      cases h0
      refine ⟨_, rfl, ⟨xs, SqL.of h2⟩, fun Φ2 F2 θ2 S2 H2 e2 h2' hc => ?_⟩
      obtain ⟨a', xs', h0', h1', h2'', h3'⟩ := cell_rep (.cell (e2.pre _ _ hj)) h2' hc
      cases h0'
      exact ⟨xs', SqL.of h2'', h3'⟩
    · cases e
  | _ => cases e
theorem itL_same {d : Dv} {S : Sto} {x : Wk} {S' : Sto} (e : itL d S = .ok x S') : S' = S := by
  unfold itL at e
  split at e
  · cases e; rfl
  · cases e; rfl
  · split at e
    · cases e; rfl
    · cases e
  · cases e
def iEn (a : Xs) : It' := fun ρ S => (a ρ S).bind fun ds S' => match ds with
  | [d] => (itL d S').bind fun x S'' => .ok (enD 0 x.1, x.2) S''
  | _ => .bad
theorem itL_noexc {d : Dv} {S : Sto} {c : Nat} {e : Dv} {S' : Sto} : itL d S ≠ .exc c e S' := by
  unfold itL
  split
  · exact fun z => nomatch z
  · exact fun z => nomatch z
  · split
    · exact fun z => nomatch z
    · exact fun z => nomatch z
  · exact fun z => nomatch z
theorem itL_cases (d : Dv) (S : Sto) : (∃ l chk, itL d S = .ok (l, chk) S) ∨ itL d S = .bad := by
  cases e : itL d S with
  | ok x S' =>
    have h := itL_same e
    subst h
    exact .inl ⟨x.1, x.2, rfl⟩
  | exc c x S' => exact absurd e itL_noexc
  | bad => exact .inr rfl
theorem di_enum {elts : List Expr} {kk : Nat} {tpos : Pos} {a : Expr} {fa : Xs} {p : Pos} (c : Ctx X W N sc k) (hm : X.mg "enumerate" = none) (ha : DAs γ X W [a] fa) (hg : sc.names.lookup ("enumerate" : Str) = some .globalImplicit := by rfl) (hs : starEach [a] X.env = [(false, eval a X.env)] := by rfl) :
    DI γ X W (.Tuple elts kk tpos) (.Call (.Name "enumerate" p) [a] [] pos) (iEn fa) :=
  PI.weak (pi_enum (show X.env.scope.names.lookup ("enumerate" : Str) = some .globalImplicit by rw [c.hsc]; exact hg) hm ha hs) fun σ H R ⟨Φ, ρ, F, θ, S, ea, hh, p⟩ => ⟨Φ, ρ, F, θ, S, ea, hh, PostG.seq p fun ds S' vs F' θ' H' e0 e h' r p' => by
    split at p'
    · rename_i d
      obtain ⟨v, rfl, r1⟩ := reps1 r
      rcases itL_cases d S' with ⟨l, chk, el⟩ | el
      · rw [el] at p'
        obtain ⟨a, rfl, ⟨xs, hq⟩, hw⟩ := itL_rep r1 h' el
        refine ⟨a, xs, rfl, hq, PostG.ok p' h' fun i Φ2 F2 θ2 S2 H2 e2 h2 hc => ?_⟩
        obtain ⟨xs2, q2, r2⟩ := hw Φ2 F2 θ2 S2 H2 e2 h2 hc
        refine ⟨fun hl => ⟨xs2, q2, ?_⟩, fun d' hd => ?_⟩
        · have hl : (enD 0 l).length ≤ i := hl
          rw [enD_len] at hl
          rw [r2.length]
          exact hl
        · have hd : (enD 0 l)[i]? = some d' := hd
          rw [enD_get, Option.map_eq_some_iff] at hd
          obtain ⟨y, hy, rfl⟩ := hd
          obtain ⟨u, hu, ru⟩ := r2.get hy
          refine ⟨⟨xs2, u, q2, hu⟩, ?_⟩
          rintro v H3 ⟨T, x, rfl, hT, rfl, hx⟩
          have z := hx xs2 q2
          rw [hu] at z
          cases z
          obtain ⟨e3, h3⟩ := h2.alloc (.tup [.int (i : Nat), u]) hT
          refine ⟨_, e3, h3, .tup (.inl (.inl upd_same)) (.cons ?_ (.cons (ru.ext e3) .nil))⟩
          rw [Nat.zero_add]
          exact .int _
      · rw [el] at p'
        exact p'.elim
    · exact p'.elim⟩
def zipD : List Dv → List Dv → List Dv
  | a :: l, b :: m => .tup [a, b] :: zipD l m
  | _, _ => []
theorem zipD_get : ∀ (l m : List Dv) (i : Nat) (d : Dv), (zipD l m)[i]? = some d → ∃ a b, l[i]? = some a ∧ m[i]? = some b ∧ d = .tup [a, b]
  | [], _, _, _, h => by simp [zipD] at h
  | _ :: _, [], _, _, h => by simp [zipD] at h
  | a :: l, b :: m, 0, d, h => by simp [zipD] at h; exact ⟨a, b, rfl, rfl, h.symm⟩
  | a :: l, b :: m, i + 1, d, h => by
    rw [zipD, List.getElem?_cons_succ] at h
    simpa using zipD_get l m i d h
theorem zipD_len : ∀ (l m : List Dv), (zipD l m).length = min l.length m.length
  | [], _ => by simp [zipD]
  | _ :: _, [] => by simp [zipD]
  | a :: l, b :: m => by rw [zipD, List.length_cons, zipD_len l m, List.length_cons, List.length_cons]; omega
def iZp (a : Xs) : It' := fun ρ S => (a ρ S).bind fun ds S' => match ds with
  | [d, e] => match asT d, asT e with
    | some l, some m => .ok (zipD l m, always) S'
    | _, _ => (itL d S').bind fun x S1 => (itL e S1).bind fun y S2 => .ok (zipD x.1 y.1, fun S'' => x.2 S'' ∧ y.2 S'') S2
  | _ => .bad
theorem asT_ext {M : Ev} {F : Hp} {θ : List Addr} {v : V} {d : Dv} {l : List Dv} (r : Rep M F θ v d) (e : asT d = some l) : ∃ a xs, v = .ref a ∧ SqT M.K F a xs ∧ Reps M F θ xs l := by
  cases r with
  | tup h rs => cases e; exact ⟨_, _, rfl, h, rs⟩
  | ktup h _ rs => cases e; exact ⟨_, _, rfl, .inl (.inr ⟨_, h⟩), rs⟩
  | _ => cases e
theorem di_zip {elts : List Expr} {kk : Nat} {tpos : Pos} {a b : Expr} {fa : Xs} {p : Pos} (c : Ctx X W N sc k) (hm : X.mg "zip" = none) (ha : DAs γ X W [a, b] fa) (hg : sc.names.lookup ("zip" : Str) = some .globalImplicit := by rfl)
    (hs : starEach [a, b] X.env = (false, eval a X.env) :: starEach [b] X.env := by rfl) (hpl : (backTo pos (starEach [b] X.env)).any (·.1) = false := by rfl) :
    DI γ X W (.Tuple elts kk tpos) (.Call (.Name "zip" p) [a, b] [] pos) (iZp fa) :=
  PI.weak (RZ.pi_zipA (show X.env.scope.names.lookup ("zip" : Str) = some .globalImplicit by rw [c.hsc]; exact hg) hm ha hs hpl) fun σ H R ⟨Φ, ρ, F, θ, S, ea, hh, p⟩ => ⟨Φ, ρ, F, θ, S, ea, hh, PostG.seq p fun ds S' vs F' θ' H' e0 e h' r p' => by
    split at p'
    · rename_i d1 d2
      obtain ⟨v, w, rfl, r1, r2⟩ := reps2 r
      split at p'
      · rename_i l m h1 h2
        obtain ⟨a, xs, rfl, q1, s1⟩ := asT_ext r1 h1
        obtain ⟨b, ys, rfl, q2, s2⟩ := asT_ext r2 h2
        refine ⟨a, b, xs, ys, rfl, .inr ⟨(gr_of h').sqT q1, (gr_of h').sqT q2, PostG.ok p' h' fun i Φ2 F2 θ2 S2 H2 e2 hh2 _ => ⟨fun hl => ?_, fun d hd => ?_⟩⟩⟩
        · have hl : (zipD l m).length ≤ i := hl
          rw [zipD_len] at hl
          exact ⟨xs, ys, (gr_of hh2).sqT (e2.sqT q1), (gr_of hh2).sqT (e2.sqT q2), by rw [s1.length, s2.length]; omega⟩
        · obtain ⟨a1, b1, g1, g2, rfl⟩ := zipD_get l m i d hd
          obtain ⟨u1, hu1, ru1⟩ := s1.get g1
          obtain ⟨u2, hu2, ru2⟩ := s2.get g2
          refine ⟨⟨xs, ys, u1, u2, (gr_of hh2).sqT (e2.sqT q1), (gr_of hh2).sqT (e2.sqT q2), hu1, hu2⟩, ?_⟩
          rintro v H3 ⟨T, x, y, rfl, hT, rfl, hx, hy⟩
          have z := hx xs ((gr_of hh2).sqT (e2.sqT q1))
          rw [hu1] at z
          cases z
          have z := hy ys ((gr_of hh2).sqT (e2.sqT q2))
          rw [hu2] at z
          cases z
          obtain ⟨e3, h3⟩ := hh2.alloc (.tup [u1, u2]) hT
          exact ⟨_, e3, h3, .tup (.inl (.inl upd_same)) (.cons ((ru1.ext e2).ext e3) (.cons ((ru2.ext e2).ext e3) .nil))⟩
      · rcases itL_cases d1 S' with ⟨l, chk, el⟩ | el
        · rw [el] at p'
          rcases itL_cases d2 S' with ⟨m, chk2, em⟩ | em
          · simp only [Re.bind_ok, em] at p'
            obtain ⟨a, rfl, ⟨xs, hq⟩, hw⟩ := itL_rep r1 h' el
            obtain ⟨b, rfl, ⟨ys, hq2⟩, hw2⟩ := itL_rep r2 h' em
            refine ⟨a, b, xs, ys, rfl, .inl ⟨hq, hq2, PostG.ok p' h' fun i Φ2 F2 θ2 S2 H2 e2 hh2 hc => ?_⟩⟩
            obtain ⟨xs2, q1, s1⟩ := hw Φ2 F2 θ2 S2 H2 e2 hh2 hc.1
            obtain ⟨ys2, q2, s2⟩ := hw2 Φ2 F2 θ2 S2 H2 e2 hh2 hc.2
            refine ⟨fun hl => ?_, fun d hd => ?_⟩
            · have hl : (zipD l m).length ≤ i := hl
              rw [zipD_len] at hl
              exact ⟨xs2, ys2, q1, q2, by rw [s1.length, s2.length]; omega⟩
            · obtain ⟨a1, b1, g1, g2, rfl⟩ := zipD_get l m i d hd
              obtain ⟨u1, hu1, ru1⟩ := s1.get g1
              obtain ⟨u2, hu2, ru2⟩ := s2.get g2
              refine ⟨⟨xs2, ys2, u1, u2, q1, q2, hu1, hu2⟩, ?_⟩
              rintro v H3 ⟨T, x, y, rfl, hT, rfl, hx, hy⟩
              have z := hx xs2 q1
              rw [hu1] at z
              cases z
              have z := hy ys2 q2
              rw [hu2] at z
              cases z
              obtain ⟨e3, h3⟩ := hh2.alloc (.tup [u1, u2]) hT
              exact ⟨_, e3, h3, .tup (.inl (.inl upd_same)) (.cons (ru1.ext e3) (.cons (ru2.ext e3) .nil))⟩
          · simp only [Re.bind_ok, em] at p'
            exact p'.elim
        · rw [el] at p'
          exact p'.elim
    · exact p'.elim⟩
end
end DL
/-! The D layer, 10: list comprehensions. -/
namespace DL
open PySem PySem.Spec PyProof.Rows L2
section
variable {γ : Nat → Addr} {X : Cx} {W : WX} {N : List Str} {sc : Scope} {k : Nat} {pos : Pos}

/-! ### targets within a block: which slots they touch -/
def PostW (M : Ev) (Φ F : Hp) (θ : List Addr) (vs : List Nat) (σ : L2.St) (r : Option (En × Sto)) (Q : L2.St → Hp → Prop) : Prop := match r with
  | some (ρ, S) => ∀ σ' F' θ' H, Gr F F' θ θ' → EA M F' θ' σ' ρ → HA M Φ F' θ' S H → wipe σ' vs = wipe σ vs → Q σ' H
  | none => False
theorem PostW.ext {M : Ev} {Φ F F' : Hp} {θ θ' : List Addr} {vs : List Nat} {σ : L2.St} {r : Option (En × Sto)} {Q : L2.St → Hp → Prop} (e : Gr F F' θ θ') (h : PostW M Φ F θ vs σ r Q) : PostW M Φ F' θ' vs σ r Q := by
  cases r with
  | some x => exact fun σ F2 θ2 H g a b c => h σ F2 θ2 H (e.trans g) a b c
  | none => exact h
def wGt (M : Ev) (vs : List Nat) (g : Gt) : TG := fun v σ H Q => ∃ Φ ρ F θ S d, EA M F θ σ ρ ∧ HA M Φ F θ S H ∧ Rep M F θ v d ∧ PostW M Φ F θ vs σ (g d ρ S) Q
def wGts (M : Ev) (vs : List Nat) (g : Gts) : TGs := fun us σ H Q => ∃ Φ ρ F θ S ds, EA M F θ σ ρ ∧ HA M Φ F θ S H ∧ Reps M F θ us ds ∧ PostW M Φ F θ vs σ (g ds ρ S) Q
abbrev WG (γ : Nat → Addr) (X : Cx) (vs : List Nat) (tg : Expr) (g : Gt) : Prop := PG X tg (wGt ⟨X.K, γ⟩ vs g)
abbrev WGs (γ : Nat → Addr) (X : Cx) (vs : List Nat) (tgs : List Expr) (g : Gts) : Prop := PGs X tgs (wGts ⟨X.K, γ⟩ vs g)
theorem wipe_get {σ : L2.St} {i : Nat} : ∀ {vs : List Nat}, (wipe σ vs)[i]? = if i ∈ vs then (σ[i]?).map fun _ => none else σ[i]?
  | [] => by simp [wipe]
  | v :: vs => by
    unfold wipe
    by_cases h : v = i
    · subst h
      rw [if_pos (List.mem_cons_self ..)]
      by_cases hl : v < σ.length
      · rw [List.getElem?_set_self (by rw [wipe_length]; exact hl), List.getElem?_eq_getElem hl]; rfl
      · rw [List.getElem?_eq_none (by rw [List.length_set, wipe_length]; omega), List.getElem?_eq_none (by omega)]; rfl
    · rw [List.getElem?_set_ne h, wipe_get (vs := vs)]
      have e : (i ∈ v :: vs) = (i ∈ vs) := by simp [Ne.symm h]
      simp only [e]
theorem wipe_set {σ : L2.St} {vs : List Nat} {i : Nat} {x : Option V} (h : i ∈ vs) : wipe (σ.set i x) vs = wipe σ vs := by
  apply List.ext_getElem?
  intro j
  rw [wipe_get, wipe_get]
  by_cases hj : j ∈ vs
  · rw [if_pos hj, if_pos hj]
    by_cases e : i = j
    · subst e
      by_cases hl : i < σ.length
      · rw [List.getElem?_set_self hl, List.getElem?_eq_getElem hl]; rfl
      · rw [List.getElem?_eq_none (by rw [List.length_set]; omega), List.getElem?_eq_none (by omega)]
    · rw [List.getElem?_set_ne e]
  · rw [if_neg hj, if_neg hj, List.getElem?_set_ne (fun e => hj (by rw [← e]; exact h))]
theorem wipe_wipe (σ : L2.St) (vs : List Nat) : wipe (wipe σ vs) vs = wipe σ vs := by
  apply List.ext_getElem?
  intro j
  rw [wipe_get, wipe_get]
  by_cases hj : j ∈ vs
  · rw [if_pos hj, if_pos hj]
    cases σ[j]? <;> rfl
  · rw [if_neg hj, if_neg hj]
theorem Re.bind_assoc {α β δ : Type} (r : Re α) (f : α → Sto → Re β) (g : β → Sto → Re δ) : (r.bind f).bind g = r.bind fun a S => (f a S).bind g := by
  cases r <;> rfl
theorem wg_name (i : Nat) {vs : List Nat} {x : Str} (c : Ctx X W N sc k) (hv : i ∈ vs := by decide) (hi : N[i]? = some x := by rfl) (hx : Loc sc x := by first | exact Or.inl rfl | exact Or.inr rfl) (hf : X.fn x = true ∨ sc.names.lookup x = some .local := by first | exact .inr rfl | exact .inl rfl) : WG γ X vs (.Name x pos) (gN i) :=
  PG.weak (pg_name (i := i) (by rw [c.hN]; exact c.nd) (by rw [c.hN]; exact hi) (by rw [c.hsc]; exact hx) (by rw [c.hsc]; exact hf)) fun v σ H Q ⟨Φ, ρ, F, θ, S, d, ea, hh, r, p⟩ => p _ F θ H .rfl (ea.set i r) hh (wipe_set hv)
theorem wgs_nil {vs : List Nat} : WGs γ X vs [] gsNil := PGs.weak pgs_nil fun us σ H Q ⟨Φ, ρ, F, θ, S, ds, ea, hh, r, p⟩ => by
  cases r with
  | nil => exact ⟨rfl, p _ F θ H .rfl ea hh rfl⟩
  | cons _ _ => exact p.elim
theorem wgs_cons {vs : List Nat} {e : Expr} {es : List Expr} {g : Gt} {gs : Gts} (h1 : WG γ X vs e g) (h2 : WGs γ X vs es gs) (hs : (assignEach (e :: es) X.env).map (·.2) = assign e X.env :: (assignEach es X.env).map (·.2) := by rfl) : WGs γ X vs (e :: es) (gsCons g gs) :=
  PGs.weak (pgs_cons h1 h2 hs) fun us σ H Q ⟨Φ, ρ, F, θ, S, ds, ea, hh, r, p⟩ => by
    cases r with
    | nil => exact p.elim
    | @cons v d us ds r1 r2 =>
      refine ⟨_, _, rfl, Φ, ρ, F, θ, S, _, ea, hh, r1, ?_⟩
      have p : PostW _ Φ F θ vs σ (match g d ρ S with | some (ρ', S') => gs ds ρ' S' | none => none) _ := p
      revert p
      cases g d ρ S with
      | some x =>
        intro p σ' F' θ' H' e a b w1
        refine ⟨Φ, x.1, F', θ', x.2, ds, a, b, r2.ext e, ?_⟩
        have p := PostW.ext e p
        revert p
        simp only []
        cases gs ds x.1 x.2 with
        | some y => exact fun p σ2 F2 θ2 H2 e2 a2 b2 w2 => p σ2 F2 θ2 H2 e2 a2 b2 (w2.trans w1)
        | none => exact fun p => p
      | none => exact fun p => p
theorem wg_tup (n : Nat) {vs : List Nat} {es : List Expr} {k1 : Nat} {g : Gts} (c : Ctx X W N sc k) (h : WGs γ X vs es g) (hn : (assignEach es X.env).length = n := by rfl) (hst : (assignEach es X.env).findIdx? (·.1) = none := by rfl) : WG γ X vs (.Tuple es k1 pos) (gTp n g) :=
  PG.weak (pg_tup c.calm h hn hst) fun v σ H Q ⟨Φ, ρ, F, θ, S, d, ea, hh, r, p⟩ => by
    have fin : ∀ {a : Addr} {xs : List V} {ds : List Dv}, v = .ref a → SqT X.K H a xs → Reps ⟨X.K, γ⟩ F θ xs ds → PostW ⟨X.K, γ⟩ Φ F θ vs σ (if ds.length = n then g ds ρ S else none) Q → gTup X.K n (wGts ⟨X.K, γ⟩ vs g) v σ H Q := fun {a xs ds} e0 h1 h2 p => by
      by_cases hl : ds.length = n
      · rw [if_pos hl] at p
        exact ⟨_, _, e0, h1, by rw [h2.length]; exact hl, Φ, ρ, F, θ, S, _, ea, hh, h2, p⟩
      · rw [if_neg hl] at p; exact p.elim
    cases r with
    | @tup a xs ds h1 h2 => exact fin rfl ((show Gr F H θ θ from ⟨hh.sub, fun _ _ q => q⟩).sqT h1) h2 p
    | _ => exact p.elim

/-! ### the block -/
abbrev Wf : WX := fun _ _ _ _ => False
theorem Ctx.blk (c : Ctx X W N sc k) (s : Shared) (H : Hp) (scope : Scope) (C : Addr) (cl : List (Str × Addr)) (fp : List Addr) : Ctx (X.blk s H scope (compEnvC scope cl C X.env) fp) Wf N (relS scope sc) k where
  hN := c.hN
  hsc := by
    show relabel scope X.env = relS scope sc
    unfold relabel relS Env.kindOf
    rw [c.hsc]
  nd := c.nd
  calm := c.calm
  tk := takes0
  pw := PassesOwn.never
  gd := c.gd
  hr := c.hr
abbrev DTs (γ : Nat → Addr) (X : Cx) (W : WX) (ifs : List Expr) (f : Tt) : Prop := PTs X ifs (dG ⟨X.K, γ⟩ W (fun _ _ b a => b = a) f)
theorem PTs.weak {ifs : List Expr} {t u : TT} (h : PTs X ifs t) (kk : ∀ σ H Q, u σ H Q → t σ H Q) : PTs X ifs u := ⟨fun pins s σ H Q I q => h.run pins s σ H Q I (kk σ H Q q)⟩
def ttYes : Tt := fun _ S => .ok true S
theorem dts_nil : DTs γ X W [] ttYes := PTs.weak pts_nil fun σ H Q ⟨Φ, ρ, F, θ, S, ea, hh, p⟩ => PostG.ok p hh rfl
theorem dts_one {c : Expr} {t : Tt} (h : DTt γ X W c t) : DTs γ X W [c] t := pts_one h

def noexc {α : Type} : Re α → Re α
  | .exc _ _ _ => .bad
  | r => r
@[simp] theorem noexc_ok {α : Type} (a : α) (S : Sto) : noexc (Re.ok a S) = .ok a S := rfl
theorem PostG.calm {α β γ' δ : Type} {M : Ev} {Φ : Hp} {W : WX} {σ σ' : L2.St} {F : Hp} {θ : List Addr} {R0 : Hp → List Addr → β → α → Prop} {R : Hp → List Addr → δ → γ' → Prop} {r : Re α} {kk : α → Sto → Re γ'} {Q : δ → Hp → Prop} {Q' : β → Hp → Prop} (h : PostG M Φ W σ F θ R ((noexc r).bind kk) Q)
    (Φ' : Hp) (hk : ∀ a S', r = .ok a S' → PostG M Φ W σ F θ R (kk a S') Q → ∀ b F' θ' H', Gr F F' θ θ' → HA M Φ' F' θ' S' H' → R0 F' θ' b a → Q' b H') : PostG M Φ' Wf σ' F θ R0 r Q' := by
  cases r with
  | ok a S' => exact fun b F' θ' H' e h' r => hk a S' rfl h b F' θ' H' e h' r
  | exc c d S' => exact h.elim
  | bad => exact h.elim
/-- the frame beside: an object that is not ours is held -/
theorem HA.thaw {M : Ev} {Φ F : Hp} {θ : List Addr} {S : Sto} {H : Hp} {D : Addr} {o : HO} (h : HA M (upd Φ D o) F θ S H) (hD : Φ D = none) : Gr F (upd F D o) θ θ ∧ HA M Φ (upd F D o) θ S H := by
  obtain ⟨g1, g2, g3⟩ := h.fr D o upd_same
  have e : Gr F (upd F D o) θ θ := ⟨fun a u q => by rw [upd_ne (ne_of_none q g2)]; exact q, fun _ _ q => q⟩
  refine ⟨e, ⟨fun a u q => ?_, h.len, h.nd, h.trk, fun k a ob h1 h2 h3 => ?_, fun a u q => ?_⟩⟩
  · by_cases z : a = D
    · subst z; rw [upd_same] at q; cases q; exact g1
    · rw [upd_ne z] at q; exact h.sub _ _ q
  · obtain ⟨h4, o', h5, h6⟩ := h.live k a ob h1 h2 h3
    have z : a ≠ D := fun e => g3 (e ▸ List.mem_of_getElem? h1)
    exact ⟨by rw [upd_ne z]; exact h4, o', h5, h6.ext e⟩
  · have z := ne_of_none q hD
    obtain ⟨f1, f2, f3⟩ := h.fr a u (by rw [upd_ne z]; exact q)
    exact ⟨f1, by rw [upd_ne z]; exact f2, f3⟩
theorem HA.reframe {M : Ev} {Φ F : Hp} {θ : List Addr} {S : Sto} {H : Hp} {D : Addr} {o o' : HO} (h : HA M (upd Φ D o) F θ S H) : HA M (upd Φ D o') F θ S (upd H D o') := by
  obtain ⟨g1, g2, g3⟩ := h.fr D o upd_same
  refine ⟨fun a u q => ?_, h.len, h.nd, fun a ha => ?_, fun k a ob h1 h2 h3 => ?_, fun a u q => ?_⟩
  · rw [upd_ne (ne_of_none q g2)]; exact h.sub _ _ q
  · rw [upd_ne fun e => g3 (by rw [← e]; exact ha)]; exact h.trk a ha
  · obtain ⟨h4, o2, h5, h6⟩ := h.live k a ob h1 h2 h3
    have z : a ≠ D := fun e => g3 (by rw [← e]; exact List.mem_of_getElem? h1)
    exact ⟨h4, o2, by rw [upd_ne z]; exact h5, h6⟩
  · by_cases z : a = D
    · subst z
      rw [upd_same] at q ⊢
      exact ⟨q, g2, g3⟩
    · rw [upd_ne z] at q ⊢
      exact h.fr a u (by rw [upd_ne z]; exact q)
theorem HA.frame {M : Ev} {Φ F : Hp} {θ : List Addr} {S : Sto} {H : Hp} {D : Addr} (o : HO) (h : HA M Φ F θ S H) (hD : H D = none) : HA M (upd Φ D o) F θ S (upd H D o) := by
  have hF : F D = none := by
    cases q : F D with
    | none => rfl
    | some u => rw [h.sub _ _ q] at hD; cases hD
  have nt : ∀ a ∈ θ, a ≠ D := fun a ha z => h.trk a ha (z ▸ hD)
  refine ⟨fun a u q => ?_, h.len, h.nd, fun a ha => ?_, fun k a ob h1 h2 h3 => ?_, fun a u q => ?_⟩
  · rw [upd_ne (ne_of_none q hF)]; exact h.sub _ _ q
  · rw [upd_ne (nt a ha)]; exact h.trk a ha
  · obtain ⟨h4, o2, h5, h6⟩ := h.live k a ob h1 h2 h3
    exact ⟨h4, o2, by rw [upd_ne (nt a (List.mem_of_getElem? h1))]; exact h5, h6⟩
  · by_cases z : a = D
    · subst z
      rw [upd_same] at q ⊢
      exact ⟨q, hF, fun m => nt a m rfl⟩
    · rw [upd_ne z] at q ⊢
      exact h.fr a u q
theorem HA.noD {M : Ev} {Φ F : Hp} {θ : List Addr} {S : Sto} {H : Hp} {D : Addr} (h : HA M Φ F θ S H) (hD : H D = none) : Φ D = none := by
  cases q : Φ D with
  | none => rfl
  | some u => rw [(h.fr _ _ q).1] at hD; cases hD
def wipeE (ρ : En) : List Nat → En
  | [] => ρ
  | v :: vs => (wipeE ρ vs).set v none
theorem EA.wipe {M : Ev} {F : Hp} {θ : List Addr} {σ : L2.St} {ρ : En} (h : EA M F θ σ ρ) : ∀ vs : List Nat, EA M F θ (L2.wipe σ vs) (wipeE ρ vs)
  | [] => h
  | v :: vs => by
    obtain ⟨l, a⟩ := EA.wipe h vs
    refine ⟨by unfold L2.wipe wipeE; rw [List.length_set, List.length_set]; exact l, fun i d q => ?_⟩
    unfold wipeE at q
    by_cases e : v = i
    · subst e
      by_cases hl : v < (wipeE ρ vs).length
      · rw [List.getElem?_set_self hl] at q; cases q
      · rw [List.getElem?_eq_none (by rw [List.length_set]; omega)] at q; cases q
    · rw [List.getElem?_set_ne e] at q
      obtain ⟨v', h1, h2⟩ := a i d q
      refine ⟨v', ?_, h2⟩
      unfold L2.wipe
      rw [List.getElem?_set_ne e]
      exact h1
/-- one turn: an item is kept, or not -/
def turnD (g : Gt) (t : Tt) (e : Ex) (ρ : En) (d : Dv) (S : Sto) : Re (Option Dv) := match g d ρ S with
  | none => .bad
  | some (ρ1, S1) => (noexc (t ρ1 S1)).bind fun c S2 => if c = true then (noexc (e ρ1 S2)).bind fun y S3 => .ok (some y) S3 else .ok none S2
open Classical in
noncomputable def lcL (b : Dv → Sto → Re (Option Dv)) (chk : Sto → Prop) : List Dv → Sto → Re (List Dv)
  | [], S => .ok [] S
  | d :: r, S => (b d S).bind fun o S' => if chk S' then (lcL b chk r S').bind fun l S'' => .ok (o.toList ++ l) S'' else .bad
open Classical in
/-- the items of a comprehension -/
noncomputable def lcD (f : It') (g : Gt) (t : Tt) (e : Ex) (vs : List Nat) : Xs := fun ρ S => (f ρ S).bind fun x S1 => if x.2 S1 ∧ x.1.length ≤ sizeLine then lcL (turnD g t e (wipeE ρ vs)) x.2 x.1 S1 else .bad
noncomputable def eLc (f : It') (g : Gt) (t : Tt) (e : Ex) (vs : List Nat) : Ex := eN (fun l S => .ok (.lst l) S) (lcD f g t e vs)
noncomputable def eLcC (f : It') (g : Gt) (t : Tt) (e : Ex) (vs : List Nat) : Ex := eN (fun l S => .ok (.cell S.length) (S ++ [.lst l])) (lcD f g t e vs)
open Classical in
theorem lc_read {own : List (Str × Nat)} {f : It'} {g : Gt} {t : Tt} {e : Ex} {σ : L2.St} {H : Hp} {Q : VK} {fin : List Dv → Sto → Re Dv}
    (hfin : ∀ Φ F θ S H D acc l, HA ⟨X.K, γ⟩ (upd Φ D (.lst acc)) F θ S H → Φ D = none → Reps ⟨X.K, γ⟩ F θ acc l → PostG ⟨X.K, γ⟩ Φ W σ F θ (Rep ⟨X.K, γ⟩) (fin l S) Q → Q (.ref D) H)
    (h : dG ⟨X.K, γ⟩ W (Rep ⟨X.K, γ⟩) (eN fin (lcD f g t e (own.map (·.2)))) σ H Q) :
    tLc (dG ⟨X.K, γ⟩ W (Walks ⟨X.K, γ⟩) f) (wGt ⟨X.K, γ⟩ (own.map (·.2)) g) (dG ⟨X.K, γ⟩ Wf (fun _ _ b a => b = a) t) (dG ⟨X.K, γ⟩ Wf (Rep ⟨X.K, γ⟩) e) (own.map (·.2)) σ H Q := by
  obtain ⟨Φ, ρ, F, θ, S, ea, hh, p⟩ := h
  unfold eN lcD at p
  have p : PostG ⟨X.K, γ⟩ Φ W σ F θ (Rep ⟨X.K, γ⟩) ((f ρ S).bind fun x S1 => (if x.2 S1 ∧ x.1.length ≤ sizeLine then lcL (turnD g t e (wipeE ρ (own.map (·.2)))) x.2 x.1 S1 else .bad).bind fin) Q := by
    revert p
    cases f ρ S <;> exact fun p => p
  refine ⟨Φ, ρ, F, θ, S, ea, hh, PostG.seq p fun x S1 J F1 θ1 H1 _ e1 h1 wk p1 => ?_⟩
  intro D hD
  have hΦ := h1.noD hD
  have hc : x.2 S1 ∧ x.1.length ≤ sizeLine := by
    by_cases z : x.2 S1 ∧ x.1.length ≤ sizeLine
    · exact z
    · rw [if_neg z] at p1; exact p1.elim
  rw [if_pos hc] at p1
  generalize hb : turnD g t e (wipeE ρ (own.map (·.2))) = bt at p1
  refine ⟨fun i m H => m = x.1.length - i ∧ ∃ F2 θ2 S2 acc l, Gr F1 F2 θ1 θ2 ∧ HA ⟨X.K, γ⟩ (upd Φ D (.lst acc)) F2 θ2 S2 H ∧ Reps ⟨X.K, γ⟩ F2 θ2 acc l ∧ acc.length ≤ i ∧ x.2 S2 ∧
      PostG ⟨X.K, γ⟩ Φ W σ F2 θ2 (Rep ⟨X.K, γ⟩) ((lcL bt x.2 (x.1.drop i) S2).bind fun l2 S3 => fin (l ++ l2) S3) Q,
    ⟨x.1.length, by simp, F1, θ1, S1, [], [], .rfl, h1.frame _ hD, .nil, Nat.le_refl _, hc.1, by simpa using p1⟩, ?_⟩
  rintro i m H2 ⟨rfl, F2, θ2, S2, acc, l, e2, h2, ra, hl, hc2, p2⟩
  obtain ⟨wa, wb⟩ := wk i _ F2 θ2 S2 H2 e2 h2 hc2
  by_cases hlt : i < x.1.length
  · obtain ⟨go, yl⟩ := wb x.1[i] (by simp [hlt])
    rw [List.drop_eq_getElem_cons hlt] at p2
    unfold lcL at p2
    refine .inr ⟨go, fun H => ∃ F2 θ2 S2 acc l, Gr F1 F2 θ1 θ2 ∧ HA ⟨X.K, γ⟩ (upd Φ D (.lst acc)) F2 θ2 S2 H ∧ Reps ⟨X.K, γ⟩ F2 θ2 acc l ∧ acc.length ≤ i + 1 ∧ x.2 S2 ∧
      PostG ⟨X.K, γ⟩ Φ W σ F2 θ2 (Rep ⟨X.K, γ⟩) ((lcL bt x.2 (x.1.drop (i + 1)) S2).bind fun l2 S3 => fin (l ++ l2) S3) Q, fun H' q => ⟨x.1.length - (i + 1), by omega, rfl, q⟩, fun v H3 y => ?_⟩
    obtain ⟨F3, e3, h3, r3⟩ := yl v H3 y
    refine ⟨upd Φ D (.lst acc), wipeE ρ (own.map (·.2)), F3, θ2, S2, x.1[i], ((((ea.ext e1).ext e2).ext e3).wipe _), h3, r3, ?_⟩
    have p3 := PostG.ext e3 p2
    have hbd : bt x.1[i] S2 = turnD g t e (wipeE ρ (own.map (·.2))) x.1[i] S2 := by rw [hb]
    rw [hbd] at p3
    unfold turnD at p3
    revert p3
    cases g x.1[i] (wipeE ρ (own.map (·.2))) S2 with
    | none => exact fun p => p.elim
    | some z =>
      obtain ⟨ρ1, S4⟩ := z
      intro p3 σ4 F4 θ4 H4 e4 ea4 h4 hw
      refine ⟨by rw [hw]; exact wipe_wipe σ _, upd Φ D (.lst acc), ρ1, F4, θ4, S4, ea4, h4, ?_⟩
      have p4 := PostG.ext e4 p3
      simp only [Re.bind_assoc] at p4
      refine PostG.calm p4 _ fun c S5 _ p5 b F5 θ5 H5 e5 h5 rb => ?_
      cases rb
      have p5 := PostG.ext e5 p5
      cases c with
      | false =>
        simp only [if_false, Bool.false_eq_true, Re.bind_ok, Re.bind_assoc] at p5 ⊢
        by_cases hc5 : x.2 S5
        · rw [if_pos hc5] at p5
          refine ⟨F5, θ5, S5, acc, l, ((e2.trans e3).trans e4).trans e5, h5, ((ra.ext e3).ext e4).ext e5, by omega, hc5, ?_⟩
          simpa [Re.bind_assoc] using p5
        · rw [if_neg hc5] at p5; exact p5.elim
      | true =>
        simp only [if_true, Re.bind_ok, Re.bind_assoc] at p5 ⊢
        refine ⟨upd Φ D (.lst acc), ρ1, F5, θ5, S5, ea4.ext e5, h5, PostG.calm p5 _ fun y S6 _ p6 v6 F6 θ6 H6 e6 h6 r6 => ?_⟩
        refine ⟨acc, (h6.fr D _ upd_same).1, ?_, ?_⟩
        · have := hc.2
          omega
        · have p6 := PostG.ext e6 p6
          by_cases hc6 : x.2 S6
          · rw [if_pos hc6] at p6
            refine ⟨F6, θ6, S6, acc ++ [v6], l ++ [y], (((e2.trans e3).trans e4).trans e5).trans e6, h6.reframe, ((((ra.ext e3).ext e4).ext e5).ext e6).append (.cons r6 .nil), by rw [List.length_append, List.length_singleton]; omega, hc6, ?_⟩
            simpa [Re.bind_assoc] using p6
          · rw [if_neg hc6] at p6; exact p6.elim
  · refine .inl ⟨wa (by omega), ?_⟩
    rw [List.drop_eq_nil_of_le (by omega)] at p2
    exact hfin Φ F2 θ2 S2 H2 D acc l h2 hΦ ra (by simpa [lcL] using p2)
/-- the frame's object becomes a cell -/
theorem HA.adopt {M : Ev} {Φ F : Hp} {θ : List Addr} {S : Sto} {H : Hp} {D : Addr} {o : HO} {ob : Ob} (h : HA M (upd Φ D o) F θ S H) (hD : Φ D = none) (r : RepO M F θ o ob) : Gr F F θ (θ ++ [D]) ∧ HA M Φ F (θ ++ [D]) (S ++ [ob]) H := by
  obtain ⟨g1, g2, g3⟩ := h.fr D o upd_same
  have e : Gr F F θ (θ ++ [D]) := ⟨fun _ _ q => q, fun k a q => by
    have := (List.getElem?_eq_some_iff.mp q).1
    rw [List.getElem?_append_left this]; exact q⟩
  refine ⟨e, ⟨h.sub, by simp [h.len], ?_, fun a ha => ?_, fun k a ob' h1 h2 h3 => ?_, fun a u q => ?_⟩⟩
  · rw [List.nodup_append]
    refine ⟨h.nd, by simp, fun a ha b hb => ?_⟩
    have : b = D := by simpa using hb
    subst this
    exact fun e => g3 (by rw [← e]; exact ha)
  · rcases List.mem_append.mp ha with q | q
    · exact h.trk a q
    · have : a = D := by simpa using q
      subst this
      rw [g1]; exact fun z => nomatch z
  · by_cases hk : k < θ.length
    · rw [List.getElem?_append_left hk] at h1
      rw [List.getElem?_append_left (by rw [← h.len]; exact hk)] at h2
      obtain ⟨h4, o', h5, h6⟩ := h.live k a ob' h1 h2 h3
      exact ⟨h4, o', h5, h6.ext e⟩
    · have hk2 : k = θ.length := by
        have := (List.getElem?_eq_some_iff.mp h1).1
        rw [List.length_append, List.length_singleton] at this
        omega
      subst hk2
      rw [List.getElem?_append_right (Nat.le_refl _), Nat.sub_self] at h1
      rw [h.len, List.getElem?_append_right (Nat.le_refl _), Nat.sub_self] at h2
      cases h1
      cases h2
      exact ⟨g2, o, g1, r.ext e⟩
  · have z := ne_of_none q hD
    obtain ⟨f1, f2, f3⟩ := h.fr a u (by rw [upd_ne z]; exact q)
    exact ⟨f1, f2, fun m => (List.mem_append.mp m).elim f3 fun m => z (by simpa using m)⟩
theorem fin_lst {σ : L2.St} {Q : VK} : ∀ Φ F θ S H D acc l, HA ⟨X.K, γ⟩ (upd Φ D (.lst acc)) F θ S H → Φ D = none → Reps ⟨X.K, γ⟩ F θ acc l → PostG ⟨X.K, γ⟩ Φ W σ F θ (Rep ⟨X.K, γ⟩) ((fun l S => Re.ok (Dv.lst l) S) l S) Q → Q (.ref D) H := fun Φ F θ S H D acc l h hD r p => by
  obtain ⟨e, h'⟩ := h.thaw hD
  exact p _ _ _ _ e h' (.lst upd_same (r.ext e))
theorem fin_cell {σ : L2.St} {Q : VK} : ∀ Φ F θ S H D acc l, HA ⟨X.K, γ⟩ (upd Φ D (.lst acc)) F θ S H → Φ D = none → Reps ⟨X.K, γ⟩ F θ acc l → PostG ⟨X.K, γ⟩ Φ W σ F θ (Rep ⟨X.K, γ⟩) ((fun l S => Re.ok (Dv.cell (List.length S)) (S ++ [Ob.lst l])) l S) Q → Q (.ref D) H := fun Φ F θ S H D acc l h hD r p => by
  obtain ⟨e, h'⟩ := h.adopt (ob := .lst l) hD r
  refine p _ _ _ _ e h' (.cell ?_)
  rw [← h.len, List.getElem?_append_right (Nat.le_refl _), Nat.sub_self]
  rfl
section
variable {tg elt iter : Expr} {ifs : List Expr} {scope : Scope} {f : It'} {g : Gt} {t : Tt} {e : Ex}
theorem de_lc (own : List (Str × Nat)) (c : Ctx X W N sc k) (hi : DI γ X W tg iter f) (ok : blkC N sc scope own = true)
    (hg : ∀ (s : Shared) (H : Hp) (C : Addr) (cl : List (Str × Addr)) (fp : List Addr), WG γ (X.blk s H scope (compEnvC scope cl C X.env) fp) (own.map (·.2)) tg g)
    (ht : ∀ (s : Shared) (H : Hp) (C : Addr) (cl : List (Str × Addr)) (fp : List Addr), DTs γ (X.blk s H scope (compEnvC scope cl C X.env) fp) Wf ifs t)
    (he : ∀ (s : Shared) (H : Hp) (C : Addr) (cl : List (Str × Addr)) (fp : List Addr), DE γ (X.blk s H scope (compEnvC scope cl C X.env) fp) Wf elt e) (hs : ∀ x, foldedSetIterable iter X.env x = pure x := by intro _; rfl) :
    DE γ X W (.ListComp elt [⟨tg, iter, ifs, 0⟩] scope pos) (eLc f g t e (own.map (·.2))) :=
  PE.weak (pe_lc (own := own) c.calm (by rw [c.hN]; exact c.nd) hi (by rw [c.hN, c.hsc]; exact blkOk_by ok) hg ht he hs) fun σ H Q h => lc_read fin_lst h
theorem de_lcC (own : List (Str × Nat)) (c : Ctx X W N sc k) (hi : DI γ X W tg iter f) (ok : blkC N sc scope own = true)
    (hg : ∀ (s : Shared) (H : Hp) (C : Addr) (cl : List (Str × Addr)) (fp : List Addr), WG γ (X.blk s H scope (compEnvC scope cl C X.env) fp) (own.map (·.2)) tg g)
    (ht : ∀ (s : Shared) (H : Hp) (C : Addr) (cl : List (Str × Addr)) (fp : List Addr), DTs γ (X.blk s H scope (compEnvC scope cl C X.env) fp) Wf ifs t)
    (he : ∀ (s : Shared) (H : Hp) (C : Addr) (cl : List (Str × Addr)) (fp : List Addr), DE γ (X.blk s H scope (compEnvC scope cl C X.env) fp) Wf elt e) (hs : ∀ x, foldedSetIterable iter X.env x = pure x := by intro _; rfl) :
    DE γ X W (.ListComp elt [⟨tg, iter, ifs, 0⟩] scope pos) (eLcC f g t e (own.map (·.2))) :=
  PE.weak (pe_lc (own := own) c.calm (by rw [c.hN]; exact c.nd) hi (by rw [c.hN, c.hsc]; exact blkOk_by ok) hg ht he hs) fun σ H Q h => lc_read fin_cell h
theorem set_read {i : Nat} {fe : Ex} {te : TE} (hr : ∀ σ H Q, dG ⟨X.K, γ⟩ W (Rep ⟨X.K, γ⟩) fe σ H Q → te σ H Q) : ∀ D σ H, dS ⟨X.K, γ⟩ W (sSet i fe) D σ H → tAsg te (gName i) D σ H := fun D σ H ⟨Φ, ρ, F, θ, S, ea, hh, p⟩ =>
  hr σ H _ ⟨Φ, ρ, F, θ, S, ea, hh, PostS.seq ea p fun d S' v F' θ' H' _ e h' r p' => p' _ F' θ' H' .rfl ((ea.ext e).set i r) h'⟩
theorem ds_setLc (i : Nat) (own : List (Str × Nat)) {y : Str} {py spos : Pos} (c : CtxD X W N sc k) (hi : DI γ X W tg iter f) (ok : blkC N sc scope own = true)
    (hsw : swapsWith (.ListComp elt [⟨tg, iter, ifs, 0⟩] scope pos) (some (.Name y py)) spos.line X.env = pure true)
    (hg : ∀ (s : Shared) (H : Hp) (C : Addr) (cl : List (Str × Addr)) (fp : List Addr), WG γ (X.blk s H scope (compEnvC scope cl C X.env) fp) (own.map (·.2)) tg g)
    (ht : ∀ (s : Shared) (H : Hp) (C : Addr) (cl : List (Str × Addr)) (fp : List Addr), DTs γ (X.blk s H scope (compEnvC scope cl C X.env) fp) Wf ifs t)
    (he : ∀ (s : Shared) (H : Hp) (C : Addr) (cl : List (Str × Addr)) (fp : List Addr), DE γ (X.blk s H scope (compEnvC scope cl C X.env) fp) Wf elt e) (hy : N[i]? = some y := by rfl) (hyl : sc.names.lookup y = some .local := by rfl)
    (hs : ∀ x, foldedSetIterable iter X.env x = pure x := by intro _; rfl) :
    DS γ X W (.Assign [.Name y py] (.ListComp elt [⟨tg, iter, ifs, 0⟩] scope pos) spos) (sSet i (eLc f g t e (own.map (·.2)))) :=
  PS.weak (ps_setLc (i := i) (own := own) c.calm (by rw [c.hN]; exact c.nd) (by rw [c.hN]; exact hy) (by rw [c.hsc]; exact hyl) hsw hi (by rw [c.hN, c.hsc]; exact blkOk_by ok) hg ht he hs) (set_read fun σ H Q h => lc_read fin_lst h)
theorem ds_setLcC (i : Nat) (own : List (Str × Nat)) {y : Str} {py spos : Pos} (c : CtxD X W N sc k) (hi : DI γ X W tg iter f) (ok : blkC N sc scope own = true)
    (hsw : swapsWith (.ListComp elt [⟨tg, iter, ifs, 0⟩] scope pos) (some (.Name y py)) spos.line X.env = pure true)
    (hg : ∀ (s : Shared) (H : Hp) (C : Addr) (cl : List (Str × Addr)) (fp : List Addr), WG γ (X.blk s H scope (compEnvC scope cl C X.env) fp) (own.map (·.2)) tg g)
    (ht : ∀ (s : Shared) (H : Hp) (C : Addr) (cl : List (Str × Addr)) (fp : List Addr), DTs γ (X.blk s H scope (compEnvC scope cl C X.env) fp) Wf ifs t)
    (he : ∀ (s : Shared) (H : Hp) (C : Addr) (cl : List (Str × Addr)) (fp : List Addr), DE γ (X.blk s H scope (compEnvC scope cl C X.env) fp) Wf elt e) (hy : N[i]? = some y := by rfl) (hyl : sc.names.lookup y = some .local := by rfl)
    (hs : ∀ x, foldedSetIterable iter X.env x = pure x := by intro _; rfl) :
    DS γ X W (.Assign [.Name y py] (.ListComp elt [⟨tg, iter, ifs, 0⟩] scope pos) spos) (sSet i (eLcC f g t e (own.map (·.2)))) :=
  PS.weak (ps_setLc (i := i) (own := own) c.calm (by rw [c.hN]; exact c.nd) (by rw [c.hN]; exact hy) (by rw [c.hsc]; exact hyl) hsw hi (by rw [c.hN, c.hsc]; exact blkOk_by ok) hg ht he hs) (set_read fun σ H Q h => lc_read fin_cell h)
theorem sw_ok {gs : List Comprehension} {y : Str} {py : Pos} {l : Nat} (c : Ctx X W N sc k) (hk : sc.kind = .function := by rfl) (hy : sc.names.lookup y = some .local := by rfl) (hl : (py.line == pos.line) = true := by rfl)
    (ha : (scope.names.any fun (n, k) => n == y && (k == .local || k == .cell)) = false := by rfl) : swapsWith (.ListComp elt gs scope pos) (some (.Name y py)) l X.env = pure true :=
  sw_true (by rw [c.hsc]; exact hk) (by rw [c.hsc]; exact hy) hl ha
/-- the name is captured, or the comprehension's own: an ordinary store -/
theorem sw_no {gs : List Comprehension} {y : Str} {py : Pos} {l : Nat} (c : Ctx X W N sc k) (h : (sc.names.lookup y == some .local && !(scope.names.any fun (n, k) => n == y && (k == .local || k == .cell))) = false := by rfl) : swapsWith (.ListComp elt gs scope pos) (some (.Name y py)) l X.env = pure false := by
  have e : X.env.kindOf y = sc.names.lookup y := by unfold Env.kindOf; rw [c.hsc]
  unfold swapsWith
  simp only [e]
  cases h1 : (sc.names.lookup y == some NameKind.local) with
  | false => simp
  | true =>
    rw [h1, Bool.true_and] at h
    simp [h]
end
end
end DL
/-! The D layer, 11: attributes, methods, properties. -/
namespace DL
open PySem PySem.Spec PyProof.Rows L2

def insOf (S : Sto) : Dv → Option (Nat × List (Str × Dv))
  | .ins c fs => some (c, fs)
  | .cell k => match S[k]? with
    | some (.ins c fs) => some (c, fs)
    | _ => none
  | _ => none
theorem insOf_rep {M : Ev} {Φ F : Hp} {θ : List Addr} {S : Sto} {H : Hp} {v : V} {d : Dv} {c : Nat} {fs : List (Str × Dv)} (hh : HA M Φ F θ S H) (r : Rep M F θ v d) (e : insOf S d = some (c, fs)) : ∃ a dx gs, v = .ref a ∧ H a = some (.ins (M.γ c) dx gs) ∧ RepF M F θ gs fs := by
  cases r with
  | ins h r =>
    simp only [insOf, Option.some.injEq, Prod.mk.injEq] at e
    obtain ⟨rfl, rfl⟩ := e
    exact ⟨_, _, _, rfl, hh.sub _ _ h, r⟩
  | @cell k a h =>
    simp only [insOf] at e
    split at e
    · rename_i c' fs' hS
      cases e
      obtain ⟨_, o, h5, h6⟩ := hh.live k a _ h hS (by intro z; cases z)
      cases o <;> first | exact h6.elim | skip
      obtain ⟨rfl, h6⟩ := h6
      exact ⟨_, _, _, rfl, h5, h6⟩
    · cases e
  | _ => simp [insOf] at e
/-- an attribute read -/
def fldD (c : Nat) (f : Str) (d : Dv) (S : Sto) : Re Dv := match insOf S d with
  | some (c', fs) => if c' = c then (match fs.lookup f with
    | some x => .ok x S
    | none => .bad) else .bad
  | none => .bad
def isIns (c : Nat) (m : Str) (S : Sto) (d : Dv) : Bool := match insOf S d with
  | some (c', fs) => decide (c' = c) && (fs.lookup m).isNone
  | none => false
theorem isIns_rep {M : Ev} {Φ F : Hp} {θ : List Addr} {S : Sto} {H : Hp} {v : V} {d : Dv} {c : Nat} {m : Str} (hh : HA M Φ F θ S H) (r : Rep M F θ v d) (e : isIns c m S d = true) : ∃ a dx gs, v = .ref a ∧ H a = some (.ins (M.γ c) dx gs) ∧ gs.lookup m = none := by
  unfold isIns at e
  cases h : insOf S d with
  | none => rw [h] at e; cases e
  | some p =>
    obtain ⟨c', fs⟩ := p
    rw [h] at e
    simp only [Bool.and_eq_true, decide_eq_true_eq, Option.isNone_iff_eq_none] at e
    obtain ⟨rfl, e⟩ := e
    obtain ⟨a, dx, gs, rfl, ha, rf⟩ := insOf_rep hh r h
    exact ⟨a, dx, gs, rfl, ha, (rf.lookup m).2 e⟩
section
variable {γ : Nat → Addr} {X : Cx} {W : WX} {N : List Str} {sc : Scope} {k : Nat} {pos : Pos}
theorem fldD_post {M : Ev} {Φ F : Hp} {θ : List Addr} {S : Sto} {H : Hp} {σ : L2.St} {v : V} {d : Dv} {c : Nat} {f : Str} {Q : VK} (hh : HA M Φ F θ S H) (r : Rep M F θ v d) (p : PostG M Φ W σ F θ (Rep M) (fldD c f d S) Q) :
    ∃ a dx gs x, v = .ref a ∧ H a = some (.ins (M.γ c) dx gs) ∧ gs.lookup f = some x ∧ Q x H := by
  unfold fldD at p
  cases h : insOf S d with
  | none => rw [h] at p; exact p.elim
  | some q =>
    obtain ⟨c', fs⟩ := q
    rw [h] at p
    obtain ⟨rfl, p1⟩ := post_if p
    obtain ⟨a, dx, gs, rfl, ha, rf⟩ := insOf_rep hh r h
    cases hl : fs.lookup f with
    | none => rw [hl] at p1; exact p1.elim
    | some x =>
      rw [hl] at p1
      obtain ⟨y, hy, ry⟩ := (rf.lookup f).1 x hl
      exact ⟨a, dx, gs, y, rfl, ha, hy, p1.ok hh ry⟩
theorem de_fld (cc : Nat) {e : Expr} {f : Str} {fa : Ex} (cl : Cls X.K (γ cc)) (n : NoAttr X.K (γ cc) f) (h : DE γ X W e fa) (hb : attributeBase e f X.env (eval e X.env) = eval e X.env := by rfl) : DE γ X W (.Attribute e f pos) (e1 (fldD cc f) fa) :=
  PE.weak (pe_fld h hb) fun σ H Q ⟨Φ, ρ, F, θ, S, ea, hh, p⟩ => ⟨Φ, ρ, F, θ, S, ea, hh, PostG.seq p fun d S' v F' θ' H' _ e h' r p' => by
    obtain ⟨a, dx, gs, x, rfl, ha, hl, q⟩ := fldD_post h' r p'
    exact ⟨a, γ cc, dx, gs, x, rfl, ha, cl, n, hl, q⟩⟩
/-- o.f = value, o in a cell -/
def sFldD (c : Nat) (f : Str) (a v : Ex) : Sm := fun ρ S => (v ρ S).toS ρ fun y S1 => (a ρ S1).toS ρ fun d S2 => match d with
  | .cell k => match S2[k]? with
    | some (.ins c' fs) => if c' = c ∧ fs.length < 1000 then .nx ρ (S2.set k (.ins c (putD f y fs))) else .bad
    | _ => .bad
  | _ => .bad
theorem ds_fld (cc : Nat) {o value : Expr} {f : Str} {fa fv : Ex} {pos' : Pos} (cl : Cls X.K (γ cc)) (n : NoAttr X.K (γ cc) f) (ha : DE γ X W o fa) (hv : DE γ X W value fv) (hs : swapsWith value (some (.Attribute o f pos')) pos.line X.env = pure false := by rfl) :
    DS γ X W (.Assign [.Attribute o f pos'] value pos) (sFldD cc f fa fv) :=
  PS.weak (ps_fld ha hv hs) fun D σ H ⟨Φ, ρ, F, θ, S, ea, hh, p⟩ => ⟨Φ, ρ, F, θ, S, ea, hh, PostS.seq ea p fun y S1 u F1 θ1 H1 _ g1 h1 ry p1 => ⟨Φ, ρ, F1, θ1, S1, ea.ext g1, h1, PostS.seq (ea.ext g1) p1 fun d S2 v F2 θ2 H2 _ g2 h2 r p2 => by
    cases r with
    | @cell kk a hk =>
      dsimp only at p2
      cases hS : S2[kk]? with
      | none => rw [hS] at p2; exact p2.elim
      | some ob =>
        cases ob with
        | ins c' fs =>
          rw [hS] at p2
          dsimp only at p2
          obtain ⟨⟨rfl, hl⟩, p2⟩ := postS_if p2
          obtain ⟨_, o, h5, h6⟩ := h2.live kk a _ hk hS (by intro z; cases z)
          cases o <;> first | exact h6.elim | skip
          obtain ⟨rfl, h6⟩ := h6
          refine ⟨a, _, _, _, rfl, h5, cl, n, by rw [h6.length]; exact hl, ?_⟩
          exact p2 σ F2 θ2 _ .rfl ((ea.ext g1).ext g2) (h2.setCell hk hS (by intro z; cases z) ⟨rfl, h6.put (ry.ext g2)⟩)
        | _ => rw [hS] at p2; exact p2.elim
    | _ => exact p2.elim⟩⟩

/-! ### calls with keywords -/
def pick {α : Type} (perm : List Nat) (l : List α) : List α := perm.filterMap fun i => l[i]?
theorem pick_reps {M : Ev} {F : Hp} {θ : List Addr} {vs : List V} {ds : List Dv} (r : Reps M F θ vs ds) : ∀ perm : List Nat, Reps M F θ (pick perm vs) (pick perm ds)
  | [] => .nil
  | i :: q => by
    unfold pick
    rw [List.filterMap_cons, List.filterMap_cons]
    cases h : ds[i]? with
    | none =>
      have : vs[i]? = none := by
        rw [List.getElem?_eq_none_iff] at h ⊢
        rw [r.length]; exact h
      rw [this]
      exact pick_reps r q
    | some d =>
      obtain ⟨v, hv, rv⟩ := r.get h
      rw [hv]
      exact .cons rv (pick_reps r q)
theorem pick_vals {vs : List V} {us : List Value} (r : Vals vs us) : ∀ perm : List Nat, Vals (pick perm vs) (pick perm us)
  | [] => .nil
  | i :: q => by
    unfold pick
    rw [List.filterMap_cons, List.filterMap_cons]
    cases h : vs[i]? with
    | none =>
      have : us[i]? = none := by
        rw [List.getElem?_eq_none_iff] at h ⊢
        rw [← r.length]; exact h
      rw [this]
      exact pick_vals r q
    | some d =>
      obtain ⟨u, hu, ru⟩ := r.get h
      rw [hu]
      exact .cons ru (pick_vals r q)
/-- n positional values, keywords ks: where they go -/
def KB (K : PySem.W.Frag) (fd : FuncData) (ps : List Str) (n : Nat) (ks : List Str) (perm : List Nat) : Prop :=
  ∀ (s : Shared) (us ws : List Value), K.In s.heap → us.length = n → ws.length = ks.length → BindsTo s fd ⟨us, ks.zip ws⟩ (ps.zip (pick perm (us ++ ws)))
/-- calling the value u with n values and the keywords ks behaves as g -/
def CallK (γ : Nat → Addr) (X : Cx) (W : WX) (u : Value) (n : Nat) (ks : List Str) (g : List Dv → List Dv → Sto → Re Dv) : Prop :=
  ∀ (pins : List (Addr × Obj)) (s : Shared) (σ : L2.St) (H : Hp) (vs zs : List V) (us ws : List Value) (Q : VK) (Φ F : Hp) (θ : List Addr) (S : Sto) (ds es : List Dv), Inv X pins σ H s → Vals vs us → Vals zs ws → Reps ⟨X.K, γ⟩ F θ vs ds → Reps ⟨X.K, γ⟩ F θ zs es → HA ⟨X.K, γ⟩ Φ F θ S H → ds.length = n → es.length = ks.length →
    PostG ⟨X.K, γ⟩ Φ W σ F θ (Rep ⟨X.K, γ⟩) (g ds es S) Q → wpAny (model X.prog X.w) X.A (call u us (ks.zip ws)) (EP X pins σ Q) X.xe s
theorem callV_fn {j n : Nat} {f : Addr} {fd : FuncData} {ps : List Str} {g : Fn} (F : FnG X.prog X.w X.K X.mg X.base j f fd ps (spD ⟨X.K, γ⟩ n g)) (hb : Binds X.K fd ps []) (hr : Room j X.A) (hg : X.A.guards = some []) (tk : Takes X W) : CallV γ X W (.ref f) n g := by
  intro pins s σ H vs us Q Φ F0 θ S ds I rv rd hh hl p
  have hsp : spD ⟨X.K, γ⟩ n g vs H Q (fun c d H' => W c d σ H') := ⟨by rw [rd.length]; exact hl, ds, Φ, F0, θ, S, rd, hh, by
    revert p
    cases g ds S with
    | ok d S' => exact fun p => p
    | exc c d S' => exact fun p => p
    | bad => exact fun p => p⟩
  have hl2 : us.length = ps.length := by rw [← rv.length]; exact F.len _ _ _ _ hsp
  have hb' := hb s us I.kIn (by rw [List.append_nil]; exact hl2)
  rw [List.append_nil] at hb'
  refine wpAny_call (codeAny_mono (F.run X.A X.stack s H ⟨us, []⟩ us vs Q _ hr hg I.env0 hb' rv hsp) fun r s' hq => ?_)
  cases r with
  | error e => exact tk e s' (XE.of_call I (fun cls d H' h => h) hq)
  | ok fl =>
    cases fl with
    | ret u => exact I.after hq
    | next => exact False.elim hq
    | brk => exact False.elim hq
    | cont => exact False.elim hq
theorem callK_fn {j n m : Nat} {f : Addr} {fd : FuncData} {ps ks : List Str} {perm : List Nat} {g : Fn} (F : FnG X.prog X.w X.K X.mg X.base j f fd ps (spD ⟨X.K, γ⟩ n g)) (hb : KB X.K fd ps m ks perm) (hn : perm.length = n) (hp : ∀ i ∈ perm, i < m + ks.length) (hr : Room j X.A) (hg : X.A.guards = some []) (tk : Takes X W) :
    CallK γ X W (.ref f) m ks (fun ds es S => g (pick perm (ds ++ es)) S) := by
  intro pins s σ H vs zs us ws Q Φ F0 θ S ds es I rv rz rd re hh hl hl2 p
  have rA : Reps ⟨X.K, γ⟩ F0 θ (pick perm (vs ++ zs)) (pick perm (ds ++ es)) := pick_reps (rd.append re) perm
  have vA : Vals (pick perm (vs ++ zs)) (pick perm (us ++ ws)) := pick_vals (rv.append rz) perm
  have hlen : ∀ (l : List Dv), l.length = m + ks.length → (pick perm l).length = n := by
    intro l hl
    rw [← hn]
    unfold pick
    have : ∀ q : List Nat, (∀ i ∈ q, i < m + ks.length) → (q.filterMap fun i => l[i]?).length = q.length := by
      intro q
      induction q with
      | nil => intro _; rfl
      | cons i q ih =>
        intro h
        have hi : i < l.length := by rw [hl]; exact h i List.mem_cons_self
        rw [List.filterMap_cons, List.getElem?_eq_getElem hi]
        simp only [List.length_cons]
        rw [ih fun j hj => h j (List.mem_cons_of_mem _ hj)]
    exact this perm hp
  have hsp : spD ⟨X.K, γ⟩ n g (pick perm (vs ++ zs)) H Q (fun c d H' => W c d σ H') := ⟨by rw [rA.length]; exact hlen _ (by rw [List.length_append, hl, hl2]), _, Φ, F0, θ, S, rA, hh, by
    replace p : PostG ⟨X.K, γ⟩ Φ W σ F0 θ (Rep ⟨X.K, γ⟩) (g (pick perm (ds ++ es)) S) Q := p
    revert p
    cases g (pick perm (ds ++ es)) S with
    | ok d S' => exact fun p => p
    | exc c d S' => exact fun p => p
    | bad => exact fun p => p⟩
  have hb' := hb s us ws I.kIn (by rw [← rv.length, rd.length]; exact hl) (by rw [← rz.length, re.length]; exact hl2)
  refine wpAny_call (codeAny_mono (F.run X.A X.stack s H ⟨us, ks.zip ws⟩ _ _ Q _ hr hg I.env0 hb' vA hsp) fun r s' hq => ?_)
  cases r with
  | error e => exact tk e s' (XE.of_call I (fun cls d H' h => h) hq)
  | ok fl =>
    cases fl with
    | ret u => exact I.after hq
    | next => exact False.elim hq
    | brk => exact False.elim hq
    | cont => exact False.elim hq
end

/-- the method m of the class c, called with n arguments behind the instance -/
structure Mth (γ : Nat → Addr) (P : Program) (w : World) (K : PySem.W.Frag) (mg : Str → Option Value) (base : Heap) (c : Nat) (m : Str) (j n : Nat) (g : Fn) : Prop where
  ex : ∃ f : Addr, Cls K (γ c) ∧ Meth K (γ c) m f ∧ ∀ (X : Cx) (W : WX), X.prog = P → X.w = w → X.K = K → X.mg = mg → X.base = base → Room j X.A → X.A.guards = some [] → Takes X W → CallV γ X W (.ref f) (n + 1) g
/-- .. and keywords -/
structure MthK (γ : Nat → Addr) (P : Program) (w : World) (K : PySem.W.Frag) (mg : Str → Option Value) (base : Heap) (c : Nat) (m : Str) (j n : Nat) (ks : List Str) (g : List Dv → List Dv → Sto → Re Dv) : Prop where
  ex : ∃ f : Addr, Cls K (γ c) ∧ Meth K (γ c) m f ∧ ∀ (X : Cx) (W : WX), X.prog = P → X.w = w → X.K = K → X.mg = mg → X.base = base → Room j X.A → X.A.guards = some [] → Takes X W → CallK γ X W (.ref f) (n + 1) ks g
section
variable {γ : Nat → Addr} {P : Program} {w : World} {K : PySem.W.Frag} {mg : Str → Option Value} {base : Heap} {c j n : Nat} {m : Str} {g g' : Fn}
theorem Mth.of {f : Addr} {fd : FuncData} {ps : List Str} (F : FnG P w K mg base j f fd ps (spD ⟨K, γ⟩ (n + 1) g)) (cl : Cls K (γ c)) (hm : Meth K (γ c) m f) (hb : Binds K fd ps []) : Mth γ P w K mg base c m j n g :=
  ⟨f, cl, hm, by rintro X W rfl rfl rfl rfl rfl hr hg tk; exact callV_fn F hb hr hg tk⟩
theorem MthK.of {n m' : Nat} {f : Addr} {fd : FuncData} {ps ks : List Str} {perm : List Nat} (F : FnG P w K mg base j f fd ps (spD ⟨K, γ⟩ m' g)) (cl : Cls K (γ c)) (hm : Meth K (γ c) m f) (hb : KB K fd ps (n + 1) ks perm) (hn : perm.length = m') (hp : ∀ i ∈ perm, i < (n + 1) + ks.length) :
    MthK γ P w K mg base c m j n ks (fun ds es S => g (pick perm (ds ++ es)) S) :=
  ⟨f, cl, hm, by rintro X W rfl rfl rfl rfl rfl hr hg tk; exact callK_fn F hb hn hp hr hg tk⟩
end
/-- a property of the class c -/
structure Prp (γ : Nat → Addr) (P : Program) (w : World) (K : PySem.W.Frag) (mg : Str → Option Value) (base : Heap) (c : Nat) (f : Str) (j : Nat) (g : Fn) : Prop where
  ex : ∃ (p a : Addr) (fd : FuncData) (ps : List Str), Cls K (γ c) ∧ PropOf K (γ c) f p a ∧ Binds K fd ps [] ∧ FnG P w K mg base j a fd ps (spD ⟨K, γ⟩ 1 g)
section
variable {γ : Nat → Addr} {X : Cx} {W : WX} {N : List Str} {sc : Scope} {k : Nat} {pos apos : Pos}
def eMth (c : Nat) (m : Str) (n : Nat) (g : Fn) (a : Ex) (as : Xs) : Ex := fun ρ S => (a ρ S).bind fun d S1 => if isIns c m S1 d = true then (as ρ S1).bind fun ds S2 => if ds.length = n then g (d :: ds) S2 else .bad else .bad
theorem de_meth {cc j n : Nat} {m : Str} {g : Fn} {o e : Expr} {es : List Expr} {fo : Ex} {fa : Xs} {pl : Sem Bool} (c : Ctx X W N sc k) (h : Mth γ X.prog X.w X.K X.mg X.base cc m j n g) (hj : j ≤ k := by decide) (ho : DE γ X W o fo) (ha : DAs γ X W (e :: es) fa)
    (hst : starEach (e :: es) X.env = (false, eval e X.env) :: starEach es X.env := by rfl) (hpl : (backTo pos (starEach es X.env)).any (·.1) = false := by rfl)
    (ht : eval (.Call (.Attribute o m apos) (e :: es) [] pos) X.env = (do
      let ov ← eval o X.env
      standAt apos.atName
      let (f, first) ← holding [ov] (getMethod ov m pl)
      callWith pos f first (backTo pos (starEach (e :: es) X.env)) (backToKw pos (keywordEach [] X.env))) := by rfl) :
    DE γ X W (.Call (.Attribute o m apos) (e :: es) [] pos) (eMth cc m n g fo fa) := by
  obtain ⟨f, cl, hm, hc⟩ := h.ex
  refine ⟨fun pins s σ H Q I ⟨Φ, ρ, F, θ, S, ea, hh, p⟩ => ?_⟩
  refine PySem.W.methodCall_KW (pl := pl) (thn (ho.run pins s σ H (fun v H1 => ∃ F1 θ1 S1 d, Gr F F1 θ θ1 ∧ Rep ⟨X.K, γ⟩ F1 θ1 v d ∧ HA ⟨X.K, γ⟩ Φ F1 θ1 S1 H1 ∧ isIns cc m S1 d = true ∧ PostG ⟨X.K, γ⟩ Φ W σ F1 θ1 (Rep ⟨X.K, γ⟩) ((fa ρ S1).bind fun ds S2 => if ds.length = n then g (d :: ds) S2 else .bad) Q) I
    ⟨Φ, ρ, F, θ, S, ea, hh, PostG.seq p fun d S1 v F1 θ1 H1 _ g1 h1 r p1 => let ⟨a, b⟩ := post_if p1; ⟨F1, θ1, S1, d, g1, r, h1, a, b⟩⟩) fun u s1 ⟨v, H1, I1, rv, F1, θ1, S1, d, g1, rd, h1, hi, p1⟩ => ?_) ht
  obtain ⟨a, dx, gs, rfl, hH, hl⟩ := isIns_rep h1 rd hi
  obtain rfl : u = Value.ref a := rv
  refine getmeth_ok I1 hH cl hm hl ?_
  refine PySem.W.callWith_K (first := [.ref a]) (h₀ := X.base) I1.ok.mod.kin hm.kp (thn (ha.run pos pins s1 σ H1 (fun vs H2 => ∃ F2 θ2 S2 ds, Gr F1 F2 θ1 θ2 ∧ Reps ⟨X.K, γ⟩ F2 θ2 vs ds ∧ HA ⟨X.K, γ⟩ Φ F2 θ2 S2 H2 ∧ ds.length = n ∧ PostG ⟨X.K, γ⟩ Φ W σ F2 θ2 (Rep ⟨X.K, γ⟩) (g (d :: ds) S2) Q) I1
    ⟨Φ, ρ, F1, θ1, S1, ea.ext g1, h1, PostG.seq p1 fun ds S2 vs F2 θ2 H2 _ g2 h2 r p2 => let ⟨a, b⟩ := post_if p2; ⟨F2, θ2, S2, ds, g2, r, h2, a, b⟩⟩) fun us s2 ⟨vs, H2, I2, rvs, F2, θ2, S2, ds, g2, rds, h2, hn, p2⟩ => ⟨I2.kIn, ?_⟩) hst hpl
  exact hc X W rfl rfl rfl rfl rfl (c.hr.mono hj) c.gd c.tk pins s2 σ H2 (.ref a :: vs) (.ref a :: us) Q Φ F2 θ2 S2 (d :: ds) I2 (.cons rfl rvs) (.cons (rd.ext g2) rds) h2 (by rw [List.length_cons, hn]) p2
def eMth0 (c : Nat) (m : Str) (g : Fn) (a : Ex) : Ex := fun ρ S => (a ρ S).bind fun d S1 => if isIns c m S1 d = true then g [d] S1 else .bad
theorem de_meth0 {cc j : Nat} {m : Str} {g : Fn} {o : Expr} {fo : Ex} {pl : Sem Bool} (c : Ctx X W N sc k) (h : Mth γ X.prog X.w X.K X.mg X.base cc m j 0 g) (hj : j ≤ k := by decide) (ho : DE γ X W o fo)
    (ht : eval (.Call (.Attribute o m apos) [] [] pos) X.env = (do
      let ov ← eval o X.env
      standAt apos.atName
      let (f, first) ← holding [ov] (getMethod ov m pl)
      callWith pos f first (backTo pos (starEach [] X.env)) (backToKw pos (keywordEach [] X.env))) := by rfl) :
    DE γ X W (.Call (.Attribute o m apos) [] [] pos) (eMth0 cc m g fo) := by
  obtain ⟨f, cl, hm, hc⟩ := h.ex
  refine ⟨fun pins s σ H Q I ⟨Φ, ρ, F, θ, S, ea, hh, p⟩ => ?_⟩
  refine PySem.W.methodCall_KW (pl := pl) (thn (ho.run pins s σ H (fun v H1 => ∃ F1 θ1 S1 d, Gr F F1 θ θ1 ∧ Rep ⟨X.K, γ⟩ F1 θ1 v d ∧ HA ⟨X.K, γ⟩ Φ F1 θ1 S1 H1 ∧ isIns cc m S1 d = true ∧ PostG ⟨X.K, γ⟩ Φ W σ F1 θ1 (Rep ⟨X.K, γ⟩) (g [d] S1) Q) I
    ⟨Φ, ρ, F, θ, S, ea, hh, PostG.seq p fun d S1 v F1 θ1 H1 _ g1 h1 r p1 => let ⟨a, b⟩ := post_if p1; ⟨F1, θ1, S1, d, g1, r, h1, a, b⟩⟩) fun u s1 ⟨v, H1, I1, rv, F1, θ1, S1, d, g1, rd, h1, hi, p1⟩ => ?_) ht
  obtain ⟨a, dx, gs, rfl, hH, hl⟩ := isIns_rep h1 rd hi
  obtain rfl : u = Value.ref a := rv
  refine getmeth_ok I1 hH cl hm hl ?_
  exact PySem.W.callWith_K0 (first := [.ref a]) I1.kIn hm.kp (hc X W rfl rfl rfl rfl rfl (c.hr.mono hj) c.gd c.tk pins s1 σ H1 [.ref a] [.ref a] Q Φ F1 θ1 S1 [d] I1 (.cons rfl .nil) (.cons rd .nil) h1 rfl p1)

/-! keywords -/
abbrev DKs (γ : Nat → Addr) (X : Cx) (W : WX) (kws : List Keyword) (f : Xs) : Prop := PK X kws (dG ⟨X.K, γ⟩ W (Reps ⟨X.K, γ⟩) f)
theorem PK.weak {kws : List Keyword} {t u : TA} (h : PK X kws t) (kk : ∀ σ H Q, u σ H Q → t σ H Q) : PK X kws u := ⟨fun pos pins s σ H Q I q => h.run pos pins s σ H Q I (kk σ H Q q)⟩
theorem dk_nil : DKs γ X W [] aNil := PK.weak pk_nil fun σ H Q ⟨Φ, ρ, F, θ, S, ea, hh, p⟩ => PostG.ok p hh .nil
theorem dk_cons {nm : Option Str} {e : Expr} {kpos : Pos} {kws : List Keyword} {fa : Ex} {fr : Xs} (ha : DE γ X W e fa) (hr : DKs γ X W kws fr) : DKs γ X W (⟨nm, e, kpos⟩ :: kws) (aCons fa fr) :=
  PK.weak (pk_cons ha hr) fun σ H Q ⟨Φ, ρ, F, θ, S, ea, hh, p⟩ => ⟨Φ, ρ, F, θ, S, ea, hh, PostG.seq p fun d S1 v F1 θ1 H1 _ g1 h1 r p1 => ⟨Φ, ρ, F1, θ1, S1, ea.ext g1, h1, PostG.seq p1 fun ds S2 vs F2 θ2 H2 _ g2 h2 r2 p2 => p2.ok h2 (.cons (r.ext g2) r2)⟩⟩
def eMthK (c : Nat) (m : Str) (nk : Nat) (g : List Dv → List Dv → Sto → Re Dv) (a : Ex) (as : Xs) : Ex := fun ρ S => (a ρ S).bind fun d S1 => if isIns c m S1 d = true then (as ρ S1).bind fun ds S2 => if ds.length = nk then g [d] ds S2 else .bad else .bad
theorem de_methK0 {cc j : Nat} {m : Str} {ks : List Str} {g : List Dv → List Dv → Sto → Re Dv} {o : Expr} {kws : List Keyword} {fo : Ex} {fa : Xs} {pl : Sem Bool} (c : Ctx X W N sc k) (h : MthK γ X.prog X.w X.K X.mg X.base cc m j 0 ks g) (hj : j ≤ k := by decide) (ho : DE γ X W o fo) (ha : DKs γ X W kws fa)
    (hall : (backToKw pos (keywordEach kws X.env)).all (·.1.isSome) = true := by rfl) (hks : (backToKw pos (keywordEach kws X.env)).filterMap (·.1) = ks := by rfl)
    (hpl : ((backTo pos (starEach [] X.env)).any (·.1) || (backToKw pos (keywordEach kws X.env)).any (·.1.isNone)) = false := by rfl)
    (ht : eval (.Call (.Attribute o m apos) [] kws pos) X.env = (do
      let ov ← eval o X.env
      standAt apos.atName
      let (f, first) ← holding [ov] (getMethod ov m pl)
      callWith pos f first (backTo pos (starEach [] X.env)) (backToKw pos (keywordEach kws X.env))) := by rfl) :
    DE γ X W (.Call (.Attribute o m apos) [] kws pos) (eMthK cc m ks.length g fo fa) := by
  obtain ⟨f, cl, hm, hc⟩ := h.ex
  refine ⟨fun pins s σ H Q I ⟨Φ, ρ, F, θ, S, ea, hh, p⟩ => ?_⟩
  refine PySem.W.methodCall_KW (pl := pl) (thn (ho.run pins s σ H (fun v H1 => ∃ F1 θ1 S1 d, Gr F F1 θ θ1 ∧ Rep ⟨X.K, γ⟩ F1 θ1 v d ∧ HA ⟨X.K, γ⟩ Φ F1 θ1 S1 H1 ∧ isIns cc m S1 d = true ∧ PostG ⟨X.K, γ⟩ Φ W σ F1 θ1 (Rep ⟨X.K, γ⟩) ((fa ρ S1).bind fun ds S2 => if ds.length = ks.length then g [d] ds S2 else .bad) Q) I
    ⟨Φ, ρ, F, θ, S, ea, hh, PostG.seq p fun d S1 v F1 θ1 H1 _ g1 h1 r p1 => let ⟨a, b⟩ := post_if p1; ⟨F1, θ1, S1, d, g1, r, h1, a, b⟩⟩) fun u s1 ⟨v, H1, I1, rv, F1, θ1, S1, d, g1, rd, h1, hi, p1⟩ => ?_) ht
  obtain ⟨a, dx, gs, rfl, hH, hl⟩ := isIns_rep h1 rd hi
  obtain rfl : u = Value.ref a := rv
  refine getmeth_ok I1 hH cl hm hl ?_
  refine PySem.W.callWith_KW0 (first := [.ref a]) (h₀ := X.base) I1.ok.mod.kin hm.kp hall ?_ hpl
  refine thn (ha.run pos pins s1 σ H1 (fun vs H2 => ∃ F2 θ2 S2 ds, Gr F1 F2 θ1 θ2 ∧ Reps ⟨X.K, γ⟩ F2 θ2 vs ds ∧ HA ⟨X.K, γ⟩ Φ F2 θ2 S2 H2 ∧ ds.length = ks.length ∧ PostG ⟨X.K, γ⟩ Φ W σ F2 θ2 (Rep ⟨X.K, γ⟩) (g [d] ds S2) Q) I1
    ⟨Φ, ρ, F1, θ1, S1, ea.ext g1, h1, PostG.seq p1 fun ds S2 vs F2 θ2 H2 _ g2 h2 r p2 => let ⟨a, b⟩ := post_if p2; ⟨F2, θ2, S2, ds, g2, r, h2, a, b⟩⟩) fun ws s2 ⟨vs, H2, I2, rvs, F2, θ2, S2, ds, g2, rds, h2, hn, p2⟩ => ⟨I2.kIn, ?_⟩
  rw [hks]
  exact hc X W rfl rfl rfl rfl rfl (c.hr.mono hj) c.gd c.tk pins s2 σ H2 [.ref a] vs [.ref a] ws Q Φ F2 θ2 S2 [d] ds I2 (.cons rfl .nil) rvs (.cons (rd.ext g2) .nil) rds h2 rfl hn p2

/-! properties -/
theorem guards_in1 {A : Around} (h : A.guards = some []) : A.in1.guards = some [] := h
/-- o.f, a property -/
def prpD (c : Nat) (g : Fn) (d : Dv) (S : Sto) : Re Dv := match insOf S d with
  | some (c', _) => if c' = c then noexc (g [d] S) else .bad
  | none => .bad
theorem noexc_post {α β : Type} {M : Ev} {Φ F : Hp} {θ : List Addr} {σ σ' : L2.St} {W' : WX} {R : Hp → List Addr → β → α → Prop} {r : Re α} {Q : β → Hp → Prop} (p : PostG M Φ W σ F θ R (noexc r) Q) : PostG M Φ W' σ' F θ R r Q := by
  cases r with
  | ok a S => exact p
  | exc c d S => exact p.elim
  | bad => exact p
theorem getprop_run {cc j : Nat} {f : Str} {g : Fn} {a dx : Addr} {gs : List (Str × V)} {pins : List (Addr × Obj)} {σ : L2.St} {H : Hp} {s : Shared} {Q : VK} {b : Bool} {E' : Value → Shared → Prop} {Φ F : Hp} {θ : List Addr} {S : Sto} {d : Dv}
    (h : Prp γ X.prog X.w X.K X.mg X.base cc f j g) (hr : Room (j + 1) X.A) (hg : X.A.guards = some []) (I : Inv X pins σ H s) (ea : H a = some (.ins (γ cc) dx gs)) (rd : Rep ⟨X.K, γ⟩ F θ (.ref a) d) (hh : HA ⟨X.K, γ⟩ Φ F θ S H) (p : PostG ⟨X.K, γ⟩ Φ Wf σ F θ (Rep ⟨X.K, γ⟩) (g [d] S) Q) :
    wpAny (model X.prog X.w) X.A (getAttr (.ref a) f b) (EP X pins σ Q) E' s := by
  obtain ⟨pa, ga, fd, ps, c, hp, hb, FF⟩ := h.ex
  obtain ⟨mA, O, _, _, _, _⟩ := ins_get I.hok ea
  obtain ⟨od, J, _⟩ := O.look
  obtain ⟨rest, hrec⟩ := hp.rec_
  have I1 := I.tok (s.toks + 1)
  have hsp : spD ⟨X.K, γ⟩ 1 g [.ref a] H Q (fun _ _ _ => False) := ⟨rfl, [d], Φ, F, θ, S, .cons rd .nil, hh, by
    revert p
    cases g [d] S with
    | ok d S' => exact fun p => p
    | exc c d S' => exact fun p => p
    | bad => exact fun p => p⟩
  have hl : [Value.ref a].length = ps.length := by
    rw [← FF.len _ _ _ _ hsp]; rfl
  have hc : (PySem.W.clsIn X.K (γ cc)).isSome = true := by
    obtain ⟨cd, hc, _⟩ := PySem.W.any_some c.hd
    rw [hc]
    rfl
  refine PySem.W.get_bind I.kIn J (PySem.W.plainGet_of (c.get f)).1 (PySem.W.findObj_data hc hp.at_ hp.get hp.tak) (PySem.W.plainGet_of (c.get f)).2 (wpAny_call (PySem.W.prop_get (s := { s with toks := s.toks + 1 }) I.kIn hrec ?_))
  have hb' := hb { s with toks := s.toks + 1 } [.ref a] I1.kIn (by rw [List.append_nil]; exact hl)
  rw [List.append_nil] at hb'
  refine codeAny_mono (FF.run X.A.in1 X.stack { s with toks := s.toks + 1 } H ⟨[.ref a], []⟩ [.ref a] [.ref a] Q _ hr.in1 (guards_in1 hg) I1.env0.in1 hb' (.cons rfl .nil) hsp) fun r s' hq => ?_
  cases r with
  | error er =>
    obtain ⟨_, _, _, _, _, _, _, _, _, _, _, _, _, _, _, _, hf⟩ := (XE.of_call (W := Wf) I1 (fun cls d H' h => h) hq)
    exact hf.elim
  | ok fl =>
    cases fl with
    | ret u =>
      obtain ⟨v, H', I3, rv, q3⟩ := I1.after hq
      show wpAny _ _ (handedOut u) _ _ _
      rw [PySem.W.handedOut_of (handed_of rv)]
      exact wpAny_pure ⟨v, H', I3, rv, q3⟩
    | next => exact False.elim hq
    | brk => exact False.elim hq
    | cont => exact False.elim hq
theorem de_prop {cc j : Nat} {f : Str} {g : Fn} {e : Expr} {fa : Ex} (c : Ctx X W N sc k) (h : Prp γ X.prog X.w X.K X.mg X.base cc f j g) (hj : j + 1 ≤ k := by decide) (he : DE γ X W e fa) (hab : attributeBase e f X.env (eval e X.env) = eval e X.env := by rfl) :
    DE γ X W (.Attribute e f pos) (e1 (prpD cc g) fa) := by
  refine ⟨fun pins s σ H Q I ⟨Φ, ρ, F, θ, S, ea, hh, p⟩ => ?_⟩
  refine attr_of hab (thn (he.run pins s σ H (fun v H1 => ∃ F1 θ1 S1 d, Rep ⟨X.K, γ⟩ F1 θ1 v d ∧ HA ⟨X.K, γ⟩ Φ F1 θ1 S1 H1 ∧ PostG ⟨X.K, γ⟩ Φ W σ F1 θ1 (Rep ⟨X.K, γ⟩) (prpD cc g d S1) Q) I
    ⟨Φ, ρ, F, θ, S, ea, hh, PostG.seq p fun d S1 v F1 θ1 H1 _ g1 h1 r p1 => ⟨F1, θ1, S1, d, r, h1, p1⟩⟩) fun u s1 ⟨v, H1, I1, rv, F1, θ1, S1, d, rd, h1, p1⟩ => ?_)
  unfold prpD at p1
  cases hi : insOf S1 d with
  | none => rw [hi] at p1; exact p1.elim
  | some q =>
    obtain ⟨c', fs⟩ := q
    rw [hi] at p1
    obtain ⟨rfl, p2⟩ := post_if p1
    obtain ⟨a, dx, gs, rfl, hH, rf⟩ := insOf_rep h1 rd hi
    obtain rfl : u = Value.ref a := rv
    exact getprop_run h (c.hr.mono hj) c.gd I1 hH rd h1 (noexc_post p2)
end
end DL
/-! The D layer, 12: exceptions. -/
namespace DL
open PySem PySem.Spec PyProof.Rows L2

/-- __init__(self, value): self.value = value, of an exception in the making -/
def spErr (K : PySem.W.Frag) : Sp := fun vs H Q _ => ∃ a C y, vs = [.ref a, y] ∧ OexC K C ∧ PySem.W.findIn K (.ref C) "value" = some none ∧ H a = some (exo a C none) ∧
  ∀ dx, H dx = none → dx ≠ a → Q .non (upd (upd H dx (exd dx [("value", y)])) a (exo a C (some dx)))
section
variable {P : Program} {w : World} {K : PySem.W.Frag} {mg : Str → Option Value} {base : Heap}
theorem err_init {x qual : Str} {st : Stmt} {f : Addr} {fd : FuncData} {p1 p2 p3 p4 : Pos} (F : Fun K x qual st f fd) (S : FnScope ["self", "value"] ["self", "value"] (defScope st))
    (hb : defBody st = [.Assign [.Attribute (.Name "self" p1) "value" p2] (.Name "value" p3) p4]) (v1 : Vis (defScope st) "self") (v2 : Vis (defScope st) "value") :
    FnOk P w K mg base CX0 1 f fd ["self", "value"] (spErr K) := by
  refine F.ok (k := 0) S (fun vs H Q E ⟨a, C, y, h, _⟩ => by rw [h]; rfl) fun cdv A outer s H vs Q E hr hsp => ?_
  obtain ⟨a, C, y, rfl, T, hno, ha, q⟩ := hsp
  rw [hb]
  refine ⟨_, pss_one (ps_ost (pe_var (i := 0) rfl v1) (pe_var (i := 1) rfl v2)), ?_⟩
  exact ⟨y, rfl, .ref a, rfl, a, C, rfl, T, hno, .inl ⟨ha, fun dx h1 h2 => q dx h1 h2⟩⟩
end
/-- the name x of the module is the exception class c -/
structure Rai (γ : Nat → Addr) (P : Program) (w : World) (K : PySem.W.Frag) (mg : Str → Option Value) (base : Heap) (x : Str) (c j : Nat) : Prop where
  hm : mg x = some (.ref (γ c))
  T : OexC K (γ c)
  hno : PySem.W.findIn K (.ref (γ c)) "value" = some none
  ex : ∃ (f : Addr) (fd : FuncData) (ps : List Str), PySem.W.findIn K (.ref (γ c)) "__init__" = some (some (.ref f)) ∧ PySem.W.typeIn K (.ref f) = some (.type "function") ∧ FnOk P w K mg base CX0 j f fd ps (spErr K) ∧ Binds K fd ps []
section
variable {γ : Nat → Addr} {X : Cx} {W : WX} {N : List Str} {sc : Scope} {k : Nat} {pos pos' p : Pos}
def sRaise (c : Nat) (f : Ex) : Sm := fun ρ S => (f ρ S).toS ρ fun d S' => .exc c d ρ S'
theorem ds_raise {cc j : Nat} {x : Str} {e : Expr} {f : Ex} (c : Ctx X W N sc k) (h : Rai γ X.prog X.w X.K X.mg X.base x cc j) (hj : j + 1 ≤ k := by decide) (hg : sc.names.lookup x = some .globalImplicit := by rfl) (he : DE γ X W e f)
    (hdb : (x == ("__debug__" : Str)) = false := by decide) (hs : starEach (e :: []) X.env = (false, eval e X.env) :: starEach [] X.env := by rfl) (hpl : (backTo pos' (starEach [] X.env)).any (·.1) = false := by rfl) (hs1 : starEach [e] X.env = (false, eval e X.env) :: starEach [] X.env := by rfl) :
    DS γ X W (.Raise (some (.Call (.Name x p) [e] [] pos')) none pos) (sRaise cc f) := by
  obtain ⟨fI, fd, ps, h1, h2, h3, h4⟩ := h.ex
  refine PS.weak (ps_raise c.calm c.tk (pmk_oex (CX := CX0) h.T h1 h2 h3 (c.hr.mono hj) h4 .nil (fun _ _ _ _ _ _ _ hh => hh.elim) (show X.env.scope.names.lookup x = some .globalImplicit by rw [c.hsc]; exact hg) h.hm (pa_cons he pa_nil hs1) hdb hs hpl)) ?_
  rintro D σ H ⟨Φ, ρ, F, θ, S, ea, hh, p⟩
  refine ⟨Φ, ρ, F, θ, S, ea, hh, PostS.seq ea p fun d S' v F' θ' H' _ g1 hh' r p' => ?_⟩
  refine ⟨by simp, fun a ha => ⟨a, γ cc, v, rfl, h.T, h.hno, upd_same, fun dx hd hne => ⟨rfl, dx, [("value", v)], upd_same, ?_, ?_, ?_⟩⟩⟩
  · rw [upd_ne hne, upd_same]
  · rw [upd_ne hne] at hd; exact hd
  · have hdx : H' dx = none := by rw [upd_ne hne] at hd; exact hd
    obtain ⟨g2, h2⟩ := hh'.alloc (.xd [("value", v)]) hdx
    refine p' dx v σ _ θ' _ g2 ((ea.ext g1).ext g2) (h2.same fun b o q => ?_) upd_same (r.ext g2)
    by_cases hb : b = dx
    · subst hb; rw [upd_same] at q ⊢; exact q
    · rw [upd_ne hb] at q ⊢
      have hba : b ≠ a := ne_of_none q ha
      rw [del_ne hba, upd_ne hba, upd_ne hb, upd_ne hba]
      exact q

/-! ### try / except -/
/-- the context of an except suite -/
structure CtxS (X : Cx) (N : List Str) (sc : Scope) : Prop where
  hN : X.N = N
  hsc : X.env.scope = sc
  nd : N.Nodup
  fn : ∀ x, X.fn x = true
def catchD (i : Nat) (ct : Nat → Option Bool) (fs : Nat → Dv → Sm) : SRe → SRe
  | .exc c d ρ S => match ct c with
    | some true => if i < ρ.length then (match fs c d ρ S with
      | .nx ρ' S' => .nx (ρ'.set i none) S'
      | .brk ρ' S' => .brk (ρ'.set i none) S'
      | .ct ρ' S' => .ct (ρ'.set i none) S'
      | .ret d S' => .ret d S'
      | _ => .bad) else .bad
    | some false => .exc c d ρ S
    | none => .bad
  | r => r
def sTry (i : Nat) (ct : Nat → Option Bool) (b : Sm) (fs : Nat → Dv → Sm) : Sm := fun ρ S => catchD i ct fs (b ρ S)
theorem EA.unset {M : Ev} {F : Hp} {θ : List Addr} {σ : L2.St} {ρ : En} (h : EA M F θ σ ρ) (i : Nat) : EA M F θ (σ.set i none) (ρ.set i none) := by
  refine ⟨by rw [List.length_set, List.length_set]; exact h.len, fun j d' q => ?_⟩
  by_cases e : i = j
  · subst e
    have hlt : i < ρ.length := by
      have z := (List.getElem?_eq_some_iff.mp q).1
      rw [List.length_set] at z
      exact z
    rw [List.getElem?_set_self hlt] at q
    cases q
  · rw [List.getElem?_set_ne e] at q
    obtain ⟨u, a, b⟩ := h.at_ j d' q
    exact ⟨u, by rw [List.getElem?_set_ne e]; exact a, b⟩
theorem ds_try (i : Nat) {x n : Str} {cc : Nat} {body suite : List Stmt} {b₀ : Stmt} {np : Pos} {fb : Sm} {fs : Addr → Addr → Nat → Dv → Sm} {ct : Nat → Option Bool} {fs' : Nat → Dv → Sm} (c : CtxD X W N sc k) (hm : X.mg x = some (.ref (γ cc)))
    (hct : ∀ c' b, ct c' = some b → PySem.W.exmOne X.K (.ref (γ c')) (.ref (γ cc)) = some b)
    (hi : N[i]? = some n := by rfl) (hln : sc.names.lookup n = some .local := by rfl) (hg : sc.names.lookup x = some .globalImplicit := by rfl)
    (hb : ∀ (W' : WX) (pn : List (Addr × Obj)) (xe : Value → Shared → Prop), CtxD (X.tr pn xe) W' N sc k → DSs γ (X.tr pn xe) W' body fb)
    (hsu : ∀ (a dd : Addr) (oe : Obj) (c' : Nat) (pn : List (Addr × Obj)), Zc (.ref (γ c')) (some dd) oe → (∃ vs, oe.data = .fields vs) → CtxS (X.suite a ((a, oe) :: pn)) N sc → ∀ d, ct c' = some true → DSs γ (X.suite a ((a, oe) :: pn)) Wf (b₀ :: suite) (fs a dd c' d))
    (hfs : ∀ a dd c' d ρ S, ct c' = some true → i < ρ.length → fs a dd c' d (ρ.set i (some (.exn a dd c' d))) S = fs' c' d (ρ.set i (some (.exn a dd c' d))) S ∧ catchD i ct fs' (.exc c' d (ρ.set i (some (.exn a dd c' d))) S) = catchD i ct fs' (.exc c' d ρ S))
    (hdb : (x == ("__debug__" : Str)) = false := by decide) :
    DS γ X W (.Try body [.ExceptHandler (some (.Name x np)) (some n) (b₀ :: suite) pos'] [] [] pos) (sTry i ct fb fs') := by
  refine PS.weak (ps_try_as (i := i) (c := .ref (γ cc)) (tb := fun W' => dS ⟨X.K, γ⟩ W' fb) (ts := fun a cls d D σ H => ∃ c' dd dv, cls = .ref (γ c') ∧ d = some dd ∧ ct c' = some true ∧ dS ⟨X.K, γ⟩ Wf (fs a dd c' dv) D σ H) (Wout := W) c.st c.fr (by rw [c.hN]; exact c.nd) (by rw [c.hN]; exact hi)
    (show X.env.scope.names.lookup n = some .local by rw [c.hsc]; exact hln) ⟨show X.env.scope.names.lookup x = some .globalImplicit by rw [c.hsc]; exact hg, hdb, .inl hm⟩ c.tk
    (fun W' pn xe tk pw => hb W' pn xe ⟨⟨c.hN, c.hsc, c.nd, c.calm, tk, pw, c.gd, c.hr⟩, c.fn, c.st, c.fr⟩)
    (fun a oe cls d pn hz hv => ⟨fun pins s σ H D I ⟨c', dd, dv, h1, h2, h4, h3⟩ => by
      subst h1 h2
      exact (hsu a dd oe c' pn hz hv ⟨c.hN, c.hsc, c.nd, c.fn⟩ dv h4).run pins s σ H D I h3⟩)) ?_
  rintro D σ H ⟨Φ, ρ, F, θ, S, ea, hh, p⟩
  refine ⟨Φ, ρ, F, θ, S, ea, hh, ?_⟩
  unfold sTry at p
  revert p
  cases fb ρ S with
  | nx ρ' S' => exact fun p => p
  | ret d S' => exact fun p => p
  | brk ρ' S' => exact fun p => p
  | ct ρ' S' => exact fun p => p
  | bad => exact fun p => p
  | exc c' d ρ' S' =>
    intro p dd v σ' F' θ' H' g1 ea' hh' hx rv
    cases hc : ct c' with
    | none => simp only [catchD, hc] at p; exact p.elim
    | some b =>
      refine ⟨b, hct c' b hc, fun hb' a ha => ?_, fun hb' => ?_⟩
      · subst hb'
        have hlen : i < ρ'.length := by
          simp only [catchD, hc] at p
          by_cases hl : i < ρ'.length
          · exact hl
          · rw [if_neg hl] at p; exact p.elim
        have hlen2 : i < (ρ'.set i (some (.exn a dd c' d))).length := by rw [List.length_set]; exact hlen
        obtain ⟨q1, q2⟩ := hfs a dd c' d ρ' S' hc hlen
        refine ⟨c', dd, d, rfl, rfl, hc, Φ, ρ'.set i (some (.exn a dd c' d)), F', θ', S', ea'.set i (.exn hx rv), hh', ?_⟩
        rw [q1]
        rw [← q2] at p
        simp only [catchD, hc] at p
        rw [if_pos hlen2] at p
        revert p
        cases fs' c' d (ρ'.set i (some (.exn a dd c' d))) S' with
        | nx ρ2 S2 => exact fun p σ2 F2 θ2 H2 g2 e2 h2 => p _ F2 θ2 H2 (g1.trans g2) (e2.unset i) h2
        | brk ρ2 S2 => exact fun p σ2 F2 θ2 H2 g2 e2 h2 => p _ F2 θ2 H2 (g1.trans g2) (e2.unset i) h2
        | ct ρ2 S2 => exact fun p σ2 F2 θ2 H2 g2 e2 h2 => p _ F2 θ2 H2 (g1.trans g2) (e2.unset i) h2
        | ret d2 S2 => exact fun p v2 F2 θ2 H2 g2 h2 r2 => p v2 F2 θ2 H2 (g1.trans g2) h2 r2
        | exc _ _ _ _ => exact fun p => p.elim
        | bad => exact fun p => p.elim
      · subst hb'
        simp only [catchD, hc] at p
        exact p dd v σ' F' θ' H' g1 ea' hh' hx rv

/-- a suite of one assignment of what does not hang on the names -/
theorem suite_set {i j : Nat} {ct : Nat → Option Bool} {f : Nat → Dv → Ex} (hij : i ≠ j) (hf : ∀ c d ρ ρ' S, f c d ρ S = f c d ρ' S) {x : Option Dv} (c : Nat) (d : Dv) (ρ : En) (S : Sto) (h : ct c = some true) :
    catchD i ct (fun c d => sSet j (f c d)) (.exc c d (ρ.set i x) S) = catchD i ct (fun c d => sSet j (f c d)) (.exc c d ρ S) := by
  simp only [catchD, h, List.length_set, sSet]
  rw [hf c d (ρ.set i x) ρ S]
  by_cases hl : i < ρ.length
  · rw [if_pos hl, if_pos hl]
    cases f c d ρ S with
    | ok y S2 =>
      show SRe.nx (((ρ.set i x).set j (some y)).set i none) S2 = SRe.nx ((ρ.set j (some y)).set i none) S2
      rw [List.set_comm _ _ hij, List.set_set]
    | exc _ _ _ => rfl
    | bad => rfl
  · rw [if_neg hl, if_neg hl]
theorem eV_set {ρ : En} {i : Nat} {d : Dv} (h : i < ρ.length) (S : Sto) : eV i (ρ.set i (some d)) S = .ok d S := by
  unfold eV
  rw [List.getElem?_set_self h]
/-! ### within a suite -/
theorem de_varS (i : Nat) {x : Str} (c : CtxS X N sc) (hN : N[i]? = some x := by rfl) (hv : Vis sc x := by first | exact Or.inl rfl | exact Or.inr (Or.inl rfl) | exact Or.inr (Or.inr rfl))
    (hd : (x == ("__debug__" : Str)) = false := by decide) (hcd : (x == ("__classdict__" : Str)) = false := by decide) : DE γ X W (.Name x pos) (eV i) := by
  refine PE.weak (pe_var (i := i) (by rw [c.hN]; exact hN) (by rw [c.hsc]; exact hv) hd hcd) fun σ H Q ⟨Φ, ρ, F, θ, S, ea, ha, p⟩ => ?_
  unfold eV at p
  split at p
  · rename_i d e
    obtain ⟨v, hv, r⟩ := ea.at_ i d e
    exact ⟨v, hv, PostG.ok p ha r⟩
  · exact p.elim
theorem ds_setS (i : Nat) {x : Str} {e : Expr} {f : Ex} {pos' : Pos} (c : CtxS X N sc) (h : DE γ X W e f) (hi : N[i]? = some x := by rfl) (hx : Loc sc x := by first | exact Or.inl rfl | exact Or.inr rfl)
    (hs : swapsWith e (some (.Name x pos')) pos.line X.env = pure false := by rfl) : DS γ X W (.Assign [.Name x pos'] e pos) (sSet i f) :=
  PS.weak (ps_set (i := i) (by rw [c.hN]; exact c.nd) (by rw [c.hN]; exact hi) (by rw [c.hsc]; exact hx) h hs (.inl (c.fn x))) fun D σ H ⟨Φ, ρ, F, θ, S, ea, hh, p⟩ => ⟨Φ, ρ, F, θ, S, ea, hh, PostS.seq ea p fun d S' v F' θ' H' _ e h' r p' => p' _ F' θ' H' .rfl ((ea.ext e).set i r) h'⟩
/-- e.value -/
def xvD (a : Addr) (dd : Addr) (c : Nat) (d : Dv) (S : Sto) : Re Dv := match d with
  | .exn a' dd' c' d' => if a' = a ∧ dd' = dd ∧ c' = c then .ok d' S else .bad
  | _ => .bad
theorem de_xv {a dd : Addr} {oe : Obj} {cc : Nat} {pn : List (Addr × Obj)} {e : Expr} {f : Ex} (T : XfC X.K (γ cc)) (hno : PySem.W.findIn X.K (.ref (γ cc)) "value" = some none) (hz : Zc (.ref (γ cc)) (some dd) oe) (hf : ∃ vs, oe.data = .fields vs)
    (he : DE γ (X.suite a ((a, oe) :: pn)) W e f) (hb : attributeBase e "value" X.env (eval e X.env) = eval e X.env := by rfl) : DE γ (X.suite a ((a, oe) :: pn)) W (.Attribute e "value" pos) (e1 (xvD a dd cc) f) :=
  PE.weak (pe_xf T hno hz hf he hb) fun σ H Q ⟨Φ, ρ, F, θ, S, ea, hh, p⟩ => ⟨Φ, ρ, F, θ, S, ea, hh, PostG.seq p fun d S' v F' θ' H' _ g h' r p' => by
    unfold xvD at p'
    cases r with
    | exn h1 h2 =>
      obtain ⟨⟨rfl, rfl, rfl⟩, p2⟩ := post_if p'
      exact ⟨rfl, rfl, _, _, _, rfl, h'.sub _ _ h1, rfl, p2.ok h' h2⟩
    | _ => exact p'.elim⟩
/-- what a class is asked by isinstance -/
structure IsX (K : PySem.W.Frag) (D : Addr) : Prop where
  hcl : (PySem.W.clsIn K D).isSome = true
  hg : PySem.W.findIn K (.ref D) "__getattribute__" = some (some (.builtin "BaseException.__getattribute__"))
  hk : PySem.W.findIn K (.ref D) "__getattr__" = some none
  hs : PySem.W.subIn K (.ref D) (.type "BaseException") = some true
  ha : PySem.W.findIn K (.ref D) "__class__" = some (some (.builtin "object.__class__"))
  hn : PySem.W.specialIn K (.builtin "object.__class__") "__get__" = some (some (.builtin "getset_descriptor.__get__"))
  ht : PySem.W.takesIn K (.builtin "object.__class__") = some true
  hm : PySem.W.mroIn K D (.type "object") = some true
def eO (b : Option Bool) : Ex := fun _ S => match b with
  | some b => .ok (.bl b) S
  | none => .bad
/-- isinstance(e, C), e the exception -/
def bXi (a dd : Addr) (c cc : Nat) (b : Option Bool) : Fn := fun ds S => match ds with
  | [.exn a' dd' c' _, .cls cc'] => if a' = a ∧ dd' = dd ∧ c' = c ∧ cc' = cc then (match b with
    | some b => .ok (.bl b) S
    | none => .bad) else .bad
  | _ => .bad
theorem bu_xi {a dd : Addr} {oe : Obj} {c' cc : Nat} {b : Option Bool} {pn : List (Addr × Obj)} (T : IsX X.K (γ c')) (hb : ∀ r, b = some r → PySem.W.kitOne X.K (.ref (γ c')) (.ref (γ cc)) = some r) (hz : Zc (.ref (γ c')) (some dd) oe) (hf : ∃ vs, oe.data = .fields vs) :
    BuD γ (X.suite a ((a, oe) :: pn)) W (.builtin "isinstance") (bXi a dd c' cc b) := by
  intro pins s σ H vs us Q Φ F θ S ds I rv rd hh p
  match ds, rd, p with
  | [], _, p => exact p.elim
  | [_], _, p =>
    unfold bXi at p
    split at p
    · rename_i q; cases q
    · exact p.elim
  | _ :: _ :: _ :: _, _, p =>
    unfold bXi at p
    split at p
    · rename_i q; cases q
    · exact p.elim
  | [d, e], rd, p =>
    obtain ⟨v, w, rfl, r1, r2⟩ := reps2 rd
    cases r1 with
    | exn h1 h2 =>
      cases r2 with
      | cls cq =>
        simp only [bXi] at p
        obtain ⟨⟨rfl, rfl, rfl, rfl⟩, p2⟩ := post_if p
        cases b with
        | none => exact p2.elim
        | some b =>
          obtain ⟨u1, u2, rfl, q1, q2⟩ := vals2 rv
          cases q1
          cases q2
          obtain ⟨hget, _⟩ := I.pin (_, oe) (List.mem_append.mpr (.inl List.mem_cons_self))
          obtain ⟨vs, hv⟩ := hf
          obtain ⟨mA, hns, hr⟩ := (show ObjOk X.prog X.w H s.heap _ (.xd [("value", _)]) from I.hok _ _ (hh.sub _ _ h1))
          obtain ⟨od, ho, hl⟩ := lookIn_ns hns
          have J : PySem.W.InstAt s.heap _ oe (γ _) (some od) := ⟨hget, hz.1, by unfold PySem.W.notCls; rw [hv] <;> rfl, by rw [hz.2]; exact ho⟩
          exact PySem.W.kia_one (PySem.W.kitx_exc T.hcl T.hg T.hk T.hs T.ha T.hn T.ht T.hm) I.kIn J (hb _ rfl) (fun z => nomatch z) fun tk => ⟨.bl b, H, I.tok tk, rfl, p2.ok hh (.bl b)⟩
      | _ => exact p.elim
    | _ => exact p.elim
theorem de_buS {id : String} {x : Str} {g : Fn} {e : Expr} {es : List Expr} {fa : Xs} {p : Pos} (hc : BuD γ X W (.builtin id) g) (hg : sc.names.lookup x = some .globalImplicit) (c : CtxS X N sc) (hm : X.mg x = none) (hv : bootBuiltins x = some (.builtin id)) (ha : DAs γ X W (e :: es) fa)
    (hn : x ≠ "__name__" := by decide) (hdb : (x == ("__debug__" : Str)) = false := by decide) (he : starEach (e :: es) X.env = (false, eval e X.env) :: starEach es X.env := by rfl) (hpl : (backTo pos (starEach es X.env)).any (·.1) = false := by rfl) :
    DE γ X W (.Call (.Name x p) (e :: es) [] pos) (eN g fa) := by
  refine ⟨fun pins s σ H Q I ⟨Φ, ρ, F, θ, S, ea, hh, p⟩ => ?_⟩
  refine wpAny_Call_Name_kw (ld_blt I (show X.env.scope.names.lookup x = some .globalImplicit by rw [c.hsc]; exact hg) hm hv ?_ hn hdb)
  refine PyProof.Rows.callWith_builtin1 (thn (ha.run pos pins s σ H (fun vs H' => ∃ F θ S ds, Reps ⟨X.K, γ⟩ F θ vs ds ∧ HA ⟨X.K, γ⟩ Φ F θ S H' ∧ PostG ⟨X.K, γ⟩ Φ W σ F θ (Rep ⟨X.K, γ⟩) (g ds S) Q) I ?_) fun us s1 ⟨vs, H1, I1, r1, F1, θ1, S1, ds, rd, h1, p1⟩ => hc pins s1 σ H1 vs us Q Φ F1 θ1 S1 ds I1 r1 rd h1 p1) he hpl
  exact ⟨Φ, ρ, F, θ, S, ea, hh, PostG.seq p fun ds S' vs F' θ' H' _ e h' r p' => ⟨F', θ', S', ds, r, h', p'⟩⟩
/-- the name of a class -/
theorem de_cls (cc : Nat) {x : Str} (hsc : X.env.scope = sc) (hm : X.mg x = some (.ref (γ cc))) (hg : sc.names.lookup x = some .globalImplicit := by rfl) (hd : (x == ("__debug__" : Str)) = false := by decide) : DE γ X W (.Name x pos) (eC (.cls cc)) :=
  de_glob (v := .ref (γ cc)) (show X.env.scope.names.lookup x = some .globalImplicit by rw [hsc]; exact hg) hm rfl (fun _ _ => .cls cc) hd

theorem kit_self {K : PySem.W.Frag} {C : Addr} : PySem.W.kitOne K (.ref C) (.ref C) = some true := by unfold PySem.W.kitOne; simp
/-! ### isinstance -/
def isS (c : Nat) : String ⊕ Nat → Option Bool
  | .inr c' => if c' = c then some true else none
  | .inl _ => none
structure IsC (K : PySem.W.Frag) (D : Addr) : Prop where
  cl : Cls K D
  ha : PySem.W.findIn K (.ref D) "__class__" = some (some (.builtin "object.__class__"))
  hn : PySem.W.specialIn K (.builtin "object.__class__") "__get__" = some (some (.builtin "getset_descriptor.__get__"))
  ht : PySem.W.takesIn K (.builtin "object.__class__") = some true
  hm : PySem.W.mroIn K D (.type "object") = some true
def tyD (S : Sto) : Dv → Option (String ⊕ Nat)
  | .non => some (.inl "NoneType")
  | .bl _ => some (.inl "bool")
  | .int _ => some (.inl "int")
  | .str _ => some (.inl "str")
  | .lst _ => some (.inl "list")
  | .ins c _ => some (.inr c)
  | .cell k => match S[k]? with
    | some (.lst _) => some (.inl "list")
    | some (.ins c _) => some (.inr c)
    | _ => none
  | _ => none
def tyV (γ : Nat → Addr) : String ⊕ Nat → Value
  | .inl T => .type T
  | .inr c => .ref (γ c)
theorem tyD_rep {M : Ev} {Φ F : Hp} {θ : List Addr} {S : Sto} {H : Hp} {v : V} {d : Dv} {t : String ⊕ Nat} (hh : HA M Φ F θ S H) (r : Rep M F θ v d) (e : tyD S d = some t) (hc : ∀ c, t = .inr c → IsC M.K (M.γ c)) : TyX M.K H v (tyV M.γ t) := by
  cases r with
  | non => cases e; exact .base .non
  | bl b => cases e; exact .base (.bl b)
  | int i => cases e; exact .base (.int i)
  | str x => cases e; exact .base (.str x)
  | lst h _ => cases e; exact .base (.lst (hh.sub _ _ h))
  | ins h _ =>
    cases e
    have q := hc _ rfl
    exact .base (.ins (hh.sub _ _ h) q.cl q.ha q.hn q.ht q.hm)
  | @cell kk a h =>
    simp only [tyD] at e
    split at e
    · rename_i l hS
      cases e
      obtain ⟨_, o, h5, h6⟩ := hh.live kk a _ h hS (by intro z; cases z)
      cases o <;> first | exact h6.elim | skip
      exact .base (.lst h5)
    · rename_i c fs hS
      cases e
      obtain ⟨_, o, h5, h6⟩ := hh.live kk a _ h hS (by intro z; cases z)
      cases o <;> first | exact h6.elim | skip
      obtain ⟨rfl, h6⟩ := h6
      have q := hc _ rfl
      exact .base (.ins h5 q.cl q.ha q.hn q.ht q.hm)
    · cases e
  | _ => simp [tyD] at e
def bIsi (cc : Nat) (sub : String ⊕ Nat → Option Bool) : Fn := fun ds S => match ds with
  | [d, .cls c'] => if c' = cc then (match (tyD S d).bind sub with
    | some b => .ok (.bl b) S
    | none => .bad) else .bad
  | _ => .bad
theorem isS_ok {cc : Nat} (h : IsC X.K (γ cc)) : ∀ t b, isS cc t = some b → PySem.W.kitOne X.K (tyV γ t) (.ref (γ cc)) = some b ∧ ∀ c, t = .inr c → IsC X.K (γ c) := by
  intro t b hb
  cases t with
  | inl T => cases hb
  | inr c =>
    simp only [isS] at hb
    by_cases hc : c = cc
    · subst hc
      rw [if_pos rfl] at hb
      cases hb
      exact ⟨kit_self, fun c' h' => by cases h'; exact h⟩
    · rw [if_neg hc] at hb; cases hb
theorem bu_isi {cc : Nat} {sub : String ⊕ Nat → Option Bool} (hs : ∀ t b, sub t = some b → PySem.W.kitOne X.K (tyV γ t) (.ref (γ cc)) = some b ∧ ∀ c, t = .inr c → IsC X.K (γ c)) : BuD γ X W (.builtin "isinstance") (bIsi cc sub) :=
  .of call_isi fun Φ F θ S ds vs σ H Q rd hh p => by
  match ds, rd, p with
  | [], _, p => exact p.elim
  | [_], _, p =>
    unfold bIsi at p
    split at p
    · rename_i q; cases q
    · exact p.elim
  | _ :: _ :: _ :: _, _, p =>
    unfold bIsi at p
    split at p
    · rename_i q; cases q
    · exact p.elim
  | [d, e], rd, p =>
    obtain ⟨v, w, rfl, r1, r2⟩ := reps2 rd
    cases r2 with
    | cls cq =>
      simp only [bIsi] at p
      obtain ⟨rfl, p2⟩ := post_if p
      cases ht : tyD S d with
      | none => rw [ht] at p2; exact p2.elim
      | some t =>
        rw [ht] at p2
        simp only [Option.bind_some] at p2
        cases hb : sub t with
        | none => rw [hb] at p2; exact p2.elim
        | some b =>
          rw [hb] at p2
          obtain ⟨h1, h2⟩ := hs t b hb
          exact ⟨v, .ref (γ _), _, .ref (γ _), b, rfl, .own _, tyD_rep hh r1 ht h2, h1, p2.ok hh (.bl b)⟩
    | _ => exact p.elim
end
end DL
/-! The D layer, 13: the own ==, != and len. -/
namespace DL
open PySem PySem.Spec PyProof.Rows L2

/-- a method by its def -/
structure Own (γ : Nat → Addr) (P : Program) (w : World) (K : PySem.W.Frag) (mg : Str → Option Value) (base : Heap) (c : Nat) (m : Str) (j n : Nat) (g : Fn) : Prop where
  ex : ∃ (f : Addr) (fd : FuncData) (ps : List Str), Cls K (γ c) ∧ Meth K (γ c) m f ∧ Binds K fd ps [] ∧ FnG P w K mg base j f fd ps (spD ⟨K, γ⟩ (n + 1) g)
theorem Own.mth {γ : Nat → Addr} {P : Program} {w : World} {K : PySem.W.Frag} {mg : Str → Option Value} {base : Heap} {c : Nat} {m : Str} {j n : Nat} {g : Fn} (h : Own γ P w K mg base c m j n g) : Mth γ P w K mg base c m j n g :=
  let ⟨_, _, _, a, b, d, e⟩ := h.ex
  .of e a b d
section
variable {γ : Nat → Addr} {X : Cx} {W : WX} {N : List Str} {sc : Scope} {k : Nat} {pos : Pos}
/-- the def run anywhere below -/
theorem callA {A : Around} {j n : Nat} {f : Addr} {fd : FuncData} {ps : List Str} {g : Fn} (FF : FnG X.prog X.w X.K X.mg X.base j f fd ps (spD ⟨X.K, γ⟩ n g)) (hb : Binds X.K fd ps []) (hr : Room j A) (hg : A.guards = some []) (hf : A.frames = X.A.frames) (tk : Takes X W)
    {pins : List (Addr × Obj)} {s : Shared} {σ : L2.St} {H : Hp} {vs : List V} {us : List Value} {Q : VK} {Φ F : Hp} {θ : List Addr} {S : Sto} {ds : List Dv} (I : Inv X pins σ H s) (rv : Vals vs us) (rd : Reps ⟨X.K, γ⟩ F θ vs ds) (hh : HA ⟨X.K, γ⟩ Φ F θ S H) (hl : ds.length = n)
    (p : PostG ⟨X.K, γ⟩ Φ W σ F θ (Rep ⟨X.K, γ⟩) (g ds S) Q) : wpAny (model X.prog X.w) A (call (.ref f) us) (EP X pins σ Q) X.xe s := by
  have hsp : spD ⟨X.K, γ⟩ n g vs H Q (fun c d H' => W c d σ H') := ⟨by rw [rd.length]; exact hl, ds, Φ, F, θ, S, rd, hh, by
    revert p
    cases g ds S with
    | ok d S' => exact fun p => p
    | exc c d S' => exact fun p => p
    | bad => exact fun p => p⟩
  have hl2 : us.length = ps.length := by rw [← rv.length]; exact FF.len _ _ _ _ hsp
  have hb' := hb s us I.kIn (by rw [List.append_nil]; exact hl2)
  rw [List.append_nil] at hb'
  have e0 : Env0 X.prog X.w X.K X.mg X.base A X.stack s H := by
    have e := I.env0
    exact ⟨by rw [hf]; exact e.frames, e.mod, e.bs, e.bsz, e.funs, e.frf, e.hok, e.bare⟩
  refine wpAny_call (codeAny_mono (FF.run A X.stack s H ⟨us, []⟩ us vs Q _ hr hg e0 hb' rv hsp) fun r s' hq => ?_)
  cases r with
  | error e => exact tk e s' (XE.of_call I (fun cls d H' h => h) hq)
  | ok fl =>
    cases fl with
    | ret u => exact I.after hq
    | next => exact False.elim hq
    | brk => exact False.elim hq
    | cont => exact False.elim hq
def isOf (c : Nat) (S : Sto) (d : Dv) : Bool := match insOf S d with
  | some (c', _) => decide (c' = c)
  | none => false
theorem isOf_rep {M : Ev} {Φ F : Hp} {θ : List Addr} {S : Sto} {H : Hp} {v : V} {d : Dv} {c : Nat} (hh : HA M Φ F θ S H) (r : Rep M F θ v d) (e : isOf c S d = true) : ∃ a dx gs, v = .ref a ∧ H a = some (.ins (M.γ c) dx gs) := by
  unfold isOf at e
  cases h : insOf S d with
  | none => rw [h] at e; cases e
  | some p =>
    obtain ⟨c', fs⟩ := p
    rw [h] at e
    obtain rfl : c' = c := of_decide_eq_true e
    obtain ⟨a, dx, gs, rfl, ha, rf⟩ := insOf_rep hh r h
    exact ⟨a, dx, gs, rfl, ha⟩
/-- a bool is wanted -/
def wantB (f : Bool → Bool) : Dv → Sto → Re Dv := fun d S => match d with
  | .bl b => .ok (.bl (f b)) S
  | _ => .bad
/-- x == y, x and y of the class c with an own __eq__ -/
def oOwn (c : Nat) (g : Fn) (f : Bool → Bool) : Dv → Dv → Sto → Re Dv := fun d e S => if isOf c S d = true ∧ isOf c S e = true then (g [d, e] S).bind (wantB f) else .bad
theorem wantB_post {M : Ev} {Φ F : Hp} {θ : List Addr} {S : Sto} {H : Hp} {σ : L2.St} {f : Bool → Bool} {v : V} {d : Dv} {Q : VK} (hh : HA M Φ F θ S H) (r : Rep M F θ v d) (p : PostG M Φ W σ F θ (Rep M) (wantB f d S) Q) : ∃ b, v = .bl b ∧ Q (.bl (f b)) H := by
  cases r with
  | bl b => exact ⟨b, rfl, PostG.ok p hh (Rep.bl (f b))⟩
  | _ => exact p.elim
theorem notFirst_self {K : PySem.W.Frag} {C : Addr} : PySem.W.notFirst K C (.ref C) = true := by simp [PySem.W.notFirst]
theorem od_own {cc j : Nat} {g : Fn} (c : Ctx X W N sc k) (h : Own γ X.prog X.w X.K X.mg X.base cc "__eq__" j 1 g) (hj : j ≤ k := by decide) : OpD γ X W (compareOp .Eq) (oOwn cc g id) := by
  intro pins s σ H x y v u Q Φ F θ S d e I rx ry rd re hh p
  obtain ⟨f, fd, ps, cl, hm, hb, FF⟩ := h.ex
  obtain ⟨⟨h1, h2⟩, p⟩ := post_if p
  obtain ⟨a, dx, gs, rfl, ha⟩ := isOf_rep hh rd h1
  obtain ⟨a', dx', gs', rfl, ha'⟩ := isOf_rep hh re h2
  cases rx
  cases ry
  obtain ⟨mA, J, _⟩ := ins_get I.hok ha
  obtain ⟨mB, J', _⟩ := ins_get I.hok ha'
  obtain ⟨od, J, _⟩ := J.look
  obtain ⟨od', J', _⟩ := J'.look
  obtain ⟨m, hF⟩ := I.fr
  have hr := c.hr.mono hj
  show wpAny (model X.prog X.w) X.A (richCompare .Eq (.ref a) (.ref a')) _ _ _
  refine PySem.W.cmp_K (op := .Eq) (tb := .ref (γ cc)) hr.units0 hF I.ok.mod.kin J J'.type notFirst_self hm.at_ hm.fn ?_
  refine wpAny_mono (callA FF hb hr c.gd rfl c.tk (vs := [V.ref a, V.ref a']) (Q := fun w H' => ∃ b, w = .bl b ∧ Q (.bl b) H') I (.cons rfl (.cons rfl .nil)) (.cons rd (.cons re .nil)) hh rfl (PostG.seq p fun d' S' w' F' θ' H' _ g1 hh' r' p' => wantB_post hh' r' p')) (fun r s' q => ?_) fun _ _ x => x
  obtain ⟨w', H', I', rw', b, rfl, q⟩ := q
  cases rw'
  exact ⟨.bl b, H', I', rfl, q⟩
end
end DL
namespace PySem.W
open PySem PySem.Calls PyProof.Rows Builtin
section
variable {prog : Program} {w : World} {A : Around} {E : Value → Shared → Prop} {s : Shared} {K : Frag} {x y C L f : Addr} {ox oy : Obj} {od od' : Option Obj}
theorem ne_bound {M : Model} {args : List Value} {Q : Option Value → Shared → Prop} (hK : K.In s.heap) (J : InstAt s.heap x ox C od) (hs : findIn K (.ref C) "__ne__" = some (some (.builtin "object.__ne__")))
    (h : wpAny M A (call (.builtin "object.__ne__") (.ref x :: args)) (fun v => Q (some v)) E s) : wpAny M A (callSpecialIfBound? (.ref x) "__ne__" args) Q E s := by
  simp only [callSpecialIfBound?, bindSpecialIfBound?]
  refine wpAny_holding (wpAny_bind (wpAny_bind (wpAny_bind (J.type.here ((looks_findIn hK hs).here ?_)))))
  refine wpAny_bind (wpAny_askSetting (wpAny_ite ?_))
  have hbd : bindSpecial (.builtin "object.__ne__") (.ref x) = pure (.builtin "object.__ne__", [.ref x]) := PySem.F.slot_zip_ne.bind _
  have goal1 : wpAny M A (call (.builtin "object.__ne__") ([.ref x] ++ args) >>= fun v => pure (some v)) Q E s := wpAny_bind (wpAny_mono h (fun v s' hv => wpAny_pure hv) fun _ _ hv => hv)
  split
  · rw [hbd]; exact wpAny_bind (wpAny_pure (wpAny_pure goal1))
  · rw [hbd]; exact wpAny_tryCatch (wpAny_bind (wpAny_pure (wpAny_pure goal1)))
theorem ne_own {Q : Value → Shared → Prop} (hu : A.units + 1 < cLine) (hK : K.In s.heap) (J : InstAt s.heap x ox C od) (J' : InstAt s.heap y oy C od') (hs : findIn K (.ref C) "__ne__" = some (some (.builtin "object.__ne__"))) (he : findIn K (.ref C) "__eq__" = some (some (.ref f))) (hf : isFn K (.ref f) = true)
    (hob : mroIn K C (.type "object") = some true)
    (hcall : wpAny (model prog w) A.in1 (call (.ref f) [.ref x, .ref y]) (fun v s' => ∃ b, v = .bool b ∧ Q (.bool (!b)) s') E s) : wpAny (model prog w) A (richCompare .NotEq (.ref x) (.ref y)) Q E s := by
  have inner : wpAny (model prog w) A.in1 (Builtin.«object.__ne__» ⟨[.ref x, .ref y], []⟩) (fun fin s' => match fin with
      | .done (.ret v) => ∃ b, v = .bool b ∧ Q (.bool b) s'
      | _ => False) E s := by
    unfold Builtin.«object.__ne__»
    repeat (first
      | with_reducible refine wpAny_cRoomFor (show A.in1.units < cLine from hu) ?_
      | (refine wpAny_bind (m := callSpecialIfBound? (.ref x) (Str.ofString "__eq__") [.ref y]) (ifBound_K hK J he hf (wpAny_mono hcall (fun r s' hr => by
            obtain ⟨b, rfl, hq⟩ := hr
            repeat (first | exact ⟨_, rfl, hq⟩ | exact wpAny_pure ⟨_, rfl, hq⟩ | exact wpAny_truthy_bool ⟨_, rfl, hq⟩ | (refine wpAny_bind (m := truthy (.bool _)) (wpAny_truthy_bool ?_)) | wp_step)) fun _ _ e => e)))
      | wp_step)
  have subx : Looks (model prog w) s.heap (isInstance (.ref x) (.type "object")) true := J.type.andThen (looks_mroIn hK hob)
  have tried : wpAny (model prog w) A (tryCompare (.ref x) "__ne__" (.ref y)) (fun r s' => ∃ b, r = some (.bool b) ∧ Q (.bool b) s') E s := by
    simp only [tryCompare]
    refine wpAny_bind (ne_bound hK J hs (wpAny_call (codeAny_call_builtin PySem.F.slot_zip_ne.plain PySem.F.cmpEntry_ne (@check_slot (model prog w) _ _ s "object.__ne__" "object" "__ne__" (.ref x) [.ref y] [] _ PySem.F.cmpKind_ne PySem.F.cmpSplit_ne subx (PySem.F.cmpArgs_ne _ _) ?_))))
    refine wpAny_mono inner (fun fin s' q => ?_) fun _ _ e => e
    cases fin with
    | done fl =>
      cases fl with
      | ret v =>
        obtain ⟨b, rfl, q⟩ := q
        first | exact wpAny_pure ⟨b, rfl, q⟩ | exact ⟨b, rfl, q⟩ | exact wpAny_pure (wpAny_pure ⟨b, rfl, q⟩)
      | _ => exact q.elim
    | _ => exact q.elim
  unfold richCompare
  simp only [oneThing_ref]
  refine wpAny_holding ?_
  refine wpAny_bind (wpAny_cRoomFor (Nat.lt_of_succ_lt hu) ?_)
  rw [cmpInfo_NotEq]
  dsimp only
  refine wpAny_bind (J.type.here (wpAny_bind (J'.type.here ?_)))
  rw [show (Value.ref C != Value.ref C) = false from by simp]
  simp only [Bool.false_eq_true, if_false]
  refine wpAny_bind (wpAny_pure ?_)
  simp only [Bool.false_eq_true, if_false]
  refine wpAny_bind (wpAny_mono tried (fun v s' hv => ?_) fun _ _ e => e)
  obtain ⟨b, rfl, hq⟩ := hv
  first | exact wpAny_pure hq | exact wpAny_pure (wpAny_pure hq)
end
end PySem.W
namespace DL
open PySem PySem.Spec PyProof.Rows L2
section
variable {γ : Nat → Addr} {X : Cx} {W : WX} {N : List Str} {sc : Scope} {k : Nat} {pos : Pos}
theorem od_ownNe {cc j : Nat} {g : Fn} (c : Ctx X W N sc k) (h : Own γ X.prog X.w X.K X.mg X.base cc "__eq__" j 1 g) (hs : PySem.W.findIn X.K (.ref (γ cc)) "__ne__" = some (some (.builtin "object.__ne__"))) (hob : PySem.W.mroIn X.K (γ cc) (.type "object") = some true) (hj : j + 1 ≤ k := by decide) :
    OpD γ X W (compareOp .NotEq) (oOwn cc g not) := by
  intro pins s σ H x y v u Q Φ F θ S d e I rx ry rd re hh p
  obtain ⟨f, fd, ps, cl, hm, hb, FF⟩ := h.ex
  obtain ⟨⟨h1, h2⟩, p⟩ := post_if p
  obtain ⟨a, dx, gs, rfl, ha⟩ := isOf_rep hh rd h1
  obtain ⟨a', dx', gs', rfl, ha'⟩ := isOf_rep hh re h2
  cases rx
  cases ry
  obtain ⟨mA, J, _⟩ := ins_get I.hok ha
  obtain ⟨mB, J', _⟩ := ins_get I.hok ha'
  obtain ⟨od, J, _⟩ := J.look
  obtain ⟨od', J', _⟩ := J'.look
  have hr := c.hr.mono hj
  show wpAny (model X.prog X.w) X.A (richCompare .NotEq (.ref a) (.ref a')) _ _ _
  refine PySem.W.ne_own (hu_of c.hr) I.kIn J J' hs hm.at_ hm.fn hob ?_
  refine wpAny_mono (callA FF hb hr.in1 c.gd rfl c.tk (vs := [V.ref a, V.ref a']) (Q := fun w H' => ∃ b, w = .bl b ∧ Q (.bl (!b)) H') I (.cons rfl (.cons rfl .nil)) (.cons rd (.cons re .nil)) hh rfl (PostG.seq p fun d' S' w' F' θ' H' _ g1 hh' r' p' => wantB_post hh' r' p')) (fun r s' q => ?_) fun _ _ x => x
  obtain ⟨w', H', I', rw', b, rfl, q⟩ := q
  cases rw'
  exact ⟨b, rfl, .bl (!b), H', I', rfl, q⟩
/-- len(o) of an own __len__ -/
def bLenO (c : Nat) (g : Fn) : Fn := fun ds S => match ds with
  | [d] => if isOf c S d = true then (g [d] S).bind fun r S' => match r with
    | .int i => if 0 ≤ i ∧ i < 2 ^ 63 then .ok (.int i) S' else .bad
    | _ => .bad else .bad
  | _ => .bad
theorem bu_lenO {cc j : Nat} {g : Fn} (c : Ctx X W N sc k) (h : Own γ X.prog X.w X.K X.mg X.base cc "__len__" j 0 g) (hj : j + 1 ≤ k := by decide) : BuD γ X W (.builtin "len") (bLenO cc g) := by
  intro pins s σ H vs us Q Φ F θ S ds I rv rd hh p
  obtain ⟨f, fd, ps, cl, hm, hb, FF⟩ := h.ex
  match ds, rd, p with
  | [], _, p => exact p.elim
  | _ :: _ :: _, _, p => exact p.elim
  | [d], rd, p =>
    obtain ⟨v, rfl, r⟩ := reps1 rd
    obtain ⟨h1, p⟩ := post_if p
    obtain ⟨a, dx, gs, rfl, ha⟩ := isOf_rep hh r h1
    obtain ⟨u1, rfl, q1⟩ := vals1 rv
    cases q1
    obtain ⟨mA, J, _⟩ := ins_get I.hok ha
    obtain ⟨od, J, _⟩ := J.look
    obtain ⟨m, hF⟩ := I.fr
    have hr := c.hr.mono hj
    refine PySem.W.len_K hF I.ok.mod.kin J hm.at_ hm.fn ?_
    refine wpAny_mono (callA FF hb hr.in1 c.gd rfl c.tk (vs := [V.ref a]) (Q := fun w H' => ∃ i, w = .int i ∧ (0 ≤ i ∧ i < 2 ^ 63) ∧ Q (.int i) H') I (.cons rfl .nil) (.cons r .nil) hh rfl (PostG.seq p fun d' S' w' F' θ' H' _ g1 hh' r' p' => by
      cases r' with
      | int i =>
        obtain ⟨hi, p2⟩ := post_if p'
        exact ⟨i, rfl, hi, p2.ok hh' (.int i)⟩
      | _ => exact p'.elim)) (fun r s' q => ?_) fun _ _ x => x
    obtain ⟨w', H', I', rw', i, rfl, hi, q⟩ := q
    obtain ⟨t, rfl⟩ := (show ∃ t, r = Value.int i t from rw')
    exact ⟨hi, .int i, H', I'.tok _, ⟨_, rfl⟩, q⟩
end
end DL
/-! The D layer, 14: sorted, repr, lists put together in a cell. -/
namespace DL
open PySem PySem.Spec PyProof.Rows L2
section
variable {γ : Nat → Addr} {X : Cx} {W : WX} {N : List Str} {sc : Scope} {k : Nat} {pos : Pos}

/-! ### sorted -/
def tupD : PyData → Bool
  | .tuple (_ :: _) => true
  | _ => false
def flatD : PyData → Bool
  | .none => false
  | .tuple _ => false
  | _ => true
def sortOk (ps : List PyData) : Bool := ps.all (fun p => ps.all fun q => PySem.W.alike p q) && ((ps.all tupD || ps.all flatD) && (ps.all (fun p => decide (p.depth ≤ 16)) && decide (ps.length ≤ sizeLine)))
/-- the items, sorted by their data -/
noncomputable def sortD (l : List Dv) (ps : List PyData) : List Dv := ((l.zip ps).mergeSort (PySem.W.dataLe false fun b : Dv × PyData => b.2)).map (·.1)
theorem sortOk_of {ps : List PyData} (h : sortOk ps = true) : PySem.W.AllAlike ps ∧ PySem.W.Sortable ps ∧ (∀ p ∈ ps, p.depth ≤ 16) ∧ ps.length ≤ sizeLine := by
  unfold sortOk at h
  simp only [Bool.and_eq_true, Bool.or_eq_true, List.all_eq_true, decide_eq_true_eq] at h
  obtain ⟨h1, h2, h3, h4⟩ := h
  refine ⟨h1, ?_, h3, h4⟩
  rcases h2 with h2 | h2
  · refine .inl fun d hd => ?_
    have q := h2 d hd
    unfold tupD at q
    split at q
    · exact ⟨_, _, rfl⟩
    · cases q
  · refine .inr fun d hd => ?_
    have q := h2 d hd
    refine ⟨?_, ?_⟩
    · rintro rfl; cases q
    · rintro xs rfl; cases q
theorem each_zip {M : Ev} {F : Hp} {θ : List Addr} {s : Shared} {H : Hp} {pins : List (Addr × Obj)} {σ : L2.St} (I : Inv X pins σ H s) : ∀ {vs : List V} {us : List Value} {l : List Dv} {ps : List PyData}, Vals vs us → Reps M F θ vs l → DpAll X.K H vs ps →
    PySem.W.EachIs (fun u (b : Dv × PyData) => ∃ x, RelV x u ∧ Rep M F θ x b.1) us (l.zip ps) ∧ PySem.W.EachIs (fun u (b : Dv × PyData) => ∃ as, Reads s.heap u b.2 as) us (l.zip ps) ∧ (l.zip ps).map (·.2) = ps
  | _, _, _, _, .nil, .nil, .nil => ⟨.nil, .nil, rfl⟩
  | _, _, _, _, .cons r t, .cons d t2, .cons p t3 => by
    obtain ⟨h1, h2, h3⟩ := each_zip I t t2 t3
    exact ⟨.cons ⟨_, r, d⟩ h1, .cons (Dp.reads I _ _ _ p r) h2, by simp [h3]⟩
theorem each_back {M : Ev} {F : Hp} {θ : List Addr} : ∀ {us : List Value} {bs : List (Dv × PyData)}, PySem.W.EachIs (fun u (b : Dv × PyData) => ∃ x, RelV x u ∧ Rep M F θ x b.1) us bs → ∃ xs, Vals xs us ∧ Reps M F θ xs (bs.map (·.1))
  | _, _, .nil => ⟨[], .nil, .nil⟩
  | _, _, .cons ⟨x, r, d⟩ t => by
    obtain ⟨xs, h1, h2⟩ := each_back t
    exact ⟨x :: xs, .cons r h1, .cons d h2⟩
noncomputable def bSorted : Fn := fun ds S => match ds with
  | [d] => match asR S d with
    | some l => match toPys S l with
      | some ps => if sortOk ps = true then .ok (.lst (sortD l ps)) S else .bad
      | none => .bad
    | none => .bad
  | _ => .bad
theorem zip_len {M : Ev} {F : Hp} {θ : List Addr} {K : PySem.W.Frag} {H : Hp} : ∀ {vs : List V} {l : List Dv} {ps : List PyData}, Reps M F θ vs l → DpAll K H vs ps → (l.zip ps).length = ps.length
  | _, _, _, .nil, .nil => rfl
  | _, _, _, .cons _ t, .cons _ t2 => by simp [List.zip_cons_cons, zip_len t t2]
theorem bu_sorted (c : Ctx X W N sc k) : BuD γ X W (.builtin "sorted") bSorted := by
  intro pins s σ H vs us Q Φ F θ S ds I rv rd hh p
  match ds, rd, p with
  | [], _, p => exact p.elim
  | _ :: _ :: _, _, p => exact p.elim
  | [d], rd, p =>
    obtain ⟨v, rfl, r⟩ := reps1 rd
    unfold bSorted at p
    dsimp only at p
    cases hl : asR S d with
    | none => rw [hl] at p; exact p.elim
    | some l =>
      rw [hl] at p
      dsimp only at p
      cases hp : toPys S l with
      | none => rw [hp] at p; exact p.elim
      | some ps =>
        rw [hp] at p
        obtain ⟨ho, p2⟩ := post_if p
        obtain ⟨hal, hk, hd, hz⟩ := sortOk_of ho
        obtain ⟨a, xs, rfl, hs, rx⟩ := asR_rep r hh hl
        obtain ⟨its, rv2, hli, _⟩ := I.list hs
        rw [Vals.ref1 rv]
        obtain ⟨e1, e2, e3⟩ := each_zip (M := ⟨X.K, γ⟩) I rv2 rx (toPys_rep hh rx hp)
        have hzl := zip_len rx (toPys_rep hh rx hp)
        refine PySem.W.sorted_data (enc := fun b : Dv × PyData => b.2) (bs := l.zip ps) hli.isList e1 e2 (by rw [e3]; exact hal) (by rw [e3]; exact hk) (by rw [hzl]; exact hz) (fun b hb => ?_) fun out h1 h2 => ?_
        · have : b.2 ∈ ps := by rw [← e3]; exact List.mem_map_of_mem hb
          have z := hd _ this
          have z2 := units65 c
          show X.A.units + 2 + b.2.depth < cLine
          omega
        · obtain ⟨zs, q1, q2⟩ := each_back h2
          obtain ⟨ep, he'⟩ := PyProof.Rows.sortedAll_at s.heap its out.toArray
          have hlen : zs.length ≤ sizeLine := by rw [q1.length, h1, hzl]; exact hz
          have hn : H (s.heap.objs.size + 1) = none := I.hok.fresh (Nat.le_succ _)
          obtain ⟨g2, hh2⟩ := hh.alloc (.lst zs) hn
          exact ⟨.ref _, upd H (s.heap.objs.size + 1) (.lst zs), I.laid (t' := s.toks) (fun _ _ => PyProof.Rows.sortedAll_old) (Nat.le_succ _) ⟨hlen, out, ep, q1, he'⟩, rfl, p2 _ _ _ _ g2 hh2 (.lst upd_same (q2.ext g2))⟩

/-! ### repr -/
def reprOk (p : PyData) : Bool := p.showable && (!p.hasDict && (decide (p.shown.length ≤ sizeLine) && decide (p.depth ≤ 16)))
def boxD : Dv → Bool
  | .tup _ => true
  | .ktup _ => true
  | .lst _ => true
  | .ro _ => true
  | .cell _ => true
  | _ => false
def bRepr : Fn := fun ds S => match ds with
  | [d] => if boxD d = true then (match toPy S d with
    | some p => if reprOk p = true then .ok (.str p.shown) S else .bad
    | none => .bad) else .bad
  | _ => .bad
theorem box_ref {M : Ev} {F : Hp} {θ : List Addr} {v : V} {d : Dv} (r : Rep M F θ v d) (h : boxD d = true) : ∃ a, v = .ref a := by
  cases r <;> first | exact ⟨_, rfl⟩ | cases h
theorem bu_repr (c : Ctx X W N sc k) : BuD γ X W (.builtin "repr") bRepr := by
  intro pins s σ H vs us Q Φ F θ S ds I rv rd hh p
  match ds, rd, p with
  | [], _, p => exact p.elim
  | _ :: _ :: _, _, p => exact p.elim
  | [d], rd, p =>
    obtain ⟨v, rfl, r⟩ := reps1 rd
    obtain ⟨hb, p1⟩ := post_if p
    cases hp : toPy S d with
    | none => rw [hp] at p1; exact p1.elim
    | some q =>
      rw [hp] at p1
      obtain ⟨ho, p2⟩ := post_if p1
      obtain ⟨a, rfl⟩ := box_ref r hb
      rw [Vals.ref1 rv]
      obtain ⟨as, hr⟩ := Dp.reads I _ _ _ (toPy_rep hh r hp) (show RelV (.ref a) (.ref a) from rfl)
      unfold reprOk at ho
      simp only [Bool.and_eq_true, Bool.not_eq_true', decide_eq_true_eq] at ho
      obtain ⟨o1, o2, o3, o4⟩ := ho
      have z2 := units65 c
      exact repr_of_reads' hr o1 (PyData.noDict_hsm o2) c.gd (by show X.A.units + (q.depth + 1) < cLine; omega) (fun _ _ e => e) (fun h' u tk hk => ⟨.str q.shown, H, I.kept (t' := tk) hk, ⟨_, rfl⟩, p2.ok hh (.str _)⟩) o3

/-! ### two lists, put together in a cell -/
def oAddC : Dv → Dv → Sto → Re Dv := fun d e S => match asL S d, asL S e with
  | some l, some m => mkC (l ++ m) S
  | _, _ => .bad
theorem od_addC : OpD γ X W (binaryOp .Add) oAddC := by
  intro pins s σ H x y v u Q Φ F θ S d e I rx ry rd re hh p
  unfold oAddC at p
  split at p
  · rename_i l m h1 h2
    obtain ⟨a, xs, rfl, e1, r1⟩ := asL_rep rd hh h1
    obtain ⟨b, ys, rfl, e2, r2⟩ := asL_rep re hh h2
    obtain ⟨hl, q⟩ := newC hh (r1.append r2) p
    exact op_cat pins s σ H _ _ v u Q I rx ry ⟨a, b, xs, ys, rfl, rfl, e1, e2, by rw [← List.length_append]; exact hl, q⟩
  · exact p.elim
end
end DL
/-! The D layer, 15: the end. -/
namespace DL
open PySem PySem.Spec PyProof.Rows L2
section
variable {P : Program} {w : World} {K : PySem.W.Frag} {mg mb : Str → Option Value} {fa a : Addr} {fd : FuncData} {x : Str} {s1 : Shared} {vs : List Value} {ns : List Int}
/-- the law called on the script, over a heap in which the script alone may be tracked -/
theorem law_over (H : Hp) {k : Nat} {γ : Nat → Addr} {g : Fn} (KX : K.In s1.heap) (n1 : s1.heap.Ns mainGlobals mg) (n2 : s1.heap.Ns builtinsNs mb) (n3 : ∀ y : Str, y ≠ "__name__" → mb y = bootBuiltins y) (nl : s1.heap.NoLimit) (hg : s1.gens = #[])
    (ha : s1.heap.get? a = some { cls := .type "list", data := .seq vs.toArray }) (hr : Room k callerA)
    (FF : ∀ base : Heap, K.In base → base.Ns mainGlobals mg → FnG P w K mg base k fa fd [x] (spD ⟨K, γ⟩ 1 g)) (hbind : ∀ (s : Shared) (u : Value), BindsTo s fd ⟨[u], []⟩ [(x, u)])
    (hO : Only H) (hS : SqL K H a (ns.map V.int)) (hok : HOk P w H s1.heap) (one : ∀ b, H b ≠ none → b = a) (notK : H a ≠ none → K.lookup a = none) (hres : ∃ S', g [.ro (ns.map .int)] [] = .ok (.bl true) S') :
    codeAny (model P w) callerA (.call (.ref fa) ⟨[.ref a], []⟩) (fun r s' => r = .ok (.ret (.bool true)) ∧ OldK s1.heap s'.heap ∧ s'.os = s1.os ∧ AllBare s'.gens) s1 := by
  -- an object that is no list of that kind is not tracked
  have free : ∀ b o, s1.heap.get? b = some o → (∀ q z, o.data ≠ .seq q z) → H b = none := fun b o hb hd => by
    cases hq : H b with
    | none => rfl
    | some t =>
      obtain rfl := one b (by rw [hq]; exact fun z => nomatch z)
      rw [ha] at hb
      cases hb
      exact absurd rfl (hd _ _)
  have low : ∀ {b : Addr} {m : Str → Option Value}, s1.heap.Ns b m → (hidT s1.heap H).Ns b m := by
    rintro b m ⟨o, es, ep, h1, h2, h3⟩
    exact ⟨o, es, ep, hidT_get h1 (free b o h1 fun q z hz => by rw [h2] at hz; cases hz), h2, h3⟩
  have KB : K.In (hidT s1.heap H) := by
    intro b o hb
    refine hidT_get (KX b o hb) ?_
    cases hq : H b with
    | none => rfl
    | some t =>
      obtain rfl := one b (by rw [hq]; exact fun z => nomatch z)
      have := notK (by rw [hq]; exact fun z => nomatch z)
      rw [hb] at this
      cases this
  obtain ⟨mc, c1, c2⟩ := nl
  have start : Env0 P w K mg (hidT s1.heap H) callerA [] s1 H := by
    refine ⟨rfl, ⟨KB, low n1, ⟨mb, low n2, n3⟩, ⟨mc, low c1, c2⟩⟩, fun b o hb => of_hidT hb, Nat.le_of_eq (hidT_size _ _), trivial, ?_, hok, .of_eq hg⟩
    intro b hb
    cases hb
  obtain ⟨S', hres⟩ := hres
  have allI : ∀ {F : Hp} {θ : List Addr} (l : List Int), Reps ⟨K, γ⟩ F θ (l.map V.int) (l.map Dv.int) := by
    intro F θ l
    induction l with
    | nil => exact .nil
    | cons i r ih => exact .cons (.int i) ih
  have wish : spD ⟨K, γ⟩ 1 g [V.ref a] H (fun v _ => v = .bl true) (fun _ _ _ => False) := by
    refine ⟨rfl, [.ro (ns.map .int)], fun _ => none, H, [], [], .cons (.ro hS (allI ns)) .nil, ⟨fun _ _ h => h, rfl, List.nodup_nil, fun b hb => (by cases hb), fun i b ob h => (by simp at h), fun b o h => (by cases h)⟩, ?_⟩
    rw [hres]
    intro b F' θ' H' _ _ r
    exact rep_bl r
  refine codeAny_mono ((FF _ KB (low n1)).run callerA [] s1 H ⟨[.ref a], []⟩ [.ref a] [V.ref a] _ _ hr rfl start (hbind s1 (.ref a)) (.cons rfl .nil) wish) fun r s' h => ?_
  match r, h with
  | .error e, h =>
    obtain ⟨_, _, _, _, _, _, _, _, _, _, _, _, hf⟩ := h
    exact hf.elim
  | .ok .next, h => exact h.elim
  | .ok .brk, h => exact h.elim
  | .ok .cont, h => exact h.elim
  | .ok (.ret u), ⟨v, H', os, bare, un, hok', rv, q⟩ =>
    subst q
    cases rv
    refine ⟨rfl, OldK.of_keep fun b o hb => ?_, os, bare⟩
    rcases hO b with hn | ⟨ob, xs, hn⟩
    · exact un.keep b o hb hn (fun z => by cases z) (fun z => by cases z)
    · have t1 := (hok b _ hn).1
      have t2 := (hok' b _ (un.frzs b ob _ hn)).1
      rw [hb] at t1
      cases t1
      exact t2
theorem law_callG {k : Nat} {γ : Nat → Addr} {g : Fn} (KX : K.In s1.heap) (n1 : s1.heap.Ns mainGlobals mg) (n2 : s1.heap.Ns builtinsNs mb) (n3 : ∀ y : Str, y ≠ "__name__" → mb y = bootBuiltins y) (nl : s1.heap.NoLimit) (hg : s1.gens = #[])
    (ha : s1.heap.get? a = some { cls := .type "list", data := .seq vs.toArray }) (hi : IntsAre vs ns) (hl : ns.length ≤ sizeLine) (hr : Room k callerA)
    (FF : ∀ base : Heap, K.In base → base.Ns mainGlobals mg → FnG P w K mg base k fa fd [x] (spD ⟨K, γ⟩ 1 g)) (hbind : ∀ (s : Shared) (u : Value), BindsTo s fd ⟨[u], []⟩ [(x, u)])
    (hres : ∃ S', g [.ro (ns.map .int)] [] = .ok (.bl true) S') :
    codeAny (model P w) callerA (.call (.ref fa) ⟨[.ref a], []⟩) (fun r s' => r = .ok (.ret (.bool true)) ∧ OldK s1.heap s'.heap ∧ s'.os = s1.os ∧ AllBare s'.gens) s1 := by
  cases hk : K.lookup a with
  | some o =>
    obtain rfl : o = { cls := .type "list", data := .seq vs.toArray } := Option.some.inj ((KX a o hk).symm.trans ha)
    refine law_over (fun _ => none) KX n1 n2 n3 nl hg ha hr FF hbind (fun b => .inl rfl) (.inr ⟨_, vs.toArray, _, hk, rfl, rfl, rfl, ?_, ?_⟩) (fun b t ht => by cases ht) (fun b hb => absurd rfl hb) (fun hb => absurd rfl hb) hres
    · rw [List.size_toArray, hi.length]; exact hl
    · simpa using vals_ints hi
  | none =>
    have sel : ∀ b t, (if b = a then some (HO.frz { cls := .type "list", data := .seq vs.toArray } (.lst (ns.map V.int))) else none) = some t → b = a ∧ t = .frz { cls := .type "list", data := .seq vs.toArray } (.lst (ns.map V.int)) := by
      intro b t h
      by_cases hb : b = a
      · rw [if_pos hb] at h
        exact ⟨hb, (Option.some.inj h).symm⟩
      · rw [if_neg hb] at h
        cases h
    refine law_over (fun b => if b = a then some (.frz { cls := .type "list", data := .seq vs.toArray } (.lst (ns.map V.int))) else none) KX n1 n2 n3 nl hg ha hr FF hbind (fun b => ?_) (.inl (.inr ⟨{ cls := .type "list", data := .seq vs.toArray }, if_pos rfl⟩)) (fun b t ht => ?_) (fun b hb => ?_) (fun _ => hk) hres
    · by_cases hb : b = a
      · exact .inr ⟨_, _, if_pos hb⟩
      · exact .inl (if_neg hb)
    · obtain ⟨rfl, rfl⟩ := sel b t ht
      exact ⟨ha, by rw [List.length_map]; exact hl, vs, _, vals_ints hi, ha⟩
    · cases hq : (if b = a then some (HO.frz { cls := .type "list", data := .seq vs.toArray } (.lst (ns.map V.int))) else none) with
      | none => exact absurd hq hb
      | some t => exact (sel b t hq).1
end
/-- what k_head leaves, from the law's def -/
theorem walkG {l : PySem.W.OpenLaw} {n k : Nat} {q : Program} {loose : List Str} {XP : (Str → Option Value) → Heap → Prop} {YP : World → Heap → Prop} {d : DefRec} {K : Params → PySem.W.Frag} {x : Str} {g : Fn}
    (hn : l.most = some n) (hn2 : n ≤ sizeLine) (hdf : d.params.defaults = []) (hr : Room k callerA) (hY : ∀ (w : World) (h : Heap), YP w h → (K w.params).In h)
    (FF : ∀ (w : World) (mg : Str → Option Value) (fa : Addr) (h : Heap), (K w.params).In h → h.Ns mainGlobals mg → mg d.name = some (.ref fa) →
      ∃ (γ : Nat → Addr) (fd : FuncData), (∀ (s : Shared) (u : Value), BindsTo s fd ⟨[u], []⟩ [(x, u)]) ∧ ∀ base : Heap, (K w.params).In base → base.Ns mainGlobals mg → FnG l.prog w (K w.params) mg base k fa fd [x] (spD ⟨K w.params, γ⟩ 1 g))
    (hres : ∀ ns : List Int, ns.length ≤ n → ∃ S', g [.ro (ns.map .int)] [] = .ok (.bl true) S') : PySem.W.WalkO q loose XP YP l.row.toRowW d [] (fun f vs => PySem.call f vs) := by
  refine Att.attach_call hn hdf fun w s0 s1 mg mb fa o pm cd doc a vs ns G Y ho hd hcd hmg hobj hints hlen hg => ?_
  obtain ⟨γ, fd, hb, hF⟩ := FF w mg fa s1.heap (hY w _ Y) G.T.g hmg
  exact law_callG (hY w _ Y) G.T.g G.T.b G.T.builtins G.T.nolimit hg hobj hints (Nat.le_trans hlen hn2) hr hF hb (hres ns hlen)
end DL
/-! The D layer, 16: odds and ends. -/
namespace DL
open PySem PySem.Spec PyProof.Rows L2
section
variable {γ : Nat → Addr} {X : Cx} {W : WX} {N : List Str} {sc : Scope} {k : Nat} {pos : Pos}
/-- a text of the module -/
theorem de_gstr {x z : Str} (hsc : X.env.scope = sc) (h : ∃ t, X.mg x = some (.str z t)) (hg : sc.names.lookup x = some .globalImplicit := by rfl) (hd : (x == ("__debug__" : Str)) = false := by decide) : DE γ X W (.Name x pos) (eC (.str z)) := by
  obtain ⟨t, h⟩ := h
  exact de_glob (v := .str z) (show X.env.scope.names.lookup x = some .globalImplicit by rw [hsc]; exact hg) h ⟨t, rfl⟩ (fun _ _ => .str z) hd
theorem sw_par {x y : Str} {a b : Expr} {px py pt : Pos} {kt k2 : Nat} {pt2 : Pos} (c : CtxD X W N sc k) (hk : sc.kind = .function := by rfl) (hx : sc.names.lookup x = some .local := by rfl) (hy : sc.names.lookup y = some .local := by rfl)
    (hl : (py.line == px.line) = true := by rfl) (hne : ([x, y].eraseDups.length != [x, y].length) = false := by decide +kernel) (hst : ([a, b].any fun | .Starred .. => true | _ => false) = false := by rfl)
    (hf : ([a, b].all (foldedForSure 8)) = false := by rfl) (hca : ([a, b].all (constantsAlone 8)) = false := by rfl) :
    swappedStores [.Tuple [.Name x px, .Name y py] kt pt] (.Tuple [a, b] k2 pt2) X.env = pure (some [x, y]) := by
  have e1 : X.env.kindOf x = some .local := by unfold Env.kindOf; rw [c.hsc]; exact hx
  have e2 : X.env.kindOf y = some .local := by unfold Env.kindOf; rw [c.hsc]; exact hy
  have e3 : X.env.blockKind = .function := by
    unfold Env.blockKind
    rw [c.hsc, hk]
    rfl
  have e4 : ([Expr.Name x px, Expr.Name y py].filterMap fun
      | .Name id pos => if X.env.kindOf id == some .local && pos.line == (([Expr.Name x px, Expr.Name y py].head?.map (·.pos.line)).getD 0) then some id else none
      | _ => none) = [x, y] := by
    have z : (([Expr.Name x px, Expr.Name y py].head?.map (·.pos.line)).getD 0) = px.line := rfl
    rw [z]
    have hl2 : py.line = px.line := by simpa using hl
    simp [List.filterMap, e1, e2, hl2]
  unfold swappedStores
  simp only [e3]
  rw [show ((!([Expr.Name x px, Expr.Name y py].length == 2 || [Expr.Name x px, Expr.Name y py].length == 3) || [a, b].length != [Expr.Name x px, Expr.Name y py].length || ScopeKind.function != ScopeKind.function)) = false from rfl]
  rw [if_neg Bool.false_ne_true]
  refine (if_neg (fun h => Bool.noConfusion (h.symm.trans hst))).trans ?_
  refine (if_neg (fun h => ?_)).trans ?_
  · have h2 : (([x, y].length != [Expr.Name x px, Expr.Name y py].length) || ([x, y].eraseDups.length != [x, y].length)) = true := by
      rw [← e4]; exact h
    rw [hne] at h2
    cases h2
  refine (if_neg (fun h => Bool.noConfusion (h.symm.trans hf))).trans ?_
  refine (if_neg (fun h => Bool.noConfusion (h.symm.trans hca))).trans ?_
  exact congrArg (fun l => (pure (some l) : Sem (Option (List Str)))) e4
theorem sw_const {ts : List Expr} {vs : List Expr} {k2 kt : Nat} {pt pt2 : Pos} {env : Env} (hf : (vs.all (foldedForSure 8)) = true := by rfl) : swappedStores [.Tuple ts kt pt] (.Tuple vs k2 pt2) env = pure none := by
  unfold swappedStores
  dsimp only
  split
  · rfl
  · split
    · rfl
    · split
      · rfl
      · first
        | rfl
        | (rw [if_pos hf])
end
theorem Fun.kb {K : PySem.W.Frag} {x qual : Str} {st : Stmt} {f : Addr} {fd : FuncData} {ps ks : List Str} {n : Nat} {perm : List Nat} (F : Fun K x qual st f fd)
    (h : ∀ (kV doc pm : Value) (an : Option Addr) (cdv ct : Value) (us ws : List Value), us.length = n → ws.length = ks.length → bindArgs (PySem.W.fnOf x qual (defArgs st) (defBody st) (defScope st) .none kV doc pm an cdv ct) ⟨us, ks.zip ws⟩ = pure (ps.zip (pick perm (us ++ ws)))) : KB K fd ps n ks perm := by
  obtain ⟨oc, od, kV, doc, pm, an, cdv, ct, osl, rfl, lk, hcd⟩ := F.ex
  exact fun s us ws _ h1 h2 => .of_eq (h kV doc pm an cdv ct us ws h1 h2)
end DL
namespace PySem.W
open PySem
theorem cls_some {K : Frag} {C : Addr} (h : hasDictIn K C = true) : (clsIn K C).isSome = true := by
  obtain ⟨cd, hc, _⟩ := any_some h
  rw [hc]
  exact Option.isSome_some
theorem exm_refD {K : Frag} {C D : Addr} {b : Bool} (h1 : subIn K (.ref C) (.type "BaseException") = some true) (hd : hasDictIn K C = true) (ht : typeIn K (.ref C) = some (.type "type")) (hs : subIn K (.ref D) (.ref C) = some b) : exmOne K (.ref D) (.ref C) = some b := by
  have q := cls_some hd
  unfold exmOne kitCls
  simp [h1, q, ht, hs]
end PySem.W
/-! The D layer, 17: keyword calls by a name, lists unpacked, tuple.index. -/
namespace DL
open PySem PySem.Spec PyProof.Rows L2

/-- the name x of the module is called with n arguments and the keywords ks -/
structure CalK (γ : Nat → Addr) (P : Program) (w : World) (K : PySem.W.Frag) (mg : Str → Option Value) (base : Heap) (x : Str) (j n : Nat) (ks : List Str) (g : List Dv → List Dv → Sto → Re Dv) : Prop where
  ex : ∃ u : Value, mg x = some u ∧ PySem.W.keepIn K u = true ∧ ∀ (X : Cx) (W : WX), X.prog = P → X.w = w → X.K = K → X.mg = mg → X.base = base → Room j X.A → X.A.guards = some [] → Takes X W → CallK γ X W u n ks g
section
variable {γ : Nat → Addr} {P : Program} {w : World} {K : PySem.W.Frag} {mg : Str → Option Value} {base : Heap} {x : Str} {j n m : Nat} {ks : List Str} {perm : List Nat} {g : Fn}
theorem CalK.fn {f : Addr} {fd : FuncData} {ps : List Str} (F : FnG P w K mg base j f fd ps (spD ⟨K, γ⟩ m g)) (hm : mg x = some (.ref f)) (hk : PySem.W.keepIn K (.ref f) = true) (hb : KB K fd ps n ks perm) (hn : perm.length = m) (hp : ∀ i ∈ perm, i < n + ks.length) :
    CalK γ P w K mg base x j n ks (fun ds es S => g (pick perm (ds ++ es)) S) :=
  ⟨.ref f, hm, hk, by rintro X W rfl rfl rfl rfl rfl hr hg tk; exact callK_fn F hb hn hp hr hg tk⟩
/-- a class, with keywords alone: perm tells where they go behind the instance -/
theorem CalK.make {c : Nat} {f : Addr} {fd : FuncData} {ps : List Str} (M : Mk K (γ c) f) (F : FnG P w K mg base j f fd ps (spD ⟨K, γ⟩ (m + 1) g)) (hm : mg x = some (.ref (γ c))) (hb : KB K fd ps 1 ks (0 :: perm.map (· + 1))) (hn : perm.length = m) (hp : ∀ i ∈ perm, i < ks.length) :
    CalK γ P w K mg base x (j + 1) 0 ks (fun ds es S => makeD c g (pick perm (ds ++ es)) S) := by
  refine ⟨.ref (γ c), hm, M.kp, ?_⟩
  rintro X W rfl rfl rfl rfl rfl hr hg tk pins s σ H vs zs us ws Q Φ F0 θ S ds es I rv rz rd re hh hl hl2 p
  have hds : ds = [] := List.length_eq_zero_iff.mp hl
  subst hds
  cases rd
  cases rv
  have n1 : H s.heap.objs.size = none := I.hok.fresh (Nat.le_refl _)
  have n2 : H (s.heap.objs.size + 1) = none := I.hok.fresh (Nat.le_succ _)
  have ne : s.heap.objs.size ≠ s.heap.objs.size + 1 := by omega
  have I2 := Inv.made (C := γ c) I
  have h1 : HA ⟨X.K, γ⟩ Φ F0 θ S (upd H s.heap.objs.size (.own (s.heap.objs.size + 1))) := hh.same fun a o q => by rw [upd_ne (ne_of_none q n1)]; exact q
  obtain ⟨e2, h2⟩ := h1.newCell (p := s.heap.objs.size + 1) (o := .ins (γ c) s.heap.objs.size []) (ob := .ins c []) (by rw [upd_ne (Ne.symm ne)]; exact n2) ⟨rfl, .nil⟩
  have hcell : Rep ⟨X.K, γ⟩ F0 (θ ++ [s.heap.objs.size + 1]) (.ref (s.heap.objs.size + 1)) (.cell S.length) := .cell (by
    rw [← hh.len, List.getElem?_append_right (Nat.le_refl _), Nat.sub_self]; rfl)
  have p2 := PostG.ext e2 p
  simp only [List.nil_append] at p2
  unfold makeD at p2
  have shift : ∀ {α : Type} (a : α) (l : List α), pick (0 :: perm.map (· + 1)) (a :: l) = a :: pick perm l := fun a l => by
    unfold pick
    rw [List.filterMap_cons, List.getElem?_cons_zero, List.filterMap_map]
    rfl
  have rA : Reps ⟨X.K, γ⟩ F0 (θ ++ [s.heap.objs.size + 1]) (pick perm zs) (pick perm es) := pick_reps (re.ext e2) perm
  have vA : Vals (pick perm zs) (pick perm ws) := pick_vals rz perm
  have hlen : (pick perm es).length = m := by
    rw [← hn]
    have : ∀ q : List Nat, (∀ i ∈ q, i < es.length) → (pick q es).length = q.length := by
      intro q
      induction q with
      | nil => intro _; rfl
      | cons i q ih =>
        intro h
        have hi := h i List.mem_cons_self
        unfold pick at ih ⊢
        rw [List.filterMap_cons, List.getElem?_eq_getElem hi]
        simp only [List.length_cons]
        rw [ih fun j hj => h j (List.mem_cons_of_mem _ hj)]
    exact this perm fun i hi => by rw [hl2]; exact hp i hi
  have hsp : spD ⟨X.K, γ⟩ (m + 1) g (.ref (s.heap.objs.size + 1) :: pick perm zs) (upd (upd H s.heap.objs.size (.own (s.heap.objs.size + 1))) (s.heap.objs.size + 1) (.ins (γ c) s.heap.objs.size [])) (fun v H2 => v = .non ∧ Q (.ref (s.heap.objs.size + 1)) H2) (fun c d H' => W c d σ H') := by
    refine ⟨by rw [List.length_cons, rA.length, hlen], .cell S.length :: pick perm es, Φ, F0, θ ++ [s.heap.objs.size + 1], S ++ [.ins c []], .cons hcell rA, h2, ?_⟩
    revert p2
    cases g (.cell S.length :: pick perm es) (S ++ [.ins c []]) with
    | ok d S' =>
      intro p v F' θ' H' e' h' r'
      cases d with
      | non => exact ⟨rep_non r', p _ F' θ' H' e' h' (hcell.ext e')⟩
      | _ => exact p.elim
    | exc c d S' => exact fun p => p
    | bad => exact fun p => p
  have r2 : Vals (V.ref (s.heap.objs.size + 1) :: pick perm zs) (Value.ref (s.heap.objs.size + 1) :: pick perm ws) := .cons rfl vA
  have hb' := hb { s with heap := ((s.heap.push PySem.W.emptyDict).push (PySem.W.instObj (γ c) s.heap.objs.size)) } [Value.ref (s.heap.objs.size + 1)] ws I2.kIn rfl (by rw [← rz.length, re.length]; exact hl2)
  rw [List.singleton_append, shift] at hb'
  refine wpAny_call (make_map (f := f) I.kIn M.makes M.init (beq_iff_eq.mp M.fn) (codeAny_mono (F.run _ X.stack _ _ ⟨[Value.ref (s.heap.objs.size + 1)], ks.zip ws⟩ _ _ _ _ (hr.make (γ c) [] (ks.zip ws))
    (guards_make hg) (I2.env0.make (γ c) [] (ks.zip ws)) hb' r2 hsp) fun r s' hq' => ?_))
  match r, hq' with
  | .error e, hq' => exact tk e s' (XE.of_call I2 (fun cls d H' h => h) hq')
  | .ok .next, hq' => exact hq'.elim
  | .ok .brk, hq' => exact hq'.elim
  | .ok .cont, hq' => exact hq'.elim
  | .ok (.ret u), hq' =>
    obtain ⟨v, H', I3, rv, ev, q3⟩ := I2.after hq'
    subst ev
    exact ⟨rv, ⟨V.ref (s.heap.objs.size + 1), H', I3, rfl, q3⟩⟩
theorem CalK.told {g g' : List Dv → List Dv → Sto → Re Dv} (h : CalK γ P w K mg base x j n ks g) (hk : ∀ ds es S, ds.length = n → es.length = ks.length → Closed S → lowL S.length (ds ++ es) = true → Le S.length (g ds es S) (g' ds es S)) : CalK γ P w K mg base x j n ks g' := by
  obtain ⟨u, h1, h2, h3⟩ := h.ex
  refine ⟨u, h1, h2, fun X W a b c d e r1 r2 r3 pins s σ H vs zs us ws Q Φ F θ S ds es I rv rz rd re hh hl hl2 p => ?_⟩
  refine h3 X W a b c d e r1 r2 r3 pins s σ H vs zs us ws Q Φ F θ S ds es I rv rz rd re hh hl hl2 ?_
  exact hk ds es S hl hl2 hh.closed (by rw [← hh.len]; exact (rd.append re).low) _ Φ W σ F θ Q hh.len p
theorem pick_len {α : Type} : ∀ (q : List Nat) (l : List α), (∀ i ∈ q, i < l.length) → (pick q l).length = q.length
  | [], _, _ => rfl
  | i :: q, l, h => by
    have hi := h i List.mem_cons_self
    have ih := pick_len q l fun j hj => h j (List.mem_cons_of_mem _ hj)
    unfold pick at ih ⊢
    rw [List.filterMap_cons, List.getElem?_eq_getElem hi]
    simp only [List.length_cons]
    rw [ih]
theorem low_at {k : Nat} : ∀ {l : List Dv} {i : Nat} {d : Dv}, lowL k l = true → l[i]? = some d → lowD k d = true
  | [], _, _, _, h => by simp at h
  | a :: r, 0, d, h, e => by
    rw [lowL, Bool.and_eq_true] at h
    simp at e
    subst e
    exact h.1
  | a :: r, i + 1, d, h, e => by
    rw [lowL, Bool.and_eq_true] at h
    exact low_at h.2 (by simpa using e)
theorem low_pick {k : Nat} {l : List Dv} (h : lowL k l = true) : ∀ q : List Nat, lowL k (pick q l) = true
  | [] => by simp [pick, lowL]
  | i :: q => by
    have ih := low_pick h q
    unfold pick at ih ⊢
    rw [List.filterMap_cons]
    cases e : l[i]? with
    | none => exact ih
    | some d => rw [lowL, low_at h e, ih]; rfl
theorem CalK.told' {g g' : Fn} (h : CalK γ P w K mg base x j n ks (fun ds es S => g (pick perm (ds ++ es)) S)) (hn : perm.length = m) (hp : ∀ i ∈ perm, i < n + ks.length) (le : ∀ ds S, ds.length = m → Closed S → lowL S.length ds = true → Le S.length (g ds S) (g' ds S)) :
    CalK γ P w K mg base x j n ks (fun ds es S => g' (pick perm (ds ++ es)) S) :=
  h.told fun ds es S h1 h2 hc hl => le _ S (by rw [pick_len _ _ fun i hi => by rw [List.length_append, h1, h2]; exact hp i hi, hn]) hc (low_pick hl perm)
end
section
variable {γ : Nat → Addr} {X : Cx} {W : WX} {N : List Str} {sc : Scope} {k : Nat} {pos : Pos}
def eCallK (nk : Nat) (g : List Dv → List Dv → Sto → Re Dv) (as : Xs) : Ex := fun ρ S => (as ρ S).bind fun es S1 => if es.length = nk then g [] es S1 else .bad
/-- f(k = v, ..) -/
theorem de_callK0 {x : Str} {j : Nat} {ks : List Str} {g : List Dv → List Dv → Sto → Re Dv} {p : Pos} {kws : List Keyword} {fa : Xs} (c : Ctx X W N sc k) (h : CalK γ X.prog X.w X.K X.mg X.base x j 0 ks g) (hj : j ≤ k := by decide) (hg : sc.names.lookup x = some .globalImplicit := by rfl) (ha : DKs γ X W kws fa)
    (hall : (backToKw pos (keywordEach kws X.env)).all (·.1.isSome) = true := by rfl) (hks : (backToKw pos (keywordEach kws X.env)).filterMap (·.1) = ks := by rfl) (hdb : (x == ("__debug__" : Str)) = false := by decide)
    (hpl : ((backTo pos (starEach [] X.env)).any (·.1) || (backToKw pos (keywordEach kws X.env)).any (·.1.isNone)) = false := by rfl) :
    DE γ X W (.Call (.Name x p) [] kws pos) (eCallK ks.length g fa) := by
  obtain ⟨u, hm, hk, hc⟩ := h.ex
  refine ⟨fun pins s σ H Q I ⟨Φ, ρ, F, θ, S, ea, hh, p⟩ => ?_⟩
  refine wpAny_Call_Name_kw (ld_glob I (show X.env.scope.names.lookup x = some .globalImplicit by rw [c.hsc]; exact hg) hm ?_ hdb)
  refine PySem.W.callWith_KW0 (h₀ := X.base) I.ok.mod.kin hk hall ?_ hpl
  refine thn (ha.run pos pins s σ H (fun vs H2 => ∃ F2 θ2 S2 ds, Reps ⟨X.K, γ⟩ F2 θ2 vs ds ∧ HA ⟨X.K, γ⟩ Φ F2 θ2 S2 H2 ∧ ds.length = ks.length ∧ PostG ⟨X.K, γ⟩ Φ W σ F2 θ2 (Rep ⟨X.K, γ⟩) (g [] ds S2) Q) I
    ⟨Φ, ρ, F, θ, S, ea, hh, PostG.seq p fun ds S2 vs F2 θ2 H2 _ g2 h2 r p2 => let ⟨a, b⟩ := post_if p2; ⟨F2, θ2, S2, ds, r, h2, a, b⟩⟩) fun ws s2 ⟨vs, H2, I2, rvs, F2, θ2, S2, ds, rds, h2, hn, p2⟩ => ⟨I2.kIn, ?_⟩
  rw [hks]
  exact hc X W rfl rfl rfl rfl rfl (c.hr.mono hj) c.gd c.tk pins s2 σ H2 [] vs [] ws Q Φ F2 θ2 S2 [] ds I2 .nil rvs .nil rds h2 rfl hn p2

/-! ### a list unpacked -/
def gUl (n : Nat) (g : Gts) : Gt := fun d ρ S => match asR S d with
  | some l => if l.length = n then g l ρ S else none
  | none => none
theorem dg_unl (n : Nat) {es : List Expr} {k1 : Nat} {g : Gts} (c : CtxD X W N sc k) (h : DGs γ X es g) (hn : (assignEach es X.env).length = n := by rfl) (hst : (assignEach es X.env).findIdx? (·.1) = none := by rfl) : DG γ X (.Tuple es k1 pos) (gUl n g) :=
  PG.weak (pg_unl c.calm h hn hst) fun v σ H Q ⟨Φ, ρ, F, θ, S, d, ea, hh, r, p⟩ => by
    unfold gUl at p
    cases hd : asR S d with
    | none => rw [hd] at p; exact p.elim
    | some l =>
      rw [hd] at p
      dsimp only at p
      by_cases hl : l.length = n
      · rw [if_pos hl] at p
        obtain ⟨a, xs, rfl, hq, rs⟩ := asR_rep r hh hd
        exact ⟨a, xs, rfl, hq, by rw [rs.length]; exact hl, Φ, ρ, F, θ, S, l, ea, hh, rs, p⟩
      · rw [if_neg hl] at p
        exact p.elim

/-! ### tuple.index -/
def unSs : List Dv → Option (List Str)
  | [] => some []
  | .str x :: r => (unSs r).map (x :: ·)
  | _ => none
theorem unSs_map : ∀ ks : List Str, unSs (ks.map .str) = some ks
  | [] => rfl
  | x :: r => by simp [unSs, unSs_map r]
theorem unSs_of : ∀ {l : List Dv} {ks : List Str}, unSs l = some ks → l = ks.map .str
  | [], _, h => by cases h; rfl
  | d :: r, ks, h => by
    cases d <;> simp only [unSs] at h <;> first | cases h | skip
    obtain ⟨q, h1, rfl⟩ := Option.map_eq_some_iff.mp h
    rw [unSs_of h1]
    rfl
theorem reps_strs {M : Ev} {F : Hp} {θ : List Addr} : ∀ {xs : List V} {ks : List Str}, Reps M F θ xs (ks.map .str) → xs = ks.map V.str
  | [], [], _ => rfl
  | [], _ :: _, h => by cases h
  | _ :: _, [], h => by cases h
  | v :: r, k :: t, h => by
    cases h with
    | cons a b => rw [rep_str a, reps_strs b]; rfl
/-- o.m(..), o a tuple whose object is known -/
def tTM (r : V → List V → Hp → VK → Prop) (to : TE) (t : TA) : TE := fun σ H Q => to σ H fun x H1 => (∃ a o xs, x = .ref a ∧ H1 a = some (.frz o (.tup xs)) ∧ o.dict = none) ∧ t σ H1 fun vs H2 => r x vs H2 Q
theorem pe_tm {o e : Expr} {es : List Expr} {to : TE} {t : TA} {name : Str} {id : String} {apos cpos : Pos} {r : V → List V → Hp → VK → Prop} (slot : Slot "tuple" name id) (hty : typeOf (.builtin id) = pure (.type "method_descriptor")) (hm : MtR X id r) (ho : PE X o to) (ha : PA X (e :: es) t)
    (hbase : attributeBase o name X.env (eval o X.env) = eval o X.env := by rfl)
    (hfew : ((backTo cpos (starEach (e :: es) X.env)).all (fun x => !x.1) && (backToKw cpos (keywordEach [] X.env)).all (fun x => x.1.isSome)
      && decide ((e :: es).length + ([] : List Keyword).length + (if ([] : List Keyword).isEmpty then 0 else 1) < 30)) = true := by rfl)
    (hline : (apos.endLine == cpos.line) = true := by rfl) (hs : starEach (e :: es) X.env = (false, eval e X.env) :: starEach es X.env := by rfl) (hplain : (backTo cpos (starEach es X.env)).any (·.1) = false := by rfl) :
    PE X (.Call (.Attribute o name apos) (e :: es) [] cpos) (tTM r to t) := by
  refine ⟨fun pins s σ H Q I h => wpAny_Call_method_late hbase hfew hline rfl (thn (ho.run pins s σ H _ I h) fun v s1 ⟨x, H1, I1, r1, ⟨a, ob, xs, ex, ea, hd⟩, q1⟩ => ?_)⟩
  subst ex
  obtain rfl : v = Value.ref a := r1
  obtain ⟨g1, _, _, _, o', g2, g3, _⟩ := (show ObjOk X.prog X.w H1 s1.heap a (.frz ob (.tup xs)) from I1.hok a _ ea)
  refine ⟨"tuple", id, PySem.F.plainAttrs_tuple, slot, hty, ⟨o', g2, g3⟩, fun b hb => ?_, ?_⟩
  · cases hb
    exact ⟨ob, g1, hd⟩
  · have hA := ha.run cpos pins s1 σ H1 _ I1 q1
    rw [hs] at hA ⊢
    exact Calls.callWith_builtin (by show (false || (backTo cpos (starEach es X.env)).any (·.1)) = false; rw [hplain] <;> rfl) (Calls.evalArgs_plain (thn hA fun us s2 ⟨vs, H2, I2, r2, q2⟩ => hm pins s2 σ H2 (.ref a) vs _ us Q I2 rfl r2 q2))
def isKt : Dv → Sto → Bool
  | .ktup _, _ => true
  | _, _ => false
def mTIndex : Dv → List Dv → Sto → Re Dv := fun d ds S => match d, ds with
  | .ktup l, [.str z] => match unSs l with
    | some ys => match firstAt (.str z) (ys.map .str) with
      | some j => .ok (.int j) S
      | none => .bad
    | none => .bad
  | _, _ => .bad
theorem de_tindex {o e : Expr} {fo : Ex} {fa : Xs} {apos cpos : Pos} (ho : DE γ X W o fo) (ha : DAs γ X W [e] fa) (hbase : attributeBase o "index" X.env (eval o X.env) = eval o X.env := by rfl)
    (hline : (apos.endLine == cpos.line) = true := by rfl) (hs : starEach [e] X.env = (false, eval e X.env) :: starEach [] X.env := by rfl)
    (hfew : ((backTo cpos (starEach [e] X.env)).all (fun x => !x.1) && (backToKw cpos (keywordEach [] X.env)).all (fun x => x.1.isSome)
      && decide (([e] : List Expr).length + ([] : List Keyword).length + (if ([] : List Keyword).isEmpty then 0 else 1) < 30)) = true := by rfl) : DE γ X W (.Call (.Attribute o "index" apos) [e] [] cpos) (eM isKt mTIndex fo fa) :=
  PE.weak (pe_tm PySem.F.slot_tuple_index PySem.F.type_tuple_index mt_tup_index ho ha hbase hfew hline hs) fun σ H Q ⟨Φ, ρ, F, θ, S, ea, hh, p⟩ => ⟨Φ, ρ, F, θ, S, ea, hh, PostG.seq p fun d S' v F' θ' H' _ e h' r' p' => by
    obtain ⟨h1, p'⟩ := post_if p'
    cases r' with
    | @ktup a ob xs l g1 g2 g3 =>
      refine ⟨⟨a, ob, xs, rfl, h'.sub _ _ g1, g2⟩, Φ, ρ, F', θ', S', ea.ext e, h', PostG.seq p' fun ds S2 vs F2 θ2 H2 _ e2 h2 r2 p2 => ?_⟩
      match ds, r2, p2 with
      | [], _, p2 => exact p2.elim
      | _ :: _ :: _, _, p2 =>
        unfold mTIndex at p2
        split at p2
        · rename_i q1 q2; cases q2
        · exact p2.elim
      | [y], r2, p2 =>
        obtain ⟨u, rfl, ru⟩ := reps1 r2
        cases ru with
        | str z =>
          unfold mTIndex at p2
          dsimp only at p2
          cases hu : unSs l with
          | none => rw [hu] at p2; exact p2.elim
          | some ys =>
            rw [hu] at p2
            dsimp only at p2
            cases hf : firstAt (.str z) (ys.map .str) with
            | none => rw [hf] at p2; exact p2.elim
            | some j =>
              rw [hf] at p2
              have g3' := g3.ext e2
              rw [unSs_of hu] at g3'
              have hxs := reps_strs g3'
              obtain ⟨⟨w, w1, w2⟩, w3⟩ := firstAt_is hf
              rw [List.getElem?_map, Option.map_eq_some_iff] at w1
              obtain ⟨w', w1, rfl⟩ := w1
              have hw : w' = z := by simpa [PyData.eqv] using w2
              subst hw
              refine ⟨a, ys, w', j, rfl, rfl, .inl (.inr ⟨ob, ?_⟩), w1, fun m hm hz => ?_, p2.ok h2 (.int _)⟩
              · rw [← hxs]; exact h2.sub _ _ (e2.le _ _ g1)
              · have := w3 m (.str w') hm (by rw [List.getElem?_map, hz]; rfl)
                simp [PyData.eqv] at this
        | _ => exact p2.elim
    | _ => cases h1⟩
end
end DL
/-! Evaluating what the D layer denotes, 1: loops, comprehensions, plain data. -/
namespace DL
open PySem PySem.Spec PyProof.Rows L2

/-! ### comprehensions that leave the store alone -/
theorem lcL_pure {b : Dv → Sto → Re (Option Dv)} {chk : Sto → Prop} {G : Dv → Option Dv} {S : Sto} (hc : chk S) : ∀ l : List Dv, (∀ d ∈ l, b d S = .ok (G d) S) → lcL b chk l S = .ok (l.filterMap G) S
  | [], _ => rfl
  | d :: r, h => by
    unfold lcL
    rw [h d List.mem_cons_self, Re.bind_ok, if_pos hc, lcL_pure hc r fun e he => h e (List.mem_cons_of_mem _ he), Re.bind_ok]
    cases e : G d <;> simp [e]
theorem eLc_pure {f : It'} {g : Gt} {t : Tt} {e : Ex} {vs : List Nat} {ρ : En} {S : Sto} {l : List Dv} {chk : Sto → Prop} (G : Dv → Option Dv) (hf : f ρ S = .ok (l, chk) S) (hc : chk S) (hl : l.length ≤ sizeLine) (hb : ∀ d ∈ l, turnD g t e (wipeE ρ vs) d S = .ok (G d) S) :
    eLc f g t e vs ρ S = .ok (.lst (l.filterMap G)) S := by
  unfold eLc eN lcD
  rw [hf, Re.bind_ok, if_pos ⟨hc, hl⟩, lcL_pure hc l hb, Re.bind_ok]
theorem turn_map {i : Nat} {e : Ex} {ρ : En} {d y : Dv} {S : Sto} (h : e (ρ.set i (some d)) S = .ok y S) : turnD (gN i) ttYes e ρ d S = .ok (some y) S := by
  unfold turnD gN ttYes
  simp [noexc, h]
theorem turn_if {i : Nat} {t : Tt} {e : Ex} {ρ : En} {d y : Dv} {c : Bool} {S : Sto} (ht : t (ρ.set i (some d)) S = .ok c S) (h : e (ρ.set i (some d)) S = .ok y S) : turnD (gN i) t e ρ d S = .ok (if c = true then some y else none) S := by
  unfold turnD gN
  cases c <;> simp [noexc, ht, h]

/-! ### loops -/
theorem forL_inv {b : Dv → Sm} {chk : Sto → Prop} {l : List Dv} (P : Nat → En → Sto → Prop) (step : ∀ i d ρ S, l[i]? = some d → P i ρ S → ∃ ρ' S', b d ρ S = .nx ρ' S' ∧ chk S' ∧ P (i + 1) ρ' S') :
    ∀ (r pre : List Dv), l = pre ++ r → ∀ ρ S, P pre.length ρ S → ∃ ρ' S', forL b chk r ρ S = .nx ρ' S' ∧ P l.length ρ' S'
  | [], pre, hl, ρ, S, h => ⟨ρ, S, rfl, by rw [hl, List.append_nil]; exact h⟩
  | d :: r, pre, hl, ρ, S, h => by
    obtain ⟨ρ', S', h1, h2, h3⟩ := step pre.length d ρ S (by rw [hl, List.getElem?_append_right (Nat.le_refl _), Nat.sub_self]; rfl) h
    obtain ⟨ρ2, S2, h4, h5⟩ := forL_inv P step r (pre ++ [d]) (by rw [hl, List.append_assoc]; rfl) ρ' S' (by rw [List.length_append]; exact h3)
    refine ⟨ρ2, S2, ?_, h5⟩
    unfold forL
    rw [h1]
    dsimp only
    rw [if_pos h2]
    exact h4
theorem sFor_inv {f : It'} {g : Gt} {b : Sm} {ρ : En} {S S0 : Sto} {l : List Dv} {chk : Sto → Prop} (P : Nat → En → Sto → Prop) (hf : f ρ S = .ok (l, chk) S0) (hc : chk S0) (h0 : P 0 ρ S0)
    (step : ∀ i d ρ S, l[i]? = some d → P i ρ S → ∃ ρ' S', optS (g d ρ S) b = .nx ρ' S' ∧ chk S' ∧ P (i + 1) ρ' S') : ∃ ρ' S', sFor f g b ρ S = .nx ρ' S' ∧ P l.length ρ' S' := by
  unfold sFor
  rw [hf, Re.toS_ok, if_pos hc]
  exact forL_inv P step l [] rfl ρ S0 h0
theorem always_ (S : Sto) : always S := trivial

/-! ### texts, triples of texts -/
abbrev R3 := Str × Str × Str
def dR (r : R3) : Dv := .tup [.str r.1, .str r.2.1, .str r.2.2]
def unR : Dv → Option R3
  | .tup [.str a, .str b, .str c] => some (a, b, c)
  | _ => none
theorem unR_of {d : Dv} {r : R3} (h : unR d = some r) : d = dR r := by
  unfold unR at h
  split at h
  · cases h; rfl
  · cases h
def unRs : List Dv → Option (List R3)
  | [] => some []
  | d :: r => (unR d).bind fun x => (unRs r).map (x :: ·)
theorem unRs_map : ∀ ks : List R3, unRs (ks.map dR) = some ks
  | [] => rfl
  | x :: r => by simp [unRs, unRs_map r, unR, dR]
theorem unRs_of : ∀ {l : List Dv} {ks : List R3}, unRs l = some ks → l = ks.map dR
  | [], _, h => by cases h; rfl
  | d :: r, ks, h => by
    simp only [unRs] at h
    obtain ⟨x, h1, h2⟩ := Option.bind_eq_some_iff.mp h
    obtain ⟨q, h3, rfl⟩ := Option.map_eq_some_iff.mp h2
    rw [unRs_of h3, unR_of h1]
    rfl
/-! as the library's data -/
def pR (r : R3) : PyData := .tuple [.str r.1, .str r.2.1, .str r.2.2]
theorem toPy_str (S : Sto) (x : Str) : toPy S (.str x) = some (.str x) := by rw [toPy]
theorem toPy_int (S : Sto) (x : Int) : toPy S (.int x) = some (.int x) := by rw [toPy]
theorem toPy_bl (S : Sto) (x : Bool) : toPy S (.bl x) = some (.bool x) := by rw [toPy]
theorem toPys_map {α : Type} {S : Sto} {f : α → Dv} {g : α → PyData} (h : ∀ a, toPy S (f a) = some (g a)) : ∀ l : List α, toPys S (l.map f) = some (l.map g)
  | [] => by simp [toPys]
  | a :: r => by simp [toPys, h a, toPys_map h r]
theorem toPy_lst {S : Sto} {l : List Dv} {ps : List PyData} (h : toPys S l = some ps) : toPy S (.lst l) = some (.list ps) := by rw [toPy, h]; rfl
theorem toPy_tup {S : Sto} {l : List Dv} {ps : List PyData} (h : toPys S l = some ps) : toPy S (.tup l) = some (.tuple ps) := by rw [toPy, h]; rfl
theorem toPy_dR (S : Sto) (r : R3) : toPy S (dR r) = some (pR r) := by
  unfold dR pR
  refine toPy_tup ?_
  simp [toPys, toPy_str]
theorem pyPs_map {α : Type} {f : α → Dv} {g : α → PyData} (h : ∀ a, pyP (f a) = some (g a)) : ∀ l : List α, pyPs (l.map f) = some (l.map g)
  | [] => by simp [pyPs]
  | a :: r => by simp [pyPs, h a, pyPs_map h r]
theorem pyP_str (x : Str) : pyP (.str x) = some (.str x) := by rw [pyP]
theorem pyP_dR (r : R3) : pyP (dR r) = some (pR r) := by
  unfold dR pR
  rw [pyP]
  simp [pyPs, pyP_str]
theorem toPy_cell {S : Sto} {k : Nat} {l : List Dv} {ps : List PyData} (h : S[k]? = some (.lst l)) (e : pyPs l = some ps) : toPy S (.cell k) = some (.list ps) := by
  rw [toPy, h]
  simp [e]
theorem canAll {α : Type} {g : α → PyData} : ∀ {l : List α}, (∀ a ∈ l, (g a).canLay0 = true) → PyData.canLayAll0 (l.map g) = true
  | [], _ => by simp [PyData.canLayAll0]
  | a :: r, h => by
    rw [List.map_cons, PyData.canLayAll0, h a List.mem_cons_self, canAll fun b hb => h b (List.mem_cons_of_mem _ hb)]
    rfl
theorem depthAll_le {α : Type} {g : α → PyData} {n : Nat} : ∀ {l : List α}, (∀ a ∈ l, (g a).depth ≤ n) → PyData.depthAll (l.map g) ≤ n
  | [], _ => by simp [PyData.depthAll]
  | a :: r, h => by
    rw [List.map_cons, PyData.depthAll]
    exact Nat.max_le.mpr ⟨h a List.mem_cons_self, depthAll_le fun b hb => h b (List.mem_cons_of_mem _ hb)⟩
theorem shaped_list {α : Type} {g : α → PyData} {l : List α} (h : ∀ a ∈ l, (g a).canLay0 = true ∧ (g a).depth ≤ 8) : SeqAt.shaped (.list (l.map g)) = true ∧ SeqAt.shaped (.tuple (l.map g)) = true := by
  have h1 := canAll (l := l) (g := g) fun a ha => (h a ha).1
  have h2 := depthAll_le (n := 8) (l := l) (g := g) fun a ha => (h a ha).2
  have h3 : decide (PyData.depthAll (l.map g) + 1 ≤ 64) = true := decide_eq_true (by omega)
  constructor
  · unfold SeqAt.shaped
    rw [PyData.canLay0, PyData.depth, h1, h3]
    rfl
  · unfold SeqAt.shaped
    rw [PyData.canLay0, PyData.depth, h1, h3]
    rfl
theorem eqv_str (x y : Str) : PyData.eqv (.str x) (.str y) = (x == y) := by simp [PyData.eqv]
theorem eqv_pR (x y : R3) : PyData.eqv (pR x) (pR y) = decide (x = y) := by
  obtain ⟨a, b, c⟩ := x
  obtain ⟨d, e, f⟩ := y
  rw [Bool.eq_iff_iff]
  simp [PyData.eqv, PyData.eqvAll, pR]
theorem eqvAll_map {α : Type} [DecidableEq α] {g : α → PyData} (h : ∀ a b, PyData.eqv (g a) (g b) = decide (a = b)) : ∀ l m : List α, PyData.eqvAll (l.map g) (m.map g) = decide (l = m)
  | [], [] => by simp [PyData.eqvAll]
  | [], _ :: _ => by simp [PyData.eqvAll]
  | _ :: _, [] => by simp [PyData.eqvAll]
  | a :: r, b :: t => by
    rw [List.map_cons, List.map_cons, PyData.eqvAll, h a b, eqvAll_map h r t, Bool.eq_iff_iff]
    simp
end DL
/-! law_k21_rules_that_can_be_done: what its defs denote. -/
namespace DL
open PySem PySem.Spec PyProof.Rows L2
abbrev T_excs : List Nat := [2, 8, 3, 9, 4, 7, 10]
-- _law_mill: 0 script, 1 place, 2 cell, 3 left
noncomputable def b__law_mill : Sm := (sSeq (sSet 2 (eC (.int 0)))
    (sSeq (sIf (tV (e2 oLt (eV 1) (eN bLen (aCons (eV 0) aNil)))) (sSet 2 (e2 oIx (eV 0) (eV 1))) sNil)
    (sSeq (sSet 3 (eC (.int 0)))
    (sSeq (sIf (tV (e2 oGt (eV 2) (e2 oPow (eC (.int 10)) (eC (.int 12))))) (sSet 3 (e2 oDiv (eV 2) (eC (.int 2)))) sNil)
    (sRet (eN mkC (aCons (eV 3) (aCons (e2 oAdd (e2 oMul (eC (.int 40692)) (e2 oAdd (eV 1) (eC (.int 1)))) (e2 oMod (eN bInt (aCons (eN bAbs (aCons (eV 2) aNil)) aNil)) (eC (.int 1000000000000037)))) aNil))))))))
-- _law_grind: 0 mill, 1 count, 2 drop
noncomputable def b__law_grind : Sm := (sSeq (sIf (tV (e2 oGt (e2 oIx (eV 0) (eC (.int 0))) (eC (.int 0)))) (sSeq (sSet 2 (e2 oMod (eN bInt (aCons (e2 oIx (eV 0) (eC (.int 0))) aNil)) (eV 1)))
    (sSeq (sAsg (e2 oDiv (e2 oIx (eV 0) (eC (.int 0))) (eV 1)) (gIx (eV 0) (eC (.int 0))))
    (sRet (eV 2)))) sNil)
    (sSeq (sAsg (e2 oMod (eN bInt (aCons (e2 oAdd (e2 oMul (e2 oIx (eV 0) (eC (.int 1))) (eC (.int 6364136223846793005))) (eC (.int 1442695040888963407))) aNil)) (eC (.int 18446744073709551616))) (gIx (eV 0) (eC (.int 1))))
    (sRet (e2 oMod (eN bInt (aCons (e2 oDiv (e2 oIx (eV 0) (eC (.int 1))) (eC (.int 8589934592))) aNil)) (eV 1)))))
-- _law_tribes: 0 mill, 1 count, 2 rows_here, 3 left, 4 found, 5 turn
noncomputable def b__law_tribes (m__law_grind : Fn) : Sm := (sSeq (sSet 2 (eN mkC (aCons (eN mkL (aCons (eC (.str "a")) (aCons (eC (.str "b")) (aCons (eC (.str "c")) (aCons (eC (.str "d")) (aCons (eC (.str "e")) (aCons (eC (.str "f")) (aCons (eC (.str "g")) (aCons (eC (.str "h")) aNil))))))))) aNil)))
    (sSeq (sExpr (eM isL mApp (eV 2) (aCons (eN mkL (aCons (eC (.str "red")) (aCons (eC (.str "blue")) (aCons (eC (.str "re")) (aCons (eC (.str "bluer")) (aCons (eC (.str "r")) (aCons (eC (.str "b")) (aCons (eC (.str "redred")) (aCons (eC (.str "blu")) aNil))))))))) aNil)))
    (sSeq (sExpr (eM isL mApp (eV 2) (aCons (eN mkL (aCons (eC (.str "kind")) (aCons (eC (.str "kinds")) (aCons (eC (.str "sees")) (aCons (eC (.str "seesaw")) (aCons (eC (.str "ab")) (aCons (eC (.str "ba")) (aCons (eC (.str "abcdefgh")) (aCons (eC (.str "abcdefgz")) aNil))))))))) aNil)))
    (sSeq (sPar 3 4 (aCons (eN bListC (aCons (e2 oIx (eV 2) (eCall 2 m__law_grind (aCons (eV 0) (aCons (eC (.int 3)) aNil)))) aNil)) (aCons (eN mkC aNil) aNil)))
    (sSeq (sFor (iRg1 (aCons (eV 1) aNil)) (gN 5) (sExpr (eM isL mApp (eV 4) (aCons (eM isL mPopAt (eV 3) (aCons (eCall 2 m__law_grind (aCons (eV 0) (aCons (eN bLen (aCons (eV 3) aNil)) aNil))) aNil)) aNil))))
    (sRet (eV 4)))))))
-- _law_manual: 0 mill, 1 most, 2 count, 3 kinds_here, 4 found, 5 every, 6 who, 7 whom, 8 turn, 9 what
noncomputable def b__law_manual (m__law_tribes : Fn) (m__law_grind : Fn) : Sm := (sSeq (sPar 3 4 (aCons (eCall 2 m__law_tribes (aCons (eV 0) (aCons (e2 oAdd (eC (.int 1)) (eCall 2 m__law_grind (aCons (eV 0) (aCons (eV 1) aNil)))) aNil))) (aCons (eN mkC aNil) aNil)))
    (sSeq (sSet 5 (eN mkC aNil))
    (sSeq (sFor (iSeq (eV 3)) (gN 6) (sFor (iSeq (eV 3)) (gN 7) (sSet 5 (e2 oAddC (eV 5) (eLc (iSeq (eV 3)) (gN 9) (tV (e2 oNe (eV 9) (eV 6))) (eN mkT (aCons (eV 6) (aCons (eV 7) (aCons (eV 9) aNil)))) [9])))))
    (sSeq (sFor (iRg1 (aCons (eCall 2 m__law_grind (aCons (eV 0) (aCons (e2 oAdd (eV 2) (eC (.int 1))) aNil))) aNil)) (gN 8) (sIf (tV (e2 oNe (eV 5) (eN mkL aNil))) (sExpr (eM isL mApp (eV 4) (aCons (eM isL mPopAt (eV 5) (aCons (eCall 2 m__law_grind (aCons (eV 0) (aCons (eN bLen (aCons (eV 5) aNil)) aNil))) aNil)) aNil))) sNil))
    (sRet (eN mkT (aCons (eV 3) (aCons (eV 4) aNil))))))))
-- is_name: 0 name, 1 letter
noncomputable def b_is_name : Sm := (sRet (eAnd (eCh (fun i j => decide (i ≤ j)) (fun i j => decide (i ≤ j)) (eC (.int 1)) (eN bLen (aCons (eV 0) aNil)) (eC (.int 8))) (eN bAll (aCons (eLc (iSeq (eV 0)) (gN 1) ttYes (e2 oIn (eV 1) (eC (.str "abcdefghijklmnopqrstuvwxyz"))) [1]) aNil))))
-- check_kinds: 0 names, 1 known, 2 name
noncomputable def b_check_kinds (m_is_name : Fn) : Sm := (sSeq (sSet 1 (eN mkC aNil))
    (sFor (iSeq (eV 0)) (gN 2) (sSeq (sIf (tNotD (tV (eCall 1 m_is_name (aCons (eV 2) aNil)))) (sRaise 8 (eV 2)) sNil)
    (sSeq (sIf (tV (e2 oIn (eV 2) (eV 1))) (sRaise 3 (eV 2)) sNil)
    (sExpr (eM isL mApp (eV 1) (aCons (eV 2) aNil)))))))
-- check_rule: 0 names, 1 rule, 2 name
noncomputable def b_check_rule : Sm := (sIf (tOrD (tV (eN bAny (aCons (eLc (iSeq (eV 1)) (gN 2) ttYes (e2 oNotIn (eV 2) (eV 0)) [2]) aNil))) (tV (e2 oEq (e2 oIx (eV 1) (eC (.int 2))) (e2 oIx (eV 1) (eC (.int 0)))))) (sRaise 9 (eV 1)) sNil)
-- Book_init: 0 self, 1 kinds, 2 rules, 3 known, 4 rule, 5 ranked, 6 places, 7 name, 8 place
noncomputable def b_Book_init (m_check_kinds : Fn) (m_check_rule : Fn) : Sm := (sSeq (sExpr (eCall 1 m_check_kinds (aCons (eV 1) aNil)))
    (sSeq (sSet 3 (eN mkC aNil))
    (sSeq (sFor (iSeq (eV 2)) (gN 4) (sSeq (sExpr (eCall 2 m_check_rule (aCons (eV 1) (aCons (eV 4) aNil))))
    (sSeq (sIf (tV (e2 oIn (eV 4) (eV 3))) (sRaise 4 (eV 4)) sNil)
    (sExpr (eM isL mApp (eV 3) (aCons (eV 4) aNil))))))
    (sSeq (sFldD 0 "kept_kinds" (eV 0) (eN bTupleK (aCons (eV 1) aNil)))
    (sSeq (sSet 5 (eN bSorted (aCons (eLc (iSeq (eV 2)) (gN 4) ttYes (eN bTuple (aCons (eLc (iSeq (eV 4)) (gN 7) ttYes (eM isL mIndex (eV 1) (aCons (eV 7) aNil)) [7]) aNil)) [4]) aNil)))
    (sFldD 0 "kept_rules" (eV 0) (eN bTuple (aCons (eLc (iSeq (eV 5)) (gN 6) ttYes (eN bTuple (aCons (eLc (iSeq (eV 6)) (gN 8) ttYes (e2 oIx (eV 1) (eV 8)) [8]) aNil)) [6]) aNil))))))))
-- _law_code: 0 plan
noncomputable def b__law_code (m_Book : Fn) : Sm := (sRet (eCall 2 m_Book (aCons (eN bList (aCons (e2 oIx (eV 0) (eC (.int 0))) aNil)) (aCons (eN bList (aCons (e2 oIx (eV 0) (eC (.int 1))) aNil)) aNil))))
-- _law_herd: 0 mill, 1 count, 2 most, 3 turn
noncomputable def b__law_herd (m__law_grind : Fn) : Sm := (sRet (eLcC (iRg1 (aCons (eV 1) aNil)) (gN 3) ttYes (eCall 2 m__law_grind (aCons (eV 0) (aCons (e2 oAdd (eV 2) (eC (.int 1))) aNil))) [3]))
-- _law_ranked: 0 plan, 1 ranked, 2 places_here, 3 rule_here, 4 name, 5 at
noncomputable def b__law_ranked : Sm := (sSeq (sSet 1 (eN bSorted (aCons (eLc (iSeq (e2 oIx (eV 0) (eC (.int 1)))) (gN 3) ttYes (eLc (iSeq (eV 3)) (gN 4) ttYes (eM isL mIndex (e2 oIx (eV 0) (eC (.int 0))) (aCons (eV 4) aNil)) [4]) [3]) aNil)))
    (sRet (eLc (iSeq (eV 1)) (gN 2) ttYes (eN bTuple (aCons (eLc (iSeq (eV 2)) (gN 5) ttYes (e2 oIx (e2 oIx (eV 0) (eC (.int 0))) (eV 5)) [5]) aNil)) [2])))
-- _law_turned_to: 0 plan, 1 herd, 2 rule_here, 3 first, 4 whom, 5 what, 6 name, 7 at, 8 number
noncomputable def b__law_turned_to : Sm := (sSeq (sAsg (eLc (iSeq (eV 2)) (gN 6) ttYes (eM isL mIndex (e2 oIx (eV 0) (eC (.int 0))) (aCons (eV 6) aNil)) [6]) (gUl 3 (gsCons (gN 3) (gsCons (gN 4) (gsCons (gN 5) gsNil)))))
    (sSeq (sIf (tOrD (tV (e2 oLt (e2 oIx (eV 1) (eV 3)) (eC (.int 1)))) (tV (e2 oLt (e2 oIx (eV 1) (eV 4)) (e2 oAdd (eC (.int 1)) (eN bInt (aCons (e2 oEq (eV 4) (eV 3)) aNil)))))) (sRet (eC .non)) sNil)
    (sRet (eLc (iEn (aCons (eV 1) aNil)) (gTp 2 (gsCons (gN 7) (gsCons (gN 8) gsNil))) ttYes (e2 oAdd (e2 oSub (eV 8) (eN bInt (aCons (e2 oEq (eV 7) (eV 3)) aNil))) (eN bInt (aCons (e2 oEq (eV 7) (eV 5)) aNil))) [7, 8]))))
-- check_crowd: 0 many, 1 crowd, 2 number
noncomputable def b_check_crowd : Sm := (sIf (tOrD (tV (e2 oNe (eN bLen (aCons (eV 1) aNil)) (eV 0))) (tV (eN bAny (aCons (eLc (iSeq (eV 1)) (gN 2) ttYes (e2 oLt (eV 2) (eC (.int 0))) [2]) aNil)))) (sRaise 7 (eN bList (aCons (eV 1) aNil))) sNil)
-- moved: 0 crowd, 1 places, 2 kind, 3 seen, 4 new, 5 found
noncomputable def b_moved : Sm := (sSeq (sAsg (eV 1) (gTp 3 (gsCons (gN 2) (gsCons (gN 3) (gsCons (gN 4) gsNil)))))
    (sSeq (sIf (tOrD (tV (e2 oLt (e2 oIx (eV 0) (eV 2)) (eC (.int 1)))) (tV (e2 oLt (e2 oIx (eV 0) (eV 3)) (e2 oAdd (eC (.int 1)) (eN bInt (aCons (e2 oEq (eV 3) (eV 2)) aNil)))))) (sRet (eC .non)) sNil)
    (sSeq (sSet 5 (eN bListC (aCons (eV 0) aNil)))
    (sSeq (sAsg (e2 oSub (e2 oIx (eV 5) (eV 2)) (eC (.int 1))) (gIx (eV 5) (eV 2)))
    (sSeq (sAsg (e2 oAdd (e2 oIx (eV 5) (eV 4)) (eC (.int 1))) (gIx (eV 5) (eV 4)))
    (sRet (eN bTuple (aCons (eV 5) aNil))))))))
-- places_of: 0 book, 1 rule, 2 name
noncomputable def b_places_of : Sm := (sRet (eN bTuple (aCons (eLc (iSeq (eV 1)) (gN 2) ttYes (eM isKt mTIndex (e1 (fldD 0 "kept_kinds") (eV 0)) (aCons (eV 2) aNil)) [2]) aNil)))
-- can_do: 0 book, 1 crowd, 2 rule
noncomputable def b_can_do (m_check_crowd : Fn) (m_moved : Fn) (m_places_of : Fn) : Sm := (sSeq (sExpr (eCall 2 m_check_crowd (aCons (eN bLen (aCons (e1 (fldD 0 "kept_kinds") (eV 0)) aNil)) (aCons (eV 1) aNil))))
    (sRet (eLcC (iSeq (e1 (fldD 0 "kept_rules") (eV 0))) (gN 2) (tV (e2 oIsNot (eCall 2 m_moved (aCons (eV 1) (aCons (eCall 2 m_places_of (aCons (eV 0) (aCons (eV 2) aNil))) aNil))) (eC .non))) (eV 2) [2])))
-- done: 0 book, 1 crowd, 2 rule, 3 behind
noncomputable def b_done (m_check_crowd : Fn) (m_moved : Fn) (m_places_of : Fn) : Sm := (sSeq (sExpr (eCall 2 m_check_crowd (aCons (eN bLen (aCons (e1 (fldD 0 "kept_kinds") (eV 0)) aNil)) (aCons (eV 1) aNil))))
    (sSeq (sIf (tV (e2 oNotIn (eV 2) (e1 (fldD 0 "kept_rules") (eV 0)))) (sRaise 9 (eV 2)) sNil)
    (sSeq (sSet 3 (eCall 2 m_moved (aCons (eV 1) (aCons (eCall 2 m_places_of (aCons (eV 0) (aCons (eV 2) aNil))) aNil))))
    (sSeq (sIf (tV (e2 oIs (eV 3) (eC .non))) (sRaise 10 (eV 2)) sNil)
    (sRet (eN bListC (aCons (eV 3) aNil)))))))
-- _law_grown_right: 0 mill, 1 made, 2 plan, 3 herd, 4 at, 5 due, 6 rule_here
noncomputable def b__law_grown_right (m__law_grind : Fn) (m__law_ranked : Fn) (m__law_turned_to : Fn) (m_can_do : Fn) (m_done : Fn) : Sm := (sSeq (sSet 4 (eCall 2 m__law_grind (aCons (eV 0) (aCons (eN bLen (aCons (eV 3) aNil)) aNil))))
    (sSeq (sAsg (e2 oAdd (e2 oIx (eV 3) (eV 4)) (eC (.int 1))) (gIx (eV 3) (eV 4)))
    (sSeq (sSet 5 (eLc (iSeq (eCall 1 m__law_ranked (aCons (eV 2) aNil))) (gN 6) (tV (e2 oIsNot (eCall 3 m__law_turned_to (aCons (eV 2) (aCons (eV 3) (aCons (eV 6) aNil)))) (eC .non))) (eV 6) [6]))
    (sSeq (sIf (tV (e2 oNe (eN bRepr (aCons (eCall 2 m_can_do (aCons (eV 1) (aCons (eV 3) aNil))) aNil)) (eN bRepr (aCons (eV 5) aNil)))) (sRet (eC (.bl false))) sNil)
    (sSeq (sFor (iSeq (eSl (eV 5) xNone (xSome (eC (.int 2))))) (gN 6) (sIf (tV (e2 oNe (eN bRepr (aCons (eCall 3 m_done (aCons (eV 1) (aCons (eV 3) (aCons (eV 6) aNil)))) aNil)) (eN bRepr (aCons (eCall 3 m__law_turned_to (aCons (eV 2) (aCons (eV 3) (aCons (eV 6) aNil)))) aNil)))) (sRet (eC (.bl false))) sNil))
    (sRet (eC (.bl true))))))))
-- Book_eq: 0 self, 1 other
noncomputable def b_Book_eq : Sm := (sSeq (sIf (tNotD (tV (eN (bIsi 0 (isS 0)) (aCons (eV 1) (aCons (eC (.cls 0)) aNil))))) (sRet (eC (.bl false))) sNil)
    (sRet (eAnd (e2 oEq (e1 (fldD 0 "kept_kinds") (eV 0)) (e1 (fldD 0 "kept_kinds") (eV 1))) (e2 oEq (e1 (fldD 0 "kept_rules") (eV 0)) (e1 (fldD 0 "kept_rules") (eV 1))))))
-- _law_right: 0 mill, 1 plan, 2 made, 3 count, 4 turn, 5 herd, 6 at, 7 kept, 8 due, 9 told, 10 rule_here, 11 behind, 12 rank
noncomputable def b__law_right (m__law_manual : Fn) (m__law_grind : Fn) (m__law_code : Fn) (m__law_herd : Fn) (m__law_ranked : Fn) (m__law_turned_to : Fn) (m_can_do : Fn) (m_done : Fn) (m__law_grown_right : Fn) (m_Book_eq : Fn) : Sm := (sSeq (sSet 1 (eCall 3 m__law_manual (aCons (eV 0) (aCons (e2 oIx (eN mkL (aCons (eC (.int 3)) (aCons (eC (.int 8)) aNil))) (eCall 2 m__law_grind (aCons (eV 0) (aCons (eC (.int 2)) aNil)))) (aCons (eC (.int 8)) aNil)))))
    (sSeq (sPar 2 3 (aCons (eCall 1 m__law_code (aCons (eV 1) aNil)) (aCons (eN bLen (aCons (e2 oIx (eV 1) (eC (.int 0))) aNil)) aNil)))
    (sSeq (sFor (iRg1 (aCons (eC (.int 4)) aNil)) (gN 4) (sSeq (sSet 5 (eCall 3 m__law_herd (aCons (eV 0) (aCons (eV 3) (aCons (e2 oIx (eN mkL (aCons (eC (.int 1)) (aCons (eC (.int 2)) (aCons (eC (.int 3)) (aCons (e2 oDiv (eC (.int 30)) (eV 3)) aNil))))) (eCall 2 m__law_grind (aCons (eV 0) (aCons (eC (.int 4)) aNil)))) aNil)))))
    (sSeq (sIf (tV (e2 oEq (eCall 2 m__law_grind (aCons (eV 0) (aCons (eC (.int 4)) aNil))) (eC (.int 0)))) (sSeq (sSet 6 (eCall 2 m__law_grind (aCons (eV 0) (aCons (eV 3) aNil))))
    (sSet 5 (eLcC (iRg1 (aCons (eV 3) aNil)) (gN 12) ttYes (e2 oMul (eCall 2 m__law_grind (aCons (eV 0) (aCons (eC (.int 3)) aNil))) (eN bInt (aCons (e2 oEq (eV 12) (eV 6)) aNil))) [12]))) sNil)
    (sSeq (sSet 7 (eN bList (aCons (eV 5) aNil)))
    (sSeq (sSet 8 (eLc (iSeq (eCall 1 m__law_ranked (aCons (eV 1) aNil))) (gN 10) (tV (e2 oIsNot (eCall 3 m__law_turned_to (aCons (eV 1) (aCons (eV 5) (aCons (eV 10) aNil)))) (eC .non))) (eV 10) [10]))
    (sSeq (sSet 9 (eN mkL (aCons (eCall 2 m_can_do (aCons (eV 2) (aCons (eV 5) aNil))) (aCons (eCallK 2 (fun ds es S => m_can_do (pick [1, 0] (ds ++ es)) S) (aCons (eV 5) (aCons (eV 2) aNil))) aNil))))
    (sSeq (sIf (tOrD (tV (e2 oNe (eN bRepr (aCons (eV 9) aNil)) (eN bRepr (aCons (eN mkL (aCons (eV 8) (aCons (eV 8) aNil))) aNil)))) (tV (e2 oNe (eV 5) (eV 7)))) (sRet (eC (.bl false))) sNil)
    (sSeq (sExpr (eM isL mApp (e2 oIx (eV 9) (eC (.int 0))) (aCons (eC (.str "q")) aNil)))
    (sSeq (sIf (tV (e2 oNe (eN bRepr (aCons (eCall 2 m_can_do (aCons (eV 2) (aCons (eV 5) aNil))) aNil)) (eN bRepr (aCons (eV 8) aNil)))) (sRet (eC (.bl false))) sNil)
    (sSeq (sFor (iSeq (eV 8)) (gN 10) (sSeq (sSet 11 (eCall 3 m__law_turned_to (aCons (eV 1) (aCons (eV 5) (aCons (eV 10) aNil)))))
    (sSeq (sSet 9 (eN mkL (aCons (eCall 3 m_done (aCons (eV 2) (aCons (eV 5) (aCons (eV 10) aNil)))) (aCons (eCallK 3 (fun ds es S => m_done (pick [2, 1, 0] (ds ++ es)) S) (aCons (eV 10) (aCons (eV 5) (aCons (eV 2) aNil)))) aNil))))
    (sSeq (sIf (tOrD (tV (e2 oNe (eN bRepr (aCons (eV 9) aNil)) (eN bRepr (aCons (eN mkL (aCons (eV 11) (aCons (eV 11) aNil))) aNil)))) (tV (e2 oNe (eV 5) (eV 7)))) (sRet (eC (.bl false))) sNil)
    (sSeq (sExpr (eM isL mApp (e2 oIx (eV 9) (eC (.int 0))) (aCons (eC (.int 9)) aNil)))
    (sIf (tV (e2 oNe (eN bRepr (aCons (eCall 3 m_done (aCons (eV 2) (aCons (eV 5) (aCons (eV 10) aNil)))) aNil)) (eN bRepr (aCons (eV 11) aNil)))) (sRet (eC (.bl false))) sNil))))))
    (sIf (tAndD (tV (e2 oLt (eN bSum (aCons (eV 5) aNil)) (eC (.int 30)))) (tNotD (tV (eCall 4 m__law_grown_right (aCons (eV 0) (aCons (eV 2) (aCons (eV 1) (aCons (eV 5) aNil)))))))) (sRet (eC (.bl false))) sNil)))))))))))
    (sRet (e2 (oOwn 0 m_Book_eq id) (eV 2) (eCall 1 m__law_code (aCons (eV 1) aNil)))))))
-- law: 0 script, 1 place, 2 mill
noncomputable def b_law (m__law_mill : Fn) (m__law_right : Fn) : Sm := (sSeq (sFor (iRg1 (aCons (eN bMin (aCons (eC (.int 16)) (aCons (eN bMax (aCons (eC (.int 1)) (aCons (eN bLen (aCons (eV 0) aNil)) aNil))) aNil))) aNil)) (gN 1) (sSeq (sSet 2 (eCall 2 m__law_mill (aCons (eV 0) (aCons (eV 1) aNil))))
    (sIf (tNotD (tV (eCall 1 m__law_right (aCons (eV 2) aNil)))) (sRet (eC (.bl false))) sNil)))
    (sRet (eC (.bl true))))
end DL
/-! law_k21_rules_that_can_be_done: the derivations. -/
namespace DL
open PySem PySem.Spec PyProof.Rows L2
def ttop (i : Nat) : Stmt := PySem.Challenge.pw_lookcrowd_k21_rules_that_can_be_done.main.body.getD i (.Pass ⟨0, 0, 0, 0⟩)
abbrev s__law_mill : Stmt := ttop 21
abbrev s__law_grind : Stmt := ttop 22
abbrev s__law_tribes : Stmt := ttop 23
abbrev s__law_manual : Stmt := ttop 24
abbrev s_is_name : Stmt := ttop 11
abbrev s_check_kinds : Stmt := ttop 12
abbrev s_check_rule : Stmt := ttop 13
abbrev s_Book_init : Stmt := inClass (ttop 15) 0
abbrev s__law_code : Stmt := ttop 25
abbrev s__law_herd : Stmt := ttop 26
abbrev s__law_ranked : Stmt := ttop 27
abbrev s__law_turned_to : Stmt := ttop 28
abbrev s_check_crowd : Stmt := ttop 14
abbrev s_moved : Stmt := ttop 17
abbrev s_places_of : Stmt := ttop 16
abbrev s_can_do : Stmt := ttop 18
abbrev s_done : Stmt := ttop 19
abbrev s__law_grown_right : Stmt := ttop 29
abbrev s_Book_eq : Stmt := inClass (ttop 15) 5
abbrev s__law_right : Stmt := ttop 30
abbrev s_law : Stmt := ttop 31
abbrev s_err : Stmt := inClass (ttop 2) 0
structure Txt (K : PySem.W.Frag) (mg : Str → Option Value) (γ : Nat → Addr) : Prop where
  n_range : mg "range" = none
  n_len : mg "len" = none
  n_max : mg "max" = none
  n_min : mg "min" = none
  n_abs : mg "abs" = none
  n_int : mg "int" = none
  n_list : mg "list" = none
  k_LETTERS : ∃ t, mg "LETTERS" = some (.str "abcdefghijklmnopqrstuvwxyz" t)
  n_all : mg "all" = none
  n_any : mg "any" = none
  c_Book : Cls K (γ 0)
  a_Book_kept_kinds : NoAttr K (γ 0) "kept_kinds"
  n_tuple : mg "tuple" = none
  n_sorted : mg "sorted" = none
  a_Book_kept_rules : NoAttr K (γ 0) "kept_rules"
  n_enumerate : mg "enumerate" = none
  n_repr : mg "repr" = none
  n_sum : mg "sum" = none
  n_isinstance : mg "isinstance" = none
  i_Book : IsC K (γ 0)
  m_Book : mg "Book" = some (.ref (γ 0))
section
variable {γ : Nat → Addr} {P : Program} {w : World} {K : PySem.W.Frag} {mg : Str → Option Value} {base : Heap}
theorem sc__law_mill : FnScope ["script", "place", "cell", "left"] ["script", "place"] (defScope s__law_mill) := ⟨rfl, rfl, rfl, by decide +kernel, rfl, by decide +kernel, by decide +kernel⟩
theorem ok__law_mill (T : Txt K mg γ)  {f : Addr} {fd : FuncData} (F : Fun K "_law_mill" "_law_mill" s__law_mill f fd) : FnG P w K mg base 1 f fd ["script", "place"] (spD ⟨K, γ⟩ 2 (runD 4 (b__law_mill))) :=
  def_ok F sc__law_mill (k := 0) (by
    rintro X W rfl rfl rfl rfl rfl c
    exact (dss_cons (ds_set 2 c de_int)
    (dss_cons (ds_if (dt_cmp od_lt (de_var 1 c.toCtx) (de_bu bu_len rfl c.toCtx T.n_len PyProof.Rows.Boot.«len» (da_cons (de_var 0 c.toCtx) da_nil))) (dss_one (ds_set 2 c (de_ix (de_var 0 c.toCtx) (de_var 1 c.toCtx)))) dss_nil)
    (dss_cons (ds_set 3 c de_int)
    (dss_cons (ds_if (dt_cmp od_gt (de_var 2 c.toCtx) (de_op od_pow de_int de_int)) (dss_one (ds_set 3 c (de_op od_div (de_var 2 c.toCtx) de_int))) dss_nil)
    (dss_one (ds_ret (de_cell (da_cons (de_var 3 c.toCtx) (da_cons (de_op od_add (de_op od_mul de_int (de_op od_add (de_var 1 c.toCtx) de_int)) (de_op od_mod (de_ty bu_int rfl c.toCtx T.n_int PyProof.Rows.Boot.«int» (da_cons (de_bu bu_abs rfl c.toCtx T.n_abs PyProof.Rows.Boot.«abs» (da_cons (de_var 2 c.toCtx) da_nil)) da_nil)) de_int)) da_nil))))))))))
theorem sc__law_grind : FnScope ["mill", "count", "drop"] ["mill", "count"] (defScope s__law_grind) := ⟨rfl, rfl, rfl, by decide +kernel, rfl, by decide +kernel, by decide +kernel⟩
theorem ok__law_grind (T : Txt K mg γ)  {f : Addr} {fd : FuncData} (F : Fun K "_law_grind" "_law_grind" s__law_grind f fd) : FnG P w K mg base 1 f fd ["mill", "count"] (spD ⟨K, γ⟩ 2 (runD 3 (b__law_grind))) :=
  def_ok F sc__law_grind (k := 0) (by
    rintro X W rfl rfl rfl rfl rfl c
    exact (dss_cons (ds_if (dt_cmp od_gt (de_ix (de_var 0 c.toCtx) de_int) de_int) (dss_cons (ds_set 2 c (de_op od_mod (de_ty bu_int rfl c.toCtx T.n_int PyProof.Rows.Boot.«int» (da_cons (de_ix (de_var 0 c.toCtx) de_int) da_nil)) (de_var 1 c.toCtx)))
    (dss_cons (ds_asg (de_op od_div (de_ix (de_var 0 c.toCtx) de_int) (de_var 1 c.toCtx)) (dg_ix (de_var 0 c.toCtx) de_int))
    (dss_one (ds_ret (de_var 2 c.toCtx))))) dss_nil)
    (dss_cons (ds_asg (de_op od_mod (de_ty bu_int rfl c.toCtx T.n_int PyProof.Rows.Boot.«int» (da_cons (de_op od_add (de_op od_mul (de_ix (de_var 0 c.toCtx) de_int) de_int) de_int) da_nil)) de_int) (dg_ix (de_var 0 c.toCtx) de_int))
    (dss_one (ds_ret (de_op od_mod (de_ty bu_int rfl c.toCtx T.n_int PyProof.Rows.Boot.«int» (da_cons (de_op od_div (de_ix (de_var 0 c.toCtx) de_int) de_int) da_nil)) (de_var 1 c.toCtx)))))))
theorem sc__law_tribes : FnScope ["mill", "count", "rows_here", "left", "found", "turn"] ["mill", "count"] (defScope s__law_tribes) := ⟨rfl, rfl, rfl, by decide +kernel, rfl, by decide +kernel, by decide +kernel⟩
theorem ok__law_tribes {m__law_grind : Fn} (T : Txt K mg γ) (h__law_grind : Cal γ P w K mg base "_law_grind" 1 2 m__law_grind) {f : Addr} {fd : FuncData} (F : Fun K "_law_tribes" "_law_tribes" s__law_tribes f fd) : FnG P w K mg base 2 f fd ["mill", "count"] (spD ⟨K, γ⟩ 2 (runD 6 (b__law_tribes m__law_grind))) :=
  def_ok F sc__law_tribes (k := 1) (by
    rintro X W rfl rfl rfl rfl rfl c
    exact (dss_cons (ds_set 2 c (de_cell (da_cons (de_lst (da_cons de_str (da_cons de_str (da_cons de_str (da_cons de_str (da_cons de_str (da_cons de_str (da_cons de_str (da_cons de_str da_nil))))))))) da_nil)))
    (dss_cons (ds_expr (de_append (de_var 2 c.toCtx) (da_cons (de_lst (da_cons de_str (da_cons de_str (da_cons de_str (da_cons de_str (da_cons de_str (da_cons de_str (da_cons de_str (da_cons de_str da_nil))))))))) da_nil)))
    (dss_cons (ds_expr (de_append (de_var 2 c.toCtx) (da_cons (de_lst (da_cons de_str (da_cons de_str (da_cons de_str (da_cons de_str (da_cons de_str (da_cons de_str (da_cons de_str (da_cons de_str da_nil))))))))) da_nil)))
    (dss_cons (ds_par 3 4 c (da_cons (de_ty bu_listC rfl c.toCtx T.n_list PyProof.Rows.Boot.«list» (da_cons (de_ix (de_var 2 c.toCtx) (de_call c.toCtx h__law_grind (by decide) rfl (da_cons (de_var 0 c.toCtx) (da_cons de_int da_nil)))) da_nil)) (da_cons (de_cell da_nil) da_nil)) (hw := sw_par c))
    (dss_cons (ds_for c (di_range1 c.toCtx T.n_range (da_cons (de_var 1 c.toCtx) da_nil)) (dg_name 5 c) (dss_one (ds_expr (de_append (de_var 4 c.toCtx) (da_cons (de_popAt (de_var 3 c.toCtx) (da_cons (de_call c.toCtx h__law_grind (by decide) rfl (da_cons (de_var 0 c.toCtx) (da_cons (de_bu bu_len rfl c.toCtx T.n_len PyProof.Rows.Boot.«len» (da_cons (de_var 3 c.toCtx) da_nil)) da_nil))) da_nil)) da_nil)))))
    (dss_one (ds_ret (de_var 4 c.toCtx)))))))))
theorem sc__law_manual : FnScope ["mill", "most", "count", "kinds_here", "found", "every", "who", "whom", "turn", "what"] ["mill", "most", "count"] (defScope s__law_manual) := ⟨rfl, rfl, rfl, by decide +kernel, rfl, by decide +kernel, by decide +kernel⟩
theorem ok__law_manual {m__law_tribes : Fn} {m__law_grind : Fn} (T : Txt K mg γ) (h__law_tribes : Cal γ P w K mg base "_law_tribes" 2 2 m__law_tribes) (h__law_grind : Cal γ P w K mg base "_law_grind" 1 2 m__law_grind) {f : Addr} {fd : FuncData} (F : Fun K "_law_manual" "_law_manual" s__law_manual f fd) : FnG P w K mg base 3 f fd ["mill", "most", "count"] (spD ⟨K, γ⟩ 3 (runD 10 (b__law_manual m__law_tribes m__law_grind))) :=
  def_ok F sc__law_manual (k := 2) (by
    rintro X W rfl rfl rfl rfl rfl c
    exact (dss_cons (ds_par 3 4 c (da_cons (de_call c.toCtx h__law_tribes (by decide) rfl (da_cons (de_var 0 c.toCtx) (da_cons (de_op od_add de_int (de_call c.toCtx h__law_grind (by decide) rfl (da_cons (de_var 0 c.toCtx) (da_cons (de_var 1 c.toCtx) da_nil)))) da_nil))) (da_cons (de_cell da_nil) da_nil)) (hw := sw_par c))
    (dss_cons (ds_set 5 c (de_cell da_nil))
    (dss_cons (ds_for c (di_seq (de_var 3 c.toCtx)) (dg_name 6 c) (dss_one (ds_for c (di_seq (de_var 3 c.toCtx)) (dg_name 7 c) (dss_one (ds_set 5 c (de_op od_addC (de_var 5 c.toCtx) (de_lc [("what", 9)] c.toCtx (di_seq (de_var 3 c.toCtx)) (by decide +kernel) (fun s1 H1 C1 cl1 fp1 => (wg_name 9 (c.toCtx.blk s1 H1 _ C1 cl1 fp1))) (fun s1 H1 C1 cl1 fp1 => (dts_one (dt_cmp (od_ne (c.toCtx.blk s1 H1 _ C1 cl1 fp1)) (de_var 9 (c.toCtx.blk s1 H1 _ C1 cl1 fp1)) (de_var 6 (c.toCtx.blk s1 H1 _ C1 cl1 fp1))))) (fun s1 H1 C1 cl1 fp1 => (de_tup (da_cons (de_var 6 (c.toCtx.blk s1 H1 _ C1 cl1 fp1)) (da_cons (de_var 7 (c.toCtx.blk s1 H1 _ C1 cl1 fp1)) (da_cons (de_var 9 (c.toCtx.blk s1 H1 _ C1 cl1 fp1)) da_nil))))))))))))
    (dss_cons (ds_for c (di_range1 c.toCtx T.n_range (da_cons (de_call c.toCtx h__law_grind (by decide) rfl (da_cons (de_var 0 c.toCtx) (da_cons (de_op od_add (de_var 2 c.toCtx) de_int) da_nil))) da_nil)) (dg_name 8 c) (dss_one (ds_if (dt_cmp (od_ne c.toCtx) (de_var 5 c.toCtx) (de_lst da_nil)) (dss_one (ds_expr (de_append (de_var 4 c.toCtx) (da_cons (de_popAt (de_var 5 c.toCtx) (da_cons (de_call c.toCtx h__law_grind (by decide) rfl (da_cons (de_var 0 c.toCtx) (da_cons (de_bu bu_len rfl c.toCtx T.n_len PyProof.Rows.Boot.«len» (da_cons (de_var 5 c.toCtx) da_nil)) da_nil))) da_nil)) da_nil)))) dss_nil)))
    (dss_one (ds_ret (de_tup (da_cons (de_var 3 c.toCtx) (da_cons (de_var 4 c.toCtx) da_nil))))))))))
theorem sc_is_name : FnScope ["name", "letter"] ["name"] (defScope s_is_name) := ⟨rfl, rfl, rfl, by decide +kernel, rfl, by decide +kernel, by decide +kernel⟩
theorem ok_is_name (T : Txt K mg γ)  {f : Addr} {fd : FuncData} (F : Fun K "is_name" "is_name" s_is_name f fd) : FnG P w K mg base 1 f fd ["name"] (spD ⟨K, γ⟩ 1 (runD 2 (b_is_name))) :=
  def_ok F sc_is_name (k := 0) (by
    rintro X W rfl rfl rfl rfl rfl c
    exact (dss_one (ds_ret (de_and (de_chain op_le op_le de_int (de_bu bu_len rfl c.toCtx T.n_len PyProof.Rows.Boot.«len» (da_cons (de_var 0 c.toCtx) da_nil)) de_int) (de_one (de_bu (bu_all c.toCtx) rfl c.toCtx T.n_all PyProof.Rows.Boot.«all» (da_cons (de_lc [("letter", 1)] c.toCtx (di_seq (de_var 0 c.toCtx)) (by decide +kernel) (fun s1 H1 C1 cl1 fp1 => (wg_name 1 (c.toCtx.blk s1 H1 _ C1 cl1 fp1))) (fun s1 H1 C1 cl1 fp1 => dts_nil) (fun s1 H1 C1 cl1 fp1 => (de_cmp (od_in (c.toCtx.blk s1 H1 _ C1 cl1 fp1)) (de_var 1 (c.toCtx.blk s1 H1 _ C1 cl1 fp1)) (de_gstr (c.toCtx.blk s1 H1 _ C1 cl1 fp1).hsc T.k_LETTERS)))) da_nil)))))))
theorem sc_check_kinds : FnScope ["names", "known", "name"] ["names"] (defScope s_check_kinds) := ⟨rfl, rfl, rfl, by decide +kernel, rfl, by decide +kernel, by decide +kernel⟩
theorem ok_check_kinds {m_is_name : Fn} (T : Txt K mg γ) (h_is_name : Cal γ P w K mg base "is_name" 1 1 m_is_name) (r_InvalidName : Rai γ P w K mg base "InvalidName" 8 1) (r_DoubleName : Rai γ P w K mg base "DoubleName" 3 1) {f : Addr} {fd : FuncData} (F : Fun K "check_kinds" "check_kinds" s_check_kinds f fd) : FnG P w K mg base 3 f fd ["names"] (spD ⟨K, γ⟩ 1 (runD 3 (b_check_kinds m_is_name))) :=
  def_ok F sc_check_kinds (k := 2) (by
    rintro X W rfl rfl rfl rfl rfl c
    exact (dss_cons (ds_set 1 c (de_cell da_nil))
    (dss_one (ds_for c (di_seq (de_var 0 c.toCtx)) (dg_name 2 c) (dss_cons (ds_if (dt_not (dt_val (de_call c.toCtx h_is_name (by decide) rfl (da_cons (de_var 2 c.toCtx) da_nil)))) (dss_one (ds_raise c.toCtx r_InvalidName (by decide) rfl (de_var 2 c.toCtx))) dss_nil)
    (dss_cons (ds_if (dt_cmp (od_in c.toCtx) (de_var 2 c.toCtx) (de_var 1 c.toCtx)) (dss_one (ds_raise c.toCtx r_DoubleName (by decide) rfl (de_var 2 c.toCtx))) dss_nil)
    (dss_one (ds_expr (de_append (de_var 1 c.toCtx) (da_cons (de_var 2 c.toCtx) da_nil))))))))))
theorem sc_check_rule : FnScope ["names", "rule", "name"] ["names", "rule"] (defScope s_check_rule) := ⟨rfl, rfl, rfl, by decide +kernel, rfl, by decide +kernel, by decide +kernel⟩
theorem ok_check_rule (T : Txt K mg γ) (r_InvalidRule : Rai γ P w K mg base "InvalidRule" 9 1) {f : Addr} {fd : FuncData} (F : Fun K "check_rule" "check_rule" s_check_rule f fd) : FnG P w K mg base 3 f fd ["names", "rule"] (spD ⟨K, γ⟩ 2 (runD 3 (b_check_rule))) :=
  def_ok F sc_check_rule (k := 2) (by
    rintro X W rfl rfl rfl rfl rfl c
    exact (dss_one (ds_if (dw_t (dw_or (dt_val (de_bu (bu_any c.toCtx) rfl c.toCtx T.n_any PyProof.Rows.Boot.«any» (da_cons (de_lc [("name", 2)] c.toCtx (di_seq (de_var 1 c.toCtx)) (by decide +kernel) (fun s1 H1 C1 cl1 fp1 => (wg_name 2 (c.toCtx.blk s1 H1 _ C1 cl1 fp1))) (fun s1 H1 C1 cl1 fp1 => dts_nil) (fun s1 H1 C1 cl1 fp1 => (de_cmp (od_notIn (c.toCtx.blk s1 H1 _ C1 cl1 fp1)) (de_var 2 (c.toCtx.blk s1 H1 _ C1 cl1 fp1)) (de_var 0 (c.toCtx.blk s1 H1 _ C1 cl1 fp1))))) da_nil))) (dw_or1 (dt_cmp (od_eq c.toCtx) (de_ix (de_var 1 c.toCtx) de_int) (de_ix (de_var 1 c.toCtx) de_int))))) (dss_one (ds_raise c.toCtx r_InvalidRule (by decide) rfl (de_var 1 c.toCtx))) dss_nil)))
theorem sc_Book_init : FnScope ["self", "kinds", "rules", "known", "rule", "ranked", "places", "name", "place"] ["self", "kinds", "rules"] (defScope s_Book_init) := ⟨rfl, rfl, rfl, by decide +kernel, rfl, by decide +kernel, by decide +kernel⟩
theorem ok_Book_init {m_check_kinds : Fn} {m_check_rule : Fn} (T : Txt K mg γ) (h_check_kinds : Cal γ P w K mg base "check_kinds" 3 1 m_check_kinds) (h_check_rule : Cal γ P w K mg base "check_rule" 3 2 m_check_rule) (r_DoubleRule : Rai γ P w K mg base "DoubleRule" 4 1) {f : Addr} {fd : FuncData} (F : Fun K "__init__" "Book.__init__" s_Book_init f fd) : FnG P w K mg base 4 f fd ["self", "kinds", "rules"] (spD ⟨K, γ⟩ 3 (runD 9 (b_Book_init m_check_kinds m_check_rule))) :=
  def_ok F sc_Book_init (k := 3) (by
    rintro X W rfl rfl rfl rfl rfl c
    exact (dss_cons (ds_expr (de_call c.toCtx h_check_kinds (by decide) rfl (da_cons (de_var 1 c.toCtx) da_nil)))
    (dss_cons (ds_set 3 c (de_cell da_nil))
    (dss_cons (ds_for c (di_seq (de_var 2 c.toCtx)) (dg_name 4 c) (dss_cons (ds_expr (de_call c.toCtx h_check_rule (by decide) rfl (da_cons (de_var 1 c.toCtx) (da_cons (de_var 4 c.toCtx) da_nil))))
    (dss_cons (ds_if (dt_cmp (od_in c.toCtx) (de_var 4 c.toCtx) (de_var 3 c.toCtx)) (dss_one (ds_raise c.toCtx r_DoubleRule (by decide) rfl (de_var 4 c.toCtx))) dss_nil)
    (dss_one (ds_expr (de_append (de_var 3 c.toCtx) (da_cons (de_var 4 c.toCtx) da_nil)))))))
    (dss_cons (ds_fld 0 T.c_Book T.a_Book_kept_kinds (de_var 0 c.toCtx) (de_ty bu_tupleK rfl c.toCtx T.n_tuple PyProof.Rows.Boot.«tuple» (da_cons (de_var 1 c.toCtx) da_nil)))
    (dss_cons (ds_set 5 c (de_bu (bu_sorted c.toCtx) rfl c.toCtx T.n_sorted PyProof.Rows.Boot.«sorted» (da_cons (de_lc [("rule", 4)] c.toCtx (di_seq (de_var 2 c.toCtx)) (by decide +kernel) (fun s1 H1 C1 cl1 fp1 => (wg_name 4 (c.toCtx.blk s1 H1 _ C1 cl1 fp1))) (fun s1 H1 C1 cl1 fp1 => dts_nil) (fun s1 H1 C1 cl1 fp1 => (de_ty bu_tuple rfl (c.toCtx.blk s1 H1 _ C1 cl1 fp1) T.n_tuple PyProof.Rows.Boot.«tuple» (da_cons (de_lc [("name", 7)] (c.toCtx.blk s1 H1 _ C1 cl1 fp1) (di_seq (de_var 4 (c.toCtx.blk s1 H1 _ C1 cl1 fp1))) (by decide +kernel) (fun s2 H2 C2 cl2 fp2 => (wg_name 7 ((c.toCtx.blk s1 H1 _ C1 cl1 fp1).blk s2 H2 _ C2 cl2 fp2))) (fun s2 H2 C2 cl2 fp2 => dts_nil) (fun s2 H2 C2 cl2 fp2 => (de_index ((c.toCtx.blk s1 H1 _ C1 cl1 fp1).blk s2 H2 _ C2 cl2 fp2) (de_var 1 ((c.toCtx.blk s1 H1 _ C1 cl1 fp1).blk s2 H2 _ C2 cl2 fp2)) (da_cons (de_var 7 ((c.toCtx.blk s1 H1 _ C1 cl1 fp1).blk s2 H2 _ C2 cl2 fp2)) da_nil)))) da_nil)))) da_nil)))
    (dss_one (ds_fld 0 T.c_Book T.a_Book_kept_rules (de_var 0 c.toCtx) (de_ty bu_tuple rfl c.toCtx T.n_tuple PyProof.Rows.Boot.«tuple» (da_cons (de_lc [("places", 6)] c.toCtx (di_seq (de_var 5 c.toCtx)) (by decide +kernel) (fun s1 H1 C1 cl1 fp1 => (wg_name 6 (c.toCtx.blk s1 H1 _ C1 cl1 fp1))) (fun s1 H1 C1 cl1 fp1 => dts_nil) (fun s1 H1 C1 cl1 fp1 => (de_ty bu_tuple rfl (c.toCtx.blk s1 H1 _ C1 cl1 fp1) T.n_tuple PyProof.Rows.Boot.«tuple» (da_cons (de_lc [("place", 8)] (c.toCtx.blk s1 H1 _ C1 cl1 fp1) (di_seq (de_var 6 (c.toCtx.blk s1 H1 _ C1 cl1 fp1))) (by decide +kernel) (fun s2 H2 C2 cl2 fp2 => (wg_name 8 ((c.toCtx.blk s1 H1 _ C1 cl1 fp1).blk s2 H2 _ C2 cl2 fp2))) (fun s2 H2 C2 cl2 fp2 => dts_nil) (fun s2 H2 C2 cl2 fp2 => (de_ix (de_var 1 ((c.toCtx.blk s1 H1 _ C1 cl1 fp1).blk s2 H2 _ C2 cl2 fp2)) (de_var 8 ((c.toCtx.blk s1 H1 _ C1 cl1 fp1).blk s2 H2 _ C2 cl2 fp2))))) da_nil)))) da_nil))))))))))
theorem sc__law_code : FnScope ["plan"] ["plan"] (defScope s__law_code) := ⟨rfl, rfl, rfl, by decide +kernel, rfl, by decide +kernel, by decide +kernel⟩
theorem ok__law_code {m_Book : Fn} (T : Txt K mg γ) (h_Book : Cal γ P w K mg base "Book" 5 2 m_Book) {f : Addr} {fd : FuncData} (F : Fun K "_law_code" "_law_code" s__law_code f fd) : FnG P w K mg base 6 f fd ["plan"] (spD ⟨K, γ⟩ 1 (runD 1 (b__law_code m_Book))) :=
  def_ok F sc__law_code (k := 5) (by
    rintro X W rfl rfl rfl rfl rfl c
    exact (dss_one (ds_ret (de_call c.toCtx h_Book (by decide) rfl (da_cons (de_ty bu_list rfl c.toCtx T.n_list PyProof.Rows.Boot.«list» (da_cons (de_ix (de_var 0 c.toCtx) de_int) da_nil)) (da_cons (de_ty bu_list rfl c.toCtx T.n_list PyProof.Rows.Boot.«list» (da_cons (de_ix (de_var 0 c.toCtx) de_int) da_nil)) da_nil))))))
theorem sc__law_herd : FnScope ["mill", "count", "most", "turn"] ["mill", "count", "most"] (defScope s__law_herd) := ⟨rfl, rfl, rfl, by decide +kernel, rfl, by decide +kernel, by decide +kernel⟩
theorem ok__law_herd {m__law_grind : Fn} (T : Txt K mg γ) (h__law_grind : Cal γ P w K mg base "_law_grind" 1 2 m__law_grind) {f : Addr} {fd : FuncData} (F : Fun K "_law_herd" "_law_herd" s__law_herd f fd) : FnG P w K mg base 2 f fd ["mill", "count", "most"] (spD ⟨K, γ⟩ 3 (runD 4 (b__law_herd m__law_grind))) :=
  def_ok F sc__law_herd (k := 1) (by
    rintro X W rfl rfl rfl rfl rfl c
    exact (dss_one (ds_ret (de_lcC [("turn", 3)] c.toCtx (di_range1 c.toCtx T.n_range (da_cons (de_var 1 c.toCtx) da_nil)) (by decide +kernel) (fun s1 H1 C1 cl1 fp1 => (wg_name 3 (c.toCtx.blk s1 H1 _ C1 cl1 fp1))) (fun s1 H1 C1 cl1 fp1 => dts_nil) (fun s1 H1 C1 cl1 fp1 => (de_call (c.toCtx.blk s1 H1 _ C1 cl1 fp1) h__law_grind (by decide) rfl (da_cons (de_var 0 (c.toCtx.blk s1 H1 _ C1 cl1 fp1)) (da_cons (de_op od_add (de_var 2 (c.toCtx.blk s1 H1 _ C1 cl1 fp1)) de_int) da_nil))))))))
theorem sc__law_ranked : FnScope ["plan", "ranked", "places_here", "rule_here", "name", "at"] ["plan"] (defScope s__law_ranked) := ⟨rfl, rfl, rfl, by decide +kernel, rfl, by decide +kernel, by decide +kernel⟩
theorem ok__law_ranked (T : Txt K mg γ)  {f : Addr} {fd : FuncData} (F : Fun K "_law_ranked" "_law_ranked" s__law_ranked f fd) : FnG P w K mg base 1 f fd ["plan"] (spD ⟨K, γ⟩ 1 (runD 6 (b__law_ranked))) :=
  def_ok F sc__law_ranked (k := 0) (by
    rintro X W rfl rfl rfl rfl rfl c
    exact (dss_cons (ds_set 1 c (de_bu (bu_sorted c.toCtx) rfl c.toCtx T.n_sorted PyProof.Rows.Boot.«sorted» (da_cons (de_lc [("rule_here", 3)] c.toCtx (di_seq (de_ix (de_var 0 c.toCtx) de_int)) (by decide +kernel) (fun s1 H1 C1 cl1 fp1 => (wg_name 3 (c.toCtx.blk s1 H1 _ C1 cl1 fp1))) (fun s1 H1 C1 cl1 fp1 => dts_nil) (fun s1 H1 C1 cl1 fp1 => (de_lc [("name", 4)] (c.toCtx.blk s1 H1 _ C1 cl1 fp1) (di_seq (de_var 3 (c.toCtx.blk s1 H1 _ C1 cl1 fp1))) (by decide +kernel) (fun s2 H2 C2 cl2 fp2 => (wg_name 4 ((c.toCtx.blk s1 H1 _ C1 cl1 fp1).blk s2 H2 _ C2 cl2 fp2))) (fun s2 H2 C2 cl2 fp2 => dts_nil) (fun s2 H2 C2 cl2 fp2 => (de_index ((c.toCtx.blk s1 H1 _ C1 cl1 fp1).blk s2 H2 _ C2 cl2 fp2) (de_ix (de_var 0 ((c.toCtx.blk s1 H1 _ C1 cl1 fp1).blk s2 H2 _ C2 cl2 fp2)) de_int) (da_cons (de_var 4 ((c.toCtx.blk s1 H1 _ C1 cl1 fp1).blk s2 H2 _ C2 cl2 fp2)) da_nil)))))) da_nil)))
    (dss_one (ds_ret (de_lc [("places_here", 2)] c.toCtx (di_seq (de_var 1 c.toCtx)) (by decide +kernel) (fun s1 H1 C1 cl1 fp1 => (wg_name 2 (c.toCtx.blk s1 H1 _ C1 cl1 fp1))) (fun s1 H1 C1 cl1 fp1 => dts_nil) (fun s1 H1 C1 cl1 fp1 => (de_ty bu_tuple rfl (c.toCtx.blk s1 H1 _ C1 cl1 fp1) T.n_tuple PyProof.Rows.Boot.«tuple» (da_cons (de_lc [("at", 5)] (c.toCtx.blk s1 H1 _ C1 cl1 fp1) (di_seq (de_var 2 (c.toCtx.blk s1 H1 _ C1 cl1 fp1))) (by decide +kernel) (fun s2 H2 C2 cl2 fp2 => (wg_name 5 ((c.toCtx.blk s1 H1 _ C1 cl1 fp1).blk s2 H2 _ C2 cl2 fp2))) (fun s2 H2 C2 cl2 fp2 => dts_nil) (fun s2 H2 C2 cl2 fp2 => (de_ix (de_ix (de_var 0 ((c.toCtx.blk s1 H1 _ C1 cl1 fp1).blk s2 H2 _ C2 cl2 fp2)) de_int) (de_var 5 ((c.toCtx.blk s1 H1 _ C1 cl1 fp1).blk s2 H2 _ C2 cl2 fp2))))) da_nil))))))))
theorem sc__law_turned_to : FnScope ["plan", "herd", "rule_here", "first", "whom", "what", "name", "at", "number"] ["plan", "herd", "rule_here"] (defScope s__law_turned_to) := ⟨rfl, rfl, rfl, by decide +kernel, rfl, by decide +kernel, by decide +kernel⟩
theorem ok__law_turned_to (T : Txt K mg γ)  {f : Addr} {fd : FuncData} (F : Fun K "_law_turned_to" "_law_turned_to" s__law_turned_to f fd) : FnG P w K mg base 1 f fd ["plan", "herd", "rule_here"] (spD ⟨K, γ⟩ 3 (runD 9 (b__law_turned_to))) :=
  def_ok F sc__law_turned_to (k := 0) (by
    rintro X W rfl rfl rfl rfl rfl c
    exact (dss_cons (ds_asg (de_lc [("name", 6)] c.toCtx (di_seq (de_var 2 c.toCtx)) (by decide +kernel) (fun s1 H1 C1 cl1 fp1 => (wg_name 6 (c.toCtx.blk s1 H1 _ C1 cl1 fp1))) (fun s1 H1 C1 cl1 fp1 => dts_nil) (fun s1 H1 C1 cl1 fp1 => (de_index (c.toCtx.blk s1 H1 _ C1 cl1 fp1) (de_ix (de_var 0 (c.toCtx.blk s1 H1 _ C1 cl1 fp1)) de_int) (da_cons (de_var 6 (c.toCtx.blk s1 H1 _ C1 cl1 fp1)) da_nil)))) (dg_unl 3 c (dgs_cons (dg_name 3 c) (dgs_cons (dg_name 4 c) (dgs_cons (dg_name 5 c) dgs_nil)))))
    (dss_cons (ds_if (dw_t (dw_or (dt_cmp od_lt (de_ix (de_var 1 c.toCtx) (de_var 3 c.toCtx)) de_int) (dw_or1 (dt_cmp od_lt (de_ix (de_var 1 c.toCtx) (de_var 4 c.toCtx)) (de_op od_add de_int (de_ty bu_int rfl c.toCtx T.n_int PyProof.Rows.Boot.«int» (da_cons (de_cmp (od_eq c.toCtx) (de_var 4 c.toCtx) (de_var 3 c.toCtx)) da_nil))))))) (dss_one (ds_ret de_non)) dss_nil)
    (dss_one (ds_ret (de_lc [("at", 7), ("number", 8)] c.toCtx (di_enum c.toCtx T.n_enumerate (da_cons (de_var 1 c.toCtx) da_nil)) (by decide +kernel) (fun s1 H1 C1 cl1 fp1 => (wg_tup 2 (c.toCtx.blk s1 H1 _ C1 cl1 fp1) (wgs_cons (wg_name 7 (c.toCtx.blk s1 H1 _ C1 cl1 fp1)) (wgs_cons (wg_name 8 (c.toCtx.blk s1 H1 _ C1 cl1 fp1)) wgs_nil)))) (fun s1 H1 C1 cl1 fp1 => dts_nil) (fun s1 H1 C1 cl1 fp1 => (de_op od_add (de_op od_sub (de_var 8 (c.toCtx.blk s1 H1 _ C1 cl1 fp1)) (de_ty bu_int rfl (c.toCtx.blk s1 H1 _ C1 cl1 fp1) T.n_int PyProof.Rows.Boot.«int» (da_cons (de_cmp (od_eq (c.toCtx.blk s1 H1 _ C1 cl1 fp1)) (de_var 7 (c.toCtx.blk s1 H1 _ C1 cl1 fp1)) (de_var 3 (c.toCtx.blk s1 H1 _ C1 cl1 fp1))) da_nil))) (de_ty bu_int rfl (c.toCtx.blk s1 H1 _ C1 cl1 fp1) T.n_int PyProof.Rows.Boot.«int» (da_cons (de_cmp (od_eq (c.toCtx.blk s1 H1 _ C1 cl1 fp1)) (de_var 7 (c.toCtx.blk s1 H1 _ C1 cl1 fp1)) (de_var 5 (c.toCtx.blk s1 H1 _ C1 cl1 fp1))) da_nil))))))))))
theorem sc_check_crowd : FnScope ["many", "crowd", "number"] ["many", "crowd"] (defScope s_check_crowd) := ⟨rfl, rfl, rfl, by decide +kernel, rfl, by decide +kernel, by decide +kernel⟩
theorem ok_check_crowd (T : Txt K mg γ) (r_InvalidCrowd : Rai γ P w K mg base "InvalidCrowd" 7 1) {f : Addr} {fd : FuncData} (F : Fun K "check_crowd" "check_crowd" s_check_crowd f fd) : FnG P w K mg base 3 f fd ["many", "crowd"] (spD ⟨K, γ⟩ 2 (runD 3 (b_check_crowd))) :=
  def_ok F sc_check_crowd (k := 2) (by
    rintro X W rfl rfl rfl rfl rfl c
    exact (dss_one (ds_if (dw_t (dw_or (dt_cmp (od_ne c.toCtx) (de_bu bu_len rfl c.toCtx T.n_len PyProof.Rows.Boot.«len» (da_cons (de_var 1 c.toCtx) da_nil)) (de_var 0 c.toCtx)) (dw_or1 (dt_val (de_bu (bu_any c.toCtx) rfl c.toCtx T.n_any PyProof.Rows.Boot.«any» (da_cons (de_lc [("number", 2)] c.toCtx (di_seq (de_var 1 c.toCtx)) (by decide +kernel) (fun s1 H1 C1 cl1 fp1 => (wg_name 2 (c.toCtx.blk s1 H1 _ C1 cl1 fp1))) (fun s1 H1 C1 cl1 fp1 => dts_nil) (fun s1 H1 C1 cl1 fp1 => (de_cmp od_lt (de_var 2 (c.toCtx.blk s1 H1 _ C1 cl1 fp1)) de_int))) da_nil)))))) (dss_one (ds_raise c.toCtx r_InvalidCrowd (by decide) rfl (de_ty bu_list rfl c.toCtx T.n_list PyProof.Rows.Boot.«list» (da_cons (de_var 1 c.toCtx) da_nil)))) dss_nil)))
theorem sc_moved : FnScope ["crowd", "places", "kind", "seen", "new", "found"] ["crowd", "places"] (defScope s_moved) := ⟨rfl, rfl, rfl, by decide +kernel, rfl, by decide +kernel, by decide +kernel⟩
theorem ok_moved (T : Txt K mg γ)  {f : Addr} {fd : FuncData} (F : Fun K "moved" "moved" s_moved f fd) : FnG P w K mg base 1 f fd ["crowd", "places"] (spD ⟨K, γ⟩ 2 (runD 6 (b_moved))) :=
  def_ok F sc_moved (k := 0) (by
    rintro X W rfl rfl rfl rfl rfl c
    exact (dss_cons (ds_asg (de_var 1 c.toCtx) (dg_tup 3 c (dgs_cons (dg_name 2 c) (dgs_cons (dg_name 3 c) (dgs_cons (dg_name 4 c) dgs_nil)))))
    (dss_cons (ds_if (dw_t (dw_or (dt_cmp od_lt (de_ix (de_var 0 c.toCtx) (de_var 2 c.toCtx)) de_int) (dw_or1 (dt_cmp od_lt (de_ix (de_var 0 c.toCtx) (de_var 3 c.toCtx)) (de_op od_add de_int (de_ty bu_int rfl c.toCtx T.n_int PyProof.Rows.Boot.«int» (da_cons (de_cmp (od_eq c.toCtx) (de_var 3 c.toCtx) (de_var 2 c.toCtx)) da_nil))))))) (dss_one (ds_ret de_non)) dss_nil)
    (dss_cons (ds_set 5 c (de_ty bu_listC rfl c.toCtx T.n_list PyProof.Rows.Boot.«list» (da_cons (de_var 0 c.toCtx) da_nil)))
    (dss_cons (ds_asg (de_op od_sub (de_ix (de_var 5 c.toCtx) (de_var 2 c.toCtx)) de_int) (dg_ix (de_var 5 c.toCtx) (de_var 2 c.toCtx)))
    (dss_cons (ds_asg (de_op od_add (de_ix (de_var 5 c.toCtx) (de_var 4 c.toCtx)) de_int) (dg_ix (de_var 5 c.toCtx) (de_var 4 c.toCtx)))
    (dss_one (ds_ret (de_ty bu_tuple rfl c.toCtx T.n_tuple PyProof.Rows.Boot.«tuple» (da_cons (de_var 5 c.toCtx) da_nil))))))))))
theorem sc_places_of : FnScope ["book", "rule", "name"] ["book", "rule"] (defScope s_places_of) := ⟨rfl, rfl, rfl, by decide +kernel, rfl, by decide +kernel, by decide +kernel⟩
theorem ok_places_of (T : Txt K mg γ)  {f : Addr} {fd : FuncData} (F : Fun K "places_of" "places_of" s_places_of f fd) : FnG P w K mg base 1 f fd ["book", "rule"] (spD ⟨K, γ⟩ 2 (runD 3 (b_places_of))) :=
  def_ok F sc_places_of (k := 0) (by
    rintro X W rfl rfl rfl rfl rfl c
    exact (dss_one (ds_ret (de_ty bu_tuple rfl c.toCtx T.n_tuple PyProof.Rows.Boot.«tuple» (da_cons (de_lc [("name", 2)] c.toCtx (di_seq (de_var 1 c.toCtx)) (by decide +kernel) (fun s1 H1 C1 cl1 fp1 => (wg_name 2 (c.toCtx.blk s1 H1 _ C1 cl1 fp1))) (fun s1 H1 C1 cl1 fp1 => dts_nil) (fun s1 H1 C1 cl1 fp1 => (de_tindex (de_fld 0 T.c_Book T.a_Book_kept_kinds (de_var 0 (c.toCtx.blk s1 H1 _ C1 cl1 fp1))) (da_cons (de_var 2 (c.toCtx.blk s1 H1 _ C1 cl1 fp1)) da_nil)))) da_nil)))))
theorem sc_can_do : FnScope ["book", "crowd", "rule"] ["book", "crowd"] (defScope s_can_do) := ⟨rfl, rfl, rfl, by decide +kernel, rfl, by decide +kernel, by decide +kernel⟩
theorem ok_can_do {m_check_crowd : Fn} {m_moved : Fn} {m_places_of : Fn} (T : Txt K mg γ) (h_check_crowd : Cal γ P w K mg base "check_crowd" 3 2 m_check_crowd) (h_moved : Cal γ P w K mg base "moved" 1 2 m_moved) (h_places_of : Cal γ P w K mg base "places_of" 1 2 m_places_of) {f : Addr} {fd : FuncData} (F : Fun K "can_do" "can_do" s_can_do f fd) : FnG P w K mg base 4 f fd ["book", "crowd"] (spD ⟨K, γ⟩ 2 (runD 3 (b_can_do m_check_crowd m_moved m_places_of))) :=
  def_ok F sc_can_do (k := 3) (by
    rintro X W rfl rfl rfl rfl rfl c
    exact (dss_cons (ds_expr (de_call c.toCtx h_check_crowd (by decide) rfl (da_cons (de_bu bu_len rfl c.toCtx T.n_len PyProof.Rows.Boot.«len» (da_cons (de_fld 0 T.c_Book T.a_Book_kept_kinds (de_var 0 c.toCtx)) da_nil)) (da_cons (de_var 1 c.toCtx) da_nil))))
    (dss_one (ds_ret (de_lcC [("rule", 2)] c.toCtx (di_seq (de_fld 0 T.c_Book T.a_Book_kept_rules (de_var 0 c.toCtx))) (by decide +kernel) (fun s1 H1 C1 cl1 fp1 => (wg_name 2 (c.toCtx.blk s1 H1 _ C1 cl1 fp1))) (fun s1 H1 C1 cl1 fp1 => (dts_one (dt_cmp od_isNot (de_call (c.toCtx.blk s1 H1 _ C1 cl1 fp1) h_moved (by decide) rfl (da_cons (de_var 1 (c.toCtx.blk s1 H1 _ C1 cl1 fp1)) (da_cons (de_call (c.toCtx.blk s1 H1 _ C1 cl1 fp1) h_places_of (by decide) rfl (da_cons (de_var 0 (c.toCtx.blk s1 H1 _ C1 cl1 fp1)) (da_cons (de_var 2 (c.toCtx.blk s1 H1 _ C1 cl1 fp1)) da_nil))) da_nil))) de_non))) (fun s1 H1 C1 cl1 fp1 => (de_var 2 (c.toCtx.blk s1 H1 _ C1 cl1 fp1))))))))
theorem sc_done : FnScope ["book", "crowd", "rule", "behind"] ["book", "crowd", "rule"] (defScope s_done) := ⟨rfl, rfl, rfl, by decide +kernel, rfl, by decide +kernel, by decide +kernel⟩
theorem ok_done {m_check_crowd : Fn} {m_moved : Fn} {m_places_of : Fn} (T : Txt K mg γ) (h_check_crowd : Cal γ P w K mg base "check_crowd" 3 2 m_check_crowd) (r_InvalidRule : Rai γ P w K mg base "InvalidRule" 9 1) (h_moved : Cal γ P w K mg base "moved" 1 2 m_moved) (h_places_of : Cal γ P w K mg base "places_of" 1 2 m_places_of) (r_NotAble : Rai γ P w K mg base "NotAble" 10 1) {f : Addr} {fd : FuncData} (F : Fun K "done" "done" s_done f fd) : FnG P w K mg base 4 f fd ["book", "crowd", "rule"] (spD ⟨K, γ⟩ 3 (runD 4 (b_done m_check_crowd m_moved m_places_of))) :=
  def_ok F sc_done (k := 3) (by
    rintro X W rfl rfl rfl rfl rfl c
    exact (dss_cons (ds_expr (de_call c.toCtx h_check_crowd (by decide) rfl (da_cons (de_bu bu_len rfl c.toCtx T.n_len PyProof.Rows.Boot.«len» (da_cons (de_fld 0 T.c_Book T.a_Book_kept_kinds (de_var 0 c.toCtx)) da_nil)) (da_cons (de_var 1 c.toCtx) da_nil))))
    (dss_cons (ds_if (dt_cmp (od_notIn c.toCtx) (de_var 2 c.toCtx) (de_fld 0 T.c_Book T.a_Book_kept_rules (de_var 0 c.toCtx))) (dss_one (ds_raise c.toCtx r_InvalidRule (by decide) rfl (de_var 2 c.toCtx))) dss_nil)
    (dss_cons (ds_set 3 c (de_call c.toCtx h_moved (by decide) rfl (da_cons (de_var 1 c.toCtx) (da_cons (de_call c.toCtx h_places_of (by decide) rfl (da_cons (de_var 0 c.toCtx) (da_cons (de_var 2 c.toCtx) da_nil))) da_nil))))
    (dss_cons (ds_if (dt_cmp od_is (de_var 3 c.toCtx) de_non) (dss_one (ds_raise c.toCtx r_NotAble (by decide) rfl (de_var 2 c.toCtx))) dss_nil)
    (dss_one (ds_ret (de_ty bu_listC rfl c.toCtx T.n_list PyProof.Rows.Boot.«list» (da_cons (de_var 3 c.toCtx) da_nil)))))))))
theorem sc__law_grown_right : FnScope ["mill", "made", "plan", "herd", "at", "due", "rule_here"] ["mill", "made", "plan", "herd"] (defScope s__law_grown_right) := ⟨rfl, rfl, rfl, by decide +kernel, rfl, by decide +kernel, by decide +kernel⟩
theorem ok__law_grown_right {m__law_grind : Fn} {m__law_ranked : Fn} {m__law_turned_to : Fn} {m_can_do : Fn} {m_done : Fn} (T : Txt K mg γ) (h__law_grind : Cal γ P w K mg base "_law_grind" 1 2 m__law_grind) (h__law_ranked : Cal γ P w K mg base "_law_ranked" 1 1 m__law_ranked) (h__law_turned_to : Cal γ P w K mg base "_law_turned_to" 1 3 m__law_turned_to) (h_can_do : Cal γ P w K mg base "can_do" 4 2 m_can_do) (h_done : Cal γ P w K mg base "done" 4 3 m_done) {f : Addr} {fd : FuncData} (F : Fun K "_law_grown_right" "_law_grown_right" s__law_grown_right f fd) : FnG P w K mg base 5 f fd ["mill", "made", "plan", "herd"] (spD ⟨K, γ⟩ 4 (runD 7 (b__law_grown_right m__law_grind m__law_ranked m__law_turned_to m_can_do m_done))) :=
  def_ok F sc__law_grown_right (k := 4) (by
    rintro X W rfl rfl rfl rfl rfl c
    exact (dss_cons (ds_set 4 c (de_call c.toCtx h__law_grind (by decide) rfl (da_cons (de_var 0 c.toCtx) (da_cons (de_bu bu_len rfl c.toCtx T.n_len PyProof.Rows.Boot.«len» (da_cons (de_var 3 c.toCtx) da_nil)) da_nil))))
    (dss_cons (ds_asg (de_op od_add (de_ix (de_var 3 c.toCtx) (de_var 4 c.toCtx)) de_int) (dg_ix (de_var 3 c.toCtx) (de_var 4 c.toCtx)))
    (dss_cons (ds_setLc 5 [("rule_here", 6)] c (di_seq (de_call c.toCtx h__law_ranked (by decide) rfl (da_cons (de_var 2 c.toCtx) da_nil))) (by decide +kernel) (sw_ok c.toCtx) (fun s1 H1 C1 cl1 fp1 => (wg_name 6 (c.toCtx.blk s1 H1 _ C1 cl1 fp1))) (fun s1 H1 C1 cl1 fp1 => (dts_one (dt_cmp od_isNot (de_call (c.toCtx.blk s1 H1 _ C1 cl1 fp1) h__law_turned_to (by decide) rfl (da_cons (de_var 2 (c.toCtx.blk s1 H1 _ C1 cl1 fp1)) (da_cons (de_var 3 (c.toCtx.blk s1 H1 _ C1 cl1 fp1)) (da_cons (de_var 6 (c.toCtx.blk s1 H1 _ C1 cl1 fp1)) da_nil)))) de_non))) (fun s1 H1 C1 cl1 fp1 => (de_var 6 (c.toCtx.blk s1 H1 _ C1 cl1 fp1))))
    (dss_cons (ds_if (dt_cmp (od_ne c.toCtx) (de_bu (bu_repr c.toCtx) rfl c.toCtx T.n_repr PyProof.Rows.Boot.«repr» (da_cons (de_call c.toCtx h_can_do (by decide) rfl (da_cons (de_var 1 c.toCtx) (da_cons (de_var 3 c.toCtx) da_nil))) da_nil)) (de_bu (bu_repr c.toCtx) rfl c.toCtx T.n_repr PyProof.Rows.Boot.«repr» (da_cons (de_var 5 c.toCtx) da_nil))) (dss_one (ds_ret de_bl)) dss_nil)
    (dss_cons (ds_for c (di_seq (de_slice (de_var 5 c.toCtx) do_none (do_some de_int))) (dg_name 6 c) (dss_one (ds_if (dt_cmp (od_ne c.toCtx) (de_bu (bu_repr c.toCtx) rfl c.toCtx T.n_repr PyProof.Rows.Boot.«repr» (da_cons (de_call c.toCtx h_done (by decide) rfl (da_cons (de_var 1 c.toCtx) (da_cons (de_var 3 c.toCtx) (da_cons (de_var 6 c.toCtx) da_nil)))) da_nil)) (de_bu (bu_repr c.toCtx) rfl c.toCtx T.n_repr PyProof.Rows.Boot.«repr» (da_cons (de_call c.toCtx h__law_turned_to (by decide) rfl (da_cons (de_var 2 c.toCtx) (da_cons (de_var 3 c.toCtx) (da_cons (de_var 6 c.toCtx) da_nil)))) da_nil))) (dss_one (ds_ret de_bl)) dss_nil)))
    (dss_one (ds_ret de_bl))))))))
theorem sc_Book_eq : FnScope ["self", "other"] ["self", "other"] (defScope s_Book_eq) := ⟨rfl, rfl, rfl, by decide +kernel, rfl, by decide +kernel, by decide +kernel⟩
theorem ok_Book_eq (T : Txt K mg γ)  {f : Addr} {fd : FuncData} (F : Fun K "__eq__" "Book.__eq__" s_Book_eq f fd) : FnG P w K mg base 1 f fd ["self", "other"] (spD ⟨K, γ⟩ 2 (runD 2 (b_Book_eq))) :=
  def_ok F sc_Book_eq (k := 0) (by
    rintro X W rfl rfl rfl rfl rfl c
    exact (dss_cons (ds_if (dt_not (dt_val (de_bu (bu_isi (isS_ok T.i_Book)) rfl c.toCtx T.n_isinstance PyProof.Rows.Boot.«isinstance» (da_cons (de_var 1 c.toCtx) (da_cons (de_cls 0 c.toCtx.hsc T.m_Book) da_nil))))) (dss_one (ds_ret de_bl)) dss_nil)
    (dss_one (ds_ret (de_and (de_cmp (od_eq c.toCtx) (de_fld 0 T.c_Book T.a_Book_kept_kinds (de_var 0 c.toCtx)) (de_fld 0 T.c_Book T.a_Book_kept_kinds (de_var 1 c.toCtx))) (de_one (de_cmp (od_eq c.toCtx) (de_fld 0 T.c_Book T.a_Book_kept_rules (de_var 0 c.toCtx)) (de_fld 0 T.c_Book T.a_Book_kept_rules (de_var 1 c.toCtx)))))))))
theorem sc__law_right : FnScope ["mill", "plan", "made", "count", "turn", "herd", "at", "kept", "due", "told", "rule_here", "behind", "rank"] ["mill"] (defScope s__law_right) := ⟨rfl, rfl, rfl, by decide +kernel, rfl, by decide +kernel, by decide +kernel⟩
theorem ok__law_right {m__law_manual : Fn} {m__law_grind : Fn} {m__law_code : Fn} {m__law_herd : Fn} {m__law_ranked : Fn} {m__law_turned_to : Fn} {m_can_do : Fn} {m_done : Fn} {m__law_grown_right : Fn} {m_Book_eq : Fn} (T : Txt K mg γ) (h__law_manual : Cal γ P w K mg base "_law_manual" 3 3 m__law_manual) (h__law_grind : Cal γ P w K mg base "_law_grind" 1 2 m__law_grind) (h__law_code : Cal γ P w K mg base "_law_code" 6 1 m__law_code) (h__law_herd : Cal γ P w K mg base "_law_herd" 2 3 m__law_herd) (h__law_ranked : Cal γ P w K mg base "_law_ranked" 1 1 m__law_ranked) (h__law_turned_to : Cal γ P w K mg base "_law_turned_to" 1 3 m__law_turned_to) (h_can_do : Cal γ P w K mg base "can_do" 4 2 m_can_do) (h_can_do_crowd_book : CalK γ P w K mg base "can_do" 4 0 ["crowd", "book"] (fun ds es S => m_can_do (pick [1, 0] (ds ++ es)) S)) (h_done : Cal γ P w K mg base "done" 4 3 m_done) (h_done_rule_crowd_book : CalK γ P w K mg base "done" 4 0 ["rule", "crowd", "book"] (fun ds es S => m_done (pick [2, 1, 0] (ds ++ es)) S)) (h__law_grown_right : Cal γ P w K mg base "_law_grown_right" 5 4 m__law_grown_right) (h_Book_eq : Own γ P w K mg base 0 "__eq__" 1 1 m_Book_eq) {f : Addr} {fd : FuncData} (F : Fun K "_law_right" "_law_right" s__law_right f fd) : FnG P w K mg base 7 f fd ["mill"] (spD ⟨K, γ⟩ 1 (runD 13 (b__law_right m__law_manual m__law_grind m__law_code m__law_herd m__law_ranked m__law_turned_to m_can_do m_done m__law_grown_right m_Book_eq))) :=
  def_ok F sc__law_right (k := 6) (by
    rintro X W rfl rfl rfl rfl rfl c
    exact (dss_cons (ds_set 1 c (de_call c.toCtx h__law_manual (by decide) rfl (da_cons (de_var 0 c.toCtx) (da_cons (de_ix (de_lst (da_cons de_int (da_cons de_int da_nil))) (de_call c.toCtx h__law_grind (by decide) rfl (da_cons (de_var 0 c.toCtx) (da_cons de_int da_nil)))) (da_cons de_int da_nil)))))
    (dss_cons (ds_par 2 3 c (da_cons (de_call c.toCtx h__law_code (by decide) rfl (da_cons (de_var 1 c.toCtx) da_nil)) (da_cons (de_bu bu_len rfl c.toCtx T.n_len PyProof.Rows.Boot.«len» (da_cons (de_ix (de_var 1 c.toCtx) de_int) da_nil)) da_nil)) (hw := sw_par c))
    (dss_cons (ds_for c (di_range1 c.toCtx T.n_range (da_cons de_int da_nil)) (dg_name 4 c) (dss_cons (ds_set 5 c (de_call c.toCtx h__law_herd (by decide) rfl (da_cons (de_var 0 c.toCtx) (da_cons (de_var 3 c.toCtx) (da_cons (de_ix (de_lst (da_cons de_int (da_cons de_int (da_cons de_int (da_cons (de_op od_div de_int (de_var 3 c.toCtx)) da_nil))))) (de_call c.toCtx h__law_grind (by decide) rfl (da_cons (de_var 0 c.toCtx) (da_cons de_int da_nil)))) da_nil)))))
    (dss_cons (ds_if (dt_cmp (od_eq c.toCtx) (de_call c.toCtx h__law_grind (by decide) rfl (da_cons (de_var 0 c.toCtx) (da_cons de_int da_nil))) de_int) (dss_cons (ds_set 6 c (de_call c.toCtx h__law_grind (by decide) rfl (da_cons (de_var 0 c.toCtx) (da_cons (de_var 3 c.toCtx) da_nil))))
    (dss_one (ds_set 5 c (de_lcC [("rank", 12)] c.toCtx (di_range1 c.toCtx T.n_range (da_cons (de_var 3 c.toCtx) da_nil)) (by decide +kernel) (fun s1 H1 C1 cl1 fp1 => (wg_name 12 (c.toCtx.blk s1 H1 _ C1 cl1 fp1))) (fun s1 H1 C1 cl1 fp1 => dts_nil) (fun s1 H1 C1 cl1 fp1 => (de_op od_mul (de_call (c.toCtx.blk s1 H1 _ C1 cl1 fp1) h__law_grind (by decide) rfl (da_cons (de_var 0 (c.toCtx.blk s1 H1 _ C1 cl1 fp1)) (da_cons de_int da_nil))) (de_ty bu_int rfl (c.toCtx.blk s1 H1 _ C1 cl1 fp1) T.n_int PyProof.Rows.Boot.«int» (da_cons (de_cmp (od_eq (c.toCtx.blk s1 H1 _ C1 cl1 fp1)) (de_var 12 (c.toCtx.blk s1 H1 _ C1 cl1 fp1)) (de_var 6 (c.toCtx.blk s1 H1 _ C1 cl1 fp1))) da_nil))))) rfl (by first | exact Or.inl rfl | exact Or.inr rfl) (sw_no c.toCtx)))) dss_nil)
    (dss_cons (ds_set 7 c (de_ty bu_list rfl c.toCtx T.n_list PyProof.Rows.Boot.«list» (da_cons (de_var 5 c.toCtx) da_nil)))
    (dss_cons (ds_setLc 8 [("rule_here", 10)] c (di_seq (de_call c.toCtx h__law_ranked (by decide) rfl (da_cons (de_var 1 c.toCtx) da_nil))) (by decide +kernel) (sw_ok c.toCtx) (fun s1 H1 C1 cl1 fp1 => (wg_name 10 (c.toCtx.blk s1 H1 _ C1 cl1 fp1))) (fun s1 H1 C1 cl1 fp1 => (dts_one (dt_cmp od_isNot (de_call (c.toCtx.blk s1 H1 _ C1 cl1 fp1) h__law_turned_to (by decide) rfl (da_cons (de_var 1 (c.toCtx.blk s1 H1 _ C1 cl1 fp1)) (da_cons (de_var 5 (c.toCtx.blk s1 H1 _ C1 cl1 fp1)) (da_cons (de_var 10 (c.toCtx.blk s1 H1 _ C1 cl1 fp1)) da_nil)))) de_non))) (fun s1 H1 C1 cl1 fp1 => (de_var 10 (c.toCtx.blk s1 H1 _ C1 cl1 fp1))))
    (dss_cons (ds_set 9 c (de_lst (da_cons (de_call c.toCtx h_can_do (by decide) rfl (da_cons (de_var 2 c.toCtx) (da_cons (de_var 5 c.toCtx) da_nil))) (da_cons (de_callK0 c.toCtx h_can_do_crowd_book (by decide) rfl (dk_cons (de_var 5 c.toCtx) (dk_cons (de_var 2 c.toCtx) dk_nil))) da_nil))))
    (dss_cons (ds_if (dw_t (dw_or (dt_cmp (od_ne c.toCtx) (de_bu (bu_repr c.toCtx) rfl c.toCtx T.n_repr PyProof.Rows.Boot.«repr» (da_cons (de_var 9 c.toCtx) da_nil)) (de_bu (bu_repr c.toCtx) rfl c.toCtx T.n_repr PyProof.Rows.Boot.«repr» (da_cons (de_lst (da_cons (de_var 8 c.toCtx) (da_cons (de_var 8 c.toCtx) da_nil))) da_nil))) (dw_or1 (dt_cmp (od_ne c.toCtx) (de_var 5 c.toCtx) (de_var 7 c.toCtx))))) (dss_one (ds_ret de_bl)) dss_nil)
    (dss_cons (ds_expr (de_append (de_ix (de_var 9 c.toCtx) de_int) (da_cons de_str da_nil)))
    (dss_cons (ds_if (dt_cmp (od_ne c.toCtx) (de_bu (bu_repr c.toCtx) rfl c.toCtx T.n_repr PyProof.Rows.Boot.«repr» (da_cons (de_call c.toCtx h_can_do (by decide) rfl (da_cons (de_var 2 c.toCtx) (da_cons (de_var 5 c.toCtx) da_nil))) da_nil)) (de_bu (bu_repr c.toCtx) rfl c.toCtx T.n_repr PyProof.Rows.Boot.«repr» (da_cons (de_var 8 c.toCtx) da_nil))) (dss_one (ds_ret de_bl)) dss_nil)
    (dss_cons (ds_for c (di_seq (de_var 8 c.toCtx)) (dg_name 10 c) (dss_cons (ds_set 11 c (de_call c.toCtx h__law_turned_to (by decide) rfl (da_cons (de_var 1 c.toCtx) (da_cons (de_var 5 c.toCtx) (da_cons (de_var 10 c.toCtx) da_nil)))))
    (dss_cons (ds_set 9 c (de_lst (da_cons (de_call c.toCtx h_done (by decide) rfl (da_cons (de_var 2 c.toCtx) (da_cons (de_var 5 c.toCtx) (da_cons (de_var 10 c.toCtx) da_nil)))) (da_cons (de_callK0 c.toCtx h_done_rule_crowd_book (by decide) rfl (dk_cons (de_var 10 c.toCtx) (dk_cons (de_var 5 c.toCtx) (dk_cons (de_var 2 c.toCtx) dk_nil)))) da_nil))))
    (dss_cons (ds_if (dw_t (dw_or (dt_cmp (od_ne c.toCtx) (de_bu (bu_repr c.toCtx) rfl c.toCtx T.n_repr PyProof.Rows.Boot.«repr» (da_cons (de_var 9 c.toCtx) da_nil)) (de_bu (bu_repr c.toCtx) rfl c.toCtx T.n_repr PyProof.Rows.Boot.«repr» (da_cons (de_lst (da_cons (de_var 11 c.toCtx) (da_cons (de_var 11 c.toCtx) da_nil))) da_nil))) (dw_or1 (dt_cmp (od_ne c.toCtx) (de_var 5 c.toCtx) (de_var 7 c.toCtx))))) (dss_one (ds_ret de_bl)) dss_nil)
    (dss_cons (ds_expr (de_append (de_ix (de_var 9 c.toCtx) de_int) (da_cons de_int da_nil)))
    (dss_one (ds_if (dt_cmp (od_ne c.toCtx) (de_bu (bu_repr c.toCtx) rfl c.toCtx T.n_repr PyProof.Rows.Boot.«repr» (da_cons (de_call c.toCtx h_done (by decide) rfl (da_cons (de_var 2 c.toCtx) (da_cons (de_var 5 c.toCtx) (da_cons (de_var 10 c.toCtx) da_nil)))) da_nil)) (de_bu (bu_repr c.toCtx) rfl c.toCtx T.n_repr PyProof.Rows.Boot.«repr» (da_cons (de_var 11 c.toCtx) da_nil))) (dss_one (ds_ret de_bl)) dss_nil)))))))
    (dss_one (ds_if (dw_t (dw_and (dt_cmp od_lt (de_bu (bu_sum c.toCtx) rfl c.toCtx T.n_sum PyProof.Rows.Boot.«sum» (da_cons (de_var 5 c.toCtx) da_nil)) de_int) (dw_and1 (dt_not (dt_val (de_call c.toCtx h__law_grown_right (by decide) rfl (da_cons (de_var 0 c.toCtx) (da_cons (de_var 2 c.toCtx) (da_cons (de_var 1 c.toCtx) (da_cons (de_var 5 c.toCtx) da_nil)))))))))) (dss_one (ds_ret de_bl)) dss_nil))))))))))))
    (dss_one (ds_ret (de_cmp (od_own c.toCtx h_Book_eq (by decide)) (de_var 2 c.toCtx) (de_call c.toCtx h__law_code (by decide) rfl (da_cons (de_var 1 c.toCtx) da_nil)))))))))
theorem sc_law : FnScope ["script", "place", "mill"] ["script"] (defScope s_law) := ⟨rfl, rfl, rfl, by decide +kernel, rfl, by decide +kernel, by decide +kernel⟩
theorem ok_law {m__law_mill : Fn} {m__law_right : Fn} (T : Txt K mg γ) (h__law_mill : Cal γ P w K mg base "_law_mill" 1 2 m__law_mill) (h__law_right : Cal γ P w K mg base "_law_right" 7 1 m__law_right) {f : Addr} {fd : FuncData} (F : Fun K "law" "law" s_law f fd) : FnG P w K mg base 8 f fd ["script"] (spD ⟨K, γ⟩ 1 (runD 3 (b_law m__law_mill m__law_right))) :=
  def_ok F sc_law (k := 7) (by
    rintro X W rfl rfl rfl rfl rfl c
    exact (dss_cons (ds_for c (di_range1 c.toCtx T.n_range (da_cons (de_bu (bu_min c.toCtx) rfl c.toCtx T.n_min PyProof.Rows.Boot.«min» (da_cons de_int (da_cons (de_bu (bu_max c.toCtx) rfl c.toCtx T.n_max PyProof.Rows.Boot.«max» (da_cons de_int (da_cons (de_bu bu_len rfl c.toCtx T.n_len PyProof.Rows.Boot.«len» (da_cons (de_var 0 c.toCtx) da_nil)) da_nil))) da_nil))) da_nil)) (dg_name 1 c) (dss_cons (ds_set 2 c (de_call c.toCtx h__law_mill (by decide) rfl (da_cons (de_var 0 c.toCtx) (da_cons (de_var 1 c.toCtx) da_nil))))
    (dss_one (ds_if (dt_not (dt_val (de_call c.toCtx h__law_right (by decide) rfl (da_cons (de_var 2 c.toCtx) da_nil)))) (dss_one (ds_ret de_bl)) dss_nil))))
    (dss_one (ds_ret de_bl))))
end
end DL
namespace DL
open PySem PySem.Spec PyProof.Rows L2
/-! ### is_name -/
def LET : Str := "abcdefghijklmnopqrstuvwxyz"
def nameOk (x : Str) : Bool := decide (1 ≤ x.length ∧ x.length ≤ 8) && x.cps.toList.all fun c => decide (c ∈ LET.cps.toList)
noncomputable def m_is_name : Fn := fun ds S => match ds with
  | [.str x] => if nameOk x = true then .ok (.bl true) S else .bad
  | _ => .bad
theorem bAll_lst (bs : List Bool) (S : Sto) : bAll [.lst (bs.map .bl)] S = .ok (.bl (bs.all id)) S := by
  unfold bAll
  simp only [asR, asL, Option.bind_some, blsD_map]
theorem bAny_lst (bs : List Bool) (S : Sto) : bAny [.lst (bs.map .bl)] S = .ok (.bl (bs.any id)) S := by
  unfold bAny
  simp only [asR, asL, Option.bind_some, blsD_map]
theorem small8 {n : Nat} (h : n ≤ 8) : n ≤ sizeLine := by rw [sizeLine_eq]; omega
theorem raw_is_name (x : Str) (S : Sto) (h : nameOk x = true) : runD 2 b_is_name [.str x] S = .ok (.bl true) S := by
  unfold nameOk at h
  simp only [Bool.and_eq_true, decide_eq_true_eq] at h
  obtain ⟨⟨h1, h2⟩, h3⟩ := h
  have hs : x.length ≤ sizeLine := small8 h2
  have hz : (strD x).length ≤ sizeLine := by
    unfold strD
    rw [List.length_map]
    exact hs
  have lc : eLc (iSeq (eV 0)) (gN 1) ttYes (e2 oIn (eV 1) (eC (.str "abcdefghijklmnopqrstuvwxyz"))) [1] [some (.str x), none] S = .ok (.lst ((strD x).filterMap fun d => some (.bl (match d with | .str ⟨⟨[c]⟩⟩ => decide (c ∈ LET.cps.toList) | _ => false)))) S := by
    refine eLc_pure _ (chk := always) (by simp [iSeq, eV, itD]) (always_ _) hz fun d hd => ?_
    unfold strD at hd
    obtain ⟨c, hc, rfl⟩ := List.mem_map.mp hd
    refine turn_map ?_
    simp [wipeE, e2, eV, eC, inD, LET]
  have hl : (strD x).filterMap (fun d => some (Dv.bl (match d with | .str ⟨⟨[c]⟩⟩ => decide (c ∈ LET.cps.toList) | _ => false))) = (x.cps.toList.map fun c => decide (c ∈ LET.cps.toList)).map .bl := by
    unfold strD
    rw [List.filterMap_map, List.map_map, ← List.filterMap_eq_map]
    rfl
  have hall : (x.cps.toList.map fun c => decide (c ∈ LET.cps.toList)).all id = true := by
    rw [List.all_map]
    exact h3
  rw [hl] at lc
  generalize (x.cps.toList.map fun c => decide (c ∈ LET.cps.toList)) = bs at lc hall
  unfold runD b_is_name sRet eAnd eCh eN
  have g1 : (1 : Int) ≤ (x.length : Int) := by omega
  have g2 : (x.length : Int) ≤ 8 := by omega
  simp [startD, eC, aCons, eV, aNil, bLen, hs, g1, g2, lc, bAll_lst, SRe.toR, hall]
theorem le_is_name (ds : List Dv) (S : Sto) (_ : ds.length = 1) (_ : Closed S) (_ : lowL S.length ds = true) : Le S.length (runD 2 b_is_name ds S) (m_is_name ds S) := by
  unfold m_is_name
  split
  · split
    · exact .of_eq (raw_is_name _ S (by assumption))
    · exact .bad
  · exact .bad

/-! ### check_kinds -/
noncomputable def m_check_kinds : Fn := fun ds S => match ds with
  | [.lst l] => match unSs l with
    | some ks => if (ks.all nameOk && decide ks.Nodup && decide (ks.length ≤ 8)) = true then .ok .non S else .bad
    | none => .bad
  | _ => .bad
theorem strOk_name {x : Str} (h : nameOk x = true) : PyData.strOk x = true := by
  unfold nameOk at h
  rw [Bool.and_eq_true] at h
  have h2 := h.2
  rw [List.all_eq_true] at h2
  unfold PyData.strOk
  rw [← Array.all_toList, List.all_eq_true]
  intro c hc
  have := of_decide_eq_true (h2 c hc)
  have all : ∀ c ∈ LET.cps.toList, c < 0x110000 := by decide +kernel
  exact decide_eq_true (all c this)
theorem shapedS {x : Str} (h : PyData.strOk x = true) : SeqAt.shaped (.str x) = true := by
  unfold SeqAt.shaped
  rw [PyData.canLay0, h, PyData.depth]
  rfl
theorem shapedKs {ks : List Str} (h : ∀ x ∈ ks, PyData.strOk x = true) : SeqAt.shaped (.list (ks.map .str)) = true ∧ SeqAt.shaped (.tuple (ks.map .str)) = true :=
  shaped_list fun x hx => ⟨by rw [PyData.canLay0]; exact h x hx, by rw [PyData.depth]; omega⟩
theorem any_str (ks : List Str) (x : Str) : ((ks.map PyData.str).any fun z => PyData.eqv z (.str x)) = decide (x ∈ ks) := by
  rw [Bool.eq_iff_iff]
  simp only [List.any_eq_true, List.mem_map, decide_eq_true_eq]
  constructor
  · rintro ⟨_, ⟨y, hy, rfl⟩, e⟩
    rw [eqv_str, beq_iff_eq] at e
    exact e ▸ hy
  · intro h
    exact ⟨_, ⟨x, h, rfl⟩, by rw [eqv_str, beq_self_eq_true]⟩
/-- a name among names -/
theorem in_names {neg : Bool} {S : Sto} {x : Str} {d : Dv} {ks : List Str} (hd : toPy S d = some (.list (ks.map .str))) (hn : ∀ z, d ≠ .str z) (h : ∀ x ∈ ks, PyData.strOk x = true) (hx : PyData.strOk x = true) :
    inD neg (.str x) d S = .ok (.bl (xor neg (decide (x ∈ ks)))) S := by
  have e : inD neg (.str x) d S = (match toPy S (.str x), toPy S d with
    | some p, some (.list q) => if (SeqAt.shaped p && SeqAt.shaped (.list q)) = true then .ok (.bl (xor neg (q.any fun z => PyData.eqv z p))) S else .bad
    | some p, some (.tuple q) => if (SeqAt.shaped p && SeqAt.shaped (.tuple q)) = true then .ok (.bl (xor neg (q.any fun z => PyData.eqv z p))) S else .bad
    | _, _ => .bad) := by
    unfold inD
    cases d <;> first | rfl | exact absurd rfl (hn _)
  rw [e, toPy_str, hd]
  dsimp only
  rw [shapedS hx, (shapedKs h).1, any_str]
  rfl
theorem raw_check_kinds (ks : List Str) (S : Sto) (h1 : ∀ x ∈ ks, nameOk x = true) (h2 : ks.Nodup) (hl : ks.length < sizeLine) : ∃ T, runD 3 (b_check_kinds m_is_name) [.lst (ks.map .str)] S = .ok .non (S ++ T) := by
  have sok : ∀ x ∈ ks, PyData.strOk x = true := fun x hx => strOk_name (h1 x hx)
  obtain ⟨ρ', S', e, ⟨x', rfl⟩, rfl⟩ := sFor_inv (f := iSeq (eV 0)) (g := gN 2) (b := (sSeq (sIf (tNotD (tV (eCall 1 m_is_name (aCons (eV 2) aNil)))) (sRaise 8 (eV 2)) sNil)
    (sSeq (sIf (tV (e2 oIn (eV 2) (eV 1))) (sRaise 3 (eV 2)) sNil)
    (sExpr (eM isL mApp (eV 1) (aCons (eV 2) aNil)))))) (l := ks.map .str) (chk := always) (S := S ++ [.lst []]) (S0 := S ++ [.lst []]) (ρ := [some (.lst (ks.map .str)), some (.cell S.length), none])
    (fun i ρ S' => (∃ x, ρ = [some (.lst (ks.map .str)), some (.cell S.length), x]) ∧ S' = S ++ [.lst ((ks.take i).map .str)])
    (by simp [iSeq, eV, itD]) (always_ _) ⟨⟨none, rfl⟩, by simp⟩ (by
      rintro i d ρ S' hd ⟨⟨x, rfl⟩, rfl⟩
      rw [List.getElem?_map, Option.map_eq_some_iff] at hd
      obtain ⟨y, hy, rfl⟩ := hd
      have hm : y ∈ ks := List.mem_of_getElem? hy
      have hlt : i < ks.length := (List.getElem?_eq_some_iff.mp hy).1
      have hin : decide (y ∈ ks.take i) = false := by
        refine decide_eq_false fun hq => ?_
        obtain ⟨j, hj, hj2⟩ := List.mem_iff_getElem.mp hq
        rw [List.length_take] at hj
        rw [List.getElem_take] at hj2
        have e1 := (List.getElem?_eq_some_iff.mp hy).2
        have := (List.getElem_inj h2).mp (hj2.trans e1.symm)
        omega
      have hin2 := in_names (neg := false) (S := S ++ [.lst ((ks.take i).map .str)]) (x := y) (d := .cell S.length) (ks := ks.take i) (toPy_cell (by simp) (pyPs_map pyP_str _)) (fun z e => by cases e) (fun x hx => sok x (List.mem_of_mem_take hx)) (sok y hm)
      rw [hin] at hin2
      have hsz : (ks.take i).length < sizeLine := by rw [List.length_take]; omega
      refine ⟨[some (.lst (ks.map .str)), some (.cell S.length), some (.str y)], S ++ [.lst ((ks.take (i + 1)).map .str)], ?_, always_ _, ⟨_, rfl⟩, rfl⟩
      have htk : (ks.take (i + 1)).map Dv.str = (ks.take i).map Dv.str ++ [Dv.str y] := by
        rw [List.take_add_one, hy]
        simp
      have hok := h1 y hm
      rw [htk]
      generalize ks.take i = pre at hin2 hsz ⊢
      simp [gN, sSeq, sIf, tNotD, tV, eCall, aCons, aNil, eV, m_is_name, hok, sNil, e2, hin2, sExpr, eM, isL, asR, asL, mApp, hsz])
  refine ⟨[.lst ((ks.take (ks.map Dv.str).length).map .str)], ?_⟩
  unfold runD b_check_kinds
  simp only [startD, List.map, List.length_cons, List.length_nil, List.replicate, sSeq, sSet, eN, aNil, mkC, Re.bind_ok, List.length_nil, Nat.zero_le, if_true, Re.toS_ok]
  have : ∀ (ρ : En) (S2 : Sto) (r : SRe), sFor (iSeq (eV 0)) (gN 2) (sSeq (sIf (tNotD (tV (eCall 1 m_is_name (aCons (eV 2) aNil)))) (sRaise 8 (eV 2)) sNil)
    (sSeq (sIf (tV (e2 oIn (eV 2) (eV 1))) (sRaise 3 (eV 2)) sNil)
    (sExpr (eM isL mApp (eV 1) (aCons (eV 2) aNil))))) ρ S2 = r → True := fun _ _ _ _ => trivial
  simp [sSeq] at e ⊢
  rw [e]
  rfl
end DL
namespace DL
open PySem PySem.Spec PyProof.Rows L2
theorem Le.garb {d : Dv} {S T : Sto} {r : Re Dv} (h : r = .ok d (S ++ T)) (c : Closed S) (hd : lowD S.length d = true) : Le S.length r (.ok d S) := by
  rw [h]
  exact Le.drop (Nat.le_refl _) c hd
theorem low_map {α : Type} {k : Nat} {f : α → Dv} (h : ∀ a, lowD k (f a) = true) : ∀ l : List α, lowL k (l.map f) = true
  | [] => by simp [lowL]
  | a :: r => by simp [lowL, h a, low_map h r]
theorem low_str (k : Nat) (x : Str) : lowD k (.str x) = true := by rw [lowD]
theorem low_dR (k : Nat) (r : R3) : lowD k (dR r) = true := by simp [dR, lowD, lowL]
theorem le_check_kinds (ds : List Dv) (S : Sto) (h0 : ds.length = 1) (cl : Closed S) (h9 : lowL S.length ds = true) : Le S.length (runD 3 (b_check_kinds m_is_name) ds S) (m_check_kinds ds S) := by
  unfold m_check_kinds
  split
  · rename_i l
    cases hu : unSs l with
    | none => exact .bad
    | some ks =>
      dsimp only
      split
      · rename_i h
        rw [unSs_of hu]
        simp only [Bool.and_eq_true, List.all_eq_true, decide_eq_true_eq] at h
        obtain ⟨⟨h1, h2⟩, h3⟩ := h
        obtain ⟨T, e⟩ := raw_check_kinds ks S h1 h2 (Nat.lt_of_le_of_lt h3 (by rw [sizeLine_eq]; omega))
        exact Le.garb e cl (by rw [lowD])
      · exact .bad
  · exact .bad

/-! ### check_rule -/
def ruleIn (ks : List Str) (r : R3) : Bool := decide (r.1 ∈ ks) && (decide (r.2.1 ∈ ks) && (decide (r.2.2 ∈ ks) && decide (r.2.2 ≠ r.1)))
noncomputable def m_check_rule : Fn := fun ds S => match ds with
  | [.lst l, d] => match unSs l, unR d with
    | some ks, some r => if (ks.all nameOk && ruleIn ks r) = true then .ok .non S else .bad
    | _, _ => .bad
  | _ => .bad
theorem raw_check_rule (ks : List Str) (r : R3) (S : Sto) (h1 : ∀ x ∈ ks, nameOk x = true) (h2 : ruleIn ks r = true) : runD 3 b_check_rule [.lst (ks.map .str), dR r] S = .ok .non S := by
  obtain ⟨a, b, c⟩ := r
  unfold ruleIn at h2
  simp only [Bool.and_eq_true, decide_eq_true_eq] at h2
  obtain ⟨ha, hb, hc, hne⟩ := h2
  have sok : ∀ x ∈ ks, PyData.strOk x = true := fun x hx => strOk_name (h1 x hx)
  have lc : eLc (iSeq (eV 1)) (gN 2) ttYes (e2 oNotIn (eV 2) (eV 0)) [2] [some (.lst (ks.map .str)), some (dR (a, b, c)), none] S = .ok (.lst (([Dv.str a, .str b, .str c]).filterMap fun _ => some (.bl false))) S := by
    refine eLc_pure _ (chk := always) (by simp [iSeq, eV, dR, itD]) (always_ _) (by rw [sizeLine_eq]; simp) fun d hd => ?_
    have : ∃ x, d = .str x ∧ x ∈ ks := by
      simp only [List.mem_cons, List.not_mem_nil, or_false] at hd
      rcases hd with rfl | rfl | rfl
      · exact ⟨_, rfl, ha⟩
      · exact ⟨_, rfl, hb⟩
      · exact ⟨_, rfl, hc⟩
    obtain ⟨x, rfl, hx⟩ := this
    refine turn_map ?_
    have q := in_names (neg := true) (S := S) (x := x) (d := .lst (ks.map .str)) (ks := ks) (toPy_lst (toPys_map (toPy_str S) _)) (fun z e => by cases e) sok (sok x hx)
    rw [decide_eq_true hx] at q
    simp only [wipeE, List.set, e2, eV, List.getElem?_cons_succ, List.getElem?_cons_zero, Re.bind_ok]
    exact q
  have hb3 : (([Dv.str a, .str b, .str c]).filterMap fun _ => some (Dv.bl false)) = ([false, false, false] : List Bool).map .bl := rfl
  rw [hb3] at lc
  have hcb : (c == a) = false := by simpa using hne
  unfold runD b_check_rule
  simp only [startD, List.map, List.length_cons, List.length_nil, sIf, tOrD, tV, eN, aCons, aNil]
  show (SRe.toR _) = _
  have e0 : ([some (Dv.lst (ks.map .str)), some (dR (a, b, c))] ++ List.replicate (3 - (0 + 1 + 1)) none : En) = [some (.lst (ks.map .str)), some (dR (a, b, c)), none] := rfl
  rw [e0, lc]
  simp only [Re.bind_ok, bAny_lst, List.any_cons, List.any_nil, id, Bool.or_false, if_false, Bool.false_eq_true]
  simp [e2, eV, eC, dR, oIx, asQ, atI, ixN, oEqF, hcb, sNil, SRe.toR]
theorem le_check_rule (ds : List Dv) (S : Sto) (h0 : ds.length = 2) (cl : Closed S) (h9 : lowL S.length ds = true) : Le S.length (runD 3 b_check_rule ds S) (m_check_rule ds S) := by
  unfold m_check_rule
  split
  · rename_i l d
    cases hu : unSs l with
    | none => exact .bad
    | some ks =>
      cases hr : unR d with
      | none => exact .bad
      | some r =>
        dsimp only
        split
        · rename_i h
          rw [unSs_of hu, unR_of hr]
          simp only [Bool.and_eq_true, List.all_eq_true] at h
          exact .of_eq (raw_check_rule ks r S h.1 h.2)
        · exact .bad
  · exact .bad
end DL
namespace DL
open PySem PySem.Spec PyProof.Rows L2
/-! ### where a name stands -/
def ix (ks : List Str) (x : Str) : Nat := (firstAt (.str x) (ks.map .str)).getD 0
theorem firstAt_str : ∀ (ks : List Str) (x : Str), x ∈ ks → ∃ j, firstAt (.str x) (ks.map PyData.str) = some j ∧ ks[j]? = some x
  | y :: r, x, h => by
    rw [List.map_cons, firstAt]
    by_cases e : y = x
    · refine ⟨0, ?_, by rw [e]; rfl⟩
      rw [if_pos (by rw [eqv_str, e, beq_self_eq_true])]
    · obtain ⟨j, h1, h2⟩ := firstAt_str r x ((List.mem_cons.mp h).resolve_left fun z => e z.symm)
      refine ⟨j + 1, ?_, by simpa using h2⟩
      rw [if_neg (by rw [eqv_str]; simpa using e), h1]
      rfl
theorem ix_get {ks : List Str} {x : Str} (h : x ∈ ks) : firstAt (.str x) (ks.map .str) = some (ix ks x) ∧ ks[ix ks x]? = some x := by
  obtain ⟨j, h1, h2⟩ := firstAt_str ks x h
  unfold ix
  rw [h1]
  exact ⟨rfl, h2⟩
theorem ix_lt {ks : List Str} {x : Str} (h : x ∈ ks) : ix ks x < ks.length := (List.getElem?_eq_some_iff.mp (ix_get h).2).1
theorem index_name {S : Sto} {x : Str} {d : Dv} {ks : List Str} (hd : toPy S d = some (.list (ks.map .str))) (h : ∀ x ∈ ks, PyData.strOk x = true) (hx : x ∈ ks) : mIndex d [.str x] S = .ok (.int (ix ks x)) S := by
  unfold mIndex
  dsimp only
  rw [toPy_str, hd]
  dsimp only
  rw [shapedS (h x hx), (shapedKs h).1, (ix_get hx).1]
  rfl
/-! ### the rules in their order -/
def pI (ks : List Str) (r : R3) : PyData := .tuple [.int (ix ks r.1), .int (ix ks r.2.1), .int (ix ks r.2.2)]
def dI (ks : List Str) (r : R3) : Dv := .tup [.int (ix ks r.1), .int (ix ks r.2.1), .int (ix ks r.2.2)]
noncomputable def rank (ks : List Str) (rs : List R3) : List R3 := rs.mergeSort (PySem.W.dataLe false (pI ks))
theorem rank_perm (ks : List Str) (rs : List R3) : (rank ks rs).Perm rs := List.mergeSort_perm _ _
theorem zip_maps {α β γ : Type} (f : α → β) (g : α → γ) : ∀ l : List α, (l.map f).zip (l.map g) = l.map fun a => (f a, g a)
  | [] => rfl
  | a :: r => by simp [zip_maps f g r]
theorem sortD_rank (ks : List Str) (rs : List R3) : sortD (rs.map (dI ks)) (rs.map (pI ks)) = (rank ks rs).map (dI ks) := by
  unfold sortD rank
  rw [zip_maps, ← List.map_mergeSort (r := PySem.W.dataLe false (pI ks)) (f := fun r => (dI ks r, pI ks r)) (s := PySem.W.dataLe false fun b : Dv × PyData => b.2) (fun a _ b _ => rfl), List.map_map]
  rfl
theorem toPy_dI (S : Sto) (ks : List Str) (r : R3) : toPy S (dI ks r) = some (pI ks r) := by
  unfold dI pI
  exact toPy_tup (by simp [toPys, toPy_int])
theorem sortOk_pI (ks : List Str) (rs : List R3) (h : rs.length ≤ sizeLine) : sortOk (rs.map (pI ks)) = true := by
  unfold sortOk
  simp only [Bool.and_eq_true, Bool.or_eq_true, List.all_eq_true, List.mem_map, decide_eq_true_eq, List.length_map]
  refine ⟨?_, .inl ?_, ?_, h⟩
  · rintro _ ⟨a, _, rfl⟩ _ ⟨b, _, rfl⟩
    simp [pI, PySem.W.alike, PySem.W.alikeAll]
  · rintro _ ⟨a, _, rfl⟩
    rfl
  · rintro _ ⟨a, _, rfl⟩
    simp [pI, PyData.depth, PyData.depthAll]
theorem bSorted_rank {S : Sto} {ks : List Str} {rs : List R3} (h : rs.length ≤ sizeLine) : bSorted [.lst (rs.map (dI ks))] S = .ok (.lst ((rank ks rs).map (dI ks))) S := by
  unfold bSorted
  dsimp only
  rw [show asR S (.lst (rs.map (dI ks))) = some (rs.map (dI ks)) from rfl]
  dsimp only
  rw [toPys_map (toPy_dI S ks) rs]
  dsimp only
  rw [if_pos (sortOk_pI ks rs h), sortD_rank]
theorem fm_map {α β : Type} (f : α → β) (l : List α) : (l.filterMap fun a => some (f a)) = l.map f := by
  rw [← List.filterMap_eq_map]; rfl
/-- [kinds.index(name) for name in rule] -/
theorem lc_index {S : Sto} {ks : List Str} {r : R3} {i j m : Nat} {ρ : En} {o : Ex} {d : Dv} (h : ∀ x ∈ ks, PyData.strOk x = true) (hr : ruleIn ks r = true) (h1 : ρ[i]? = some (some (dR r))) (ho : ∀ x, o ((wipeE ρ [m]).set m (some (.str x))) S = .ok d S) (hL : isL d S = true) (hd : toPy S d = some (.list (ks.map .str))) (hm : m < ρ.length) :
    eLc (iSeq (eV i)) (gN m) ttYes (eM isL mIndex o (aCons (eV m) aNil)) [m] ρ S = .ok (.lst [.int (ix ks r.1), .int (ix ks r.2.1), .int (ix ks r.2.2)]) S := by
  obtain ⟨a, b, c⟩ := r
  unfold ruleIn at hr
  simp only [Bool.and_eq_true, decide_eq_true_eq] at hr
  obtain ⟨ha, hb, hc, hne⟩ := hr
  have turn : ∀ x, x ∈ ks → turnD (gN m) ttYes (eM isL mIndex o (aCons (eV m) aNil)) (wipeE ρ [m]) (.str x) S = .ok (some (.int (ix ks x))) S := fun x hx => by
    refine turn_map ?_
    have e : ((wipeE ρ [m]).set m (some (Dv.str x)))[m]? = some (some (.str x)) := by
      rw [List.getElem?_set_self]
      simpa [wipeE] using hm
    unfold eM
    rw [ho x, Re.bind_ok, if_pos hL]
    unfold aCons aNil eV
    rw [e]
    simp only [Re.bind_ok]
    exact index_name hd h hx
  have q := eLc_pure (f := iSeq (eV i)) (g := gN m) (t := ttYes) (e := eM isL mIndex o (aCons (eV m) aNil)) (vs := [m]) (ρ := ρ) (S := S) (l := [.str a, .str b, .str c]) (chk := always) (fun d => match d with | .str x => some (.int (ix ks x)) | _ => none)
    (by unfold iSeq eV; rw [h1]; rfl) (always_ _) (by rw [sizeLine_eq]; simp) (fun d hd => by
      simp only [List.mem_cons, List.not_mem_nil, or_false] at hd
      rcases hd with rfl | rfl | rfl
      · exact turn _ ha
      · exact turn _ hb
      · exact turn _ hc)
  rw [q]
  rfl
/-- [kinds[place] for place in places] -/
theorem lc_names {S : Sto} {ks : List Str} {r : R3} {i m : Nat} {ρ : En} {o : Ex} {d e : Dv} {l : List Dv} (hr : ruleIn ks r = true) (h1 : ρ[i]? = some (some e)) (he : itD e S = .ok ([.int (ix ks r.1), .int (ix ks r.2.1), .int (ix ks r.2.2)], always) S) (ho : ∀ x, o ((wipeE ρ [m]).set m (some (.int x))) S = .ok d S) (hd : asQ S d = some (ks.map .str)) (hs : ∀ z, d ≠ .str z) (hm : m < ρ.length) :
    eLc (iSeq (eV i)) (gN m) ttYes (e2 oIx o (eV m)) [m] ρ S = .ok (.lst [.str r.1, .str r.2.1, .str r.2.2]) S := by
  obtain ⟨a, b, c⟩ := r
  unfold ruleIn at hr
  simp only [Bool.and_eq_true, decide_eq_true_eq] at hr
  obtain ⟨ha, hb, hc, hne⟩ := hr
  have turn : ∀ x, x ∈ ks → turnD (gN m) ttYes (e2 oIx o (eV m)) (wipeE ρ [m]) (.int (ix ks x)) S = .ok (some (.str x)) S := fun x hx => by
    refine turn_map ?_
    have e : ((wipeE ρ [m]).set m (some (Dv.int (ix ks x))))[m]? = some (some (.int (ix ks x))) := by
      rw [List.getElem?_set_self]
      simpa [wipeE] using hm
    unfold e2
    rw [ho, Re.bind_ok]
    unfold eV
    rw [e]
    simp only [Re.bind_ok]
    have q : oIx d (.int (ix ks x)) S = (match asQ S d with
      | some l => match atI l (ix ks x) with
        | some x => .ok x S
        | none => .bad
      | none => .bad) := by
      unfold oIx
      cases d <;> first | rfl | exact absurd rfl (hs _)
    rw [q, hd]
    dsimp only
    have z : atI (ks.map Dv.str) ((ix ks x : Nat) : Int) = some (.str x) := by
      unfold atI ixN
      rw [if_pos (by omega), if_pos (by rw [List.length_map]; exact_mod_cast ix_lt hx)]
      simp [(ix_get hx).2]
    rw [z]
  have q := eLc_pure (f := iSeq (eV i)) (g := gN m) (t := ttYes) (e := e2 oIx o (eV m)) (vs := [m]) (ρ := ρ) (S := S) (l := [.int (ix ks a), .int (ix ks b), .int (ix ks c)]) (chk := always) (fun d => match d with | .int i => (ks[i.toNat]?).map .str | _ => none)
    (by unfold iSeq eV; rw [h1]; exact he) (always_ _) (by rw [sizeLine_eq]; simp) (fun d hd => by
      simp only [List.mem_cons, List.not_mem_nil, or_false] at hd
      rcases hd with rfl | rfl | rfl
      · rw [turn _ ha]; simp [(ix_get ha).2]
      · rw [turn _ hb]; simp [(ix_get hb).2]
      · rw [turn _ hc]; simp [(ix_get hc).2])
  rw [q]
  simp [(ix_get ha).2, (ix_get hb).2, (ix_get hc).2]
end DL
namespace DL
open PySem PySem.Spec PyProof.Rows L2
def okR (r : R3) : Prop := PyData.strOk r.1 = true ∧ PyData.strOk r.2.1 = true ∧ PyData.strOk r.2.2 = true
theorem pR_ok {r : R3} (h : okR r) : (pR r).canLay0 = true ∧ (pR r).depth ≤ 8 := by
  obtain ⟨a, b, c⟩ := r
  obtain ⟨h1, h2, h3⟩ := h
  unfold pR
  refine ⟨?_, by simp [PyData.depth, PyData.depthAll]⟩
  simp only [PyData.canLay0, PyData.canLayAll0]
  rw [h1, h2, h3]
  rfl
theorem shapedR {r : R3} (h : okR r) : SeqAt.shaped (pR r) = true := by
  obtain ⟨h1, h2⟩ := pR_ok h
  unfold SeqAt.shaped
  rw [h1, Bool.true_and, decide_eq_true_eq]
  omega
theorem shapedRs {rs : List R3} (h : ∀ r ∈ rs, okR r) : SeqAt.shaped (.list (rs.map pR)) = true ∧ SeqAt.shaped (.tuple (rs.map pR)) = true := shaped_list fun r hr => pR_ok (h r hr)
theorem any_rule (rs : List R3) (x : R3) : ((rs.map pR).any fun z => PyData.eqv z (pR x)) = decide (x ∈ rs) := by
  rw [Bool.eq_iff_iff]
  simp only [List.any_eq_true, List.mem_map, decide_eq_true_eq]
  constructor
  · rintro ⟨_, ⟨y, hy, rfl⟩, e⟩
    rw [eqv_pR, decide_eq_true_eq] at e
    exact e ▸ hy
  · intro h
    exact ⟨_, ⟨x, h, rfl⟩, by rw [eqv_pR]; exact decide_eq_true rfl⟩
theorem in_rules {neg : Bool} {S : Sto} {x : R3} {d : Dv} {rs : List R3} (hd : toPy S d = some (.list (rs.map pR)) ∨ toPy S d = some (.tuple (rs.map pR))) (h : ∀ x ∈ rs, okR x) (hx : okR x) : inD neg (dR x) d S = .ok (.bl (xor neg (decide (x ∈ rs)))) S := by
  have e : inD neg (dR x) d S = (match toPy S (dR x), toPy S d with
    | some p, some (.list q) => if (SeqAt.shaped p && SeqAt.shaped (.list q)) = true then .ok (.bl (xor neg (q.any fun z => PyData.eqv z p))) S else .bad
    | some p, some (.tuple q) => if (SeqAt.shaped p && SeqAt.shaped (.tuple q)) = true then .ok (.bl (xor neg (q.any fun z => PyData.eqv z p))) S else .bad
    | _, _ => .bad) := rfl
  rw [e, toPy_dR]
  rcases hd with hd | hd <;> rw [hd] <;> dsimp only
  · rw [shapedR hx, (shapedRs h).1, any_rule]; rfl
  · rw [shapedR hx, (shapedRs h).2, any_rule]; rfl
def bookF (ks : List Str) (rs : List R3) : List (Str × Dv) := [("kept_kinds", .ktup (ks.map .str)), ("kept_rules", .tup (rs.map dR))]
def bookD (ks : List Str) (rs : List R3) : Dv := .ins 0 (bookF ks rs)
/-- a book that may be constructed -/
structure Book (ks : List Str) (rs : List R3) : Prop where
  nm : ∀ x ∈ ks, nameOk x = true
  nd : ks.Nodup
  kl : ks.length ≤ 8
  rin : ∀ r ∈ rs, ruleIn ks r = true
  rnd : rs.Nodup
  rl : rs.length ≤ 1000
theorem Book.sok {ks : List Str} {rs : List R3} (B : Book ks rs) : ∀ x ∈ ks, PyData.strOk x = true := fun x hx => strOk_name (B.nm x hx)
theorem Book.okr {ks : List Str} {rs : List R3} (B : Book ks rs) : ∀ r ∈ rs, okR r := fun r hr => by
  have := B.rin r hr
  unfold ruleIn at this
  simp only [Bool.and_eq_true, decide_eq_true_eq] at this
  obtain ⟨h1, h2, h3, _⟩ := this
  exact ⟨B.sok _ h1, B.sok _ h2, B.sok _ h3⟩
theorem Book.rln {ks : List Str} {rs : List R3} (B : Book ks rs) : rs.length ≤ sizeLine := by have := B.rl; rw [sizeLine_eq]; omega
noncomputable def bookLoop : Sm := (sFor (iSeq (eV 2)) (gN 4) (sSeq (sExpr (eCall 2 m_check_rule (aCons (eV 1) (aCons (eV 4) aNil))))
    (sSeq (sIf (tV (e2 oIn (eV 4) (eV 3))) (sRaise 4 (eV 4)) sNil)
    (sExpr (eM isL mApp (eV 3) (aCons (eV 4) aNil))))))
theorem raw_bookLoop {ks : List Str} {rs : List R3} (B : Book ks rs) (S : Sto) (c : Dv) : ∃ x, bookLoop [some c, some (.lst (ks.map .str)), some (.lst (rs.map dR)), some (.cell S.length), none, none, none, none, none] (S ++ [.lst []]) =
    .nx [some c, some (.lst (ks.map .str)), some (.lst (rs.map dR)), some (.cell S.length), x, none, none, none, none] (S ++ [.lst (rs.map dR)]) := by
  obtain ⟨ρ', S', e, ⟨x', rfl⟩, rfl⟩ := sFor_inv (f := iSeq (eV 2)) (g := gN 4) (b := (sSeq (sExpr (eCall 2 m_check_rule (aCons (eV 1) (aCons (eV 4) aNil))))
    (sSeq (sIf (tV (e2 oIn (eV 4) (eV 3))) (sRaise 4 (eV 4)) sNil)
    (sExpr (eM isL mApp (eV 3) (aCons (eV 4) aNil)))))) (l := rs.map dR) (chk := always) (S := S ++ [.lst []]) (S0 := S ++ [.lst []]) (ρ := [some c, some (.lst (ks.map .str)), some (.lst (rs.map dR)), some (.cell S.length), none, none, none, none, none])
    (fun i ρ S' => (∃ x, ρ = [some c, some (.lst (ks.map .str)), some (.lst (rs.map dR)), some (.cell S.length), x, none, none, none, none]) ∧ S' = S ++ [.lst ((rs.take i).map dR)])
    (by simp [iSeq, eV, itD]) (always_ _) ⟨⟨none, rfl⟩, by simp⟩ (by
      rintro i d ρ S' hd ⟨⟨x, rfl⟩, rfl⟩
      rw [List.getElem?_map, Option.map_eq_some_iff] at hd
      obtain ⟨y, hy, rfl⟩ := hd
      have hm : y ∈ rs := List.mem_of_getElem? hy
      have hlt : i < rs.length := (List.getElem?_eq_some_iff.mp hy).1
      have hin : decide (y ∈ rs.take i) = false := by
        refine decide_eq_false fun hq => ?_
        obtain ⟨j, hj, hj2⟩ := List.mem_iff_getElem.mp hq
        rw [List.length_take] at hj
        rw [List.getElem_take] at hj2
        have e1 := (List.getElem?_eq_some_iff.mp hy).2
        have := (List.getElem_inj B.rnd).mp (hj2.trans e1.symm)
        omega
      have hin2 := in_rules (neg := false) (S := S ++ [.lst ((rs.take i).map dR)]) (x := y) (d := .cell S.length) (rs := rs.take i) (.inl (toPy_cell (by simp) (pyPs_map pyP_dR _))) (fun x hx => B.okr x (List.mem_of_mem_take hx)) (B.okr y hm)
      rw [hin] at hin2
      have hsz : (rs.take i).length < sizeLine := by rw [List.length_take, sizeLine_eq]; have := B.rl; omega
      refine ⟨[some c, some (.lst (ks.map .str)), some (.lst (rs.map dR)), some (.cell S.length), some (dR y), none, none, none, none], S ++ [.lst ((rs.take (i + 1)).map dR)], ?_, always_ _, ⟨_, rfl⟩, rfl⟩
      have htk : (rs.take (i + 1)).map dR = (rs.take i).map dR ++ [dR y] := by
        rw [List.take_add_one, hy]
        simp
      have hok : ∀ S, m_check_rule [.lst (ks.map .str), dR y] S = .ok .non S := fun S => by
        unfold m_check_rule
        dsimp only
        rw [unSs_map, show unR (dR y) = some y from rfl]
        dsimp only
        rw [if_pos]
        rw [B.rin y hm, Bool.and_true, List.all_eq_true]
        exact B.nm
      rw [htk]
      generalize rs.take i = pre at hin2 hsz ⊢
      generalize dR y = yy at hin2 hok ⊢
      generalize (List.map Dv.str ks) = kk at hok ⊢
      simp [gN, sSeq, sIf, tV, eCall, aCons, aNil, eV, hok, sNil, e2, hin2, sExpr, eM, isL, asR, asL, mApp, hsz])
  refine ⟨x', ?_⟩
  unfold bookLoop
  rw [e]
  simp
end DL
namespace DL
open PySem PySem.Spec PyProof.Rows L2
theorem bTuple_lst (l : List Dv) (S : Sto) : bTuple [.lst l] S = .ok (.tup l) S := rfl
theorem bTupleK_lst (l : List Dv) (S : Sto) (h : l.length ≤ 1000) : bTupleK [.lst l] S = .ok (.ktup l) S := by
  unfold bTupleK
  simp [asR, asL]
  try (rw [sizeLine_eq]; omega)
theorem kr_ne : ¬ (("kept_kinds" : Str) = "kept_rules") := by decide +kernel
theorem putF2 (a b : Dv) : putD "kept_rules" b (putD "kept_kinds" a []) = ([("kept_kinds", a), ("kept_rules", b)] : List (Str × Dv)) := by
  show putD "kept_rules" b ([("kept_kinds", a)] : List (Str × Dv)) = _
  unfold putD
  rw [if_neg kr_ne]
  rfl
theorem fm_congr {α β : Type} {f g : α → Option β} : ∀ {l : List α}, (∀ a ∈ l, f a = g a) → l.filterMap f = l.filterMap g
  | [], _ => rfl
  | a :: r, h => by rw [List.filterMap_cons, List.filterMap_cons, h a List.mem_cons_self, fm_congr fun b hb => h b (List.mem_cons_of_mem _ hb)]
theorem eN1 {g : List Dv → Sto → Re Dv} {a : Ex} {ρ : En} {S S1 : Sto} {x : Dv} (h : a ρ S = .ok x S1) : eN g (aCons a aNil) ρ S = g [x] S1 := by
  unfold eN aCons aNil
  rw [h]
  rfl
theorem raw_Book_init {ks : List Str} {rs : List R3} (B : Book ks rs) (S : Sto) (k : Nat) (hk : S[k]? = some (.ins 0 [])) : ∃ T, runD 9 (b_Book_init m_check_kinds m_check_rule) [.cell k, .lst (ks.map .str), .lst (rs.map dR)] S = .ok .non (S.set k (.ins 0 (bookF ks (rank ks rs))) ++ T) := by
  have hklt : k < S.length := (List.getElem?_eq_some_iff.mp hk).1
  obtain ⟨x, hloop⟩ := raw_bookLoop B S (.cell k)
  have hck : m_check_kinds [.lst (ks.map .str)] S = .ok .non S := by
    unfold m_check_kinds
    dsimp only
    rw [unSs_map]
    dsimp only
    rw [if_pos]
    rw [Bool.and_eq_true, Bool.and_eq_true, List.all_eq_true]
    exact ⟨⟨B.nm, decide_eq_true B.nd⟩, decide_eq_true B.kl⟩
  have rk : ∀ r ∈ rank ks rs, ruleIn ks r = true := fun r hr => B.rin r ((rank_perm ks rs).mem_iff.mp hr)
  have rkl : (rank ks rs).length = rs.length := (rank_perm ks rs).length_eq
  -- the state behind the loop
  have h1 : (S ++ [Ob.lst (rs.map dR)])[k]? = some (.ins 0 []) := by rw [List.getElem?_append_left hklt]; exact hk
  have fld1 : ∀ x, sFldD 0 "kept_kinds" (eV 0) (eN bTupleK (aCons (eV 1) aNil)) [some (.cell k), some (.lst (ks.map .str)), some (.lst (rs.map dR)), some (.cell S.length), x, none, none, none, none] (S ++ [Ob.lst (rs.map dR)]) =
      .nx [some (.cell k), some (.lst (ks.map .str)), some (.lst (rs.map dR)), some (.cell S.length), x, none, none, none, none] ((S ++ [Ob.lst (rs.map dR)]).set k (.ins 0 (putD "kept_kinds" (.ktup (ks.map .str)) []))) := fun x => by
    unfold sFldD eN aCons aNil eV
    have hkl : (ks.map Dv.str).length ≤ 1000 := by rw [List.length_map]; have := B.kl; omega
    simp only [List.getElem?_cons_succ, List.getElem?_cons_zero, Re.bind_ok, bTupleK_lst _ _ hkl, Re.toS_ok, h1]
    simp
  generalize hS2 : (S ++ [Ob.lst (rs.map dR)]).set k (.ins 0 (putD "kept_kinds" (.ktup (ks.map .str)) [])) = S2 at fld1
  have srt : ∀ x, sSet 5 (eN bSorted (aCons (eLc (iSeq (eV 2)) (gN 4) ttYes (eN bTuple (aCons (eLc (iSeq (eV 4)) (gN 7) ttYes (eM isL mIndex (eV 1) (aCons (eV 7) aNil)) [7]) aNil)) [4]) aNil)) [some (.cell k), some (.lst (ks.map .str)), some (.lst (rs.map dR)), some (.cell S.length), x, none, none, none, none] S2 =
      .nx [some (.cell k), some (.lst (ks.map .str)), some (.lst (rs.map dR)), some (.cell S.length), x, some (.lst ((rank ks rs).map (dI ks))), none, none, none] S2 := fun x => by
    have q := eLc_pure (f := iSeq (eV 2)) (g := gN 4) (t := ttYes) (e := eN bTuple (aCons (eLc (iSeq (eV 4)) (gN 7) ttYes (eM isL mIndex (eV 1) (aCons (eV 7) aNil)) [7]) aNil)) (vs := [4]) (S := S2) (l := rs.map dR) (chk := always)
      (ρ := [some (.cell k), some (.lst (ks.map .str)), some (.lst (rs.map dR)), some (.cell S.length), x, none, none, none, none]) (fun d => (unR d).map (dI ks)) rfl (always_ _) (by rw [List.length_map]; exact B.rln) (fun d hd => by
        obtain ⟨r, hr, rfl⟩ := List.mem_map.mp hd
        refine turn_map ?_
        have z := lc_index (S := S2) (ks := ks) (r := r) (i := 4) (j := 0) (m := 7) (ρ := [some (.cell k), some (.lst (ks.map .str)), some (.lst (rs.map dR)), some (.cell S.length), some (dR r), none, none, none, none]) (o := eV 1) (d := .lst (ks.map .str)) B.sok (B.rin r hr) rfl (fun _ => rfl) rfl (toPy_lst (toPys_map (toPy_str S2) _)) (by simp)
        show eN bTuple (aCons _ aNil) [some (.cell k), some (.lst (ks.map .str)), some (.lst (rs.map dR)), some (.cell S.length), some (dR r), none, none, none, none] S2 = _
        rw [eN1 z]
        rfl)
    have e : (rs.map dR).filterMap (fun d => (unR d).map (dI ks)) = rs.map (dI ks) := by
      rw [List.filterMap_map]
      exact fm_map (dI ks) rs
    rw [e] at q
    unfold sSet
    rw [eN1 q, bSorted_rank B.rln]
    rfl
  have fin : ∀ x, sFldD 0 "kept_rules" (eV 0) (eN bTuple (aCons (eLc (iSeq (eV 5)) (gN 6) ttYes (eN bTuple (aCons (eLc (iSeq (eV 6)) (gN 8) ttYes (e2 oIx (eV 1) (eV 8)) [8]) aNil)) [6]) aNil)) [some (.cell k), some (.lst (ks.map .str)), some (.lst (rs.map dR)), some (.cell S.length), x, some (.lst ((rank ks rs).map (dI ks))), none, none, none] S2 =
      .nx [some (.cell k), some (.lst (ks.map .str)), some (.lst (rs.map dR)), some (.cell S.length), x, some (.lst ((rank ks rs).map (dI ks))), none, none, none] (S2.set k (.ins 0 (bookF ks (rank ks rs)))) := fun x => by
    have q := eLc_pure (f := iSeq (eV 5)) (g := gN 6) (t := ttYes) (e := eN bTuple (aCons (eLc (iSeq (eV 6)) (gN 8) ttYes (e2 oIx (eV 1) (eV 8)) [8]) aNil)) (vs := [6]) (S := S2) (l := (rank ks rs).map (dI ks)) (chk := always)
      (ρ := [some (.cell k), some (.lst (ks.map .str)), some (.lst (rs.map dR)), some (.cell S.length), x, some (.lst ((rank ks rs).map (dI ks))), none, none, none]) (fun d => match d with | .tup [.int a, .int b, .int c] => (ks[a.toNat]?).bind fun p => (ks[b.toNat]?).bind fun q => (ks[c.toNat]?).map fun r => dR (p, q, r) | _ => none) rfl (always_ _) (by rw [List.length_map, rkl]; exact B.rln) (fun d hd => by
        obtain ⟨r, hr, rfl⟩ := List.mem_map.mp hd
        have hri := rk r hr
        have z := lc_names (S := S2) (ks := ks) (r := r) (i := 6) (m := 8) (ρ := [some (.cell k), some (.lst (ks.map .str)), some (.lst (rs.map dR)), some (.cell S.length), x, some (.lst ((rank ks rs).map (dI ks))), some (dI ks r), none, none]) (o := eV 1) (d := .lst (ks.map .str)) (e := dI ks r) (l := []) hri rfl rfl (fun _ => rfl) rfl (fun _ h => by cases h) (by simp)
        have e : turnD (gN 6) ttYes (eN bTuple (aCons (eLc (iSeq (eV 6)) (gN 8) ttYes (e2 oIx (eV 1) (eV 8)) [8]) aNil)) (wipeE [some (.cell k), some (.lst (ks.map .str)), some (.lst (rs.map dR)), some (.cell S.length), x, some (.lst ((rank ks rs).map (dI ks))), none, none, none] [6]) (dI ks r) S2 = .ok (some (dR r)) S2 := by
          refine turn_map ?_
          show eN bTuple (aCons _ aNil) [some (.cell k), some (.lst (ks.map .str)), some (.lst (rs.map dR)), some (.cell S.length), x, some (.lst ((rank ks rs).map (dI ks))), some (dI ks r), none, none] S2 = _
          rw [eN1 z]
          rfl
        rw [e]
        obtain ⟨a, b, c⟩ := r
        unfold ruleIn at hri
        simp only [Bool.and_eq_true, decide_eq_true_eq] at hri
        obtain ⟨ha, hb, hc, _⟩ := hri
        simp [dI, (ix_get ha).2, (ix_get hb).2, (ix_get hc).2])
    have e : ((rank ks rs).map (dI ks)).filterMap (fun d => match d with | .tup [.int a, .int b, .int c] => (ks[a.toNat]?).bind fun p => (ks[b.toNat]?).bind fun q => (ks[c.toNat]?).map fun r => dR (p, q, r) | _ => none) = (rank ks rs).map dR := by
      rw [List.filterMap_map, ← fm_map dR]
      refine fm_congr fun r hr => ?_
      have hri := rk r hr
      obtain ⟨a, b, c⟩ := r
      unfold ruleIn at hri
      simp only [Bool.and_eq_true, decide_eq_true_eq] at hri
      obtain ⟨ha, hb, hc, _⟩ := hri
      simp [dI, (ix_get ha).2, (ix_get hb).2, (ix_get hc).2]
    rw [e] at q
    have hS : S2[k]? = some (.ins 0 (putD "kept_kinds" (.ktup (ks.map .str)) [])) := by
      rw [← hS2, List.getElem?_set_self (by rw [List.length_append]; omega)]
    unfold sFldD
    rw [eN1 q]
    simp only [bTuple_lst, Re.toS_ok]
    show (match S2[k]? with
      | some (.ins c' fs) => if c' = 0 ∧ fs.length < 1000 then SRe.nx _ (S2.set k (.ins 0 (putD "kept_rules" _ fs))) else .bad
      | _ => .bad) = _
    rw [hS]
    dsimp only
    rw [if_pos ⟨rfl, by show 1 < 1000; omega⟩, putF2]
    rfl
  refine ⟨[.lst (rs.map dR)], ?_⟩
  have eS : S2.set k (.ins 0 (bookF ks (rank ks rs))) = S.set k (.ins 0 (bookF ks (rank ks rs))) ++ [.lst (rs.map dR)] := by
    rw [← hS2, List.set_set, List.set_append_left _ _ hklt]
  have e0 : startD 9 [.cell k, .lst (ks.map .str), .lst (rs.map dR)] = [some (.cell k), some (.lst (ks.map .str)), some (.lst (rs.map dR)), none, none, none, none, none, none] := rfl
  have st1 : sExpr (eCall 1 m_check_kinds (aCons (eV 1) aNil)) [some (.cell k), some (.lst (ks.map .str)), some (.lst (rs.map dR)), none, none, none, none, none, none] S = .nx [some (.cell k), some (.lst (ks.map .str)), some (.lst (rs.map dR)), none, none, none, none, none, none] S := by
    unfold sExpr eCall aCons aNil eV
    simp [hck]
  have st2 : sSet 3 (eN mkC aNil) [some (.cell k), some (.lst (ks.map .str)), some (.lst (rs.map dR)), none, none, none, none, none, none] S = .nx [some (.cell k), some (.lst (ks.map .str)), some (.lst (rs.map dR)), some (.cell S.length), none, none, none, none, none] (S ++ [.lst []]) := by
    unfold sSet eN aNil mkC
    simp
  unfold runD b_Book_init
  rw [e0]
  unfold sSeq
  rw [st1, SRe.seq_nx, st2, SRe.seq_nx]
  unfold bookLoop at hloop
  unfold sSeq at hloop
  rw [hloop, SRe.seq_nx, fld1, SRe.seq_nx, srt, SRe.seq_nx, fin, eS]
  rfl
end DL
namespace DL
open PySem PySem.Spec PyProof.Rows L2
theorem Closed.put {S : Sto} {k : Nat} {ob : Ob} (c : Closed S) (h : lowO S.length ob = true) : Closed (S.set k ob) := fun o ho => by
  rw [List.length_set]
  rcases List.mem_or_eq_of_mem_set ho with q | q
  · exact c o q
  · rw [q]; exact h
theorem low_bookF (k : Nat) (ks : List Str) (rs : List R3) : lowF k (bookF ks rs) = true := by
  simp [bookF, lowF, lowD, low_map (low_str k), low_map (low_dR k)]
theorem low_bookD (k : Nat) (ks : List Str) (rs : List R3) : lowD k (bookD ks rs) = true := by
  unfold bookD
  rw [lowD]
  exact low_bookF k ks rs
open Classical in
noncomputable def m_Book_init : Fn := fun ds S => match ds with
  | [.cell k, .lst l, .lst m] => match unSs l, unRs m with
    | some ks, some rs => if Book ks rs ∧ S[k]? = some (.ins 0 []) then .ok .non (S.set k (.ins 0 (bookF ks (rank ks rs)))) else .bad
    | _, _ => .bad
  | _ => .bad
theorem m_Book_init_ok {ks : List Str} {rs : List R3} (B : Book ks rs) {S : Sto} {k : Nat} (hk : S[k]? = some (.ins 0 [])) : m_Book_init [.cell k, .lst (ks.map .str), .lst (rs.map dR)] S = .ok .non (S.set k (.ins 0 (bookF ks (rank ks rs)))) := by
  unfold m_Book_init
  dsimp only
  rw [unSs_map, unRs_map]
  dsimp only
  rw [if_pos ⟨B, hk⟩]
theorem le_Book_init (ds : List Dv) (S : Sto) (h0 : ds.length = 3) (cl : Closed S) (h9 : lowL S.length ds = true) : Le S.length (runD 9 (b_Book_init m_check_kinds m_check_rule) ds S) (m_Book_init ds S) := by
  unfold m_Book_init
  split
  · rename_i k l m
    cases hu : unSs l with
    | none => exact .bad
    | some ks =>
      cases hr : unRs m with
      | none => exact .bad
      | some rs =>
        dsimp only
        split
        · rename_i h
          obtain ⟨B, hk⟩ := h
          rw [unSs_of hu, unRs_of hr]
          obtain ⟨T, e⟩ := raw_Book_init B S k hk
          rw [e]
          exact Le.drop (by rw [List.length_set]; exact Nat.le_refl _) (cl.put (low_bookF _ _ _)) (by rw [lowD])
        · exact .bad
  · exact .bad
open Classical in
noncomputable def m_Book : Fn := fun ds S => match ds with
  | [.lst l, .lst m] => match unSs l, unRs m with
    | some ks, some rs => if Book ks rs then .ok (bookD ks (rank ks rs)) S else .bad
    | _, _ => .bad
  | _ => .bad
theorem m_Book_ok {ks : List Str} {rs : List R3} (B : Book ks rs) (S : Sto) : m_Book [.lst (ks.map .str), .lst (rs.map dR)] S = .ok (bookD ks (rank ks rs)) S := by
  unfold m_Book
  dsimp only
  rw [unSs_map, unRs_map]
  dsimp only
  rw [if_pos B]
theorem le_Book (ds : List Dv) (S : Sto) (h0 : ds.length = 2) (cl : Closed S) (h9 : lowL S.length ds = true) : Le S.length (makeD 0 m_Book_init ds S) (m_Book ds S) := by
  unfold m_Book
  split
  · rename_i l m
    cases hu : unSs l with
    | none => exact .bad
    | some ks =>
      cases hr : unRs m with
      | none => exact .bad
      | some rs =>
        dsimp only
        split
        · rename_i B
          rw [unSs_of hu, unRs_of hr]
          have hk : (S ++ [Ob.ins 0 []])[S.length]? = some (.ins 0 []) := by rw [List.getElem?_append_right (Nat.le_refl _), Nat.sub_self]; rfl
          have e : makeD 0 m_Book_init [.lst (ks.map .str), .lst (rs.map dR)] S = .ok (.cell S.length) (S ++ [.ins 0 (bookF ks (rank ks rs))]) := by
            unfold makeD
            rw [m_Book_init_ok B hk, Re.bind_ok, List.set_append_right _ _ (Nat.le_refl _), Nat.sub_self]
            rfl
          rw [e]
          refine (Le.freezeI (c := 0) (fs := bookF ks (rank ks rs)) (by rw [List.getElem?_append_right (Nat.le_refl _), Nat.sub_self]; rfl)).trans ?_
          rw [List.set_append_right _ _ (Nat.le_refl _), Nat.sub_self]
          exact Le.drop (Nat.le_refl _) cl (low_bookD _ _ _)
        · exact .bad
  · exact .bad

/-! ### what a book tells -/
noncomputable def m_Book_eq : Fn := runD 2 b_Book_eq
theorem lk_kinds (ks : List Str) (rs : List R3) : (bookF ks rs).lookup ("kept_kinds" : Str) = some (Dv.ktup (ks.map .str)) := rfl
theorem lk_rules (ks : List Str) (rs : List R3) : (bookF ks rs).lookup ("kept_rules" : Str) = some (Dv.tup (rs.map dR)) := by
  unfold bookF
  rw [List.lookup]
  rw [show (("kept_rules" : Str) == "kept_kinds") = false from by decide +kernel]
  rfl
theorem fld_kinds (ks : List Str) (rs : List R3) (S : Sto) : fldD 0 "kept_kinds" (bookD ks rs) S = .ok (.ktup (ks.map .str)) S := by
  unfold fldD bookD insOf
  dsimp only
  rw [if_pos rfl, lk_kinds]
theorem fld_rules (ks : List Str) (rs : List R3) (S : Sto) : fldD 0 "kept_rules" (bookD ks rs) S = .ok (.tup (rs.map dR)) S := by
  unfold fldD bookD insOf
  dsimp only
  rw [if_pos rfl, lk_rules]
theorem e1_ok {g : Dv → Sto → Re Dv} {a : Ex} {ρ : En} {S S1 : Sto} {x : Dv} (h : a ρ S = .ok x S1) : e1 g a ρ S = g x S1 := by
  unfold e1
  rw [h]
  rfl
theorem e2_ok {g : Dv → Dv → Sto → Re Dv} {a b : Ex} {ρ : En} {S S1 S2 : Sto} {x y : Dv} (h : a ρ S = .ok x S1) (h2 : b ρ S1 = .ok y S2) : e2 g a b ρ S = g x y S2 := by
  unfold e2
  rw [h, Re.bind_ok, h2, Re.bind_ok]
theorem oEq_tup {α : Type} [DecidableEq α] {f : α → Dv} {g : α → PyData} {l m : List α} {S : Sto} {b : Bool → Bool} (hf : ∀ a, toPy S (f a) = some (g a)) (hg : ∀ a b, PyData.eqv (g a) (g b) = decide (a = b)) (hl : SeqAt.shaped (.tuple (l.map g)) = true) (hm : SeqAt.shaped (.tuple (m.map g)) = true) :
    oEqF b (.tup (l.map f)) (.tup (m.map f)) S = .ok (.bl (b (decide (l = m)))) S := by
  show oEqD b _ _ S = _
  unfold oEqD
  rw [toPy_tup (toPys_map hf l), toPy_tup (toPys_map hf m)]
  dsimp only
  rw [hl, hm, PyData.eqv, eqvAll_map hg]
  rfl
theorem toPy_ktup {S : Sto} {l : List Dv} {ps : List PyData} (h : toPys S l = some ps) : toPy S (.ktup l) = some (.tuple ps) := by rw [toPy, h]; rfl
theorem oEq_ktup {α : Type} [DecidableEq α] {f : α → Dv} {g : α → PyData} {l m : List α} {S : Sto} {b : Bool → Bool} (hf : ∀ a, toPy S (f a) = some (g a)) (hg : ∀ a b, PyData.eqv (g a) (g b) = decide (a = b)) (hl : SeqAt.shaped (.tuple (l.map g)) = true) (hm : SeqAt.shaped (.tuple (m.map g)) = true) :
    oEqF b (.ktup (l.map f)) (.ktup (m.map f)) S = .ok (.bl (b (decide (l = m)))) S := by
  show oEqD b _ _ S = _
  unfold oEqD
  rw [toPy_ktup (toPys_map hf l), toPy_ktup (toPys_map hf m)]
  dsimp only
  rw [hl, hm, PyData.eqv, eqvAll_map hg]
  rfl
theorem eqv_strD (x y : Str) : PyData.eqv (.str x) (.str y) = decide (x = y) := by
  rw [eqv_str]
  by_cases h : x = y
  · rw [h]; simp
  · simp [h]
theorem eq_ok {ks ks' : List Str} {rs rs' : List R3} (h1 : ∀ x ∈ ks, PyData.strOk x = true) (h2 : ∀ x ∈ ks', PyData.strOk x = true) (h3 : ∀ r ∈ rs, okR r) (h4 : ∀ r ∈ rs', okR r) (S : Sto) :
    m_Book_eq [bookD ks rs, bookD ks' rs'] S = .ok (.bl (decide (ks = ks') && decide (rs = rs'))) S := by
  have a1 : e2 oEq (e1 (fldD 0 "kept_kinds") (eV 0)) (e1 (fldD 0 "kept_kinds") (eV 1)) [some (bookD ks rs), some (bookD ks' rs')] S = .ok (.bl (decide (ks = ks'))) S := by
    rw [e2_ok ((e1_ok (x := bookD ks rs) (S1 := S) rfl).trans (fld_kinds ks rs S)) ((e1_ok (x := bookD ks' rs') (S1 := S) rfl).trans (fld_kinds ks' rs' S))]
    exact oEq_ktup (toPy_str S) eqv_strD (shapedKs h1).2 (shapedKs h2).2
  have a2 : e2 oEq (e1 (fldD 0 "kept_rules") (eV 0)) (e1 (fldD 0 "kept_rules") (eV 1)) [some (bookD ks rs), some (bookD ks' rs')] S = .ok (.bl (decide (rs = rs'))) S := by
    rw [e2_ok ((e1_ok (x := bookD ks rs) (S1 := S) rfl).trans (fld_rules ks rs S)) ((e1_ok (x := bookD ks' rs') (S1 := S) rfl).trans (fld_rules ks' rs' S))]
    exact oEq_tup (toPy_dR S) eqv_pR (shapedRs h3).2 (shapedRs h4).2
  have a0 : sIf (tNotD (tV (eN (bIsi 0 (isS 0)) (aCons (eV 1) (aCons (eC (.cls 0)) aNil))))) (sRet (eC (.bl false))) sNil [some (bookD ks rs), some (bookD ks' rs')] S = .nx [some (bookD ks rs), some (bookD ks' rs')] S := by
    simp [sIf, tNotD, tV, eN, aCons, aNil, eV, eC, bIsi, isS, bookD, tyD, sNil]
  unfold m_Book_eq runD b_Book_eq
  show (sSeq _ _ [some (bookD ks rs), some (bookD ks' rs')] S).toR = _
  unfold sSeq
  rw [a0, SRe.seq_nx]
  unfold sRet eAnd
  rw [a1, Re.bind_ok]
  cases hd : decide (ks = ks') with
  | false => rfl
  | true =>
    dsimp only
    rw [a2]
    rfl
theorem le_Book_eq (ds : List Dv) (S : Sto) (_ : ds.length = 2) (_ : Closed S) (_ : lowL S.length ds = true) : Le S.length (runD 2 b_Book_eq ds S) (m_Book_eq ds S) := Le.refl _
end DL
namespace DL
open PySem PySem.Spec PyProof.Rows L2
/-! ### the order is the only one -/
theorem rank_total (ks : List Str) : PySem.W.TotalLe (PySem.W.dataLe false (pI ks)) := PySem.W.sortLe_total _ _ _
theorem rank_sorted (ks : List Str) (rs : List R3) : (rank ks rs).Pairwise (fun a b => PySem.W.dataLe false (pI ks) a b = true) :=
  List.pairwise_mergeSort (fun a b c => (rank_total ks).trans a b c) (fun a b => by simpa using (rank_total ks).total a b) rs
theorem name_of_ix {ks : List Str} {x y : Str} (hx : x ∈ ks) (hy : y ∈ ks) (h : ix ks x = ix ks y) : x = y := by
  have h1 := (ix_get hx).2
  rw [h, (ix_get hy).2] at h1
  exact (Option.some.inj h1).symm
theorem rank_anti {ks : List Str} {a b : R3} (ha : ruleIn ks a = true) (hb : ruleIn ks b = true) (h1 : PySem.W.dataLe false (pI ks) a b = true) (h2 : PySem.W.dataLe false (pI ks) b a = true) : a = b := by
  have e1 : PyProof.Rows.lexLt itemOrd (PySem.W.keyToks (pI ks b)) (PySem.W.keyToks (pI ks a)) = false := by
    have : (!PyProof.Rows.lexLt itemOrd (PySem.W.keyToks (pI ks b)) (PySem.W.keyToks (pI ks a))) = true := h1
    simpa using this
  have e2 : PyProof.Rows.lexLt itemOrd (PySem.W.keyToks (pI ks a)) (PySem.W.keyToks (pI ks b)) = false := by
    have : (!PyProof.Rows.lexLt itemOrd (PySem.W.keyToks (pI ks a)) (PySem.W.keyToks (pI ks b))) = true := h2
    simpa using this
  have e := PyProof.Rows.KeyOrd.total (PyProof.Rows.listOrd PyProof.Rows.itemOrd) (PySem.W.keyToks (pI ks a)) (PySem.W.keyToks (pI ks b)) e2 e1
  obtain ⟨x, y, z⟩ := a
  obtain ⟨p, q, r⟩ := b
  unfold ruleIn at ha hb
  simp only [Bool.and_eq_true, decide_eq_true_eq] at ha hb
  simp only [pI, PySem.W.keyToks, PySem.W.keyToksAll, List.cons_append, List.nil_append, List.cons.injEq, Sum.inl.injEq, true_and] at e
  obtain ⟨i1, i2, i3, _⟩ := e
  rw [name_of_ix ha.1 hb.1 (by omega), name_of_ix ha.2.1 hb.2.1 (by omega), name_of_ix ha.2.2.1 hb.2.2.1 (by omega)]
theorem rank_eq {ks : List Str} {rs rs' : List R3} (h : rs.Perm rs') (hin : ∀ r ∈ rs, ruleIn ks r = true) : rank ks rs = rank ks rs' := by
  have p1 := rank_perm ks rs
  have p2 := rank_perm ks rs'
  refine List.Perm.eq_of_pairwise (fun a b ha hb h1 h2 => ?_) (rank_sorted ks rs) (rank_sorted ks rs') ((p1.trans h).trans p2.symm)
  exact rank_anti (hin a (p1.mem_iff.mp ha)) (hin b (h.mem_iff.mpr (p2.mem_iff.mp hb))) h1 h2
theorem Book.sub {ks : List Str} {rs rs' : List R3} (B : Book ks rs) (h1 : ∀ r ∈ rs', r ∈ rs) (h2 : rs'.Nodup) (h3 : rs'.length ≤ 1000) : Book ks rs' := ⟨B.nm, B.nd, B.kl, fun r hr => B.rin r (h1 r hr), h2, h3⟩
theorem Book.rank {ks : List Str} {rs : List R3} (B : Book ks rs) : Book ks (rank ks rs) := B.sub (fun r hr => (rank_perm ks rs).mem_iff.mp hr) ((rank_perm ks rs).nodup_iff.mpr B.rnd) (by rw [(rank_perm ks rs).length_eq]; exact B.rl)
def less (r : R3) (rs : List R3) : List R3 := rs.filter fun a => decide (a ≠ r)
theorem Book.less {ks : List Str} {rs : List R3} (B : Book ks rs) (r : R3) : Book ks (less r rs) := B.sub (fun a ha => (List.mem_filter.mp ha).1) (B.rnd.sublist (List.filter_sublist)) (Nat.le_trans (List.length_filter_le _ _) B.rl)

/-! ### without -/
theorem oNe_rule {a r : R3} {S : Sto} (ha : okR a) (hr : okR r) : oNe (dR a) (dR r) S = .ok (.bl (!decide (a = r))) S := by
  show oEqD not (dR a) (dR r) S = _
  unfold oEqD
  rw [toPy_dR, toPy_dR]
  dsimp only
  rw [shapedR ha, shapedR hr, eqv_pR]
  rfl
/-- [known for known in d if known != r] -/
theorem lc_less {S : Sto} {R : List R3} {r : R3} {m : Nat} {ρ : En} {f : It'} {o : Ex} {chk : Sto → Prop} (hR : ∀ a ∈ R, okR a) (hr : okR r) (hf : f ρ S = .ok (R.map dR, chk) S) (hc : chk S) (hl : R.length ≤ sizeLine) (ho : ∀ x, o ((wipeE ρ [m]).set m (some x)) S = .ok (dR r) S) (hm : m < ρ.length) :
    eLc f (gN m) (tV (e2 oNe (eV m) o)) (eV m) [m] ρ S = .ok (.lst ((less r R).map dR)) S := by
  have q := eLc_pure (f := f) (g := gN m) (t := tV (e2 oNe (eV m) o)) (e := eV m) (vs := [m]) (ρ := ρ) (S := S) (l := R.map dR) (chk := chk) (fun d => if (match unR d with | some a => !decide (a = r) | none => false) = true then some d else none) hf hc (by rw [List.length_map]; exact hl) (fun d hd => by
    obtain ⟨a, ha, rfl⟩ := List.mem_map.mp hd
    have e : ((wipeE ρ [m]).set m (some (dR a)))[m]? = some (some (dR a)) := by
      rw [List.getElem?_set_self]
      simpa [wipeE] using hm
    have e1 : eV m ((wipeE ρ [m]).set m (some (dR a))) S = .ok (dR a) S := by unfold eV; rw [e]
    refine turn_if (y := dR a) ?_ e1
    unfold tV
    rw [e2_ok e1 (ho _), oNe_rule (hR a ha) hr]
    rfl)
  rw [q]
  congr 2
  rw [List.filterMap_map]
  unfold less
  rw [← List.filterMap_eq_filter, List.map_filterMap]
  refine fm_congr fun a _ => ?_
  by_cases h : a = r
  · simp [h, unR, dR, Option.guard]
  · simp [h, unR, dR, Option.guard]
end DL
namespace DL
open PySem PySem.Spec PyProof.Rows L2
/-! ### a plan: kinds and rules, each a list that is read -/
structure Plan (S : Sto) (d : Dv) (ks : List Str) (rs : List R3) : Prop where
  ex : ∃ dk dr, d = .tup [dk, dr] ∧ asL S dk = some (ks.map .str) ∧ asL S dr = some (rs.map dR)
theorem asQ_of {S : Sto} {d : Dv} {l : List Dv} (h : asL S d = some l) : asQ S d = some l ∧ asR S d = some l ∧ isL d S = true := by
  have key : asR S d = asL S d → asQ S d = asL S d → asQ S d = some l ∧ asR S d = some l ∧ isL d S = true := fun e1 e2 => by
    rw [e1, e2]
    refine ⟨h, h, ?_⟩
    unfold isL
    rw [e1, h]
    rfl
  cases d <;> first | exact key rfl rfl | (simp [asL] at h; done)
theorem toPy_asL {S : Sto} {d : Dv} {α : Type} {f : α → Dv} {g : α → PyData} {l : List α} (h : asL S d = some (l.map f)) (h1 : ∀ a, toPy S (f a) = some (g a)) (h2 : ∀ a, pyP (f a) = some (g a)) : toPy S d = some (.list (l.map g)) := by
  cases d with
  | lst m =>
    have : m = l.map f := Option.some.inj h
    rw [this]
    exact toPy_lst (toPys_map h1 l)
  | cell k =>
    simp only [asL] at h
    split at h
    · rename_i m hk
      cases h
      exact toPy_cell hk (pyPs_map h2 l)
    · cases h
  | _ => simp [asL] at h
theorem asL_nostr {S : Sto} {d : Dv} {l : List Dv} (h : asL S d = some l) : ∀ z, d ≠ .str z := fun z e => by rw [e] at h; simp [asL] at h
theorem it_asL {S : Sto} {d : Dv} {l : List Dv} (h : asL S d = some l) : ∃ chk, itD d S = .ok (l, chk) S ∧ chk S := by
  cases d with
  | lst m =>
    cases h
    exact ⟨always, rfl, trivial⟩
  | cell k =>
    simp only [asL] at h
    split at h
    · rename_i m hk
      cases h
      refine ⟨fun S' => S'[k]? = some (.lst _), ?_, hk⟩
      unfold itD
      simp only
      rw [hk]
    · cases h
  | _ => simp [asL] at h
theorem bList_asL {S : Sto} {d : Dv} {l : List Dv} (h : asL S d = some l) : bList [d] S = .ok (.lst l) S := by
  unfold bList
  simp only
  rw [(asQ_of h).1]
noncomputable def m__law_code : Fn := runD 1 (b__law_code m_Book)
theorem code_ok {S : Sto} {d : Dv} {ks : List Str} {rs : List R3} (p : Plan S d ks rs) (B : Book ks rs) : m__law_code [d] S = .ok (bookD ks (rank ks rs)) S := by
  obtain ⟨dk, dr, rfl, h1, h2⟩ := p.ex
  have a : eN bList (aCons (e2 oIx (eV 0) (eC (.int 0))) aNil) [some (.tup [dk, dr])] S = .ok (.lst (ks.map .str)) S := (eN1 (x := dk) (S1 := S) rfl).trans (bList_asL h1)
  have b : eN bList (aCons (e2 oIx (eV 0) (eC (.int 1))) aNil) [some (.tup [dk, dr])] S = .ok (.lst (rs.map dR)) S := (eN1 (x := dr) (S1 := S) rfl).trans (bList_asL h2)
  have q : sRet (eCall 2 m_Book (aCons (eN bList (aCons (e2 oIx (eV 0) (eC (.int 0))) aNil)) (aCons (eN bList (aCons (e2 oIx (eV 0) (eC (.int 1))) aNil)) aNil))) [some (.tup [dk, dr])] S = .ret (bookD ks (rank ks rs)) S := by
    have z : aCons (eN bList (aCons (e2 oIx (eV 0) (eC (.int 0))) aNil)) (aCons (eN bList (aCons (e2 oIx (eV 0) (eC (.int 1))) aNil)) aNil) [some (.tup [dk, dr])] S = .ok [.lst (ks.map .str), .lst (rs.map dR)] S := by
      unfold aCons
      unfold aCons at a b
      rw [a, Re.bind_ok, b]
      rfl
    unfold sRet eCall
    rw [z, Re.bind_ok]
    show ((m_Book [.lst (ks.map .str), .lst (rs.map dR)] S).toS _ _) = _
    rw [m_Book_ok B]
    rfl
  unfold m__law_code runD b__law_code
  exact congrArg SRe.toR q

/-! ### the rules in their order, as the law has it -/
def pL (ks : List Str) (r : R3) : PyData := .list [.int (ix ks r.1), .int (ix ks r.2.1), .int (ix ks r.2.2)]
def lI (ks : List Str) (r : R3) : Dv := .lst [.int (ix ks r.1), .int (ix ks r.2.1), .int (ix ks r.2.2)]
theorem le_pL (ks : List Str) : PySem.W.dataLe false (pL ks) = PySem.W.dataLe false (pI ks) := by
  have e : (fun b => PySem.W.keyToks (pL ks b)) = fun b => PySem.W.keyToks (pI ks b) := by
    funext b
    simp [pL, pI, PySem.W.keyToks]
  unfold PySem.W.dataLe
  rw [e]
theorem sortD_rankL (ks : List Str) (rs : List R3) : sortD (rs.map (lI ks)) (rs.map (pL ks)) = (rank ks rs).map (lI ks) := by
  unfold sortD rank
  rw [zip_maps, ← List.map_mergeSort (r := PySem.W.dataLe false (pI ks)) (f := fun r => (lI ks r, pL ks r)) (s := PySem.W.dataLe false fun b : Dv × PyData => b.2) (fun a _ b _ => by rw [← le_pL]; rfl), List.map_map]
  rfl
theorem toPy_lI (S : Sto) (ks : List Str) (r : R3) : toPy S (lI ks r) = some (pL ks r) := by
  unfold lI pL
  exact toPy_lst (by simp [toPys, toPy_int])
theorem sortOk_pL (ks : List Str) (rs : List R3) (h : rs.length ≤ sizeLine) : sortOk (rs.map (pL ks)) = true := by
  unfold sortOk
  simp only [Bool.and_eq_true, Bool.or_eq_true, List.all_eq_true, List.mem_map, decide_eq_true_eq, List.length_map]
  refine ⟨?_, .inr ?_, ?_, h⟩
  · rintro _ ⟨a, _, rfl⟩ _ ⟨b, _, rfl⟩
    simp [pL, PySem.W.alike, PySem.W.alikeAll]
  · rintro _ ⟨a, _, rfl⟩
    rfl
  · rintro _ ⟨a, _, rfl⟩
    simp [pL, PyData.depth, PyData.depthAll]
theorem bSorted_rankL {S : Sto} {ks : List Str} {rs : List R3} (h : rs.length ≤ sizeLine) : bSorted [.lst (rs.map (lI ks))] S = .ok (.lst ((rank ks rs).map (lI ks))) S := by
  unfold bSorted
  dsimp only
  rw [show asR S (.lst (rs.map (lI ks))) = some (rs.map (lI ks)) from rfl]
  dsimp only
  rw [toPys_map (toPy_lI S ks) rs]
  dsimp only
  rw [if_pos (sortOk_pL ks rs h), sortD_rankL]
noncomputable def m__law_ranked : Fn := runD 6 b__law_ranked
theorem ranked_ok {S : Sto} {d : Dv} {ks : List Str} {rs : List R3} (p : Plan S d ks rs) (B : Book ks rs) : m__law_ranked [d] S = .ok (.lst ((rank ks rs).map dR)) S := by
  obtain ⟨dk, dr, rfl, h1, h2⟩ := p.ex
  obtain ⟨chk, hi, hc⟩ := it_asL h2
  have rk : ∀ r ∈ rank ks rs, ruleIn ks r = true := fun r hr => B.rin r ((rank_perm ks rs).mem_iff.mp hr)
  have rkl : (rank ks rs).length = rs.length := (rank_perm ks rs).length_eq
  have s1 : sSet 1 (eN bSorted (aCons (eLc (iSeq (e2 oIx (eV 0) (eC (.int 1)))) (gN 3) ttYes (eLc (iSeq (eV 3)) (gN 4) ttYes (eM isL mIndex (e2 oIx (eV 0) (eC (.int 0))) (aCons (eV 4) aNil)) [4]) [3]) aNil)) [some (.tup [dk, dr]), none, none, none, none, none] S =
      .nx [some (.tup [dk, dr]), some (.lst ((rank ks rs).map (lI ks))), none, none, none, none] S := by
    have q := eLc_pure (f := iSeq (e2 oIx (eV 0) (eC (.int 1)))) (g := gN 3) (t := ttYes) (e := eLc (iSeq (eV 3)) (gN 4) ttYes (eM isL mIndex (e2 oIx (eV 0) (eC (.int 0))) (aCons (eV 4) aNil)) [4]) (vs := [3]) (S := S) (l := rs.map dR) (chk := chk)
      (ρ := [some (.tup [dk, dr]), none, none, none, none, none]) (fun d => (unR d).map (lI ks)) (by
        unfold iSeq
        rw [show e2 oIx (eV 0) (eC (.int 1)) [some (.tup [dk, dr]), none, none, none, none, none] S = .ok dr S from rfl, Re.bind_ok]
        exact hi) hc (by rw [List.length_map]; exact B.rln) (fun d hd => by
        obtain ⟨r, hr, rfl⟩ := List.mem_map.mp hd
        refine turn_map ?_
        exact lc_index (S := S) (ks := ks) (r := r) (i := 3) (j := 0) (m := 4) (ρ := [some (.tup [dk, dr]), none, none, some (dR r), none, none]) (o := e2 oIx (eV 0) (eC (.int 0))) (d := dk) B.sok (B.rin r hr) rfl (fun _ => rfl) (asQ_of h1).2.2 (toPy_asL h1 (toPy_str S) pyP_str) (by simp))
    have e : (rs.map dR).filterMap (fun d => (unR d).map (lI ks)) = rs.map (lI ks) := by
      rw [List.filterMap_map]
      exact fm_map (lI ks) rs
    rw [e] at q
    unfold sSet
    rw [eN1 q, bSorted_rankL B.rln]
    rfl
  have s2 : sRet (eLc (iSeq (eV 1)) (gN 2) ttYes (eN bTuple (aCons (eLc (iSeq (eV 2)) (gN 5) ttYes (e2 oIx (e2 oIx (eV 0) (eC (.int 0))) (eV 5)) [5]) aNil)) [2]) [some (.tup [dk, dr]), some (.lst ((rank ks rs).map (lI ks))), none, none, none, none] S = .ret (.lst ((rank ks rs).map dR)) S := by
    have val : ∀ r, ruleIn ks r = true → (match lI ks r with | .lst [.int a, .int b, .int c] => (ks[a.toNat]?).bind fun p => (ks[b.toNat]?).bind fun q => (ks[c.toNat]?).map fun r => dR (p, q, r) | _ => none) = some (dR r) := by
      rintro ⟨a, b, c⟩ hri
      unfold ruleIn at hri
      simp only [Bool.and_eq_true, decide_eq_true_eq] at hri
      obtain ⟨ha, hb, hc, _⟩ := hri
      simp [lI, (ix_get ha).2, (ix_get hb).2, (ix_get hc).2]
    have q := eLc_pure (f := iSeq (eV 1)) (g := gN 2) (t := ttYes) (e := eN bTuple (aCons (eLc (iSeq (eV 2)) (gN 5) ttYes (e2 oIx (e2 oIx (eV 0) (eC (.int 0))) (eV 5)) [5]) aNil)) (vs := [2]) (S := S) (l := (rank ks rs).map (lI ks)) (chk := always)
      (ρ := [some (.tup [dk, dr]), some (.lst ((rank ks rs).map (lI ks))), none, none, none, none]) (fun d => match d with | .lst [.int a, .int b, .int c] => (ks[a.toNat]?).bind fun p => (ks[b.toNat]?).bind fun q => (ks[c.toNat]?).map fun r => dR (p, q, r) | _ => none) rfl (always_ _) (by rw [List.length_map, rkl]; exact B.rln) (fun d hd => by
        obtain ⟨r, hr, rfl⟩ := List.mem_map.mp hd
        have hri := rk r hr
        have z := lc_names (S := S) (ks := ks) (r := r) (i := 2) (m := 5) (ρ := [some (.tup [dk, dr]), some (.lst ((rank ks rs).map (lI ks))), some (lI ks r), none, none, none]) (o := e2 oIx (eV 0) (eC (.int 0))) (d := dk) (e := lI ks r) (l := []) hri rfl rfl (fun _ => rfl) (asQ_of h1).1 (asL_nostr h1) (by simp)
        have e : turnD (gN 2) ttYes (eN bTuple (aCons (eLc (iSeq (eV 2)) (gN 5) ttYes (e2 oIx (e2 oIx (eV 0) (eC (.int 0))) (eV 5)) [5]) aNil)) (wipeE [some (.tup [dk, dr]), some (.lst ((rank ks rs).map (lI ks))), none, none, none, none] [2]) (lI ks r) S = .ok (some (dR r)) S := by
          refine turn_map ?_
          show eN bTuple (aCons _ aNil) [some (.tup [dk, dr]), some (.lst ((rank ks rs).map (lI ks))), some (lI ks r), none, none, none] S = _
          rw [eN1 z]
          rfl
        rw [e, val r hri])
    have e : ((rank ks rs).map (lI ks)).filterMap (fun d => match d with | .lst [.int a, .int b, .int c] => (ks[a.toNat]?).bind fun p => (ks[b.toNat]?).bind fun q => (ks[c.toNat]?).map fun r => dR (p, q, r) | _ => none) = (rank ks rs).map dR := by
      rw [List.filterMap_map, ← fm_map dR]
      exact fm_congr fun r hr => val r (rk r hr)
    rw [e] at q
    unfold sRet
    rw [q]
    rfl
  unfold m__law_ranked runD b__law_ranked
  show (sSeq _ _ [some (.tup [dk, dr]), none, none, none, none, none] S).toR = _
  unfold sSeq
  rw [s1, SRe.seq_nx, s2]
  rfl

/-! ### what is caught -/
end DL
namespace DL
open PySem PySem.Spec PyProof.Rows L2
/-! ### what the law draws with -/
noncomputable def m__law_grind : Fn := runD 3 b__law_grind
noncomputable def m__law_mill : Fn := runD 4 b__law_mill
def Mill (S : Sto) (k : Nat) : Prop := ∃ a b : Int, S[k]? = some (.lst [.int a, .int b]) ∧ 0 ≤ b ∧ b < 18446744073709551616
theorem log2_lt {n k : Nat} (hk : 0 < k) (h : n < 2 ^ k) : n.log2 < k := by
  by_cases h0 : n = 0
  · subst h0; simpa using hk
  · exact (Nat.log2_lt h0).mpr h
theorem cDiv_ok {i c : Int} (h1 : 0 < c) (h2 : c ≤ 8589934592) : cDiv i c = true := by
  unfold cDiv CDivW
  refine decide_eq_true ⟨h1, Nat.lt_trans (log2_lt (k := 34) (by omega) ?_) (by omega)⟩
  omega
theorem cMul_ok {i j : Int} (hi : i.natAbs < 2 ^ 70) (hj : j.natAbs < 2 ^ 70) : cMul i j = true := by
  unfold cMul
  rw [Bool.or_eq_true]
  refine .inr (decide_eq_true ?_)
  have h1 := log2_lt (k := 70) (by omega) hi
  have h2 := log2_lt (k := 70) (by omega) hj
  show i.natAbs.log2 + j.natAbs.log2 < 1000000
  omega
theorem atI_nat {α : Type} {l : List α} {j : Nat} {x : α} (h : l[j]? = some x) : atI l (j : Int) = some x := by
  have hj : j < l.length := (List.getElem?_eq_some_iff.mp h).1
  unfold atI ixN
  rw [if_pos (by omega), if_pos (by exact_mod_cast hj)]
  simpa using h
theorem oIx_asQ {S : Sto} {d x : Dv} {l : List Dv} {i : Int} (hd : asQ S d = some l) (hs : ∀ z, d ≠ .str z) (h : atI l i = some x) : oIx d (.int i) S = .ok x S := by
  have q : oIx d (.int i) S = (match asQ S d with
    | some l => match atI l i with
      | some x => .ok x S
      | none => .bad
    | none => .bad) := by
    unfold oIx
    cases d <;> first | rfl | exact absurd rfl (hs _)
  rw [q, hd]
  dsimp only
  rw [h]
theorem asL_cell {S : Sto} {k : Nat} {l : List Dv} (h : S[k]? = some (.lst l)) : asL S (.cell k) = some l := by
  unfold asL
  dsimp only
  rw [h]
theorem cell_ix {S : Sto} {k : Nat} {l : List Dv} {d : Dv} (j : Nat) (h : S[k]? = some (.lst l)) (hd : l[j]? = some d) : oIx (.cell k) (.int j) S = .ok d S := by
  have e : asL S (.cell k) = some l := asL_cell h
  exact oIx_asQ (asQ_of e).1 (fun z hz => by cases hz) (atI_nat hd)
theorem grind_ok {S : Sto} {k : Nat} {c : Int} (h : Mill S k) (h1 : 0 < c) (h2 : c ≤ 1048576) : ∃ i a' b' : Int, 0 ≤ i ∧ i < c ∧ 0 ≤ b' ∧ b' < 18446744073709551616 ∧ m__law_grind [.cell k, .int c] S = .ok (.int i) (S.set k (.lst [.int a', .int b'])) := by
  obtain ⟨a, b, hS, hb0, hb1⟩ := h
  have hlt : k < S.length := (List.getElem?_eq_some_iff.mp hS).1
  have xa : ∀ x, e2 oIx (eV 0) (eC (.int 0)) [some (.cell k), some (.int c), x] S = .ok (.int a) S := fun x => cell_ix (S := S) (k := k) (l := [.int a, .int b]) 0 hS rfl
  have xb : ∀ x, e2 oIx (eV 0) (eC (.int 1)) [some (.cell k), some (.int c), x] S = .ok (.int b) S := fun x => cell_ix (S := S) (k := k) (l := [.int a, .int b]) 1 hS rfl
  by_cases ha : 0 < a
  · refine ⟨a % c, a / c, b, Int.emod_nonneg _ (by omega), Int.emod_lt_of_pos _ h1, hb0, hb1, ?_⟩
    have g : ∀ x d, gIx (eV 0) (eC (.int 0)) d [some (.cell k), some (.int c), x] S = some ([some (.cell k), some (.int c), x], S.set k (.lst [d, .int b])) := fun x d => by
      unfold gIx eV eC
      simp [hS, ixN]
    have e : sIf (tV (e2 oGt (e2 oIx (eV 0) (eC (.int 0))) (eC (.int 0)))) (sSeq (sSet 2 (e2 oMod (eN bInt (aCons (e2 oIx (eV 0) (eC (.int 0))) aNil)) (eV 1)))
    (sSeq (sAsg (e2 oDiv (e2 oIx (eV 0) (eC (.int 0))) (eV 1)) (gIx (eV 0) (eC (.int 0))))
    (sRet (eV 2)))) sNil [some (.cell k), some (.int c), none] S = .ret (.int (a % c)) (S.set k (.lst [.int (a / c), .int b])) := by
      unfold sIf tV
      rw [e2_ok (xa none) (show eC (.int 0) _ S = .ok (.int 0) S from rfl)]
      have t1 : sSet 2 (e2 oMod (eN bInt (aCons (e2 oIx (eV 0) (eC (.int 0))) aNil)) (eV 1)) [some (.cell k), some (.int c), none] S = .nx [some (.cell k), some (.int c), some (.int (a % c))] S := by
        unfold sSet
        rw [e2_ok (x := .int a) (S1 := S) (y := .int c) (S2 := S) (by rw [eN1 (xa none)]; rfl) rfl]
        simp [oIc, h1]
      have t2 : sAsg (e2 oDiv (e2 oIx (eV 0) (eC (.int 0))) (eV 1)) (gIx (eV 0) (eC (.int 0))) [some (.cell k), some (.int c), some (.int (a % c))] S = .nx [some (.cell k), some (.int c), some (.int (a % c))] (S.set k (.lst [.int (a / c), .int b])) := by
        unfold sAsg
        rw [e2_ok (xa _) (y := .int c) (S2 := S) rfl]
        simp [oIc, cDiv_ok (i := a) h1 (by omega), g]
      simp only [oB, Re.bind_ok, Re.toS_ok, decide_eq_true ha, if_true]
      unfold sSeq
      rw [t1, SRe.seq_nx, t2, SRe.seq_nx]
      rfl
    unfold m__law_grind runD b__law_grind
    show (sSeq _ _ [some (.cell k), some (.int c), none] S).toR = _
    unfold sSeq
    unfold sSeq at e
    rw [e]
    rfl
  · refine ⟨((b * 6364136223846793005 + 1442695040888963407) % 18446744073709551616) / 8589934592 % c, a, (b * 6364136223846793005 + 1442695040888963407) % 18446744073709551616, Int.emod_nonneg _ (by omega), Int.emod_lt_of_pos _ h1, Int.emod_nonneg _ (by omega), Int.emod_lt_of_pos _ (by omega), ?_⟩
    have g : ∀ x d, gIx (eV 0) (eC (.int 1)) d [some (.cell k), some (.int c), x] S = some ([some (.cell k), some (.int c), x], S.set k (.lst [.int a, d])) := fun x d => by
      unfold gIx eV eC
      simp [hS, ixN]
    have e : ∀ bd, sIf (tV (e2 oGt (e2 oIx (eV 0) (eC (.int 0))) (eC (.int 0)))) bd sNil [some (.cell k), some (.int c), none] S = .nx [some (.cell k), some (.int c), none] S := fun bd => by
      unfold sIf tV
      rw [e2_ok (xa none) (show eC (.int 0) _ S = .ok (.int 0) S from rfl)]
      simp only [oB, Re.bind_ok, Re.toS_ok, decide_eq_false ha]
      rfl
    have t2 : sAsg (e2 oMod (eN bInt (aCons (e2 oAdd (e2 oMul (e2 oIx (eV 0) (eC (.int 1))) (eC (.int 6364136223846793005))) (eC (.int 1442695040888963407))) aNil)) (eC (.int 18446744073709551616))) (gIx (eV 0) (eC (.int 1))) [some (.cell k), some (.int c), none] S =
        .nx [some (.cell k), some (.int c), none] (S.set k (.lst [.int a, .int ((b * 6364136223846793005 + 1442695040888963407) % 18446744073709551616)])) := by
      have m : e2 oMul (e2 oIx (eV 0) (eC (.int 1))) (eC (.int 6364136223846793005)) [some (.cell k), some (.int c), none] S = .ok (.int (b * 6364136223846793005)) S := by
        rw [e2_ok (xb none) (show eC (.int 6364136223846793005) _ S = .ok (.int 6364136223846793005) S from rfl)]
        simp only [oIc]
        rw [if_pos (cMul_ok (by omega) (by decide))]
      have s : eN bInt (aCons (e2 oAdd (e2 oMul (e2 oIx (eV 0) (eC (.int 1))) (eC (.int 6364136223846793005))) (eC (.int 1442695040888963407))) aNil) [some (.cell k), some (.int c), none] S = .ok (.int (b * 6364136223846793005 + 1442695040888963407)) S := by
        rw [eN1 (x := .int (b * 6364136223846793005 + 1442695040888963407)) (S1 := S) (by rw [e2_ok m (show eC (.int 1442695040888963407) _ S = .ok (.int 1442695040888963407) S from rfl)]; rfl)]
        rfl
      unfold sAsg
      rw [e2_ok s (show eC (.int 18446744073709551616) _ S = .ok (.int 18446744073709551616) S from rfl)]
      simp [oIc, g]
    generalize (b * 6364136223846793005 + 1442695040888963407) % 18446744073709551616 = v at t2 ⊢
    have hv : (S.set k (Ob.lst [.int a, .int v]))[k]? = some (.lst [.int a, .int v]) := List.getElem?_set_self hlt
    have t3 : sRet (e2 oMod (eN bInt (aCons (e2 oDiv (e2 oIx (eV 0) (eC (.int 1))) (eC (.int 8589934592))) aNil)) (eV 1)) [some (.cell k), some (.int c), none] (S.set k (.lst [.int a, .int v])) = .ret (.int (v / 8589934592 % c)) (S.set k (.lst [.int a, .int v])) := by
      have xv : e2 oIx (eV 0) (eC (.int 1)) [some (.cell k), some (.int c), none] (S.set k (.lst [.int a, .int v])) = .ok (.int v) (S.set k (.lst [.int a, .int v])) := cell_ix (S := S.set k (.lst [.int a, .int v])) (k := k) (l := [.int a, .int v]) 1 hv rfl
      have dv : e2 oDiv (e2 oIx (eV 0) (eC (.int 1))) (eC (.int 8589934592)) [some (.cell k), some (.int c), none] (S.set k (.lst [.int a, .int v])) = .ok (.int (v / 8589934592)) (S.set k (.lst [.int a, .int v])) := by
        rw [e2_ok xv (show eC (.int 8589934592) _ (S.set k (.lst [.int a, .int v])) = .ok (.int 8589934592) _ from rfl)]
        simp only [oIc]
        rw [if_pos (cDiv_ok (by omega) (by omega))]
      unfold sRet
      rw [e2_ok (by rw [eN1 dv]; rfl) (show eV 1 _ (S.set k (.lst [.int a, .int v])) = .ok (.int c) _ from rfl)]
      simp [oIc, h1]
    unfold m__law_grind runD b__law_grind
    show (sSeq _ _ [some (.cell k), some (.int c), none] S).toR = _
    unfold sSeq
    rw [show ∀ A B : Sm, (fun ρ S => (A ρ S).seq B) = fun ρ S => (A ρ S).seq B from fun _ _ => rfl]
    rw [e, SRe.seq_nx, t2, SRe.seq_nx, t3]
    rfl
end DL
namespace DL
open PySem PySem.Spec PyProof.Rows L2
theorem eN_ok {g : List Dv → Sto → Re Dv} {a : Xs} {ρ : En} {S S1 : Sto} {x : List Dv} (h : a ρ S = .ok x S1) : eN g a ρ S = g x S1 := by
  unfold eN
  rw [h]
  rfl
theorem aCons_ok {a : Ex} {r : Xs} {ρ : En} {S S1 S2 : Sto} {x : Dv} {xs : List Dv} (h1 : a ρ S = .ok x S1) (h2 : r ρ S1 = .ok xs S2) : aCons a r ρ S = .ok (x :: xs) S2 := by
  unfold aCons
  rw [h1, Re.bind_ok, h2, Re.bind_ok]
theorem mill_ok (ns : List Int) (hn : ns.length ≤ 63) (p : Nat) (hp : p < 64) (S : Sto) : ∃ a b : Int, m__law_mill [.ro (ns.map .int), .int p] S = .ok (.cell S.length) (S ++ [.lst [.int a, .int b]]) ∧ 0 ≤ b ∧ b < 18446744073709551616 := by
  -- the cell
  have c1 : ∃ c : Int, sIf (tV (e2 oLt (eV 1) (eN bLen (aCons (eV 0) aNil)))) (sSet 2 (e2 oIx (eV 0) (eV 1))) sNil [some (.ro (ns.map .int)), some (.int p), some (.int 0), none] S = .nx [some (.ro (ns.map .int)), some (.int p), some (.int c), none] S := by
    have t : tV (e2 oLt (eV 1) (eN bLen (aCons (eV 0) aNil))) [some (.ro (ns.map .int)), some (.int p), some (.int 0), none] S = .ok (decide ((p : Int) < (ns.length : Int))) S := by
      unfold tV
      rw [e2_ok (x := .int p) (S1 := S) (y := .int ns.length) (S2 := S) rfl (by rw [eN1 (x := .ro (ns.map .int)) (S1 := S) rfl]; simp [bLen, asQ, asR])]
      rfl
    unfold sIf
    rw [t, Re.toS_ok]
    by_cases h : (p : Int) < (ns.length : Int)
    · rw [decide_eq_true h, if_pos rfl]
      have hp2 : p < ns.length := by exact_mod_cast h
      refine ⟨ns[p], ?_⟩
      unfold sSet
      rw [e2_ok (x := .ro (ns.map .int)) (S1 := S) (y := .int p) (S2 := S) rfl rfl, oIx_asQ (l := ns.map .int) (x := .int ns[p]) rfl (fun z hz => by cases hz) (atI_nat (by simp [hp2]))]
      rfl
    · rw [decide_eq_false h, if_neg Bool.false_ne_true]
      exact ⟨0, rfl⟩
  obtain ⟨c, c1⟩ := c1
  have c2 : ∃ a : Int, sIf (tV (e2 oGt (eV 2) (e2 oPow (eC (.int 10)) (eC (.int 12))))) (sSet 3 (e2 oDiv (eV 2) (eC (.int 2)))) sNil [some (.ro (ns.map .int)), some (.int p), some (.int c), some (.int 0)] S = .nx [some (.ro (ns.map .int)), some (.int p), some (.int c), some (.int a)] S := by
    have pw : e2 oPow (eC (.int 10)) (eC (.int 12)) [some (.ro (ns.map .int)), some (.int p), some (.int c), some (.int 0)] S = .ok (.int 1000000000000) S := by
      rw [e2_ok (x := .int 10) (S1 := S) (y := .int 12) (S2 := S) rfl rfl]
      show (if cPow 10 12 = true then Re.ok (Dv.int (10 ^ (12 : Int).toNat)) S else .bad) = _
      rw [if_pos (by decide +kernel)]
      rfl
    unfold sIf tV
    rw [e2_ok (x := .int c) (S1 := S) rfl pw]
    show ∃ a, (if decide (1000000000000 < c) = true then _ else _) = _
    by_cases h : 1000000000000 < c
    · rw [decide_eq_true h, if_pos rfl]
      refine ⟨c / 2, ?_⟩
      unfold sSet
      rw [e2_ok (x := .int c) (S1 := S) (y := .int 2) (S2 := S) rfl rfl]
      simp [oIc, cDiv_ok (i := c) (c := 2) (by omega) (by omega)]
    · rw [decide_eq_false h, if_neg Bool.false_ne_true]
      exact ⟨0, rfl⟩
  obtain ⟨a, c2⟩ := c2
  refine ⟨a, 40692 * ((p : Int) + 1) + (if c < 0 then -c else c) % 1000000000000037, ?_, ?_, ?_⟩
  · have m : e2 oMul (eC (.int 40692)) (e2 oAdd (eV 1) (eC (.int 1))) [some (.ro (ns.map .int)), some (.int p), some (.int c), some (.int a)] S = .ok (.int (40692 * ((p : Int) + 1))) S := by
      rw [e2_ok (x := .int 40692) (S1 := S) (y := .int ((p : Int) + 1)) (S2 := S) rfl (by rw [e2_ok (x := .int p) (S1 := S) (y := .int 1) (S2 := S) rfl rfl]; rfl)]
      simp [oIc, cMul_ok (i := 40692) (j := (p : Int) + 1) (by decide) (by omega)]
    have r : e2 oMod (eN bInt (aCons (eN bAbs (aCons (eV 2) aNil)) aNil)) (eC (.int 1000000000000037)) [some (.ro (ns.map .int)), some (.int p), some (.int c), some (.int a)] S = .ok (.int ((if c < 0 then -c else c) % 1000000000000037)) S := by
      rw [e2_ok (x := .int (if c < 0 then -c else c)) (S1 := S) (y := .int 1000000000000037) (S2 := S) (by rw [eN1 (x := .int (if c < 0 then -c else c)) (S1 := S) (by rw [eN1 (x := .int c) (S1 := S) rfl]; rfl)]; rfl) rfl]
      rfl
    have s : sRet (eN mkC (aCons (eV 3) (aCons (e2 oAdd (e2 oMul (eC (.int 40692)) (e2 oAdd (eV 1) (eC (.int 1)))) (e2 oMod (eN bInt (aCons (eN bAbs (aCons (eV 2) aNil)) aNil)) (eC (.int 1000000000000037)))) aNil))) [some (.ro (ns.map .int)), some (.int p), some (.int c), some (.int a)] S =
        .ret (.cell S.length) (S ++ [.lst [.int a, .int (40692 * ((p : Int) + 1) + (if c < 0 then -c else c) % 1000000000000037)]]) := by
      have z : aCons (eV 3) (aCons (e2 oAdd (e2 oMul (eC (.int 40692)) (e2 oAdd (eV 1) (eC (.int 1)))) (e2 oMod (eN bInt (aCons (eN bAbs (aCons (eV 2) aNil)) aNil)) (eC (.int 1000000000000037)))) aNil) [some (.ro (ns.map .int)), some (.int p), some (.int c), some (.int a)] S = .ok [.int a, .int (40692 * ((p : Int) + 1) + (if c < 0 then -c else c) % 1000000000000037)] S :=
        aCons_ok rfl (aCons_ok (by rw [e2_ok m r]; rfl) rfl)
      unfold sRet
      rw [eN_ok z]
      show (Re.toS (mkC _ S) _ _) = _
      unfold mkC
      rw [if_pos (by rw [sizeLine_eq]; simp)]
      rfl
    unfold m__law_mill runD b__law_mill
    show (sSeq _ _ [some (.ro (ns.map .int)), some (.int p), none, none] S).toR = _
    unfold sSeq
    rw [show sSet 2 (eC (.int 0)) [some (.ro (ns.map .int)), some (.int p), none, none] S = .nx [some (.ro (ns.map .int)), some (.int p), some (.int 0), none] S from rfl, SRe.seq_nx, c1, SRe.seq_nx]
    rw [show sSet 3 (eC (.int 0)) [some (.ro (ns.map .int)), some (.int p), some (.int c), none] S = .nx [some (.ro (ns.map .int)), some (.int p), some (.int c), some (.int 0)] S from rfl, SRe.seq_nx, c2, SRe.seq_nx, s]
    rfl
  · have := Int.emod_nonneg (if c < 0 then -c else c) (show (1000000000000037 : Int) ≠ 0 by omega)
    omega
  · have := Int.emod_lt_of_pos (if c < 0 then -c else c) (show (0 : Int) < 1000000000000037 by omega)
    omega

/-! ### the tribes -/
def row0 : List Str := ["a", "b", "c", "d", "e", "f", "g", "h"]
def row1 : List Str := ["red", "blue", "re", "bluer", "r", "b", "redred", "blu"]
def row2 : List Str := ["kind", "kinds", "sees", "seesaw", "ab", "ba", "abcdefgh", "abcdefgz"]
theorem rows_ok : ∀ r ∈ [row0, row1, row2], r.length = 8 ∧ r.Nodup ∧ ∀ x ∈ r, nameOk x = true := by decide +kernel
noncomputable def m__law_tribes : Fn := runD 6 (b__law_tribes m__law_grind)
/-- behind it the old cells stand as they were, but for the mill -/
structure Nx (k : Nat) (S S' : Sto) : Prop where
  le : S.length ≤ S'.length
  old : ∀ i, i < S.length → i ≠ k → S'[i]? = S[i]?
  mill : Mill S' k
theorem Mill.lt {S : Sto} {k : Nat} (h : Mill S k) : k < S.length := by
  obtain ⟨a, b, h, _⟩ := h
  exact (List.getElem?_eq_some_iff.mp h).1
theorem Nx.rfl {k : Nat} {S : Sto} (h : Mill S k) : Nx k S S := ⟨Nat.le_refl _, fun _ _ _ => Eq.refl _, h⟩
theorem Nx.trans {k : Nat} {S S1 S2 : Sto} (a : Nx k S S1) (b : Nx k S1 S2) : Nx k S S2 := ⟨Nat.le_trans a.le b.le, fun i h1 h2 => (b.old i (Nat.lt_of_lt_of_le h1 a.le) h2).trans (a.old i h1 h2), b.mill⟩
theorem Nx.push {k : Nat} {S S1 : Sto} (a : Nx k S S1) (T : Sto) : Nx k S (S1 ++ T) := by
  refine ⟨by rw [List.length_append]; have := a.le; omega, fun i h1 h2 => ?_, ?_⟩
  · rw [List.getElem?_append_left (Nat.lt_of_lt_of_le h1 a.le)]
    exact a.old i h1 h2
  · obtain ⟨x, y, h, h3⟩ := a.mill
    exact ⟨x, y, by rw [List.getElem?_append_left a.mill.lt]; exact h, h3⟩
theorem Nx.put {k j : Nat} {S S1 : Sto} (a : Nx k S S1) (hj : S.length ≤ j) (hk : j ≠ k) (ob : Ob) : Nx k S (S1.set j ob) := by
  refine ⟨by rw [List.length_set]; exact a.le, fun i h1 h2 => ?_, ?_⟩
  · rw [List.getElem?_set_ne (by omega)]
    exact a.old i h1 h2
  · obtain ⟨x, y, h, h3⟩ := a.mill
    exact ⟨x, y, by rw [List.getElem?_set_ne hk]; exact h, h3⟩
/-- drawing -/
theorem draw {S : Sto} {k : Nat} {c : Int} (h : Mill S k) (h1 : 0 < c) (h2 : c ≤ 1048576) : ∃ (i : Int) (S' : Sto), 0 ≤ i ∧ i < c ∧ m__law_grind [.cell k, .int c] S = .ok (.int i) S' ∧ S'.length = S.length ∧ (∀ j, j ≠ k → S'[j]? = S[j]?) ∧ Nx k S S' := by
  obtain ⟨i, a', b', g1, g2, g3, g4, g5⟩ := grind_ok h h1 h2
  refine ⟨i, _, g1, g2, g5, List.length_set, fun j hj => List.getElem?_set_ne (Ne.symm hj), by rw [List.length_set]; exact Nat.le_refl _, fun j _ hj => List.getElem?_set_ne (Ne.symm hj), a', b', List.getElem?_set_self h.lt, g3, g4⟩
/-- .. as an expression: the grind called with the mill in slot i -/
theorem draw_e {ρ : En} {S S1 : Sto} {k i : Nat} {e : Ex} {c : Int} (hi : ρ[i]? = some (some (.cell k))) (he : e ρ S = .ok (.int c) S1) (h : Mill S1 k) (h1 : 0 < c) (h2 : c ≤ 1048576) :
    ∃ (j : Int) (S' : Sto), 0 ≤ j ∧ j < c ∧ eCall 2 m__law_grind (aCons (eV i) (aCons e aNil)) ρ S = .ok (.int j) S' ∧ S'.length = S1.length ∧ (∀ m, m ≠ k → S'[m]? = S1[m]?) ∧ Nx k S1 S' := by
  obtain ⟨j, S', g1, g2, g3, g4, g5, g6⟩ := draw h h1 h2
  refine ⟨j, S', g1, g2, ?_, g4, g5, g6⟩
  have e0 : eV i ρ S = .ok (.cell k) S := by unfold eV; rw [hi]
  unfold eCall aCons aNil
  rw [e0, Re.bind_ok, he]
  exact g3
end DL
namespace DL
open PySem PySem.Spec PyProof.Rows L2
theorem lit_ok {a : Xs} {ρ : En} {S : Sto} {l : List Dv} (h : a ρ S = .ok l S) (hl : l.length ≤ 1000) : eN mkL a ρ S = .ok (.lst l) S := by
  rw [eN_ok h]
  unfold mkL
  rw [if_pos (by rw [sizeLine_eq]; omega)]
theorem cell_ok {a : Xs} {ρ : En} {S S1 : Sto} {l : List Dv} (h : a ρ S = .ok l S1) (hl : l.length ≤ 1000) : eN mkC a ρ S = .ok (.cell S1.length) (S1 ++ [.lst l]) := by
  rw [eN_ok h]
  unfold mkC
  rw [if_pos (by rw [sizeLine_eq]; omega)]
theorem isL_cell {S : Sto} {k : Nat} {l : List Dv} (h : S[k]? = some (.lst l)) : isL (.cell k) S = true := (asQ_of (asL_cell h)).2.2
theorem append_ok {o e : Ex} {ρ : En} {S S1 : Sto} {k : Nat} {l0 l : List Dv} {y : Dv} (ho : o ρ S = .ok (.cell k) S) (hk : S[k]? = some (.lst l0)) (he : e ρ S = .ok y S1) (hk1 : S1[k]? = some (.lst l)) (hl : l.length ≤ 1000) :
    eM isL mApp o (aCons e aNil) ρ S = .ok .non (S1.set k (.lst (l ++ [y]))) := by
  unfold eM
  rw [ho, Re.bind_ok, if_pos (isL_cell hk), aCons_ok he (show aNil ρ S1 = .ok [] S1 from rfl), Re.bind_ok]
  unfold mApp
  dsimp only
  rw [hk1]
  dsimp only
  rw [if_pos (by rw [sizeLine_eq]; omega)]
theorem popAt_ok {o e : Ex} {ρ : En} {S S1 : Sto} {k : Nat} {l0 l : List Dv} {j : Int} (ho : o ρ S = .ok (.cell k) S) (hk : S[k]? = some (.lst l0)) (he : e ρ S = .ok (.int j) S1) (hk1 : S1[k]? = some (.lst l)) (h0 : 0 ≤ j) (hj : j < l.length) (hl : l.length ≤ 1000) :
    ∃ y, l[j.toNat]? = some y ∧ eM isL mPopAt o (aCons e aNil) ρ S = .ok y (S1.set k (.lst (l.eraseIdx j.toNat))) := by
  have hlt : j.toNat < l.length := by omega
  refine ⟨l[j.toNat], List.getElem?_eq_getElem hlt, ?_⟩
  unfold eM
  rw [ho, Re.bind_ok, if_pos (isL_cell hk), aCons_ok he (show aNil ρ S1 = .ok [] S1 from rfl), Re.bind_ok]
  unfold mPopAt
  dsimp only
  rw [hk1]
  dsimp only
  rw [if_pos ⟨h0, by omega⟩, List.getElem?_eq_getElem hlt]
theorem len_cell {ρ : En} {S : Sto} {i k : Nat} {l : List Dv} (hi : ρ[i]? = some (some (.cell k))) (h : S[k]? = some (.lst l)) : eN bLen (aCons (eV i) aNil) ρ S = .ok (.int l.length) S := by
  have e0 : eV i ρ S = .ok (.cell k) S := by unfold eV; rw [hi]
  rw [eN1 e0]
  unfold bLen
  dsimp only
  rw [(asQ_of (asL_cell h)).1]
theorem erase_map {α β : Type} (f : α → β) : ∀ (l : List α) (i : Nat), (l.map f).eraseIdx i = (l.eraseIdx i).map f
  | [], _ => rfl
  | _ :: _, 0 => rfl
  | a :: r, i + 1 => by simp [erase_map f r i]
/-- found.append(left.pop(grind(mill, len(left)))) -/
theorem take_one {α : Type} {f : α → Dv} {ρ : En} {S : Sto} {k im il ifd cl cf : Nat} {left taken : List α} (hm : Mill S k) (h1 : ρ[im]? = some (some (.cell k))) (h2 : ρ[il]? = some (some (.cell cl))) (h3 : ρ[ifd]? = some (some (.cell cf)))
    (h4 : S[cl]? = some (.lst (left.map f))) (h5 : S[cf]? = some (.lst (taken.map f))) (hl : left ≠ []) (hb : left.length ≤ 1000) (hb2 : taken.length ≤ 1000) (n1 : cl ≠ k) (n2 : cf ≠ k) (n3 : cl ≠ cf) :
    ∃ (j : Nat) (y : α) (S' : Sto), left[j]? = some y ∧ eM isL mApp (eV ifd) (aCons (eM isL mPopAt (eV il) (aCons (eCall 2 m__law_grind (aCons (eV im) (aCons (eN bLen (aCons (eV il) aNil)) aNil))) aNil)) aNil) ρ S = .ok .non S' ∧
      S'.length = S.length ∧ S'[cl]? = some (.lst ((left.eraseIdx j).map f)) ∧ S'[cf]? = some (.lst ((taken ++ [y]).map f)) ∧ (∀ i, i ≠ k → i ≠ cl → i ≠ cf → S'[i]? = S[i]?) ∧ Mill S' k := by
  have hlen : 0 < left.length := List.length_pos_iff.mpr hl
  have hll : ((left.map f).length : Int) = (left.length : Int) := by rw [List.length_map]
  obtain ⟨i, S1, g1, g2, g3, g4, g5, g6⟩ := draw_e (S1 := S) (e := eN bLen (aCons (eV il) aNil)) (c := ((left.map f).length : Int)) h1 (len_cell h2 h4) hm (by omega) (by omega)
  have e2 : eV il ρ S = .ok (.cell cl) S := by unfold eV; rw [h2]
  have e3 : eV ifd ρ S = .ok (.cell cf) S := by unfold eV; rw [h3]
  have k4 : S1[cl]? = some (.lst (left.map f)) := by rw [g5 cl n1]; exact h4
  have k5 : S1[cf]? = some (.lst (taken.map f)) := by rw [g5 cf n2]; exact h5
  obtain ⟨y', hy, hp⟩ := popAt_ok e2 h4 g3 k4 g1 g2 (by rw [List.length_map]; exact hb)
  rw [List.getElem?_map, Option.map_eq_some_iff] at hy
  obtain ⟨y, hy, rfl⟩ := hy
  have l1 : cl < S1.length := (List.getElem?_eq_some_iff.mp k4).1
  have k6 : (S1.set cl (Ob.lst ((left.map f).eraseIdx i.toNat)))[cf]? = some (.lst (taken.map f)) := by rw [List.getElem?_set_ne n3]; exact k5
  have ap := append_ok e3 h5 hp k6 (by rw [List.length_map]; exact hb2)
  refine ⟨i.toNat, y, _, hy, ap, by rw [List.length_set, List.length_set]; exact g4, ?_, ?_, fun m a b c => ?_, ?_⟩
  · rw [List.getElem?_set_ne (Ne.symm n3), List.getElem?_set_self l1, erase_map]
  · rw [List.getElem?_set_self (by rw [List.length_set]; exact (List.getElem?_eq_some_iff.mp k5).1), List.map_append]
    rfl
  · rw [List.getElem?_set_ne (Ne.symm c), List.getElem?_set_ne (Ne.symm b)]
    exact g5 m a
  · obtain ⟨p, q, h, h'⟩ := g6.mill
    exact ⟨p, q, by rw [List.getElem?_set_ne n2, List.getElem?_set_ne n1]; exact h, h'⟩
theorem erase_perm {α : Type} : ∀ {l : List α} {i : Nat} {y : α}, l[i]? = some y → (y :: l.eraseIdx i).Perm l
  | [], _, _, h => by simp at h
  | a :: r, 0, y, h => by
    simp at h
    subst h
    exact List.Perm.refl _
  | a :: r, i + 1, y, h => by
    have ih := erase_perm (l := r) (i := i) (y := y) (by simpa using h)
    exact (List.Perm.swap a y _).trans (ih.cons a)
theorem pop_perm {α : Type} {left taken : List α} {j : Nat} {y : α} (h : left[j]? = some y) : ((taken ++ [y]) ++ left.eraseIdx j).Perm (taken ++ left) := by
  rw [List.append_assoc]
  exact List.Perm.append_left taken (erase_perm h)
end DL
namespace DL
open PySem PySem.Spec PyProof.Rows L2
theorem rg_ok {a : Ex} {ρ : En} {S S1 : Sto} {n : Nat} (h : a ρ S = .ok (.int n) S1) (hn : n ≤ 1000) : iRg1 (aCons a aNil) ρ S = .ok (rgD 0 n, always) S1 := by
  unfold iRg1
  rw [aCons_ok h (show aNil ρ S1 = .ok [] S1 from rfl), Re.bind_ok]
  dsimp only
  rw [if_pos ⟨by omega, by omega⟩, Int.toNat_natCast]
/-- [..] + one, in a cell at the end of the store -/
theorem push_ok {S : Sto} {ρ : En} {i : Nat} {l : List Dv} {e : Ex} {y : Dv} (hi : ρ[i]? = some (some (.cell S.length))) (he : e ρ (S ++ [.lst l]) = .ok y (S ++ [.lst l])) (hl : l.length ≤ 1000) :
    sExpr (eM isL mApp (eV i) (aCons e aNil)) ρ (S ++ [.lst l]) = .nx ρ (S ++ [.lst (l ++ [y])]) := by
  have hk : (S ++ [Ob.lst l])[S.length]? = some (.lst l) := by rw [List.getElem?_append_right (Nat.le_refl _), Nat.sub_self]; rfl
  have e0 : eV i ρ (S ++ [.lst l]) = .ok (.cell S.length) (S ++ [.lst l]) := by unfold eV; rw [hi]
  unfold sExpr
  rw [append_ok e0 hk he hk hl, Re.toS_ok, List.set_append_right _ _ (Nat.le_refl _), Nat.sub_self]
  rfl
theorem tribes_ok {S : Sto} {k : Nat} (hm : Mill S k) (n : Nat) (hn : n ≤ 8) : ∃ (j : Nat) (ks : List Str) (S' : Sto), m__law_tribes [.cell k, .int n] S = .ok (.cell j) S' ∧ S'[j]? = some (.lst (ks.map .str)) ∧ S.length ≤ j ∧ Nx k S S' ∧ ks.length = n ∧ ks.Nodup ∧ ∀ x ∈ ks, nameOk x = true := by
  have klt := hm.lt
  have s1 : sSet 2 (eN mkC (aCons (eN mkL (aCons (eC (.str "a")) (aCons (eC (.str "b")) (aCons (eC (.str "c")) (aCons (eC (.str "d")) (aCons (eC (.str "e")) (aCons (eC (.str "f")) (aCons (eC (.str "g")) (aCons (eC (.str "h")) aNil))))))))) aNil)) [some (.cell k), some (.int n), none, none, none, none] S =
      .nx [some (.cell k), some (.int n), some (.cell S.length), none, none, none] (S ++ [.lst [.lst (row0.map .str)]]) := by
    unfold sSet
    rw [cell_ok (l := [.lst (row0.map .str)]) (S1 := S) (aCons_ok (lit_ok (l := row0.map .str) rfl (by decide)) rfl) (by simp)]
    rfl
  have s2 : sExpr (eM isL mApp (eV 2) (aCons (eN mkL (aCons (eC (.str "red")) (aCons (eC (.str "blue")) (aCons (eC (.str "re")) (aCons (eC (.str "bluer")) (aCons (eC (.str "r")) (aCons (eC (.str "b")) (aCons (eC (.str "redred")) (aCons (eC (.str "blu")) aNil))))))))) aNil)) [some (.cell k), some (.int n), some (.cell S.length), none, none, none] (S ++ [.lst [.lst (row0.map .str)]]) =
      .nx [some (.cell k), some (.int n), some (.cell S.length), none, none, none] (S ++ [.lst [.lst (row0.map .str), .lst (row1.map .str)]]) :=
    push_ok rfl (lit_ok (l := row1.map .str) rfl (by decide)) (by simp)
  have s3 : sExpr (eM isL mApp (eV 2) (aCons (eN mkL (aCons (eC (.str "kind")) (aCons (eC (.str "kinds")) (aCons (eC (.str "sees")) (aCons (eC (.str "seesaw")) (aCons (eC (.str "ab")) (aCons (eC (.str "ba")) (aCons (eC (.str "abcdefgh")) (aCons (eC (.str "abcdefgz")) aNil))))))))) aNil)) [some (.cell k), some (.int n), some (.cell S.length), none, none, none] (S ++ [.lst [.lst (row0.map .str), .lst (row1.map .str)]]) =
      .nx [some (.cell k), some (.int n), some (.cell S.length), none, none, none] (S ++ [.lst [.lst (row0.map .str), .lst (row1.map .str), .lst (row2.map .str)]]) :=
    push_ok rfl (lit_ok (l := row2.map .str) rfl (by decide)) (by simp)
  have hm3 : Nx k S (S ++ [.lst [.lst (row0.map .str), .lst (row1.map .str), .lst (row2.map .str)]]) := (Nx.rfl hm).push _
  have hrows : (S ++ [Ob.lst [.lst (row0.map .str), .lst (row1.map .str), .lst (row2.map .str)]])[S.length]? = some (.lst [.lst (row0.map .str), .lst (row1.map .str), .lst (row2.map .str)]) := by rw [List.getElem?_append_right (Nat.le_refl _), Nat.sub_self]; rfl
  generalize hS3 : S ++ [Ob.lst [.lst (row0.map .str), .lst (row1.map .str), .lst (row2.map .str)]] = S3 at s3 hm3 hrows
  have hl3 : S3.length = S.length + 1 := by rw [← hS3]; simp
  obtain ⟨i, S4, g1, g2, g3, g4, g5, g6⟩ := draw_e (ρ := [some (.cell k), some (.int n), some (.cell S.length), none, none, none]) (i := 0) (e := eC (.int 3)) (c := 3) (S := S3) (S1 := S3) rfl rfl hm3.mill (by omega) (by omega)
  have hrow : ∃ row ∈ [row0, row1, row2], ([.lst (row0.map .str), .lst (row1.map .str), .lst (row2.map .str)] : List Dv)[i.toNat]? = some (.lst (row.map .str)) := by
    have : i = 0 ∨ i = 1 ∨ i = 2 := by omega
    rcases this with rfl | rfl | rfl
    · exact ⟨row0, by simp, rfl⟩
    · exact ⟨row1, by simp, rfl⟩
    · exact ⟨row2, by simp, rfl⟩
  obtain ⟨row, hrm, hri⟩ := hrow
  obtain ⟨r1, r2, r3⟩ := rows_ok row hrm
  have hne : S.length ≠ k := by omega
  have ixr : e2 oIx (eV 2) (eCall 2 m__law_grind (aCons (eV 0) (aCons (eC (.int 3)) aNil))) [some (.cell k), some (.int n), some (.cell S.length), none, none, none] S3 = .ok (.lst (row.map .str)) S4 := by
    rw [e2_ok (x := .cell S.length) (S1 := S3) rfl g3]
    have := cell_ix (S := S4) (k := S.length) i.toNat (by rw [g5 _ hne]; exact hrows) hri
    rwa [Int.toNat_of_nonneg g1] at this
  have s4 : sPar 3 4 (aCons (eN bListC (aCons (e2 oIx (eV 2) (eCall 2 m__law_grind (aCons (eV 0) (aCons (eC (.int 3)) aNil)))) aNil)) (aCons (eN mkC aNil) aNil)) [some (.cell k), some (.int n), some (.cell S.length), none, none, none] S3 =
      .nx [some (.cell k), some (.int n), some (.cell S.length), some (.cell (S.length + 1)), some (.cell (S.length + 2)), none] (S4 ++ [Ob.lst (row.map .str)] ++ [Ob.lst []]) := by
    unfold sPar
    rw [aCons_ok (x := .cell S4.length) (S1 := S4 ++ [Ob.lst (row.map .str)]) (by rw [eN1 ixr]; rfl) (aCons_ok (cell_ok (l := []) rfl (by simp)) rfl), Re.toS_ok]
    rw [List.length_append, g4, hl3]
    rfl
  have hn5 : Nx k S (S4 ++ [Ob.lst (row.map .str)] ++ [Ob.lst []]) := ((hm3.trans g6).push _).push _
  have hl5 : (S4 ++ [Ob.lst (row.map .str)] ++ [Ob.lst []]).length = S.length + 3 := by simp [g4, hl3]
  have c1 : (S4 ++ [Ob.lst (row.map .str)] ++ [Ob.lst []])[S.length + 1]? = some (.lst (row.map .str)) := by
    rw [List.getElem?_append_left (by simp [g4, hl3]), List.getElem?_append_right (by rw [g4, hl3]; exact Nat.le_refl _), g4, hl3, Nat.sub_self]
    rfl
  have c2 : (S4 ++ [Ob.lst (row.map .str)] ++ [Ob.lst []])[S.length + 2]? = some (.lst []) := by
    rw [List.getElem?_append_right (by simp [g4, hl3])]
    simp [g4, hl3]
  generalize S4 ++ [Ob.lst (row.map .str)] ++ [Ob.lst []] = S5 at s4 hn5 hl5 c1 c2
  obtain ⟨ρ', S', e, taken, left, ⟨x', rfl⟩, q1, q2, q3, q4, q5⟩ := sFor_inv (f := iRg1 (aCons (eV 1) aNil)) (g := gN 5) (b := sExpr (eM isL mApp (eV 4) (aCons (eM isL mPopAt (eV 3) (aCons (eCall 2 m__law_grind (aCons (eV 0) (aCons (eN bLen (aCons (eV 3) aNil)) aNil))) aNil)) aNil))) (l := rgD 0 n) (chk := always) (S := S5) (S0 := S5)
    (ρ := [some (.cell k), some (.int n), some (.cell S.length), some (.cell (S.length + 1)), some (.cell (S.length + 2)), none])
    (fun i ρ S' => ∃ taken left : List Str, (∃ x, ρ = [some (.cell k), some (.int n), some (.cell S.length), some (.cell (S.length + 1)), some (.cell (S.length + 2)), x]) ∧ S'[S.length + 1]? = some (.lst (left.map .str)) ∧ S'[S.length + 2]? = some (.lst (taken.map .str)) ∧ Nx k S S' ∧ taken.length = i ∧ (taken ++ left).Perm row)
    (rg_ok rfl (by omega)) (always_ _) ⟨[], row, ⟨none, rfl⟩, c1, c2, hn5, rfl, List.Perm.refl _⟩ (by
      rintro i d ρ S' hd ⟨taken, left, ⟨x, rfl⟩, q1, q2, q3, q4, q5⟩
      have hi : i < n := by
        have := (List.getElem?_eq_some_iff.mp hd).1
        unfold rgD at this
        simpa using this
      have hlen := q5.length_eq
      rw [List.length_append, r1, q4] at hlen
      obtain ⟨j, y, S2, w1, w2, w3, w4, w5, w6, w7⟩ := take_one (f := Dv.str) (ρ := [some (.cell k), some (.int n), some (.cell S.length), some (.cell (S.length + 1)), some (.cell (S.length + 2)), some d]) (S := S') (k := k) (im := 0) (il := 3) (ifd := 4) (cl := S.length + 1) (cf := S.length + 2) (left := left) (taken := taken) q3.mill rfl rfl rfl q1 q2 (by intro z; rw [z] at hlen; simp at hlen; omega) (by omega) (by omega) (by omega) (by omega) (by omega)
      refine ⟨[some (.cell k), some (.int n), some (.cell S.length), some (.cell (S.length + 1)), some (.cell (S.length + 2)), some d], S2, ?_, always_ _, taken ++ [y], left.eraseIdx j, ⟨_, rfl⟩, w4, w5, ⟨by rw [w3]; exact q3.le, fun m a b => by rw [w6 m b (by omega) (by omega)]; exact q3.old m a b, w7⟩, by rw [List.length_append, q4]; rfl, (pop_perm w1).trans q5⟩
      show sExpr _ _ S' = _
      unfold sExpr
      show Re.toS (eM isL mApp (eV 4) _ [some (.cell k), some (.int n), some (.cell S.length), some (.cell (S.length + 1)), some (.cell (S.length + 2)), some d] S') _ _ = _
      rw [w2]
      rfl)
  have hrl : (rgD 0 n).length = n := by unfold rgD; simp
  rw [hrl] at q4
  refine ⟨S.length + 2, taken, S', ?_, q2, by omega, q3, q4, ?_, fun x hx => r3 x (q5.mem_iff.mp (List.mem_append_left _ hx))⟩
  · unfold m__law_tribes runD b__law_tribes
    show (sSeq _ _ [some (.cell k), some (.int n), none, none, none, none] S).toR = _
    unfold sSeq
    rw [s1, SRe.seq_nx, s2, SRe.seq_nx, s3, SRe.seq_nx, s4, SRe.seq_nx, e, SRe.seq_nx]
    rfl
  · exact ((q5.nodup_iff.mpr r2).sublist (List.sublist_append_left _ _))
end DL
namespace DL
open PySem PySem.Spec PyProof.Rows L2
/-! ### every rule that may be -/
def trio (ks : List Str) (a b : Str) : List R3 := (ks.filter fun c => decide (c ≠ a)).map fun c => (a, b, c)
def triA (A ks : List Str) : List R3 := A.flatMap fun a => ks.flatMap (trio ks a)
theorem flat_len {α β : Type} {f : α → List β} {m : Nat} : ∀ {l : List α}, (∀ a ∈ l, (f a).length ≤ m) → (l.flatMap f).length ≤ l.length * m
  | [], _ => by simp
  | a :: r, h => by
    rw [List.flatMap_cons, List.length_append, List.length_cons, Nat.succ_mul]
    have h1 := h a List.mem_cons_self
    have h2 := flat_len (l := r) (f := f) (m := m) fun b hb => h b (List.mem_cons_of_mem _ hb)
    omega
theorem trio_len (ks : List Str) (a b : Str) : (trio ks a b).length ≤ ks.length := by
  unfold trio
  rw [List.length_map]
  exact List.length_filter_le _ _
theorem mem_trio {ks : List Str} {a b : Str} {r : R3} : r ∈ trio ks a b ↔ r.1 = a ∧ r.2.1 = b ∧ r.2.2 ∈ ks ∧ r.2.2 ≠ a := by
  unfold trio
  simp only [List.mem_map, List.mem_filter, decide_eq_true_eq]
  constructor
  · rintro ⟨c, ⟨h1, h2⟩, rfl⟩
    exact ⟨rfl, rfl, h1, h2⟩
  · rintro ⟨h1, h2, h3, h4⟩
    exact ⟨r.2.2, ⟨h3, h4⟩, by rw [← h1, ← h2]⟩
theorem mem_triA {A ks : List Str} {r : R3} : r ∈ triA A ks ↔ r.1 ∈ A ∧ r.2.1 ∈ ks ∧ r.2.2 ∈ ks ∧ r.2.2 ≠ r.1 := by
  unfold triA
  simp only [List.mem_flatMap, mem_trio]
  constructor
  · rintro ⟨a, ha, b, hb, h1, h2, h3, h4⟩
    exact ⟨h1 ▸ ha, h2 ▸ hb, h3, h1 ▸ h4⟩
  · rintro ⟨h1, h2, h3, h4⟩
    exact ⟨_, h1, _, h2, rfl, rfl, h3, h4⟩
theorem triA_nodup {ks : List Str} (h : ks.Nodup) : (triA ks ks).Nodup := by
  unfold triA List.Nodup
  rw [List.pairwise_flatMap]
  refine ⟨fun a _ => ?_, h.imp fun {a b} hab x hx y hy e => ?_⟩
  · rw [List.pairwise_flatMap]
    refine ⟨fun b _ => ?_, h.imp fun {b c} hbc x hx y hy e => ?_⟩
    · unfold trio
      rw [List.pairwise_map]
      exact (h.sublist List.filter_sublist).imp fun {x y} hxy e => hxy (by cases e; rfl)
    · exact hbc ((mem_trio.mp hx).2.1.symm.trans (e ▸ (mem_trio.mp hy).2.1))
  · obtain ⟨b, _, h1⟩ := List.mem_flatMap.mp hx
    obtain ⟨c, _, h2⟩ := List.mem_flatMap.mp hy
    exact hab ((mem_trio.mp h1).1.symm.trans (e ▸ (mem_trio.mp h2).1))
theorem triA_len (A ks : List Str) (h1 : A.length ≤ 8) (h2 : ks.length ≤ 8) : (triA A ks).length ≤ 512 := by
  have z : ∀ a, (ks.flatMap (trio ks a)).length ≤ 64 := fun a => by
    have := flat_len (l := ks) (f := trio ks a) (m := 8) fun b _ => Nat.le_trans (trio_len ks a b) h2
    omega
  have := flat_len (l := A) (f := fun a => ks.flatMap (trio ks a)) (m := 64) fun a _ => z a
  unfold triA
  omega
theorem ruleIn_of {ks : List Str} {r : R3} (h : r.1 ∈ ks ∧ r.2.1 ∈ ks ∧ r.2.2 ∈ ks ∧ r.2.2 ≠ r.1) : ruleIn ks r = true := by
  unfold ruleIn
  simp only [Bool.and_eq_true, decide_eq_true_eq]
  exact h
/-- [(who, whom, what) for what in kinds if what != who] -/
theorem lc_trio {S : Sto} {j : Nat} {ks : List Str} {a b : Str} {ρ : En} (hj : S[j]? = some (.lst (ks.map .str))) (hk : ks.length ≤ 1000) (h3 : ρ[3]? = some (some (.cell j))) (h6 : ρ[6]? = some (some (.str a))) (h7 : ρ[7]? = some (some (.str b))) (hl : ρ.length = 10) :
    eLc (iSeq (eV 3)) (gN 9) (tV (e2 oNe (eV 9) (eV 6))) (eN mkT (aCons (eV 6) (aCons (eV 7) (aCons (eV 9) aNil)))) [9] ρ S = .ok (.lst ((trio ks a b).map dR)) S := by
  obtain ⟨chk, hi, hc⟩ := it_asL (asL_cell hj)
  have q := eLc_pure (f := iSeq (eV 3)) (g := gN 9) (t := tV (e2 oNe (eV 9) (eV 6))) (e := eN mkT (aCons (eV 6) (aCons (eV 7) (aCons (eV 9) aNil)))) (vs := [9]) (ρ := ρ) (S := S) (l := ks.map .str) (chk := chk) (fun d => match d with | .str c => if (!(c == a)) = true then some (dR (a, b, c)) else none | _ => none)
    (by
      unfold iSeq
      rw [show eV 3 ρ S = .ok (.cell j) S from by unfold eV; rw [h3], Re.bind_ok]
      exact hi) hc (by rw [List.length_map, sizeLine_eq]; omega) (fun d hd => by
      obtain ⟨c, hcm, rfl⟩ := List.mem_map.mp hd
      have e9 : eV 9 ((wipeE ρ [9]).set 9 (some (.str c))) S = .ok (.str c) S := by
        unfold eV
        rw [List.getElem?_set_self (by simp [wipeE, hl])]
      have e6 : eV 6 ((wipeE ρ [9]).set 9 (some (.str c))) S = .ok (.str a) S := by
        unfold eV
        rw [List.getElem?_set_ne (by decide)]
        simp [wipeE, h6]
      have e7 : eV 7 ((wipeE ρ [9]).set 9 (some (.str c))) S = .ok (.str b) S := by
        unfold eV
        rw [List.getElem?_set_ne (by decide)]
        simp [wipeE, h7]
      refine turn_if (y := dR (a, b, c)) ?_ ?_
      · unfold tV
        rw [e2_ok e9 e6]
        rfl
      · rw [eN_ok (aCons_ok e6 (aCons_ok e7 (aCons_ok e9 rfl)))]
        unfold mkT
        rw [if_pos (by rw [sizeLine_eq]; simp)]
        rfl)
  rw [q]
  congr 2
  rw [List.filterMap_map]
  unfold trio
  rw [List.map_map, ← List.filterMap_eq_filter, List.map_filterMap]
  refine fm_congr fun c _ => ?_
  by_cases h : c = a
  · simp [h, Option.guard]
  · simp [h, Option.guard]
theorem nonempty_test {S : Sto} {i e : Nat} {rest : List R3} {ρ : En} (hi : ρ[i]? = some (some (.cell e))) (he : S[e]? = some (.lst (rest.map dR))) (hok : ∀ r ∈ rest, okR r) : tV (e2 oNe (eV i) (eN mkL aNil)) ρ S = .ok (!decide (rest = [])) S := by
  have e0 : eV i ρ S = .ok (.cell e) S := by unfold eV; rw [hi]
  unfold tV
  rw [e2_ok e0 (lit_ok (l := []) rfl (by simp))]
  show ((oEqD not (.cell e) (.lst []) S).bind _) = _
  unfold oEqD
  rw [toPy_cell he (pyPs_map pyP_dR rest), toPy_lst (S := S) (l := []) (ps := []) (by simp [toPys])]
  dsimp only
  rw [(shapedRs hok).1, show SeqAt.shaped (.list []) = true from by decide +kernel]
  have z := eqvAll_map (g := pR) eqv_pR rest []
  rw [List.map_nil] at z
  rw [PyData.eqv, z]
  rfl
end DL
namespace DL
open PySem PySem.Spec PyProof.Rows L2
noncomputable def m__law_manual : Fn := runD 10 (b__law_manual m__law_tribes m__law_grind)
theorem take_succ {α : Type} {l : List α} {i : Nat} {a : α} (h : l[i]? = some a) : l.take (i + 1) = l.take i ++ [a] := by
  rw [List.take_add_one, h]
  rfl
/-- the inner round: for whom in kinds_here -/
theorem round_ok {S : Sto} {k j f e0 : Nat} {ks : List Str} {a : Str} {A : List R3} {x7 : Option Dv} {S0 : Sto} (hn : Nx k S0 S) (hj : S[j]? = some (.lst (ks.map .str))) (hf : S[f]? = some (.lst [])) (he : S[e0]? = some (.lst (A.map dR))) (j1 : j ≠ k) (f1 : f ≠ k) (hA : A.length ≤ 512) (hk : ks.length ≤ 8) :
    ∃ x7' e' S', sFor (iSeq (eV 3)) (gN 7) (sSet 5 (e2 oAddC (eV 5) (eLc (iSeq (eV 3)) (gN 9) (tV (e2 oNe (eV 9) (eV 6))) (eN mkT (aCons (eV 6) (aCons (eV 7) (aCons (eV 9) aNil)))) [9]))) [some (.cell k), some (.int mk), some (.int mr), some (.cell j), some (.cell f), some (.cell e0), some (.str a), x7, none, none] S =
      .nx [some (.cell k), some (.int mk), some (.int mr), some (.cell j), some (.cell f), some (.cell e'), some (.str a), x7', none, none] S' ∧ Nx k S0 S' ∧ S'[j]? = some (.lst (ks.map .str)) ∧ S'[f]? = some (.lst []) ∧ S'[e']? = some (.lst ((A ++ ks.flatMap (trio ks a)).map dR)) ∧ (e' = e0 ∨ S.length ≤ e') ∧ S.length ≤ S'.length := by
  obtain ⟨chk, hi, hc⟩ := it_asL (asL_cell hj)
  have hchk : ∀ S', S'[j]? = some (.lst (ks.map .str)) → chk S' := by
    intro S' h
    have e : itD (.cell j) S = .ok (ks.map .str, fun S' => S'[j]? = some (.lst (ks.map .str))) S := by
      unfold itD
      dsimp only
      rw [hj]
    rw [hi] at e
    have : chk = fun S' => S'[j]? = some (.lst (ks.map .str)) := by
      injection e with e1 e2
      injection e1
    rw [this]
    exact h
  obtain ⟨ρ', S', e, x7', e', rfl, q1, q2, q3, q4, q5, q6⟩ := sFor_inv (f := iSeq (eV 3)) (g := gN 7) (b := sSet 5 (e2 oAddC (eV 5) (eLc (iSeq (eV 3)) (gN 9) (tV (e2 oNe (eV 9) (eV 6))) (eN mkT (aCons (eV 6) (aCons (eV 7) (aCons (eV 9) aNil)))) [9]))) (l := ks.map .str) (chk := chk) (S := S) (S0 := S)
    (ρ := [some (.cell k), some (.int mk), some (.int mr), some (.cell j), some (.cell f), some (.cell e0), some (.str a), x7, none, none])
    (fun i ρ S' => ∃ x7 e', ρ = [some (.cell k), some (.int mk), some (.int mr), some (.cell j), some (.cell f), some (.cell e'), some (.str a), x7, none, none] ∧ Nx k S0 S' ∧ S'[j]? = some (.lst (ks.map .str)) ∧ S'[f]? = some (.lst []) ∧ S'[e']? = some (.lst ((A ++ (ks.take i).flatMap (trio ks a)).map dR)) ∧ (e' = e0 ∨ S.length ≤ e') ∧ S.length ≤ S'.length)
    (by
      unfold iSeq
      rw [show eV 3 [some (.cell k), some (.int mk), some (.int mr), some (.cell j), some (.cell f), some (.cell e0), some (.str a), x7, none, none] S = .ok (.cell j) S from rfl, Re.bind_ok]
      exact hi) hc ⟨x7, e0, rfl, hn, hj, hf, by simpa using he, .inl rfl, Nat.le_refl _⟩ (by
      rintro i d ρ S' hd ⟨x7, e', rfl, q1, q2, q3, q4, q5, q6⟩
      rw [List.getElem?_map, Option.map_eq_some_iff] at hd
      obtain ⟨b, hb, rfl⟩ := hd
      have lc := lc_trio (S := S') (j := j) (ks := ks) (a := a) (b := b) (ρ := [some (.cell k), some (.int mk), some (.int mr), some (.cell j), some (.cell f), some (.cell e'), some (.str a), some (.str b), none, none]) q2 (by omega) rfl rfl rfl rfl
      have hlen : ((A ++ (ks.take i).flatMap (trio ks a)).map dR ++ (trio ks a b).map dR).length ≤ 1000 := by
        have z1 := flat_len (l := ks.take i) (f := trio ks a) (m := 8) fun b _ => Nat.le_trans (trio_len ks a b) hk
        have z2 := trio_len ks a b
        have z3 : (ks.take i).length ≤ 8 := by rw [List.length_take]; omega
        simp only [List.length_append, List.length_map]
        omega
      have ad : e2 oAddC (eV 5) (eLc (iSeq (eV 3)) (gN 9) (tV (e2 oNe (eV 9) (eV 6))) (eN mkT (aCons (eV 6) (aCons (eV 7) (aCons (eV 9) aNil)))) [9]) [some (.cell k), some (.int mk), some (.int mr), some (.cell j), some (.cell f), some (.cell e'), some (.str a), some (.str b), none, none] S' =
          .ok (.cell S'.length) (S' ++ [.lst ((A ++ (ks.take (i + 1)).flatMap (trio ks a)).map dR)]) := by
        rw [e2_ok (x := .cell e') (S1 := S') rfl lc]
        unfold oAddC
        rw [asL_cell q4, show asL S' (.lst ((trio ks a b).map dR)) = some ((trio ks a b).map dR) from rfl]
        dsimp only
        unfold mkC
        rw [if_pos (by rw [sizeLine_eq]; omega), take_succ hb, List.flatMap_append, ← List.append_assoc, List.map_append (l₁ := A ++ _)]
        simp
      have jl := (List.getElem?_eq_some_iff.mp q2).1
      have fl := (List.getElem?_eq_some_iff.mp q3).1
      refine ⟨[some (.cell k), some (.int mk), some (.int mr), some (.cell j), some (.cell f), some (.cell S'.length), some (.str a), some (.str b), none, none], S' ++ [.lst ((A ++ (ks.take (i + 1)).flatMap (trio ks a)).map dR)], ?_, ?_, _, S'.length, rfl, q1.push _, ?_, ?_, ?_, .inr q6, by simp; omega⟩
      · show sSet 5 _ [some (.cell k), some (.int mk), some (.int mr), some (.cell j), some (.cell f), some (.cell e'), some (.str a), some (.str b), none, none] S' = _
        unfold sSet
        rw [ad]
        rfl
      · exact hchk _ (by rw [List.getElem?_append_left jl]; exact q2)
      · rw [List.getElem?_append_left jl]; exact q2
      · rw [List.getElem?_append_left fl]; exact q3
      · rw [List.getElem?_append_right (Nat.le_refl _), Nat.sub_self]; rfl)
  rw [List.length_map, List.take_length] at q4
  exact ⟨x7', e', S', e, q1, q2, q3, q4, q5, q6⟩
/-- both rounds -/
theorem rounds_ok {S : Sto} {mk mr : Int} {k j f e0 : Nat} {ks : List Str} {S0 : Sto} (hn : Nx k S0 S) (hj : S[j]? = some (.lst (ks.map .str))) (hf : S[f]? = some (.lst [])) (he : S[e0]? = some (.lst [])) (j1 : j ≠ k) (f1 : f ≠ k) (hk : ks.length ≤ 8) (hS0 : S0.length ≤ e0) :
    ∃ x6 x7 e' S', sFor (iSeq (eV 3)) (gN 6) (sFor (iSeq (eV 3)) (gN 7) (sSet 5 (e2 oAddC (eV 5) (eLc (iSeq (eV 3)) (gN 9) (tV (e2 oNe (eV 9) (eV 6))) (eN mkT (aCons (eV 6) (aCons (eV 7) (aCons (eV 9) aNil)))) [9])))) [some (.cell k), some (.int mk), some (.int mr), some (.cell j), some (.cell f), some (.cell e0), none, none, none, none] S =
      .nx [some (.cell k), some (.int mk), some (.int mr), some (.cell j), some (.cell f), some (.cell e'), x6, x7, none, none] S' ∧ Nx k S0 S' ∧ S'[j]? = some (.lst (ks.map .str)) ∧ S'[f]? = some (.lst []) ∧ S'[e']? = some (.lst ((triA ks ks).map dR)) ∧ (e' = e0 ∨ S.length ≤ e') := by
  obtain ⟨chk, hi, hc⟩ := it_asL (asL_cell hj)
  have hchk : ∀ S', S'[j]? = some (.lst (ks.map .str)) → chk S' := by
    intro S' h
    have e : itD (.cell j) S = .ok (ks.map .str, fun S' => S'[j]? = some (.lst (ks.map .str))) S := by
      unfold itD
      dsimp only
      rw [hj]
    rw [hi] at e
    have : chk = fun S' => S'[j]? = some (.lst (ks.map .str)) := by
      injection e with e1 e2
      injection e1
    rw [this]
    exact h
  obtain ⟨ρ', S', e, x6, x7, e', rfl, q1, q2, q3, q4, q5, q6⟩ := sFor_inv (f := iSeq (eV 3)) (g := gN 6) (b := (sFor (iSeq (eV 3)) (gN 7) (sSet 5 (e2 oAddC (eV 5) (eLc (iSeq (eV 3)) (gN 9) (tV (e2 oNe (eV 9) (eV 6))) (eN mkT (aCons (eV 6) (aCons (eV 7) (aCons (eV 9) aNil)))) [9]))))) (l := ks.map .str) (chk := chk) (S := S) (S0 := S)
    (ρ := [some (.cell k), some (.int mk), some (.int mr), some (.cell j), some (.cell f), some (.cell e0), none, none, none, none])
    (fun i ρ S' => ∃ x6 x7 e', ρ = [some (.cell k), some (.int mk), some (.int mr), some (.cell j), some (.cell f), some (.cell e'), x6, x7, none, none] ∧ Nx k S0 S' ∧ S'[j]? = some (.lst (ks.map .str)) ∧ S'[f]? = some (.lst []) ∧ S'[e']? = some (.lst ((triA (ks.take i) ks).map dR)) ∧ (e' = e0 ∨ S.length ≤ e') ∧ S.length ≤ S'.length)
    (by
      unfold iSeq
      rw [show eV 3 [some (.cell k), some (.int mk), some (.int mr), some (.cell j), some (.cell f), some (.cell e0), none, none, none, none] S = .ok (.cell j) S from rfl, Re.bind_ok]
      exact hi) hc ⟨none, none, e0, rfl, hn, hj, hf, by simpa [triA] using he, .inl rfl, Nat.le_refl _⟩ (by
      rintro i d ρ S' hd ⟨x6, x7, e', rfl, q1, q2, q3, q4, q5, q6⟩
      rw [List.getElem?_map, Option.map_eq_some_iff] at hd
      obtain ⟨a, ha, rfl⟩ := hd
      obtain ⟨x7', e'', S2, w1, w2, w3, w4, w5, w6, w7⟩ := round_ok (S := S') (k := k) (j := j) (f := f) (e0 := e') (ks := ks) (a := a) (A := triA (ks.take i) ks) (x7 := x7) (S0 := S0) q1 q2 q3 q4 j1 f1 (triA_len _ _ (by rw [List.length_take]; omega) hk) hk
      refine ⟨_, S2, w1, hchk _ w3, some (.str a), x7', e'', rfl, w2, w3, w4, ?_, ?_, ?_⟩
      · rw [w5, take_succ ha]
        unfold triA
        rw [List.flatMap_append]
        simp
      · rcases w6 with w6 | w6
        · rw [w6]; exact q5
        · exact .inr (Nat.le_trans q6 w6)
      · exact Nat.le_trans q6 w7)
  rw [List.length_map, List.take_length] at q4
  exact ⟨x6, x7, e', S', e, q1, q2, q3, q4, q5⟩
end DL
namespace DL
open PySem PySem.Spec PyProof.Rows L2
theorem eCall_ok {n : Nat} {g : Fn} {a : Xs} {ρ : En} {S S1 : Sto} {ds : List Dv} (h : a ρ S = .ok ds S1) (hl : ds.length = n) : eCall n g a ρ S = g ds S1 := by
  unfold eCall
  rw [h, Re.bind_ok, if_pos hl]
theorem manual_ok {S : Sto} {k : Nat} {mk mr : Int} (hm : Mill S k) (hk0 : 0 < mk) (hk8m : mk ≤ 8) (hr0 : 0 ≤ mr) (hr8 : mr ≤ 8) : ∃ (j f : Nat) (ks : List Str) (rs : List R3) (S' : Sto), m__law_manual [.cell k, .int mk, .int mr] S = .ok (.tup [.cell j, .cell f]) S' ∧ S'[j]? = some (.lst (ks.map .str)) ∧ S'[f]? = some (.lst (rs.map dR)) ∧ S.length ≤ j ∧ S.length ≤ f ∧ j ≠ f ∧ Nx k S S' ∧ ks ≠ [] ∧ Book ks rs ∧ rs.length ≤ 8 := by
  have klt := hm.lt
  -- the kinds
  obtain ⟨i, S1, g1, g2, g3, g4, g5, g6⟩ := draw_e (ρ := [some (.cell k), some (.int mk), some (.int mr), none, none, none, none, none, none, none]) (i := 0) (e := eV 1) (c := mk) (S := S) (S1 := S) rfl rfl hm (by omega) (by omega)
  obtain ⟨j, ks, S2, t1, t2, t3, t4, t5, t6, t7⟩ := tribes_ok g6.mill (1 + i).toNat (by omega)
  have hti : (((1 + i).toNat : Nat) : Int) = 1 + i := by omega
  rw [hti] at t1
  have s1 : sPar 3 4 (aCons (eCall 2 m__law_tribes (aCons (eV 0) (aCons (e2 oAdd (eC (.int 1)) (eCall 2 m__law_grind (aCons (eV 0) (aCons (eV 1) aNil)))) aNil))) (aCons (eN mkC aNil) aNil)) [some (.cell k), some (.int mk), some (.int mr), none, none, none, none, none, none, none] S =
      .nx [some (.cell k), some (.int mk), some (.int mr), some (.cell j), some (.cell S2.length), none, none, none, none, none] (S2 ++ [.lst []]) := by
    have a : aCons (eV 0) (aCons (e2 oAdd (eC (.int 1)) (eCall 2 m__law_grind (aCons (eV 0) (aCons (eV 1) aNil)))) aNil) [some (.cell k), some (.int mk), some (.int mr), none, none, none, none, none, none, none] S = .ok [.cell k, .int (1 + i)] S1 :=
      aCons_ok (x := .cell k) (S1 := S) rfl (aCons_ok (x := .int (1 + i)) (S1 := S1) (by rw [e2_ok (x := .int 1) (S1 := S) rfl g3]; rfl) rfl)
    have b : eCall 2 m__law_tribes (aCons (eV 0) (aCons (e2 oAdd (eC (.int 1)) (eCall 2 m__law_grind (aCons (eV 0) (aCons (eV 1) aNil)))) aNil)) [some (.cell k), some (.int mk), some (.int mr), none, none, none, none, none, none, none] S = .ok (.cell j) S2 := by
      rw [eCall_ok (n := 2) a rfl]
      exact t1
    unfold sPar
    rw [aCons_ok b (aCons_ok (cell_ok (l := []) rfl (by simp)) rfl), Re.toS_ok]
    rfl
  have jl : j < S2.length := (List.getElem?_eq_some_iff.mp t2).1
  have hj3 : (S2 ++ [Ob.lst []])[j]? = some (.lst (ks.map .str)) := by rw [List.getElem?_append_left jl]; exact t2
  have hf3 : (S2 ++ [Ob.lst []])[S2.length]? = some (.lst []) := by rw [List.getElem?_append_right (Nat.le_refl _), Nat.sub_self]; rfl
  have n3 : Nx k S (S2 ++ [Ob.lst []]) := (g6.trans t4).push _
  have l2 : S.length ≤ S2.length := (g6.trans t4).le
  generalize hS3 : S2 ++ [Ob.lst []] = S3 at s1 hj3 hf3 n3
  have l3 : S3.length = S2.length + 1 := by rw [← hS3]; simp
  have s2 : sSet 5 (eN mkC aNil) [some (.cell k), some (.int mk), some (.int mr), some (.cell j), some (.cell S2.length), none, none, none, none, none] S3 = .nx [some (.cell k), some (.int mk), some (.int mr), some (.cell j), some (.cell S2.length), some (.cell S3.length), none, none, none, none] (S3 ++ [.lst []]) := by
    unfold sSet
    rw [cell_ok (l := []) (S1 := S3) rfl (by simp)]
    rfl
  obtain ⟨x6, x7, e', S5, r1, r2, r3, r4, r5, r6⟩ := rounds_ok (S := S3 ++ [Ob.lst []]) (k := k) (j := j) (f := S2.length) (e0 := S3.length) (ks := ks) (S0 := S) (n3.push _) (by rw [List.getElem?_append_left (by omega)]; exact hj3) (by rw [List.getElem?_append_left (by omega)]; exact hf3) (by rw [List.getElem?_append_right (Nat.le_refl _), Nat.sub_self]; rfl) (by omega) (by omega) (by omega) (by omega)
  have hk8 : ks.length ≤ 8 := by omega
  have he1 : S3.length ≤ e' := by
    rcases r6 with r6 | r6
    · omega
    · rw [List.length_append] at r6; simp at r6; omega
  have okA : ∀ r ∈ triA ks ks, okR r := fun r hr => by
    obtain ⟨h1, h2, h3, _⟩ := mem_triA.mp hr
    exact ⟨strOk_name (t7 _ h1), strOk_name (t7 _ h2), strOk_name (t7 _ h3)⟩
  -- how many rules
  obtain ⟨m, S6, d1, d2, d3, d4, d5, d6⟩ := draw_e (ρ := [some (.cell k), some (.int mk), some (.int mr), some (.cell j), some (.cell S2.length), some (.cell e'), x6, x7, none, none]) (i := 0) (e := e2 oAdd (eV 2) (eC (.int 1))) (c := mr + 1) (S := S5) (S1 := S5) rfl rfl r2.mill (by omega) (by omega)
  have hm8 : m.toNat ≤ 8 := by omega
  have hmi : ((m.toNat : Nat) : Int) = m := by omega
  obtain ⟨ρ', S', e, x8, taken, rest, rfl, q1, q2, q3, q4, q5, q6⟩ := sFor_inv (f := iRg1 (aCons (eCall 2 m__law_grind (aCons (eV 0) (aCons (e2 oAdd (eV 2) (eC (.int 1))) aNil))) aNil)) (g := gN 8) (b := sIf (tV (e2 oNe (eV 5) (eN mkL aNil))) (sExpr (eM isL mApp (eV 4) (aCons (eM isL mPopAt (eV 5) (aCons (eCall 2 m__law_grind (aCons (eV 0) (aCons (eN bLen (aCons (eV 5) aNil)) aNil))) aNil)) aNil))) sNil) (l := rgD 0 m.toNat) (chk := always) (S := S5) (S0 := S6)
    (ρ := [some (.cell k), some (.int mk), some (.int mr), some (.cell j), some (.cell S2.length), some (.cell e'), x6, x7, none, none])
    (fun i ρ S' => ∃ (x8 : Option Dv) (taken rest : List R3), ρ = [some (.cell k), some (.int mk), some (.int mr), some (.cell j), some (.cell S2.length), some (.cell e'), x6, x7, x8, none] ∧ S'[j]? = some (.lst (ks.map .str)) ∧ S'[S2.length]? = some (.lst (taken.map dR)) ∧ S'[e']? = some (.lst (rest.map dR)) ∧ Nx k S S' ∧ taken.length ≤ i ∧ (taken ++ rest).Perm (triA ks ks))
    (rg_ok (n := m.toNat) (by rw [hmi]; exact d3) (by omega)) (always_ _) ⟨none, [], triA ks ks, rfl, by rw [d5 _ (by omega)]; exact r3, by rw [d5 _ (by omega)]; exact r4, by rw [d5 _ (by omega)]; exact r5, r2.trans d6, Nat.le_refl _, List.Perm.refl _⟩ (by
      rintro i d ρ S' hd ⟨x8, taken, rest, rfl, q1, q2, q3, q4, q5, q6⟩
      have hi : i < m.toNat := by
        have := (List.getElem?_eq_some_iff.mp hd).1
        unfold rgD at this
        simpa using this
      have okr : ∀ r ∈ rest, okR r := fun r hr => okA r (q6.mem_iff.mp (List.mem_append_right _ hr))
      have test := nonempty_test (S := S') (i := 5) (e := e') (rest := rest) (ρ := [some (.cell k), some (.int mk), some (.int mr), some (.cell j), some (.cell S2.length), some (.cell e'), x6, x7, some d, none]) rfl q3 okr
      have hlen := q6.length_eq
      rw [List.length_append] at hlen
      have hA := triA_len ks ks hk8 hk8
      by_cases hr : rest = []
      · refine ⟨[some (.cell k), some (.int mk), some (.int mr), some (.cell j), some (.cell S2.length), some (.cell e'), x6, x7, some d, none], S', ?_, always_ _, some d, taken, rest, rfl, q1, q2, q3, q4, by omega, q6⟩
        show sIf _ _ _ [some (.cell k), some (.int mk), some (.int mr), some (.cell j), some (.cell S2.length), some (.cell e'), x6, x7, some d, none] S' = _
        unfold sIf
        rw [test, decide_eq_true hr]
        rfl
      · obtain ⟨jj, y, S7, w1, w2, w3, w4, w5, w6, w7⟩ := take_one (f := dR) (ρ := [some (.cell k), some (.int mk), some (.int mr), some (.cell j), some (.cell S2.length), some (.cell e'), x6, x7, some d, none]) (S := S') (k := k) (im := 0) (il := 5) (ifd := 4) (cl := e') (cf := S2.length) (left := rest) (taken := taken) q4.mill rfl rfl rfl q3 q2 hr (by omega) (by omega) (by omega) (by omega) (by omega)
        refine ⟨[some (.cell k), some (.int mk), some (.int mr), some (.cell j), some (.cell S2.length), some (.cell e'), x6, x7, some d, none], S7, ?_, always_ _, some d, taken ++ [y], rest.eraseIdx jj, rfl, by rw [w6 _ (by omega) (by omega) (by omega)]; exact q1, w5, w4, ⟨by rw [w3]; exact q4.le, fun m a b => by rw [w6 m b (by omega) (by omega)]; exact q4.old m a b, w7⟩, by rw [List.length_append]; simp; omega, (pop_perm w1).trans q6⟩
        show sIf _ _ _ [some (.cell k), some (.int mk), some (.int mr), some (.cell j), some (.cell S2.length), some (.cell e'), x6, x7, some d, none] S' = _
        unfold sIf
        rw [test, decide_eq_false hr]
        show sExpr _ _ S' = _
        unfold sExpr
        rw [w2]
        rfl)
  have hrl : (rgD 0 m.toNat).length = m.toNat := by unfold rgD; simp
  rw [hrl] at q5
  refine ⟨j, S2.length, ks, taken, S', ?_, q1, q2, by omega, by omega, by omega, q4, ?_, ?_, by omega⟩
  · unfold m__law_manual runD b__law_manual
    show (sSeq _ _ [some (.cell k), some (.int mk), some (.int mr), none, none, none, none, none, none, none] S).toR = _
    unfold sSeq
    rw [s1, SRe.seq_nx, s2, SRe.seq_nx, r1, SRe.seq_nx, e, SRe.seq_nx]
    unfold sRet
    rw [eN_ok (x := [Dv.cell j, .cell S2.length]) (S1 := S') rfl]
    unfold mkT
    rw [if_pos (by rw [sizeLine_eq]; simp)]
    rfl
  · intro z
    rw [z] at t5
    simp at t5
    omega
  · refine ⟨t7, t6, hk8, fun r hr => ruleIn_of (mem_triA.mp (q6.mem_iff.mp (List.mem_append_left _ hr))), (q6.nodup_iff.mpr (triA_nodup t6)).sublist (List.sublist_append_left _ _), by omega⟩
end DL
namespace DL
open PySem PySem.Spec PyProof.Rows L2
/-! ### repr of small data -/
structure Sml (m k : Nat) (p : PyData) : Prop where
  sh : p.showable = true
  nd : p.hasDict = false
  lv : p.leavesShort 13 = true
  wt : p.weight ≤ m
  dp : p.depth ≤ k
theorem Sml.repr {m k : Nat} {p : PyData} (h : Sml m k p) (hm : m ≤ 2 ^ 20) (hk : k ≤ 16) : reprOk p = true := by
  unfold reprOk
  rw [h.sh, h.nd, Bool.true_and, Bool.not_false, Bool.true_and, Bool.and_eq_true, decide_eq_true_eq, decide_eq_true_eq]
  exact ⟨PyData.shown_fits (B := 13) (by omega) (by omega) h.lv (Nat.le_trans h.wt hm), Nat.le_trans h.dp hk⟩
theorem sml_str {x : Str} (h : nameOk x = true) : Sml 8 0 (.str x) := by
  have ok := strOk_name h
  unfold nameOk at h
  simp only [Bool.and_eq_true, decide_eq_true_eq] at h
  refine ⟨by simp [PyData.showable], by simp [PyData.hasDict], ?_, ?_, by simp [PyData.depth]⟩
  · unfold PyData.strOk at ok
    rw [← Array.all_toList, List.all_eq_true] at ok
    simp only [PyData.leavesShort, List.all_eq_true, decide_eq_true_eq]
    intro c hc
    have := of_decide_eq_true (ok c hc)
    omega
  · simp only [PyData.weight]
    exact h.1.2
def nameR (r : R3) : Prop := nameOk r.1 = true ∧ nameOk r.2.1 = true ∧ nameOk r.2.2 = true
theorem nameR.okr {r : R3} (h : nameR r) : okR r := ⟨strOk_name h.1, strOk_name h.2.1, strOk_name h.2.2⟩
theorem sml_pR {r : R3} (h : nameR r) : Sml 27 1 (pR r) := by
  obtain ⟨a, b, c⟩ := r
  obtain ⟨h1, h2, h3⟩ := h
  have s1 := sml_str h1
  have s2 := sml_str h2
  have s3 := sml_str h3
  unfold pR
  have w1 := s1.wt
  have w2 := s2.wt
  have w3 := s3.wt
  refine ⟨by simp [PyData.showable, PyData.showableAll], by simp [PyData.hasDict, PyData.hasDictAll], ?_, ?_, by simp [PyData.depth, PyData.depthAll]⟩
  · rw [PyData.leavesShort, PyData.leavesShortAll, PyData.leavesShortAll, PyData.leavesShortAll, PyData.leavesShortAll, s1.lv, s2.lv, s3.lv]
    rfl
  · rw [PyData.weight, PyData.weightAll, PyData.weightAll, PyData.weightAll, PyData.weightAll]
    omega
theorem sml_list {α : Type} {g : α → PyData} {m k : Nat} : ∀ {l : List α}, (∀ a ∈ l, Sml m k (g a)) → Sml ((m + 1) * l.length) (k + 1) (.list (l.map g))
  | [], _ => ⟨by simp [PyData.showable, PyData.showableAll], by simp [PyData.hasDict, PyData.hasDictAll], by simp [PyData.leavesShort, PyData.leavesShortAll], by simp [PyData.weight, PyData.weightAll], by simp [PyData.depth, PyData.depthAll]⟩
  | a :: r, h => by
    have ha := h a List.mem_cons_self
    have hr := sml_list (l := r) fun b hb => h b (List.mem_cons_of_mem _ hb)
    refine ⟨?_, ?_, ?_, ?_, ?_⟩
    · have := hr.sh
      rw [PyData.showable] at this ⊢
      rw [List.map_cons, PyData.showableAll, ha.sh, this]
      rfl
    · have := hr.nd
      rw [PyData.hasDict] at this ⊢
      rw [List.map_cons, PyData.hasDictAll, ha.nd, this]
      rfl
    · have := hr.lv
      rw [PyData.leavesShort] at this ⊢
      rw [List.map_cons, PyData.leavesShortAll, ha.lv, this]
      rfl
    · have := hr.wt
      rw [PyData.weight] at this ⊢
      rw [List.map_cons, PyData.weightAll, List.length_cons, Nat.mul_add, Nat.mul_one]
      have := ha.wt
      omega
    · have h1 := hr.dp
      have h2 := ha.dp
      rw [PyData.depth] at h1 ⊢
      rw [List.map_cons, PyData.depthAll]
      have : max (g a).depth (PyData.depthAll (r.map g)) ≤ k := Nat.max_le.mpr ⟨h2, by omega⟩
      omega
theorem bRepr_ok {S : Sto} {d : Dv} {p : PyData} (hb : boxD d = true) (hp : toPy S d = some p) (h : reprOk p = true) : bRepr [d] S = .ok (.str p.shown) S := by
  unfold bRepr
  dsimp only
  rw [if_pos hb, hp]
  dsimp only
  rw [if_pos h]
theorem repr_e {S S1 : Sto} {a : Ex} {ρ : En} {d : Dv} {p : PyData} (ha : a ρ S = .ok d S1) (hb : boxD d = true) (hp : toPy S1 d = some p) (h : reprOk p = true) : eN bRepr (aCons a aNil) ρ S = .ok (.str p.shown) S1 := by
  rw [eN1 ha]
  exact bRepr_ok hb hp h
/-- two like texts -/
theorem same_text {S S1 S2 : Sto} {a b : Ex} {ρ : En} {x : Str} (ha : a ρ S = .ok (.str x) S1) (hb : b ρ S1 = .ok (.str x) S2) : tV (e2 oNe a b) ρ S = .ok false S2 := by
  unfold tV
  rw [e2_ok ha hb]
  show (Re.bind (Re.ok (Dv.bl (!(x == x))) S2) _) = _
  rw [beq_self_eq_true]
  rfl
/-- the rules of a book are named -/
structure Named (ks : List Str) (rs : List R3) : Prop where
  rr : ∀ r ∈ rs, nameR r
  ln : rs.length ≤ 1000
theorem Book.named {ks : List Str} {rs : List R3} (B : Book ks rs) : Named ks rs := ⟨fun r hr => by
  have := B.rin r hr
  unfold ruleIn at this
  simp only [Bool.and_eq_true, decide_eq_true_eq] at this
  obtain ⟨h1, h2, h3, _⟩ := this
  exact ⟨B.nm _ h1, B.nm _ h2, B.nm _ h3⟩, B.rl⟩
theorem Named.repr {ks : List Str} {rs : List R3} (h : Named ks rs) : Sml 28000 2 (.list (rs.map pR)) := by
  have q := sml_list (l := rs) (g := pR) fun r hr => sml_pR (h.rr r hr)
  exact ⟨q.sh, q.nd, q.lv, by have := q.wt; have := h.ln; omega, q.dp⟩
theorem repr_caught {S : Sto} {r : R3} (h : nameR r) : bRepr [.lst [.bl true, dR r]] S = .ok (.str (PyData.list [.bool true, pR r]).shown) S := by
  have q := sml_pR h
  refine bRepr_ok rfl (toPy_lst (by simp [toPys, toPy_bl, toPy_dR])) (Sml.repr (m := 40) (k := 2) ⟨?_, ?_, ?_, ?_, ?_⟩ (by omega) (by omega))
  · rw [PyData.showable, PyData.showableAll, PyData.showableAll, PyData.showableAll, q.sh, PyData.showable]; rfl
  · rw [PyData.hasDict, PyData.hasDictAll, PyData.hasDictAll, PyData.hasDictAll, q.nd, PyData.hasDict]; rfl
  · rw [PyData.leavesShort, PyData.leavesShortAll, PyData.leavesShortAll, PyData.leavesShortAll, q.lv, PyData.leavesShort]; rfl
  · have := q.wt
    rw [PyData.weight, PyData.weightAll, PyData.weightAll, PyData.weightAll, PyData.weight]
    omega
  · have := q.dp
    rw [PyData.depth, PyData.depthAll, PyData.depthAll, PyData.depthAll, PyData.depth]
    have : max 0 (max (pR r).depth 0) ≤ 1 := Nat.max_le.mpr ⟨by omega, Nat.max_le.mpr ⟨this, by omega⟩⟩
    omega
theorem short_int : ∀ n : Nat, n ≤ 8 → PyData.leavesShort 13 (.int n) = true ∧ PyData.showable (.int n) = true ∧ PyData.weight (.int n) ≤ 8 := by decide +kernel
theorem sml_state {ks : List Str} {rs : List R3} (B : Book ks rs) (h : rs.length ≤ 8) : Sml 30000 3 (.list [.list (ks.map .str), .list (rs.map pR), .int rs.length]) := by
  have q1 := sml_list (l := ks) (g := PyData.str) fun x hx => sml_str (B.nm x hx)
  have q2 := B.named.repr
  obtain ⟨i1, i2, i3⟩ := short_int rs.length h
  have k8 := B.kl
  refine ⟨?_, ?_, ?_, ?_, ?_⟩
  · rw [PyData.showable, PyData.showableAll, PyData.showableAll, PyData.showableAll, PyData.showableAll, q1.sh, q2.sh, i2]; rfl
  · rw [PyData.hasDict, PyData.hasDictAll, PyData.hasDictAll, PyData.hasDictAll, PyData.hasDictAll, q1.nd, q2.nd, PyData.hasDict]; rfl
  · rw [PyData.leavesShort, PyData.leavesShortAll, PyData.leavesShortAll, PyData.leavesShortAll, PyData.leavesShortAll, q1.lv, q2.lv, i1]; rfl
  · have w1 := q1.wt
    have w2 := q2.wt
    rw [PyData.weight, PyData.weightAll, PyData.weightAll, PyData.weightAll, PyData.weightAll]
    omega
  · have w1 := q1.dp
    have w2 := q2.dp
    rw [PyData.depth, PyData.depthAll, PyData.depthAll, PyData.depthAll, PyData.depthAll, show PyData.depth (.int rs.length) = 0 from by rw [PyData.depth]]
    have : max (PyData.list (ks.map .str)).depth (max (PyData.list (rs.map pR)).depth (max 0 0)) ≤ 2 := Nat.max_le.mpr ⟨by omega, Nat.max_le.mpr ⟨by omega, by omega⟩⟩
    omega
theorem perm_less {L L' : List R3} {r : R3} (h : (r :: L').Perm L) (hn : L.Nodup) : (less r L).Perm L' ∧ r ∉ L' := by
  have hn2 : (r :: L').Nodup := h.nodup_iff.mpr hn
  have hr : r ∉ L' := (List.nodup_cons.mp hn2).1
  refine ⟨?_, hr⟩
  have e : less r (r :: L') = L' := by
    unfold less
    rw [List.filter_cons_of_neg (by simp)]
    exact List.filter_eq_self.mpr fun a ha => by
      rw [decide_eq_true_eq]
      rintro rfl
      exact hr ha
  rw [← e]
  exact h.symm.filter _
end DL
namespace DL
open PySem PySem.Spec PyProof.Rows L2
/-! ### what is read as a row -/
structure Rd (S : Sto) (d : Dv) (l : List Dv) : Prop where
  q : asQ S d = some l
  it : ∃ chk, itD d S = .ok (l, chk) S ∧ chk S
  ns : ∀ z, d ≠ .str z
theorem Rd.of_cell {S : Sto} {k : Nat} {l : List Dv} (h : S[k]? = some (.lst l)) : Rd S (.cell k) l := by
  refine ⟨?_, ⟨fun S' => S'[k]? = some (.lst l), ?_, h⟩, fun z e => by cases e⟩
  · simp [asQ, asR, asL, h]
  · unfold itD
    dsimp only
    rw [h]
theorem Rd.of_tup {S : Sto} {l : List Dv} : Rd S (.tup l) l := ⟨rfl, ⟨always, rfl, trivial⟩, fun z e => by cases e⟩
theorem Rd.of_lst {S : Sto} {l : List Dv} : Rd S (.lst l) l := ⟨rfl, ⟨always, rfl, trivial⟩, fun z e => by cases e⟩
theorem var_e {i : Nat} {ρ : En} {d : Dv} (h : ρ[i]? = some (some d)) (S : Sto) : eV i ρ S = .ok d S := by
  unfold eV
  rw [h]
theorem ix_e {a b : Ex} {ρ : En} {S S1 S2 : Sto} {d x : Dv} {l : List Dv} {i : Nat} (ha : a ρ S = .ok d S1) (hb : b ρ S1 = .ok (.int i) S2) (h : asQ S2 d = some l) (hs : ∀ z, d ≠ .str z) (hx : l[i]? = some x) : e2 oIx a b ρ S = .ok x S2 := by
  rw [e2_ok ha hb, oIx_asQ h hs (atI_nat hx)]
theorem eqi_e {a b : Ex} {ρ : En} {S S1 S2 : Sto} {i j : Int} {f : Bool → Bool} (ha : a ρ S = .ok (.int i) S1) (hb : b ρ S1 = .ok (.int j) S2) : e2 (oEqF f) a b ρ S = .ok (.bl (f (decide (i = j)))) S2 := by
  rw [e2_ok ha hb]
  show oEqD f (.int i) (.int j) S2 = _
  unfold oEqD
  rw [toPy_int, toPy_int]
  dsimp only
  have z : (SeqAt.shaped (.int i) && SeqAt.shaped (.int j)) = true := by simp [SeqAt.shaped, PyData.canLay0, PyData.depth]
  rw [if_pos z]
  have y : PyData.eqv (.int i) (.int j) = decide (i = j) := by
    simp only [PyData.eqv]
    by_cases h : i = j
    · simp [h]
    · simp [h]
  rw [y]
theorem ind_e {a b : Ex} {ρ : En} {S S1 S2 : Sto} {i j : Int} (ha : a ρ S = .ok (.int i) S1) (hb : b ρ S1 = .ok (.int j) S2) : eN bInt (aCons (e2 oEq a b) aNil) ρ S = .ok (.int (if i = j then 1 else 0)) S2 := by
  rw [eN1 (eqi_e ha hb)]
  show Re.ok (Dv.int (if (id (decide (i = j))) = true then 1 else 0)) S2 = _
  simp only [id, decide_eq_true_eq]
/-- growing -/
def Ext (S S' : Sto) : Prop := ∃ T, S' = S ++ T
theorem Ext.rfl {S : Sto} : Ext S S := ⟨[], (List.append_nil S).symm⟩
theorem Ext.push {S S' : Sto} (h : Ext S S') (o : Ob) : Ext S (S' ++ [o]) := by
  obtain ⟨T, rfl⟩ := h
  exact ⟨T ++ [o], List.append_assoc ..⟩
theorem Ext.trans {S S' S'' : Sto} (h : Ext S S') (h' : Ext S' S'') : Ext S S'' := by
  obtain ⟨T, rfl⟩ := h
  obtain ⟨T', rfl⟩ := h'
  exact ⟨T ++ T', List.append_assoc ..⟩
theorem Ext.get {S S' : Sto} (h : Ext S S') {k : Nat} {o : Ob} (e : S[k]? = some o) : S'[k]? = some o := by
  obtain ⟨T, rfl⟩ := h
  rw [List.getElem?_append_left (List.getElem?_eq_some_iff.mp e).1]
  exact e
theorem Ext.le {S S' : Sto} (h : Ext S S') : S.length ≤ S'.length := by
  obtain ⟨T, rfl⟩ := h
  rw [List.length_append]
  omega
theorem Nx.ext {k : Nat} {S S1 S2 : Sto} (a : Nx k S S1) (h : Ext S1 S2) : Nx k S S2 := by
  obtain ⟨T, rfl⟩ := h
  exact a.push T
/-! ### crowds and steps -/
def nth (c : List Int) (i : Nat) : Int := c[i]?.getD 0
theorem nth_get {c : List Int} {i : Nat} (h : i < c.length) : c[i]? = some (nth c i) := by
  unfold nth
  rw [List.getElem?_eq_getElem h]
  rfl
def one (b : Bool) : Int := if b = true then 1 else 0
def turnQ : Nat → List Int → Nat → Nat → List Int
  | _, [], _, _ => []
  | n, x :: r, f, t => (x - one (decide (n = f)) + one (decide (n = t))) :: turnQ (n + 1) r f t
theorem turnQ_len : ∀ (n : Nat) (c : List Int) (f t : Nat), (turnQ n c f t).length = c.length
  | _, [], _, _ => rfl
  | n, x :: r, f, t => by simp [turnQ, turnQ_len (n + 1) r f t]
theorem turnQ_get : ∀ (n : Nat) (c : List Int) (f t i : Nat), (turnQ n c f t)[i]? = (c[i]?).map fun x => x - one (decide (n + i = f)) + one (decide (n + i = t))
  | _, [], _, _, _ => by simp [turnQ]
  | n, x :: r, f, t, 0 => by simp [turnQ]
  | n, x :: r, f, t, i + 1 => by
    rw [turnQ, List.getElem?_cons_succ, List.getElem?_cons_succ, turnQ_get (n + 1) r f t i]
    simp only [Nat.add_assoc, Nat.add_comm 1 i]
theorem turnQ_set {c : List Int} {f t : Nat} (hf : f < c.length) (ht : t < c.length) (hft : f ≠ t) : (c.set f (nth c f - 1)).set t (nth c t + 1) = turnQ 0 c f t := by
  refine List.ext_getElem? fun i => ?_
  rw [turnQ_get, Nat.zero_add]
  by_cases h1 : i = t
  · subst h1
    rw [List.getElem?_set_self (by rw [List.length_set]; exact ht), nth_get ht]
    simp [one, Ne.symm hft]
  · rw [List.getElem?_set_ne (fun e => h1 e.symm)]
    by_cases h2 : i = f
    · subst h2
      rw [List.getElem?_set_self hf, nth_get hf]
      simp [one, h1]
    · rw [List.getElem?_set_ne (fun e => h2 e.symm)]
      simp [one, h1, h2]
def blocked (c : List Int) (f w : Nat) : Bool := decide (nth c f < 1) || decide (nth c w < 1 + one (decide (w = f)))
def stepQ (c : List Int) (f w t : Nat) : Option (List Int) := if blocked c f w = true then none else some (turnQ 0 c f t)
def optD (g : List Dv → Dv) : Option (List Int) → Dv
  | none => .non
  | some l => g (l.map .int)
theorem map_int_get {c : List Int} {i : Nat} (h : i < c.length) : (c.map Dv.int)[i]? = some (.int (nth c i)) := by
  rw [List.getElem?_map, nth_get h]
  rfl
theorem one_cast {i j : Nat} : (if (i : Int) = (j : Int) then (1 : Int) else 0) = one (decide (i = j)) := by
  unfold one
  simp only [decide_eq_true_eq, Int.ofNat_inj]
/-- crowd[first] < 1 or crowd[whom] < 1 + int(whom == first) -/
theorem can_test {ρ : En} {S : Sto} {d : Dv} {c : List Int} {ic fi wi f w : Nat} (h0 : ρ[ic]? = some (some d)) (hf : ρ[fi]? = some (some (.int f))) (hw : ρ[wi]? = some (some (.int w))) (hd : asQ S d = some (c.map .int)) (hs : ∀ z, d ≠ .str z) (lf : f < c.length) (lw : w < c.length) :
    tOrD (tV (e2 oLt (e2 oIx (eV ic) (eV fi)) (eC (.int 1)))) (tV (e2 oLt (e2 oIx (eV ic) (eV wi)) (e2 oAdd (eC (.int 1)) (eN bInt (aCons (e2 oEq (eV wi) (eV fi)) aNil))))) ρ S = .ok (blocked c f w) S := by
  have a := ix_e (var_e h0 S) (var_e hf S) hd hs (map_int_get lf)
  have b := ix_e (var_e h0 S) (var_e hw S) hd hs (map_int_get lw)
  have e : e2 oAdd (eC (.int 1)) (eN bInt (aCons (e2 oEq (eV wi) (eV fi)) aNil)) ρ S = .ok (.int (1 + one (decide (w = f)))) S := by
    rw [e2_ok (x := .int 1) (S1 := S) rfl (ind_e (var_e hw S) (var_e hf S)), one_cast]
    rfl
  unfold tOrD tV blocked
  rw [e2_ok a (y := .int 1) (S2 := S) rfl]
  show (if decide (nth c f < 1) = true then Re.ok true S else _) = _
  by_cases h : nth c f < 1
  · rw [decide_eq_true h]
    rfl
  · rw [decide_eq_false h, if_neg Bool.false_ne_true, e2_ok b e]
    rfl
theorem asg_ix {v : Ex} {ρ : En} {S : Sto} {ic fi k f : Nat} {l : List Dv} {x : Dv} (hv : v ρ S = .ok x S) (h5 : ρ[ic]? = some (some (.cell k))) (h2 : ρ[fi]? = some (some (.int f))) (hk : S[k]? = some (.lst l)) (hf : f < l.length) :
    sAsg v (gIx (eV ic) (eV fi)) ρ S = .nx ρ (S.set k (.lst (l.set f x))) := by
  have e : ixN l.length (f : Int) = some f := by
    unfold ixN
    rw [if_pos (by omega), if_pos (by exact_mod_cast hf)]
    simp
  unfold sAsg
  rw [hv, Re.toS_ok]
  unfold gIx
  rw [var_e h5]
  dsimp only
  rw [var_e h2]
  dsimp only
  rw [hk]
  dsimp only
  rw [e]
  rfl
theorem push_get (S : Sto) (o : Ob) : (S ++ [o])[S.length]? = some o := by
  rw [List.getElem?_append_right (Nat.le_refl _), Nat.sub_self]
  rfl
theorem push_set (S : Sto) (o o' : Ob) : (S ++ [o]).set S.length o' = S ++ [o'] := by
  rw [List.set_append_right _ _ (Nat.le_refl _), Nat.sub_self]
  rfl
end DL
namespace DL
open PySem PySem.Spec PyProof.Rows L2
/-! ### check_crowd -/
theorem blsD_of {α : Type} (g : α → Bool) : ∀ l : List α, blsD (l.map fun a => Dv.bl (g a)) = some (l.map g)
  | [] => rfl
  | a :: r => by
    rw [List.map_cons, blsD, blsD_of g r]
    rfl
theorem any_lt {S : Sto} {i m : Nat} {ρ : En} {d : Dv} {c : List Int} (h : Rd S d (c.map .int)) (hi : ρ[i]? = some (some d)) (hl : c.length ≤ sizeLine) (hm : m < ρ.length) : eN bAny (aCons (eLc (iSeq (eV i)) (gN m) ttYes (e2 oLt (eV m) (eC (.int 0))) [m]) aNil) ρ S = .ok (.bl (c.any fun x => decide (x < 0))) S := by
  obtain ⟨chk, it, hc⟩ := h.it
  have q := eLc_pure (f := iSeq (eV i)) (g := gN m) (t := ttYes) (e := e2 oLt (eV m) (eC (.int 0))) (vs := [m]) (ρ := ρ) (S := S) (l := c.map .int) (chk := chk) (fun d => match d with | .int x => some (.bl (decide (x < 0))) | _ => none)
    (by unfold iSeq; rw [var_e hi, Re.bind_ok]; exact it) hc (by rw [List.length_map]; exact hl) (fun d hd => by
      obtain ⟨x, hx, rfl⟩ := List.mem_map.mp hd
      refine turn_map ?_
      have e : ((wipeE ρ [m]).set m (some (Dv.int x)))[m]? = some (some (.int x)) := by
        rw [List.getElem?_set_self]
        simpa [wipeE] using hm
      rw [e2_ok (var_e e S) (y := .int 0) (S2 := S) rfl]
      rfl)
  rw [eN1 q, List.filterMap_map]
  have e : c.filterMap ((fun d => match d with | .int x => some (Dv.bl (decide (x < 0))) | _ => none) ∘ Dv.int) = c.map fun x => Dv.bl (decide (x < 0)) := fm_map _ c
  rw [e]
  unfold bAny
  dsimp only
  rw [show asR S (.lst (c.map fun x => Dv.bl (decide (x < 0)))) = some _ from rfl]
  show (match blsD (c.map fun x => Dv.bl (decide (x < 0))) with | some l => Re.ok (Dv.bl (l.any id)) S | _ => .bad) = _
  rw [blsD_of]
  dsimp only
  rw [List.any_map]
  rfl
theorem len_e {a : Ex} {ρ : En} {S S1 : Sto} {d : Dv} {l : List Dv} (ha : a ρ S = .ok d S1) (h : Rd S1 d l) : eN bLen (aCons a aNil) ρ S = .ok (.int l.length) S1 := by
  rw [eN1 ha]
  have ns := h.ns
  have q := h.q
  unfold bLen
  cases d <;> first | exact absurd rfl (ns _) | (dsimp only; rw [q])
noncomputable def m_check_crowd : Fn := runD 3 b_check_crowd
theorem check_crowd_ok {S : Sto} {d : Dv} {c : List Int} {n : Nat} (h : Rd S d (c.map .int)) (hn : c.length = n) (hl : c.length ≤ sizeLine) (h0 : ∀ x ∈ c, 0 ≤ x) : m_check_crowd [.int n, d] S = .ok .non S := by
  have a : e2 oNe (eN bLen (aCons (eV 1) aNil)) (eV 0) [some (.int n), some d, none] S = .ok (.bl false) S := by
    rw [eqi_e (i := n) (j := n) (by rw [len_e (var_e rfl S) h, List.length_map, hn]) (var_e rfl S)]
    simp
  have b := any_lt (ρ := [some (.int n), some d, none]) (i := 1) (m := 2) h rfl hl (by simp)
  have e : (c.any fun x => decide (x < 0)) = false := by
    rw [List.any_eq_false]
    intro x hx
    have := h0 x hx
    simp
    omega
  rw [e] at b
  unfold m_check_crowd runD b_check_crowd
  show (sIf _ _ _ [some (.int n), some d, none] S).toR = _
  unfold sIf tOrD tV
  rw [a]
  simp only [Re.bind_ok, Bool.false_eq_true, if_false]
  rw [b]
  rfl
theorem le_check_crowd (ds : List Dv) (S : Sto) (_ : ds.length = 2) (_ : Closed S) (_ : lowL S.length ds = true) : Le S.length (runD 3 b_check_crowd ds S) (m_check_crowd ds S) := Le.refl _
/-! ### moved -/
noncomputable def m_moved : Fn := runD 6 b_moved
theorem moved_ok {S : Sto} {d : Dv} {c : List Int} {f w t : Nat} (h : Rd S d (c.map .int)) (hf : f < c.length) (hw : w < c.length) (ht : t < c.length) (hft : f ≠ t) : ∃ S', Ext S S' ∧ m_moved [d, .tup [.int f, .int w, .int t]] S = .ok (optD .tup (stepQ c f w t)) S' := by
  have s1 : sAsg (eV 1) (gTp 3 (gsCons (gN 2) (gsCons (gN 3) (gsCons (gN 4) gsNil)))) [some d, some (.tup [.int f, .int w, .int t]), none, none, none, none] S = .nx [some d, some (.tup [.int f, .int w, .int t]), some (.int f), some (.int w), some (.int t), none] S := rfl
  have tst := can_test (ρ := [some d, some (.tup [.int f, .int w, .int t]), some (.int f), some (.int w), some (.int t), none]) (S := S) (ic := 0) (fi := 2) (wi := 3) rfl rfl rfl h.q h.ns hf hw
  unfold m_moved runD b_moved
  cases hb : blocked c f w with
  | true =>
    refine ⟨S, Ext.rfl, ?_⟩
    show (sSeq _ _ [some d, some (.tup [.int f, .int w, .int t]), none, none, none, none] S).toR = _
    have s2 : sIf (tOrD (tV (e2 oLt (e2 oIx (eV 0) (eV 2)) (eC (.int 1)))) (tV (e2 oLt (e2 oIx (eV 0) (eV 3)) (e2 oAdd (eC (.int 1)) (eN bInt (aCons (e2 oEq (eV 3) (eV 2)) aNil)))))) (sRet (eC .non)) sNil [some d, some (.tup [.int f, .int w, .int t]), some (.int f), some (.int w), some (.int t), none] S = .ret .non S := by
      unfold sIf
      rw [tst, hb]
      rfl
    unfold sSeq
    rw [s1, SRe.seq_nx, s2]
    unfold stepQ
    rw [if_pos hb]
    rfl
  | false =>
    have s2 : sIf (tOrD (tV (e2 oLt (e2 oIx (eV 0) (eV 2)) (eC (.int 1)))) (tV (e2 oLt (e2 oIx (eV 0) (eV 3)) (e2 oAdd (eC (.int 1)) (eN bInt (aCons (e2 oEq (eV 3) (eV 2)) aNil)))))) (sRet (eC .non)) sNil [some d, some (.tup [.int f, .int w, .int t]), some (.int f), some (.int w), some (.int t), none] S = .nx [some d, some (.tup [.int f, .int w, .int t]), some (.int f), some (.int w), some (.int t), none] S := by
      unfold sIf
      rw [tst, hb]
      rfl
    have s3 : sSet 5 (eN bListC (aCons (eV 0) aNil)) [some d, some (.tup [.int f, .int w, .int t]), some (.int f), some (.int w), some (.int t), none] S = .nx [some d, some (.tup [.int f, .int w, .int t]), some (.int f), some (.int w), some (.int t), some (.cell S.length)] (S ++ [.lst (c.map .int)]) := by
      unfold sSet
      rw [eN1 (x := d) (S1 := S) rfl]
      unfold bListC
      dsimp only
      rw [h.q]
      rfl
    have g1 := push_get S (.lst (c.map .int))
    have s4 : sAsg (e2 oSub (e2 oIx (eV 5) (eV 2)) (eC (.int 1))) (gIx (eV 5) (eV 2)) [some d, some (.tup [.int f, .int w, .int t]), some (.int f), some (.int w), some (.int t), some (.cell S.length)] (S ++ [.lst (c.map .int)]) =
        .nx [some d, some (.tup [.int f, .int w, .int t]), some (.int f), some (.int w), some (.int t), some (.cell S.length)] (S ++ [.lst ((c.set f (nth c f - 1)).map .int)]) := by
      rw [asg_ix (x := .int (nth c f - 1)) (by rw [e2_ok (ix_e (var_e rfl _) (var_e rfl _) (Rd.of_cell g1).q (fun z e => by cases e) (map_int_get hf)) (y := .int 1) (S2 := S ++ [.lst (c.map .int)]) rfl]; rfl) rfl rfl g1 (by rw [List.length_map]; exact hf), push_set, List.map_set]
    have hl : (c.set f (nth c f - 1)).length = c.length := List.length_set
    have g2 := push_get S (.lst ((c.set f (nth c f - 1)).map .int))
    have hn : nth (c.set f (nth c f - 1)) t = nth c t := by
      unfold nth
      rw [List.getElem?_set_ne hft]
    have s5 : sAsg (e2 oAdd (e2 oIx (eV 5) (eV 4)) (eC (.int 1))) (gIx (eV 5) (eV 4)) [some d, some (.tup [.int f, .int w, .int t]), some (.int f), some (.int w), some (.int t), some (.cell S.length)] (S ++ [.lst ((c.set f (nth c f - 1)).map .int)]) =
        .nx [some d, some (.tup [.int f, .int w, .int t]), some (.int f), some (.int w), some (.int t), some (.cell S.length)] (S ++ [.lst ((turnQ 0 c f t).map .int)]) := by
      rw [asg_ix (x := .int (nth c t + 1)) (by rw [e2_ok (ix_e (var_e rfl _) (var_e rfl _) (Rd.of_cell g2).q (fun z e => by cases e) (map_int_get (by rw [hl]; exact ht))) (y := .int 1) (S2 := S ++ [.lst ((c.set f (nth c f - 1)).map .int)]) rfl, hn]; rfl) rfl rfl g2 (by rw [List.length_map, hl]; exact ht), push_set, ← List.map_set, turnQ_set hf ht hft]
    have g3 := push_get S (.lst ((turnQ 0 c f t).map .int))
    refine ⟨S ++ [.lst ((turnQ 0 c f t).map .int)], Ext.rfl.push _, ?_⟩
    have s6 : sRet (eN bTuple (aCons (eV 5) aNil)) [some d, some (.tup [.int f, .int w, .int t]), some (.int f), some (.int w), some (.int t), some (.cell S.length)] (S ++ [.lst ((turnQ 0 c f t).map .int)]) = .ret (.tup ((turnQ 0 c f t).map .int)) (S ++ [.lst ((turnQ 0 c f t).map .int)]) := by
      unfold sRet
      rw [eN1 (x := .cell S.length) (S1 := S ++ [.lst ((turnQ 0 c f t).map .int)]) rfl]
      unfold bTuple
      dsimp only
      rw [show asR (S ++ [.lst ((turnQ 0 c f t).map .int)]) (.cell S.length) = some ((turnQ 0 c f t).map .int) by simp [asR, asL, g3]]
      rfl
    show (sSeq _ _ [some d, some (.tup [.int f, .int w, .int t]), none, none, none, none] S).toR = _
    unfold sSeq
    rw [s1, SRe.seq_nx, s2, SRe.seq_nx, s3, SRe.seq_nx, s4, SRe.seq_nx, s5, SRe.seq_nx, s6]
    unfold stepQ
    rw [if_neg (by rw [hb]; exact Bool.false_ne_true)]
    rfl
theorem le_moved (ds : List Dv) (S : Sto) (_ : ds.length = 2) (_ : Closed S) (_ : lowL S.length ds = true) : Le S.length (runD 6 b_moved ds S) (m_moved ds S) := Le.refl _
/-! ### places_of -/
noncomputable def m_places_of : Fn := runD 3 b_places_of
theorem index_kt {S : Sto} {ks : List Str} {x : Str} (h : x ∈ ks) : mTIndex (.ktup (ks.map .str)) [.str x] S = .ok (.int (ix ks x)) S := by
  unfold mTIndex
  dsimp only
  rw [unSs_map]
  dsimp only
  rw [(ix_get h).1]
theorem places_ok {S : Sto} {ks : List Str} {R : List R3} {r : R3} (hr : ruleIn ks r = true) : m_places_of [bookD ks R, dR r] S = .ok (dI ks r) S := by
  obtain ⟨a, b, c⟩ := r
  have hr0 := hr
  unfold ruleIn at hr
  simp only [Bool.and_eq_true, decide_eq_true_eq] at hr
  obtain ⟨ha, hb, hc, hne⟩ := hr
  have turn : ∀ x, x ∈ ks → turnD (gN 2) ttYes (eM isKt mTIndex (e1 (fldD 0 "kept_kinds") (eV 0)) (aCons (eV 2) aNil)) (wipeE [some (bookD ks R), some (dR (a, b, c)), none] [2]) (.str x) S = .ok (some (.int (ix ks x))) S := fun x hx => by
    refine turn_map ?_
    show eM isKt mTIndex (e1 (fldD 0 "kept_kinds") (eV 0)) (aCons (eV 2) aNil) [some (bookD ks R), some (dR (a, b, c)), some (.str x)] S = _
    unfold eM
    rw [e1_ok (x := bookD ks R) (S1 := S) rfl, fld_kinds, Re.bind_ok, if_pos (show isKt (.ktup (ks.map .str)) S = true from rfl), aCons_ok (var_e rfl S) (show aNil _ S = .ok [] S from rfl), Re.bind_ok]
    exact index_kt hx
  have q := eLc_pure (f := iSeq (eV 1)) (g := gN 2) (t := ttYes) (e := eM isKt mTIndex (e1 (fldD 0 "kept_kinds") (eV 0)) (aCons (eV 2) aNil)) (vs := [2]) (ρ := [some (bookD ks R), some (dR (a, b, c)), none]) (S := S) (l := [.str a, .str b, .str c]) (chk := always) (fun d => match d with | .str x => some (.int (ix ks x)) | _ => none)
    rfl (always_ _) (by rw [sizeLine_eq]; simp) (fun d hd => by
      simp only [List.mem_cons, List.not_mem_nil, or_false] at hd
      rcases hd with rfl | rfl | rfl
      · exact turn _ ha
      · exact turn _ hb
      · exact turn _ hc)
  unfold m_places_of runD b_places_of
  show (sRet _ [some (bookD ks R), some (dR (a, b, c)), none] S).toR = _
  unfold sRet
  rw [eN1 q]
  rfl
theorem le_places_of (ds : List Dv) (S : Sto) (_ : ds.length = 2) (_ : Closed S) (_ : lowL S.length ds = true) : Le S.length (runD 3 b_places_of ds S) (m_places_of ds S) := Le.refl _
end DL
namespace DL
open PySem PySem.Spec PyProof.Rows L2
theorem Rd.ext {S S' : Sto} {d : Dv} {l : List Dv} (h : Rd S d l) (e : Ext S S') : Rd S' d l := by
  have q := h.q
  have it := h.it
  have ns := h.ns
  cases d with
  | cell k =>
    simp only [asQ, asR, asL] at q
    split at q
    · rename_i m hk
      cases q
      exact Rd.of_cell (e.get hk)
    · cases q
  | tup m =>
    cases q
    exact Rd.of_tup
  | ktup m =>
    cases q
    exact ⟨rfl, ⟨always, rfl, trivial⟩, ns⟩
  | lst m =>
    cases q
    exact Rd.of_lst
  | ro m =>
    cases q
    exact ⟨rfl, ⟨always, rfl, trivial⟩, ns⟩
  | str z => exact absurd rfl (ns z)
  | _ => simp [asQ, asR, asL] at q
/-! ### comprehensions while the store grows -/
theorem lcL_inv {b : Dv → Sto → Re (Option Dv)} {chk : Sto → Prop} {G : Dv → Option Dv} {P : Sto → Prop} (hc : ∀ S, P S → chk S) : ∀ (l : List Dv) (S : Sto), P S → (∀ d ∈ l, ∀ S, P S → ∃ S', P S' ∧ b d S = .ok (G d) S') → ∃ S', P S' ∧ lcL b chk l S = .ok (l.filterMap G) S'
  | [], S, hp, _ => ⟨S, hp, rfl⟩
  | d :: r, S, hp, h => by
    obtain ⟨S1, p1, e1⟩ := h d List.mem_cons_self S hp
    obtain ⟨S2, p2, e2⟩ := lcL_inv hc r S1 p1 fun e he => h e (List.mem_cons_of_mem _ he)
    refine ⟨S2, p2, ?_⟩
    unfold lcL
    rw [e1, Re.bind_ok, if_pos (hc S1 p1), e2, Re.bind_ok]
    cases e : G d <;> simp [e]
theorem lcD_inv {f : It'} {g : Gt} {t : Tt} {e : Ex} {vs : List Nat} {ρ : En} {S S0 : Sto} {l : List Dv} {chk : Sto → Prop} (G : Dv → Option Dv) (P : Sto → Prop) (hf : f ρ S = .ok (l, chk) S0) (hp : P S0) (hc : ∀ S, P S → chk S) (hl : l.length ≤ sizeLine) (hb : ∀ d ∈ l, ∀ S, P S → ∃ S', P S' ∧ turnD g t e (wipeE ρ vs) d S = .ok (G d) S') :
    ∃ S', P S' ∧ lcD f g t e vs ρ S = .ok (l.filterMap G) S' := by
  obtain ⟨S', p, q⟩ := lcL_inv (b := turnD g t e (wipeE ρ vs)) hc l S0 hp hb
  refine ⟨S', p, ?_⟩
  unfold lcD
  rw [hf, Re.bind_ok, if_pos ⟨hc _ hp, hl⟩, q]
theorem lcL_draw {b : Dv → Sto → Re (Option Dv)} {chk : Sto → Prop} {Q : Dv → Prop} {P : Sto → Prop} (hc : ∀ S, P S → chk S) : ∀ (l : List Dv) (S : Sto), P S → (∀ d ∈ l, ∀ S, P S → ∃ y S', P S' ∧ Q y ∧ b d S = .ok (some y) S') → ∃ ys S', P S' ∧ ys.length = l.length ∧ (∀ y ∈ ys, Q y) ∧ lcL b chk l S = .ok ys S'
  | [], S, hp, _ => ⟨[], S, hp, rfl, fun _ h => (List.not_mem_nil h).elim, rfl⟩
  | d :: r, S, hp, h => by
    obtain ⟨y, S1, p1, q1, e1⟩ := h d List.mem_cons_self S hp
    obtain ⟨ys, S2, p2, l2, q2, e2⟩ := lcL_draw hc r S1 p1 fun e he => h e (List.mem_cons_of_mem _ he)
    refine ⟨y :: ys, S2, p2, by simp [l2], fun z hz => ?_, ?_⟩
    · rcases List.mem_cons.mp hz with rfl | hz
      · exact q1
      · exact q2 z hz
    · unfold lcL
      rw [e1, Re.bind_ok, if_pos (hc S1 p1), e2, Re.bind_ok]
      rfl
theorem lcD_draw {f : It'} {g : Gt} {t : Tt} {e : Ex} {vs : List Nat} {ρ : En} {S S0 : Sto} {l : List Dv} {chk : Sto → Prop} (Q : Dv → Prop) (P : Sto → Prop) (hf : f ρ S = .ok (l, chk) S0) (hp : P S0) (hc : ∀ S, P S → chk S) (hl : l.length ≤ sizeLine) (hb : ∀ d ∈ l, ∀ S, P S → ∃ y S', P S' ∧ Q y ∧ turnD g t e (wipeE ρ vs) d S = .ok (some y) S') :
    ∃ ys S', P S' ∧ ys.length = l.length ∧ (∀ y ∈ ys, Q y) ∧ lcD f g t e vs ρ S = .ok ys S' := by
  obtain ⟨ys, S', p, ln, q, w⟩ := lcL_draw (b := turnD g t e (wipeE ρ vs)) hc l S0 hp hb
  refine ⟨ys, S', p, ln, q, ?_⟩
  unfold lcD
  rw [hf, Re.bind_ok, if_pos ⟨hc _ hp, hl⟩, w]
theorem turn_ifS {i : Nat} {t : Tt} {e : Ex} {ρ : En} {d y : Dv} {c : Bool} {S S1 : Sto} (ht : t (ρ.set i (some d)) S = .ok c S1) (h : c = true → e (ρ.set i (some d)) S1 = .ok y S1) : turnD (gN i) t e ρ d S = .ok (if c = true then some y else none) S1 := by
  unfold turnD gN
  cases c
  · simp [noexc, ht]
  · simp [noexc, ht, h rfl]
theorem turn_mapS {i : Nat} {e : Ex} {ρ : En} {d y : Dv} {S S1 : Sto} (h : e (ρ.set i (some d)) S = .ok y S1) : turnD (gN i) ttYes e ρ d S = .ok (some y) S1 := by
  unfold turnD gN ttYes
  simp [noexc, h]
theorem unR_dR (r : R3) : unR (dR r) = some r := rfl
/-! ### rules that can be done -/
def canR (ks : List Str) (c : List Int) (r : R3) : Bool := !blocked c (ix ks r.1) (ix ks r.2.1)
def doneR (ks : List Str) (c : List Int) (r : R3) : Option (List Int) := stepQ c (ix ks r.1) (ix ks r.2.1) (ix ks r.2.2)
def able (ks : List Str) (R : List R3) (c : List Int) : List R3 := R.filter (canR ks c)
theorem doneR_can {ks : List Str} {c : List Int} {r : R3} (h : canR ks c r = true) : doneR ks c r = some (turnQ 0 c (ix ks r.1) (ix ks r.2.2)) := by
  unfold canR at h
  unfold doneR stepQ
  rw [if_neg (by simpa using h)]
theorem doneR_not {ks : List Str} {c : List Int} {r : R3} (h : canR ks c r = false) : doneR ks c r = none := by
  unfold canR at h
  unfold doneR stepQ
  rw [if_pos (by simpa using h)]
/-- what a rule of the book says about its places -/
theorem ruleIn_ix {ks : List Str} {r : R3} (h : ruleIn ks r = true) : ix ks r.1 < ks.length ∧ ix ks r.2.1 < ks.length ∧ ix ks r.2.2 < ks.length ∧ ix ks r.1 ≠ ix ks r.2.2 := by
  unfold ruleIn at h
  simp only [Bool.and_eq_true, decide_eq_true_eq] at h
  obtain ⟨ha, hb, hc, hne⟩ := h
  refine ⟨ix_lt ha, ix_lt hb, ix_lt hc, fun e => hne ?_⟩
  have h1 := (ix_get ha).2
  have h2 := (ix_get hc).2
  rw [← e, h1] at h2
  exact (Option.some.inj h2).symm
theorem moved_r {S : Sto} {d : Dv} {c : List Int} {ks : List Str} {r : R3} (h : Rd S d (c.map .int)) (hl : c.length = ks.length) (hr : ruleIn ks r = true) : ∃ S', Ext S S' ∧ m_moved [d, dI ks r] S = .ok (optD .tup (doneR ks c r)) S' := by
  obtain ⟨h1, h2, h3, h4⟩ := ruleIn_ix hr
  exact moved_ok h (by omega) (by omega) (by omega) h4
noncomputable def m_can_do : Fn := runD 3 (b_can_do m_check_crowd m_moved m_places_of)
theorem kinds_len {ks : List Str} {R : List R3} {S : Sto} {ρ : En} {i : Nat} (h : ρ[i]? = some (some (bookD ks R))) : eN bLen (aCons (e1 (fldD 0 "kept_kinds") (eV i)) aNil) ρ S = .ok (.int ks.length) S := by
  rw [eN1 ((e1_ok (var_e h S)).trans (fld_kinds ks R S))]
  unfold bLen
  dsimp only
  rw [show asQ S (.ktup (ks.map .str)) = some (ks.map .str) from rfl]
  dsimp only
  rw [List.length_map]
theorem can_do_ok {S : Sto} {d : Dv} {c : List Int} {ks : List Str} {R : List R3} (B : Book ks R) (h : Rd S d (c.map .int)) (hl : c.length = ks.length) (h0 : ∀ x ∈ c, 0 ≤ x) : ∃ j S', Ext S S' ∧ S.length ≤ j ∧ S'[j]? = some (.lst ((able ks R c).map dR)) ∧ m_can_do [bookD ks R, d] S = .ok (.cell j) S' := by
  have k8 := B.kl
  have s1 : sExpr (eCall 2 m_check_crowd (aCons (eN bLen (aCons (e1 (fldD 0 "kept_kinds") (eV 0)) aNil)) (aCons (eV 1) aNil))) [some (bookD ks R), some d, none] S = .nx [some (bookD ks R), some d, none] S := by
    unfold sExpr
    rw [eCall_ok (n := 2) (aCons_ok (kinds_len rfl) (aCons_ok (var_e rfl S) rfl)) rfl, check_crowd_ok h hl (by rw [sizeLine_eq]; omega) h0]
    rfl
  obtain ⟨S', p, q⟩ := lcD_inv (f := iSeq (e1 (fldD 0 "kept_rules") (eV 0))) (g := gN 2) (t := tV (e2 oIsNot (eCall 2 m_moved (aCons (eV 1) (aCons (eCall 2 m_places_of (aCons (eV 0) (aCons (eV 2) aNil))) aNil))) (eC .non))) (e := eV 2) (vs := [2]) (ρ := [some (bookD ks R), some d, none]) (S := S) (S0 := S) (l := R.map dR) (chk := always)
    (fun d => (unR d).bind fun r => if canR ks c r = true then some (dR r) else none) (fun S' => Ext S S') (by
      unfold iSeq
      rw [(e1_ok (var_e rfl S)).trans (fld_rules ks R S)]
      rfl) Ext.rfl (fun S _ => always_ S) (by rw [List.length_map]; exact B.rln) (fun z hz S1 h1 => by
      obtain ⟨r, hr, rfl⟩ := List.mem_map.mp hz
      have hri := B.rin r hr
      obtain ⟨S2, x2, m2⟩ := moved_r (h.ext h1) hl hri
      refine ⟨S2, h1.trans x2, ?_⟩
      rw [unR_dR]
      show _ = Re.ok (if canR ks c r = true then some (dR r) else none) S2
      refine turn_ifS ?_ fun _ => rfl
      show tV _ [some (bookD ks R), some d, some (dR r)] S1 = _
      have a : eCall 2 m_moved (aCons (eV 1) (aCons (eCall 2 m_places_of (aCons (eV 0) (aCons (eV 2) aNil))) aNil)) [some (bookD ks R), some d, some (dR r)] S1 = .ok (optD .tup (doneR ks c r)) S2 := by
        rw [eCall_ok (n := 2) (aCons_ok (var_e rfl S1) (aCons_ok (by
          rw [eCall_ok (n := 2) (aCons_ok (var_e rfl S1) (aCons_ok (var_e rfl S1) rfl)) rfl]
          exact places_ok hri) rfl)) rfl]
        exact m2
      unfold tV
      rw [e2_ok a (y := .non) (S2 := S2) rfl]
      cases e : canR ks c r with
      | true => rw [doneR_can e]; rfl
      | false => rw [doneR_not e]; rfl)
  have e : (R.map dR).filterMap (fun d => (unR d).bind fun r => if canR ks c r = true then some (dR r) else none) = (able ks R c).map dR := by
    rw [List.filterMap_map]
    unfold able
    rw [← List.filterMap_eq_filter, List.map_filterMap]
    refine fm_congr fun r _ => ?_
    show ((unR (dR r)).bind fun r => if canR ks c r = true then some (dR r) else none) = _
    rw [unR_dR]
    cases hc : canR ks c r <;> simp [hc, Option.guard]
  rw [e] at q
  refine ⟨S'.length, S' ++ [.lst ((able ks R c).map dR)], p.push _, p.le, push_get _ _, ?_⟩
  have s2 : sRet (eLcC (iSeq (e1 (fldD 0 "kept_rules") (eV 0))) (gN 2) (tV (e2 oIsNot (eCall 2 m_moved (aCons (eV 1) (aCons (eCall 2 m_places_of (aCons (eV 0) (aCons (eV 2) aNil))) aNil))) (eC .non))) (eV 2) [2]) [some (bookD ks R), some d, none] S = .ret (.cell S'.length) (S' ++ [.lst ((able ks R c).map dR)]) := by
    unfold sRet eLcC
    rw [eN_ok q]
    rfl
  unfold m_can_do runD b_can_do
  show (sSeq _ _ [some (bookD ks R), some d, none] S).toR = _
  unfold sSeq
  rw [s1, SRe.seq_nx, s2]
  rfl
theorem le_can_do (ds : List Dv) (S : Sto) (_ : ds.length = 2) (_ : Closed S) (_ : lowL S.length ds = true) : Le S.length (runD 3 (b_can_do m_check_crowd m_moved m_places_of) ds S) (m_can_do ds S) := Le.refl _
/-! ### what stands behind a rule -/
noncomputable def m_done : Fn := runD 4 (b_done m_check_crowd m_moved m_places_of)
theorem done_ok {S : Sto} {d : Dv} {c l : List Int} {ks : List Str} {R : List R3} {r : R3} (B : Book ks R) (h : Rd S d (c.map .int)) (hl : c.length = ks.length) (h0 : ∀ x ∈ c, 0 ≤ x) (hr : r ∈ R) (hd : doneR ks c r = some l) : ∃ j S', Ext S S' ∧ S.length ≤ j ∧ S'[j]? = some (.lst (l.map .int)) ∧ m_done [bookD ks R, d, dR r] S = .ok (.cell j) S' := by
  have k8 := B.kl
  have hri := B.rin r hr
  have s1 : sExpr (eCall 2 m_check_crowd (aCons (eN bLen (aCons (e1 (fldD 0 "kept_kinds") (eV 0)) aNil)) (aCons (eV 1) aNil))) [some (bookD ks R), some d, some (dR r), none] S = .nx [some (bookD ks R), some d, some (dR r), none] S := by
    unfold sExpr
    rw [eCall_ok (n := 2) (aCons_ok (kinds_len rfl) (aCons_ok (var_e rfl S) rfl)) rfl, check_crowd_ok h hl (by rw [sizeLine_eq]; omega) h0]
    rfl
  have s2 : sIf (tV (e2 oNotIn (eV 2) (e1 (fldD 0 "kept_rules") (eV 0)))) (sRaise 9 (eV 2)) sNil [some (bookD ks R), some d, some (dR r), none] S = .nx [some (bookD ks R), some d, some (dR r), none] S := by
    have q : oNotIn (dR r) (.tup (R.map dR)) S = _ := in_rules (neg := true) (.inr (toPy_tup (toPys_map (toPy_dR S) R))) B.okr (B.okr r hr)
    unfold sIf tV
    rw [e2_ok (var_e rfl S) ((e1_ok (var_e rfl S)).trans (fld_rules ks R S)), q, decide_eq_true hr]
    rfl
  obtain ⟨S', x2, m2⟩ := moved_r h hl hri
  rw [hd] at m2
  have s3 : sSet 3 (eCall 2 m_moved (aCons (eV 1) (aCons (eCall 2 m_places_of (aCons (eV 0) (aCons (eV 2) aNil))) aNil))) [some (bookD ks R), some d, some (dR r), none] S = .nx [some (bookD ks R), some d, some (dR r), some (.tup (l.map .int))] S' := by
    unfold sSet
    rw [eCall_ok (n := 2) (aCons_ok (var_e rfl S) (aCons_ok (by
          rw [eCall_ok (n := 2) (aCons_ok (var_e rfl S) (aCons_ok (var_e rfl S) rfl)) rfl]
          exact places_ok hri) rfl)) rfl, m2]
    rfl
  refine ⟨S'.length, S' ++ [.lst (l.map .int)], x2.push _, x2.le, push_get _ _, ?_⟩
  unfold m_done runD b_done
  show (sSeq _ _ [some (bookD ks R), some d, some (dR r), none] S).toR = _
  unfold sSeq
  rw [s1, SRe.seq_nx, s2, SRe.seq_nx, s3, SRe.seq_nx]
  rfl
theorem le_done (ds : List Dv) (S : Sto) (_ : ds.length = 3) (_ : Closed S) (_ : lowL S.length ds = true) : Le S.length (runD 4 (b_done m_check_crowd m_moved m_places_of) ds S) (m_done ds S) := Le.refl _
end DL
namespace DL
open PySem PySem.Spec PyProof.Rows L2
/-! ### the law's own step -/
theorem enD_mem : ∀ (n : Nat) (l : List Int) (d : Dv), d ∈ enD n (l.map .int) → ∃ (i : Nat) (x : Int), d = .tup [.int i, .int x]
  | _, [], _, h => by simp [enD] at h
  | n, x :: r, d, h => by
    rw [List.map_cons, enD, List.mem_cons] at h
    rcases h with rfl | h
    · exact ⟨n, x, rfl⟩
    · exact enD_mem (n + 1) r d h
def turnG (f t : Nat) (d : Dv) : Option Dv := match d with
  | .tup [.int i, .int x] => some (.int (x - (if i = (f : Int) then 1 else 0) + (if i = (t : Int) then 1 else 0)))
  | _ => none
theorem enD_turn (f t : Nat) : ∀ (n : Nat) (l : List Int), (enD n (l.map .int)).filterMap (turnG f t) = (turnQ n l f t).map .int
  | _, [] => rfl
  | n, x :: r => by
    rw [List.map_cons, enD, List.filterMap_cons, enD_turn f t (n + 1) r, turnQ, List.map_cons]
    unfold turnG
    dsimp only
    rw [one_cast, one_cast]
structure Herd (S : Sto) (d : Dv) (c : List Int) : Prop where
  rd : Rd S d (c.map .int)
  it : ∃ chk, itL d S = .ok (c.map .int, chk) S ∧ chk S
theorem Herd.of_cell {S : Sto} {k : Nat} {c : List Int} (h : S[k]? = some (.lst (c.map .int))) : Herd S (.cell k) c := by
  refine ⟨Rd.of_cell h, fun S' => S'[k]? = some (.lst (c.map .int)), ?_, h⟩
  unfold itL
  dsimp only
  rw [h]
theorem Herd.of_lst {S : Sto} {c : List Int} : Herd S (.lst (c.map .int)) c := ⟨Rd.of_lst, always, rfl, trivial⟩
noncomputable def m__law_turned_to : Fn := runD 9 b__law_turned_to
theorem turned_ok {S : Sto} {dp dh : Dv} {c : List Int} {ks : List Str} {rs : List R3} {r : R3} (p : Plan S dp ks rs) (hk : ∀ x ∈ ks, PyData.strOk x = true) (h : Herd S dh c) (hl : c.length = ks.length) (hl8 : c.length ≤ 1000) (hr : ruleIn ks r = true) : m__law_turned_to [dp, dh, dR r] S = .ok (optD .lst (doneR ks c r)) S := by
  obtain ⟨dk, dr, rfl, h1, h2⟩ := p.ex
  obtain ⟨i1, i2, i3, i4⟩ := ruleIn_ix hr
  have s1 : sAsg (eLc (iSeq (eV 2)) (gN 6) ttYes (eM isL mIndex (e2 oIx (eV 0) (eC (.int 0))) (aCons (eV 6) aNil)) [6]) (gUl 3 (gsCons (gN 3) (gsCons (gN 4) (gsCons (gN 5) gsNil)))) [some (.tup [dk, dr]), some dh, some (dR r), none, none, none, none, none, none] S =
      .nx [some (.tup [dk, dr]), some dh, some (dR r), some (.int (ix ks r.1)), some (.int (ix ks r.2.1)), some (.int (ix ks r.2.2)), none, none, none] S := by
    unfold sAsg
    rw [lc_index (S := S) (ks := ks) (r := r) (i := 2) (j := 0) (m := 6) (ρ := [some (.tup [dk, dr]), some dh, some (dR r), none, none, none, none, none, none]) (o := e2 oIx (eV 0) (eC (.int 0))) (d := dk) hk hr rfl (fun _ => rfl) (asQ_of h1).2.2 (toPy_asL h1 (toPy_str S) pyP_str) (by simp)]
    rfl
  have tst := can_test (ρ := [some (.tup [dk, dr]), some dh, some (dR r), some (.int (ix ks r.1)), some (.int (ix ks r.2.1)), some (.int (ix ks r.2.2)), none, none, none]) (S := S) (ic := 1) (fi := 3) (wi := 4) rfl rfl rfl h.rd.q h.rd.ns (show ix ks r.1 < c.length by omega) (show ix ks r.2.1 < c.length by omega)
  have s2 : sIf (tOrD (tV (e2 oLt (e2 oIx (eV 1) (eV 3)) (eC (.int 1)))) (tV (e2 oLt (e2 oIx (eV 1) (eV 4)) (e2 oAdd (eC (.int 1)) (eN bInt (aCons (e2 oEq (eV 4) (eV 3)) aNil)))))) (sRet (eC .non)) sNil [some (.tup [dk, dr]), some dh, some (dR r), some (.int (ix ks r.1)), some (.int (ix ks r.2.1)), some (.int (ix ks r.2.2)), none, none, none] S =
      if blocked c (ix ks r.1) (ix ks r.2.1) = true then .ret .non S else .nx [some (.tup [dk, dr]), some dh, some (dR r), some (.int (ix ks r.1)), some (.int (ix ks r.2.1)), some (.int (ix ks r.2.2)), none, none, none] S := by
    unfold sIf
    rw [tst, Re.toS_ok]
    cases blocked c (ix ks r.1) (ix ks r.2.1) <;> rfl
  unfold m__law_turned_to runD b__law_turned_to
  show (sSeq _ _ [some (.tup [dk, dr]), some dh, some (dR r), none, none, none, none, none, none] S).toR = _
  unfold sSeq
  rw [s1, SRe.seq_nx, s2]
  unfold doneR stepQ
  cases hb : blocked c (ix ks r.1) (ix ks r.2.1) with
  | true => rfl
  | false =>
    rw [if_neg Bool.false_ne_true, if_neg Bool.false_ne_true, SRe.seq_nx]
    obtain ⟨chk, it, hc⟩ := h.it
    have q := eLc_pure (f := iEn (aCons (eV 1) aNil)) (g := gTp 2 (gsCons (gN 7) (gsCons (gN 8) gsNil))) (t := ttYes) (e := e2 oAdd (e2 oSub (eV 8) (eN bInt (aCons (e2 oEq (eV 7) (eV 3)) aNil))) (eN bInt (aCons (e2 oEq (eV 7) (eV 5)) aNil))) (vs := [7, 8]) (S := S) (l := enD 0 (c.map .int)) (chk := chk)
      (ρ := [some (.tup [dk, dr]), some dh, some (dR r), some (.int (ix ks r.1)), some (.int (ix ks r.2.1)), some (.int (ix ks r.2.2)), none, none, none]) (turnG (ix ks r.1) (ix ks r.2.2)) (by
        unfold iEn
        rw [aCons_ok (var_e rfl S) (show aNil _ S = .ok [] S from rfl), Re.bind_ok]
        show (itL dh S).bind _ = _
        rw [it]
        rfl) hc (by rw [enD_len, List.length_map, sizeLine_eq]; omega) (fun d hd => by
        obtain ⟨i, x, rfl⟩ := enD_mem 0 c d hd
        have v : e2 oAdd (e2 oSub (eV 8) (eN bInt (aCons (e2 oEq (eV 7) (eV 3)) aNil))) (eN bInt (aCons (e2 oEq (eV 7) (eV 5)) aNil)) [some (.tup [dk, dr]), some dh, some (dR r), some (.int (ix ks r.1)), some (.int (ix ks r.2.1)), some (.int (ix ks r.2.2)), none, some (.int i), some (.int x)] S =
            .ok (.int (x - (if (i : Int) = (ix ks r.1 : Int) then 1 else 0) + (if (i : Int) = (ix ks r.2.2 : Int) then 1 else 0))) S := by
          rw [e2_ok (x := .int (x - (if (i : Int) = (ix ks r.1 : Int) then 1 else 0))) (by rw [e2_ok (var_e rfl S) (ind_e (var_e rfl S) (var_e rfl S))]; rfl) (ind_e (var_e rfl S) (var_e rfl S))]
          rfl
        unfold turnD
        show (Re.bind (noexc (ttYes _ S)) _) = _
        unfold ttYes
        rw [noexc_ok, Re.bind_ok, if_pos rfl]
        show (noexc (e2 oAdd _ _ [some (.tup [dk, dr]), some dh, some (dR r), some (.int (ix ks r.1)), some (.int (ix ks r.2.1)), some (.int (ix ks r.2.2)), none, some (.int i), some (.int x)] S)).bind _ = _
        rw [v]
        rfl)
    rw [enD_turn] at q
    unfold sRet
    rw [q]
    rfl
theorem le__law_turned_to (ds : List Dv) (S : Sto) (_ : ds.length = 3) (_ : Closed S) (_ : lowL S.length ds = true) : Le S.length (runD 9 b__law_turned_to ds S) (m__law_turned_to ds S) := Le.refl _
/-! ### herds -/
noncomputable def m__law_herd : Fn := runD 4 (b__law_herd m__law_grind)
theorem ints_of : ∀ {l : List Dv} {Q : Int → Prop}, (∀ y ∈ l, ∃ x, y = .int x ∧ Q x) → ∃ c : List Int, l = c.map .int ∧ ∀ x ∈ c, Q x
  | [], _, _ => ⟨[], rfl, fun _ h => (List.not_mem_nil h).elim⟩
  | y :: r, Q, h => by
    obtain ⟨x, rfl, hq⟩ := h y List.mem_cons_self
    obtain ⟨c, rfl, hc⟩ := ints_of fun z hz => h z (List.mem_cons_of_mem _ hz)
    refine ⟨x :: c, rfl, fun z hz => ?_⟩
    rcases List.mem_cons.mp hz with rfl | hz
    · exact hq
    · exact hc z hz
theorem herd_ok {S : Sto} {k n : Nat} {m : Int} (hm : Mill S k) (hn : n ≤ 1000) (h0 : 0 ≤ m) (h1 : m < 1048576) : ∃ (j : Nat) (c : List Int) (S' : Sto), m__law_herd [.cell k, .int n, .int m] S = .ok (.cell j) S' ∧ S.length ≤ j ∧ S'[j]? = some (.lst (c.map .int)) ∧ c.length = n ∧ (∀ x ∈ c, 0 ≤ x ∧ x ≤ m) ∧ Nx k S S' := by
  obtain ⟨ys, S', p, ln, q, w⟩ := lcD_draw (f := iRg1 (aCons (eV 1) aNil)) (g := gN 3) (t := ttYes) (e := eCall 2 m__law_grind (aCons (eV 0) (aCons (e2 oAdd (eV 2) (eC (.int 1))) aNil))) (vs := [3]) (ρ := [some (.cell k), some (.int n), some (.int m), none]) (S := S) (S0 := S) (l := rgD 0 n) (chk := always)
    (fun y => ∃ x, y = .int x ∧ (0 ≤ x ∧ x ≤ m)) (fun S' => Nx k S S') (rg_ok (var_e rfl S) hn) (Nx.rfl hm) (fun S _ => always_ S) (by unfold rgD; rw [List.length_map, List.length_range, sizeLine_eq]; omega) (fun d hd S1 h => by
      obtain ⟨i, S2, g1, g2, g3, g4, g5, g6⟩ := draw_e (ρ := [some (.cell k), some (.int n), some (.int m), some d]) (i := 0) (e := e2 oAdd (eV 2) (eC (.int 1))) (c := m + 1) (S := S1) (S1 := S1) rfl rfl h.mill (by omega) (by omega)
      exact ⟨.int i, S2, h.trans g6, ⟨i, rfl, g1, by omega⟩, turn_mapS g3⟩)
  obtain ⟨c, rfl, hq⟩ := ints_of q
  have hr : (rgD 0 n).length = n := by unfold rgD; rw [List.length_map, List.length_range]
  rw [List.length_map, hr] at ln
  refine ⟨S'.length, c, S' ++ [.lst (c.map .int)], ?_, p.le, push_get _ _, ln, hq, p.push _⟩
  unfold m__law_herd runD b__law_herd
  show (sRet _ [some (.cell k), some (.int n), some (.int m), none] S).toR = _
  unfold sRet eLcC
  rw [eN_ok w]
  rfl
theorem le__law_herd (ds : List Dv) (S : Sto) (_ : ds.length = 3) (_ : Closed S) (_ : lowL S.length ds = true) : Le S.length (runD 4 (b__law_herd m__law_grind) ds S) (m__law_herd ds S) := Le.refl _
end DL
namespace DL
open PySem PySem.Spec PyProof.Rows L2
/-! ### rows of numbers, shown and compared -/
theorem short_int64 : ∀ n : Nat, n ≤ 64 → PyData.leavesShort 13 (.int n) = true ∧ PyData.showable (.int n) = true ∧ PyData.weight (.int n) ≤ 8 := by decide +kernel
theorem sml_int {x : Int} (h0 : 0 ≤ x) (h1 : x ≤ 64) : Sml 8 0 (.int x) := by
  obtain ⟨n, rfl⟩ := Int.eq_ofNat_of_zero_le h0
  obtain ⟨a, b, c⟩ := short_int64 n (by omega)
  exact ⟨b, by simp [PyData.hasDict], a, c, by simp [PyData.depth]⟩
def okC (c : List Int) : Prop := ∀ x ∈ c, 0 ≤ x ∧ x ≤ 64
theorem okC.sml {c : List Int} (h : okC c) : Sml (9 * c.length) 1 (.list (c.map .int)) := sml_list fun x hx => sml_int (h x hx).1 (h x hx).2
theorem pyP_int (x : Int) : pyP (.int x) = some (.int x) := by rw [pyP]
theorem eqv_int (x y : Int) : PyData.eqv (.int x) (.int y) = decide (x = y) := by
  simp only [PyData.eqv]
  by_cases h : x = y
  · simp [h]
  · simp [h]
theorem shapedIs (c : List Int) : SeqAt.shaped (.list (c.map .int)) = true ∧ SeqAt.shaped (.tuple (c.map .int)) = true :=
  shaped_list fun x hx => ⟨by rw [PyData.canLay0], by rw [PyData.depth]; omega⟩
theorem toPy_ints {S : Sto} {k : Nat} {c : List Int} (h : S[k]? = some (.lst (c.map .int))) : toPy S (.cell k) = some (.list (c.map .int)) := toPy_cell h (pyPs_map pyP_int c)
theorem toPy_intL (S : Sto) (c : List Int) : toPy S (.lst (c.map .int)) = some (.list (c.map .int)) := toPy_lst (toPys_map (toPy_int S) c)
theorem toPy_rules {S : Sto} {k : Nat} {c : List R3} (h : S[k]? = some (.lst (c.map dR))) : toPy S (.cell k) = some (.list (c.map pR)) := toPy_cell h (pyPs_map pyP_dR c)
theorem toPy_ruleL (S : Sto) (c : List R3) : toPy S (.lst (c.map dR)) = some (.list (c.map pR)) := toPy_lst (toPys_map (toPy_dR S) c)
theorem same_ints {S S1 S2 : Sto} {a b : Ex} {ρ : En} {x y : Dv} {c : List Int} {f : Bool → Bool} (ha : a ρ S = .ok x S1) (hb : b ρ S1 = .ok y S2) (hx : toPy S2 x = some (.list (c.map .int))) (hy : toPy S2 y = some (.list (c.map .int))) : tV (e2 (oEqF f) a b) ρ S = .ok (f true) S2 := by
  unfold tV
  rw [e2_ok ha hb]
  have e : oEqF f x y S2 = oEqD f x y S2 := by
    unfold oEqF
    cases x <;> cases y <;> first | rfl | (rw [toPy_str] at hx; cases hx)
  rw [e]
  unfold oEqD
  rw [hx, hy]
  dsimp only
  rw [(shapedIs c).1, Bool.and_self, if_pos rfl, PyData.eqv, eqvAll_map eqv_int, decide_eq_true rfl]
  rfl
theorem sml_two {m k : Nat} {p : PyData} (h : Sml m k p) : Sml ((m + 1) * 2) (k + 1) (.list [p, p]) := sml_list (l := [0, 0]) (g := fun _ => p) fun _ _ => h
/-! ### books compared -/
theorem own_ok {ks : List Str} {R R' : List R3} {b : Bool → Bool} {S : Sto} (B : Book ks R) (B' : Book ks R') : oOwn 0 m_Book_eq b (bookD ks R) (bookD ks R') S = .ok (.bl (b (decide (R = R')))) S := by
  unfold oOwn
  rw [if_pos ⟨rfl, rfl⟩, eq_ok B.sok B'.sok B.okr B'.okr, decide_eq_true rfl, Bool.true_and]
  rfl
theorem own_e {ks : List Str} {R R' : List R3} {b : Bool → Bool} {S S1 S2 : Sto} {x y : Ex} {ρ : En} (hx : x ρ S = .ok (bookD ks R) S1) (hy : y ρ S1 = .ok (bookD ks R') S2) (B : Book ks R) (B' : Book ks R') : e2 (oOwn 0 m_Book_eq b) x y ρ S = .ok (.bl (b (decide (R = R')))) S2 := by
  rw [e2_ok hx hy, own_ok B B']
/-! ### the rules of the book that can be done, as the law has them -/
theorem Plan.cells {S : Sto} {j f : Nat} {ks : List Str} {rs : List R3} (hj : S[j]? = some (.lst (ks.map .str))) (hf : S[f]? = some (.lst (rs.map dR))) : Plan S (.tup [.cell j, .cell f]) ks rs := ⟨_, _, rfl, asL_cell hj, asL_cell hf⟩
theorem due_e {S : Sto} {ρ : En} {ip ih ir : Nat} {dp dh : Dv} {ks : List Str} {rs : List R3} {c : List Int} (B : Book ks rs) (p : Plan S dp ks rs) (h : Herd S dh c) (hl : c.length = ks.length) (h1 : ρ[ip]? = some (some dp)) (h2 : ρ[ih]? = some (some dh)) (h3 : ir < ρ.length) (n1 : ip ≠ ir) (n2 : ih ≠ ir) :
    eLc (iSeq (eCall 1 m__law_ranked (aCons (eV ip) aNil))) (gN ir) (tV (e2 oIsNot (eCall 3 m__law_turned_to (aCons (eV ip) (aCons (eV ih) (aCons (eV ir) aNil)))) (eC .non))) (eV ir) [ir] ρ S = .ok (.lst ((able ks (rank ks rs) c).map dR)) S := by
  have BR := B.rank
  have k8 := B.kl
  have q := eLc_pure (f := iSeq (eCall 1 m__law_ranked (aCons (eV ip) aNil))) (g := gN ir) (t := tV (e2 oIsNot (eCall 3 m__law_turned_to (aCons (eV ip) (aCons (eV ih) (aCons (eV ir) aNil)))) (eC .non))) (e := eV ir) (vs := [ir]) (ρ := ρ) (S := S) (l := (rank ks rs).map dR) (chk := always)
    (fun d => (unR d).bind fun r => if canR ks c r = true then some (dR r) else none) (by
      unfold iSeq
      rw [eCall_ok (n := 1) (aCons_ok (var_e h1 S) (show aNil ρ S = .ok [] S from rfl)) rfl, ranked_ok p B]
      rfl) (always_ S) (by rw [List.length_map]; exact BR.rln) (fun z hz => by
      obtain ⟨r, hr, rfl⟩ := List.mem_map.mp hz
      have hri := BR.rin r hr
      have g1 : ((wipeE ρ [ir]).set ir (some (dR r)))[ip]? = some (some dp) := by
        rw [List.getElem?_set_ne (Ne.symm n1)]
        unfold wipeE wipeE
        rw [List.getElem?_set_ne (Ne.symm n1)]
        exact h1
      have g2 : ((wipeE ρ [ir]).set ir (some (dR r)))[ih]? = some (some dh) := by
        rw [List.getElem?_set_ne (Ne.symm n2)]
        unfold wipeE wipeE
        rw [List.getElem?_set_ne (Ne.symm n2)]
        exact h2
      have g3 : ((wipeE ρ [ir]).set ir (some (dR r)))[ir]? = some (some (dR r)) := by
        rw [List.getElem?_set_self]
        simpa [wipeE] using h3
      rw [unR_dR]
      show _ = Re.ok (if canR ks c r = true then some (dR r) else none) S
      refine turn_ifS ?_ fun _ => var_e g3 S
      have a : eCall 3 m__law_turned_to (aCons (eV ip) (aCons (eV ih) (aCons (eV ir) aNil))) ((wipeE ρ [ir]).set ir (some (dR r))) S = .ok (optD .lst (doneR ks c r)) S := by
        rw [eCall_ok (n := 3) (aCons_ok (var_e g1 S) (aCons_ok (var_e g2 S) (aCons_ok (var_e g3 S) (show aNil _ S = .ok [] S from rfl)))) rfl]
        exact turned_ok p B.sok h hl (by omega) hri
      unfold tV
      rw [e2_ok a (y := .non) (S2 := S) rfl]
      cases e : canR ks c r with
      | true => rw [doneR_can e]; rfl
      | false => rw [doneR_not e]; rfl)
  have e : ((rank ks rs).map dR).filterMap (fun d => (unR d).bind fun r => if canR ks c r = true then some (dR r) else none) = (able ks (rank ks rs) c).map dR := by
    rw [List.filterMap_map]
    unfold able
    rw [← List.filterMap_eq_filter, List.map_filterMap]
    refine fm_congr fun r _ => ?_
    show ((unR (dR r)).bind fun r => if canR ks c r = true then some (dR r) else none) = _
    rw [unR_dR]
    cases hc : canR ks c r <;> simp [hc, Option.guard]
  rw [e] at q
  exact q
theorem cutD_mem {α : Type} {l : List α} {lo hi : Option Int} {a : α} (h : a ∈ cutD l lo hi) : a ∈ l := List.mem_of_mem_drop (List.mem_of_mem_take h)
theorem turnQ_ok {c : List Int} {f t : Nat} {m : Int} (h : ∀ x ∈ c, 0 ≤ x ∧ x ≤ m) (hb : 1 ≤ nth c f) (hft : f ≠ t) : ∀ x ∈ turnQ 0 c f t, 0 ≤ x ∧ x ≤ m + 1 := by
  intro x hx
  obtain ⟨i, hi⟩ := List.getElem?_of_mem hx
  rw [turnQ_get, Nat.zero_add] at hi
  obtain ⟨y, hy, rfl⟩ := Option.map_eq_some_iff.mp hi
  have hm := h y (List.mem_of_getElem? hy)
  unfold one
  by_cases e1 : i = f
  · subst e1
    unfold nth at hb
    rw [hy] at hb
    have hb' : 1 ≤ y := hb
    simp only [decide_true, if_true, hft, decide_false, Bool.false_eq_true, if_false]
    omega
  · simp only [e1, decide_false, Bool.false_eq_true, if_false]
    split <;> omega
theorem able_mem {ks : List Str} {R : List R3} {c : List Int} {r : R3} (h : r ∈ able ks R c) : r ∈ R ∧ canR ks c r = true := List.mem_filter.mp h
theorem can_ge {ks : List Str} {c : List Int} {r : R3} (h : canR ks c r = true) : 1 ≤ nth c (ix ks r.1) := by
  unfold canR blocked at h
  simp only [Bool.not_eq_true', Bool.or_eq_false_iff, decide_eq_false_iff_not] at h
  omega
theorem able_named {ks : List Str} {rs : List R3} {c : List Int} (B : Book ks rs) : Named ks (able ks rs c) := by
  have n := B.named
  exact ⟨fun r hr => n.rr r (able_mem hr).1, Nat.le_trans (List.length_filter_le _ _) n.ln⟩
end DL
namespace DL
open PySem PySem.Spec PyProof.Rows L2
noncomputable def m__law_grown_right : Fn := runD 7 (b__law_grown_right m__law_grind m__law_ranked m__law_turned_to m_can_do m_done)
theorem not_non {ks : List Str} {c : List Int} {r : R3} (h : canR ks c r = true) : optD .lst (doneR ks c r) = .lst ((turnQ 0 c (ix ks r.1) (ix ks r.2.2)).map .int) := by rw [doneR_can h]; rfl
theorem mem_set {c : List Int} {i : Nat} {y x : Int} (h : x ∈ c.set i y) : x = y ∨ x ∈ c := by
  rcases List.mem_or_eq_of_mem_set h with h | h
  · exact .inr h
  · exact .inl h
theorem grown_ok {S S0 : Sto} {k j f e : Nat} {ks : List Str} {rs : List R3} {c : List Int} (B : Book ks rs) (hk : ks ≠ []) (hn : Nx k S0 S) (hj : S[j]? = some (.lst (ks.map .str))) (hf : S[f]? = some (.lst (rs.map dR))) (he : S[e]? = some (.lst (c.map .int))) (e1 : e ≠ k) (e2' : j ≠ e) (e3 : f ≠ e) (j1 : j ≠ k) (f1 : f ≠ k) (e0 : S0.length ≤ e) (hl : c.length = ks.length) (hc : ∀ x ∈ c, 0 ≤ x ∧ x ≤ 30) :
    ∃ S', Nx k S0 S' ∧ m__law_grown_right [.cell k, bookD ks (rank ks rs), .tup [.cell j, .cell f], .cell e] S = .ok (.bl true) S' := by
  have BR := B.rank
  have k8 := B.kl
  have kpos : 0 < ks.length := List.length_pos_iff.mpr hk
  obtain ⟨i, S1, g1, g2, g3, g4, g5, g6⟩ := draw_e (ρ := [some (.cell k), some (bookD ks (rank ks rs)), some (.tup [.cell j, .cell f]), some (.cell e), none, none, none]) (i := 0) (e := eN bLen (aCons (eV 3) aNil)) (c := c.length) (S := S) (S1 := S) rfl (by rw [len_e (var_e rfl S) (Rd.of_cell he), List.length_map]) hn.mill (by omega) (by omega)
  obtain ⟨i, rfl⟩ := Int.eq_ofNat_of_zero_le g1
  have hi : i < c.length := by omega
  have s1 : sSet 4 (eCall 2 m__law_grind (aCons (eV 0) (aCons (eN bLen (aCons (eV 3) aNil)) aNil))) [some (.cell k), some (bookD ks (rank ks rs)), some (.tup [.cell j, .cell f]), some (.cell e), none, none, none] S = .nx [some (.cell k), some (bookD ks (rank ks rs)), some (.tup [.cell j, .cell f]), some (.cell e), some (.int i), none, none] S1 := by
    unfold sSet
    rw [g3]
    rfl
  have he1 : S1[e]? = some (.lst (c.map .int)) := by rw [g5 _ e1]; exact he
  have s2 : sAsg (e2 oAdd (e2 oIx (eV 3) (eV 4)) (eC (.int 1))) (gIx (eV 3) (eV 4)) [some (.cell k), some (bookD ks (rank ks rs)), some (.tup [.cell j, .cell f]), some (.cell e), some (.int i), none, none] S1 = .nx [some (.cell k), some (bookD ks (rank ks rs)), some (.tup [.cell j, .cell f]), some (.cell e), some (.int i), none, none] (S1.set e (.lst ((c.set i (nth c i + 1)).map .int))) := by
    rw [asg_ix (x := .int (nth c i + 1)) (by rw [e2_ok (ix_e (var_e rfl _) (var_e rfl _) (Rd.of_cell he1).q (fun z h => by cases h) (map_int_get hi)) (y := .int 1) (S2 := S1) rfl]; rfl) rfl rfl he1 (by rw [List.length_map]; exact hi), List.map_set]
  have hl2 : (c.set i (nth c i + 1)).length = ks.length := by rw [List.length_set]; exact hl
  have hc2 : ∀ x ∈ c.set i (nth c i + 1), 0 ≤ x ∧ x ≤ 31 := fun x hx => by
    rcases mem_set hx with rfl | hx
    · have := hc _ (List.mem_of_getElem? (nth_get hi))
      omega
    · have := hc x hx
      omega
  generalize c.set i (nth c i + 1) = c2 at s2 hl2 hc2
  have n2 : Nx k S0 (S1.set e (.lst (c2.map .int))) := (hn.trans g6).put e0 e1 _
  have he2 : (S1.set e (.lst (c2.map .int)))[e]? = some (.lst (c2.map .int)) := List.getElem?_set_self (List.getElem?_eq_some_iff.mp he1).1
  have hj2 : (S1.set e (.lst (c2.map .int)))[j]? = some (.lst (ks.map .str)) := by rw [List.getElem?_set_ne (Ne.symm e2'), g5 _ j1]; exact hj
  have hf2 : (S1.set e (.lst (c2.map .int)))[f]? = some (.lst (rs.map dR)) := by rw [List.getElem?_set_ne (Ne.symm e3), g5 _ f1]; exact hf
  generalize S1.set e (.lst (c2.map .int)) = S2 at s2 n2 he2 hj2 hf2
  have s3 : sSet 5 (eLc (iSeq (eCall 1 m__law_ranked (aCons (eV 2) aNil))) (gN 6) (tV (e2 oIsNot (eCall 3 m__law_turned_to (aCons (eV 2) (aCons (eV 3) (aCons (eV 6) aNil)))) (eC .non))) (eV 6) [6]) [some (.cell k), some (bookD ks (rank ks rs)), some (.tup [.cell j, .cell f]), some (.cell e), some (.int i), none, none] S2 =
      .nx [some (.cell k), some (bookD ks (rank ks rs)), some (.tup [.cell j, .cell f]), some (.cell e), some (.int i), some (.lst ((able ks (rank ks rs) c2).map dR)), none] S2 := by
    unfold sSet
    rw [due_e (dp := .tup [.cell j, .cell f]) (dh := .cell e) B (Plan.cells hj2 hf2) (Herd.of_cell he2) hl2 rfl rfl (by simp) (by decide) (by decide)]
    rfl
  have c0 : ∀ x ∈ c2, 0 ≤ x := fun x hx => (hc2 x hx).1
  obtain ⟨a, S3, x3, a1, a2, a3⟩ := can_do_ok BR (Rd.of_cell he2) hl2 c0
  have he3 : S3[e]? = some (.lst (c2.map .int)) := x3.get he2
  have hj3 := x3.get hj2
  have hf3 := x3.get hf2
  have q := (able_named (c := c2) BR).repr.repr (by omega) (by omega)
  have s4 : sIf (tV (e2 oNe (eN bRepr (aCons (eCall 2 m_can_do (aCons (eV 1) (aCons (eV 3) aNil))) aNil)) (eN bRepr (aCons (eV 5) aNil)))) (sRet (eC (.bl false))) sNil [some (.cell k), some (bookD ks (rank ks rs)), some (.tup [.cell j, .cell f]), some (.cell e), some (.int i), some (.lst ((able ks (rank ks rs) c2).map dR)), none] S2 =
      .nx [some (.cell k), some (bookD ks (rank ks rs)), some (.tup [.cell j, .cell f]), some (.cell e), some (.int i), some (.lst ((able ks (rank ks rs) c2).map dR)), none] S3 := by
    unfold sIf
    rw [same_text (repr_e (d := .cell a) (by rw [eCall_ok (n := 2) (aCons_ok (var_e rfl S2) (aCons_ok (var_e rfl S2) rfl)) rfl]; exact a3) rfl (toPy_rules a2) q) (repr_e (var_e rfl S3) rfl (toPy_ruleL S3 _) q)]
    rfl
  obtain ⟨ρ', S', l1, x6, l2, rfl⟩ := sFor_inv (f := iSeq (eSl (eV 5) xNone (xSome (eC (.int 2))))) (g := gN 6) (b := sIf (tV (e2 oNe (eN bRepr (aCons (eCall 3 m_done (aCons (eV 1) (aCons (eV 3) (aCons (eV 6) aNil)))) aNil)) (eN bRepr (aCons (eCall 3 m__law_turned_to (aCons (eV 2) (aCons (eV 3) (aCons (eV 6) aNil)))) aNil)))) (sRet (eC (.bl false))) sNil)
    (ρ := [some (.cell k), some (bookD ks (rank ks rs)), some (.tup [.cell j, .cell f]), some (.cell e), some (.int i), some (.lst ((able ks (rank ks rs) c2).map dR)), none]) (S := S3) (S0 := S3) (l := cutD ((able ks (rank ks rs) c2).map dR) none (some 2)) (chk := always)
    (fun _ ρ S' => ∃ x, Ext S3 S' ∧ ρ = [some (.cell k), some (bookD ks (rank ks rs)), some (.tup [.cell j, .cell f]), some (.cell e), some (.int i), some (.lst ((able ks (rank ks rs) c2).map dR)), x]) rfl (always_ _) ⟨none, Ext.rfl, rfl⟩ (by
      rintro n d ρ S4 hd ⟨x, x4, rfl⟩
      obtain ⟨r, hr, rfl⟩ := List.mem_map.mp (cutD_mem (List.mem_of_getElem? hd))
      obtain ⟨m1, m2⟩ := able_mem hr
      have hri := BR.rin r m1
      obtain ⟨b, S5, x5, b1, b2, b3⟩ := done_ok BR (Rd.of_cell (x4.get he3)) hl2 c0 m1 (doneR_can m2)
      have x35 := x4.trans x5
      have ok : okC (turnQ 0 c2 (ix ks r.1) (ix ks r.2.2)) := fun y hy => by
        have := turnQ_ok hc2 (can_ge m2) (ruleIn_ix hri).2.2.2 y hy
        omega
      have q := ok.sml.repr (by rw [turnQ_len]; omega) (by omega)
      refine ⟨[some (.cell k), some (bookD ks (rank ks rs)), some (.tup [.cell j, .cell f]), some (.cell e), some (.int i), some (.lst ((able ks (rank ks rs) c2).map dR)), some (dR r)], S5, ?_, always_ _, some (dR r), x35, rfl⟩
      show sIf _ _ _ [some (.cell k), some (bookD ks (rank ks rs)), some (.tup [.cell j, .cell f]), some (.cell e), some (.int i), some (.lst ((able ks (rank ks rs) c2).map dR)), some (dR r)] S4 = _
      have t : eCall 3 m__law_turned_to (aCons (eV 2) (aCons (eV 3) (aCons (eV 6) aNil))) [some (.cell k), some (bookD ks (rank ks rs)), some (.tup [.cell j, .cell f]), some (.cell e), some (.int i), some (.lst ((able ks (rank ks rs) c2).map dR)), some (dR r)] S5 = .ok (.lst ((turnQ 0 c2 (ix ks r.1) (ix ks r.2.2)).map .int)) S5 := by
        rw [eCall_ok (n := 3) (aCons_ok (var_e rfl S5) (aCons_ok (var_e rfl S5) (aCons_ok (var_e rfl S5) rfl))) rfl, turned_ok (Plan.cells (x35.get hj3) (x35.get hf3)) B.sok (Herd.of_cell (x35.get he3)) hl2 (by omega) hri, not_non m2]
      unfold sIf
      rw [same_text (repr_e (d := .cell b) (by rw [eCall_ok (n := 3) (aCons_ok (var_e rfl S4) (aCons_ok (var_e rfl S4) (aCons_ok (var_e rfl S4) rfl))) rfl]; exact b3) rfl (toPy_ints b2) q) (repr_e t rfl (toPy_intL S5 _) q)]
      rfl)
  refine ⟨S', (n2.ext x3).ext l2, ?_⟩
  unfold m__law_grown_right runD b__law_grown_right
  show (sSeq _ _ [some (.cell k), some (bookD ks (rank ks rs)), some (.tup [.cell j, .cell f]), some (.cell e), none, none, none] S).toR = _
  unfold sSeq
  rw [s1, SRe.seq_nx, s2, SRe.seq_nx, s3, SRe.seq_nx, s4, SRe.seq_nx, l1, SRe.seq_nx]
  rfl
theorem le__law_grown_right (ds : List Dv) (S : Sto) (_ : ds.length = 4) (_ : Closed S) (_ : lowL S.length ds = true) : Le S.length (runD 7 (b__law_grown_right m__law_grind m__law_ranked m__law_turned_to m_can_do m_done) ds S) (m__law_grown_right ds S) := Le.refl _
end DL
namespace DL
open PySem PySem.Spec PyProof.Rows L2
structure Pl (S0 : Sto) (k j f : Nat) (ks : List Str) (rs : List R3) : Prop where
  hk : k < S0.length
  hj0 : S0[j]? = some (.lst (ks.map .str))
  hf0 : S0[f]? = some (.lst (rs.map dR))
  j1 : j ≠ k
  f1 : f ≠ k
  B : Book ks rs
  ne : ks ≠ []
theorem Pl.jl {S0 : Sto} {k j f : Nat} {ks : List Str} {rs : List R3} (P : Pl S0 k j f ks rs) : j < S0.length := (List.getElem?_eq_some_iff.mp P.hj0).1
theorem Pl.fl {S0 : Sto} {k j f : Nat} {ks : List Str} {rs : List R3} (P : Pl S0 k j f ks rs) : f < S0.length := (List.getElem?_eq_some_iff.mp P.hf0).1
theorem Pl.hj {S0 S : Sto} {k j f : Nat} {ks : List Str} {rs : List R3} (P : Pl S0 k j f ks rs) (n : Nx k S0 S) : S[j]? = some (.lst (ks.map .str)) := (n.old _ P.jl P.j1).trans P.hj0
theorem Pl.hf {S0 S : Sto} {k j f : Nat} {ks : List Str} {rs : List R3} (P : Pl S0 k j f ks rs) (n : Nx k S0 S) : S[f]? = some (.lst (rs.map dR)) := (n.old _ P.fl P.f1).trans P.hf0
theorem Pl.len {S0 : Sto} {k j f : Nat} {ks : List Str} {rs : List R3} (P : Pl S0 k j f ks rs) : 0 < ks.length ∧ ks.length ≤ 8 := ⟨List.length_pos_iff.mpr P.ne, P.B.kl⟩
/-- if repr(told) != repr([due, due]) or herd != kept -/
theorem check_two {S : Sto} {ρ : En} {i9 i8 i5 i7 a b e : Nat} {x8 : Dv} {p : PyData} {c : List Int} (h9 : ρ[i9]? = some (some (.lst [.cell a, .cell b]))) (h8 : ρ[i8]? = some (some x8)) (h5 : ρ[i5]? = some (some (.cell e))) (h7 : ρ[i7]? = some (some (.lst (c.map .int)))) (ta : toPy S (.cell a) = some p) (tb : toPy S (.cell b) = some p) (t8 : toPy S x8 = some p) (he : S[e]? = some (.lst (c.map .int))) (q : reprOk (.list [p, p]) = true) :
    sIf (tOrD (tV (e2 oNe (eN bRepr (aCons (eV i9) aNil)) (eN bRepr (aCons (eN mkL (aCons (eV i8) (aCons (eV i8) aNil))) aNil)))) (tV (e2 oNe (eV i5) (eV i7)))) (sRet (eC (.bl false))) sNil ρ S = .nx ρ S := by
  have t1 : toPy S (.lst [.cell a, .cell b]) = some (.list [p, p]) := toPy_lst (by simp [toPys, ta, tb])
  have t2 : toPy S (.lst [x8, x8]) = some (.list [p, p]) := toPy_lst (by simp [toPys, t8])
  have l2 : eN mkL (aCons (eV i8) (aCons (eV i8) aNil)) ρ S = .ok (.lst [x8, x8]) S := lit_ok (aCons_ok (var_e h8 S) (aCons_ok (var_e h8 S) rfl)) (by simp)
  unfold sIf tOrD
  rw [same_text (repr_e (var_e h9 S) rfl t1 q) (repr_e l2 rfl t2 q)]
  simp only [Re.bind_ok, Bool.false_eq_true, if_false]
  rw [same_ints (var_e h5 S) (var_e h7 S) (toPy_ints he) (toPy_intL S c)]
  rfl
theorem check_one {S S1 : Sto} {ρ : En} {i8 a : Nat} {C : Ex} {x8 : Dv} {p : PyData} (hC : C ρ S = .ok (.cell a) S1) (h8 : ρ[i8]? = some (some x8)) (ta : toPy S1 (.cell a) = some p) (t8 : toPy S1 x8 = some p) (b8 : boxD x8 = true) (q : reprOk p = true) :
    sIf (tV (e2 oNe (eN bRepr (aCons C aNil)) (eN bRepr (aCons (eV i8) aNil)))) (sRet (eC (.bl false))) sNil ρ S = .nx ρ S1 := by
  unfold sIf
  rw [same_text (repr_e hC rfl ta q) (repr_e (var_e h8 S1) b8 t8 q)]
  rfl
theorem push_told {S : Sto} {ρ : En} {i9 a b : Nat} {l : List Dv} {d : Dv} (h9 : ρ[i9]? = some (some (.lst [.cell a, .cell b]))) (ha : S[a]? = some (.lst l)) (hl : l.length ≤ 1000) :
    sExpr (eM isL mApp (e2 oIx (eV i9) (eC (.int 0))) (aCons (eC d) aNil)) ρ S = .nx ρ (S.set a (.lst (l ++ [d]))) := by
  unfold sExpr
  rw [append_ok (k := a) (l0 := l) (l := l) (y := d) (S1 := S) (by rw [e2_ok (var_e h9 S) (y := .int 0) (S2 := S) rfl]; rfl) ha rfl ha hl]
  rfl
noncomputable abbrev fr (k j f : Nat) (ks : List Str) (rs : List R3) (x4 x5 x6 x7 x8 x9 x10 x11 x12 : Option Dv) : En := [some (.cell k), some (.tup [.cell j, .cell f]), some (bookD ks (rank ks rs)), some (.int ks.length), x4, x5, x6, x7, x8, x9, x10, x11, x12]
section
variable {S0 S : Sto} {k j f : Nat} {ks : List Str} {rs : List R3} {x4 x5 x6 x7 x8 x9 x10 x11 x12 : Option Dv}
/-- herd = herd(mill, count, [1, 2, 3, 30 // count][grind(mill, 4)]) -/
theorem part1 (P : Pl S0 k j f ks rs) (n : Nx k S0 S) : ∃ (e : Nat) (c : List Int) (S' : Sto), sSet 5 (eCall 3 m__law_herd (aCons (eV 0) (aCons (eV 3) (aCons (e2 oIx (eN mkL (aCons (eC (.int 1)) (aCons (eC (.int 2)) (aCons (eC (.int 3)) (aCons (e2 oDiv (eC (.int 30)) (eV 3)) aNil))))) (eCall 2 m__law_grind (aCons (eV 0) (aCons (eC (.int 4)) aNil)))) aNil))))
      (fr k j f ks rs x4 x5 x6 x7 x8 x9 x10 x11 x12) S = .nx (fr k j f ks rs x4 (some (.cell e)) x6 x7 x8 x9 x10 x11 x12) S' ∧ Nx k S0 S' ∧ S0.length ≤ e ∧ S'[e]? = some (.lst (c.map .int)) ∧ c.length = ks.length ∧ ∀ x ∈ c, 0 ≤ x ∧ x ≤ 30 := by
  obtain ⟨l0, l8⟩ := P.len
  obtain ⟨i, S1, g1, g2, g3, g4, g5, g6⟩ := draw_e (ρ := fr k j f ks rs x4 x5 x6 x7 x8 x9 x10 x11 x12) (i := 0) (e := eC (.int 4)) (c := 4) (S := S) (S1 := S) rfl rfl n.mill (by omega) (by omega)
  have dv : e2 oDiv (eC (.int 30)) (eV 3) (fr k j f ks rs x4 x5 x6 x7 x8 x9 x10 x11 x12) S = .ok (.int (30 / (ks.length : Int))) S := by
    rw [e2_ok (x := .int 30) (S1 := S) rfl (var_e (show (fr k j f ks rs x4 x5 x6 x7 x8 x9 x10 x11 x12)[3]? = some (some (.int ks.length)) from rfl) S)]
    show (if cDiv 30 (ks.length : Int) = true then _ else _) = _
    rw [if_pos (cDiv_ok (by omega) (by omega))]
  have hd : 0 ≤ 30 / (ks.length : Int) ∧ 30 / (ks.length : Int) ≤ 30 := ⟨Int.ediv_nonneg (by omega) (by omega), Int.ediv_le_self _ (by omega)⟩
  generalize 30 / (ks.length : Int) = dd at dv hd
  have ll : eN mkL (aCons (eC (.int 1)) (aCons (eC (.int 2)) (aCons (eC (.int 3)) (aCons (e2 oDiv (eC (.int 30)) (eV 3)) aNil)))) (fr k j f ks rs x4 x5 x6 x7 x8 x9 x10 x11 x12) S = .ok (.lst [.int 1, .int 2, .int 3, .int dd]) S :=
    lit_ok (aCons_ok (x := .int 1) (S1 := S) rfl (aCons_ok (x := .int 2) (S1 := S) rfl (aCons_ok (x := .int 3) (S1 := S) rfl (aCons_ok dv rfl)))) (by simp)
  obtain ⟨i, rfl⟩ := Int.eq_ofNat_of_zero_le g1
  have hm : ∃ m : Int, [Dv.int 1, .int 2, .int 3, .int dd][i]? = some (.int m) ∧ 0 ≤ m ∧ m ≤ 30 := by
    have : i < 4 := by omega
    match i, this with
    | 0, _ => exact ⟨1, rfl, by omega, by omega⟩
    | 1, _ => exact ⟨2, rfl, by omega, by omega⟩
    | 2, _ => exact ⟨3, rfl, by omega, by omega⟩
    | 3, _ => exact ⟨dd, rfl, hd.1, hd.2⟩
  obtain ⟨m, m1, m2, m3⟩ := hm
  have ix := ix_e (S2 := S1) ll g3 (l := [.int 1, .int 2, .int 3, .int dd]) rfl (fun z h => by cases h) m1
  obtain ⟨e, c, S', h1, h2, h3, h4, h5, h6⟩ := herd_ok (n := ks.length) g6.mill (by omega) m2 (by omega)
  refine ⟨e, c, S', ?_, (n.trans g6).trans h6, Nat.le_trans (n.trans g6).le h2, h3, h4, fun x hx => ⟨(h5 x hx).1, Int.le_trans (h5 x hx).2 m3⟩⟩
  unfold sSet
  rw [eCall_ok (n := 3) (aCons_ok (var_e rfl S) (aCons_ok (var_e rfl S) (aCons_ok ix rfl))) rfl, h1]
  rfl
/-- if grind(mill, 4) == 0: all but one kind of none -/
theorem part2 {e : Nat} {c : List Int} (P : Pl S0 k j f ks rs) (n : Nx k S0 S) (e0 : S0.length ≤ e) (he : S[e]? = some (.lst (c.map .int))) (hl : c.length = ks.length) (hc : ∀ x ∈ c, 0 ≤ x ∧ x ≤ 30) : ∃ (e' : Nat) (c' : List Int) (S' : Sto) (y6 : Option Dv), sIf (tV (e2 oEq (eCall 2 m__law_grind (aCons (eV 0) (aCons (eC (.int 4)) aNil))) (eC (.int 0)))) (sSeq (sSet 6 (eCall 2 m__law_grind (aCons (eV 0) (aCons (eV 3) aNil))))
    (sSet 5 (eLcC (iRg1 (aCons (eV 3) aNil)) (gN 12) ttYes (e2 oMul (eCall 2 m__law_grind (aCons (eV 0) (aCons (eC (.int 3)) aNil))) (eN bInt (aCons (e2 oEq (eV 12) (eV 6)) aNil))) [12]))) sNil
      (fr k j f ks rs x4 (some (.cell e)) x6 x7 x8 x9 x10 x11 x12) S = .nx (fr k j f ks rs x4 (some (.cell e')) y6 x7 x8 x9 x10 x11 x12) S' ∧ Nx k S0 S' ∧ S0.length ≤ e' ∧ S'[e']? = some (.lst (c'.map .int)) ∧ c'.length = ks.length ∧ ∀ x ∈ c', 0 ≤ x ∧ x ≤ 30 := by
  obtain ⟨l0, l8⟩ := P.len
  obtain ⟨i, S1, g1, g2, g3, g4, g5, g6⟩ := draw_e (ρ := fr k j f ks rs x4 (some (.cell e)) x6 x7 x8 x9 x10 x11 x12) (i := 0) (e := eC (.int 4)) (c := 4) (S := S) (S1 := S) rfl rfl n.mill (by omega) (by omega)
  have n1 := n.trans g6
  have hk := P.hk
  have t : tV (e2 oEq (eCall 2 m__law_grind (aCons (eV 0) (aCons (eC (.int 4)) aNil))) (eC (.int 0))) (fr k j f ks rs x4 (some (.cell e)) x6 x7 x8 x9 x10 x11 x12) S = .ok (decide (i = 0)) S1 := by
    unfold tV
    rw [eqi_e g3 (j := 0) (S2 := S1) rfl]
    rfl
  by_cases h : i = 0
  · obtain ⟨m, S2, a1, a2, a3, a4, a5, a6⟩ := draw_e (ρ := fr k j f ks rs x4 (some (.cell e)) x6 x7 x8 x9 x10 x11 x12) (i := 0) (e := eV 3) (c := ks.length) (S := S1) (S1 := S1) rfl rfl n1.mill (by omega) (by omega)
    obtain ⟨ys, S3, p, ln, q, w⟩ := lcD_draw (f := iRg1 (aCons (eV 3) aNil)) (g := gN 12) (t := ttYes) (e := e2 oMul (eCall 2 m__law_grind (aCons (eV 0) (aCons (eC (.int 3)) aNil))) (eN bInt (aCons (e2 oEq (eV 12) (eV 6)) aNil))) (vs := [12]) (ρ := fr k j f ks rs x4 (some (.cell e)) (some (.int m)) x7 x8 x9 x10 x11 x12) (S := S2) (S0 := S2) (l := rgD 0 ks.length) (chk := always)
      (fun y => ∃ x, y = .int x ∧ (0 ≤ x ∧ x ≤ 30)) (fun S' => Nx k S0 S') (rg_ok (var_e rfl S2) (by omega)) (n1.trans a6) (fun S _ => always_ S) (by unfold rgD; rw [List.length_map, List.length_range, sizeLine_eq]; omega) (fun d hd S4 h4 => by
        obtain ⟨u, hu, rfl⟩ := List.mem_map.mp hd
        obtain ⟨v, S5, b1, b2, b3, b4, b5, b6⟩ := draw_e (ρ := fr k j f ks rs x4 (some (.cell e)) (some (.int m)) x7 x8 x9 x10 x11 (some (.int (0 + (u : Int))))) (i := 0) (e := eC (.int 3)) (c := 3) (S := S4) (S1 := S4) rfl rfl h4.mill (by omega) (by omega)
        refine ⟨.int (v * (if (0 + (u : Int)) = m then 1 else 0)), S5, h4.trans b6, ⟨_, rfl, ?_⟩, turn_mapS ?_⟩
        · split <;> omega
        · show e2 oMul _ _ (fr k j f ks rs x4 (some (.cell e)) (some (.int m)) x7 x8 x9 x10 x11 (some (.int (0 + (u : Int))))) S4 = _
          rw [e2_ok b3 (ind_e (var_e rfl S5) (var_e rfl S5))]
          show (if cMul v (if (0 + (u : Int)) = m then 1 else 0) = true then _ else _) = _
          rw [if_pos (cMul_ok (by omega) (by split <;> decide))])
    obtain ⟨c', rfl, hq⟩ := ints_of q
    have hr : (rgD 0 ks.length).length = ks.length := by unfold rgD; rw [List.length_map, List.length_range]
    rw [List.length_map, hr] at ln
    refine ⟨S3.length, c', S3 ++ [.lst (c'.map .int)], some (.int m), ?_, p.push _, p.le, push_get _ _, ln, hq⟩
    unfold sIf
    rw [t, decide_eq_true h, Re.toS_ok, if_pos rfl]
    unfold sSeq sSet
    rw [a3, Re.toS_ok, SRe.seq_nx]
    show ((eLcC _ _ _ _ _ (fr k j f ks rs x4 (some (.cell e)) (some (.int m)) x7 x8 x9 x10 x11 x12) S2).toS _ _) = _
    unfold eLcC
    rw [eN_ok w]
    rfl
  · refine ⟨e, c, S1, x6, ?_, n1, e0, ?_, hl, hc⟩
    · unfold sIf
      rw [t, decide_eq_false h]
      rfl
    · rw [g5 _ (by omega)]
      exact he
end
end DL
namespace DL
open PySem PySem.Spec PyProof.Rows L2
section
variable {S0 S : Sto} {k j f : Nat} {ks : List Str} {rs : List R3} {x4 x5 x6 x7 x8 x9 x10 x11 x12 : Option Dv}
theorem lit_okS {a : Xs} {ρ : En} {S S1 : Sto} {l : List Dv} (h : a ρ S = .ok l S1) (hl : l.length ≤ 1000) : eN mkL a ρ S = .ok (.lst l) S1 := by
  rw [eN_ok h]
  unfold mkL
  rw [if_pos (by rw [sizeLine_eq]; omega)]
/-- told twice, compared, spoilt, told again: rules that can be done -/
theorem part3 {e : Nat} {c : List Int} (P : Pl S0 k j f ks rs) (n : Nx k S0 S) (e0 : S0.length ≤ e) (he : S[e]? = some (.lst (c.map .int))) (hl : c.length = ks.length) (hc : ∀ x ∈ c, 0 ≤ x ∧ x ≤ 30) : ∃ (S' : Sto) (y9 : Option Dv), (sSeq (sSet 9 (eN mkL (aCons (eCall 2 m_can_do (aCons (eV 2) (aCons (eV 5) aNil))) (aCons (eCallK 2 (fun ds es S => m_can_do (pick [1, 0] (ds ++ es)) S) (aCons (eV 5) (aCons (eV 2) aNil))) aNil))))
    (sSeq (sIf (tOrD (tV (e2 oNe (eN bRepr (aCons (eV 9) aNil)) (eN bRepr (aCons (eN mkL (aCons (eV 8) (aCons (eV 8) aNil))) aNil)))) (tV (e2 oNe (eV 5) (eV 7)))) (sRet (eC (.bl false))) sNil)
    (sSeq (sExpr (eM isL mApp (e2 oIx (eV 9) (eC (.int 0))) (aCons (eC (.str "q")) aNil)))
    (sIf (tV (e2 oNe (eN bRepr (aCons (eCall 2 m_can_do (aCons (eV 2) (aCons (eV 5) aNil))) aNil)) (eN bRepr (aCons (eV 8) aNil)))) (sRet (eC (.bl false))) sNil))))
      (fr k j f ks rs x4 (some (.cell e)) x6 (some (.lst (c.map .int))) (some (.lst ((able ks (rank ks rs) c).map dR))) x9 x10 x11 x12) S = .nx (fr k j f ks rs x4 (some (.cell e)) x6 (some (.lst (c.map .int))) (some (.lst ((able ks (rank ks rs) c).map dR))) y9 x10 x11 x12) S' ∧ Nx k S0 S' ∧ S'[e]? = some (.lst (c.map .int)) := by
  have BR := P.B.rank
  have hk := P.hk
  have hel := (List.getElem?_eq_some_iff.mp he).1
  have c0 : ∀ x ∈ c, 0 ≤ x := fun x hx => (hc x hx).1
  obtain ⟨a, S1, xa, a1, a2, a3⟩ := can_do_ok BR (Rd.of_cell he) hl c0
  obtain ⟨b, S2, xb, b1, b2, b3⟩ := can_do_ok BR (Rd.of_cell (xa.get he)) hl c0
  have nm := able_named (c := c) BR
  have q1 := nm.repr.repr (by omega) (by omega)
  have q2 := (sml_two nm.repr).repr (by omega) (by omega)
  have s1 : sSet 9 (eN mkL (aCons (eCall 2 m_can_do (aCons (eV 2) (aCons (eV 5) aNil))) (aCons (eCallK 2 (fun ds es S => m_can_do (pick [1, 0] (ds ++ es)) S) (aCons (eV 5) (aCons (eV 2) aNil))) aNil)))
      (fr k j f ks rs x4 (some (.cell e)) x6 (some (.lst (c.map .int))) (some (.lst ((able ks (rank ks rs) c).map dR))) x9 x10 x11 x12) S = .nx (fr k j f ks rs x4 (some (.cell e)) x6 (some (.lst (c.map .int))) (some (.lst ((able ks (rank ks rs) c).map dR))) (some (.lst [.cell a, .cell b])) x10 x11 x12) S2 := by
    have z : eCallK 2 (fun ds es S => m_can_do (pick [1, 0] (ds ++ es)) S) (aCons (eV 5) (aCons (eV 2) aNil)) (fr k j f ks rs x4 (some (.cell e)) x6 (some (.lst (c.map .int))) (some (.lst ((able ks (rank ks rs) c).map dR))) x9 x10 x11 x12) S1 = .ok (.cell b) S2 := by
      unfold eCallK
      rw [aCons_ok (x := .cell e) (xs := [bookD ks (rank ks rs)]) (var_e rfl S1) (aCons_ok (var_e rfl S1) rfl), Re.bind_ok, if_pos (show [Dv.cell e, bookD ks (rank ks rs)].length = 2 from rfl)]
      exact b3
    unfold sSet
    rw [lit_okS (l := [.cell a, .cell b]) (S1 := S2) (aCons_ok (x := .cell a) (S1 := S1) (by rw [eCall_ok (n := 2) (aCons_ok (var_e rfl S) (aCons_ok (var_e rfl S) rfl)) rfl]; exact a3) (aCons_ok z rfl)) (by simp)]
    rfl
  have he2 := xb.get (xa.get he)
  have s2 := check_two (ρ := fr k j f ks rs x4 (some (.cell e)) x6 (some (.lst (c.map .int))) (some (.lst ((able ks (rank ks rs) c).map dR))) (some (.lst [.cell a, .cell b])) x10 x11 x12) (S := S2) (i9 := 9) (i8 := 8) (i5 := 5) (i7 := 7) rfl rfl rfl rfl (toPy_rules (xb.get a2)) (toPy_rules b2) (toPy_ruleL S2 _) he2 q2
  have al : (able ks (rank ks rs) c).length ≤ 1000 := nm.ln
  have s3 := push_told (ρ := fr k j f ks rs x4 (some (.cell e)) x6 (some (.lst (c.map .int))) (some (.lst ((able ks (rank ks rs) c).map dR))) (some (.lst [.cell a, .cell b])) x10 x11 x12) (i9 := 9) (d := .str "q") rfl (xb.get a2) (by rw [List.length_map]; exact al)
  have n3 := ((n.ext xa).ext xb).put (j := a) (by have := n.le; omega) (by have := n.le; omega) (.lst ((able ks (rank ks rs) c).map dR ++ [.str "q"]))
  have he3 : (S2.set a (.lst ((able ks (rank ks rs) c).map dR ++ [.str "q"])))[e]? = some (.lst (c.map .int)) := by rw [List.getElem?_set_ne (by omega)]; exact he2
  generalize S2.set a (.lst ((able ks (rank ks rs) c).map dR ++ [.str "q"])) = S3 at s3 n3 he3
  obtain ⟨d, S4, xd, d1, d2, d3⟩ := can_do_ok BR (Rd.of_cell he3) hl c0
  have s4 := check_one (S := S3) (S1 := S4) (ρ := fr k j f ks rs x4 (some (.cell e)) x6 (some (.lst (c.map .int))) (some (.lst ((able ks (rank ks rs) c).map dR))) (some (.lst [.cell a, .cell b])) x10 x11 x12) (i8 := 8) (C := eCall 2 m_can_do (aCons (eV 2) (aCons (eV 5) aNil))) (a := d) (by rw [eCall_ok (n := 2) (aCons_ok (var_e rfl S3) (aCons_ok (var_e rfl S3) rfl)) rfl]; exact d3) rfl (toPy_rules d2) (toPy_ruleL S4 _) rfl q1
  refine ⟨S4, some (.lst [.cell a, .cell b]), ?_, n3.ext xd, xd.get he3⟩
  unfold sSeq
  rw [s1, SRe.seq_nx, s2, SRe.seq_nx, s3, SRe.seq_nx, s4]
/-- .. for a rule, what stands behind it -/
theorem part4 {e : Nat} {c : List Int} {r : R3} (P : Pl S0 k j f ks rs) (n : Nx k S0 S) (e0 : S0.length ≤ e) (he : S[e]? = some (.lst (c.map .int))) (hl : c.length = ks.length) (hc : ∀ x ∈ c, 0 ≤ x ∧ x ≤ 30) (hr : r ∈ able ks (rank ks rs) c) : ∃ (S' : Sto) (y9 y11 : Option Dv), (sSeq (sSet 11 (eCall 3 m__law_turned_to (aCons (eV 1) (aCons (eV 5) (aCons (eV 10) aNil)))))
    (sSeq (sSet 9 (eN mkL (aCons (eCall 3 m_done (aCons (eV 2) (aCons (eV 5) (aCons (eV 10) aNil)))) (aCons (eCallK 3 (fun ds es S => m_done (pick [2, 1, 0] (ds ++ es)) S) (aCons (eV 10) (aCons (eV 5) (aCons (eV 2) aNil)))) aNil))))
    (sSeq (sIf (tOrD (tV (e2 oNe (eN bRepr (aCons (eV 9) aNil)) (eN bRepr (aCons (eN mkL (aCons (eV 11) (aCons (eV 11) aNil))) aNil)))) (tV (e2 oNe (eV 5) (eV 7)))) (sRet (eC (.bl false))) sNil)
    (sSeq (sExpr (eM isL mApp (e2 oIx (eV 9) (eC (.int 0))) (aCons (eC (.int 9)) aNil)))
    (sIf (tV (e2 oNe (eN bRepr (aCons (eCall 3 m_done (aCons (eV 2) (aCons (eV 5) (aCons (eV 10) aNil)))) aNil)) (eN bRepr (aCons (eV 11) aNil)))) (sRet (eC (.bl false))) sNil)))))
      (fr k j f ks rs x4 (some (.cell e)) x6 (some (.lst (c.map .int))) x8 x9 (some (dR r)) x11 x12) S = .nx (fr k j f ks rs x4 (some (.cell e)) x6 (some (.lst (c.map .int))) x8 y9 (some (dR r)) y11 x12) S' ∧ Nx k S0 S' ∧ S'[e]? = some (.lst (c.map .int)) := by
  have BR := P.B.rank
  have hk := P.hk
  have hel := (List.getElem?_eq_some_iff.mp he).1
  have c0 : ∀ x ∈ c, 0 ≤ x := fun x hx => (hc x hx).1
  have l8 := P.len
  obtain ⟨m1, m2⟩ := able_mem hr
  have hri := BR.rin r m1
  have ok : okC (turnQ 0 c (ix ks r.1) (ix ks r.2.2)) := fun y hy => by
    have := turnQ_ok hc (can_ge m2) (ruleIn_ix hri).2.2.2 y hy
    omega
  have tl : (turnQ 0 c (ix ks r.1) (ix ks r.2.2)).length ≤ 8 := by rw [turnQ_len]; omega
  have q1 := ok.sml.repr (by omega) (by omega)
  have q2 := (sml_two ok.sml).repr (by omega) (by omega)
  have dn := doneR_can m2
  have tt := turned_ok (S := S) (r := r) (Plan.cells (P.hj n) (P.hf n)) P.B.sok (Herd.of_cell he) hl (by omega) hri
  rw [not_non m2] at tt
  generalize turnQ 0 c (ix ks r.1) (ix ks r.2.2) = t at ok tl q1 q2 dn tt
  have s0 : sSet 11 (eCall 3 m__law_turned_to (aCons (eV 1) (aCons (eV 5) (aCons (eV 10) aNil)))) (fr k j f ks rs x4 (some (.cell e)) x6 (some (.lst (c.map .int))) x8 x9 (some (dR r)) x11 x12) S = .nx (fr k j f ks rs x4 (some (.cell e)) x6 (some (.lst (c.map .int))) x8 x9 (some (dR r)) (some (.lst (t.map .int))) x12) S := by
    unfold sSet
    rw [eCall_ok (n := 3) (aCons_ok (var_e rfl S) (aCons_ok (var_e rfl S) (aCons_ok (var_e rfl S) rfl))) rfl, tt]
    rfl
  obtain ⟨a, S1, xa, a1, a2, a3⟩ := done_ok BR (Rd.of_cell he) hl c0 m1 dn
  obtain ⟨b, S2, xb, b1, b2, b3⟩ := done_ok BR (Rd.of_cell (xa.get he)) hl c0 m1 dn
  have s1 : sSet 9 (eN mkL (aCons (eCall 3 m_done (aCons (eV 2) (aCons (eV 5) (aCons (eV 10) aNil)))) (aCons (eCallK 3 (fun ds es S => m_done (pick [2, 1, 0] (ds ++ es)) S) (aCons (eV 10) (aCons (eV 5) (aCons (eV 2) aNil)))) aNil)))
      (fr k j f ks rs x4 (some (.cell e)) x6 (some (.lst (c.map .int))) x8 x9 (some (dR r)) (some (.lst (t.map .int))) x12) S = .nx (fr k j f ks rs x4 (some (.cell e)) x6 (some (.lst (c.map .int))) x8 (some (.lst [.cell a, .cell b])) (some (dR r)) (some (.lst (t.map .int))) x12) S2 := by
    have z : eCallK 3 (fun ds es S => m_done (pick [2, 1, 0] (ds ++ es)) S) (aCons (eV 10) (aCons (eV 5) (aCons (eV 2) aNil))) (fr k j f ks rs x4 (some (.cell e)) x6 (some (.lst (c.map .int))) x8 x9 (some (dR r)) (some (.lst (t.map .int))) x12) S1 = .ok (.cell b) S2 := by
      unfold eCallK
      rw [aCons_ok (x := dR r) (xs := [.cell e, bookD ks (rank ks rs)]) (var_e rfl S1) (aCons_ok (var_e rfl S1) (aCons_ok (var_e rfl S1) rfl)), Re.bind_ok, if_pos (show [dR r, Dv.cell e, bookD ks (rank ks rs)].length = 3 from rfl)]
      exact b3
    unfold sSet
    rw [lit_okS (l := [.cell a, .cell b]) (S1 := S2) (aCons_ok (x := .cell a) (S1 := S1) (by rw [eCall_ok (n := 3) (aCons_ok (var_e rfl S) (aCons_ok (var_e rfl S) (aCons_ok (var_e rfl S) rfl))) rfl]; exact a3) (aCons_ok z rfl)) (by simp)]
    rfl
  have he2 := xb.get (xa.get he)
  have s2 := check_two (ρ := fr k j f ks rs x4 (some (.cell e)) x6 (some (.lst (c.map .int))) x8 (some (.lst [.cell a, .cell b])) (some (dR r)) (some (.lst (t.map .int))) x12) (S := S2) (i9 := 9) (i8 := 11) (i5 := 5) (i7 := 7) rfl rfl rfl rfl (toPy_ints (xb.get a2)) (toPy_ints b2) (toPy_intL S2 _) he2 q2
  have s3 := push_told (ρ := fr k j f ks rs x4 (some (.cell e)) x6 (some (.lst (c.map .int))) x8 (some (.lst [.cell a, .cell b])) (some (dR r)) (some (.lst (t.map .int))) x12) (i9 := 9) (d := .int 9) rfl (xb.get a2) (by rw [List.length_map]; omega)
  have n3 := ((n.ext xa).ext xb).put (j := a) (by have := n.le; omega) (by have := n.le; omega) (.lst (t.map .int ++ [.int 9]))
  have he3 : (S2.set a (.lst (t.map .int ++ [.int 9])))[e]? = some (.lst (c.map .int)) := by rw [List.getElem?_set_ne (by omega)]; exact he2
  generalize S2.set a (.lst (t.map .int ++ [.int 9])) = S3 at s3 n3 he3
  obtain ⟨d, S4, xd, d1, d2, d3⟩ := done_ok BR (Rd.of_cell he3) hl c0 m1 dn
  have s4 := check_one (S := S3) (S1 := S4) (ρ := fr k j f ks rs x4 (some (.cell e)) x6 (some (.lst (c.map .int))) x8 (some (.lst [.cell a, .cell b])) (some (dR r)) (some (.lst (t.map .int))) x12) (i8 := 11) (C := eCall 3 m_done (aCons (eV 2) (aCons (eV 5) (aCons (eV 10) aNil)))) (a := d) (by rw [eCall_ok (n := 3) (aCons_ok (var_e rfl S3) (aCons_ok (var_e rfl S3) (aCons_ok (var_e rfl S3) rfl))) rfl]; exact d3) rfl (toPy_ints d2) (toPy_intL S4 _) rfl q1
  refine ⟨S4, some (.lst [.cell a, .cell b]), some (.lst (t.map .int)), ?_, n3.ext xd, xd.get he3⟩
  unfold sSeq
  rw [s0, SRe.seq_nx, s1, SRe.seq_nx, s2, SRe.seq_nx, s3, SRe.seq_nx, s4]
/-- if sum(herd) < 30 and not grown_right(..) -/
theorem part5 {e : Nat} {c : List Int} (P : Pl S0 k j f ks rs) (n : Nx k S0 S) (e0 : S0.length ≤ e) (he : S[e]? = some (.lst (c.map .int))) (hl : c.length = ks.length) (hc : ∀ x ∈ c, 0 ≤ x ∧ x ≤ 30) : ∃ S', sIf (tAndD (tV (e2 oLt (eN bSum (aCons (eV 5) aNil)) (eC (.int 30)))) (tNotD (tV (eCall 4 m__law_grown_right (aCons (eV 0) (aCons (eV 2) (aCons (eV 1) (aCons (eV 5) aNil)))))))) (sRet (eC (.bl false))) sNil
      (fr k j f ks rs x4 (some (.cell e)) x6 x7 x8 x9 x10 x11 x12) S = .nx (fr k j f ks rs x4 (some (.cell e)) x6 x7 x8 x9 x10 x11 x12) S' ∧ Nx k S0 S' := by
  have hk := P.hk
  have jl := P.jl
  have fl := P.fl
  obtain ⟨S', m1, m2⟩ := grown_ok P.B P.ne n (P.hj n) (P.hf n) he (by omega) (by omega) (by omega) P.j1 P.f1 e0 hl hc
  have t1 : tV (e2 oLt (eN bSum (aCons (eV 5) aNil)) (eC (.int 30))) (fr k j f ks rs x4 (some (.cell e)) x6 x7 x8 x9 x10 x11 x12) S = .ok (decide (c.sum < 30)) S := by
    have z : eN bSum (aCons (eV 5) aNil) (fr k j f ks rs x4 (some (.cell e)) x6 x7 x8 x9 x10 x11 x12) S = .ok (.int c.sum) S := by
      rw [eN1 (var_e (show (fr k j f ks rs x4 (some (.cell e)) x6 x7 x8 x9 x10 x11 x12)[5]? = some (some (.cell e)) from rfl) S)]
      unfold bSum
      dsimp only
      rw [show asR S (.cell e) = some (c.map .int) by simp [asR, asL, he], Option.bind_some, intsD_map]
    unfold tV
    rw [e2_ok z (y := .int 30) (S2 := S) rfl]
    rfl
  have t2 : tNotD (tV (eCall 4 m__law_grown_right (aCons (eV 0) (aCons (eV 2) (aCons (eV 1) (aCons (eV 5) aNil)))))) (fr k j f ks rs x4 (some (.cell e)) x6 x7 x8 x9 x10 x11 x12) S = .ok false S' := by
    unfold tNotD tV
    rw [eCall_ok (n := 4) (aCons_ok (var_e rfl S) (aCons_ok (var_e rfl S) (aCons_ok (var_e rfl S) (aCons_ok (var_e rfl S) rfl)))) rfl, m2]
    rfl
  unfold sIf tAndD
  by_cases h : c.sum < 30
  · refine ⟨S', ?_, m1⟩
    rw [t1, decide_eq_true h, Re.bind_ok, if_pos rfl, t2]
    rfl
  · refine ⟨S, ?_, n⟩
    rw [t1, decide_eq_false h]
    rfl
end
end DL
namespace DL
open PySem PySem.Spec PyProof.Rows L2
theorem seq4 {A B C D E : Sm} {ρ ρ' : En} {S S' : Sto} (h : sSeq A (sSeq B (sSeq C D)) ρ S = .nx ρ' S') : sSeq A (sSeq B (sSeq C (sSeq D E))) ρ S = E ρ' S' := by
  have e : sSeq A (sSeq B (sSeq C (sSeq D E))) ρ S = SRe.seq (sSeq A (sSeq B (sSeq C D)) ρ S) E := by
    unfold sSeq
    cases A ρ S with
    | nx r s =>
      rw [SRe.seq_nx, SRe.seq_nx]
      cases B r s with
      | nx r s =>
        rw [SRe.seq_nx, SRe.seq_nx]
        cases C r s with
        | nx r s => rfl
        | _ => rfl
      | _ => rfl
    | _ => rfl
  rw [e, h, SRe.seq_nx]
theorem seq1 {A B : Sm} {ρ ρ' : En} {S S' : Sto} (h : A ρ S = .nx ρ' S') : sSeq A B ρ S = B ρ' S' := by
  unfold sSeq
  rw [h, SRe.seq_nx]
noncomputable def m__law_right : Fn := runD 13 (b__law_right m__law_manual m__law_grind m__law_code m__law_herd m__law_ranked m__law_turned_to m_can_do m_done m__law_grown_right m_Book_eq)
theorem turn_ok21 {S0 S : Sto} {k j f : Nat} {ks : List Str} {rs : List R3} {x4 x5 x6 x7 x8 x9 x10 x11 x12 : Option Dv} (P : Pl S0 k j f ks rs) (n : Nx k S0 S) : ∃ y5 y6 y7 y8 y9 y10 y11 y12 S', (sSeq (sSet 5 (eCall 3 m__law_herd (aCons (eV 0) (aCons (eV 3) (aCons (e2 oIx (eN mkL (aCons (eC (.int 1)) (aCons (eC (.int 2)) (aCons (eC (.int 3)) (aCons (e2 oDiv (eC (.int 30)) (eV 3)) aNil))))) (eCall 2 m__law_grind (aCons (eV 0) (aCons (eC (.int 4)) aNil)))) aNil)))))
    (sSeq (sIf (tV (e2 oEq (eCall 2 m__law_grind (aCons (eV 0) (aCons (eC (.int 4)) aNil))) (eC (.int 0)))) (sSeq (sSet 6 (eCall 2 m__law_grind (aCons (eV 0) (aCons (eV 3) aNil))))
    (sSet 5 (eLcC (iRg1 (aCons (eV 3) aNil)) (gN 12) ttYes (e2 oMul (eCall 2 m__law_grind (aCons (eV 0) (aCons (eC (.int 3)) aNil))) (eN bInt (aCons (e2 oEq (eV 12) (eV 6)) aNil))) [12]))) sNil)
    (sSeq (sSet 7 (eN bList (aCons (eV 5) aNil)))
    (sSeq (sSet 8 (eLc (iSeq (eCall 1 m__law_ranked (aCons (eV 1) aNil))) (gN 10) (tV (e2 oIsNot (eCall 3 m__law_turned_to (aCons (eV 1) (aCons (eV 5) (aCons (eV 10) aNil)))) (eC .non))) (eV 10) [10]))
    (sSeq (sSet 9 (eN mkL (aCons (eCall 2 m_can_do (aCons (eV 2) (aCons (eV 5) aNil))) (aCons (eCallK 2 (fun ds es S => m_can_do (pick [1, 0] (ds ++ es)) S) (aCons (eV 5) (aCons (eV 2) aNil))) aNil))))
    (sSeq (sIf (tOrD (tV (e2 oNe (eN bRepr (aCons (eV 9) aNil)) (eN bRepr (aCons (eN mkL (aCons (eV 8) (aCons (eV 8) aNil))) aNil)))) (tV (e2 oNe (eV 5) (eV 7)))) (sRet (eC (.bl false))) sNil)
    (sSeq (sExpr (eM isL mApp (e2 oIx (eV 9) (eC (.int 0))) (aCons (eC (.str "q")) aNil)))
    (sSeq (sIf (tV (e2 oNe (eN bRepr (aCons (eCall 2 m_can_do (aCons (eV 2) (aCons (eV 5) aNil))) aNil)) (eN bRepr (aCons (eV 8) aNil)))) (sRet (eC (.bl false))) sNil)
    (sSeq (sFor (iSeq (eV 8)) (gN 10) (sSeq (sSet 11 (eCall 3 m__law_turned_to (aCons (eV 1) (aCons (eV 5) (aCons (eV 10) aNil)))))
    (sSeq (sSet 9 (eN mkL (aCons (eCall 3 m_done (aCons (eV 2) (aCons (eV 5) (aCons (eV 10) aNil)))) (aCons (eCallK 3 (fun ds es S => m_done (pick [2, 1, 0] (ds ++ es)) S) (aCons (eV 10) (aCons (eV 5) (aCons (eV 2) aNil)))) aNil))))
    (sSeq (sIf (tOrD (tV (e2 oNe (eN bRepr (aCons (eV 9) aNil)) (eN bRepr (aCons (eN mkL (aCons (eV 11) (aCons (eV 11) aNil))) aNil)))) (tV (e2 oNe (eV 5) (eV 7)))) (sRet (eC (.bl false))) sNil)
    (sSeq (sExpr (eM isL mApp (e2 oIx (eV 9) (eC (.int 0))) (aCons (eC (.int 9)) aNil)))
    (sIf (tV (e2 oNe (eN bRepr (aCons (eCall 3 m_done (aCons (eV 2) (aCons (eV 5) (aCons (eV 10) aNil)))) aNil)) (eN bRepr (aCons (eV 11) aNil)))) (sRet (eC (.bl false))) sNil))))))
    (sIf (tAndD (tV (e2 oLt (eN bSum (aCons (eV 5) aNil)) (eC (.int 30)))) (tNotD (tV (eCall 4 m__law_grown_right (aCons (eV 0) (aCons (eV 2) (aCons (eV 1) (aCons (eV 5) aNil)))))))) (sRet (eC (.bl false))) sNil)))))))))) (fr k j f ks rs x4 x5 x6 x7 x8 x9 x10 x11 x12) S = .nx (fr k j f ks rs x4 y5 y6 y7 y8 y9 y10 y11 y12) S' ∧ Nx k S0 S' := by
  obtain ⟨e, c, S1, p1, n1, e0, he, hl, hc⟩ := part1 (x4 := x4) (x5 := x5) (x6 := x6) (x7 := x7) (x8 := x8) (x9 := x9) (x10 := x10) (x11 := x11) (x12 := x12) P n
  obtain ⟨e, c, S2, y6, p2, n2, e0, he, hl, hc⟩ := part2 (x4 := x4) (x6 := x6) (x7 := x7) (x8 := x8) (x9 := x9) (x10 := x10) (x11 := x11) (x12 := x12) P n1 e0 he hl hc
  have p3 : (sSet 7 (eN bList (aCons (eV 5) aNil))) (fr k j f ks rs x4 (some (.cell e)) y6 x7 x8 x9 x10 x11 x12) S2 = .nx (fr k j f ks rs x4 (some (.cell e)) y6 (some (.lst (c.map .int))) x8 x9 x10 x11 x12) S2 := by
    unfold sSet
    rw [eN1 (var_e (show (fr k j f ks rs x4 (some (.cell e)) y6 x7 x8 x9 x10 x11 x12)[5]? = some (some (.cell e)) from rfl) S2)]
    unfold bList
    dsimp only
    rw [(Rd.of_cell he).q]
    rfl
  have p4 : (sSet 8 (eLc (iSeq (eCall 1 m__law_ranked (aCons (eV 1) aNil))) (gN 10) (tV (e2 oIsNot (eCall 3 m__law_turned_to (aCons (eV 1) (aCons (eV 5) (aCons (eV 10) aNil)))) (eC .non))) (eV 10) [10])) (fr k j f ks rs x4 (some (.cell e)) y6 (some (.lst (c.map .int))) x8 x9 x10 x11 x12) S2 = .nx (fr k j f ks rs x4 (some (.cell e)) y6 (some (.lst (c.map .int))) (some (.lst ((able ks (rank ks rs) c).map dR))) x9 x10 x11 x12) S2 := by
    unfold sSet
    rw [due_e (dp := .tup [.cell j, .cell f]) (dh := .cell e) P.B (Plan.cells (P.hj n2) (P.hf n2)) (Herd.of_cell he) hl rfl rfl (by simp) (by decide) (by decide)]
    rfl
  obtain ⟨S3, y9, p5, n3, he3⟩ := part3 (x4 := x4) (x6 := y6) (x9 := x9) (x10 := x10) (x11 := x11) (x12 := x12) P n2 e0 he hl hc
  obtain ⟨ρ', S4, l1, y9, y10, y11, rfl, n4, he4⟩ := sFor_inv (f := iSeq (eV 8)) (g := gN 10) (b := (sSeq (sSet 11 (eCall 3 m__law_turned_to (aCons (eV 1) (aCons (eV 5) (aCons (eV 10) aNil)))))
    (sSeq (sSet 9 (eN mkL (aCons (eCall 3 m_done (aCons (eV 2) (aCons (eV 5) (aCons (eV 10) aNil)))) (aCons (eCallK 3 (fun ds es S => m_done (pick [2, 1, 0] (ds ++ es)) S) (aCons (eV 10) (aCons (eV 5) (aCons (eV 2) aNil)))) aNil))))
    (sSeq (sIf (tOrD (tV (e2 oNe (eN bRepr (aCons (eV 9) aNil)) (eN bRepr (aCons (eN mkL (aCons (eV 11) (aCons (eV 11) aNil))) aNil)))) (tV (e2 oNe (eV 5) (eV 7)))) (sRet (eC (.bl false))) sNil)
    (sSeq (sExpr (eM isL mApp (e2 oIx (eV 9) (eC (.int 0))) (aCons (eC (.int 9)) aNil)))
    (sIf (tV (e2 oNe (eN bRepr (aCons (eCall 3 m_done (aCons (eV 2) (aCons (eV 5) (aCons (eV 10) aNil)))) aNil)) (eN bRepr (aCons (eV 11) aNil)))) (sRet (eC (.bl false))) sNil))))))
    (ρ := fr k j f ks rs x4 (some (.cell e)) y6 (some (.lst (c.map .int))) (some (.lst ((able ks (rank ks rs) c).map dR))) y9 x10 x11 x12) (S := S3) (S0 := S3) (l := (able ks (rank ks rs) c).map dR) (chk := always)
    (fun _ ρ S' => ∃ y9 y10 y11, ρ = fr k j f ks rs x4 (some (.cell e)) y6 (some (.lst (c.map .int))) (some (.lst ((able ks (rank ks rs) c).map dR))) y9 y10 y11 x12 ∧ Nx k S0 S' ∧ S'[e]? = some (.lst (c.map .int))) rfl (always_ _) ⟨y9, x10, x11, rfl, n3, he3⟩ (by
      rintro i d ρ S4 hd ⟨y9, y10, y11, rfl, n4, he4⟩
      obtain ⟨r, hr, rfl⟩ := List.mem_map.mp (List.mem_of_getElem? hd)
      obtain ⟨S5, z9, z11, q, n5, he5⟩ := part4 (x4 := x4) (x6 := y6) (x8 := some (.lst ((able ks (rank ks rs) c).map dR))) (x9 := y9) (x11 := y11) (x12 := x12) P n4 e0 he4 hl hc hr
      exact ⟨_, S5, q, always_ _, z9, some (dR r), z11, rfl, n5, he5⟩)
  obtain ⟨S5, p6, n5⟩ := part5 (x4 := x4) (x6 := y6) (x7 := some (.lst (c.map .int))) (x8 := some (.lst ((able ks (rank ks rs) c).map dR))) (x9 := y9) (x10 := y10) (x11 := y11) (x12 := x12) P n4 e0 he4 hl hc
  refine ⟨some (.cell e), y6, some (.lst (c.map .int)), some (.lst ((able ks (rank ks rs) c).map dR)), y9, y10, y11, x12, S5, ?_, n5⟩
  exact (seq1 p1).trans ((seq1 p2).trans ((seq1 p3).trans ((seq1 p4).trans ((seq4 p5).trans ((seq1 l1).trans p6)))))
theorem right_ok {S : Sto} {k : Nat} (hm : Mill S k) : ∃ S', m__law_right [.cell k] S = .ok (.bl true) S' := by
  obtain ⟨i, S1, g1, g2, g3, g4, g5, g6⟩ := draw_e (ρ := [some (.cell k), none, none, none, none, none, none, none, none, none, none, none, none]) (i := 0) (e := eC (.int 2)) (c := 2) (S := S) (S1 := S) rfl rfl hm (by omega) (by omega)
  obtain ⟨i, rfl⟩ := Int.eq_ofNat_of_zero_le g1
  have hmk : ∃ m : Int, [Dv.int 3, .int 8][i]? = some (.int m) ∧ 0 < m ∧ m ≤ 8 := by
    have : i < 2 := by omega
    match i, this with
    | 0, _ => exact ⟨3, rfl, by omega, by omega⟩
    | 1, _ => exact ⟨8, rfl, by omega, by omega⟩
  obtain ⟨mk, m1, m2, m3⟩ := hmk
  have ll : eN mkL (aCons (eC (.int 3)) (aCons (eC (.int 8)) aNil)) [some (.cell k), none, none, none, none, none, none, none, none, none, none, none, none] S = .ok (.lst [.int 3, .int 8]) S :=
    lit_ok (aCons_ok (x := .int 3) (S1 := S) rfl (aCons_ok (x := .int 8) (S1 := S) rfl rfl)) (by simp)
  have ix := ix_e (S2 := S1) ll g3 (l := [.int 3, .int 8]) rfl (fun z h => by cases h) m1
  obtain ⟨j, f, ks, rs, S0, q1, hj, hf, lj, lf, jf, n0, ne, B, r8⟩ := manual_ok (mk := mk) (mr := 8) g6.mill m2 m3 (by omega) (by omega)
  have kl := g6.mill.lt
  have P : Pl S0 k j f ks rs := ⟨Nat.lt_of_lt_of_le kl n0.le, hj, hf, by omega, by omega, B, ne⟩
  have s1 : (sSet 1 (eCall 3 m__law_manual (aCons (eV 0) (aCons (e2 oIx (eN mkL (aCons (eC (.int 3)) (aCons (eC (.int 8)) aNil))) (eCall 2 m__law_grind (aCons (eV 0) (aCons (eC (.int 2)) aNil)))) (aCons (eC (.int 8)) aNil))))) [some (.cell k), none, none, none, none, none, none, none, none, none, none, none, none] S = .nx [some (.cell k), some (.tup [.cell j, .cell f]), none, none, none, none, none, none, none, none, none, none, none] S0 := by
    unfold sSet
    rw [eCall_ok (n := 3) (aCons_ok (var_e rfl S) (aCons_ok ix (aCons_ok (x := .int 8) (S1 := S1) rfl rfl))) rfl, q1]
    rfl
  have pl := Plan.cells hj hf
  have kd : ∀ ρ : En, ρ[1]? = some (some (.tup [.cell j, .cell f])) → ∀ S, e2 oIx (eV 1) (eC (.int 0)) ρ S = .ok (.cell j) S := fun ρ h S => by
    rw [e2_ok (var_e h S) (y := .int 0) (S2 := S) rfl]
    rfl
  have s2 : (sPar 2 3 (aCons (eCall 1 m__law_code (aCons (eV 1) aNil)) (aCons (eN bLen (aCons (e2 oIx (eV 1) (eC (.int 0))) aNil)) aNil))) [some (.cell k), some (.tup [.cell j, .cell f]), none, none, none, none, none, none, none, none, none, none, none] S0 = .nx (fr k j f ks rs none none none none none none none none none) S0 := by
    unfold sPar
    rw [aCons_ok (x := bookD ks (rank ks rs)) (S1 := S0) (by rw [eCall_ok (n := 1) (aCons_ok (var_e rfl S0) rfl) rfl]; exact code_ok pl B) (aCons_ok (x := .int ks.length) (S1 := S0) (by rw [len_e (kd _ rfl S0) (Rd.of_cell hj), List.length_map]) rfl), Re.toS_ok]
    rfl
  obtain ⟨ρ', S', l1, x4, x5, x6, x7, x8, x9, x10, x11, x12, rfl, n'⟩ := sFor_inv (f := iRg1 (aCons (eC (.int 4)) aNil)) (g := gN 4) (b := (sSeq (sSet 5 (eCall 3 m__law_herd (aCons (eV 0) (aCons (eV 3) (aCons (e2 oIx (eN mkL (aCons (eC (.int 1)) (aCons (eC (.int 2)) (aCons (eC (.int 3)) (aCons (e2 oDiv (eC (.int 30)) (eV 3)) aNil))))) (eCall 2 m__law_grind (aCons (eV 0) (aCons (eC (.int 4)) aNil)))) aNil)))))
    (sSeq (sIf (tV (e2 oEq (eCall 2 m__law_grind (aCons (eV 0) (aCons (eC (.int 4)) aNil))) (eC (.int 0)))) (sSeq (sSet 6 (eCall 2 m__law_grind (aCons (eV 0) (aCons (eV 3) aNil))))
    (sSet 5 (eLcC (iRg1 (aCons (eV 3) aNil)) (gN 12) ttYes (e2 oMul (eCall 2 m__law_grind (aCons (eV 0) (aCons (eC (.int 3)) aNil))) (eN bInt (aCons (e2 oEq (eV 12) (eV 6)) aNil))) [12]))) sNil)
    (sSeq (sSet 7 (eN bList (aCons (eV 5) aNil)))
    (sSeq (sSet 8 (eLc (iSeq (eCall 1 m__law_ranked (aCons (eV 1) aNil))) (gN 10) (tV (e2 oIsNot (eCall 3 m__law_turned_to (aCons (eV 1) (aCons (eV 5) (aCons (eV 10) aNil)))) (eC .non))) (eV 10) [10]))
    (sSeq (sSet 9 (eN mkL (aCons (eCall 2 m_can_do (aCons (eV 2) (aCons (eV 5) aNil))) (aCons (eCallK 2 (fun ds es S => m_can_do (pick [1, 0] (ds ++ es)) S) (aCons (eV 5) (aCons (eV 2) aNil))) aNil))))
    (sSeq (sIf (tOrD (tV (e2 oNe (eN bRepr (aCons (eV 9) aNil)) (eN bRepr (aCons (eN mkL (aCons (eV 8) (aCons (eV 8) aNil))) aNil)))) (tV (e2 oNe (eV 5) (eV 7)))) (sRet (eC (.bl false))) sNil)
    (sSeq (sExpr (eM isL mApp (e2 oIx (eV 9) (eC (.int 0))) (aCons (eC (.str "q")) aNil)))
    (sSeq (sIf (tV (e2 oNe (eN bRepr (aCons (eCall 2 m_can_do (aCons (eV 2) (aCons (eV 5) aNil))) aNil)) (eN bRepr (aCons (eV 8) aNil)))) (sRet (eC (.bl false))) sNil)
    (sSeq (sFor (iSeq (eV 8)) (gN 10) (sSeq (sSet 11 (eCall 3 m__law_turned_to (aCons (eV 1) (aCons (eV 5) (aCons (eV 10) aNil)))))
    (sSeq (sSet 9 (eN mkL (aCons (eCall 3 m_done (aCons (eV 2) (aCons (eV 5) (aCons (eV 10) aNil)))) (aCons (eCallK 3 (fun ds es S => m_done (pick [2, 1, 0] (ds ++ es)) S) (aCons (eV 10) (aCons (eV 5) (aCons (eV 2) aNil)))) aNil))))
    (sSeq (sIf (tOrD (tV (e2 oNe (eN bRepr (aCons (eV 9) aNil)) (eN bRepr (aCons (eN mkL (aCons (eV 11) (aCons (eV 11) aNil))) aNil)))) (tV (e2 oNe (eV 5) (eV 7)))) (sRet (eC (.bl false))) sNil)
    (sSeq (sExpr (eM isL mApp (e2 oIx (eV 9) (eC (.int 0))) (aCons (eC (.int 9)) aNil)))
    (sIf (tV (e2 oNe (eN bRepr (aCons (eCall 3 m_done (aCons (eV 2) (aCons (eV 5) (aCons (eV 10) aNil)))) aNil)) (eN bRepr (aCons (eV 11) aNil)))) (sRet (eC (.bl false))) sNil))))))
    (sIf (tAndD (tV (e2 oLt (eN bSum (aCons (eV 5) aNil)) (eC (.int 30)))) (tNotD (tV (eCall 4 m__law_grown_right (aCons (eV 0) (aCons (eV 2) (aCons (eV 1) (aCons (eV 5) aNil)))))))) (sRet (eC (.bl false))) sNil)))))))))))
    (ρ := fr k j f ks rs none none none none none none none none none) (S := S0) (S0 := S0) (l := rgD 0 4) (chk := always)
    (fun _ ρ S' => ∃ x4 x5 x6 x7 x8 x9 x10 x11 x12, ρ = fr k j f ks rs x4 x5 x6 x7 x8 x9 x10 x11 x12 ∧ Nx k S0 S') (rg_ok (n := 4) rfl (by omega)) (always_ _) ⟨none, none, none, none, none, none, none, none, none, rfl, Nx.rfl n0.mill⟩ (by
      rintro i d ρ S4 hd ⟨x4, x5, x6, x7, x8, x9, x10, x11, x12, rfl, n4⟩
      obtain ⟨y5, y6, y7, y8, y9, y10, y11, y12, S5, q, n5⟩ := turn_ok21 (x4 := some d) (x5 := x5) (x6 := x6) (x7 := x7) (x8 := x8) (x9 := x9) (x10 := x10) (x11 := x11) (x12 := x12) P n4
      exact ⟨_, S5, q, always_ _, some d, y5, y6, y7, y8, y9, y10, y11, y12, rfl, n5⟩)
  refine ⟨S', ?_⟩
  have fin : e2 (oOwn 0 m_Book_eq id) (eV 2) (eCall 1 m__law_code (aCons (eV 1) aNil)) (fr k j f ks rs x4 x5 x6 x7 x8 x9 x10 x11 x12) S' = .ok (.bl true) S' := by
    rw [own_e (R := rank ks rs) (R' := rank ks rs) (S1 := S') (S2 := S') (var_e rfl S') (by rw [eCall_ok (n := 1) (aCons_ok (var_e rfl S') (show aNil _ S' = .ok [] S' from rfl)) rfl]; exact code_ok (Plan.cells (P.hj n') (P.hf n')) B) B.rank B.rank, decide_eq_true rfl]
    rfl
  unfold m__law_right runD b__law_right
  show (sSeq _ _ [some (.cell k), none, none, none, none, none, none, none, none, none, none, none, none] S).toR = _
  rw [seq1 s1, seq1 s2, seq1 l1]
  unfold sRet
  rw [fin]
  rfl

/-! ### the law -/
noncomputable def m_law : Fn := runD 3 (b_law m__law_mill m__law_right)
theorem law_true (ns : List Int) (hn : ns.length ≤ 63) : ∃ S', m_law [.ro (ns.map .int)] [] = .ok (.bl true) S' := by
  have lim : ∃ n : Nat, n ≤ 16 ∧ eN bMin (aCons (eC (.int 16)) (aCons (eN bMax (aCons (eC (.int 1)) (aCons (eN bLen (aCons (eV 0) aNil)) aNil))) aNil)) [some (.ro (ns.map .int)), none, none] [] = .ok (.int n) [] := by
    have ln : eN bLen (aCons (eV 0) aNil) [some (.ro (ns.map .int)), none, none] [] = .ok (.int ns.length) [] := by
      rw [eN1 (x := .ro (ns.map .int)) (S1 := []) rfl]
      simp [bLen, asQ, asR]
    have mx : eN bMax (aCons (eC (.int 1)) (aCons (eN bLen (aCons (eV 0) aNil)) aNil)) [some (.ro (ns.map .int)), none, none] [] = .ok (.int (if (ns.length : Int) > 1 then (ns.length : Int) else 1)) [] := by
      rw [eN_ok (aCons_ok (x := .int 1) (S1 := []) rfl (aCons_ok ln rfl))]
      rfl
    generalize hv : (if (ns.length : Int) > 1 then (ns.length : Int) else 1) = v at mx
    have v0 : 0 < v := by rw [← hv]; split <;> omega
    refine ⟨(if v < 16 then v else 16).toNat, by split <;> omega, ?_⟩
    rw [eN_ok (aCons_ok (x := .int 16) (S1 := []) rfl (aCons_ok mx rfl))]
    have : (((if v < 16 then v else 16).toNat : Nat) : Int) = if v < 16 then v else 16 := Int.toNat_of_nonneg (by split <;> omega)
    rw [this]
    rfl
  obtain ⟨n, n16, lim⟩ := lim
  obtain ⟨ρ', S', e, ⟨x, y, rfl⟩⟩ := sFor_inv (f := iRg1 (aCons (eN bMin (aCons (eC (.int 16)) (aCons (eN bMax (aCons (eC (.int 1)) (aCons (eN bLen (aCons (eV 0) aNil)) aNil))) aNil))) aNil)) (g := gN 1) (b := (sSeq (sSet 2 (eCall 2 m__law_mill (aCons (eV 0) (aCons (eV 1) aNil))))
    (sIf (tNotD (tV (eCall 1 m__law_right (aCons (eV 2) aNil)))) (sRet (eC (.bl false))) sNil))) (l := rgD 0 n) (chk := always) (S := []) (S0 := []) (ρ := [some (.ro (ns.map .int)), none, none])
    (fun i ρ S' => ∃ x y, ρ = [some (.ro (ns.map .int)), x, y]) (rg_ok lim (by omega)) (always_ _) ⟨none, none, rfl⟩ (by
    rintro i d ρ S' hd ⟨x, y, rfl⟩
    have hp : ∃ p : Nat, p < 64 ∧ d = .int p := by
      unfold rgD at hd
      rw [List.getElem?_map, Option.map_eq_some_iff] at hd
      obtain ⟨p, hp, rfl⟩ := hd
      have h1 := (List.getElem?_eq_some_iff.mp hp)
      have h2 := h1.2
      have h3 := h1.1
      rw [List.length_range] at h3
      rw [List.getElem_range] at h2
      exact ⟨p, by omega, by simp⟩
    obtain ⟨p, hp, rfl⟩ := hp
    obtain ⟨a, b, m1, m2, m3⟩ := mill_ok ns hn p hp S'
    have t1 : sSet 2 (eCall 2 m__law_mill (aCons (eV 0) (aCons (eV 1) aNil))) [some (.ro (ns.map .int)), some (.int p), y] S' = .nx [some (.ro (ns.map .int)), some (.int p), some (.cell S'.length)] (S' ++ [.lst [.int a, .int b]]) := by
      unfold sSet
      rw [eCall_ok (n := 2) (ds := [.ro (ns.map .int), .int p]) (S1 := S') rfl rfl, m1]
      rfl
    have hM : Mill (S' ++ [.lst [.int a, .int b]]) S'.length := ⟨a, b, by rw [List.getElem?_append_right (Nat.le_refl _), Nat.sub_self]; rfl, m2, m3⟩
    obtain ⟨S2, r⟩ := right_ok hM
    have t2 : sIf (tNotD (tV (eCall 1 m__law_right (aCons (eV 2) aNil)))) (sRet (eC (.bl false))) sNil [some (.ro (ns.map .int)), some (.int p), some (.cell S'.length)] (S' ++ [.lst [.int a, .int b]]) = .nx [some (.ro (ns.map .int)), some (.int p), some (.cell S'.length)] S2 := by
      unfold sIf tNotD tV
      rw [eCall_ok (n := 1) (ds := [.cell S'.length]) (S1 := S' ++ [.lst [.int a, .int b]]) rfl rfl, r]
      rfl
    refine ⟨_, S2, ?_, always_ _, some (.int p), some (.cell S'.length), rfl⟩
    show sSeq _ _ [some (.ro (ns.map .int)), some (.int p), y] S' = _
    unfold sSeq
    rw [t1, SRe.seq_nx, t2])
  refine ⟨S', ?_⟩
  unfold m_law runD b_law
  show (sSeq _ _ [some (.ro (ns.map .int)), none, none] []).toR = _
  unfold sSeq at e ⊢
  rw [e, SRe.seq_nx]
  rfl


/-! ### nothing else is hidden -/
theorem le__law_mill (ds : List Dv) (S : Sto) (_ : ds.length = 2) (_ : Closed S) (_ : lowL S.length ds = true) : Le S.length (runD 4 b__law_mill ds S) (m__law_mill ds S) := Le.refl _
theorem le__law_grind (ds : List Dv) (S : Sto) (_ : ds.length = 2) (_ : Closed S) (_ : lowL S.length ds = true) : Le S.length (runD 3 b__law_grind ds S) (m__law_grind ds S) := Le.refl _
theorem le__law_tribes (ds : List Dv) (S : Sto) (_ : ds.length = 2) (_ : Closed S) (_ : lowL S.length ds = true) : Le S.length (runD 6 (b__law_tribes m__law_grind) ds S) (m__law_tribes ds S) := Le.refl _
theorem le__law_manual (ds : List Dv) (S : Sto) (_ : ds.length = 3) (_ : Closed S) (_ : lowL S.length ds = true) : Le S.length (runD 10 (b__law_manual m__law_tribes m__law_grind) ds S) (m__law_manual ds S) := Le.refl _
theorem le__law_code (ds : List Dv) (S : Sto) (_ : ds.length = 1) (_ : Closed S) (_ : lowL S.length ds = true) : Le S.length (runD 1 (b__law_code m_Book) ds S) (m__law_code ds S) := Le.refl _
theorem le__law_ranked (ds : List Dv) (S : Sto) (_ : ds.length = 1) (_ : Closed S) (_ : lowL S.length ds = true) : Le S.length (runD 6 b__law_ranked ds S) (m__law_ranked ds S) := Le.refl _
theorem le__law_right (ds : List Dv) (S : Sto) (_ : ds.length = 1) (_ : Closed S) (_ : lowL S.length ds = true) : Le S.length (runD 13 (b__law_right m__law_manual m__law_grind m__law_code m__law_herd m__law_ranked m__law_turned_to m_can_do m_done m__law_grown_right m_Book_eq) ds S) (m__law_right ds S) := Le.refl _
theorem le_law (ds : List Dv) (S : Sto) (_ : ds.length = 1) (_ : Closed S) (_ : lowL S.length ds = true) : Le S.length (runD 3 (b_law m__law_mill m__law_right) ds S) (m_law ds S) := Le.refl _
end DL
/-! law_k21_rules_that_can_be_done: the end. -/
namespace DL
open PySem PySem.Spec PyProof.Rows L2
def gam (C2 : Addr) (C8 : Addr) (C3 : Addr) (C9 : Addr) (C4 : Addr) (C7 : Addr) (C10 : Addr) (C0 : Addr) : Nat → Addr := fun n => match n with
  | 2 => C2
  | 8 => C8
  | 3 => C3
  | 9 => C9
  | 4 => C4
  | 7 => C7
  | 10 => C10
  | 0 => C0
  | _ => 0
theorem all_mk {P : Program} {w : World} {K : PySem.W.Frag} {h : Heap} {mg : Str → Option Value} {fa : Addr} (X : K.In h) (G : h.Ns mainGlobals mg) (hfa : mg "law" = some (.ref fa))
    {C2 : Addr}
    {C8 : Addr}
    {C3 : Addr}
    {C9 : Addr}
    {C4 : Addr}
    {C7 : Addr}
    {C10 : Addr}
    {C0 : Addr}
    {t_LETTERS : Tok}
    {od__law_mill an__law_mill : Option Addr} {sl__law_mill : Array (Option Value)} {oc__law_mill kV__law_mill dc__law_mill pm__law_mill cd__law_mill ct__law_mill : Value} {f__law_mill : Addr}
    {od__law_grind an__law_grind : Option Addr} {sl__law_grind : Array (Option Value)} {oc__law_grind kV__law_grind dc__law_grind pm__law_grind cd__law_grind ct__law_grind : Value} {f__law_grind : Addr}
    {od__law_tribes an__law_tribes : Option Addr} {sl__law_tribes : Array (Option Value)} {oc__law_tribes kV__law_tribes dc__law_tribes pm__law_tribes cd__law_tribes ct__law_tribes : Value} {f__law_tribes : Addr}
    {od__law_manual an__law_manual : Option Addr} {sl__law_manual : Array (Option Value)} {oc__law_manual kV__law_manual dc__law_manual pm__law_manual cd__law_manual ct__law_manual : Value} {f__law_manual : Addr}
    {od_is_name an_is_name : Option Addr} {sl_is_name : Array (Option Value)} {oc_is_name kV_is_name dc_is_name pm_is_name cd_is_name ct_is_name : Value} {f_is_name : Addr}
    {od_check_kinds an_check_kinds : Option Addr} {sl_check_kinds : Array (Option Value)} {oc_check_kinds kV_check_kinds dc_check_kinds pm_check_kinds cd_check_kinds ct_check_kinds : Value} {f_check_kinds : Addr}
    {od_check_rule an_check_rule : Option Addr} {sl_check_rule : Array (Option Value)} {oc_check_rule kV_check_rule dc_check_rule pm_check_rule cd_check_rule ct_check_rule : Value} {f_check_rule : Addr}
    {od_Book_init an_Book_init : Option Addr} {sl_Book_init : Array (Option Value)} {oc_Book_init kV_Book_init dc_Book_init pm_Book_init cd_Book_init ct_Book_init : Value} {f_Book_init : Addr}
    {od__law_code an__law_code : Option Addr} {sl__law_code : Array (Option Value)} {oc__law_code kV__law_code dc__law_code pm__law_code cd__law_code ct__law_code : Value} {f__law_code : Addr}
    {od__law_herd an__law_herd : Option Addr} {sl__law_herd : Array (Option Value)} {oc__law_herd kV__law_herd dc__law_herd pm__law_herd cd__law_herd ct__law_herd : Value} {f__law_herd : Addr}
    {od__law_ranked an__law_ranked : Option Addr} {sl__law_ranked : Array (Option Value)} {oc__law_ranked kV__law_ranked dc__law_ranked pm__law_ranked cd__law_ranked ct__law_ranked : Value} {f__law_ranked : Addr}
    {od__law_turned_to an__law_turned_to : Option Addr} {sl__law_turned_to : Array (Option Value)} {oc__law_turned_to kV__law_turned_to dc__law_turned_to pm__law_turned_to cd__law_turned_to ct__law_turned_to : Value} {f__law_turned_to : Addr}
    {od_check_crowd an_check_crowd : Option Addr} {sl_check_crowd : Array (Option Value)} {oc_check_crowd kV_check_crowd dc_check_crowd pm_check_crowd cd_check_crowd ct_check_crowd : Value} {f_check_crowd : Addr}
    {od_moved an_moved : Option Addr} {sl_moved : Array (Option Value)} {oc_moved kV_moved dc_moved pm_moved cd_moved ct_moved : Value} {f_moved : Addr}
    {od_places_of an_places_of : Option Addr} {sl_places_of : Array (Option Value)} {oc_places_of kV_places_of dc_places_of pm_places_of cd_places_of ct_places_of : Value} {f_places_of : Addr}
    {od_can_do an_can_do : Option Addr} {sl_can_do : Array (Option Value)} {oc_can_do kV_can_do dc_can_do pm_can_do cd_can_do ct_can_do : Value} {f_can_do : Addr}
    {od_done an_done : Option Addr} {sl_done : Array (Option Value)} {oc_done kV_done dc_done pm_done cd_done ct_done : Value} {f_done : Addr}
    {od__law_grown_right an__law_grown_right : Option Addr} {sl__law_grown_right : Array (Option Value)} {oc__law_grown_right kV__law_grown_right dc__law_grown_right pm__law_grown_right cd__law_grown_right ct__law_grown_right : Value} {f__law_grown_right : Addr}
    {od_Book_eq an_Book_eq : Option Addr} {sl_Book_eq : Array (Option Value)} {oc_Book_eq kV_Book_eq dc_Book_eq pm_Book_eq cd_Book_eq ct_Book_eq : Value} {f_Book_eq : Addr}
    {od__law_right an__law_right : Option Addr} {sl__law_right : Array (Option Value)} {oc__law_right kV__law_right dc__law_right pm__law_right cd__law_right ct__law_right : Value} {f__law_right : Addr}
    {od_law an_law : Option Addr} {sl_law : Array (Option Value)} {oc_law kV_law dc_law pm_law cd_law ct_law : Value} {f_law : Addr}
    {od_err an_err : Option Addr} {sl_err : Array (Option Value)} {oc_err kV_err dc_err pm_err cd_err ct_err : Value} {f_err : Addr}
    {nm_CrowdError q_CrowdError : Str} {N_CrowdError : Addr} {bs_CrowdError sb_CrowdError : List Value} {sn_CrowdError : List Str} {ab_CrowdError : Bool} {cl_CrowdError : Option Bool} {dd_CrowdError : Option Addr} {m0_CrowdError m1_CrowdError m2_CrowdError m3_CrowdError m5_CrowdError : Option Value}
    {nm_InvalidName q_InvalidName : Str} {N_InvalidName : Addr} {bs_InvalidName sb_InvalidName : List Value} {sn_InvalidName : List Str} {ab_InvalidName : Bool} {cl_InvalidName : Option Bool} {dd_InvalidName : Option Addr} {m0_InvalidName m1_InvalidName m2_InvalidName m3_InvalidName m5_InvalidName : Option Value}
    {nm_DoubleName q_DoubleName : Str} {N_DoubleName : Addr} {bs_DoubleName sb_DoubleName : List Value} {sn_DoubleName : List Str} {ab_DoubleName : Bool} {cl_DoubleName : Option Bool} {dd_DoubleName : Option Addr} {m0_DoubleName m1_DoubleName m2_DoubleName m3_DoubleName m5_DoubleName : Option Value}
    {nm_InvalidRule q_InvalidRule : Str} {N_InvalidRule : Addr} {bs_InvalidRule sb_InvalidRule : List Value} {sn_InvalidRule : List Str} {ab_InvalidRule : Bool} {cl_InvalidRule : Option Bool} {dd_InvalidRule : Option Addr} {m0_InvalidRule m1_InvalidRule m2_InvalidRule m3_InvalidRule m5_InvalidRule : Option Value}
    {nm_DoubleRule q_DoubleRule : Str} {N_DoubleRule : Addr} {bs_DoubleRule sb_DoubleRule : List Value} {sn_DoubleRule : List Str} {ab_DoubleRule : Bool} {cl_DoubleRule : Option Bool} {dd_DoubleRule : Option Addr} {m0_DoubleRule m1_DoubleRule m2_DoubleRule m3_DoubleRule m5_DoubleRule : Option Value}
    {nm_InvalidCrowd q_InvalidCrowd : Str} {N_InvalidCrowd : Addr} {bs_InvalidCrowd sb_InvalidCrowd : List Value} {sn_InvalidCrowd : List Str} {ab_InvalidCrowd : Bool} {cl_InvalidCrowd : Option Bool} {dd_InvalidCrowd : Option Addr} {m0_InvalidCrowd m1_InvalidCrowd m2_InvalidCrowd m3_InvalidCrowd m5_InvalidCrowd : Option Value}
    {nm_NotAble q_NotAble : Str} {N_NotAble : Addr} {bs_NotAble sb_NotAble : List Value} {sn_NotAble : List Str} {ab_NotAble : Bool} {cl_NotAble : Option Bool} {dd_NotAble : Option Addr} {m0_NotAble m1_NotAble m2_NotAble m3_NotAble m5_NotAble : Option Value}
    (m_CrowdError : PySem.W.nsIn K mainGlobals "CrowdError" = some (some (.ref C2)))
    (m_InvalidName : PySem.W.nsIn K mainGlobals "InvalidName" = some (some (.ref C8)))
    (m_DoubleName : PySem.W.nsIn K mainGlobals "DoubleName" = some (some (.ref C3)))
    (m_InvalidRule : PySem.W.nsIn K mainGlobals "InvalidRule" = some (some (.ref C9)))
    (m_DoubleRule : PySem.W.nsIn K mainGlobals "DoubleRule" = some (some (.ref C4)))
    (m_InvalidCrowd : PySem.W.nsIn K mainGlobals "InvalidCrowd" = some (some (.ref C7)))
    (m_NotAble : PySem.W.nsIn K mainGlobals "NotAble" = some (some (.ref C10)))
    (m_Book : PySem.W.nsIn K mainGlobals "Book" = some (some (.ref C0)))
    (n_range : PySem.W.nsIn K mainGlobals "range" = some none)
    (n_len : PySem.W.nsIn K mainGlobals "len" = some none)
    (n_max : PySem.W.nsIn K mainGlobals "max" = some none)
    (n_min : PySem.W.nsIn K mainGlobals "min" = some none)
    (n_abs : PySem.W.nsIn K mainGlobals "abs" = some none)
    (n_int : PySem.W.nsIn K mainGlobals "int" = some none)
    (n_list : PySem.W.nsIn K mainGlobals "list" = some none)
    (c_LETTERS : PySem.W.nsIn K mainGlobals "LETTERS" = some (some (.str "abcdefghijklmnopqrstuvwxyz" t_LETTERS)))
    (n_all : PySem.W.nsIn K mainGlobals "all" = some none)
    (n_any : PySem.W.nsIn K mainGlobals "any" = some none)
    (n_tuple : PySem.W.nsIn K mainGlobals "tuple" = some none)
    (n_sorted : PySem.W.nsIn K mainGlobals "sorted" = some none)
    (n_enumerate : PySem.W.nsIn K mainGlobals "enumerate" = some none)
    (n_repr : PySem.W.nsIn K mainGlobals "repr" = some none)
    (n_sum : PySem.W.nsIn K mainGlobals "sum" = some none)
    (n_isinstance : PySem.W.nsIn K mainGlobals "isinstance" = some none)
    (a__law_mill : PySem.W.nsIn K mainGlobals "_law_mill" = some (some (.ref f__law_mill)))
    (l__law_mill : K.lookup f__law_mill = some ⟨oc__law_mill, od__law_mill, .func (PySem.W.fnOf "_law_mill" "_law_mill" (defArgs s__law_mill) (defBody s__law_mill) (defScope s__law_mill) .none kV__law_mill dc__law_mill pm__law_mill an__law_mill cd__law_mill ct__law_mill), sl__law_mill⟩)
    (cd_law_mill : PySem.W.codeIn K cd__law_mill "_law_mill" = true)
    (k__law_mill : PySem.W.keepIn K (.ref f__law_mill) = true)
    (a__law_grind : PySem.W.nsIn K mainGlobals "_law_grind" = some (some (.ref f__law_grind)))
    (l__law_grind : K.lookup f__law_grind = some ⟨oc__law_grind, od__law_grind, .func (PySem.W.fnOf "_law_grind" "_law_grind" (defArgs s__law_grind) (defBody s__law_grind) (defScope s__law_grind) .none kV__law_grind dc__law_grind pm__law_grind an__law_grind cd__law_grind ct__law_grind), sl__law_grind⟩)
    (cd_law_grind : PySem.W.codeIn K cd__law_grind "_law_grind" = true)
    (k__law_grind : PySem.W.keepIn K (.ref f__law_grind) = true)
    (a__law_tribes : PySem.W.nsIn K mainGlobals "_law_tribes" = some (some (.ref f__law_tribes)))
    (l__law_tribes : K.lookup f__law_tribes = some ⟨oc__law_tribes, od__law_tribes, .func (PySem.W.fnOf "_law_tribes" "_law_tribes" (defArgs s__law_tribes) (defBody s__law_tribes) (defScope s__law_tribes) .none kV__law_tribes dc__law_tribes pm__law_tribes an__law_tribes cd__law_tribes ct__law_tribes), sl__law_tribes⟩)
    (cd_law_tribes : PySem.W.codeIn K cd__law_tribes "_law_tribes" = true)
    (k__law_tribes : PySem.W.keepIn K (.ref f__law_tribes) = true)
    (a__law_manual : PySem.W.nsIn K mainGlobals "_law_manual" = some (some (.ref f__law_manual)))
    (l__law_manual : K.lookup f__law_manual = some ⟨oc__law_manual, od__law_manual, .func (PySem.W.fnOf "_law_manual" "_law_manual" (defArgs s__law_manual) (defBody s__law_manual) (defScope s__law_manual) .none kV__law_manual dc__law_manual pm__law_manual an__law_manual cd__law_manual ct__law_manual), sl__law_manual⟩)
    (cd_law_manual : PySem.W.codeIn K cd__law_manual "_law_manual" = true)
    (k__law_manual : PySem.W.keepIn K (.ref f__law_manual) = true)
    (a_is_name : PySem.W.nsIn K mainGlobals "is_name" = some (some (.ref f_is_name)))
    (l_is_name : K.lookup f_is_name = some ⟨oc_is_name, od_is_name, .func (PySem.W.fnOf "is_name" "is_name" (defArgs s_is_name) (defBody s_is_name) (defScope s_is_name) .none kV_is_name dc_is_name pm_is_name an_is_name cd_is_name ct_is_name), sl_is_name⟩)
    (cdis_name : PySem.W.codeIn K cd_is_name "is_name" = true)
    (k_is_name : PySem.W.keepIn K (.ref f_is_name) = true)
    (a_check_kinds : PySem.W.nsIn K mainGlobals "check_kinds" = some (some (.ref f_check_kinds)))
    (l_check_kinds : K.lookup f_check_kinds = some ⟨oc_check_kinds, od_check_kinds, .func (PySem.W.fnOf "check_kinds" "check_kinds" (defArgs s_check_kinds) (defBody s_check_kinds) (defScope s_check_kinds) .none kV_check_kinds dc_check_kinds pm_check_kinds an_check_kinds cd_check_kinds ct_check_kinds), sl_check_kinds⟩)
    (cdcheck_kinds : PySem.W.codeIn K cd_check_kinds "check_kinds" = true)
    (k_check_kinds : PySem.W.keepIn K (.ref f_check_kinds) = true)
    (a_check_rule : PySem.W.nsIn K mainGlobals "check_rule" = some (some (.ref f_check_rule)))
    (l_check_rule : K.lookup f_check_rule = some ⟨oc_check_rule, od_check_rule, .func (PySem.W.fnOf "check_rule" "check_rule" (defArgs s_check_rule) (defBody s_check_rule) (defScope s_check_rule) .none kV_check_rule dc_check_rule pm_check_rule an_check_rule cd_check_rule ct_check_rule), sl_check_rule⟩)
    (cdcheck_rule : PySem.W.codeIn K cd_check_rule "check_rule" = true)
    (k_check_rule : PySem.W.keepIn K (.ref f_check_rule) = true)
    (a_Book_init : PySem.W.findIn K (.ref C0) "__init__" = some (some (.ref f_Book_init)))
    (l_Book_init : K.lookup f_Book_init = some ⟨oc_Book_init, od_Book_init, .func (PySem.W.fnOf "__init__" "Book.__init__" (defArgs s_Book_init) (defBody s_Book_init) (defScope s_Book_init) .none kV_Book_init dc_Book_init pm_Book_init an_Book_init cd_Book_init ct_Book_init), sl_Book_init⟩)
    (cdBook_init : PySem.W.codeIn K cd_Book_init "Book.__init__" = true)
    (k_Book_init : PySem.W.keepIn K (.ref f_Book_init) = true)
    (i_Book_init : PySem.W.isFn K (.ref f_Book_init) = true)
    (a__law_code : PySem.W.nsIn K mainGlobals "_law_code" = some (some (.ref f__law_code)))
    (l__law_code : K.lookup f__law_code = some ⟨oc__law_code, od__law_code, .func (PySem.W.fnOf "_law_code" "_law_code" (defArgs s__law_code) (defBody s__law_code) (defScope s__law_code) .none kV__law_code dc__law_code pm__law_code an__law_code cd__law_code ct__law_code), sl__law_code⟩)
    (cd_law_code : PySem.W.codeIn K cd__law_code "_law_code" = true)
    (k__law_code : PySem.W.keepIn K (.ref f__law_code) = true)
    (a__law_herd : PySem.W.nsIn K mainGlobals "_law_herd" = some (some (.ref f__law_herd)))
    (l__law_herd : K.lookup f__law_herd = some ⟨oc__law_herd, od__law_herd, .func (PySem.W.fnOf "_law_herd" "_law_herd" (defArgs s__law_herd) (defBody s__law_herd) (defScope s__law_herd) .none kV__law_herd dc__law_herd pm__law_herd an__law_herd cd__law_herd ct__law_herd), sl__law_herd⟩)
    (cd_law_herd : PySem.W.codeIn K cd__law_herd "_law_herd" = true)
    (k__law_herd : PySem.W.keepIn K (.ref f__law_herd) = true)
    (a__law_ranked : PySem.W.nsIn K mainGlobals "_law_ranked" = some (some (.ref f__law_ranked)))
    (l__law_ranked : K.lookup f__law_ranked = some ⟨oc__law_ranked, od__law_ranked, .func (PySem.W.fnOf "_law_ranked" "_law_ranked" (defArgs s__law_ranked) (defBody s__law_ranked) (defScope s__law_ranked) .none kV__law_ranked dc__law_ranked pm__law_ranked an__law_ranked cd__law_ranked ct__law_ranked), sl__law_ranked⟩)
    (cd_law_ranked : PySem.W.codeIn K cd__law_ranked "_law_ranked" = true)
    (k__law_ranked : PySem.W.keepIn K (.ref f__law_ranked) = true)
    (a__law_turned_to : PySem.W.nsIn K mainGlobals "_law_turned_to" = some (some (.ref f__law_turned_to)))
    (l__law_turned_to : K.lookup f__law_turned_to = some ⟨oc__law_turned_to, od__law_turned_to, .func (PySem.W.fnOf "_law_turned_to" "_law_turned_to" (defArgs s__law_turned_to) (defBody s__law_turned_to) (defScope s__law_turned_to) .none kV__law_turned_to dc__law_turned_to pm__law_turned_to an__law_turned_to cd__law_turned_to ct__law_turned_to), sl__law_turned_to⟩)
    (cd_law_turned_to : PySem.W.codeIn K cd__law_turned_to "_law_turned_to" = true)
    (k__law_turned_to : PySem.W.keepIn K (.ref f__law_turned_to) = true)
    (a_check_crowd : PySem.W.nsIn K mainGlobals "check_crowd" = some (some (.ref f_check_crowd)))
    (l_check_crowd : K.lookup f_check_crowd = some ⟨oc_check_crowd, od_check_crowd, .func (PySem.W.fnOf "check_crowd" "check_crowd" (defArgs s_check_crowd) (defBody s_check_crowd) (defScope s_check_crowd) .none kV_check_crowd dc_check_crowd pm_check_crowd an_check_crowd cd_check_crowd ct_check_crowd), sl_check_crowd⟩)
    (cdcheck_crowd : PySem.W.codeIn K cd_check_crowd "check_crowd" = true)
    (k_check_crowd : PySem.W.keepIn K (.ref f_check_crowd) = true)
    (a_moved : PySem.W.nsIn K mainGlobals "moved" = some (some (.ref f_moved)))
    (l_moved : K.lookup f_moved = some ⟨oc_moved, od_moved, .func (PySem.W.fnOf "moved" "moved" (defArgs s_moved) (defBody s_moved) (defScope s_moved) .none kV_moved dc_moved pm_moved an_moved cd_moved ct_moved), sl_moved⟩)
    (cdmoved : PySem.W.codeIn K cd_moved "moved" = true)
    (k_moved : PySem.W.keepIn K (.ref f_moved) = true)
    (a_places_of : PySem.W.nsIn K mainGlobals "places_of" = some (some (.ref f_places_of)))
    (l_places_of : K.lookup f_places_of = some ⟨oc_places_of, od_places_of, .func (PySem.W.fnOf "places_of" "places_of" (defArgs s_places_of) (defBody s_places_of) (defScope s_places_of) .none kV_places_of dc_places_of pm_places_of an_places_of cd_places_of ct_places_of), sl_places_of⟩)
    (cdplaces_of : PySem.W.codeIn K cd_places_of "places_of" = true)
    (k_places_of : PySem.W.keepIn K (.ref f_places_of) = true)
    (a_can_do : PySem.W.nsIn K mainGlobals "can_do" = some (some (.ref f_can_do)))
    (l_can_do : K.lookup f_can_do = some ⟨oc_can_do, od_can_do, .func (PySem.W.fnOf "can_do" "can_do" (defArgs s_can_do) (defBody s_can_do) (defScope s_can_do) .none kV_can_do dc_can_do pm_can_do an_can_do cd_can_do ct_can_do), sl_can_do⟩)
    (cdcan_do : PySem.W.codeIn K cd_can_do "can_do" = true)
    (k_can_do : PySem.W.keepIn K (.ref f_can_do) = true)
    (a_done : PySem.W.nsIn K mainGlobals "done" = some (some (.ref f_done)))
    (l_done : K.lookup f_done = some ⟨oc_done, od_done, .func (PySem.W.fnOf "done" "done" (defArgs s_done) (defBody s_done) (defScope s_done) .none kV_done dc_done pm_done an_done cd_done ct_done), sl_done⟩)
    (cddone : PySem.W.codeIn K cd_done "done" = true)
    (k_done : PySem.W.keepIn K (.ref f_done) = true)
    (a__law_grown_right : PySem.W.nsIn K mainGlobals "_law_grown_right" = some (some (.ref f__law_grown_right)))
    (l__law_grown_right : K.lookup f__law_grown_right = some ⟨oc__law_grown_right, od__law_grown_right, .func (PySem.W.fnOf "_law_grown_right" "_law_grown_right" (defArgs s__law_grown_right) (defBody s__law_grown_right) (defScope s__law_grown_right) .none kV__law_grown_right dc__law_grown_right pm__law_grown_right an__law_grown_right cd__law_grown_right ct__law_grown_right), sl__law_grown_right⟩)
    (cd_law_grown_right : PySem.W.codeIn K cd__law_grown_right "_law_grown_right" = true)
    (k__law_grown_right : PySem.W.keepIn K (.ref f__law_grown_right) = true)
    (a_Book_eq : PySem.W.findIn K (.ref C0) "__eq__" = some (some (.ref f_Book_eq)))
    (l_Book_eq : K.lookup f_Book_eq = some ⟨oc_Book_eq, od_Book_eq, .func (PySem.W.fnOf "__eq__" "Book.__eq__" (defArgs s_Book_eq) (defBody s_Book_eq) (defScope s_Book_eq) .none kV_Book_eq dc_Book_eq pm_Book_eq an_Book_eq cd_Book_eq ct_Book_eq), sl_Book_eq⟩)
    (cdBook_eq : PySem.W.codeIn K cd_Book_eq "Book.__eq__" = true)
    (k_Book_eq : PySem.W.keepIn K (.ref f_Book_eq) = true)
    (i_Book_eq : PySem.W.isFn K (.ref f_Book_eq) = true)
    (a__law_right : PySem.W.nsIn K mainGlobals "_law_right" = some (some (.ref f__law_right)))
    (l__law_right : K.lookup f__law_right = some ⟨oc__law_right, od__law_right, .func (PySem.W.fnOf "_law_right" "_law_right" (defArgs s__law_right) (defBody s__law_right) (defScope s__law_right) .none kV__law_right dc__law_right pm__law_right an__law_right cd__law_right ct__law_right), sl__law_right⟩)
    (cd_law_right : PySem.W.codeIn K cd__law_right "_law_right" = true)
    (k__law_right : PySem.W.keepIn K (.ref f__law_right) = true)
    (a_law : PySem.W.nsIn K mainGlobals "law" = some (some (.ref f_law)))
    (l_law : K.lookup f_law = some ⟨oc_law, od_law, .func (PySem.W.fnOf "law" "law" (defArgs s_law) (defBody s_law) (defScope s_law) .none kV_law dc_law pm_law an_law cd_law ct_law), sl_law⟩)
    (cdlaw : PySem.W.codeIn K cd_law "law" = true)
    (k_law : PySem.W.keepIn K (.ref f_law) = true)
    (pg_Book : PySem.W.plainGet K C0 Str.empty = true)
    (hd_Book : PySem.W.hasDictIn K C0 = true)
    (po_Book : PySem.W.plainOver K C0 = true)
    (sa_Book : PySem.W.findIn K (.ref C0) "__setattr__" = some (some (.builtin "object.__setattr__")))
    (mk_Book : PySem.W.makesIn K C0 = true)
    (kc_Book : PySem.W.keepIn K (.ref C0) = true)
    (na_Book_kept_kinds : PySem.W.findIn K (.ref C0) "kept_kinds" = some none)
    (na_Book_kept_rules : PySem.W.findIn K (.ref C0) "kept_rules" = some none)
    (ia_Book : PySem.W.findIn K (.ref C0) "__class__" = some (some (.builtin "object.__class__")))
    (im_Book : PySem.W.mroIn K C0 (.type "object") = some true)
    (sp_class : PySem.W.specialIn K (.builtin "object.__class__") "__get__" = some (some (.builtin "getset_descriptor.__get__")))
    (tk_class : PySem.W.takesIn K (.builtin "object.__class__") = some true)
    (e_CrowdError : PySem.W.findIn K (.ref C2) "__init__" = some (some (.ref f_err)))
    (l_err : K.lookup f_err = some ⟨oc_err, od_err, .func (PySem.W.fnOf "__init__" "CrowdError.__init__" (defArgs s_err) (defBody s_err) (defScope s_err) .none kV_err dc_err pm_err an_err cd_err ct_err), sl_err⟩)
    (cderr : PySem.W.codeIn K cd_err "CrowdError.__init__" = true)
    (k_err : PySem.W.keepIn K (.ref f_err) = true)
    (ty_err : PySem.W.typeIn K (.ref f_err) = some (.type "function"))
    (x_CrowdError : K.lookup C2 = some (excClassObj nm_CrowdError q_CrowdError C2 N_CrowdError bs_CrowdError [.type "ValueError", .type "Exception", .type "BaseException", .type "object"] true sn_CrowdError sb_CrowdError ab_CrowdError cl_CrowdError dd_CrowdError m0_CrowdError m1_CrowdError m2_CrowdError m3_CrowdError m5_CrowdError "ValueError.__new__"))
    (xs_CrowdError : PySem.W.findIn K (.ref C2) "__setattr__" = some (some (.builtin "object.__setattr__")))
    (xe_CrowdError : PySem.W.subIn K (.ref C2) (.type "BaseException") = some true)
    (xt_CrowdError : PySem.W.typeIn K (.ref C2) = some (.type "type"))
    (xk_CrowdError : PySem.W.keepIn K (.ref C2) = true)
    (xv_CrowdError : PySem.W.findIn K (.ref C2) "value" = some none)
    (x_InvalidName : K.lookup C8 = some (excClassObj nm_InvalidName q_InvalidName C8 N_InvalidName bs_InvalidName [.ref C2, .type "ValueError", .type "Exception", .type "BaseException", .type "object"] true sn_InvalidName sb_InvalidName ab_InvalidName cl_InvalidName dd_InvalidName m0_InvalidName m1_InvalidName m2_InvalidName m3_InvalidName m5_InvalidName "ValueError.__new__"))
    (xs_InvalidName : PySem.W.findIn K (.ref C8) "__setattr__" = some (some (.builtin "object.__setattr__")))
    (xe_InvalidName : PySem.W.subIn K (.ref C8) (.type "BaseException") = some true)
    (xt_InvalidName : PySem.W.typeIn K (.ref C8) = some (.type "type"))
    (xk_InvalidName : PySem.W.keepIn K (.ref C8) = true)
    (xv_InvalidName : PySem.W.findIn K (.ref C8) "value" = some none)
    (e_InvalidName : PySem.W.findIn K (.ref C8) "__init__" = some (some (.ref f_err)))
    (x_DoubleName : K.lookup C3 = some (excClassObj nm_DoubleName q_DoubleName C3 N_DoubleName bs_DoubleName [.ref C2, .type "ValueError", .type "Exception", .type "BaseException", .type "object"] true sn_DoubleName sb_DoubleName ab_DoubleName cl_DoubleName dd_DoubleName m0_DoubleName m1_DoubleName m2_DoubleName m3_DoubleName m5_DoubleName "ValueError.__new__"))
    (xs_DoubleName : PySem.W.findIn K (.ref C3) "__setattr__" = some (some (.builtin "object.__setattr__")))
    (xe_DoubleName : PySem.W.subIn K (.ref C3) (.type "BaseException") = some true)
    (xt_DoubleName : PySem.W.typeIn K (.ref C3) = some (.type "type"))
    (xk_DoubleName : PySem.W.keepIn K (.ref C3) = true)
    (xv_DoubleName : PySem.W.findIn K (.ref C3) "value" = some none)
    (e_DoubleName : PySem.W.findIn K (.ref C3) "__init__" = some (some (.ref f_err)))
    (x_InvalidRule : K.lookup C9 = some (excClassObj nm_InvalidRule q_InvalidRule C9 N_InvalidRule bs_InvalidRule [.ref C2, .type "ValueError", .type "Exception", .type "BaseException", .type "object"] true sn_InvalidRule sb_InvalidRule ab_InvalidRule cl_InvalidRule dd_InvalidRule m0_InvalidRule m1_InvalidRule m2_InvalidRule m3_InvalidRule m5_InvalidRule "ValueError.__new__"))
    (xs_InvalidRule : PySem.W.findIn K (.ref C9) "__setattr__" = some (some (.builtin "object.__setattr__")))
    (xe_InvalidRule : PySem.W.subIn K (.ref C9) (.type "BaseException") = some true)
    (xt_InvalidRule : PySem.W.typeIn K (.ref C9) = some (.type "type"))
    (xk_InvalidRule : PySem.W.keepIn K (.ref C9) = true)
    (xv_InvalidRule : PySem.W.findIn K (.ref C9) "value" = some none)
    (e_InvalidRule : PySem.W.findIn K (.ref C9) "__init__" = some (some (.ref f_err)))
    (x_DoubleRule : K.lookup C4 = some (excClassObj nm_DoubleRule q_DoubleRule C4 N_DoubleRule bs_DoubleRule [.ref C2, .type "ValueError", .type "Exception", .type "BaseException", .type "object"] true sn_DoubleRule sb_DoubleRule ab_DoubleRule cl_DoubleRule dd_DoubleRule m0_DoubleRule m1_DoubleRule m2_DoubleRule m3_DoubleRule m5_DoubleRule "ValueError.__new__"))
    (xs_DoubleRule : PySem.W.findIn K (.ref C4) "__setattr__" = some (some (.builtin "object.__setattr__")))
    (xe_DoubleRule : PySem.W.subIn K (.ref C4) (.type "BaseException") = some true)
    (xt_DoubleRule : PySem.W.typeIn K (.ref C4) = some (.type "type"))
    (xk_DoubleRule : PySem.W.keepIn K (.ref C4) = true)
    (xv_DoubleRule : PySem.W.findIn K (.ref C4) "value" = some none)
    (e_DoubleRule : PySem.W.findIn K (.ref C4) "__init__" = some (some (.ref f_err)))
    (x_InvalidCrowd : K.lookup C7 = some (excClassObj nm_InvalidCrowd q_InvalidCrowd C7 N_InvalidCrowd bs_InvalidCrowd [.ref C2, .type "ValueError", .type "Exception", .type "BaseException", .type "object"] true sn_InvalidCrowd sb_InvalidCrowd ab_InvalidCrowd cl_InvalidCrowd dd_InvalidCrowd m0_InvalidCrowd m1_InvalidCrowd m2_InvalidCrowd m3_InvalidCrowd m5_InvalidCrowd "ValueError.__new__"))
    (xs_InvalidCrowd : PySem.W.findIn K (.ref C7) "__setattr__" = some (some (.builtin "object.__setattr__")))
    (xe_InvalidCrowd : PySem.W.subIn K (.ref C7) (.type "BaseException") = some true)
    (xt_InvalidCrowd : PySem.W.typeIn K (.ref C7) = some (.type "type"))
    (xk_InvalidCrowd : PySem.W.keepIn K (.ref C7) = true)
    (xv_InvalidCrowd : PySem.W.findIn K (.ref C7) "value" = some none)
    (e_InvalidCrowd : PySem.W.findIn K (.ref C7) "__init__" = some (some (.ref f_err)))
    (x_NotAble : K.lookup C10 = some (excClassObj nm_NotAble q_NotAble C10 N_NotAble bs_NotAble [.ref C2, .type "ValueError", .type "Exception", .type "BaseException", .type "object"] true sn_NotAble sb_NotAble ab_NotAble cl_NotAble dd_NotAble m0_NotAble m1_NotAble m2_NotAble m3_NotAble m5_NotAble "ValueError.__new__"))
    (xs_NotAble : PySem.W.findIn K (.ref C10) "__setattr__" = some (some (.builtin "object.__setattr__")))
    (xe_NotAble : PySem.W.subIn K (.ref C10) (.type "BaseException") = some true)
    (xt_NotAble : PySem.W.typeIn K (.ref C10) = some (.type "type"))
    (xk_NotAble : PySem.W.keepIn K (.ref C10) = true)
    (xv_NotAble : PySem.W.findIn K (.ref C10) "value" = some none)
    (e_NotAble : PySem.W.findIn K (.ref C10) "__init__" = some (some (.ref f_err)))
    : ∃ (γ : Nat → Addr) (fd : FuncData), (∀ (s : Shared) (v : Value), BindsTo s fd ⟨[v], []⟩ [("script", v)]) ∧ ∀ base : Heap, K.In base → base.Ns mainGlobals mg → FnG P w K mg base 8 fa fd ["script"] (spD ⟨K, γ⟩ 1 DL.m_law) := by
  have e := hfa.symm.trans (PySem.W.mg_of X G a_law)
  cases e
  refine ⟨gam C2 C8 C3 C9 C4 C7 C10 C0, PySem.W.fnOf "law" "law" (defArgs s_law) (defBody s_law) (defScope s_law) .none kV_law dc_law pm_law an_law cd_law ct_law, fun s v => .of_eq rfl, fun base _ _ => ?_⟩
  have T : Txt K mg (gam C2 C8 C3 C9 C4 C7 C10 C0) := {
    n_range := PySem.W.mg_none_of X G n_range,
    n_len := PySem.W.mg_none_of X G n_len,
    n_max := PySem.W.mg_none_of X G n_max,
    n_min := PySem.W.mg_none_of X G n_min,
    n_abs := PySem.W.mg_none_of X G n_abs,
    n_int := PySem.W.mg_none_of X G n_int,
    n_list := PySem.W.mg_none_of X G n_list,
    k_LETTERS := ⟨_, PySem.W.mg_of X G c_LETTERS⟩,
    n_all := PySem.W.mg_none_of X G n_all,
    n_any := PySem.W.mg_none_of X G n_any,
    c_Book := ⟨pg_Book, hd_Book, po_Book, sa_Book⟩,
    a_Book_kept_kinds := na_Book_kept_kinds,
    n_tuple := PySem.W.mg_none_of X G n_tuple,
    n_sorted := PySem.W.mg_none_of X G n_sorted,
    a_Book_kept_rules := na_Book_kept_rules,
    n_enumerate := PySem.W.mg_none_of X G n_enumerate,
    n_repr := PySem.W.mg_none_of X G n_repr,
    n_sum := PySem.W.mg_none_of X G n_sum,
    n_isinstance := PySem.W.mg_none_of X G n_isinstance,
    i_Book := ⟨⟨pg_Book, hd_Book, po_Book, sa_Book⟩, ia_Book, sp_class, tk_class, im_Book⟩,
    m_Book := PySem.W.mg_of X G m_Book }
  have ie : FnOk P w K mg base CX0 1 f_err _ ["self", "value"] (spErr K) := err_init (fun_mk (st := s_err) l_err cderr k_err) ⟨rfl, rfl, rfl, by decide +kernel, rfl, by decide +kernel, by decide +kernel⟩ rfl (Or.inl rfl) (Or.inl rfl)
  have be := (fun_mk (st := s_err) l_err cderr k_err).binds (ps := ["self", "value"]) fun _ _ _ _ _ _ us hl => match us, hl with | [_, _], _ => rfl
  have r_CrowdError : Rai (gam C2 C8 C3 C9 C4 C7 C10 C0) P w K mg base "CrowdError" 2 1 := ⟨PySem.W.mg_of X G m_CrowdError, ⟨⟨_, _, _, _, _, _, _, _, _, _, _, _, _, _, _, x_CrowdError, by first | decide +kernel | rfl⟩, xs_CrowdError, xe_CrowdError, xt_CrowdError, xk_CrowdError⟩, xv_CrowdError, _, _, _, e_CrowdError, ty_err, ie, be⟩
  have r_InvalidName : Rai (gam C2 C8 C3 C9 C4 C7 C10 C0) P w K mg base "InvalidName" 8 1 := ⟨PySem.W.mg_of X G m_InvalidName, ⟨⟨_, _, _, _, _, _, _, _, _, _, _, _, _, _, _, x_InvalidName, by first | decide +kernel | rfl⟩, xs_InvalidName, xe_InvalidName, xt_InvalidName, xk_InvalidName⟩, xv_InvalidName, _, _, _, e_InvalidName, ty_err, ie, be⟩
  have r_DoubleName : Rai (gam C2 C8 C3 C9 C4 C7 C10 C0) P w K mg base "DoubleName" 3 1 := ⟨PySem.W.mg_of X G m_DoubleName, ⟨⟨_, _, _, _, _, _, _, _, _, _, _, _, _, _, _, x_DoubleName, by first | decide +kernel | rfl⟩, xs_DoubleName, xe_DoubleName, xt_DoubleName, xk_DoubleName⟩, xv_DoubleName, _, _, _, e_DoubleName, ty_err, ie, be⟩
  have r_InvalidRule : Rai (gam C2 C8 C3 C9 C4 C7 C10 C0) P w K mg base "InvalidRule" 9 1 := ⟨PySem.W.mg_of X G m_InvalidRule, ⟨⟨_, _, _, _, _, _, _, _, _, _, _, _, _, _, _, x_InvalidRule, by first | decide +kernel | rfl⟩, xs_InvalidRule, xe_InvalidRule, xt_InvalidRule, xk_InvalidRule⟩, xv_InvalidRule, _, _, _, e_InvalidRule, ty_err, ie, be⟩
  have r_DoubleRule : Rai (gam C2 C8 C3 C9 C4 C7 C10 C0) P w K mg base "DoubleRule" 4 1 := ⟨PySem.W.mg_of X G m_DoubleRule, ⟨⟨_, _, _, _, _, _, _, _, _, _, _, _, _, _, _, x_DoubleRule, by first | decide +kernel | rfl⟩, xs_DoubleRule, xe_DoubleRule, xt_DoubleRule, xk_DoubleRule⟩, xv_DoubleRule, _, _, _, e_DoubleRule, ty_err, ie, be⟩
  have r_InvalidCrowd : Rai (gam C2 C8 C3 C9 C4 C7 C10 C0) P w K mg base "InvalidCrowd" 7 1 := ⟨PySem.W.mg_of X G m_InvalidCrowd, ⟨⟨_, _, _, _, _, _, _, _, _, _, _, _, _, _, _, x_InvalidCrowd, by first | decide +kernel | rfl⟩, xs_InvalidCrowd, xe_InvalidCrowd, xt_InvalidCrowd, xk_InvalidCrowd⟩, xv_InvalidCrowd, _, _, _, e_InvalidCrowd, ty_err, ie, be⟩
  have r_NotAble : Rai (gam C2 C8 C3 C9 C4 C7 C10 C0) P w K mg base "NotAble" 10 1 := ⟨PySem.W.mg_of X G m_NotAble, ⟨⟨_, _, _, _, _, _, _, _, _, _, _, _, _, _, _, x_NotAble, by first | decide +kernel | rfl⟩, xs_NotAble, xe_NotAble, xt_NotAble, xk_NotAble⟩, xv_NotAble, _, _, _, e_NotAble, ty_err, ie, be⟩
  have F__law_mill := fun_mk (st := s__law_mill) l__law_mill cd_law_mill k__law_mill
  have b__law_mill := F__law_mill.binds (ps := ["script", "place"]) fun _ _ _ _ _ _ us hl => match us, hl with | [_, _], _ => rfl
  have M__law_mill : FnG P w K mg base 1 f__law_mill _ ["script", "place"] (spD ⟨K, (gam C2 C8 C3 C9 C4 C7 C10 C0)⟩ 2 DL.m__law_mill) := ((ok__law_mill (P := P) (w := w) (base := base) T  F__law_mill)).told le__law_mill
  have h__law_mill : Cal (gam C2 C8 C3 C9 C4 C7 C10 C0) P w K mg base "_law_mill" 1 2 DL.m__law_mill := .fn M__law_mill (PySem.W.mg_of X G a__law_mill) k__law_mill b__law_mill
  have F__law_grind := fun_mk (st := s__law_grind) l__law_grind cd_law_grind k__law_grind
  have b__law_grind := F__law_grind.binds (ps := ["mill", "count"]) fun _ _ _ _ _ _ us hl => match us, hl with | [_, _], _ => rfl
  have M__law_grind : FnG P w K mg base 1 f__law_grind _ ["mill", "count"] (spD ⟨K, (gam C2 C8 C3 C9 C4 C7 C10 C0)⟩ 2 DL.m__law_grind) := ((ok__law_grind (P := P) (w := w) (base := base) T  F__law_grind)).told le__law_grind
  have h__law_grind : Cal (gam C2 C8 C3 C9 C4 C7 C10 C0) P w K mg base "_law_grind" 1 2 DL.m__law_grind := .fn M__law_grind (PySem.W.mg_of X G a__law_grind) k__law_grind b__law_grind
  have F__law_tribes := fun_mk (st := s__law_tribes) l__law_tribes cd_law_tribes k__law_tribes
  have b__law_tribes := F__law_tribes.binds (ps := ["mill", "count"]) fun _ _ _ _ _ _ us hl => match us, hl with | [_, _], _ => rfl
  have M__law_tribes : FnG P w K mg base 2 f__law_tribes _ ["mill", "count"] (spD ⟨K, (gam C2 C8 C3 C9 C4 C7 C10 C0)⟩ 2 DL.m__law_tribes) := ((ok__law_tribes (P := P) (w := w) (base := base) T h__law_grind F__law_tribes)).told le__law_tribes
  have h__law_tribes : Cal (gam C2 C8 C3 C9 C4 C7 C10 C0) P w K mg base "_law_tribes" 2 2 DL.m__law_tribes := .fn M__law_tribes (PySem.W.mg_of X G a__law_tribes) k__law_tribes b__law_tribes
  have F__law_manual := fun_mk (st := s__law_manual) l__law_manual cd_law_manual k__law_manual
  have b__law_manual := F__law_manual.binds (ps := ["mill", "most", "count"]) fun _ _ _ _ _ _ us hl => match us, hl with | [_, _, _], _ => rfl
  have M__law_manual : FnG P w K mg base 3 f__law_manual _ ["mill", "most", "count"] (spD ⟨K, (gam C2 C8 C3 C9 C4 C7 C10 C0)⟩ 3 DL.m__law_manual) := ((ok__law_manual (P := P) (w := w) (base := base) T h__law_tribes h__law_grind F__law_manual)).told le__law_manual
  have h__law_manual : Cal (gam C2 C8 C3 C9 C4 C7 C10 C0) P w K mg base "_law_manual" 3 3 DL.m__law_manual := .fn M__law_manual (PySem.W.mg_of X G a__law_manual) k__law_manual b__law_manual
  have F_is_name := fun_mk (st := s_is_name) l_is_name cdis_name k_is_name
  have b_is_name := F_is_name.binds (ps := ["name"]) fun _ _ _ _ _ _ us hl => match us, hl with | [_], _ => rfl
  have M_is_name : FnG P w K mg base 1 f_is_name _ ["name"] (spD ⟨K, (gam C2 C8 C3 C9 C4 C7 C10 C0)⟩ 1 DL.m_is_name) := ((ok_is_name (P := P) (w := w) (base := base) T  F_is_name)).told le_is_name
  have h_is_name : Cal (gam C2 C8 C3 C9 C4 C7 C10 C0) P w K mg base "is_name" 1 1 DL.m_is_name := .fn M_is_name (PySem.W.mg_of X G a_is_name) k_is_name b_is_name
  have F_check_kinds := fun_mk (st := s_check_kinds) l_check_kinds cdcheck_kinds k_check_kinds
  have b_check_kinds := F_check_kinds.binds (ps := ["names"]) fun _ _ _ _ _ _ us hl => match us, hl with | [_], _ => rfl
  have M_check_kinds : FnG P w K mg base 3 f_check_kinds _ ["names"] (spD ⟨K, (gam C2 C8 C3 C9 C4 C7 C10 C0)⟩ 1 DL.m_check_kinds) := ((ok_check_kinds (P := P) (w := w) (base := base) T h_is_name r_InvalidName r_DoubleName F_check_kinds)).told le_check_kinds
  have h_check_kinds : Cal (gam C2 C8 C3 C9 C4 C7 C10 C0) P w K mg base "check_kinds" 3 1 DL.m_check_kinds := .fn M_check_kinds (PySem.W.mg_of X G a_check_kinds) k_check_kinds b_check_kinds
  have F_check_rule := fun_mk (st := s_check_rule) l_check_rule cdcheck_rule k_check_rule
  have b_check_rule := F_check_rule.binds (ps := ["names", "rule"]) fun _ _ _ _ _ _ us hl => match us, hl with | [_, _], _ => rfl
  have M_check_rule : FnG P w K mg base 3 f_check_rule _ ["names", "rule"] (spD ⟨K, (gam C2 C8 C3 C9 C4 C7 C10 C0)⟩ 2 DL.m_check_rule) := ((ok_check_rule (P := P) (w := w) (base := base) T r_InvalidRule F_check_rule)).told le_check_rule
  have h_check_rule : Cal (gam C2 C8 C3 C9 C4 C7 C10 C0) P w K mg base "check_rule" 3 2 DL.m_check_rule := .fn M_check_rule (PySem.W.mg_of X G a_check_rule) k_check_rule b_check_rule
  have F_Book_init := fun_mk (st := s_Book_init) l_Book_init cdBook_init k_Book_init
  have b_Book_init := F_Book_init.binds (ps := ["self", "kinds", "rules"]) fun _ _ _ _ _ _ us hl => match us, hl with | [_, _, _], _ => rfl
  have M_Book_init : FnG P w K mg base 4 f_Book_init _ ["self", "kinds", "rules"] (spD ⟨K, (gam C2 C8 C3 C9 C4 C7 C10 C0)⟩ 3 DL.m_Book_init) := ((ok_Book_init (P := P) (w := w) (base := base) T h_check_kinds h_check_rule r_DoubleRule F_Book_init)).told le_Book_init
  have h_Book : Cal (gam C2 C8 C3 C9 C4 C7 C10 C0) P w K mg base "Book" 5 2 DL.m_Book := (Cal.make (c := 0) ⟨mk_Book, a_Book_init, i_Book_init, kc_Book⟩ M_Book_init (PySem.W.mg_of X G m_Book) b_Book_init).told le_Book
  have F__law_code := fun_mk (st := s__law_code) l__law_code cd_law_code k__law_code
  have b__law_code := F__law_code.binds (ps := ["plan"]) fun _ _ _ _ _ _ us hl => match us, hl with | [_], _ => rfl
  have M__law_code : FnG P w K mg base 6 f__law_code _ ["plan"] (spD ⟨K, (gam C2 C8 C3 C9 C4 C7 C10 C0)⟩ 1 DL.m__law_code) := ((ok__law_code (P := P) (w := w) (base := base) T h_Book F__law_code)).told le__law_code
  have h__law_code : Cal (gam C2 C8 C3 C9 C4 C7 C10 C0) P w K mg base "_law_code" 6 1 DL.m__law_code := .fn M__law_code (PySem.W.mg_of X G a__law_code) k__law_code b__law_code
  have F__law_herd := fun_mk (st := s__law_herd) l__law_herd cd_law_herd k__law_herd
  have b__law_herd := F__law_herd.binds (ps := ["mill", "count", "most"]) fun _ _ _ _ _ _ us hl => match us, hl with | [_, _, _], _ => rfl
  have M__law_herd : FnG P w K mg base 2 f__law_herd _ ["mill", "count", "most"] (spD ⟨K, (gam C2 C8 C3 C9 C4 C7 C10 C0)⟩ 3 DL.m__law_herd) := ((ok__law_herd (P := P) (w := w) (base := base) T h__law_grind F__law_herd)).told le__law_herd
  have h__law_herd : Cal (gam C2 C8 C3 C9 C4 C7 C10 C0) P w K mg base "_law_herd" 2 3 DL.m__law_herd := .fn M__law_herd (PySem.W.mg_of X G a__law_herd) k__law_herd b__law_herd
  have F__law_ranked := fun_mk (st := s__law_ranked) l__law_ranked cd_law_ranked k__law_ranked
  have b__law_ranked := F__law_ranked.binds (ps := ["plan"]) fun _ _ _ _ _ _ us hl => match us, hl with | [_], _ => rfl
  have M__law_ranked : FnG P w K mg base 1 f__law_ranked _ ["plan"] (spD ⟨K, (gam C2 C8 C3 C9 C4 C7 C10 C0)⟩ 1 DL.m__law_ranked) := ((ok__law_ranked (P := P) (w := w) (base := base) T  F__law_ranked)).told le__law_ranked
  have h__law_ranked : Cal (gam C2 C8 C3 C9 C4 C7 C10 C0) P w K mg base "_law_ranked" 1 1 DL.m__law_ranked := .fn M__law_ranked (PySem.W.mg_of X G a__law_ranked) k__law_ranked b__law_ranked
  have F__law_turned_to := fun_mk (st := s__law_turned_to) l__law_turned_to cd_law_turned_to k__law_turned_to
  have b__law_turned_to := F__law_turned_to.binds (ps := ["plan", "herd", "rule_here"]) fun _ _ _ _ _ _ us hl => match us, hl with | [_, _, _], _ => rfl
  have M__law_turned_to : FnG P w K mg base 1 f__law_turned_to _ ["plan", "herd", "rule_here"] (spD ⟨K, (gam C2 C8 C3 C9 C4 C7 C10 C0)⟩ 3 DL.m__law_turned_to) := ((ok__law_turned_to (P := P) (w := w) (base := base) T  F__law_turned_to)).told le__law_turned_to
  have h__law_turned_to : Cal (gam C2 C8 C3 C9 C4 C7 C10 C0) P w K mg base "_law_turned_to" 1 3 DL.m__law_turned_to := .fn M__law_turned_to (PySem.W.mg_of X G a__law_turned_to) k__law_turned_to b__law_turned_to
  have F_check_crowd := fun_mk (st := s_check_crowd) l_check_crowd cdcheck_crowd k_check_crowd
  have b_check_crowd := F_check_crowd.binds (ps := ["many", "crowd"]) fun _ _ _ _ _ _ us hl => match us, hl with | [_, _], _ => rfl
  have M_check_crowd : FnG P w K mg base 3 f_check_crowd _ ["many", "crowd"] (spD ⟨K, (gam C2 C8 C3 C9 C4 C7 C10 C0)⟩ 2 DL.m_check_crowd) := ((ok_check_crowd (P := P) (w := w) (base := base) T r_InvalidCrowd F_check_crowd)).told le_check_crowd
  have h_check_crowd : Cal (gam C2 C8 C3 C9 C4 C7 C10 C0) P w K mg base "check_crowd" 3 2 DL.m_check_crowd := .fn M_check_crowd (PySem.W.mg_of X G a_check_crowd) k_check_crowd b_check_crowd
  have F_moved := fun_mk (st := s_moved) l_moved cdmoved k_moved
  have b_moved := F_moved.binds (ps := ["crowd", "places"]) fun _ _ _ _ _ _ us hl => match us, hl with | [_, _], _ => rfl
  have M_moved : FnG P w K mg base 1 f_moved _ ["crowd", "places"] (spD ⟨K, (gam C2 C8 C3 C9 C4 C7 C10 C0)⟩ 2 DL.m_moved) := ((ok_moved (P := P) (w := w) (base := base) T  F_moved)).told le_moved
  have h_moved : Cal (gam C2 C8 C3 C9 C4 C7 C10 C0) P w K mg base "moved" 1 2 DL.m_moved := .fn M_moved (PySem.W.mg_of X G a_moved) k_moved b_moved
  have F_places_of := fun_mk (st := s_places_of) l_places_of cdplaces_of k_places_of
  have b_places_of := F_places_of.binds (ps := ["book", "rule"]) fun _ _ _ _ _ _ us hl => match us, hl with | [_, _], _ => rfl
  have M_places_of : FnG P w K mg base 1 f_places_of _ ["book", "rule"] (spD ⟨K, (gam C2 C8 C3 C9 C4 C7 C10 C0)⟩ 2 DL.m_places_of) := ((ok_places_of (P := P) (w := w) (base := base) T  F_places_of)).told le_places_of
  have h_places_of : Cal (gam C2 C8 C3 C9 C4 C7 C10 C0) P w K mg base "places_of" 1 2 DL.m_places_of := .fn M_places_of (PySem.W.mg_of X G a_places_of) k_places_of b_places_of
  have F_can_do := fun_mk (st := s_can_do) l_can_do cdcan_do k_can_do
  have b_can_do := F_can_do.binds (ps := ["book", "crowd"]) fun _ _ _ _ _ _ us hl => match us, hl with | [_, _], _ => rfl
  have M_can_do : FnG P w K mg base 4 f_can_do _ ["book", "crowd"] (spD ⟨K, (gam C2 C8 C3 C9 C4 C7 C10 C0)⟩ 2 DL.m_can_do) := ((ok_can_do (P := P) (w := w) (base := base) T h_check_crowd h_moved h_places_of F_can_do)).told le_can_do
  have h_can_do_crowd_book : CalK (gam C2 C8 C3 C9 C4 C7 C10 C0) P w K mg base "can_do" 4 0 ["crowd", "book"] (fun ds es S => DL.m_can_do (pick [1, 0] (ds ++ es)) S) := CalK.fn (perm := [1, 0]) M_can_do (PySem.W.mg_of X G a_can_do) k_can_do (Fun.kb F_can_do (perm := [1, 0]) fun _ _ _ _ _ _ us ws hl h2 => match us, ws, hl, h2 with | [], [_, _], _, _ => rfl) rfl (by decide)
  have h_can_do : Cal (gam C2 C8 C3 C9 C4 C7 C10 C0) P w K mg base "can_do" 4 2 DL.m_can_do := .fn M_can_do (PySem.W.mg_of X G a_can_do) k_can_do b_can_do
  have F_done := fun_mk (st := s_done) l_done cddone k_done
  have b_done := F_done.binds (ps := ["book", "crowd", "rule"]) fun _ _ _ _ _ _ us hl => match us, hl with | [_, _, _], _ => rfl
  have M_done : FnG P w K mg base 4 f_done _ ["book", "crowd", "rule"] (spD ⟨K, (gam C2 C8 C3 C9 C4 C7 C10 C0)⟩ 3 DL.m_done) := ((ok_done (P := P) (w := w) (base := base) T h_check_crowd r_InvalidRule h_moved h_places_of r_NotAble F_done)).told le_done
  have h_done_rule_crowd_book : CalK (gam C2 C8 C3 C9 C4 C7 C10 C0) P w K mg base "done" 4 0 ["rule", "crowd", "book"] (fun ds es S => DL.m_done (pick [2, 1, 0] (ds ++ es)) S) := CalK.fn (perm := [2, 1, 0]) M_done (PySem.W.mg_of X G a_done) k_done (Fun.kb F_done (perm := [2, 1, 0]) fun _ _ _ _ _ _ us ws hl h2 => match us, ws, hl, h2 with | [], [_, _, _], _, _ => rfl) rfl (by decide)
  have h_done : Cal (gam C2 C8 C3 C9 C4 C7 C10 C0) P w K mg base "done" 4 3 DL.m_done := .fn M_done (PySem.W.mg_of X G a_done) k_done b_done
  have F__law_grown_right := fun_mk (st := s__law_grown_right) l__law_grown_right cd_law_grown_right k__law_grown_right
  have b__law_grown_right := F__law_grown_right.binds (ps := ["mill", "made", "plan", "herd"]) fun _ _ _ _ _ _ us hl => match us, hl with | [_, _, _, _], _ => rfl
  have M__law_grown_right : FnG P w K mg base 5 f__law_grown_right _ ["mill", "made", "plan", "herd"] (spD ⟨K, (gam C2 C8 C3 C9 C4 C7 C10 C0)⟩ 4 DL.m__law_grown_right) := ((ok__law_grown_right (P := P) (w := w) (base := base) T h__law_grind h__law_ranked h__law_turned_to h_can_do h_done F__law_grown_right)).told le__law_grown_right
  have h__law_grown_right : Cal (gam C2 C8 C3 C9 C4 C7 C10 C0) P w K mg base "_law_grown_right" 5 4 DL.m__law_grown_right := .fn M__law_grown_right (PySem.W.mg_of X G a__law_grown_right) k__law_grown_right b__law_grown_right
  have F_Book_eq := fun_mk (st := s_Book_eq) l_Book_eq cdBook_eq k_Book_eq
  have b_Book_eq := F_Book_eq.binds (ps := ["self", "other"]) fun _ _ _ _ _ _ us hl => match us, hl with | [_, _], _ => rfl
  have M_Book_eq : FnG P w K mg base 1 f_Book_eq _ ["self", "other"] (spD ⟨K, (gam C2 C8 C3 C9 C4 C7 C10 C0)⟩ 2 DL.m_Book_eq) := ((ok_Book_eq (P := P) (w := w) (base := base) T  F_Book_eq)).told le_Book_eq
  have o_Book_eq : Own (gam C2 C8 C3 C9 C4 C7 C10 C0) P w K mg base 0 "__eq__" 1 1 DL.m_Book_eq := ⟨f_Book_eq, _, _, ⟨pg_Book, hd_Book, po_Book, sa_Book⟩, ⟨a_Book_eq, i_Book_eq, k_Book_eq⟩, b_Book_eq, M_Book_eq⟩
  have h_Book_eq := (o_Book_eq).mth
  have F__law_right := fun_mk (st := s__law_right) l__law_right cd_law_right k__law_right
  have b__law_right := F__law_right.binds (ps := ["mill"]) fun _ _ _ _ _ _ us hl => match us, hl with | [_], _ => rfl
  have M__law_right : FnG P w K mg base 7 f__law_right _ ["mill"] (spD ⟨K, (gam C2 C8 C3 C9 C4 C7 C10 C0)⟩ 1 DL.m__law_right) := ((ok__law_right (P := P) (w := w) (base := base) T h__law_manual h__law_grind h__law_code h__law_herd h__law_ranked h__law_turned_to h_can_do h_can_do_crowd_book h_done h_done_rule_crowd_book h__law_grown_right o_Book_eq F__law_right)).told le__law_right
  have h__law_right : Cal (gam C2 C8 C3 C9 C4 C7 C10 C0) P w K mg base "_law_right" 7 1 DL.m__law_right := .fn M__law_right (PySem.W.mg_of X G a__law_right) k__law_right b__law_right
  have F_law := fun_mk (st := s_law) l_law cdlaw k_law
  have b_law := F_law.binds (ps := ["script"]) fun _ _ _ _ _ _ us hl => match us, hl with | [_], _ => rfl
  have M_law : FnG P w K mg base 8 fa _ ["script"] (spD ⟨K, (gam C2 C8 C3 C9 C4 C7 C10 C0)⟩ 1 DL.m_law) := ((ok_law (P := P) (w := w) (base := base) T h__law_mill h__law_right F_law)).told le_law
  have h_law : Cal (gam C2 C8 C3 C9 C4 C7 C10 C0) P w K mg base "law" 8 1 DL.m_law := .fn M_law (PySem.W.mg_of X G a_law) k_law b_law
  exact M_law
end DL

open PySem PySem.W PyProof.Rows in
set_option maxRecDepth 100000 in
set_option maxHeartbeats 0 in
theorem PySem.Challenge.cw_lookcrowd_k21_rules_that_can_be_done_holds : PySem.Challenge.rw_lookcrowd_k21_rules_that_can_be_done.Holds := by
  w_on; o_law; k_head; (case hw => w_witness2)
  k_fill
  refine DL.walkG (l := PySem.Challenge.rw_lookcrowd_k21_rules_that_can_be_done) (n := 63) (k := 8) (x := "script") (g := DL.m_law) rfl (by decide) rfl ⟨rfl, by decide, by decide⟩ (fun w h Y => PySem.W.kIn_of Y) ?F DL.law_true
  case F =>
    intro w mg fa h KX G hmg
    refine' DL.all_mk KX G hmg ?m_CrowdError ?m_InvalidName ?m_DoubleName ?m_InvalidRule ?m_DoubleRule ?m_InvalidCrowd ?m_NotAble ?m_Book ?n_range ?n_len ?n_max ?n_min ?n_abs ?n_int ?n_list ?c_LETTERS ?n_all ?n_any ?n_tuple ?n_sorted ?n_enumerate ?n_repr ?n_sum ?n_isinstance ?a__law_mill ?l__law_mill ?cd_law_mill ?k__law_mill ?a__law_grind ?l__law_grind ?cd_law_grind ?k__law_grind ?a__law_tribes ?l__law_tribes ?cd_law_tribes ?k__law_tribes ?a__law_manual ?l__law_manual ?cd_law_manual ?k__law_manual ?a_is_name ?l_is_name ?cdis_name ?k_is_name ?a_check_kinds ?l_check_kinds ?cdcheck_kinds ?k_check_kinds ?a_check_rule ?l_check_rule ?cdcheck_rule ?k_check_rule ?a_Book_init ?l_Book_init ?cdBook_init ?k_Book_init ?i_Book_init ?a__law_code ?l__law_code ?cd_law_code ?k__law_code ?a__law_herd ?l__law_herd ?cd_law_herd ?k__law_herd ?a__law_ranked ?l__law_ranked ?cd_law_ranked ?k__law_ranked ?a__law_turned_to ?l__law_turned_to ?cd_law_turned_to ?k__law_turned_to ?a_check_crowd ?l_check_crowd ?cdcheck_crowd ?k_check_crowd ?a_moved ?l_moved ?cdmoved ?k_moved ?a_places_of ?l_places_of ?cdplaces_of ?k_places_of ?a_can_do ?l_can_do ?cdcan_do ?k_can_do ?a_done ?l_done ?cddone ?k_done ?a__law_grown_right ?l__law_grown_right ?cd_law_grown_right ?k__law_grown_right ?a_Book_eq ?l_Book_eq ?cdBook_eq ?k_Book_eq ?i_Book_eq ?a__law_right ?l__law_right ?cd_law_right ?k__law_right ?a_law ?l_law ?cdlaw ?k_law ?pg_Book ?hd_Book ?po_Book ?sa_Book ?mk_Book ?kc_Book ?na_Book_kept_kinds ?na_Book_kept_rules ?ia_Book ?im_Book ?sp_class ?tk_class ?e_CrowdError ?l_err ?cderr ?k_err ?ty_err ?x_CrowdError ?xs_CrowdError ?xe_CrowdError ?xt_CrowdError ?xk_CrowdError ?xv_CrowdError ?x_InvalidName ?xs_InvalidName ?xe_InvalidName ?xt_InvalidName ?xk_InvalidName ?xv_InvalidName ?e_InvalidName ?x_DoubleName ?xs_DoubleName ?xe_DoubleName ?xt_DoubleName ?xk_DoubleName ?xv_DoubleName ?e_DoubleName ?x_InvalidRule ?xs_InvalidRule ?xe_InvalidRule ?xt_InvalidRule ?xk_InvalidRule ?xv_InvalidRule ?e_InvalidRule ?x_DoubleRule ?xs_DoubleRule ?xe_DoubleRule ?xt_DoubleRule ?xk_DoubleRule ?xv_DoubleRule ?e_DoubleRule ?x_InvalidCrowd ?xs_InvalidCrowd ?xe_InvalidCrowd ?xt_InvalidCrowd ?xk_InvalidCrowd ?xv_InvalidCrowd ?e_InvalidCrowd ?x_NotAble ?xs_NotAble ?xe_NotAble ?xt_NotAble ?xk_NotAble ?xv_NotAble ?e_NotAble
    (case m_CrowdError => first | k_is | rfl)
    (case m_InvalidName => first | k_is | rfl)
    (case m_DoubleName => first | k_is | rfl)
    (case m_InvalidRule => first | k_is | rfl)
    (case m_DoubleRule => first | k_is | rfl)
    (case m_InvalidCrowd => first | k_is | rfl)
    (case m_NotAble => first | k_is | rfl)
    (case m_Book => first | k_is | rfl)
    (case n_range => first | k_is | rfl)
    (case n_len => first | k_is | rfl)
    (case n_max => first | k_is | rfl)
    (case n_min => first | k_is | rfl)
    (case n_abs => first | k_is | rfl)
    (case n_int => first | k_is | rfl)
    (case n_list => first | k_is | rfl)
    (case c_LETTERS => first | k_is | rfl)
    (case n_all => first | k_is | rfl)
    (case n_any => first | k_is | rfl)
    (case n_tuple => first | k_is | rfl)
    (case n_sorted => first | k_is | rfl)
    (case n_enumerate => first | k_is | rfl)
    (case n_repr => first | k_is | rfl)
    (case n_sum => first | k_is | rfl)
    (case n_isinstance => first | k_is | rfl)
    (case a__law_mill => first | k_is | rfl)
    (case l__law_mill => first | k_is | rfl)
    (case cd_law_mill => first | k_is | rfl)
    (case k__law_mill => first | k_is | rfl)
    (case a__law_grind => first | k_is | rfl)
    (case l__law_grind => first | k_is | rfl)
    (case cd_law_grind => first | k_is | rfl)
    (case k__law_grind => first | k_is | rfl)
    (case a__law_tribes => first | k_is | rfl)
    (case l__law_tribes => first | k_is | rfl)
    (case cd_law_tribes => first | k_is | rfl)
    (case k__law_tribes => first | k_is | rfl)
    (case a__law_manual => first | k_is | rfl)
    (case l__law_manual => first | k_is | rfl)
    (case cd_law_manual => first | k_is | rfl)
    (case k__law_manual => first | k_is | rfl)
    (case a_is_name => first | k_is | rfl)
    (case l_is_name => first | k_is | rfl)
    (case cdis_name => first | k_is | rfl)
    (case k_is_name => first | k_is | rfl)
    (case a_check_kinds => first | k_is | rfl)
    (case l_check_kinds => first | k_is | rfl)
    (case cdcheck_kinds => first | k_is | rfl)
    (case k_check_kinds => first | k_is | rfl)
    (case a_check_rule => first | k_is | rfl)
    (case l_check_rule => first | k_is | rfl)
    (case cdcheck_rule => first | k_is | rfl)
    (case k_check_rule => first | k_is | rfl)
    (case a_Book_init => first | k_is | rfl)
    (case l_Book_init => first | k_is | rfl)
    (case cdBook_init => first | k_is | rfl)
    (case k_Book_init => first | k_is | rfl)
    (case i_Book_init => first | k_is | rfl)
    (case a__law_code => first | k_is | rfl)
    (case l__law_code => first | k_is | rfl)
    (case cd_law_code => first | k_is | rfl)
    (case k__law_code => first | k_is | rfl)
    (case a__law_herd => first | k_is | rfl)
    (case l__law_herd => first | k_is | rfl)
    (case cd_law_herd => first | k_is | rfl)
    (case k__law_herd => first | k_is | rfl)
    (case a__law_ranked => first | k_is | rfl)
    (case l__law_ranked => first | k_is | rfl)
    (case cd_law_ranked => first | k_is | rfl)
    (case k__law_ranked => first | k_is | rfl)
    (case a__law_turned_to => first | k_is | rfl)
    (case l__law_turned_to => first | k_is | rfl)
    (case cd_law_turned_to => first | k_is | rfl)
    (case k__law_turned_to => first | k_is | rfl)
    (case a_check_crowd => first | k_is | rfl)
    (case l_check_crowd => first | k_is | rfl)
    (case cdcheck_crowd => first | k_is | rfl)
    (case k_check_crowd => first | k_is | rfl)
    (case a_moved => first | k_is | rfl)
    (case l_moved => first | k_is | rfl)
    (case cdmoved => first | k_is | rfl)
    (case k_moved => first | k_is | rfl)
    (case a_places_of => first | k_is | rfl)
    (case l_places_of => first | k_is | rfl)
    (case cdplaces_of => first | k_is | rfl)
    (case k_places_of => first | k_is | rfl)
    (case a_can_do => first | k_is | rfl)
    (case l_can_do => first | k_is | rfl)
    (case cdcan_do => first | k_is | rfl)
    (case k_can_do => first | k_is | rfl)
    (case a_done => first | k_is | rfl)
    (case l_done => first | k_is | rfl)
    (case cddone => first | k_is | rfl)
    (case k_done => first | k_is | rfl)
    (case a__law_grown_right => first | k_is | rfl)
    (case l__law_grown_right => first | k_is | rfl)
    (case cd_law_grown_right => first | k_is | rfl)
    (case k__law_grown_right => first | k_is | rfl)
    (case a_Book_eq => first | k_is | rfl)
    (case l_Book_eq => first | k_is | rfl)
    (case cdBook_eq => first | k_is | rfl)
    (case k_Book_eq => first | k_is | rfl)
    (case i_Book_eq => first | k_is | rfl)
    (case a__law_right => first | k_is | rfl)
    (case l__law_right => first | k_is | rfl)
    (case cd_law_right => first | k_is | rfl)
    (case k__law_right => first | k_is | rfl)
    (case a_law => first | k_is | rfl)
    (case l_law => first | k_is | rfl)
    (case cdlaw => first | k_is | rfl)
    (case k_law => first | k_is | rfl)
    (case pg_Book => first | k_is | rfl)
    (case hd_Book => first | k_is | rfl)
    (case po_Book => first | k_is | rfl)
    (case sa_Book => first | k_is | rfl)
    (case mk_Book => first | k_is | rfl)
    (case kc_Book => first | k_is | rfl)
    (case na_Book_kept_kinds => first | k_is | rfl)
    (case na_Book_kept_rules => first | k_is | rfl)
    (case ia_Book => first | k_is | rfl)
    (case im_Book => first | k_is | rfl)
    (case sp_class => first | k_is | rfl)
    (case tk_class => first | k_is | rfl)
    (case e_CrowdError => first | k_is | rfl)
    (case l_err => first | k_is | rfl)
    (case cderr => first | k_is | rfl)
    (case k_err => first | k_is | rfl)
    (case ty_err => first | k_is | rfl)
    (case x_CrowdError => first | k_is | rfl)
    (case xs_CrowdError => first | k_is | rfl)
    (case xe_CrowdError => first | k_is | rfl)
    (case xt_CrowdError => first | k_is | rfl)
    (case xk_CrowdError => first | k_is | rfl)
    (case xv_CrowdError => first | k_is | rfl)
    (case x_InvalidName => first | k_is | rfl)
    (case xs_InvalidName => first | k_is | rfl)
    (case xe_InvalidName => first | k_is | rfl)
    (case xt_InvalidName => first | k_is | rfl)
    (case xk_InvalidName => first | k_is | rfl)
    (case xv_InvalidName => first | k_is | rfl)
    (case e_InvalidName => first | k_is | rfl)
    (case x_DoubleName => first | k_is | rfl)
    (case xs_DoubleName => first | k_is | rfl)
    (case xe_DoubleName => first | k_is | rfl)
    (case xt_DoubleName => first | k_is | rfl)
    (case xk_DoubleName => first | k_is | rfl)
    (case xv_DoubleName => first | k_is | rfl)
    (case e_DoubleName => first | k_is | rfl)
    (case x_InvalidRule => first | k_is | rfl)
    (case xs_InvalidRule => first | k_is | rfl)
    (case xe_InvalidRule => first | k_is | rfl)
    (case xt_InvalidRule => first | k_is | rfl)
    (case xk_InvalidRule => first | k_is | rfl)
    (case xv_InvalidRule => first | k_is | rfl)
    (case e_InvalidRule => first | k_is | rfl)
    (case x_DoubleRule => first | k_is | rfl)
    (case xs_DoubleRule => first | k_is | rfl)
    (case xe_DoubleRule => first | k_is | rfl)
    (case xt_DoubleRule => first | k_is | rfl)
    (case xk_DoubleRule => first | k_is | rfl)
    (case xv_DoubleRule => first | k_is | rfl)
    (case e_DoubleRule => first | k_is | rfl)
    (case x_InvalidCrowd => first | k_is | rfl)
    (case xs_InvalidCrowd => first | k_is | rfl)
    (case xe_InvalidCrowd => first | k_is | rfl)
    (case xt_InvalidCrowd => first | k_is | rfl)
    (case xk_InvalidCrowd => first | k_is | rfl)
    (case xv_InvalidCrowd => first | k_is | rfl)
    (case e_InvalidCrowd => first | k_is | rfl)
    (case x_NotAble => first | k_is | rfl)
    (case xs_NotAble => first | k_is | rfl)
    (case xe_NotAble => first | k_is | rfl)
    (case xt_NotAble => first | k_is | rfl)
    (case xk_NotAble => first | k_is | rfl)
    (case xv_NotAble => first | k_is | rfl)
    (case e_NotAble => first | k_is | rfl)
